/- What the law Tp needs, part 5 of 7: the abstract machine and the contracts of the functions. Conditions: as each theorem says. -/
import Derived.WalkKit
import Derived.Test.YtbdgmpfdlgnkkaaGreatTpP4
set_option linter.unusedVariables false
set_option linter.unusedSimpArgs false
namespace Go.Proofs.YtbdgmpfdlgnkkaaGreat.Had
abbrev Fo:=Nat→Int
abbrev Ve:=Nat→Int
def ev (w:Fo):Fo:=fun q=>w (2*q)
def od (w:Fo):Fo:=fun q=>w (2*q+1)
def tl (a:Ve):Ve:=fun k=>a (k+1)
def wg:Nat→Ve→Fo→Fo
  | 0,_,_=>fun _=>0
  | n+1,a,w=>fun m=>if m % 2=0 then wg n (tl a) (ev w) (m / 2) else a 0*ev w (m / 2) - wg n (tl a) (od w) (m / 2)
def it:Nat→Ve→Fo→Fo
  | 0,_,_=>fun _=>0
  | n+1,a,w=>fun m=>if m % 2=0 then it n (tl a) (ev w) (m / 2)+a 0*od w (m / 2) else - it n (tl a) (od w) (m / 2)
def cL:Nat→Ve→Ve→Int
  | 0,_,_=>0
  | n+1,a,b=>a 0*b 0+cL n (tl a) (tl b)
def iC:Nat→Fo→Fo→Int
  | 0,u,w=>u 0*w 0
  | n+1,u,w=>iC n (ev u) (ev w)+iC n (od u) (od w)
def dl (k:Nat):Ve:=fun j=>if j=k then 1 else 0
def sN:Fo:=fun m=>if m=0 then 1 else 0
theorem par (m:Nat):(∃ q,m=2*q)∨∃ q,m=2*q+1:=by
  by_cases h:m % 2=0
  · exact .inl ⟨m / 2,by omega⟩
  · exact .inr ⟨m / 2,by omega⟩
theorem kj (n:Nat) (a:Ve) (w:Fo) (q:Nat):wg (n+1) a w (2*q)=wg n (tl a) (ev w) q:=by
  simp only [wg];rw [if_pos (by omega),show 2*q / 2=q by omega]
theorem lj (n:Nat) (a:Ve) (w:Fo) (q:Nat):wg (n+1) a w (2*q+1)=a 0*ev w q - wg n (tl a) (od w) q:=by
  simp only [wg];rw [if_neg (by omega),show (2*q+1) / 2=q by omega]
theorem sy (n:Nat) (a:Ve) (w:Fo) (q:Nat):it (n+1) a w (2*q)=it n (tl a) (ev w) q+a 0*od w q:=by
  simp only [it];rw [if_pos (by omega),show 2*q / 2=q by omega]
theorem su (n:Nat) (a:Ve) (w:Fo) (q:Nat):it (n+1) a w (2*q+1) = - it n (tl a) (od w) q:=by
  simp only [it];rw [if_neg (by omega),show (2*q+1) / 2=q by omega]
theorem oI (n:Nat) (a:Ve) (w:Fo):ev (wg (n+1) a w)=wg n (tl a) (ev w):=funext fun q=>kj n a w q
theorem qT (n:Nat) (a:Ve) (w:Fo):od (wg (n+1) a w)=fun q=>a 0*ev w q+(-1)*wg n (tl a) (od w) q:=funext fun q=>by
  rw [show od (wg (n+1) a w) q=wg (n+1) a w (2*q+1) from rfl,lj];omega
theorem qM (n:Nat) (a:Ve) (w:Fo):ev (it (n+1) a w)=fun q=>1*it n (tl a) (ev w) q+a 0*od w q:=funext fun q=>by
  rw [show ev (it (n+1) a w) q=it (n+1) a w (2*q) from rfl,sy];omega
theorem oP (n:Nat) (a:Ve) (w:Fo):od (it (n+1) a w)=fun q=>(-1)*it n (tl a) (od w) q+0*od w q:=funext fun q=>by
  rw [show od (it (n+1) a w) q=it (n+1) a w (2*q+1) from rfl,su];omega
theorem kD (n:Nat):∀ (a:Ve) (x y:Int) (u v:Fo),wg n a (fun m=>x*u m+y*v m)=fun m=>x*wg n a u m+y*wg n a v m:=by
  induction n with
  | zero=>intro a x y u v;funext m;simp [wg]
  | succ n ih =>
    intro a x y u v
    funext m
    rcases par m with ⟨q,rfl⟩ | ⟨q,rfl⟩
    · rw [kj,kj,kj,show ev (fun m=>x*u m+y*v m)=fun m=>x*ev u m+y*ev v m from rfl,ih]
    · rw [lj,lj,lj,show od (fun m=>x*u m+y*v m)=fun m=>x*od u m+y*od v m from rfl,ih,show ev (fun m=>x*u m+y*v m) q=x*ev u q+y*ev v q from rfl]
      grind
theorem gH (n:Nat):∀ (a:Ve) (x y:Int) (u v:Fo),it n a (fun m=>x*u m+y*v m)=fun m=>x*it n a u m+y*it n a v m:=by
  induction n with
  | zero=>intro a x y u v;funext m;simp [it]
  | succ n ih =>
    intro a x y u v
    funext m
    rcases par m with ⟨q,rfl⟩ | ⟨q,rfl⟩
    · rw [sy,sy,sy,show ev (fun m=>x*u m+y*v m)=fun m=>x*ev u m+y*ev v m from rfl,ih,show od (fun m=>x*u m+y*v m) q=x*od u q+y*od v q from rfl]
      grind
    · rw [su,su,su,show od (fun m=>x*u m+y*v m)=fun m=>x*od u m+y*od v m from rfl,ih]
      grind
theorem eD (n:Nat):∀ (a b:Ve) (x y:Int) (u:Fo),wg n (fun k=>x*a k+y*b k) u=fun m=>x*wg n a u m+y*wg n b u m:=by
  induction n with
  | zero=>intro a b x y u;funext m;simp [wg]
  | succ n ih =>
    intro a b x y u
    funext m
    rcases par m with ⟨q,rfl⟩ | ⟨q,rfl⟩
    · rw [kj,kj,kj,show tl (fun k=>x*a k+y*b k)=fun k=>x*tl a k+y*tl b k from rfl,ih]
    · rw [lj,lj,lj,show tl (fun k=>x*a k+y*b k)=fun k=>x*tl a k+y*tl b k from rfl,ih]
      grind
theorem At (n:Nat):∀ (a b:Ve) (u:Fo),(∀ k,k<n→a k=b k)→wg n a u=wg n b u:=by
  induction n with
  | zero=>intro a b u _;rfl
  | succ n ih =>
    intro a b u h
    have h':=ih (tl a) (tl b)
    funext m
    rcases par m with ⟨q,rfl⟩ | ⟨q,rfl⟩
    · rw [kj,kj,h' (ev u) (fun k hk=>h (k+1) (by omega))]
    · rw [lj,lj,h' (od u) (fun k hk=>h (k+1) (by omega)),h 0 (by omega)]
theorem Cs (n:Nat) (a:Ve):wg n a (fun _=>0)=fun _=>0:=by
  have:=kD n a 0 0 (fun _=>0) (fun _=>0)
  simpa using this
theorem Gw (n:Nat) (a:Ve):it n a (fun _=>0)=fun _=>0:=by
  have:=gH n a 0 0 (fun _=>0) (fun _=>0)
  simpa using this
theorem Gr (n:Nat) (u:Fo):wg n (fun _=>0) u=fun _=>0:=by
  have:=eD n (fun _=>0) (fun _=>0) 0 0 u
  simpa using this
theorem vx (n:Nat):∀ (a b:Ve) (w:Fo),wg n a (wg n b w)=fun m=>- wg n b (wg n a w) m:=by
  induction n with
  | zero=>intro a b w;funext m;simp [wg]
  | succ n ih =>
    intro a b w
    funext m
    rcases par m with ⟨q,rfl⟩ | ⟨q,rfl⟩
    · rw [kj,kj,oI,oI,ih]
    · rw [lj,lj,oI,oI,qT,qT,kD,kD,ih]
      grind
theorem vZ (n:Nat):∀ (a b:Ve) (w:Fo),it n a (it n b w)=fun m=>- it n b (it n a w) m:=by
  induction n with
  | zero=>intro a b w;funext m;simp [it]
  | succ n ih =>
    intro a b w
    funext m
    rcases par m with ⟨q,rfl⟩ | ⟨q,rfl⟩
    · rw [sy,sy,qM,qM,oP,oP,gH,gH,ih]
      grind
    · rw [su,su,oP,oP,gH,gH,ih]
      grind
theorem Jz (n:Nat):∀ (v a:Ve) (w:Fo),it n v (wg n a w)=fun m=>cL n v a*w m+(-1)*wg n a (it n v w) m:=by
  induction n with
  | zero=>intro v a w;funext m;simp [wg,it,cL]
  | succ n ih =>
    intro v a w
    funext m
    rcases par m with ⟨q,rfl⟩ | ⟨q,rfl⟩
    · rw [sy,kj,oI,qT,qM,kD,ih]
      show _=cL (n+1) v a*ev w q+_
      simp only [cL]
      grind
    · rw [su,lj,qM,qT,oP,kD,gH,ih]
      show _=cL (n+1) v a*od w q+_
      simp only [cL]
      grind
theorem jY (n:Nat):∀ (x y:Int) (u v w:Fo),iC n (fun m=>x*u m+y*v m) w=x*iC n u w+y*iC n v w:=by
  induction n with
  | zero=>intro x y u v w;simp only [iC];grind
  | succ n ih =>
    intro x y u v w
    simp only [iC]
    rw [show ev (fun m=>x*u m+y*v m)=fun m=>x*ev u m+y*ev v m from rfl,show od (fun m=>x*u m+y*v m)=fun m=>x*od u m+y*od v m from rfl,ih,ih]
    grind
theorem dS (n:Nat):∀ (u w:Fo),iC n u w=iC n w u:=by
  induction n with
  | zero=>intro u w;simp only [iC];exact Int.mul_comm _ _
  | succ n ih=>intro u w;simp only [iC];rw [ih,ih (od u)]
theorem wn (n:Nat):∀ (a:Ve) (u w:Fo),iC n (wg n a u) w=iC n u (it n a w):=by
  induction n with
  | zero=>intro a u w;simp [iC,wg,it]
  | succ n ih =>
    intro a u w
    simp only [iC]
    rw [oI,qT,qM,oP,jY,ih,ih,dS n (ev u) (fun q=>1*it n (tl a) (ev w) q+a 0*od w q),jY,dS n (od u) (fun q=>(-1)*it n (tl a) (od w) q+0*od w q),jY,
      dS n (it n (tl a) (ev w)),dS n (it n (tl a) (od w)),dS n (od w) (ev u),dS n (od w) (od u)]
    grind
theorem ez (x:Int):0≤x*x:=by
  rcases Int.le_total 0 x with h | h
  · exact Int.mul_nonneg h h
  · have:=Int.mul_nonneg (show 0≤-x by omega) (show 0≤-x by omega)
    rwa [Int.neg_mul_neg] at this
theorem kx (n:Nat):∀ (u:Fo),0≤iC n u u:=by
  induction n with
  | zero=>intro u;simp only [iC];exact ez _
  | succ n ih=>intro u;simp only [iC];have:=ih (ev u);have:=ih (od u);omega
theorem Ed (n:Nat):∀ (u:Fo),u 0*u 0≤iC n u u:=by
  induction n with
  | zero=>intro u;simp only [iC];exact Int.le_refl _
  | succ n ih=>intro u;simp only [iC];have h1:=ih (ev u);have:=kx n (od u);rw [show ev u 0=u 0 from rfl] at h1;omega
theorem Gx (n:Nat) (a:Ve) (w:Fo):iC n (wg n a w) (wg n a w)+iC n (it n a w) (it n a w)=cL n a a*iC n w w:=by
  rw [wn,Jz,dS n w,jY,wn]
  grind
theorem CZ (n:Nat) (a:Ve) (w:Fo):iC n (wg n a w) (wg n a w)≤cL n a a*iC n w w:=by
  have:=Gx n a w;have:=kx n (it n a w);omega
theorem FL (n:Nat) (a:Ve) (w:Fo):iC n (it n a w) (it n a w)≤cL n a a*iC n w w:=by
  have:=Gx n a w;have:=kx n (wg n a w);omega
theorem D7 (n:Nat):∀ b:Ve,cL n (fun _=>0) b=0:=by
  induction n with
  | zero=>intro b;rfl
  | succ n ih=>intro b;simp only [cL];rw [show tl (fun _=>(0:Int))=fun _=>0 from rfl,ih];omega
theorem wo (n:Nat):∀ (k:Nat) (b:Ve),cL n (dl k) b=if k<n then b k else 0:=by
  induction n with
  | zero=>intro k b;simp [cL]
  | succ n ih =>
    intro k b
    simp only [cL]
    cases k with
    | zero =>
      rw [show tl (dl 0)=fun _=>0 from funext fun j=>by simp [tl,dl],D7]
      simp [dl]
    | succ k =>
      rw [show tl (dl (k+1))=dl k from funext fun j=>by simp [tl,dl],ih]
      by_cases h:k<n
      · rw [if_pos h,if_pos (by omega)];simp [dl,tl]
      · rw [if_neg h,if_neg (by omega)];simp [dl]
theorem jk (n k:Nat) (w:Fo):iC n (it n (dl k) w) (it n (dl k) w)≤iC n w w:=by
  have h:=FL n (dl k) w
  rw [wo] at h
  have:=kx n w
  by_cases hk:k<n
  · rw [if_pos hk,show dl k k=1 by simp [dl]] at h;omega
  · rw [if_neg hk] at h;omega
def Lin (l:Fo→Int):Prop:=∀ x y u v,l (fun m=>x*u m+y*v m)=x*l u+y*l v
def G0 (n:Nat) (W:Fo):Prop:=∀ l,Lin l→wg n (fun k=>l (it n (dl k) W)) W=fun _=>0
theorem Lin.zero {l:Fo→Int} (h:Lin l):l (fun _=>0)=0:=by
  have:=h 0 0 (fun _=>0) (fun _=>0)
  simpa using this
theorem Bm (n:Nat):∀ v:Ve,it n v sN=fun _=>0:=by
  induction n with
  | zero=>intro v;rfl
  | succ n ih =>
    intro v
    have he:ev sN=sN:=funext fun q=>by
      show (if 2*q=0 then (1:Int) else 0)=if q=0 then 1 else 0
      by_cases h:q=0
      · rw [if_pos h,if_pos (by omega)]
      · rw [if_neg h,if_neg (by omega)]
    have ho:od sN=fun _=>0:=funext fun q=>by simp [od,sN]
    funext m
    rcases par m with ⟨q,rfl⟩ | ⟨q,rfl⟩
    · rw [sy,he,ho,ih];simp
    · rw [su,ho,Gw];simp
theorem CK (n:Nat):G0 n sN:=by
  intro l hl
  rw [show (fun k=>l (it n (dl k) sN))=fun _=>0 from funext fun k=>by rw [Bm,hl.zero],Gr]
theorem F7 (n:Nat) (a:Ve) (w:Fo):wg n a (wg n a w)=fun _=>0:=by
  funext m
  have:=congrFun (vx n a a w) m
  omega
theorem j9 (n k:Nat) (a:Ve) (w:Fo):it n (dl k) (wg n a w)=fun m=>(if k<n then a k else 0)*w m+(-1)*wg n a (it n (dl k) w) m:=by
  rw [Jz,wo]
theorem Lin.wg {l:Fo→Int} (h:Lin l) (n:Nat) (a:Ve):Lin (fun u=>l (wg n a u)):=fun x y u v=>by
  show l (Had.wg n a _)=_
  rw [kD,h]
theorem Lin.it {l:Fo→Int} (h:Lin l) (n:Nat) (a:Ve):Lin (fun u=>l (it n a u)):=fun x y u v=>by
  show l (Had.it n a _)=_
  rw [gH,h]
theorem Lin.neg {l:Fo→Int} (h:Lin l):Lin (fun u=>- l u):=fun x y u v=>by
  show - l _=_
  rw [h];grind
theorem Eh {n:Nat} {W:Fo} (a:Ve) (h:G0 n W):G0 n (wg n a W):=by
  intro l hl
  have e:(fun k=>l (it n (dl k) (wg n a W)))=fun k=>l W*(if k<n then a k else 0)+(-1)*l (wg n a (it n (dl k) W)):=funext fun k=>by
    rw [j9,hl];grind
  rw [e,eD,At n (fun k=>if k<n then a k else 0) a _ (fun k hk=>by simp [hk]),F7,vx,h _ (hl.wg n a),Cs]
  simp
theorem GH {n r:Nat} {W:Fo} {F:Fo→Int} {p:Nat→Nat} (hl:Lin F) (kv:∀ v:Ve,(∀ j,j<r→v (p j)=0)→∀ Y,F (wg n v Y)=0) (hd:F W≠0)
    {v:Ve} (hz:wg n v W=fun _=>0) (hp:∀ j,j<r→v (p j)=0) {k:Nat} (hk:k<n):v k=0:=by
  have h:=congrArg (it n (dl k)) hz
  rw [Gw,j9,if_pos hk] at h
  have h2:=congrArg F h
  rw [hl.zero,hl,kv v hp] at h2
  have h3:v k*F W=0:=by omega
  rcases Int.mul_eq_zero.1 h3 with h4 | h4
  · exact h4
  · exact absurd h4 hd
end Go.Proofs.YtbdgmpfdlgnkkaaGreat.Had
namespace Go.Proofs.YtbdgmpfdlgnkkaaGreat.Had
structure LF (n:Nat) (l:Fo→Int):Prop where
  lin:Lin l
  bd:∀ u,l u*l u≤iC n u u
structure HI (n m:Nat) (B:Int) (a A:Nat→Ve) (r:Nat) (p:Nat→Nat) (d:Int) (W:Fo) (F:Fo→Int) (L:Nat→Fo→Int):Prop where
  rm:r≤m
  rows:∀ i,i<m→cL n (a i) (a i)≤B
  b0:0≤B
  dec:G0 n W
  lf:LF n F
  ll:∀ i,i<r→LF n (L i)
  pn:∀ j,j<r→p j<n
  k0:∀ j,j<r→∀ Y,F (it n (dl (p j)) Y)=0
  k1:∀ i j,i<r→j<r→∀ Y,L i (it n (dl (p j)) Y)=if i=j then F Y else 0
  kv:∀ v:Ve,(∀ j,j<r→v (p j)=0)→∀ Y,F (wg n v Y)=0
  dF:d=F W
  d0:d≠0
  piv:∀ i k,i<r→k<n→A i k=L i (it n (dl k) W)
  non:∀ i k,r≤i→i<m→k<n→A i k=F (it n (dl k) (wg n (a i) W))
  nw:iC n W W≤B ^ r
theorem EE (n:Nat):∀ (a:Ve) (w:Fo),wg n a w 0=0:=by
  induction n with
  | zero=>intro a w;rfl
  | succ n ih =>
    intro a w
    have:=kj n a w 0
    rw [show 2*0=0 from rfl] at this
    rw [this,ih]
theorem B0 (n:Nat):iC n sN sN=1:=by
  induction n with
  | zero=>rfl
  | succ n ih =>
    simp only [iC]
    rw [show ev sN=sN from funext fun q=>by
      show (if 2*q=0 then (1:Int) else 0)=if q=0 then 1 else 0
      by_cases h:q=0
      · rw [if_pos h,if_pos (by omega)]
      · rw [if_neg h,if_neg (by omega)],show od sN=fun _=>0 from funext fun q=>by simp [od,sN],ih]
    have:=jY n 0 0 (fun _=>0) (fun _=>0) (fun _=>0)
    simp at this
    rw [this];rfl
theorem HI.init {n m:Nat} {B:Int} {a:Nat→Ve} {p:Nat→Nat} (h0:0≤B) (hr:∀ i,i<m→cL n (a i) (a i)≤B) :
    HI n m B a a 0 p 1 sN (fun w=>w 0) (fun _ _=>0) where
  rm:=Nat.zero_le _
  rows:=hr
  b0:=h0
  dec:=CK n
  lf:=⟨fun x y u v=>rfl,Ed n⟩
  ll i hi:=absurd hi (Nat.not_lt_zero _)
  pn i hi:=absurd hi (Nat.not_lt_zero _)
  k0 i hi:=absurd hi (Nat.not_lt_zero _)
  k1 i j hi:=absurd hi (Nat.not_lt_zero _)
  kv v _ Y:=EE n v Y
  dF:=rfl
  d0:=by decide
  piv i k hi:=absurd hi (Nat.not_lt_zero _)
  non i k _ _ hk:=by
    show a i k=it n (dl k) (wg n (a i) sN) 0
    rw [j9,Bm,Cs,if_pos hk]
    simp [sN]
  nw:=by rw [B0];simp
section
variable {n m r:Nat} {B:Int} {a A:Nat→Ve} {p:Nat→Nat} {d:Int} {W:Fo} {F:Fo→Int} {L:Nat→Fo→Int}
theorem HI.bpiv (h:HI n m B a A r p d W F L) {i k:Nat} (hi:i<r) (hk:k<n):A i k*A i k≤B ^ r:=by
  rw [h.piv i k hi hk]
  exact Int.le_trans ((h.ll i hi).bd _) (Int.le_trans (jk n k W) h.nw)
theorem HI.bnon (h:HI n m B a A r p d W F L) {i k:Nat} (hi:r≤i) (hm:i<m) (hk:k<n):A i k*A i k≤B ^ (r+1):=by
  rw [h.non i k hi hm hk]
  refine Int.le_trans (h.lf.bd _) (Int.le_trans (jk n k _) (Int.le_trans (CZ n (a i) W) ?_))
  have h1:=h.rows i hm
  have h2:=kx n W
  have h3:=h.nw
  rw [Int.pow_succ,Int.mul_comm (B ^ r) B]
  exact Int.le_trans (Int.mul_le_mul_of_nonneg_right h1 h2) (Int.mul_le_mul_of_nonneg_left h3 h.b0)
theorem HI.bd (h:HI n m B a A r p d W F L):d*d≤B ^ r:=by
  rw [h.dF];exact Int.le_trans (h.lf.bd _) h.nw
theorem HI.at_p (h:HI n m B a A r p d W F L) {i j:Nat} (hi:i<r) (hj:j<r):A i (p j)=if i=j then d else 0:=by
  rw [h.piv i _ hi (h.pn j hj),h.k1 i j hi hj,h.dF]
def sw {α:Type} (a:Nat→α) (r s:Nat) (i:Nat):α:=if i=r then a s else if i=s then a r else a i
theorem HI.swap (h:HI n m B a A r p d W F L) {s:Nat} (hs:r≤s) (hm:s<m):HI n m B (sw a r s) (sw A r s) r p d W F L:=by
  have key:∀ i,i<m→r≤i→∃ j,r≤j∧j<m∧sw a r s i=a j∧sw A r s i=A j:=by
    intro i hi hr
    unfold sw
    by_cases h1:i=r
    · exact ⟨s,hs,hm,by rw [if_pos h1],by rw [if_pos h1]⟩
    · by_cases h2:i=s
      · exact ⟨r,Nat.le_refl _,by omega,by rw [if_neg h1,if_pos h2],by rw [if_neg h1,if_pos h2]⟩
      · exact ⟨i,hr,hi,by rw [if_neg h1,if_neg h2],by rw [if_neg h1,if_neg h2]⟩
  have low:∀ i,i<r→sw a r s i=a i∧sw A r s i=A i:=fun i hi=>by
    unfold sw;exact ⟨by rw [if_neg (by omega),if_neg (by omega)],by rw [if_neg (by omega),if_neg (by omega)]⟩
  refine { h with rows:=fun i hi=>?_,piv:=fun i k hi hk=>?_,non:=fun i k hr hi hk=>?_ }
  · by_cases hr:r≤i
    · obtain ⟨j,_,h2,h3,_⟩:=key i hi hr
      rw [h3];exact h.rows j h2
    · rw [(low i (by omega)).1];exact h.rows i hi
  · rw [(low i hi).2];exact h.piv i k hi hk
  · obtain ⟨j,h1,h2,h3,h4⟩:=key i hi hr
    rw [h3,h4];exact h.non j k h1 h2 hk
theorem HI.step (h:HI n m B a A r p d W F L) {c:Nat} (hr:r<m) (hc:c<n) (hx:A r c≠0) {A':Nat→Ve} (hA':∀ i k,i<m→k<n→A' i k =
      if i<r then - L i (it n (dl c) (it n (dl k) (wg n (a r) W))) else if i=r then A r k else F (it n (dl c) (it n (dl k) (wg n (a i) (wg n (a r) W))))) :
    HI n m B a A' (r+1) (fun j=>if j=r then c else p j) (A r c) (wg n (a r) W) (fun Y=>F (it n (dl c) Y)) (fun i Y=>if i=r then F Y else - L i (it n (dl c) Y)) where
  rm:=hr
  rows:=h.rows
  b0:=h.b0
  dec:=Eh (a r) h.dec
  lf:=⟨h.lf.lin.it n (dl c),fun u=>Int.le_trans (h.lf.bd _) (jk n c u)⟩
  ll i hi:=by
    by_cases hir:i=r
    · simp only [hir,if_true];exact h.lf
    · simp only [hir,if_false]
      exact ⟨((h.ll i (by omega)).lin.it n (dl c)).neg,fun u=>by rw [Int.neg_mul_neg];exact Int.le_trans ((h.ll i (by omega)).bd _) (jk n c u)⟩
  pn j hj:=by
    show (if j=r then c else p j)<n
    split
    · exact hc
    · exact h.pn j (by omega)
  k0 j hj Y:=by
    show F (it n (dl c) (it n (dl (if j=r then c else p j)) Y))=0
    split
    · have:=congrArg F (vZ n (dl c) (dl c) Y)
      rw [show (fun m=>- it n (dl c) (it n (dl c) Y) m)=fun m=>(-1)*it n (dl c) (it n (dl c) Y) m+0*0 from funext fun m=>by omega,h.lf.lin (-1) 0 _ (fun _=>0)] at this
      omega
    · rw [vZ,show (fun m=>- it n (dl (p j)) (it n (dl c) Y) m)=fun m=>(-1)*it n (dl (p j)) (it n (dl c) Y) m+0*0 from funext fun m=>by omega,h.lf.lin (-1) 0 _ (fun _=>0),h.k0 j (by omega)]
      omega
  k1 i j hi hj Y:=by
    show (if i=r then F (it n (dl (if j=r then c else p j)) Y) else - L i (it n (dl c) (it n (dl (if j=r then c else p j)) Y)))=if i=j then F (it n (dl c) Y) else 0
    by_cases hir:i=r
    · rw [if_pos hir]
      by_cases hjr:j=r
      · rw [if_pos hjr,if_pos (by omega)]
      · rw [if_neg hjr,if_neg (by omega),h.k0 j (by omega)]
    · rw [if_neg hir]
      have hl:=(h.ll i (by omega)).lin
      by_cases hjr:j=r
      · rw [if_pos hjr,if_neg (by omega)]
        have:=congrArg (L i) (vZ n (dl c) (dl c) Y)
        rw [show (fun m=>- it n (dl c) (it n (dl c) Y) m)=fun m=>(-1)*it n (dl c) (it n (dl c) Y) m+0*0 from funext fun m=>by omega,hl (-1) 0 _ (fun _=>0)] at this
        omega
      · rw [if_neg hjr,vZ,show (fun m=>- it n (dl (p j)) (it n (dl c) Y) m)=fun m=>(-1)*it n (dl (p j)) (it n (dl c) Y) m+0*0 from funext fun m=>by omega,hl (-1) 0 _ (fun _=>0),h.k1 i j (by omega) (by omega)]
        split<;>omega
  kv v hv Y:=by
    show F (it n (dl c) (wg n v Y))=0
    have h1:=hv r (by omega)
    simp only [if_true] at h1
    rw [j9,h.lf.lin,h.kv v (fun j hj=>by have:=hv j (by omega);simpa [show j≠r by omega] using this),if_pos hc,h1]
    omega
  dF:=h.non r c (Nat.le_refl _) hr hc
  d0:=hx
  piv i k hi hk:=by
    show A' i k=if i=r then F (it n (dl k) (wg n (a r) W)) else - L i (it n (dl c) (it n (dl k) (wg n (a r) W)))
    rw [hA' i k (by omega) hk]
    by_cases hir:i=r
    · subst hir
      rw [if_neg (Nat.lt_irrefl _),if_pos rfl,if_pos rfl];exact h.non i k (Nat.le_refl _) hr hk
    · rw [if_pos (show i<r by omega),if_neg hir]
  non i k hi hm hk:=by
    rw [hA' i k hm hk,if_neg (by omega),if_neg (by omega)]
  nw:=by
    have h1:=CZ n (a r) W
    have h2:=h.rows r hr
    have h3:=h.nw
    have h4:=kx n W
    rw [Int.pow_succ,Int.mul_comm (B ^ r) B]
    exact Int.le_trans h1 (Int.le_trans (Int.mul_le_mul_of_nonneg_right h2 h4) (Int.mul_le_mul_of_nonneg_left h3 h.b0))
theorem HI.ident (h:HI n m B a A r p d W F L) {c:Nat} (hr:r<m) (hc:c<n) (hx:A r c≠0) {A':Nat→Ve} (hA':∀ i k,i<m→k<n→A' i k =
      if i<r then - L i (it n (dl c) (it n (dl k) (wg n (a r) W))) else if i=r then A r k else F (it n (dl c) (it n (dl k) (wg n (a i) (wg n (a r) W)))))
    {i k:Nat} (him:i<m) (hir:i≠r) (hk:k<n):d*A' i k=A r c*A i k - A i c*A r k:=by
  have h':=h.step hr hc hx hA'
  let W':=wg n (a r) W
  let vr:Ve:=fun k=>F (it n (dl k) W')
  have zr:wg n vr W'=fun _=>0:=h'.dec F h.lf.lin
  by_cases hi:i<r
  · let X:Ve:=fun k=>- L i (it n (dl c) (it n (dl k) W'))
    let V:Ve:=fun k=>L i (it n (dl k) W)
    have zX:wg n X W'=fun _=>0:=h'.dec _ ((h.ll i hi).lin.it n (dl c)).neg
    have zV:wg n V W'=fun _=>0:=by
      show wg n V (wg n (a r) W)=_
      rw [vx,h.dec (L i) (h.ll i hi).lin,Cs];simp
    have e:=GH (v:=fun k=>1*(d*X k+(- A r c)*V k)+A i c*vr k) h'.lf.lin h'.kv (by rw [← h'.dF];exact hx)
      (by rw [eD,eD,zX,zV,zr];simp)
      (fun j hj=>by
        have e1:X (if j=r then c else p j)=if i=j then A r c else 0:=by
          have:=h'.k1 i j (by omega) hj W'
          simp only [if_neg hir] at this
          show - L i (it n (dl c) (it n (dl (if j=r then c else p j)) W'))=_
          rw [this]
          split
          · exact h'.dF.symm
          · rfl
        have e2:vr (if j=r then c else p j)=if j=r then A r c else 0:=by
          show F (it n (dl (if j=r then c else p j)) W')=_
          split
          · exact h'.dF.symm
          · exact h.k0 j (by omega) _
        have e3:V (if j=r then c else p j)=if j=r then A i c else if i=j then d else 0:=by
          show L i (it n (dl (if j=r then c else p j)) W)=_
          split
          · exact (h.piv i c hi hc).symm
          · rw [h.k1 i j hi (by omega),h.dF]
        show 1*(d*X (if j=r then c else p j)+(- A r c)*V (if j=r then c else p j))+A i c*vr (if j=r then c else p j)=0
        rw [e1,e2,e3]
        by_cases hj:j=r
        · rw [if_pos hj,if_pos hj,if_neg (by omega)];grind
        · rw [if_neg hj,if_neg hj]
          split<;>grind) hk
    have e1:A' i k=X k:=by rw [hA' i k him hk,if_pos hi]
    have e2:A i k=V k:=h.piv i k hi hk
    have e3:A r k=vr k:=h.non r k (Nat.le_refl _) hr hk
    rw [e1,e2,e3]
    have e:1*(d*X k+(- A r c)*V k)+A i c*vr k=0:=e
    grind
  · let X:Ve:=fun k=>F (it n (dl c) (it n (dl k) (wg n (a i) W')))
    let V:Ve:=fun k=>F (it n (dl k) (wg n (a i) W))
    let bb:Ve:=fun k=>if k<n then a i k else 0
    have zX:wg n X W'=fun m=>A r c*wg n bb W' m:=by
      have e0:X=fun k=>A r c*bb k+(-1)*F (it n (dl c) (wg n (a i) (it n (dl k) W'))):=funext fun k=>by
        show F (it n (dl c) (it n (dl k) (wg n (a i) W')))=_
        rw [j9,gH,h.lf.lin,show F (it n (dl c) W')=A r c from h'.dF.symm]
        show _=A r c*(if k<n then a i k else 0)+_
        grind
      rw [e0,eD,h'.dec _ ((h.lf.lin.it n (dl c)).wg n (a i))]
      funext q;simp
    have zV:wg n V W'=fun m=>d*wg n bb W' m:=by
      have e0:V=fun k=>d*bb k+(-1)*F (wg n (a i) (it n (dl k) W)):=funext fun k=>by
        show F (it n (dl k) (wg n (a i) W))=_
        rw [j9,h.lf.lin,← h.dF]
        show _=d*(if k<n then a i k else 0)+_
        grind
      have e1:wg n (fun k=>F (wg n (a i) (it n (dl k) W))) W'=fun _=>0:=by
        show wg n _ (wg n (a r) W)=_
        rw [vx,h.dec _ (h.lf.lin.wg n (a i)),Cs];simp
      rw [e0,eD,e1]
      funext q;simp
    have e:=GH (v:=fun k=>1*(d*X k+(- A r c)*V k)+A i c*vr k) h'.lf.lin h'.kv (by rw [← h'.dF];exact hx)
      (by rw [eD,eD,zX,zV,zr];funext q;grind)
      (fun j hj=>by
        have e1:X (if j=r then c else p j)=0:=h'.k0 j hj _
        have e2:vr (if j=r then c else p j)=if j=r then A r c else 0:=by
          show F (it n (dl (if j=r then c else p j)) W')=_
          split
          · exact h'.dF.symm
          · exact h.k0 j (by omega) _
        have e3:V (if j=r then c else p j)=if j=r then A i c else 0:=by
          show F (it n (dl (if j=r then c else p j)) (wg n (a i) W))=_
          split
          · exact (h.non i c (by omega) him hc).symm
          · exact h.k0 j (by omega) _
        show 1*(d*X (if j=r then c else p j)+(- A r c)*V (if j=r then c else p j))+A i c*vr (if j=r then c else p j)=0
        rw [e1,e2,e3]
        split<;>grind) hk
    have e1:A' i k=X k:=by rw [hA' i k him hk,if_neg hi,if_neg hir]
    have e2:A i k=V k:=h.non i k (by omega) him hk
    have e3:A r k=vr k:=h.non r k (Nat.le_refl _) hr hk
    rw [e1,e2,e3]
    have e:1*(d*X k+(- A r c)*V k)+A i c*vr k=0:=e
    grind
end
def Bar (n m:Nat) (B:Int) (A:Nat→Ve) (r:Nat) (p:Nat→Nat) (d:Int):Prop:=∃ a W F L,HI n m B a A r p d W F L
def el (A:Nat→Ve) (r c:Nat) (d:Int):Nat→Ve:=fun i k=>if i=r then A r k else (A r c*A i k - A i c*A r k).tdiv d
theorem Bar.elim {n m r:Nat} {B:Int} {A:Nat→Ve} {p:Nat→Nat} {d:Int} (h:Bar n m B A r p d) {c:Nat} (hr:r<m) (hc:c<n) (hx:A r c≠0) :
    Bar n m B (el A r c d) (r+1) (fun j=>if j=r then c else p j) (A r c)∧∀ i k,i<m→i≠r→k<n→d*el A r c d i k=A r c*A i k - A i c*A r k:=by
  obtain ⟨a,W,F,L,h⟩:=h
  let A':Nat→Ve:=fun i k=>if i<r then - L i (it n (dl c) (it n (dl k) (wg n (a r) W))) else if i=r then A r k else F (it n (dl c) (it n (dl k) (wg n (a i) (wg n (a r) W))))
  have hq:∀ i k,i<m→k<n→el A r c d i k=A' i k:=by
    intro i k hi hk
    unfold el
    by_cases hir:i=r
    · rw [if_pos hir]
      show _=if i<r then _ else if i=r then A r k else _
      rw [if_neg (by omega),if_pos hir]
    · rw [if_neg hir,← h.ident hr hc hx (A':=A') (fun i k _ _=>rfl) hi hir hk,Int.mul_tdiv_cancel_left _ h.d0]
  refine ⟨⟨a,_,_,_,h.step hr hc hx (fun i k hi hk=>(hq i k hi hk).trans rfl)⟩,fun i k hi hir hk=>?_⟩
  rw [hq i k hi hk]
  exact h.ident hr hc hx (fun i k _ _=>rfl) hi hir hk
theorem Bar.init {n m:Nat} {B:Int} {a:Nat→Ve} {p:Nat→Nat} (h0:0≤B) (hr:∀ i,i<m→cL n (a i) (a i)≤B):Bar n m B a 0 p 1:=⟨a,_,_,_,HI.init h0 hr⟩
theorem Bar.swap {n m r:Nat} {B:Int} {A:Nat→Ve} {p:Nat→Nat} {d:Int} (h:Bar n m B A r p d) {s:Nat} (hs:r≤s) (hm:s<m):Bar n m B (sw A r s) r p d:=by
  obtain ⟨a,W,F,L,h⟩:=h
  exact ⟨_,_,_,_,h.swap hs hm⟩
section
variable {n m r:Nat} {B:Int} {A:Nat→Ve} {p:Nat→Nat} {d:Int}
theorem Bar.rm (h:Bar n m B A r p d):r≤m:=by obtain ⟨a,W,F,L,h⟩:=h;exact h.rm
theorem Bar.d0 (h:Bar n m B A r p d):d≠0:=by obtain ⟨a,W,F,L,h⟩:=h;exact h.d0
theorem Bar.pn (h:Bar n m B A r p d) {j:Nat} (hj:j<r):p j<n:=by obtain ⟨a,W,F,L,h⟩:=h;exact h.pn j hj
theorem Bar.bd (h:Bar n m B A r p d):d*d≤B ^ r:=by obtain ⟨a,W,F,L,h⟩:=h;exact h.bd
theorem Bar.bpiv (h:Bar n m B A r p d) {i k:Nat} (hi:i<r) (hk:k<n):A i k*A i k≤B ^ r:=by obtain ⟨a,W,F,L,h⟩:=h;exact h.bpiv hi hk
theorem Bar.bnon (h:Bar n m B A r p d) {i k:Nat} (hi:r≤i) (hm:i<m) (hk:k<n):A i k*A i k≤B ^ (r+1):=by obtain ⟨a,W,F,L,h⟩:=h;exact h.bnon hi hm hk
theorem Bar.at_p (h:Bar n m B A r p d) {i j:Nat} (hi:i<r) (hj:j<r):A i (p j)=if i=j then d else 0:=by obtain ⟨a,W,F,L,h⟩:=h;exact h.at_p hi hj
end
end Go.Proofs.YtbdgmpfdlgnkkaaGreat.Had
namespace Go.Proofs.YtbdgmpfdlgnkkaaGreat.Had
structure RS where
  A:Nat→Ve
  r:Nat
  p:Nat→Nat
  d:Int
def fnd (A:Nat→Ve) (c m:Nat):Nat→Nat→Nat
  | 0,i=>i
  | f+1,i=>if i<m∧A i c=0 then fnd A c m f (i+1) else i
theorem fnd_ge (A:Nat→Ve) (c m:Nat):∀ f i,i≤fnd A c m f i
  | 0,i=>Nat.le_refl _
  | f+1,i=>by
    unfold fnd
    split
    · exact Nat.le_trans (Nat.le_succ i) (fnd_ge A c m f (i+1))
    · exact Nat.le_refl _
theorem fnd_le (A:Nat→Ve) (c m:Nat):∀ f i,i≤m→fnd A c m f i≤m
  | 0,i,h=>h
  | f+1,i,h=>by
    unfold fnd
    split
    · rename_i hh;exact fnd_le A c m f (i+1) hh.1
    · exact h
theorem fnd_zero (A:Nat→Ve) (c m:Nat):∀ f i j,i≤j→j<fnd A c m f i→A j c=0
  | 0,i,j,h1,h2=>by simp only [fnd] at h2;omega
  | f+1,i,j,h1,h2=>by
    unfold fnd at h2
    split at h2
    · rename_i hh
      by_cases hj:j=i
      · rw [hj];exact hh.2
      · exact fnd_zero A c m f (i+1) j (by omega) h2
    · omega
theorem fnd_hit (A:Nat→Ve) (c m:Nat):∀ f i,m≤i+f→fnd A c m f i<m→A (fnd A c m f i) c≠0
  | 0,i,h1,h2=>by simp only [fnd] at h2;omega
  | f+1,i,h1,h2=>by
    unfold fnd at h2 ⊢
    split
    · rename_i hh;rw [if_pos hh] at h2;exact fnd_hit A c m f (i+1) (by omega) h2
    · rename_i hh
      rw [if_neg hh] at h2
      intro h0;exact hh ⟨h2,h0⟩
def rstep (m c:Nat) (S:RS):RS :=
  if fnd S.A c m m S.r<m then ⟨el (sw S.A S.r (fnd S.A c m m S.r)) S.r c S.d,S.r+1,fun j=>if j=S.r then c else S.p j,S.A (fnd S.A c m m S.r) c⟩ else S
def rrun (m:Nat) (S:RS):Nat→RS
  | 0=>S
  | c+1=>rstep m c (rrun m S c)
def rini (A:Nat→Ve):RS:=⟨A,0,fun _=>0,1⟩
structure Tame (n m rmx:Nat) (K:Nat→Nat→(Nat→Ve)→Prop):Prop where
  skip:∀ c r A,c<n→K c r A→(∀ i,r≤i→i<m→A i c=0)→K (c+1) r A
  piv:∀ c r A q A' d,c<n→K c r A→r≤q→q<m→A q c≠0→d≠0→(∀ i k,i<m→i≠r→k<n→d*A' i k=sw A r q r c*sw A r q i k - sw A r q i c*sw A r q r k) →
    (∀ k,A' r k=sw A r q r k)→K (c+1) (r+1) A'∧r+1≤rmx
structure ROK (n m rmx:Nat) (B:Int) (K:Nat→Nat→(Nat→Ve)→Prop) (c:Nat) (S:RS):Prop where
  bar:Bar n m B S.A S.r S.p S.d
  k:K c S.r S.A
  r:S.r≤rmx
  rc:S.r≤c
  pc:∀ j,j<S.r→S.p j<c
  asc:∀ i j,i<j→j<S.r→S.p i<S.p j
theorem sw_at {α:Type} (a:Nat→α) (r s:Nat):sw a r s r=a s:=by unfold sw;rw [if_pos rfl]
theorem Ag {n m rmx:Nat} {B:Int} {K:Nat→Nat→(Nat→Ve)→Prop} (ht:Tame n m rmx K) {c:Nat} {S:RS} (h:ROK n m rmx B K c S) (hc:c<n):ROK n m rmx B K (c+1) (rstep m c S):=by
  have hrm:=h.bar.rm
  unfold rstep
  split
  · rename_i hf
    generalize hq:fnd S.A c m m S.r=q at hf ⊢
    have hge:S.r≤q:=by rw [← hq];exact fnd_ge S.A c m m S.r
    have hx:S.A q c≠0:=by rw [← hq];exact fnd_hit S.A c m m S.r (by omega) (by rw [hq];exact hf)
    have hb:=h.bar.swap hge hf
    have hx':sw S.A S.r q S.r c≠0:=by rw [sw_at];exact hx
    obtain ⟨b1,b2⟩:=hb.elim (by omega) hc hx'
    obtain ⟨k1,k2⟩:=ht.piv c S.r S.A q (el (sw S.A S.r q) S.r c S.d) S.d hc h.k hge hf hx h.bar.d0 b2 (fun k=>by simp [el])
    refine ⟨?_,k1,k2,Nat.succ_le_succ h.rc,fun j hj=>?_,fun i j hij hj=>?_⟩
    · have:S.A q c=sw S.A S.r q S.r c:=by rw [sw_at]
      show Bar n m B _ (S.r+1) _ (S.A q c)
      rw [this];exact b1
    · show (if j=S.r then c else S.p j)<c+1
      have hj:j<S.r+1:=hj
      split
      · omega
      · have:=h.pc j (by omega);omega
    · show (if i=S.r then c else S.p i)<(if j=S.r then c else S.p j)
      have hj:j<S.r+1:=hj
      rw [if_neg (by omega)]
      split
      · exact h.pc i (by omega)
      · exact h.asc i j hij (by omega)
  · rename_i hf
    have hfm:fnd S.A c m m S.r=m:=by have:=fnd_le S.A c m m S.r hrm;omega
    exact ⟨h.bar,ht.skip c S.r S.A hc h.k (fun i h1 h2=>fnd_zero S.A c m m S.r i h1 (by rw [hfm];exact h2)),h.r,by have:=h.rc;omega,fun j hj=>by have:=h.pc j hj;omega,h.asc⟩
theorem dq {n m rmx:Nat} {B:Int} {K:Nat→Nat→(Nat→Ve)→Prop} (ht:Tame n m rmx K) {A:Nat→Ve} (hb:0≤B) (hr:∀ i,i<m→cL n (A i) (A i)≤B) (hk:K 0 0 A) :
    ∀ c,c≤n→ROK n m rmx B K c (rrun m (rini A) c)
  | 0,_=>⟨Bar.init hb hr,hk,Nat.zero_le _,Nat.le_refl _,fun j hj=>absurd hj (Nat.not_lt_zero _),fun i j _ hj=>absurd hj (Nat.not_lt_zero _)⟩
  | c+1,h=>Ag ht (dq ht hb hr hk c (by omega)) (by omega)
theorem CS {x y:Int} (h0:0≤y) (h:y<x):y*y<x*x:=by
  have h1:=Int.mul_le_mul (show y+1≤x by omega) (show y+1≤x by omega) (by omega) (by omega)
  have:(y+1)*(y+1)=y*y+2*y+1:=by grind
  omega
theorem sq_le {x:Int} {y:Int} (h0:0≤y) (h:x*x≤y*y):-y≤x∧x≤y:=by
  refine ⟨?_,?_⟩
  · refine Int.not_lt.1 (fun hl=>?_)
    have:=CS h0 (show y < -x by omega)
    rw [Int.neg_mul_neg] at this
    omega
  · refine Int.not_lt.1 (fun hl=>?_)
    have:=CS h0 hl
    omega
theorem pow_mono {B:Int} (hB:1≤B) {i j:Nat} (h:i≤j):B ^ i≤B ^ j:=by
  induction j with
  | zero=>rw [show i=0 by omega];exact Int.le_refl _
  | succ j ih =>
    by_cases hij:i=j+1
    · rw [hij];exact Int.le_refl _
    · refine Int.le_trans (ih (by omega)) ?_
      rw [Int.pow_succ]
      have:=Int.pow_nonneg (n:=B) (m:=j) (by omega)
      have:=Int.mul_le_mul_of_nonneg_left hB this
      omega
theorem qK {B:Int} (hB:1≤B) (i:Nat):0≤B ^ i:=Int.pow_nonneg (by omega)
theorem prod_le {B:Int} (hB:1≤B) {rmx i j:Nat} (hM:B ^ (2*rmx)≤2 ^ 124) {x y:Int} (hx:x*x≤B ^ i) (hy:y*y≤B ^ j) (h:i+j≤2*rmx):-(2 ^ 62)≤x*y∧x*y≤2 ^ 62:=by
  refine sq_le (by decide) ?_
  have e:x*y*(x*y)=x*x*(y*y):=by grind
  rw [e]
  refine Int.le_trans (Int.le_trans (Int.mul_le_mul hx hy (ez y) (qK hB i)) ?_) (show B ^ (2*rmx)≤2 ^ 62*2 ^ 62 from hM)
  rw [← Int.pow_add]
  exact pow_mono hB h
end Go.Proofs.YtbdgmpfdlgnkkaaGreat.Had
namespace Go.Proofs.YtbdgmpfdlgnkkaaGreat.Had
def gcdn (v:Ve):Nat→Nat
  | 0=>0
  | n+1=>Nat.gcd (gcdn v n) (v n).natAbs
def fst0 (v:Ve):Nat→Int
  | 0=>0
  | n+1=>if fst0 v n=0 then v n else fst0 v n
def sgc (v:Ve) (n:Nat):Int:=if fst0 v n<0 then -(gcdn v n:Int) else (gcdn v n:Int)
def prm (n:Nat) (v:Ve):Ve:=fun k=>if gcdn v n=0 then v k else (v k).tdiv (sgc v n)
theorem nq (v:Ve):∀ n k,k<n→(gcdn v n:Int) ∣ v k
  | n+1,k,h=>by
    rw [gcdn]
    by_cases hk:k=n
    · subst hk
      exact Int.dvd_natAbs.1 (Int.ofNat_dvd.2 (Nat.gcd_dvd_right _ _))
    · exact Int.dvd_trans (Int.ofNat_dvd.2 (Nat.gcd_dvd_left _ _)) (nq v n k (by omega))
theorem sgc_dvd (v:Ve) (n:Nat) {k:Nat} (hk:k<n):sgc v n ∣ v k:=by
  unfold sgc
  split
  · exact Int.neg_dvd.2 (nq v n k hk)
  · exact nq v n k hk
theorem sgc_0 {v:Ve} {n:Nat} (h:gcdn v n≠0):sgc v n≠0:=by unfold sgc;split<;>omega
theorem qv (n:Nat) (v:Ve):∃ s:Int,s≠0∧∀ k,k<n→v k=s*prm n v k:=by
  by_cases h:gcdn v n=0
  · exact ⟨1,by decide,fun k hk=>by unfold prm;rw [if_pos h];omega⟩
  · exact ⟨sgc v n,sgc_0 h,fun k hk=>by unfold prm;rw [if_neg h,Int.mul_tdiv_cancel' (sgc_dvd v n hk)]⟩
theorem mul_abs_le {s x:Int} (hs:s≠0):x*x≤s*x*(s*x):=by
  have h1:1≤s*s:=by
    rcases Int.lt_or_gt_of_ne hs with h | h
    · have:=Int.mul_le_mul (show 1≤-s by omega) (show 1≤-s by omega) (by omega) (by omega)
      rw [Int.neg_mul_neg] at this;omega
    · have:=Int.mul_le_mul (show 1≤s by omega) (show 1≤s by omega) (by omega) (by omega)
      omega
  have h2:=Int.mul_le_mul_of_nonneg_right h1 (ez x)
  have e:s*x*(s*x)=s*s*(x*x):=by grind
  rw [e];omega
theorem EG {n:Nat} {v:Ve} {k:Nat} (hk:k<n):prm n v k*prm n v k≤v k*v k:=by
  obtain ⟨s,h1,h2⟩:=qv n v
  rw [h2 k hk]
  exact mul_abs_le h1
end Go.Proofs.YtbdgmpfdlgnkkaaGreat.Had
namespace Go.Proofs.YtbdgmpfdlgnkkaaGreat.Had
def eq (v:Ve) (t:Nat):Nat→Int
  | 0=>0
  | k+1=>eq v t k+(if k % 2=t then v k else 0)
theorem ny {u v w:Ve} {d x y:Int} {t:Nat}:∀ n,(∀ k,k<n→d*w k=x*u k - y*v k)→d*eq w t n=x*eq u t n - y*eq v t n
  | 0,_=>by simp [eq]
  | n+1,h=>by
    have h1:=ny (t:=t) n (fun k hk=>h k (by omega))
    have h2:=h n (by omega)
    simp only [eq]
    split<;>grind
theorem kh {v:Ve} {t:Nat}:∀ n,(∀ k,k<n→v k=0)→eq v t n=0
  | 0,_=>rfl
  | n+1,h=>by
    simp only [eq]
    rw [kh n (fun k hk=>h k (by omega)),h n (by omega)]
    split<;>omega
theorem kB {n m rmx:Nat} (hn:n≤rmx+2) (he:n % 2=0) :
    Tame n m rmx (fun c r A=>r≤c∧(∀ i,r≤i→i<m→∀ k,k<c→A i k=0)∧∀ i,i<m→∀ t,t<2→eq (A i) t n=0) where
  skip c r A hc hk hz:=⟨by omega,fun i h1 h2 k h3=>by
    by_cases hkc:k=c
    · rw [hkc];exact hz i h1 h2
    · exact hk.2.1 i h1 h2 k (by omega),hk.2.2⟩
  piv c r A q A' d hc hk hrq hqm hx hd hE hR:=by
    obtain ⟨k1,k2,k3⟩:=hk
    have hcn:c+2<n:=by
      refine Nat.not_le.1 (fun hle=>?_)
      have hs:=k3 q hqm (c % 2) (by omega)
      have hz:=k2 q hrq hqm
      have e:eq (A q) (c % 2) n=A q c:=by
        by_cases h1:n=c+1
        · subst h1
          simp only [eq,if_true]
          rw [kh c hz];omega
        · have h2:n=c+2:=by omega
          subst h2
          simp only [eq,if_true]
          rw [kh c hz,if_neg (by omega)];omega
      rw [e] at hs
      exact hx hs
    have sws:∀ i,i<m→∃ j,j<m∧sw A r q i=A j∧(r≤i→r≤j):=by
      intro i hi
      unfold sw
      by_cases h1:i=r
      · exact ⟨q,hqm,by rw [if_pos h1],fun _=>hrq⟩
      · by_cases h2:i=q
        · exact ⟨r,by omega,by rw [if_neg h1,if_pos h2],fun _=>Nat.le_refl _⟩
        · exact ⟨i,hi,by rw [if_neg h1,if_neg h2],fun h=>h⟩
    refine ⟨⟨by omega,fun i h1 h2 k h3=>?_,fun i hi t ht=>?_⟩,by omega⟩
    · have hE':=hE i k h2 (by omega) (by omega)
      obtain ⟨j,j1,j2,j3⟩:=sws i h2
      have j3:=j3 (by omega)
      rw [sw_at,j2] at hE'
      have:d*A' i k=0:=by
        rw [hE']
        by_cases hkc:k=c
        · subst hkc;grind
        · rw [k2 j j3 j1 k (by omega),k2 q hrq hqm k (by omega)];grind
      rcases Int.mul_eq_zero.1 this with h | h
      · exact absurd h hd
      · exact h
    · by_cases hir:i=r
      · subst hir
        have e:eq (A' i) t n=eq (A q) t n:=by
          have:=ny (u:=A q) (v:=A q) (w:=A' i) (d:=1) (x:=1) (y:=0) (t:=t) n (fun k hk=>by rw [hR k,sw_at];omega)
          omega
        rw [e];exact k3 q hqm t ht
      · obtain ⟨j,j1,j2,_⟩:=sws i hi
        have:=ny (t:=t) n (fun k hk=>by have:=hE i k hi hir hk;rw [sw_at,j2] at this;exact this)
        rw [k3 j j1 t ht,k3 q hqm t ht] at this
        have h0:d*eq (A' i) t n=0:=by rw [this];grind
        rcases Int.mul_eq_zero.1 h0 with h | h
        · exact absurd h hd
        · exact h
def rs (f:Nat→Int):Nat→Nat→Int
  | _,0=>0
  | lo,k+1=>f lo+rs f (lo+1) k
theorem dA {f g:Nat→Int}:∀ k lo,(∀ i,lo≤i→i<lo+k→f i=g i)→rs f lo k=rs g lo k
  | 0,_,_=>rfl
  | k+1,lo,h=>by
    rw [rs,rs,h lo (Nat.le_refl _) (by omega),dA k (lo+1) (fun i h1 h2=>h i (by omega) (by omega))]
theorem mg {f g h:Nat→Int} {d x y:Int}:∀ k lo,(∀ i,lo≤i→i<lo+k→d*h i=x*f i - y*g i)→d*rs h lo k=x*rs f lo k - y*rs g lo k
  | 0,_,_=>by simp [rs]
  | k+1,lo,hh=>by
    have h1:=mg k (lo+1) (fun i h1 h2=>hh i (by omega) (by omega))
    have h2:=hh lo (Nat.le_refl _) (by omega)
    rw [rs,rs,rs]
    grind
theorem dK {f:Nat→Int} (k lo:Nat) (h:∀ i,lo≤i→i<lo+k→f i=0):rs f lo k=0:=by
  have:=mg (f:=f) (g:=f) (h:=f) (d:=1) (x:=0) (y:=0) k lo (fun i h1 h2=>by rw [h i h1 h2];rfl)
  omega
def fI (f:Nat→Int) (q:Nat) (x:Int) (i:Nat):Int:=if i=q then x else f i
theorem fE (f:Nat→Int) (q:Nat) (x:Int):∀ k lo,rs (fI f q x) lo k=rs f lo k+(if lo≤q∧q<lo+k then x - f q else 0)
  | 0,lo=>by rw [rs,rs,if_neg (by omega)];rfl
  | k+1,lo=>by
    rw [rs,rs,fE f q x k (lo+1)]
    unfold fI
    by_cases h1:lo=q
    · rw [if_pos h1,if_neg (by omega),if_pos (by omega),h1];omega
    · rw [if_neg h1]
      by_cases h2:lo+1≤q∧q<lo+1+k
      · rw [if_pos h2,if_pos (by omega)];omega
      · rw [if_neg h2,if_neg (by omega)];omega
theorem Fp (f:Nat→Int) {r q k:Nat} (h1:r≤q) (h2:q<r+k):rs (sw f r q) r k=rs f r k:=by
  have e:sw f r q=fI (fI f q (f r)) r (f q):=funext fun i=>by unfold sw fI;split<;>rfl
  rw [e,fE,fE,if_pos (show r≤q∧q<r+k from ⟨h1,h2⟩),if_pos (show r≤r∧r<r+k from ⟨Nat.le_refl _,by omega⟩)]
  unfold fI
  split
  · rename_i h;rw [h];omega
  · omega
def Rel (n m:Nat) (a:Nat→Ve) (u:Nat→Int):Prop:=∀ k,k<n→rs (fun i=>u i*a i k) 0 m=0
def kP (X Y:Int) (px py:Nat→Int) (w:Nat):Int:=if w % 2=0 then Y - py (w / 2) else px (w / 2) - X
end Go.Proofs.YtbdgmpfdlgnkkaaGreat.Had
namespace Go.Proofs.YtbdgmpfdlgnkkaaGreat.Had
def rv (x y:Int) (A B:Nat):Ve:=fun w=>if w=2*A then x else if w=2*A+1 then y else if w=2*B then -x else if w=2*B+1 then -y else 0
theorem uv {x y:Int} {A B P:Nat} (hA:A<P) (hB:B<P) (hAB:A≠B) (f:Nat→Int) :
    rs (fun w=>f w*rv x y A B w) 0 (2*P)=f (2*A)*x+f (2*A+1)*y - f (2*B)*x - f (2*B+1)*y:=by
  have e:(fun w=>f w*rv x y A B w)=fI (fI (fI (fI (fun _=>0) (2*B+1) (-(f (2*B+1)*y))) (2*B) (-(f (2*B)*x))) (2*A+1) (f (2*A+1)*y)) (2*A) (f (2*A)*x):=funext fun w=>by
    unfold rv fI
    split
    · rename_i h;rw [h]
    · split
      · rename_i h;rw [h]
      · split
        · rename_i h;rw [h];grind
        · split
          · rename_i h;rw [h];grind
          · simp
  rw [e,fE,fE,fE,fE,dK _ _ (fun _ _ _=>rfl),if_pos (by omega),if_pos (by omega),if_pos (by omega),if_pos (by omega)]
  unfold fI
  rw [if_neg (show ¬ 2*B=2*B+1 by omega),if_neg (show ¬ 2*A+1=2*B by omega),if_neg (show ¬ 2*A+1=2*B+1 by omega),if_neg (show ¬ 2*A=2*A+1 by omega),if_neg (show ¬ 2*A=2*B by omega),if_neg (show ¬ 2*A=2*B+1 by omega)]
  dsimp only
  omega
theorem IE (x y:Int) (A B:Nat):rv x y A B (2*A)=x:=by unfold rv;rw [if_pos rfl]
theorem GM (x y:Int) (A B:Nat):rv x y A B (2*A+1)=y:=by unfold rv;rw [if_neg (by omega),if_pos rfl]
theorem Iw (x y:Int) {A B:Nat} (h:A≠B):rv x y A B (2*B) = -x:=by unfold rv;rw [if_neg (by omega),if_neg (by omega),if_pos rfl]
theorem Fi (x y:Int) {A B:Nat} (h:A≠B):rv x y A B (2*B+1) = -y:=by unfold rv;rw [if_neg (by omega),if_neg (by omega),if_neg (by omega),if_pos rfl]
theorem nr (f:Nat→Int):∀ k lo,rs f (lo+1) k=rs (fun i=>f (i+1)) lo k
  | 0,_=>rfl
  | k+1,lo=>by rw [rs,rs,nr f k (lo+1)]
theorem vR:∀ (n:Nat) (a b:Ve),cL n a b=rs (fun k=>a k*b k) 0 n
  | 0,_,_=>rfl
  | n+1,a,b=>by rw [cL,rs,nr,vR n];rfl
theorem dv (f:Nat→Int):∀ k lo,rs f lo (k+1)=rs f lo k+f (lo+k)
  | 0,lo=>by simp [rs]
  | k+1,lo=>by rw [rs,dv f k (lo+1),rs,show lo+1+k=lo+(k+1) by omega];omega
theorem vH (v:Ve) (t:Nat):∀ n,eq v t n=rs (fun k=>(if k % 2=t then 1 else 0)*v k) 0 n
  | 0=>rfl
  | n+1=>by
    rw [eq,dv,vH v t n,Nat.zero_add]
    by_cases h:n % 2=t
    · rw [if_pos h,if_pos h];omega
    · rw [if_neg h,if_neg h];omega
theorem Gp {x:Int} (h:-4≤x∧x≤4):x*x≤16:=by
  have h1:=ez (x - 4)
  have h3:=Int.mul_nonneg (show 0≤x+4 by omega) (show 0≤4 - x by omega)
  have e:(x+4)*(4 - x)=16 - x*x:=by grind
  omega
theorem BO {x y:Int} {A B P:Nat} (hA:A<P) (hB:B<P) (hAB:A≠B) (hx:-4≤x∧x≤4) (hy:-4≤y∧y≤4):cL (2*P) (rv x y A B) (rv x y A B)≤64:=by
  rw [vR,uv hA hB hAB,IE,GM,Iw _ _ hAB,Fi _ _ hAB]
  have:=Gp hx
  have:=Gp hy
  have e1:x*x+y*y - -x*x - -y*y=2*(x*x)+2*(y*y):=by grind
  omega
theorem CJ {x y:Int} {A B P:Nat} (hA:A<P) (hB:B<P) (hAB:A≠B) {t:Nat} (ht:t<2):eq (rv x y A B) t (2*P)=0:=by
  rw [vH,uv hA hB hAB (fun k=>if k % 2=t then 1 else 0)]
  by_cases h:t=0
  · rw [if_pos (by omega),if_neg (by omega),if_pos (by omega),if_neg (by omega)];omega
  · rw [if_neg (by omega),if_pos (by omega),if_neg (by omega),if_pos (by omega)];omega
structure Bars (P nb:Nat) (A B:Nat→Nat) (px py:Nat→Int):Prop where
  P6:P≤6
  ok:∀ k,k<nb→A k<B k∧B k<P
  asc:∀ k,k+1<nb→A k<A (k+1)∨A k=A (k+1)∧B k<B (k+1)
  gx:∀ v,v<P→0≤px v∧px v≤4
  gy:∀ v,v<P→0≤py v∧py v≤4
  ne:∀ k,k<nb→px (A k)≠px (B k)∨py (A k)≠py (B k)
def rg (A B:Nat→Nat) (px py:Nat→Int) (k:Nat):Ve:=rv (px (A k) - px (B k)) (py (A k) - py (B k)) (A k) (B k)
def tr (M:Nat→Ve) (w:Nat):Ve:=fun k=>M k w
section
variable {P nb:Nat} {A B:Nat→Nat} {px py:Nat→Int}
theorem Bars.norm (h:Bars P nb A B px py) {k:Nat} (hk:k<nb):cL (2*P) (rg A B px py k) (rg A B px py k)≤64:=by
  obtain ⟨h1,h2⟩:=h.ok k hk
  have a1:=h.gx (A k) (by omega)
  have a2:=h.gx (B k) h2
  have a3:=h.gy (A k) (by omega)
  have a4:=h.gy (B k) h2
  exact BO (by omega) h2 (by omega) (by omega) (by omega)
theorem Bars.sums (h:Bars P nb A B px py) {k:Nat} (hk:k<nb) {t:Nat} (ht:t<2):eq (rg A B px py k) t (2*P)=0:=by
  obtain ⟨h1,h2⟩:=h.ok k hk
  exact CJ (by omega) h2 (by omega) ht
theorem Bars.rel (h:Bars P nb A B px py) (u:Nat→Int) {k:Nat} (hk:k<nb):rs (fun w=>u w*tr (rg A B px py) w k) 0 (2*P) =
    u (2*A k)*(px (A k) - px (B k))+u (2*A k+1)*(py (A k) - py (B k)) - u (2*B k)*(px (A k) - px (B k)) - u (2*B k+1)*(py (A k) - py (B k)):=by
  obtain ⟨h1,h2⟩:=h.ok k hk
  exact uv (by omega) h2 (by omega) u
def I8 (A B:Nat→Nat) (v k:Nat):Prop:=A k=v∨B k=v
instance (A B:Nat→Nat) (v k:Nat):Decidable (I8 A B v k):=by unfold I8;exact inferInstance
def cnt (A B:Nat→Nat) (v:Nat):Nat→Nat
  | 0=>0
  | k+1=>cnt A B v k+if I8 A B v k then 1 else 0
theorem Bars.red (h:Bars P nb A B px py) (c:Nat) (hc:c≤2*P) :
    ROK (2*P) nb 10 64 (fun c r M=>r≤c∧(∀ i,r≤i→i<nb→∀ k,k<c→M i k=0)∧∀ i,i<nb→∀ t,t<2→eq (M i) t (2*P)=0) c (rrun nb (rini (rg A B px py)) c) :=
  dq (kB (by have:=h.P6;omega) (by omega)) (by decide) (fun i hi=>h.norm hi) ⟨Nat.le_refl _,fun i _ _ k hk=>absurd hk (Nat.not_lt_zero _),fun i hi t ht=>h.sums hi ht⟩ c hc
end
theorem big64:(64:Int) ^ (2*10)≤2 ^ 124:=by decide
end Go.Proofs.YtbdgmpfdlgnkkaaGreat.Had
namespace Go.Proofs.YtbdgmpfdlgnkkaaGreat.Had
def rwi (p:Nat→Nat):Nat→Nat→Int
  | 0,_=>-1
  | r+1,k=>if k=p r then (r:Int) else rwi p r k
theorem rwi_lt (p:Nat→Nat):∀ r k,-1≤rwi p r k∧rwi p r k<r
  | 0,k=>by unfold rwi;omega
  | r+1,k=>by
    unfold rwi
    split
    · omega
    · have:=rwi_lt p r k;omega
theorem oC (p:Nat→Nat):∀ r k,0≤rwi p r k→p (rwi p r k).toNat=k
  | 0,k,h=>by unfold rwi at h;omega
  | r+1,k,h=>by
    unfold rwi at h ⊢
    split
    · rename_i hk;rw [hk];rfl
    · rename_i hk;rw [if_neg hk] at h;exact oC p r k h
theorem uY (p:Nat→Nat):∀ r k,rwi p r k<0→∀ i,i<r→p i≠k
  | r+1,k,h,i,hi=>by
    unfold rwi at h
    split at h
    · omega
    · rename_i hk
      by_cases h1:i=r
      · rw [h1];exact fun e=>hk e.symm
      · exact uY p r k h i (by omega)
theorem tK {p:Nat→Nat} {r:Nat} (h:∀ i j,i<j→j<r→p i<p j) {i:Nat} (hi:i<r):rwi p r (p i)=i:=by
  have h1:=rwi_lt p r (p i)
  by_cases h0:0≤rwi p r (p i)
  · have h2:=oC p r (p i) h0
    rcases Nat.lt_trichotomy (rwi p r (p i)).toNat i with h3 | h3 | h3
    · have:=h _ _ h3 hi;omega
    · omega
    · have:=h _ _ h3 (by omega);omega
  · exact absurd rfl (uY p r (p i) (by omega) i hi)
def nvk (A:Nat→Ve) (r:Nat) (p:Nat→Nat) (d:Int) (c k:Nat):Ve:=fun j=>if j<k∧0≤rwi p r j then -(A (rwi p r j).toNat c) else if j=c then d else 0
def nsl (P:Nat→Bool) (vec:Nat→Ve):Nat→Nat×(Nat→Ve)
  | 0=>(0,fun _ _=>0)
  | c+1=>if P c=true then nsl P vec c else ((nsl P vec c).1+1,fun j=>if j<(nsl P vec c).1 then (nsl P vec c).2 j else vec c)
theorem nsl_le (P:Nat→Bool) (vec:Nat→Ve):∀ c,(nsl P vec c).1≤c
  | 0=>Nat.le_refl _
  | c+1=>by
    have:=nsl_le P vec c
    unfold nsl
    split
    · omega
    · show (nsl P vec c).1+1≤_;omega
theorem nsl_t {P:Nat→Bool} {vec:Nat→Ve} {c:Nat} (h:P c=true):nsl P vec (c+1)=nsl P vec c:=by rw [nsl,if_pos h]
theorem nsl_f {P:Nat→Bool} {vec:Nat→Ve} {c:Nat} (h:P c=false):nsl P vec (c+1)=((nsl P vec c).1+1,fun j=>if j<(nsl P vec c).1 then (nsl P vec c).2 j else vec c):=by
  rw [nsl,if_neg (by rw [h];exact Bool.false_ne_true)]
theorem lM {P:Nat→Bool} {vec:Nat→Ve}:∀ c j,j<(nsl P vec c).1→∃ k,k<c∧P k=false∧(nsl P vec c).2 j=vec k
  | 0,j,h=>absurd h (Nat.not_lt_zero _)
  | c+1,j,h=>by
    cases hp:P c with
    | true =>
      rw [nsl_t hp] at h ⊢
      obtain ⟨k,k1,k2,k3⟩:=lM c j h
      exact ⟨k,by omega,k2,k3⟩
    | false =>
      rw [nsl_f hp] at h ⊢
      have h:j<(nsl P vec c).1+1:=h
      show ∃ k,k<c+1∧P k=false∧(if j<(nsl P vec c).1 then (nsl P vec c).2 j else vec c)=vec k
      by_cases hj:j<(nsl P vec c).1
      · rw [if_pos hj]
        obtain ⟨k,k1,k2,k3⟩:=lM c j hj
        exact ⟨k,by omega,k2,k3⟩
      · rw [if_neg hj];exact ⟨c,by omega,hp,rfl⟩
def nulV (n:Nat) (S:RS) (c:Nat):Ve:=prm n (nvk S.A S.r S.p S.d c n)
def nulP (S:RS) (c:Nat):Bool:=decide (0≤rwi S.p S.r c)
def nul (n m:Nat) (M:Nat→Ve):Nat×(Nat→Ve):=nsl (nulP (rrun m (rini M) n)) (nulV n (rrun m (rini M) n)) n
end Go.Proofs.YtbdgmpfdlgnkkaaGreat.Had
namespace Go.Proofs.YtbdgmpfdlgnkkaaGreat.Had
def dt (a v:Ve):Nat→Int
  | 0=>0
  | n+1=>dt a v n+a n*v n
theorem lF {a b v w:Ve}:∀ {n:Nat},(∀ k,k<n→a k*v k=b k*w k)→dt a v n=dt b w n
  | 0,_=>rfl
  | n+1,h=>by rw [dt,dt,lF (fun k hk=>h k (by omega)),h n (by omega)]
theorem lQ {a b c v:Ve} {x y z:Int}:∀ (n:Nat),(∀ k,k<n→x*a k=y*b k+z*c k)→x*dt a v n=y*dt b v n+z*dt c v n
  | 0,_=>by simp [dt]
  | n+1,h=>by
    have h1:=lQ (v:=v) n (fun k hk=>h k (Nat.lt_succ_of_lt hk))
    have h2:=h n (Nat.lt_succ_self n)
    have h3:x*(a n*v n)=(y*b n+z*c n)*v n:=by rw [← h2];grind
    rw [dt,dt,dt,Int.mul_add,h1,h3];grind
theorem vV {a v w:Ve} {s:Int}:∀ {n:Nat},(∀ k,k<n→v k=s*w k)→dt a v n=s*dt a w n
  | 0,_=>by simp [dt]
  | n+1,h=>by
    rw [dt,dt,vV (fun k hk=>h k (by omega)),h n (by omega)];grind
theorem AL {a v:Ve} {i j:Nat} (hij:i≠j) {x y:Int}:∀ {n:Nat},(∀ k,k<n→a k*v k=(if k=i then x else 0)+if k=j then y else 0) →
    dt a v n=(if i<n then x else 0)+if j<n then y else 0
  | 0,_=>by simp [dt]
  | n+1,h=>by
    rw [dt,AL hij (fun k hk=>h k (by omega)),h n (by omega)]
    by_cases h1:n=i
    · rw [if_pos h1,if_neg (show ¬ n=j by omega),if_neg (show ¬ i<n by omega),if_pos (show i<n+1 by omega)]
      by_cases h2:j<n
      · rw [if_pos h2,if_pos (by omega)];omega
      · rw [if_neg h2,if_neg (by omega)];omega
    · rw [if_neg h1]
      by_cases h2:n=j
      · rw [if_pos h2,if_neg (show ¬ j<n by omega),if_pos (show j<n+1 by omega)]
        by_cases h3:i<n
        · rw [if_pos h3,if_pos (by omega)];omega
        · rw [if_neg h3,if_neg (by omega)];omega
      · rw [if_neg h2]
        by_cases h3:i<n
        · rw [if_pos h3,if_pos (show i<n+1 by omega)]
          by_cases h4:j<n
          · rw [if_pos h4,if_pos (by omega)];omega
          · rw [if_neg h4,if_neg (by omega)];omega
        · rw [if_neg h3,if_neg (show ¬ i<n+1 by omega)]
          by_cases h4:j<n
          · rw [if_pos h4,if_pos (by omega)];omega
          · rw [if_neg h4,if_neg (by omega)];omega
def GW (m c:Nat) (S:RS):Prop:=∀ i k,S.r≤i→i<m→k<c→S.A i k=0
section
variable {n m rmx:Nat} {B:Int} {K:Nat→Nat→(Nat→Ve)→Prop}
theorem yd (ht:Tame n m rmx K) {c:Nat} {S:RS} (h:ROK n m rmx B K c S) (hc:c<n) (hz:GW m c S):GW m (c+1) (rstep m c S):=by
  have hrm:=h.bar.rm
  unfold rstep
  split
  · rename_i hf
    generalize hq:fnd S.A c m m S.r=q at hf ⊢
    have hge:S.r≤q:=by rw [← hq];exact fnd_ge S.A c m m S.r
    have hx:S.A q c≠0:=by rw [← hq];exact fnd_hit S.A c m m S.r (by omega) (by rw [hq];exact hf)
    have hb:=h.bar.swap hge hf
    have hx':sw S.A S.r q S.r c≠0:=by rw [sw_at];exact hx
    obtain ⟨b1,b2⟩:=hb.elim (by omega) hc hx'
    intro i k hi him hk
    have hi:S.r+1≤i:=hi
    show el (sw S.A S.r q) S.r c S.d i k=0
    have e:=b2 i k him (by omega) (by omega)
    have key:∀ i,S.r≤i→i<m→k<c→sw S.A S.r q i k=0:=by
      intro i h1 h2 h3
      unfold sw
      by_cases g1:i=S.r
      · rw [if_pos g1];exact hz q k hge hf h3
      · rw [if_neg g1]
        by_cases g2:i=q
        · rw [if_pos g2];exact hz S.r k (Nat.le_refl _) (by omega) h3
        · rw [if_neg g2];exact hz i k h1 h2 h3
    have e0:sw S.A S.r q S.r c*sw S.A S.r q i k - sw S.A S.r q i c*sw S.A S.r q S.r k=0:=by
      by_cases hkc:k<c
      · rw [key i (by omega) him hkc,key S.r (Nat.le_refl _) (by omega) hkc];simp
      · rw [show k=c by omega,Int.mul_comm];omega
    rw [e0] at e
    rcases Int.mul_eq_zero.1 e with h1 | h1
    · exact absurd h1 hb.d0
    · exact h1
  · rename_i hf
    have hfm:fnd S.A c m m S.r=m:=by have:=fnd_le S.A c m m S.r hrm;omega
    intro i k hi him hk
    by_cases hkc:k<c
    · exact hz i k hi him hkc
    · rw [show k=c by omega];exact fnd_zero S.A c m m S.r i hi (by rw [hfm];exact him)
theorem xw (ht:Tame n m rmx K) {c:Nat} {S:RS} (h:ROK n m rmx B K c S) (hc:c<n) {v:Ve} (hv:∀ i,i<m→dt ((rstep m c S).A i) v n=0):∀ i,i<m→dt (S.A i) v n=0:=by
  have hrm:=h.bar.rm
  unfold rstep at hv
  split at hv
  · rename_i hf
    generalize hq:fnd S.A c m m S.r=q at hf hv
    have hge:S.r≤q:=by rw [← hq];exact fnd_ge S.A c m m S.r
    have hx:S.A q c≠0:=by rw [← hq];exact fnd_hit S.A c m m S.r (by omega) (by rw [hq];exact hf)
    have hb:=h.bar.swap hge hf
    have hx':sw S.A S.r q S.r c≠0:=by rw [sw_at];exact hx
    obtain ⟨b1,b2⟩:=hb.elim (by omega) hc hx'
    have hv:∀ i,i<m→dt (el (sw S.A S.r q) S.r c S.d i) v n=0:=hv
    have hr:dt (sw S.A S.r q S.r) v n=0:=by
      rw [← hv S.r (by omega)]
      exact lF (fun k _=>by unfold el;rw [if_pos rfl])
    have hs:∀ i,i<m→dt (sw S.A S.r q i) v n=0:=by
      intro i hi
      by_cases hir:i=S.r
      · rw [hir];exact hr
      · have e:=lQ (a:=el (sw S.A S.r q) S.r c S.d i) (b:=sw S.A S.r q i) (c:=sw S.A S.r q S.r) (v:=v) (x:=S.d) (y:=sw S.A S.r q S.r c) (z:=- sw S.A S.r q i c) n
          (fun k hk=>by rw [b2 i k hi hir hk];grind)
        rw [hv i hi,hr,Int.mul_zero,Int.mul_zero,Int.add_zero] at e
        rcases Int.mul_eq_zero.1 e.symm with e | e
        · exact absurd e hx'
        · exact e
    intro i hi
    by_cases g1:i=S.r
    · by_cases g2:S.r=q
      · have:=hs S.r (by omega)
        rw [sw_at,← g2] at this
        rw [g1];exact this
      · have:=hs q hf
        unfold sw at this
        rw [if_neg (fun e=>g2 e.symm),if_pos rfl] at this
        rw [g1];exact this
    · by_cases g2:i=q
      · have:=hs S.r (by omega)
        rw [sw_at] at this
        rw [g2];exact this
      · have:=hs i hi
        unfold sw at this
        rw [if_neg g1,if_neg g2] at this
        exact this
  · exact hv
theorem q8 (ht:Tame n m rmx K) {A:Nat→Ve} (hb:0≤B) (hr:∀ i,i<m→cL n (A i) (A i)≤B) (hk:K 0 0 A):∀ c,c≤n→GW m c (rrun m (rini A) c)
  | 0,_=>fun i k _ _ h=>absurd h (Nat.not_lt_zero _)
  | c+1,h=>yd ht (dq ht hb hr hk c (by omega)) (by omega) (q8 ht hb hr hk c (by omega))
theorem qV (ht:Tame n m rmx K) {A:Nat→Ve} (hb:0≤B) (hr:∀ i,i<m→cL n (A i) (A i)≤B) (hk:K 0 0 A) {v:Ve}:∀ c,c≤n→(∀ i,i<m→dt ((rrun m (rini A) c).A i) v n=0)→∀ i,i<m→dt (A i) v n=0
  | 0,_,h=>h
  | c+1,h,hv=>qV ht hb hr hk c (by omega) (xw ht (dq ht hb hr hk c (by omega)) (by omega) hv)
theorem BR {S:RS} (h:ROK n m rmx B K n S) (hz:GW m n S) {c:Nat} (hc:c<n) (hf:rwi S.p S.r c<0):∀ i,i<m→dt (S.A i) (nvk S.A S.r S.p S.d c n) n=0:=by
  intro i hi
  by_cases hir:i<S.r
  · have hpc:S.p i≠c:=uY S.p S.r c hf i hir
    have hpn:=h.bar.pn hir
    rw [AL (i:=S.p i) (j:=c) hpc (x:=-(S.A i c)*S.d) (y:=S.A i c*S.d) (fun k hk=>?_),if_pos hpn,if_pos hc]
    · grind
    · unfold nvk
      by_cases h0:0≤rwi S.p S.r k
      · have e:=oC S.p S.r k h0
        have hl:=(rwi_lt S.p S.r k).2
        have hkc:k≠c:=fun e=>by rw [e] at h0;omega
        rw [if_pos ⟨hk,h0⟩,if_neg hkc]
        by_cases hji:(rwi S.p S.r k).toNat=i
        · rw [hji] at e ⊢
          rw [if_pos e.symm,← e,h.bar.at_p hir hir,if_pos rfl];grind
        · have hjr:(rwi S.p S.r k).toNat<S.r:=by omega
          have hki:k≠S.p i:=fun e'=>by
            have:=tK h.asc hir
            rw [← e'] at this
            omega
          have h2:=h.bar.at_p hir hjr
          rw [e,if_neg (fun e'=>hji e'.symm)] at h2
          rw [if_neg hki,h2];simp
      · rw [if_neg (fun h'=>h0 h'.2)]
        have hki:k≠S.p i:=fun e=>by rw [e,tK h.asc hir] at h0;omega
        rw [if_neg hki]
        by_cases hkc:k=c
        · rw [if_pos hkc,if_pos hkc,hkc];omega
        · rw [if_neg hkc,if_neg hkc];omega
  · rw [lF (b:=fun _=>0) (w:=fun _=>0) (fun k hk=>by rw [hz i k (by omega) hi hk];simp)]
    have:∀ n,dt (fun _=>0) (fun _=>0) n=0:=by
      intro n
      induction n with
      | zero=>rfl
      | succ n ih=>rw [dt,ih];rfl
    exact this n
theorem vp (ht:Tame n m rmx K) {A:Nat→Ve} (hb:0≤B) (hr:∀ i,i<m→cL n (A i) (A i)≤B) (hk:K 0 0 A) {j:Nat} (hj:j<(nul n m A).1):∀ i,i<m→dt (A i) ((nul n m A).2 j) n=0:=by
  obtain ⟨c,c1,c2,c3⟩:=lM n j hj
  have hf:rwi (rrun m (rini A) n).p (rrun m (rini A) n).r c<0:=by
    have:=c2
    unfold nulP at this
    have:=of_decide_eq_false this
    omega
  have hend:=BR (dq ht hb hr hk n (Nat.le_refl _)) (q8 ht hb hr hk n (Nat.le_refl _)) c1 hf
  have hker:=qV ht hb hr hk (v:=nvk (rrun m (rini A) n).A (rrun m (rini A) n).r (rrun m (rini A) n).p (rrun m (rini A) n).d c n) n (Nat.le_refl _) hend
  intro i hi
  have e:(nul n m A).2 j=nulV n (rrun m (rini A) n) c:=c3
  rw [e]
  obtain ⟨s,s1,s2⟩:=qv n (nvk (rrun m (rini A) n).A (rrun m (rini A) n).r (rrun m (rini A) n).p (rrun m (rini A) n).d c n)
  have h1:=hker i hi
  rw [vV (s:=s) (w:=nulV n (rrun m (rini A) n) c) s2] at h1
  rcases Int.mul_eq_zero.1 h1 with h | h
  · exact absurd h s1
  · exact h
end
end Go.Proofs.YtbdgmpfdlgnkkaaGreat.Had
namespace Go.Proofs.YtbdgmpfdlgnkkaaGreat.Had
theorem Cr {n m rmx:Nat} {B:Int} {K:Nat→Nat→(Nat→Ve)→Prop} {S:RS} (hB:1≤B) (ok:ROK n m rmx B K n S) {c:Nat} (hc:c<n) (k j:Nat) :
    nvk S.A S.r S.p S.d c k j*nvk S.A S.r S.p S.d c k j≤B ^ rmx:=by
  have hp:B ^ S.r≤B ^ rmx:=pow_mono hB ok.r
  have h0:(0:Int)≤B ^ rmx:=qK hB rmx
  unfold nvk
  split
  · rename_i h
    have:=rwi_lt S.p S.r j
    rw [Int.neg_mul_neg]
    exact Int.le_trans (ok.bar.bpiv (by omega) hc) hp
  · split
    · exact Int.le_trans ok.bar.bd hp
    · omega
theorem Em {n m rmx:Nat} {B:Int} {K:Nat→Nat→(Nat→Ve)→Prop} {A:Nat→Ve} (hB:1≤B) (ok:ROK n m rmx B K n (rrun m (rini A) n)) {j:Nat} (hj:j<(nul n m A).1) {k:Nat} (hk:k<n) :
    (nul n m A).2 j k*(nul n m A).2 j k≤B ^ rmx:=by
  obtain ⟨c,c1,_,c3⟩:=lM n j hj
  have e:(nul n m A).2 j=nulV n (rrun m (rini A) n) c:=c3
  rw [e]
  exact Int.le_trans (EG hk) (Cr hB ok c1 n k)
theorem fS (a v:Ve):∀ n,dt a v n=rs (fun k=>v k*a k) 0 n
  | 0=>rfl
  | n+1=>by rw [dt,fS a v n,dv,Nat.zero_add,Int.mul_comm (a n)]
section
variable {P nb:Nat} {A B:Nat→Nat} {px py:Nat→Int}
theorem Bars.ker (h:Bars P nb A B px py) {j:Nat} (hj:j<(nul (2*P) nb (rg A B px py)).1) {k:Nat} (hk:k<nb) :
    (px (A k) - px (B k))*((nul (2*P) nb (rg A B px py)).2 j (2*A k) - (nul (2*P) nb (rg A B px py)).2 j (2*B k)) +
      (py (A k) - py (B k))*((nul (2*P) nb (rg A B px py)).2 j (2*A k+1) - (nul (2*P) nb (rg A B px py)).2 j (2*B k+1))=0:=by
  have hk1:=vp (rmx:=10) (B:=64) (kB (m:=nb) (by have:=h.P6;omega) (by omega)) (by decide) (A:=rg A B px py) (fun i hi=>h.norm hi)
    ⟨Nat.le_refl _,fun i _ _ k hk=>absurd hk (Nat.not_lt_zero _),fun i hi t ht=>h.sums hi ht⟩ hj k hk
  rw [fS] at hk1
  have e:=h.rel ((nul (2*P) nb (rg A B px py)).2 j) hk
  have hk1:rs (fun w=>(nul (2*P) nb (rg A B px py)).2 j w*tr (rg A B px py) w k) 0 (2*P)=0:=hk1
  rw [hk1] at e
  generalize (nul (2*P) nb (rg A B px py)).2 j=v at *
  grind
theorem Bars.mo_small (h:Bars P nb A B px py) {j:Nat} (hj:j<(nul (2*P) nb (rg A B px py)).1) {k:Nat} (hk:k<2*P) :
    -1073741824≤(nul (2*P) nb (rg A B px py)).2 j k∧(nul (2*P) nb (rg A B px py)).2 j k≤1073741824:=by
  refine sq_le (by decide) ?_
  refine Int.le_trans (Em (rmx:=10) (B:=64) (by decide) (h.red (2*P) (Nat.le_refl _)) hj hk) (by decide)
end
end Go.Proofs.YtbdgmpfdlgnkkaaGreat.Had
namespace Go.Proofs.YtbdgmpfdlgnkkaaGreat.Had
theorem DF {f g h:Nat→Int} (k lo:Nat) (hh:∀ i,lo≤i→i<lo+k→h i=f i+g i):rs h lo k=rs f lo k+rs g lo k:=by
  have:=mg (f:=f) (g:=g) (h:=h) (d:=1) (x:=1) (y:=-1) k lo (fun i h1 h2=>by rw [hh i h1 h2];omega)
  omega
theorem up {f h:Nat→Int} {s:Int} (k lo:Nat) (hh:∀ i,lo≤i→i<lo+k→h i=s*f i):rs h lo k=s*rs f lo k:=by
  have:=mg (f:=f) (g:=f) (h:=h) (d:=1) (x:=s) (y:=0) k lo (fun i h1 h2=>by rw [hh i h1 h2];omega)
  omega
theorem kl {f:Nat→Int} {q k:Nat} (hq:q<k) (h:∀ i,i<k→i≠q→f i=0):rs f 0 k=f q:=by
  have h1:=fE f q 0 k 0
  rw [if_pos (by omega)] at h1
  have h2:rs (fI f q 0) 0 k=0:=dK k 0 (fun i _ hi=>by
    unfold fI
    by_cases e:i=q
    · rw [if_pos e]
    · rw [if_neg e];exact h i (by omega) e)
  omega
theorem wj {c:Nat→Int} {a:Nat→Ve} {v:Ve} {k:Nat}:∀ n,rs (fun i=>c i*dt (a i) v n) 0 k=dt (fun j=>rs (fun i=>c i*a i j) 0 k) v n
  | 0=>dK k 0 (fun i _ _=>by simp [dt])
  | n+1=>by
    have ih:=wj (c:=c) (a:=a) (v:=v) (k:=k) n
    rw [dt,← ih,Int.mul_comm,← up (f:=fun i=>c i*a i n) (h:=fun i=>v n*(c i*a i n)) (s:=v n) k 0 (fun i _ _=>rfl)]
    refine DF k 0 (fun i _ _=>?_)
    show c i*(dt (a i) v n+a i n*v n)=c i*dt (a i) v n+v n*(c i*a i n)
    grind
theorem lr:∀ (n k:Nat),n<k→∀ v:Nat→Ve,∃ c:Nat→Int,(∃ i,i<k∧c i≠0)∧∀ j,j<n→rs (fun i=>c i*v i j) 0 k=0
  | 0,k,h,v=>⟨fun _=>1,⟨0,h,by decide⟩,fun j hj=>absurd hj (Nat.not_lt_zero _)⟩
  | n+1,k,h,v=>by
    by_cases hz:∀ i,i<k→v i n=0
    · obtain ⟨c,h1,h2⟩:=lr n k (by omega) v
      refine ⟨c,h1,fun j hj=>?_⟩
      by_cases e:j<n
      · exact h2 j e
      · have:j=n:=by omega
        subst this
        exact dK k 0 (fun i _ hi=>by rw [hz i (by omega)];simp)
    · obtain ⟨q,hq,hv⟩:∃ q,q<k∧v q n≠0:=by
        refine Classical.byContradiction fun hn=>hz fun i hi=>?_
        refine Classical.byContradiction fun h0=>hn ⟨i,hi,h0⟩
      obtain ⟨k',rfl⟩:∃ k',k=k'+1:=⟨k - 1,by omega⟩
      obtain ⟨u,hu⟩:∃ u,u=sw v 0 q:=⟨_,rfl⟩
      have hu0:u 0 n≠0:=by rw [hu,sw_at];exact hv
      obtain ⟨c',⟨t,ht,hct⟩,h2⟩:=lr n k' (by omega) (fun i j=>u 0 n*u (i+1) j - u (i+1) n*u 0 j)
      obtain ⟨d,hd0,hd⟩:∃ d:Nat→Int,d 0 = -(rs (fun i=>c' i*u (i+1) n) 0 k')∧∀ i,d (i+1)=u 0 n*c' i :=
        ⟨fun i=>match i with | 0=>-(rs (fun i=>c' i*u (i+1) n) 0 k') | i+1=>u 0 n*c' i,rfl,fun _=>rfl⟩
      have hsum:∀ j,j<n+1→rs (fun i=>d i*u i j) 0 (k'+1)=0:=fun j hj=>by
        rw [rs,nr,hd0]
        have e1:rs (fun i=>d (i+1)*u (i+1) j) 0 k'=u 0 n*rs (fun i=>c' i*u (i+1) j) 0 k':=up k' 0 (fun i _ _=>by rw [hd];grind)
        rw [e1]
        by_cases e:j<n
        · have h3:=h2 j e
          have e2:=mg (f:=fun i=>c' i*u (i+1) j) (g:=fun i=>c' i*u (i+1) n) (h:=fun i=>c' i*(u 0 n*u (i+1) j - u (i+1) n*u 0 j)) (d:=1) (x:=u 0 n) (y:=u 0 j) k' 0 (fun i _ _=>by grind)
          rw [h3] at e2
          grind
        · have:j=n:=by omega
          subst this
          grind
      refine ⟨sw d 0 q,?_,fun j hj=>?_⟩
      · have hp:d (t+1)≠0:=by
          rw [hd]
          intro h0
          rcases Int.mul_eq_zero.1 h0 with h0 | h0
          · exact hu0 h0
          · exact hct h0
        by_cases e:t+1=q
        · refine ⟨0,by omega,?_⟩
          rw [sw_at,← e];exact hp
        · refine ⟨t+1,by omega,?_⟩
          unfold sw
          rw [if_neg (by omega),if_neg e];exact hp
      · rw [← hsum j hj,← Fp (fun i=>d i*u i j) (Nat.zero_le q) (by omega)]
        refine dA _ _ (fun i _ _=>?_)
        rw [hu]
        unfold sw
        dsimp only
        by_cases e0:i=0
        · rw [if_pos e0,if_pos e0]
          by_cases e1:q=0
          · rw [if_pos e1,e0,e1]
          · rw [if_neg e1,if_pos rfl,e0]
        · rw [if_neg e0,if_neg e0]
          by_cases e1:i=q
          · rw [if_pos e1,if_pos e1,if_pos rfl,e1]
          · rw [if_neg e1,if_neg e1];rw [if_neg e0,if_neg e1]
section
variable {n m rmx:Nat} {B:Int} {K:Nat→Nat→(Nat→Ve)→Prop}
theorem yn {c:Nat} {S:RS} (h:ROK n m rmx B K c S) (hc:c<n) {v:Ve} (hv:∀ i,i<m→dt (S.A i) v n=0):∀ i,i<m→dt ((rstep m c S).A i) v n=0:=by
  have hrm:=h.bar.rm
  unfold rstep
  split
  · rename_i hf
    generalize hq:fnd S.A c m m S.r=q at hf
    have hge:S.r≤q:=by rw [← hq];exact fnd_ge S.A c m m S.r
    have hx:S.A q c≠0:=by rw [← hq];exact fnd_hit S.A c m m S.r (by omega) (by rw [hq];exact hf)
    have hb:=h.bar.swap hge hf
    have hx':sw S.A S.r q S.r c≠0:=by rw [sw_at];exact hx
    obtain ⟨b1,b2⟩:=hb.elim (by omega) hc hx'
    have hs:∀ i,i<m→dt (sw S.A S.r q i) v n=0:=fun i hi=>by
      unfold sw
      split
      · exact hv q hf
      · split
        · exact hv S.r (by omega)
        · exact hv i hi
    intro i hi
    show dt (el (sw S.A S.r q) S.r c S.d i) v n=0
    by_cases hir:i=S.r
    · rw [hir]
      have:dt (el (sw S.A S.r q) S.r c S.d S.r) v n=dt (sw S.A S.r q S.r) v n:=lF (fun k _=>by unfold el;rw [if_pos rfl])
      rw [this]
      exact hs S.r (by omega)
    · have e:=lQ (a:=el (sw S.A S.r q) S.r c S.d i) (b:=sw S.A S.r q i) (c:=sw S.A S.r q S.r) (v:=v) (x:=S.d) (y:=sw S.A S.r q S.r c) (z:=- sw S.A S.r q i c) n
        (fun k hk=>by rw [b2 i k hi hir hk];grind)
      rw [hs i hi,hs S.r (by omega),Int.mul_zero,Int.mul_zero,Int.add_zero] at e
      rcases Int.mul_eq_zero.1 e with e | e
      · exact absurd e h.bar.d0
      · exact e
  · exact hv
theorem nB (ht:Tame n m rmx K) {A:Nat→Ve} (hb:0≤B) (hr:∀ i,i<m→cL n (A i) (A i)≤B) (hk:K 0 0 A) {v:Ve} (hv:∀ i,i<m→dt (A i) v n=0):∀ c,c≤n→∀ i,i<m→dt ((rrun m (rini A) c).A i) v n=0
  | 0,_=>hv
  | c+1,h=>yn (dq ht hb hr hk c (by omega)) (by omega) (nB ht hb hr hk hv c (by omega))
end
def Fw (M:Nat→Ve) (n k:Nat) (s:Nat→Nat):Prop:=∀ c:Nat→Int,(∀ j,j<n→rs (fun i=>c i*M (s i) j) 0 k=0)→∀ i,i<k→c i=0
theorem v9 (M:Nat→Ve) (n:Nat):∀ m,∃ (k:Nat) (s:Nat→Nat),(∀ i,i<k→s i<m)∧(∀ i j,i<j→j<k→s i<s j)∧Fw M n k s∧∀ v,(∀ i,i<k→dt (M (s i)) v n=0)→∀ i,i<m→dt (M i) v n=0
  | 0=>⟨0,fun _=>0,fun i hi=>absurd hi (Nat.not_lt_zero _),fun i j _ hj=>absurd hj (Nat.not_lt_zero _),fun c _ i hi=>absurd hi (Nat.not_lt_zero _),fun v _ i hi=>absurd hi (Nat.not_lt_zero _)⟩
  | m+1=>by
    obtain ⟨k,s,h1,h2,h3,h4⟩:=v9 M n m
    obtain ⟨s',hs1,hs2⟩:∃ s':Nat→Nat,(∀ i,i<k→s' i=s i)∧s' k=m:=⟨fun i=>if i=k then m else s i,fun i hi=>if_neg (by omega),if_pos rfl⟩
    by_cases hi:Fw M n (k+1) s'
    · refine ⟨k+1,s',fun i h=>?_,fun i j hij hj=>?_,hi,fun v hv i him=>?_⟩
      · by_cases e:i=k
        · rw [e,hs2];omega
        · rw [hs1 i (by omega)];have:=h1 i (by omega);omega
      · rw [hs1 i (by omega)]
        by_cases e:j=k
        · rw [e,hs2];exact h1 i (by omega)
        · rw [hs1 j (by omega)];exact h2 i j hij (by omega)
      · by_cases e:i=m
        · have:=hv k (by omega)
          rw [hs2] at this
          rw [e];exact this
        · refine h4 v (fun t ht=>?_) i (by omega)
          have:=hv t (by omega)
          rw [hs1 t ht] at this
          exact this
    · refine ⟨k,s,fun i h=>by have:=h1 i h;omega,h2,h3,fun v hv i him=>?_⟩
      by_cases e:i=m
      · subst e
        unfold Fw at hi
        obtain ⟨c,hc1,t,ht,hc2⟩:∃ c:Nat→Int,(∀ j,j<n→rs (fun i=>c i*M (s' i) j) 0 (k+1)=0)∧∃ t,t<k+1∧c t≠0:=by
          refine Classical.byContradiction fun hn=>hi fun c hc t ht=>?_
          refine Classical.byContradiction fun h0=>hn ⟨c,hc,t,ht,h0⟩
        have hsp:∀ j,rs (fun i=>c i*M (s' i) j) 0 (k+1)=rs (fun i=>c i*M (s i) j) 0 k+c k*M i j:=fun j=>by
          rw [dv,Nat.zero_add,hs2]
          congr 1
          exact dA _ _ (fun t _ ht=>by rw [hs1 t (by omega)])
        have hk0:c k≠0:=fun h0=>by
          have:=h3 c (fun j hj=>by
            have:=hc1 j hj
            rw [hsp,h0,Int.zero_mul,Int.add_zero] at this
            exact this)
          by_cases e:t=k
          · rw [e] at hc2;exact hc2 h0
          · exact hc2 (this t (by omega))
        have h5:=wj (c:=c) (a:=fun i=>M (s i)) (v:=v) (k:=k) n
        rw [dK k 0 (fun t _ ht=>by rw [hv t (by omega)];simp)] at h5
        have h6:=lQ (a:=M i) (b:=fun j=>rs (fun t=>c t*M (s t) j) 0 k) (c:=fun _=>0) (v:=v) (x:=c k) (y:=-1) (z:=0) n (fun j hj=>by
          have:=hc1 j hj
          rw [hsp] at this
          omega)
        rw [← h5,Int.mul_zero,Int.zero_mul,Int.add_zero] at h6
        rcases Int.mul_eq_zero.1 h6 with h | h
        · exact absurd h hk0
        · exact h
      · exact h4 v hv i (by omega)
def xM (p:Nat→Nat) (c:Nat→Int):Nat→Ve
  | 0=>fun _=>0
  | r+1=>fI (xM p c r) (p r) (c r)
theorem Am {p:Nat→Nat} {c:Nat→Int} {w:Nat}:∀ r,(∀ i,i<r→p i≠w)→xM p c r w=0
  | 0,_=>rfl
  | r+1,h=>by
    have ih:=Am (c:=c) r (fun i hi=>h i (by omega))
    simp only [xM,fI]
    rw [if_neg (fun e=>h r (by omega) e.symm)];exact ih
theorem qf {p:Nat→Nat} {c:Nat→Int} {a:Ve} {n:Nat}:∀ r,(∀ i,i<r→p i<n)→(∀ i j,i<j→j<r→p i<p j)→dt a (xM p c r) n=rs (fun i=>c i*a (p i)) 0 r
  | 0,_,_=>by
    rw [fS]
    exact dK n 0 (fun i _ _=>by simp [xM])
  | r+1,h1,h2=>by
    have ih:=qf (c:=c) (a:=a) (n:=n) r (fun i hi=>h1 i (by omega)) (fun i j hij hj=>h2 i j hij (by omega))
    rw [fS] at ih ⊢
    have h0:xM p c r (p r)=0:=Am r (fun i hi=>by have:=h2 i r hi (by omega);omega)
    have e:rs (fun k=>xM p c (r+1) k*a k) 0 n=rs (fI (fun k=>xM p c r k*a k) (p r) (c r*a (p r))) 0 n:=dA _ _ (fun k _ _=>by
      simp only [xM,fI]
      by_cases e:k=p r
      · rw [if_pos e,if_pos e,e]
      · rw [if_neg e,if_neg e])
    rw [e,fE,if_pos ⟨Nat.zero_le _,by have:=h1 r (by omega);omega⟩,ih,dv,Nat.zero_add,h0]
    omega
section
variable {n m rmx:Nat} {B:Int} {K:Nat→Nat→(Nat→Ve)→Prop}
theorem y6 (ht:Tame n m rmx K) {A:Nat→Ve} (hb:0≤B) (hr:∀ i,i<m→cL n (A i) (A i)≤B) (hk:K 0 0 A) :
    ∃ (k:Nat) (s:Nat→Nat),(rrun m (rini A) n).r≤k∧(∀ i,i<k→s i<m)∧(∀ i j,i<j→j<k→s i<s j)∧Fw A n k s:=by
  obtain ⟨k,s,h1,h2,h3,h4⟩:=v9 A n m
  have ok:=dq ht hb hr hk n (Nat.le_refl _)
  have fw:=fun v hv=>nB ht hb hr hk (v:=v) hv n (Nat.le_refl _)
  generalize rrun m (rini A) n=S at *
  refine ⟨k,s,Nat.not_lt.1 (fun hlt=>?_),h1,h2,h3⟩
  obtain ⟨c,⟨t,ht',hc⟩,hz⟩:=lr k S.r hlt (fun i j=>A (s j) (S.p i))
  have hpn:∀ i,i<S.r→S.p i<n:=fun i hi=>ok.bar.pn hi
  have hv:∀ i,i<k→dt (A (s i)) (xM S.p c S.r) n=0:=fun i hi=>by
    rw [qf S.r hpn ok.asc];exact hz i hi
  have hf:=fw _ (h4 _ hv) t (by have:=ok.bar.rm;omega)
  rw [qf S.r hpn ok.asc,kl ht' (fun i hi hne=>by rw [ok.bar.at_p ht' hi,if_neg (fun e=>hne e.symm)];simp),ok.bar.at_p ht' ht',if_pos rfl] at hf
  rcases Int.mul_eq_zero.1 hf with h | h
  · exact hc h
  · exact ok.bar.d0 h
theorem z7 (ht:Tame n m rmx K) {A:Nat→Ve} (hb:0≤B) (hr:∀ i,i<m→cL n (A i) (A i)≤B) (hk:K 0 0 A) {v:Ve} (hv:∀ i,i<m→dt (A i) v n=0)
    (h0:∀ c,c<n→nulP (rrun m (rini A) n) c=false→v c=0):∀ w,w<n→v w=0:=by
  have ok:=dq ht hb hr hk n (Nat.le_refl _)
  have fw:=nB ht hb hr hk (v:=v) hv n (Nat.le_refl _)
  generalize rrun m (rini A) n=S at *
  intro w hw
  cases hp:nulP S w with
  | false=>exact h0 w hw hp
  | true =>
    unfold nulP at hp
    have hp:=of_decide_eq_true hp
    have e:=oC S.p S.r w hp
    have hl:=(rwi_lt S.p S.r w).2
    have hi:(rwi S.p S.r w).toNat<S.r:=by omega
    generalize (rwi S.p S.r w).toNat=i at e hi
    have h1:=fw i (by have:=ok.bar.rm;omega)
    rw [fS,kl hw (fun k hk hne=>by
      cases hq:nulP S k with
      | false=>rw [h0 k hk hq];simp
      | true =>
        unfold nulP at hq
        have hq:=of_decide_eq_true hq
        have e':=oC S.p S.r k hq
        have hl':=(rwi_lt S.p S.r k).2
        have hj:(rwi S.p S.r k).toNat<S.r:=by omega
        generalize (rwi S.p S.r k).toNat=j at e' hj
        have:=ok.bar.at_p hi hj
        rw [e',if_neg (fun h=>hne (by rw [← e',← h,e]))] at this
        rw [this];simp)] at h1
    have h2:=ok.bar.at_p hi hi
    rw [e,if_pos rfl] at h2
    rw [h2] at h1
    rcases Int.mul_eq_zero.1 h1 with h | h
    · exact h
    · exact absurd h ok.bar.d0
end
theorem nt {P:Nat→Bool} {vec:Nat→Ve}:∀ c,∃ q:Nat→Nat,(∀ j,j<(nsl P vec c).1→q j<c∧P (q j)=false∧(nsl P vec c).2 j=vec (q j))∧(∀ i j,i<j→j<(nsl P vec c).1→q i<q j)∧∀ k,k<c→P k=false→∃ j,j<(nsl P vec c).1∧q j=k
  | 0=>⟨fun _=>0,fun j hj=>absurd hj (Nat.not_lt_zero _),fun i j _ hj=>absurd hj (Nat.not_lt_zero _),fun k hk=>absurd hk (Nat.not_lt_zero _)⟩
  | c+1=>by
    obtain ⟨q,h1,h2,h3⟩:=nt (P:=P) (vec:=vec) c
    cases hp:P c with
    | true =>
      rw [nsl_t hp]
      refine ⟨q,fun j hj=>?_,h2,fun k hk hk2=>?_⟩
      · obtain ⟨a,b,d⟩:=h1 j hj
        exact ⟨by omega,b,d⟩
      · by_cases e:k=c
        · rw [e,hp] at hk2;cases hk2
        · exact h3 k (by omega) hk2
    | false =>
      rw [nsl_f hp]
      refine ⟨fun j=>if j<(nsl P vec c).1 then q j else c,fun j hj=>?_,fun i j hij hj=>?_,fun k hk hk2=>?_⟩
      · have hj:j<(nsl P vec c).1+1:=hj
        show (if j<(nsl P vec c).1 then q j else c)<c+1∧P (if j<(nsl P vec c).1 then q j else c)=false∧(if j<(nsl P vec c).1 then (nsl P vec c).2 j else vec c)=vec (if j<(nsl P vec c).1 then q j else c)
        by_cases e:j<(nsl P vec c).1
        · rw [if_pos e,if_pos e]
          obtain ⟨a,b,d⟩:=h1 j e
          exact ⟨by omega,b,d⟩
        · rw [if_neg e,if_neg e];exact ⟨by omega,hp,rfl⟩
      · have hj:j<(nsl P vec c).1+1:=hj
        show (if i<(nsl P vec c).1 then q i else c)<(if j<(nsl P vec c).1 then q j else c)
        rw [if_pos (show i<(nsl P vec c).1 by omega)]
        by_cases e:j<(nsl P vec c).1
        · rw [if_pos e];exact h2 i j hij e
        · rw [if_neg e];exact (h1 i (by omega)).1
      · by_cases e:k=c
        · refine ⟨(nsl P vec c).1,Nat.lt_succ_self _,?_⟩
          show (if (nsl P vec c).1<(nsl P vec c).1 then _ else c)=k
          rw [if_neg (Nat.lt_irrefl _),e]
        · obtain ⟨j,j1,j2⟩:=h3 k (by omega) hk2
          refine ⟨j,Nat.lt_succ_of_lt j1,?_⟩
          show (if j<(nsl P vec c).1 then q j else c)=k
          rw [if_pos j1,j2]
theorem w6 {p:Nat→Nat} {vec:Nat→Ve} (r:Nat) (asc:∀ i j,i<j→j<r→p i<p j):∀ c,(nsl (fun k=>decide (0≤rwi p r k)) vec c).1+Nat.rec 0 (fun i t=>t+if p i<c then 1 else 0) r=c:=by
  have key:∀ c,∃ t:Nat,t≤r∧(∀ i,i<t→p i<c)∧(∀ i,t≤i→i<r→c≤p i)∧(nsl (fun k=>decide (0≤rwi p r k)) vec c).1+t=c:=by
    intro c
    induction c with
    | zero=>exact ⟨0,Nat.zero_le _,fun i hi=>absurd hi (Nat.not_lt_zero _),fun i _ _=>Nat.zero_le _,rfl⟩
    | succ c ih =>
      obtain ⟨t,t1,t2,t3,t4⟩:=ih
      by_cases hp:0≤rwi p r c
      · have e:=oC p r c hp
        have hl:=(rwi_lt p r c).2
        have hi:(rwi p r c).toNat<r:=by omega
        rw [nsl_t (decide_eq_true hp)]
        generalize (rwi p r c).toNat=i at e hi
        have hti:t=i:=by
          rcases Nat.lt_trichotomy t i with h | h | h
          · have:=t3 t (Nat.le_refl _) (by omega)
            have:=asc t i h hi
            omega
          · exact h
          · have:=t2 i h;omega
        refine ⟨t+1,by omega,fun j hj=>?_,fun j hj hjr=>?_,by omega⟩
        · by_cases e2:j=t
          · rw [e2,hti,e];omega
          · have:=t2 j (by omega);omega
        · have:=asc i j (by omega) hjr;omega
      · rw [nsl_f (decide_eq_false hp)]
        refine ⟨t,t1,fun j hj=>by have:=t2 j hj;omega,fun j hj hjr=>?_,by show (nsl _ vec c).1+1+t=_;omega⟩
        have:=t3 j hj hjr
        have hne:p j≠c:=fun e=>by
          have:=tK asc hjr
          rw [e] at this
          omega
        omega
  intro c
  obtain ⟨t,t1,t2,t3,t4⟩:=key c
  have:∀ x,x≤r→(Nat.rec 0 (fun i t=>t+if p i<c then 1 else 0) x:Nat)=min x t:=by
    intro x
    induction x with
    | zero=>intro _;show (0:Nat)=min 0 t;omega
    | succ x ih =>
      intro hx
      show (Nat.rec 0 (fun i t=>t+if p i<c then 1 else 0) x:Nat)+(if p x<c then 1 else 0)=_
      rw [ih (by omega)]
      by_cases h:x<t
      · rw [if_pos (t2 x h)];omega
      · rw [if_neg (by have:=t3 x (by omega) (by omega);omega)];omega
  rw [this r (Nat.le_refl _),Nat.min_eq_right t1]
  exact t4
section
variable {n m rmx:Nat} {B:Int} {K:Nat→Nat→(Nat→Ve)→Prop}
theorem Db (ht:Tame n m rmx K) {A:Nat→Ve} (hb:0≤B) (hr:∀ i,i<m→cL n (A i) (A i)≤B) (hk:K 0 0 A):(nul n m A).1+(rrun m (rini A) n).r=n:=by
  have ok:=dq ht hb hr hk n (Nat.le_refl _)
  have:=w6 (vec:=nulV n (rrun m (rini A) n)) (rrun m (rini A) n).r ok.asc n
  have h2:∀ x,x≤(rrun m (rini A) n).r→(Nat.rec 0 (fun i t=>t+if (rrun m (rini A) n).p i<n then 1 else 0) x:Nat)=x:=by
    intro x
    induction x with
    | zero=>intro _;rfl
    | succ x ih =>
      intro hx
      show (Nat.rec 0 (fun i t=>t+if (rrun m (rini A) n).p i<n then 1 else 0) x:Nat)+(if (rrun m (rini A) n).p x<n then 1 else 0)=_
      rw [ih (by omega),if_pos (ok.bar.pn (by omega))]
  rw [h2 _ (Nat.le_refl _)] at this
  exact this
theorem vL (ht:Tame n m rmx K) {A:Nat→Ve} (hb:0≤B) (hr:∀ i,i<m→cL n (A i) (A i)≤B) (hk:K 0 0 A) {k:Nat} {a:Nat→Ve} (hlt:n<k+(rrun m (rini A) n).r) (ha:∀ t,t<k→∀ i,i<m→dt (A i) (a t) n=0) :
    ∃ c:Nat→Int,(∃ t,t<k∧c t≠0)∧∀ w,w<n→rs (fun t=>c t*a t w) 0 k=0:=by
  have hn:=Db ht hb hr hk
  obtain ⟨q,q1,q2,q3⟩:=nt (P:=nulP (rrun m (rini A) n)) (vec:=nulV n (rrun m (rini A) n)) n
  obtain ⟨c,hc1,hc2⟩:=lr (nul n m A).1 k (by omega) (fun t j=>a t (q j))
  refine ⟨c,hc1,z7 ht hb hr hk (v:=fun w=>rs (fun t=>c t*a t w) 0 k) (fun i hi=>?_) (fun w hw hp=>?_)⟩
  · have h1:=wj (c:=c) (a:=a) (v:=A i) (k:=k) n
    rw [dK k 0 (fun t _ ht=>by
      have:=ha t (by omega) i hi
      have e:dt (a t) (A i) n=dt (A i) (a t) n:=by rw [fS,fS];exact dA _ _ (fun j _ _=>Int.mul_comm _ _)
      rw [e,this];simp)] at h1
    have e:dt (A i) (fun w=>rs (fun t=>c t*a t w) 0 k) n=dt (fun j=>rs (fun t=>c t*a t j) 0 k) (A i) n:=by rw [fS,fS];exact dA _ _ (fun j _ _=>Int.mul_comm _ _)
    rw [e,← h1]
  · obtain ⟨j,j1,j2⟩:=q3 w hw hp
    have:=hc2 j j1
    rw [← j2];exact this
theorem CG (ht:Tame n m rmx K) {A:Nat→Ve} (hb:0≤B) (hr:∀ i,i<m→cL n (A i) (A i)≤B) (hk:K 0 0 A) {c:Nat→Int} (h:∀ w,w<n→rs (fun j=>c j*(nul n m A).2 j w) 0 (nul n m A).1=0):∀ j,j<(nul n m A).1→c j=0:=by
  have ok:=dq ht hb hr hk n (Nat.le_refl _)
  obtain ⟨q,q1,q2,q3⟩:=nt (P:=nulP (rrun m (rini A) n)) (vec:=nulV n (rrun m (rini A) n)) n
  have free:∀ j,j<(nul n m A).1→rwi (rrun m (rini A) n).p (rrun m (rini A) n).r (q j)<0:=fun j hj=>by
    have:=(q1 j hj).2.1
    unfold nulP at this
    have:=of_decide_eq_false this
    omega
  have val:∀ i j,i<(nul n m A).1→j<(nul n m A).1→∃ s:Int,s≠0∧(if q j=q i then (rrun m (rini A) n).d else 0)=s*(nul n m A).2 i (q j):=fun i j hi hj=>by
    have e:(nul n m A).2 i=nulV n (rrun m (rini A) n) (q i):=(q1 i hi).2.2
    obtain ⟨s,s1,s2⟩:=qv n (nvk (rrun m (rini A) n).A (rrun m (rini A) n).r (rrun m (rini A) n).p (rrun m (rini A) n).d (q i) n)
    refine ⟨s,s1,?_⟩
    have:=s2 (q j) (q1 j hj).1
    rw [e]
    unfold nulV
    rw [← this]
    unfold nvk
    rw [if_neg (show ¬ (q j<n∧0≤rwi (rrun m (rini A) n).p (rrun m (rini A) n).r (q j)) from fun h'=>by have:=free j hj;omega)]
  intro j hj
  have hz:=h (q j) (q1 j hj).1
  rw [kl hj (fun i hi hne=>by
    obtain ⟨s,s1,s2⟩:=val i j hi hj
    have hq:q j≠q i:=by
      rcases Nat.lt_trichotomy i j with h1 | h1 | h1
      · have:=q2 i j h1 hj;omega
      · exact absurd h1 hne
      · have:=q2 j i h1 hi;omega
    rw [if_neg hq] at s2
    rcases Int.mul_eq_zero.1 s2.symm with h1 | h1
    · exact absurd h1 s1
    · rw [h1];simp)] at hz
  obtain ⟨s,s1,s2⟩:=val j j hj hj
  rw [if_pos rfl] at s2
  rcases Int.mul_eq_zero.1 hz with h1 | h1
  · exact h1
  · rw [h1,Int.mul_zero] at s2
    exact absurd s2 ok.bar.d0
end
end Go.Proofs.YtbdgmpfdlgnkkaaGreat.Had
namespace Go.Proofs.YtbdgmpfdlgnkkaaGreat.Mat
noncomputable def rk (N:Nat) (L:List (Nat×Nat)):Nat:=(greedy N 2 3 [] L).length
def Imp (N:Nat) (I:List (Nat×Nat)) (a b:Nat):Prop:=∃ R,Tight N I R∧R a=true∧R b=true
theorem wI (A B C:Nat→Bool):∀ l,cnt A l+cnt B l+cnt C l≤cnt (uni (uni A B) C) l+cnt (cap2 A B) l+cnt (cap2 A C) l+cnt (cap2 B C) l
  | []=>by simp [cnt]
  | x::l=>by
    have:=wI A B C l
    simp only [cnt,inn,uni,cap2] at *
    cases A x.1<;>cases B x.1<;>cases C x.1<;>cases A x.2<;>cases B x.2<;>cases C x.2<;>simp<;>omega
theorem r4 (A B C:Nat→Bool):∀ n,cardR A n+cardR B n+cardR C n+cardR (cap2 (cap2 A B) C) n=cardR (uni (uni A B) C) n+cardR (cap2 A B) n+cardR (cap2 A C) n+cardR (cap2 B C) n
  | 0=>rfl
  | n+1=>by
    have:=r4 A B C n
    simp only [cardR,uni,cap2] at *
    cases A n<;>cases B n<;>cases C n<;>simp<;>omega
theorem gL {N:Nat} {I:List (Nat×Nat)} (hI:Sparse N 2 3 I) {R:Nat→Bool} (h:cardR R N≤1):cnt R I=0:=by
  have:=hI R
  by_cases e:0<cnt R I
  · have:=this e;omega
  · omega
theorem tight_union2 {N:Nat} {I:List (Nat×Nat)} (hI:Sparse N 2 3 I) {R S:Nat→Bool} (h1:Tight N I R) (h2:Tight N I S) (h:2≤cardR (cap2 R S) N):Tight N I (uni R S):=by
  have c1:=jw R S N
  have c2:=qe R S I
  have c3:=gY R (uni R S) (fun v h=>by simp [uni,h]) I
  have c4:=hI (uni R S)
  have c5:=hI (cap2 R S)
  unfold Tight at *
  by_cases e:0<cnt (cap2 R S) I
  · have:=c5 e;have:=c4 (by omega);omega
  · have:=c4 (by omega);omega
theorem card_none (R:Nat→Bool):∀ n,(∀ v,v<n→R v=false)→cardR R n=0
  | 0,_=>rfl
  | n+1,h=>by simp [cardR,card_none R n (fun v hv=>h v (by omega)),h n (by omega)]
theorem nP (R:Nat→Bool) (a:Nat) (ra:R a=true):∀ n,a<n→cardR R n≤1→∀ v,v<n→R v=true→v=a:=by
  intro n ha h v hv hr
  by_cases e:v=a
  · exact e
  · have:=card_two R v a hr ra e n hv ha
    omega
theorem tight_tri {N:Nat} {I:List (Nat×Nat)} (hI:Sparse N 2 3 I) {a b c:Nat} (ha:a<N) (hb:b<N) (hc:c<N) (hab:a≠b) (hac:a≠c) (hbc:b≠c)
    (h1:Imp N I a b) (h2:Imp N I a c) (h3:Imp N I b c):∃ R,Tight N I R∧R a=true∧R b=true∧R c=true:=by
  obtain ⟨A,tA,a1,a2⟩:=h1
  obtain ⟨B,tB,b1,b2⟩:=h2
  obtain ⟨C,tC,c1,c2⟩:=h3
  by_cases k1:2≤cardR (cap2 A B) N
  · exact ⟨_,tight_union2 hI tA tB k1,by simp [uni,a1],by simp [uni,a2],by simp [uni,b2]⟩
  by_cases k2:2≤cardR (cap2 A C) N
  · exact ⟨_,tight_union2 hI tA tC k2,by simp [uni,a1],by simp [uni,a2],by simp [uni,c2]⟩
  by_cases k3:2≤cardR (cap2 B C) N
  · exact ⟨_,tight_union2 hI tB tC k3,by simp [uni,b1],by simp [uni,c1],by simp [uni,b2]⟩
  cases ca:C a with
  | true=>exact ⟨C,tC,ca,c1,c2⟩
  | false =>
    have e1:cardR (cap2 (cap2 A B) C) N=0:=by
      refine card_none _ _ (fun v hv=>?_)
      cases e:cap2 (cap2 A B) C v with
      | false=>rfl
      | true =>
        simp only [cap2,Bool.and_eq_true] at e
        have:=nP (cap2 A B) a (by simp [cap2,a1,b1]) N ha (by omega) v hv (by simp [cap2,e.1.1,e.1.2])
        subst this
        rw [ca] at e
        exact absurd e.2 (by simp)
    have f1:=wI A B C I
    have f2:=r4 A B C N
    have g1:=fh (cap2 A B) a (by simp [cap2,a1,b1]) N ha
    have g2:=fh (cap2 A C) b (by simp [cap2,a2,c1]) N hb
    have g3:=fh (cap2 B C) c (by simp [cap2,b2,c2]) N hc
    have z1:=gL hI (R:=cap2 A B) (by omega)
    have z2:=gL hI (R:=cap2 A C) (by omega)
    have z3:=gL hI (R:=cap2 B C) (by omega)
    have c4:=hI (uni (uni A B) C)
    have m1:=gY A (uni (uni A B) C) (fun v h=>by simp [uni,h]) I
    refine ⟨uni (uni A B) C,?_,by simp [uni,a1],by simp [uni,a2],by simp [uni,b2]⟩
    have d1:=card_two A a b a1 a2 hab N ha hb
    unfold Tight at *
    have:=c4 (by omega)
    omega
theorem iG {N:Nat} {I:List (Nat×Nat)} {R:Nat→Bool} (h:Tight N I R) {x:Nat×Nat} (hx:inn R x=true):¬ Sparse N 2 3 (I++[x]):=by
  intro hs
  have h1:=hs R
  rw [cnt_append] at h1
  have hc:cnt R [x]=1:=by simp [cnt,hx]
  rw [hc] at h1
  have:=h1 (by omega)
  unfold Tight at h
  omega
theorem rk_same_iff {N:Nat} {L:List (Nat×Nat)} (hL:∀ x∈L,GoodBar N x) {a b:Nat} (hx:GoodBar N (a,b)):rk N (L++[(a,b)])=rk N L↔Imp N (greedy N 2 3 [] L) a b:=by
  unfold rk
  rw [greedy_append]
  simp only [greedy]
  constructor
  · intro he
    split at he
    · simp at he
    · rename_i hn
      obtain ⟨R,t,r⟩:=greedy_tight (L++[(a,b)]) [] (fun x h=>by
        rcases List.mem_append.1 h with h | h
        · exact hL x h
        · simp only [List.mem_cons,List.not_mem_nil,or_false] at h;subst h;exact hx) (sparse_nil N 2 3) (a,b) (by simp)
      rw [greedy_append] at t
      simp only [greedy] at t
      rw [if_neg hn] at t
      simp only [inn,Bool.and_eq_true] at r
      exact ⟨R,t,r.1,r.2⟩
  · rintro ⟨R,t,r1,r2⟩
    rw [if_neg (iG t (by simp [inn,r1,r2]))]
end Go.Proofs.YtbdgmpfdlgnkkaaGreat.Mat
namespace Go.Proofs.YtbdgmpfdlgnkkaaGreat.Trv
def One (n:Nat) (x y u w:Nat→Int) (num den:Int):Prop:=∀ i,i<n→u i*den = -num*y i∧w i*den=num*x i
structure All2 (n:Nat) (x y u w:Nat→Int):Prop where
  ch:∀ a b,a<n→b<a→(x a - x b)*(u a - u b)+(y a - y b)*(w a - w b)=0
  same:∀ a b,a<n→b<a→x a=x b→y a=y b→u a=u b∧w a=w b
  flat:∀ a b,a<n→b<a→1≤b→x a*y b=y a*x b→x b*u a+y b*w a=x a*u b+y a*w b∧x b*w a - y b*u a=x a*w b - y a*u b
theorem cancel {c a b:Int} (hc:c≠0) (h:c*a=c*b):a=b:=Int.eq_of_mul_eq_mul_left hc h
section
variable {n:Nat} {x y u w:Nat→Int}
theorem one_all {num den:Int} (hd:den≠0) (h:One n x y u w num den):All2 n x y u w where
  ch a b ha hb:=by
    obtain ⟨a1,a2⟩:=h a ha
    obtain ⟨b1,b2⟩:=h b (by omega)
    have e1:(u a - u b)*den = -num*(y a - y b):=by grind
    have e2:(w a - w b)*den=num*(x a - x b):=by grind
    refine cancel hd ?_
    have:den*((x a - x b)*(u a - u b)+(y a - y b)*(w a - w b))=(x a - x b)*((u a - u b)*den)+(y a - y b)*((w a - w b)*den):=by grind
    rw [this,e1,e2]
    grind
  same a b ha hb hx hy:=by
    obtain ⟨a1,a2⟩:=h a ha
    obtain ⟨b1,b2⟩:=h b (by omega)
    exact ⟨cancel hd (by rw [Int.mul_comm,a1,Int.mul_comm den,b1,hy]),cancel hd (by rw [Int.mul_comm,a2,Int.mul_comm den,b2,hx])⟩
  flat a b ha hb h1 hc:=by
    obtain ⟨a1,a2⟩:=h a ha
    obtain ⟨b1,b2⟩:=h b (by omega)
    refine ⟨cancel hd ?_,cancel hd ?_⟩
    · have e1:den*(x b*u a+y b*w a)=x b*(u a*den)+y b*(w a*den):=by grind
      have e2:den*(x a*u b+y a*w b)=x a*(u b*den)+y a*(w b*den):=by grind
      rw [e1,e2,a1,a2,b1,b2]
      grind
    · have e1:den*(x b*w a - y b*u a)=x b*(w a*den) - y b*(u a*den):=by grind
      have e2:den*(x a*w b - y a*u b)=x a*(w b*den) - y a*(u b*den):=by grind
      rw [e1,e2,a1,a2,b1,b2]
      grind
theorem all_one0 (h:All2 n x y u w) (h0:x 0=0∧y 0=0∧u 0=0∧w 0=0) (hz:∀ i,i<n→x i=0∧y i=0):One n x y u w 0 1:=by
  intro i hi
  obtain ⟨z1,z2⟩:=hz i hi
  by_cases h1:i=0
  · subst h1;rw [h0.2.2.1,h0.2.2.2];simp
  · obtain ⟨e1,e2⟩:=h.same i 0 hi (by omega) (by rw [z1,h0.1]) (by rw [z2,h0.2.1])
    rw [e1,e2,h0.2.2.1,h0.2.2.2];simp
theorem all_onej (h:All2 n x y u w) (h0:x 0=0∧y 0=0∧u 0=0∧w 0=0) {j:Nat} (hj:j<n) (hne:x j≠0∨y j≠0) :
    One n x y u w (w j*x j - u j*y j) (x j*x j+y j*y j):=by
  obtain ⟨z1,z2,z3,z4⟩:=h0
  have h1:1≤j:=by
    refine Nat.not_lt.1 (fun hl=>?_)
    have:j=0:=by omega
    subst this;rcases hne with h | h<;>contradiction
  have sj:x j*u j+y j*w j=0:=by
    have:=h.ch j 0 hj (by omega)
    rw [z1,z2,z3,z4] at this
    simpa using this
  generalize hnum:w j*x j - u j*y j=num
  generalize hden:x j*x j+y j*y j=den
  have ej1:u j*den = -num*y j:=by
    have e:u j*(x j*x j+y j*y j)=x j*(x j*u j+y j*w j) - (w j*x j - u j*y j)*y j:=by grind
    rw [← hden,e,sj,← hnum];grind
  have ej2:w j*den=num*x j:=by
    have e:w j*(x j*x j+y j*y j)=y j*(x j*u j+y j*w j)+(w j*x j - u j*y j)*x j:=by grind
    rw [← hden,e,sj,← hnum];grind
  intro i hi
  by_cases hi0:i=0
  · subst hi0;rw [z1,z2,z3,z4];simp
  by_cases hij:i=j
  · subst hij;exact ⟨ej1,ej2⟩
  have si:x i*u i+y i*w i=0:=by
    have:=h.ch i 0 hi (by omega)
    rw [z1,z2,z3,z4] at this
    simpa using this
  have sij:(x i*u j+y i*w j)+(x j*u i+y j*w i)=0:=by
    rcases Nat.lt_or_gt_of_ne hij with hl | hl
    · have:=h.ch j i hj hl;grind
    · have:=h.ch i j hi hl;grind
  by_cases hc:x i*y j=y i*x j
  ·
    have hP:x j*u i+y j*w i=x i*u j+y i*w j∧x j*w i - y j*u i=x i*w j - y i*u j:=by
      rcases Nat.lt_or_gt_of_ne hij with hl | hl
      · obtain ⟨p1,p2⟩:=h.flat j i hj hl (by omega) (by grind)
        exact ⟨p1.symm,p2.symm⟩
      · exact h.flat i j hi hl h1 hc
    obtain ⟨p1,p2⟩:=hP
    have p3:x j*u i+y j*w i=0:=by omega
    constructor
    · have e:u i*(x j*x j+y j*y j)=x j*(x j*u i+y j*w i) - y j*(x j*w i - y j*u i):=by grind
      rw [← hden,e,p3,p2,← hnum]
      have e2:y j*(x i*w j - y i*u j)=(x i*y j)*w j - y i*y j*u j:=by grind
      rw [e2,hc];grind
    · have e:w i*(x j*x j+y j*y j)=y j*(x j*u i+y j*w i)+x j*(x j*w i - y j*u i):=by grind
      rw [← hden,e,p3,p2,← hnum]
      have e2:x j*(x i*w j - y i*u j)=x i*x j*w j - (y i*x j)*u j:=by grind
      rw [e2,← hc];grind
  · have hc':x i*y j - y i*x j≠0:=by omega
    have ht:(x j*u i+y j*w i)*den=num*(x i*y j - y i*x j):=by
      have e:(x j*u i+y j*w i)*den = -(x i*(u j*den)+y i*(w j*den)):=by
        have:x j*u i+y j*w i = -(x i*u j+y i*w j):=by omega
        rw [this];grind
      rw [e,ej1,ej2];grind
    constructor
    · refine cancel hc' ?_
      have e:(x i*y j - y i*x j)*(u i*den)=y j*(x i*u i+y i*w i)*den - y i*((x j*u i+y j*w i)*den):=by grind
      rw [e,si,ht];grind
    · refine cancel hc' ?_
      have e:(x i*y j - y i*x j)*(w i*den)=x i*((x j*u i+y j*w i)*den) - x j*(x i*u i+y i*w i)*den:=by grind
      rw [e,si,ht];grind
end
theorem bdm {a b A B:Int} (ha:-A≤a∧a≤A) (hb:-B≤b∧b≤B):-(A*B)≤a*b∧a*b≤A*B:=by
  have h1:=Int.mul_nonneg (show 0≤A - a by omega) (show 0≤B - b by omega)
  have h2:=Int.mul_nonneg (show 0≤A+a by omega) (show 0≤B+b by omega)
  have h3:=Int.mul_nonneg (show 0≤A - a by omega) (show 0≤B+b by omega)
  have h4:=Int.mul_nonneg (show 0≤A+a by omega) (show 0≤B - b by omega)
  have e1:(A - a)*(B - b)=A*B - A*b - a*B+a*b:=by grind
  have e2:(A+a)*(B+b)=A*B+A*b+a*B+a*b:=by grind
  have e3:(A - a)*(B+b)=A*B+A*b - a*B - a*b:=by grind
  have e4:(A+a)*(B - b)=A*B - A*b+a*B - a*b:=by grind
  constructor<;>omega
theorem sum_sq_pos {a b:Int} (h:a≠0∨b≠0):0<a*a+b*b:=by
  have n1:0≤a*a:=by
    rcases Int.le_total 0 a with h | h
    · exact Int.mul_nonneg h h
    · have:=Int.mul_nonneg (show 0≤-a by omega) (show 0≤-a by omega);rwa [Int.neg_mul_neg] at this
  have n2:0≤b*b:=by
    rcases Int.le_total 0 b with h | h
    · exact Int.mul_nonneg h h
    · have:=Int.mul_nonneg (show 0≤-b by omega) (show 0≤-b by omega);rwa [Int.neg_mul_neg] at this
  rcases h with h | h
  · have:a*a≠0:=fun h'=>by rcases Int.mul_eq_zero.1 h' with h2 | h2<;>contradiction
    omega
  · have:b*b≠0:=fun h'=>by rcases Int.mul_eq_zero.1 h' with h2 | h2<;>contradiction
    omega
end Go.Proofs.YtbdgmpfdlgnkkaaGreat.Trv
namespace Go.Proofs.YtbdgmpfdlgnkkaaGreat.Had
theorem DZ (W:Nat→Bool):∀ n,∃ q:Nat→Nat,(∀ j,j<Mat.cardR W n→q j<n∧W (q j)=true)∧(∀ i j,i<j→j<Mat.cardR W n→q i<q j)∧∀ w,w<n→W w=true→∃ j,j<Mat.cardR W n∧q j=w
  | 0=>⟨fun _=>0,fun j hj=>absurd hj (Nat.not_lt_zero _),fun i j _ hj=>absurd hj (Nat.not_lt_zero _),fun k hk=>absurd hk (Nat.not_lt_zero _)⟩
  | n+1=>by
    obtain ⟨q,h1,h2,h3⟩:=DZ W n
    cases hp:W n with
    | false =>
      have e:Mat.cardR W (n+1)=Mat.cardR W n:=by simp [Mat.cardR,hp]
      rw [e]
      refine ⟨q,fun j hj=>?_,h2,fun k hk hk2=>?_⟩
      · have:=h1 j hj;exact ⟨by omega,this.2⟩
      · by_cases e:k=n
        · rw [e,hp] at hk2;cases hk2
        · exact h3 k (by omega) hk2
    | true =>
      have e:Mat.cardR W (n+1)=Mat.cardR W n+1:=by simp [Mat.cardR,hp]
      rw [e]
      obtain ⟨q',e1,e2⟩:∃ q':Nat→Nat,(∀ j,j<Mat.cardR W n→q' j=q j)∧q' (Mat.cardR W n)=n:=⟨fun j=>if j=Mat.cardR W n then n else q j,fun j hj=>if_neg (by omega),if_pos rfl⟩
      refine ⟨q',fun j hj=>?_,fun i j hij hj=>?_,fun k hk hk2=>?_⟩
      · by_cases e:j=Mat.cardR W n
        · rw [e,e2];exact ⟨by omega,hp⟩
        · rw [e1 j (by omega)]
          have:=h1 j (by omega)
          exact ⟨by omega,this.2⟩
      · rw [e1 i (by omega)]
        by_cases e:j=Mat.cardR W n
        · rw [e,e2];exact (h1 i (by omega)).1
        · rw [e1 j (by omega)];exact h2 i j hij (by omega)
      · by_cases e:k=n
        · exact ⟨Mat.cardR W n,by omega,by rw [e2,e]⟩
        · obtain ⟨j,j1,j2⟩:=h3 k (by omega) hk2
          exact ⟨j,by omega,by rw [e1 j j1,j2]⟩
theorem AB {p:Nat→Nat} {c:Nat→Int}:∀ r,(∀ i j,i<j→j<r→p i<p j)→∀ i,i<r→xM p c r (p i)=c i
  | 0,_,i,hi=>absurd hi (Nat.not_lt_zero _)
  | r+1,h,i,hi=>by
    simp only [xM,fI]
    by_cases e:i=r
    · rw [if_pos (by rw [e]),e]
    · have:=h i r (by omega) (by omega)
      rw [if_neg (by omega)]
      exact AB r (fun i j hij hj=>h i j hij (by omega)) i (by omega)
theorem jJ {R:Nat→Bool} {a:Nat} (h:R a=true):∀ n,Mat.cardR R n=Mat.cardR (fun v=>R v&&v != a) n+(if a<n then 1 else 0)
  | 0=>rfl
  | n+1=>by
    simp only [Mat.cardR]
    rw [jJ h n]
    by_cases e:n=a
    · subst e
      simp [h]
    · have e1:(n != a)=true:=by simpa using e
      rw [e1,Bool.and_true]
      by_cases h1:a<n
      · rw [if_pos h1,if_pos (by omega)];omega
      · rw [if_neg h1,if_neg (by omega)];omega
theorem qU (R:Nat→Bool):∀ n,Mat.cardR (fun w=>R (w / 2)) (2*n)=2*Mat.cardR R n
  | 0=>rfl
  | n+1=>by
    have ih:=qU R n
    rw [show 2*(n+1)=2*n+1+1 by omega]
    simp only [Mat.cardR]
    rw [ih,show (2*n+1) / 2=n by omega,show 2*n / 2=n by omega]
    omega
def GK (A B s:Nat→Nat) (k:Nat):List (Nat×Nat):=(List.range k).map (fun i=>(A (s i),B (s i)))
theorem we (A B s:Nat→Nat) (R:Nat→Bool):∀ k,Mat.cnt R (GK A B s k)=Mat.cardR (fun i=>R (A (s i))&&R (B (s i))) k
  | 0=>rfl
  | k+1=>by
    have ih:=we A B s R k
    unfold GK at ih ⊢
    rw [List.range_succ,List.map_append,Mat.cnt_append,ih]
    rfl
section
variable {P nb:Nat} {A B:Nat→Nat} {px py:Nat→Int}
theorem Bars.dtr (h:Bars P nb A B px py) (u:Nat→Int) {k:Nat} (hk:k<nb):dt (rg A B px py k) u (2*P) =
    u (2*A k)*(px (A k) - px (B k))+u (2*A k+1)*(py (A k) - py (B k)) - u (2*B k)*(px (A k) - px (B k)) - u (2*B k+1)*(py (A k) - py (B k)):=by
  rw [fS];exact h.rel u hk
def tX (w:Nat):Int:=if w % 2=0 then 1 else 0
def tY (w:Nat):Int:=if w % 2=0 then 0 else 1
theorem Bars.tx (h:Bars P nb A B px py) {k:Nat} (hk:k<nb):dt (rg A B px py k) tX (2*P)=0:=by
  rw [h.dtr _ hk]
  unfold tX
  rw [if_pos (by omega),if_neg (by omega),if_pos (by omega),if_neg (by omega)];omega
theorem Bars.ty (h:Bars P nb A B px py) {k:Nat} (hk:k<nb):dt (rg A B px py k) tY (2*P)=0:=by
  rw [h.dtr _ hk]
  unfold tY
  rw [if_pos (by omega),if_neg (by omega),if_pos (by omega),if_neg (by omega)];omega
theorem Bars.trot (h:Bars P nb A B px py) (X Y:Int) {k:Nat} (hk:k<nb):dt (rg A B px py k) (kP X Y px py) (2*P)=0:=by
  rw [h.dtr _ hk]
  unfold kP
  rw [if_pos (by omega),if_neg (by omega),if_pos (by omega),if_neg (by omega),show 2*A k / 2=A k by omega,show (2*A k+1) / 2=A k by omega,show 2*B k / 2=B k by omega,show (2*B k+1) / 2=B k by omega]
  grind
theorem Bars.sparse (h:Bars P nb A B px py) {k:Nat} {s:Nat→Nat} (hs:∀ i,i<k→s i<nb) (hi:Fw (rg A B px py) (2*P) k s):Mat.Sparse P 2 3 (GK A B s k):=by
  intro R hR
  rw [we] at hR ⊢
  obtain ⟨q,q1,q2,q3⟩:=DZ (fun i=>R (A (s i))&&R (B (s i))) k
  generalize Mat.cardR (fun i=>R (A (s i))&&R (B (s i))) k=t at *
  refine Classical.byContradiction fun hn=>?_
  obtain ⟨hk0,hr0⟩:=q1 0 hR
  simp only [Bool.and_eq_true] at hr0
  have o:=h.ok (s (q 0)) (hs _ hk0)
  have hne:=h.ne (s (q 0)) (hs _ hk0)
  generalize A (s (q 0))=a at hr0 o hne
  generalize B (s (q 0))=b at hr0 o hne
  obtain ⟨z,hz1,hz2,hz3⟩:∃ z,(z=2*b∨z=2*b+1)∧z<2*P∧kP (px a) (py a) px py z≠0:=by
    by_cases e:py a=py b
    · refine ⟨2*b+1,.inr rfl,by omega,?_⟩
      unfold kP
      rw [if_neg (by omega),show (2*b+1) / 2=b by omega]
      omega
    · refine ⟨2*b,.inl rfl,by omega,?_⟩
      unfold kP
      rw [if_pos (by omega),show 2*b / 2=b by omega]
      omega
  have ra0:kP (px a) (py a) px py (2*a)=0:=by unfold kP;rw [if_pos (by omega),show 2*a / 2=a by omega];omega
  have ra1:kP (px a) (py a) px py (2*a+1)=0:=by unfold kP;rw [if_neg (by omega),show (2*a+1) / 2=a by omega];omega
  have w1:=jJ (R:=fun w=>R (w / 2)) (a:=2*a) (by simp [show 2*a / 2=a by omega,hr0.1]) (2*P)
  rw [if_pos (by omega),qU] at w1
  have w2:=jJ (R:=fun w=>R (w / 2)&&w != 2*a) (a:=2*a+1) (by simp [show (2*a+1) / 2=a by omega,hr0.1]) (2*P)
  rw [if_pos (by omega)] at w2
  have hzb:z / 2=b:=by omega
  have w3:=jJ (R:=fun w=>R (w / 2)&&w != 2*a&&w != 2*a+1) (a:=z) (by simp [hzb,hr0.2];omega) (2*P)
  rw [if_pos hz2] at w3
  obtain ⟨e,e1,e2,e3⟩:=DZ (fun w=>R (w / 2)&&w != 2*a&&w != 2*a+1&&w != z) (2*P)
  generalize hu:Mat.cardR (fun w=>R (w / 2)&&w != 2*a&&w != 2*a+1&&w != z) (2*P)=u at *
  obtain ⟨c,⟨t0,ht0,hc0⟩,hc⟩:=lr u t (by omega) (fun i j=>rg A B px py (s (q i)) (e j))
  obtain ⟨g,hg⟩:∃ g:Ve,∀ w,g w=rs (fun i=>c i*rg A B px py (s (q i)) w) 0 t:=⟨_,fun _=>rfl⟩
  have orth:∀ u:Ve,(∀ k,k<nb→dt (rg A B px py k) u (2*P)=0)→rs (fun w=>u w*g w) 0 (2*P)=0:=fun u hu=>by
    have h1:=wj (c:=c) (a:=fun i=>rg A B px py (s (q i))) (v:=u) (k:=t) (2*P)
    rw [dK t 0 (fun i _ hi=>by rw [hu _ (hs _ (q1 i (by omega)).1)];simp),fS] at h1
    rw [h1]
    exact dA _ _ (fun w _ _=>by rw [hg])
  have g0:∀ w,w<2*P→w≠2*a→w≠2*a+1→w≠z→g w=0:=fun w hw n1 n2 n3=>by
    cases hr:R (w / 2) with
    | true =>
      obtain ⟨j,j1,j2⟩:=e3 w hw (by simp [hr,n1,n2,n3])
      rw [hg,← j2]
      exact hc j j1
    | false =>
      rw [hg]
      refine dK t 0 (fun i _ hi=>?_)
      have hin:=(q1 i (by omega)).2
      simp only [Bool.and_eq_true] at hin
      have:rg A B px py (s (q i)) w=0:=by
        have k1:w / 2≠A (s (q i)):=fun e=>by rw [e,hin.1] at hr;cases hr
        have k2:w / 2≠B (s (q i)):=fun e=>by rw [e,hin.2] at hr;cases hr
        unfold rg rv
        rw [if_neg (by omega),if_neg (by omega),if_neg (by omega),if_neg (by omega)]
      rw [this];simp
  have gz:g z=0:=by
    have:=orth _ (fun k hk=>h.trot (px a) (py a) hk)
    rw [kl hz2 (fun w hw hne=>by
      by_cases n1:w=2*a
      · rw [n1,ra0];simp
      · by_cases n2:w=2*a+1
        · rw [n2,ra1];simp
        · rw [g0 w hw n1 n2 hne];simp)] at this
    rcases Int.mul_eq_zero.1 this with h | h
    · exact absurd h hz3
    · exact h
  have ga:g (2*a)=0:=by
    have:=orth _ (fun k hk=>h.tx hk)
    rw [kl (q:=2*a) (by omega) (fun w hw hne=>by
      by_cases n1:w=2*a+1
      · rw [n1];unfold tX;rw [if_neg (by omega)];simp
      · by_cases n2:w=z
        · rw [n2,gz];simp
        · rw [g0 w hw hne n1 n2];simp)] at this
    unfold tX at this
    rw [if_pos (by omega)] at this
    omega
  have gb:g (2*a+1)=0:=by
    have:=orth _ (fun k hk=>h.ty hk)
    rw [kl (q:=2*a+1) (by omega) (fun w hw hne=>by
      by_cases n1:w=2*a
      · rw [n1,ga];simp
      · by_cases n2:w=z
        · rw [n2,gz];simp
        · rw [g0 w hw n1 hne n2];simp)] at this
    unfold tY at this
    rw [if_neg (by omega)] at this
    omega
  have:=hi (xM q c t) (fun w hw=>by
    have h1:=qf (c:=c) (a:=fun i=>rg A B px py (s i) w) (n:=k) t (fun i hi=>(q1 i hi).1) q2
    rw [fS] at h1
    rw [h1,← hg]
    by_cases n1:w=2*a
    · rw [n1,ga]
    · by_cases n2:w=2*a+1
      · rw [n2,gb]
      · by_cases n3:w=z
        · rw [n3,gz]
        · exact g0 w hw n1 n2 n3) (q t0) (q1 t0 ht0).1
  rw [AB t q2 t0 ht0] at this
  exact hc0 this
abbrev Bars.RK (P nb:Nat) (A B:Nat→Nat) (px py:Nat→Int):Nat:=(rrun nb (rini (rg A B px py)) (2*P)).r
theorem Bars.tame (h:Bars P nb A B px py):Tame (2*P) nb 10 (fun c r M=>r≤c∧(∀ i,r≤i→i<nb→∀ k,k<c→M i k=0)∧∀ i,i<nb→∀ t,t<2→eq (M i) t (2*P)=0):=kB (m:=nb) (by have:=h.P6;omega) (by omega)
theorem Bars.k0 (h:Bars P nb A B px py):0≤0∧(∀ i,0≤i→i<nb→∀ k,k<0→rg A B px py i k=0)∧∀ i,i<nb→∀ t,t<2→eq (rg A B px py i) t (2*P)=0 :=
  ⟨Nat.le_refl _,fun i _ _ k hk=>absurd hk (Nat.not_lt_zero _),fun i hi t ht=>h.sums hi ht⟩
theorem Bars.rank_le (h:Bars P nb A B px py) {L:List (Nat×Nat)} (hL:∀ x∈L,Mat.GoodBar P x) (hAB:∀ k,k<nb→(A k,B k)∈L):Bars.RK P nb A B px py≤Mat.rk P L:=by
  obtain ⟨k,s,k1,k2,k3,k4⟩:=y6 h.tame (by decide) (fun i hi=>h.norm hi) h.k0
  have hsp:=h.sparse k2 k4
  have:=Mat.rank_le L hL (Mat.greedy_sparse P 2 3 L [] (Mat.sparse_nil P 2 3)) (fun x hx=>by
    obtain ⟨t,h1,h2⟩:=Mat.greedy_pre P 2 3 L []
    rw [h1] at hx
    exact h2 x (by simpa using hx)) (Mat.greedy_tight L [] hL (Mat.sparse_nil P 2 3)) hsp (fun x hx=>by
    unfold GK at hx
    obtain ⟨i,hi,rfl⟩:=List.mem_map.1 hx
    exact hAB _ (k2 i (List.mem_range.1 hi)))
  unfold GK at this
  rw [List.length_map,List.length_range] at this
  unfold Mat.rk
  exact Nat.le_trans k1 this
end
end Go.Proofs.YtbdgmpfdlgnkkaaGreat.Had
namespace Go.Proofs.YtbdgmpfdlgnkkaaGreat.Had
section
variable {n:Nat} {x y u w u' w':Nat→Int}
theorem xd (h:Trv.All2 n x y u w) (h':Trv.All2 n x y u' w') (c:Int):Trv.All2 n x y (fun i=>u i+c*u' i) (fun i=>w i+c*w' i) where
  ch a b ha hb:=by
    have h1:=h.ch a b ha hb
    have h2:=h'.ch a b ha hb
    have e:(x a - x b)*(u a+c*u' a - (u b+c*u' b))+(y a - y b)*(w a+c*w' a - (w b+c*w' b))=((x a - x b)*(u a - u b)+(y a - y b)*(w a - w b))+c*((x a - x b)*(u' a - u' b)+(y a - y b)*(w' a - w' b)):=by grind
    show (x a - x b)*(u a+c*u' a - (u b+c*u' b))+(y a - y b)*(w a+c*w' a - (w b+c*w' b))=0
    rw [e,h1,h2];simp
  same a b ha hb hx hy:=by
    obtain ⟨a1,a2⟩:=h.same a b ha hb hx hy
    obtain ⟨b1,b2⟩:=h'.same a b ha hb hx hy
    show u a+c*u' a=u b+c*u' b∧w a+c*w' a=w b+c*w' b
    rw [a1,a2,b1,b2];exact ⟨rfl,rfl⟩
  flat a b ha hb h1 hf:=by
    obtain ⟨a1,a2⟩:=h.flat a b ha hb h1 hf
    obtain ⟨b1,b2⟩:=h'.flat a b ha hb h1 hf
    show x b*(u a+c*u' a)+y b*(w a+c*w' a)=x a*(u b+c*u' b)+y a*(w b+c*w' b)∧x b*(w a+c*w' a) - y b*(u a+c*u' a)=x a*(w b+c*w' b) - y a*(u b+c*u' b)
    have e1:x b*(u a+c*u' a)+y b*(w a+c*w' a)=(x b*u a+y b*w a)+c*(x b*u' a+y b*w' a):=by grind
    have e2:x a*(u b+c*u' b)+y a*(w b+c*w' b)=(x a*u b+y a*w b)+c*(x a*u' b+y a*w' b):=by grind
    have e3:x b*(w a+c*w' a) - y b*(u a+c*u' a)=(x b*w a - y b*u a)+c*(x b*w' a - y b*u' a):=by grind
    have e4:x a*(w b+c*w' b) - y a*(u b+c*u' b)=(x a*w b - y a*u b)+c*(x a*w' b - y a*u' b):=by grind
    rw [e1,e2,e3,e4,a1,a2,b1,b2];exact ⟨rfl,rfl⟩
theorem ke:Trv.All2 n x y (fun _=>0) (fun _=>0) where
  ch a b _ _:=by simp
  same a b _ _ _ _:=⟨rfl,rfl⟩
  flat a b _ _ _ _:=by simp
theorem fL (h:Trv.All2 n x y u w) (e:∀ i,i<n→u i=u' i∧w i=w' i):Trv.All2 n x y u' w' where
  ch a b ha hb:=by rw [← (e a ha).1,← (e a ha).2,← (e b (by omega)).1,← (e b (by omega)).2];exact h.ch a b ha hb
  same a b ha hb hx hy:=by rw [← (e a ha).1,← (e a ha).2,← (e b (by omega)).1,← (e b (by omega)).2];exact h.same a b ha hb hx hy
  flat a b ha hb h1 hf:=by rw [← (e a ha).1,← (e a ha).2,← (e b (by omega)).1,← (e b (by omega)).2];exact h.flat a b ha hb h1 hf
theorem zo {c:Int} (hc:c≠0) (h:Trv.All2 n x y (fun i=>c*u i) (fun i=>c*w i)):Trv.All2 n x y u w where
  ch a b ha hb:=by
    have h1:(x a - x b)*(c*u a - c*u b)+(y a - y b)*(c*w a - c*w b)=0:=h.ch a b ha hb
    have e:(x a - x b)*(c*u a - c*u b)+(y a - y b)*(c*w a - c*w b)=c*((x a - x b)*(u a - u b)+(y a - y b)*(w a - w b)):=by grind
    rw [e] at h1
    rcases Int.mul_eq_zero.1 h1 with h | h
    · exact absurd h hc
    · exact h
  same a b ha hb hx hy:=by
    obtain ⟨h1,h2⟩:=h.same a b ha hb hx hy
    exact ⟨Trv.cancel hc h1,Trv.cancel hc h2⟩
  flat a b ha hb h1 hf:=by
    obtain ⟨a1,a2⟩:=h.flat a b ha hb h1 hf
    refine ⟨Trv.cancel hc ?_,Trv.cancel hc ?_⟩
    · have a1:x b*(c*u a)+y b*(c*w a)=x a*(c*u b)+y a*(c*w b):=a1
      grind
    · have a2:x b*(c*w a) - y b*(c*u a)=x a*(c*w b) - y a*(c*u b):=a2
      grind
end
def nT (P:Nat) (px py:Nat→Int) (v:Ve):Prop:=Trv.All2 P (fun i=>px i - px 0) (fun i=>py i - py 0) (fun i=>v (2*i) - v 0) (fun i=>v (2*i+1) - v 1)
section
variable {P nb:Nat} {A B:Nat→Nat} {px py:Nat→Int}
theorem BS {v v':Ve} (hP:1≤P) (h:nT P px py v) (e:∀ w,w<2*P→v w=v' w):nT P px py v' :=
  fL h (fun i hi=>⟨by show v (2*i) - v 0=v' (2*i) - v' 0;rw [e _ (by omega),e 0 (by omega)],by show v (2*i+1) - v 1=v' (2*i+1) - v' 1;rw [e _ (by omega),e 1 (by omega)]⟩)
theorem zf {v:Ve} {c:Int} (hc:c≠0) (h:nT P px py (fun w=>c*v w)):nT P px py v :=
  zo hc (fL h (fun i _=>⟨by show c*v (2*i) - c*v 0=c*(v (2*i) - v 0);grind,by show c*v (2*i+1) - c*v 1=c*(v (2*i+1) - v 1);grind⟩))
theorem mO {a:Nat→Ve} {c:Nat→Int}:∀ k,(∀ t,t<k→nT P px py (a t))→nT P px py (fun w=>rs (fun t=>c t*a t w) 0 k)
  | 0,_=>fL ke (fun i _=>⟨rfl,rfl⟩)
  | k+1,h=>by
    have ih:=mO (c:=c) k (fun t ht=>h t (by omega))
    have h2:=xd ih (h k (by omega)) (c k)
    refine fL h2 (fun i _=>⟨?_,?_⟩)
    · show rs (fun t=>c t*a t (2*i)) 0 k - rs (fun t=>c t*a t 0) 0 k+c k*(a k (2*i) - a k 0)=rs (fun t=>c t*a t (2*i)) 0 (k+1) - rs (fun t=>c t*a t 0) 0 (k+1)
      rw [dv,dv,Nat.zero_add];grind
    · show rs (fun t=>c t*a t (2*i+1)) 0 k - rs (fun t=>c t*a t 1) 0 k+c k*(a k (2*i+1) - a k 1)=rs (fun t=>c t*a t (2*i+1)) 0 (k+1) - rs (fun t=>c t*a t 1) 0 (k+1)
      rw [dv,dv,Nat.zero_add];grind
def tT (px py:Nat→Int) (t:Nat):Ve:=if t=0 then tX else if t=1 then tY else kP (px 0) (py 0) px py
theorem vJ (X Y:Int) (i:Nat):kP X Y px py (2*i)=Y - py i:=by unfold kP;rw [if_pos (by omega),show 2*i / 2=i by omega]
theorem wQ (X Y:Int) (i:Nat):kP X Y px py (2*i+1)=px i - X:=by unfold kP;rw [if_neg (by omega),show (2*i+1) / 2=i by omega]
theorem Cw (t:Nat):nT P px py (tT px py t):=by
  unfold tT
  by_cases h0:t=0
  · rw [if_pos h0]
    exact fL ke (fun i _=>⟨by unfold tX;rw [if_pos (by omega),if_pos (by omega)];rfl,by unfold tX;rw [if_neg (by omega),if_neg (by omega)];rfl⟩)
  · rw [if_neg h0]
    by_cases h1:t=1
    · rw [if_pos h1]
      exact fL ke (fun i _=>⟨by unfold tY;rw [if_pos (by omega),if_pos (by omega)];rfl,by unfold tY;rw [if_neg (by omega),if_neg (by omega)];rfl⟩)
    · rw [if_neg h1]
      refine fL (Trv.one_all (num:=1) (den:=1) (u:=fun i=>-(py i - py 0)) (w:=fun i=>px i - px 0) (by decide) (fun i _=>⟨by show -(py i - py 0)*1 = -1*(py i - py 0);omega,by show (px i - px 0)*1=1*(px i - px 0);omega⟩)) (fun i _=>⟨?_,?_⟩)
      · show -(py i - py 0)=kP (px 0) (py 0) px py (2*i) - kP (px 0) (py 0) px py 0
        rw [vJ,show kP (px 0) (py 0) px py 0=py 0 - py 0 from vJ (px 0) (py 0) 0];omega
      · show px i - px 0=kP (px 0) (py 0) px py (2*i+1) - kP (px 0) (py 0) px py 1
        rw [wQ,show kP (px 0) (py 0) px py 1=px 0 - px 0 from wQ (px 0) (py 0) 0];omega
theorem Bars.tT0 (h:Bars P nb A B px py) (t:Nat) {k:Nat} (hk:k<nb):dt (rg A B px py k) (tT px py t) (2*P)=0:=by
  unfold tT
  split
  · exact h.tx hk
  · split
    · exact h.ty hk
    · exact h.trot _ _ hk
structure Dim (P:Nat) (px py:Nat→Int) (tv:Nat):Prop where
  ind:∀ c:Nat→Int,(∀ w,w<2*P→rs (fun t=>c t*tT px py t w) 0 tv=0)→∀ t,t<tv→c t=0
  det:∃ q:Nat→Nat,∀ v:Ve,nT P px py v→(∀ j,j<tv→v (q j)=0)→∀ w,w<2*P→v w=0
theorem vS {v:Ve} (h:∀ i,i<P→v (2*i)=0∧v (2*i+1)=0):∀ w,w<2*P→v w=0:=fun w hw=>by
  have:=h (w / 2) (by omega)
  rcases (show w=2*(w / 2)∨w=2*(w / 2)+1 by omega) with e | e
  · rw [e];exact this.1
  · rw [e];exact this.2
theorem dim_two (hP:1≤P) (hall:∀ i,i<P→px i=px 0∧py i=py 0):Dim P px py 2 where
  ind c h t ht:=by
    have h0:c 0*1+(c 1*0+0)=0:=h 0 (by omega)
    have h1:c 0*0+(c 1*1+0)=0:=h 1 (by omega)
    rcases (show t=0∨t=1 by omega) with e | e
    · subst e;omega
    · subst e;omega
  det:=⟨fun j=>j,fun v h hz=>by
    have z0:=hz 0 (by omega)
    have z1:=hz 1 (by omega)
    have hone:=Trv.all_one0 h ⟨by show px 0 - px 0=0;omega,by show py 0 - py 0=0;omega,by show v (2*0) - v 0=0;simp,by show v (2*0+1) - v 1=0;simp⟩ (fun i hi=>⟨by have:=(hall i hi).1;show px i - px 0=0;omega,by have:=(hall i hi).2;show py i - py 0=0;omega⟩)
    refine vS (fun i hi=>?_)
    obtain ⟨a1,a2⟩:=hone i hi
    have a1:(v (2*i) - v 0)*1 = -0*(py i - py 0):=a1
    have a2:(v (2*i+1) - v 1)*1=0*(px i - px 0):=a2
    have z0:v 0=0:=z0
    have z1:v 1=0:=z1
    simp only [Int.neg_zero,Int.zero_mul] at a1 a2
    omega⟩
theorem dim_three {j:Nat} (hj:j<P) (hne:px j≠px 0∨py j≠py 0):Dim P px py 3:=by
  have hj1:1≤j:=by
    refine Nat.not_lt.1 (fun hl=>?_)
    have:j=0:=by omega
    subst this
    rcases hne with h | h<;>exact h rfl
  obtain ⟨z,hz,hzr⟩:∃ z,(z=2*j∧py j≠py 0∨z=2*j+1∧px j≠px 0∧py j=py 0)∧kP (px 0) (py 0) px py z≠0:=by
    by_cases e:py j=py 0
    · refine ⟨2*j+1,.inr ⟨rfl,by rcases hne with h | h;exact h;exact absurd e h,e⟩,?_⟩
      rw [wQ]
      rcases hne with h | h
      · omega
      · exact absurd e h
    · refine ⟨2*j,.inl ⟨rfl,e⟩,?_⟩
      rw [vJ];omega
  refine ⟨fun c h=>?_,⟨fun t=>if t=0 then 0 else if t=1 then 1 else z,fun v h hv=>?_⟩⟩
  · have h0:=h 0 (by omega)
    have h1:=h 1 (by omega)
    have r0:kP (px 0) (py 0) px py 0=0:=by have:=vJ (px:=px) (py:=py) (px 0) (py 0) 0;rw [Nat.mul_zero] at this;omega
    have r1:kP (px 0) (py 0) px py 1=0:=by have:=wQ (px:=px) (py:=py) (px 0) (py 0) 0;rw [Nat.mul_zero,Nat.zero_add] at this;omega
    have e0:c 0=0:=by
      have:c 0*1+(c 1*0+(c 2*kP (px 0) (py 0) px py 0+0))=0:=h0
      rw [r0] at this;omega
    have e1:c 1=0:=by
      have:c 0*0+(c 1*1+(c 2*kP (px 0) (py 0) px py 1+0))=0:=h1
      rw [r1] at this;omega
    have hzz:=h z (by omega)
    have e2:c 2=0:=by
      have:c 0*tX z+(c 1*tY z+(c 2*kP (px 0) (py 0) px py z+0))=0:=hzz
      rw [e0,e1,Int.zero_mul,Int.zero_mul,Int.zero_add,Int.zero_add,Int.add_zero] at this
      rcases Int.mul_eq_zero.1 this with h | h
      · exact h
      · exact absurd h hzr
    intro t ht
    rcases (show t=0∨t=1∨t=2 by omega) with e | e | e<;>(subst e;assumption)
  · have z0:v 0=0:=hv 0 (by omega)
    have z1:v 1=0:=hv 1 (by omega)
    have z2:v z=0:=hv 2 (by omega)
    have hc:=h.ch j 0 hj (by omega)
    have hc:(px j - px 0 - (px 0 - px 0))*(v (2*j) - v 0 - (v (2*0) - v 0))+(py j - py 0 - (py 0 - py 0))*(v (2*j+1) - v 1 - (v (2*0+1) - v 1))=0:=hc
    simp only [Nat.mul_zero,Nat.zero_add,z0,z1,Int.sub_self,Int.sub_zero] at hc
    have hu:v (2*j)=0∧v (2*j+1)=0:=by
      rcases hz with ⟨e,hy⟩ | ⟨e,hx,hy⟩
      · rw [e] at z2
        rw [z2,Int.mul_zero,Int.zero_add] at hc
        rcases Int.mul_eq_zero.1 hc with h | h
        · omega
        · exact ⟨z2,h⟩
      · rw [e] at z2
        rw [z2,Int.mul_zero,Int.add_zero] at hc
        rcases Int.mul_eq_zero.1 hc with h | h
        · omega
        · exact ⟨h,z2⟩
    have hone:=Trv.all_onej h ⟨by show px 0 - px 0=0;omega,by show py 0 - py 0=0;omega,by show v (2*0) - v 0=0;simp,by show v (2*0+1) - v 1=0;simp⟩ hj (by
      show px j - px 0≠0∨py j - py 0≠0
      rcases hne with h | h
      · exact .inl (by omega)
      · exact .inr (by omega))
    have hden:(px j - px 0)*(px j - px 0)+(py j - py 0)*(py j - py 0)≠0:=by
      have:=Trv.sum_sq_pos (a:=px j - px 0) (b:=py j - py 0) (by
        rcases hne with h | h
        · exact .inl (by omega)
        · exact .inr (by omega))
      omega
    refine vS (fun i hi=>?_)
    obtain ⟨a1,a2⟩:=hone i hi
    have a1:(v (2*i) - v 0)*((px j - px 0)*(px j - px 0)+(py j - py 0)*(py j - py 0)) = -((v (2*j+1) - v 1)*(px j - px 0) - (v (2*j) - v 0)*(py j - py 0))*(py i - py 0):=a1
    have a2:(v (2*i+1) - v 1)*((px j - px 0)*(px j - px 0)+(py j - py 0)*(py j - py 0))=((v (2*j+1) - v 1)*(px j - px 0) - (v (2*j) - v 0)*(py j - py 0))*(px i - px 0):=a2
    rw [hu.1,hu.2,z0,z1] at a1
    rw [hu.1,hu.2,z0,z1] at a2
    simp only [Int.sub_zero,Int.zero_mul,Int.sub_self,Int.neg_zero] at a1 a2
    rcases Int.mul_eq_zero.1 a1 with h | h
    · rcases Int.mul_eq_zero.1 a2 with h' | h'
      · exact ⟨h,h'⟩
      · exact absurd h' hden
    · exact absurd h hden
theorem Bars.rk_dim (h:Bars P nb A B px py) {tv:Nat} (hd:Dim P px py tv):tv+Bars.RK P nb A B px py≤2*P:=by
  refine Nat.not_lt.1 (fun hl=>?_)
  obtain ⟨c,⟨t,ht,hc⟩,hz⟩:=vL h.tame (by decide) (fun i hi=>h.norm hi) h.k0 (k:=tv) (a:=tT px py) hl (fun t _ i hi=>h.tT0 t hi)
  exact hc (hd.ind c hz t ht)
theorem Bars.all_triv (h:Bars P nb A B px py) {tv:Nat} (hd:Dim P px py tv) (ha:∀ j,j<(nul (2*P) nb (rg A B px py)).1→nT P px py ((nul (2*P) nb (rg A B px py)).2 j)):tv+Bars.RK P nb A B px py=2*P:=by
  have h1:=h.rk_dim hd
  have hn:=Db h.tame (by decide) (fun i hi=>h.norm hi) h.k0
  refine Classical.byContradiction fun hne=>?_
  have hlt:tv<(nul (2*P) nb (rg A B px py)).1:=by
    have:(nul (2*P) nb (rg A B px py)).1+Bars.RK P nb A B px py=2*P:=hn
    omega
  obtain ⟨q,hq⟩:=hd.det
  obtain ⟨c,⟨t,ht,hc⟩,hz⟩:=lr tv (nul (2*P) nb (rg A B px py)).1 hlt (fun i j=>(nul (2*P) nb (rg A B px py)).2 i (q j))
  have hg:=hq (fun w=>rs (fun t=>c t*(nul (2*P) nb (rg A B px py)).2 t w) 0 (nul (2*P) nb (rg A B px py)).1) (mO _ ha) hz
  exact hc (CG h.tame (by decide) (fun i hi=>h.norm hi) h.k0 hg t ht)
theorem Bars.triv_all (h:Bars P nb A B px py) (hP:1≤P) {tv:Nat} (hd:Dim P px py tv) (hr:tv+Bars.RK P nb A B px py=2*P) {j:Nat} (hj:j<(nul (2*P) nb (rg A B px py)).1):nT P px py ((nul (2*P) nb (rg A B px py)).2 j):=by
  have hk:=vp h.tame (by decide) (fun i hi=>h.norm hi) h.k0 hj
  generalize (nul (2*P) nb (rg A B px py)).2 j=v at hk ⊢
  have hlt:2*P<tv+1+(rrun nb (rini (rg A B px py)) (2*P)).r:=by
    have:tv+(rrun nb (rini (rg A B px py)) (2*P)).r=2*P:=hr
    omega
  obtain ⟨c,⟨t,ht,hc⟩,hz⟩:=vL h.tame (by decide) (fun i hi=>h.norm hi) h.k0 (k:=tv+1) (a:=fun t=>if t=tv then v else tT px py t) hlt (fun t _ i hi=>by
    show dt (rg A B px py i) (if t=tv then v else tT px py t) (2*P)=0
    split
    · exact hk i hi
    · exact h.tT0 t hi)
  have hs:∀ w,w<2*P→rs (fun t=>c t*tT px py t w) 0 tv+c tv*v w=0:=fun w hw=>by
    have h1:=hz w hw
    rw [dv,Nat.zero_add,if_pos rfl] at h1
    rw [← h1]
    congr 1
    exact dA _ _ (fun t _ ht=>by rw [if_neg (show ¬ t=tv by omega)])
  have h0:c tv≠0:=fun h0=>by
    have:=hd.ind c (fun w hw=>by have:=hs w hw;rw [h0,Int.zero_mul,Int.add_zero] at this;exact this)
    by_cases e:t=tv
    · rw [e] at hc;exact hc h0
    · exact hc (this t (by omega))
  refine zf h0 (BS hP (mO (a:=tT px py) (c:=fun t=>-c t) tv (fun t _=>Cw t)) (fun w hw=>?_))
  have h1:=hs w hw
  have h2:=up (f:=fun t=>c t*tT px py t w) (h:=fun t=>-c t*tT px py t w) (s:=-1) tv 0 (fun t _ _=>by grind)
  show rs (fun t=>-c t*tT px py t w) 0 tv=c tv*v w
  omega
end
end Go.Proofs.YtbdgmpfdlgnkkaaGreat.Had
namespace Go.Proofs.YtbdgmpfdlgnkkaaGreat.Mach
open Go
def FJ (x y:Int):St:=⟨[.p (.int .i64 x),.p (.int .i64 y)]++List.replicate 24 ag,[],0⟩
def qq (v:Nat→Int) (s:Int) (k j:Nat):Int:=if j<k then (v j).tdiv s else v j
def CB (n:Nat) (v:Nat→Int) (g f:Int) (i:Nat):St :=
  ⟨[gM n v,.p .any,.p .any,.ar 1 0 0 n,.p (.int .i64 g),.p (.int .i64 f)]++List.replicate 5 ag++[gM n v,.p (.int .i64 n),.p (.int .i64 i)]++List.replicate 36 ag,[(0,aY n v)],1⟩
def EY (n:Nat) (v:Nat→Int) (s:Int) (k:Nat):St :=
  ⟨[.p .any,.p .any,.p .any,.ar 1 0 0 n,.p (.int .i64 s)]++List.replicate 30 ag++[.p (.int .i64 n),.p (.int .i64 k)]++List.replicate 13 ag,[(0,aY n (qq v s k))],1⟩
theorem Nk (x:Int) :
    zS Tryz.f122 [rg 1,rg 7] [jI x] [] [] (jB false) =
    some (let A:Bool:=decide (x>9000000000000000000);[(AG (!A)),((A=false)→((!A)=true)),((bif A then true else decide (x < -9000000000000000000))=false)]):=by kernel_rfl
theorem Np (a b:Int) :
    zT Tryz.f123 [rg 1,rm [(1,oc [] (jB false)),(2,oc [] (jB false))] 1,.dec false,rg 10,.head] [jI a,jI b] [] (FJ (a.natAbs:Int) (b.natAbs:Int)) =
    some (Ap,[zE 122 [jI a] [] (jB false),(AG (!false)),(((!false)=true)→zE 122 [jI b] [] (jB false)),((false=false)→((!false)=true)),((bif false then true else false)=false),(ax (0 - a)),(au (0 - a)),(ax (0 - b)),(au (0 - b)),(((if true=true then if 0 - a>a then 0 - a else a else if 0 - a<a then 0 - a else a):Int)=(a.natAbs:Int)),(((if true=true then if 0 - b>b then 0 - b else b else if 0 - b<b then 0 - b else b):Int)=(b.natAbs:Int))]):=by kernel_rfl
theorem Kn (x y:Int) :
    zM 0 [rg 2,.dec true,rg 6,.head] Ap (FJ x y) [] 1 (FJ y (x % y)) =
    some (Ap,[((y != 0)=true),(IL 0 x),(IT 0 y),(AI y),(AI ((x % y)))]):=by kernel_rfl
theorem J0 (x y:Int) :
    zP Tryz.f123 0 [rg 2,.dec false,rg 2] Ap (FJ x y) [] 1 [] (jI x) =
    some [((y != 0)=false),(AI x)]:=by kernel_rfl
theorem LN (n:Nat) (v:Nat→Int) :
    zT Tryz.f111 [rg 1,rm [(1,oc [(0,aY n v)] (.ar 1 0 0 n))] 1,rg 2,rg 3,.head] [gM n v] [64] (CB n v 0 0 0) =
    some (pP,zD [zE 65 [.p (.seq true 1 n (fun i=>[.int .i64 (v i)]))] [(0,⟨false,1,n,(fun i=>[.p (.int .i64 (v i))])⟩)] (.ar 1 0 0 n),(AN n),(AP n (fun i=>[.int .i64 (v i)])),(AN 0),(AI 0),(AI ((n:Int))),((0:Int)=(↑0:Int)),(AN 1),(NL n n),(AA n (fun i=>[.p (.int .i64 (v i))]))] [0,1,2,3,1,4,4,1,2,5,6,7,8,9]):=by kernel_rfl
theorem Kl (n:Nat) (v:Nat→Int) (g g' f:Int) (i:Nat) :
    zM 0 [rg 1,.dec true,rg 3,rm [(1,oc [] (jB false))] 0,.dec false,rm [(2,oc [] (jI g'))] 1,rg 2,.dec true,rg 2,rg 2,.head] pP (CB n v g f i) [0] 1 (CB n v g' (v i) (i+1)) =
    some (pP,[((decide ((i:Int)<(n:Int)))=true),(IL 0 (i:Int)),(IT (i:Int) (n:Int)),zE 122 [jI (v i)] [] (jB false),(false=false),zE 123 [jI g,jI (v i)] [] (jI g'),((f==0)=true),(ax ((i:Int)+1)),(au ((i:Int)+1)),(AN n),(AP n (fun i_1=>[.int .i64 (v i_1)])),(AN 0),(AN n),(AI (g')),(AI ((v i))),(AN n),(AP n (fun i_1=>[.int .i64 (v i_1)])),(AI ((n:Int))),((((i:Int)+1):Int)=(↑(i+1):Int)),(AN 1),(NL n n),(AA n (fun i_1=>[.p (.int .i64 (v i_1))]))]):=by kernel_rfl
theorem K9 (n:Nat) (v:Nat→Int) (g g' f:Int) (i:Nat) :
    zM 0 [rg 1,.dec true,rg 3,rm [(1,oc [] (jB false))] 0,.dec false,rm [(2,oc [] (jI g'))] 1,rg 2,.dec false,rg 2,.head] pP (CB n v g f i) [0] 1 (CB n v g' f (i+1)) =
    some (pP,[((decide ((i:Int)<(n:Int)))=true),(IL 0 (i:Int)),(IT (i:Int) (n:Int)),zE 122 [jI (v i)] [] (jB false),(false=false),zE 123 [jI g,jI (v i)] [] (jI g'),((f==0)=false),(ax ((i:Int)+1)),(au ((i:Int)+1)),(AN n),(AP n (fun i_1=>[.int .i64 (v i_1)])),(AN 0),(AN n),(AI (g')),(AI f),(AN n),(AP n (fun i_1=>[.int .i64 (v i_1)])),(AI ((n:Int))),((((i:Int)+1):Int)=(↑(i+1):Int)),(AN 1),(NL n n),(AA n (fun i_1=>[.p (.int .i64 (v i_1))]))]):=by kernel_rfl
theorem MY (n:Nat) (v r:Nat→Int) (g f:Int) (i:Nat) :
    zP Tryz.f111 0 [rg 1,.dec false,rg 2,.dec true,rg 2] pP (CB n v g f i) [0] 1 [(0,aY n r)] (.ar 1 0 0 n) =
    some [((decide ((i:Int)<(n:Int)))=false),((g==0)=true),(AN 0),(AN n),(AN 1),(NL n n),(∀ i_1:Nat,(((i_1:Nat)<n)→(af []∧(([.p (.int .i64 (v i_1))]:List AV)=[.p (.int .i64 (r i_1))])))),(AE n)]:=by kernel_rfl
theorem M1 (n:Nat) (v:Nat→Int) (g f:Int) (i:Nat) :
    zM 0 [rg 1,.dec false,rg 2,.dec false,rg 2,.dec true,rg 3,rg 3,.head] pP (CB n v g f i) [0] 1 (EY n v (-g) 0) =
    some (xG,[((decide ((i:Int)<(n:Int)))=false),((g==0)=false),((decide (f<0))=true),(ax (0 - g)),(au (0 - g)),(AN 0),(AN n),(((0 - g):Int)=(-g)),(AI ((n:Int))),((0:Int)=(↑0:Int)),(AN 1),(NL n n),(∀ i_1:Nat,(((i_1:Nat)<n)→(af []∧(([.p (.int .i64 (v i_1))]:List AV)=[.p (.int .i64 (qq v (-g) 0 i_1))]))))]):=by kernel_rfl
theorem Nh (n:Nat) (v:Nat→Int) (g f:Int) (i:Nat) :
    zM 0 [rg 1,.dec false,rg 2,.dec false,rg 2,.dec false,rg 3,.head] pP (CB n v g f i) [0] 1 (EY n v g 0) =
    some (xG,[((decide ((i:Int)<(n:Int)))=false),((g==0)=false),((decide (f<0))=false),(AN 0),(AN n),(AI g),(AI ((n:Int))),((0:Int)=(↑0:Int)),(AN 1),(NL n n),(∀ i_1:Nat,(((i_1:Nat)<n)→(af []∧(([.p (.int .i64 (v i_1))]:List AV)=[.p (.int .i64 (qq v g 0 i_1))]))))]):=by kernel_rfl
theorem Lc (n:Nat) (v:Nat→Int) (s:Int) (k:Nat) :
    zM 0 [rg 1,.dec true,rg 2,rm [(7,oF)] 2,rg 2,.head] xG (EY n v s k) [0] 1 (EY n v s (k+1)) =
    some (xG,zD [((decide ((k:Int)<(n:Int)))=true),(IL 0 (k:Int)),(IT (k:Int) (n:Int)),(NT k n),((s:Int)≠0),((false=true)→((n:Nat)=1)),(ax ((k:Int)+1)),(au ((k:Int)+1)),(AN 0),(AN n),(AI s),(AI ((n:Int))),((((k:Int)+1):Int)=(↑(k+1):Int)),(AN 1),(NL n n),(∀ i:Nat,(((i:Nat)<n)→(af (ay false [(0,⟨false,1,n,(fun i_1=>(if (i_1=k) then [.p (.int .i64 (IntKind.i64.wrap ((qq v s k k).tdiv s)))] else [.p (.int .i64 (qq v s k i_1))]))⟩)] [0] 1 (if (i=k) then [.p (.int .i64 (IntKind.i64.wrap ((qq v s k k).tdiv s)))] else [.p (.int .i64 (qq v s k i))])).2∧(((ay false [(0,⟨false,1,n,(fun i_1=>(if (i_1=k) then [.p (.int .i64 (IntKind.i64.wrap ((qq v s k k).tdiv s)))] else [.p (.int .i64 (qq v s k i_1))]))⟩)] [0] 1 (if (i=k) then [.p (.int .i64 (IntKind.i64.wrap ((qq v s k k).tdiv s)))] else [.p (.int .i64 (qq v s k i))])).1:List AV)=[.p (.int .i64 (qq v s (k+1) i))]))))] [0,1,2,3,4,1,2,3,5,6,7,8,9,10,11,12,13,14,15]):=by kernel_rfl
theorem MQ (n:Nat) (v r:Nat→Int) (s:Int) (k:Nat) :
    zP Tryz.f111 0 [rg 1,.dec false,rg 2] xG (EY n v s k) [0] 1 [(0,aY n r)] (.ar 1 0 0 n) =
    some [((decide ((k:Int)<(n:Int)))=false),(AN 0),(AN n),(AN 1),(NL n n),(∀ i:Nat,(((i:Nat)<n)→(af []∧(([.p (.int .i64 (qq v s k i))]:List AV)=[.p (.int .i64 (r i))])))),(AE n)]:=by kernel_rfl
theorem gu {x:Int} (h:x*x≤2 ^ 124):zE 122 [.p (.int .i64 x)] [] (.p (.bool false)):=by
  have hb:=Had.sq_le (y:=2 ^ 62) (by decide) h
  refine aW Tryz.func122 (fun c hc=>?_)
  have d1:decide (x>9000000000000000000)=false:=decide_eq_false (by omega)
  have d2:decide (x < -9000000000000000000)=false:=decide_eq_false (by omega)
  refine be Tryz.func122 hc (Nk x) ?_
  and_intros
  all_goals (first | exact zH | (rw [d1,d2];rfl) | (rw [d1];rfl) | (intros;rw [d1];rfl))
theorem vg {x:Int} (h:x*x≤2 ^ 124):x.natAbs≤2 ^ 62:=by
  have:=Had.sq_le (y:=2 ^ 62) (by decide) h
  omega
theorem EI {x:Nat} (h:x≤2 ^ 62):(x:Int)*(x:Int)≤2 ^ 124:=by
  have:=Int.mul_le_mul (show (x:Int)≤2 ^ 62 by omega) (show (x:Int)≤2 ^ 62 by omega) (by omega) (by omega)
  exact this
theorem A7 (x y:Nat):Nat.gcd x y=Nat.gcd y (x % y):=by rw [Nat.gcd_comm,Nat.gcd_rec,Nat.gcd_comm]
theorem xp {a b:Int} (ha:a*a≤2 ^ 124) (hb:b*b≤2 ^ 124):zE 123 [.p (.int .i64 a),.p (.int .i64 b)] [] (.p (.int .i64 (Int.gcd a b:Nat))):=by
  have c1:=gu ha
  have c2:=gu hb
  have na:=vg ha
  have nb:=vg hb
  refine aW Tryz.func123 (fun c hc=>?_)
  have lo:∀ m (x y:Nat),y≤m→x≤2 ^ 62→y≤2 ^ 62→Nat.gcd x y=Int.gcd a b→zR c 123 Ap (FJ x y) (aS c [] (.p (.int .i64 (Int.gcd a b:Nat)))):=by
    intro m
    induction m with
    | zero =>
      intro x y hy hx _ hg
      obtain rfl:y=0:=by omega
      have e:x=Int.gcd a b:=by rw [← hg,Nat.gcd_zero_right]
      rw [← e]
      refine be Tryz.func123 hc (J0 x (0:Nat)) ?_
      and_intros
      all_goals (first | exact zN | rfl)
    | succ m ih =>
      intro x y hy hx hyb hg
      by_cases h0:y=0
      · subst h0
        have e:x=Int.gcd a b:=by rw [← hg,Nat.gcd_zero_right]
        rw [← e]
        refine be Tryz.func123 hc (J0 x (0:Nat)) ?_
        and_intros
        all_goals (first | exact zN | rfl)
      · have hm:x % y<y:=Nat.mod_lt _ (by omega)
        have hr:=ih y (x % y) (by omega) hyb (by omega) (by rw [← A7];exact hg)
        rw [show ((x % y:Nat):Int)=(x:Int) % (y:Int) from rfl] at hr
        have hd:((y:Int) != 0)=true:=by simp;omega
        refine cW hc (Kn x y) ?_ hr
        and_intros
        all_goals (first | exact zN | (exact hd))
  have hr:=lo _ a.natAbs b.natAbs (Nat.le_refl _) na nb rfl
  refine cW hc (Np a b) ?_ hr
  and_intros
  all_goals (first | exact zH | (exact c1) | (intros;exact c2) | (intros;rfl) | (simp;done) | (simp only [if_true];split<;>omega))
theorem pA {v:Nat→Int}:∀ n,(∀ k,k<n→v k*v k≤2 ^ 124)→Had.gcdn v n≤2 ^ 62
  | 0,_=>Nat.zero_le _
  | n+1,h=>by
    have h1:=pA n (fun k hk=>h k (by omega))
    have h2:=vg (h n (by omega))
    rw [Had.gcdn]
    by_cases h0:(v n).natAbs=0
    · rw [h0,Nat.gcd_zero_right];exact h1
    · exact Nat.le_trans (Nat.gcd_le_right _ (by omega)) h2
theorem oZ {s x:Int} (hd:s ∣ x) (h0:s≠0) (h:x*x≤2 ^ 124):IntKind.wrap .i64 (x.tdiv s)=x.tdiv s:=by
  obtain ⟨q,rfl⟩:=hd
  rw [Int.mul_tdiv_cancel_left _ h0]
  have h1:=Int.le_trans (Had.mul_abs_le (x:=q) h0) h
  have:=Had.sq_le (y:=2 ^ 62) (by decide) h1
  exact ew (by simp only [lv];omega) (by simp only [jF];omega)
theorem Fs {n:Nat} {v:Nat→Int} (h:Had.gcdn v n≠0) (k:Nat):Had.prm n v k=(v k).tdiv (Had.sgc v n):=by unfold Had.prm;rw [if_neg h]
theorem FM {n:Nat} {v:Nat→Int} (h:Had.gcdn v n=0) (k:Nat):Had.prm n v k=v k:=by unfold Had.prm;rw [if_pos h]
theorem tL (n:Nat) (v:Nat→Int) (hn:n≤1000) (hv:∀ k,k<n→v k*v k≤2 ^ 124) :
    zE 111 [gM n v] [(0,aY n (Had.prm n v))] (.ar 1 0 0 n):=by
  have cc:=cG n v (by omega)
  refine aW Tryz.func111 (fun c hc=>?_)
  have hg:=pA n hv
  have l2:∀ d k,k+d=n→Had.gcdn v n≠0→zR c 111 xG (EY n v (Had.sgc v n) k) (aS c [(0,aY n (Had.prm n v))] (.ar 1 0 0 n)):=by
    intro d
    induction d with
    | zero =>
      intro k hk h0
      have hd:decide ((k:Int)<(n:Int))=false:=decide_eq_false (by omega)
      refine be Tryz.func111 hc (MQ n v (Had.prm n v) (Had.sgc v n) k) ?_
      repeat' (first | exact aN | apply aI)
      iterate 2 all_goals (first | exact zN | (exact hd) | (intro t ht;refine ⟨True.intro,?_⟩;rw [Fs h0,qq,if_pos (by omega)]) | (intro t ht;simp [af];done) | simp only [af])
    | succ d ih =>
      intro k hk h0
      have hd:decide ((k:Int)<(n:Int))=true:=decide_eq_true (by omega)
      have h1:=oZ (Had.sgc_dvd v n (show k<n by omega)) (Had.sgc_0 h0) (hv k (by omega))
      have h2:qq v (Had.sgc v n) k k=v k:=by unfold qq;rw [if_neg (by omega)]
      have h3:=Had.sgc_0 h0
      refine a9 hc (Lc n v (Had.sgc v n) k) ?_ (ih (k+1) (by omega) h0)
      and_intros
      all_goals (first | exact zI | (exact hd) | (exact h3) | (intro t ht;rw [h2,h1];by_cases h':t=k<;>(simp [h',qq,Nat.lt_succ_iff_lt_or_eq,ay,bh,tg,bu,af];done)))
  have l1:∀ d i,i+d=n→zR c 111 pP (CB n v (Had.gcdn v i:Nat) (Had.fst0 v i) i) (aS c [(0,aY n (Had.prm n v))] (.ar 1 0 0 n)):=by
    intro d
    induction d with
    | zero =>
      intro i hi
      obtain rfl:i=n:=by omega
      have hd:decide ((i:Int)<(i:Int))=false:=decide_eq_false (by omega)
      by_cases h0:Had.gcdn v i=0
      · have hz:(((Had.gcdn v i:Nat):Int)==0)=true:=by rw [h0];rfl
        refine be Tryz.func111 hc (MY i v (Had.prm i v) (Had.gcdn v i:Nat) (Had.fst0 v i) i) ?_
        repeat' (first | exact aN | apply aI)
        iterate 2 all_goals (first | exact zN | (exact hd) | (exact hz) | (intro t ht;refine ⟨True.intro,?_⟩;rw [FM h0]) | (intro t ht;simp [af];done) | simp only [af])
      · have hz:(((Had.gcdn v i:Nat):Int)==0)=false:=by simp;omega
        by_cases hf:Had.fst0 v i<0
        · have hf':decide (Had.fst0 v i<0)=true:=decide_eq_true hf
          have hr:=l2 i 0 (by omega) h0
          rw [show Had.sgc v i = -((Had.gcdn v i:Nat):Int) by unfold Had.sgc;rw [if_pos hf]] at hr
          refine cW hc (M1 i v (Had.gcdn v i:Nat) (Had.fst0 v i) i) ?_ hr
          and_intros
          iterate 2 all_goals (first | exact zN | (exact hd) | (exact hz) | (exact hf') | (intro t ht;simp [af,qq];done) | simp only [af])
        · have hf':decide (Had.fst0 v i<0)=false:=decide_eq_false hf
          have hr:=l2 i 0 (by omega) h0
          rw [show Had.sgc v i=((Had.gcdn v i:Nat):Int) by unfold Had.sgc;rw [if_neg hf]] at hr
          refine cW hc (Nh i v (Had.gcdn v i:Nat) (Had.fst0 v i) i) ?_ hr
          and_intros
          iterate 2 all_goals (first | exact zN | (exact hd) | (exact hz) | (exact hf') | (intro t ht;simp [af,qq];done) | simp only [af])
    | succ d ih =>
      intro i hi
      have hd:decide ((i:Int)<(n:Int))=true:=decide_eq_true (by omega)
      have cg:=gu (hv i (by omega))
      have cd:=xp (a:=(Had.gcdn v i:Nat)) (b:=v i) (EI (pA i (fun k hk=>hv k (by omega)))) (hv i (by omega))
      rw [show Int.gcd ((Had.gcdn v i:Nat):Int) (v i)=Had.gcdn v (i+1) from rfl] at cd
      have hr:=ih (i+1) (by omega)
      by_cases hf:Had.fst0 v i=0
      · have hf':(Had.fst0 v i==0)=true:=by simp [hf]
        rw [show Had.fst0 v (i+1)=v i by rw [Had.fst0,if_pos hf]] at hr
        refine cW hc (Kl n v (Had.gcdn v i:Nat) (Had.gcdn v (i+1):Nat) (Had.fst0 v i) i) ?_ hr
        and_intros
        all_goals (first | exact zN | (exact hd) | (exact cg) | (exact cd) | (exact hf') | (intro t ht;simp [af];done))
      · have hf':(Had.fst0 v i==0)=false:=by simp [hf]
        rw [show Had.fst0 v (i+1)=Had.fst0 v i by rw [Had.fst0,if_neg hf]] at hr
        refine cW hc (K9 n v (Had.gcdn v i:Nat) (Had.gcdn v (i+1):Nat) (Had.fst0 v i) i) ?_ hr
        and_intros
        all_goals (first | exact zN | (exact hd) | (exact cg) | (exact cd) | (exact hf') | (intro t ht;simp [af];done))
  refine a9 hc (LN n v) ?_ (l1 n 0 (by omega))
  and_intros
  all_goals (first | exact zN | (exact cc) | (intro t ht;simp [af];done))
def pT (n:Nat) (C:Nat→ad):AV:=.p (.seq true 1 n (fun i=>[.seq true 1 (C i).1 (fun s=>[.int .i64 ((C i).2 s)])]))
def dV (F m:Nat) (C:Nat→ad):Ob:=⟨false,1,m,fun i=>[.ar 1 ⟨F,some i⟩ 0 (C i).1]⟩
def ed (m:Nat) (C:Nat→ad):Ob:=⟨true,0,m,fun i=>[.p (.seq false 1 (C i).1 (fun s=>[.int .i64 ((C i).2 s)]))]⟩
def F8 (m:Nat) (C:Nat→ad) (i:Nat):St:=⟨[.p .any,.p .any,.p .any,.ar 1 0 0 i,.p .any,.p .any,.p .any,pT m C,.p (.int .i64 m),.p (.int .i64 i)]++List.replicate 10 ag,[(0,dV 1 i C),(1,ed i C)],2⟩
def cM (n:Nat) (M:Nat→Nat→Int) (i:Nat):ad:=(n,M i)
def mH (n m:Nat) (M:Nat→Nat→Int) (r:Nat) (p:Nat→Int):Hp:=[(0,dV 1 m (cM n M)),(1,ed m (cM n M)),(2,aY r p)]
def R0 (n m:Nat) (M:Nat→Nat→Int) (r:Nat) (p:Nat→Int) (d:Int) (c:Nat):St :=
  ⟨[.p .any,.p (.int .i64 n),.p .any,.p .any,.p .any,.p .any,.p .any,.ar 1 0 0 m,.ar 1 2 0 r,.p (.int .i64 d),.p (.int .i64 c)]++List.replicate 121 ag,mH n m M r p,3⟩
def R1 (n m:Nat) (M:Nat→Nat→Int) (r:Nat) (p:Nat→Int) (d:Int) (c i:Nat):St :=
  ⟨[.p .any,.p (.int .i64 n),.p .any,.p .any,.p .any,.p .any,.p .any,.ar 1 0 0 m,.ar 1 2 0 r,.p (.int .i64 d),.p (.int .i64 c),.p (.int .i64 r),.p (.int .i64 i)]++List.replicate 119 ag,mH n m M r p,3⟩
def R2 (n m:Nat) (M:Nat→Nat→Int) (r:Nat) (p:Nat→Int) (d:Int) (c:Nat) (x:Int) (i:Nat):St :=
  ⟨[.p .any,.p (.int .i64 n),.p .any,.p .any,.p .any,.p .any,.p .any,.ar 1 0 0 m,.ar 1 2 0 r,.p (.int .i64 d),.p (.int .i64 c),.p (.int .i64 r),.p .any,.p (.int .i64 x)]++List.replicate 63 ag++[.p (.int .i64 m),.p (.int .i64 i)]++List.replicate 53 ag,mH n m M r p,3⟩
def R3 (n m:Nat) (M:Nat→Nat→Int) (r:Nat) (p:Nat→Int) (d:Int) (c:Nat) (x:Int) (i:Nat) (f:Int) (k:Nat):St :=
  ⟨[.p .any,.p (.int .i64 n),.p .any,.p .any,.p .any,.p .any,.p .any,.ar 1 0 0 m,.ar 1 2 0 r,.p (.int .i64 d),.p (.int .i64 c),.p (.int .i64 r),.p .any,.p (.int .i64 x),.p (.int .i64 i),.p (.int .i64 f)]++List.replicate 61 ag++[.p (.int .i64 m),.p (.int .i64 i)]++List.replicate 12 ag++[.p (.int .i64 n),.p (.int .i64 k)]++List.replicate 39 ag,mH n m M r p,3⟩
def sI (r q:Nat):Nat→Nat:=Had.sw (fun i=>i) r q
theorem J4 (m:Nat) (C:Nat→ad) :
    zT Tryz.f110 [rg 1,rg 2,rg 3,.head] [pT m C] [32] (F8 m C 0) =
    some (zz,[(AN 0),(AN 0),(AN m),(AP m (fun i=>[.seq true 1 ((C i).1) (fun i_1=>[.int .i64 ((C i).2 i_1)])])),(AI ((m:Int))),((0:Int)=(↑0:Int)),(AN 1),(NL 0 0),(∀ i:Nat,(((i:Nat)<0)→(af []∧(([.p (.nil)]:List AV)=[.ar 1 ⟨1,some i⟩ 0 ((C i).1)])))),(AN 0)]):=by kernel_rfl
theorem NU (m:Nat) (C:Nat→ad) (i:Nat) :
    zM 0 [rg 1,.dec true,rg 3,rm [(2,oc [(0,aY (C i).1 (C i).2)] (.ar 1 0 0 (C i).1))] 3,rg 2,.head] zz (F8 m C i) [258,.ins 1 i 194] 1 (F8 m C (i+1)) =
    some (zz,[((decide ((i:Int)<(m:Int)))=true),(IL 0 (i:Int)),(IT (i:Int) (m:Int)),zE 65 [.p (.seq true 1 ((C i).1) (fun i_1=>[.int .i64 ((C i).2 i_1)]))] [(0,⟨false,1,((C i).1),(fun i_1=>[.p (.int .i64 ((C i).2 i_1))])⟩)] (.ar 1 0 0 ((C i).1)),(NL 1 1),(NL i i),(NL ((i+1)*24) 140737488355328),(NL (i+1) 9223372036854775807),(ax ((i:Int)+1)),(au ((i:Int)+1)),(AN 0),(AN ((i+1))),(AN m),(AP m (fun i_1=>[.seq true 1 ((C i_1).1) (fun i_2=>[.int .i64 ((C i_1).2 i_2)])])),(AI ((m:Int))),((((i:Int)+1):Int)=(↑(i+1):Int)),(AN 1),(NL (i+1) (i+1)),(CV [(258,⟨false,1,(i+1),(fun i_2=>(if (i_2<i) then [.ar 1 ⟨1,some i_2⟩ 0 ((C i_2).1)] else [.ar 1 194 0 ((C i).1)]))⟩),(226,⟨false,1,1,(fun i_2=>[.ar 1 194 0 ((C i).1)])⟩),(194,⟨false,1,((C i).1),(fun i_2=>[.p (.int .i64 ((C i).2 i_2))])⟩),(1,⟨true,0,i,(fun i_2=>[.p (.seq false 1 ((C i_2).1) (fun i_3=>[.int .i64 ((C i_2).2 i_3)]))])⟩)] [258,.ins 1 i 194] 1 (i+1) (fun i_1=>if (i_1<i) then [.ar 1 ⟨1,some i_1⟩ 0 ((C i_1).1)] else [.ar 1 194 0 ((C i).1)]) (fun i_1=>[.ar 1 ⟨1,some i_1⟩ 0 ((C i_1).1)])),(∀ i_1:Nat,(((i_1:Nat)<(i+1))→(((i_1:Nat)≠i)→(((i_1:Nat)<i)∧af [(AN 1),((((C i_1).1):Nat)≤((C i_1).1)),(AP (((C i_1).1)) (fun r=>[.int .i64 ((C i_1).2 r)]))])))),(((i:Nat)<(i+1))→af [(AN 1),((((C i).1):Nat)≤((C i).1)),(AP (((C i).1)) (fun r=>[.int .i64 ((C i).2 r)]))])]):=by kernel_rfl
theorem Kz (m:Nat) (C:Nat→ad) (i:Nat) :
    zP Tryz.f110 0 [rg 1,.dec false,rg 2] zz (F8 m C i) [0,1] 1 [(0,dV 1 i C),(1,ed i C)] (.ar 1 0 0 i) =
    some [((decide ((i:Int)<(m:Int)))=false),(AN 0),(AN i),(AN 1),(NL i i),(AA i (fun i_1=>[.ar 1 ⟨1,some i_1⟩ 0 ((C i_1).1)])),(NL i i),(∀ i_1:Nat,(((i_1:Nat)<i)→af [(AN 1),((((C i_1).1):Nat)≤((C i_1).1)),(AP (((C i_1).1)) (fun r=>[.int .i64 ((C i_1).2 r)]))])),(AE i),(∀ i_1:Nat,(((i_1:Nat)<i)→af [(false=false),(AE (((C i_1).1)))]))]:=by kernel_rfl
theorem Nw (n m:Nat) (M:Nat→Nat→Int) :
    zT Tryz.f84 [rg 3,rm [(1,oc [(0,dV 1 m (cM n M)),(1,ed m (cM n M))] (.ar 1 0 0 m))] 1,rg 2,rg 1,rg 1,.head] [pT m (cM n M),jI n] [128,129,192] (R0 n m M 0 (fun _=>0) 1 0) =
    some (u6,[zE 110 [.p (.seq true 1 m (fun i=>[.seq true 1 n (fun i_1=>[.int .i64 ((cM n M i).2 i_1)])]))] [(0,⟨false,1,m,(fun i=>[.ar 1 ⟨1,some i⟩ 0 n])⟩),(1,⟨true,0,m,(fun i=>[.p (.seq false 1 n (fun i_1=>[.int .i64 ((cM n M i).2 i_1)]))])⟩)] (.ar 1 0 0 m),(AI ((n:Int))),(AN 0),(AN m),(AN 0),(AN 0),(AI 1),((0:Int)=(↑0:Int)),(AN 1),(NL m m),(AA m (fun i=>[.ar 1 ⟨1,some i⟩ 0 n])),(NL m m),(∀ i:Nat,(((i:Nat)<m)→af [(AN 1),((n:Nat)≤n),(AP n (fun r=>[.int .i64 ((cM n M i).2 r)]))])),(AN 1),(NL 0 0),(AA 0 (fun i=>[.p (.int .i64 0)]))]):=by kernel_rfl
theorem JD (n m:Nat) (M:Nat→Nat→Int) (r:Nat) (p:Nat→Int) (d:Int) (c:Nat) :
    zP Tryz.f84 0 [rg 10,.dec false,rg 6] u6 (R0 n m M r p d c) [0,1,2] 1 (mH n m M r p) (.tup [.ar 1 0 0 m,.ar 1 2 0 r,jI d]) =
    some (zD (let A:Bool:=decide ((c:Int)<(n:Int));[(AG A),((bif A then decide ((r:Int)<(m:Int)) else false)=false),(AN 0),(AN m),(AN r),(AI d),(AN 1),(NL m m),(AA m (fun i=>[.ar 1 ⟨1,some i⟩ 0 n])),(∀ i:Nat,(((i:Nat)<m)→af [(AN 1),((n:Nat)≤n),(AP n (fun r_1=>[.int .i64 ((cM n M i).2 r_1)]))])),(NL r r),(AA r (fun i=>[.p (.int .i64 (p i))])),(AE m),(∀ i:Nat,(((i:Nat)<m)→af [(false=false),(AE n)])),(AE r)]) [0,0,0,0,0,1,2,3,2,4,5,6,7,8,7,9,6,10,11,12,13,14]):=by kernel_rfl
theorem La (n m:Nat) (M:Nat→Nat→Int) (r:Nat) (p:Nat→Int) (d:Int) (c:Nat) :
    zM 0 [rg 10,.dec true,rg 3,rg 2,.head] u6 (R0 n m M r p d c) [0,1,2] 1 (R1 n m M r p d c r) =
    some (xf,zD (let A:Bool:=decide ((c:Int)<(n:Int));[(AG A),((bif A then decide ((r:Int)<(m:Int)) else false)=true),(AI ((n:Int))),(AN 0),(AN m),(AN r),(AI d),(AI ((c:Int))),(AI ((r:Int))),(AN 1),(NL m m),(AA m (fun i=>[.ar 1 ⟨1,some i⟩ 0 n])),(∀ i:Nat,(((i:Nat)<m)→af [(AN 1),((n:Nat)≤n),(AP n (fun r_1=>[.int .i64 ((cM n M i).2 r_1)]))])),(NL r r),(AA r (fun i=>[.p (.int .i64 (p i))]))]) [0,0,0,0,0,1,2,3,4,3,5,6,7,8,8,9,10,11,10,12,9,13,14]):=by kernel_rfl
theorem Ma (n m:Nat) (M:Nat→Nat→Int) (r:Nat) (p:Nat→Int) (d:Int) (c i:Nat) :
    zM 0 [rg 14,.dec true,rg 3,.head] xf (R1 n m M r p d c i) [0,1,2] 1 (R1 n m M r p d c (i+1)) =
    some (xf,zD (let A:Bool:=decide ((i:Int)<(m:Int));[(AG A),((A=true)→(IL 0 (i:Int))),((A=true)→(IT (i:Int) (m:Int))),((A=true)→(NT i m)),((A=true)→(IL 0 (c:Int))),((A=true)→(IT (c:Int) (n:Int))),((A=true)→(NT c n)),((bif A then (cM n M i).2 c==0 else false)=true),(ax ((i:Int)+1)),(au ((i:Int)+1)),(AI ((n:Int))),(AN 0),(AN m),(AN r),(AI d),(AI ((c:Int))),(AI ((r:Int))),((((i:Int)+1):Int)=(↑(i+1):Int)),(AN 1),(NL m m),(AA m (fun i_1=>[.ar 1 ⟨1,some i_1⟩ 0 n])),(∀ i_1:Nat,(((i_1:Nat)<m)→af [(AN 1),((n:Nat)≤n),(AP n (fun r_1=>[.int .i64 ((cM n M i_1).2 r_1)]))])),(NL r r),(AA r (fun i_1=>[.p (.int .i64 (p i_1))]))]) [0,0,1,2,0,3,0,0,4,5,0,3,6,0,0,7,8,9,10,11,12,11,13,14,15,16,17,18,19,20,19,21,18,22,23]):=by kernel_rfl
theorem Lv (n m:Nat) (M:Nat→Nat→Int) (r:Nat) (p:Nat→Int) (d:Int) (c i:Nat) :
    zM 0 [rg 14,.dec false,rg 4,.dec true,rg 3,.head] xf (R1 n m M r p d c i) [0,1,2] 1 (R0 n m M r p d (c+1)) =
    some (u6,zD (let A:Bool:=decide ((i:Int)<(m:Int));[(AG A),((A=true)→(IL 0 (i:Int))),((A=true)→(IT (i:Int) (m:Int))),((A=true)→(NT i m)),((A=true)→(IL 0 (c:Int))),((A=true)→(IT (c:Int) (n:Int))),((A=true)→(NT c n)),((bif A then (cM n M i).2 c==0 else false)=false),(((i:Int)==(m:Int))=true),(ax ((c:Int)+1)),(au ((c:Int)+1)),(AI ((n:Int))),(AN 0),(AN m),(AN r),(AI d),((((c:Int)+1):Int)=(↑(c+1):Int)),(AN 1),(NL m m),(AA m (fun i_1=>[.ar 1 ⟨1,some i_1⟩ 0 n])),(∀ i_1:Nat,(((i_1:Nat)<m)→af [(AN 1),((n:Nat)≤n),(AP n (fun r_1=>[.int .i64 ((cM n M i_1).2 r_1)]))])),(NL r r),(AA r (fun i_1=>[.p (.int .i64 (p i_1))]))]) [0,0,1,2,0,3,0,0,4,5,0,3,6,0,0,7,8,9,10,11,12,13,12,14,15,16,17,18,19,18,20,17,21,22]):=by kernel_rfl
theorem NM (n m:Nat) (M:Nat→Nat→Int) (r:Nat) (p:Nat→Int) (d:Int) (c q:Nat) :
    zM 0 [rg 14,.dec false,rg 4,.dec false,rg 16,.head] xf (R1 n m M r p d c q) [0,.perm 1 (sI r q) (sI r q),2] 1 (R1 n m (Had.sw M r q) r p d c q) =
    some (Gb,zD (let A:Bool:=decide ((q:Int)<(m:Int));[(AG A),((A=true)→(IL 0 (q:Int))),((A=true)→(IT (q:Int) (m:Int))),((A=true)→(NT q m)),((A=true)→(IL 0 (c:Int))),((A=true)→(IT (c:Int) (n:Int))),((A=true)→(NT c n)),((bif A then (cM n M q).2 c==0 else false)=false),(((q:Int)==(m:Int))=false),(IL 0 (q:Int)),(IT (q:Int) (m:Int)),(NT q m),(IL 0 (r:Int)),(IT (r:Int) (m:Int)),(NT r m),((false=true)→((m:Nat)=1)),(AI ((n:Int))),(AN 0),(AN m),(AN r),(AI d),(AI ((c:Int))),(AI ((r:Int))),(AI ((q:Int))),(AN 1),(NL m m),(∀ i:Nat,(((i:Nat)<m)→(af (ay false [(0,⟨false,1,m,(fun i_1=>(if (i_1=q) then [.ar 1 ⟨1,some r⟩ 0 n] else (if (i_1=r) then [.ar 1 ⟨1,some q⟩ 0 n] else [.ar 1 ⟨1,some i_1⟩ 0 n])))⟩),(1,⟨true,0,m,(fun i_1=>[.p (.seq false 1 n (fun i_2=>[.int .i64 ((cM n M i_1).2 i_2)]))])⟩),(2,⟨false,1,r,(fun i_1=>[.p (.int .i64 (p i_1))])⟩)] [0,.perm 1 (sI r q) (sI r q),2] 1 (if (i=q) then [.ar 1 ⟨1,some r⟩ 0 n] else (if (i=r) then [.ar 1 ⟨1,some q⟩ 0 n] else [.ar 1 ⟨1,some i⟩ 0 n]))).2∧(((ay false [(0,⟨false,1,m,(fun i_1=>(if (i_1=q) then [.ar 1 ⟨1,some r⟩ 0 n] else (if (i_1=r) then [.ar 1 ⟨1,some q⟩ 0 n] else [.ar 1 ⟨1,some i_1⟩ 0 n])))⟩),(1,⟨true,0,m,(fun i_1=>[.p (.seq false 1 n (fun i_2=>[.int .i64 ((cM n M i_1).2 i_2)]))])⟩),(2,⟨false,1,r,(fun i_1=>[.p (.int .i64 (p i_1))])⟩)] [0,.perm 1 (sI r q) (sI r q),2] 1 (if (i=q) then [.ar 1 ⟨1,some r⟩ 0 n] else (if (i=r) then [.ar 1 ⟨1,some q⟩ 0 n] else [.ar 1 ⟨1,some i⟩ 0 n]))).1:List AV)=[.ar 1 ⟨1,some i⟩ 0 n])))),(∀ i:Nat,(((i:Nat)<m)→((((sI r q i):Nat)<m)∧((((sI r q (sI r q i)):Nat)=i)∧af [(AN 1),((n:Nat)≤n),(∀ r_1:Nat,(((r_1:Nat)<n)→(([.int .i64 ((cM n M (sI r q i)).2 r_1)]:List PV)=[.int .i64 ((cM n (Had.sw M r q) i).2 r_1)])))])))),(NL r r),(AA r (fun i=>[.p (.int .i64 (p i))]))]) [0,0,1,2,0,3,0,0,4,5,0,3,6,0,0,7,8,9,10,11,12,13,14,12,13,14,15,9,10,11,15,16,17,18,17,19,20,21,22,23,24,25,26,27,24,28,29]):=by kernel_rfl
theorem OG (n m:Nat) (M:Nat→Nat→Int) (r:Nat) (p:Nat→Int) (d:Int) (c q:Nat) :
    zM 0 [rg 8,rg 3,.head] Gb (R1 n m M r p d c q) [0,1,2] 1 (R2 n m M r p d c (M r c) 0) =
    some (rn,[(IL 0 (r:Int)),(IT (r:Int) (m:Int)),(NT r m),(IL 0 (c:Int)),(IT (c:Int) (n:Int)),(NT r m),(NT c n),(AI ((n:Int))),(AN 0),(AN m),(AN 0),(AN r),(AI d),(AI ((c:Int))),(AI ((r:Int))),((((cM n M r).2 c):Int)=(M r c)),(AI ((m:Int))),((0:Int)=(↑0:Int)),(AN 1),(NL m m),(AA m (fun i=>[.ar 1 ⟨1,some i⟩ 0 n])),(NL m m),(∀ i:Nat,(((i:Nat)<m)→af [(AN 1),((n:Nat)≤n),(AP n (fun r_1=>[.int .i64 ((cM n M i).2 r_1)]))])),(AN 1),(NL r r),(AA r (fun i=>[.p (.int .i64 (p i))]))]):=by kernel_rfl
theorem LA (n m:Nat) (M M':Nat→Nat→Int) (r:Nat) (p:Nat→Int) (d:Int) (c:Nat) (x:Int) (i:Nat) :
    zM 0 [rg 1,.dec true,rg 2,rg 3,.dec true,rg 2,.head] rn (R2 n m M r p d c x i) [0,1,2] 1 (R2 n m M' r p d c x (i+1)) =
    some (rn,[((decide ((i:Int)<(m:Int)))=true),(((i:Int)==(r:Int))=true),(ax ((i:Int)+1)),(au ((i:Int)+1)),(AI ((n:Int))),(AN 0),(AN m),(AN 0),(AN r),(AI d),(AI ((c:Int))),(AI ((r:Int))),(AI x),(AI ((m:Int))),((((i:Int)+1):Int)=(↑(i+1):Int)),(AN 1),(NL m m),(AA m (fun i_1=>[.ar 1 ⟨1,some i_1⟩ 0 n])),(NL m m),(∀ i_1:Nat,(((i_1:Nat)<m)→af [(AN 1),((n:Nat)≤n),(∀ r_1:Nat,(((r_1:Nat)<n)→(([.int .i64 ((cM n M i_1).2 r_1)]:List PV)=[.int .i64 ((cM n M' i_1).2 r_1)])))])),(AN 1),(NL r r),(AA r (fun i_1=>[.p (.int .i64 (p i_1))]))]):=by kernel_rfl
theorem J3 (n m:Nat) (M:Nat→Nat→Int) (r:Nat) (p:Nat→Int) (d:Int) (c:Nat) (x:Int) (i:Nat) :
    zM 0 [rg 1,.dec true,rg 2,rg 3,.dec false,rg 8,rg 2,.head] rn (R2 n m M r p d c x i) [0,1,2] 1 (R3 n m M r p d c x i (M i c) 0) =
    some (Gi,[((decide ((i:Int)<(m:Int)))=true),(((i:Int)==(r:Int))=false),(IL 0 (i:Int)),(IT (i:Int) (m:Int)),(NT i m),(IL 0 (c:Int)),(IT (c:Int) (n:Int)),(NT i m),(NT c n),(AI ((n:Int))),(AN 0),(AN m),(AN 0),(AN r),(AI d),(AI ((c:Int))),(AI ((r:Int))),(AI x),(AI ((i:Int))),((((cM n M i).2 c):Int)=(M i c)),(AI ((m:Int))),(AI ((i:Int))),(AI ((n:Int))),((0:Int)=(↑0:Int)),(AN 1),(NL m m),(AA m (fun i_1=>[.ar 1 ⟨1,some i_1⟩ 0 n])),(NL m m),(∀ i_1:Nat,(((i_1:Nat)<m)→af [(AN 1),((n:Nat)≤n),(AP n (fun r_1=>[.int .i64 ((cM n M i_1).2 r_1)]))])),(AN 1),(NL r r),(AA r (fun i_1=>[.p (.int .i64 (p i_1))]))]):=by kernel_rfl
theorem Mr (n m:Nat) (M M':Nat→Nat→Int) (r:Nat) (p:Nat→Int) (d:Int) (c:Nat) (x:Int) (i:Nat) (f:Int) (k:Nat) :
    zM 0 [rg 1,.dec true,rg 2,rm [(13,oF),(8,oF),(0,oF),(1,oF)] 2,rg 2,.head] Gi (R3 n m M r p d c x i f k) [0,1,2] 1 (R3 n m M' r p d c x i f (k+1)) =
    some (Gi,zD [((decide ((k:Int)<(n:Int)))=true),(IL 0 (i:Int)),(IT (i:Int) (m:Int)),(NT i m),(IL 0 (k:Int)),(IT (k:Int) (n:Int)),(NT k n),(IL 0 (r:Int)),(IT (r:Int) (m:Int)),(NT r m),((d:Int)≠0),((false=true)→((n:Nat)=1)),(ax ((k:Int)+1)),(au ((k:Int)+1)),(AI ((n:Int))),(AN 0),(AN m),(AN r),(AI d),(AI ((c:Int))),(AI ((r:Int))),(AI x),(AI ((i:Int))),(AI f),(AI ((m:Int))),((((k:Int)+1):Int)=(↑(k+1):Int)),(AN 1),(NL m m),(AA m (fun i_1=>[.ar 1 ⟨1,some i_1⟩ 0 n])),(∀ i_1:Nat,(((i_1:Nat)<m)→af (eo (if (i_1=i) then [.p (.seq false 1 n (fun i_2=>[(toP (List.getD ((if (i_2=k) then [.p (.int .i64 (IntKind.i64.wrap ((IntKind.i64.wrap (IntKind.i64.wrap (x*(cM n M i).2 k) - IntKind.i64.wrap (f*(cM n M r).2 k))).tdiv d)))] else [.p (.int .i64 ((cM n M i).2 i_2))]):List AV) 0 (.p .any)))]))] else [.p (.seq false 1 n (fun i_2=>[.int .i64 ((cM n M i_1).2 i_2)]))]) [.p (.seq false 1 n (fun i_2=>[.int .i64 ((cM n M' i_1).2 i_2)]))]))),(NL r r),(AA r (fun i_1=>[.p (.int .i64 (p i_1))]))] [0,1,2,3,1,2,3,4,5,3,6,7,8,9,4,5,9,6,10,4,5,3,6,11,12,13,14,15,16,15,17,18,19,20,21,22,23,24,22,14,25,26,27,28,27,29,26,30,31]):=by kernel_rfl
theorem Nr (n m:Nat) (M M':Nat→Nat→Int) (r:Nat) (p:Nat→Int) (d:Int) (c:Nat) (x:Int) (i:Nat) (f:Int) (k:Nat) :
    zM 0 [rg 1,.dec false,rg 2,.head] Gi (R3 n m M r p d c x i f k) [0,1,2] 1 (R2 n m M' r p d c x (i+1)) =
    some (rn,[((decide ((k:Int)<(n:Int)))=false),(ax ((i:Int)+1)),(au ((i:Int)+1)),(AI ((n:Int))),(AN 0),(AN m),(AN 0),(AN r),(AI d),(AI ((c:Int))),(AI ((r:Int))),(AI x),(AI ((m:Int))),((((i:Int)+1):Int)=(↑(i+1):Int)),(AN 1),(NL m m),(AA m (fun i_1=>[.ar 1 ⟨1,some i_1⟩ 0 n])),(NL m m),(∀ i_1:Nat,(((i_1:Nat)<m)→af [(AN 1),((n:Nat)≤n),(∀ r_1:Nat,(((r_1:Nat)<n)→(([.int .i64 ((cM n M i_1).2 r_1)]:List PV)=[.int .i64 ((cM n M' i_1).2 r_1)])))])),(AN 1),(NL r r),(AA r (fun i_1=>[.p (.int .i64 (p i_1))]))]):=by kernel_rfl
theorem KV (n m:Nat) (M M':Nat→Nat→Int) (r:Nat) (p p':Nat→Int) (d:Int) (c:Nat) (x:Int) (i:Nat) :
    zM 0 [rg 1,.dec false,rg 5,rg 2,rg 3,.head] rn (R2 n m M r p d c x i) [0,1,131] 1 (R0 n m M' (r+1) p' x (c+1)) =
    some (u6,[((decide ((i:Int)<(m:Int)))=false),(NL 1 1),(NL r r),(NL ((r+1)*8) 140737488355328),(NL (r+1) 9223372036854775807),(ax ((c:Int)+1)),(au ((c:Int)+1)),(AI ((n:Int))),(AN 0),(AN m),(AN 0),(AN ((r+1))),(AI x),((((c:Int)+1):Int)=(↑(c+1):Int)),(AN 1),(NL m m),(AA m (fun i_1=>[.ar 1 ⟨1,some i_1⟩ 0 n])),(NL m m),(∀ i_1:Nat,(((i_1:Nat)<m)→af [(AN 1),((n:Nat)≤n),(∀ r_1:Nat,(((r_1:Nat)<n)→(([.int .i64 ((cM n M i_1).2 r_1)]:List PV)=[.int .i64 ((cM n M' i_1).2 r_1)])))])),(AN 1),(NL (r+1) (r+1)),(∀ i_1:Nat,(((i_1:Nat)<(r+1))→(af (ay false [(131,⟨false,1,(r+1),(fun i_2=>(if (i_2<r) then [.p (.int .i64 (p i_2))] else [.p (.int .i64 (c:Int))]))⟩),(99,⟨false,1,1,(fun i_2=>[.p (.int .i64 (c:Int))])⟩),(0,⟨false,1,m,(fun i_2=>[.ar 1 ⟨1,some i_2⟩ 0 n])⟩),(1,⟨true,0,m,(fun i_2=>[.p (.seq false 1 n (fun i_3=>[.int .i64 ((cM n M i_2).2 i_3)]))])⟩)] [0,1,131] 1 (if (i_1<r) then [.p (.int .i64 (p i_1))] else [.p (.int .i64 (c:Int))])).2∧(((ay false [(131,⟨false,1,(r+1),(fun i_2=>(if (i_2<r) then [.p (.int .i64 (p i_2))] else [.p (.int .i64 (c:Int))]))⟩),(99,⟨false,1,1,(fun i_2=>[.p (.int .i64 (c:Int))])⟩),(0,⟨false,1,m,(fun i_2=>[.ar 1 ⟨1,some i_2⟩ 0 n])⟩),(1,⟨true,0,m,(fun i_2=>[.p (.seq false 1 n (fun i_3=>[.int .i64 ((cM n M i_2).2 i_3)]))])⟩)] [0,1,131] 1 (if (i_1<r) then [.p (.int .i64 (p i_1))] else [.p (.int .i64 (c:Int))])).1:List AV)=[.p (.int .i64 (p' i_1))]))))]):=by kernel_rfl
theorem nJ (m:Nat) (C:Nat→ad) (hm:m≤1000) (hC:∀ i,i<m→(C i).1≤1000):zE 110 [pT m C] [(0,dV 1 m C),(1,ed m C)] (.ar 1 0 0 m):=by
  refine aW Tryz.func110 (fun c hc=>?_)
  have lo:∀ d i,i+d=m→zR c 110 zz (F8 m C i) (aS c [(0,dV 1 m C),(1,ed m C)] (.ar 1 0 0 m)):=by
    intro d
    induction d with
    | zero =>
      intro i hi
      obtain rfl:i=m:=by omega
      have hd:decide ((i:Int)<(i:Int))=false:=decide_eq_false (by omega)
      refine be Tryz.func110 hc (Kz i C i) ?_
      and_intros
      iterate 2 all_goals (first | exact zN | (exact hd) | (intro t ht;simp [af];done) | simp only [af])
    | succ d ih =>
      intro i hi
      have hd:decide ((i:Int)<(m:Int))=true:=decide_eq_true (by omega)
      have cc:=cG (C i).1 (C i).2 (by have:=hC i (by omega);omega)
      refine cW hc (NU m C i) ?_ (ih (i+1) (by omega))
      repeat' (first | exact aN | apply aI)
      iterate 2 all_goals (first | exact zI | (exact hd) | (exact cc) | (intro t ht;by_cases h':t<i;exact ⟨by simp [h',ay,bh,tg,bu,iE,dd,sP,sM,af,Nat.ne_of_lt h'],by simp [h',ay,bh,tg,bu,iE,dd,sP,sM]⟩;rw [show t=i by omega];exact ⟨by simp [ay,bh,tg,bu,iE,dd,sP,sM,af],by simp [ay,bh,tg,bu,iE,dd,sP,sM]⟩) | (intro t ht hne;exact ⟨by omega,by simp [af]⟩) | (intro t ht;simp [af];done) | (intro h;simp [af];done) | simp only [af])
  refine cW hc (J4 m C) ?_ (lo m 0 (by omega))
  and_intros
  iterate 2 all_goals (first | exact zN | (intro t ht;exact absurd ht (Nat.not_lt_zero _)) | (intro t ht;simp [af];done) | simp only [af])
theorem yX {A:Nat→Nat→Int} {c m r i:Nat} (hr:r≤i) (hm:i≤m) (hz:∀ j,r≤j→j<i→A j c=0) (hi:i=m∨A i c≠0):Had.fnd A c m m r=i:=by
  have h1:=Had.fnd_ge A c m m r
  have h2:=Had.fnd_le A c m m r (by omega)
  have h3:=Had.fnd_zero A c m m r i hr
  have h4:=Had.fnd_hit A c m m r (by omega)
  rcases Nat.lt_trichotomy (Had.fnd A c m m r) i with h | h | h
  · exact absurd (hz _ h1 h) (h4 (by omega))
  · exact h
  · rcases hi with hi | hi
    · omega
    · exact absurd (h3 h) hi
def jg (N:Nat→Nat→Int) (r c:Nat) (d:Int) (i k i' k':Nat):Int:=if i'<i then Had.el N r c d i' k' else if i'=i∧k'<k then Had.el N r c d i' k' else N i' k'
theorem Dr (N:Nat→Nat→Int) (r c:Nat) (d:Int) (k:Nat):Had.el N r c d r k=N r k:=by unfold Had.el;rw [if_pos rfl]
theorem Fr (N:Nat→Nat→Int) (r c:Nat) (d:Int) (i k k':Nat):jg N r c d i k r k'=N r k':=by
  unfold jg
  split
  · exact Dr ..
  · split
    · exact Dr ..
    · rfl
theorem CX (N:Nat→Nat→Int) (r c:Nat) (d:Int) (i k k':Nat) (h:k≤k'):jg N r c d i k i k'=N i k':=by
  unfold jg;rw [if_neg (by omega),if_neg (by omega)]
theorem B1 {x a f b d:Int} (h:-(2 ^ 62)≤x*a - f*b∧x*a - f*b≤2 ^ 62) (hd:d≠0) (hv:d ∣ x*a - f*b) :
    IntKind.wrap .i64 ((IntKind.wrap .i64 (IntKind.wrap .i64 (x*a) - IntKind.wrap .i64 (f*b))).tdiv d)=(x*a - f*b).tdiv d:=by
  have e:IntKind.wrap .i64 (IntKind.wrap .i64 (x*a) - IntKind.wrap .i64 (f*b))=x*a - f*b:=by
    have h2:IntKind.wrap .i64 (x*a - f*b)=x*a - f*b:=ew (by simp only [lv];omega) (by simp only [jF];omega)
    generalize x*a=u at h h2 ⊢
    generalize f*b=v at h h2 ⊢
    simp only [IntKind.wrap,IntKind.bits,IntKind.signed] at h2 ⊢
    simp at h2 ⊢
    omega
  rw [e]
  refine oZ hv hd ?_
  have:=Int.mul_le_mul (a:=(x*a - f*b).natAbs) (b:=(x*a - f*b).natAbs) (c:=2 ^ 62) (d:=2 ^ 62) (by omega) (by omega) (by omega) (by omega)
  rw [Int.natAbs_mul_self'] at this
  exact this
theorem Ei (N:Nat→Nat→Int) (r c:Nat) (d:Int):jg N r c d 0 0=N:=by
  funext i k;unfold jg;rw [if_neg (Nat.not_lt_zero _),if_neg (fun h=>absurd h.2 (Nat.not_lt_zero _))]
theorem yW (r q x:Nat):sI r q (sI r q x)=x:=by
  unfold sI Had.sw
  by_cases h1:x=r
  · rw [if_pos h1]
    by_cases h2:q=r
    · rw [if_pos h2,h1,h2]
    · rw [if_neg h2,if_pos rfl,h1]
  · by_cases h2:x=q
    · rw [if_neg h1,if_pos h2,if_pos rfl,h2]
    · rw [if_neg h1,if_neg h2,if_neg h1,if_neg h2]
theorem Gq {r q m x:Nat} (hr:r<m) (hq:q<m) (hx:x<m):sI r q x<m:=by
  unfold sI Had.sw;split
  · exact hq
  · split
    · exact hr
    · exact hx
theorem FV {α:Type} (M:Nat→α) (r q i:Nat):M (sI r q i)=Had.sw M r q i:=by
  unfold sI Had.sw;split
  · rfl
  · split<;>rfl
theorem FF (r q n t:Nat):(if t=q then [AV.ar 1 ⟨1,some r⟩ 0 n] else if t=r then [AV.ar 1 ⟨1,some q⟩ 0 n] else [AV.ar 1 ⟨1,some t⟩ 0 n])=[AV.ar 1 ⟨1,some (sI r q t)⟩ 0 n]:=by
  unfold sI Had.sw
  by_cases h1:t=q
  · by_cases h2:t=r
    · rw [if_pos h1,if_pos h2,← h1,h2]
    · rw [if_pos h1,if_neg h2,if_pos h1]
  · by_cases h2:t=r
    · rw [if_neg h1,if_pos h2,if_pos h2]
    · rw [if_neg h1,if_neg h2,if_neg h2,if_neg h1]
theorem mb {m c:Nat} {T:Had.RS} (h:T.r=m):Had.rstep m c T=T:=by
  unfold Had.rstep
  have:=Had.fnd_ge T.A c m m T.r
  rw [if_neg (by omega)]
theorem pw {m:Nat} {S:Had.RS} {c:Nat} (h:(Had.rrun m S c).r=m):∀ e,Had.rrun m S (c+e)=Had.rrun m S c
  | 0=>rfl
  | e+1=>by
    rw [show c+(e+1)=(c+e)+1 by omega,Had.rrun,pw h e,mb h]
theorem kZ {n m rmx:Nat} {B:Int} {M:Nat→Nat→Int} {K:Nat→Nat→(Nat→Nat→Int)→Prop} (hn:n≤1000) (hm:m≤1000) (hB:1≤B) (hM:B ^ (2*rmx)≤2 ^ 124)
    (hok:∀ c,c≤n→Had.ROK n m rmx B K c (Had.rrun m (Had.rini M) c)) {S:Had.RS} (hS:Had.rrun m (Had.rini M) n=S) :
    zE 84 [pT m (cM n M),.p (.int .i64 n)] (mH n m S.A S.r (fun i=>(S.p i:Int))) (.tup [.ar 1 0 0 m,.ar 1 2 0 S.r,.p (.int .i64 S.d)]):=by
  have ccp:=nJ m (cM n M) hm (fun i _=>hn)
  refine aW Tryz.func84 (fun cx hc=>?_)
  generalize hQ:aS cx (mH n m S.A S.r (fun i=>(S.p i:Int))) (.tup [.ar 1 0 0 m,.ar 1 2 0 S.r,.p (.int .i64 S.d)])=Q
  have l3:∀ (N:Nat→Nat→Int) (r q:Nat) (p:Nat→Int) (d:Int) (c i:Nat),c<n→r<m→i<m→i≠r→d≠0 →
      (∀ k,k<n→d*Had.el N r c d i k=N r c*N i k - N i c*N r k∧-(2 ^ 62)≤N r c*N i k - N i c*N r k∧N r c*N i k - N i c*N r k≤2 ^ 62) →
      Run Tryz.prog cx 84 rn (R2 n m (jg N r c d (i+1) 0) r p d c (N r c) (i+1)) Q →
      ∀ e k,k+e=n→Run Tryz.prog cx 84 Gi (R3 n m (jg N r c d i k) r p d c (N r c) i (N i c) k) Q:=by
    intro N r q p d c i hcn hrm him hir hd0 hE hnext e
    induction e with
    | zero =>
      intro k hk
      obtain rfl:k=n:=by omega
      have hd:decide ((k:Int)<(k:Int))=false:=decide_eq_false (by omega)
      have hT:∀ s,s<m→∀ t,t<k→jg N r c d i k s t=jg N r c d (i+1) 0 s t:=by
        intro s hs t ht
        unfold jg
        by_cases h1:s<i
        · rw [if_pos h1,if_pos (by omega)]
        · by_cases h2:s=i
          · rw [if_neg h1,if_pos ⟨h2,ht⟩,if_pos (by omega)]
          · rw [if_neg h1,if_neg (by omega),if_neg (by omega),if_neg (by omega)]
      refine cW hc (Nr k m (jg N r c d i k) (jg N r c d (i+1) 0) r p d c (N r c) i (N i c) k) ?_ hnext
      repeat' (first | exact aN | apply aI)
      iterate 2 all_goals (first | exact zN | (exact hd) | (intro s hs;simp only [af,cM];exact ⟨trivial,Nat.le_refl _,fun t ht=>by rw [hT s hs t ht],trivial⟩) | (intro t ht;simp [af];done) | simp only [af])
    | succ e ih =>
      intro k hk
      have hd:decide ((k:Int)<(n:Int))=true:=decide_eq_true (by omega)
      obtain ⟨e1,e2⟩:=hE k (by omega)
      have hw:=B1 e2 hd0 ⟨_,e1.symm⟩
      have hv:(N r c*N i k - N i c*N r k).tdiv d=Had.el N r c d i k:=by rw [← e1,Int.mul_tdiv_cancel_left _ hd0]
      rw [hv] at hw
      have hT:∀ s,s<m→∀ t,t<n→jg N r c d i (k+1) s t=if s=i∧t=k then Had.el N r c d i k else jg N r c d i k s t:=by
        intro s hs t ht
        by_cases h1:s=i∧t=k
        · rw [if_pos h1,h1.1,h1.2];unfold jg;rw [if_neg (by omega),if_pos ⟨rfl,by omega⟩]
        · rw [if_neg h1];unfold jg
          by_cases h2:s<i
          · rw [if_pos h2,if_pos h2]
          · rw [if_neg h2,if_neg h2]
            by_cases h3:s=i∧t<k
            · rw [if_pos h3,if_pos (by omega)]
            · rw [if_neg h3,if_neg (by omega)]
      refine a9 hc (Mr n m (jg N r c d i k) (jg N r c d i (k+1)) r p d c (N r c) i (N i c) k) ?_ (ih (k+1) (by omega))
      repeat' (first | exact aN | apply aI)
      all_goals (first | exact zI | (exact hd) | (exact hd0) | (intro s hs;simp only [cM,Fr,CX N r c d i k k (Nat.le_refl _),hw];by_cases h1:s=i<;>(simp only [h1,if_true,if_false,eo,af];refine ⟨trivial,Nat.le_refl _,fun t ht=>?_,trivial⟩;rw [hT _ (by omega) t ht];by_cases h2:t=k<;>simp [h1,h2,toP])) | (intro t ht;simp [af];done))
  have l2:∀ (N:Nat→Nat→Int) (r:Nat) (p:Nat→Int) (d:Int) (c:Nat),c<n→r<m→r<1000→d≠0 →
      (∀ i k,i<m→i≠r→k<n→d*Had.el N r c d i k=N r c*N i k - N i c*N r k∧-(2 ^ 62)≤N r c*N i k - N i c*N r k∧N r c*N i k - N i c*N r k≤2 ^ 62) →
      ∀ p':Nat→Int,(∀ t,t<r+1→p' t=if t<r then p t else c)→Run Tryz.prog cx 84 u6 (R0 n m (Had.el N r c d) (r+1) p' (N r c) (c+1)) Q →
      ∀ e i,i+e=m→Run Tryz.prog cx 84 rn (R2 n m (jg N r c d i 0) r p d c (N r c) i) Q:=by
    intro N r p d c hcn hrm hr1 hd0 hE p' hp hnext e
    induction e with
    | zero =>
      intro i hi
      obtain rfl:i=m:=by omega
      have hd:decide ((i:Int)<(i:Int))=false:=decide_eq_false (by omega)
      have hT:∀ s,s<i→∀ t,t<n→jg N r c d i 0 s t=Had.el N r c d s t:=fun s hs t _=>by unfold jg;rw [if_pos hs]
      refine cW hc (KV n i (jg N r c d i 0) (Had.el N r c d) r p p' d c (N r c) i) ?_ hnext
      repeat' (first | exact aN | apply aI)
      iterate 2 all_goals (first | exact zN | (exact hd) | (intro s hs;simp only [af,cM];exact ⟨trivial,Nat.le_refl _,fun t ht=>by rw [hT s hs t ht],trivial⟩) | (intro t ht;rw [hp t ht];by_cases h':t<r<;>simp [h',ay,bh,tg,bu,af];done) | (intro t ht;simp [af];done) | simp only [af])
    | succ e ih =>
      intro i hi
      have hd:decide ((i:Int)<(m:Int))=true:=decide_eq_true (by omega)
      have hr:=ih (i+1) (by omega)
      by_cases hir:i=r
      · have hq:((i:Int)==(r:Int))=true:=by simp [hir]
        have hT:∀ s,s<m→∀ t,t<n→jg N r c d i 0 s t=jg N r c d (i+1) 0 s t:=by
          intro s hs t ht
          unfold jg
          by_cases h1:s<i
          · rw [if_pos h1,if_pos (by omega)]
          · by_cases h2:s=i
            · rw [if_neg h1,if_neg (by omega),if_pos (by omega),h2,hir,Dr]
            · rw [if_neg h1,if_neg (by omega),if_neg (by omega),if_neg (by omega)]
        refine cW hc (LA n m (jg N r c d i 0) (jg N r c d (i+1) 0) r p d c (N r c) i) ?_ hr
        repeat' (first | exact aN | apply aI)
        iterate 2 all_goals (first | exact zN | (exact hd) | (exact hq) | (intro s hs;simp only [af,cM];exact ⟨trivial,Nat.le_refl _,fun t ht=>by rw [hT s hs t ht],trivial⟩) | (intro t ht;simp [af];done) | simp only [af])
      · have hq:((i:Int)==(r:Int))=false:=by simp;omega
        have h3:=l3 N r 0 p d c i hcn hrm (by omega) hir hd0 (fun k hk=>hE i k (by omega) hir hk) hr n 0 (by omega)
        have e1:jg N r c d i 0 i c=N i c:=CX N r c d i 0 c (Nat.zero_le _)
        rw [← e1] at h3
        refine cW hc (J3 n m (jg N r c d i 0) r p d c (N r c) i) ?_ h3
        and_intros
        iterate 2 all_goals (first | exact zN | (exact hd) | (exact hq) | (intro t ht;simp [af];done) | simp only [af])
  have l0:∀ e c,c+e=n→Run Tryz.prog cx 84 u6 (R0 n m (Had.rrun m (Had.rini M) c).A (Had.rrun m (Had.rini M) c).r (fun i=>((Had.rrun m (Had.rini M) c).p i:Int)) (Had.rrun m (Had.rini M) c).d c) Q:=by
    intro e
    induction e with
    | zero =>
      intro c hcn
      obtain rfl:c=n:=by omega
      rw [hS,← hQ]
      have hd:(bif decide ((c:Int)<(c:Int)) then decide ((S.r:Int)<(m:Int)) else false)=false:=by simp
      refine bz Tryz.func84 hc (JD c m S.A S.r (fun i=>(S.p i:Int)) S.d c) ?_
      and_intros
      iterate 2 all_goals (first | exact zN | (exact hd) | (intro h;exact h) | (intro t ht;simp [af];done) | simp only [af])
    | succ e ih =>
      intro c hcn
      have hr:=ih (c+1) (by omega)
      have ok:=hok c (by omega)
      have ok':=hok (c+1) (by omega)
      have hst:Had.rrun m (Had.rini M) (c+1)=Had.rstep m c (Had.rrun m (Had.rini M) c):=rfl
      rw [hst] at hr ok'
      generalize Had.rrun m (Had.rini M) c=T at *
      have hrm:=ok.bar.rm
      by_cases hrl:T.r<m
      · have hd:(bif decide ((c:Int)<(n:Int)) then decide ((T.r:Int)<(m:Int)) else false)=true:=by
          rw [decide_eq_true (show (c:Int)<(n:Int) by omega),decide_eq_true (show (T.r:Int)<(m:Int) by omega)];rfl
        have l1:∀ e i,i+e=m→T.r≤i→(∀ j,T.r≤j→j<i→T.A j c=0)→Run Tryz.prog cx 84 xf (R1 n m T.A T.r (fun i=>(T.p i:Int)) T.d c i) Q:=by
          intro e
          induction e with
          | zero =>
            intro i hi hri hz
            obtain rfl:i=m:=by omega
            have hf:=yX hri (Nat.le_refl _) hz (.inl rfl)
            have hst:Had.rstep i c T=T:=by unfold Had.rstep;rw [hf,if_neg (Nat.lt_irrefl _)]
            rw [hst] at hr
            have hd0:decide ((i:Int)<(i:Int))=false:=decide_eq_false (by omega)
            have hq:((i:Int)==(i:Int))=true:=by simp
            refine a9 hc (Lv n i T.A T.r (fun i=>(T.p i:Int)) T.d c i) ?_ hr
            and_intros
            iterate 2 all_goals (first | exact zI | (rw [hd0];rfl) | (exact hq) | (intro h;exact h) | (intro h;rw [hd0] at h;cases h) | (intro t ht;simp [af];done) | simp only [af])
          | succ e ih2 =>
            intro i hi hri hz
            have hd1:decide ((i:Int)<(m:Int))=true:=decide_eq_true (by omega)
            by_cases h0:T.A i c=0
            · have hb:(bif decide ((i:Int)<(m:Int)) then (cM n T.A i).2 c==0 else false)=true:=by
                rw [hd1];show (T.A i c==0)=true;simp [h0]
              refine a9 hc (Ma n m T.A T.r (fun i=>(T.p i:Int)) T.d c i) ?_ (ih2 (i+1) (by omega) (by omega) (fun j j1 j2=>by
                by_cases h:j=i
                · rw [h];exact h0
                · exact hz j j1 (by omega)))
              and_intros
              iterate 2 all_goals (first | exact zI | (exact hb) | (intro h;exact h) | (intro h;omega) | (intro t ht;simp [af];done) | simp only [af])
            · have hb:(bif decide ((i:Int)<(m:Int)) then (cM n T.A i).2 c==0 else false)=false:=by
                rw [hd1];show (T.A i c==0)=false;simp [h0]
              have hq:((i:Int)==(m:Int))=false:=by simp;omega
              have hf:=yX hri (show i≤m by omega) hz (.inr h0)
              have hst:Had.rstep m c T=⟨Had.el (Had.sw T.A T.r i) T.r c T.d,T.r+1,fun j=>if j=T.r then c else T.p j,T.A i c⟩:=by
                unfold Had.rstep;rw [hf,if_pos (show i<m by omega)]
              rw [hst] at hr ok'
              have hsw:=ok.bar.swap hri (by omega:i<m)
              have hx:Had.sw T.A T.r i T.r c≠0:=by rw [Had.sw_at];exact h0
              obtain ⟨b1,b2⟩:=hsw.elim (c:=c) hrl (by omega) hx
              have hr2:=ok'.r
              have hr2:T.r+1≤rmx:=hr2
              have hE:∀ i' k,i'<m→i'≠T.r→k<n→T.d*Had.el (Had.sw T.A T.r i) T.r c T.d i' k=Had.sw T.A T.r i T.r c*Had.sw T.A T.r i i' k - Had.sw T.A T.r i i' c*Had.sw T.A T.r i T.r k ∧
                  -(2 ^ 62)≤Had.sw T.A T.r i T.r c*Had.sw T.A T.r i i' k - Had.sw T.A T.r i i' c*Had.sw T.A T.r i T.r k∧Had.sw T.A T.r i T.r c*Had.sw T.A T.r i i' k - Had.sw T.A T.r i i' c*Had.sw T.A T.r i T.r k≤2 ^ 62:=by
                intro i' k h1 h2 h3
                have e1:=b2 i' k h1 h2 h3
                refine ⟨e1,?_⟩
                rw [← e1]
                have hd2:=ok.bar.bd
                have hv:Had.el (Had.sw T.A T.r i) T.r c T.d i' k*Had.el (Had.sw T.A T.r i) T.r c T.d i' k≤B ^ (T.r+2):=by
                  by_cases h4:i'<T.r+1
                  · exact Int.le_trans (b1.bpiv h4 h3) (Had.pow_mono hB (by omega))
                  · exact b1.bnon (by omega) h1 h3
                exact Had.prod_le hB hM hd2 hv (by omega)
              rw [← Had.sw_at T.A T.r i] at hr
              have h2:=l2 (Had.sw T.A T.r i) T.r (fun i=>(T.p i:Int)) T.d c (by omega) hrl (by omega) ok.bar.d0 hE _ (fun t ht=>by
                show ((if t=T.r then c else T.p t:Nat):Int)=_
                by_cases h:t<T.r
                · rw [if_pos h,if_neg (by omega)]
                · rw [if_neg h,if_pos (by omega)]) hr m 0 (by omega)
              rw [Ei] at h2
              have hsI:∀ t,T.A (sI T.r i t)=Had.sw T.A T.r i t:=fun t=>FV T.A T.r i t
              refine a9 hc (NM n m T.A T.r (fun i=>(T.p i:Int)) T.d c i) ?_ (cW hc (OG n m (Had.sw T.A T.r i) T.r (fun i=>(T.p i:Int)) T.d c i) ?_ h2)
              ·
                repeat' (first | exact aN | apply aI)
                iterate 2 all_goals (first | exact zI | (exact hb) | (exact hq) | (intro h;exact h) | (intro h;omega) | (intro t ht;simp only [FF];exact ⟨by simp [ay,bh,iE,dd,sP,sM,af,yW],by simp [ay,bh,iE,dd,sP,sM,yW]⟩) | (intro t ht;refine ⟨Gq (by omega) (by omega) ht,yW _ _ _,?_⟩;simp [cM,hsI];done) | (intro t ht;simp [af];done) | simp only [af])
              ·
                and_intros
                all_goals (first | exact zH | (intro t ht;simp [af];done))
        refine a9 hc (La n m T.A T.r (fun i=>(T.p i:Int)) T.d c) ?_ (l1 (m - T.r) T.r (by omega) (Nat.le_refl _) (fun j j1 j2=>absurd j2 (by omega)))
        and_intros
        iterate 2 all_goals (first | exact zN | (exact hd) | (intro h;exact h) | (intro t ht;simp [af];done) | simp only [af])
      · have hrm':T.r=m:=by omega
        have hd:(bif decide ((c:Int)<(n:Int)) then decide ((T.r:Int)<(m:Int)) else false)=false:=by
          rw [decide_eq_false (show ¬ (T.r:Int)<(m:Int) by omega)];cases decide ((c:Int)<(n:Int))<;>rfl
        rw [mb hrm'] at hst
        have hSe:S=T:=by
          rw [← hS,← hst,show n=(c+1)+e by omega]
          exact pw (by rw [hst];exact hrm') e
        rw [← hQ,hSe]
        refine bz Tryz.func84 hc (JD n m T.A T.r (fun i=>(T.p i:Int)) T.d c) ?_
        and_intros
        iterate 2 all_goals (first | exact zN | (exact hd) | (intro h;exact h) | (intro t ht;simp [af];done) | simp only [af])
  refine cW hc (Nw n m M) ?_ (l0 n 0 (by omega))
  and_intros
  iterate 2 all_goals (first | exact zN | (exact ccp) | (intro t ht;exact absurd ht (Nat.not_lt_zero _)) | (intro t ht;simp [af];done) | simp only [af])
def Fk (g:Nat→aa) (nb:Nat) (N:Int):AV:=.agg [.p (.int .i64 N),b4 g nb]
def JV (g:Nat→aa) (nb:Nat) (N:Int):Ob:=⟨true,2,1,fun _=>[.p (.int .i64 N),b4 g nb]⟩
def gj (g:Nat→aa) (nb:Nat) (N:Int):Bool:=ah (N,(nb,g),())
theorem zv {g:Nat→aa} {nb:Nat} {N:Int} (h:gj g nb N=true):(1≤N∧N≤8)∧nb≤24∧∀ e,e<nb→0≤(g e).1∧(g e).1<(g e).2.1∧(g e).2.1<N:=by
  unfold gj at h
  have hN:1≤N:=by
    unfold ah at h
    split at h
    case isFalse=>cases h
    rename_i hc
    have h4:=hc.1
    simp only [bC,Bool.and_eq_true,decide_eq_true_eq] at h4
    exact h4.1
  obtain ⟨M,rfl⟩:∃ M:Nat,N=M:=⟨N.toNat,by omega⟩
  obtain ⟨h1,h2,h3⟩:=aB h
  exact ⟨by omega,h2,h3⟩
theorem EB (g:Nat→aa) (nb:Nat) (N:Int) (h:nb≤1048576):cP a6 (N,(nb,g),()):=⟨by simp [cP,j0],⟨h,fun i hi=>by simp [cP,j0]⟩,True.intro⟩
def sY (pl:Nat→ae) (np:Nat):AV:=.p (.seq true 2 np (fun i=>[.int .i64 (pl i).1,.int .i64 (pl i).2.1]))
def fU (g:Nat→aa) (nb:Nat) (N:Int) (pl:Nat→ae) (np:Nat):AV:=.agg [.p (.int .i64 N),b4 g nb,sY pl np]
def G6 (g:Nat→aa) (nb:Nat) (N:Int) (pl:Nat→ae) (np:Nat):Ob:=⟨true,3,1,fun _=>[.p (.int .i64 N),b4 g nb,sY pl np]⟩
def EN (g:Nat→aa) (nb:Nat) (N:Int) (pl:Nat→ae) (np:Nat) (i:Nat):St :=
  ⟨[fU g nb N pl np,.pt 3 0 0 0,.p .any,.pt 2 1 0 0]++List.replicate 29 ag++[sY pl np,.p (.int .i64 np),.p (.int .i64 i)]++List.replicate 43 ag,[(0,G6 g nb N pl np),(1,JV g nb N)],2⟩
def EL (g:Nat→aa) (nb:Nat) (N:Int) (pl:Nat→ae) (np:Nat) (i:Nat):St :=
  ⟨[fU g nb N pl np,.pt 3 0 0 0,.p .any,.pt 2 1 0 0]++List.replicate 40 ag++[b4 g nb,.p (.int .i64 nb),.p (.int .i64 i)]++List.replicate 32 ag,[(0,G6 g nb N pl np),(1,JV g nb N)],2⟩
def EV (g:Nat→aa) (nb:Nat) (N:Int) (pl:Nat→ae) (np:Nat) (i:Nat):St :=
  ⟨[fU g nb N pl np,.pt 3 0 0 0,.p .any,.p (.int .i64 i)]++List.replicate 95 ag,[(0,G6 g nb N pl np)],1⟩
def ES (g:Nat→aa) (nb:Nat) (N:Int) (pl:Nat→ae) (np:Nat) (i:Nat):St :=
  ⟨[fU g nb N pl np,.pt 3 0 0 0,.p .any,.p .any,.p (.int .i64 i)]++List.replicate 94 ag,[(0,G6 g nb N pl np)],1⟩
theorem Lu (a b:Int) (p q:Bool) :
    zS Tryz.f83 [rg 2,rm [(2,oc [] (jB p)),(3,oc [] (jB q))] 2] [.agg [jI a,jI b]] [] [] (jB (bif p then q else false)) =
    some [(NT 0 1),zE 58 [jI a,jI 0,jI 4] [] (jB p),(AG p),((p=true)→(NT 0 1)),(AG p),((p=true)→zE 58 [jI b,jI 0,jI 4] [] (jB q)),(AG p),((bif p then q else false)=(bif p then q else false))]:=by kernel_rfl
theorem NN (g:Nat→aa) (nb:Nat) (N:Int) (pl:Nat→ae) (np:Nat) (a:Bool) :
    zS Tryz.f46 [rg 2,rg 4,rm [(1,oc [] (jB a))] 20,.dec true,rg 1] [fU g nb N pl np] [] [] (jB false) =
    some (zD (let B:Bool:=bif !a then true else decide (N>6);let A:Bool:=bif B then true else decide ((nb:Int)>15);[(NT 0 1),((true=true)→(AN 1)),zE 23 [(cq N nb g)] [] (jB a),(AG (!!a)),(((!!a)=true)→(NT 0 1)),(((!a)=false)→((!!a)=true)),(AG (!B)),(((!B)=true)→(NT 0 1)),((B=false)→((!B)=true)),(AG (!A)),(((!A)=true)→(NT 0 1)),((A=false)→((!A)=true)),((bif A then true else (np:Int) != N)=true),(false=false)]) [0,0,1,0,2,3,4,3,5,6,7,6,6,8,9,10,9,9,10,9,9,11,12,13]):=by kernel_rfl
theorem Lo (g:Nat→aa) (nb:Nat) (N:Int) (pl:Nat→ae) (np:Nat) (a:Bool) :
    zT Tryz.f46 [rg 2,rg 4,rm [(1,oc [] (jB a))] 20,.dec false,rg 4,.head] [fU g nb N pl np] [0,128] (EN g nb N pl np 0) =
    some (ya,zD (let B:Bool:=bif !a then true else decide (N>6);let A:Bool:=bif B then true else decide ((nb:Int)>15);[(NT 0 1),((true=true)→(AN 1)),zE 23 [(cq N nb g)] [] (jB a),(AG (!!a)),(((!!a)=true)→(NT 0 1)),(((!a)=false)→((!!a)=true)),(AG (!B)),(((!B)=true)→(NT 0 1)),((B=false)→((!B)=true)),(AG (!A)),(((!A)=true)→(NT 0 1)),((A=false)→((!A)=true)),((bif A then true else (np:Int) != N)=false),(AI N),(AN nb),(AP nb (aF g)),(AN np),(AP np (aF pl)),(AN 0),(AI ((np:Int))),((0:Int)=(↑0:Int)),((([AV.p (PV.int IntKind.i64 N),b4 g nb,sY pl np].length):Nat)=3),(NL 1 1),((((List.map (fun v=>AV.p (bZ v)) [Value.int IntKind.i64 0,Value.slice none 0 0]).length):Nat)=2)]) [0,0,1,0,2,3,4,3,5,6,7,6,6,8,9,10,9,9,10,9,9,11,12,0,13,14,15,16,17,18,18,16,17,19,20,21,22,22,13,14,15,16,17,23,22,22,13,14,15]):=by kernel_rfl
theorem Kw (g:Nat→aa) (nb:Nat) (N:Int) (pl:Nat→ae) (np:Nat) (i:Nat) :
    zM 0 [rg 1,.dec true,rg 4,rm [(1,oc [] (jB true))] 1,.dec false,rg 2,.head] ya (EN g nb N pl np i) [0,1] 1 (EN g nb N pl np (i+1)) =
    some (ya,zD [((decide ((i:Int)<(np:Int)))=true),(IL 0 (i:Int)),(IT (i:Int) (np:Int)),(NT 0 1),((true=true)→(AN 1)),zE 83 [.agg [jI ((pl i).1),jI ((pl i).2.1)]] [] (jB true),((!true)=false),(ax ((i:Int)+1)),(au ((i:Int)+1)),(AI N),(AN nb),(AP nb (aF g)),(AN np),(AP np (aF pl)),(AN 0),(AI ((np:Int))),((((i:Int)+1):Int)=(↑(i+1):Int)),(AN 3),(NL 1 1),(AN 2)] [0,1,2,3,4,3,5,6,7,8,9,10,11,12,13,14,14,12,13,15,16,17,18,18,9,10,11,12,13,19,18,18,9,10,11]):=by kernel_rfl
theorem Le (g:Nat→aa) (nb:Nat) (N:Int) (pl:Nat→ae) (np:Nat) (i:Nat) :
    zP Tryz.f46 0 [rg 1,.dec true,rg 4,rm [(1,oc [] (jB false))] 1,.dec true,rg 1] ya (EN g nb N pl np i) [] 1 [] (jB false) =
    some [((decide ((i:Int)<(np:Int)))=true),(IL 0 (i:Int)),(IT (i:Int) (np:Int)),(NT 0 1),((true=true)→(AN 1)),(NT 0 1),zE 83 [.agg [jI ((pl i).1),jI ((pl i).2.1)]] [] (jB false),((!false)=true),(false=false)]:=by kernel_rfl
theorem Oq (g:Nat→aa) (nb:Nat) (N:Int) (pl:Nat→ae) (np:Nat) (i:Nat) :
    zM 0 [rg 1,.dec false,rg 4,.head] ya (EN g nb N pl np i) [0,1] 1 (EL g nb N pl np 0) =
    some (wY,zD [((decide ((i:Int)<(np:Int)))=false),(NT 0 1),(AI N),(AN nb),(AP nb (aF g)),(AN np),(AP np (aF pl)),(AN 0),(AI ((nb:Int))),((0:Int)=(↑0:Int)),(AN 3),(NL 1 1),(AN 2)] [0,1,2,3,4,5,6,7,7,3,4,8,9,10,11,11,2,3,4,5,6,12,11,11,2,3,4]):=by kernel_rfl
theorem Mh (g:Nat→aa) (nb:Nat) (N:Int) (pl:Nat→ae) (np:Nat) (i:Nat) :
    zM 0 [rg 1,.dec true,rg 6,rg 27,.dec false,rg 2,.head] wY (EL g nb N pl np i) [0,1] 1 (EL g nb N pl np (i+1)) =
    some (wY,zD (let B:Bool:=decide ((i:Int)>0);let A:Bool:=bif B then (g ((i:Int) - 1).toNat).1==(g i).1&&((g ((i:Int) - 1).toNat).2.1==(g i).2.1&&true) else false;[((decide ((i:Int)<(nb:Int)))=true),(IL 0 (i:Int)),(IT (i:Int) (nb:Int)),(NT 0 1),((true=true)→(AN 1)),(AG B),((B=true)→(NT 0 1)),((B=true)→(ax ((i:Int) - 1))),((B=true)→(au ((i:Int) - 1))),((B=true)→(IL 0 ((i:Int) - 1))),((B=true)→(IT ((i:Int) - 1) (nb:Int))),(AG (!A)),(((!A)=true)→(NT 0 1)),(((!A)=true)→(IL 0 ((g i).1))),(((!A)=true)→(IT ((g i).1) (np:Int))),(((!A)=true)→(IL 0 ((g i).2.1))),(((!A)=true)→(IT ((g i).2.1) (np:Int))),((A=false)→((!A)=true)),((bif A then true else (pl (g i).1.toNat).1==(pl (g i).2.1.toNat).1&&((pl (g i).1.toNat).2.1==(pl (g i).2.1.toNat).2.1&&true))=false),(ax ((i:Int)+1)),(au ((i:Int)+1)),(AI N),(AN nb),(AP nb (aF g)),(AN np),(AP np (aF pl)),(AN 0),(AI ((nb:Int))),((((i:Int)+1):Int)=(↑(i+1):Int)),(AN 3),(NL 1 1),(AN 2)]) [0,1,2,3,4,5,6,5,7,8,5,5,9,10,5,6,5,5,5,11,12,11,12,11,11,13,14,11,11,12,11,12,11,11,15,16,11,11,11,17,18,19,20,21,22,23,24,25,26,26,22,23,27,28,29,30,30,21,22,23,24,25,31,30,30,21,22,23]):=by kernel_rfl
theorem Mf (g:Nat→aa) (nb:Nat) (N:Int) (pl:Nat→ae) (np:Nat) (i:Nat) :
    zP Tryz.f46 0 [rg 1,.dec true,rg 6,rg 27,.dec true,rg 1] wY (EL g nb N pl np i) [] 1 [] (jB false) =
    some (zD (let B:Bool:=decide ((i:Int)>0);let A:Bool:=bif B then (g ((i:Int) - 1).toNat).1==(g i).1&&((g ((i:Int) - 1).toNat).2.1==(g i).2.1&&true) else false;[((decide ((i:Int)<(nb:Int)))=true),(IL 0 (i:Int)),(IT (i:Int) (nb:Int)),(NT 0 1),((true=true)→(AN 1)),(AG B),((B=true)→(NT 0 1)),((B=true)→(ax ((i:Int) - 1))),((B=true)→(au ((i:Int) - 1))),((B=true)→(IL 0 ((i:Int) - 1))),((B=true)→(IT ((i:Int) - 1) (nb:Int))),(AG (!A)),(((!A)=true)→(NT 0 1)),(((!A)=true)→(IL 0 ((g i).1))),(((!A)=true)→(IT ((g i).1) (np:Int))),(((!A)=true)→(IL 0 ((g i).2.1))),(((!A)=true)→(IT ((g i).2.1) (np:Int))),((A=false)→((!A)=true)),((bif A then true else (pl (g i).1.toNat).1==(pl (g i).2.1.toNat).1&&((pl (g i).1.toNat).2.1==(pl (g i).2.1.toNat).2.1&&true))=true),(false=false)]) [0,1,2,3,4,5,6,5,7,8,5,5,9,10,5,6,5,5,5,11,12,11,12,11,11,13,14,11,11,12,11,12,11,11,15,16,11,11,11,17,18,19]):=by kernel_rfl
theorem Nn (g:Nat→aa) (nb:Nat) (N:Int) (pl:Nat→ae) (np:Nat) (i:Nat) :
    zP Tryz.f46 0 [rg 1,.dec false,rg 1] wY (EL g nb N pl np i) [] 1 [] (jB true) =
    some [((decide ((i:Int)<(nb:Int)))=false),(true=true)]:=by kernel_rfl
theorem Nj (g:Nat→aa) (nb:Nat) (N:Int) (pl:Nat→ae) (np:Nat) (a:Bool) :
    zS Tryz.f13 [rg 2,rm [(2,oc [] (jB a))] 23,.dec true,rg 1] [fU g nb N pl np] [] [] (jB false) =
    some (zD (let B:Bool:=bif !a then true else decide (N>6);let A:Bool:=bif B then true else (np:Int) != N;[(NT 0 1),zE 10 [(cq N nb g)] [] (jB a),(AG (!!a)),(((!!a)=true)→(NT 0 1)),(((!a)=false)→((!!a)=true)),(AG (!B)),(((!B)=true)→(NT 0 1)),((B=false)→((!B)=true)),(AG (!A)),(((!A)=true)→(NT 0 1)),((A=false)→((!A)=true)),((bif A then true else decide ((nb:Int)>15))=true),(false=false)]) [0,1,2,2,3,2,4,5,6,5,5,5,6,5,5,7,8,8,9,8,8,10,11,12]):=by kernel_rfl
theorem J7 (g:Nat→aa) (nb:Nat) (N:Int) (pl:Nat→ae) (np:Nat) (a:Bool) :
    zT Tryz.f13 [rg 2,rm [(2,oc [] (jB a))] 23,.dec false,rg 1,.head] [fU g nb N pl np] [0] (EV g nb N pl np 0) =
    some (xD,zD (let B:Bool:=bif !a then true else decide (N>6);let A:Bool:=bif B then true else (np:Int) != N;[(NT 0 1),zE 10 [(cq N nb g)] [] (jB a),(AG (!!a)),(((!!a)=true)→(NT 0 1)),(((!a)=false)→((!!a)=true)),(AG (!B)),(((!B)=true)→(NT 0 1)),((B=false)→((!B)=true)),(AG (!A)),(((!A)=true)→(NT 0 1)),((A=false)→((!A)=true)),((bif A then true else decide ((nb:Int)>15))=false),(AI N),(AN nb),(AP nb (aF g)),(AN np),(AP np (aF pl)),(AN 0),((0:Int)=(↑0:Int)),((([AV.p (PV.int IntKind.i64 N),b4 g nb,sY pl np].length):Nat)=3),(NL 1 1)]) [0,1,2,2,3,2,4,5,6,5,5,5,6,5,5,7,8,8,9,8,8,10,11,12,13,14,15,16,17,18,19,20,20,12,13,14,15,16]):=by kernel_rfl
theorem OF (g:Nat→aa) (nb:Nat) (N:Int) (pl:Nat→ae) (np:Nat) (i:Nat) (p q:Bool) :
    zM 0 [rg 5,.dec true,rm [(6,oc [] (jB p)),(8,oc [] (jB q))] 2,.dec false,rg 3,.head] xD (EV g nb N pl np i) [0] 1 (EV g nb N pl np (i+1)) =
    some (xD,zD [(NT 0 1),((decide ((i:Int)<(np:Int)))=true),(IL 0 (i:Int)),(IT (i:Int) (np:Int)),zE 41 [jI ((pl i).1),jI 0,jI 4] [] (jB p),(AG (!!p)),(((!!p)=true)→(NT 0 1)),(((!!p)=true)→(IL 0 (i:Int))),(((!!p)=true)→(IT (i:Int) (np:Int))),(((!!p)=true)→zE 41 [jI ((pl i).2.1),jI 0,jI 4] [] (jB q)),(((!p)=false)→((!!p)=true)),((bif !p then true else !q)=false),(ax ((i:Int)+1)),(au ((i:Int)+1)),(AI N),(AN nb),(AP nb (aF g)),(AN np),(AP np (aF pl)),(AN 0),((((i:Int)+1):Int)=(↑(i+1):Int)),(AN 3),(NL 1 1)] [0,1,0,2,3,4,5,6,5,5,7,8,5,5,5,9,5,10,11,12,13,14,15,16,17,18,19,20,21,22,22,14,15,16,17,18]):=by kernel_rfl
theorem MN (g:Nat→aa) (nb:Nat) (N:Int) (pl:Nat→ae) (np:Nat) (i:Nat) (p q:Bool) :
    zP Tryz.f13 0 [rg 5,.dec true,rm [(6,oc [] (jB p)),(8,oc [] (jB q))] 2,.dec true,rg 1] xD (EV g nb N pl np i) [] 1 [] (jB false) =
    some (zD [(NT 0 1),((decide ((i:Int)<(np:Int)))=true),(IL 0 (i:Int)),(IT (i:Int) (np:Int)),zE 41 [jI ((pl i).1),jI 0,jI 4] [] (jB p),(AG (!!p)),(((!!p)=true)→(NT 0 1)),(((!!p)=true)→(IL 0 (i:Int))),(((!!p)=true)→(IT (i:Int) (np:Int))),(((!!p)=true)→zE 41 [jI ((pl i).2.1),jI 0,jI 4] [] (jB q)),(((!p)=false)→((!!p)=true)),((bif !p then true else !q)=true),(false=false)] [0,1,0,2,3,4,5,6,5,5,7,8,5,5,5,9,5,10,11,12]):=by kernel_rfl
theorem MD (g:Nat→aa) (nb:Nat) (N:Int) (pl:Nat→ae) (np:Nat) (i:Nat) :
    zM 0 [rg 5,.dec false,rg 1,.head] xD (EV g nb N pl np i) [0] 1 (ES g nb N pl np 0) =
    some (wV,zD [(NT 0 1),((decide ((i:Int)<(np:Int)))=false),(AI N),(AN nb),(AP nb (aF g)),(AN np),(AP np (aF pl)),(AN 0),((0:Int)=(↑0:Int)),(AN 3),(NL 1 1)] [0,1,2,3,4,5,6,7,8,9,10,10,2,3,4,5,6]):=by kernel_rfl
theorem LZ (g:Nat→aa) (nb:Nat) (N:Int) (pl:Nat→ae) (np:Nat) (i:Nat) :
    zM 0 [rg 6,.dec true,rg 8,rg 28,.dec false,rg 3,.head] wV (ES g nb N pl np i) [0] 1 (ES g nb N pl np (i+1)) =
    some (wV,zD (let A:Bool:=(pl (g i).1.toNat).1==(pl (g i).2.1.toNat).1&&((pl (g i).1.toNat).2.1==(pl (g i).2.1.toNat).2.1&&true);let B:Bool:=decide ((i:Int)>0);let C:Bool:=!(A)&&B;[(NT 0 1),((decide ((i:Int)<(nb:Int)))=true),(IL 0 (i:Int)),(IT (i:Int) (nb:Int)),((true=true)→(AN 1)),(IL 0 ((g i).1)),(IT ((g i).1) (np:Int)),(IL 0 ((g i).2.1)),(IT ((g i).2.1) (np:Int)),(AG (!(A))),(AG C),((C=true)→(NT 0 1)),((C=true)→(ax ((i:Int) - 1))),((C=true)→(au ((i:Int) - 1))),((C=true)→(IL 0 ((i:Int) - 1))),((C=true)→(IT ((i:Int) - 1) (nb:Int))),(((!(A))=true)→((B=true)→(C=true))),((A=false)→((!(A))=true)),((bif A then true else bif B then (g ((i:Int) - 1).toNat).1==(g i).1&&((g ((i:Int) - 1).toNat).2.1==(g i).2.1&&true) else false)=false),(ax ((i:Int)+1)),(au ((i:Int)+1)),(AI N),(AN nb),(AP nb (aF g)),(AN np),(AP np (aF pl)),(AN 0),((((i:Int)+1):Int)=(↑(i+1):Int)),(AN 3),(NL 1 1)]) [0,1,0,2,3,0,4,0,0,5,6,0,0,7,8,9,9,10,10,11,10,12,13,10,10,14,15,10,11,10,10,9,16,17,18,19,20,21,22,23,24,25,26,27,28,29,29,21,22,23,24,25]):=by kernel_rfl
theorem L2 (g:Nat→aa) (nb:Nat) (N:Int) (pl:Nat→ae) (np:Nat) (i:Nat) :
    zP Tryz.f13 0 [rg 6,.dec true,rg 8,rg 28,.dec true,rg 1] wV (ES g nb N pl np i) [] 1 [] (jB false) =
    some (zD (let A:Bool:=(pl (g i).1.toNat).1==(pl (g i).2.1.toNat).1&&((pl (g i).1.toNat).2.1==(pl (g i).2.1.toNat).2.1&&true);let B:Bool:=decide ((i:Int)>0);let C:Bool:=!(A)&&B;[(NT 0 1),((decide ((i:Int)<(nb:Int)))=true),(IL 0 (i:Int)),(IT (i:Int) (nb:Int)),((true=true)→(AN 1)),(IL 0 ((g i).1)),(IT ((g i).1) (np:Int)),(IL 0 ((g i).2.1)),(IT ((g i).2.1) (np:Int)),(AG (!(A))),(AG C),((C=true)→(NT 0 1)),((C=true)→(ax ((i:Int) - 1))),((C=true)→(au ((i:Int) - 1))),((C=true)→(IL 0 ((i:Int) - 1))),((C=true)→(IT ((i:Int) - 1) (nb:Int))),(((!(A))=true)→((B=true)→(C=true))),((A=false)→((!(A))=true)),((bif A then true else bif B then (g ((i:Int) - 1).toNat).1==(g i).1&&((g ((i:Int) - 1).toNat).2.1==(g i).2.1&&true) else false)=true),(false=false)]) [0,1,0,2,3,0,4,0,0,5,6,0,0,7,8,9,9,10,10,11,10,12,13,10,10,14,15,10,11,10,10,9,16,17,18,19]):=by kernel_rfl
theorem L7 (g:Nat→aa) (nb:Nat) (N:Int) (pl:Nat→ae) (np:Nat) (i:Nat) :
    zP Tryz.f13 0 [rg 6,.dec false,rg 1] wV (ES g nb N pl np i) [] 1 [] (jB true) =
    some [(NT 0 1),((decide ((i:Int)<(nb:Int)))=false),(true=true)]:=by kernel_rfl
def Ky (v:aT):AV:=.p (.seq true 5 v.1 (fun i=>[.int .i64 (v.2 i).1,.int .i64 (v.2 i).2.1,.int .i64 (v.2 i).2.2.1,.int .i64 (v.2 i).2.2.2.1,.int .i64 (v.2 i).2.2.2.2.1]))
def wX (K:Int) (g1:Nat→aa) (nb1:Nat) (N1:Int) (g:Nat→aa) (nb:Nat) (N:Int) (pl:Nat→ae) (np:Nat) (w:ad) (v:aT) (u:ad):AV :=
  .agg [.p (.int .i64 K),.p (.int .i64 N1),b4 g1 nb1,.p (.int .i64 N),b4 g nb,sY pl np,eI w,Ky v,eI u]
def a8 (p:Nat→Bool):Nat→Bool
  | 0=>true
  | n+1=>a8 p n&&p n
theorem bY (p:Nat→Bool):∀ n,a8 p n=true↔∀ i,i<n→p i=true
  | 0=>by simp [a8]
  | n+1=>by
    rw [a8,Bool.and_eq_true,bY p n]
    constructor
    · rintro ⟨h1,h2⟩ i hi
      by_cases h:i=n
      · rw [h];exact h2
      · exact h1 i (by omega)
    · intro h;exact ⟨fun i hi=>h i (by omega),h n (by omega)⟩
theorem ib {p:Nat→Bool} {n i:Nat} (hi:i<n) (h:p i=false):a8 p n=false:=by
  cases hb:a8 p n with
  | false=>rfl
  | true=>rw [(bY p n).1 hb i hi] at h;cases h
def re (pl:Nat→ae) (i:Nat):Bool:=bif bC (pl i).1 0 4 then bC (pl i).2.1 0 4 else false
def eA (g:Nat→aa) (i:Nat):Bool:=(g ((i:Int) - 1).toNat).1==(g i).1&&((g ((i:Int) - 1).toNat).2.1==(g i).2.1&&true)
def eB (g:Nat→aa) (pl:Nat→ae) (i:Nat):Bool:=(pl (g i).1.toNat).1==(pl (g i).2.1.toNat).1&&((pl (g i).1.toNat).2.1==(pl (g i).2.1.toNat).2.1&&true)
def qH (g:Nat→aa) (pl:Nat→ae) (i:Nat):Bool:=!(bif bif decide ((i:Int)>0) then eA g i else false then true else eB g pl i)
def gf (g:Nat→aa) (nb:Nat) (N:Int) (pl:Nat→ae) (np:Nat):Bool :=
  (gj g nb N&&(decide (N≤6)&&(decide (nb≤15)&&decide ((np:Int)=N))))&&(a8 (re pl) np&&a8 (qH g pl) nb)
theorem rM (pl:Nat→ae) (i:Nat):zE 83 [.agg [.p (.int .i64 (pl i).1),.p (.int .i64 (pl i).2.1)]] [] (.p (.bool (re pl i))):=by
  have h1:=bp (pl i).1 0 4
  have h2:=bp (pl i).2.1 0 4
  refine aW Tryz.func83 (fun c hc=>?_)
  refine be Tryz.func83 hc (Lu (pl i).1 (pl i).2.1 (bC (pl i).1 0 4) (bC (pl i).2.1 0 4)) ?_
  and_intros
  all_goals (first | exact zI | (exact h1) | (intro _;exact h2) | rfl)
theorem bn (g:Nat→aa) (nb:Nat) (N:Int) (pl:Nat→ae) (np:Nat) (hn:nb≤1048576∧np≤1048576):zE 46 [fU g nb N pl np] [] (.p (.bool (gf g nb N pl np))):=by
  have hg:=aQ (N,(nb,g),()) (EB g nb N hn.1)
  change zE 23 [Fk g nb N] [] (.p (.bool (gj g nb N))) at hg
  refine aW Tryz.func46 (fun c hc=>?_)
  have hcond:(bif bif bif !(gj g nb N) then true else decide (N>6) then true else decide ((nb:Int)>15) then true else (np:Int) != N)=!(gj g nb N&&(decide (N≤6)&&(decide (nb≤15)&&decide ((np:Int)=N)))):=by
    rw [Bool.eq_iff_iff]
    cases gj g nb N with
    | false=>simp
    | true =>
      simp
      omega
  cases h0:(gj g nb N&&(decide (N≤6)&&(decide (nb≤15)&&decide ((np:Int)=N)))) with
  | false =>
    rw [h0] at hcond
    rw [show gf g nb N pl np=false by unfold gf;rw [h0];rfl]
    refine bz Tryz.func46 hc (NN g nb N pl np (gj g nb N)) ?_
    and_intros
    all_goals (first | exact zH | (exact hg) | (exact hcond) | (simp;done))
  | true =>
    rw [h0] at hcond
    rw [show gf g nb N pl np=(a8 (re pl) np&&a8 (qH g pl) nb) by unfold gf;rw [h0];rfl]
    simp only [Bool.and_eq_true,decide_eq_true_eq] at h0
    obtain ⟨hN,hnb,hok⟩:=zv h0.1
    have l1:∀ d i,i+d=nb→a8 (re pl) np=true→a8 (qH g pl) i=true→zR c 46 wY (EL g nb N pl np i) (aS c [] (.p (.bool (a8 (re pl) np&&a8 (qH g pl) nb)))):=by
      intro d
      induction d with
      | zero =>
        intro i hi h1 h2
        obtain rfl:i=nb:=by omega
        have hd:decide ((i:Int)<(i:Int))=false:=by simp
        rw [h1,h2]
        refine be Tryz.func46 hc (Nn g i N pl np i) ?_
        and_intros
        all_goals (first | exact zN | (exact hd) | rfl)
      | succ d ih =>
        intro i hi h1 h2
        have hd:decide ((i:Int)<(nb:Int))=true:=decide_eq_true (by omega)
        have hbar:=hok i (by omega)
        cases hb:qH g pl i with
        | true =>
          have hrec:=ih (i+1) (by omega) h1 (by rw [a8,h2,hb];rfl)
          have hx:(bif bif decide ((i:Int)>0) then eA g i else false then true else eB g pl i)=!(qH g pl i):=(Bool.not_not _).symm
          rw [hb] at hx
          refine a9 hc (Mh g nb N pl np i) ?_ hrec
          and_intros
          all_goals (first | exact zH | (exact hd) | (exact hx) | (intro h;have:=of_decide_eq_true h;omega) | (intro _;omega) | (simp;done) | (simp;omega))
        | false =>
          rw [ib (show i<nb by omega) hb,Bool.and_false]
          have hx:(bif bif decide ((i:Int)>0) then eA g i else false then true else eB g pl i)=!(qH g pl i):=(Bool.not_not _).symm
          rw [hb] at hx
          refine bz Tryz.func46 hc (Mf g nb N pl np i) ?_
          and_intros
          all_goals (first | exact zH | (exact hd) | (exact hx) | (intro h;have:=of_decide_eq_true h;omega) | (intro _;omega) | (simp;done) | (simp;omega))
    have l0:∀ d i,i+d=np→a8 (re pl) i=true→zR c 46 ya (EN g nb N pl np i) (aS c [] (.p (.bool (a8 (re pl) np&&a8 (qH g pl) nb)))):=by
      intro d
      induction d with
      | zero =>
        intro i hi h1
        obtain rfl:i=np:=by omega
        have hd:decide ((i:Int)<(i:Int))=false:=by simp
        refine a9 hc (Oq g nb N pl i i) ?_ (l1 nb 0 (by omega) h1 rfl)
        and_intros
        all_goals (first | exact zN | (exact hd) | (simp;done) | (simp;omega))
      | succ d ih =>
        intro i hi h1
        have hd:decide ((i:Int)<(np:Int))=true:=decide_eq_true (by omega)
        have hp:=rM pl i
        cases hb:re pl i with
        | true =>
          rw [hb] at hp
          have hrec:=ih (i+1) (by omega) (by rw [a8,h1,hb];rfl)
          refine a9 hc (Kw g nb N pl np i) ?_ hrec
          and_intros
          all_goals (first | exact zI | (exact hd) | (exact hp) | rfl | (simp;done) | (simp;omega))
        | false =>
          rw [hb] at hp
          rw [ib (show i<np by omega) hb,Bool.false_and]
          refine be Tryz.func46 hc (Le g nb N pl np i) ?_
          and_intros
          all_goals (first | exact zI | (exact hd) | (exact hp) | rfl | (simp;done) | (simp;omega))
    refine a9 hc (Lo g nb N pl np (gj g nb N)) ?_ (l0 np 0 (by omega) rfl)
    and_intros
    all_goals (first | exact zH | (exact hg) | (exact hcond) | (simp;done))
theorem jP (g:Nat→aa) (nb:Nat) (N:Int) (pl:Nat→ae) (np:Nat) (hn:nb≤1048576∧np≤1048576):zE 13 [fU g nb N pl np] [] (.p (.bool (gf g nb N pl np))):=by
  have hg:=bH (N,(nb,g),()) (EB g nb N hn.1)
  change zE 10 [Fk g nb N] [] (.p (.bool (gj g nb N))) at hg
  refine aW Tryz.func13 (fun c hc=>?_)
  have hcond:(bif bif bif !(gj g nb N) then true else decide (N>6) then true else (np:Int) != N then true else decide ((nb:Int)>15))=!(gj g nb N&&(decide (N≤6)&&(decide (nb≤15)&&decide ((np:Int)=N)))):=by
    rw [Bool.eq_iff_iff]
    cases gj g nb N with
    | false=>simp
    | true =>
      simp
      omega
  cases h0:(gj g nb N&&(decide (N≤6)&&(decide (nb≤15)&&decide ((np:Int)=N)))) with
  | false =>
    rw [h0] at hcond
    rw [show gf g nb N pl np=false by unfold gf;rw [h0];rfl]
    refine bz Tryz.func13 hc (Nj g nb N pl np (gj g nb N)) ?_
    and_intros
    all_goals (first | exact zH | (exact hg) | (exact hcond) | (simp;done))
  | true =>
    rw [h0] at hcond
    rw [show gf g nb N pl np=(a8 (re pl) np&&a8 (qH g pl) nb) by unfold gf;rw [h0];rfl]
    simp only [Bool.and_eq_true,decide_eq_true_eq] at h0
    obtain ⟨hN,hnb,hok⟩:=zv h0.1
    have hsw:∀ i,(bif eB g pl i then true else bif decide ((i:Int)>0) then eA g i else false)=!(qH g pl i):=by
      intro i
      unfold qH
      cases eB g pl i<;>cases eA g i<;>cases decide ((i:Int)>0)<;>rfl
    have l1:∀ d i,i+d=nb→a8 (re pl) np=true→a8 (qH g pl) i=true→zR c 13 wV (ES g nb N pl np i) (aS c [] (.p (.bool (a8 (re pl) np&&a8 (qH g pl) nb)))):=by
      intro d
      induction d with
      | zero =>
        intro i hi h1 h2
        obtain rfl:i=nb:=by omega
        have hd:decide ((i:Int)<(i:Int))=false:=by simp
        rw [h1,h2]
        refine be Tryz.func13 hc (L7 g i N pl np i) ?_
        and_intros
        all_goals (first | exact zN | (exact hd) | rfl)
      | succ d ih =>
        intro i hi h1 h2
        have hd:decide ((i:Int)<(nb:Int))=true:=decide_eq_true (by omega)
        have hbar:=hok i (by omega)
        have hx:=hsw i
        cases hb:qH g pl i with
        | true =>
          have hrec:=ih (i+1) (by omega) h1 (by rw [a8,h2,hb];rfl)
          rw [hb] at hx
          refine a9 hc (LZ g nb N pl np i) ?_ hrec
          and_intros
          all_goals (first | exact zH | (exact hd) | (exact hx) | (intro h;simp only [Bool.and_eq_true,decide_eq_true_eq] at h;omega) | (intro h1 h2;rw [h1,h2];rfl) | (intro h;rw [h];rfl) | (simp;done) | (simp;omega))
        | false =>
          rw [ib (show i<nb by omega) hb,Bool.and_false]
          rw [hb] at hx
          refine bz Tryz.func13 hc (L2 g nb N pl np i) ?_
          and_intros
          all_goals (first | exact zH | (exact hd) | (exact hx) | (intro h;simp only [Bool.and_eq_true,decide_eq_true_eq] at h;omega) | (intro h1 h2;rw [h1,h2];rfl) | (intro h;rw [h];rfl) | (simp;done) | (simp;omega))
    have l0:∀ d i,i+d=np→a8 (re pl) i=true→zR c 13 xD (EV g nb N pl np i) (aS c [] (.p (.bool (a8 (re pl) np&&a8 (qH g pl) nb)))):=by
      intro d
      induction d with
      | zero =>
        intro i hi h1
        obtain rfl:i=np:=by omega
        have hd:decide ((i:Int)<(i:Int))=false:=by simp
        refine a9 hc (MD g nb N pl i i) ?_ (l1 nb 0 (by omega) h1 rfl)
        and_intros
        all_goals (first | exact zN | (exact hd) | (simp;done) | (simp;omega))
      | succ d ih =>
        intro i hi h1
        have hd:decide ((i:Int)<(np:Int))=true:=decide_eq_true (by omega)
        have p1:=dY (pl i).1 0 4
        have p2:=dY (pl i).2.1 0 4
        have hx:(bif !(bC (pl i).1 0 4) then true else !(bC (pl i).2.1 0 4))=!(re pl i):=by
          unfold re
          cases bC (pl i).1 0 4<;>rfl
        cases hb:re pl i with
        | true =>
          rw [hb] at hx
          have hrec:=ih (i+1) (by omega) (by rw [a8,h1,hb];rfl)
          refine a9 hc (OF g nb N pl np i (bC (pl i).1 0 4) (bC (pl i).2.1 0 4)) ?_ hrec
          and_intros
          all_goals (first | exact zH | (exact hd) | (exact p1) | (intro _;exact p2) | (exact hx) | (intro h;rw [h];rfl) | (simp;done) | (intro _;omega) | (simp;omega))
        | false =>
          rw [hb] at hx
          rw [ib (show i<np by omega) hb,Bool.false_and]
          refine bz Tryz.func13 hc (MN g nb N pl np i (bC (pl i).1 0 4) (bC (pl i).2.1 0 4)) ?_
          and_intros
          all_goals (first | exact zH | (exact hd) | (exact p1) | (intro _;exact p2) | (exact hx) | (intro h;rw [h];rfl) | (simp;done) | (intro _;omega) | (simp;omega))
    refine a9 hc (J7 g nb N pl np (gj g nb N)) ?_ (l0 np 0 (by omega) rfl)
    and_intros
    all_goals (first | exact zH | (exact hg) | (exact hcond) | (simp;done))
def EO (g:Nat→aa) (nb N:Nat) (pl:Nat→ae) (np:Nat):Ob:=⟨true,3,1,fun _=>[.p (.int .i64 N),b4 g nb,sY pl np]⟩
def FH (g:Nat→aa) (nb N:Nat) (pl:Nat→ae) (np:Nat) (M:Nat→Nat→Int) (i:Nat):St :=
  ⟨[.p .any,.pt 3 0 0 0,.p .any,.ar 1 1 0 i]++List.replicate 12 ag++[b4 g nb,.p (.int .i64 nb),.p (.int .i64 i)]++List.replicate 68 ag,[(0,EO g nb N pl np),(1,dV 2 i (cM (2*N) M)),(2,ed i (cM (2*N) M))],3⟩
theorem Lm (g:Nat→aa) (nb N:Nat) (pl:Nat→ae) (np:Nat) (M:Nat→Nat→Int) :
    zT Tryz.f48 [rg 2,rg 2,rm [(1,oc [] (jB true))] 1,.dec false,rg 5,.head] [fU g nb N pl np] [0,64] (FH g nb N pl np M 0) =
    some (zt,zD [(NT 0 1),zE 46 [(nV N nb g np pl)] [] (jB true),((!true)=false),(AN 0),(AN nb),(AP nb (aF g)),(AI ((nb:Int))),((0:Int)=(↑0:Int)),((([AV.p (PV.int IntKind.i64 (N:Int)),b4 g nb,sY pl np].length):Nat)=3),(NL 1 1),(AI ((N:Int))),(AN np),(AP np (aF pl)),(AN 1),(NL 0 0),(∀ i:Nat,(((i:Nat)<0)→(af []∧(([.p (.nil)]:List AV)=[.ar 1 ⟨2,some i⟩ 0 (2*N)]))))] [0,1,2,0,3,3,3,4,5,6,7,8,9,9,10,4,5,11,12,13,14,15,3]):=by kernel_rfl
theorem Mv (g:Nat→aa) (nb N:Nat) (pl:Nat→ae) (np:Nat) (M:Nat→Nat→Int) (i:Nat) :
    zM 0 [rg 1,.dec true,rg 4,rg 6,rg 16,rg 23,rg 23,rg 5,rg 2,.head] zt (FH g nb N pl np M i) [0,2435,.ins 2 i 291] 1 (FH g nb N pl np M (i+1)) =
    some (zt,zD [((decide ((i:Int)<(nb:Int)))=true),(IL 0 (i:Int)),(IT (i:Int) (nb:Int)),(NT 0 1),((true=true)→(AN 1)),(ax (2*(N:Int))),(au (2*(N:Int))),(IL 0 (2*(N:Int))),(IL (2*(N:Int)) (2*(N:Int))),(IL (2*(N:Int)*(↑8:Int)) 281474976710656),(IL 0 ((g i).1)),(IT ((g i).1) (np:Int)),(IL 0 ((g i).2.1)),(IT ((g i).2.1) (np:Int)),(ax (2*(g i).1)),(au (2*(g i).1)),(ax (2*(g i).1+1)),(au (2*(g i).1+1)),(ax ((pl (g i).1.toNat).1 - (pl (g i).2.1.toNat).1)),(au ((pl (g i).1.toNat).1 - (pl (g i).2.1.toNat).1)),(ax ((pl (g i).1.toNat).2.1 - (pl (g i).2.1.toNat).2.1)),(au ((pl (g i).1.toNat).2.1 - (pl (g i).2.1.toNat).2.1)),(IL 0 (2*(g i).1)),(IT (2*(g i).1) (↑(2*N):Int)),(NT ((2*(g i).1).toNat) (2*N)),((false=true)→(((2*N):Nat)=1)),(IL 0 (2*(g i).1+1)),(IT (2*(g i).1+1) (↑(2*N):Int)),(NT ((2*(g i).1+1).toNat) (2*N)),(ax (2*(g i).2.1)),(au (2*(g i).2.1)),(ax (2*(g i).2.1+1)),(au (2*(g i).2.1+1)),(ax ((pl (g i).2.1.toNat).1 - (pl (g i).1.toNat).1)),(au ((pl (g i).2.1.toNat).1 - (pl (g i).1.toNat).1)),(ax ((pl (g i).2.1.toNat).2.1 - (pl (g i).1.toNat).2.1)),(au ((pl (g i).2.1.toNat).2.1 - (pl (g i).1.toNat).2.1)),(IL 0 (2*(g i).2.1)),(IT (2*(g i).2.1) (↑(2*N):Int)),(NT ((2*(g i).2.1).toNat) (2*N)),(IL 0 (2*(g i).2.1+1)),(IT (2*(g i).2.1+1) (↑(2*N):Int)),(NT ((2*(g i).2.1+1).toNat) (2*N)),(NL 1 1),(NL i i),(NL ((i+1)*24) 140737488355328),(NL (i+1) 9223372036854775807),(ax ((i:Int)+1)),(au ((i:Int)+1)),(AN 0),(AN ((i+1))),(AN nb),(AP nb (aF g)),(AI ((nb:Int))),((((i:Int)+1):Int)=(↑(i+1):Int)),(AN 3),(AI ((N:Int))),(AN np),(AP np (aF pl)),(AN 1),(NL (i+1) (i+1)),(CV [(2435,⟨false,1,(i+1),(fun i_2=>(if (i_2<i) then [.ar 1 ⟨2,some i_2⟩ 0 (2*N)] else [.ar 1 291 0 (2*N)]))⟩),(2403,⟨false,1,1,(fun i_2=>[.ar 1 291 0 (2*N)])⟩),(291,⟨false,1,(2*N),(fun i_2=>(if (i_2=(2*(g i).2.1+1).toNat) then [.p (.int .i64 ((pl (g i).2.1.toNat).2.1 - (pl (g i).1.toNat).2.1))] else (if (i_2=(2*(g i).2.1).toNat) then [.p (.int .i64 ((pl (g i).2.1.toNat).1 - (pl (g i).1.toNat).1))] else (if (i_2=(2*(g i).1+1).toNat) then [.p (.int .i64 ((pl (g i).1.toNat).2.1 - (pl (g i).2.1.toNat).2.1))] else (if (i_2=(2*(g i).1).toNat) then [.p (.int .i64 ((pl (g i).1.toNat).1 - (pl (g i).2.1.toNat).1))] else [.p (.int .i64 0)])))))⟩),(771,⟨true,2,1,(fun i_2=>[.p (.int .i64 ((pl (g i).2.1.toNat).1)),.p (.int .i64 ((pl (g i).2.1.toNat).2.1))])⟩),(739,⟨true,2,1,(fun i_2=>[.p (.int .i64 ((pl (g i).1.toNat).1)),.p (.int .i64 ((pl (g i).1.toNat).2.1))])⟩),(99,⟨true,2,1,(fun i_2=>[.p (.int .i64 ((g i).1)),.p (.int .i64 ((g i).2.1))])⟩),(0,⟨true,3,1,(fun i_2=>[.p (.int .i64 (N:Int)),.p (.seq true 2 nb (aF g)),.p (.seq true 2 np (aF pl))])⟩),(2,⟨true,0,i,(fun i_2=>[.p (.seq false 1 (2*N) (fun i_3=>[.int .i64 ((cM (2*N) M i_2).2 i_3)]))])⟩)] [0,2435,.ins 2 i 291] 1 (i+1) (fun i_1=>if (i_1<i) then [.ar 1 ⟨2,some i_1⟩ 0 (2*N)] else [.ar 1 291 0 (2*N)]) (fun i_1=>[.ar 1 ⟨2,some i_1⟩ 0 (2*N)])),(∀ i_1:Nat,(((i_1:Nat)<(i+1))→(((i_1:Nat)≠i)→(((i_1:Nat)<i)∧af [(AN 1),(((2*N):Nat)≤(2*N)),(AP ((2*N)) (fun r=>[.int .i64 ((cM (2*N) M i_1).2 r)]))])))),(((i:Nat)<(i+1))→af [(AN 1),(((2*N):Nat)≤(2*N)),(∀ r:Nat,(((r:Nat)<(2*N))→(([(toP (List.getD ((if (r=(2*(g i).2.1+1).toNat) then [.p (.int .i64 ((pl (g i).2.1.toNat).2.1 - (pl (g i).1.toNat).2.1))] else (if (r=(2*(g i).2.1).toNat) then [.p (.int .i64 ((pl (g i).2.1.toNat).1 - (pl (g i).1.toNat).1))] else (if (r=(2*(g i).1+1).toNat) then [.p (.int .i64 ((pl (g i).1.toNat).2.1 - (pl (g i).2.1.toNat).2.1))] else (if (r=(2*(g i).1).toNat) then [.p (.int .i64 ((pl (g i).1.toNat).1 - (pl (g i).2.1.toNat).1))] else [.p (.int .i64 0)])))):List AV) 0 (.p .any)))]:List PV)=[.int .i64 ((cM (2*N) M i).2 r)])))])] [0,1,2,3,4,3,5,6,7,8,9,6,3,3,10,11,3,3,12,13,3,4,3,4,3,14,15,3,14,15,16,17,3,3,18,19,3,3,20,21,22,23,24,25,26,27,28,25,3,29,30,3,29,30,31,32,3,3,33,34,3,3,35,36,37,38,39,25,40,41,42,25,43,44,45,46,47,48,49,49,50,51,52,53,54,55,43,43,56,51,52,57,58,59,60,61,62,63]):=by kernel_rfl
theorem Kf (g:Nat→aa) (nb N:Nat) (pl:Nat→ae) (np:Nat) (M:Nat→Nat→Int) (i:Nat) :
    zP Tryz.f48 0 [rg 1,.dec false,rg 2] zt (FH g nb N pl np M i) [1,2] 1 [(0,dV 1 i (cM (2*N) M)),(1,ed i (cM (2*N) M))] (.ar 1 0 0 i) =
    some [((decide ((i:Int)<(nb:Int)))=false),(AN 0),(AN i),(AN 1),(NL i i),(AA i (fun i_1=>[.ar 1 ⟨1,some i_1⟩ 0 (2*N)])),(NL i i),(∀ i_1:Nat,(((i_1:Nat)<i)→af [(AN 1),(((2*N):Nat)≤(2*N)),(AP ((2*N)) (fun r=>[.int .i64 ((cM (2*N) M i_1).2 r)]))])),(AE i),(∀ i_1:Nat,(((i_1:Nat)<i)→af [(false=false),(AE ((2*N)))]))]:=by kernel_rfl
theorem K3 (n m:Nat) (M M':Nat→Nat→Int) (r:Nat) (p:Nat→Int) (d:Int) :
    zS Tryz.f47 [rg 1,rm [(2,oc (mH n m M' r p) (.tup [.ar 1 0 0 m,.ar 1 2 0 r,jI d]))] 7,rg 3] [pT m (cM n M),jI n] [] [] (jI r) =
    some [zE 84 [.p (.seq true 1 m (fun i=>[.seq true 1 n (fun i_1=>[.int .i64 ((cM n M i).2 i_1)])])),jI (n:Int)] [(0,⟨false,1,m,(fun i=>[.ar 1 ⟨1,some i⟩ 0 n])⟩),(1,⟨true,0,m,(fun i=>[.p (.seq false 1 n (fun i_1=>[.int .i64 ((cM n M' i).2 i_1)]))])⟩),(2,⟨false,1,r,(fun i=>[.p (.int .i64 (p i))])⟩)] (.tup [.ar 1 0 0 m,.ar 1 2 0 r,jI d]),(AI ((r:Int)))]:=by kernel_rfl
theorem Lk (g:Nat→aa) (nb:Nat) (N:Int) (pl:Nat→ae) (np:Nat) :
    zS Tryz.f14 [rg 2,rm [(1,oc [] (jB false))] 1,.dec true,rg 1] [fU g nb N pl np] [] [] (jI (-1)) =
    some [(NT 0 1),zE 46 [(rZ N nb g np pl)] [] (jB false),((!false)=true),(AI ((-1)))]:=by kernel_rfl
theorem Kv (g:Nat→aa) (nb N:Nat) (pl:Nat→ae) (np:Nat) (M:Nat→Nat→Int) (r:Nat) :
    zS Tryz.f14 [rg 2,rm [(1,oc [] (jB true))] 1,.dec false,rm [(1,oc [(0,dV 1 nb (cM (2*N) M)),(1,ed nb (cM (2*N) M))] (.ar 1 0 0 nb)),(4,⟨true,(some ⟨[],[],[193],2,[],jI r⟩),none⟩)] 1] [fU g nb N pl np] [] [] (jI r) =
    some [(NT 0 1),zE 46 [(nV N nb g np pl)] [] (jB true),((!true)=false),(NT 0 1),zE 48 [(nV N nb g np pl)] [(0,⟨false,1,nb,(fun i=>[.ar 1 ⟨1,some i⟩ 0 (2*N)])⟩),(1,⟨true,0,nb,(fun i=>[.p (.seq false 1 (2*N) (fun i_1=>[.int .i64 ((cM (2*N) M i).2 i_1)]))])⟩)] (.ar 1 0 0 nb),(NT 0 1),(ax (2*(N:Int))),(au (2*(N:Int))),(AN 1),(NL nb nb),(∀ i:Nat,(((i:Nat)<nb)→af [((i:Nat)<nb),(AN 1),(((2*N):Nat)≤(2*N))])),zE 47 [.p (.seq true 1 nb (fun i=>[.seq true 1 (2*N) (fun i_1=>[.int .i64 ((cM (2*N) M i).2 i_1)])])),jI (2*(N:Int))] [] (jI (r:Int)),(AI ((r:Int)))]:=by kernel_rfl
def gA (g:Nat→aa) (k:Nat):Nat:=(g k).1.toNat
def gB (g:Nat→aa) (k:Nat):Nat:=(g k).2.1.toNat
def pX (pl:Nat→ae) (v:Nat):Int:=(pl v).1
def pY (pl:Nat→ae) (v:Nat):Int:=(pl v).2.1
def nO (g:Nat→aa) (pl:Nat→ae):Nat→Nat→Int:=Had.rg (gA g) (gB g) (pX pl) (pY pl)
theorem jV {x a b:Int}:bC x a b=true↔a≤x∧x≤b:=by simp [bC]
theorem nm {g:Nat→aa} {nb:Nat} {N:Int} {pl:Nat→ae} {np:Nat} (h:gf g nb N pl np=true) :
    ah (N,(nb,g),())=true∧N≤6∧nb≤15∧(np:Int)=N∧(∀ i,i<np→(0≤(pl i).1∧(pl i).1≤4)∧(0≤(pl i).2.1∧(pl i).2.1≤4))∧∀ i,i<nb→qH g pl i=true:=by
  unfold gf at h
  simp only [Bool.and_eq_true,decide_eq_true_eq,bY] at h
  obtain ⟨⟨h1,h2,h3,h4⟩,h5,h6⟩:=h
  refine ⟨h1,h2,h3,h4,fun i hi=>?_,h6⟩
  have:=h5 i hi
  unfold re at this
  cases hb:bC (pl i).1 0 4 with
  | false=>rw [hb] at this;cases this
  | true =>
    rw [hb] at this
    exact ⟨jV.1 hb,jV.1 this⟩
theorem e9 {g:Nat→aa} {nb N:Nat} {pl:Nat→ae} {np:Nat} (h:gf g nb N pl np=true) :
    ah ((N:Int),(nb,g),())=true∧N≤6∧nb≤15∧np=N∧aO N nb g∧Had.Bars N nb (gA g) (gB g) (pX pl) (pY pl):=by
  obtain ⟨h1,h2,h3,h4,h5,h6⟩:=nm h
  obtain ⟨hN,hnb,hok⟩:=aB h1
  have ha:=u9 h1
  refine ⟨h1,by omega,h3,by omega,hok,⟨by omega,fun k hk=>?_,fun k hk=>?_,fun v hv=>(h5 v (by omega)).1,fun v hv=>(h5 v (by omega)).2,fun k hk=>?_⟩⟩
  · obtain ⟨a1,a2,a3⟩:=hok k hk
    unfold gA gB
    omega
  · obtain ⟨a1,a2,a3⟩:=hok k (by omega)
    obtain ⟨b1,b2,b3⟩:=hok (k+1) hk
    have h7:=(t7 _ _).1 (ha k hk)
    have h8:=h6 (k+1) hk
    unfold qH eA at h8
    rw [decide_eq_true (show ((k+1:Nat):Int)>0 by omega),show (((k+1:Nat):Int) - 1).toNat=k by omega] at h8
    simp only [cond_true,Bool.and_true] at h8
    have h9:¬ ((g k).1=(g (k+1)).1∧(g k).2.1=(g (k+1)).2.1):=fun ⟨e1,e2⟩=>by
      rw [e1,e2] at h8;simp at h8
    unfold gA gB
    omega
  · have h8:=h6 k hk
    unfold qH at h8
    have h9:eB g pl k=false:=by
      cases he:eB g pl k with
      | false=>rfl
      | true =>
        rw [he] at h8
        cases hx:(bif decide ((k:Int)>0) then eA g k else false)<;>rw [hx] at h8<;>cases h8
    unfold eB at h9
    unfold pX pY gA gB
    by_cases e1:(pl (g k).1.toNat).1=(pl (g k).2.1.toNat).1
    · by_cases e2:(pl (g k).1.toNat).2.1=(pl (g k).2.1.toNat).2.1
      · rw [e1,e2] at h9;simp at h9
      · exact .inr e2
    · exact .inl e1
theorem M5 {c1 c2 c3 c4:Prop} [Decidable c1] [Decidable c2] [Decidable c3] [Decidable c4] (a1 a2 a3 a4:Int) :
    toP (List.getD ((if c1 then [.p (.int .i64 a1)] else (if c2 then [.p (.int .i64 a2)] else (if c3 then [.p (.int .i64 a3)] else (if c4 then [.p (.int .i64 a4)] else [.p (.int .i64 0)])))):List AV) 0 (.p .any)) =
      .int .i64 (if c1 then a1 else if c2 then a2 else if c3 then a3 else if c4 then a4 else 0):=by
  repeat' split
  all_goals rfl
theorem CH {a b xA xB yA yB:Int} (h0:0≤a) (h1:a<b) (r:Nat) :
    (if r=(2*b+1).toNat then yB - yA else if r=(2*b).toNat then xB - xA else if r=(2*a+1).toNat then yA - yB else if r=(2*a).toNat then xA - xB else 0)=Had.rv (xA - xB) (yA - yB) a.toNat b.toNat r:=by
  unfold Had.rv
  repeat' split
  all_goals omega
theorem rT {g:Nat→aa} {nb N:Nat} {pl:Nat→ae} {np:Nat} (h:gf g nb N pl np=true) :
    zE 48 [fU g nb N pl np] [(0,dV 1 nb (cM (2*N) (nO g pl))),(1,ed nb (cM (2*N) (nO g pl)))] (.ar 1 0 0 nb):=by
  obtain ⟨h1,h2,h3,h4,hok,hb⟩:=e9 h
  have cf:=bn g nb N pl np (by omega)
  rw [h] at cf
  refine aW Tryz.func48 (fun c hc=>?_)
  have lo:∀ d i,i+d=nb→zR c 48 zt (FH g nb N pl np (nO g pl) i) (aS c [(0,dV 1 nb (cM (2*N) (nO g pl))),(1,ed nb (cM (2*N) (nO g pl)))] (.ar 1 0 0 nb)):=by
    intro d
    induction d with
    | zero =>
      intro i hi
      obtain rfl:i=nb:=by omega
      have hd:decide ((i:Int)<(i:Int))=false:=decide_eq_false (by omega)
      refine be Tryz.func48 hc (Kf g i N pl np (nO g pl) i) ?_
      and_intros
      iterate 2 all_goals (first | exact zN | (exact hd) | (intro t ht;simp [af];done) | simp only [af])
    | succ d ih =>
      intro i hi
      have hd:decide ((i:Int)<(nb:Int))=true:=decide_eq_true (by omega)
      obtain ⟨o1,o2,o3⟩:=hok i (by omega)
      have q1:=hb.gx (gA g i) (by unfold gA;omega)
      have q2:=hb.gx (gB g i) (by unfold gB;omega)
      have q3:=hb.gy (gA g i) (by unfold gA;omega)
      have q4:=hb.gy (gB g i) (by unfold gB;omega)
      unfold pX gA at q1
      unfold pX gB at q2
      unfold pY gA at q3
      unfold pY gB at q4
      have hrow:∀ r,(if r=(2*(g i).2.1+1).toNat then (pl (g i).2.1.toNat).2.1 - (pl (g i).1.toNat).2.1 else if r=(2*(g i).2.1).toNat then (pl (g i).2.1.toNat).1 - (pl (g i).1.toNat).1 else if r=(2*(g i).1+1).toNat then (pl (g i).1.toNat).2.1 - (pl (g i).2.1.toNat).2.1 else if r=(2*(g i).1).toNat then (pl (g i).1.toNat).1 - (pl (g i).2.1.toNat).1 else 0)=nO g pl i r :=
        fun r=>CH o1 o2 r
      refine a9 hc (Mv g nb N pl np (nO g pl) i) ?_ (ih (i+1) (by omega))
      repeat' (first | exact aN | apply aI)
      iterate 2 all_goals (first | exact zH | (exact hd) | (intro t ht;by_cases h':t<i;exact ⟨by simp [h',ay,bh,tg,bu,iE,dd,sP,sM,af,Nat.ne_of_lt h'],by simp [h',ay,bh,tg,bu,iE,dd,sP,sM]⟩;rw [show t=i by omega];exact ⟨by simp [ay,bh,tg,bu,iE,dd,sP,sM,af],by simp [ay,bh,tg,bu,iE,dd,sP,sM]⟩) | (intro t ht hne;exact ⟨by omega,by simp [af]⟩) | (intro _;simp only [af,cM];exact ⟨trivial,Nat.le_refl _,fun r hr=>by rw [M5,hrow],trivial⟩) | (intro t ht;simp [af];done) | simp only [af])
  refine a9 hc (Lm g nb N pl np (nO g pl)) ?_ (lo nb 0 (by omega))
  and_intros
  iterate 2 all_goals (first | exact zN | (exact cf) | (intro t ht;exact absurd ht (Nat.not_lt_zero _)) | (intro t ht;simp [af];done) | simp only [af])
theorem zy {n m rmx:Nat} {B:Int} {M:Nat→Nat→Int} {K:Nat→Nat→(Nat→Nat→Int)→Prop} (hn:n≤1000) (hm:m≤1000) (hB:1≤B) (hM:B ^ (2*rmx)≤2 ^ 124)
    (hok:∀ c,c≤n→Had.ROK n m rmx B K c (Had.rrun m (Had.rini M) c)) :
    zE 47 [pT m (cM n M),.p (.int .i64 n)] [] (.p (.int .i64 (Had.rrun m (Had.rini M) n).r)):=by
  have cr:=kZ hn hm hB hM hok rfl
  generalize Had.rrun m (Had.rini M) n=S at cr ⊢
  refine aW Tryz.func47 (fun c hc=>?_)
  refine be Tryz.func47 hc (K3 n m M S.A S.r (fun i=>(S.p i:Int)) S.d) ?_
  and_intros
  all_goals (first | exact zN | (exact cr) | rfl)
def DB (g:Nat→aa) (nb N:Nat) (pl:Nat→ae):Nat:=(Had.rrun nb (Had.rini (nO g pl)) (2*N)).r
def vF (g:Nat→aa) (nb:Nat) (N:Int) (pl:Nat→ae) (np:Nat):Int:=if gf g nb N pl np=true then (DB g nb N.toNat pl:Int) else -1
theorem xO {g:Nat→aa} {nb:Nat} {N:Int} {pl:Nat→ae} {np:Nat} (h:gf g nb N pl np=true):∃ n:Nat,N=n:=by
  obtain ⟨h1,_⟩:=nm h
  have:=(cD h1).1
  exact ⟨N.toNat,by have:(1:Int)≤N:=this;omega⟩
theorem fO (g:Nat→aa) (nb:Nat) (N:Int) (pl:Nat→ae) (np:Nat) (hn:nb≤1048576∧np≤1048576) :
    zE 14 [fU g nb N pl np] [] (.p (.int .i64 (vF g nb N pl np))):=by
  have cf:=bn g nb N pl np hn
  unfold vF
  cases hf:gf g nb N pl np with
  | false =>
    rw [hf] at cf
    rw [if_neg Bool.false_ne_true]
    refine aW Tryz.func14 (fun c hc=>?_)
    refine be Tryz.func14 hc (Lk g nb N pl np) ?_
    and_intros
    all_goals (first | exact zN | (exact cf) | rfl)
  | true =>
    rw [hf] at cf
    rw [if_pos rfl]
    obtain ⟨n,rfl⟩:=xO hf
    obtain ⟨h1,h2,h3,h4,hok,hb⟩:=e9 hf
    have cm:=rT hf
    have cr:=zy (n:=2*n) (m:=nb) (M:=nO g pl) (by omega) (by omega) (by decide) Had.big64 (fun c hc=>hb.red c hc)
    rw [show ((2*n:Nat):Int)=2*(n:Int) by omega] at cr
    show Con _ _ _ _ _ _ (.p (.int .i64 ((Had.rrun nb (Had.rini (nO g pl)) (2*n)).r:Nat)))
    generalize (Had.rrun nb (Had.rini (nO g pl)) (2*n)).r=r at *
    refine aW Tryz.func14 (fun c hc=>?_)
    refine be Tryz.func14 hc (Kv g nb n pl np (nO g pl) r) ?_
    repeat' (first | exact aN | apply aI)
    iterate 2 all_goals (first | exact zN | (exact cf) | (exact cm) | (exact cr) | rfl | (intro t ht;simp only [af];exact ⟨ht,trivial,Nat.le_refl _,trivial⟩) | (intro t ht;simp [af];omega) | simp only [af])
def nH (n m:Nat) (M:Nat→Nat→Int) (r:Nat) (p:Nat→Int) (R:Nat→Int):Hp:=[(0,dV 1 m (cM n M)),(1,ed m (cM n M)),(2,aY r p),(3,aY n R)]
def N0 (n m:Nat) (M:Nat→Nat→Int) (r:Nat) (p:Nat→Int) (d:Int) (i:Nat) (R:Nat→Int):St :=
  ⟨[.p .any,.p (.int .i64 n),.p .any,.p .any,.p .any,.ar 1 0 0 m,.ar 1 2 0 r,.p (.int .i64 d),.ar 1 3 0 n]++List.replicate 17 ag++[.p (.int .i64 n),.p (.int .i64 i)]++List.replicate 65 ag,nH n m M r p R,4⟩
def N1 (n m:Nat) (M:Nat→Nat→Int) (r:Nat) (p:Nat→Int) (d:Int) (i:Nat) (R:Nat→Int):St :=
  ⟨[.p .any,.p (.int .i64 n),.p .any,.p .any,.p .any,.ar 1 0 0 m,.p .any,.p (.int .i64 d),.ar 1 3 0 n]++List.replicate 25 ag++[.ar 1 2 0 r,.p (.int .i64 r),.p (.int .i64 i)]++List.replicate 56 ag,nH n m M r p R,4⟩
def nK (n m:Nat) (M:Nat→Nat→Int) (R:Nat→Int) (q:Nat) (W:Nat→Nat→Int):Hp:=[(0,dV 1 m (cM n M)),(1,ed m (cM n M)),(2,aY n R),(3,dV 4 q (cM n W)),(4,ed q (cM n W))]
def N2 (n m:Nat) (M:Nat→Nat→Int) (d:Int) (R:Nat→Int) (c q:Nat) (W:Nat→Nat→Int):St :=
  ⟨[.p .any,.p (.int .i64 n),.p .any,.p .any,.p .any,.ar 1 0 0 m,.p .any,.p (.int .i64 d),.ar 1 2 0 n,.p .any,.p .any,.p .any,.ar 1 3 0 q]++List.replicate 34 ag++[.p (.int .i64 n),.p (.int .i64 c)]++List.replicate 44 ag,nK n m M R q W,5⟩
def N3 (n m:Nat) (M:Nat→Nat→Int) (d:Int) (R:Nat→Int) (c q:Nat) (W:Nat→Nat→Int) (k:Nat) (v:Nat→Int):St :=
  ⟨[.p .any,.p (.int .i64 n),.p .any,.p .any,.p .any,.ar 1 0 0 m,.p .any,.p (.int .i64 d),.ar 1 2 0 n,.p .any,.p .any,.p .any,.ar 1 3 0 q,.p (.int .i64 c),.ar 1 5 0 n]++List.replicate 32 ag++[.p (.int .i64 n),.p (.int .i64 c)]++List.replicate 13 ag++[.p (.int .i64 n),.p (.int .i64 k)]++List.replicate 29 ag,nK n m M R q W++[(5,aY n v)],6⟩
theorem nz (n m:Nat) (M0 M:Nat→Nat→Int) (r:Nat) (p:Nat→Int) (d:Int) (R:Nat→Int) :
    zT Tryz.f85 [rg 1,rm [(2,oc (mH n m M r p) (.tup [.ar 1 0 0 m,.ar 1 2 0 r,jI d]))] 7,rg 3,rg 3,.head] [pT m (cM n M0),jI n] [96,97,98,384] (N0 n m M r p d 0 R) =
    some (An,[zE 84 [.p (.seq true 1 m (fun i=>[.seq true 1 n (fun i_1=>[.int .i64 ((cM n M0 i).2 i_1)])])),jI (n:Int)] [(0,⟨false,1,m,(fun i=>[.ar 1 ⟨1,some i⟩ 0 n])⟩),(1,⟨true,0,m,(fun i=>[.p (.seq false 1 n (fun i_1=>[.int .i64 ((cM n M i).2 i_1)]))])⟩),(2,⟨false,1,r,(fun i=>[.p (.int .i64 (p i))])⟩)] (.tup [.ar 1 0 0 m,.ar 1 2 0 r,jI d]),(IL 0 (n:Int)),(IL (n:Int) (n:Int)),(IL ((n:Int)*(↑8:Int)) 281474976710656),(au (n:Int)),(AI ((n:Int))),(AN 0),(AN m),(AN 0),(AN r),(AI d),(AN 0),(AN n),(AI ((n:Int))),((0:Int)=(↑0:Int)),(AN 1),(NL m m),(AA m (fun i=>[.ar 1 ⟨1,some i⟩ 0 n])),(NL m m),(∀ i:Nat,(((i:Nat)<m)→af [(AN 1),((n:Nat)≤n),(AP n (fun r_1=>[.int .i64 ((cM n M i).2 r_1)]))])),(AN 1),(NL r r),(AA r (fun i=>[.p (.int .i64 (p i))])),(AN 1),(NL n n),(∀ i:Nat,(((i:Nat)<n)→(af []∧(([.p (.int .i64 0)]:List AV)=[.p (.int .i64 (R i))]))))]):=by kernel_rfl
theorem na (n m:Nat) (M:Nat→Nat→Int) (r:Nat) (p:Nat→Int) (d:Int) (i:Nat) (R R':Nat→Int) :
    zM 0 [rg 1,.dec true,rg 2,rg 4,rg 2,.head] An (N0 n m M r p d i R) [0,1,2,3] 1 (N0 n m M r p d (i+1) R') =
    some (An,[((decide ((i:Int)<(n:Int)))=true),(IL 0 (i:Int)),(IT (i:Int) (n:Int)),(NT i n),((false=true)→((n:Nat)=1)),(ax ((i:Int)+1)),(au ((i:Int)+1)),(AI ((n:Int))),(AN 0),(AN m),(AN 0),(AN r),(AI d),(AN 0),(AN n),(AI ((n:Int))),((((i:Int)+1):Int)=(↑(i+1):Int)),(AN 1),(NL m m),(AA m (fun i_1=>[.ar 1 ⟨1,some i_1⟩ 0 n])),(NL m m),(∀ i_1:Nat,(((i_1:Nat)<m)→af [(AN 1),((n:Nat)≤n),(AP n (fun r_1=>[.int .i64 ((cM n M i_1).2 r_1)]))])),(AN 1),(NL r r),(AA r (fun i_1=>[.p (.int .i64 (p i_1))])),(AN 1),(NL n n),(CV [(3,⟨false,1,n,(fun i_2=>(if (i_2=i) then [.p (.int .i64 (-1))] else [.p (.int .i64 (R i_2))]))⟩),(0,⟨false,1,m,(fun i_2=>[.ar 1 ⟨1,some i_2⟩ 0 n])⟩),(1,⟨true,0,m,(fun i_2=>[.p (.seq false 1 n (fun i_3=>[.int .i64 ((cM n M i_2).2 i_3)]))])⟩),(2,⟨false,1,r,(fun i_2=>[.p (.int .i64 (p i_2))])⟩)] [0,1,2,3] 1 n (fun i_1=>if (i_1=i) then [.p (.int .i64 (-1))] else [.p (.int .i64 (R i_1))]) (fun i_1=>[.p (.int .i64 (R' i_1))]))]):=by kernel_rfl
theorem nb (n m:Nat) (M:Nat→Nat→Int) (r:Nat) (p:Nat→Int) (d:Int) (i:Nat) (R R':Nat→Int) :
    zM 0 [rg 1,.dec false,rg 3,.head] An (N0 n m M r p d i R) [0,1,2,3] 1 (N1 n m M r p d 0 R') =
    some (Bi,[((decide ((i:Int)<(n:Int)))=false),(AI ((n:Int))),(AN 0),(AN m),(AI d),(AN 0),(AN n),(AN 0),(AN r),(AI ((r:Int))),((0:Int)=(↑0:Int)),(AN 1),(NL m m),(AA m (fun i_1=>[.ar 1 ⟨1,some i_1⟩ 0 n])),(NL m m),(∀ i_1:Nat,(((i_1:Nat)<m)→af [(AN 1),((n:Nat)≤n),(AP n (fun r_1=>[.int .i64 ((cM n M i_1).2 r_1)]))])),(AN 1),(NL r r),(AA r (fun i_1=>[.p (.int .i64 (p i_1))])),(AN 1),(NL n n),(∀ i_1:Nat,(((i_1:Nat)<n)→(af []∧(([.p (.int .i64 (R i_1))]:List AV)=[.p (.int .i64 (R' i_1))]))))]):=by kernel_rfl
theorem nc (n m:Nat) (M:Nat→Nat→Int) (r:Nat) (p:Nat→Int) (d:Int) (i:Nat) (R R':Nat→Int) :
    zM 0 [rg 1,.dec true,rg 5,rg 5,rg 2,.head] Bi (N1 n m M r p d i R) [0,1,2,3] 1 (N1 n m M r p d (i+1) R') =
    some (Bi,[((decide ((i:Int)<(r:Int)))=true),(IL 0 (i:Int)),(IT (i:Int) (r:Int)),(NT i r),(IL 0 (p i)),(IT (p i) (n:Int)),(NT ((p i).toNat) n),((false=true)→((n:Nat)=1)),(ax ((i:Int)+1)),(au ((i:Int)+1)),(AI ((n:Int))),(AN 0),(AN m),(AI d),(AN 0),(AN n),(AN 0),(AN r),(AI ((r:Int))),((((i:Int)+1):Int)=(↑(i+1):Int)),(AN 1),(NL m m),(AA m (fun i_1=>[.ar 1 ⟨1,some i_1⟩ 0 n])),(NL m m),(∀ i_1:Nat,(((i_1:Nat)<m)→af [(AN 1),((n:Nat)≤n),(AP n (fun r_1=>[.int .i64 ((cM n M i_1).2 r_1)]))])),(AN 1),(NL r r),(AA r (fun i_1=>[.p (.int .i64 (p i_1))])),(AN 1),(NL n n),(∀ i_1:Nat,(((i_1:Nat)<n)→(af (ay false [(3,⟨false,1,n,(fun i_2=>(if (i_2=(p i).toNat) then [.p (.int .i64 (i:Int))] else [.p (.int .i64 (R i_2))]))⟩),(0,⟨false,1,m,(fun i_2=>[.ar 1 ⟨1,some i_2⟩ 0 n])⟩),(1,⟨true,0,m,(fun i_2=>[.p (.seq false 1 n (fun i_3=>[.int .i64 ((cM n M i_2).2 i_3)]))])⟩),(2,⟨false,1,r,(fun i_2=>[.p (.int .i64 (p i_2))])⟩)] [0,1,2,3] 1 (if (i_1=(p i).toNat) then [.p (.int .i64 (i:Int))] else [.p (.int .i64 (R i_1))])).2∧(((ay false [(3,⟨false,1,n,(fun i_2=>(if (i_2=(p i).toNat) then [.p (.int .i64 (i:Int))] else [.p (.int .i64 (R i_2))]))⟩),(0,⟨false,1,m,(fun i_2=>[.ar 1 ⟨1,some i_2⟩ 0 n])⟩),(1,⟨true,0,m,(fun i_2=>[.p (.seq false 1 n (fun i_3=>[.int .i64 ((cM n M i_2).2 i_3)]))])⟩),(2,⟨false,1,r,(fun i_2=>[.p (.int .i64 (p i_2))])⟩)] [0,1,2,3] 1 (if (i_1=(p i).toNat) then [.p (.int .i64 (i:Int))] else [.p (.int .i64 (R i_1))])).1:List AV)=[.p (.int .i64 (R' i_1))]))))]):=by kernel_rfl
theorem nd (n m:Nat) (M:Nat→Nat→Int) (r:Nat) (p:Nat→Int) (d:Int) (i:Nat) (R:Nat→Int) (W:Nat→Nat→Int) :
    zM 0 [rg 1,.dec false,rg 2,rg 2,.head] Bi (N1 n m M r p d i R) [0,1,3,36] 1 (N2 n m M d R 0 0 W) =
    some (tf,[((decide ((i:Int)<(r:Int)))=false),(AI ((n:Int))),(AN 0),(AN m),(AI d),(AN 0),(AN n),(AN 0),(AN 0),(AI ((n:Int))),((0:Int)=(↑0:Int)),(AN 1),(NL m m),(AA m (fun i_1=>[.ar 1 ⟨1,some i_1⟩ 0 n])),(NL m m),(∀ i_1:Nat,(((i_1:Nat)<m)→af [(AN 1),((n:Nat)≤n),(AP n (fun r_1=>[.int .i64 ((cM n M i_1).2 r_1)]))])),(AN 1),(NL n n),(AA n (fun i_1=>[.p (.int .i64 (R i_1))])),(AN 1),(NL 0 0),(∀ i_1:Nat,(((i_1:Nat)<0)→(af []∧(([.p (.nil)]:List AV)=[.ar 1 ⟨4,some i_1⟩ 0 n])))),(AN 0)]):=by kernel_rfl
theorem ne (n m:Nat) (M:Nat→Nat→Int) (d:Int) (R:Nat→Int) (c q:Nat) (W:Nat→Nat→Int) :
    zM 0 [rg 1,.dec true,rg 2,rg 5,.dec true,rg 2,.head] tf (N2 n m M d R c q W) [0,1,2,3,4] 1 (N2 n m M d R (c+1) q W) =
    some (tf,[((decide ((c:Int)<(n:Int)))=true),(IL 0 (c:Int)),(IT (c:Int) (n:Int)),(NT c n),((decide (R ((c:Int).toNat+0)≥0))=true),(ax ((c:Int)+1)),(au ((c:Int)+1)),(AI ((n:Int))),(AN 0),(AN m),(AI d),(AN 0),(AN n),(AN 0),(AN q),(AI ((n:Int))),((((c:Int)+1):Int)=(↑(c+1):Int)),(AN 1),(NL m m),(AA m (fun i=>[.ar 1 ⟨1,some i⟩ 0 n])),(NL m m),(∀ i:Nat,(((i:Nat)<m)→af [(AN 1),((n:Nat)≤n),(AP n (fun r=>[.int .i64 ((cM n M i).2 r)]))])),(AN 1),(NL n n),(AA n (fun i=>[.p (.int .i64 (R i))])),(AN 1),(NL q q),(AA q (fun i=>[.ar 1 ⟨4,some i⟩ 0 n])),(NL q q),(∀ i:Nat,(((i:Nat)<q)→af [(AN 1),((n:Nat)≤n),(AP n (fun r=>[.int .i64 ((cM n W i).2 r)]))]))]):=by kernel_rfl
theorem nf (n m:Nat) (M:Nat→Nat→Int) (d:Int) (R:Nat→Int) (c q:Nat) (W:Nat→Nat→Int) (v:Nat→Int) :
    zM 0 [rg 1,.dec true,rg 2,rg 5,.dec false,rg 3,rg 5,rg 2,.head] tf (N2 n m M d R c q W) [0,1,2,3,4,293] 1 (N3 n m M d R c q W 0 v) =
    some (DW,zD [((decide ((c:Int)<(n:Int)))=true),(IL 0 (c:Int)),(IT (c:Int) (n:Int)),(NT c n),((decide (R ((c:Int).toNat+0)≥0))=false),(IL 0 (n:Int)),(IL (n:Int) (n:Int)),(IL ((n:Int)*(↑8:Int)) 281474976710656),(au (n:Int)),((false=true)→((n:Nat)=1)),(AI ((n:Int))),(AN 0),(AN m),(AI d),(AN n),(AN q),(AI ((c:Int))),((0:Int)=(↑0:Int)),(AN 1),(NL m m),(AA m (fun i=>[.ar 1 ⟨1,some i⟩ 0 n])),(∀ i:Nat,(((i:Nat)<m)→af [(AN 1),((n:Nat)≤n),(AP n (fun r=>[.int .i64 ((cM n M i).2 r)]))])),(NL n n),(AA n (fun i=>[.p (.int .i64 (R i))])),(NL q q),(AA q (fun i=>[.ar 1 ⟨4,some i⟩ 0 n])),(∀ i:Nat,(((i:Nat)<q)→af [(AN 1),((n:Nat)≤n),(AP n (fun r=>[.int .i64 ((cM n W i).2 r)]))])),(∀ i:Nat,(((i:Nat)<n)→(af (ay false [(293,⟨false,1,n,(fun i_1=>(if (i_1=c) then [.p (.int .i64 d)] else [.p (.int .i64 0)]))⟩),(0,⟨false,1,m,(fun i_1=>[.ar 1 ⟨1,some i_1⟩ 0 n])⟩),(1,⟨true,0,m,(fun i_1=>[.p (.seq false 1 n (fun i_2=>[.int .i64 ((cM n M i_1).2 i_2)]))])⟩),(2,⟨false,1,n,(fun i_1=>[.p (.int .i64 (R i_1))])⟩),(3,⟨false,1,q,(fun i_1=>[.ar 1 ⟨4,some i_1⟩ 0 n])⟩),(4,⟨true,0,q,(fun i_1=>[.p (.seq false 1 n (fun i_2=>[.int .i64 ((cM n W i_1).2 i_2)]))])⟩)] [0,1,2,3,4,293] 1 (if (i=c) then [.p (.int .i64 d)] else [.p (.int .i64 0)])).2∧(((ay false [(293,⟨false,1,n,(fun i_1=>(if (i_1=c) then [.p (.int .i64 d)] else [.p (.int .i64 0)]))⟩),(0,⟨false,1,m,(fun i_1=>[.ar 1 ⟨1,some i_1⟩ 0 n])⟩),(1,⟨true,0,m,(fun i_1=>[.p (.seq false 1 n (fun i_2=>[.int .i64 ((cM n M i_1).2 i_2)]))])⟩),(2,⟨false,1,n,(fun i_1=>[.p (.int .i64 (R i_1))])⟩),(3,⟨false,1,q,(fun i_1=>[.ar 1 ⟨4,some i_1⟩ 0 n])⟩),(4,⟨true,0,q,(fun i_1=>[.p (.seq false 1 n (fun i_2=>[.int .i64 ((cM n W i_1).2 i_2)]))])⟩)] [0,1,2,3,4,293] 1 (if (i=c) then [.p (.int .i64 d)] else [.p (.int .i64 0)])).1:List AV)=[.p (.int .i64 (v i))]))))] [0,1,2,3,4,5,6,7,8,1,2,3,9,10,11,12,13,11,14,11,15,16,11,14,10,16,10,17,18,19,20,19,21,18,22,23,18,24,25,24,26,18,22,27]):=by kernel_rfl
theorem ng (n m:Nat) (M:Nat→Nat→Int) (d:Int) (R:Nat→Int) (c q:Nat) (W:Nat→Nat→Int) (k:Nat) (v v':Nat→Int) :
    zM 0 [rg 1,.dec true,rg 2,rg 5,.dec true,rg 15,rg 2,.head] DW (N3 n m M d R c q W k v) [0,1,2,3,4,5] 1 (N3 n m M d R c q W (k+1) v') =
    some (DW,zD [((decide ((k:Int)<(n:Int)))=true),(IL 0 (k:Int)),(IT (k:Int) (n:Int)),(NT k n),((decide (R ((k:Int).toNat+0)≥0))=true),(IL 0 (R k)),(IT (R k) (m:Int)),(NT ((R k).toNat) m),(IL 0 (c:Int)),(IT (c:Int) (n:Int)),(NT c n),(ax (0 - (cM n M (R k).toNat).2 c)),(au (0 - (cM n M (R k).toNat).2 c)),((false=true)→((n:Nat)=1)),(ax ((k:Int)+1)),(au ((k:Int)+1)),(AI ((n:Int))),(AN 0),(AN m),(AI d),(AN n),(AN q),(AI ((c:Int))),((((k:Int)+1):Int)=(↑(k+1):Int)),(AN 1),(NL m m),(AA m (fun i=>[.ar 1 ⟨1,some i⟩ 0 n])),(∀ i:Nat,(((i:Nat)<m)→af [(AN 1),((n:Nat)≤n),(AP n (fun r=>[.int .i64 ((cM n M i).2 r)]))])),(NL n n),(AA n (fun i=>[.p (.int .i64 (R i))])),(NL q q),(AA q (fun i=>[.ar 1 ⟨4,some i⟩ 0 n])),(∀ i:Nat,(((i:Nat)<q)→af [(AN 1),((n:Nat)≤n),(AP n (fun r=>[.int .i64 ((cM n W i).2 r)]))])),(∀ i:Nat,(((i:Nat)<n)→(af (ay false [(5,⟨false,1,n,(fun i_1=>(if (i_1=k) then [.p (.int .i64 (0 - (cM n M (R k).toNat).2 c))] else [.p (.int .i64 (v i_1))]))⟩),(0,⟨false,1,m,(fun i_1=>[.ar 1 ⟨1,some i_1⟩ 0 n])⟩),(1,⟨true,0,m,(fun i_1=>[.p (.seq false 1 n (fun i_2=>[.int .i64 ((cM n M i_1).2 i_2)]))])⟩),(2,⟨false,1,n,(fun i_1=>[.p (.int .i64 (R i_1))])⟩),(3,⟨false,1,q,(fun i_1=>[.ar 1 ⟨4,some i_1⟩ 0 n])⟩),(4,⟨true,0,q,(fun i_1=>[.p (.seq false 1 n (fun i_2=>[.int .i64 ((cM n W i_1).2 i_2)]))])⟩)] [0,1,2,3,4,5] 1 (if (i=k) then [.p (.int .i64 (0 - (cM n M (R k).toNat).2 c))] else [.p (.int .i64 (v i))])).2∧(((ay false [(5,⟨false,1,n,(fun i_1=>(if (i_1=k) then [.p (.int .i64 (0 - (cM n M (R k).toNat).2 c))] else [.p (.int .i64 (v i_1))]))⟩),(0,⟨false,1,m,(fun i_1=>[.ar 1 ⟨1,some i_1⟩ 0 n])⟩),(1,⟨true,0,m,(fun i_1=>[.p (.seq false 1 n (fun i_2=>[.int .i64 ((cM n M i_1).2 i_2)]))])⟩),(2,⟨false,1,n,(fun i_1=>[.p (.int .i64 (R i_1))])⟩),(3,⟨false,1,q,(fun i_1=>[.ar 1 ⟨4,some i_1⟩ 0 n])⟩),(4,⟨true,0,q,(fun i_1=>[.p (.seq false 1 n (fun i_2=>[.int .i64 ((cM n W i_1).2 i_2)]))])⟩)] [0,1,2,3,4,5] 1 (if (i=k) then [.p (.int .i64 (0 - (cM n M (R k).toNat).2 c))] else [.p (.int .i64 (v i))])).1:List AV)=[.p (.int .i64 (v' i))]))))] [0,1,2,3,4,1,2,3,5,6,7,8,9,7,10,11,12,1,2,3,13,14,15,16,17,18,19,17,20,17,21,22,17,20,16,22,16,23,24,25,26,25,27,24,28,29,24,30,31,30,32,24,28,33]):=by kernel_rfl
theorem nh (n m:Nat) (M:Nat→Nat→Int) (d:Int) (R:Nat→Int) (c q:Nat) (W:Nat→Nat→Int) (k:Nat) (v v':Nat→Int) :
    zM 0 [rg 1,.dec true,rg 2,rg 5,.dec false,rg 2,.head] DW (N3 n m M d R c q W k v) [0,1,2,3,4,5] 1 (N3 n m M d R c q W (k+1) v') =
    some (DW,zD [((decide ((k:Int)<(n:Int)))=true),(IL 0 (k:Int)),(IT (k:Int) (n:Int)),(NT k n),((decide (R ((k:Int).toNat+0)≥0))=false),(ax ((k:Int)+1)),(au ((k:Int)+1)),(AI ((n:Int))),(AN 0),(AN m),(AI d),(AN n),(AN q),(AI ((c:Int))),((((k:Int)+1):Int)=(↑(k+1):Int)),(AN 1),(NL m m),(AA m (fun i=>[.ar 1 ⟨1,some i⟩ 0 n])),(∀ i:Nat,(((i:Nat)<m)→af [(AN 1),((n:Nat)≤n),(AP n (fun r=>[.int .i64 ((cM n M i).2 r)]))])),(NL n n),(AA n (fun i=>[.p (.int .i64 (R i))])),(NL q q),(AA q (fun i=>[.ar 1 ⟨4,some i⟩ 0 n])),(∀ i:Nat,(((i:Nat)<q)→af [(AN 1),((n:Nat)≤n),(AP n (fun r=>[.int .i64 ((cM n W i).2 r)]))])),(∀ i:Nat,(((i:Nat)<n)→(af []∧(([.p (.int .i64 (v i))]:List AV)=[.p (.int .i64 (v' i))]))))] [0,1,2,3,4,5,6,7,8,9,10,8,11,8,12,13,8,11,7,13,7,14,15,16,17,16,18,15,19,20,15,21,22,21,23,15,19,24]):=by kernel_rfl
theorem ni (n m:Nat) (M:Nat→Nat→Int) (d:Int) (R:Nat→Int) (c q:Nat) (W W':Nat→Nat→Int) (k:Nat) (v w:Nat→Int) :
    zM 0 [rg 1,.dec false,rm [(2,oc [(0,aY n w)] (.ar 1 0 0 n))] 3,rg 2,.head] DW (N3 n m M d R c q W k v) [0,1,2,166,.ins 4 q 102] 1 (N2 n m M d R (c+1) (q+1) W') =
    some (tf,[((decide ((k:Int)<(n:Int)))=false),(AN 1),(NL n n),zE 111 [.p (.seq true 1 n (fun i=>[.int .i64 (v i)]))] [(0,⟨false,1,n,(fun i=>[.p (.int .i64 (w i))])⟩)] (.ar 1 0 0 n),(NL 1 1),(NL q q),(NL ((q+1)*24) 140737488355328),(NL (q+1) 9223372036854775807),(ax ((c:Int)+1)),(au ((c:Int)+1)),(AI ((n:Int))),(AN 0),(AN m),(AI d),(AN 0),(AN n),(AN 0),(AN ((q+1))),(AI ((n:Int))),((((c:Int)+1):Int)=(↑(c+1):Int)),(AN 1),(NL m m),(AA m (fun i=>[.ar 1 ⟨1,some i⟩ 0 n])),(NL m m),(∀ i:Nat,(((i:Nat)<m)→af [(AN 1),((n:Nat)≤n),(AP n (fun r=>[.int .i64 ((cM n M i).2 r)]))])),(AN 1),(NL n n),(AA n (fun i=>[.p (.int .i64 (R i))])),(AN 1),(NL (q+1) (q+1)),(CV [(166,⟨false,1,(q+1),(fun i_1=>(if (i_1<q) then [.ar 1 ⟨4,some i_1⟩ 0 n] else [.ar 1 102 0 n]))⟩),(134,⟨false,1,1,(fun i_1=>[.ar 1 102 0 n])⟩),(102,⟨false,1,n,(fun i_1=>[.p (.int .i64 (w i_1))])⟩),(0,⟨false,1,m,(fun i_1=>[.ar 1 ⟨1,some i_1⟩ 0 n])⟩),(1,⟨true,0,m,(fun i_1=>[.p (.seq false 1 n (fun i_2=>[.int .i64 ((cM n M i_1).2 i_2)]))])⟩),(2,⟨false,1,n,(fun i_1=>[.p (.int .i64 (R i_1))])⟩),(4,⟨true,0,q,(fun i_1=>[.p (.seq false 1 n (fun i_2=>[.int .i64 ((cM n W i_1).2 i_2)]))])⟩),(5,⟨false,1,n,(fun i_1=>[.p (.int .i64 (v i_1))])⟩)] [0,1,2,166,.ins 4 q 102] 1 (q+1) (fun i=>if (i<q) then [.ar 1 ⟨4,some i⟩ 0 n] else [.ar 1 102 0 n]) (fun i=>[.ar 1 ⟨4,some i⟩ 0 n])),(∀ i:Nat,(((i:Nat)<(q+1))→(((i:Nat)≠q)→(((i:Nat)<q)∧af [(AN 1),((n:Nat)≤n),(∀ r:Nat,(((r:Nat)<n)→(([.int .i64 ((cM n W i).2 r)]:List PV)=[.int .i64 ((cM n W' i).2 r)])))])))),(((q:Nat)<(q+1))→af [(AN 1),((n:Nat)≤n),(∀ r:Nat,(((r:Nat)<n)→(([.int .i64 (w r)]:List PV)=[.int .i64 ((cM n W' q).2 r)])))])]):=by kernel_rfl
theorem nj (n m:Nat) (M:Nat→Nat→Int) (d:Int) (R:Nat→Int) (c q:Nat) (W:Nat→Nat→Int) :
    zP Tryz.f85 0 [rg 1,.dec false,rg 2] tf (N2 n m M d R c q W) [3,4] 1 [(0,dV 1 q (cM n W)),(1,ed q (cM n W))] (.ar 1 0 0 q) =
    some [((decide ((c:Int)<(n:Int)))=false),(AN 0),(AN q),(AN 1),(NL q q),(AA q (fun i=>[.ar 1 ⟨1,some i⟩ 0 n])),(NL q q),(∀ i:Nat,(((i:Nat)<q)→af [(AN 1),((n:Nat)≤n),(AP n (fun r=>[.int .i64 ((cM n W i).2 r)]))])),(AE q),(∀ i:Nat,(((i:Nat)<q)→af [(false=false),(AE n)]))]:=by kernel_rfl
theorem Dx {n m rmx:Nat} {B:Int} {K:Nat→Nat→(Nat→Nat→Int)→Prop} {S:Had.RS} (hB:1≤B) (hM:B ^ (2*rmx)≤2 ^ 124) (ok:Had.ROK n m rmx B K n S) {c:Nat} (hc:c<n) (k j:Nat) :
    Had.nvk S.A S.r S.p S.d c k j*Had.nvk S.A S.r S.p S.d c k j≤2 ^ 124:=by
  have hp:B ^ S.r≤2 ^ 124:=Int.le_trans (Had.pow_mono hB (by have:=ok.r;omega)) hM
  unfold Had.nvk
  split
  · rename_i h
    have:=Had.rwi_lt S.p S.r j
    rw [Int.neg_mul_neg]
    exact Int.le_trans (ok.bar.bpiv (by omega) hc) hp
  · split
    · exact Int.le_trans ok.bar.bd hp
    · decide
theorem vm {n m rmx:Nat} {B:Int} {M:Nat→Nat→Int} {K:Nat→Nat→(Nat→Nat→Int)→Prop} (hn:n≤1000) (hm:m≤1000) (hB:1≤B) (hM:B ^ (2*rmx)≤2 ^ 124)
    (hok:∀ c,c≤n→Had.ROK n m rmx B K c (Had.rrun m (Had.rini M) c)) :
    zE 85 [pT m (cM n M),.p (.int .i64 n)] [(0,dV 1 (Had.nul n m M).1 (cM n (Had.nul n m M).2)),(1,ed (Had.nul n m M).1 (cM n (Had.nul n m M).2))] (.ar 1 0 0 (Had.nul n m M).1):=by
  have cr:=kZ hn hm hB hM hok rfl
  have ok:=hok n (Nat.le_refl _)
  unfold Had.nul
  generalize Had.rrun m (Had.rini M) n=S at cr ok ⊢
  have hrm:=ok.bar.rm
  refine aW Tryz.func85 (fun cx hc=>?_)
  generalize hZ:Had.nsl (Had.nulP S) (Had.nulV n S) n=Z
  generalize hQ:aS cx [(0,dV 1 Z.1 (cM n Z.2)),(1,ed Z.1 (cM n Z.2))] (.ar 1 0 0 Z.1)=Q
  have hwrap:∀ c,c<n→∀ i,i<S.r→-(2 ^ 62)≤S.A i c∧S.A i c≤2 ^ 62:=fun c h i hi =>
    Had.sq_le (by decide) (Int.le_trans (ok.bar.bpiv hi h) (Int.le_trans (Had.pow_mono hB (by have:=ok.r;omega)) hM))
  have l2:∀ e c,c+e=n→Run Tryz.prog cx 85 tf (N2 n m S.A S.d (Had.rwi S.p S.r) c (Had.nsl (Had.nulP S) (Had.nulV n S) c).1 (Had.nsl (Had.nulP S) (Had.nulV n S) c).2) Q:=by
    intro e
    induction e with
    | zero =>
      intro c hcn
      obtain rfl:c=n:=by omega
      rw [hZ,← hQ]
      have hd:decide ((c:Int)<(c:Int))=false:=decide_eq_false (by omega)
      refine be Tryz.func85 hc (nj c m S.A S.d (Had.rwi S.p S.r) c Z.1 Z.2) ?_
      and_intros
      iterate 2 all_goals (first | exact zN | (exact hd) | (intro t ht;simp [af];done) | simp only [af])
    | succ e ih =>
      intro c hcn
      have hr:=ih (c+1) (by omega)
      have hd:decide ((c:Int)<(n:Int))=true:=decide_eq_true (by omega)
      have hle:=Had.nsl_le (Had.nulP S) (Had.nulV n S) c
      cases hp:Had.nulP S c with
      | true =>
        rw [Had.nsl_t hp] at hr
        have hb:decide (Had.rwi S.p S.r ((c:Int).toNat+0)≥0)=true:=hp
        refine cW hc (ne n m S.A S.d (Had.rwi S.p S.r) c (Had.nsl (Had.nulP S) (Had.nulV n S) c).1 (Had.nsl (Had.nulP S) (Had.nulV n S) c).2) ?_ hr
        and_intros
        iterate 2 all_goals (first | exact zN | (exact hd) | (exact hb) | (intro t ht;simp [af];done) | simp only [af])
      | false =>
        rw [Had.nsl_f hp] at hr
        have hb:decide (Had.rwi S.p S.r ((c:Int).toNat+0)≥0)=false:=hp
        have cp:=tL n (Had.nvk S.A S.r S.p S.d c n) hn (fun k _=>Dx hB hM ok (by omega) n k)
        change zE 111 [gM n (Had.nvk S.A S.r S.p S.d c n)] [(0,aY n (Had.nulV n S c))] (.ar 1 0 0 n) at cp
        generalize Had.nulV n S c=w at cp hr
        generalize Had.nsl (Had.nulP S) (Had.nulV n S) c=Y at hr hle ⊢
        have l3:∀ e k,k+e=n→Run Tryz.prog cx 85 DW (N3 n m S.A S.d (Had.rwi S.p S.r) c Y.1 Y.2 k (Had.nvk S.A S.r S.p S.d c k)) Q:=by
          intro e
          induction e with
          | zero =>
            intro k hk
            obtain rfl:k=n:=by omega
            have hd:decide ((k:Int)<(k:Int))=false:=decide_eq_false (by omega)
            refine cW hc (ni k m S.A S.d (Had.rwi S.p S.r) c Y.1 Y.2 (fun j=>if j<Y.1 then Y.2 j else w) k (Had.nvk S.A S.r S.p S.d c k) w) ?_ hr
            repeat' (first | exact aN | apply aI)
            iterate 2 all_goals (first | exact zH | (exact hd) | (exact cp) | (intro t ht;by_cases h':t<Y.1;exact ⟨by simp [h',ay,bh,tg,bu,iE,dd,sP,sM,af,Nat.ne_of_lt h'],by simp [h',ay,bh,tg,bu,iE,dd,sP,sM]⟩;rw [show t=Y.1 by omega];exact ⟨by simp [ay,bh,tg,bu,iE,dd,sP,sM,af],by simp [ay,bh,tg,bu,iE,dd,sP,sM]⟩) | (intro t ht hne;exact ⟨by omega,by simp [af,cM,show t<Y.1 by omega]⟩) | (intro _;simp [af,cM];done) | (intro t ht;simp [af];done) | simp only [af])
          | succ e ih2 =>
            intro k hk
            have hr2:=ih2 (k+1) (by omega)
            have hd:decide ((k:Int)<(n:Int))=true:=decide_eq_true (by omega)
            by_cases h0:0≤Had.rwi S.p S.r k
            · have hb:decide (Had.rwi S.p S.r ((k:Int).toNat+0)≥0)=true:=decide_eq_true h0
              have hl:=Had.rwi_lt S.p S.r k
              have hw:=hwrap c (by omega) (Had.rwi S.p S.r k).toNat (by omega)
              have hT:∀ j,j<n→(if j=k then 0 - S.A (Had.rwi S.p S.r k).toNat c else Had.nvk S.A S.r S.p S.d c k j)=Had.nvk S.A S.r S.p S.d c (k+1) j:=by
                intro j hj
                by_cases h1:j=k
                · rw [if_pos h1,h1];unfold Had.nvk;rw [if_pos ⟨by omega,h0⟩];omega
                · rw [if_neg h1];unfold Had.nvk
                  by_cases h2:j<k∧0≤Had.rwi S.p S.r j
                  · rw [if_pos h2,if_pos ⟨by omega,h2.2⟩]
                  · rw [if_neg h2,if_neg (show ¬ (j<k+1∧0≤Had.rwi S.p S.r j) from fun h3=>h2 ⟨by omega,h3.2⟩)]
              refine a9 hc (ng n m S.A S.d (Had.rwi S.p S.r) c Y.1 Y.2 k (Had.nvk S.A S.r S.p S.d c k) (Had.nvk S.A S.r S.p S.d c (k+1))) ?_ hr2
              and_intros
              iterate 2 all_goals (first | exact zI | (exact hd) | (exact hb) | (simp only [cM];omega) | (intro t ht;rw [← hT t ht];by_cases h':t=k<;>simp [h',cM,ay,bh,tg,bu,af];done) | (intro t ht;simp [af];done) | simp only [af])
            · have hb:decide (Had.rwi S.p S.r ((k:Int).toNat+0)≥0)=false:=decide_eq_false h0
              have hT:∀ j,j<n→Had.nvk S.A S.r S.p S.d c k j=Had.nvk S.A S.r S.p S.d c (k+1) j:=by
                intro j hj
                unfold Had.nvk
                by_cases h2:j<k∧0≤Had.rwi S.p S.r j
                · rw [if_pos h2,if_pos ⟨by omega,h2.2⟩]
                · rw [if_neg h2,if_neg (show ¬ (j<k+1∧0≤Had.rwi S.p S.r j) from fun h3=>h2 ⟨by have:j≠k:=fun e=>h0 (e ▸ h3.2);omega,h3.2⟩)]
              refine a9 hc (nh n m S.A S.d (Had.rwi S.p S.r) c Y.1 Y.2 k (Had.nvk S.A S.r S.p S.d c k) (Had.nvk S.A S.r S.p S.d c (k+1))) ?_ hr2
              and_intros
              iterate 2 all_goals (first | exact zN | (exact hd) | (exact hb) | (intro t ht;rw [hT t ht];simp [af];done) | (intro t ht;simp [af];done) | simp only [af])
        refine a9 hc (nf n m S.A S.d (Had.rwi S.p S.r) c Y.1 Y.2 (Had.nvk S.A S.r S.p S.d c 0)) ?_ (l3 n 0 (by omega))
        and_intros
        iterate 2 all_goals (first | exact zI | (exact hd) | (exact hb) | (intro t ht;unfold Had.nvk;by_cases h':t=c<;>simp [h',ay,bh,tg,bu,af];done) | (intro t ht;simp [af];done) | simp only [af])
  have l1:∀ e i,i+e=S.r→Run Tryz.prog cx 85 Bi (N1 n m S.A S.r (fun i=>(S.p i:Int)) S.d i (Had.rwi S.p i)) Q:=by
    intro e
    induction e with
    | zero =>
      intro i hi
      obtain rfl:i=S.r:=by omega
      have hd:decide ((S.r:Int)<(S.r:Int))=false:=decide_eq_false (by omega)
      refine cW hc (nd n m S.A S.r (fun i=>(S.p i:Int)) S.d S.r (Had.rwi S.p S.r) (fun _ _=>0)) ?_ (l2 n 0 (by omega))
      and_intros
      iterate 2 all_goals (first | exact zN | (exact hd) | (intro t ht;exact absurd ht (Nat.not_lt_zero _)) | (intro t ht;simp [af];done) | simp only [af])
    | succ e ih =>
      intro i hi
      have hd:decide ((i:Int)<(S.r:Int))=true:=decide_eq_true (by omega)
      have hpn:=ok.bar.pn (show i<S.r by omega)
      refine cW hc (nc n m S.A S.r (fun i=>(S.p i:Int)) S.d i (Had.rwi S.p i) (Had.rwi S.p (i+1))) ?_ (ih (i+1) (by omega))
      and_intros
      iterate 2 all_goals (first | exact zI | (exact hd) | (intro t ht;rw [Had.rwi];by_cases h':t=S.p i<;>simp [h',ay,bh,tg,bu,af];done) | (intro t ht;simp [af];done) | simp only [af])
  have l0:∀ e i,i+e=n→Run Tryz.prog cx 85 An (N0 n m S.A S.r (fun i=>(S.p i:Int)) S.d i (fun k=>if k<i then -1 else 0)) Q:=by
    intro e
    induction e with
    | zero =>
      intro i hi
      obtain rfl:i=n:=by omega
      have hd:decide ((i:Int)<(i:Int))=false:=decide_eq_false (by omega)
      refine cW hc (nb i m S.A S.r (fun i=>(S.p i:Int)) S.d i (fun k=>if k<i then -1 else 0) (Had.rwi S.p 0)) ?_ (l1 S.r 0 (by omega))
      and_intros
      iterate 2 all_goals (first | exact zN | (exact hd) | (intro t ht;rw [Had.rwi];simp [ht,af];done) | (intro t ht;simp [af];done) | simp only [af])
    | succ e ih =>
      intro i hi
      have hd:decide ((i:Int)<(n:Int))=true:=decide_eq_true (by omega)
      refine cW hc (na n m S.A S.r (fun i=>(S.p i:Int)) S.d i (fun k=>if k<i then -1 else 0) (fun k=>if k<i+1 then -1 else 0)) ?_ (ih (i+1) (by omega))
      and_intros
      iterate 2 all_goals (first | exact zI | (exact hd) | (intro t ht;by_cases h':t=i<;>simp [h',Nat.lt_succ_iff_lt_or_eq,ay,bh,tg,bu,af];done) | (intro t ht;simp [af];done) | simp only [af])
  refine cW hc (nz n m M S.A S.r (fun i=>(S.p i:Int)) S.d (fun k=>if k<0 then -1 else 0)) ?_ (l0 n 0 (by omega))
  and_intros
  iterate 2 all_goals (first | exact zN | (exact cr) | (intro t ht;simp [af];done) | simp only [af])
def xQ (pl:Nat→ae) (i:Nat):Bool:=(pl i).1==(pl 0).1&&((pl i).2.1==(pl 0).2.1&&true)
def E7 (g:Nat→aa) (nb N:Nat) (pl:Nat→ae) (np:Nat) (i:Nat) (b:Bool):St :=
  ⟨[.p .any,.pt 3 0 0 0,.p .any,.p (.int .i64 3),.p (.bool b)]++List.replicate 6 ag++[sY pl np,.p (.int .i64 np),.p (.int .i64 i)]++List.replicate 23 ag,[(0,EO g nb N pl np)],1⟩
theorem MF (g:Nat→aa) (nb:Nat) (N:Int) (pl:Nat→ae) (np:Nat) :
    zS Tryz.f49 [rg 2,rm [(1,oc [] (jB false))] 1,.dec true,rg 1] [fU g nb N pl np] [] [] (jI (-1)) =
    some [(NT 0 1),zE 46 [(rZ N nb g np pl)] [] (jB false),((!false)=true),(AI ((-1)))]:=by kernel_rfl
theorem Lr (g:Nat→aa) (nb N:Nat) (pl:Nat→ae) (np:Nat) :
    zT Tryz.f49 [rg 2,rm [(1,oc [] (jB true))] 1,.dec false,rg 1,rg 1,rg 4,.head] [fU g nb N pl np] [0] (E7 g nb N pl np 0 true) =
    some (yq,[(NT 0 1),zE 46 [(nV N nb g np pl)] [] (jB true),((!true)=false),(NT 0 1),(AN 0),(AI 3),(true=true),(AN np),(AP np (aF pl)),(AI ((np:Int))),((0:Int)=(↑0:Int)),((([AV.p (PV.int IntKind.i64 (N:Int)),b4 g nb,sY pl np].length):Nat)=3),(NL 1 1),(NL 1 1),(AI ((N:Int))),(AN nb),(AP nb (aF g)),(AN np),(AP np (aF pl))]):=by kernel_rfl
theorem Ka (g:Nat→aa) (nb N:Nat) (pl:Nat→ae) (np:Nat) (i:Nat) (b b':Bool) :
    zM 0 [rg 1,.dec true,rg 4,rg 10,rg 2,.head] yq (E7 g nb N pl np i b) [0] 1 (E7 g nb N pl np (i+1) b') =
    some (yq,zD [((decide ((i:Int)<(np:Int)))=true),(IL 0 (i:Int)),(IT (i:Int) (np:Int)),(NT 0 1),((true=true)→(AN 1)),((b=true)→(NT 0 1)),(AG b),((b=true)→(IL 0 0)),((b=true)→(IT 0 (np:Int))),(ax ((i:Int)+1)),(au ((i:Int)+1)),(AN 0),(AI 3),((bif b then (pl i).1==(pl 0).1&&((pl i).2.1==(pl 0).2.1&&true) else false)=b'),(AN np),(AP np (aF pl)),(AI ((np:Int))),((((i:Int)+1):Int)=(↑(i+1):Int)),(AN 3),(NL 1 1),(AI ((N:Int))),(AN nb),(AP nb (aF g))] [0,1,2,3,4,5,6,5,6,7,8,6,6,6,6,9,10,11,12,13,14,15,16,17,18,19,19,20,21,22,14,15]):=by kernel_rfl
theorem MB (g:Nat→aa) (nb N:Nat) (pl:Nat→ae) (np:Nat) (i:Nat) (r:Int) :
    zP Tryz.f49 0 [rg 1,.dec false,rg 1,.dec true,rg 1,rm [(7,oc [] (jI r))] 2] yq (E7 g nb N pl np i true) [] 1 [] (jI (2*(N:Int) - 2 - r)) =
    some [((decide ((i:Int)<(np:Int)))=false),(true=true),(NT 0 1),(ax (2*(N:Int))),(au (2*(N:Int))),(ax (2*(N:Int) - 2)),(au (2*(N:Int) - 2)),(NT 0 1),zE 14 [(zW N nb g np pl)] [] (jI r),(ax (2*(N:Int) - 2 - r)),(au (2*(N:Int) - 2 - r)),(AI ((2*(N:Int) - 2 - r)))]:=by kernel_rfl
theorem KG (g:Nat→aa) (nb N:Nat) (pl:Nat→ae) (np:Nat) (i:Nat) (r:Int) :
    zP Tryz.f49 0 [rg 1,.dec false,rg 1,.dec false,rm [(7,oc [] (jI r))] 2] yq (E7 g nb N pl np i false) [] 1 [] (jI (2*(N:Int) - 3 - r)) =
    some [((decide ((i:Int)<(np:Int)))=false),(false=false),(NT 0 1),(ax (2*(N:Int))),(au (2*(N:Int))),(ax (2*(N:Int) - 3)),(au (2*(N:Int) - 3)),(NT 0 1),zE 14 [(zW N nb g np pl)] [] (jI r),(ax (2*(N:Int) - 3 - r)),(au (2*(N:Int) - 3 - r)),(AI ((2*(N:Int) - 3 - r)))]:=by kernel_rfl
theorem Kk (g:Nat→aa) (nb:Nat) (N:Int) (pl:Nat→ae) (np:Nat) (r:Int) :
    zS Tryz.f17 [rg 2,rm [(1,oc [] (jI r))] 2] [fU g nb N pl np] [] [] (jB (r==0)) =
    some [(NT 0 1),zE 49 [(rZ N nb g np pl)] [] (jI r),((r==0)=(r==0))]:=by kernel_rfl
theorem Hm (g:Nat→aa) (nb:Nat) (N:Int) (pl:Nat→ae) (np:Nat) :
    zS Tryz.f16 [rg 2,rm [(1,oc [] (jB false))] 1,.dec true,rg 1] [fU g nb N pl np] [] [] (jI (-1)) =
    some [(NT 0 1),zE 46 [(rZ N nb g np pl)] [] (jB false),((!false)=true),(AI ((-1)))]:=by kernel_rfl
theorem HK (g:Nat→aa) (nb:Nat) (N:Int) (pl:Nat→ae) (np:Nat) (r:Int) :
    zS Tryz.f16 [rg 2,rm [(1,oc [] (jB true))] 1,.dec false,rm [(5,oc [] (jI r))] 2] [fU g nb N pl np] [] [] (jI ((nb:Int) - r)) =
    some [(NT 0 1),zE 46 [(rZ N nb g np pl)] [] (jB true),((!true)=false),(NT 0 1),(NT 0 1),zE 14 [(rZ N nb g np pl)] [] (jI r),(ax ((nb:Int) - r)),(au ((nb:Int) - r)),(AI (((nb:Int) - r)))]:=by kernel_rfl
theorem Ll (g:Nat→aa) (nb N:Nat) (pl:Nat→ae) (np:Nat) (M W:Nat→Nat→Int) (q:Nat) :
    zS Tryz.f50 [rg 2,rm [(1,oc [] (jB true))] 1,.dec false,rm [(1,oc [(0,dV 1 nb (cM (2*N) M)),(1,ed nb (cM (2*N) M))] (.ar 1 0 0 nb)),(4,⟨true,(some ⟨[],[],[193],2,[(0,dV 1 q (cM (2*N) W)),(1,ed q (cM (2*N) W))],.ar 1 0 0 q⟩),none⟩)] 1] [fU g nb N pl np] [352,353] [(0,dV 1 q (cM (2*N) W)),(1,ed q (cM (2*N) W))] (.ar 1 0 0 q) =
    some [(NT 0 1),zE 46 [(nV N nb g np pl)] [] (jB true),((!true)=false),(NT 0 1),zE 48 [(nV N nb g np pl)] [(0,⟨false,1,nb,(fun i=>[.ar 1 ⟨1,some i⟩ 0 (2*N)])⟩),(1,⟨true,0,nb,(fun i=>[.p (.seq false 1 (2*N) (fun i_1=>[.int .i64 ((cM (2*N) M i).2 i_1)]))])⟩)] (.ar 1 0 0 nb),(NT 0 1),(ax (2*(N:Int))),(au (2*(N:Int))),(AN 1),(NL nb nb),(∀ i:Nat,(((i:Nat)<nb)→af [((i:Nat)<nb),(AN 1),(((2*N):Nat)≤(2*N))])),zE 85 [.p (.seq true 1 nb (fun i=>[.seq true 1 (2*N) (fun i_1=>[.int .i64 ((cM (2*N) M i).2 i_1)])])),jI (2*(N:Int))] [(0,⟨false,1,q,(fun i=>[.ar 1 ⟨1,some i⟩ 0 (2*N)])⟩),(1,⟨true,0,q,(fun i=>[.p (.seq false 1 (2*N) (fun i_1=>[.int .i64 ((cM (2*N) W i).2 i_1)]))])⟩)] (.ar 1 0 0 q),(AN 0),(AN q),(AN 1),(NL q q),(AA q (fun i=>[.ar 1 ⟨1,some i⟩ 0 (2*N)])),(NL q q),(∀ i:Nat,(((i:Nat)<q)→af [(AN 1),(((2*N):Nat)≤(2*N)),(AP ((2*N)) (fun r=>[.int .i64 ((cM (2*N) W i).2 r)]))])),(AE q),(∀ i:Nat,(((i:Nat)<q)→af [(false=false),(AE ((2*N)))]))]:=by kernel_rfl
def Df (pl:Nat→ae) (np:Nat):Int:=if a8 (xQ pl) np=true then 2 else 3
def yF (g:Nat→aa) (nb:Nat) (N:Int) (pl:Nat→ae) (np:Nat):Int:=if gf g nb N pl np=true then 2*N - Df pl np - vF g nb N pl np else -1
theorem Di (g:Nat→aa) (nb:Nat) (N:Int) (pl:Nat→ae) (np:Nat):-1≤vF g nb N pl np∧vF g nb N pl np≤10:=by
  unfold vF
  split
  · rename_i h
    obtain ⟨n,rfl⟩:=xO h
    obtain ⟨h1,h2,h3,h4,hok,hb⟩:=e9 h
    have:=(hb.red (2*n) (Nat.le_refl _)).r
    show -1≤((Had.rrun nb (Had.rini (nO g pl)) (2*n)).r:Int)∧((Had.rrun nb (Had.rini (nO g pl)) (2*n)).r:Int)≤10
    unfold nO
    omega
  · omega
theorem nM (g:Nat→aa) (nb:Nat) (N:Int) (pl:Nat→ae) (np:Nat) (hn:nb≤1048576∧np≤1048576) :
    zE 49 [fU g nb N pl np] [] (.p (.int .i64 (yF g nb N pl np))):=by
  have cf:=bn g nb N pl np hn
  have ck:=fO g nb N pl np hn
  have hk:=Di g nb N pl np
  unfold yF
  cases hf:gf g nb N pl np with
  | false =>
    rw [hf] at cf
    rw [if_neg Bool.false_ne_true]
    refine aW Tryz.func49 (fun c hc=>?_)
    refine be Tryz.func49 hc (MF g nb N pl np) ?_
    and_intros
    all_goals (first | exact zN | (exact cf) | rfl)
  | true =>
    rw [hf] at cf
    rw [if_pos rfl]
    obtain ⟨n,rfl⟩:=xO hf
    obtain ⟨h1,h2,h3,h4,hok,hb⟩:=e9 hf
    generalize vF g nb n pl np=r at *
    refine aW Tryz.func49 (fun c hc=>?_)
    have lo:∀ d i,i+d=np→zR c 49 yq (E7 g nb n pl np i (a8 (xQ pl) i)) (aS c [] (.p (.int .i64 (2*(n:Int) - Df pl np - r)))):=by
      intro d
      induction d with
      | zero =>
        intro i hi
        obtain rfl:i=np:=by omega
        have hd:decide ((i:Int)<(i:Int))=false:=decide_eq_false (by omega)
        unfold Df
        cases hs:a8 (xQ pl) i with
        | true =>
          rw [if_pos rfl]
          refine be Tryz.func49 hc (MB g nb n pl i i r) ?_
          and_intros
          all_goals (first | exact zN | (exact hd) | (exact ck))
        | false =>
          rw [if_neg Bool.false_ne_true]
          refine be Tryz.func49 hc (KG g nb n pl i i r) ?_
          and_intros
          all_goals (first | exact zN | (exact hd) | (exact ck))
      | succ d ih =>
        intro i hi
        have hd:decide ((i:Int)<(np:Int))=true:=decide_eq_true (by omega)
        have hb':(bif a8 (xQ pl) i then (pl i).1==(pl 0).1&&((pl i).2.1==(pl 0).2.1&&true) else false)=a8 (xQ pl) (i+1):=by
          rw [a8];cases a8 (xQ pl) i<;>rfl
        refine a9 hc (Ka g nb n pl np i (a8 (xQ pl) i) (a8 (xQ pl) (i+1))) ?_ (ih (i+1) (by omega))
        and_intros
        all_goals (first | exact zI | (exact hd) | (exact hb') | (intro h;exact h) | (intro h;omega) | (intro t ht;simp [af];done))
    refine cW hc (Lr g nb n pl np) ?_ (lo np 0 (by omega))
    and_intros
    all_goals (first | exact zN | (exact cf) | (intro t ht;simp [af];done))
theorem pL (g:Nat→aa) (nb:Nat) (N:Int) (pl:Nat→ae) (np:Nat) (hn:nb≤1048576∧np≤1048576) :
    zE 17 [fU g nb N pl np] [] (.p (.bool (yF g nb N pl np==0))):=by
  have c1:=nM g nb N pl np hn
  refine aW Tryz.func17 (fun c hc=>?_)
  refine be Tryz.func17 hc (Kk g nb N pl np (yF g nb N pl np)) ?_
  and_intros
  all_goals (first | exact zN | (exact c1))
def G4 (g:Nat→aa) (nb:Nat) (N:Int) (pl:Nat→ae) (np:Nat):Int:=if gf g nb N pl np=true then (nb:Int) - vF g nb N pl np else -1
theorem nY (g:Nat→aa) (nb:Nat) (N:Int) (pl:Nat→ae) (np:Nat) (hn:nb≤1048576∧np≤1048576) :
    zE 16 [fU g nb N pl np] [] (.p (.int .i64 (G4 g nb N pl np))):=by
  have f1:=bn g nb N pl np hn
  have k1:=fO g nb N pl np hn
  have hk:=Di g nb N pl np
  unfold G4
  cases hf:gf g nb N pl np with
  | false =>
    rw [hf] at f1
    rw [if_neg Bool.false_ne_true]
    refine aW Tryz.func16 (fun c hc=>?_)
    refine be Tryz.func16 hc (Hm g nb N pl np) ?_
    and_intros
    all_goals (first | exact zN | (exact f1) | rfl)
  | true =>
    rw [hf] at f1
    rw [if_pos rfl]
    generalize vF g nb N pl np=r at *
    refine aW Tryz.func16 (fun c hc=>?_)
    refine be Tryz.func16 hc (HK g nb N pl np r) ?_
    and_intros
    all_goals (first | exact zN | (exact f1) | (exact k1) | rfl)
def kM (g:Nat→aa) (nb N:Nat) (pl:Nat→ae):Nat×(Nat→Nat→Int):=Had.nul (2*N) nb (nO g pl)
theorem qs {g:Nat→aa} {nb N:Nat} {pl:Nat→ae} {np:Nat} (hf:gf g nb N pl np=true) :
    zE 50 [fU g nb N pl np] [(0,dV 1 (kM g nb N pl).1 (cM (2*N) (kM g nb N pl).2)),(1,ed (kM g nb N pl).1 (cM (2*N) (kM g nb N pl).2))] (.ar 1 0 0 (kM g nb N pl).1):=by
  obtain ⟨h1,h2,h3,h4,hok,hb⟩:=e9 hf
  have f1:=bn g nb N pl np (by omega)
  rw [hf] at f1
  have m1:=rT hf
  have n1:=vm (n:=2*N) (m:=nb) (M:=nO g pl) (by omega) (by omega) (by decide) Had.big64 (fun c hc=>hb.red c hc)
  rw [show ((2*N:Nat):Int)=2*(N:Int) by omega] at n1
  unfold kM
  generalize Had.nul (2*N) nb (nO g pl)=Y at *
  refine aW Tryz.func50 (fun c hc=>?_)
  refine be Tryz.func50 hc (Ll g nb N pl np (nO g pl) Y.2 Y.1) ?_
  repeat' (first | exact aN | apply aI)
  iterate 2 all_goals (first | exact zN | (exact f1) | (exact m1) | (exact n1) | (intro t ht;simp only [af];exact ⟨ht,trivial,Nat.le_refl _,trivial⟩) | (intro t ht;simp [af];omega) | (intro t ht;simp [af];done) | simp only [af])
def Fg (v:ad) (n:Int) (i:Nat):St:=⟨[eI v,.p (.int .i64 n)]++List.replicate 5 ag++[eI v,.p (.int .i64 v.1),.p (.int .i64 i)]++List.replicate 11 ag,[],0⟩
def E9 (g:Nat→aa) (nb N:Nat) (pl:Nat→ae) (np:Nat) (v:ad) (i:Nat):St :=
  ⟨[.p .any,eI v,.pt 3 0 0 0,.p .any,.p .any,.p (.int .i64 0),.p (.int .i64 1)]++List.replicate 13 ag++[sY pl np,.p (.int .i64 np),.p (.int .i64 i)]++List.replicate 117 ag,[(0,EO g nb N pl np)],1⟩
def Ev (g:Nat→aa) (nb N:Nat) (pl:Nat→ae) (np:Nat) (v:ad) (num den:Int) (i:Nat):St :=
  ⟨[.p .any,eI v,.pt 3 0 0 0,.p .any,.p .any,.p (.int .i64 num),.p (.int .i64 den)]++List.replicate 75 ag++[sY pl np,.p (.int .i64 np),.p (.int .i64 i)]++List.replicate 55 ag,[(0,EO g nb N pl np)],1⟩
theorem Km (v:ad) (n:Int) :
    zT Tryz.f86 [rg 1,rg 3,.head] [eI v,jI n] [] (Fg v n 0) =
    some (xu,zD [(AN v.1),(AP v.1 (c8 v)),(AI n),(AI ((v.1:Int))),((0:Int)=(↑0:Int))] [0,1,2,0,1,3,4]):=by kernel_rfl
theorem MJ (v:ad) (n:Int) (i:Nat) :
    zM 0 [rg 1,.dec true,rg 3,rm [(1,oc [] (jB true))] 1,.dec false,rg 2,.head] xu (Fg v n i) [] 1 (Fg v n (i+1)) =
    some (xu,[((decide ((i:Int)<(v.1:Int)))=true),(IL 0 (i:Int)),(IT (i:Int) (v.1:Int)),zE 58 [jI (v.2 i),jI (-10000000000),jI 10000000000] [] (jB true),((!true)=false),(ax ((i:Int)+1)),(au ((i:Int)+1)),(AN v.1),(AP v.1 (c8 v)),(AI n),(AN v.1),(AP v.1 (c8 v)),(AI ((v.1:Int))),((((i:Int)+1):Int)=(↑(i+1):Int))]):=by kernel_rfl
theorem J5 (v:ad) (n:Int) (i:Nat) :
    zP Tryz.f86 0 [rg 1,.dec true,rg 3,rm [(1,oc [] (jB false))] 1,.dec true,rg 1] xu (Fg v n i) [] 1 [] (jB false) =
    some [((decide ((i:Int)<(v.1:Int)))=true),(IL 0 (i:Int)),(IT (i:Int) (v.1:Int)),zE 58 [jI (v.2 i),jI (-10000000000),jI 10000000000] [] (jB false),((!false)=true),(false=false)]:=by kernel_rfl
theorem J8 (v:ad) (n:Int) (i:Nat) :
    zP Tryz.f86 0 [rg 1,.dec false,rg 5] xu (Fg v n i) [] 1 [] (jB ((v.1:Int)==n)) =
    some [((decide ((i:Int)<(v.1:Int)))=false),(((v.1:Int)==n)=((v.1:Int)==n))]:=by kernel_rfl
theorem Lg (g:Nat→aa) (nb:Nat) (N:Int) (pl:Nat→ae) (np:Nat) (v:ad) (b1 b2:Bool) :
    zS Tryz.f51 [rg 2,rm [(1,oc [] (jB b1)),(6,oc [] (jB b2))] 2] [fU g nb N pl np,eI v] [] [] (jB (bif b1 then b2 else false)) =
    some (zD [(NT 0 1),zE 46 [(rZ N nb g np pl)] [] (jB b1),(AG b1),((b1=true)→(NT 0 1)),((b1=true)→(ax (2*N))),((b1=true)→(au (2*N))),((b1=true)→zE 86 [.p (.seq true 1 v.1 (c8 v)),jI (2*N)] [] (jB b2)),((bif b1 then b2 else false)=(bif b1 then b2 else false))] [0,1,2,2,3,2,4,5,2,2,6,2,7]):=by kernel_rfl
theorem ML (g:Nat→aa) (nb N:Nat) (pl:Nat→ae) (np:Nat) (v:ad) (a b:Nat) :
    zS Tryz.f52 [rg 2,rm [(2,oc [] (jB true)),(5,oc [] (jB true)),(6,oc [] (jB true))] 2,.dec false,rg 14,rg 38] [fU g nb N pl np,eI v,jI a,jI b] [] [] (jI (((pl a).1 - (pl b).1)*(v.2 (2*a) - v.2 (2*b))+((pl a).2.1 - (pl b).2.1)*(v.2 (2*a+1) - v.2 (2*b+1)))) =
    some (zD (let A:Bool:=bif !true then true else !true;[(NT 0 1),zE 51 [(nV N nb g np pl),.p (.seq true 1 v.1 (c8 v))] [] (jB true),(AG (!!true)),(((!!true)=true)→(NT 0 1)),(((!!true)=true)→zE 74 [(ak N nb g),jI (a:Int)] [] (jB true)),(((!true)=false)→((!!true)=true)),(AG (!A)),(((!A)=true)→(NT 0 1)),(((!A)=true)→zE 74 [(ak N nb g),jI (b:Int)] [] (jB true)),((A=false)→((!A)=true)),((bif A then true else !true)=false),(IL 0 (a:Int)),(IT (a:Int) (np:Int)),(IL 0 (b:Int)),(IT (b:Int) (np:Int)),((true=true)→(AN 1)),(ax ((pl a).1 - (pl b).1)),(au ((pl a).1 - (pl b).1)),(ax (2*(a:Int))),(au (2*(a:Int))),(IL 0 (2*(a:Int))),(IT (2*(a:Int)) (v.1:Int)),(ax (2*(b:Int))),(au (2*(b:Int))),(IL 0 (2*(b:Int))),(IT (2*(b:Int)) (v.1:Int)),(ax (v.2 (2*a) - v.2 (2*b))),(au (v.2 (2*a) - v.2 (2*b))),(ax (((pl a).1 - (pl b).1)*(v.2 (2*a) - v.2 (2*b)))),(au (((pl a).1 - (pl b).1)*(v.2 (2*a) - v.2 (2*b)))),(ax ((pl a).2.1 - (pl b).2.1)),(au ((pl a).2.1 - (pl b).2.1)),(ax (2*(a:Int)+1)),(au (2*(a:Int)+1)),(IL 0 (2*(a:Int)+1)),(IT (2*(a:Int)+1) (v.1:Int)),(ax (2*(b:Int)+1)),(au (2*(b:Int)+1)),(IL 0 (2*(b:Int)+1)),(IT (2*(b:Int)+1) (v.1:Int)),(ax (v.2 (2*a+1) - v.2 (2*b+1))),(au (v.2 (2*a+1) - v.2 (2*b+1))),(ax (((pl a).2.1 - (pl b).2.1)*(v.2 (2*a+1) - v.2 (2*b+1)))),(au (((pl a).2.1 - (pl b).2.1)*(v.2 (2*a+1) - v.2 (2*b+1)))),(ax (((pl a).1 - (pl b).1)*(v.2 (2*a) - v.2 (2*b))+((pl a).2.1 - (pl b).2.1)*(v.2 (2*a+1) - v.2 (2*b+1)))),(au (((pl a).1 - (pl b).1)*(v.2 (2*a) - v.2 (2*b))+((pl a).2.1 - (pl b).2.1)*(v.2 (2*a+1) - v.2 (2*b+1)))),(AI ((((pl a).1 - (pl b).1)*(v.2 (2*a) - v.2 (2*b))+((pl a).2.1 - (pl b).2.1)*(v.2 (2*a+1) - v.2 (2*b+1)))))]) [0,1,2,3,2,2,4,2,5,6,7,6,6,8,6,9,10,0,11,12,0,13,14,0,15,0,15,0,0,16,17,18,19,20,21,22,23,24,25,26,27,28,29,0,0,30,31,18,19,32,33,34,35,22,23,36,37,38,39,40,41,42,43,44,45,46]):=by kernel_rfl
theorem NY (g:Nat→aa) (nb:Nat) (N:Int) (pl:Nat→ae) (np:Nat) (v:ad) :
    zS Tryz.f20 [rg 2,rm [(2,oc [] (jB false))] 1,.dec true,rg 1] [fU g nb N pl np,eI v] [] [] (jB false) =
    some [(NT 0 1),zE 51 [(rZ N nb g np pl),.p (.seq true 1 v.1 (c8 v))] [] (jB false),((!false)=true),(false=false)]:=by kernel_rfl
theorem NZ (g:Nat→aa) (nb N:Nat) (pl:Nat→ae) (np:Nat) (v:ad) :
    zT Tryz.f20 [rg 2,rm [(2,oc [] (jB true))] 1,.dec false,rg 2,rg 4,.head] [fU g nb N pl np,eI v] [0] (E9 g nb N pl np v 0) =
    some (xi,[(NT 0 1),zE 51 [(nV N nb g np pl),.p (.seq true 1 v.1 (c8 v))] [] (jB true),((!true)=false),(NT 0 1),(AN v.1),(AP v.1 (c8 v)),(AN 0),(AI 0),(AI 1),(AN np),(AP np (aF pl)),(AI ((np:Int))),((0:Int)=(↑0:Int)),((([AV.p (PV.int IntKind.i64 (N:Int)),b4 g nb,sY pl np].length):Nat)=3),(NL 1 1),(NL 1 1),(AI ((N:Int))),(AN nb),(AP nb (aF g)),(AN np),(AP np (aF pl))]):=by kernel_rfl
theorem K0 (g:Nat→aa) (nb N:Nat) (pl:Nat→ae) (np:Nat) (v:ad) (i:Nat) :
    zM 0 [rg 1,.dec true,rg 6,rg 18,rg 6,.dec false,rg 2,.head] xi (E9 g nb N pl np v i) [0] 1 (E9 g nb N pl np v (i+1)) =
    some (xi,(let A:Bool:=(pl i).1 - (pl 0).1 != 0;[((decide ((i:Int)<(np:Int)))=true),(IL 0 (i:Int)),(IT (i:Int) (np:Int)),(NT 0 1),((true=true)→(AN 1)),(NT 0 1),(NT 0 1),(IL 0 0),(IT 0 (np:Int)),(ax ((pl i).1 - (pl 0).1)),(au ((pl i).1 - (pl 0).1)),(NT 0 1),(NT 0 1),(IL 0 0),(IT 0 (np:Int)),(ax ((pl i).2.1 - (pl 0).2.1)),(au ((pl i).2.1 - (pl 0).2.1)),(AG (!A)),((A=false)→((!A)=true)),((bif A then true else (pl i).2.1 - (pl 0).2.1 != 0)=false),(ax ((i:Int)+1)),(au ((i:Int)+1)),(AN v.1),(AP v.1 (c8 v)),(AN 0),(AI 0),(AI 1),(AN np),(AP np (aF pl)),(AI ((np:Int))),((((i:Int)+1):Int)=(↑(i+1):Int)),(AN 3),(NL 1 1),(NL 1 1),(AI ((N:Int))),(AN nb),(AP nb (aF g)),(AN np),(AP np (aF pl))])):=by kernel_rfl
theorem N4 (g:Nat→aa) (nb N:Nat) (pl:Nat→ae) (np:Nat) (v:ad) (i:Nat) (num den:Int) :
    zM 0 [rg 1,.dec true,rg 6,rg 18,rg 6,.dec true,rg 25,rg 8,rg 4,.head] xi (E9 g nb N pl np v i) [0] 1 (Ev g nb N pl np v num den 0) =
    some (vc,(let A:Bool:=(pl i).1 - (pl 0).1 != 0;[((decide ((i:Int)<(np:Int)))=true),(IL 0 (i:Int)),(IT (i:Int) (np:Int)),(NT 0 1),((true=true)→(AN 1)),(NT 0 1),(NT 0 1),(IL 0 0),(IT 0 (np:Int)),(ax ((pl i).1 - (pl 0).1)),(au ((pl i).1 - (pl 0).1)),(NT 0 1),(NT 0 1),(IL 0 0),(IT 0 (np:Int)),(ax ((pl i).2.1 - (pl 0).2.1)),(au ((pl i).2.1 - (pl 0).2.1)),(AG (!A)),((A=false)→((!A)=true)),((bif A then true else (pl i).2.1 - (pl 0).2.1 != 0)=true),(ax (2*(i:Int))),(au (2*(i:Int))),(ax (2*(i:Int)+1)),(au (2*(i:Int)+1)),(IL 0 (2*(i:Int)+1)),(IT (2*(i:Int)+1) (v.1:Int)),(IL 0 1),(IT 1 (v.1:Int)),(ax (v.2 (2*i+1) - v.2 1)),(au (v.2 (2*i+1) - v.2 1)),(ax ((v.2 (2*i+1) - v.2 1)*((pl i).1 - (pl 0).1))),(au ((v.2 (2*i+1) - v.2 1)*((pl i).1 - (pl 0).1))),(ax (2*(i:Int))),(au (2*(i:Int))),(IL 0 (2*(i:Int))),(IT (2*(i:Int)) (v.1:Int)),(IL 0 0),(IT 0 (v.1:Int)),(ax (v.2 (2*i) - v.2 0)),(au (v.2 (2*i) - v.2 0)),(ax ((v.2 (2*i) - v.2 0)*((pl i).2.1 - (pl 0).2.1))),(au ((v.2 (2*i) - v.2 0)*((pl i).2.1 - (pl 0).2.1))),(ax ((v.2 (2*i+1) - v.2 1)*((pl i).1 - (pl 0).1) - (v.2 (2*i) - v.2 0)*((pl i).2.1 - (pl 0).2.1))),(au ((v.2 (2*i+1) - v.2 1)*((pl i).1 - (pl 0).1) - (v.2 (2*i) - v.2 0)*((pl i).2.1 - (pl 0).2.1))),(ax (((pl i).1 - (pl 0).1)*((pl i).1 - (pl 0).1))),(au (((pl i).1 - (pl 0).1)*((pl i).1 - (pl 0).1))),(ax (((pl i).2.1 - (pl 0).2.1)*((pl i).2.1 - (pl 0).2.1))),(au (((pl i).2.1 - (pl 0).2.1)*((pl i).2.1 - (pl 0).2.1))),(ax (((pl i).1 - (pl 0).1)*((pl i).1 - (pl 0).1)+((pl i).2.1 - (pl 0).2.1)*((pl i).2.1 - (pl 0).2.1))),(au (((pl i).1 - (pl 0).1)*((pl i).1 - (pl 0).1)+((pl i).2.1 - (pl 0).2.1)*((pl i).2.1 - (pl 0).2.1))),(NT 0 1),(AN v.1),(AP v.1 (c8 v)),(AN 0),((((v.2 (2*i+1) - v.2 1)*((pl i).1 - (pl 0).1) - (v.2 (2*i) - v.2 0)*((pl i).2.1 - (pl 0).2.1)):Int)=num),(((((pl i).1 - (pl 0).1)*((pl i).1 - (pl 0).1)+((pl i).2.1 - (pl 0).2.1)*((pl i).2.1 - (pl 0).2.1)):Int)=den),(AN np),(AP np (aF pl)),(AI ((np:Int))),((0:Int)=(↑0:Int)),(AN 3),(NL 1 1),(NL 1 1),(AI ((N:Int))),(AN nb),(AP nb (aF g)),(AN np),(AP np (aF pl))])):=by kernel_rfl
theorem L1 (g:Nat→aa) (nb N:Nat) (pl:Nat→ae) (np:Nat) (v:ad) (i:Nat) :
    zM 0 [rg 1,.dec false,rg 4,.head] xi (E9 g nb N pl np v i) [0] 1 (Ev g nb N pl np v 0 1 0) =
    some (vc,[((decide ((i:Int)<(np:Int)))=false),(NT 0 1),(AN v.1),(AP v.1 (c8 v)),(AN 0),(AI 0),(AI 1),(AN np),(AP np (aF pl)),(AI ((np:Int))),((0:Int)=(↑0:Int)),(AN 3),(NL 1 1),(NL 1 1),(AI ((N:Int))),(AN nb),(AP nb (aF g)),(AN np),(AP np (aF pl))]):=by kernel_rfl
theorem MU (g:Nat→aa) (nb N:Nat) (pl:Nat→ae) (np:Nat) (v:ad) (num den:Int) (i:Nat) :
    zM 0 [rg 1,.dec true,rg 6,rg 18,rg 34,.dec false,rg 2,.head] vc (Ev g nb N pl np v num den i) [0] 1 (Ev g nb N pl np v num den (i+1)) =
    some (vc,zD (let A:Bool:=(v.2 (2*i) - v.2 0)*den != (0 - num)*((pl i).2.1 - (pl 0).2.1);[((decide ((i:Int)<(np:Int)))=true),(IL 0 (i:Int)),(IT (i:Int) (np:Int)),(NT 0 1),((true=true)→(AN 1)),(IL 0 0),(IT 0 (np:Int)),(ax ((pl i).1 - (pl 0).1)),(au ((pl i).1 - (pl 0).1)),(ax ((pl i).2.1 - (pl 0).2.1)),(au ((pl i).2.1 - (pl 0).2.1)),(ax (2*(i:Int))),(au (2*(i:Int))),(IL 0 (2*(i:Int))),(IT (2*(i:Int)) (v.1:Int)),(IT 0 (v.1:Int)),(ax (v.2 (2*i) - v.2 0)),(au (v.2 (2*i) - v.2 0)),(ax ((v.2 (2*i) - v.2 0)*den)),(au ((v.2 (2*i) - v.2 0)*den)),(ax (0 - num)),(au (0 - num)),(ax ((0 - num)*((pl i).2.1 - (pl 0).2.1))),(au ((0 - num)*((pl i).2.1 - (pl 0).2.1))),(AG (!A)),(((!A)=true)→(ax (2*(i:Int)))),(((!A)=true)→(au (2*(i:Int)))),(((!A)=true)→(ax (2*(i:Int)+1))),(((!A)=true)→(au (2*(i:Int)+1))),(((!A)=true)→(IL 0 (2*(i:Int)+1))),(((!A)=true)→(IT (2*(i:Int)+1) (v.1:Int))),(((!A)=true)→(IL 0 1)),(((!A)=true)→(IT 1 (v.1:Int))),(((!A)=true)→(ax (v.2 (2*i+1) - v.2 1))),(((!A)=true)→(au (v.2 (2*i+1) - v.2 1))),(((!A)=true)→(ax ((v.2 (2*i+1) - v.2 1)*den))),(((!A)=true)→(au ((v.2 (2*i+1) - v.2 1)*den))),(((!A)=true)→(ax (num*((pl i).1 - (pl 0).1)))),(((!A)=true)→(au (num*((pl i).1 - (pl 0).1)))),((A=false)→((!A)=true)),((bif A then true else (v.2 (2*i+1) - v.2 1)*den != num*((pl i).1 - (pl 0).1))=false),(ax ((i:Int)+1)),(au ((i:Int)+1)),(AN v.1),(AP v.1 (c8 v)),(AN 0),(AI num),(AI den),(AN np),(AP np (aF pl)),(AI ((np:Int))),((((i:Int)+1):Int)=(↑(i+1):Int)),(AN 3),(NL 1 1),(AI ((N:Int))),(AN nb),(AP nb (aF g))]) [0,1,2,3,4,3,3,5,6,7,8,3,3,5,6,9,10,11,12,13,14,5,15,16,17,18,19,20,21,22,23,24,25,26,24,27,28,24,24,29,30,24,24,31,32,24,24,24,33,34,24,24,35,36,24,24,37,38,24,24,39,40,41,42,43,44,45,46,47,48,49,50,51,52,53,53,54,55,56,48,49]):=by kernel_rfl
theorem On (g:Nat→aa) (nb N:Nat) (pl:Nat→ae) (np:Nat) (v:ad) (num den:Int) (i:Nat) :
    zP Tryz.f20 0 [rg 1,.dec true,rg 6,rg 18,rg 34,.dec true,rg 1] vc (Ev g nb N pl np v num den i) [] 1 [] (jB false) =
    some (zD (let A:Bool:=(v.2 (2*i) - v.2 0)*den != (0 - num)*((pl i).2.1 - (pl 0).2.1);[((decide ((i:Int)<(np:Int)))=true),(IL 0 (i:Int)),(IT (i:Int) (np:Int)),(NT 0 1),((true=true)→(AN 1)),(IL 0 0),(IT 0 (np:Int)),(ax ((pl i).1 - (pl 0).1)),(au ((pl i).1 - (pl 0).1)),(ax ((pl i).2.1 - (pl 0).2.1)),(au ((pl i).2.1 - (pl 0).2.1)),(ax (2*(i:Int))),(au (2*(i:Int))),(IL 0 (2*(i:Int))),(IT (2*(i:Int)) (v.1:Int)),(IT 0 (v.1:Int)),(ax (v.2 (2*i) - v.2 0)),(au (v.2 (2*i) - v.2 0)),(ax ((v.2 (2*i) - v.2 0)*den)),(au ((v.2 (2*i) - v.2 0)*den)),(ax (0 - num)),(au (0 - num)),(ax ((0 - num)*((pl i).2.1 - (pl 0).2.1))),(au ((0 - num)*((pl i).2.1 - (pl 0).2.1))),(AG (!A)),(((!A)=true)→(ax (2*(i:Int)))),(((!A)=true)→(au (2*(i:Int)))),(((!A)=true)→(ax (2*(i:Int)+1))),(((!A)=true)→(au (2*(i:Int)+1))),(((!A)=true)→(IL 0 (2*(i:Int)+1))),(((!A)=true)→(IT (2*(i:Int)+1) (v.1:Int))),(((!A)=true)→(IL 0 1)),(((!A)=true)→(IT 1 (v.1:Int))),(((!A)=true)→(ax (v.2 (2*i+1) - v.2 1))),(((!A)=true)→(au (v.2 (2*i+1) - v.2 1))),(((!A)=true)→(ax ((v.2 (2*i+1) - v.2 1)*den))),(((!A)=true)→(au ((v.2 (2*i+1) - v.2 1)*den))),(((!A)=true)→(ax (num*((pl i).1 - (pl 0).1)))),(((!A)=true)→(au (num*((pl i).1 - (pl 0).1)))),((A=false)→((!A)=true)),((bif A then true else (v.2 (2*i+1) - v.2 1)*den != num*((pl i).1 - (pl 0).1))=true),(false=false)]) [0,1,2,3,4,3,3,5,6,7,8,3,3,5,6,9,10,11,12,13,14,5,15,16,17,18,19,20,21,22,23,24,25,26,24,27,28,24,24,29,30,24,24,31,32,24,24,24,33,34,24,24,35,36,24,24,37,38,24,24,39,40,41]):=by kernel_rfl
theorem Kp (g:Nat→aa) (nb N:Nat) (pl:Nat→ae) (np:Nat) (v:ad) (num den:Int) (i:Nat) :
    zP Tryz.f20 0 [rg 1,.dec false,rg 1] vc (Ev g nb N pl np v num den i) [] 1 [] (jB true) =
    some [((decide ((i:Int)<(np:Int)))=false),(true=true)]:=by kernel_rfl
end Go.Proofs.YtbdgmpfdlgnkkaaGreat.Mach
