/- What the law Pn needs, part 4 of 6: the abstract machine and the contracts of the functions. Conditions: as each theorem says. -/
import Derived.Shelf.SlGeneric
import Derived.Ground.SlgmProg
import Derived.Ground.SlgnProg
import Derived.Shelf.SortM.Plain
import Derived.Shelf.SortM.SortNone
import Derived.Shelf.SlicesG.CompactI
import Derived.WalkKit
import Derived.Test.YtkkjoghiigiokaaGreatPnP3
namespace Go.Proofs.YtkkjoghiigiokaaGreat.Had
structure LF (n:Nat) (l:Fo→Int):Prop where
  lin:Lin l
  bd:∀ u,l u*l u≤dot n u u
structure HI (n m:Nat) (B:Int) (a A:Nat→Ve) (r:Nat) (p:Nat→Nat) (d:Int) (W:Fo) (F:Fo→Int) (L:Nat→Fo→Int):Prop where
  rm:r≤m
  rows:∀ i,i<m→dotv n (a i) (a i)≤B
  b0:0≤B
  dec:Dec n W
  lf:LF n F
  ll:∀ i,i<r→LF n (L i)
  pn:∀ j,j<r→p j<n
  k0:∀ j,j<r→∀ Y,F (it n (dl (p j)) Y)=0
  k1:∀ i j,i<r→j<r→∀ Y,L i (it n (dl (p j)) Y)=if i=j then F Y else 0
  kv:∀ v:Ve,(∀ j,j<r→v (p j)=0)→∀ Y,F (wg n v Y)=0
  dF:d=F W
  d0:d≠0
  piv:∀ i k,i<r→k<n→A i k=L i (it n (dl k) W)
  non:∀ i k,r≤i→i<m→k<n→A i k=F (it n (dl k) (wg n (a i) W))
  nw:dot n W W≤B ^ r
theorem wg_at0 (n:Nat):∀ (a:Ve) (w:Fo),wg n a w 0=0:=by
  induction n with
  | zero=>intro a w;rfl
  | succ n ih =>
    intro a w
    have:=wg_e n a w 0
    rw [show 2*0=0 from rfl] at this
    rw [this,ih]
theorem dot_vac (n:Nat):dot n vac vac=1:=by
  induction n with
  | zero=>rfl
  | succ n ih =>
    simp only [dot]
    rw [show ev vac=vac from funext fun q=>by
      show (if 2*q=0 then (1:Int) else 0)=if q=0 then 1 else 0
      by_cases h:q=0
      · rw [if_pos h,if_pos (by omega)]
      · rw [if_neg h,if_neg (by omega)],show od vac=fun _=>0 from funext fun q=>by simp [od,vac],ih]
    have:=dot_lin n 0 0 (fun _=>0) (fun _=>0) (fun _=>0)
    simp at this
    rw [this];rfl
theorem HI.init {n m:Nat} {B:Int} {a:Nat→Ve} {p:Nat→Nat} (h0:0≤B) (hr:∀ i,i<m→dotv n (a i) (a i)≤B) :
    HI n m B a a 0 p 1 vac (fun w=>w 0) (fun _ _=>0) where
  rm:=Nat.zero_le _
  rows:=hr
  b0:=h0
  dec:=dec_vac n
  lf:=⟨fun x y u v=>rfl,dot_at n⟩
  ll i hi:=absurd hi (Nat.not_lt_zero _)
  pn i hi:=absurd hi (Nat.not_lt_zero _)
  k0 i hi:=absurd hi (Nat.not_lt_zero _)
  k1 i j hi:=absurd hi (Nat.not_lt_zero _)
  kv v _ Y:=wg_at0 n v Y
  dF:=rfl
  d0:=by decide
  piv i k hi:=absurd hi (Nat.not_lt_zero _)
  non i k _ _ hk:=by
    show a i k=it n (dl k) (wg n (a i) vac) 0
    rw [car_dl,it_vac,wg_0,if_pos hk]
    simp [vac]
  nw:=by rw [dot_vac];simp
section
variable {n m r:Nat} {B:Int} {a A:Nat→Ve} {p:Nat→Nat} {d:Int} {W:Fo} {F:Fo→Int} {L:Nat→Fo→Int}
theorem HI.bd (h:HI n m B a A r p d W F L):d*d≤B ^ r:=by
  rw [h.dF];exact Int.le_trans (h.lf.bd _) h.nw
def sw {α:Type} (a:Nat→α) (r s:Nat) (i:Nat):α:=if i=r then a s else if i=s then a r else a i
theorem HI.step (h:HI n m B a A r p d W F L) {c:Nat} (hr:r<m) (hc:c<n) (hx:A r c≠0) {A':Nat→Ve} (hA':∀ i k,i<m→k<n→A' i k =
      if i<r then - L i (it n (dl c) (it n (dl k) (wg n (a r) W))) else if i=r then A r k else F (it n (dl c) (it n (dl k) (wg n (a i) (wg n (a r) W))))) :
    HI n m B a A' (r+1) (fun j=>if j=r then c else p j) (A r c) (wg n (a r) W) (fun Y=>F (it n (dl c) Y)) (fun i Y=>if i=r then F Y else - L i (it n (dl c) Y)) where
  rm:=hr
  rows:=h.rows
  b0:=h.b0
  dec:=dec_wg (a r) h.dec
  lf:=⟨h.lf.lin.it n (dl c),fun u=>Int.le_trans (h.lf.bd _) (it_dl_le n c u)⟩
  ll i hi:=by
    by_cases hir:i=r
    · simp only [hir,if_true];exact h.lf
    · simp only [hir,if_false]
      exact ⟨((h.ll i (by omega)).lin.it n (dl c)).neg,fun u=>by rw [Int.neg_mul_neg];exact Int.le_trans ((h.ll i (by omega)).bd _) (it_dl_le n c u)⟩
  pn j hj:=by
    show (if j=r then c else p j)<n
    split
    · exact hc
    · exact h.pn j (by omega)
  k0 j hj Y:=by
    show F (it n (dl c) (it n (dl (if j=r then c else p j)) Y))=0
    split
    · have:=congrArg F (it_it n (dl c) (dl c) Y)
      rw [show (fun m=>- it n (dl c) (it n (dl c) Y) m)=fun m=>(-1)*it n (dl c) (it n (dl c) Y) m+0*0 from funext fun m=>by omega,h.lf.lin (-1) 0 _ (fun _=>0)] at this
      omega
    · rw [it_it,show (fun m=>- it n (dl (p j)) (it n (dl c) Y) m)=fun m=>(-1)*it n (dl (p j)) (it n (dl c) Y) m+0*0 from funext fun m=>by omega,h.lf.lin (-1) 0 _ (fun _=>0),h.k0 j (by omega)]
      omega
  k1 i j hi hj Y:=by
    show (if i=r then F (it n (dl (if j=r then c else p j)) Y) else - L i (it n (dl c) (it n (dl (if j=r then c else p j)) Y)))=if i=j then F (it n (dl c) Y) else 0
    by_cases hir:i=r
    · rw [if_pos hir]
      by_cases hjr:j=r
      · rw [if_pos hjr,if_pos (by omega)]
      · rw [if_neg hjr,if_neg (by omega),h.k0 j (by omega)]
    · rw [if_neg hir]
      have hl:=(h.ll i (by omega)).lin
      by_cases hjr:j=r
      · rw [if_pos hjr,if_neg (by omega)]
        have:=congrArg (L i) (it_it n (dl c) (dl c) Y)
        rw [show (fun m=>- it n (dl c) (it n (dl c) Y) m)=fun m=>(-1)*it n (dl c) (it n (dl c) Y) m+0*0 from funext fun m=>by omega,hl (-1) 0 _ (fun _=>0)] at this
        omega
      · rw [if_neg hjr,it_it,show (fun m=>- it n (dl (p j)) (it n (dl c) Y) m)=fun m=>(-1)*it n (dl (p j)) (it n (dl c) Y) m+0*0 from funext fun m=>by omega,hl (-1) 0 _ (fun _=>0),h.k1 i j (by omega) (by omega)]
        split<;>omega
  kv v hv Y:=by
    show F (it n (dl c) (wg n v Y))=0
    have h1:=hv r (by omega)
    simp only [if_true] at h1
    rw [car_dl,h.lf.lin,h.kv v (fun j hj=>by have:=hv j (by omega);simpa [show j≠r by omega] using this),if_pos hc,h1]
    omega
  dF:=h.non r c (Nat.le_refl _) hr hc
  d0:=hx
  piv i k hi hk:=by
    show A' i k=if i=r then F (it n (dl k) (wg n (a r) W)) else - L i (it n (dl c) (it n (dl k) (wg n (a r) W)))
    rw [hA' i k (by omega) hk]
    by_cases hir:i=r
    · subst hir
      rw [if_neg (Nat.lt_irrefl _),if_pos rfl,if_pos rfl];exact h.non i k (Nat.le_refl _) hr hk
    · rw [if_pos (show i<r by omega),if_neg hir]
  non i k hi hm hk:=by
    rw [hA' i k hm hk,if_neg (by omega),if_neg (by omega)]
  nw:=by
    have h1:=wg_le n (a r) W
    have h2:=h.rows r hr
    have h3:=h.nw
    have h4:=dot_nn n W
    rw [Int.pow_succ,Int.mul_comm (B ^ r) B]
    exact Int.le_trans h1 (Int.le_trans (Int.mul_le_mul_of_nonneg_right h2 h4) (Int.mul_le_mul_of_nonneg_left h3 h.b0))
theorem HI.ident (h:HI n m B a A r p d W F L) {c:Nat} (hr:r<m) (hc:c<n) (hx:A r c≠0) {A':Nat→Ve} (hA':∀ i k,i<m→k<n→A' i k =
      if i<r then - L i (it n (dl c) (it n (dl k) (wg n (a r) W))) else if i=r then A r k else F (it n (dl c) (it n (dl k) (wg n (a i) (wg n (a r) W)))))
    {i k:Nat} (him:i<m) (hir:i≠r) (hk:k<n):d*A' i k=A r c*A i k - A i c*A r k:=by
  have h':=h.step hr hc hx hA'
  let W':=wg n (a r) W
  let vr:Ve:=fun k=>F (it n (dl k) W')
  have zr:wg n vr W'=fun _=>0:=h'.dec F h.lf.lin
  by_cases hi:i<r
  · let X:Ve:=fun k=>- L i (it n (dl c) (it n (dl k) W'))
    let V:Ve:=fun k=>L i (it n (dl k) W)
    have zX:wg n X W'=fun _=>0:=h'.dec _ ((h.ll i hi).lin.it n (dl c)).neg
    have zV:wg n V W'=fun _=>0:=by
      show wg n V (wg n (a r) W)=_
      rw [wg_wg,h.dec (L i) (h.ll i hi).lin,wg_0];simp
    have e:=uniq (v:=fun k=>1*(d*X k+(- A r c)*V k)+A i c*vr k) h'.lf.lin h'.kv (by rw [← h'.dF];exact hx)
      (by rw [wg_linv,wg_linv,zX,zV,zr];simp)
      (fun j hj=>by
        have e1:X (if j=r then c else p j)=if i=j then A r c else 0:=by
          have:=h'.k1 i j (by omega) hj W'
          simp only [if_neg hir] at this
          show - L i (it n (dl c) (it n (dl (if j=r then c else p j)) W'))=_
          rw [this]
          split
          · exact h'.dF.symm
          · rfl
        have e2:vr (if j=r then c else p j)=if j=r then A r c else 0:=by
          show F (it n (dl (if j=r then c else p j)) W')=_
          split
          · exact h'.dF.symm
          · exact h.k0 j (by omega) _
        have e3:V (if j=r then c else p j)=if j=r then A i c else if i=j then d else 0:=by
          show L i (it n (dl (if j=r then c else p j)) W)=_
          split
          · exact (h.piv i c hi hc).symm
          · rw [h.k1 i j hi (by omega),h.dF]
        show 1*(d*X (if j=r then c else p j)+(- A r c)*V (if j=r then c else p j))+A i c*vr (if j=r then c else p j)=0
        rw [e1,e2,e3]
        by_cases hj:j=r
        · rw [if_pos hj,if_pos hj,if_neg (by omega)];grind
        · rw [if_neg hj,if_neg hj]
          split<;>grind) hk
    have e1:A' i k=X k:=by rw [hA' i k him hk,if_pos hi]
    have e2:A i k=V k:=h.piv i k hi hk
    have e3:A r k=vr k:=h.non r k (Nat.le_refl _) hr hk
    rw [e1,e2,e3]
    have e:1*(d*X k+(- A r c)*V k)+A i c*vr k=0:=e
    grind
  · let X:Ve:=fun k=>F (it n (dl c) (it n (dl k) (wg n (a i) W')))
    let V:Ve:=fun k=>F (it n (dl k) (wg n (a i) W))
    let bb:Ve:=fun k=>if k<n then a i k else 0
    have zX:wg n X W'=fun m=>A r c*wg n bb W' m:=by
      have e0:X=fun k=>A r c*bb k+(-1)*F (it n (dl c) (wg n (a i) (it n (dl k) W'))):=funext fun k=>by
        show F (it n (dl c) (it n (dl k) (wg n (a i) W')))=_
        rw [car_dl,it_lin,h.lf.lin,show F (it n (dl c) W')=A r c from h'.dF.symm]
        show _=A r c*(if k<n then a i k else 0)+_
        grind
      rw [e0,wg_linv,h'.dec _ ((h.lf.lin.it n (dl c)).wg n (a i))]
      funext q;simp
    have zV:wg n V W'=fun m=>d*wg n bb W' m:=by
      have e0:V=fun k=>d*bb k+(-1)*F (wg n (a i) (it n (dl k) W)):=funext fun k=>by
        show F (it n (dl k) (wg n (a i) W))=_
        rw [car_dl,h.lf.lin,← h.dF]
        show _=d*(if k<n then a i k else 0)+_
        grind
      have e1:wg n (fun k=>F (wg n (a i) (it n (dl k) W))) W'=fun _=>0:=by
        show wg n _ (wg n (a r) W)=_
        rw [wg_wg,h.dec _ (h.lf.lin.wg n (a i)),wg_0];simp
      rw [e0,wg_linv,e1]
      funext q;simp
    have e:=uniq (v:=fun k=>1*(d*X k+(- A r c)*V k)+A i c*vr k) h'.lf.lin h'.kv (by rw [← h'.dF];exact hx)
      (by rw [wg_linv,wg_linv,zX,zV,zr];funext q;grind)
      (fun j hj=>by
        have e1:X (if j=r then c else p j)=0:=h'.k0 j hj _
        have e2:vr (if j=r then c else p j)=if j=r then A r c else 0:=by
          show F (it n (dl (if j=r then c else p j)) W')=_
          split
          · exact h'.dF.symm
          · exact h.k0 j (by omega) _
        have e3:V (if j=r then c else p j)=if j=r then A i c else 0:=by
          show F (it n (dl (if j=r then c else p j)) (wg n (a i) W))=_
          split
          · exact (h.non i c (by omega) him hc).symm
          · exact h.k0 j (by omega) _
        show 1*(d*X (if j=r then c else p j)+(- A r c)*V (if j=r then c else p j))+A i c*vr (if j=r then c else p j)=0
        rw [e1,e2,e3]
        split<;>grind) hk
    have e1:A' i k=X k:=by rw [hA' i k him hk,if_neg hi,if_neg hir]
    have e2:A i k=V k:=h.non i k (by omega) him hk
    have e3:A r k=vr k:=h.non r k (Nat.le_refl _) hr hk
    rw [e1,e2,e3]
    have e:1*(d*X k+(- A r c)*V k)+A i c*vr k=0:=e
    grind
end
def Bar (n m:Nat) (B:Int) (A:Nat→Ve) (r:Nat) (p:Nat→Nat) (d:Int):Prop:=∃ a W F L,HI n m B a A r p d W F L
def el (A:Nat→Ve) (r c:Nat) (d:Int):Nat→Ve:=fun i k=>if i=r then A r k else (A r c*A i k - A i c*A r k).tdiv d
theorem Bar.elim {n m r:Nat} {B:Int} {A:Nat→Ve} {p:Nat→Nat} {d:Int} (h:Bar n m B A r p d) {c:Nat} (hr:r<m) (hc:c<n) (hx:A r c≠0) :
    Bar n m B (el A r c d) (r+1) (fun j=>if j=r then c else p j) (A r c)∧∀ i k,i<m→i≠r→k<n→d*el A r c d i k=A r c*A i k - A i c*A r k:=by
  obtain ⟨a,W,F,L,h⟩:=h
  let A':Nat→Ve:=fun i k=>if i<r then - L i (it n (dl c) (it n (dl k) (wg n (a r) W))) else if i=r then A r k else F (it n (dl c) (it n (dl k) (wg n (a i) (wg n (a r) W))))
  have hq:∀ i k,i<m→k<n→el A r c d i k=A' i k:=by
    intro i k hi hk
    unfold el
    by_cases hir:i=r
    · rw [if_pos hir]
      show _=if i<r then _ else if i=r then A r k else _
      rw [if_neg (by omega),if_pos hir]
    · rw [if_neg hir,← h.ident hr hc hx (A':=A') (fun i k _ _=>rfl) hi hir hk,Int.mul_tdiv_cancel_left _ h.d0]
  refine ⟨⟨a,_,_,_,h.step hr hc hx (fun i k hi hk=>(hq i k hi hk).trans rfl)⟩,fun i k hi hir hk=>?_⟩
  rw [hq i k hi hk]
  exact h.ident hr hc hx (fun i k _ _=>rfl) hi hir hk
theorem Bar.init {n m:Nat} {B:Int} {a:Nat→Ve} {p:Nat→Nat} (h0:0≤B) (hr:∀ i,i<m→dotv n (a i) (a i)≤B):Bar n m B a 0 p 1:=⟨a,_,_,_,HI.init h0 hr⟩
section
variable {n m r:Nat} {B:Int} {A:Nat→Ve} {p:Nat→Nat} {d:Int}
theorem Bar.rm (h:Bar n m B A r p d):r≤m:=by obtain ⟨a,W,F,L,h⟩:=h;exact h.rm
theorem Bar.d0 (h:Bar n m B A r p d):d≠0:=by obtain ⟨a,W,F,L,h⟩:=h;exact h.d0
theorem Bar.pn (h:Bar n m B A r p d) {j:Nat} (hj:j<r):p j<n:=by obtain ⟨a,W,F,L,h⟩:=h;exact h.pn j hj
theorem Bar.bd (h:Bar n m B A r p d):d*d≤B ^ r:=by obtain ⟨a,W,F,L,h⟩:=h;exact h.bd
end
end Go.Proofs.YtkkjoghiigiokaaGreat.Had
namespace Go.Proofs.YtkkjoghiigiokaaGreat.Had
structure RS where
  A:Nat→Ve
  r:Nat
  p:Nat→Nat
  d:Int
structure Tame (n m rmx:Nat) (K:Nat→Nat→(Nat→Ve)→Prop):Prop where
  skip:∀ c r A,c<n→K c r A→(∀ i,r≤i→i<m→A i c=0)→K (c+1) r A
  piv:∀ c r A q A' d,c<n→K c r A→r≤q→q<m→A q c≠0→d≠0→(∀ i k,i<m→i≠r→k<n→d*A' i k=sw A r q r c*sw A r q i k - sw A r q i c*sw A r q r k) →
    (∀ k,A' r k=sw A r q r k)→K (c+1) (r+1) A'∧r+1≤rmx
structure ROK (n m rmx:Nat) (B:Int) (K:Nat→Nat→(Nat→Ve)→Prop) (c:Nat) (S:RS):Prop where
  bar:Bar n m B S.A S.r S.p S.d
  k:K c S.r S.A
  r:S.r≤rmx
  rc:S.r≤c
  pc:∀ j,j<S.r→S.p j<c
  asc:∀ i j,i<j→j<S.r→S.p i<S.p j
end Go.Proofs.YtkkjoghiigiokaaGreat.Had
namespace Go.Proofs.YtkkjoghiigiokaaGreat.Had
def rs (f:Nat→Int):Nat→Nat→Int
  | _,0=>0
  | lo,k+1=>f lo+rs f (lo+1) k
def Rel (n m:Nat) (a:Nat→Ve) (u:Nat→Int):Prop:=∀ k,k<n→rs (fun i=>u i*a i k) 0 m=0
end Go.Proofs.YtkkjoghiigiokaaGreat.Had
namespace Go.Proofs.YtkkjoghiigiokaaGreat.Had
def rv (x y:Int) (A B:Nat):Ve:=fun w=>if w=2*A then x else if w=2*A+1 then y else if w=2*B then -x else if w=2*B+1 then -y else 0
structure Bars (P nb:Nat) (A B:Nat→Nat) (px py:Nat→Int):Prop where
  P6:P≤6
  ok:∀ k,k<nb→A k<B k∧B k<P
  asc:∀ k,k+1<nb→A k<A (k+1)∨A k=A (k+1)∧B k<B (k+1)
  gx:∀ v,v<P→0≤px v∧px v≤4
  gy:∀ v,v<P→0≤py v∧py v≤4
  ne:∀ k,k<nb→px (A k)≠px (B k)∨py (A k)≠py (B k)
def tr (M:Nat→Ve) (w:Nat):Ve:=fun k=>M k w
section
variable {P nb:Nat} {A B:Nat→Nat} {px py:Nat→Int}
theorem Bars.lt (h:Bars P nb A B px py):∀ d k,k+(d+1)<nb→A k<A (k+(d+1))∨A k=A (k+(d+1))∧B k<B (k+(d+1))
  | 0,k,hk=>h.asc k hk
  | d+1,k,hk=>by
    have h1:=h.lt d k (by omega)
    have h2:=h.asc (k+(d+1)) (by omega)
    rw [show k+(d+1)+1=k+(d+1+1) by omega] at h2
    omega
def inc (A B:Nat→Nat) (v k:Nat):Prop:=A k=v∨B k=v
instance (A B:Nat→Nat) (v k:Nat):Decidable (inc A B v k):=by unfold inc;exact inferInstance
def cnt (A B:Nat→Nat) (v:Nat):Nat→Nat
  | 0=>0
  | k+1=>cnt A B v k+if inc A B v k then 1 else 0
end
end Go.Proofs.YtkkjoghiigiokaaGreat.Had
namespace Go.Proofs.YtkkjoghiigiokaaGreat.Mach
open Go
set_option linter.unusedVariables false
set_option linter.unusedSimpArgs false
def PvS (n:Nat) (v:Nat→Int) (g:Int) (i:Nat):St:=⟨[inD n v,.p .any,.p .any,.p (.int .i64 g),.p (.int .i64 i)]++List.replicate 63 anyA,[],0⟩
def PfS (n:Nat) (v:Nat→Int) (g f:Int) (i:Nat):St:=⟨[inD n v,.p .any,.p .any,.p (.int .i64 g),.p .any,.p (.int .i64 f),.p (.int .i64 i)]++List.replicate 61 anyA,[],0⟩
theorem ps1 (n:Nat) (v:Nat→Int) (g:Int) (i:Nat) :
    zM 0 [rg 4,.dec false,rg 2,.dec false,rg 1,rg 1,.head] [.code (cAt (bodyOf Tryz.f353) [1,1,0,1,0,0]),.inLoop (cAt (bodyOf Tryz.f353) [1,1,0,1,0,0]),.inBlock 0,.code (cAt (bodyOf Tryz.f353) [1,1,1])] (PvS n v g i) [] 1 (PfS n v g 0 0) =
    some ([.code (cAt (bodyOf Tryz.f353) [1,1,1,1,1,0,1,0,0]),.inLoop (cAt (bodyOf Tryz.f353) [1,1,1,1,1,0,1,0,0]),.inBlock 2,.code (cAt (bodyOf Tryz.f353) [1,1,1,1,1,1])],[((decide ((↑i:Int)<(↑n:Int)))=false),((g==0)=false),(AN n),(AP n (fun i_1=>[.int .i64 (v i_1)])),(AI g),(AI 0),((0:Int)=(↑0:Int))]):=by kernel_rfl
def ooOb (F m:Nat) (C:Nat→T_IntS):Ob:=⟨false,1,m,fun i=>[.ar 1 ⟨F,some i⟩ 0 (C i).1]⟩
def ffOb (m:Nat) (C:Nat→T_IntS):Ob:=⟨true,0,m,fun i=>[.p (.seq false 1 (C i).1 (fun s=>[.int .i64 ((C i).2 s)]))]⟩
def cM (n:Nat) (M:Nat→Nat→Int) (i:Nat):T_IntS:=(n,M i)
def mH (n m:Nat) (M:Nat→Nat→Int) (r:Nat) (p:Nat→Int):Hp:=[(0,ooOb 1 m (cM n M)),(1,ffOb m (cM n M)),(2,iOb r p)]
def R1 (n m:Nat) (M:Nat→Nat→Int) (r:Nat) (p:Nat→Int) (d:Int) (c i:Nat):St :=
  ⟨[.p .any,.p (.int .i64 n),.p .any,.p .any,.p .any,.p .any,.p .any,.ar 1 0 0 m,.ar 1 2 0 r,.p (.int .i64 d),.p (.int .i64 c),.p (.int .i64 r),.p (.int .i64 i)]++List.replicate 119 anyA,mH n m M r p,3⟩
def R2 (n m:Nat) (M:Nat→Nat→Int) (r:Nat) (p:Nat→Int) (d:Int) (c:Nat) (x:Int) (i:Nat):St :=
  ⟨[.p .any,.p (.int .i64 n),.p .any,.p .any,.p .any,.p .any,.p .any,.ar 1 0 0 m,.ar 1 2 0 r,.p (.int .i64 d),.p (.int .i64 c),.p (.int .i64 r),.p .any,.p (.int .i64 x)]++List.replicate 63 anyA++[.p (.int .i64 m),.p (.int .i64 i)]++List.replicate 53 anyA,mH n m M r p,3⟩
theorem aft_or (a b:T_Bar):aft a b=true↔a.1<b.1∨(a.1=b.1∧a.2.1≤b.2.1):=by
  unfold aft
  by_cases h1:a.1<b.1
  · simp [h1]
  · by_cases h2:a.1=b.1
    · simp [h2]
    · have:(a.1==b.1)=false:=beq_eq_false_iff_ne.2 h2
      simp [h1,h2]
def AscB (n:Nat) (h:Nat→T_Bar):Prop:=∀ s,s+1<n→aft (h s) (h (s+1))=true
theorem ascB_snoc {n:Nat} {h:Nat→T_Bar} {x:T_Bar} (ha:AscB n h) (hx:0<n→aft (h (n - 1)) x=true):AscB (n+1) (snoc n h x):=by
  intro s hs
  rw [snoc_lt (show s<n by omega)]
  by_cases h1:s+1<n
  · rw [snoc_lt h1];exact ha s h1
  · obtain rfl:n=s+1:=by omega
    rw [snoc_ge (Nat.lt_irrefl _)]
    exact hx (by omega)
theorem isG_of {N nb:Nat} {g:Nat→T_Bar} (hN:1≤N∧N≤8) (hnb:nb≤24) (hok:OkBars N nb g) (ha:AscB nb g):isGraphF ((N:Int),(nb,g),())=true:=by
  have hgood:∀ k,k≤nb→goodB (N:Int) g k=true:=by
    intro k
    induction k with
    | zero=>intro _;rfl
    | succ k ih =>
      intro hk
      rw [goodB,ih (by omega),Bool.true_and,Bool.not_eq_true']
      have hb:=hok k (by omega)
      have a1:decide ((g k).1<0)=false:=decide_eq_false (by omega)
      have a2:decide ((g k).1≥(g k).2.1)=false:=decide_eq_false (by omega)
      have a3:decide ((g k).2.1≥(N:Int))=false:=decide_eq_false (by omega)
      unfold badB
      rw [a1,a2,a3]
      simp only [cond_false]
      by_cases h0:k=0
      · subst h0;rfl
      · have:=ha (k - 1) (by omega)
        rw [show k - 1+1=k by omega] at this
        rw [show ((k:Int) - 1).toNat=k - 1 by omega,this]
        cases decide ((k:Int)>0)<;>rfl
  have hin:inB (N:Int) 1 8=true:=by simp [inB];omega
  rw [isGraphF,if_pos ⟨hin,hnb⟩]
  exact hgood nb (Nat.le_refl _)
def fzL (m:Nat) (f:Nat→Int):AV:=.p (.seq false 1 m (fun s=>[.int .i64 (f s)]))
theorem hasI_ex (f:Nat→Int) (x:Int):∀ n,hasI f x n=true↔∃ i,i<n∧f i=x
  | 0=>by simp [hasI]
  | n+1=>by
    simp only [hasI,Bool.or_eq_true,beq_iff_eq,hasI_ex f x n]
    constructor
    · rintro (⟨i,h1,h2⟩ | h)
      · exact ⟨i,by omega,h2⟩
      · exact ⟨n,by omega,h⟩
    · rintro ⟨i,h1,h2⟩
      by_cases e:i=n
      · right;rw [← e];exact h2
      · left;exact ⟨i,by omega,h2⟩
end Go.Proofs.YtkkjoghiigiokaaGreat.Mach
namespace Go.Proofs
open Go Go.Shelf Go.RowKit Go.Lib Go.Sort
set_option linter.unusedVariables false
set_option linter.unusedSimpArgs false
shelf_lay_g SlLaysM.n5 Slgm 5 at Tryz 276 as Tryz.sortInt
end Go.Proofs
namespace Go.Proofs.YtkkjoghiigiokaaGreat.Mach
open Go Go.Shelf Go.RowKit Go.Lib Go.Sort
set_option linter.unusedVariables false
set_option linter.unusedSimpArgs false
open Go
def nH (n m:Nat) (M:Nat→Nat→Int) (r:Nat) (p:Nat→Int) (R:Nat→Int):Hp:=[(0,ooOb 1 m (cM n M)),(1,ffOb m (cM n M)),(2,iOb r p),(3,iOb n R)]
def N0 (n m:Nat) (M:Nat→Nat→Int) (r:Nat) (p:Nat→Int) (d:Int) (i:Nat) (R:Nat→Int):St :=
  ⟨[.p .any,.p (.int .i64 n),.p .any,.p .any,.p .any,.ar 1 0 0 m,.ar 1 2 0 r,.p (.int .i64 d),.ar 1 3 0 n]++List.replicate 17 anyA++[.p (.int .i64 n),.p (.int .i64 i)]++List.replicate 65 anyA,nH n m M r p R,4⟩
def N1 (n m:Nat) (M:Nat→Nat→Int) (r:Nat) (p:Nat→Int) (d:Int) (i:Nat) (R:Nat→Int):St :=
  ⟨[.p .any,.p (.int .i64 n),.p .any,.p .any,.p .any,.ar 1 0 0 m,.p .any,.p (.int .i64 d),.ar 1 3 0 n]++List.replicate 25 anyA++[.ar 1 2 0 r,.p (.int .i64 r),.p (.int .i64 i)]++List.replicate 56 anyA,nH n m M r p R,4⟩
def nK (n m:Nat) (M:Nat→Nat→Int) (R:Nat→Int) (q:Nat) (W:Nat→Nat→Int):Hp:=[(0,ooOb 1 m (cM n M)),(1,ffOb m (cM n M)),(2,iOb n R),(3,ooOb 4 q (cM n W)),(4,ffOb q (cM n W))]
def N2 (n m:Nat) (M:Nat→Nat→Int) (d:Int) (R:Nat→Int) (c q:Nat) (W:Nat→Nat→Int):St :=
  ⟨[.p .any,.p (.int .i64 n),.p .any,.p .any,.p .any,.ar 1 0 0 m,.p .any,.p (.int .i64 d),.ar 1 2 0 n,.p .any,.p .any,.p .any,.ar 1 3 0 q]++List.replicate 34 anyA++[.p (.int .i64 n),.p (.int .i64 c)]++List.replicate 44 anyA,nK n m M R q W,5⟩
def N3 (n m:Nat) (M:Nat→Nat→Int) (d:Int) (R:Nat→Int) (c q:Nat) (W:Nat→Nat→Int) (k:Nat) (v:Nat→Int):St :=
  ⟨[.p .any,.p (.int .i64 n),.p .any,.p .any,.p .any,.ar 1 0 0 m,.p .any,.p (.int .i64 d),.ar 1 2 0 n,.p .any,.p .any,.p .any,.ar 1 3 0 q,.p (.int .i64 c),.ar 1 5 0 n]++List.replicate 32 anyA++[.p (.int .i64 n),.p (.int .i64 c)]++List.replicate 13 anyA++[.p (.int .i64 n),.p (.int .i64 k)]++List.replicate 29 anyA,nK n m M R q W++[(5,iOb n v)],6⟩
def sK (n m:Nat) (M:Nat→Nat→Int) (r:Nat) (p:Nat→Int) (q:Nat) (W:Nat→Nat→Int):Hp:=[(0,ooOb 1 m (cM n M)),(1,ffOb m (cM n M)),(2,iOb r p),(3,ooOb 4 q (cM n W)),(4,ffOb q (cM n W))]
def L0 (n m:Nat) (M:Nat→Nat→Int) (r:Nat) (p:Nat→Int) (c q:Nat) (W:Nat→Nat→Int):St :=
  ⟨[.p .any,.p (.int .i64 n),.p .any,.p .any,.p .any,.ar 1 3 0 q,.ar 1 0 0 m,.ar 1 2 0 r,.p (.int .i64 c)]++List.replicate 111 anyA,sK n m M r p q W,5⟩
def L2 (n m:Nat) (M:Nat→Nat→Int) (r:Nat) (p:Nat→Int) (c q:Nat) (W:Nat→Nat→Int) (d:Int) (v:Nat→Int) (i:Nat):St :=
  ⟨[.p .any,.p (.int .i64 n),.p .any,.p .any,.p .any,.ar 1 3 0 q,.ar 1 0 0 m,.ar 1 2 0 r,.p (.int .i64 c),.p (.int .i64 d),.p .any,.p .any,.p .any,.ar 1 5 0 n,.p (.int .i64 i)]++List.replicate 105 anyA,sK n m M r p q W++[(5,iOb n v)],6⟩
theorem na (n m:Nat) (M:Nat→Nat→Int) (r:Nat) (p:Nat→Int) (d:Int) (i:Nat) (R R':Nat→Int) :
    zM 0 [rg 1,.dec true,rg 2,rg 4,rg 2,.head] zf65 (N0 n m M r p d i R) [0,1,2,3] 1 (N0 n m M r p d (i+1) R') =
    some (zf65,[((decide ((↑i:Int)<(↑n:Int)))=true),(IL 0 (↑i:Int)),(IT (↑i:Int) (↑n:Int)),(NT i n),((false=true)→ ((n:Nat)=1)),(ZLo ((↑i:Int)+1)),(ZHi ((↑i:Int)+1)),(AI ((↑n:Int))),(AN 0),(AN m),(AN 0),(AN r),(AI d),(AN 0),(AN n),(AI ((↑n:Int))),((((↑i:Int)+1):Int)=(↑(i+1):Int)),(AN 1),(NL m m),(AA m (fun i_1=>[.ar 1 ⟨1,some i_1⟩ 0 n])),(NL m m),(∀ i_1:Nat,(((i_1:Nat)<m)→All [(AN 1),((n:Nat)≤n),(AP n (fun r_1=>[.int .i64 ((cM n M i_1).2 r_1)]))])),(AN 1),(NL r r),(AA r (fun i_1=>[.p (.int .i64 (p i_1))])),(AN 1),(NL n n),(CV [(3,⟨false,1,n,(fun i_2=>(if (i_2=i) then [.p (.int .i64 (-1))] else [.p (.int .i64 (R i_2))]))⟩),(0,⟨false,1,m,(fun i_2=>[.ar 1 ⟨1,some i_2⟩ 0 n])⟩),(1,⟨true,0,m,(fun i_2=>[.p (.seq false 1 n (fun i_3=>[.int .i64 ((cM n M i_2).2 i_3)]))])⟩),(2,⟨false,1,r,(fun i_2=>[.p (.int .i64 (p i_2))])⟩)] [0,1,2,3] 1 n (fun i_1=>if (i_1=i) then [.p (.int .i64 (-1))] else [.p (.int .i64 (R i_1))]) (fun i_1=>[.p (.int .i64 (R' i_1))]))]):=by kernel_rfl
theorem nb (n m:Nat) (M:Nat→Nat→Int) (r:Nat) (p:Nat→Int) (d:Int) (i:Nat) (R R':Nat→Int) :
    zM 0 [rg 1,.dec false,rg 3,.head] zf65 (N0 n m M r p d i R) [0,1,2,3] 1 (N1 n m M r p d 0 R') =
    some ([.code (cAt (bodyOf Tryz.f318) [1,1,1,1,0,1,0,0]),.inLoop (cAt (bodyOf Tryz.f318) [1,1,1,1,0,1,0,0]),.inBlock 2,.code (cAt (bodyOf Tryz.f318) [1,1,1,1,1])],[((decide ((↑i:Int)<(↑n:Int)))=false),(AI ((↑n:Int))),(AN 0),(AN m),(AI d),(AN 0),(AN n),(AN 0),(AN r),(AI ((↑r:Int))),((0:Int)=(↑0:Int)),(AN 1),(NL m m),(AA m (fun i_1=>[.ar 1 ⟨1,some i_1⟩ 0 n])),(NL m m),(∀ i_1:Nat,(((i_1:Nat)<m)→All [(AN 1),((n:Nat)≤n),(AP n (fun r_1=>[.int .i64 ((cM n M i_1).2 r_1)]))])),(AN 1),(NL r r),(AA r (fun i_1=>[.p (.int .i64 (p i_1))])),(AN 1),(NL n n),(∀ i_1:Nat,(((i_1:Nat)<n)→(All []∧(([.p (.int .i64 (R i_1))]:List AV)=[.p (.int .i64 (R' i_1))]))))]):=by kernel_rfl
theorem ne (n m:Nat) (M:Nat→Nat→Int) (d:Int) (R:Nat→Int) (c q:Nat) (W:Nat→Nat→Int) :
    zM 0 [rg 1,.dec true,rg 2,rg 5,.dec true,rg 2,.head] zf33 (N2 n m M d R c q W) [0,1,2,3,4] 1 (N2 n m M d R (c+1) q W) =
    some (zf33,[((decide ((↑c:Int)<(↑n:Int)))=true),(IL 0 (↑c:Int)),(IT (↑c:Int) (↑n:Int)),(NT c n),((decide (R ((↑c:Int).toNat+0)≥0))=true),(ZLo ((↑c:Int)+1)),(ZHi ((↑c:Int)+1)),(AI ((↑n:Int))),(AN 0),(AN m),(AI d),(AN 0),(AN n),(AN 0),(AN q),(AI ((↑n:Int))),((((↑c:Int)+1):Int)=(↑(c+1):Int)),(AN 1),(NL m m),(AA m (fun i=>[.ar 1 ⟨1,some i⟩ 0 n])),(NL m m),(∀ i:Nat,(((i:Nat)<m)→All [(AN 1),((n:Nat)≤n),(AP n (fun r=>[.int .i64 ((cM n M i).2 r)]))])),(AN 1),(NL n n),(AA n (fun i=>[.p (.int .i64 (R i))])),(AN 1),(NL q q),(AA q (fun i=>[.ar 1 ⟨4,some i⟩ 0 n])),(NL q q),(∀ i:Nat,(((i:Nat)<q)→All [(AN 1),((n:Nat)≤n),(AP n (fun r=>[.int .i64 ((cM n W i).2 r)]))]))]):=by kernel_rfl
theorem ng (n m:Nat) (M:Nat→Nat→Int) (d:Int) (R:Nat→Int) (c q:Nat) (W:Nat→Nat→Int) (k:Nat) (v v':Nat→Int) :
    zM 0 [rg 1,.dec true,rg 2,rg 5,.dec true,rg 15,rg 2,.head] zf9 (N3 n m M d R c q W k v) [0,1,2,3,4,5] 1 (N3 n m M d R c q W (k+1) v') =
    some (zf9,[((decide ((↑k:Int)<(↑n:Int)))=true),(IL 0 (↑k:Int)),(IT (↑k:Int) (↑n:Int)),(NT k n),((decide (R ((↑k:Int).toNat+0)≥0))=true),(IL 0 (↑k:Int)),(IT (↑k:Int) (↑n:Int)),(NT k n),(IL 0 (R k)),(IT (R k) (↑m:Int)),(NT ((R k).toNat) m),(IL 0 (↑c:Int)),(IT (↑c:Int) (↑n:Int)),(NT ((R k).toNat) m),(NT c n),(ZLo (0 - (cM n M (R k).toNat).2 c)),(ZHi (0 - (cM n M (R k).toNat).2 c)),(IL 0 (↑k:Int)),(IT (↑k:Int) (↑n:Int)),(NT k n),((false=true)→ ((n:Nat)=1)),(ZLo ((↑k:Int)+1)),(ZHi ((↑k:Int)+1)),(AI ((↑n:Int))),(AN 0),(AN m),(AI d),(AN 0),(AN n),(AN 0),(AN q),(AI ((↑c:Int))),(AN 0),(AN n),(AI ((↑n:Int))),(AI ((↑c:Int))),(AI ((↑n:Int))),((((↑k:Int)+1):Int)=(↑(k+1):Int)),(AN 1),(NL m m),(AA m (fun i=>[.ar 1 ⟨1,some i⟩ 0 n])),(NL m m),(∀ i:Nat,(((i:Nat)<m)→All [(AN 1),((n:Nat)≤n),(AP n (fun r=>[.int .i64 ((cM n M i).2 r)]))])),(AN 1),(NL n n),(AA n (fun i=>[.p (.int .i64 (R i))])),(AN 1),(NL q q),(AA q (fun i=>[.ar 1 ⟨4,some i⟩ 0 n])),(NL q q),(∀ i:Nat,(((i:Nat)<q)→All [(AN 1),((n:Nat)≤n),(AP n (fun r=>[.int .i64 ((cM n W i).2 r)]))])),(AN 1),(NL n n),(CV [(5,⟨false,1,n,(fun i_1=>(if (i_1=k) then [.p (.int .i64 (0 - (cM n M (R k).toNat).2 c))] else [.p (.int .i64 (v i_1))]))⟩),(0,⟨false,1,m,(fun i_1=>[.ar 1 ⟨1,some i_1⟩ 0 n])⟩),(1,⟨true,0,m,(fun i_1=>[.p (.seq false 1 n (fun i_2=>[.int .i64 ((cM n M i_1).2 i_2)]))])⟩),(2,⟨false,1,n,(fun i_1=>[.p (.int .i64 (R i_1))])⟩),(3,⟨false,1,q,(fun i_1=>[.ar 1 ⟨4,some i_1⟩ 0 n])⟩),(4,⟨true,0,q,(fun i_1=>[.p (.seq false 1 n (fun i_2=>[.int .i64 ((cM n W i_1).2 i_2)]))])⟩)] [0,1,2,3,4,5] 1 n (fun i=>if (i=k) then [.p (.int .i64 (0 - (cM n M (R k).toNat).2 c))] else [.p (.int .i64 (v i))]) (fun i=>[.p (.int .i64 (v' i))]))]):=by kernel_rfl
theorem la (n m:Nat) (M:Nat→Nat→Int) (r:Nat) (p:Nat→Int) (c q:Nat) (W:Nat→Nat→Int) :
    zM 0 [rg 3,.dec true,rm [(2,oc [] (.p (.bool true)))] 0,.dec true,rg 3,.head] zf66 (L0 n m M r p c q W) [0,1,2,3,4] 1 (L0 n m M r p (c+1) q W) =
    some (zf66,[((decide ((↑c:Int)<(↑n:Int)))=true),(AN 1),(NL r r),zE 172 [.p (.seq true 1 r (fun i=>[.int .i64 (p i)])),.p (.int .i64 (↑c:Int))] [] (.p (.bool true)),(true=true),(ZLo ((↑c:Int)+1)),(ZHi ((↑c:Int)+1)),(AI ((↑n:Int))),(AN 0),(AN q),(AN 0),(AN m),(AN 0),(AN r),((((↑c:Int)+1):Int)=(↑(c+1):Int)),(AN 1),(NL m m),(AA m (fun i=>[.ar 1 ⟨1,some i⟩ 0 n])),(NL m m),(∀ i:Nat,(((i:Nat)<m)→All [(AN 1),((n:Nat)≤n),(AP n (fun r_1=>[.int .i64 ((cM n M i).2 r_1)]))])),(AN 1),(NL r r),(AA r (fun i=>[.p (.int .i64 (p i))])),(AN 1),(NL q q),(AA q (fun i=>[.ar 1 ⟨4,some i⟩ 0 n])),(NL q q),(∀ i:Nat,(((i:Nat)<q)→All [(AN 1),((n:Nat)≤n),(AP n (fun r_1=>[.int .i64 ((cM n W i).2 r_1)]))]))]):=by kernel_rfl
theorem le (n m:Nat) (M:Nat→Nat→Int) (r:Nat) (p:Nat→Int) (c q:Nat) (W:Nat→Nat→Int) (d:Int) (v v':Nat→Int) (i:Nat) :
    zM 0 [rg 4,.dec true,rm [(24,oF)] 3,rg 3,.head] zf12 (L2 n m M r p c q W d v i) [0,1,2,3,4,5] 1 (L2 n m M r p c q W d v' (i+1)) =
    some (zf12,[((decide ((↑i:Int)<(↑r:Int)))=true),(IL 0 (↑i:Int)),(IT (↑i:Int) (↑r:Int)),(NT i r),(IL 0 (↑i:Int)),(IT (↑i:Int) (↑m:Int)),(NT i m),(IL 0 (↑c:Int)),(IT (↑c:Int) (↑n:Int)),(NT i m),(NT c n),(ZLo ((cM n M i).2 c*d)),(ZHi ((cM n M i).2 c*d)),(IL 0 (↑i:Int)),(IT (↑i:Int) (↑m:Int)),(NT i m),(IL 0 (↑i:Int)),(IT (↑i:Int) (↑r:Int)),(NT i r),(IL 0 (p i)),(IT (p i) (↑n:Int)),(NT i m),(NT ((p i).toNat) n),((((cM n M i).2 (p i).toNat):Int)≠0),(ZLo (0 - IntKind.i64.wrap (((cM n M i).2 c*d).tdiv ((cM n M i).2 (p i).toNat)))),(ZHi (0 - IntKind.i64.wrap (((cM n M i).2 c*d).tdiv ((cM n M i).2 (p i).toNat)))),(IL 0 (p i)),(IT (p i) (↑n:Int)),(NT ((p i).toNat) n),((false=true)→ ((n:Nat)=1)),(ZLo ((↑i:Int)+1)),(ZHi ((↑i:Int)+1)),(AI ((↑n:Int))),(AN 0),(AN q),(AN 0),(AN m),(AN 0),(AN r),(AI ((↑c:Int))),(AI d),(AN 0),(AN n),((((↑i:Int)+1):Int)=(↑(i+1):Int)),(AN 1),(NL m m),(AA m (fun i_1=>[.ar 1 ⟨1,some i_1⟩ 0 n])),(NL m m),(∀ i_1:Nat,(((i_1:Nat)<m)→All [(AN 1),((n:Nat)≤n),(AP n (fun r_1=>[.int .i64 ((cM n M i_1).2 r_1)]))])),(AN 1),(NL r r),(AA r (fun i_1=>[.p (.int .i64 (p i_1))])),(AN 1),(NL q q),(AA q (fun i_1=>[.ar 1 ⟨4,some i_1⟩ 0 n])),(NL q q),(∀ i_1:Nat,(((i_1:Nat)<q)→All [(AN 1),((n:Nat)≤n),(AP n (fun r_1=>[.int .i64 ((cM n W i_1).2 r_1)]))])),(AN 1),(NL n n),(CV [(5,⟨false,1,n,(fun i_2=>(if (i_2=(p i).toNat) then [.p (.int .i64 (0 - IntKind.i64.wrap (((cM n M i).2 c*d).tdiv ((cM n M i).2 (p i).toNat))))] else [.p (.int .i64 (v i_2))]))⟩),(0,⟨false,1,m,(fun i_2=>[.ar 1 ⟨1,some i_2⟩ 0 n])⟩),(1,⟨true,0,m,(fun i_2=>[.p (.seq false 1 n (fun i_3=>[.int .i64 ((cM n M i_2).2 i_3)]))])⟩),(2,⟨false,1,r,(fun i_2=>[.p (.int .i64 (p i_2))])⟩),(3,⟨false,1,q,(fun i_2=>[.ar 1 ⟨4,some i_2⟩ 0 n])⟩),(4,⟨true,0,q,(fun i_2=>[.p (.seq false 1 n (fun i_3=>[.int .i64 ((cM n W i_2).2 i_3)]))])⟩)] [0,1,2,3,4,5] 1 n (fun i_1=>if (i_1=(p i).toNat) then [.p (.int .i64 (0 - IntKind.i64.wrap (((cM n M i).2 c*d).tdiv ((cM n M i).2 (p i).toNat))))] else [.p (.int .i64 (v i_1))]) (fun i_1=>[.p (.int .i64 (v' i_1))]))]):=by kernel_rfl
theorem lf (n m:Nat) (M:Nat→Nat→Int) (r:Nat) (p:Nat→Int) (c q:Nat) (W W':Nat→Nat→Int) (d:Int) (v w:Nat→Int) (i:Nat) :
    zM 0 [rg 4,.dec false,rm [(2,oc [(0,iOb n w)] (.ar 1 0 0 n))] 3,rg 3,.head] zf12 (L2 n m M r p c q W d v i) [0,1,2,262,.ins 4 q 198] 1 (L0 n m M r p (c+1) (q+1) W') =
    some (zf66,[((decide ((↑i:Int)<(↑r:Int)))=false),(AN 1),(NL n n),zE 353 [.p (.seq true 1 n (fun i_1=>[.int .i64 (v i_1)]))] [(0,⟨false,1,n,(fun i_1=>[.p (.int .i64 (w i_1))])⟩)] (.ar 1 0 0 n),(NL 1 1),(NL q q),(NL ((q+1)*24) 140737488355328),(NL (q+1) 9223372036854775807),(ZLo ((↑c:Int)+1)),(ZHi ((↑c:Int)+1)),(AI ((↑n:Int))),(AN 0),(AN ((q+1))),(AN 0),(AN m),(AN 0),(AN r),((((↑c:Int)+1):Int)=(↑(c+1):Int)),(AN 1),(NL m m),(AA m (fun i_1=>[.ar 1 ⟨1,some i_1⟩ 0 n])),(NL m m),(∀ i_1:Nat,(((i_1:Nat)<m)→All [(AN 1),((n:Nat)≤n),(AP n (fun r_1=>[.int .i64 ((cM n M i_1).2 r_1)]))])),(AN 1),(NL r r),(AA r (fun i_1=>[.p (.int .i64 (p i_1))])),(AN 1),(NL (q+1) (q+1)),(CV [(262,⟨false,1,(q+1),(fun i_2=>(if (i_2<q) then [.ar 1 ⟨4,some i_2⟩ 0 n] else [.ar 1 198 0 n]))⟩),(230,⟨false,1,1,(fun i_2=>[.ar 1 198 0 n])⟩),(198,⟨false,1,n,(fun i_2=>[.p (.int .i64 (w i_2))])⟩),(0,⟨false,1,m,(fun i_2=>[.ar 1 ⟨1,some i_2⟩ 0 n])⟩),(1,⟨true,0,m,(fun i_2=>[.p (.seq false 1 n (fun i_3=>[.int .i64 ((cM n M i_2).2 i_3)]))])⟩),(2,⟨false,1,r,(fun i_2=>[.p (.int .i64 (p i_2))])⟩),(4,⟨true,0,q,(fun i_2=>[.p (.seq false 1 n (fun i_3=>[.int .i64 ((cM n W i_2).2 i_3)]))])⟩),(5,⟨false,1,n,(fun i_2=>[.p (.int .i64 (v i_2))])⟩)] [0,1,2,262,.ins 4 q 198] 1 (q+1) (fun i_1=>if (i_1<q) then [.ar 1 ⟨4,some i_1⟩ 0 n] else [.ar 1 198 0 n]) (fun i_1=>[.ar 1 ⟨4,some i_1⟩ 0 n])),(∀ i_1:Nat,(((i_1:Nat)<(q+1))→(((i_1:Nat)≠q)→(((i_1:Nat)<q)∧All [(AN 1),((n:Nat)≤n),(∀ r_1:Nat,(((r_1:Nat)<n)→(([.int .i64 ((cM n W i_1).2 r_1)]:List PV)=[.int .i64 ((cM n W' i_1).2 r_1)])))])))),(((q:Nat)<(q+1))→ All [(AN 1),((n:Nat)≤n),(∀ r_1:Nat,(((r_1:Nat)<n)→(([.int .i64 (w r_1)]:List PV)=[.int .i64 ((cM n W' q).2 r_1)])))])]):=by kernel_rfl
end Go.Proofs.YtkkjoghiigiokaaGreat.Mach
namespace Go.Proofs.YtkkjoghiigiokaaGreat.Trv
def One (n:Nat) (x y u w:Nat→Int) (num den:Int):Prop:=∀ i,i<n→u i*den = -num*y i∧w i*den=num*x i
structure All2 (n:Nat) (x y u w:Nat→Int):Prop where
  ch:∀ a b,a<n→b<a→(x a - x b)*(u a - u b)+(y a - y b)*(w a - w b)=0
  same:∀ a b,a<n→b<a→x a=x b→y a=y b→u a=u b∧w a=w b
  flat:∀ a b,a<n→b<a→1≤b→x a*y b=y a*x b→x b*u a+y b*w a=x a*u b+y a*w b∧x b*w a - y b*u a=x a*w b - y a*u b
end Go.Proofs.YtkkjoghiigiokaaGreat.Trv
namespace Go.Proofs.YtkkjoghiigiokaaGreat.Mach
open Go
set_option linter.unusedVariables false
set_option linter.unusedSimpArgs false
def smq (v:T_IntS) (i:Nat):Bool:=inB (v.2 i) (-10000000000) 10000000000
def smB (v:T_IntS) (n:Int):Bool:=bif allB (smq v) v.1 then (v.1:Int)==n else false
def velB (g:Nat→T_Bar) (nb:Nat) (N:Int) (pl:Nat→T_Place) (np:Nat) (v:T_IntS):Bool:=bif fwB g nb N pl np then smB v (2*N) else false
structure VOk (g:Nat→T_Bar) (nb N:Nat) (pl:Nat→T_Place) (np:Nat) (v:T_IntS):Prop where
  hf:fwB g nb N pl np=true
  hl:v.1=2*N
  hN:1≤N∧N≤6
  hnp:np=N
  hnb:nb≤15
  sm:∀ j,j<2*N→-10000000000≤v.2 j∧v.2 j≤10000000000
  px:∀ i,i<N→(0≤(pl i).1∧(pl i).1≤4)∧(0≤(pl i).2.1∧(pl i).2.1≤4)
  vel:velB g nb N pl np v=true
  gr:isGraphF ((N:Int),(nb,g),())=true
def rsO (r:Nat) (R:Nat→T_IntS):Ob:=⟨false,1,r,fun i=>[.p (.seq false 1 (R i).1 (fun s=>[.int .i64 ((R i).2 s)]))]⟩
def rsL (r:Nat) (R:Nat→T_IntS):AV:=.p (.seq false 1 r (fun i=>[.seq false 1 (R i).1 (fun s=>[.int .i64 ((R i).2 s)])]))
def snR5 (r:Nat) (R:Nat→T_IntS) (x:T_IntS) (s:Nat):T_IntS:=if s<r then R s else x
def snI5 (c:Nat) (f:Nat→Int) (x:Int) (s:Nat):Int:=if s<c then f s else x
def z0:Nat→Int:=fun _=>0
def lsF (n:Nat) (ss:List ByteArray) (i:Nat):ByteArray:=ss.getD (rowIx n i) sE
def stA (s:ByteArray):AV:=.p (.str s)
theorem cell_ls:∀ (ss:List ByteArray) (n i:Nat),rowIx n i<ss.length→cellP true [(List.getD (ss.map stA) (rowIx n i*1) (.p .any))] 0=.str (lsF n ss i):=by
  intro ss n i h
  unfold lsF
  rw [Nat.mul_one]
  generalize rowIx n i=k at h ⊢
  rw [List.getD_eq_getElem?_getD,List.getD_eq_getElem?_getD,List.getElem?_map]
  rw [List.getElem?_eq_getElem h]
  rfl
def lsP (n:Nat) (ss:List ByteArray):AV:=.p (.seq true 1 n (fun i=>[cellP true [(List.getD (ss.map stA) (rowIx n i*1) (.p .any))] 0]))
theorem ls_mem (n:Nat) (ss:List ByteArray) (h:ss.length=n) (B:Nat) (hs:∀ s∈ss,s.size≤B):∀ i,i<n→(lsF n ss i).size≤B:=by
  intro i hi
  unfold lsF
  rw [rowIx_lt hi]
  have:ss.getD i sE=ss[i]:=by rw [List.getD_eq_getElem?_getD,List.getElem?_eq_getElem (by omega)];rfl
  rw [this]
  exact hs _ (List.getElem_mem _)
theorem con_ifSo_ls (s:ByteArray) (is:Bool) (n:Nat) (ss:List ByteArray) (h:ss.length=n) (h3:n≤1000) (B:Nat) (hB:B≤1099511627776) (hz:s.size≤B) (hs:∀ s∈ss,s.size≤B) :
    zE 114 [.p (.str s),.p (.bool is),lsP n ss] [] (.p (.str (soB s is n (lsF n ss)))):=by
  have hc:=con_ifSo s is n (lsF n ss) B (by omega) hB hz (ls_mem n ss h B hs)
  refine hc.arg_ext ?_
  simp only [lsP,strL,wkL,wk,wkP,beq_self_eq_true,Bool.and_self,if_true,ikEq,List.append_nil,List.cons_append,List.nil_append,All]
  have hcell:∀ i,i<n→cellP true [(List.getD (ss.map stA) (rowIx n i*1) (.p .any))] 0=.str (lsF n ss i):=fun i hi=>cell_ls ss n i (by rw [rowIx_lt hi];omega)
  and_intros<;>first | trivial | omega | (intro i hi;rw [hcell i hi])
theorem soB_f (s:ByteArray) (n:Nat) (f:Nat→ByteArray):soB s false n f=s:=rfl
theorem soB_2 (s:ByteArray) (f:Nat→ByteArray):soB s true 2 f=(((s++sSp)++f 0)++sSp)++f 1:=by
  show (if 0<2 then ((if 0<1 then (sE++s)++sSp else _)++f 0)++sSp else _)++f 1=_
  rw [if_pos (by omega),if_pos (by omega),sE_app]
theorem con_ifSo_2 (s:ByteArray) (b:Bool) (w x:ByteArray) (hs:s.size≤1000000) (hw:w.size≤1000) (hx:x.size≤1000000) :
    zE 114 [.p (.str s),.p (.bool b),lsP 2 [w,x]] [] (.p (.str (if b=true then s++(((sSp++w)++sSp)++x) else s))):=by
  have h:=con_ifSo_ls s b 2 [w,x] rfl (by omega) 1000000 (by omega) hs (by
    intro y hy;simp only [List.mem_cons,List.not_mem_nil,or_false] at hy
    rcases hy with rfl | rfl<;>omega)
  cases b with
  | false=>rw [soB_f] at h;exact h
  | true =>
    rw [soB_2] at h
    rw [if_pos rfl]
    have e:(((s++sSp)++lsF 2 [w,x] 0)++sSp)++lsF 2 [w,x] 1=s++(((sSp++w)++sSp)++x):=by
      show (((s++sSp)++w)++sSp)++x=_
      simp only [ByteArray.append_assoc]
    rw [← e];exact h
def xE:ByteArray:=⟨#[]⟩
open Go Go.Sort
theorem bCi (v:T_Graph) :
    zS Tryz.f63 [rg 2,rg 8] [graphA v] [224] [(0,brOb v.2.1.1 v.2.1.2)] (.agg [.p (.int .i64 v.1),.ar 2 0 0 v.2.1.1]) =
    some [(NT 0 1),(NT 0 1),(NL 0 0),(NL ((0+v.2.1.1)*16) 140737488355328),(NL (0+v.2.1.1) 9223372036854775807),(NT 0 1),((true=true)→ (AN 1)),(NT 0 1),(AI v.1),(AN 0),(((0+v.2.1.1):Nat)=v.2.1.1),(AN 2),(NL v.2.1.1 (0+v.2.1.1)),(AA v.2.1.1 (fun i=>[.p (.int .i64 ((v.2.1.2 i).1)),.p (.int .i64 ((v.2.1.2 i).2.1))])),(AE v.2.1.1)]:=by kernel_rfl
theorem con_copyGraph (v:T_Graph) (hn:v.2.1.1≤1048576):zE 63 [graphA v] [(0,brOb v.2.1.1 v.2.1.2)] (.agg [.p (.int .i64 v.1),.ar 2 0 0 v.2.1.1]):=by
  refine csZ Tryz.func63 (fun c hc=>?_)
  refine pkZ Tryz.func63 hc (bCi v) ?_
  and_intros
  all_goals (first | exact zI | (intro j hj;simp [All];done) | (simp;try omega))
theorem rCp (p:T_Pinned) :
    zS Tryz.f397 [rg 2,rm [(2,oc [(0,brOb p.1.2.1.1 p.1.2.1.2)] (.agg [.p (.int .i64 p.1.1),.ar 2 0 0 p.1.2.1.1])),(2,oc [(0,iOb p.2.1.1 p.2.1.2)] (.ar 1 0 0 p.2.1.1))] 2] [pinA p] [128,224] [(0,brOb p.1.2.1.1 p.1.2.1.2),(1,iOb p.2.1.1 p.2.1.2)] ((zf117 p)) =
    some [(NT 0 1),zE 63 [(zf103 p)] (zf108 p) (.agg [.p (.int .i64 p.1.1),.ar 2 0 0 p.1.2.1.1]),(NT 0 1),zE 165 [.p (.seq true 1 p.2.1.1 (fun i=>[.int .i64 (p.2.1.2 i)]))] [(0,⟨false,1,p.2.1.1,(fun i=>[.p (.int .i64 (p.2.1.2 i))])⟩)] (.ar 1 0 0 p.2.1.1),(NT 0 1),((true=true)→ (AN 1)),(NT 0 1),(AI p.1.1),(AN 0),(AN p.1.2.1.1),(AN 0),(AN p.2.1.1),(AN 2),(NL p.1.2.1.1 p.1.2.1.1),(AA p.1.2.1.1 (fun i=>[.p (.int .i64 ((p.1.2.1.2 i).1)),.p (.int .i64 ((p.1.2.1.2 i).2.1))])),(AN 1),(NL p.2.1.1 p.2.1.1),(AA p.2.1.1 (fun i=>[.p (.int .i64 (p.2.1.2 i))])),(AE p.1.2.1.1),(AE p.2.1.1)]:=by kernel_rfl
theorem con_copyPinned (p:T_Pinned) (hs:smS s_Pinned p):zE 397 [pinA p] [(0,brOb p.1.2.1.1 p.1.2.1.2),(1,iOb p.2.1.1 p.2.1.2)] ((zf117 p)):=by
  have h1:p.1.2.1.1≤1048576:=hs.1.2.1.1
  have h2:p.2.1.1≤1048576:=hs.2.1.1
  have c1:=con_copyGraph p.1 h1
  have c2:=con_copyInts p.2.1.1 p.2.1.2 h2
  refine csZ Tryz.func397 (fun c hc=>?_)
  refine pkZ Tryz.func397 hc (rCp p) ?_
  and_intros
  all_goals (first | exact zI | (exact c1) | (exact c2) | (intro j hj;simp [All];done) | (simp;try omega))
theorem sm_pin {p:T_Pinned} (h1:p.1.2.1.1≤1048576) (h2:p.2.1.1≤1048576):smS s_Pinned p :=
  ⟨⟨trivial,⟨h1,fun i hi=>by simp [smS,smL]⟩,trivial⟩,⟨h2,fun i hi=>by simp [smS]⟩,trivial⟩
theorem goodP_at {N:Int} {g:Nat→Int}:∀ {n:Nat},goodP N g n=true→∀ k,k<n→0≤g k∧g k<N∧(0<k→g (k - 1)<g k)
  | 0,_,k,hk=>absurd hk (Nat.not_lt_zero _)
  | n+1,h,k,hk=>by
    simp only [goodP,Bool.and_eq_true,Bool.not_eq_true'] at h
    by_cases e:k=n
    · subst e
      have h2:=h.2
      unfold badP at h2
      by_cases c1:g k<0
      · simp [c1] at h2
      by_cases c2:g k≥N
      · simp [c1,c2] at h2
      refine ⟨by omega,by omega,fun h0=>?_⟩
      simp only [c1,c2,decide_false,cond_false] at h2
      rw [decide_eq_true (show (k:Int)>0 by omega)] at h2
      simp only [cond_true,decide_eq_false_iff_not] at h2
      rw [show ((k:Int) - 1).toNat=k - 1 by omega] at h2
      omega
    · exact goodP_at h.1 k (by omega)
theorem goodP_asc {N:Int} {g:Nat→Int} {n:Nat} (h:goodP N g n=true):∀ j i,i<j→j<n→g i<g j:=by
  intro j
  induction j with
  | zero=>intro i hi;omega
  | succ j ih =>
    intro i hi hj
    have h1:=(goodP_at h (j+1) hj).2.2 (by omega)
    rw [show j+1 - 1=j by omega] at h1
    by_cases e:i=j
    · rw [e];exact h1
    · have:=ih i (by omega) (by omega);omega
theorem goodP_ge {N:Int} {g:Nat→Int} {n:Nat} (h:goodP N g n=true):∀ k,k<n→(k:Int)≤g k:=by
  intro k
  induction k with
  | zero=>intro hk;exact (goodP_at h 0 hk).1
  | succ k ih =>
    intro hk
    have h1:=ih (by omega)
    have h2:=goodP_asc h (k+1) k (by omega) hk
    omega
theorem pinned_in {p:T_Pinned} (h:pinnedF p=true):isGraphF p.1=true∧2≤p.2.1.1∧p.2.1.1≤8∧p.1.2.1.1≤15∧p.1.2.1.1+2*p.2.1.1≤27:=by
  simp only [pinnedF,Bool.and_eq_true] at h
  obtain ⟨h1,h2,h3⟩:=h
  unfold tailP at h3
  cases hs:simpleF p.1 with
  | false=>rw [hs] at h3;simp at h3
  | true =>
    rw [hs] at h3
    simp only [simpleF,Bool.and_eq_true] at hs
    have hg:=graph_inR hs.2
    by_cases c1:(p.2.1.1:Int)≥2
    · by_cases c2:(p.1.2.1.1:Int)≤15
      · by_cases c3:(p.1.2.1.1:Int)+2*(p.2.1.1:Int) - 3≤24
        · refine ⟨hs.2,by omega,?_,by omega,by omega⟩
          have:=goodP_ge h1 (p.2.1.1 - 1) (by omega)
          have:=goodP_at h1 (p.2.1.1 - 1) (by omega)
          omega
        · simp [c1,c2,c3] at h3
      · simp [c1,c2] at h3
    · simp [c1] at h3
end Go.Proofs.YtkkjoghiigiokaaGreat.Mach
namespace Go.Proofs.YtkkjoghiigiokaaGreat.Mat
set_option linter.unusedVariables false
set_option linter.unusedSimpArgs false
noncomputable def rk (N:Nat) (L:List (Nat×Nat)):Nat:=(greedy N 2 3 [] L).length
def Imp (N:Nat) (I:List (Nat×Nat)) (a b:Nat):Prop:=∃ R,Tight N I R∧R a=true∧R b=true
theorem cnt_tri (A B C:Nat→Bool):∀ l,cnt A l+cnt B l+cnt C l≤cnt (uni (uni A B) C) l+cnt (cap2 A B) l+cnt (cap2 A C) l+cnt (cap2 B C) l
  | []=>by simp [cnt]
  | x::l=>by
    have:=cnt_tri A B C l
    simp only [cnt,inn,uni,cap2] at *
    cases A x.1<;>cases B x.1<;>cases C x.1<;>cases A x.2<;>cases B x.2<;>cases C x.2<;>simp<;>omega
theorem card_tri (A B C:Nat→Bool):∀ n,cardR A n+cardR B n+cardR C n+cardR (cap2 (cap2 A B) C) n=cardR (uni (uni A B) C) n+cardR (cap2 A B) n+cardR (cap2 A C) n+cardR (cap2 B C) n
  | 0=>rfl
  | n+1=>by
    have:=card_tri A B C n
    simp only [cardR,uni,cap2] at *
    cases A n<;>cases B n<;>cases C n<;>simp<;>omega
theorem cnt_zero_of {N:Nat} {I:List (Nat×Nat)} (hI:Sparse N 2 3 I) {R:Nat→Bool} (h:cardR R N≤1):cnt R I=0:=by
  have:=hI R
  by_cases e:0<cnt R I
  · have:=this e;omega
  · omega
theorem tight_union2 {N:Nat} {I:List (Nat×Nat)} (hI:Sparse N 2 3 I) {R S:Nat→Bool} (h1:Tight N I R) (h2:Tight N I S) (h:2≤cardR (cap2 R S) N):Tight N I (uni R S):=by
  have c1:=card_uni R S N
  have c2:=cnt_uni R S I
  have c3:=cnt_mono R (uni R S) (fun v h=>by simp [uni,h]) I
  have c4:=hI (uni R S)
  have c5:=hI (cap2 R S)
  unfold Tight at *
  by_cases e:0<cnt (cap2 R S) I
  · have:=c5 e;have:=c4 (by omega);omega
  · have:=c4 (by omega);omega
theorem card_none (R:Nat→Bool):∀ n,(∀ v,v<n→R v=false)→cardR R n=0
  | 0,_=>rfl
  | n+1,h=>by simp [cardR,card_none R n (fun v hv=>h v (by omega)),h n (by omega)]
theorem card_one_only (R:Nat→Bool) (a:Nat) (ra:R a=true):∀ n,a<n→cardR R n≤1→∀ v,v<n→R v=true→v=a:=by
  intro n ha h v hv hr
  by_cases e:v=a
  · exact e
  · have:=card_two R v a hr ra e n hv ha
    omega
theorem tight_tri {N:Nat} {I:List (Nat×Nat)} (hI:Sparse N 2 3 I) {a b c:Nat} (ha:a<N) (hb:b<N) (hc:c<N) (hab:a≠b) (hac:a≠c) (hbc:b≠c)
    (h1:Imp N I a b) (h2:Imp N I a c) (h3:Imp N I b c):∃ R,Tight N I R∧R a=true∧R b=true∧R c=true:=by
  obtain ⟨A,tA,a1,a2⟩:=h1
  obtain ⟨B,tB,b1,b2⟩:=h2
  obtain ⟨C,tC,c1,c2⟩:=h3
  by_cases k1:2≤cardR (cap2 A B) N
  · exact ⟨_,tight_union2 hI tA tB k1,by simp [uni,a1],by simp [uni,a2],by simp [uni,b2]⟩
  by_cases k2:2≤cardR (cap2 A C) N
  · exact ⟨_,tight_union2 hI tA tC k2,by simp [uni,a1],by simp [uni,a2],by simp [uni,c2]⟩
  by_cases k3:2≤cardR (cap2 B C) N
  · exact ⟨_,tight_union2 hI tB tC k3,by simp [uni,b1],by simp [uni,c1],by simp [uni,b2]⟩
  cases ca:C a with
  | true=>exact ⟨C,tC,ca,c1,c2⟩
  | false =>
    have e1:cardR (cap2 (cap2 A B) C) N=0:=by
      refine card_none _ _ (fun v hv=>?_)
      cases e:cap2 (cap2 A B) C v with
      | false=>rfl
      | true =>
        simp only [cap2,Bool.and_eq_true] at e
        have:=card_one_only (cap2 A B) a (by simp [cap2,a1,b1]) N ha (by omega) v hv (by simp [cap2,e.1.1,e.1.2])
        subst this
        rw [ca] at e
        exact absurd e.2 (by simp)
    have f1:=cnt_tri A B C I
    have f2:=card_tri A B C N
    have g1:=card_one (cap2 A B) a (by simp [cap2,a1,b1]) N ha
    have g2:=card_one (cap2 A C) b (by simp [cap2,a2,c1]) N hb
    have g3:=card_one (cap2 B C) c (by simp [cap2,b2,c2]) N hc
    have z1:=cnt_zero_of hI (R:=cap2 A B) (by omega)
    have z2:=cnt_zero_of hI (R:=cap2 A C) (by omega)
    have z3:=cnt_zero_of hI (R:=cap2 B C) (by omega)
    have c4:=hI (uni (uni A B) C)
    have m1:=cnt_mono A (uni (uni A B) C) (fun v h=>by simp [uni,h]) I
    refine ⟨uni (uni A B) C,?_,by simp [uni,a1],by simp [uni,a2],by simp [uni,b2]⟩
    have d1:=card_two A a b a1 a2 hab N ha hb
    unfold Tight at *
    have:=c4 (by omega)
    omega
theorem ground_tight {N:Nat} {I:List (Nat×Nat)} (hI:Sparse N 2 3 I) (gr:Nat→Nat):∀ m,2≤m→(∀ i,i<m→gr i<N)→(∀ i j,i<j→j<m→gr i≠gr j) →
    (∀ i,1≤i→i<m→Imp N I (gr 0) (gr i))→(∀ i,2≤i→i<m→Imp N I (gr 1) (gr i))→∃ R,Tight N I R∧∀ i,i<m→R (gr i)=true
  | 0,h,_,_,_,_=>absurd h (by omega)
  | 1,h,_,_,_,_=>absurd h (by omega)
  | 2,_,hN,hd,h0,h1=>by
    obtain ⟨R,t,r1,r2⟩:=h0 1 (Nat.le_refl _) (by omega)
    refine ⟨R,t,fun i hi=>?_⟩
    rcases (show i=0∨i=1 by omega) with rfl | rfl
    · exact r1
    · exact r2
  | m+3,_,hN,hd,h0,h1=>by
    obtain ⟨R,t,r⟩:=ground_tight hI gr (m+2) (by omega) (fun i hi=>hN i (by omega)) (fun i j h1 h2=>hd i j h1 (by omega)) (fun i h1 h2=>h0 i h1 (by omega)) (fun i h2 h3=>h1 i h2 (by omega))
    obtain ⟨T,tt,t0,t1,t2⟩:=tight_tri hI (hN 0 (by omega)) (hN 1 (by omega)) (hN (m+2) (by omega)) (hd 0 1 (by omega) (by omega)) (hd 0 (m+2) (by omega) (by omega)) (hd 1 (m+2) (by omega) (by omega))
      (h0 1 (Nat.le_refl _) (by omega)) (h0 (m+2) (by omega) (by omega)) (h1 (m+2) (by omega) (by omega))
    refine ⟨_,tight_union hI t tt (gr 0) (gr 1) (hd 0 1 (by omega) (by omega)) (hN 0 (by omega)) (hN 1 (by omega)) (r 0 (by omega)) (r 1 (by omega)) t0 t1,fun i hi=>?_⟩
    rcases Nat.lt_or_ge i (m+2) with h | h
    · simp [uni,r i h]
    · obtain rfl:i=m+2:=by omega
      simp [uni,t2]
theorem not_sparse_of_tight {N:Nat} {I:List (Nat×Nat)} {R:Nat→Bool} (h:Tight N I R) {x:Nat×Nat} (hx:inn R x=true):¬ Sparse N 2 3 (I++[x]):=by
  intro hs
  have h1:=hs R
  rw [cnt_append] at h1
  have hc:cnt R [x]=1:=by simp [cnt,hx]
  rw [hc] at h1
  have:=h1 (by omega)
  unfold Tight at h
  omega
theorem greedy_skip {N:Nat} {I:List (Nat×Nat)}:∀ xs:List (Nat×Nat),(∀ x∈xs,∃ R,Tight N I R∧inn R x=true)→greedy N 2 3 I xs=I
  | [],_=>rfl
  | x::xs,h=>by
    obtain ⟨R,t,r⟩:=h x (by simp)
    simp only [greedy]
    rw [if_neg (not_sparse_of_tight t r)]
    exact greedy_skip xs (fun y hy=>h y (by simp [hy]))
structure Grd (N m:Nat) (gr:Nat→Nat) (S:List (Nat×Nat)):Prop where
  two:2≤m
  lt:∀ i,i<m→gr i<N
  ne:∀ i j,i<j→j<m→gr i≠gr j
  b0:∀ i,1≤i→i<m→(gr 0,gr i)∈S
  b1:∀ i,2≤i→i<m→(gr 1,gr i)∈S
theorem Grd.tight {N m:Nat} {gr:Nat→Nat} {S L:List (Nat×Nat)} (h:Grd N m gr S) (hL:∀ x∈L,GoodBar N x) (hs:∀ x∈S,x∈L) :
    ∃ R,Tight N (greedy N 2 3 [] L) R∧∀ i,i<m→R (gr i)=true:=by
  have ht:=greedy_tight L [] hL (sparse_nil N 2 3)
  have imp:∀ x∈S,Imp N (greedy N 2 3 [] L) x.1 x.2:=by
    intro x hx
    obtain ⟨R,t,r⟩:=ht x (hs x hx)
    simp only [inn,Bool.and_eq_true] at r
    exact ⟨R,t,r.1,r.2⟩
  exact ground_tight (greedy_sparse N 2 3 L [] (sparse_nil N 2 3)) gr m h.two h.lt h.ne (fun i h1 h2=>imp _ (h.b0 i h1 h2)) (fun i h1 h2=>imp _ (h.b1 i h1 h2))
theorem Grd.same {N m:Nat} {gr:Nat→Nat} {S L M:List (Nat×Nat)} (h:Grd N m gr S) (hL:∀ x∈L,GoodBar N x) (hM:∀ x∈M,GoodBar N x) (hs:∀ x∈S,x∈L) (hLM:∀ x∈L,x∈M)
    (hML:∀ x∈M,x∈L∨∃ i j,i<m∧j<m∧x=(gr i,gr j)):rk N M=rk N L:=by
  obtain ⟨R,t,r⟩:=h.tight hL hs
  have e1:rk N M=rk N (L++M):=rank_same M (L++M) hM (fun x=>by
    simp only [List.mem_append]
    exact ⟨fun h=>.inr h,fun h'=>h'.elim (hLM x) id⟩)
  rw [e1]
  unfold rk
  rw [greedy_append,greedy_skip M (fun x hx=>?_)]
  rcases hML x hx with h' | ⟨i,j,hi,hj,rfl⟩
  · exact greedy_tight L [] hL (sparse_nil N 2 3) x h'
  · exact ⟨R,t,by simp [inn,r i hi,r j hj]⟩
theorem rk_same_iff {N:Nat} {L:List (Nat×Nat)} (hL:∀ x∈L,GoodBar N x) {a b:Nat} (hx:GoodBar N (a,b)):rk N (L++[(a,b)])=rk N L↔Imp N (greedy N 2 3 [] L) a b:=by
  unfold rk
  rw [greedy_append]
  simp only [greedy]
  constructor
  · intro he
    split at he
    · simp at he
    · rename_i hn
      obtain ⟨R,t,r⟩:=greedy_tight (L++[(a,b)]) [] (fun x h=>by
        rcases List.mem_append.1 h with h | h
        · exact hL x h
        · simp only [List.mem_cons,List.not_mem_nil,or_false] at h;subst h;exact hx) (sparse_nil N 2 3) (a,b) (by simp)
      rw [greedy_append] at t
      simp only [greedy] at t
      rw [if_neg hn] at t
      simp only [inn,Bool.and_eq_true] at r
      exact ⟨R,t,r.1,r.2⟩
  · rintro ⟨R,t,r1,r2⟩
    rw [if_neg (not_sparse_of_tight t (by simp [inn,r1,r2]))]
theorem rk_le_succ {N:Nat} {L:List (Nat×Nat)} (x:Nat×Nat):rk N L≤rk N (L++[x])∧rk N (L++[x])≤rk N L+1:=by
  unfold rk
  rw [greedy_append]
  simp only [greedy]
  split
  · simp
  · simp
theorem Grd.steady {N m:Nat} {gr:Nat→Nat} {S L:List (Nat×Nat)} (h:Grd N m gr S) (hL:∀ x∈L,GoodBar N x) (hs:∀ x∈S,x∈L) {v:Nat} (hv:v<N) :
    ((gr 0=v∨rk N (L++[(gr 0,v)])=rk N L)∧(gr 1=v∨rk N (L++[(gr 1,v)])=rk N L))↔∀ i,i<m→gr i=v∨rk N (L++[(gr i,v)])=rk N L:=by
  have h2:=h.two
  constructor
  · rintro ⟨h0,h1⟩ i hi
    by_cases e:gr i=v
    · exact .inl e
    right
    rw [rk_same_iff hL ⟨e,h.lt i hi,hv⟩]
    obtain ⟨R,t,r⟩:=h.tight hL hs
    by_cases e0:gr 0=v
    · exact ⟨R,t,r i hi,by rw [← e0];exact r 0 (by omega)⟩
    by_cases e1:gr 1=v
    · exact ⟨R,t,r i hi,by rw [← e1];exact r 1 (by omega)⟩
    have i0:=(rk_same_iff hL (a:=gr 0) (b:=v) ⟨e0,h.lt 0 (by omega),hv⟩).1 (h0.resolve_left e0)
    have i1:=(rk_same_iff hL (a:=gr 1) (b:=v) ⟨e1,h.lt 1 (by omega),hv⟩).1 (h1.resolve_left e1)
    have hsp:=greedy_sparse N 2 3 L [] (sparse_nil N 2 3)
    obtain ⟨T,tt,t0,t1,t2⟩:=tight_tri hsp (h.lt 0 (by omega)) (h.lt 1 (by omega)) hv (h.ne 0 1 (by omega) (by omega)) e0 e1 ⟨R,t,r 0 (by omega),r 1 (by omega)⟩ i0 i1
    exact ⟨_,tight_union hsp t tt (gr 0) (gr 1) (h.ne 0 1 (by omega) (by omega)) (h.lt 0 (by omega)) (h.lt 1 (by omega)) (r 0 (by omega)) (r 1 (by omega)) t0 t1,by simp [uni,r i hi],by simp [uni,t2]⟩
  · intro h'
    exact ⟨h' 0 (by omega),h' 1 (by omega)⟩
end Go.Proofs.YtkkjoghiigiokaaGreat.Mat
namespace Go.Proofs.YtkkjoghiigiokaaGreat.Mach
open Go Go.Sort
set_option linter.unusedVariables false
set_option linter.unusedSimpArgs false
def SHo (p:T_Pinned) (i n:Nat) (h:Nat→T_Bar):St :=
  ⟨[pinA p,.pt 3 0 0 0,.p .any,.ar 2 1 0 n]++List.replicate 6 anyA++[inL p.2.1,.p (.int .i64 p.2.1.1),.p (.int .i64 i)]++List.replicate 23 anyA,[(0,boxP p),(1,brOb n h)],2⟩
def SHi (p:T_Pinned) (i j n:Nat) (h:Nat→T_Bar):St :=
  ⟨[pinA p,.pt 3 0 0 0,.p .any,.ar 2 1 0 n,.p .any,.p (.int .i64 (p.2.1.2 i))]++List.replicate 4 anyA++[inL p.2.1,.p (.int .i64 p.2.1.1),.p (.int .i64 i)]++List.replicate 8 anyA ++
    [.p (.seq true 1 (p.2.1.1 - (i+1)) (fun s=>[.int .i64 (p.2.1.2 (s+(i+1)))])),.p (.int .i64 ((p.2.1.1 - (i+1):Nat):Int)),.p (.int .i64 j)]++List.replicate 12 anyA,[(0,boxP p),(1,brOb n h)],2⟩
def SKl (p:T_Pinned) (k n:Nat) (h:Nat→T_Bar):St :=
  ⟨[pinA p,.pt 3 0 0 0,.pt 2 1 0 0,.pt 2 2 0 0,.p (.int .i64 k)]++List.replicate 39 anyA,[(0,boxP p),(1,zG2),(2,⟨true,2,1,fun _=>[.p (.int .i64 p.1.1),.ar 2 3 0 n]⟩),(3,brOb n h)],4⟩
def SKa (p:T_Pinned) (k n:Nat) (h:Nat→T_Bar):St :=
  ⟨[pinA p,.pt 3 0 0 0,.pt 2 1 0 0,.pt 2 2 0 0,.p (.int .i64 k)]++List.replicate 19 anyA,[(0,boxP p),(1,zG2),(2,⟨true,2,1,fun _=>[.p (.int .i64 p.1.1),.ar 2 3 0 n]⟩),(3,brOb n h)],4⟩
theorem hAz (p:T_Pinned) :
    zT Tryz.f326 [rg 2,rg 2,rg 4,.head] [pinA p] [0,64] (SHo p 0 0 (fun _=>(0,0,()))) =
    some (zf78,zD [(NT 0 1),(AI p.1.1),(AN p.1.2.1.1),(AP p.1.2.1.1 (fun i=>[.int .i64 ((p.1.2.1.2 i).1),.int .i64 ((p.1.2.1.2 i).2.1)])),(AN p.2.1.1),(AP p.2.1.1 (fun i=>[.int .i64 (p.2.1.2 i)])),(AN 0),(AI ((↑p.2.1.1:Int))),((0:Int)=(↑0:Int)),((([AV.p (PV.int IntKind.i64 p.1.1),graphL p.1.2.1,inL p.2.1].length):Nat)=3),(NL 1 1),(AN 2),(NL 0 0),(AA 0 (fun i=>[.p (.int .i64 0),.p (.int .i64 0)]))] [0,1,2,3,4,5,6,6,6,4,5,7,8,9,10,10,1,2,3,4,5,11,12,13]):=by kernel_rfl
theorem hAo (p:T_Pinned) (i n:Nat) (h:Nat→T_Bar) :
    zM 0 [rg 1,.dec true,rg 5,rg 7,.head] zf78 (SHo p i n h) [0,1] 1 (SHi p i 0 n h) =
    some (zf24,zD [((decide ((↑i:Int)<(↑p.2.1.1:Int)))=true),(IL 0 (↑i:Int)),(IT (↑i:Int) (↑p.2.1.1:Int)),(NT 0 1),(ZLo ((↑i:Int)+1)),(ZHi ((↑i:Int)+1)),(IL 0 ((↑i:Int)+1)),(IL ((↑i:Int)+1) (↑p.2.1.1:Int)),(IL (↑p.2.1.1:Int) (↑p.2.1.1:Int)),(AI p.1.1),(AN p.1.2.1.1),(AP p.1.2.1.1 (fun i_1=>[.int .i64 ((p.1.2.1.2 i_1).1),.int .i64 ((p.1.2.1.2 i_1).2.1)])),(AN p.2.1.1),(AP p.2.1.1 (fun i_1=>[.int .i64 (p.2.1.2 i_1)])),(AN 0),(AN n),(AI ((p.2.1.2 i))),(AI ((↑p.2.1.1:Int))),(AI ((↑i:Int))),(AN ((p.2.1.1 - (i+1)))),(AP ((p.2.1.1 - (i+1))) (fun i_1=>[.int .i64 (p.2.1.2 (i_1+(i+1)))])),(AI ((↑(p.2.1.1 - (i+1)):Int))),((0:Int)=(↑0:Int)),(AN 3),(NL 1 1),(AN 2),(NL n n),(AA n (fun i_1=>[.p (.int .i64 ((h i_1).1)),.p (.int .i64 ((h i_1).2.1))]))] [0,1,2,3,4,5,6,7,8,9,10,11,12,13,14,14,15,16,12,13,17,18,19,20,21,22,23,24,24,9,10,11,12,13,25,26,27]):=by kernel_rfl
theorem hAi (p:T_Pinned) (i j n:Nat) (h:Nat→T_Bar) (x:T_Bar) :
    zM 0 [rg 1,.dec true,rg 3,rm [(3,oc [] (.agg [.p (.int .i64 x.1),.p (.int .i64 x.2.1)]))] 3,rg 2,.head] zf24 (SHi p i j n h) [0,290] 1 (SHi p i (j+1) (n+1) (snoc n h x)) =
    some (zf24,zD [((decide ((↑j:Int)<(↑(p.2.1.1 - (i+1)):Int)))=true),(IL 0 (↑j:Int)),(IT (↑j:Int) (↑(p.2.1.1 - (i+1)):Int)),zE 290 [.p (.int .i64 (p.2.1.2 i)),.p (.int .i64 (p.2.1.2 (j+(i+1))))] [] (.agg [.p (.int .i64 x.1),.p (.int .i64 x.2.1)]),(NL 1 1),(NL n n),(NL ((n+1)*16) 140737488355328),(NL (n+1) 9223372036854775807),(ZLo ((↑j:Int)+1)),(ZHi ((↑j:Int)+1)),(AI p.1.1),(AN p.1.2.1.1),(AP p.1.2.1.1 (fun i_1=>[.int .i64 ((p.1.2.1.2 i_1).1),.int .i64 ((p.1.2.1.2 i_1).2.1)])),(AN p.2.1.1),(AP p.2.1.1 (fun i_1=>[.int .i64 (p.2.1.2 i_1)])),(AN 0),(AN ((n+1))),(AI ((p.2.1.2 i))),(AI ((↑p.2.1.1:Int))),(AI ((↑i:Int))),(AN ((p.2.1.1 - (i+1)))),(AP ((p.2.1.1 - (i+1))) (fun i_1=>[.int .i64 (p.2.1.2 (i_1+(i+1)))])),(AI ((↑(p.2.1.1 - (i+1)):Int))),((((↑j:Int)+1):Int)=(↑(j+1):Int)),(AN 3),(AN 2),(NL (n+1) (n+1)),(CV [(290,⟨false,2,(n+1),(fun i_2=>(if (i_2<n) then [.p (.int .i64 ((h i_2).1)),.p (.int .i64 ((h i_2).2.1))] else [.p (.int .i64 x.1),.p (.int .i64 x.2.1)]))⟩),(258,⟨false,2,1,(fun i_2=>[.p (.int .i64 x.1),.p (.int .i64 x.2.1)])⟩),(0,⟨true,3,1,(fun i_2=>[.p (.int .i64 p.1.1),.p (.seq true 2 p.1.2.1.1 (fun i_3=>[.int .i64 ((p.1.2.1.2 i_3).1),.int .i64 ((p.1.2.1.2 i_3).2.1)])),.p (.seq true 1 p.2.1.1 (fun i_3=>[.int .i64 (p.2.1.2 i_3)]))])⟩)] [0,290] 1 (n+1) (fun i_1=>if (i_1<n) then [.p (.int .i64 ((h i_1).1)),.p (.int .i64 ((h i_1).2.1))] else [.p (.int .i64 x.1),.p (.int .i64 x.2.1)]) (fun i_1=>[.p (.int .i64 (if i_1<n then (h i_1).1 else x.1)),.p (.int .i64 (if i_1<n then (h i_1).2.1 else x.2.1))]))] [0,1,2,3,4,5,6,7,8,9,10,11,12,13,14,15,15,16,17,13,14,18,19,20,21,22,23,24,4,4,10,11,12,13,14,25,26,27]):=by kernel_rfl
theorem hAx (p:T_Pinned) (i j n:Nat) (h:Nat→T_Bar) :
    zM 0 [rg 1,.dec false,rg 2,.head] zf24 (SHi p i j n h) [0,1] 1 (SHo p (i+1) n h) =
    some (zf78,zD [((decide ((↑j:Int)<(↑(p.2.1.1 - (i+1)):Int)))=false),(ZLo ((↑i:Int)+1)),(ZHi ((↑i:Int)+1)),(AI p.1.1),(AN p.1.2.1.1),(AP p.1.2.1.1 (fun i_1=>[.int .i64 ((p.1.2.1.2 i_1).1),.int .i64 ((p.1.2.1.2 i_1).2.1)])),(AN p.2.1.1),(AP p.2.1.1 (fun i_1=>[.int .i64 (p.2.1.2 i_1)])),(AN 0),(AN n),(AI ((↑p.2.1.1:Int))),((((↑i:Int)+1):Int)=(↑(i+1):Int)),(AN 3),(NL 1 1),(AN 2),(NL n n),(AA n (fun i_1=>[.p (.int .i64 ((h i_1).1)),.p (.int .i64 ((h i_1).2.1))]))] [0,1,2,3,4,5,6,7,8,8,9,6,7,10,11,12,13,13,3,4,5,6,7,14,15,16]):=by kernel_rfl
theorem hAe (p:T_Pinned) (i n:Nat) (h:Nat→T_Bar) :
    zP Tryz.f326 0 [rg 1,.dec false,rg 2] zf78 (SHo p i n h) [1] 1 [(0,brOb n h)] (.ar 2 0 0 n) =
    some [((decide ((↑i:Int)<(↑p.2.1.1:Int)))=false),(AN 0),(AN n),(AN 2),(NL n n),(AA n (fun i_1=>[.p (.int .i64 ((h i_1).1)),.p (.int .i64 ((h i_1).2.1))])),(AE n)]:=by kernel_rfl
theorem hKz (p:T_Pinned) :
    zT Tryz.f357 [rg 2,rg 7,rg 1,.head] [pinA p] [0,32,224,160] (SKl p 1 0 (fun _=>(0,0,()))) =
    some (zf79,zD [(NT 0 1),((true=true)→ (AN 1)),(AI p.1.1),(AN p.1.2.1.1),(AP p.1.2.1.1 (fun i=>[.int .i64 ((p.1.2.1.2 i).1),.int .i64 ((p.1.2.1.2 i).2.1)])),(AN p.2.1.1),(AP p.2.1.1 (fun i=>[.int .i64 (p.2.1.2 i)])),(AN 0),((1:Int)=(↑1:Int)),((([AV.p (PV.int IntKind.i64 p.1.1),graphL p.1.2.1,inL p.2.1].length):Nat)=3),(NL 1 1),((((List.map (fun v=>AV.p (absV v)) [Value.int IntKind.i64 0,Value.slice none 0 0]).length):Nat)=2),(AI 0),(AN 2),(NL 0 0),(AA 0 (fun i=>[.p (.int .i64 0),.p (.int .i64 0)]))] [0,0,1,2,3,4,5,6,7,7,7,8,9,10,10,2,3,4,5,6,11,10,10,12,11,10,10,2,7,7,13,14,15]):=by kernel_rfl
theorem hKa (p:T_Pinned) (k n m:Nat) (h r:Nat→T_Bar) :
    zM 0 [rg 5,.dec true,rm [(11,oc [(0,brOb m r)] (.agg [.p (.int .i64 p.1.1),.ar 2 0 0 m]))] 1,rg 2,.dec false,rg 3,.head] zf79 (SKl p k n h) [0,1,2,516] 1 (SKl p (k+1) m r) =
    some (zf79,zD [(NT 0 1),((decide ((↑k:Int)<(↑p.2.1.1:Int)))=true),(IL 0 0),(IT 0 (↑p.2.1.1:Int)),(IL 0 (↑k:Int)),(IT (↑k:Int) (↑p.2.1.1:Int)),(AN 2),(NL n n),zE 216 [(zf110 p n h),.agg [.p (.int .i64 (p.2.1.2 0)),.p (.int .i64 (p.2.1.2 k))]] (zf112 m r) (.agg [.p (.int .i64 p.1.1),.ar 2 0 0 m]),((true=true)→ (AN 1)),((decide ((↑k:Int)>1))=false),(ZLo ((↑k:Int)+1)),(ZHi ((↑k:Int)+1)),(AI p.1.1),(AN p.1.2.1.1),(AP p.1.2.1.1 (fun i=>[.int .i64 ((p.1.2.1.2 i).1),.int .i64 ((p.1.2.1.2 i).2.1)])),(AN p.2.1.1),(AP p.2.1.1 (fun i=>[.int .i64 (p.2.1.2 i)])),(AN 0),((((↑k:Int)+1):Int)=(↑(k+1):Int)),(AN 3),(NL 1 1),(AI 0),(AN m),(NL m m),(AA m (fun i=>[.p (.int .i64 ((r i).1)),.p (.int .i64 ((r i).2.1))]))] [0,1,0,0,2,3,0,4,5,6,7,8,0,9,10,11,12,13,14,15,16,17,18,18,18,19,20,21,21,13,14,15,16,17,6,21,21,22,6,21,21,13,18,23,6,24,25]):=by kernel_rfl
theorem hKb (p:T_Pinned) (k n m m2:Nat) (h r r2:Nat→T_Bar) :
    zM 0 [rg 5,.dec true,rm [(11,oc [(0,brOb m r)] (.agg [.p (.int .i64 p.1.1),.ar 2 0 0 m]))] 1,rg 2,.dec true,rm [(11,oc [(0,brOb m2 r2)] (.agg [.p (.int .i64 p.1.1),.ar 2 0 0 m2]))] 1,rg 3,.head] zf79 (SKl p k n h) [0,1,2,996] 1 (SKl p (k+1) m2 r2) =
    some (zf79,zD [(NT 0 1),((decide ((↑k:Int)<(↑p.2.1.1:Int)))=true),(IL 0 0),(IT 0 (↑p.2.1.1:Int)),(IL 0 (↑k:Int)),(IT (↑k:Int) (↑p.2.1.1:Int)),(AN 2),(NL n n),zE 216 [(zf110 p n h),.agg [.p (.int .i64 (p.2.1.2 0)),.p (.int .i64 (p.2.1.2 k))]] (zf112 m r) (.agg [.p (.int .i64 p.1.1),.ar 2 0 0 m]),((true=true)→ (AN 1)),((decide ((↑k:Int)>1))=true),(IL 0 1),(IT 1 (↑p.2.1.1:Int)),(NL m m),zE 216 [(zf110 p m r),.agg [.p (.int .i64 (p.2.1.2 1)),.p (.int .i64 (p.2.1.2 k))]] (zf112 m2 r2) (.agg [.p (.int .i64 p.1.1),.ar 2 0 0 m2]),(ZLo ((↑k:Int)+1)),(ZHi ((↑k:Int)+1)),(AI p.1.1),(AN p.1.2.1.1),(AP p.1.2.1.1 (fun i=>[.int .i64 ((p.1.2.1.2 i).1),.int .i64 ((p.1.2.1.2 i).2.1)])),(AN p.2.1.1),(AP p.2.1.1 (fun i=>[.int .i64 (p.2.1.2 i)])),(AN 0),((((↑k:Int)+1):Int)=(↑(k+1):Int)),(AN 3),(NL 1 1),(AI 0),(AN m2),(NL m2 m2),(AA m2 (fun i=>[.p (.int .i64 ((r2 i).1)),.p (.int .i64 ((r2 i).2.1))]))] [0,1,0,0,2,3,0,4,5,6,7,8,0,9,10,0,0,11,12,0,4,5,6,13,14,0,9,15,16,17,18,19,20,21,22,22,22,23,24,25,25,17,18,19,20,21,6,25,25,26,6,25,25,17,22,27,6,28,29]):=by kernel_rfl
theorem hKe (p:T_Pinned) (k n:Nat) (h:Nat→T_Bar) :
    zP Tryz.f357 0 [rg 5,.dec false,rg 2] zf79 (SKl p k n h) [3] 1 [(0,brOb n h)] (.agg [.p (.int .i64 p.1.1),.ar 2 0 0 n]) =
    some [(NT 0 1),((decide ((↑k:Int)<(↑p.2.1.1:Int)))=false),(NT 0 1),(NT 0 1),((true=true)→ (AN 1)),(NT 0 1),(AI p.1.1),(AN 0),(AN n),(AN 2),(NL n n),(AA n (fun i=>[.p (.int .i64 ((h i).1)),.p (.int .i64 ((h i).2.1))])),(AE n)]:=by kernel_rfl
theorem hLz (p:T_Pinned) (n:Nat) (h:Nat→T_Bar) :
    zT Tryz.f320 [rg 2,rm [(1,oc [(0,brOb n h)] (.agg [.p (.int .i64 p.1.1),.ar 2 0 0 n]))] 2,rg 1,.head] [pinA p] [0,32,128,96] (SKa p 0 n h) =
    some (zf80,zD [(NT 0 1),zE 357 [(zf31 p)] (zf112 n h) (.agg [.p (.int .i64 p.1.1),.ar 2 0 0 n]),((true=true)→ (AN 1)),(AI p.1.1),(AN p.1.2.1.1),(AP p.1.2.1.1 (fun i=>[.int .i64 ((p.1.2.1.2 i).1),.int .i64 ((p.1.2.1.2 i).2.1)])),(AN p.2.1.1),(AP p.2.1.1 (fun i=>[.int .i64 (p.2.1.2 i)])),(AN 0),((0:Int)=(↑0:Int)),((([AV.p (PV.int IntKind.i64 p.1.1),graphL p.1.2.1,inL p.2.1].length):Nat)=3),(NL 1 1),((((List.map (fun v=>AV.p (absV v)) [Value.int IntKind.i64 0,Value.slice none 0 0]).length):Nat)=2),(AI 0),(AN n),(AN 2),(NL n n),(AA n (fun i=>[.p (.int .i64 ((h i).1)),.p (.int .i64 ((h i).2.1))]))] [0,1,0,2,3,4,5,6,7,8,8,8,9,10,11,11,3,4,5,6,7,12,11,11,13,12,11,11,3,8,14,15,16,17]):=by kernel_rfl
theorem hLa (p:T_Pinned) (k n m:Nat) (h r:Nat→T_Bar) :
    zM 0 [rg 6,.dec true,rm [(7,oc [(0,brOb m r)] (.agg [.p (.int .i64 p.1.1),.ar 2 0 0 m]))] 1,rg 3,.head] zf80 (SKa p k n h) [0,1,2,420] 1 (SKa p (k+1) m r) =
    some (zf80,zD [(NT 0 1),((decide ((↑k:Int)<(↑p.1.2.1.1:Int)))=true),(IL 0 (↑k:Int)),(IT (↑k:Int) (↑p.1.2.1.1:Int)),(AN 2),(NL n n),zE 216 [(zf110 p n h),(zf114 p k)] (zf112 m r) (.agg [.p (.int .i64 p.1.1),.ar 2 0 0 m]),((true=true)→ (AN 1)),(ZLo ((↑k:Int)+1)),(ZHi ((↑k:Int)+1)),(AI p.1.1),(AN p.1.2.1.1),(AP p.1.2.1.1 (fun i=>[.int .i64 ((p.1.2.1.2 i).1),.int .i64 ((p.1.2.1.2 i).2.1)])),(AN p.2.1.1),(AP p.2.1.1 (fun i=>[.int .i64 (p.2.1.2 i)])),(AN 0),((((↑k:Int)+1):Int)=(↑(k+1):Int)),(AN 3),(NL 1 1),(AI 0),(AN m),(NL m m),(AA m (fun i=>[.p (.int .i64 ((r i).1)),.p (.int .i64 ((r i).2.1))]))] [0,1,0,0,2,3,4,5,6,0,7,8,9,10,11,12,13,14,15,15,15,16,17,18,18,10,11,12,13,14,4,18,18,19,4,18,18,10,15,20,4,21,22]):=by kernel_rfl
theorem hLe (p:T_Pinned) (k n:Nat) (h:Nat→T_Bar) :
    zP Tryz.f320 0 [rg 6,.dec false,rg 2] zf80 (SKa p k n h) [3] 1 [(0,brOb n h)] (.agg [.p (.int .i64 p.1.1),.ar 2 0 0 n]) =
    some [(NT 0 1),((decide ((↑k:Int)<(↑p.1.2.1.1:Int)))=false),(NT 0 1),(NT 0 1),((true=true)→ (AN 1)),(NT 0 1),(AI p.1.1),(AN 0),(AN n),(AN 2),(NL n n),(AA n (fun i=>[.p (.int .i64 ((h i).1)),.p (.int .i64 ((h i).2.1))])),(AE n)]:=by kernel_rfl
theorem hPn (p:T_Pinned) :
    zS Tryz.f325 [rg 2,rm [(1,oc [] (.p (.bool false)))] 1,.dec true,rg 1] [pinA p] [] [] (.p (.int .i64 (-1))) =
    some [(NT 0 1),zE 142 [(zf31 p)] [] (.p (.bool false)),((!false)=true),(AI ((-1)))]:=by kernel_rfl
theorem hPy (p:T_Pinned) (n:Nat) (h:Nat→T_Bar) (r1 r0:Nat) :
    zS Tryz.f325 [rg 2,rm [(1,oc [] (.p (.bool true)))] 1,.dec false,rg 4,rm [(2,oc [(0,brOb n h)] (.ar 2 0 0 n)),(4,oc [] (.p (.int .i64 r1))),(2,oc [(0,brOb n h)] (.ar 2 0 0 n)),(0,oc [] (.p (.int .i64 r0)))] 2] [pinA p] [] [] (.p (.int .i64 ((r1:Int) - (r0:Int)))) =
    some (zD [(NT 0 1),zE 142 [(zf31 p)] [] (.p (.bool true)),((!true)=false),zE 326 [(zf31 p)] (zf112 n h) (.ar 2 0 0 n),(NL n n),(NL ((n+p.1.2.1.1)*16) 140737488355328),(NL (n+p.1.2.1.1) 9223372036854775807),(AN 2),(NL (n+p.1.2.1.1) (n+p.1.2.1.1)),zE 360 [.p (.int .i64 p.1.1),.p (.seq true 2 (n+p.1.2.1.1) (fun i=>[(cellP true (if (i<n) then [.p (.int .i64 ((h i).1)),.p (.int .i64 ((h i).2.1))] else [.p (.int .i64 ((p.1.2.1.2 (i - n)).1)),.p (.int .i64 ((p.1.2.1.2 (i - n)).2.1))]) 0),(cellP true (if (i<n) then [.p (.int .i64 ((h i).1)),.p (.int .i64 ((h i).2.1))] else [.p (.int .i64 ((p.1.2.1.2 (i - n)).1)),.p (.int .i64 ((p.1.2.1.2 (i - n)).2.1))]) 1)]))] [] (.p (.int .i64 (↑r1:Int))),zE 360 [.p (.int .i64 p.1.1),.p (.seq true 2 n (bRw h))] [] (.p (.int .i64 (↑r0:Int))),(ZLo ((↑r1:Int) - (↑r0:Int))),(ZHi ((↑r1:Int) - (↑r0:Int))),(AI (((↑r1:Int) - (↑r0:Int))))] [0,1,2,0,0,3,0,4,5,6,7,8,9,0,3,7,4,10,11,12,13]):=by kernel_rfl
theorem hQn (p:T_Pinned) :
    zS Tryz.f319 [rg 2,rm [(1,oc [] (.p (.bool false)))] 1,.dec true,rg 1] [pinA p] [] [] (.p (.int .i64 (-1))) =
    some [(NT 0 1),zE 240 [(zf31 p)] [] (.p (.bool false)),((!false)=true),(AI ((-1)))]:=by kernel_rfl
theorem hQy (p:T_Pinned) (n m:Nat) (h k:Nat→T_Bar) (r1 r0:Nat) :
    zS Tryz.f319 [rg 2,rm [(1,oc [] (.p (.bool true)))] 1,.dec false,rm [(1,oc [(0,brOb n h)] (.agg [.p (.int .i64 p.1.1),.ar 2 0 0 n])),(0,oc [] (.p (.int .i64 r1))),(1,oc [(0,brOb m k)] (.agg [.p (.int .i64 p.1.1),.ar 2 0 0 m])),(0,oc [] (.p (.int .i64 r0)))] 2] [pinA p] [] [] (.p (.int .i64 ((r1:Int) - (r0:Int)))) =
    some [(NT 0 1),zE 240 [(zf31 p)] [] (.p (.bool true)),((!true)=false),(NT 0 1),zE 320 [(zf31 p)] (zf112 n h) (.agg [.p (.int .i64 p.1.1),.ar 2 0 0 n]),(AN 2),(NL n n),zE 342 [(zf110 p n h)] [] (.p (.int .i64 (↑r1:Int))),(NT 0 1),zE 357 [(zf31 p)] (zf112 m k) (.agg [.p (.int .i64 p.1.1),.ar 2 0 0 m]),(AN 2),(NL m m),zE 342 [(zf110 p m k)] [] (.p (.int .i64 (↑r0:Int))),(ZLo ((↑r1:Int) - (↑r0:Int))),(ZHi ((↑r1:Int) - (↑r0:Int))),(AI (((↑r1:Int) - (↑r0:Int))))]:=by kernel_rfl
def hIn (s:Nat→Int) (i:Nat) (r:NB):Nat→NB
  | 0=>r
  | j+1=>sn (hIn s i r j) (brX (s i) (s (j+(i+1))))
def hC (s:Nat→Int) (m:Nat):Nat→NB
  | 0=>zNB
  | i+1=>hIn s i (hC s m i) (m - (i+1))
def hS (s:Nat→Int):Nat→NB
  | 0=>zNB
  | k+1=>if 1≤k then insR (insR (hS s k).2 (hS s k).1 (s 0,s (k+1),())).2 (insR (hS s k).2 (hS s k).1 (s 0,s (k+1),())).1 (s 1,s (k+1),()) else insR (hS s k).2 (hS s k).1 (s 0,s (k+1),())
def aS (g:Nat→T_Bar) (r:NB):Nat→NB
  | 0=>r
  | k+1=>insR (aS g r k).2 (aS g r k).1 (g k)
def aC (r:NB) (g:Nat→T_Bar) (i:Nat):T_Bar:=(if i<r.1 then (r.2 i).1 else (g (i - r.1)).1,if i<r.1 then (r.2 i).2.1 else (g (i - r.1)).2.1,())
def mem (r:NB) (y:T_Bar):Prop:=∃ s,s<r.1∧r.2 s=y
theorem hIn_n (s:Nat→Int) (i:Nat) (r:NB):∀ j,(hIn s i r j).1=r.1+j
  | 0=>rfl
  | j+1=>by simp only [hIn,sn,hIn_n s i r j];omega
theorem hC_n (s:Nat→Int) (m:Nat):∀ i,(hC s m i).1≤i*m
  | 0=>by simp [hC,zNB]
  | i+1=>by
    have:=hC_n s m i
    simp only [hC,hIn_n]
    rw [Nat.add_mul];omega
theorem hIn_mem (s:Nat→Int) (i:Nat) (r:NB) (y:T_Bar):∀ j,mem (hIn s i r j) y↔mem r y∨∃ q,q<j∧brX (s i) (s (q+(i+1)))=y
  | 0=>by
    constructor
    · intro h;exact .inl h
    · rintro (h | ⟨q,h,_⟩)
      · exact h
      · exact absurd h (Nat.not_lt_zero _)
  | j+1=>by
    have ih:=hIn_mem s i r y j
    show (∃ t,t<(hIn s i r j).1+1∧snoc (hIn s i r j).1 (hIn s i r j).2 _ t=y)↔_
    rw [snoc_mem]
    rw [show (∃ t,t<(hIn s i r j).1∧(hIn s i r j).2 t=y)↔_ from ih]
    constructor
    · rintro ((h | ⟨q,h1,h2⟩) | h)
      · exact .inl h
      · exact .inr ⟨q,by omega,h2⟩
      · exact .inr ⟨j,by omega,h⟩
    · rintro (h | ⟨q,h1,h2⟩)
      · exact .inl (.inl h)
      · by_cases e:q=j
        · subst e;exact .inr h2
        · exact .inl (.inr ⟨q,by omega,h2⟩)
theorem hC_mem (s:Nat→Int) (m:Nat) (y:T_Bar):∀ i,i≤m→(mem (hC s m i) y↔∃ a b,a<i∧a<b∧b<m∧brX (s a) (s b)=y)
  | 0,_=>by
    constructor
    · rintro ⟨t,h,_⟩;exact absurd h (Nat.not_lt_zero _)
    · rintro ⟨a,b,h,_⟩;exact absurd h (Nat.not_lt_zero _)
  | i+1,hi=>by
    have ih:=hC_mem s m y i (by omega)
    simp only [hC]
    rw [hIn_mem,ih]
    constructor
    · rintro (⟨a,b,h1,h2,h3,h4⟩ | ⟨q,h1,h2⟩)
      · exact ⟨a,b,by omega,h2,h3,h4⟩
      · exact ⟨i,q+(i+1),by omega,by omega,by omega,h2⟩
    · rintro ⟨a,b,h1,h2,h3,h4⟩
      by_cases e:a=i
      · subst e;exact .inr ⟨b - (a+1),by omega,by rw [show b - (a+1)+(a+1)=b by omega];exact h4⟩
      · exact .inl ⟨a,b,by omega,h2,h3,h4⟩
theorem mem_ins (r:NB) (x y:T_Bar):mem (insR r.2 r.1 x) y↔mem r y∨x=y:=insR_mem r.2 r.1 x y
theorem hS_mem (s:Nat→Int) (y:T_Bar):∀ k,mem (hS s k) y↔∃ b,1≤b∧b≤k∧((s 0,s b,())=y∨(2≤b∧(s 1,s b,())=y))
  | 0=>by
    constructor
    · rintro ⟨t,h,_⟩;exact absurd h (Nat.not_lt_zero _)
    · rintro ⟨b,h1,h2,_⟩;omega
  | k+1=>by
    have ih:=hS_mem s y k
    simp only [hS]
    split
    · rename_i h1
      rw [mem_ins,mem_ins,ih]
      constructor
      · rintro ((⟨b,h2,h3,h4⟩ | h) | h)
        · exact ⟨b,h2,by omega,h4⟩
        · exact ⟨k+1,by omega,Nat.le_refl _,.inl h⟩
        · exact ⟨k+1,by omega,Nat.le_refl _,.inr ⟨by omega,h⟩⟩
      · rintro ⟨b,h2,h3,h4⟩
        by_cases e:b=k+1
        · subst e
          rcases h4 with h4 | h4
          · exact .inl (.inr h4)
          · exact .inr h4.2
        · exact .inl (.inl ⟨b,h2,by omega,h4⟩)
    · rename_i h1
      rw [mem_ins,ih]
      constructor
      · rintro (⟨b,h2,h3,h4⟩ | h)
        · exact ⟨b,h2,by omega,h4⟩
        · exact ⟨k+1,by omega,Nat.le_refl _,.inl h⟩
      · rintro ⟨b,h2,h3,h4⟩
        by_cases e:b=k+1
        · subst e
          rcases h4 with h4 | h4
          · exact .inr h4
          · omega
        · exact .inl ⟨b,h2,by omega,h4⟩
theorem hS_n (s:Nat→Int):∀ k,(hS s k).1≤2*k∧(1≤k→(hS s k).1+1≤2*k)
  | 0=>by simp [hS,zNB]
  | k+1=>by
    have ih:=hS_n s k
    simp only [hS]
    split
    · rw [insR_n,insR_n];omega
    · rw [insR_n];omega
theorem aS_mem (g:Nat→T_Bar) (r:NB) (y:T_Bar):∀ k,mem (aS g r k) y↔mem r y∨∃ i,i<k∧g i=y
  | 0=>by
    constructor
    · intro h;exact .inl h
    · rintro (h | ⟨q,h,_⟩)
      · exact h
      · exact absurd h (Nat.not_lt_zero _)
  | k+1=>by
    have ih:=aS_mem g r y k
    simp only [aS]
    rw [mem_ins,ih]
    constructor
    · rintro ((h | ⟨q,h1,h2⟩) | h)
      · exact .inl h
      · exact .inr ⟨q,by omega,h2⟩
      · exact .inr ⟨k,by omega,h⟩
    · rintro (h | ⟨q,h1,h2⟩)
      · exact .inl (.inl h)
      · by_cases e:q=k
        · subst e;exact .inr h2
        · exact .inl (.inr ⟨q,by omega,h2⟩)
theorem aS_n (g:Nat→T_Bar) (r:NB):∀ k,(aS g r k).1=r.1+k
  | 0=>rfl
  | k+1=>by simp only [aS,insR_n,aS_n g r k];omega
theorem aC_lt {r:NB} {g:Nat→T_Bar} {i:Nat} (h:i<r.1):aC r g i=r.2 i:=by simp only [aC,h,if_true]
theorem aC_ge {r:NB} {g:Nat→T_Bar} {i:Nat} (h:¬ i<r.1):aC r g i=g (i - r.1):=by simp only [aC,h,if_false]
theorem aC_mem (r:NB) (g:Nat→T_Bar) (nb:Nat) (y:T_Bar):mem (r.1+nb,aC r g) y↔mem r y∨∃ i,i<nb∧g i=y:=by
  constructor
  · rintro ⟨t,h1,h2⟩
    by_cases e:t<r.1
    · exact .inl ⟨t,e,by rw [← h2];exact (aC_lt e).symm⟩
    · exact .inr ⟨t - r.1,by have:t<r.1+nb:=h1;omega,by rw [← h2];exact (aC_ge e).symm⟩
  · rintro (⟨t,h1,h2⟩ | ⟨i,h1,h2⟩)
    · exact ⟨t,by show t<r.1+nb;omega,by show aC r g t=y;rw [aC_lt h1];exact h2⟩
    · exact ⟨r.1+i,by show r.1+i<r.1+nb;omega,by show aC r g (r.1+i)=y;rw [aC_ge (by omega),show r.1+i - r.1=i by omega];exact h2⟩
theorem con_held (p:T_Pinned) (hm:p.2.1.1≤8):zE 326 [pinA p] [(0,brOb (hC p.2.1.2 p.2.1.1 p.2.1.1).1 (hC p.2.1.2 p.2.1.1 p.2.1.1).2)] (.ar 2 0 0 (hC p.2.1.2 p.2.1.1 p.2.1.1).1):=by
  refine csZ Tryz.func326 (fun c hc=>?_)
  generalize hR:hC p.2.1.2 p.2.1.1 p.2.1.1=R
  have li:∀ i,i<p.2.1.1→(zR c 326 zf78 (SHo p (i+1) (hC p.2.1.2 p.2.1.1 (i+1)).1 (hC p.2.1.2 p.2.1.1 (i+1)).2) (Post c [(0,brOb R.1 R.2)] (.ar 2 0 0 R.1))) →
      ∀ d j,j+d=p.2.1.1 - (i+1)→zR c 326 zf24 (SHi p i j (hIn p.2.1.2 i (hC p.2.1.2 p.2.1.1 i) j).1 (hIn p.2.1.2 i (hC p.2.1.2 p.2.1.1 i) j).2) (Post c [(0,brOb R.1 R.2)] (.ar 2 0 0 R.1)):=by
    intro i hi hk d
    induction d with
    | zero =>
      intro j hj
      obtain rfl:j=p.2.1.1 - (i+1):=by omega
      have hd:decide (((p.2.1.1 - (i+1):Nat):Int)<((p.2.1.1 - (i+1):Nat):Int))=false:=by simp
      refine pcD hc (hAx p i (p.2.1.1 - (i+1)) _ _) ?_ hk
      and_intros
      all_goals (first | exact zN | (exact hd) | (intro t ht;simp [All]))
    | succ d ih =>
      intro j hj
      have hd:decide ((j:Int)<((p.2.1.1 - (i+1):Nat):Int))=true:=decide_eq_true (by omega)
      have cb:=con_barX (p.2.1.2 i) (p.2.1.2 (j+(i+1)))
      have hn:=hIn_n p.2.1.2 i (hC p.2.1.2 p.2.1.1 i) j
      have hn2:=hC_n p.2.1.2 p.2.1.1 i
      have hn3:i*p.2.1.1≤64:=Nat.le_trans (Nat.mul_le_mul (show i≤8 by omega) hm) (by omega)
      have hrec:=ih (j+1) (by omega)
      generalize hq:hIn p.2.1.2 i (hC p.2.1.2 p.2.1.1 i) j=q at hn ⊢
      rw [show hIn p.2.1.2 i (hC p.2.1.2 p.2.1.1 i) (j+1)=sn q (brX (p.2.1.2 i) (p.2.1.2 (j+(i+1)))) by rw [hIn,hq]] at hrec
      refine pcD hc (hAi p i j q.1 q.2 (brX (p.2.1.2 i) (p.2.1.2 (j+(i+1))))) ?_ hrec
      and_intros
      all_goals (first | exact zN | (exact hd) | (exact cb) | (intro t ht;by_cases h':t<q.1<;>simp [h',snoc,cvtL,cvt,tg,tru,All]))
  have lo:∀ d i,i+d=p.2.1.1→zR c 326 zf78 (SHo p i (hC p.2.1.2 p.2.1.1 i).1 (hC p.2.1.2 p.2.1.1 i).2) (Post c [(0,brOb R.1 R.2)] (.ar 2 0 0 R.1)):=by
    intro d
    induction d with
    | zero =>
      intro i hi
      obtain rfl:i=p.2.1.1:=by omega
      have hd:decide ((p.2.1.1:Int)<(p.2.1.1:Int))=false:=by simp
      rw [hR]
      refine pkZ Tryz.func326 hc (hAe p p.2.1.1 R.1 R.2) ?_
      and_intros
      all_goals (first | exact zN | (exact hd) | (intro t ht;simp [All]))
    | succ d ih =>
      intro i hi
      have hd:decide ((i:Int)<(p.2.1.1:Int))=true:=decide_eq_true (by omega)
      refine pcD hc (hAo p i _ _) ?_ (li i (by omega) (ih (i+1) (by omega)) (p.2.1.1 - (i+1)) 0 (by omega))
      and_intros
      all_goals (first | exact zN | (exact hd) | (intro t ht;simp [All]))
  refine pcD hc (hAz p) ?_ (lo p.2.1.1 0 (by omega))
  and_intros
  all_goals (first | exact zN | (intro t ht;exact absurd ht (Nat.not_lt_zero _)) | (intro t ht;simp [All]))
theorem con_l20Held (p:T_Pinned) (h1:0≤p.1.1) (hm:1≤p.2.1.1∧p.2.1.1≤8):zE 357 [pinA p] [(0,brOb (hS p.2.1.2 (p.2.1.1 - 1)).1 (hS p.2.1.2 (p.2.1.1 - 1)).2)] (.agg [.p (.int .i64 p.1.1),.ar 2 0 0 (hS p.2.1.2 (p.2.1.1 - 1)).1]):=by
  refine csZ Tryz.func357 (fun c hc=>?_)
  have hN:((p.1.1.toNat:Nat):Int)=p.1.1:=by omega
  generalize hR:hS p.2.1.2 (p.2.1.1 - 1)=R
  have lo:∀ d k,k+1+d=p.2.1.1→zR c 357 zf79 (SKl p (k+1) (hS p.2.1.2 k).1 (hS p.2.1.2 k).2) (Post c [(0,brOb R.1 R.2)] (.agg [.p (.int .i64 p.1.1),.ar 2 0 0 R.1])):=by
    intro d
    induction d with
    | zero =>
      intro k hk
      have hd:decide (((k+1:Nat):Int)<(p.2.1.1:Int))=false:=decide_eq_false (by omega)
      rw [show k=p.2.1.1 - 1 by omega,hR]
      rw [show k=p.2.1.1 - 1 by omega] at hd
      refine pkZ Tryz.func357 hc (hKe p (p.2.1.1 - 1+1) R.1 R.2) ?_
      and_intros
      all_goals (first | exact zI | (exact hd) | (intro t ht;simp [All]))
    | succ d ih =>
      intro k hk
      have hd:decide (((k+1:Nat):Int)<(p.2.1.1:Int))=true:=decide_eq_true (by omega)
      have hrec:=ih (k+1) (by omega)
      have hn:=hS_n p.2.1.2 k
      have hs:hS p.2.1.2 (k+1)=if 1≤k then insR (insR (hS p.2.1.2 k).2 (hS p.2.1.2 k).1 (p.2.1.2 0,p.2.1.2 (k+1),())).2 (insR (hS p.2.1.2 k).2 (hS p.2.1.2 k).1 (p.2.1.2 0,p.2.1.2 (k+1),())).1 (p.2.1.2 1,p.2.1.2 (k+1),()) else insR (hS p.2.1.2 k).2 (hS p.2.1.2 k).1 (p.2.1.2 0,p.2.1.2 (k+1),()):=rfl
      generalize hS p.2.1.2 k=q at hn hs ⊢
      have c1:=con_l2Put q.2 q.1 p.1.1.toNat (p.2.1.2 0,p.2.1.2 (k+1),()) (by omega)
      have n1:=insR_n q.2 q.1 (p.2.1.2 0,p.2.1.2 (k+1),())
      rw [grG,hN] at c1
      generalize insR q.2 q.1 (p.2.1.2 0,p.2.1.2 (k+1),())=q1 at c1 n1 hs
      by_cases h1k:1≤k
      · have hg:decide (((k+1:Nat):Int)>1)=true:=decide_eq_true (by omega)
        rw [if_pos h1k] at hs
        have c2:=con_l2Put q1.2 q1.1 p.1.1.toNat (p.2.1.2 1,p.2.1.2 (k+1),()) (by omega)
        rw [grG,hN] at c2
        rw [hs] at hrec
        generalize insR q1.2 q1.1 (p.2.1.2 1,p.2.1.2 (k+1),())=q2 at c2 hrec
        refine pcD hc (hKb p (k+1) q.1 q1.1 q2.1 q.2 q1.2 q2.2) ?_ hrec
        and_intros
        all_goals (first | exact zI | (exact hd) | (exact hg) | (exact c1) | (exact c2) | (intro t ht;simp [All]))
      · have hg:decide (((k+1:Nat):Int)>1)=false:=decide_eq_false (by omega)
        rw [if_neg h1k] at hs
        rw [hs] at hrec
        refine pcD hc (hKa p (k+1) q.1 q1.1 q.2 q1.2) ?_ hrec
        and_intros
        all_goals (first | exact zI | (exact hd) | (exact hg) | (exact c1) | (intro t ht;simp [All]))
  refine pcD hc (hKz p) ?_ (lo (p.2.1.1 - 1) 0 (by omega))
  and_intros
  all_goals (first | exact zI | (intro t ht;exact absurd ht (Nat.not_lt_zero _)) | (intro t ht;simp [All]))
def alS (p:T_Pinned):NB:=aS p.1.2.1.2 (hS p.2.1.2 (p.2.1.1 - 1)) p.1.2.1.1
theorem con_l20All (p:T_Pinned) (h1:0≤p.1.1) (hm:1≤p.2.1.1∧p.2.1.1≤8) (hn:p.1.2.1.1≤1000):zE 320 [pinA p] [(0,brOb (alS p).1 (alS p).2)] (.agg [.p (.int .i64 p.1.1),.ar 2 0 0 (alS p).1]):=by
  have c0:=con_l20Held p h1 hm
  have hn0:=hS_n p.2.1.2 (p.2.1.1 - 1)
  unfold alS
  refine csZ Tryz.func320 (fun c hc=>?_)
  have hN:((p.1.1.toNat:Nat):Int)=p.1.1:=by omega
  generalize hS p.2.1.2 (p.2.1.1 - 1)=r0 at c0 hn0 ⊢
  generalize hR:aS p.1.2.1.2 r0 p.1.2.1.1=R
  have lo:∀ d k,k+d=p.1.2.1.1→zR c 320 zf80 (SKa p k (aS p.1.2.1.2 r0 k).1 (aS p.1.2.1.2 r0 k).2) (Post c [(0,brOb R.1 R.2)] (.agg [.p (.int .i64 p.1.1),.ar 2 0 0 R.1])):=by
    intro d
    induction d with
    | zero =>
      intro k hk
      obtain rfl:k=p.1.2.1.1:=by omega
      have hd:decide ((p.1.2.1.1:Int)<(p.1.2.1.1:Int))=false:=by simp
      rw [hR]
      refine pkZ Tryz.func320 hc (hLe p p.1.2.1.1 R.1 R.2) ?_
      and_intros
      all_goals (first | exact zI | (exact hd) | (intro t ht;simp [All]))
    | succ d ih =>
      intro k hk
      have hd:decide ((k:Int)<(p.1.2.1.1:Int))=true:=decide_eq_true (by omega)
      have hrec:=ih (k+1) (by omega)
      have hnk:=aS_n p.1.2.1.2 r0 k
      rw [show aS p.1.2.1.2 r0 (k+1)=insR (aS p.1.2.1.2 r0 k).2 (aS p.1.2.1.2 r0 k).1 (p.1.2.1.2 k) from rfl] at hrec
      generalize aS p.1.2.1.2 r0 k=q at hnk hrec ⊢
      have c1:=con_l2Put q.2 q.1 p.1.1.toNat (p.1.2.1.2 k) (by omega)
      rw [grG,hN] at c1
      generalize insR q.2 q.1 (p.1.2.1.2 k)=q1 at c1 hrec
      refine pcD hc (hLa p k q.1 q1.1 q.2 q1.2) ?_ hrec
      and_intros
      all_goals (first | exact zI | (exact hd) | (exact c1) | (intro t ht;simp [All]))
  refine pcD hc (hLz p r0.1 r0.2) ?_ (lo p.1.2.1.1 0 (by omega))
  and_intros
  all_goals (first | exact zI | (exact c0) | (intro t ht;simp [All]))
def hlC (p:T_Pinned):NB:=hC p.2.1.2 p.2.1.1 p.2.1.1
def alC (p:T_Pinned):NB:=((hlC p).1+p.1.2.1.1,aC (hlC p) p.1.2.1.2)
def hlS (p:T_Pinned):NB:=hS p.2.1.2 (p.2.1.1 - 1)
noncomputable def rkN (N:Nat) (r:NB):Nat:=(accI N 2 3 r.2 r.1).length
def OkN (N:Nat) (r:NB):Prop:=OkBars N r.1 r.2
theorem okN_mem {N:Nat} {r:NB} (h:∀ y,mem r y→0≤y.1∧y.1<y.2.1∧y.2.1<N):OkN N r:=fun e he=>h _ ⟨e,he,rfl⟩
theorem okN_at {N:Nat} {r:NB} (h:OkN N r) {y:T_Bar} (hy:mem r y):0≤y.1∧y.1<y.2.1∧y.2.1<N:=by
  obtain ⟨e,he,rfl⟩:=hy
  exact h e he
structure PinOk (p:T_Pinned):Prop where
  N:1≤p.1.1∧p.1.1≤8
  m:2≤p.2.1.1∧p.2.1.1≤8
  nb:p.1.2.1.1≤15∧p.1.2.1.1+2*p.2.1.1≤27
  gr:∀ i,i<p.2.1.1→0≤p.2.1.2 i∧p.2.1.2 i<p.1.1
  asc:∀ i j,i<j→j<p.2.1.1→p.2.1.2 i<p.2.1.2 j
  bars:∀ i,i<p.1.2.1.1→0≤(p.1.2.1.2 i).1∧(p.1.2.1.2 i).1<(p.1.2.1.2 i).2.1∧(p.1.2.1.2 i).2.1<p.1.1
theorem pin_ok {p:T_Pinned} (h:pinnedF p=true):PinOk p:=by
  have h1:=pinned_in h
  have h2:=graph_inR h1.1
  simp only [pinnedF,Bool.and_eq_true] at h
  exact ⟨⟨h2.1,h2.2.1⟩,⟨h1.2.1,h1.2.2.1⟩,h1.2.2.2,fun i hi=>⟨(goodP_at h.1 i hi).1,(goodP_at h.1 i hi).2.1⟩,fun i j hij hj=>goodP_asc h.1 j i hij hj,
    fun i hi=>by have:=goodB_at h2.2.2.2 i hi;exact ⟨this.1,this.2.1,this.2.2.1⟩⟩
theorem PinOk.brx {p:T_Pinned} (h:PinOk p) {a b:Nat} (h1:a<b) (h2:b<p.2.1.1):brX (p.2.1.2 a) (p.2.1.2 b)=(p.2.1.2 a,p.2.1.2 b,()):=by
  have:=h.asc a b h1 h2
  simp only [brX]
  rw [if_neg (by omega),if_pos (by omega)]
theorem PinOk.okHS {p:T_Pinned} (h:PinOk p):OkN p.1.1.toNat (hlS p):=by
  refine okN_mem (fun y hy=>?_)
  have hN:=h.N;have hm:=h.m
  rw [hlS,hS_mem] at hy
  obtain ⟨b,h1,h2,h3⟩:=hy
  have gb:=h.gr b (by omega)
  rcases h3 with rfl | ⟨h3,rfl⟩
  · have g0:=h.gr 0 (by omega)
    have:=h.asc 0 b (by omega) (by omega)
    simp only;omega
  · have g1:=h.gr 1 (by omega)
    have:=h.asc 1 b (by omega) (by omega)
    simp only;omega
theorem PinOk.okHC {p:T_Pinned} (h:PinOk p):OkN p.1.1.toNat (hlC p):=by
  refine okN_mem (fun y hy=>?_)
  have hN:=h.N
  rw [hlC,hC_mem _ _ _ _ (Nat.le_refl _)] at hy
  obtain ⟨a,b,h1,h2,h3,rfl⟩:=hy
  have ga:=h.gr a (by omega);have gb:=h.gr b h3
  have:=h.asc a b h2 h3
  rw [h.brx h2 h3]
  simp only;omega
theorem PinOk.okAS {p:T_Pinned} (h:PinOk p):OkN p.1.1.toNat (alS p):=by
  refine okN_mem (fun y hy=>?_)
  have hN:=h.N
  rw [alS,aS_mem] at hy
  rcases hy with hy | ⟨i,h1,rfl⟩
  · exact okN_at h.okHS hy
  · have:=h.bars i h1;omega
theorem PinOk.okAC {p:T_Pinned} (h:PinOk p):OkN p.1.1.toNat (alC p):=by
  refine okN_mem (fun y hy=>?_)
  have hN:=h.N
  rw [alC,aC_mem] at hy
  rcases hy with hy | ⟨i,h1,rfl⟩
  · exact okN_at h.okHC hy
  · have:=h.bars i h1;omega
theorem rkN_rk (N:Nat) (r:NB):rkN N r=Mat.rk N (bL r.2 r.1):=acc_len N 2 3 r.2 r.1
theorem bL_in (r:NB) (x:Nat×Nat):x∈bL r.2 r.1↔∃ y,mem r y∧brN y=x:=by
  rw [bL_mem]
  constructor
  · rintro ⟨s,h1,h2⟩;exact ⟨_,⟨s,h1,rfl⟩,h2⟩
  · rintro ⟨y,⟨s,h1,rfl⟩,h2⟩;exact ⟨s,h1,h2⟩
theorem PinOk.grd {p:T_Pinned} (h:PinOk p):Mat.Grd p.1.1.toNat p.2.1.1 (fun i=>(p.2.1.2 i).toNat) (bL (hlS p).2 (hlS p).1) where
  two:=h.m.1
  lt i hi:=by have:=h.gr i hi;show (p.2.1.2 i).toNat<_;omega
  ne i j hij hj:=by have:=h.asc i j hij hj;have:=h.gr i (by omega);show (p.2.1.2 i).toNat≠(p.2.1.2 j).toNat;omega
  b0 i h1 h2:=by
    rw [bL_in]
    refine ⟨(p.2.1.2 0,p.2.1.2 i,()),?_,rfl⟩
    rw [hlS,hS_mem]
    exact ⟨i,h1,by omega,.inl rfl⟩
  b1 i h1 h2:=by
    rw [bL_in]
    refine ⟨(p.2.1.2 1,p.2.1.2 i,()),?_,rfl⟩
    rw [hlS,hS_mem]
    exact ⟨i,by omega,by omega,.inr ⟨h1,rfl⟩⟩
theorem PinOk.same {p:T_Pinned} (h:PinOk p) {r q:NB} (hr:OkN p.1.1.toNat r) (hq:OkN p.1.1.toNat q) (hs:∀ y,mem (hlS p) y→mem r y) (h1:∀ y,mem r y→mem q y)
    (h2:∀ y,mem q y→mem r y∨mem (hlC p) y):rkN p.1.1.toNat q=rkN p.1.1.toNat r:=by
  rw [rkN_rk,rkN_rk]
  refine h.grd.same (bL_good hr) (bL_good hq) (fun x hx=>?_) (fun x hx=>?_) (fun x hx=>?_)
  · rw [bL_in] at hx ⊢
    obtain ⟨y,h3,h4⟩:=hx
    exact ⟨y,hs y h3,h4⟩
  · rw [bL_in] at hx ⊢
    obtain ⟨y,h3,h4⟩:=hx
    exact ⟨y,h1 y h3,h4⟩
  · rw [bL_in] at hx
    obtain ⟨y,h3,h4⟩:=hx
    rcases h2 y h3 with h5 | h5
    · exact .inl ((bL_in _ _).2 ⟨y,h5,h4⟩)
    · rw [hlC,hC_mem _ _ _ _ (Nat.le_refl _)] at h5
      obtain ⟨a,b,h6,h7,h8,rfl⟩:=h5
      rw [h.brx h7 h8] at h4
      exact .inr ⟨a,b,h6,h8,h4.symm⟩
theorem PinOk.few {p:T_Pinned} (h:PinOk p) (y:T_Bar) (hy:mem (hlS p) y):mem (hlC p) y:=by
  have hm:=h.m
  rw [hlS,hS_mem] at hy
  rw [hlC,hC_mem _ _ _ _ (Nat.le_refl _)]
  obtain ⟨b,h1,h2,h3⟩:=hy
  rcases h3 with rfl | ⟨h3,rfl⟩
  · exact ⟨0,b,by omega,by omega,by omega,h.brx (by omega) (by omega)⟩
  · exact ⟨1,b,by omega,by omega,by omega,h.brx (by omega) (by omega)⟩
theorem PinOk.rkH {p:T_Pinned} (h:PinOk p):rkN p.1.1.toNat (hlC p)=rkN p.1.1.toNat (hlS p) :=
  h.same h.okHS h.okHC (fun y hy=>hy) h.few (fun y hy=>.inr hy)
theorem PinOk.rkA {p:T_Pinned} (h:PinOk p):rkN p.1.1.toNat (alC p)=rkN p.1.1.toNat (alS p):=by
  refine h.same h.okAS h.okAC (fun y hy=>?_) (fun y hy=>?_) (fun y hy=>?_)
  · rw [alS,aS_mem];exact .inl hy
  · rw [alS,aS_mem] at hy
    rw [alC,aC_mem]
    rcases hy with hy | hy
    · exact .inl (h.few y hy)
    · exact .inr hy
  · rw [alC,aC_mem] at hy
    rw [alS,aS_mem]
    rcases hy with hy | hy
    · exact .inr hy
    · exact .inl (.inr hy)
noncomputable def prG (p:T_Pinned):Int:=if pinnedF p=true then (rkN p.1.1.toNat (alS p):Int) - (rkN p.1.1.toNat (hlS p):Int) else -1
theorem accI_le (N k l:Nat) (g:Nat→T_Bar):∀ n,(accI N k l g n).length≤n
  | 0=>Nat.le_refl _
  | n+1=>by
    have:=accI_le N k l g n
    simp only [accI]
    split
    · simp;omega
    · omega
theorem PinOk.nC {p:T_Pinned} (h:PinOk p):(hlC p).1≤64:=by
  have:=hC_n p.2.1.2 p.2.1.1 p.2.1.1
  exact Nat.le_trans this (Nat.mul_le_mul h.m.2 h.m.2)
theorem PinOk.nS {p:T_Pinned} (h:PinOk p):(hlS p).1+p.1.2.1.1≤24:=by
  have:=(hS_n p.2.1.2 (p.2.1.1 - 1)).2 (by have:=h.m;omega)
  have:=h.m;have:=h.nb
  unfold hlS;omega
theorem alS_n (p:T_Pinned):(alS p).1=(hlS p).1+p.1.2.1.1:=aS_n _ _ _
theorem con_PinnedRank_i (p:T_Pinned) (hs:smS s_Pinned p):zE 325 [pinA p] [] (.p (.int .i64 (prG p))):=by
  have c1:=con_IsPinned_i p hs
  cases hp:pinnedF p with
  | false =>
    rw [hp] at c1
    rw [show prG p = -1 by simp [prG,hp]]
    refine csZ Tryz.func325 (fun c hc=>?_)
    refine pkZ Tryz.func325 hc (hPn p) ?_
    and_intros
    all_goals (first | exact zN | (exact c1) | (simp;done))
  | true =>
    rw [hp] at c1
    have ok:=pin_ok hp
    have hN:=ok.N;have hm:=ok.m;have hnb:=ok.nb;have hnC:=ok.nC
    have ch:=con_held p hm.2
    have cr1:=con_planeRank ok.okAC (by omega) (by show (hlC p).1+p.1.2.1.1≤1048576;omega)
    have cr0:=con_planeRank ok.okHC (by omega) (by omega)
    have hNz:((p.1.1.toNat:Nat):Int)=p.1.1:=by omega
    rw [hNz] at cr1 cr0
    have hr1:(accI p.1.1.toNat 2 3 (alC p).2 (alC p).1).length=rkN p.1.1.toNat (alS p):=ok.rkA
    have hr0:(accI p.1.1.toNat 2 3 (hlC p).2 (hlC p).1).length=rkN p.1.1.toNat (hlS p):=ok.rkH
    have hb1:rkN p.1.1.toNat (alS p)≤24:=by
      have:=accI_le p.1.1.toNat 2 3 (alS p).2 (alS p).1
      have:=alS_n p;have:=ok.nS
      unfold rkN;omega
    have hb0:rkN p.1.1.toNat (hlS p)≤24:=by
      have:=accI_le p.1.1.toNat 2 3 (hlS p).2 (hlS p).1
      have:=ok.nS
      unfold rkN;omega
    rw [hr1] at cr1
    rw [hr0] at cr0
    rw [show prG p=(rkN p.1.1.toNat (alS p):Int) - (rkN p.1.1.toNat (hlS p):Int) by simp [prG,hp]]
    rw [show hC p.2.1.2 p.2.1.1 p.2.1.1=hlC p from rfl] at ch
    refine csZ Tryz.func325 (fun c hc=>?_)
    refine pkD Tryz.func325 hc (hPy p (hlC p).1 (hlC p).2 (rkN p.1.1.toNat (alS p)) (rkN p.1.1.toNat (hlS p))) ?_
    repeat' (first | exact aN | apply aI)
    all_goals (first | exact zN | (exact c1) | (exact ch) | (exact cr0) | (refine Con.arg_ext cr1 ?_;simp only [brL,wkL,wk,wkP,beq_self_eq_true,Bool.and_self,if_true,ikEq,List.append_nil,List.cons_append,List.nil_append,All];refine ⟨trivial,rfl,fun i hi=>?_,trivial⟩;by_cases h:i<(hlC p).1<;>simp [h,cellP,tg,tru,alC,aC]))
theorem con_PinnedRank_s (p:T_Pinned) (hs:smS s_Pinned p):zE 319 [pinA p] [] (.p (.int .i64 (prG p))):=by
  have c1:=con_IsPinned_s p hs
  cases hp:pinnedF p with
  | false =>
    rw [hp] at c1
    rw [show prG p = -1 by simp [prG,hp]]
    refine csZ Tryz.func319 (fun c hc=>?_)
    refine pkZ Tryz.func319 hc (hQn p) ?_
    and_intros
    all_goals (first | exact zN | (exact c1) | (simp;done))
  | true =>
    rw [hp] at c1
    have ok:=pin_ok hp
    have hN:=ok.N;have hm:=ok.m;have hnb:=ok.nb;have hnS:=ok.nS;have haS:=alS_n p
    have ch:=con_l20Held p (by omega) (by omega)
    have ca:=con_l20All p (by omega) (by omega) (by omega)
    have cr1:=con_l6Rank ok.okAS (by omega) (by omega)
    have cr0:=con_l6Rank ok.okHS (by omega) (by omega)
    have hNz:((p.1.1.toNat:Nat):Int)=p.1.1:=by omega
    rw [grG,hNz] at cr1 cr0
    have hb1:rkN p.1.1.toNat (alS p)≤24:=by
      have:=accI_le p.1.1.toNat 2 3 (alS p).2 (alS p).1
      unfold rkN;omega
    have hb0:rkN p.1.1.toNat (hlS p)≤24:=by
      have:=accI_le p.1.1.toNat 2 3 (hlS p).2 (hlS p).1
      unfold rkN;omega
    rw [show prG p=(rkN p.1.1.toNat (alS p):Int) - (rkN p.1.1.toNat (hlS p):Int) by simp [prG,hp]]
    rw [show hS p.2.1.2 (p.2.1.1 - 1)=hlS p from rfl] at ch
    refine csZ Tryz.func319 (fun c hc=>?_)
    refine pkZ Tryz.func319 hc (hQy p (alS p).1 (hlS p).1 (alS p).2 (hlS p).2 (rkN p.1.1.toNat (alS p)) (rkN p.1.1.toNat (hlS p))) ?_
    and_intros
    all_goals (first | exact zN | (exact c1) | (exact ch) | (exact ca) | (exact cr0) | (exact cr1))
def SNs (p:T_Pinned) (v n:Nat) (h:Nat→Int):St :=
  ⟨[pinA p,.pt 3 0 0 0,.p .any,.ar 1 1 0 n,.p (.int .i64 v)]++List.replicate 22 anyA,[(0,boxP p),(1,iOb n h)],2⟩
def SNi (p:T_Pinned) (v n:Nat) (h:Nat→Int):St :=
  ⟨[pinA p,.pt 3 0 0 0,.p .any,.ar 1 1 0 n]++List.replicate 8 anyA++[.p (.int .i64 p.1.1),.p (.int .i64 v)]++List.replicate 13 anyA,[(0,boxP p),(1,iOb n h)],2⟩
def snI (n:Nat) (h:Nat→Int) (x:Int) (s:Nat):Int:=if s<n then h s else x
theorem nSz (p:T_Pinned) :
    zT Tryz.f247 [rg 2,rg 2,rg 1,.head] [pinA p] [0,64] (SNs p 0 0 (fun _=>0)) =
    some (zf81,zD [(AI p.1.1),(AN p.1.2.1.1),(AP p.1.2.1.1 (fun i=>[.int .i64 ((p.1.2.1.2 i).1),.int .i64 ((p.1.2.1.2 i).2.1)])),(AN p.2.1.1),(AP p.2.1.1 (fun i=>[.int .i64 (p.2.1.2 i)])),(AN 0),((0:Int)=(↑0:Int)),((([AV.p (PV.int IntKind.i64 p.1.1),graphL p.1.2.1,inL p.2.1].length):Nat)=3),(NL 1 1),(AN 1),(NL 0 0),(AA 0 (fun i=>[.p (.int .i64 0)]))] [0,1,2,3,4,5,5,5,6,7,8,8,0,1,2,3,4,9,10,11]):=by kernel_rfl
theorem nSa (p:T_Pinned) (v n:Nat) (h:Nat→Int) (b:Bool) :
    zM 0 [rm [(7,oc [] (.p (.bool b)))] 1,.dec true,rm [(3,oc [] (.p (.bool false)))] 1,.dec true,rg 5,rg 3,.head] zf81 (SNs p v n h) [0,546] 1 (SNs p (v+1) (n+1) (snI n h v)) =
    some (zf81,zD [(NT 0 1),(((decide ((↑v:Int)<p.1.1))=true)→(NT 0 1)),(AG (decide ((↑v:Int)<p.1.1))),(((decide ((↑v:Int)<p.1.1))=true)→ zE 240 [(zf31 p)] [] (.p (.bool b))),((bif decide ((↑v:Int)<p.1.1) then b else false)=true),zE 172 [.p (.seq true 1 p.2.1.1 (fun i=>[.int .i64 (p.2.1.2 i)])),.p (.int .i64 (↑v:Int))] [] (.p (.bool false)),((!false)=true),(NL 1 1),(NL n n),(NL ((n+1)*8) 140737488355328),(NL (n+1) 9223372036854775807),(ZLo ((↑v:Int)+1)),(ZHi ((↑v:Int)+1)),(AI p.1.1),(AN p.1.2.1.1),(AP p.1.2.1.1 (fun i=>[.int .i64 ((p.1.2.1.2 i).1),.int .i64 ((p.1.2.1.2 i).2.1)])),(AN p.2.1.1),(AP p.2.1.1 (fun i=>[.int .i64 (p.2.1.2 i)])),(AN 0),(AN ((n+1))),((((↑v:Int)+1):Int)=(↑(v+1):Int)),(AN 3),(AN 1),(NL (n+1) (n+1)),(CV [(546,⟨false,1,(n+1),(fun i_1=>(if (i_1<n) then [.p (.int .i64 (h i_1))] else [.p (.int .i64 (↑v:Int))]))⟩),(514,⟨false,1,1,(fun i_1=>[.p (.int .i64 (↑v:Int))])⟩),(0,⟨true,3,1,(fun i_1=>[.p (.int .i64 p.1.1),.p (.seq true 2 p.1.2.1.1 (fun i_2=>[.int .i64 ((p.1.2.1.2 i_2).1),.int .i64 ((p.1.2.1.2 i_2).2.1)])),.p (.seq true 1 p.2.1.1 (fun i_2=>[.int .i64 (p.2.1.2 i_2)]))])⟩)] [0,546] 1 (n+1) (fun i=>if (i<n) then [.p (.int .i64 (h i))] else [.p (.int .i64 (↑v:Int))]) (fun i=>[.p (.int .i64 (snI n h (↑v:Int) i))]))] [0,1,2,3,2,4,0,5,6,7,8,9,10,11,12,13,14,15,16,17,18,18,19,20,21,7,7,13,14,15,16,17,22,23,24]):=by kernel_rfl
theorem nSb (p:T_Pinned) (v n:Nat) (h:Nat→Int) (b:Bool) :
    zM 0 [rm [(7,oc [] (.p (.bool b)))] 1,.dec true,rm [(3,oc [] (.p (.bool true)))] 1,.dec false,rg 3,.head] zf81 (SNs p v n h) [0,1] 1 (SNs p (v+1) n h) =
    some (zf81,zD [(NT 0 1),(((decide ((↑v:Int)<p.1.1))=true)→(NT 0 1)),(AG (decide ((↑v:Int)<p.1.1))),(((decide ((↑v:Int)<p.1.1))=true)→ zE 240 [(zf31 p)] [] (.p (.bool b))),((bif decide ((↑v:Int)<p.1.1) then b else false)=true),zE 172 [.p (.seq true 1 p.2.1.1 (fun i=>[.int .i64 (p.2.1.2 i)])),.p (.int .i64 (↑v:Int))] [] (.p (.bool true)),((!true)=false),(ZLo ((↑v:Int)+1)),(ZHi ((↑v:Int)+1)),(AI p.1.1),(AN p.1.2.1.1),(AP p.1.2.1.1 (fun i=>[.int .i64 ((p.1.2.1.2 i).1),.int .i64 ((p.1.2.1.2 i).2.1)])),(AN p.2.1.1),(AP p.2.1.1 (fun i=>[.int .i64 (p.2.1.2 i)])),(AN 0),(AN n),((((↑v:Int)+1):Int)=(↑(v+1):Int)),(AN 3),(NL 1 1),(AN 1),(NL n n),(AA n (fun i=>[.p (.int .i64 (h i))]))] [0,1,2,3,2,4,0,5,6,7,8,9,10,11,12,13,14,14,15,16,17,18,18,9,10,11,12,13,19,20,21]):=by kernel_rfl
theorem nSe (p:T_Pinned) (v n:Nat) (h:Nat→Int) (b:Bool) :
    zP Tryz.f247 0 [rm [(7,oc [] (.p (.bool b)))] 1,.dec false,rg 2] zf81 (SNs p v n h) [1] 1 [(0,iOb n h)] (.ar 1 0 0 n) =
    some [(NT 0 1),(((decide ((↑v:Int)<p.1.1))=true)→(NT 0 1)),(AG (decide ((↑v:Int)<p.1.1))),(((decide ((↑v:Int)<p.1.1))=true)→ zE 240 [(zf31 p)] [] (.p (.bool b))),(AG (decide ((↑v:Int)<p.1.1))),((bif decide ((↑v:Int)<p.1.1) then b else false)=false),(AN 0),(AN n),(AN 1),(NL n n),(AA n (fun i=>[.p (.int .i64 (h i))])),(AE n)]:=by kernel_rfl
theorem nIn (p:T_Pinned) :
    zS Tryz.f254 [rg 2,rg 2,rm [(1,oc [] (.p (.bool false)))] 1,.dec true,rg 2] [pinA p] [64] [(0,iOb 0 (fun _=>0))] (.ar 1 0 0 0) =
    some [(NT 0 1),zE 142 [(zf31 p)] [] (.p (.bool false)),((!false)=true),(AN 0),(AN 0),(AN 1),(NL 0 0),(AA 0 (fun i=>[.p (.int .i64 0)])),(AE 0)]:=by kernel_rfl
theorem nIz (p:T_Pinned) :
    zT Tryz.f254 [rg 2,rg 2,rm [(1,oc [] (.p (.bool true)))] 1,.dec false,rg 4,.head] [pinA p] [0,64] (SNi p 0 0 (fun _=>0)) =
    some (zf67,zD [(NT 0 1),zE 142 [(zf31 p)] [] (.p (.bool true)),((!true)=false),(AI p.1.1),(AN p.1.2.1.1),(AP p.1.2.1.1 (fun i=>[.int .i64 ((p.1.2.1.2 i).1),.int .i64 ((p.1.2.1.2 i).2.1)])),(AN p.2.1.1),(AP p.2.1.1 (fun i=>[.int .i64 (p.2.1.2 i)])),(AN 0),((0:Int)=(↑0:Int)),((([AV.p (PV.int IntKind.i64 p.1.1),graphL p.1.2.1,inL p.2.1].length):Nat)=3),(NL 1 1),(AN 1),(NL 0 0),(AA 0 (fun i=>[.p (.int .i64 0)]))] [0,1,2,0,3,4,5,6,7,8,8,8,3,9,10,11,11,3,4,5,6,7,12,13,14]):=by kernel_rfl
theorem nIa (p:T_Pinned) (v n:Nat) (h:Nat→Int) :
    zM 0 [rg 1,.dec true,rg 2,rm [(3,oc [] (.p (.bool false)))] 1,.dec true,rg 5,rg 2,.head] zf67 (SNi p v n h) [0,354] 1 (SNi p (v+1) (n+1) (snI n h v)) =
    some (zf67,zD [((decide ((↑v:Int)<p.1.1))=true),(NT 0 1),zE 184 [.p (.seq true 1 p.2.1.1 (fun i=>[.int .i64 (p.2.1.2 i)])),.p (.int .i64 (↑v:Int))] [] (.p (.bool false)),((!false)=true),(NL 1 1),(NL n n),(NL ((n+1)*8) 140737488355328),(NL (n+1) 9223372036854775807),(ZLo ((↑v:Int)+1)),(ZHi ((↑v:Int)+1)),(AI p.1.1),(AN p.1.2.1.1),(AP p.1.2.1.1 (fun i=>[.int .i64 ((p.1.2.1.2 i).1),.int .i64 ((p.1.2.1.2 i).2.1)])),(AN p.2.1.1),(AP p.2.1.1 (fun i=>[.int .i64 (p.2.1.2 i)])),(AN 0),(AN ((n+1))),((((↑v:Int)+1):Int)=(↑(v+1):Int)),(AN 3),(AN 1),(NL (n+1) (n+1)),(CV [(354,⟨false,1,(n+1),(fun i_1=>(if (i_1<n) then [.p (.int .i64 (h i_1))] else [.p (.int .i64 (↑v:Int))]))⟩),(322,⟨false,1,1,(fun i_1=>[.p (.int .i64 (↑v:Int))])⟩),(0,⟨true,3,1,(fun i_1=>[.p (.int .i64 p.1.1),.p (.seq true 2 p.1.2.1.1 (fun i_2=>[.int .i64 ((p.1.2.1.2 i_2).1),.int .i64 ((p.1.2.1.2 i_2).2.1)])),.p (.seq true 1 p.2.1.1 (fun i_2=>[.int .i64 (p.2.1.2 i_2)]))])⟩)] [0,354] 1 (n+1) (fun i=>if (i<n) then [.p (.int .i64 (h i))] else [.p (.int .i64 (↑v:Int))]) (fun i=>[.p (.int .i64 (snI n h (↑v:Int) i))]))] [0,1,2,3,4,5,6,7,8,9,10,11,12,13,14,15,15,16,10,17,18,4,4,10,11,12,13,14,19,20,21]):=by kernel_rfl
theorem nIb (p:T_Pinned) (v n:Nat) (h:Nat→Int) :
    zM 0 [rg 1,.dec true,rg 2,rm [(3,oc [] (.p (.bool true)))] 1,.dec false,rg 2,.head] zf67 (SNi p v n h) [0,1] 1 (SNi p (v+1) n h) =
    some (zf67,zD [((decide ((↑v:Int)<p.1.1))=true),(NT 0 1),zE 184 [.p (.seq true 1 p.2.1.1 (fun i=>[.int .i64 (p.2.1.2 i)])),.p (.int .i64 (↑v:Int))] [] (.p (.bool true)),((!true)=false),(ZLo ((↑v:Int)+1)),(ZHi ((↑v:Int)+1)),(AI p.1.1),(AN p.1.2.1.1),(AP p.1.2.1.1 (fun i=>[.int .i64 ((p.1.2.1.2 i).1),.int .i64 ((p.1.2.1.2 i).2.1)])),(AN p.2.1.1),(AP p.2.1.1 (fun i=>[.int .i64 (p.2.1.2 i)])),(AN 0),(AN n),((((↑v:Int)+1):Int)=(↑(v+1):Int)),(AN 3),(NL 1 1),(AN 1),(NL n n),(AA n (fun i=>[.p (.int .i64 (h i))]))] [0,1,2,3,4,5,6,7,8,9,10,11,11,12,6,13,14,15,15,6,7,8,9,10,16,17,18]):=by kernel_rfl
theorem nIe (p:T_Pinned) (v n:Nat) (h:Nat→Int) :
    zP Tryz.f254 0 [rg 1,.dec false,rg 2] zf67 (SNi p v n h) [1] 1 [(0,iOb n h)] (.ar 1 0 0 n) =
    some [((decide ((↑v:Int)<p.1.1))=false),(AN 0),(AN n),(AN 1),(NL n n),(AA n (fun i=>[.p (.int .i64 (h i))])),(AE n)]:=by kernel_rfl
theorem fFn (p:T_Pinned) :
    zS Tryz.f249 [rg 2,rm [(1,oc [] (.p (.bool false)))] 1,.dec true,rg 1] [pinA p] [] [] (.p (.int .i64 (-1))) =
    some [(NT 0 1),zE 142 [(zf31 p)] [] (.p (.bool false)),((!false)=true),(AI ((-1)))]:=by kernel_rfl
theorem fFy (p:T_Pinned) (n:Nat) (h:Nat→Int) (r:Int) :
    zS Tryz.f249 [rg 2,rm [(1,oc [] (.p (.bool true)))] 1,.dec false,rm [(1,oc [(0,iOb n h)] (.ar 1 0 0 n)),(3,oc [] (.p (.int .i64 r)))] 2] [pinA p] [] [] (.p (.int .i64 (2*(n:Int) - r))) =
    some [(NT 0 1),zE 142 [(zf31 p)] [] (.p (.bool true)),((!true)=false),(NT 0 1),zE 254 [(zf31 p)] [(0,⟨false,1,n,(fun i=>[.p (.int .i64 (h i))])⟩)] (.ar 1 0 0 n),(ZLo (2*(↑n:Int))),(ZHi (2*(↑n:Int))),(NT 0 1),zE 325 [(zf31 p)] [] (.p (.int .i64 r)),(ZLo (2*(↑n:Int) - r)),(ZHi (2*(↑n:Int) - r)),(AI ((2*(↑n:Int) - r)))]:=by kernel_rfl
theorem fGn (p:T_Pinned) :
    zS Tryz.f241 [rg 2,rm [(1,oc [] (.p (.bool false)))] 1,.dec true,rg 1] [pinA p] [] [] (.p (.int .i64 (-1))) =
    some [(NT 0 1),zE 240 [(zf31 p)] [] (.p (.bool false)),((!false)=true),(AI ((-1)))]:=by kernel_rfl
theorem fGy (p:T_Pinned) (n:Nat) (h:Nat→Int) (r:Int) :
    zS Tryz.f241 [rg 2,rm [(1,oc [] (.p (.bool true)))] 1,.dec false,rm [(1,oc [(0,iOb n h)] (.ar 1 0 0 n)),(3,oc [] (.p (.int .i64 r)))] 2] [pinA p] [] [] (.p (.int .i64 (2*(n:Int) - r))) =
    some [(NT 0 1),zE 240 [(zf31 p)] [] (.p (.bool true)),((!true)=false),(NT 0 1),zE 247 [(zf31 p)] [(0,⟨false,1,n,(fun i=>[.p (.int .i64 (h i))])⟩)] (.ar 1 0 0 n),(ZLo (2*(↑n:Int))),(ZHi (2*(↑n:Int))),(NT 0 1),zE 319 [(zf31 p)] [] (.p (.int .i64 r)),(ZLo (2*(↑n:Int) - r)),(ZHi (2*(↑n:Int) - r)),(AI ((2*(↑n:Int) - r)))]:=by kernel_rfl
theorem fRi (p:T_Pinned) (r:Int) :
    zS Tryz.f416 [rg 2,rm [(1,oc [] (.p (.int .i64 r)))] 2] [pinA p] [] [] (.p (.bool (r==0))) =
    some [(NT 0 1),zE 249 [(zf31 p)] [] (.p (.int .i64 r)),((r==0)=(r==0))]:=by kernel_rfl
theorem fRs (p:T_Pinned) (r:Int) :
    zS Tryz.f359 [rg 2,rm [(1,oc [] (.p (.int .i64 r)))] 2] [pinA p] [] [] (.p (.bool (r==0))) =
    some [(NT 0 1),zE 241 [(zf31 p)] [] (.p (.int .i64 r)),((r==0)=(r==0))]:=by kernel_rfl
abbrev NI:=Nat×(Nat→Int)
def zNI:NI:=(0,fun _=>0)
def snN (r:NI) (x:Int):NI:=(r.1+1,snI r.1 r.2 x)
def inrD (p:T_Pinned):Nat→NI
  | 0=>zNI
  | v+1=>if hasI p.2.1.2 v p.2.1.1=true then inrD p v else snN (inrD p v) v
def inrP (p:T_Pinned):NI:=if pinnedF p=true then inrD p p.1.1.toNat else zNI
theorem inrD_n (p:T_Pinned):∀ v,(inrD p v).1≤v
  | 0=>Nat.le_refl _
  | v+1=>by
    have:=inrD_n p v
    simp only [inrD]
    split
    · omega
    · simp only [snN];omega
theorem inrP_n (p:T_Pinned):(inrP p).1≤8:=by
  unfold inrP
  split
  · rename_i h
    have:=(pin_ok h).N
    have:=inrD_n p p.1.1.toNat
    omega
  · exact Nat.zero_le _
theorem con_InnerPoints_s (p:T_Pinned) (hs:smS s_Pinned p):zE 247 [pinA p] [(0,iOb (inrP p).1 (inrP p).2)] (.ar 1 0 0 (inrP p).1):=by
  have hg:p.2.1.1≤1048576:=hs.2.1.1
  have c1:=con_IsPinned_s p hs
  refine csZ Tryz.func247 (fun c hc=>?_)
  cases hp:pinnedF p with
  | false =>
    rw [hp] at c1
    rw [show inrP p=zNI by simp [inrP,hp]]
    have hd:(bif decide (((0:Nat):Int)<p.1.1) then false else false)=false:=by cases decide (((0:Nat):Int)<p.1.1)<;>rfl
    have he:zR c 247 zf81 (SNs p 0 0 (fun _=>0)) (Post c [(0,iOb zNI.1 zNI.2)] (.ar 1 0 0 zNI.1)):=by
      refine pkZ Tryz.func247 hc (nSe p 0 0 (fun _=>0) false) ?_
      and_intros
      all_goals (first | exact zI | (intros;exact c1) | (exact hd) | (intro t ht;exact absurd ht (Nat.not_lt_zero _)) | (intro t ht;simp [All]))
    refine pcD hc (nSz p) ?_ he
    and_intros
    all_goals (first | exact zN | (intro t ht;exact absurd ht (Nat.not_lt_zero _)) | (intro t ht;simp [All]))
  | true =>
    have ok:=pin_ok hp
    have hN:=ok.N
    rw [hp] at c1
    rw [show inrP p=inrD p p.1.1.toNat by simp [inrP,hp]]
    generalize hR:inrD p p.1.1.toNat=R
    have lo:∀ d v,v+d=p.1.1.toNat→zR c 247 zf81 (SNs p v (inrD p v).1 (inrD p v).2) (Post c [(0,iOb R.1 R.2)] (.ar 1 0 0 R.1)):=by
      intro d
      induction d with
      | zero =>
        intro v hv
        obtain rfl:v=p.1.1.toNat:=by omega
        have hd:(bif decide (((p.1.1.toNat:Nat):Int)<p.1.1) then true else false)=false:=by
          rw [show decide (((p.1.1.toNat:Nat):Int)<p.1.1)=false from decide_eq_false (by omega)];rfl
        rw [hR]
        refine pkZ Tryz.func247 hc (nSe p p.1.1.toNat R.1 R.2 true) ?_
        and_intros
        all_goals (first | exact zI | (exact hd) | (intros;exact c1) | (intro t ht;simp [All]))
      | succ d ih =>
        intro v hv
        have hrec:=ih (v+1) (by omega)
        have hd:(bif decide ((v:Int)<p.1.1) then true else false)=true:=by
          rw [show decide ((v:Int)<p.1.1)=true from decide_eq_true (by omega)];rfl
        have ch:=con_l2Has p.2.1 v hg
        have hn:=inrD_n p v
        by_cases hh:hasI p.2.1.2 v p.2.1.1=true
        · rw [hh] at ch
          rw [show inrD p (v+1)=inrD p v by simp only [inrD,hh,if_true]] at hrec
          generalize inrD p v=q at hn hrec ⊢
          refine pcD hc (nSb p v q.1 q.2 true) ?_ hrec
          and_intros
          all_goals (first | exact zI | (exact hd) | (intros;exact c1) | (exact ch) | (intro t ht;simp [All]))
        · rw [Bool.not_eq_true] at hh
          rw [hh] at ch
          rw [show inrD p (v+1)=snN (inrD p v) v by simp [inrD,hh]] at hrec
          generalize inrD p v=q at hn hrec ⊢
          refine pcD hc (nSa p v q.1 q.2 true) ?_ hrec
          and_intros
          all_goals (first | exact zI | (exact hd) | (intros;exact c1) | (exact ch) | (intro t ht;by_cases h':t<q.1<;>simp [h',snI,cvtL,cvt,tg,tru,All]))
    refine pcD hc (nSz p) ?_ (lo p.1.1.toNat 0 (by omega))
    and_intros
    all_goals (first | exact zN | (intro t ht;exact absurd ht (Nat.not_lt_zero _)) | (intro t ht;simp [All]))
theorem con_InnerPoints_i (p:T_Pinned) (hs:smS s_Pinned p):zE 254 [pinA p] [(0,iOb (inrP p).1 (inrP p).2)] (.ar 1 0 0 (inrP p).1):=by
  have hg:p.2.1.1≤1048576:=hs.2.1.1
  have c1:=con_IsPinned_i p hs
  refine csZ Tryz.func254 (fun c hc=>?_)
  cases hp:pinnedF p with
  | false =>
    rw [hp] at c1
    rw [show inrP p=zNI by simp [inrP,hp]]
    refine pkZ Tryz.func254 hc (nIn p) ?_
    and_intros
    all_goals (first | exact zN | (exact c1) | (intro t ht;exact absurd ht (Nat.not_lt_zero _)) | (intro t ht;simp [All]))
  | true =>
    have ok:=pin_ok hp
    have hN:=ok.N
    rw [hp] at c1
    rw [show inrP p=inrD p p.1.1.toNat by simp [inrP,hp]]
    generalize hR:inrD p p.1.1.toNat=R
    have lo:∀ d v,v+d=p.1.1.toNat→zR c 254 zf67 (SNi p v (inrD p v).1 (inrD p v).2) (Post c [(0,iOb R.1 R.2)] (.ar 1 0 0 R.1)):=by
      intro d
      induction d with
      | zero =>
        intro v hv
        obtain rfl:v=p.1.1.toNat:=by omega
        have hd:decide (((p.1.1.toNat:Nat):Int)<p.1.1)=false:=decide_eq_false (by omega)
        rw [hR]
        refine pkZ Tryz.func254 hc (nIe p p.1.1.toNat R.1 R.2) ?_
        and_intros
        all_goals (first | exact zN | (exact hd) | (intro t ht;simp [All]))
      | succ d ih =>
        intro v hv
        have hrec:=ih (v+1) (by omega)
        have hd:decide ((v:Int)<p.1.1)=true:=decide_eq_true (by omega)
        have ch:=con_Contains p.2.1 v hg
        have hn:=inrD_n p v
        by_cases hh:hasI p.2.1.2 v p.2.1.1=true
        · rw [hh] at ch
          rw [show inrD p (v+1)=inrD p v by simp only [inrD,hh,if_true]] at hrec
          generalize inrD p v=q at hn hrec ⊢
          refine pcD hc (nIb p v q.1 q.2) ?_ hrec
          and_intros
          all_goals (first | exact zN | (exact hd) | (exact ch) | (intro t ht;simp [All]))
        · rw [Bool.not_eq_true] at hh
          rw [hh] at ch
          rw [show inrD p (v+1)=snN (inrD p v) v by simp [inrD,hh]] at hrec
          generalize inrD p v=q at hn hrec ⊢
          refine pcD hc (nIa p v q.1 q.2) ?_ hrec
          and_intros
          all_goals (first | exact zN | (exact hd) | (exact ch) | (intro t ht;by_cases h':t<q.1<;>simp [h',snI,cvtL,cvt,tg,tru,All]))
    refine pcD hc (nIz p) ?_ (lo p.1.1.toNat 0 (by omega))
    and_intros
    all_goals (first | exact zN | (exact c1) | (intro t ht;exact absurd ht (Nat.not_lt_zero _)) | (intro t ht;simp [All]))
noncomputable def frG (p:T_Pinned):Int:=if pinnedF p=true then 2*((inrP p).1:Int) - prG p else -1
theorem prG_in (p:T_Pinned):-24≤prG p∧prG p≤24:=by
  unfold prG
  split
  · rename_i h
    have ok:=pin_ok h
    have h1:=accI_le p.1.1.toNat 2 3 (alS p).2 (alS p).1
    have h2:=accI_le p.1.1.toNat 2 3 (hlS p).2 (hlS p).1
    have:=alS_n p;have:=ok.nS
    unfold rkN;omega
  · omega
theorem con_PinnedFreedom_i (p:T_Pinned) (hs:smS s_Pinned p):zE 249 [pinA p] [] (.p (.int .i64 (frG p))):=by
  have c1:=con_IsPinned_i p hs
  have c2:=con_InnerPoints_i p hs
  have c3:=con_PinnedRank_i p hs
  have hn:=inrP_n p
  have hr:=prG_in p
  refine csZ Tryz.func249 (fun c hc=>?_)
  cases hp:pinnedF p with
  | false =>
    rw [hp] at c1
    rw [show frG p = -1 by simp [frG,hp]]
    refine pkZ Tryz.func249 hc (fFn p) ?_
    and_intros
    all_goals (first | exact zN | (exact c1) | (simp;done))
  | true =>
    rw [hp] at c1
    rw [show frG p=2*((inrP p).1:Int) - prG p by simp [frG,hp]]
    refine pkZ Tryz.func249 hc (fFy p (inrP p).1 (inrP p).2 (prG p)) ?_
    and_intros
    all_goals (first | exact zN | (exact c1) | (exact c2) | (exact c3))
theorem con_PinnedFreedom_s (p:T_Pinned) (hs:smS s_Pinned p):zE 241 [pinA p] [] (.p (.int .i64 (frG p))):=by
  have c1:=con_IsPinned_s p hs
  have c2:=con_InnerPoints_s p hs
  have c3:=con_PinnedRank_s p hs
  have hn:=inrP_n p
  have hr:=prG_in p
  refine csZ Tryz.func241 (fun c hc=>?_)
  cases hp:pinnedF p with
  | false =>
    rw [hp] at c1
    rw [show frG p = -1 by simp [frG,hp]]
    refine pkZ Tryz.func241 hc (fGn p) ?_
    and_intros
    all_goals (first | exact zN | (exact c1) | (simp;done))
  | true =>
    rw [hp] at c1
    rw [show frG p=2*((inrP p).1:Int) - prG p by simp [frG,hp]]
    refine pkZ Tryz.func241 hc (fGy p (inrP p).1 (inrP p).2 (prG p)) ?_
    and_intros
    all_goals (first | exact zN | (exact c1) | (exact c2) | (exact c3))
noncomputable def rgB (p:T_Pinned):Bool:=frG p==0
theorem con_IsPinnedRigid_i (p:T_Pinned) (hs:smS s_Pinned p):zE 416 [pinA p] [] (.p (.bool (rgB p))):=by
  have c1:=con_PinnedFreedom_i p hs
  refine csZ Tryz.func416 (fun c hc=>?_)
  refine pkZ Tryz.func416 hc (fRi p (frG p)) ?_
  and_intros
  all_goals (first | exact zN | (exact c1))
theorem con_IsPinnedRigid_s (p:T_Pinned) (hs:smS s_Pinned p):zE 359 [pinA p] [] (.p (.bool (rgB p))):=by
  have c1:=con_PinnedFreedom_s p hs
  refine csZ Tryz.func359 (fun c hc=>?_)
  refine pkZ Tryz.func359 hc (fRs p (frG p)) ?_
  and_intros
  all_goals (first | exact zN | (exact c1))
open Go
def gvO (x n:Nat):Ob:=⟨true,1,1,fun _=>[.ar 1 x 0 n]⟩
def gvC:Ob:=⟨true,1,1,fun _=>[.clo 400 [.pt 1 0 0 0,.pt 3 1 0 0,.pt 1 2 0 0,.pt 1 3 0 0]]⟩
def bpF (v:T_Pinned):Ob:=⟨true,3,1,fun _=>[.p (.int .i64 v.1.1),.p (.seq false 2 v.1.2.1.1 (fun i=>[.int .i64 (v.1.2.1.2 i).1,.int .i64 (v.1.2.1.2 i).2.1])),.p (.seq false 1 v.2.1.1 (fun i=>[.int .i64 (v.2.1.2 i)]))]⟩
def gmH (p:T_Pinned) (N:Nat) (o w:Nat→Int):Hp:=[(0,gvO 4 p.1.2.1.1),(1,boxP p),(2,gvO 5 N),(3,gvC),(4,iOb p.1.2.1.1 o),(5,iOb N w)]
def gvH (p:T_Pinned) (N:Nat) (o w:Nat→Int):Hp:=[(0,gvO 4 p.1.2.1.1),(1,bpF p),(2,gvO 5 N),(3,gvC),(4,iOb p.1.2.1.1 o),(5,iOb N w)]
def gvA (e:Nat):List AV:=[.p (.int .i64 e),.pt 1 0 0 0,.pt 3 1 0 0,.pt 1 2 0 0,.pt 1 3 0 0]
def enD5 (p:T_Pinned) (e i:Nat):Int:=if i=0 then (p.1.2.1.2 e).1 else (p.1.2.1.2 e).2.1
def gvS (p:T_Pinned) (N:Nat) (o w:Nat→Int) (e k:Nat):St :=
  ⟨gvA e++List.replicate 22 anyA++[fzL 2 (enD5 p e),.p (.int .i64 2),.p (.int .i64 k)]++List.replicate 35 anyA,gvH p N o w,6⟩
def gvT (p:T_Pinned) (N:Nat) (o w:Nat→Int) (e k:Nat):St :=
  ⟨gvA e++List.replicate 3 anyA++[.p (.int .i64 (enD5 p e k))]++List.replicate 18 anyA++[fzL 2 (enD5 p e),.p (.int .i64 2),.p (.int .i64 k)]++List.replicate 35 anyA,gvH p N o w,6⟩
def upI (f:Nat→Int) (i:Nat) (x:Int) (j:Nat):Int:=if j=i then x else f j
def owS (p:T_Pinned) (N:Nat):St :=
  ⟨[pinA p,.pt 3 1 0 0,anyA,anyA,.pt 1 0 0 0,.pt 1 2 0 0,.pt 1 3 0 0]++List.replicate 19 anyA,gmH p N (fun _=>0) (fun _=>0),6⟩
def asH (nb:Nat) (o:Nat→Int):Hp:=[(0,iOb nb o)]
def asS (p:T_Pinned) (o:Nat→Int) (e k:Nat):St :=
  ⟨[pinA p,.p (.int .i64 e),.ar 1 0 0 p.1.2.1.1,.pt 3 1 0 0,anyA,anyA,anyA,fzL 2 (enD5 p e),.p (.int .i64 k)]++List.replicate 67 anyA,[(0,iOb p.1.2.1.1 o),(1,boxP p)],2⟩
def asT (p:T_Pinned) (o:Nat→Int) (e k n i:Nat):St :=
  ⟨[pinA p,.p (.int .i64 e),.ar 1 0 0 p.1.2.1.1,.pt 3 1 0 0,anyA,anyA,anyA,fzL 2 (enD5 p e),.p (.int .i64 k),.p (.int .i64 n),.p (.int .i64 i)]++List.replicate 65 anyA,[(0,iOb p.1.2.1.1 o),(1,boxP p)],2⟩
theorem isn1 (p:T_Pinned) (v:Int) (b b2:Bool) :
    zS Tryz.f330 [rg 2,rm [(3,oc [] (.p (.bool b))),(4,oc [] (.p (.bool b2)))] 3] [pinA p,.p (.int .i64 v)] [] [] (.p (.bool (bif b then !b2 else false))) =
    some [(NT 0 1),zE 205 [(zf103 p),.p (.int .i64 v)] [] (.p (.bool b)),(AG b),((b=true)→(NT 0 1)),(AG b),(AG b),((b=true)→ zE 184 [.p (.seq true 1 p.2.1.1 (fun i=>[.int .i64 (p.2.1.2 i)])),.p (.int .i64 v)] [] (.p (.bool b2))),(AG b),(AG b),((bif b then !b2 else false)=(bif b then !b2 else false))]:=by kernel_rfl
theorem iso1 (p:T_Pinned) (b:Bool) (r:Int) :
    zS Tryz.f399 [rg 2,rm [(1,oc [] (.p (.bool b))),(2,oc [] (.p (.int .i64 r)))] 7] [pinA p] [] [] (.p (.bool (bif b then r==(p.1.2.1.1:Int) else false))) =
    some (zD [(NT 0 1),zE 416 [(zf31 p)] [] (.p (.bool b)),((b=true)→(NT 0 1)),(AG b),((b=true)→ zE 325 [(zf31 p)] [] (.p (.int .i64 r))),((bif b then r==(↑p.1.2.1.1:Int) else false)=(bif b then r==(↑p.1.2.1.1:Int) else false))] [0,1,2,3,4,3,3,2,3,3,3,3,5]):=by kernel_rfl
theorem iso2 (p:T_Pinned) (b:Bool) (r:Int) :
    zS Tryz.f322 [rg 2,rm [(1,oc [] (.p (.bool b))),(6,oc [] (.p (.int .i64 r)))] 3] [pinA p] [] [] (.p (.bool (bif b then (p.1.2.1.1:Int)==r else false))) =
    some (zD [(NT 0 1),zE 359 [(zf31 p)] [] (.p (.bool b)),(AG b),((b=true)→(NT 0 1)),((b=true)→ zE 319 [(zf31 p)] [] (.p (.int .i64 r))),((bif b then (↑p.1.2.1.1:Int)==r else false)=(bif b then (↑p.1.2.1.1:Int)==r else false))] [0,1,2,2,3,2,3,2,4,2,2,2,5]):=by kernel_rfl
theorem gvn (p:T_Pinned) (N:Nat) (o w:Nat→Int) (e:Nat) :
    zP Tryz.f400 6 [rg 1,rg 4,.dec true,rg 1] [.code (bodyOf Tryz.f400)] (start Tryz.f400 (gvH p N o w) 6 (gvA e)) [0,1,2,3,4,5] 1 (gvH p N o w) (.p (.bool true)) =
    some (zD [(NT 0 1),(((↑e:Int)==(↑p.1.2.1.1:Int))=true),(true=true),(AN 1),(NL 1 1),(AN 0),(AN p.1.2.1.1),(AN 3),(AI p.1.1),(AP p.1.2.1.1 (fun i=>[.int .i64 ((p.1.2.1.2 i).1),.int .i64 ((p.1.2.1.2 i).2.1)])),(AN p.2.1.1),(AP p.2.1.1 (fun i=>[.int .i64 (p.2.1.2 i)])),(AN N),(NL p.1.2.1.1 p.1.2.1.1),(AA p.1.2.1.1 (fun i=>[.p (.int .i64 (o i))])),(NL N N),(AA N (fun i=>[.p (.int .i64 (w i))])),(AE 1),(∀ i:Nat,(((i:Nat)<1)→All [(false=false),(AE p.1.2.1.1),(false=false),(AE p.2.1.1)])),(AE p.1.2.1.1),(AE N)] [0,1,2,3,4,4,5,6,7,4,4,8,6,9,10,11,3,4,4,5,12,3,4,4,5,5,5,5,3,13,14,3,15,16,17,18,17,17,19,20]):=by kernel_rfl
theorem gvz (p:T_Pinned) (N:Nat) (o w:Nat→Int) (e:Nat) :
    zM 6 [rg 1,rg 4,.dec false,rg 17,.head] [.code (bodyOf Tryz.f400)] (start Tryz.f400 (gvH p N o w) 6 (gvA e)) [0,1,2,3,4,5] 1 (gvS p N o w e 0) =
    some (zf82,zD [(NT 0 1),(((↑e:Int)==(↑p.1.2.1.1:Int))=false),(IL 0 (↑e:Int)),(IT (↑e:Int) (↑p.1.2.1.1:Int)),(AI ((↑e:Int))),(AN 0),(AN 1),(NL 2 2),(AN 2),(∀ i:Nat,(((i:Nat)<2)→(([(cellP false [(List.getD ([.p (.int .i64 ((p.1.2.1.2 e).1)),.p (.int .i64 ((p.1.2.1.2 e).2.1))]:List AV) (rowIx 2 i*1) (.p .any))] 0)]:List PV)=[.int .i64 (enD5 p e i)]))),(((↑2:Int):Int)=2),((0:Int)=(↑0:Int)),(NL 1 1),(AN p.1.2.1.1),(AN 3),(AI p.1.1),(AP p.1.2.1.1 (fun i=>[.int .i64 ((p.1.2.1.2 i).1),.int .i64 ((p.1.2.1.2 i).2.1)])),(AN p.2.1.1),(AP p.2.1.1 (fun i=>[.int .i64 (p.2.1.2 i)])),(AN N),(NL p.1.2.1.1 p.1.2.1.1),(AA p.1.2.1.1 (fun i=>[.p (.int .i64 (o i))])),(NL N N),(AA N (fun i=>[.p (.int .i64 (w i))]))] [0,1,0,2,3,0,2,3,4,5,5,5,5,6,7,8,9,10,11,6,12,12,5,13,14,12,12,15,13,16,17,18,6,12,12,5,19,6,12,12,5,5,5,5,6,20,21,6,22,23]):=by kernel_rfl
theorem gvs (p:T_Pinned) (N:Nat) (o w:Nat→Int) (e k:Nat) (b:Bool) :
    zM 6 [rg 1,.dec true,rg 3,rm [(2,oc [] (.p (.bool b)))] 8,.dec true,rg 2,.head] zf82 (gvS p N o w e k) [0,1,2,3,4,5] 1 (gvS p N o w e (k+1)) =
    some (zf82,zD [((decide ((↑k:Int)<2))=true),(IL 0 (↑k:Int)),(IT (↑k:Int) (↑2:Int)),(NT 0 1),zE 330 [(zf31 p),.p (.int .i64 (enD5 p e k))] [] (.p (.bool b)),(((!!b)=true)→(NT 0 1)),(AG (!!b)),(((!!b)=true)→(IL 0 (enD5 p e k))),(((!!b)=true)→(IT (enD5 p e k) (↑N:Int))),(((!!b)=true)→(NT ((enD5 p e k).toNat) N)),(((!b)=false)→ ((!!b)=true)),((bif !b then true else w (enD5 p e k).toNat==2)=true),(ZLo ((↑k:Int)+1)),(ZHi ((↑k:Int)+1)),(AI ((↑e:Int))),(AN 0),(AN 2),(AP 2 (fun i=>[.int .i64 (enD5 p e i)])),(AI 2),((((↑k:Int)+1):Int)=(↑(k+1):Int)),(AN 1),(NL 1 1),(AN p.1.2.1.1),(AN 3),(AI p.1.1),(AP p.1.2.1.1 (fun i=>[.int .i64 ((p.1.2.1.2 i).1),.int .i64 ((p.1.2.1.2 i).2.1)])),(AN p.2.1.1),(AP p.2.1.1 (fun i=>[.int .i64 (p.2.1.2 i)])),(AN N),(NL p.1.2.1.1 p.1.2.1.1),(AA p.1.2.1.1 (fun i=>[.p (.int .i64 (o i))])),(NL N N),(AA N (fun i=>[.p (.int .i64 (w i))]))] [0,1,2,3,4,5,6,6,7,8,6,9,6,10,11,12,13,14,15,15,15,15,16,17,18,19,20,21,21,15,22,23,21,21,24,22,25,26,27,20,21,21,15,28,20,21,21,15,15,15,15,20,29,30,20,31,32]):=by kernel_rfl
theorem gvc (p:T_Pinned) (N:Nat) (o w:Nat→Int) (e k:Nat) :
    zM 6 [rg 1,.dec true,rg 3,rm [(2,oc [] (.p (.bool true)))] 8,.dec false,rg 7,rg 5,.head] zf82 (gvS p N o w e k) [0,1,2,3,4,5] 1 (gvT p N (upI o e (enD5 p e k)) (upI w (enD5 p e k).toNat (w (enD5 p e k).toNat+1)) e k) =
    some (zf16,zD [((decide ((↑k:Int)<2))=true),(IL 0 (↑k:Int)),(IT (↑k:Int) (↑2:Int)),(NT 0 1),zE 330 [(zf31 p),.p (.int .i64 (enD5 p e k))] [] (.p (.bool true)),(((!!true)=true)→(NT 0 1)),(AG (!!true)),(((!!true)=true)→(IL 0 (enD5 p e k))),(((!!true)=true)→(IT (enD5 p e k) (↑N:Int))),(((!!true)=true)→(NT ((enD5 p e k).toNat) N)),(((!true)=false)→ ((!!true)=true)),((bif !true then true else w (enD5 p e k).toNat==2)=false),(IL 0 (enD5 p e k)),(IT (enD5 p e k) (↑N:Int)),(NT ((enD5 p e k).toNat) N),(ZLo (w (enD5 p e k).toNat+1)),(ZHi (w (enD5 p e k).toNat+1)),((false=true)→ ((N:Nat)=1)),(IL 0 (↑e:Int)),(IT (↑e:Int) (↑p.1.2.1.1:Int)),(NT e p.1.2.1.1),((false=true)→ ((p.1.2.1.1:Nat)=1)),(AI ((↑e:Int))),(AN 0),(AI ((enD5 p e k))),(AN 2),(AP 2 (fun i=>[.int .i64 (enD5 p e i)])),(AI 2),(AI ((↑k:Int))),(AN 1),(NL 1 1),(AN p.1.2.1.1),(AN 3),(AI p.1.1),(AP p.1.2.1.1 (fun i=>[.int .i64 ((p.1.2.1.2 i).1),.int .i64 ((p.1.2.1.2 i).2.1)])),(AN p.2.1.1),(AP p.2.1.1 (fun i=>[.int .i64 (p.2.1.2 i)])),(AN N),(NL p.1.2.1.1 p.1.2.1.1),(CV [(4,⟨false,1,p.1.2.1.1,(fun i_1=>(if (i_1=e) then [.p (.int .i64 (enD5 p e k))] else [.p (.int .i64 (o i_1))]))⟩),(5,⟨false,1,N,(fun i_1=>(if (i_1=(enD5 p e k).toNat) then [.p (.int .i64 (w (enD5 p e k).toNat+1))] else [.p (.int .i64 (w i_1))]))⟩),(0,⟨true,1,1,(fun i_1=>[.ar 1 4 0 p.1.2.1.1])⟩),(1,⟨true,3,1,(fun i_1=>[.p (.int .i64 p.1.1),.p (.seq false 2 p.1.2.1.1 (fun i_2=>[.int .i64 ((p.1.2.1.2 i_2).1),.int .i64 ((p.1.2.1.2 i_2).2.1)])),.p (.seq false 1 p.2.1.1 (fun i_2=>[.int .i64 (p.2.1.2 i_2)]))])⟩),(2,⟨true,1,1,(fun i_1=>[.ar 1 5 0 N])⟩),(3,⟨true,1,1,(fun i_1=>[.clo 400 [.pt 1 0 0 0,.pt 3 1 0 0,.pt 1 2 0 0,.pt 1 3 0 0]])⟩)] [0,1,2,3,4,5] 1 p.1.2.1.1 (fun i=>if (i=e) then [.p (.int .i64 (enD5 p e k))] else [.p (.int .i64 (o i))]) (fun i=>[.p (.int .i64 (upI o e (enD5 p e k) i))])),(NL N N),(CV [(4,⟨false,1,p.1.2.1.1,(fun i_1=>(if (i_1=e) then [.p (.int .i64 (enD5 p e k))] else [.p (.int .i64 (o i_1))]))⟩),(5,⟨false,1,N,(fun i_1=>(if (i_1=(enD5 p e k).toNat) then [.p (.int .i64 (w (enD5 p e k).toNat+1))] else [.p (.int .i64 (w i_1))]))⟩),(0,⟨true,1,1,(fun i_1=>[.ar 1 4 0 p.1.2.1.1])⟩),(1,⟨true,3,1,(fun i_1=>[.p (.int .i64 p.1.1),.p (.seq false 2 p.1.2.1.1 (fun i_2=>[.int .i64 ((p.1.2.1.2 i_2).1),.int .i64 ((p.1.2.1.2 i_2).2.1)])),.p (.seq false 1 p.2.1.1 (fun i_2=>[.int .i64 (p.2.1.2 i_2)]))])⟩),(2,⟨true,1,1,(fun i_1=>[.ar 1 5 0 N])⟩),(3,⟨true,1,1,(fun i_1=>[.clo 400 [.pt 1 0 0 0,.pt 3 1 0 0,.pt 1 2 0 0,.pt 1 3 0 0]])⟩)] [0,1,2,3,4,5] 1 N (fun i=>if (i=(enD5 p e k).toNat) then [.p (.int .i64 (w (enD5 p e k).toNat+1))] else [.p (.int .i64 (w i))]) (fun i=>[.p (.int .i64 (upI w (enD5 p e k).toNat (w (enD5 p e k).toNat+1) i))]))] [0,1,2,3,4,5,6,6,7,8,6,9,6,10,11,3,12,13,14,15,16,12,13,14,17,3,18,19,20,21,22,23,23,23,23,24,25,26,27,28,29,30,30,23,31,32,30,30,33,31,34,35,36,29,30,30,23,37,29,30,30,23,23,23,23,29,38,39,29,40,41]):=by kernel_rfl
theorem gvt (p:T_Pinned) (N:Nat) (o w:Nat→Int) (e k:Nat) (o2 w2:Nat→Int) :
    zP Tryz.f400 6 [rm [(3,⟨true,(some ⟨[0,1,2,3,4,5],[1000],[],1,(gvH p N o2 w2),.p (.bool true)⟩),none⟩)] 0,.dec true,rg 1] zf16 (gvT p N o w e k) [0,1,2,3,4,5] 1 (gvH p N o2 w2) (.p (.bool true)) =
    some (zD [(NT 0 1),(ZLo ((↑e:Int)+1)),(ZHi ((↑e:Int)+1)),(AE 1),(AE p.1.2.1.1),(AE N),Con Tryz.prog 400 6 (zf7 p N o w) [.p (.int .i64 ((↑e:Int)+1)),.pt 1 0 0 0,.pt 3 1 0 0,.pt 1 2 0 0,.pt 1 3 0 0] (zf7 p N o2 w2) (.p (.bool true)),(true=true),(AN 1),(NL 1 1),(AN 0),(AN p.1.2.1.1),(AN 3),(AI p.1.1),(AP p.1.2.1.1 (fun i=>[.int .i64 ((p.1.2.1.2 i).1),.int .i64 ((p.1.2.1.2 i).2.1)])),(AN p.2.1.1),(AP p.2.1.1 (fun i=>[.int .i64 (p.2.1.2 i)])),(AN N),(NL p.1.2.1.1 p.1.2.1.1),(AA p.1.2.1.1 (fun i=>[.p (.int .i64 (o2 i))])),(NL N N),(AA N (fun i=>[.p (.int .i64 (w2 i))])),(∀ i:Nat,(((i:Nat)<1)→All [(false=false),(AE p.1.2.1.1),(false=false),(AE p.2.1.1)]))] [0,1,2,3,3,3,3,4,5,6,7,7,8,9,9,10,11,12,9,9,13,11,14,15,16,8,9,9,10,17,8,9,9,10,10,10,10,8,18,19,8,20,21,3,22,3,3,4,5]):=by kernel_rfl
theorem gvf (p:T_Pinned) (N:Nat) (o w:Nat→Int) (e k:Nat) (o2 w2:Nat→Int) :
    zM 6 [rm [(3,⟨true,(some ⟨[0,1,2,3,4,5],[1000],[],1,(gvH p N o2 w2),.p (.bool false)⟩),none⟩)] 0,.dec false,rg 7,rg 2,.head] zf16 (gvT p N o w e k) [0,1,2,3,4,5] 1 (gvS p N o2 (upI w2 (enD5 p e k).toNat (w2 (enD5 p e k).toNat - 1)) e (k+1)) =
    some (zf82,zD [(NT 0 1),(ZLo ((↑e:Int)+1)),(ZHi ((↑e:Int)+1)),(AE 1),(AE p.1.2.1.1),(AE N),Con Tryz.prog 400 6 (zf7 p N o w) [.p (.int .i64 ((↑e:Int)+1)),.pt 1 0 0 0,.pt 3 1 0 0,.pt 1 2 0 0,.pt 1 3 0 0] (zf7 p N o2 w2) (.p (.bool false)),(false=false),(IL 0 (enD5 p e k)),(IT (enD5 p e k) (↑N:Int)),(NT ((enD5 p e k).toNat) N),(ZLo (w2 (enD5 p e k).toNat - 1)),(ZHi (w2 (enD5 p e k).toNat - 1)),((false=true)→ ((N:Nat)=1)),(ZLo ((↑k:Int)+1)),(ZHi ((↑k:Int)+1)),(AI ((↑e:Int))),(AN 0),(AN 2),(AP 2 (fun i=>[.int .i64 (enD5 p e i)])),(AI 2),((((↑k:Int)+1):Int)=(↑(k+1):Int)),(AN 1),(NL 1 1),(AN p.1.2.1.1),(AN 3),(AI p.1.1),(AP p.1.2.1.1 (fun i=>[.int .i64 ((p.1.2.1.2 i).1),.int .i64 ((p.1.2.1.2 i).2.1)])),(AN p.2.1.1),(AP p.2.1.1 (fun i=>[.int .i64 (p.2.1.2 i)])),(AN N),(NL p.1.2.1.1 p.1.2.1.1),(AA p.1.2.1.1 (fun i=>[.p (.int .i64 (o2 i))])),(NL N N),(CV [(5,⟨false,1,N,(fun i_1=>(if (i_1=(enD5 p e k).toNat) then [.p (.int .i64 (w2 (enD5 p e k).toNat - 1))] else [.p (.int .i64 (w2 i_1))]))⟩),(4,⟨false,1,p.1.2.1.1,(fun i_1=>[.p (.int .i64 (o2 i_1))])⟩),(3,⟨true,1,1,(fun i_1=>[.clo 400 [.pt 1 0 0 0,.pt 3 1 0 0,.pt 1 2 0 0,.pt 1 3 0 0]])⟩),(2,⟨true,1,1,(fun i_1=>[.ar 1 5 0 N])⟩),(1,⟨true,3,1,(fun i_1=>[.p (.int .i64 p.1.1),.p (.seq false 2 p.1.2.1.1 (fun i_2=>[.int .i64 ((p.1.2.1.2 i_2).1),.int .i64 ((p.1.2.1.2 i_2).2.1)])),.p (.seq false 1 p.2.1.1 (fun i_2=>[.int .i64 (p.2.1.2 i_2)]))])⟩),(0,⟨true,1,1,(fun i_1=>[.ar 1 4 0 p.1.2.1.1])⟩)] [0,1,2,3,4,5] 1 N (fun i=>if (i=(enD5 p e k).toNat) then [.p (.int .i64 (w2 (enD5 p e k).toNat - 1))] else [.p (.int .i64 (w2 i))]) (fun i=>[.p (.int .i64 (upI w2 (enD5 p e k).toNat (w2 (enD5 p e k).toNat - 1) i))]))] [0,1,2,3,3,3,3,4,5,6,7,0,8,9,10,11,12,8,9,10,13,14,15,16,17,17,17,17,18,19,20,21,22,23,23,17,24,25,23,23,26,24,27,28,29,22,23,23,17,30,22,23,23,17,17,17,17,22,31,32,22,33,34]):=by kernel_rfl
theorem gve (p:T_Pinned) (N:Nat) (o w:Nat→Int) (e k:Nat) :
    zP Tryz.f400 6 [rg 1,.dec false,rg 1] zf82 (gvS p N o w e k) [0,1,2,3,4,5] 1 (gvH p N o w) (.p (.bool false)) =
    some (zD [((decide ((↑k:Int)<2))=false),(false=false),(AN 1),(NL 1 1),(AN 0),(AN p.1.2.1.1),(AN 3),(AI p.1.1),(AP p.1.2.1.1 (fun i=>[.int .i64 ((p.1.2.1.2 i).1),.int .i64 ((p.1.2.1.2 i).2.1)])),(AN p.2.1.1),(AP p.2.1.1 (fun i=>[.int .i64 (p.2.1.2 i)])),(AN N),(NL p.1.2.1.1 p.1.2.1.1),(AA p.1.2.1.1 (fun i=>[.p (.int .i64 (o i))])),(NL N N),(AA N (fun i=>[.p (.int .i64 (w i))])),(AE 1),(∀ i:Nat,(((i:Nat)<1)→All [(false=false),(AE p.1.2.1.1),(false=false),(AE p.2.1.1)])),(AE p.1.2.1.1),(AE N)] [0,1,2,3,3,4,5,6,3,3,7,5,8,9,10,2,3,3,4,11,2,3,3,4,4,4,4,2,12,13,2,14,15,16,17,16,16,18,19]):=by kernel_rfl
theorem owy (p:T_Pinned) :
    zS Tryz.f362 [rg 3,rm [(1,oc [] (.p (.bool false)))] 1,.dec true,rg 3] [pinA p] [] [] (.tup [fzL 0 z0,.p (.bool false)]) =
    some [(NT 0 1),zE 399 [(zf31 p)] [] (.p (.bool false)),((!false)=true),(AN 1),(NL 0 0),(AN 0),(∀ i:Nat,(((i:Nat)<0)→(([.int .i64 0]:List PV)=[.int .i64 (z0 i)]))),(false=false),(false=false),(AE 0)]:=by kernel_rfl
theorem owz (p:T_Pinned) (N:Nat) :
    zT Tryz.f362 [rg 3,rm [(1,oc [] (.p (.bool true)))] 1,.dec false,rg 7,rg 6,rg 1,rg 2,.head] [pinA p] [352,0,544,608,320,512] (owS p N) =
    some (zf56,zD [(NT 0 1),zE 399 [(zf31 p)] [] (.p (.bool true)),((!true)=false),(IL 0 (↑p.1.2.1.1:Int)),(IL (↑p.1.2.1.1:Int) (↑p.1.2.1.1:Int)),(IL ((↑p.1.2.1.1:Int)*(↑8:Int)) 281474976710656),(ZHi (↑p.1.2.1.1:Int)),((true=true)→ (AN 1)),(IL 0 p.1.1),(IL p.1.1 p.1.1),(IL (p.1.1*(↑8:Int)) 281474976710656),(ZHi p.1.1),(AI p.1.1),(AN p.1.2.1.1),(AP p.1.2.1.1 (fun i=>[.int .i64 ((p.1.2.1.2 i).1),.int .i64 ((p.1.2.1.2 i).2.1)])),(AN p.2.1.1),(AP p.2.1.1 (fun i=>[.int .i64 (p.2.1.2 i)])),(AN 0),((((List.map (fun v=>AV.p (absV v)) [Value.slice none 0 0]).length):Nat)=1),(NL 1 1),((([AV.p (PV.int IntKind.i64 p.1.1),graphL p.1.2.1,inL p.2.1].length):Nat)=3),((p.1.1.toNat:Nat)=N),((((List.map (fun v=>AV.p (absV v)) [Value.nilFunc]).length):Nat)=1),(AN 1),(NL p.1.2.1.1 p.1.2.1.1),(AA p.1.2.1.1 (fun i=>[.p (.int .i64 0)])),(NL N p.1.1.toNat),(AA N (fun i=>[.p (.int .i64 0)]))] [0,1,2,0,3,4,5,6,0,7,0,8,9,10,11,0,7,0,7,12,13,14,15,16,17,17,17,17,18,19,19,17,13,20,19,19,12,13,14,15,16,18,19,19,17,21,22,19,19,17,17,17,17,23,24,25,23,26,27]):=by kernel_rfl
theorem owt (p:T_Pinned) (N:Nat) (o w:Nat→Int) :
    zP Tryz.f362 0 [rm [(1,⟨true,(some ⟨[0,1,2,3,4,5],[0],[],1,(gvH p N o w),.p (.bool true)⟩),none⟩)] 1,.dec false,rg 3] zf56 (owS p N) [] 1 [] (.tup [fzL p.1.2.1.1 o,.p (.bool true)]) =
    some [(NT 0 1),(AE 1),(AE 1),(AE 1),(AE 1),(AE p.1.2.1.1),(AE N),Con Tryz.prog 400 6 (zf8 p N) [.p (.int .i64 0),.pt 1 0 0 0,.pt 3 1 0 0,.pt 1 2 0 0,.pt 1 3 0 0] (zf7 p N o w) (.p (.bool true)),((!true)=false),(NT 0 1),(AN 1),(NL p.1.2.1.1 p.1.2.1.1),(AN p.1.2.1.1),(AP p.1.2.1.1 (fun i=>[.int .i64 (o i)])),(true=true),(false=false),(AE p.1.2.1.1)]:=by kernel_rfl
theorem owf (p:T_Pinned) (N:Nat) (o w:Nat→Int) :
    zP Tryz.f362 0 [rm [(1,⟨true,(some ⟨[0,1,2,3,4,5],[0],[],1,(gvH p N o w),.p (.bool false)⟩),none⟩)] 1,.dec true,rg 3] zf56 (owS p N) [] 1 [] (.tup [fzL 0 z0,.p (.bool false)]) =
    some [(NT 0 1),(AE 1),(AE 1),(AE 1),(AE 1),(AE p.1.2.1.1),(AE N),Con Tryz.prog 400 6 (zf8 p N) [.p (.int .i64 0),.pt 1 0 0 0,.pt 3 1 0 0,.pt 1 2 0 0,.pt 1 3 0 0] (zf7 p N o w) (.p (.bool false)),((!false)=true),(AN 1),(NL 0 0),(AN 0),(∀ i:Nat,(((i:Nat)<0)→(([.int .i64 0]:List PV)=[.int .i64 (z0 i)]))),(false=false),(false=false),(AE 0)]:=by kernel_rfl
theorem asn (p:T_Pinned) (o:Nat→Int) (e:Nat) :
    zP Tryz.f323 1 [rg 2,rg 6,.dec true,rg 1] [.code (bodyOf Tryz.f323)] (start Tryz.f323 (asH p.1.2.1.1 o) 1 [pinA p,.p (.int .i64 e),.ar 1 0 0 p.1.2.1.1]) [0] 1 (asH p.1.2.1.1 o) (.p (.bool true)) =
    some [(NT 0 1),(((↑e:Int)==(↑p.1.2.1.1:Int))=true),(true=true),(AN 1),(NL p.1.2.1.1 p.1.2.1.1),(AA p.1.2.1.1 (fun i=>[.p (.int .i64 (o i))])),(AE p.1.2.1.1)]:=by kernel_rfl
theorem asz (p:T_Pinned) (o:Nat→Int) (e:Nat) :
    zM 1 [rg 2,rg 6,.dec false,rg 16,rg 1,.head] [.code (bodyOf Tryz.f323)] (start Tryz.f323 (asH p.1.2.1.1 o) 1 [pinA p,.p (.int .i64 e),.ar 1 0 0 p.1.2.1.1]) [0,1] 1 (asS p o e 0) =
    some (zf68,zD [(NT 0 1),(((↑e:Int)==(↑p.1.2.1.1:Int))=false),(IL 0 (↑e:Int)),(IT (↑e:Int) (↑p.1.2.1.1:Int)),(AI p.1.1),(AN p.1.2.1.1),(AP p.1.2.1.1 (fun i=>[.int .i64 ((p.1.2.1.2 i).1),.int .i64 ((p.1.2.1.2 i).2.1)])),(AN p.2.1.1),(AP p.2.1.1 (fun i=>[.int .i64 (p.2.1.2 i)])),(AI ((↑e:Int))),(AN 0),(AN 1),(NL 2 2),(AN 2),(∀ i:Nat,(((i:Nat)<2)→(([(cellP false [(List.getD ([.p (.int .i64 ((p.1.2.1.2 e).1)),.p (.int .i64 ((p.1.2.1.2 e).2.1))]:List AV) (rowIx 2 i*1) (.p .any))] 0)]:List PV)=[.int .i64 (enD5 p e i)]))),((0:Int)=(↑0:Int)),(NL p.1.2.1.1 p.1.2.1.1),(AA p.1.2.1.1 (fun i=>[.p (.int .i64 (o i))])),((([AV.p (PV.int IntKind.i64 p.1.1),graphL p.1.2.1,inL p.2.1].length):Nat)=3),(NL 1 1)] [0,1,0,2,3,0,2,3,4,5,6,7,8,9,10,5,10,11,12,13,14,15,11,16,17,18,19,19,4,5,6,7,8]):=by kernel_rfl
theorem asa (p:T_Pinned) (o:Nat→Int) (e k:Nat) :
    zM 1 [rg 2,.dec true,rg 1,rg 1,.head] zf68 (asS p o e k) [0,1] 1 (asT p o e k 0 0) =
    some (zf15,zD [((decide ((↑k:Int)<2))=true),(AI p.1.1),(AN p.1.2.1.1),(AP p.1.2.1.1 (fun i=>[.int .i64 ((p.1.2.1.2 i).1),.int .i64 ((p.1.2.1.2 i).2.1)])),(AN p.2.1.1),(AP p.2.1.1 (fun i=>[.int .i64 (p.2.1.2 i)])),(AI ((↑e:Int))),(AN 0),(AN 2),(AP 2 (fun i=>[.int .i64 (enD5 p e i)])),(AI ((↑k:Int))),((0:Int)=(↑0:Int)),(AN 1),(NL p.1.2.1.1 p.1.2.1.1),(AA p.1.2.1.1 (fun i=>[.p (.int .i64 (o i))])),(AN 3),(NL 1 1)] [0,1,2,3,4,5,6,7,2,7,8,9,10,11,11,12,13,14,15,16,16,1,2,3,4,5]):=by kernel_rfl
theorem asb (p:T_Pinned) (o:Nat→Int) (e k n i:Nat) :
    zM 1 [rg 3,.dec true,rg 9,.dec true,rg 3,rg 3,.head] zf15 (asT p o e k n i) [0,1] 1 (asT p o e k (n+1) (i+1)) =
    some (zf15,zD [((decide ((↑i:Int)<(↑e:Int)))=true),(IL 0 (↑i:Int)),(IT (↑i:Int) (↑p.1.2.1.1:Int)),(NT i p.1.2.1.1),(IL 0 (↑k:Int)),(IT (↑k:Int) (↑2:Int)),((o i==enD5 p e k)=true),(ZLo ((↑n:Int)+1)),(ZHi ((↑n:Int)+1)),(ZLo ((↑i:Int)+1)),(ZHi ((↑i:Int)+1)),(AI p.1.1),(AN p.1.2.1.1),(AP p.1.2.1.1 (fun i_1=>[.int .i64 ((p.1.2.1.2 i_1).1),.int .i64 ((p.1.2.1.2 i_1).2.1)])),(AN p.2.1.1),(AP p.2.1.1 (fun i_1=>[.int .i64 (p.2.1.2 i_1)])),(AI ((↑e:Int))),(AN 0),(AN 2),(AP 2 (fun i_1=>[.int .i64 (enD5 p e i_1)])),(AI ((↑k:Int))),((((↑n:Int)+1):Int)=(↑(n+1):Int)),((((↑i:Int)+1):Int)=(↑(i+1):Int)),(AN 1),(NL p.1.2.1.1 p.1.2.1.1),(AA p.1.2.1.1 (fun i_1=>[.p (.int .i64 (o i_1))])),(AN 3),(NL 1 1)] [0,1,2,3,4,5,6,7,8,9,10,11,12,13,14,15,16,17,12,17,18,19,20,21,22,23,24,25,26,27,27,11,12,13,14,15]):=by kernel_rfl
theorem asc (p:T_Pinned) (o:Nat→Int) (e k n i:Nat) :
    zM 1 [rg 3,.dec true,rg 9,.dec false,rg 3,.head] zf15 (asT p o e k n i) [0,1] 1 (asT p o e k n (i+1)) =
    some (zf15,[((decide ((↑i:Int)<(↑e:Int)))=true),(IL 0 (↑i:Int)),(IT (↑i:Int) (↑p.1.2.1.1:Int)),(NT i p.1.2.1.1),(IL 0 (↑k:Int)),(IT (↑k:Int) (↑2:Int)),((o i==enD5 p e k)=false),(ZLo ((↑i:Int)+1)),(ZHi ((↑i:Int)+1)),(AI p.1.1),(AN p.1.2.1.1),(AP p.1.2.1.1 (fun i_1=>[.int .i64 ((p.1.2.1.2 i_1).1),.int .i64 ((p.1.2.1.2 i_1).2.1)])),(AN p.2.1.1),(AP p.2.1.1 (fun i_1=>[.int .i64 (p.2.1.2 i_1)])),(AI ((↑e:Int))),(AN 0),(AN p.1.2.1.1),(AN 0),(AN 2),(AP 2 (fun i_1=>[.int .i64 (enD5 p e i_1)])),(AI ((↑k:Int))),(AI ((↑n:Int))),((((↑i:Int)+1):Int)=(↑(i+1):Int)),(AN 1),(NL p.1.2.1.1 p.1.2.1.1),(AA p.1.2.1.1 (fun i_1=>[.p (.int .i64 (o i_1))])),(AN 3),(NL 1 1),(NL 1 1),(AI p.1.1),(AN p.1.2.1.1),(AP p.1.2.1.1 (fun i_1=>[.int .i64 ((p.1.2.1.2 i_1).1),.int .i64 ((p.1.2.1.2 i_1).2.1)])),(AN p.2.1.1),(AP p.2.1.1 (fun i_1=>[.int .i64 (p.2.1.2 i_1)]))]):=by kernel_rfl
theorem asd (p:T_Pinned) (o:Nat→Int) (e k n i:Nat) (b:Bool) :
    zM 1 [rg 3,.dec false,rm [(9,oc [] (.p (.bool b)))] 2,.dec true,rg 8,.head] zf15 (asT p o e k n i) [0,1] 1 (asS p (upI o e (enD5 p e k)) e k) =
    some (zf22,zD [((decide ((↑i:Int)<(↑e:Int)))=false),(AG (decide ((↑n:Int)<2))),(((decide ((↑n:Int)<2))=true)→(NT 0 1)),(((decide ((↑n:Int)<2))=true)→(IL 0 (↑k:Int))),(((decide ((↑n:Int)<2))=true)→(IT (↑k:Int) (↑2:Int))),(((decide ((↑n:Int)<2))=true)→ zE 172 [.p (.seq true 1 p.2.1.1 (fun i_1=>[.int .i64 (p.2.1.2 i_1)])),.p (.int .i64 (enD5 p e k))] [] (.p (.bool b))),((bif decide ((↑n:Int)<2) then !b else false)=true),(IL 0 (↑k:Int)),(IT (↑k:Int) (↑2:Int)),(IL 0 (↑e:Int)),(IT (↑e:Int) (↑p.1.2.1.1:Int)),(NT e p.1.2.1.1),((false=true)→ ((p.1.2.1.1:Nat)=1)),(AI p.1.1),(AN p.1.2.1.1),(AP p.1.2.1.1 (fun i_1=>[.int .i64 ((p.1.2.1.2 i_1).1),.int .i64 ((p.1.2.1.2 i_1).2.1)])),(AN p.2.1.1),(AP p.2.1.1 (fun i_1=>[.int .i64 (p.2.1.2 i_1)])),(AI ((↑e:Int))),(AN 0),(AN 2),(AP 2 (fun i_1=>[.int .i64 (enD5 p e i_1)])),(AI ((↑k:Int))),(AN 1),(NL p.1.2.1.1 p.1.2.1.1),(CV [(0,⟨false,1,p.1.2.1.1,(fun i_2=>(if (i_2=e) then [.p (.int .i64 (enD5 p e k))] else [.p (.int .i64 (o i_2))]))⟩),(1,⟨true,3,1,(fun i_2=>[.p (.int .i64 p.1.1),.p (.seq true 2 p.1.2.1.1 (fun i_3=>[.int .i64 ((p.1.2.1.2 i_3).1),.int .i64 ((p.1.2.1.2 i_3).2.1)])),.p (.seq true 1 p.2.1.1 (fun i_3=>[.int .i64 (p.2.1.2 i_3)]))])⟩)] [0,1] 1 p.1.2.1.1 (fun i_1=>if (i_1=e) then [.p (.int .i64 (enD5 p e k))] else [.p (.int .i64 (o i_1))]) (fun i_1=>[.p (.int .i64 (upI o e (enD5 p e k) i_1))])),(AN 3),(NL 1 1)] [0,1,2,1,1,3,4,1,1,1,5,1,1,6,7,8,9,10,11,12,13,14,15,16,17,18,19,14,19,20,21,22,23,24,25,26,27,27,13,14,15,16,17]):=by kernel_rfl
theorem ast1 (p:T_Pinned) (o:Nat→Int) (e k:Nat) (o2:Nat→Int) :
    zP Tryz.f323 1 [rm [(4,oq [0] (asH p.1.2.1.1 o2) (.p (.bool true)))] 0,.dec true,rg 1] zf22 (asS p o e k) [0] 1 (asH p.1.2.1.1 o2) (.p (.bool true)) =
    some [(NT 0 1),(ZLo ((↑e:Int)+1)),(ZHi ((↑e:Int)+1)),(AE p.1.2.1.1),Con Tryz.prog 323 1 (zf119 p o) [(zf31 p),.p (.int .i64 ((↑e:Int)+1)),.ar 1 0 0 p.1.2.1.1] (zf119 p o2) (.p (.bool true)),(true=true),(true=true),(AN 1),(NL p.1.2.1.1 p.1.2.1.1),(AA p.1.2.1.1 (fun i=>[.p (.int .i64 (o2 i))])),(AE p.1.2.1.1)]:=by kernel_rfl
theorem asf1 (p:T_Pinned) (o:Nat→Int) (e k:Nat) (o2:Nat→Int) :
    zM 1 [rm [(4,oq [0] (asH p.1.2.1.1 o2) (.p (.bool false)))] 0,.dec false,rg 3,.head] zf22 (asS p o e k) [0,1] 1 (asS p o2 e (k+1)) =
    some (zf68,zD [(NT 0 1),(ZLo ((↑e:Int)+1)),(ZHi ((↑e:Int)+1)),(AE p.1.2.1.1),Con Tryz.prog 323 1 (zf119 p o) [(zf31 p),.p (.int .i64 ((↑e:Int)+1)),.ar 1 0 0 p.1.2.1.1] (zf119 p o2) (.p (.bool false)),(false=false),(ZLo ((↑k:Int)+1)),(ZHi ((↑k:Int)+1)),(AI p.1.1),(AN p.1.2.1.1),(AP p.1.2.1.1 (fun i=>[.int .i64 ((p.1.2.1.2 i).1),.int .i64 ((p.1.2.1.2 i).2.1)])),(AN p.2.1.1),(AP p.2.1.1 (fun i=>[.int .i64 (p.2.1.2 i)])),(AI ((↑e:Int))),(AN 0),(AN 2),(AP 2 (fun i=>[.int .i64 (enD5 p e i)])),((((↑k:Int)+1):Int)=(↑(k+1):Int)),(AN 1),(NL p.1.2.1.1 p.1.2.1.1),(AA p.1.2.1.1 (fun i=>[.p (.int .i64 (o2 i))])),(AN 3),(NL 1 1)] [0,1,2,3,4,5,6,7,8,9,10,11,12,13,14,9,14,15,16,17,18,19,20,21,22,22,8,9,10,11,12]):=by kernel_rfl
theorem asg (p:T_Pinned) (o:Nat→Int) (e k n i:Nat) (b:Bool) :
    zM 1 [rg 3,.dec false,rm [(9,oc [] (.p (.bool b)))] 2,.dec false,rg 3,.head] zf15 (asT p o e k n i) [0,1] 1 (asS p o e (k+1)) =
    some (zf68,zD [((decide ((↑i:Int)<(↑e:Int)))=false),(AG (decide ((↑n:Int)<2))),(((decide ((↑n:Int)<2))=true)→(NT 0 1)),(((decide ((↑n:Int)<2))=true)→(IL 0 (↑k:Int))),(((decide ((↑n:Int)<2))=true)→(IT (↑k:Int) (↑2:Int))),(((decide ((↑n:Int)<2))=true)→ zE 172 [.p (.seq true 1 p.2.1.1 (fun i_1=>[.int .i64 (p.2.1.2 i_1)])),.p (.int .i64 (enD5 p e k))] [] (.p (.bool b))),((bif decide ((↑n:Int)<2) then !b else false)=false),(ZLo ((↑k:Int)+1)),(ZHi ((↑k:Int)+1)),(AI p.1.1),(AN p.1.2.1.1),(AP p.1.2.1.1 (fun i_1=>[.int .i64 ((p.1.2.1.2 i_1).1),.int .i64 ((p.1.2.1.2 i_1).2.1)])),(AN p.2.1.1),(AP p.2.1.1 (fun i_1=>[.int .i64 (p.2.1.2 i_1)])),(AI ((↑e:Int))),(AN 0),(AN 2),(AP 2 (fun i_1=>[.int .i64 (enD5 p e i_1)])),((((↑k:Int)+1):Int)=(↑(k+1):Int)),(AN 1),(NL p.1.2.1.1 p.1.2.1.1),(AA p.1.2.1.1 (fun i_1=>[.p (.int .i64 (o i_1))])),(AN 3),(NL 1 1)] [0,1,2,1,1,3,4,1,1,1,5,1,1,6,7,8,9,10,11,12,13,14,15,10,15,16,17,18,19,20,21,22,23,23,9,10,11,12,13]):=by kernel_rfl
theorem ase (p:T_Pinned) (o:Nat→Int) (e k:Nat) :
    zP Tryz.f323 1 [rg 2,.dec false,rg 1] zf68 (asS p o e k) [0] 1 (asH p.1.2.1.1 o) (.p (.bool false)) =
    some [((decide ((↑k:Int)<2))=false),(false=false),(AN 1),(NL p.1.2.1.1 p.1.2.1.1),(AA p.1.2.1.1 (fun i=>[.p (.int .i64 (o i))])),(AE p.1.2.1.1)]:=by kernel_rfl
theorem oxy (p:T_Pinned) :
    zS Tryz.f245 [rg 3,rg 6,rm [(1,oc [] (.p (.bool false))),(2,gF),(0,gF),(0,gF),(0,gF),(0,gT)] 0,.dec true,rg 3] [pinA p] [] [] (.tup [fzL 0 z0,.p (.bool false)]) =
    some (zD [(NT 0 1),(IL 0 (↑p.1.2.1.1:Int)),(IL (↑p.1.2.1.1:Int) (↑p.1.2.1.1:Int)),(IL ((↑p.1.2.1.1:Int)*(↑8:Int)) 281474976710656),(ZHi (↑p.1.2.1.1:Int)),zE 322 [(zf31 p)] [] (.p (.bool false)),((!!false)=false),((!false)=true),(true=true),(AN 1),(NL 0 0),(AN 0),(∀ i:Nat,(((i:Nat)<0)→(([.int .i64 0]:List PV)=[.int .i64 (z0 i)]))),(false=false),(AE 0)] [0,1,2,3,4,0,5,6,6,6,6,7,8,9,10,11,12,13,13,14]):=by kernel_rfl
theorem oxt (p:T_Pinned) (o:Nat→Int) :
    zS Tryz.f245 [rg 3,rg 6,rm [(1,oc [] (.p (.bool true))),(2,gT),(0,gT),(0,⟨true,(some ⟨[224],[],[],1,(asH p.1.2.1.1 o),.p (.bool true)⟩),some true⟩),(0,gT),(0,gF)] 0,.dec false,rg 3] [pinA p] [] [] (.tup [fzL p.1.2.1.1 o,.p (.bool true)]) =
    some (zD [(NT 0 1),(IL 0 (↑p.1.2.1.1:Int)),(IL (↑p.1.2.1.1:Int) (↑p.1.2.1.1:Int)),(IL ((↑p.1.2.1.1:Int)*(↑8:Int)) 281474976710656),(ZHi (↑p.1.2.1.1:Int)),zE 322 [(zf31 p)] [] (.p (.bool true)),((!!true)=true),(AE p.1.2.1.1),Con Tryz.prog 323 1 [(0,⟨false,1,p.1.2.1.1,(fun i=>[.p (.int .i64 0)])⟩)] [(zf31 p),.p (.int .i64 0),.ar 1 0 0 p.1.2.1.1] (zf119 p o) (.p (.bool true)),((!true)=false),(AN 1),(NL p.1.2.1.1 p.1.2.1.1),(AN p.1.2.1.1),(AP p.1.2.1.1 (fun i=>[.int .i64 (o i)])),(true=true),(false=false)] [0,1,2,3,4,0,5,6,0,6,6,7,8,6,9,9,10,11,12,13,14,15,7]):=by kernel_rfl
theorem oxf (p:T_Pinned) (o:Nat→Int) :
    zS Tryz.f245 [rg 3,rg 6,rm [(1,oc [] (.p (.bool true))),(2,gT),(0,gT),(0,⟨true,(some ⟨[224],[],[],1,(asH p.1.2.1.1 o),.p (.bool false)⟩),some true⟩),(0,gT),(0,gF)] 0,.dec true,rg 3] [pinA p] [] [] (.tup [fzL 0 z0,.p (.bool false)]) =
    some (zD [(NT 0 1),(IL 0 (↑p.1.2.1.1:Int)),(IL (↑p.1.2.1.1:Int) (↑p.1.2.1.1:Int)),(IL ((↑p.1.2.1.1:Int)*(↑8:Int)) 281474976710656),(ZHi (↑p.1.2.1.1:Int)),zE 322 [(zf31 p)] [] (.p (.bool true)),((!!true)=true),(AE p.1.2.1.1),Con Tryz.prog 323 1 [(0,⟨false,1,p.1.2.1.1,(fun i=>[.p (.int .i64 0)])⟩)] [(zf31 p),.p (.int .i64 0),.ar 1 0 0 p.1.2.1.1] (zf119 p o) (.p (.bool false)),((!true)=false),((!false)=true),(AN 1),(NL 0 0),(AN 0),(∀ i:Nat,(((i:Nat)<0)→(([.int .i64 0]:List PV)=[.int .i64 (z0 i)]))),(false=false),(AE 0)] [0,1,2,3,4,0,5,6,0,6,6,7,8,6,9,10,11,12,13,14,15,15,16]):=by kernel_rfl
abbrev RzE:=Int×T_IntS
def rzO (r:Nat) (R:Nat→RzE):Ob:=⟨false,2,r,fun i=>[.p (.int .i64 (R i).1),.p (.seq false 1 (R i).2.1 (fun s=>[.int .i64 ((R i).2.2 s)]))]⟩
def rzL (t:Bool) (r:Nat) (R:Nat→RzE):AV:=.p (.seq t 2 r (fun i=>[.int .i64 (R i).1,.seq t 1 (R i).2.1 (fun s=>[.int .i64 ((R i).2.2 s)])]))
def rzX (v:Int) (q:T_IntS):AV:=.agg [.p (.int .i64 v),inL q]
def rzB (v:Int) (q:T_IntS):Ob:=⟨true,2,1,fun _=>[.p (.int .i64 v),inL q]⟩
def snZ (r:Nat) (R:Nat→RzE) (x:RzE) (s:Nat):RzE:=if s<r then R s else x
def irS (p:T_Pinned) (u:T_IntS) (v:Int) (q:T_IntS) (i:Nat):St :=
  ⟨[pinA p,inL u,rzX v q,.pt 3 0 0 0,anyA,.pt 2 1 0 0]++List.replicate 26 anyA++[inL q,.p (.int .i64 q.1),.p (.int .i64 i)]++List.replicate 26 anyA,[(0,boxP p),(1,rzB v q)],2⟩
def frS (p:T_Pinned) (r:Nat) (R:Nat→RzE) (d:Nat) (D:Nat→Int) (m:Nat) (f:Nat→Int) (i:Nat):St :=
  ⟨[pinA p,.pt 3 0 0 0,anyA,anyA,.ar 2 1 0 r,.ar 1 2 0 d,fzL m f,.p (.int .i64 i)]++List.replicate 61 anyA,[(0,boxP p),(1,rzO r R),(2,iOb d D)],3⟩
def frB (v:Int) (c:Nat):Ob:=⟨true,2,1,fun _=>[.p (.int .i64 v),.ar 1 4 0 c]⟩
def frT (p:T_Pinned) (r:Nat) (R:Nat→RzE) (d:Nat) (D:Nat→Int) (m:Nat) (f:Nat→Int) (i:Nat) (v:Int) (c:Nat) (q:Nat→Int) (e:Nat):St :=
  ⟨[pinA p,.pt 3 0 0 0,anyA,anyA,.ar 2 1 0 r,.ar 1 2 0 d,fzL m f,.p (.int .i64 i),.pt 2 3 0 0]++List.replicate 23 anyA++[.p (.int .i64 p.1.2.1.1),.p (.int .i64 e)]++List.replicate 35 anyA,[(0,boxP p),(1,rzO r R),(2,iOb d D),(3,frB v c),(4,iOb c q)],5⟩
def lbS (p:T_Pinned) (u:T_IntS) (v:Int) (c:Nat) (q:Nat→Int) (i:Nat):St :=
  ⟨[pinA p,inL u,.p (.int .i64 v),.pt 3 0 0 0,anyA,anyA,anyA,.ar 1 1 0 c,.p (.int .i64 i)]++List.replicate 44 anyA,[(0,boxP p),(1,iOb c q)],2⟩
def grS5 (p:T_Pinned) (r:Nat) (R:Nat→RzE) (d:Nat) (D:Nat→Int) (m:Nat) (f:Nat→Int) (n:Nat):St :=
  ⟨[pinA p,.pt 3 0 0 0,anyA,anyA,.ar 2 1 0 r,.ar 1 2 0 d,fzL m f,.p (.int .i64 n)]++List.replicate 65 anyA,[(0,boxP p),(1,rzO r R),(2,iOb d D)],3⟩
def grT5 (p:T_Pinned) (r:Nat) (R:Nat→RzE) (d:Nat) (D:Nat→Int) (m:Nat) (f:Nat→Int) (n i:Nat):St :=
  ⟨[pinA p,.pt 3 0 0 0,anyA,anyA,.ar 2 1 0 r,.ar 1 2 0 d,fzL m f,.p (.int .i64 n),.p (.int .i64 i)]++List.replicate 64 anyA,[(0,boxP p),(1,rzO r R),(2,iOb d D)],3⟩
def soO (n:Nat) (F:Nat→ByteArray):Ob:=⟨false,1,n,fun i=>[.p (.str (F i))]⟩
def fmS (n:Nat) (R:Nat→RzE) (F:Nat→ByteArray) (i:Nat):St :=
  ⟨[rzL true n R,anyA,anyA,.ar 1 0 0 i]++List.replicate 6 anyA++[rzL true n R,.p (.int .i64 n),.p (.int .i64 i)]++List.replicate 17 anyA,[(0,soO i F)],1⟩
def fnS (n:Nat) (R:Nat→RzE) (s:ByteArray) (i:Nat):St :=
  ⟨[rzL true n R,anyA,anyA,.p (.str s),.p (.int .i64 i)]++List.replicate 48 anyA,[],0⟩
def fnT (n:Nat) (R:Nat→RzE) (s:ByteArray) (i k:Nat):St :=
  ⟨[rzL true n R,anyA,anyA,.p (.str s),.p (.int .i64 i),.p (.int .i64 k)]++List.replicate 47 anyA,[],0⟩
def sCo:ByteArray:=⟨#[58]⟩
theorem hoa (p:T_Pinned) (u:T_IntS) (v:Int) (e:Nat) :
    zS Tryz.f255 [rg 2,rm [(6,oc [] (.p (.bool true))),(9,oc [] (.p (.bool false)))] 2,.dec true,rg 1] [pinA p,inL u,.p (.int .i64 v),.p (.int .i64 e)] [] [] (.p (.bool false)) =
    some (zD [(NT 0 1),(ZLo ((↑p.1.2.1.1:Int) - 1)),(ZHi ((↑p.1.2.1.1:Int) - 1)),zE 179 [.p (.int .i64 (↑e:Int)),.p (.int .i64 0),.p (.int .i64 ((↑p.1.2.1.1:Int) - 1))] [] (.p (.bool true)),(AG (!!true)),(((!!true)=true)→(NT 0 1)),(((!!true)=true)→(IL 0 (↑e:Int))),(((!!true)=true)→(IT (↑e:Int) (↑p.1.2.1.1:Int))),(((!!true)=true)→ zE 222 [(zf114 p e),.p (.int .i64 v)] [] (.p (.bool false))),(((!true)=false)→ ((!!true)=true)),((bif !true then true else !false)=true),(false=false)] [0,1,2,3,4,4,5,4,4,6,7,4,4,4,8,4,9,10,11]):=by kernel_rfl
theorem hob (p:T_Pinned) (u:T_IntS) (v:Int) (e:Nat) (w:Int) (b1 b2:Bool) :
    zS Tryz.f255 [rg 2,rm [(6,oc [] (.p (.bool true))),(9,oc [] (.p (.bool true)))] 2,.dec false,rm [(7,oc [] (.p (.int .i64 w)))] 1,rm [(3,oc [] (.p (.bool b1))),(3,oc [] (.p (.bool b2)))] 2] [pinA p,inL u,.p (.int .i64 v),.p (.int .i64 e)] [] [] (.p (.bool (bif b1 then true else b2))) =
    some (zD [(NT 0 1),(ZLo ((↑p.1.2.1.1:Int) - 1)),(ZHi ((↑p.1.2.1.1:Int) - 1)),zE 179 [.p (.int .i64 (↑e:Int)),.p (.int .i64 0),.p (.int .i64 ((↑p.1.2.1.1:Int) - 1))] [] (.p (.bool true)),(AG (!!true)),(((!!true)=true)→(NT 0 1)),(((!!true)=true)→(IL 0 (↑e:Int))),(((!!true)=true)→(IT (↑e:Int) (↑p.1.2.1.1:Int))),(((!!true)=true)→ zE 222 [(zf114 p e),.p (.int .i64 v)] [] (.p (.bool true))),(((!true)=false)→ ((!!true)=true)),((bif !true then true else !true)=false),(IL 0 (↑e:Int)),(IT (↑e:Int) (↑p.1.2.1.1:Int)),zE 223 [(zf114 p e),.p (.int .i64 v)] [] (.p (.int .i64 w)),zE 184 [.p (.seq true 1 p.2.1.1 (fun i=>[.int .i64 (p.2.1.2 i)])),.p (.int .i64 w)] [] (.p (.bool b1)),(AG (!b1)),(((!b1)=true)→ zE 184 [.p (.seq true 1 u.1 (iRw u)),.p (.int .i64 w)] [] (.p (.bool b2))),((b1=false)→ ((!b1)=true)),((bif b1 then true else b2)=(bif b1 then true else b2))] [0,1,2,3,4,4,5,4,4,6,7,4,4,4,8,4,9,10,0,11,12,13,0,14,15,15,16,17,18]):=by kernel_rfl
theorem ira (p:T_Pinned) (u:T_IntS) (v:Int) (q:T_IntS) (b1 b2 b3:Bool) :
    zS Tryz.f256 [rg 3,rm [(1,oc [] (.p (.bool b1))),(5,oc [] (.p (.bool b2))),(6,oc [] (.p (.bool b3)))] 7,.dec true,rg 1] [pinA p,inL u,rzX v q] [] [] (.p (.bool false)) =
    some (zD [(NT 0 1),zE 142 [(zf31 p)] [] (.p (.bool b1)),(((!!b1)=true)→(NT 0 1)),(AG (!!b1)),(((!!b1)=true)→ zE 330 [(zf31 p),.p (.int .i64 v)] [] (.p (.bool b2))),(((!b1)=false)→ ((!!b1)=true)),(AG (!bif !b1 then true else !b2)),(((!bif !b1 then true else !b2)=true)→(NT 0 1)),(((!bif !b1 then true else !b2)=true)→ zE 184 [.p (.seq true 1 u.1 (iRw u)),.p (.int .i64 v)] [] (.p (.bool b3))),(((bif !b1 then true else !b2)=false)→ ((!bif !b1 then true else !b2)=true)),(AG (!bif bif !b1 then true else !b2 then true else b3)),(((!bif bif !b1 then true else !b2 then true else b3)=true)→(NT 0 1)),(((bif bif !b1 then true else !b2 then true else b3)=false)→ ((!bif bif !b1 then true else !b2 then true else b3)=true)),((bif bif bif !b1 then true else !b2 then true else b3 then true else decide ((↑q.1:Int)<2))=true),(false=false)] [0,1,2,3,2,3,3,4,3,5,6,7,6,6,8,9,10,11,10,10,12,13,14]):=by kernel_rfl
theorem irz (p:T_Pinned) (u:T_IntS) (v:Int) (q:T_IntS) (b1 b2 b3:Bool) :
    zT Tryz.f256 [rg 3,rm [(1,oc [] (.p (.bool b1))),(5,oc [] (.p (.bool b2))),(6,oc [] (.p (.bool b3)))] 7,.dec false,rg 4,.head] [pinA p,inL u,rzX v q] [0,32] (irS p u v q 0) =
    some (zf83,zD [(NT 0 1),zE 142 [(zf31 p)] [] (.p (.bool b1)),(((!!b1)=true)→(NT 0 1)),(AG (!!b1)),(((!!b1)=true)→ zE 330 [(zf31 p),.p (.int .i64 v)] [] (.p (.bool b2))),(((!b1)=false)→ ((!!b1)=true)),(AG (!bif !b1 then true else !b2)),(((!bif !b1 then true else !b2)=true)→(NT 0 1)),(((!bif !b1 then true else !b2)=true)→ zE 184 [.p (.seq true 1 u.1 (iRw u)),.p (.int .i64 v)] [] (.p (.bool b3))),(((bif !b1 then true else !b2)=false)→ ((!bif !b1 then true else !b2)=true)),(AG (!bif bif !b1 then true else !b2 then true else b3)),(((!bif bif !b1 then true else !b2 then true else b3)=true)→(NT 0 1)),(((bif bif !b1 then true else !b2 then true else b3)=false)→ ((!bif bif !b1 then true else !b2 then true else b3)=true)),((bif bif bif !b1 then true else !b2 then true else b3 then true else decide ((↑q.1:Int)<2))=false),(AI p.1.1),(AN p.1.2.1.1),(AP p.1.2.1.1 (fun i=>[.int .i64 ((p.1.2.1.2 i).1),.int .i64 ((p.1.2.1.2 i).2.1)])),(AN p.2.1.1),(AP p.2.1.1 (fun i=>[.int .i64 (p.2.1.2 i)])),(AN u.1),(AP u.1 (iRw u)),(AI v),(AN q.1),(AP q.1 (iRw q)),(AN 0),(AI ((↑q.1:Int))),((0:Int)=(↑0:Int)),((([AV.p (PV.int IntKind.i64 p.1.1),graphL p.1.2.1,inL p.2.1].length):Nat)=3),(NL 1 1),((([AV.p (PV.int IntKind.i64 v),inL q].length):Nat)=2)] [0,1,2,3,2,3,3,4,3,5,6,7,6,6,8,9,10,11,10,10,12,13,0,14,15,16,17,18,19,20,21,22,23,24,24,22,23,25,26,27,28,28,14,15,16,17,18,29,28,28,21,22,23]):=by kernel_rfl
theorem irb (p:T_Pinned) (u:T_IntS) (v:Int) (q:T_IntS) (i:Nat) :
    zM 0 [rg 1,.dec true,rg 5,rm [(5,oc [] (.p (.bool true)))] 15,.dec false,rg 2,.head] zf83 (irS p u v q i) [0,1] 1 (irS p u v q (i+1)) =
    some (zf83,zD [((decide ((↑i:Int)<(↑q.1:Int)))=true),(IL 0 (↑i:Int)),(IT (↑i:Int) (↑q.1:Int)),(NT 0 1),zE 255 [(zf30 p),.p (.seq true 1 u.1 (iRw u)),.p (.int .i64 v),.p (.int .i64 (q.2 i))] [] (.p (.bool true)),(AG (!!true)),(AG (!!true&&decide ((↑i:Int)>0))),(((!!true&&decide ((↑i:Int)>0))=true)→(NT 0 1)),(((!!true&&decide ((↑i:Int)>0))=true)→(ZLo ((↑i:Int) - 1))),(((!!true&&decide ((↑i:Int)>0))=true)→(ZHi ((↑i:Int) - 1))),(((!!true&&decide ((↑i:Int)>0))=true)→(IL 0 ((↑i:Int) - 1))),(((!!true&&decide ((↑i:Int)>0))=true)→(IT ((↑i:Int) - 1) (↑q.1:Int))),(((!!true)=true)→(((decide ((↑i:Int)>0))=true)→ ((!!true&&decide ((↑i:Int)>0))=true))),(((!true)=false)→ ((!!true)=true)),((bif !true then true else bif decide ((↑i:Int)>0) then decide (q.2 ((↑i:Int) - 1).toNat≥q.2 (↑i:Int).toNat) else false)=false),(ZLo ((↑i:Int)+1)),(ZHi ((↑i:Int)+1)),(AI p.1.1),(AN p.1.2.1.1),(AP p.1.2.1.1 (fun i_1=>[.int .i64 ((p.1.2.1.2 i_1).1),.int .i64 ((p.1.2.1.2 i_1).2.1)])),(AN p.2.1.1),(AP p.2.1.1 (fun i_1=>[.int .i64 (p.2.1.2 i_1)])),(AN u.1),(AP u.1 (iRw u)),(AI v),(AN q.1),(AP q.1 (iRw q)),(AN 0),(AI ((↑q.1:Int))),((((↑i:Int)+1):Int)=(↑(i+1):Int)),(AN 3),(NL 1 1),(AN 2)] [0,1,2,3,3,4,5,5,6,7,6,8,9,6,6,10,11,6,6,6,5,12,13,14,15,16,17,18,19,20,21,22,23,24,25,26,27,27,25,26,28,29,30,31,31,17,18,19,20,21,32,31,31,24,25,26]):=by kernel_rfl
theorem ire (p:T_Pinned) (u:T_IntS) (v:Int) (q:T_IntS) (i:Nat) :
    zP Tryz.f256 0 [rg 1,.dec false,rg 1] zf83 (irS p u v q i) [] 1 [] (.p (.bool true)) =
    some [((decide ((↑i:Int)<(↑q.1:Int)))=false),(true=true)]:=by kernel_rfl
theorem frn (p:T_Pinned) :
    zS Tryz.f145 [rg 3,rg 2,rm [(1,oc [] (.p (.bool false)))] 1,.dec true,rg 3] [pinA p] [] [] (.tup [rzL false 0 (fun _=>(0,(0,z0))),.p (.bool false)]) =
    some [(NT 0 1),zE 142 [(zf31 p)] [] (.p (.bool false)),((!false)=true),(AN 2),(NL 0 0),(AN 0),(∀ i:Nat,(((i:Nat)<0)→(([.int .i64 0,.nil]:List PV)=[.int .i64 0,.seq false 1 0 (fun i_1=>[.int .i64 ((0,z0).2 i_1)])]))),(false=false),(false=false),(∀ i:Nat,(((i:Nat)<0)→All [(false=false),(AE 0)]))]:=by kernel_rfl
theorem frz (p:T_Pinned) (m:Nat) (f:Nat→Int) :
    zT Tryz.f145 [rg 3,rg 2,rm [(1,oc [] (.p (.bool true)))] 1,.dec false,rg 2,rm [(1,oc [(0,iOb m f)] (.ar 1 0 0 m))] 1,rg 1,.head] [pinA p] [0,96,256] (frS p 0 (fun _=>(0,(0,z0))) 0 z0 m f 0) =
    some (zf36,zD [(NT 0 1),zE 142 [(zf31 p)] [] (.p (.bool true)),((!true)=false),zE 254 [(zf31 p)] [(0,⟨false,1,m,(fun i=>[.p (.int .i64 (f i))])⟩)] (.ar 1 0 0 m),(AI p.1.1),(AN p.1.2.1.1),(AP p.1.2.1.1 (fun i=>[.int .i64 ((p.1.2.1.2 i).1),.int .i64 ((p.1.2.1.2 i).2.1)])),(AN p.2.1.1),(AP p.2.1.1 (fun i=>[.int .i64 (p.2.1.2 i)])),(AN 0),(AN 1),(NL m m),(AN m),(AP m (fun i=>[.int .i64 (f i)])),((0:Int)=(↑0:Int)),((([AV.p (PV.int IntKind.i64 p.1.1),graphL p.1.2.1,inL p.2.1].length):Nat)=3),(NL 1 1),(AN 2),(NL 0 0),(∀ i:Nat,(((i:Nat)<0)→(All []∧(([.p (.int .i64 0),.p (.nil)]:List AV)=[.p (.int .i64 0),.p (.seq false 1 0 (fun i_1=>[.int .i64 ((0,z0).2 i_1)]))])))),(∀ i:Nat,(((i:Nat)<0)→(All []∧(([.p (.int .i64 0)]:List AV)=[.p (.int .i64 (z0 i))]))))] [0,1,2,0,3,4,5,6,7,8,9,9,9,9,9,10,11,12,13,14,15,16,16,4,5,6,7,8,17,18,19,10,18,20]):=by kernel_rfl
theorem fra (p:T_Pinned) (r:Nat) (R:Nat→RzE) (d:Nat) (D:Nat→Int) (m:Nat) (f:Nat→Int) (i:Nat) :
    zM 0 [rg 4,.dec true,rg 7,rg 5,.head] zf36 (frS p r R d D m f i) [0,1,2,291] 1 (frT p r R d D m f i (f i) 0 z0 0) =
    some (zf13,zD [((decide ((↑i:Int)<(↑m:Int)))=true),(IL 0 (↑i:Int)),(IT (↑i:Int) (↑m:Int)),(NT 0 1),((true=true)→ (AN 1)),(AI p.1.1),(AN p.1.2.1.1),(AP p.1.2.1.1 (fun i_1=>[.int .i64 ((p.1.2.1.2 i_1).1),.int .i64 ((p.1.2.1.2 i_1).2.1)])),(AN p.2.1.1),(AP p.2.1.1 (fun i_1=>[.int .i64 (p.2.1.2 i_1)])),(AN 0),(AN r),(AN d),(AN m),(AP m (fun i_1=>[.int .i64 (f i_1)])),(AI ((↑i:Int))),(AI ((↑p.1.2.1.1:Int))),((0:Int)=(↑0:Int)),(AN 3),(NL 1 1),(AN 2),(NL r r),(AA r (fun i_1=>[.p (.int .i64 ((R i_1).1)),.p (.seq false 1 ((R i_1).2.1) (fun i_2=>[.int .i64 ((R i_1).2.2 i_2)]))])),(AN 1),(NL d d),(AA d (fun i_1=>[.p (.int .i64 (D i_1))])),((((List.map (fun v=>AV.p (absV v)) [Value.int IntKind.i64 0,Value.slice none 0 0]).length):Nat)=2),(AI ((f i)))] [0,1,2,3,4,3,5,6,7,8,9,10,10,11,10,12,13,14,15,10,16,17,18,19,19,5,6,7,8,9,20,21,22,23,24,25,26,19,19,27,10,10]):=by kernel_rfl
theorem frb (p:T_Pinned) (r:Nat) (R:Nat→RzE) (d:Nat) (D:Nat→Int) (m:Nat) (f:Nat→Int) (i:Nat) (v:Int) (c:Nat) (q:Nat→Int) (e:Nat) :
    zM 0 [rg 1,.dec true,rg 2,rm [(5,oc [] (.p (.bool true)))] 0,.dec true,rg 7,rg 2,.head] zf13 (frT p r R d D m f i v c q e) [0,1,2,3,421] 1 (frT p r R d D m f i v (c+1) (snI5 c q e) (e+1)) =
    some (zf13,zD [((decide ((↑e:Int)<(↑p.1.2.1.1:Int)))=true),(NT 0 1),(AN 1),(NL d d),zE 255 [(zf30 p),.p (.seq true 1 d (fun i_1=>[.int .i64 (D i_1)])),.p (.int .i64 v),.p (.int .i64 (↑e:Int))] [] (.p (.bool true)),(true=true),(NL 1 1),(NL c c),(NL ((c+1)*8) 140737488355328),(NL (c+1) 9223372036854775807),((true=true)→ (AN 1)),(ZLo ((↑e:Int)+1)),(ZHi ((↑e:Int)+1)),(AI p.1.1),(AN p.1.2.1.1),(AP p.1.2.1.1 (fun i_1=>[.int .i64 ((p.1.2.1.2 i_1).1),.int .i64 ((p.1.2.1.2 i_1).2.1)])),(AN p.2.1.1),(AP p.2.1.1 (fun i_1=>[.int .i64 (p.2.1.2 i_1)])),(AN 0),(AN r),(AN d),(AN m),(AP m (fun i_1=>[.int .i64 (f i_1)])),(AI ((↑i:Int))),(AI ((↑p.1.2.1.1:Int))),((((↑e:Int)+1):Int)=(↑(e+1):Int)),(AN 3),(AN 2),(NL r r),(AA r (fun i_1=>[.p (.int .i64 ((R i_1).1)),.p (.seq false 1 ((R i_1).2.1) (fun i_2=>[.int .i64 ((R i_1).2.2 i_2)]))])),(AA d (fun i_1=>[.p (.int .i64 (D i_1))])),(AI v),(AN ((c+1))),(NL (c+1) (c+1)),(CV [(3,⟨true,2,1,(fun i_2=>[.p (.int .i64 v),.ar 1 421 0 (c+1)])⟩),(421,⟨false,1,(c+1),(fun i_2=>(if (i_2<c) then [.p (.int .i64 (q i_2))] else [.p (.int .i64 (↑e:Int))]))⟩),(389,⟨false,1,1,(fun i_2=>[.p (.int .i64 (↑e:Int))])⟩),(0,⟨true,3,1,(fun i_2=>[.p (.int .i64 p.1.1),.p (.seq true 2 p.1.2.1.1 (fun i_3=>[.int .i64 ((p.1.2.1.2 i_3).1),.int .i64 ((p.1.2.1.2 i_3).2.1)])),.p (.seq true 1 p.2.1.1 (fun i_3=>[.int .i64 (p.2.1.2 i_3)]))])⟩),(1,⟨false,2,r,(fun i_2=>[.p (.int .i64 ((R i_2).1)),.p (.seq false 1 ((R i_2).2.1) (fun i_3=>[.int .i64 ((R i_2).2.2 i_3)]))])⟩),(2,⟨false,1,d,(fun i_2=>[.p (.int .i64 (D i_2))])⟩)] [0,1,2,3,421] 1 (c+1) (fun i_1=>if (i_1<c) then [.p (.int .i64 (q i_1))] else [.p (.int .i64 (↑e:Int))]) (fun i_1=>[.p (.int .i64 (snI5 c q (↑e:Int) i_1))]))] [0,1,1,2,3,4,5,1,6,7,8,9,1,10,11,12,13,14,15,16,17,18,18,19,18,20,21,22,23,18,24,25,26,6,6,13,14,15,16,17,27,28,29,2,3,30,27,6,6,31,18,32,2,33,34]):=by kernel_rfl
theorem frc (p:T_Pinned) (r:Nat) (R:Nat→RzE) (d:Nat) (D:Nat→Int) (m:Nat) (f:Nat→Int) (i:Nat) (v:Int) (c:Nat) (q:Nat→Int) (e:Nat) :
    zM 0 [rg 1,.dec true,rg 2,rm [(5,oc [] (.p (.bool false)))] 0,.dec false,rg 2,.head] zf13 (frT p r R d D m f i v c q e) [0,1,2,3,4] 1 (frT p r R d D m f i v c q (e+1)) =
    some (zf13,zD [((decide ((↑e:Int)<(↑p.1.2.1.1:Int)))=true),(NT 0 1),(AN 1),(NL d d),zE 255 [(zf30 p),.p (.seq true 1 d (fun i_1=>[.int .i64 (D i_1)])),.p (.int .i64 v),.p (.int .i64 (↑e:Int))] [] (.p (.bool false)),(false=false),(ZLo ((↑e:Int)+1)),(ZHi ((↑e:Int)+1)),(AI p.1.1),(AN p.1.2.1.1),(AP p.1.2.1.1 (fun i_1=>[.int .i64 ((p.1.2.1.2 i_1).1),.int .i64 ((p.1.2.1.2 i_1).2.1)])),(AN p.2.1.1),(AP p.2.1.1 (fun i_1=>[.int .i64 (p.2.1.2 i_1)])),(AN 0),(AN r),(AN d),(AN m),(AP m (fun i_1=>[.int .i64 (f i_1)])),(AI ((↑i:Int))),(AI ((↑p.1.2.1.1:Int))),((((↑e:Int)+1):Int)=(↑(e+1):Int)),(AN 3),(NL 1 1),(AN 2),(NL r r),(AA r (fun i_1=>[.p (.int .i64 ((R i_1).1)),.p (.seq false 1 ((R i_1).2.1) (fun i_2=>[.int .i64 ((R i_1).2.2 i_2)]))])),(AA d (fun i_1=>[.p (.int .i64 (D i_1))])),(AI v),(AN c),(NL c c),(AA c (fun i_1=>[.p (.int .i64 (q i_1))]))] [0,1,1,2,3,4,5,6,7,8,9,10,11,12,13,13,14,13,15,16,17,18,13,19,20,21,22,22,8,9,10,11,12,23,24,25,2,3,26,23,22,22,27,13,28,2,29,30]):=by kernel_rfl
theorem frd (p:T_Pinned) (r:Nat) (R:Nat→RzE) (d:Nat) (D:Nat→Int) (m:Nat) (f:Nat→Int) (i:Nat) (v:Int) (c:Nat) (q:Nat→Int) (e:Nat) :
    zM 0 [rg 1,.dec false,rm [(3,oc [] (.p (.bool true)))] 0,.dec true,rg 5,rg 6,rg 1,rg 3,.head] zf13 (frT p r R d D m f i v c q e) [0,261,453] 1 (frS p (r+1) (snZ r R (v,(c,q))) (d+1) (snI5 d D v) m f 0) =
    some (zf36,zD [((decide ((↑e:Int)<(↑p.1.2.1.1:Int)))=false),(NT 0 1),(AN 1),(NL d d),(NL c c),zE 256 [(zf30 p),.p (.seq true 1 d (fun i_1=>[.int .i64 (D i_1)])),.agg [.p (.int .i64 v),.p (.seq true 1 c (fun i_1=>[.int .i64 (q i_1)]))]] [] (.p (.bool true)),(true=true),(NL 1 1),(NL r r),(NL ((r+1)*32) 140737488355328),(NL (r+1) 9223372036854775807),(NL ((d+1)*8) 140737488355328),(NL (d+1) 9223372036854775807),(ZLo (-1+1)),(ZHi (-1+1)),(AI p.1.1),(AN p.1.2.1.1),(AP p.1.2.1.1 (fun i_1=>[.int .i64 ((p.1.2.1.2 i_1).1),.int .i64 ((p.1.2.1.2 i_1).2.1)])),(AN p.2.1.1),(AP p.2.1.1 (fun i_1=>[.int .i64 (p.2.1.2 i_1)])),(AN 0),(AN ((r+1))),(AN ((d+1))),(AN m),(AP m (fun i_1=>[.int .i64 (f i_1)])),(((-1+1):Int)=(↑0:Int)),(AN 3),(AN 2),(NL (r+1) (r+1)),(CV [(453,⟨false,1,(d+1),(fun i_2=>(if (i_2<d) then [.p (.int .i64 (D i_2))] else [.p (.int .i64 v)]))⟩),(421,⟨false,1,1,(fun i_2=>[.p (.int .i64 v)])⟩),(261,⟨false,2,(r+1),(fun i_2=>(if (i_2<r) then [.p (.int .i64 ((R i_2).1)),.p (.seq false 1 ((R i_2).2.1) (fun i_3=>[.int .i64 ((R i_2).2.2 i_3)]))] else [.p (.int .i64 v),.ar 1 4 0 c]))⟩),(229,⟨false,2,1,(fun i_2=>[.p (.int .i64 v),.ar 1 4 0 c])⟩),(0,⟨true,3,1,(fun i_2=>[.p (.int .i64 p.1.1),.p (.seq true 2 p.1.2.1.1 (fun i_3=>[.int .i64 ((p.1.2.1.2 i_3).1),.int .i64 ((p.1.2.1.2 i_3).2.1)])),.p (.seq true 1 p.2.1.1 (fun i_3=>[.int .i64 (p.2.1.2 i_3)]))])⟩),(3,⟨true,2,1,(fun i_2=>[.p (.int .i64 v),.ar 1 4 0 c])⟩),(4,⟨false,1,c,(fun i_2=>[.p (.int .i64 (q i_2))])⟩)] [0,261,453] 1 (r+1) (fun i_1=>if (i_1<r) then [.p (.int .i64 ((R i_1).1)),.p (.seq false 1 ((R i_1).2.1) (fun i_2=>[.int .i64 ((R i_1).2.2 i_2)]))] else [.p (.int .i64 v),.ar 1 4 0 c]) (fun i_1=>[.p (.int .i64 ((snZ r R (v,c,q) i_1).1)),.p (.seq false 1 ((snZ r R (v,c,q) i_1).2.1) (fun i_2=>[.int .i64 ((snZ r R (v,c,q) i_1).2.2 i_2)]))])),(NL (d+1) (d+1)),(CV [(453,⟨false,1,(d+1),(fun i_2=>(if (i_2<d) then [.p (.int .i64 (D i_2))] else [.p (.int .i64 v)]))⟩),(421,⟨false,1,1,(fun i_2=>[.p (.int .i64 v)])⟩),(261,⟨false,2,(r+1),(fun i_2=>(if (i_2<r) then [.p (.int .i64 ((R i_2).1)),.p (.seq false 1 ((R i_2).2.1) (fun i_3=>[.int .i64 ((R i_2).2.2 i_3)]))] else [.p (.int .i64 v),.ar 1 4 0 c]))⟩),(229,⟨false,2,1,(fun i_2=>[.p (.int .i64 v),.ar 1 4 0 c])⟩),(0,⟨true,3,1,(fun i_2=>[.p (.int .i64 p.1.1),.p (.seq true 2 p.1.2.1.1 (fun i_3=>[.int .i64 ((p.1.2.1.2 i_3).1),.int .i64 ((p.1.2.1.2 i_3).2.1)])),.p (.seq true 1 p.2.1.1 (fun i_3=>[.int .i64 (p.2.1.2 i_3)]))])⟩),(3,⟨true,2,1,(fun i_2=>[.p (.int .i64 v),.ar 1 4 0 c])⟩),(4,⟨false,1,c,(fun i_2=>[.p (.int .i64 (q i_2))])⟩)] [0,261,453] 1 (d+1) (fun i_1=>if (i_1<d) then [.p (.int .i64 (D i_1))] else [.p (.int .i64 v)]) (fun i_1=>[.p (.int .i64 (snI5 d D v i_1))]))] [0,1,1,2,3,2,4,5,6,1,7,8,9,10,1,7,3,11,12,13,14,15,16,17,18,19,20,20,21,20,22,23,24,25,26,7,7,15,16,17,18,19,27,28,29,2,30,31]):=by kernel_rfl
theorem fre (p:T_Pinned) (r:Nat) (R:Nat→RzE) (d:Nat) (D:Nat→Int) (m:Nat) (f:Nat→Int) (i:Nat) (v:Int) (c:Nat) (q:Nat→Int) (e:Nat) :
    zM 0 [rg 1,.dec false,rm [(3,oc [] (.p (.bool false)))] 0,.dec false,rg 3,.head] zf13 (frT p r R d D m f i v c q e) [0,1,2] 1 (frS p r R d D m f (i+1)) =
    some (zf36,zD [((decide ((↑e:Int)<(↑p.1.2.1.1:Int)))=false),(NT 0 1),(AN 1),(NL d d),(NL c c),zE 256 [(zf30 p),.p (.seq true 1 d (fun i_1=>[.int .i64 (D i_1)])),.agg [.p (.int .i64 v),.p (.seq true 1 c (fun i_1=>[.int .i64 (q i_1)]))]] [] (.p (.bool false)),(false=false),(ZLo ((↑i:Int)+1)),(ZHi ((↑i:Int)+1)),(AI p.1.1),(AN p.1.2.1.1),(AP p.1.2.1.1 (fun i_1=>[.int .i64 ((p.1.2.1.2 i_1).1),.int .i64 ((p.1.2.1.2 i_1).2.1)])),(AN p.2.1.1),(AP p.2.1.1 (fun i_1=>[.int .i64 (p.2.1.2 i_1)])),(AN 0),(AN r),(AN d),(AN m),(AP m (fun i_1=>[.int .i64 (f i_1)])),((((↑i:Int)+1):Int)=(↑(i+1):Int)),(AN 3),(NL 1 1),(AN 2),(NL r r),(AA r (fun i_1=>[.p (.int .i64 ((R i_1).1)),.p (.seq false 1 ((R i_1).2.1) (fun i_2=>[.int .i64 ((R i_1).2.2 i_2)]))])),(AA d (fun i_1=>[.p (.int .i64 (D i_1))]))] [0,1,1,2,3,2,4,5,6,7,8,9,10,11,12,13,14,14,15,14,16,17,18,19,20,21,21,9,10,11,12,13,22,23,24,2,3,25]):=by kernel_rfl
theorem frf (p:T_Pinned) (r:Nat) (R:Nat→RzE) (d:Nat) (D:Nat→Int) (m:Nat) (f:Nat→Int) (i:Nat) :
    zP Tryz.f145 0 [rg 4,.dec false,rg 5,.dec true,rg 3] zf36 (frS p r R d D m f i) [] 1 [] (.tup [rzL false 0 (fun _=>(0,(0,z0))),.p (.bool false)]) =
    some [((decide ((↑i:Int)<(↑m:Int)))=false),(((↑d:Int) != (↑m:Int))=true),(AN 2),(NL 0 0),(AN 0),(∀ i_1:Nat,(((i_1:Nat)<0)→(([.int .i64 0,.nil]:List PV)=[.int .i64 0,.seq false 1 0 (fun i_2=>[.int .i64 ((0,z0).2 i_2)])]))),(false=false),(false=false),(∀ i_1:Nat,(((i_1:Nat)<0)→All [(false=false),(AE 0)]))]:=by kernel_rfl
theorem frg (p:T_Pinned) (r:Nat) (R:Nat→RzE) (d:Nat) (D:Nat→Int) (m:Nat) (f:Nat→Int) (i:Nat) :
    zP Tryz.f145 0 [rg 4,.dec false,rg 5,.dec false,rg 3] zf36 (frS p r R d D m f i) [] 1 [] (.tup [rzL false r R,.p (.bool true)]) =
    some [((decide ((↑i:Int)<(↑m:Int)))=false),(((↑d:Int) != (↑m:Int))=false),(AN 2),(NL r r),(AN r),(AP r (fun i_1=>[.int .i64 ((R i_1).1),.seq false 1 ((R i_1).2.1) (fun i_2=>[.int .i64 ((R i_1).2.2 i_2)])])),(true=true),(false=false),(∀ i_1:Nat,(((i_1:Nat)<r)→All [(false=false),(AE (((R i_1).2.1)))]))]:=by kernel_rfl
theorem lbz (p:T_Pinned) (u:T_IntS) (v:Int) :
    zT Tryz.f248 [rg 2,rg 2,rg 1,.head] [pinA p,inL u,.p (.int .i64 v)] [0,64] (lbS p u v 0 z0 0) =
    some (zf84,zD [(AI p.1.1),(AN p.1.2.1.1),(AP p.1.2.1.1 (fun i=>[.int .i64 ((p.1.2.1.2 i).1),.int .i64 ((p.1.2.1.2 i).2.1)])),(AN p.2.1.1),(AP p.2.1.1 (fun i=>[.int .i64 (p.2.1.2 i)])),(AN u.1),(AP u.1 (iRw u)),(AI v),(AN 0),((0:Int)=(↑0:Int)),((([AV.p (PV.int IntKind.i64 p.1.1),graphL p.1.2.1,inL p.2.1].length):Nat)=3),(NL 1 1),(AN 1),(NL 0 0),(∀ i:Nat,(((i:Nat)<0)→(All []∧(([.p (.int .i64 0)]:List AV)=[.p (.int .i64 (z0 i))]))))] [0,1,2,3,4,5,6,7,8,8,8,9,10,11,11,0,1,2,3,4,12,13,14]):=by kernel_rfl
theorem lba (p:T_Pinned) (u:T_IntS) (v:Int) (c:Nat) (q:Nat→Int) (i:Nat) (w:Int) (b1 b2:Bool) :
    zM 0 [rg 6,.dec true,rg 8,rg 10,.dec true,rm [(2,oc [] (.p (.int .i64 w)))] 1,rm [(3,oc [] (.p (.bool b1))),(3,oc [] (.p (.bool b2)))] 1,.dec true,rg 5,rg 3,.head] zf84 (lbS p u v c q i) [0,1282] 1 (lbS p u v (c+1) (snI5 c q i) (i+1)) =
    some (zf84,zD [(NT 0 1),((decide ((↑i:Int)<(↑p.1.2.1.1:Int)))=true),(IL 0 (↑i:Int)),(IT (↑i:Int) (↑p.1.2.1.1:Int)),((true=true)→ (AN 1)),(AG (!(p.1.2.1.2 i).1==v)),(((!(p.1.2.1.2 i).1==v)=true)→(NT 0 1)),((((p.1.2.1.2 i).1==v)=false)→ ((!(p.1.2.1.2 i).1==v)=true)),((bif (p.1.2.1.2 i).1==v then true else (p.1.2.1.2 i).2.1==v)=true),zE 324 [(zf114 p i),.p (.int .i64 v)] [] (.p (.int .i64 w)),zE 172 [.p (.seq true 1 p.2.1.1 (fun i_1=>[.int .i64 (p.2.1.2 i_1)])),.p (.int .i64 w)] [] (.p (.bool b1)),(AG (!b1)),(((!b1)=true)→ zE 172 [.p (.seq true 1 u.1 (iRw u)),.p (.int .i64 w)] [] (.p (.bool b2))),((b1=false)→ ((!b1)=true)),((bif b1 then true else b2)=true),(NL 1 1),(NL c c),(NL ((c+1)*8) 140737488355328),(NL (c+1) 9223372036854775807),(ZLo ((↑i:Int)+1)),(ZHi ((↑i:Int)+1)),(AI p.1.1),(AN p.1.2.1.1),(AP p.1.2.1.1 (fun i_1=>[.int .i64 ((p.1.2.1.2 i_1).1),.int .i64 ((p.1.2.1.2 i_1).2.1)])),(AN p.2.1.1),(AP p.2.1.1 (fun i_1=>[.int .i64 (p.2.1.2 i_1)])),(AN u.1),(AP u.1 (iRw u)),(AI v),(AN 0),(AN ((c+1))),((((↑i:Int)+1):Int)=(↑(i+1):Int)),(AN 3),(AN 1),(NL (c+1) (c+1)),(CV [(1282,⟨false,1,(c+1),(fun i_2=>(if (i_2<c) then [.p (.int .i64 (q i_2))] else [.p (.int .i64 (↑i:Int))]))⟩),(1250,⟨false,1,1,(fun i_2=>[.p (.int .i64 (↑i:Int))])⟩),(386,⟨true,2,1,(fun i_2=>[.p (.int .i64 ((p.1.2.1.2 i).1)),.p (.int .i64 ((p.1.2.1.2 i).2.1))])⟩),(0,⟨true,3,1,(fun i_2=>[.p (.int .i64 p.1.1),.p (.seq true 2 p.1.2.1.1 (fun i_3=>[.int .i64 ((p.1.2.1.2 i_3).1),.int .i64 ((p.1.2.1.2 i_3).2.1)])),.p (.seq true 1 p.2.1.1 (fun i_3=>[.int .i64 (p.2.1.2 i_3)]))])⟩)] [0,1282] 1 (c+1) (fun i_1=>if (i_1<c) then [.p (.int .i64 (q i_1))] else [.p (.int .i64 (↑i:Int))]) (fun i_1=>[.p (.int .i64 (snI5 c q (↑i:Int) i_1))]))] [0,1,0,2,3,0,4,0,5,6,5,5,7,8,0,9,0,10,11,11,12,13,14,15,16,17,18,19,20,21,22,23,24,25,26,27,28,29,29,30,31,32,15,15,21,22,23,24,25,33,34,35]):=by kernel_rfl
theorem lbb (p:T_Pinned) (u:T_IntS) (v:Int) (c:Nat) (q:Nat→Int) (i:Nat) (w:Int) (b1 b2:Bool) :
    zM 0 [rg 6,.dec true,rg 8,rg 10,.dec true,rm [(2,oc [] (.p (.int .i64 w)))] 1,rm [(3,oc [] (.p (.bool b1))),(3,oc [] (.p (.bool b2)))] 1,.dec false,rg 3,.head] zf84 (lbS p u v c q i) [0,1] 1 (lbS p u v c q (i+1)) =
    some (zf84,zD [(NT 0 1),((decide ((↑i:Int)<(↑p.1.2.1.1:Int)))=true),(IL 0 (↑i:Int)),(IT (↑i:Int) (↑p.1.2.1.1:Int)),((true=true)→ (AN 1)),(AG (!(p.1.2.1.2 i).1==v)),(((!(p.1.2.1.2 i).1==v)=true)→(NT 0 1)),((((p.1.2.1.2 i).1==v)=false)→ ((!(p.1.2.1.2 i).1==v)=true)),((bif (p.1.2.1.2 i).1==v then true else (p.1.2.1.2 i).2.1==v)=true),zE 324 [(zf114 p i),.p (.int .i64 v)] [] (.p (.int .i64 w)),zE 172 [.p (.seq true 1 p.2.1.1 (fun i_1=>[.int .i64 (p.2.1.2 i_1)])),.p (.int .i64 w)] [] (.p (.bool b1)),(AG (!b1)),(((!b1)=true)→ zE 172 [.p (.seq true 1 u.1 (iRw u)),.p (.int .i64 w)] [] (.p (.bool b2))),((b1=false)→ ((!b1)=true)),((bif b1 then true else b2)=false),(ZLo ((↑i:Int)+1)),(ZHi ((↑i:Int)+1)),(AI p.1.1),(AN p.1.2.1.1),(AP p.1.2.1.1 (fun i_1=>[.int .i64 ((p.1.2.1.2 i_1).1),.int .i64 ((p.1.2.1.2 i_1).2.1)])),(AN p.2.1.1),(AP p.2.1.1 (fun i_1=>[.int .i64 (p.2.1.2 i_1)])),(AN u.1),(AP u.1 (iRw u)),(AI v),(AN 0),(AN c),((((↑i:Int)+1):Int)=(↑(i+1):Int)),(AN 3),(NL 1 1),(AN 1),(NL c c),(AA c (fun i_1=>[.p (.int .i64 (q i_1))]))] [0,1,0,2,3,0,4,0,5,6,5,5,7,8,0,9,0,10,11,11,12,13,14,15,16,17,18,19,20,21,22,23,24,25,25,26,27,28,29,29,17,18,19,20,21,30,31,32]):=by kernel_rfl
theorem lbc (p:T_Pinned) (u:T_IntS) (v:Int) (c:Nat) (q:Nat→Int) (i:Nat) :
    zM 0 [rg 6,.dec true,rg 8,rg 10,.dec false,rg 3,.head] zf84 (lbS p u v c q i) [0,1] 1 (lbS p u v c q (i+1)) =
    some (zf84,zD [(NT 0 1),((decide ((↑i:Int)<(↑p.1.2.1.1:Int)))=true),(IL 0 (↑i:Int)),(IT (↑i:Int) (↑p.1.2.1.1:Int)),((true=true)→ (AN 1)),(AG (!(p.1.2.1.2 i).1==v)),(((!(p.1.2.1.2 i).1==v)=true)→(NT 0 1)),((((p.1.2.1.2 i).1==v)=false)→ ((!(p.1.2.1.2 i).1==v)=true)),((bif (p.1.2.1.2 i).1==v then true else (p.1.2.1.2 i).2.1==v)=false),(ZLo ((↑i:Int)+1)),(ZHi ((↑i:Int)+1)),(AI p.1.1),(AN p.1.2.1.1),(AP p.1.2.1.1 (fun i_1=>[.int .i64 ((p.1.2.1.2 i_1).1),.int .i64 ((p.1.2.1.2 i_1).2.1)])),(AN p.2.1.1),(AP p.2.1.1 (fun i_1=>[.int .i64 (p.2.1.2 i_1)])),(AN u.1),(AP u.1 (iRw u)),(AI v),(AN 0),(AN c),((((↑i:Int)+1):Int)=(↑(i+1):Int)),(AN 3),(NL 1 1),(AN 1),(NL c c),(AA c (fun i_1=>[.p (.int .i64 (q i_1))]))] [0,1,0,2,3,0,4,0,5,6,5,5,7,8,9,10,11,12,13,14,15,16,17,18,19,19,20,21,22,23,23,11,12,13,14,15,24,25,26]):=by kernel_rfl
theorem lbe (p:T_Pinned) (u:T_IntS) (v:Int) (c:Nat) (q:Nat→Int) (i:Nat) :
    zP Tryz.f248 0 [rg 6,.dec false,rg 2] zf84 (lbS p u v c q i) [1] 1 [(0,iOb c q)] (.ar 1 0 0 c) =
    some [(NT 0 1),((decide ((↑i:Int)<(↑p.1.2.1.1:Int)))=false),(AN 0),(AN c),(AN 1),(NL c c),(AA c (fun i_1=>[.p (.int .i64 (q i_1))])),(AE c)]:=by kernel_rfl
theorem grz (p:T_Pinned) (m:Nat) (f:Nat→Int) :
    zT Tryz.f140 [rg 3,rg 2,rg 2,rm [(1,oc [(0,iOb m f)] (.ar 1 0 0 m))] 1,rg 1,.head] [pinA p] [0,96,160] (grS5 p 0 (fun _=>(0,(0,z0))) 0 z0 m f 0) =
    some (zf46,zD [(NT 0 1),zE 247 [(zf31 p)] [(0,⟨false,1,m,(fun i=>[.p (.int .i64 (f i))])⟩)] (.ar 1 0 0 m),(AI p.1.1),(AN p.1.2.1.1),(AP p.1.2.1.1 (fun i=>[.int .i64 ((p.1.2.1.2 i).1),.int .i64 ((p.1.2.1.2 i).2.1)])),(AN p.2.1.1),(AP p.2.1.1 (fun i=>[.int .i64 (p.2.1.2 i)])),(AN 0),(AN 1),(NL m m),(AN m),(AP m (fun i=>[.int .i64 (f i)])),((0:Int)=(↑0:Int)),((([AV.p (PV.int IntKind.i64 p.1.1),graphL p.1.2.1,inL p.2.1].length):Nat)=3),(NL 1 1),(AN 2),(NL 0 0),(∀ i:Nat,(((i:Nat)<0)→(All []∧(([.p (.int .i64 0),.p (.nil)]:List AV)=[.p (.int .i64 0),.p (.seq false 1 0 (fun i_1=>[.int .i64 ((0,z0).2 i_1)]))])))),(∀ i:Nat,(((i:Nat)<0)→(All []∧(([.p (.int .i64 0)]:List AV)=[.p (.int .i64 (z0 i))]))))] [0,1,2,3,4,5,6,7,7,7,7,7,8,9,10,11,12,13,14,14,2,3,4,5,6,15,16,17,8,16,18]):=by kernel_rfl
theorem gra (p:T_Pinned) (r:Nat) (R:Nat→RzE) (d:Nat) (D:Nat→Int) (m:Nat) (f:Nat→Int) (n:Nat) :
    zM 0 [rg 4,.dec true,rg 1,.head] zf46 (grS5 p r R d D m f n) [0,1,2] 1 (grT5 p r R d D m f n 0) =
    some (zf21,zD [((decide ((↑n:Int)<(↑m:Int)))=true),(AI p.1.1),(AN p.1.2.1.1),(AP p.1.2.1.1 (fun i=>[.int .i64 ((p.1.2.1.2 i).1),.int .i64 ((p.1.2.1.2 i).2.1)])),(AN p.2.1.1),(AP p.2.1.1 (fun i=>[.int .i64 (p.2.1.2 i)])),(AN 0),(AN r),(AN d),(AN m),(AP m (fun i=>[.int .i64 (f i)])),(AI ((↑n:Int))),((0:Int)=(↑0:Int)),(AN 3),(NL 1 1),(AN 2),(NL r r),(AA r (fun i=>[.p (.int .i64 ((R i).1)),.p (.seq false 1 ((R i).2.1) (fun i_1=>[.int .i64 ((R i).2.2 i_1)]))])),(AN 1),(NL d d),(AA d (fun i=>[.p (.int .i64 (D i))]))] [0,1,2,3,4,5,6,6,7,6,8,9,10,11,12,13,14,14,1,2,3,4,5,15,16,17,18,19,20]):=by kernel_rfl
theorem grb (p:T_Pinned) (r:Nat) (R:Nat→RzE) (d:Nat) (D:Nat→Int) (m:Nat) (f:Nat→Int) (n i c:Nat) (q:Nat→Int) (b:Bool) :
    zM 0 [rg 4,.dec true,rm [(6,oc [(0,iOb c q)] (.ar 1 0 0 c))] 1,rm [(5,oc [] (.p (.bool b)))] 6,.dec false,rg 3,.head] zf21 (grT5 p r R d D m f n i) [0,1,2] 1 (grT5 p r R d D m f n (i+1)) =
    some (zf21,zD [((decide ((↑i:Int)<(↑m:Int)))=true),(NT 0 1),(IL 0 (↑i:Int)),(IT (↑i:Int) (↑m:Int)),(AN 1),(NL d d),zE 248 [(zf30 p),.p (.seq true 1 d (fun i_1=>[.int .i64 (D i_1)])),.p (.int .i64 (f i))] [(0,⟨false,1,c,(fun i_1=>[.p (.int .i64 (q i_1))])⟩)] (.ar 1 0 0 c),zE 172 [.p (.seq true 1 d (fun i_1=>[.int .i64 (D i_1)])),.p (.int .i64 (f i))] [] (.p (.bool b)),(AG (!b)),((bif !b then decide ((↑c:Int)≥2) else false)=false),(ZLo ((↑i:Int)+1)),(ZHi ((↑i:Int)+1)),(AI p.1.1),(AN p.1.2.1.1),(AP p.1.2.1.1 (fun i_1=>[.int .i64 ((p.1.2.1.2 i_1).1),.int .i64 ((p.1.2.1.2 i_1).2.1)])),(AN p.2.1.1),(AP p.2.1.1 (fun i_1=>[.int .i64 (p.2.1.2 i_1)])),(AN 0),(AN r),(AN d),(AN m),(AP m (fun i_1=>[.int .i64 (f i_1)])),(AI ((↑n:Int))),((((↑i:Int)+1):Int)=(↑(i+1):Int)),(AN 3),(NL 1 1),(AN 2),(NL r r),(AA r (fun i_1=>[.p (.int .i64 ((R i_1).1)),.p (.seq false 1 ((R i_1).2.1) (fun i_2=>[.int .i64 ((R i_1).2.2 i_2)]))])),(AA d (fun i_1=>[.p (.int .i64 (D i_1))]))] [0,1,2,3,4,5,6,2,3,4,5,7,8,8,8,9,10,11,12,13,14,15,16,17,17,18,17,19,20,21,22,23,24,25,25,12,13,14,15,16,26,27,28,4,5,29]):=by kernel_rfl
theorem grc (p:T_Pinned) (r:Nat) (R:Nat→RzE) (d:Nat) (D:Nat→Int) (m:Nat) (f:Nat→Int) (n i c:Nat) (q:Nat→Int) :
    zM 0 [rg 4,.dec true,rm [(6,oc [(0,iOb c q)] (.ar 1 0 0 c))] 1,rm [(5,oc [] (.p (.bool false)))] 6,.dec true,rg 10,rg 8,rg 3,.head] zf21 (grT5 p r R d D m f n i) [0,1027,1283] 1 (grS5 p (r+1) (snZ r R (f i,(c,q))) (d+1) (snI5 d D (f i)) m f (n+1)) =
    some (zf46,zD [((decide ((↑i:Int)<(↑m:Int)))=true),(NT 0 1),(IL 0 (↑i:Int)),(IT (↑i:Int) (↑m:Int)),(AN 1),(NL d d),zE 248 [(zf30 p),.p (.seq true 1 d (fun i_1=>[.int .i64 (D i_1)])),.p (.int .i64 (f i))] [(0,⟨false,1,c,(fun i_1=>[.p (.int .i64 (q i_1))])⟩)] (.ar 1 0 0 c),zE 172 [.p (.seq true 1 d (fun i_1=>[.int .i64 (D i_1)])),.p (.int .i64 (f i))] [] (.p (.bool false)),(AG (!false)),((bif !false then decide ((↑c:Int)≥2) else false)=true),(NL 1 1),(NL r r),(NL ((r+1)*32) 140737488355328),(NL (r+1) 9223372036854775807),(NL ((d+1)*8) 140737488355328),(NL (d+1) 9223372036854775807),(ZLo ((↑n:Int)+1)),(ZHi ((↑n:Int)+1)),(AI p.1.1),(AN p.1.2.1.1),(AP p.1.2.1.1 (fun i_1=>[.int .i64 ((p.1.2.1.2 i_1).1),.int .i64 ((p.1.2.1.2 i_1).2.1)])),(AN p.2.1.1),(AP p.2.1.1 (fun i_1=>[.int .i64 (p.2.1.2 i_1)])),(AN 0),(AN ((r+1))),(AN ((d+1))),(AN m),(AP m (fun i_1=>[.int .i64 (f i_1)])),((((↑n:Int)+1):Int)=(↑(n+1):Int)),(AN 3),(AN 2),(NL (r+1) (r+1)),(CV [(1283,⟨false,1,(d+1),(fun i_2=>(if (i_2<d) then [.p (.int .i64 (D i_2))] else [.p (.int .i64 (f i))]))⟩),(1251,⟨false,1,1,(fun i_2=>[.p (.int .i64 (f i))])⟩),(1027,⟨false,2,(r+1),(fun i_2=>(if (i_2<r) then [.p (.int .i64 ((R i_2).1)),.p (.seq false 1 ((R i_2).2.1) (fun i_3=>[.int .i64 ((R i_2).2.2 i_3)]))] else [.p (.int .i64 (f i)),.ar 1 323 0 c]))⟩),(995,⟨false,2,1,(fun i_2=>[.p (.int .i64 (f i)),.ar 1 323 0 c])⟩),(323,⟨false,1,c,(fun i_2=>[.p (.int .i64 (q i_2))])⟩),(0,⟨true,3,1,(fun i_2=>[.p (.int .i64 p.1.1),.p (.seq true 2 p.1.2.1.1 (fun i_3=>[.int .i64 ((p.1.2.1.2 i_3).1),.int .i64 ((p.1.2.1.2 i_3).2.1)])),.p (.seq true 1 p.2.1.1 (fun i_3=>[.int .i64 (p.2.1.2 i_3)]))])⟩)] [0,1027,1283] 1 (r+1) (fun i_1=>if (i_1<r) then [.p (.int .i64 ((R i_1).1)),.p (.seq false 1 ((R i_1).2.1) (fun i_2=>[.int .i64 ((R i_1).2.2 i_2)]))] else [.p (.int .i64 (f i)),.ar 1 323 0 c]) (fun i_1=>[.p (.int .i64 ((snZ r R (f i,c,q) i_1).1)),.p (.seq false 1 ((snZ r R (f i,c,q) i_1).2.1) (fun i_2=>[.int .i64 ((snZ r R (f i,c,q) i_1).2.2 i_2)]))])),(NL (d+1) (d+1)),(CV [(1283,⟨false,1,(d+1),(fun i_2=>(if (i_2<d) then [.p (.int .i64 (D i_2))] else [.p (.int .i64 (f i))]))⟩),(1251,⟨false,1,1,(fun i_2=>[.p (.int .i64 (f i))])⟩),(1027,⟨false,2,(r+1),(fun i_2=>(if (i_2<r) then [.p (.int .i64 ((R i_2).1)),.p (.seq false 1 ((R i_2).2.1) (fun i_3=>[.int .i64 ((R i_2).2.2 i_3)]))] else [.p (.int .i64 (f i)),.ar 1 323 0 c]))⟩),(995,⟨false,2,1,(fun i_2=>[.p (.int .i64 (f i)),.ar 1 323 0 c])⟩),(323,⟨false,1,c,(fun i_2=>[.p (.int .i64 (q i_2))])⟩),(0,⟨true,3,1,(fun i_2=>[.p (.int .i64 p.1.1),.p (.seq true 2 p.1.2.1.1 (fun i_3=>[.int .i64 ((p.1.2.1.2 i_3).1),.int .i64 ((p.1.2.1.2 i_3).2.1)])),.p (.seq true 1 p.2.1.1 (fun i_3=>[.int .i64 (p.2.1.2 i_3)]))])⟩)] [0,1027,1283] 1 (d+1) (fun i_1=>if (i_1<d) then [.p (.int .i64 (D i_1))] else [.p (.int .i64 (f i))]) (fun i_1=>[.p (.int .i64 (snI5 d D (f i) i_1))]))] [0,1,2,3,4,5,6,2,3,4,5,7,8,8,8,9,2,3,10,11,12,13,2,3,10,5,14,15,16,17,18,19,20,21,22,23,23,24,23,25,26,27,28,29,10,10,18,19,20,21,22,30,31,32,4,33,34]):=by kernel_rfl
theorem grd (p:T_Pinned) (r:Nat) (R:Nat→RzE) (d:Nat) (D:Nat→Int) (m:Nat) (f:Nat→Int) (n i:Nat) :
    zM 0 [rg 4,.dec false,rg 3,.head] zf21 (grT5 p r R d D m f n i) [0,1,2] 1 (grS5 p r R d D m f (n+1)) =
    some (zf46,zD [((decide ((↑i:Int)<(↑m:Int)))=false),(ZLo ((↑n:Int)+1)),(ZHi ((↑n:Int)+1)),(AI p.1.1),(AN p.1.2.1.1),(AP p.1.2.1.1 (fun i_1=>[.int .i64 ((p.1.2.1.2 i_1).1),.int .i64 ((p.1.2.1.2 i_1).2.1)])),(AN p.2.1.1),(AP p.2.1.1 (fun i_1=>[.int .i64 (p.2.1.2 i_1)])),(AN 0),(AN r),(AN d),(AN m),(AP m (fun i_1=>[.int .i64 (f i_1)])),((((↑n:Int)+1):Int)=(↑(n+1):Int)),(AN 3),(NL 1 1),(AN 2),(NL r r),(AA r (fun i_1=>[.p (.int .i64 ((R i_1).1)),.p (.seq false 1 ((R i_1).2.1) (fun i_2=>[.int .i64 ((R i_1).2.2 i_2)]))])),(AN 1),(NL d d),(AA d (fun i_1=>[.p (.int .i64 (D i_1))]))] [0,1,2,3,4,5,6,7,8,8,9,8,10,11,12,13,14,15,15,3,4,5,6,7,16,17,18,19,20,21]):=by kernel_rfl
theorem gre (p:T_Pinned) (r:Nat) (R:Nat→RzE) (d:Nat) (D:Nat→Int) (m:Nat) (f:Nat→Int) (n:Nat) (b:Bool) :
    zP Tryz.f140 0 [rg 4,.dec false,rm [(1,oc [] (.p (.bool b)))] 8,.dec true,rg 3] zf46 (grS5 p r R d D m f n) [] 1 [] (.tup [rzL false 0 (fun _=>(0,(0,z0))),.p (.bool false)]) =
    some (zD [((decide ((↑n:Int)<(↑m:Int)))=false),(NT 0 1),zE 240 [(zf31 p)] [] (.p (.bool b)),(AG (!!b)),(((!b)=false)→ ((!!b)=true)),((bif !b then true else decide ((↑d:Int)<(↑m:Int)))=true),(AN 2),(NL 0 0),(AN 0),(∀ i:Nat,(((i:Nat)<0)→(([.int .i64 0,.nil]:List PV)=[.int .i64 0,.seq false 1 0 (fun i_1=>[.int .i64 ((0,z0).2 i_1)])]))),(false=false),(∀ i:Nat,(((i:Nat)<0)→All [(false=false),(AE 0)]))] [0,1,2,3,3,3,3,4,5,6,7,8,9,10,10,11]):=by kernel_rfl
theorem grf (p:T_Pinned) (r:Nat) (R:Nat→RzE) (d:Nat) (D:Nat→Int) (m:Nat) (f:Nat→Int) (n:Nat) :
    zP Tryz.f140 0 [rg 4,.dec false,rm [(1,oc [] (.p (.bool true)))] 8,.dec false,rg 3] zf46 (grS5 p r R d D m f n) [] 1 [] (.tup [rzL false r R,.p (.bool true)]) =
    some [((decide ((↑n:Int)<(↑m:Int)))=false),(NT 0 1),zE 240 [(zf31 p)] [] (.p (.bool true)),(AG (!!true)),(AG (!!true)),(AG (!!true)),(AG (!!true)),(((!true)=false)→ ((!!true)=true)),((bif !true then true else decide ((↑d:Int)<(↑m:Int)))=false),(AN 2),(NL r r),(AN r),(AP r (fun i=>[.int .i64 ((R i).1),.seq false 1 ((R i).2.1) (fun i_1=>[.int .i64 ((R i).2.2 i_1)])])),(true=true),(false=false),(∀ i:Nat,(((i:Nat)<r)→All [(false=false),(AE (((R i).2.1)))]))]:=by kernel_rfl
theorem fmn (R:Nat→RzE) :
    zS Tryz.f146 [rg 1,rg 3,.dec true,rg 1] [rzL true 0 R] [] [] (.p (.str sNone)) =
    some [(((↑0:Int)==0)=true),(ByteArray.mk #[110,111,110,101]=sNone)]:=by kernel_rfl
theorem fmz5 (n:Nat) (R:Nat→RzE) (F:Nat→ByteArray) :
    zT Tryz.f146 [rg 1,rg 3,.dec false,rg 2,rg 3,.head] [rzL true n R] [128] (fmS n R F 0) =
    some (zf69,zD [(((↑n:Int)==0)=false),(AN n),(AP n (fun i=>[.int .i64 ((R i).1),.seq true 1 ((R i).2.1) (fun i_1=>[.int .i64 ((R i).2.2 i_1)])])),(AN 0),(AI ((↑n:Int))),((0:Int)=(↑0:Int)),(AN 1),(NL 0 0),(∀ i:Nat,(((i:Nat)<0)→(All []∧(([.p (.str (ByteArray.mk #[]))]:List AV)=[.p (.str (F i))]))))] [0,1,2,3,3,1,2,4,5,6,7,8]):=by kernel_rfl
theorem fma (n:Nat) (R:Nat→RzE) (F:Nat→ByteArray) (i:Nat) (s1 s2:ByteArray) :
    zM 0 [rg 1,.dec true,rg 4,rm [(3,oc [] (.p (.str s1))),(3,oc [] (.p (.str s2)))] 4,rg 2,.head] zf69 (fmS n R F i) [481] 1 (fmS n R F (i+1)) =
    some (zf69,zD [((decide ((↑i:Int)<(↑n:Int)))=true),(IL 0 (↑i:Int)),(IT (↑i:Int) (↑n:Int)),(NT 0 1),((true=true)→ (AN 1)),zE 129 [.p (.int .i64 ((R i).1))] [] (.p (.str s1)),(NL (s1.size+(ByteArray.mk #[58]).size) 9223372036854775807),zE 219 [.p (.seq true 1 ((R i).2.1) (fun i_1=>[.int .i64 ((R i).2.2 i_1)]))] [] (.p (.str s2)),(NL ((s1++ByteArray.mk #[58]).size+s2.size) 9223372036854775807),(NL 1 1),(NL i i),(NL ((i+1)*16) 140737488355328),(NL (i+1) 9223372036854775807),(ZLo ((↑i:Int)+1)),(ZHi ((↑i:Int)+1)),(AN n),(AP n (fun i_1=>[.int .i64 ((R i_1).1),.seq true 1 ((R i_1).2.1) (fun i_2=>[.int .i64 ((R i_1).2.2 i_2)])])),(AN 0),(AN ((i+1))),(AI ((↑n:Int))),((((↑i:Int)+1):Int)=(↑(i+1):Int)),(AN 1),(NL (i+1) (i+1)),(∀ i_1:Nat,(((i_1:Nat)<(i+1))→(All (cvtL false [(481,⟨false,1,(i+1),(fun i_2=>(if (i_2<i) then [.p (.str (F i_2))] else [.p (.str (s1++ByteArray.mk #[58]++s2))]))⟩),(449,⟨false,1,1,(fun i_2=>[.p (.str (s1++ByteArray.mk #[58]++s2))])⟩),(97,⟨true,2,1,(fun i_2=>[.p (.int .i64 ((R i).1)),.p (.seq true 1 ((R i).2.1) (fun i_3=>[.int .i64 ((R i).2.2 i_3)]))])⟩)] [481] 1 (if (i_1<i) then [.p (.str (F i_1))] else [.p (.str (s1++ByteArray.mk #[58]++s2))])).2∧(((cvtL false [(481,⟨false,1,(i+1),(fun i_2=>(if (i_2<i) then [.p (.str (F i_2))] else [.p (.str (s1++ByteArray.mk #[58]++s2))]))⟩),(449,⟨false,1,1,(fun i_2=>[.p (.str (s1++ByteArray.mk #[58]++s2))])⟩),(97,⟨true,2,1,(fun i_2=>[.p (.int .i64 ((R i).1)),.p (.seq true 1 ((R i).2.1) (fun i_3=>[.int .i64 ((R i).2.2 i_3)]))])⟩)] [481] 1 (if (i_1<i) then [.p (.str (F i_1))] else [.p (.str (s1++ByteArray.mk #[58]++s2))])).1:List AV)=[.p (.str (F i_1))]))))] [0,1,2,3,4,3,5,6,3,7,8,9,10,11,12,13,14,15,16,17,18,15,16,19,20,21,22,23]):=by kernel_rfl
theorem fme5 (n:Nat) (R:Nat→RzE) (F:Nat→ByteArray) (s:ByteArray) :
    zP Tryz.f146 0 [rg 1,.dec false,rm [(1,oc [] (.p (.str s)))] 1] zf69 (fmS n R F n) [] 1 [] (.p (.str s)) =
    some [((decide ((↑n:Int)<(↑n:Int)))=false),(AN 1),(NL n n),zE 218 [.p (.seq true 1 n (fun i=>[.str (F i)])),.p (.str (ByteArray.mk #[32]))] [] (.p (.str s)),(s=s)]:=by kernel_rfl
theorem fnz5 (n:Nat) (R:Nat→RzE) :
    zT Tryz.f141 [rg 1,rg 1,rg 1,.head] [rzL true n R] [] (fnS n R sE 0) =
    some (zf85,[(AN n),(AP n (fun i=>[.int .i64 ((R i).1),.seq true 1 ((R i).2.1) (fun i_1=>[.int .i64 ((R i).2.2 i_1)])])),(ByteArray.mk #[]=sE),((0:Int)=(↑0:Int))]):=by kernel_rfl
theorem fna (n:Nat) (R:Nat→RzE) (s:ByteArray) (i:Nat) (x:ByteArray) :
    zM 0 [rg 4,.dec true,rg 2,.dec true,rg 3,rm [(6,oc [] (.p (.str x)))] 3,rg 1,.head] zf85 (fnS n R s i) [] 1 (fnT n R (((s++sSp)++x)++sCo) i 0) =
    some (zf26,[((decide ((↑i:Int)<(↑n:Int)))=true),((decide ((↑i:Int)>0))=true),(NL (s.size+(ByteArray.mk #[32]).size) 9223372036854775807),(IL 0 (↑i:Int)),(IT (↑i:Int) (↑n:Int)),zE 118 [.p (.int .i64 ((R i).1))] [] (.p (.str x)),(NL ((s++ByteArray.mk #[32]).size+x.size) 9223372036854775807),(NL ((s++ByteArray.mk #[32]++x).size+(ByteArray.mk #[58]).size) 9223372036854775807),(AN n),(AP n (fun i_1=>[.int .i64 ((R i_1).1),.seq true 1 ((R i_1).2.1) (fun i_2=>[.int .i64 ((R i_1).2.2 i_2)])])),(s++ByteArray.mk #[32]++x++ByteArray.mk #[58]=s++sSp++x++sCo),(AI ((↑i:Int))),((0:Int)=(↑0:Int))]):=by kernel_rfl
theorem fnb (n:Nat) (R:Nat→RzE) (s:ByteArray) (i:Nat) (x:ByteArray) :
    zM 0 [rg 4,.dec true,rg 2,.dec false,rm [(6,oc [] (.p (.str x)))] 3,rg 1,.head] zf85 (fnS n R s i) [] 1 (fnT n R ((s++x)++sCo) i 0) =
    some (zf26,[((decide ((↑i:Int)<(↑n:Int)))=true),((decide ((↑i:Int)>0))=false),(IL 0 (↑i:Int)),(IT (↑i:Int) (↑n:Int)),zE 118 [.p (.int .i64 ((R i).1))] [] (.p (.str x)),(NL (s.size+x.size) 9223372036854775807),(NL ((s++x).size+(ByteArray.mk #[58]).size) 9223372036854775807),(AN n),(AP n (fun i_1=>[.int .i64 ((R i_1).1),.seq true 1 ((R i_1).2.1) (fun i_2=>[.int .i64 ((R i_1).2.2 i_2)])])),(s++x++ByteArray.mk #[58]=s++x++sCo),(AI ((↑i:Int))),((0:Int)=(↑0:Int))]):=by kernel_rfl
theorem fnc (n:Nat) (R:Nat→RzE) (s:ByteArray) (i k:Nat) (x:ByteArray) :
    zM 0 [rg 8,.dec true,rg 2,.dec true,rg 3,rm [(9,oc [] (.p (.str x)))] 2,rg 3,.head] zf26 (fnT n R s i k) [] 1 (fnT n R ((s++sC)++x) i (k+1)) =
    some (zf26,[(IL 0 (↑i:Int)),(IT (↑i:Int) (↑n:Int)),((decide ((↑k:Int)<(↑(R (↑i:Int).toNat).2.1:Int)))=true),((decide ((↑k:Int)>0))=true),(NL (s.size+(ByteArray.mk #[44]).size) 9223372036854775807),(IL 0 (↑i:Int)),(IT (↑i:Int) (↑n:Int)),(IL 0 (↑k:Int)),(IT (↑k:Int) (↑(R i).2.1:Int)),zE 118 [.p (.int .i64 ((R i).2.2 k))] [] (.p (.str x)),(NL ((s++ByteArray.mk #[44]).size+x.size) 9223372036854775807),(ZLo ((↑k:Int)+1)),(ZHi ((↑k:Int)+1)),(AN n),(AP n (fun i_1=>[.int .i64 ((R i_1).1),.seq true 1 ((R i_1).2.1) (fun i_2=>[.int .i64 ((R i_1).2.2 i_2)])])),(s++ByteArray.mk #[44]++x=s++sC++x),(AI ((↑i:Int))),((((↑k:Int)+1):Int)=(↑(k+1):Int))]):=by kernel_rfl
theorem fnd5 (n:Nat) (R:Nat→RzE) (s:ByteArray) (i k:Nat) (x:ByteArray) :
    zM 0 [rg 8,.dec true,rg 2,.dec false,rm [(9,oc [] (.p (.str x)))] 2,rg 3,.head] zf26 (fnT n R s i k) [] 1 (fnT n R (s++x) i (k+1)) =
    some (zf26,[(IL 0 (↑i:Int)),(IT (↑i:Int) (↑n:Int)),((decide ((↑k:Int)<(↑(R (↑i:Int).toNat).2.1:Int)))=true),((decide ((↑k:Int)>0))=false),(IL 0 (↑i:Int)),(IT (↑i:Int) (↑n:Int)),(IL 0 (↑k:Int)),(IT (↑k:Int) (↑(R i).2.1:Int)),zE 118 [.p (.int .i64 ((R i).2.2 k))] [] (.p (.str x)),(NL (s.size+x.size) 9223372036854775807),(ZLo ((↑k:Int)+1)),(ZHi ((↑k:Int)+1)),(AN n),(AP n (fun i_1=>[.int .i64 ((R i_1).1),.seq true 1 ((R i_1).2.1) (fun i_2=>[.int .i64 ((R i_1).2.2 i_2)])])),(s++x=s++x),(AI ((↑i:Int))),((((↑k:Int)+1):Int)=(↑(k+1):Int))]):=by kernel_rfl
theorem fne5 (n:Nat) (R:Nat→RzE) (s:ByteArray) (i k:Nat) :
    zM 0 [rg 8,.dec false,rg 3,.head] zf26 (fnT n R s i k) [] 1 (fnS n R s (i+1)) =
    some (zf85,[(IL 0 (↑i:Int)),(IT (↑i:Int) (↑n:Int)),((decide ((↑k:Int)<(↑(R (↑i:Int).toNat).2.1:Int)))=false),(ZLo ((↑i:Int)+1)),(ZHi ((↑i:Int)+1)),(AN n),(AP n (fun i_1=>[.int .i64 ((R i_1).1),.seq true 1 ((R i_1).2.1) (fun i_2=>[.int .i64 ((R i_1).2.2 i_2)])])),(s=s),((((↑i:Int)+1):Int)=(↑(i+1):Int))]):=by kernel_rfl
theorem fnf5 (n:Nat) (R:Nat→RzE) (s:ByteArray) (i:Nat) :
    zP Tryz.f141 0 [rg 4,.dec false,rg 2,.dec true,rg 1] zf85 (fnS n R s i) [] 1 [] (.p (.str sNone)) =
    some [((decide ((↑i:Int)<(↑n:Int)))=false),((s.toList==(ByteArray.mk #[]).toList)=true),(ByteArray.mk #[110,111,110,101]=sNone)]:=by kernel_rfl
theorem fng (n:Nat) (R:Nat→RzE) (s:ByteArray) (i:Nat) :
    zP Tryz.f141 0 [rg 4,.dec false,rg 2,.dec false,rg 2] zf85 (fnS n R s i) [] 1 [] (.p (.str s)) =
    some [((decide ((↑i:Int)<(↑n:Int)))=false),((s.toList==(ByteArray.mk #[]).toList)=false),(s=s)]:=by kernel_rfl
theorem con_inner (p:T_Pinned) (v:Int) (h1:1≤p.1.1) (h2:p.1.1≤8) (hK:p.2.1.1≤1048576):zE 330 [pinA p,.p (.int .i64 v)] [] (.p (.bool (bif inB v 0 (p.1.1 - 1) then !(hasI p.2.1.2 v p.2.1.1) else false))):=by
  have c1:=con_Graphhas p.1 v h1 h2
  have c2:=con_Contains p.2.1 v hK
  refine csZ Tryz.func330 (fun c hc=>?_)
  refine pkZ Tryz.func330 hc (isn1 p v (inB v 0 (p.1.1 - 1)) (hasI p.2.1.2 v p.2.1.1)) ?_
  and_intros
  all_goals (first | exact zI | (exact c1) | (intro _;exact c2))
noncomputable def isoB (p:T_Pinned):Bool:=bif rgB p then prG p==(p.1.2.1.1:Int) else false
theorem con_Iso1_i (p:T_Pinned) (hs:smS s_Pinned p):zE 399 [pinA p] [] (.p (.bool (isoB p))):=by
  have c1:=con_IsPinnedRigid_i p hs
  have c2:=con_PinnedRank_i p hs
  refine csZ Tryz.func399 (fun c hc=>?_)
  refine pkD Tryz.func399 hc (iso1 p (rgB p) (prG p)) ?_
  and_intros
  all_goals (first | exact zI | (exact c1) | (intro _;exact c2))
theorem con_Iso1_s (p:T_Pinned) (hs:smS s_Pinned p):zE 322 [pinA p] [] (.p (.bool (isoB p))):=by
  have c1:=con_IsPinnedRigid_s p hs
  have c2:=con_PinnedRank_s p hs
  rw [show isoB p=(bif rgB p then (p.1.2.1.1:Int)==prG p else false) by
    unfold isoB
    rw [show (prG p==(p.1.2.1.1:Int))=((p.1.2.1.1:Int)==prG p) by rw [Bool.eq_iff_iff,beq_iff_eq,beq_iff_eq];exact eq_comm]]
  refine csZ Tryz.func322 (fun c hc=>?_)
  refine pkD Tryz.func322 hc (iso2 p (rgB p) (prG p)) ?_
  and_intros
  all_goals (first | exact zI | (exact c1) | (intro _;exact c2))
theorem iso_ok {p:T_Pinned} (h:isoB p=true):pinnedF p=true:=by
  cases hp:pinnedF p with
  | true=>rfl
  | false=>simp [isoB,rgB,frG,hp] at h
def inO (p:T_Pinned) (v:Int):Bool:=!(hasI p.2.1.2 v p.2.1.1)
def cnO (o:Nat→Int) (v:Int):Nat→Nat
  | 0=>0
  | e+1=>cnO o v e+if o e=v then 1 else 0
theorem cnO_le (o:Nat→Int) (v:Int):∀ e,cnO o v e≤e
  | 0=>Nat.le_refl _
  | e+1=>by
    have:=cnO_le o v e
    rw [cnO];split<;>omega
theorem cnO_congr {o o':Nat→Int} {v:Int}:∀ e,(∀ i,i<e→o i=o' i)→cnO o v e=cnO o' v e
  | 0,_=>rfl
  | e+1,h=>by rw [cnO,cnO,cnO_congr e (fun i hi=>h i (by omega)),h e (by omega)]
def asQ (p:T_Pinned) (rec:(Nat→Int)→Bool×(Nat→Int)) (e k:Nat) (o:Nat→Int):Bool×(Nat→Int) :=
  if (decide (cnO o (enD5 p e k) e<2)&&inO p (enD5 p e k))=true then rec (upI o e (enD5 p e k)) else (false,o)
def asI (p:T_Pinned):Nat→Nat→(Nat→Int)→Bool×(Nat→Int)
  | 0,_,o=>(true,o)
  | d+1,e,o=>if (asQ p (asI p d (e+1)) e 0 o).1=true then asQ p (asI p d (e+1)) e 0 o else asQ p (asI p d (e+1)) e 1 (asQ p (asI p d (e+1)) e 0 o).2
theorem upI_at (o:Nat→Int) (e:Nat) (x:Int):upI o e x e=x:=by unfold upI;rw [if_pos rfl]
theorem upI_ne {o:Nat→Int} {e i:Nat} {x:Int} (h:i≠e):upI o e x i=o i:=by unfold upI;rw [if_neg h]
theorem asQ_pre {p:T_Pinned} {rec:(Nat→Int)→Bool×(Nat→Int)} {e k:Nat} {o:Nat→Int} (h:∀ o' i,i<e+1→(rec o').2 i=o' i):∀ i,i<e→(asQ p rec e k o).2 i=o i:=fun i hi=>by
  unfold asQ
  split
  · rw [h _ i (by omega),upI_ne (by omega)]
  · rfl
theorem asI_pre (p:T_Pinned):∀ d e o i,i<e→(asI p d e o).2 i=o i
  | 0,_,_,_,_=>rfl
  | d+1,e,o,i,hi=>by
    have ih:=asI_pre p d (e+1)
    rw [asI]
    split
    · exact asQ_pre ih i hi
    · rw [asQ_pre ih i hi,asQ_pre ih i hi]
def Cap (o:Nat→Int) (e:Nat):Prop:=∀ v:Int,cnO o v e≤2
theorem cap_congr {o o':Nat→Int} {e:Nat} (h:∀ i,i<e→o i=o' i) (hc:Cap o e):Cap o' e:=fun v=>by rw [← cnO_congr e h];exact hc v
theorem cap_up {o:Nat→Int} {e:Nat} {x:Int} (hc:Cap o e) (hx:cnO o x e<2):Cap (upI o e x) (e+1):=fun v=>by
  rw [cnO,upI_at,cnO_congr (o':=o) e (fun i hi=>upI_ne (by omega))]
  have:=hc v
  split
  · rename_i h;rw [← h];omega
  · omega
def wC (o:Nat→Int) (e:Nat) (v:Nat):Int:=(cnO o (v:Int) e:Nat)
theorem wC_up {o:Nat→Int} {e v:Nat} {x:Int} (hx:x=(v:Int)):upI (wC o e) v (wC o e v+1)=wC (upI o e x) (e+1):=by
  funext t
  show (if t=v then wC o e v+1 else wC o e t)=((cnO (upI o e x) (t:Int) (e+1):Nat):Int)
  rw [cnO,upI_at,cnO_congr (o:=upI o e x) (o':=o) e (fun i hi=>upI_ne (by omega))]
  by_cases h:t=v
  · subst h
    rw [if_pos rfl,if_pos hx]
    unfold wC
    omega
  · rw [if_neg h,if_neg (by omega)]
    unfold wC
    omega
theorem wC_down {o:Nat→Int} {e v:Nat} (hx:o e=(v:Int)):upI (wC o (e+1)) v (wC o (e+1) v - 1)=wC o e:=by
  funext t
  show (if t=v then wC o (e+1) v - 1 else ((cnO o (t:Int) (e+1):Nat):Int))=((cnO o (t:Int) e:Nat):Int)
  by_cases h:t=v
  · subst h
    rw [if_pos rfl]
    unfold wC
    rw [cnO,if_pos hx];omega
  · rw [if_neg h,cnO,if_neg (by omega)];rfl
theorem con_give {p:T_Pinned} (hp:pinnedF p=true):∀ (d e:Nat) (o:Nat→Int),e+d=p.1.2.1.1→Cap o e →
    Con Tryz.prog 400 6 (gvH p p.1.1.toNat o (wC o e)) (gvA e) (gvH p p.1.1.toNat (asI p d e o).2 (wC (asI p d e o).2 (if (asI p d e o).1=true then p.1.2.1.1 else e))) (.p (.bool (asI p d e o).1))
  | 0,e,o,hd,hc0=>by
    have hlen:((e:Int)==(p.1.2.1.1:Int))=true:=beq_iff_eq.2 (by omega)
    show Con _ _ _ _ _ (gvH p p.1.1.toNat o (wC o (if true=true then p.1.2.1.1 else e))) (.p (.bool true))
    rw [if_pos rfl,show p.1.2.1.1=e by omega]
    refine csZ Tryz.func400 (fun c hc=>?_)
    rw [show p.1.2.1.1=e by omega] at hlen
    refine pkD Tryz.func400 hc (gvn p p.1.1.toNat o (wC o e) e) ?_
    and_intros
    iterate 2 all_goals (first | exact zN | (rw [show p.1.2.1.1=e by omega];exact hlen) | (intros;simp [All,ntAL,ntA,ntP,ntL];done) | simp only [All])
  | d+1,e,o,hd,hc0=>by
    have ih:=con_give hp d
    have ok:=pin_ok hp
    have hnb:=ok.nb
    have hlen:((e:Int)==(p.1.2.1.1:Int))=false:=beq_eq_false_iff_ne.2 (by omega)
    have hbar:=ok.bars e (by omega)
    have hen:∀ k,0≤enD5 p e k∧enD5 p e k<p.1.1:=fun k=>by unfold enD5;split<;>omega
    have hpre:=asI_pre p d (e+1)
    refine csZ Tryz.func400 (fun c hc=>?_)
    have round:∀ (k:Nat) (o:Nat→Int) {R:Ending→World→Prop},k<2→Cap o e →
        ((asQ p (asI p d (e+1)) e k o).1=true→Post c (gvH p p.1.1.toNat (asQ p (asI p d (e+1)) e k o).2 (wC (asQ p (asI p d (e+1)) e k o).2 p.1.2.1.1)) (.p (.bool true))=R) →
        ((asQ p (asI p d (e+1)) e k o).1=false→zR c 400 zf82 (gvS p p.1.1.toNat (asQ p (asI p d (e+1)) e k o).2 (wC (asQ p (asI p d (e+1)) e k o).2 e) e (k+1)) R) →
        zR c 400 zf82 (gvS p p.1.1.toNat o (wC o e) e k) R:=by
      intro k o R hk hcap ht hf
      have hdk:decide ((k:Int)<2)=true:=decide_eq_true (by omega)
      have hv:=hen k
      have ci:=con_inner p (enD5 p e k) ok.N.1 ok.N.2 (by have:=ok.m;omega)
      rw [show inB (enD5 p e k) 0 (p.1.1 - 1)=true by simp [inB];omega] at ci
      change Con _ _ _ _ _ _ (.p (.bool (inO p (enD5 p e k)))) at ci
      have hcx:=hcap (enD5 p e k)
      have hw:wC o e (enD5 p e k).toNat=(cnO o (enD5 p e k) e:Int):=by unfold wC;rw [show (((enD5 p e k).toNat:Nat):Int)=enD5 p e k by omega]
      have hcond:(bif !(inO p (enD5 p e k)) then true else wC o e (enD5 p e k).toNat==2)=!(decide (cnO o (enD5 p e k) e<2)&&inO p (enD5 p e k)):=by
        rw [hw]
        cases inO p (enD5 p e k) with
        | false=>rw [Bool.and_false];rfl
        | true =>
          rw [Bool.and_true]
          show (((cnO o (enD5 p e k) e:Nat):Int)==2)=_
          by_cases h:cnO o (enD5 p e k) e<2
          · rw [decide_eq_true h];exact beq_eq_false_iff_ne.2 (by omega)
          · rw [decide_eq_false h];exact beq_iff_eq.2 (by omega)
      unfold asQ at ht hf
      by_cases hc1:(decide (cnO o (enD5 p e k) e<2)&&inO p (enD5 p e k))=true
      · rw [if_pos hc1] at ht hf
        rw [hc1] at hcond
        simp only [Bool.and_eq_true,decide_eq_true_eq] at hc1
        rw [hc1.2] at ci hcond
        have cr:=ih (e+1) (upI o e (enD5 p e k)) (by omega) (cap_up hcap hc1.1)
        rw [← wC_up (o:=o) (e:=e) (v:=(enD5 p e k).toNat) (x:=enD5 p e k) (by omega)] at cr
        have hat:=hpre (upI o e (enD5 p e k)) e (by omega)
        rw [upI_at] at hat
        refine pcD hc (gvc p p.1.1.toNat o (wC o e) e k) ?_ ?_
        ·
          and_intros
          all_goals (first | exact zH | (exact hdk) | (exact ci) | (exact hcond) | (intro t ht;by_cases h':t=e<;>(simp [h',upI,cvtL,cvt,tg,tru,All];done)) | (intro t ht;by_cases h':t=(enD5 p e k).toNat<;>(simp [h',upI,cvtL,cvt,tg,tru,All];done)) | (intros;simp [All,ntAL,ntA,ntP,ntL];done) | (simp;done) | (simp;omega))
        · cases hr:(asI p d (e+1) (upI o e (enD5 p e k))).1 with
          | true =>
            have hR:=ht hr
            rw [hr,if_pos rfl] at cr
            generalize (asI p d (e+1) (upI o e (enD5 p e k))).2=o2 at *
            rw [← hR]
            refine pkD Tryz.func400 hc (gvt p p.1.1.toNat _ _ e k o2 (wC o2 p.1.2.1.1)) ?_
            and_intros
            iterate 2 all_goals (first | exact zN | (exact cr) | (intros;simp [All,ntAL,ntA,ntP,ntL];done) | (simp;done) | (simp;omega) | simp only [All])
          | false =>
            have hR:=hf hr
            rw [hr,if_neg Bool.false_ne_true] at cr
            generalize (asI p d (e+1) (upI o e (enD5 p e k))).2=o2 at *
            rw [← wC_down (o:=o2) (e:=e) (v:=(enD5 p e k).toNat) (by omega)] at hR
            have hwb:0≤wC o2 (e+1) (enD5 p e k).toNat∧wC o2 (e+1) (enD5 p e k).toNat≤16:=by
              have:=cnO_le o2 (((enD5 p e k).toNat:Nat):Int) (e+1)
              unfold wC;omega
            refine pcD hc (gvf p p.1.1.toNat _ _ e k o2 (wC o2 (e+1))) ?_ hR
            and_intros
            all_goals (first | exact zI | (exact cr) | (intro t ht;by_cases h':t=(enD5 p e k).toNat<;>(simp [h',upI,cvtL,cvt,tg,tru,All];done)) | (intros;simp [All,ntAL,ntA,ntP,ntL];done) | (simp;done) | (simp;omega))
      · rw [if_neg hc1] at hf
        rw [show (decide (cnO o (enD5 p e k) e<2)&&inO p (enD5 p e k))=false by simpa using hc1] at hcond
        refine pcD hc (gvs p p.1.1.toNat o (wC o e) e k (inO p (enD5 p e k))) ?_ (hf rfl)
        and_intros
        all_goals (first | exact zH | (exact hdk) | (exact ci) | (exact hcond) | (intros;simp [All,ntAL,ntA,ntP,ntL];done) | (simp;done) | (simp;omega))
    have hcap2:∀ o,Cap o e→Cap (asQ p (asI p d (e+1)) e 0 o).2 e:=fun o h=>cap_congr (fun i hi=>(asQ_pre hpre i hi).symm) h
    refine pcD hc (gvz p p.1.1.toNat o (wC o e) e) ?_ (round 0 o (by omega) hc0 (fun h0=>?_) (fun h0=>?_))
    ·
      and_intros
      all_goals (first | exact zN | (exact hlen) | (intro t ht;have:t=0∨t=1:=(by omega);rcases this with h' | h'<;>subst h'<;>(simp [enD5,rowIx,cellP,cvtL,cvt,tg,tru,All];done)) | (intros;simp [All,ntAL,ntA,ntP,ntL];done) | (simp;done) | (simp;omega))
    · rw [show asI p (d+1) e o=asQ p (asI p d (e+1)) e 0 o by rw [asI,if_pos h0],h0,if_pos rfl]
    · rw [show asI p (d+1) e o=asQ p (asI p d (e+1)) e 1 (asQ p (asI p d (e+1)) e 0 o).2 by rw [asI,if_neg (by rw [h0];exact Bool.false_ne_true)]]
      refine round 1 _ (by omega) (hcap2 o hc0) (fun h1=>?_) (fun h1=>?_)
      · rw [h1,if_pos rfl]
      · rw [h1,if_neg Bool.false_ne_true]
        have hd2:decide (((1+1:Nat):Int)<2)=false:=by decide
        refine pkD Tryz.func400 hc (gve p p.1.1.toNat _ _ e (1+1)) ?_
        and_intros
        iterate 2 all_goals (first | exact zN | (exact hd2) | (intros;simp [All,ntAL,ntA,ntP,ntL];done) | (simp;done) | (simp;omega) | simp only [All])
theorem con_assign {p:T_Pinned} (hp:pinnedF p=true):∀ (d e:Nat) (o:Nat→Int),e+d=p.1.2.1.1 →
    Con Tryz.prog 323 1 (asH p.1.2.1.1 o) [pinA p,.p (.int .i64 e),.ar 1 0 0 p.1.2.1.1] (asH p.1.2.1.1 (asI p d e o).2) (.p (.bool (asI p d e o).1))
  | 0,e,o,hd=>by
    have hlen:((e:Int)==(p.1.2.1.1:Int))=true:=beq_iff_eq.2 (by omega)
    refine csZ Tryz.func323 (fun c hc=>?_)
    refine pkZ Tryz.func323 hc (asn p o e) ?_
    and_intros
    all_goals (first | exact zN | (exact hlen) | (intros;simp [All,ntAL,ntA,ntP,ntL];done))
  | d+1,e,o,hd=>by
    have ih:=con_assign hp d
    have ok:=pin_ok hp
    have hnb:=ok.nb
    have hlen:((e:Int)==(p.1.2.1.1:Int))=false:=beq_eq_false_iff_ne.2 (by omega)
    have hbar:=ok.bars e (by omega)
    have hen:∀ k,0≤enD5 p e k∧enD5 p e k<p.1.1:=fun k=>by unfold enD5;split<;>omega
    refine csZ Tryz.func323 (fun c hc=>?_)
    have count:∀ (k:Nat) (o:Nat→Int) {R:Ending→World→Prop},k<2 →
        zR c 323 zf15 (asT p o e k (cnO o (enD5 p e k) e) e) R →
        ∀ f i,i+f=e→zR c 323 zf15 (asT p o e k (cnO o (enD5 p e k) i) i) R:=by
      intro k o R hk hr f
      induction f with
      | zero=>intro i hi;rw [show i=e by omega];exact hr
      | succ f ihf =>
        intro i hi
        have hrec:=ihf (i+1) (by omega)
        have hd:decide ((i:Int)<(e:Int))=true:=decide_eq_true (by omega)
        have hli:=cnO_le o (enD5 p e k) i
        rw [cnO] at hrec
        by_cases h:o i=enD5 p e k
        · rw [if_pos h] at hrec
          have hb:(o i==enD5 p e k)=true:=beq_iff_eq.2 h
          refine pcD hc (asb p o e k _ i) ?_ hrec
          and_intros
          all_goals (first | exact zN | (exact hd) | (exact hb) | (intros;simp [All,ntAL,ntA,ntP,ntL];done) | (simp;done) | (simp;omega))
        · rw [if_neg h] at hrec
          have hb:(o i==enD5 p e k)=false:=beq_eq_false_iff_ne.2 h
          refine pcZ hc (asc p o e k _ i) ?_ hrec
          and_intros
          all_goals (first | exact zN | (exact hd) | (exact hb) | (intros;simp [All,ntAL,ntA,ntP,ntL];done) | (simp;done) | (simp;omega))
    have round:∀ (k:Nat) (o:Nat→Int) {R:Ending→World→Prop},k<2 →
        ((asQ p (asI p d (e+1)) e k o).1=true→Post c (asH p.1.2.1.1 (asQ p (asI p d (e+1)) e k o).2) (.p (.bool true))=R) →
        ((asQ p (asI p d (e+1)) e k o).1=false→zR c 323 zf68 (asS p (asQ p (asI p d (e+1)) e k o).2 e (k+1)) R) →
        zR c 323 zf68 (asS p o e k) R:=by
      intro k o R hk ht hf
      have hdk:decide ((k:Int)<2)=true:=decide_eq_true (by omega)
      have hde:decide ((e:Int)<(e:Int))=false:=decide_eq_false (by omega)
      have hv:=hen k
      have ch:=con_l2Has p.2.1 (enD5 p e k) (by have:=ok.m;omega)
      have hcond:(bif decide (((cnO o (enD5 p e k) e:Nat):Int)<2) then !(hasI p.2.1.2 (enD5 p e k) p.2.1.1) else false)=(decide (cnO o (enD5 p e k) e<2)&&inO p (enD5 p e k)):=by
        by_cases h:cnO o (enD5 p e k) e<2
        · rw [decide_eq_true h,decide_eq_true (show ((cnO o (enD5 p e k) e:Nat):Int)<2 by omega)];rfl
        · rw [decide_eq_false h,decide_eq_false (show ¬ ((cnO o (enD5 p e k) e:Nat):Int)<2 by omega)];rfl
      refine pcD hc (asa p o e k) ?_ (count k o hk ?_ e 0 (by omega))
      ·
        and_intros
        all_goals (first | exact zN | (exact hdk) | (intros;simp [All,ntAL,ntA,ntP,ntL];done) | (simp;done) | (simp;omega))
      unfold asQ at ht hf
      by_cases hc1:(decide (cnO o (enD5 p e k) e<2)&&inO p (enD5 p e k))=true
      · rw [if_pos hc1] at ht hf
        rw [hc1] at hcond
        have cr:=ih (e+1) (upI o e (enD5 p e k)) (by omega)
        rw [show ((e+1:Nat):Int)=(e:Int)+1 by omega] at cr
        refine pcD hc (asd p o e k (cnO o (enD5 p e k) e) e (hasI p.2.1.2 (enD5 p e k) p.2.1.1)) ?_ ?_
        ·
          and_intros
          all_goals (first | exact zI | (exact hde) | (intros;exact ch) | (exact hcond) | (intro t ht;by_cases h':t=e<;>(simp [h',upI,cvtL,cvt,tg,tru,All];done)) | (intros;simp [All,ntAL,ntA,ntP,ntL];done) | (simp;done) | (simp;omega))
        · cases hr:(asI p d (e+1) (upI o e (enD5 p e k))).1 with
          | true =>
            have hR:=ht hr
            rw [hr] at cr
            generalize (asI p d (e+1) (upI o e (enD5 p e k))).2=o2 at *
            rw [← hR]
            refine pkZ Tryz.func323 hc (ast1 p _ e k o2) ?_
            and_intros
            all_goals (first | exact zN | (exact cr) | (intros;simp [All,ntAL,ntA,ntP,ntL];done) | (simp;done) | (simp;omega))
          | false =>
            have hR:=hf hr
            rw [hr] at cr
            generalize (asI p d (e+1) (upI o e (enD5 p e k))).2=o2 at *
            refine pcD hc (asf1 p _ e k o2) ?_ hR
            and_intros
            all_goals (first | exact zN | (exact cr) | (intros;simp [All,ntAL,ntA,ntP,ntL];done) | (simp;done) | (simp;omega))
      · rw [if_neg hc1] at hf
        rw [show (decide (cnO o (enD5 p e k) e<2)&&inO p (enD5 p e k))=false by simpa using hc1] at hcond
        refine pcD hc (asg p o e k (cnO o (enD5 p e k) e) e (hasI p.2.1.2 (enD5 p e k) p.2.1.1)) ?_ (hf rfl)
        and_intros
        all_goals (first | exact zI | (exact hde) | (intros;exact ch) | (exact hcond) | (intros;simp [All,ntAL,ntA,ntP,ntL];done) | (simp;done) | (simp;omega))
    refine pcD hc (asz p o e) ?_ (round 0 o (by omega) (fun h0=>?_) (fun h0=>?_))
    ·
      and_intros
      all_goals (first | exact zN | (exact hlen) | (intro t ht;have:t=0∨t=1:=(by omega);rcases this with h' | h'<;>subst h'<;>(simp [enD5,rowIx,cellP,cvtL,cvt,tg,tru,All];done)) | (intros;simp [All,ntAL,ntA,ntP,ntL];done) | (simp;done) | (simp;omega))
    · rw [show asI p (d+1) e o=asQ p (asI p d (e+1)) e 0 o by rw [asI,if_pos h0],h0]
    · rw [show asI p (d+1) e o=asQ p (asI p d (e+1)) e 1 (asQ p (asI p d (e+1)) e 0 o).2 by rw [asI,if_neg (by rw [h0];exact Bool.false_ne_true)]]
      refine round 1 _ (by omega) (fun h1=>?_) (fun h1=>?_)
      · rw [h1]
      · rw [h1]
        have hd2:decide (((1+1:Nat):Int)<2)=false:=by decide
        refine pkZ Tryz.func323 hc (ase p _ e (1+1)) ?_
        and_intros
        all_goals (first | exact zN | (exact hd2) | (intros;simp [All,ntAL,ntA,ntP,ntL];done) | (simp;done) | (simp;omega))
noncomputable def owB (p:T_Pinned):Bool:=if isoB p=true then (asI p p.1.2.1.1 0 (fun _=>0)).1 else false
def owO (p:T_Pinned):Nat→Int:=(asI p p.1.2.1.1 0 (fun _=>0)).2
noncomputable def owL (p:T_Pinned):T_IntS:=if owB p=true then (p.1.2.1.1,owO p) else (0,z0)
theorem con_Owners_i (p:T_Pinned) (hs:smS s_Pinned p):zE 362 [pinA p] [] (.tup [fzL (owL p).1 (owL p).2,.p (.bool (owB p))]):=by
  have c1:=con_Iso1_i p hs
  refine csZ Tryz.func362 (fun c hc=>?_)
  unfold owL owB owO
  cases hi:isoB p with
  | false =>
    rw [hi] at c1
    rw [if_neg Bool.false_ne_true,if_neg Bool.false_ne_true]
    refine pkZ Tryz.func362 hc (owy p) ?_
    and_intros
    all_goals (first | exact zN | (exact c1) | (intro t ht;exact absurd ht (Nat.not_lt_zero _)) | (intros;simp [All,ntAL,ntA,ntP,ntL];done))
  | true =>
    rw [hi] at c1
    rw [if_pos rfl]
    have hp:=iso_ok hi
    have ok:=pin_ok hp
    have hN:=ok.N
    have hnb:=ok.nb
    have cg:=con_give hp p.1.2.1.1 0 (fun _=>0) (by omega) (fun v=>by show 0≤2;omega)
    rw [show wC (fun _=>0) 0=(fun _=>0) from rfl] at cg
    refine pcD hc (owz p p.1.1.toNat) ?_ ?_
    ·
      and_intros
      all_goals (first | exact zI | (exact c1) | (intros;simp [All,ntAL,ntA,ntP,ntL];done) | (simp;done) | (simp;omega))
    cases hr:(asI p p.1.2.1.1 0 (fun _=>0)).1 with
    | true =>
      rw [hr] at cg
      rw [if_pos rfl]
      refine pkZ Tryz.func362 hc (owt p p.1.1.toNat (asI p p.1.2.1.1 0 (fun _=>0)).2 (wC (asI p p.1.2.1.1 0 (fun _=>0)).2 p.1.2.1.1)) ?_
      and_intros
      all_goals (first | exact zN | (exact cg) | (intros;simp [All,ntAL,ntA,ntP,ntL];done) | (simp;done) | (simp;omega))
    | false =>
      rw [hr] at cg
      rw [if_neg Bool.false_ne_true]
      refine pkZ Tryz.func362 hc (owf p p.1.1.toNat (asI p p.1.2.1.1 0 (fun _=>0)).2 (wC (asI p p.1.2.1.1 0 (fun _=>0)).2 0)) ?_
      and_intros
      all_goals (first | exact zN | (exact cg) | (intro t ht;exact absurd ht (Nat.not_lt_zero _)) | (intros;simp [All,ntAL,ntA,ntP,ntL];done) | (simp;done) | (simp;omega))
theorem con_Owners_s (p:T_Pinned) (hs:smS s_Pinned p):zE 245 [pinA p] [] (.tup [fzL (owL p).1 (owL p).2,.p (.bool (owB p))]):=by
  have c1:=con_Iso1_s p hs
  have hnb:p.1.2.1.1≤1048576:=hs.1.2.1.1
  refine csZ Tryz.func245 (fun c hc=>?_)
  unfold owL owB owO
  cases hi:isoB p with
  | false =>
    rw [hi] at c1
    rw [if_neg Bool.false_ne_true,if_neg Bool.false_ne_true]
    refine pkD Tryz.func245 hc (oxy p) ?_
    and_intros
    all_goals (first | exact zN | (exact c1) | (intro t ht;exact absurd ht (Nat.not_lt_zero _)) | (intros;simp [All,ntAL,ntA,ntP,ntL];done))
  | true =>
    rw [hi] at c1
    rw [if_pos rfl]
    have hp:=iso_ok hi
    have cg:=con_assign hp p.1.2.1.1 0 (fun _=>0) (by omega)
    cases hr:(asI p p.1.2.1.1 0 (fun _=>0)).1 with
    | true =>
      rw [hr] at cg
      rw [if_pos rfl]
      refine pkD Tryz.func245 hc (oxt p (asI p p.1.2.1.1 0 (fun _=>0)).2) ?_
      and_intros
      all_goals (first | exact zN | (exact c1) | (exact cg) | (intros;simp [All,ntAL,ntA,ntP,ntL];done) | (simp;done) | (simp;omega))
    | false =>
      rw [hr] at cg
      rw [if_neg Bool.false_ne_true]
      refine pkD Tryz.func245 hc (oxf p (asI p p.1.2.1.1 0 (fun _=>0)).2) ?_
      and_intros
      all_goals (first | exact zN | (exact c1) | (exact cg) | (intro t ht;exact absurd ht (Nat.not_lt_zero _)) | (intros;simp [All,ntAL,ntA,ntP,ntL];done) | (simp;done) | (simp;omega))
theorem asI_ok {p:T_Pinned}:∀ d e o,(asI p d e o).1=true→∀ i,e≤i→i<e+d→((asI p d e o).2 i=(p.1.2.1.2 i).1∨(asI p d e o).2 i=(p.1.2.1.2 i).2.1)∧inO p ((asI p d e o).2 i)=true
  | 0,e,o,_,i,h1,h2=>by omega
  | d+1,e,o,h,i,h1,h2=>by
    have ih:=asI_ok (p:=p) d (e+1)
    have key:∀ k o,(asQ p (asI p d (e+1)) e k o).1=true→((asQ p (asI p d (e+1)) e k o).2 i=(p.1.2.1.2 i).1∨(asQ p (asI p d (e+1)) e k o).2 i=(p.1.2.1.2 i).2.1)∧inO p ((asQ p (asI p d (e+1)) e k o).2 i)=true:=by
      intro k o hq
      unfold asQ at hq ⊢
      split at hq
      · rename_i hc
        rw [if_pos hc]
        by_cases hi:i=e
        · subst hi
          rw [asI_pre p d (i+1) _ i (by omega),upI_at]
          simp only [Bool.and_eq_true] at hc
          refine ⟨?_,hc.2⟩
          unfold enD5
          split
          · exact .inl rfl
          · exact .inr rfl
        · exact ih _ hq i (by omega) (by omega)
      · cases hq
    rw [asI] at h ⊢
    split at h
    · rename_i h0
      rw [if_pos h0]
      exact key 0 o h0
    · rename_i h0
      rw [if_neg h0]
      exact key 1 _ h
abbrev BM:=Nat→Nat→Bool
def bbL (t:Bool) (n N:Nat) (D:BM):AV:=.p (.seq t 1 n (fun i=>[.seq t 1 N (fun j=>[.bool (D i j)])]))
def bvL (t:Bool) (N:Nat) (D:Nat→Bool):AV:=.p (.seq t 1 N (fun j=>[.bool (D j)]))
def boR (v N:Nat):Ob:=⟨false,1,N,fun i=>if i<v then [.ar 1 ⟨2,some i⟩ 0 N] else [.p .nil]⟩
def bo1 (n N:Nat):Ob:=⟨false,1,n,fun i=>[.ar 1 ⟨2,some i⟩ 0 N]⟩
def ffD5 (n N:Nat) (D:BM):Ob:=⟨true,0,n,fun i=>[.p (.seq false 1 N (fun j=>[.bool (D i j)]))]⟩
def upD (D:BM) (i j:Nat) (b:Bool) (x y:Nat):Bool:=if x=i then (if y=j then b else D x y) else D x y
def zrD (D:BM) (i:Nat) (x y:Nat):Bool:=if x=i then false else D x y
def dpS (p:T_Pinned) (N nb:Nat) (o:Nat→Int) (v:Nat) (D:BM):St :=
  ⟨[pinA p,.pt 3 1 0 0,anyA,anyA,fzL nb o,anyA,.ar 1 0 0 N]++List.replicate 19 anyA++[.p (.int .i64 N),.p (.int .i64 v)]++List.replicate 94 anyA,[(0,boR v N),(1,boxP p),(2,ffD5 v N D)],3⟩
def dqS (p:T_Pinned) (N nb:Nat) (o:Nat→Int) (e:Nat) (D:BM):St :=
  ⟨[pinA p,.pt 3 1 0 0,anyA,anyA,anyA,anyA,.ar 1 0 0 N]++List.replicate 40 anyA++[fzL nb o,.p (.int .i64 nb),.p (.int .i64 e)]++List.replicate 72 anyA,[(0,bo1 N N),(1,boxP p),(2,ffD5 N N D)],3⟩
def drS (p:T_Pinned) (N k:Nat) (D:BM):St :=
  ⟨[pinA p,anyA,anyA,anyA,anyA,anyA,.ar 1 0 0 N]++List.replicate 66 anyA++[.p (.int .i64 N),.p (.int .i64 k)]++List.replicate 47 anyA,[(0,bo1 N N),(2,ffD5 N N D)],3⟩
def drT (p:T_Pinned) (N k i:Nat) (D:BM):St :=
  ⟨[pinA p,anyA,anyA,anyA,anyA,anyA,.ar 1 0 0 N]++List.replicate 4 anyA++[.p (.int .i64 k)]++List.replicate 61 anyA++[.p (.int .i64 N),.p (.int .i64 k)]++List.replicate 3 anyA++[.p (.int .i64 N),.p (.int .i64 i)]++List.replicate 42 anyA,[(0,bo1 N N),(2,ffD5 N N D)],3⟩
def drU (p:T_Pinned) (N k i j:Nat) (D:BM):St :=
  ⟨[pinA p,anyA,anyA,anyA,anyA,anyA,.ar 1 0 0 N]++List.replicate 4 anyA++[.p (.int .i64 k),.p (.int .i64 i)]++List.replicate 60 anyA++[.p (.int .i64 N),.p (.int .i64 k)]++List.replicate 3 anyA++[.p (.int .i64 N),.p (.int .i64 i)]++List.replicate 3 anyA++[.p (.int .i64 N),.p (.int .i64 j)]++List.replicate 37 anyA,[(0,bo1 N N),(2,ffD5 N N D)],3⟩
def rhS (p:T_Pinned) (nb:Nat) (o:Nat→Int) (v:Nat) (c:Nat) (q:Nat→Int) (k:Nat):St :=
  ⟨[pinA p,inL (nb,o),.p (.int .i64 v),.pt 3 0 0 0,anyA,anyA,anyA,.ar 1 1 0 c,.p (.int .i64 k)]++List.replicate 69 anyA,[(0,boxP p),(1,iOb c q)],2⟩
def rhT (p:T_Pinned) (nb:Nat) (o:Nat→Int) (v:Nat) (c:Nat) (q:Nat→Int) (k i:Nat):St :=
  ⟨[pinA p,inL (nb,o),.p (.int .i64 v),.pt 3 0 0 0,anyA,anyA,anyA,.ar 1 1 0 c,.p (.int .i64 k),.p (.int .i64 i)]++List.replicate 68 anyA,[(0,boxP p),(1,iOb c q)],2⟩
def rhU (p:T_Pinned) (nb:Nat) (o:Nat→Int) (v:Nat) (c:Nat) (q:Nat→Int) (d:Nat) (f:Nat→Int) (u:Nat):St :=
  ⟨[pinA p,inL (nb,o),.p (.int .i64 v),.pt 3 0 0 0,anyA,anyA,anyA,.ar 1 1 0 c,anyA,anyA,anyA,.ar 1 2 0 d,.p (.int .i64 u)]++List.replicate 65 anyA,[(0,boxP p),(1,iOb c q),(2,iOb d f)],3⟩
def deS (p:T_Pinned) (N v:Nat) (D:Nat→Bool) (c:Nat) (f:Nat→Int) (u:Nat):St :=
  ⟨[pinA p,.p (.int .i64 v),anyA,anyA,anyA,.ar 1 0 0 c]++List.replicate 22 anyA++[bvL false N D,.p (.int .i64 N),.p (.int .i64 u)]++List.replicate 11 anyA,[(0,iOb c f)],1⟩
theorem dpn (p:T_Pinned) (nb:Nat) (o:Nat→Int) (N:Nat) (D:BM) :
    zS Tryz.f329 [rg 3,rm [(1,oc [] (.tup [fzL nb o,.p (.bool false)]))] 5,rg 2,.dec true,rg 2] [pinA p] [] [] (.tup [bbL false 0 N D,.p (.bool false)]) =
    some [(NT 0 1),zE 362 [(zf31 p)] [] (.tup [.p (.seq false 1 nb (fun i=>[.int .i64 (o i)])),.p (.bool false)]),((!false)=true),(AN 0),(false=false),(false=false),(∀ i:Nat,(((i:Nat)<0)→All [(false=false),(AE N)]))]:=by kernel_rfl
theorem dpz (p:T_Pinned) (nb:Nat) (o:Nat→Int) (N:Nat) (D:BM) :
    zT Tryz.f329 [rg 3,rm [(1,oc [] (.tup [fzL nb o,.p (.bool true)]))] 5,rg 2,.dec false,rg 5,rg 3,.head] [pinA p] [480,0] (dpS p N nb o 0 D) =
    some (zf47,zD [(NT 0 1),zE 362 [(zf31 p)] [] (.tup [.p (.seq false 1 nb (fun i=>[.int .i64 (o i)])),.p (.bool true)]),((!true)=false),(IL 0 p.1.1),(IL p.1.1 p.1.1),(IL (p.1.1*(↑24:Int)) 281474976710656),(ZHi p.1.1),(AI p.1.1),(AN p.1.2.1.1),(AP p.1.2.1.1 (fun i=>[.int .i64 ((p.1.2.1.2 i).1),.int .i64 ((p.1.2.1.2 i).2.1)])),(AN p.2.1.1),(AP p.2.1.1 (fun i=>[.int .i64 (p.2.1.2 i)])),(AN 0),(AN nb),(AP nb (fun i=>[.int .i64 (o i)])),((p.1.1.toNat:Nat)=N),(((↑p.1.1.toNat:Int):Int)=(↑N:Int)),((0:Int)=(↑0:Int)),(AN 1),(NL N p.1.1.toNat),(AA N (fun i=>[.p (.nil)])),((([AV.p (PV.int IntKind.i64 p.1.1),graphL p.1.2.1,inL p.2.1].length):Nat)=3),(NL 1 1)] [0,1,2,0,3,4,5,6,7,8,9,10,11,12,13,14,12,15,16,17,18,19,20,21,22,22,7,8,9,10,11,12]):=by kernel_rfl
theorem dpa0 (p:T_Pinned) (N nb:Nat) (o:Nat→Int) (D:BM) (b:Bool) :
    zM 0 [rg 1,.dec true,rg 2,rg 8,rm [(7,oc [] (.p (.bool b)))] 2,rg 2,.head] zf47 (dpS p N nb o 0 D) [0,1,.ins 2 0 259] 1 (dpS p N nb o 1 (upD (zrD D 0) 0 0 b)) =
    some (zf47,zD [((decide ((↑0:Int)<(↑N:Int)))=true),(NT 0 1),(IL 0 p.1.1),(IL p.1.1 p.1.1),(IL (p.1.1*(↑1:Int)) 281474976710656),(ZHi p.1.1),(IL 0 (↑0:Int)),(IT (↑0:Int) (↑N:Int)),(NT 0 N),((false=true)→ ((N:Nat)=1)),zE 330 [(zf31 p),.p (.int .i64 0)] [] (.p (.bool b)),(IT (↑0:Int) (↑p.1.1.toNat:Int)),(NT 0 p.1.1.toNat),((false=true)→ ((p.1.1.toNat:Nat)=1)),(ZLo ((↑0:Int)+1)),(ZHi ((↑0:Int)+1)),(AI p.1.1),(AN p.1.2.1.1),(AP p.1.2.1.1 (fun i=>[.int .i64 ((p.1.2.1.2 i).1),.int .i64 ((p.1.2.1.2 i).2.1)])),(AN p.2.1.1),(AP p.2.1.1 (fun i=>[.int .i64 (p.2.1.2 i)])),(AN 0),(AN nb),(AP nb (fun i=>[.int .i64 (o i)])),(AN N),(AI ((↑N:Int))),((((↑0:Int)+1):Int)=(↑1:Int)),(AN 1),(NL N N),(CV [(259,⟨false,1,p.1.1.toNat,(fun i_1=>(if (i_1=0) then [.p (.bool b)] else [.p (.bool false)]))⟩),(0,⟨false,1,N,(fun i_1=>(if (i_1=0) then [.ar 1 259 0 p.1.1.toNat] else [.p (.nil)]))⟩),(1,⟨true,3,1,(fun i_1=>[.p (.int .i64 p.1.1),.p (.seq true 2 p.1.2.1.1 (fun i_2=>[.int .i64 ((p.1.2.1.2 i_2).1),.int .i64 ((p.1.2.1.2 i_2).2.1)])),.p (.seq true 1 p.2.1.1 (fun i_2=>[.int .i64 (p.2.1.2 i_2)]))])⟩),(2,⟨true,0,0,(fun i_1=>[.p (.seq false 1 N (fun i_2=>[.bool (D i_1 i_2)]))])⟩)] [0,1,.ins 2 0 259] 1 N (fun i=>if (i=0) then [.ar 1 259 0 p.1.1.toNat] else [.p (.nil)]) (fun i=>if (i<1) then [.ar 1 ⟨2,some i⟩ 0 N] else [.p (.nil)])),(AN 3),(NL 1 1),(∀ i:Nat,(((i:Nat)<1)→(((i:Nat)≠0)→(((i:Nat)<0)∧All [(AN 1),((N:Nat)≤N),(∀ r:Nat,(((r:Nat)<N)→(([.bool (D i r)]:List PV)=[.bool (upD (zrD D 0) 0 0 b i r)])))])))),(((0:Nat)<1)→ All [(AN 1),((N:Nat)≤p.1.1.toNat),(∀ r:Nat,(((r:Nat)<N)→(([(toP (List.getD ((if (r=0) then [.p (.bool b)] else [.p (.bool false)]):List AV) 0 (.p .any)))]:List PV)=[.bool (upD (zrD D 0) 0 0 b 0 r)])))])] [0,1,2,3,4,5,6,7,8,9,6,7,8,1,10,6,11,12,13,14,15,16,17,18,19,20,21,22,23,21,24,25,26,27,28,29,30,31,31,16,17,18,19,20,32,33]):=by kernel_rfl
theorem dpa1 (p:T_Pinned) (N nb:Nat) (o:Nat→Int) (D:BM) (b:Bool) :
    zM 0 [rg 1,.dec true,rg 2,rg 8,rm [(7,oc [] (.p (.bool b)))] 2,rg 2,.head] zf47 (dpS p N nb o 1 D) [0,1,.ins 2 1 259] 1 (dpS p N nb o 2 (upD (zrD D 1) 1 1 b)) =
    some (zf47,zD [((decide ((↑1:Int)<(↑N:Int)))=true),(NT 0 1),(IL 0 p.1.1),(IL p.1.1 p.1.1),(IL (p.1.1*(↑1:Int)) 281474976710656),(ZHi p.1.1),(IL 0 (↑1:Int)),(IT (↑1:Int) (↑N:Int)),(NT 1 N),((false=true)→ ((N:Nat)=1)),zE 330 [(zf31 p),.p (.int .i64 1)] [] (.p (.bool b)),(IT (↑1:Int) (↑p.1.1.toNat:Int)),(NT 1 p.1.1.toNat),((false=true)→ ((p.1.1.toNat:Nat)=1)),(ZLo ((↑1:Int)+1)),(ZHi ((↑1:Int)+1)),(AI p.1.1),(AN p.1.2.1.1),(AP p.1.2.1.1 (fun i=>[.int .i64 ((p.1.2.1.2 i).1),.int .i64 ((p.1.2.1.2 i).2.1)])),(AN p.2.1.1),(AP p.2.1.1 (fun i=>[.int .i64 (p.2.1.2 i)])),(AN 0),(AN nb),(AP nb (fun i=>[.int .i64 (o i)])),(AN N),(AI ((↑N:Int))),((((↑1:Int)+1):Int)=(↑2:Int)),(AN 1),(NL N N),(CV [(259,⟨false,1,p.1.1.toNat,(fun i_1=>(if (i_1=1) then [.p (.bool b)] else [.p (.bool false)]))⟩),(0,⟨false,1,N,(fun i_1=>(if (i_1=1) then [.ar 1 259 0 p.1.1.toNat] else (if (i_1<1) then [.ar 1 ⟨2,some i_1⟩ 0 N] else [.p (.nil)])))⟩),(1,⟨true,3,1,(fun i_1=>[.p (.int .i64 p.1.1),.p (.seq true 2 p.1.2.1.1 (fun i_2=>[.int .i64 ((p.1.2.1.2 i_2).1),.int .i64 ((p.1.2.1.2 i_2).2.1)])),.p (.seq true 1 p.2.1.1 (fun i_2=>[.int .i64 (p.2.1.2 i_2)]))])⟩),(2,⟨true,0,1,(fun i_1=>[.p (.seq false 1 N (fun i_2=>[.bool (D i_1 i_2)]))])⟩)] [0,1,.ins 2 1 259] 1 N (fun i=>if (i=1) then [.ar 1 259 0 p.1.1.toNat] else (if (i<1) then [.ar 1 ⟨2,some i⟩ 0 N] else [.p (.nil)])) (fun i=>if (i<2) then [.ar 1 ⟨2,some i⟩ 0 N] else [.p (.nil)])),(AN 3),(NL 1 1),(∀ i:Nat,(((i:Nat)<2)→(((i:Nat)≠1)→(((i:Nat)<1)∧All [(AN 1),((N:Nat)≤N),(∀ r:Nat,(((r:Nat)<N)→(([.bool (D i r)]:List PV)=[.bool (upD (zrD D 1) 1 1 b i r)])))])))),(((1:Nat)<2)→ All [(AN 1),((N:Nat)≤p.1.1.toNat),(∀ r:Nat,(((r:Nat)<N)→(([(toP (List.getD ((if (r=1) then [.p (.bool b)] else [.p (.bool false)]):List AV) 0 (.p .any)))]:List PV)=[.bool (upD (zrD D 1) 1 1 b 1 r)])))])] [0,1,2,3,4,5,6,7,8,9,6,7,8,1,10,6,11,12,13,14,15,16,17,18,19,20,21,22,23,21,24,25,26,27,28,29,30,31,31,16,17,18,19,20,32,33]):=by kernel_rfl
theorem dpa2 (p:T_Pinned) (N nb:Nat) (o:Nat→Int) (D:BM) (b:Bool) :
    zM 0 [rg 1,.dec true,rg 2,rg 8,rm [(7,oc [] (.p (.bool b)))] 2,rg 2,.head] zf47 (dpS p N nb o 2 D) [0,1,.ins 2 2 259] 1 (dpS p N nb o 3 (upD (zrD D 2) 2 2 b)) =
    some (zf47,zD [((decide ((↑2:Int)<(↑N:Int)))=true),(NT 0 1),(IL 0 p.1.1),(IL p.1.1 p.1.1),(IL (p.1.1*(↑1:Int)) 281474976710656),(ZHi p.1.1),(IL 0 (↑2:Int)),(IT (↑2:Int) (↑N:Int)),(NT 2 N),((false=true)→ ((N:Nat)=1)),zE 330 [(zf31 p),.p (.int .i64 2)] [] (.p (.bool b)),(IT (↑2:Int) (↑p.1.1.toNat:Int)),(NT 2 p.1.1.toNat),((false=true)→ ((p.1.1.toNat:Nat)=1)),(ZLo ((↑2:Int)+1)),(ZHi ((↑2:Int)+1)),(AI p.1.1),(AN p.1.2.1.1),(AP p.1.2.1.1 (fun i=>[.int .i64 ((p.1.2.1.2 i).1),.int .i64 ((p.1.2.1.2 i).2.1)])),(AN p.2.1.1),(AP p.2.1.1 (fun i=>[.int .i64 (p.2.1.2 i)])),(AN 0),(AN nb),(AP nb (fun i=>[.int .i64 (o i)])),(AN N),(AI ((↑N:Int))),((((↑2:Int)+1):Int)=(↑3:Int)),(AN 1),(NL N N),(CV [(259,⟨false,1,p.1.1.toNat,(fun i_1=>(if (i_1=2) then [.p (.bool b)] else [.p (.bool false)]))⟩),(0,⟨false,1,N,(fun i_1=>(if (i_1=2) then [.ar 1 259 0 p.1.1.toNat] else (if (i_1<2) then [.ar 1 ⟨2,some i_1⟩ 0 N] else [.p (.nil)])))⟩),(1,⟨true,3,1,(fun i_1=>[.p (.int .i64 p.1.1),.p (.seq true 2 p.1.2.1.1 (fun i_2=>[.int .i64 ((p.1.2.1.2 i_2).1),.int .i64 ((p.1.2.1.2 i_2).2.1)])),.p (.seq true 1 p.2.1.1 (fun i_2=>[.int .i64 (p.2.1.2 i_2)]))])⟩),(2,⟨true,0,2,(fun i_1=>[.p (.seq false 1 N (fun i_2=>[.bool (D i_1 i_2)]))])⟩)] [0,1,.ins 2 2 259] 1 N (fun i=>if (i=2) then [.ar 1 259 0 p.1.1.toNat] else (if (i<2) then [.ar 1 ⟨2,some i⟩ 0 N] else [.p (.nil)])) (fun i=>if (i<3) then [.ar 1 ⟨2,some i⟩ 0 N] else [.p (.nil)])),(AN 3),(NL 1 1),(∀ i:Nat,(((i:Nat)<3)→(((i:Nat)≠2)→(((i:Nat)<2)∧All [(AN 1),((N:Nat)≤N),(∀ r:Nat,(((r:Nat)<N)→(([.bool (D i r)]:List PV)=[.bool (upD (zrD D 2) 2 2 b i r)])))])))),(((2:Nat)<3)→ All [(AN 1),((N:Nat)≤p.1.1.toNat),(∀ r:Nat,(((r:Nat)<N)→(([(toP (List.getD ((if (r=2) then [.p (.bool b)] else [.p (.bool false)]):List AV) 0 (.p .any)))]:List PV)=[.bool (upD (zrD D 2) 2 2 b 2 r)])))])] [0,1,2,3,4,5,6,7,8,9,6,7,8,1,10,6,11,12,13,14,15,16,17,18,19,20,21,22,23,21,24,25,26,27,28,29,30,31,31,16,17,18,19,20,32,33]):=by kernel_rfl
theorem dpa3 (p:T_Pinned) (N nb:Nat) (o:Nat→Int) (D:BM) (b:Bool) :
    zM 0 [rg 1,.dec true,rg 2,rg 8,rm [(7,oc [] (.p (.bool b)))] 2,rg 2,.head] zf47 (dpS p N nb o 3 D) [0,1,.ins 2 3 259] 1 (dpS p N nb o 4 (upD (zrD D 3) 3 3 b)) =
    some (zf47,zD [((decide ((↑3:Int)<(↑N:Int)))=true),(NT 0 1),(IL 0 p.1.1),(IL p.1.1 p.1.1),(IL (p.1.1*(↑1:Int)) 281474976710656),(ZHi p.1.1),(IL 0 (↑3:Int)),(IT (↑3:Int) (↑N:Int)),(NT 3 N),((false=true)→ ((N:Nat)=1)),zE 330 [(zf31 p),.p (.int .i64 3)] [] (.p (.bool b)),(IT (↑3:Int) (↑p.1.1.toNat:Int)),(NT 3 p.1.1.toNat),((false=true)→ ((p.1.1.toNat:Nat)=1)),(ZLo ((↑3:Int)+1)),(ZHi ((↑3:Int)+1)),(AI p.1.1),(AN p.1.2.1.1),(AP p.1.2.1.1 (fun i=>[.int .i64 ((p.1.2.1.2 i).1),.int .i64 ((p.1.2.1.2 i).2.1)])),(AN p.2.1.1),(AP p.2.1.1 (fun i=>[.int .i64 (p.2.1.2 i)])),(AN 0),(AN nb),(AP nb (fun i=>[.int .i64 (o i)])),(AN N),(AI ((↑N:Int))),((((↑3:Int)+1):Int)=(↑4:Int)),(AN 1),(NL N N),(CV [(259,⟨false,1,p.1.1.toNat,(fun i_1=>(if (i_1=3) then [.p (.bool b)] else [.p (.bool false)]))⟩),(0,⟨false,1,N,(fun i_1=>(if (i_1=3) then [.ar 1 259 0 p.1.1.toNat] else (if (i_1<3) then [.ar 1 ⟨2,some i_1⟩ 0 N] else [.p (.nil)])))⟩),(1,⟨true,3,1,(fun i_1=>[.p (.int .i64 p.1.1),.p (.seq true 2 p.1.2.1.1 (fun i_2=>[.int .i64 ((p.1.2.1.2 i_2).1),.int .i64 ((p.1.2.1.2 i_2).2.1)])),.p (.seq true 1 p.2.1.1 (fun i_2=>[.int .i64 (p.2.1.2 i_2)]))])⟩),(2,⟨true,0,3,(fun i_1=>[.p (.seq false 1 N (fun i_2=>[.bool (D i_1 i_2)]))])⟩)] [0,1,.ins 2 3 259] 1 N (fun i=>if (i=3) then [.ar 1 259 0 p.1.1.toNat] else (if (i<3) then [.ar 1 ⟨2,some i⟩ 0 N] else [.p (.nil)])) (fun i=>if (i<4) then [.ar 1 ⟨2,some i⟩ 0 N] else [.p (.nil)])),(AN 3),(NL 1 1),(∀ i:Nat,(((i:Nat)<4)→(((i:Nat)≠3)→(((i:Nat)<3)∧All [(AN 1),((N:Nat)≤N),(∀ r:Nat,(((r:Nat)<N)→(([.bool (D i r)]:List PV)=[.bool (upD (zrD D 3) 3 3 b i r)])))])))),(((3:Nat)<4)→ All [(AN 1),((N:Nat)≤p.1.1.toNat),(∀ r:Nat,(((r:Nat)<N)→(([(toP (List.getD ((if (r=3) then [.p (.bool b)] else [.p (.bool false)]):List AV) 0 (.p .any)))]:List PV)=[.bool (upD (zrD D 3) 3 3 b 3 r)])))])] [0,1,2,3,4,5,6,7,8,9,6,7,8,1,10,6,11,12,13,14,15,16,17,18,19,20,21,22,23,21,24,25,26,27,28,29,30,31,31,16,17,18,19,20,32,33]):=by kernel_rfl
theorem dpa4 (p:T_Pinned) (N nb:Nat) (o:Nat→Int) (D:BM) (b:Bool) :
    zM 0 [rg 1,.dec true,rg 2,rg 8,rm [(7,oc [] (.p (.bool b)))] 2,rg 2,.head] zf47 (dpS p N nb o 4 D) [0,1,.ins 2 4 259] 1 (dpS p N nb o 5 (upD (zrD D 4) 4 4 b)) =
    some (zf47,zD [((decide ((↑4:Int)<(↑N:Int)))=true),(NT 0 1),(IL 0 p.1.1),(IL p.1.1 p.1.1),(IL (p.1.1*(↑1:Int)) 281474976710656),(ZHi p.1.1),(IL 0 (↑4:Int)),(IT (↑4:Int) (↑N:Int)),(NT 4 N),((false=true)→ ((N:Nat)=1)),zE 330 [(zf31 p),.p (.int .i64 4)] [] (.p (.bool b)),(IT (↑4:Int) (↑p.1.1.toNat:Int)),(NT 4 p.1.1.toNat),((false=true)→ ((p.1.1.toNat:Nat)=1)),(ZLo ((↑4:Int)+1)),(ZHi ((↑4:Int)+1)),(AI p.1.1),(AN p.1.2.1.1),(AP p.1.2.1.1 (fun i=>[.int .i64 ((p.1.2.1.2 i).1),.int .i64 ((p.1.2.1.2 i).2.1)])),(AN p.2.1.1),(AP p.2.1.1 (fun i=>[.int .i64 (p.2.1.2 i)])),(AN 0),(AN nb),(AP nb (fun i=>[.int .i64 (o i)])),(AN N),(AI ((↑N:Int))),((((↑4:Int)+1):Int)=(↑5:Int)),(AN 1),(NL N N),(CV [(259,⟨false,1,p.1.1.toNat,(fun i_1=>(if (i_1=4) then [.p (.bool b)] else [.p (.bool false)]))⟩),(0,⟨false,1,N,(fun i_1=>(if (i_1=4) then [.ar 1 259 0 p.1.1.toNat] else (if (i_1<4) then [.ar 1 ⟨2,some i_1⟩ 0 N] else [.p (.nil)])))⟩),(1,⟨true,3,1,(fun i_1=>[.p (.int .i64 p.1.1),.p (.seq true 2 p.1.2.1.1 (fun i_2=>[.int .i64 ((p.1.2.1.2 i_2).1),.int .i64 ((p.1.2.1.2 i_2).2.1)])),.p (.seq true 1 p.2.1.1 (fun i_2=>[.int .i64 (p.2.1.2 i_2)]))])⟩),(2,⟨true,0,4,(fun i_1=>[.p (.seq false 1 N (fun i_2=>[.bool (D i_1 i_2)]))])⟩)] [0,1,.ins 2 4 259] 1 N (fun i=>if (i=4) then [.ar 1 259 0 p.1.1.toNat] else (if (i<4) then [.ar 1 ⟨2,some i⟩ 0 N] else [.p (.nil)])) (fun i=>if (i<5) then [.ar 1 ⟨2,some i⟩ 0 N] else [.p (.nil)])),(AN 3),(NL 1 1),(∀ i:Nat,(((i:Nat)<5)→(((i:Nat)≠4)→(((i:Nat)<4)∧All [(AN 1),((N:Nat)≤N),(∀ r:Nat,(((r:Nat)<N)→(([.bool (D i r)]:List PV)=[.bool (upD (zrD D 4) 4 4 b i r)])))])))),(((4:Nat)<5)→ All [(AN 1),((N:Nat)≤p.1.1.toNat),(∀ r:Nat,(((r:Nat)<N)→(([(toP (List.getD ((if (r=4) then [.p (.bool b)] else [.p (.bool false)]):List AV) 0 (.p .any)))]:List PV)=[.bool (upD (zrD D 4) 4 4 b 4 r)])))])] [0,1,2,3,4,5,6,7,8,9,6,7,8,1,10,6,11,12,13,14,15,16,17,18,19,20,21,22,23,21,24,25,26,27,28,29,30,31,31,16,17,18,19,20,32,33]):=by kernel_rfl
theorem dpa5 (p:T_Pinned) (N nb:Nat) (o:Nat→Int) (D:BM) (b:Bool) :
    zM 0 [rg 1,.dec true,rg 2,rg 8,rm [(7,oc [] (.p (.bool b)))] 2,rg 2,.head] zf47 (dpS p N nb o 5 D) [0,1,.ins 2 5 259] 1 (dpS p N nb o 6 (upD (zrD D 5) 5 5 b)) =
    some (zf47,zD [((decide ((↑5:Int)<(↑N:Int)))=true),(NT 0 1),(IL 0 p.1.1),(IL p.1.1 p.1.1),(IL (p.1.1*(↑1:Int)) 281474976710656),(ZHi p.1.1),(IL 0 (↑5:Int)),(IT (↑5:Int) (↑N:Int)),(NT 5 N),((false=true)→ ((N:Nat)=1)),zE 330 [(zf31 p),.p (.int .i64 5)] [] (.p (.bool b)),(IT (↑5:Int) (↑p.1.1.toNat:Int)),(NT 5 p.1.1.toNat),((false=true)→ ((p.1.1.toNat:Nat)=1)),(ZLo ((↑5:Int)+1)),(ZHi ((↑5:Int)+1)),(AI p.1.1),(AN p.1.2.1.1),(AP p.1.2.1.1 (fun i=>[.int .i64 ((p.1.2.1.2 i).1),.int .i64 ((p.1.2.1.2 i).2.1)])),(AN p.2.1.1),(AP p.2.1.1 (fun i=>[.int .i64 (p.2.1.2 i)])),(AN 0),(AN nb),(AP nb (fun i=>[.int .i64 (o i)])),(AN N),(AI ((↑N:Int))),((((↑5:Int)+1):Int)=(↑6:Int)),(AN 1),(NL N N),(CV [(259,⟨false,1,p.1.1.toNat,(fun i_1=>(if (i_1=5) then [.p (.bool b)] else [.p (.bool false)]))⟩),(0,⟨false,1,N,(fun i_1=>(if (i_1=5) then [.ar 1 259 0 p.1.1.toNat] else (if (i_1<5) then [.ar 1 ⟨2,some i_1⟩ 0 N] else [.p (.nil)])))⟩),(1,⟨true,3,1,(fun i_1=>[.p (.int .i64 p.1.1),.p (.seq true 2 p.1.2.1.1 (fun i_2=>[.int .i64 ((p.1.2.1.2 i_2).1),.int .i64 ((p.1.2.1.2 i_2).2.1)])),.p (.seq true 1 p.2.1.1 (fun i_2=>[.int .i64 (p.2.1.2 i_2)]))])⟩),(2,⟨true,0,5,(fun i_1=>[.p (.seq false 1 N (fun i_2=>[.bool (D i_1 i_2)]))])⟩)] [0,1,.ins 2 5 259] 1 N (fun i=>if (i=5) then [.ar 1 259 0 p.1.1.toNat] else (if (i<5) then [.ar 1 ⟨2,some i⟩ 0 N] else [.p (.nil)])) (fun i=>if (i<6) then [.ar 1 ⟨2,some i⟩ 0 N] else [.p (.nil)])),(AN 3),(NL 1 1),(∀ i:Nat,(((i:Nat)<6)→(((i:Nat)≠5)→(((i:Nat)<5)∧All [(AN 1),((N:Nat)≤N),(∀ r:Nat,(((r:Nat)<N)→(([.bool (D i r)]:List PV)=[.bool (upD (zrD D 5) 5 5 b i r)])))])))),(((5:Nat)<6)→ All [(AN 1),((N:Nat)≤p.1.1.toNat),(∀ r:Nat,(((r:Nat)<N)→(([(toP (List.getD ((if (r=5) then [.p (.bool b)] else [.p (.bool false)]):List AV) 0 (.p .any)))]:List PV)=[.bool (upD (zrD D 5) 5 5 b 5 r)])))])] [0,1,2,3,4,5,6,7,8,9,6,7,8,1,10,6,11,12,13,14,15,16,17,18,19,20,21,22,23,21,24,25,26,27,28,29,30,31,31,16,17,18,19,20,32,33]):=by kernel_rfl
theorem dpa6 (p:T_Pinned) (N nb:Nat) (o:Nat→Int) (D:BM) (b:Bool) :
    zM 0 [rg 1,.dec true,rg 2,rg 8,rm [(7,oc [] (.p (.bool b)))] 2,rg 2,.head] zf47 (dpS p N nb o 6 D) [0,1,.ins 2 6 259] 1 (dpS p N nb o 7 (upD (zrD D 6) 6 6 b)) =
    some (zf47,zD [((decide ((↑6:Int)<(↑N:Int)))=true),(NT 0 1),(IL 0 p.1.1),(IL p.1.1 p.1.1),(IL (p.1.1*(↑1:Int)) 281474976710656),(ZHi p.1.1),(IL 0 (↑6:Int)),(IT (↑6:Int) (↑N:Int)),(NT 6 N),((false=true)→ ((N:Nat)=1)),zE 330 [(zf31 p),.p (.int .i64 6)] [] (.p (.bool b)),(IT (↑6:Int) (↑p.1.1.toNat:Int)),(NT 6 p.1.1.toNat),((false=true)→ ((p.1.1.toNat:Nat)=1)),(ZLo ((↑6:Int)+1)),(ZHi ((↑6:Int)+1)),(AI p.1.1),(AN p.1.2.1.1),(AP p.1.2.1.1 (fun i=>[.int .i64 ((p.1.2.1.2 i).1),.int .i64 ((p.1.2.1.2 i).2.1)])),(AN p.2.1.1),(AP p.2.1.1 (fun i=>[.int .i64 (p.2.1.2 i)])),(AN 0),(AN nb),(AP nb (fun i=>[.int .i64 (o i)])),(AN N),(AI ((↑N:Int))),((((↑6:Int)+1):Int)=(↑7:Int)),(AN 1),(NL N N),(CV [(259,⟨false,1,p.1.1.toNat,(fun i_1=>(if (i_1=6) then [.p (.bool b)] else [.p (.bool false)]))⟩),(0,⟨false,1,N,(fun i_1=>(if (i_1=6) then [.ar 1 259 0 p.1.1.toNat] else (if (i_1<6) then [.ar 1 ⟨2,some i_1⟩ 0 N] else [.p (.nil)])))⟩),(1,⟨true,3,1,(fun i_1=>[.p (.int .i64 p.1.1),.p (.seq true 2 p.1.2.1.1 (fun i_2=>[.int .i64 ((p.1.2.1.2 i_2).1),.int .i64 ((p.1.2.1.2 i_2).2.1)])),.p (.seq true 1 p.2.1.1 (fun i_2=>[.int .i64 (p.2.1.2 i_2)]))])⟩),(2,⟨true,0,6,(fun i_1=>[.p (.seq false 1 N (fun i_2=>[.bool (D i_1 i_2)]))])⟩)] [0,1,.ins 2 6 259] 1 N (fun i=>if (i=6) then [.ar 1 259 0 p.1.1.toNat] else (if (i<6) then [.ar 1 ⟨2,some i⟩ 0 N] else [.p (.nil)])) (fun i=>if (i<7) then [.ar 1 ⟨2,some i⟩ 0 N] else [.p (.nil)])),(AN 3),(NL 1 1),(∀ i:Nat,(((i:Nat)<7)→(((i:Nat)≠6)→(((i:Nat)<6)∧All [(AN 1),((N:Nat)≤N),(∀ r:Nat,(((r:Nat)<N)→(([.bool (D i r)]:List PV)=[.bool (upD (zrD D 6) 6 6 b i r)])))])))),(((6:Nat)<7)→ All [(AN 1),((N:Nat)≤p.1.1.toNat),(∀ r:Nat,(((r:Nat)<N)→(([(toP (List.getD ((if (r=6) then [.p (.bool b)] else [.p (.bool false)]):List AV) 0 (.p .any)))]:List PV)=[.bool (upD (zrD D 6) 6 6 b 6 r)])))])] [0,1,2,3,4,5,6,7,8,9,6,7,8,1,10,6,11,12,13,14,15,16,17,18,19,20,21,22,23,21,24,25,26,27,28,29,30,31,31,16,17,18,19,20,32,33]):=by kernel_rfl
theorem dpa7 (p:T_Pinned) (N nb:Nat) (o:Nat→Int) (D:BM) (b:Bool) :
    zM 0 [rg 1,.dec true,rg 2,rg 8,rm [(7,oc [] (.p (.bool b)))] 2,rg 2,.head] zf47 (dpS p N nb o 7 D) [0,1,.ins 2 7 259] 1 (dpS p N nb o 8 (upD (zrD D 7) 7 7 b)) =
    some (zf47,zD [((decide ((↑7:Int)<(↑N:Int)))=true),(NT 0 1),(IL 0 p.1.1),(IL p.1.1 p.1.1),(IL (p.1.1*(↑1:Int)) 281474976710656),(ZHi p.1.1),(IL 0 (↑7:Int)),(IT (↑7:Int) (↑N:Int)),(NT 7 N),((false=true)→ ((N:Nat)=1)),zE 330 [(zf31 p),.p (.int .i64 7)] [] (.p (.bool b)),(IT (↑7:Int) (↑p.1.1.toNat:Int)),(NT 7 p.1.1.toNat),((false=true)→ ((p.1.1.toNat:Nat)=1)),(ZLo ((↑7:Int)+1)),(ZHi ((↑7:Int)+1)),(AI p.1.1),(AN p.1.2.1.1),(AP p.1.2.1.1 (fun i=>[.int .i64 ((p.1.2.1.2 i).1),.int .i64 ((p.1.2.1.2 i).2.1)])),(AN p.2.1.1),(AP p.2.1.1 (fun i=>[.int .i64 (p.2.1.2 i)])),(AN 0),(AN nb),(AP nb (fun i=>[.int .i64 (o i)])),(AN N),(AI ((↑N:Int))),((((↑7:Int)+1):Int)=(↑8:Int)),(AN 1),(NL N N),(CV [(259,⟨false,1,p.1.1.toNat,(fun i_1=>(if (i_1=7) then [.p (.bool b)] else [.p (.bool false)]))⟩),(0,⟨false,1,N,(fun i_1=>(if (i_1=7) then [.ar 1 259 0 p.1.1.toNat] else (if (i_1<7) then [.ar 1 ⟨2,some i_1⟩ 0 N] else [.p (.nil)])))⟩),(1,⟨true,3,1,(fun i_1=>[.p (.int .i64 p.1.1),.p (.seq true 2 p.1.2.1.1 (fun i_2=>[.int .i64 ((p.1.2.1.2 i_2).1),.int .i64 ((p.1.2.1.2 i_2).2.1)])),.p (.seq true 1 p.2.1.1 (fun i_2=>[.int .i64 (p.2.1.2 i_2)]))])⟩),(2,⟨true,0,7,(fun i_1=>[.p (.seq false 1 N (fun i_2=>[.bool (D i_1 i_2)]))])⟩)] [0,1,.ins 2 7 259] 1 N (fun i=>if (i=7) then [.ar 1 259 0 p.1.1.toNat] else (if (i<7) then [.ar 1 ⟨2,some i⟩ 0 N] else [.p (.nil)])) (fun i=>if (i<8) then [.ar 1 ⟨2,some i⟩ 0 N] else [.p (.nil)])),(AN 3),(NL 1 1),(∀ i:Nat,(((i:Nat)<8)→(((i:Nat)≠7)→(((i:Nat)<7)∧All [(AN 1),((N:Nat)≤N),(∀ r:Nat,(((r:Nat)<N)→(([.bool (D i r)]:List PV)=[.bool (upD (zrD D 7) 7 7 b i r)])))])))),(((7:Nat)<8)→ All [(AN 1),((N:Nat)≤p.1.1.toNat),(∀ r:Nat,(((r:Nat)<N)→(([(toP (List.getD ((if (r=7) then [.p (.bool b)] else [.p (.bool false)]):List AV) 0 (.p .any)))]:List PV)=[.bool (upD (zrD D 7) 7 7 b 7 r)])))])] [0,1,2,3,4,5,6,7,8,9,6,7,8,1,10,6,11,12,13,14,15,16,17,18,19,20,21,22,23,21,24,25,26,27,28,29,30,31,31,16,17,18,19,20,32,33]):=by kernel_rfl
theorem dpc (p:T_Pinned) (N nb:Nat) (o:Nat→Int) (D:BM) :
    zM 0 [rg 1,.dec false,rg 3,.head] zf47 (dpS p N nb o N D) [0,1,2] 1 (dqS p N nb o 0 D) =
    some (zf37,zD [((decide ((↑N:Int)<(↑N:Int)))=false),(AI p.1.1),(AN p.1.2.1.1),(AP p.1.2.1.1 (fun i=>[.int .i64 ((p.1.2.1.2 i).1),.int .i64 ((p.1.2.1.2 i).2.1)])),(AN p.2.1.1),(AP p.2.1.1 (fun i=>[.int .i64 (p.2.1.2 i)])),(AN 0),(AN N),(AN nb),(AP nb (fun i=>[.int .i64 (o i)])),(AI ((↑nb:Int))),((0:Int)=(↑0:Int)),(AN 1),(NL N N),(CV [(0,⟨false,1,N,(fun i_1=>(if (i_1<N) then [.ar 1 ⟨2,some i_1⟩ 0 N] else [.p (.nil)]))⟩),(1,⟨true,3,1,(fun i_1=>[.p (.int .i64 p.1.1),.p (.seq true 2 p.1.2.1.1 (fun i_2=>[.int .i64 ((p.1.2.1.2 i_2).1),.int .i64 ((p.1.2.1.2 i_2).2.1)])),.p (.seq true 1 p.2.1.1 (fun i_2=>[.int .i64 (p.2.1.2 i_2)]))])⟩),(2,⟨true,0,N,(fun i_1=>[.p (.seq false 1 N (fun i_2=>[.bool (D i_1 i_2)]))])⟩)] [0,1,2] 1 N (fun i=>if (i<N) then [.ar 1 ⟨2,some i⟩ 0 N] else [.p (.nil)]) (fun i=>[.ar 1 ⟨2,some i⟩ 0 N])),(AN 3),(NL 1 1),(∀ i:Nat,(((i:Nat)<N)→All [(AN 1),((N:Nat)≤N),(AP N (fun r=>[.bool (D i r)]))]))] [0,1,2,3,4,5,6,6,7,8,9,10,11,12,13,14,15,16,16,1,2,3,4,5,13,17]):=by kernel_rfl
theorem dpd (p:T_Pinned) (N nb:Nat) (o:Nat→Int) (e u:Nat) (D:BM) :
    zM 0 [rg 1,.dec true,rg 5,rm [(7,oc [] (.p (.int .i64 u)))] 1,rm [(2,oc [] (.p (.bool true)))] 0,.dec true,rg 7,rg 2,.head] zf37 (dqS p N nb o e D) [0,1,2] 1 (dqS p N nb o (e+1) (upD D (o e).toNat u true)) =
    some (zf37,zD [((decide ((↑e:Int)<(↑nb:Int)))=true),(IL 0 (↑e:Int)),(IT (↑e:Int) (↑nb:Int)),(NT 0 1),(IT (↑e:Int) (↑p.1.2.1.1:Int)),zE 223 [(zf114 p e),.p (.int .i64 (o e))] [] (.p (.int .i64 (↑u:Int))),zE 330 [(zf31 p),.p (.int .i64 (↑u:Int))] [] (.p (.bool true)),(true=true),(IL 0 (o e)),(IT (o e) (↑N:Int)),(NT ((o e).toNat) N),(IL 0 (↑u:Int)),(IT (↑u:Int) (↑N:Int)),(NT u N),((false=true)→ ((N:Nat)=1)),(ZLo ((↑e:Int)+1)),(ZHi ((↑e:Int)+1)),(AI p.1.1),(AN p.1.2.1.1),(AP p.1.2.1.1 (fun i=>[.int .i64 ((p.1.2.1.2 i).1),.int .i64 ((p.1.2.1.2 i).2.1)])),(AN p.2.1.1),(AP p.2.1.1 (fun i=>[.int .i64 (p.2.1.2 i)])),(AN 0),(AN N),(AN nb),(AP nb (fun i=>[.int .i64 (o i)])),(AI ((↑nb:Int))),((((↑e:Int)+1):Int)=(↑(e+1):Int)),(AN 1),(NL N N),(AA N (fun i=>[.ar 1 ⟨2,some i⟩ 0 N])),(AN 3),(NL 1 1),(∀ i:Nat,(((i:Nat)<N)→All (famE (if (i=(o e).toNat) then [.p (.seq false 1 N (fun i_1=>[(toP (List.getD ((if (i_1=u) then [.p (.bool true)] else [.p (.bool (D (o e).toNat i_1))]):List AV) 0 (.p .any)))]))] else [.p (.seq false 1 N (fun i_1=>[.bool (D i i_1)]))]) [.p (.seq false 1 N (fun i_1=>[.bool (upD D (o e).toNat u true i i_1)]))])))] [0,1,2,3,1,4,5,3,6,7,8,9,10,11,12,10,13,14,15,16,17,18,19,20,21,22,22,23,24,25,26,27,28,29,30,31,32,32,17,18,19,20,21,29,33]):=by kernel_rfl
theorem dpe (p:T_Pinned) (N nb:Nat) (o:Nat→Int) (e u:Nat) (D:BM) :
    zM 0 [rg 1,.dec true,rg 5,rm [(7,oc [] (.p (.int .i64 u)))] 1,rm [(2,oc [] (.p (.bool false)))] 0,.dec false,rg 2,.head] zf37 (dqS p N nb o e D) [0,1,2] 1 (dqS p N nb o (e+1) D) =
    some (zf37,zD [((decide ((↑e:Int)<(↑nb:Int)))=true),(IL 0 (↑e:Int)),(IT (↑e:Int) (↑nb:Int)),(NT 0 1),(IT (↑e:Int) (↑p.1.2.1.1:Int)),zE 223 [(zf114 p e),.p (.int .i64 (o e))] [] (.p (.int .i64 (↑u:Int))),zE 330 [(zf31 p),.p (.int .i64 (↑u:Int))] [] (.p (.bool false)),(false=false),(ZLo ((↑e:Int)+1)),(ZHi ((↑e:Int)+1)),(AI p.1.1),(AN p.1.2.1.1),(AP p.1.2.1.1 (fun i=>[.int .i64 ((p.1.2.1.2 i).1),.int .i64 ((p.1.2.1.2 i).2.1)])),(AN p.2.1.1),(AP p.2.1.1 (fun i=>[.int .i64 (p.2.1.2 i)])),(AN 0),(AN N),(AN nb),(AP nb (fun i=>[.int .i64 (o i)])),(AI ((↑nb:Int))),((((↑e:Int)+1):Int)=(↑(e+1):Int)),(AN 1),(NL N N),(AA N (fun i=>[.ar 1 ⟨2,some i⟩ 0 N])),(AN 3),(NL 1 1),(∀ i:Nat,(((i:Nat)<N)→All [(AN 1),((N:Nat)≤N),(AP N (fun r=>[.bool (D i r)]))]))] [0,1,2,3,1,4,5,3,6,7,8,9,10,11,12,13,14,15,15,16,17,18,19,20,21,22,23,24,25,25,10,11,12,13,14,22,26]):=by kernel_rfl
theorem dpf (p:T_Pinned) (N nb:Nat) (o:Nat→Int) (e:Nat) (D:BM) :
    zM 0 [rg 1,.dec false,rg 3,.head] zf37 (dqS p N nb o e D) [0,9001,2] 1 (drS p N 0 D) =
    some (zf34,[((decide ((↑e:Int)<(↑nb:Int)))=false),(AI p.1.1),(AN p.1.2.1.1),(AP p.1.2.1.1 (fun i=>[.int .i64 ((p.1.2.1.2 i).1),.int .i64 ((p.1.2.1.2 i).2.1)])),(AN p.2.1.1),(AP p.2.1.1 (fun i=>[.int .i64 (p.2.1.2 i)])),(AN 0),(AN N),(AI ((↑N:Int))),((0:Int)=(↑0:Int)),(AN 1),(NL N N),(AA N (fun i=>[.ar 1 ⟨2,some i⟩ 0 N])),(NL N N),(∀ i:Nat,(((i:Nat)<N)→All [(AN 1),((N:Nat)≤N),(AP N (fun r=>[.bool (D i r)]))]))]):=by kernel_rfl
theorem dpg (p:T_Pinned) (N k:Nat) (D:BM) :
    zM 0 [rg 1,.dec true,rg 2,rg 3,.head] zf34 (drS p N k D) [0,9001,2] 1 (drT p N k 0 D) =
    some (zf18,[((decide ((↑k:Int)<(↑N:Int)))=true),(AI p.1.1),(AN p.1.2.1.1),(AP p.1.2.1.1 (fun i=>[.int .i64 ((p.1.2.1.2 i).1),.int .i64 ((p.1.2.1.2 i).2.1)])),(AN p.2.1.1),(AP p.2.1.1 (fun i=>[.int .i64 (p.2.1.2 i)])),(AN 0),(AN N),(AI ((↑k:Int))),(AI ((↑N:Int))),(AI ((↑k:Int))),(AI ((↑N:Int))),((0:Int)=(↑0:Int)),(AN 1),(NL N N),(AA N (fun i=>[.ar 1 ⟨2,some i⟩ 0 N])),(NL N N),(∀ i:Nat,(((i:Nat)<N)→All [(AN 1),((N:Nat)≤N),(AP N (fun r=>[.bool (D i r)]))]))]):=by kernel_rfl
theorem dph (p:T_Pinned) (N k i:Nat) (D:BM) :
    zM 0 [rg 1,.dec true,rg 2,rg 3,.head] zf18 (drT p N k i D) [0,9001,2] 1 (drU p N k i 0 D) =
    some (zf3,zD [((decide ((↑i:Int)<(↑N:Int)))=true),(AI p.1.1),(AN p.1.2.1.1),(AP p.1.2.1.1 (fun i_1=>[.int .i64 ((p.1.2.1.2 i_1).1),.int .i64 ((p.1.2.1.2 i_1).2.1)])),(AN p.2.1.1),(AP p.2.1.1 (fun i_1=>[.int .i64 (p.2.1.2 i_1)])),(AN 0),(AN N),(AI ((↑k:Int))),(AI ((↑i:Int))),(AI ((↑N:Int))),((0:Int)=(↑0:Int)),(AN 1),(NL N N),(AA N (fun i_1=>[.ar 1 ⟨2,some i_1⟩ 0 N])),(∀ i_1:Nat,(((i_1:Nat)<N)→All [(AN 1),((N:Nat)≤N),(AP N (fun r=>[.bool (D i_1 r)]))]))] [0,1,2,3,4,5,6,7,8,9,10,8,10,9,10,11,12,13,14,13,15]):=by kernel_rfl
theorem dpi (p:T_Pinned) (N k i j:Nat) (D:BM) :
    zM 0 [rg 1,.dec true,rg 2,rg 32,rg 2,.head] zf3 (drU p N k i j D) [0,9001,2] 1 (drU p N k i (j+1) (upD D i j (bif D i j then true else bif D i k then D k j else false))) =
    some (zf3,zD [((decide ((↑j:Int)<(↑N:Int)))=true),(IL 0 (↑i:Int)),(IT (↑i:Int) (↑N:Int)),(NT i N),(IL 0 (↑j:Int)),(IT (↑j:Int) (↑N:Int)),(NT j N),(AG (!D i j)),(((!D i j)=true)→(IL 0 (↑i:Int))),(((!D i j)=true)→(IT (↑i:Int) (↑N:Int))),(((!D i j)=true)→(NT i N)),(((!D i j)=true)→(IL 0 (↑k:Int))),(((!D i j)=true)→(IT (↑k:Int) (↑N:Int))),(((!D i j)=true)→(NT k N)),(AG (!D i j&&D i k)),(((!D i j&&D i k)=true)→(IL 0 (↑k:Int))),(((!D i j&&D i k)=true)→(IT (↑k:Int) (↑N:Int))),(((!D i j&&D i k)=true)→(NT k N)),(((!D i j&&D i k)=true)→(IL 0 (↑j:Int))),(((!D i j&&D i k)=true)→(IT (↑j:Int) (↑N:Int))),(((!D i j&&D i k)=true)→(NT j N)),(((!D i j)=true)→(((D i k)=true)→ ((!D i j&&D i k)=true))),(((D i j)=false)→ ((!D i j)=true)),((false=true)→ ((N:Nat)=1)),(ZLo ((↑j:Int)+1)),(ZHi ((↑j:Int)+1)),(AI p.1.1),(AN p.1.2.1.1),(AP p.1.2.1.1 (fun i_1=>[.int .i64 ((p.1.2.1.2 i_1).1),.int .i64 ((p.1.2.1.2 i_1).2.1)])),(AN p.2.1.1),(AP p.2.1.1 (fun i_1=>[.int .i64 (p.2.1.2 i_1)])),(AN 0),(AN N),(AI ((↑k:Int))),(AI ((↑i:Int))),(AI ((↑N:Int))),((((↑j:Int)+1):Int)=(↑(j+1):Int)),(AN 1),(NL N N),(AA N (fun i_1=>[.ar 1 ⟨2,some i_1⟩ 0 N])),(∀ i_1:Nat,(((i_1:Nat)<N)→All (famE (if (i_1=i) then [.p (.seq false 1 N (fun i_2=>[(toP (List.getD ((if (i_2=j) then [.p (.bool (bif D i j then true else bif D i k then D k j else false))] else [.p (.bool (D i i_2))]):List AV) 0 (.p .any)))]))] else [.p (.seq false 1 N (fun i_2=>[.bool (D i_1 i_2)]))]) [.p (.seq false 1 N (fun i_2=>[.bool (upD D i j (bif D i j then true else bif D i k then D k j else false) i_1 i_2)]))])))] [0,1,2,3,1,2,3,4,5,3,6,7,7,8,9,7,10,7,7,11,12,7,10,13,7,14,14,15,16,14,17,14,14,18,19,14,17,20,7,21,22,4,5,3,6,23,24,25,26,27,28,29,30,31,32,33,34,35,33,35,34,35,36,37,38,39,38,40]):=by kernel_rfl
theorem dpj (p:T_Pinned) (N k i j:Nat) (D D2:BM) :
    zM 0 [rg 1,.dec false,rg 2,.head] zf3 (drU p N k i j D) [0,9001,2] 1 (drT p N k (i+1) D2) =
    some (zf18,[((decide ((↑j:Int)<(↑N:Int)))=false),(ZLo ((↑i:Int)+1)),(ZHi ((↑i:Int)+1)),(AI p.1.1),(AN p.1.2.1.1),(AP p.1.2.1.1 (fun i_1=>[.int .i64 ((p.1.2.1.2 i_1).1),.int .i64 ((p.1.2.1.2 i_1).2.1)])),(AN p.2.1.1),(AP p.2.1.1 (fun i_1=>[.int .i64 (p.2.1.2 i_1)])),(AN 0),(AN N),(AI ((↑k:Int))),(AI ((↑N:Int))),(AI ((↑k:Int))),(AI ((↑N:Int))),((((↑i:Int)+1):Int)=(↑(i+1):Int)),(AN 1),(NL N N),(AA N (fun i_1=>[.ar 1 ⟨2,some i_1⟩ 0 N])),(NL N N),(∀ i_1:Nat,(((i_1:Nat)<N)→All [(AN 1),((N:Nat)≤N),(∀ r:Nat,(((r:Nat)<N)→(([.bool (D i_1 r)]:List PV)=[.bool (D2 i_1 r)])))]))]):=by kernel_rfl
theorem dpk (p:T_Pinned) (N k i:Nat) (D D2:BM) :
    zM 0 [rg 1,.dec false,rg 2,.head] zf18 (drT p N k i D) [0,9001,2] 1 (drS p N (k+1) D2) =
    some (zf34,[((decide ((↑i:Int)<(↑N:Int)))=false),(ZLo ((↑k:Int)+1)),(ZHi ((↑k:Int)+1)),(AI p.1.1),(AN p.1.2.1.1),(AP p.1.2.1.1 (fun i_1=>[.int .i64 ((p.1.2.1.2 i_1).1),.int .i64 ((p.1.2.1.2 i_1).2.1)])),(AN p.2.1.1),(AP p.2.1.1 (fun i_1=>[.int .i64 (p.2.1.2 i_1)])),(AN 0),(AN N),(AI ((↑N:Int))),((((↑k:Int)+1):Int)=(↑(k+1):Int)),(AN 1),(NL N N),(AA N (fun i_1=>[.ar 1 ⟨2,some i_1⟩ 0 N])),(NL N N),(∀ i_1:Nat,(((i_1:Nat)<N)→All [(AN 1),((N:Nat)≤N),(∀ r:Nat,(((r:Nat)<N)→(([.bool (D i_1 r)]:List PV)=[.bool (D2 i_1 r)])))]))]):=by kernel_rfl
theorem dpl (p:T_Pinned) (N k:Nat) (D:BM) :
    zP Tryz.f329 0 [rg 1,.dec false,rg 3] zf34 (drS p N k D) [] 2 [] (.tup [bbL false N N D,.p (.bool true)]) =
    some [((decide ((↑k:Int)<(↑N:Int)))=false),(AN 1),(NL N N),(∀ i:Nat,(((i:Nat)<N)→All [((i:Nat)<N),(AN 1),((N:Nat)≤N)])),(AN N),(AP N (fun i=>[.seq false 1 N (fun i_1=>[.bool (D i i_1)])])),(true=true),(false=false),(∀ i:Nat,(((i:Nat)<N)→All [(false=false),(AE N)]))]:=by kernel_rfl
theorem rhz (p:T_Pinned) (nb:Nat) (o:Nat→Int) (v:Nat) :
    zT Tryz.f246 [rg 2,rg 3,rg 1,.head] [pinA p,inL (nb,o),.p (.int .i64 v)] [0,96] (rhS p nb o v 1 (fun _=>(v:Int)) 0) =
    some (zf86,zD [(AI p.1.1),(AN p.1.2.1.1),(AP p.1.2.1.1 (fun i=>[.int .i64 ((p.1.2.1.2 i).1),.int .i64 ((p.1.2.1.2 i).2.1)])),(AN p.2.1.1),(AP p.2.1.1 (fun i=>[.int .i64 (p.2.1.2 i)])),(AN nb),(AP nb (fun i=>[.int .i64 ((nb,o).2 i)])),(AI ((↑v:Int))),(AN 0),(AN 1),((0:Int)=(↑0:Int)),((([AV.p (PV.int IntKind.i64 p.1.1),graphL p.1.2.1,inL p.2.1].length):Nat)=3),(NL 1 1),(AA 1 (fun i=>[.p (.int .i64 (↑v:Int))]))] [0,1,2,3,4,5,6,7,8,8,9,10,11,12,12,0,1,2,3,4,9,12,13]):=by kernel_rfl
theorem rha (p:T_Pinned) (nb:Nat) (o:Nat→Int) (v c:Nat) (q:Nat→Int) (k:Nat) :
    zM 0 [rg 4,.dec true,rg 1,.head] zf86 (rhS p nb o v c q k) [0,1] 1 (rhT p nb o v c q k 0) =
    some (zf27,zD [((decide ((↑k:Int)<(↑c:Int)))=true),(AI p.1.1),(AN p.1.2.1.1),(AP p.1.2.1.1 (fun i=>[.int .i64 ((p.1.2.1.2 i).1),.int .i64 ((p.1.2.1.2 i).2.1)])),(AN p.2.1.1),(AP p.2.1.1 (fun i=>[.int .i64 (p.2.1.2 i)])),(AN nb),(AP nb (fun i=>[.int .i64 ((nb,o).2 i)])),(AI ((↑v:Int))),(AN 0),(AN c),(AI ((↑k:Int))),((0:Int)=(↑0:Int)),(AN 3),(NL 1 1),(AN 1),(NL c c),(AA c (fun i=>[.p (.int .i64 (q i))]))] [0,1,2,3,4,5,6,7,8,9,9,10,11,12,13,14,14,1,2,3,4,5,15,16,17]):=by kernel_rfl
theorem rhb (p:T_Pinned) (nb:Nat) (o:Nat→Int) (v c:Nat) (q:Nat→Int) (k i:Nat) :
    zM 0 [rg 4,.dec true,rg 9,.dec false,rg 3,.head] zf27 (rhT p nb o v c q k i) [0,1] 1 (rhT p nb o v c q k (i+1)) =
    some (zf27,zD [((decide ((↑i:Int)<(↑(nb,o).1:Int)))=true),(IL 0 (↑i:Int)),(IT (↑i:Int) (↑nb:Int)),(IL 0 (↑k:Int)),(IT (↑k:Int) (↑c:Int)),(NT k c),(((nb,o).2 i==q k)=false),(ZLo ((↑i:Int)+1)),(ZHi ((↑i:Int)+1)),(AI p.1.1),(AN p.1.2.1.1),(AP p.1.2.1.1 (fun i_1=>[.int .i64 ((p.1.2.1.2 i_1).1),.int .i64 ((p.1.2.1.2 i_1).2.1)])),(AN p.2.1.1),(AP p.2.1.1 (fun i_1=>[.int .i64 (p.2.1.2 i_1)])),(AN nb),(AP nb (fun i_1=>[.int .i64 ((nb,o).2 i_1)])),(AI ((↑v:Int))),(AN 0),(AN c),(AI ((↑k:Int))),((((↑i:Int)+1):Int)=(↑(i+1):Int)),(AN 3),(NL 1 1),(AN 1),(NL c c),(AA c (fun i_1=>[.p (.int .i64 (q i_1))]))] [0,1,2,3,4,5,6,7,8,9,10,11,12,13,14,15,16,17,17,18,19,20,21,22,22,9,10,11,12,13,23,24,25]):=by kernel_rfl
theorem rhc (p:T_Pinned) (nb:Nat) (o:Nat→Int) (v c:Nat) (q:Nat→Int) (k i:Nat) (u:Nat) :
    zM 0 [rg 4,.dec true,rg 9,.dec true,rm [(10,oc [] (.p (.int .i64 u)))] 1,rm [(2,oc [] (.p (.bool false))),(5,oc [] (.p (.bool false)))] 2,.dec true,rg 5,rg 3,.head] zf27 (rhT p nb o v c q k i) [0,1250] 1 (rhT p nb o v (c+1) (snI5 c q u) k (i+1)) =
    some (zf27,zD [((decide ((↑i:Int)<(↑(nb,o).1:Int)))=true),(IL 0 (↑i:Int)),(IT (↑i:Int) (↑nb:Int)),(IL 0 (↑k:Int)),(IT (↑k:Int) (↑c:Int)),(NT k c),(((nb,o).2 i==q k)=true),(NT 0 1),(IT (↑i:Int) (↑p.1.2.1.1:Int)),zE 324 [(zf114 p i),.p (.int .i64 ((nb,o).2 i))] [] (.p (.int .i64 (↑u:Int))),(AN 1),(NL c c),zE 172 [.p (.seq true 1 c (fun i_1=>[.int .i64 (q i_1)])),.p (.int .i64 (↑u:Int))] [] (.p (.bool false)),(AG (!false)),(((!false)=true)→(NT 0 1)),(((!false)=true)→ zE 172 [.p (.seq true 1 p.2.1.1 (fun i_1=>[.int .i64 (p.2.1.2 i_1)])),.p (.int .i64 (↑u:Int))] [] (.p (.bool false))),((bif !false then !false else false)=true),(NL 1 1),(NL ((c+1)*8) 140737488355328),(NL (c+1) 9223372036854775807),(ZLo ((↑i:Int)+1)),(ZHi ((↑i:Int)+1)),(AI p.1.1),(AN p.1.2.1.1),(AP p.1.2.1.1 (fun i_1=>[.int .i64 ((p.1.2.1.2 i_1).1),.int .i64 ((p.1.2.1.2 i_1).2.1)])),(AN p.2.1.1),(AP p.2.1.1 (fun i_1=>[.int .i64 (p.2.1.2 i_1)])),(AN nb),(AP nb (fun i_1=>[.int .i64 ((nb,o).2 i_1)])),(AI ((↑v:Int))),(AN 0),(AN ((c+1))),(AI ((↑k:Int))),((((↑i:Int)+1):Int)=(↑(i+1):Int)),(AN 3),(NL (c+1) (c+1)),(CV [(1250,⟨false,1,(c+1),(fun i_2=>(if (i_2<c) then [.p (.int .i64 (q i_2))] else [.p (.int .i64 (↑u:Int))]))⟩),(1218,⟨false,1,1,(fun i_2=>[.p (.int .i64 (↑u:Int))])⟩),(0,⟨true,3,1,(fun i_2=>[.p (.int .i64 p.1.1),.p (.seq true 2 p.1.2.1.1 (fun i_3=>[.int .i64 ((p.1.2.1.2 i_3).1),.int .i64 ((p.1.2.1.2 i_3).2.1)])),.p (.seq true 1 p.2.1.1 (fun i_3=>[.int .i64 (p.2.1.2 i_3)]))])⟩)] [0,1250] 1 (c+1) (fun i_1=>if (i_1<c) then [.p (.int .i64 (q i_1))] else [.p (.int .i64 (↑u:Int))]) (fun i_1=>[.p (.int .i64 (snI5 c q (↑u:Int) i_1))]))] [0,1,2,3,4,5,6,7,1,8,1,2,9,10,11,12,13,14,13,13,15,13,13,16,17,11,18,19,20,21,22,23,24,25,26,27,28,29,30,30,31,32,33,34,17,17,22,23,24,25,26,10,35,36]):=by kernel_rfl
theorem rhd (p:T_Pinned) (nb:Nat) (o:Nat→Int) (v c:Nat) (q:Nat→Int) (k i:Nat) (u:Nat) (b1 b2:Bool) :
    zM 0 [rg 4,.dec true,rg 9,.dec true,rm [(10,oc [] (.p (.int .i64 u)))] 1,rm [(2,oc [] (.p (.bool b1))),(5,oc [] (.p (.bool b2)))] 2,.dec false,rg 3,.head] zf27 (rhT p nb o v c q k i) [0,1] 1 (rhT p nb o v c q k (i+1)) =
    some (zf27,zD [((decide ((↑i:Int)<(↑(nb,o).1:Int)))=true),(IL 0 (↑i:Int)),(IT (↑i:Int) (↑nb:Int)),(IL 0 (↑k:Int)),(IT (↑k:Int) (↑c:Int)),(NT k c),(((nb,o).2 i==q k)=true),(NT 0 1),(IT (↑i:Int) (↑p.1.2.1.1:Int)),zE 324 [(zf114 p i),.p (.int .i64 ((nb,o).2 i))] [] (.p (.int .i64 (↑u:Int))),(AN 1),(NL c c),zE 172 [.p (.seq true 1 c (fun i_1=>[.int .i64 (q i_1)])),.p (.int .i64 (↑u:Int))] [] (.p (.bool b1)),(AG (!b1)),(((!b1)=true)→(NT 0 1)),(((!b1)=true)→ zE 172 [.p (.seq true 1 p.2.1.1 (fun i_1=>[.int .i64 (p.2.1.2 i_1)])),.p (.int .i64 (↑u:Int))] [] (.p (.bool b2))),((bif !b1 then !b2 else false)=false),(ZLo ((↑i:Int)+1)),(ZHi ((↑i:Int)+1)),(AI p.1.1),(AN p.1.2.1.1),(AP p.1.2.1.1 (fun i_1=>[.int .i64 ((p.1.2.1.2 i_1).1),.int .i64 ((p.1.2.1.2 i_1).2.1)])),(AN p.2.1.1),(AP p.2.1.1 (fun i_1=>[.int .i64 (p.2.1.2 i_1)])),(AN nb),(AP nb (fun i_1=>[.int .i64 ((nb,o).2 i_1)])),(AI ((↑v:Int))),(AN 0),(AN c),(AI ((↑k:Int))),((((↑i:Int)+1):Int)=(↑(i+1):Int)),(AN 3),(NL 1 1),(AA c (fun i_1=>[.p (.int .i64 (q i_1))]))] [0,1,2,3,4,5,6,7,1,8,1,2,9,10,11,12,13,14,13,13,15,13,13,16,17,18,19,20,21,22,23,24,25,26,27,27,28,29,30,31,32,32,19,20,21,22,23,10,11,33]):=by kernel_rfl
theorem rhe (p:T_Pinned) (nb:Nat) (o:Nat→Int) (v c:Nat) (q:Nat→Int) (k i:Nat) :
    zM 0 [rg 4,.dec false,rg 3,.head] zf27 (rhT p nb o v c q k i) [0,1] 1 (rhS p nb o v c q (k+1)) =
    some (zf86,zD [((decide ((↑i:Int)<(↑(nb,o).1:Int)))=false),(ZLo ((↑k:Int)+1)),(ZHi ((↑k:Int)+1)),(AI p.1.1),(AN p.1.2.1.1),(AP p.1.2.1.1 (fun i_1=>[.int .i64 ((p.1.2.1.2 i_1).1),.int .i64 ((p.1.2.1.2 i_1).2.1)])),(AN p.2.1.1),(AP p.2.1.1 (fun i_1=>[.int .i64 (p.2.1.2 i_1)])),(AN nb),(AP nb (fun i_1=>[.int .i64 ((nb,o).2 i_1)])),(AI ((↑v:Int))),(AN 0),(AN c),((((↑k:Int)+1):Int)=(↑(k+1):Int)),(AN 3),(NL 1 1),(AN 1),(NL c c),(AA c (fun i_1=>[.p (.int .i64 (q i_1))]))] [0,1,2,3,4,5,6,7,8,9,10,11,11,12,13,14,15,15,3,4,5,6,7,16,17,18]):=by kernel_rfl
theorem rhf (p:T_Pinned) (nb:Nat) (o:Nat→Int) (v c:Nat) (q:Nat→Int) (k:Nat) :
    zM 0 [rg 4,.dec false,rg 2,rg 1,.head] zf86 (rhS p nb o v c q k) [0,1,130] 1 (rhU p nb o v c q 0 z0 0) =
    some (zf48,zD [((decide ((↑k:Int)<(↑c:Int)))=false),(AI p.1.1),(AN p.1.2.1.1),(AP p.1.2.1.1 (fun i=>[.int .i64 ((p.1.2.1.2 i).1),.int .i64 ((p.1.2.1.2 i).2.1)])),(AN p.2.1.1),(AP p.2.1.1 (fun i=>[.int .i64 (p.2.1.2 i)])),(AN nb),(AP nb (fun i=>[.int .i64 ((nb,o).2 i)])),(AI ((↑v:Int))),(AN 0),(AN c),((0:Int)=(↑0:Int)),(AN 3),(NL 1 1),(AN 1),(NL c c),(AA c (fun i=>[.p (.int .i64 (q i))])),(NL 0 0),(∀ i:Nat,(((i:Nat)<0)→(All []∧(([.p (.int .i64 0)]:List AV)=[.p (.int .i64 (z0 i))]))))] [0,1,2,3,4,5,6,7,8,9,9,10,9,9,11,12,13,13,1,2,3,4,5,14,15,16,14,17,18]):=by kernel_rfl
theorem rhg (p:T_Pinned) (nb:Nat) (o:Nat→Int) (v c:Nat) (q:Nat→Int) (d:Nat) (f:Nat→Int) (u:Nat) :
    zM 0 [rg 5,.dec true,rm [(2,oc [] (.p (.bool true)))] 0,.dec true,rg 5,rg 3,.head] zf48 (rhU p nb o v c q d f u) [0,1,355] 1 (rhU p nb o v c q (d+1) (fun s=>if s<d then f s else u) (u+1)) =
    some (zf48,zD [(NT 0 1),((decide ((↑u:Int)<p.1.1))=true),(AN 1),(NL c c),zE 172 [.p (.seq true 1 c (fun i=>[.int .i64 (q i)])),.p (.int .i64 (↑u:Int))] [] (.p (.bool true)),(true=true),(NL 1 1),(NL d d),(NL ((d+1)*8) 140737488355328),(NL (d+1) 9223372036854775807),(ZLo ((↑u:Int)+1)),(ZHi ((↑u:Int)+1)),(AI p.1.1),(AN p.1.2.1.1),(AP p.1.2.1.1 (fun i=>[.int .i64 ((p.1.2.1.2 i).1),.int .i64 ((p.1.2.1.2 i).2.1)])),(AN p.2.1.1),(AP p.2.1.1 (fun i=>[.int .i64 (p.2.1.2 i)])),(AN nb),(AP nb (fun i=>[.int .i64 ((nb,o).2 i)])),(AI ((↑v:Int))),(AN 0),(AN c),(AN ((d+1))),((((↑u:Int)+1):Int)=(↑(u+1):Int)),(AN 3),(AA c (fun i=>[.p (.int .i64 (q i))])),(NL (d+1) (d+1)),(CV [(355,⟨false,1,(d+1),(fun i_1=>(if (i_1<d) then [.p (.int .i64 (f i_1))] else [.p (.int .i64 (↑u:Int))]))⟩),(323,⟨false,1,1,(fun i_1=>[.p (.int .i64 (↑u:Int))])⟩),(0,⟨true,3,1,(fun i_1=>[.p (.int .i64 p.1.1),.p (.seq true 2 p.1.2.1.1 (fun i_2=>[.int .i64 ((p.1.2.1.2 i_2).1),.int .i64 ((p.1.2.1.2 i_2).2.1)])),.p (.seq true 1 p.2.1.1 (fun i_2=>[.int .i64 (p.2.1.2 i_2)]))])⟩),(1,⟨false,1,c,(fun i_1=>[.p (.int .i64 (q i_1))])⟩)] [0,1,355] 1 (d+1) (fun i=>if (i<d) then [.p (.int .i64 (f i))] else [.p (.int .i64 (↑u:Int))]) (fun i=>[.p (.int .i64 (if i<d then f i else (↑u:Int)))]))] [0,1,2,3,4,5,6,7,8,9,10,11,12,13,14,15,16,17,18,19,20,20,21,20,22,23,24,6,6,12,13,14,15,16,2,3,25,2,26,27]):=by kernel_rfl
theorem rhh (p:T_Pinned) (nb:Nat) (o:Nat→Int) (v c:Nat) (q:Nat→Int) (d:Nat) (f:Nat→Int) (u:Nat) :
    zM 0 [rg 5,.dec true,rm [(2,oc [] (.p (.bool false)))] 0,.dec false,rg 3,.head] zf48 (rhU p nb o v c q d f u) [0,1,2] 1 (rhU p nb o v c q d f (u+1)) =
    some (zf48,zD [(NT 0 1),((decide ((↑u:Int)<p.1.1))=true),(AN 1),(NL c c),zE 172 [.p (.seq true 1 c (fun i=>[.int .i64 (q i)])),.p (.int .i64 (↑u:Int))] [] (.p (.bool false)),(false=false),(ZLo ((↑u:Int)+1)),(ZHi ((↑u:Int)+1)),(AI p.1.1),(AN p.1.2.1.1),(AP p.1.2.1.1 (fun i=>[.int .i64 ((p.1.2.1.2 i).1),.int .i64 ((p.1.2.1.2 i).2.1)])),(AN p.2.1.1),(AP p.2.1.1 (fun i=>[.int .i64 (p.2.1.2 i)])),(AN nb),(AP nb (fun i=>[.int .i64 ((nb,o).2 i)])),(AI ((↑v:Int))),(AN 0),(AN c),(AN d),((((↑u:Int)+1):Int)=(↑(u+1):Int)),(AN 3),(NL 1 1),(AA c (fun i=>[.p (.int .i64 (q i))])),(NL d d),(AA d (fun i=>[.p (.int .i64 (f i))]))] [0,1,2,3,4,5,6,7,8,9,10,11,12,13,14,15,16,16,17,16,18,19,20,21,21,8,9,10,11,12,2,3,22,2,23,24]):=by kernel_rfl
theorem rhi (p:T_Pinned) (nb:Nat) (o:Nat→Int) (v c:Nat) (q:Nat→Int) (d:Nat) (f:Nat→Int) (u:Nat) :
    zP Tryz.f246 0 [rg 5,.dec false,rg 2] zf48 (rhU p nb o v c q d f u) [2] 1 [(0,iOb d f)] (.ar 1 0 0 d) =
    some [(NT 0 1),((decide ((↑u:Int)<p.1.1))=false),(AN 0),(AN d),(AN 1),(NL d d),(AA d (fun i=>[.p (.int .i64 (f i))])),(AE d)]:=by kernel_rfl
theorem den (p:T_Pinned) (v n N:Nat) (D:BM) (b b2:Bool) :
    zS Tryz.f253 [rg 2,rg 2,rm [(1,oc [] (.tup [bbL false n N D,.p (.bool b)]))] 5,rm [(5,oc [] (.p (.bool b2)))] 2,.dec true,rg 2] [pinA p,.p (.int .i64 v)] [64] [(0,iOb 0 z0)] (.ar 1 0 0 0) =
    some [(NT 0 1),zE 329 [(zf31 p)] [] (.tup [.p (.seq false 1 n (fun i=>[.seq false 1 N (fun i_1=>[.bool (D i i_1)])])),.p (.bool b)]),(((!!b)=true)→(NT 0 1)),(AG (!!b)),(AG (!!b)),(((!!b)=true)→ zE 330 [(zf31 p),.p (.int .i64 (↑v:Int))] [] (.p (.bool b2))),(AG (!!b)),(((!b)=false)→ ((!!b)=true)),((bif !b then true else !b2)=true),(AN 0),(AN 0),(AN 1),(NL 0 0),(∀ i:Nat,(((i:Nat)<0)→(All []∧(([.p (.int .i64 0)]:List AV)=[.p (.int .i64 (z0 i))])))),(AE 0)]:=by kernel_rfl
theorem dez (p:T_Pinned) (v N:Nat) (D:BM) :
    zT Tryz.f253 [rg 2,rg 2,rm [(1,oc [] (.tup [bbL false N N D,.p (.bool true)]))] 5,rm [(5,oc [] (.p (.bool true)))] 2,.dec false,rg 6,.head] [pinA p,.p (.int .i64 v)] [64] (deS p N v (D v) 0 z0 0) =
    some (zf49,[(NT 0 1),zE 329 [(zf31 p)] [] (.tup [.p (.seq false 1 N (fun i=>[.seq false 1 N (fun i_1=>[.bool (D i i_1)])])),.p (.bool true)]),(((!!true)=true)→(NT 0 1)),(AG (!!true)),(AG (!!true)),(((!!true)=true)→ zE 330 [(zf31 p),.p (.int .i64 (↑v:Int))] [] (.p (.bool true))),(AG (!!true)),(((!true)=false)→ ((!!true)=true)),((bif !true then true else !true)=false),(IL 0 (↑v:Int)),(IT (↑v:Int) (↑N:Int)),(AI p.1.1),(AN p.1.2.1.1),(AP p.1.2.1.1 (fun i=>[.int .i64 ((p.1.2.1.2 i).1),.int .i64 ((p.1.2.1.2 i).2.1)])),(AN p.2.1.1),(AP p.2.1.1 (fun i=>[.int .i64 (p.2.1.2 i)])),(AI ((↑v:Int))),(AN 0),(AN 0),(AN N),(AP N (fun i=>[.bool (D v i)])),(AI ((↑N:Int))),((0:Int)=(↑0:Int)),(AN 1),(NL 0 0),(∀ i:Nat,(((i:Nat)<0)→(All []∧(([.p (.int .i64 0)]:List AV)=[.p (.int .i64 (z0 i))]))))]):=by kernel_rfl
theorem dea (p:T_Pinned) (v N:Nat) (D:Nat→Bool) (c:Nat) (f:Nat→Int) (u:Nat) :
    zM 0 [rg 1,.dec true,rg 5,rg 1,.dec true,rg 5,rg 2,.head] zf49 (deS p N v D c f u) [321] 1 (deS p N v D (c+1) (fun s=>if s<c then f s else u) (u+1)) =
    some (zf49,[((decide ((↑u:Int)<(↑N:Int)))=true),(IL 0 (↑u:Int)),(IT (↑u:Int) (↑N:Int)),((D u)=true),(NL 1 1),(NL c c),(NL ((c+1)*8) 140737488355328),(NL (c+1) 9223372036854775807),(ZLo ((↑u:Int)+1)),(ZHi ((↑u:Int)+1)),(AI p.1.1),(AN p.1.2.1.1),(AP p.1.2.1.1 (fun i=>[.int .i64 ((p.1.2.1.2 i).1),.int .i64 ((p.1.2.1.2 i).2.1)])),(AN p.2.1.1),(AP p.2.1.1 (fun i=>[.int .i64 (p.2.1.2 i)])),(AI ((↑v:Int))),(AN 0),(AN ((c+1))),(AN N),(AP N (fun i=>[.bool (D i)])),(AI ((↑N:Int))),((((↑u:Int)+1):Int)=(↑(u+1):Int)),(AN 1),(NL (c+1) (c+1)),(CV [(321,⟨false,1,(c+1),(fun i_1=>(if (i_1<c) then [.p (.int .i64 (f i_1))] else [.p (.int .i64 (↑u:Int))]))⟩),(289,⟨false,1,1,(fun i_1=>[.p (.int .i64 (↑u:Int))])⟩)] [321] 1 (c+1) (fun i=>if (i<c) then [.p (.int .i64 (f i))] else [.p (.int .i64 (↑u:Int))]) (fun i=>[.p (.int .i64 (if i<c then f i else (↑u:Int)))]))]):=by kernel_rfl
theorem deb (p:T_Pinned) (v N:Nat) (D:Nat→Bool) (c:Nat) (f:Nat→Int) (u:Nat) :
    zM 0 [rg 1,.dec true,rg 5,rg 1,.dec false,rg 2,.head] zf49 (deS p N v D c f u) [0] 1 (deS p N v D c f (u+1)) =
    some (zf49,[((decide ((↑u:Int)<(↑N:Int)))=true),(IL 0 (↑u:Int)),(IT (↑u:Int) (↑N:Int)),((D u)=false),(ZLo ((↑u:Int)+1)),(ZHi ((↑u:Int)+1)),(AI p.1.1),(AN p.1.2.1.1),(AP p.1.2.1.1 (fun i=>[.int .i64 ((p.1.2.1.2 i).1),.int .i64 ((p.1.2.1.2 i).2.1)])),(AN p.2.1.1),(AP p.2.1.1 (fun i=>[.int .i64 (p.2.1.2 i)])),(AI ((↑v:Int))),(AN 0),(AN c),(AN N),(AP N (fun i=>[.bool (D i)])),(AI ((↑N:Int))),((((↑u:Int)+1):Int)=(↑(u+1):Int)),(AN 1),(NL c c),(AA c (fun i=>[.p (.int .i64 (f i))]))]):=by kernel_rfl
theorem dee (p:T_Pinned) (v N:Nat) (D:Nat→Bool) (c:Nat) (f:Nat→Int) (u:Nat) :
    zP Tryz.f253 0 [rg 1,.dec false,rg 2] zf49 (deS p N v D c f u) [0] 1 [(0,iOb c f)] (.ar 1 0 0 c) =
    some [((decide ((↑u:Int)<(↑N:Int)))=false),(AN 0),(AN c),(AN 1),(NL c c),(AA c (fun i=>[.p (.int .i64 (f i))])),(AE c)]:=by kernel_rfl
theorem flt_rn (p:Nat→Bool):∀ n,∀ i,i<(flt p n).1→0≤(flt p n).2 i∧(flt p n).2 i<(n:Int)∧p ((flt p n).2 i).toNat=true∧∀ j,j<i→(flt p n).2 j<(flt p n).2 i
  | 0,i,h=>absurd h (Nat.not_lt_zero _)
  | n+1,i,h=>by
    have ih:=flt_rn p n
    cases hp:p n with
    | false =>
      rw [flt_f hp] at h ⊢
      obtain ⟨h1,h2,h3,h4⟩:=ih i h
      exact ⟨h1,by omega,h3,h4⟩
    | true =>
      rw [flt_t hp] at h ⊢
      simp only at h ⊢
      by_cases e:i<(flt p n).1
      · rw [if_pos e]
        obtain ⟨h1,h2,h3,h4⟩:=ih i e
        refine ⟨h1,by omega,h3,fun j hj=>?_⟩
        rw [if_pos (by omega)]
        exact h4 j hj
      · rw [if_neg e]
        refine ⟨by omega,by omega,by rw [show ((n:Nat):Int).toNat=n by omega];exact hp,fun j hj=>?_⟩
        rw [if_pos (by omega)]
        exact (ih j (by omega)).2.1
def DifL (N:Nat) (q:T_IntS):Prop:=∀ i,i<q.1→0≤q.2 i∧q.2 i<(N:Int)∧∀ j,j<i→q.2 j≠q.2 i
def hB (q:T_IntS) (v:Nat):Bool:=hasI q.2 (v:Int) q.1
def snL5 (q:T_IntS) (x:Int):T_IntS:=(q.1+1,snI5 q.1 q.2 x)
theorem hB_iff {q:T_IntS} {v:Nat}:hB q v=true↔∃ i,i<q.1∧q.2 i=(v:Int):=hasI_ex _ _ _
theorem hB_sn (q:T_IntS) (x v:Nat):hB (snL5 q x) v=(hB q v||decide (v=x)):=by
  unfold hB snL5
  simp only [hasI]
  rw [hasI_congr _ q.2 (v:Int) q.1 (fun i hi=>by unfold snI5;rw [if_pos hi])]
  congr 1
  unfold snI5
  rw [if_neg (Nat.lt_irrefl _),Bool.eq_iff_iff]
  simp only [beq_iff_eq,decide_eq_true_eq]
  omega
theorem hB_pre (n:Nat) (f:Nat→Int) (v:Nat):hB (n+1,f) v=(hB (n,f) v||decide ((v:Int)=f n)):=by
  unfold hB
  simp only [hasI]
  congr 1
  rw [Bool.eq_iff_iff]
  simp only [beq_iff_eq,decide_eq_true_eq]
  exact eq_comm
theorem flt_congr {p q:Nat→Bool}:∀ n,(∀ i,i<n→p i=q i)→flt p n=flt q n
  | 0,_=>rfl
  | n+1,h=>by
    have ih:=flt_congr n (fun i hi=>h i (by omega))
    cases hp:p n with
    | true=>rw [flt_t hp,flt_t (by rw [← h n (by omega)];exact hp),ih]
    | false=>rw [flt_f hp,flt_f (by rw [← h n (by omega)];exact hp),ih]
theorem flt_add {p:Nat→Bool} {x:Nat} (hp:p x=false):∀ N,x<N→(flt (fun t=>p t||decide (t=x)) N).1=(flt p N).1+1
  | 0,h=>absurd h (Nat.not_lt_zero _)
  | N+1,h=>by
    by_cases e:x=N
    · subst e
      rw [flt_t (p:=fun t=>p t||decide (t=x)) (by simp),flt_f hp]
      show (flt _ x).1+1=_
      rw [flt_congr (q:=p) x (fun i hi=>by rw [decide_eq_false (show ¬ i=x by omega),Bool.or_false])]
    · have ih:=flt_add hp N (by omega)
      have en:(p N||decide (N=x))=p N:=by rw [decide_eq_false (show ¬ N=x by omega),Bool.or_false]
      cases hq:p N with
      | true=>rw [flt_t (p:=fun t=>p t||decide (t=x)) (by rw [en,hq]),flt_t hq];show (flt _ N).1+1=(flt p N).1+1+1;rw [ih]
      | false=>rw [flt_f (p:=fun t=>p t||decide (t=x)) (by rw [en,hq]),flt_f hq];exact ih
theorem flt_none:∀ N,flt (fun _=>false) N=(0,z0)
  | 0=>rfl
  | N+1=>by rw [flt_f (p:=fun _=>false) rfl];exact flt_none N
theorem difL_n {N:Nat} (f:Nat→Int):∀ n,DifL N (n,f)→(flt (hB (n,f)) N).1=n
  | 0,_=>by
    rw [show flt (hB (0,f)) N=flt (fun _=>false) N from flt_congr N (fun _ _=>rfl),flt_none]
  | n+1,h=>by
    have ih:=difL_n f n (fun i hi=>h i (Nat.lt_succ_of_lt hi))
    have hn:=h n (Nat.lt_succ_self n)
    simp only at hn
    have hx:hB (n,f) (f n).toNat=false:=by
      cases hb:hB (n,f) (f n).toNat with
      | false=>rfl
      | true =>
        obtain ⟨j,h1,h2⟩:=hB_iff.1 hb
        exact absurd (show f j=f n by simp only at h2;omega) (hn.2.2 j h1)
    rw [flt_congr (q:=fun t=>hB (n,f) t||decide (t=(f n).toNat)) N (fun i _=>by
      rw [hB_pre]
      congr 1
      rw [decide_eq_decide];omega),flt_add hx N (by omega),ih]
theorem difL_le {N:Nat} {q:T_IntS} (h:DifL N q):q.1≤N:=by
  have h1:=difL_n q.2 q.1 h
  have h2:=flt_n (hB q) N
  have e:hB (q.1,q.2)=hB q:=rfl
  rw [e] at h1
  omega
theorem difL_sn {N:Nat} {q:T_IntS} (h:DifL N q) {x:Nat} (hx:x<N) (hn:hB q x=false):DifL N (snL5 q x):=fun i hi=>by
  show 0≤snI5 q.1 q.2 x i∧snI5 q.1 q.2 x i<(N:Int)∧∀ j,j<i→snI5 q.1 q.2 x j≠snI5 q.1 q.2 x i
  have hi:i<q.1+1:=hi
  unfold snI5
  by_cases e:i<q.1
  · rw [if_pos e]
    obtain ⟨h1,h2,h3⟩:=h i e
    refine ⟨h1,h2,fun j hj=>?_⟩
    rw [if_pos (by omega)]
    exact h3 j hj
  · rw [if_neg e]
    refine ⟨by omega,by omega,fun j hj=>?_⟩
    rw [if_pos (by omega)]
    intro he
    rw [hB_iff.2 ⟨j,by omega,he⟩] at hn
    cases hn
theorem difL_one {N i:Nat} (h:i<N):DifL N (1,fun _=>(i:Int)):=fun j hj=>by
  simp only at hj
  exact ⟨by simp only;omega,by simp only;omega,fun k hk=>by omega⟩
theorem flt_has5 (p:Nat→Bool) (e:Nat):∀ n,hasI (flt p n).2 (e:Int) (flt p n).1=(decide (e<n)&&p e)
  | 0=>by simp [flt,hasI]
  | n+1=>by
    have h:=flt_has5 p e n
    cases hp:p n with
    | true =>
      rw [flt_t hp]
      show (hasI (fun s=>if s<(flt p n).1 then (flt p n).2 s else (n:Int)) (e:Int) (flt p n).1||(if (flt p n).1<(flt p n).1 then (flt p n).2 (flt p n).1 else (n:Int))==(e:Int))=_
      rw [hasI_congr _ (flt p n).2 _ _ (fun i hi=>if_pos hi),h,if_neg (Nat.lt_irrefl _)]
      by_cases he:e=n
      · subst he;simp [hp]
      · have h1:((n:Int)==(e:Int))=false:=beq_eq_false_iff_ne.2 (by omega)
        rw [h1,Bool.or_false]
        by_cases h2:e<n
        · rw [decide_eq_true h2,decide_eq_true (show e<n+1 by omega)]
        · rw [decide_eq_false h2,decide_eq_false (show ¬ e<n+1 by omega)]
    | false =>
      rw [flt_f hp,h]
      by_cases he:e=n
      · subst he;simp [hp]
      · by_cases h2:e<n
        · rw [decide_eq_true h2,decide_eq_true (show e<n+1 by omega)]
        · rw [decide_eq_false h2,decide_eq_false (show ¬ e<n+1 by omega)]
structure RowOk (M:Nat→Nat→Bool) (n k j:Nat) (q r:T_IntS):Prop where
  dif:DifL n r
  le:q.1≤r.1
  old:∀ i,i<q.1→r.2 i=q.2 i
  up:∀ t,hB q t=true→hB r t=true
  near:∀ t,t<j→M (q.2 k).toNat t=true→hB r t=true
  inC:∀ C:Nat→Prop,(∀ u t,t<n→C u→M u t=true→C t)→(∀ t,hB q t=true→C t)→∀ t,hB r t=true→C t
structure EndOk (M:Nat→Nat→Bool) (n:Nat) (q Q:T_IntS):Prop where
  dif:DifL n Q
  up:∀ t,hB q t=true→hB Q t=true
  clo:∀ u t,t<n→hB Q u=true→M u t=true→hB Q t=true
  inC:∀ C:Nat→Prop,(∀ u t,t<n→C u→M u t=true→C t)→(∀ t,hB q t=true→C t)→∀ t,hB Q t=true→C t
def nzI (n:Nat) (f:Nat→Int) (s:Nat):Int:=if s<n then f s else 0
def nzL (q:T_IntS):T_IntS:=(q.1,nzI q.1 q.2)
abbrev RmL:=Nat×(Nat→T_IntS)
def oneQ (i:Nat):T_IntS:=(1,fun _=>(i:Int))
theorem flt_pre (p:Nat→Bool) (v:Nat):∀ d,(flt p v).1≤(flt p (v+d)).1∧∀ i,i<(flt p v).1→(flt p (v+d)).2 i=(flt p v).2 i
  | 0=>⟨Nat.le_refl _,fun _ _=>rfl⟩
  | d+1=>by
    have ih:=flt_pre p v d
    rw [← Nat.add_assoc]
    cases hb:p (v+d) with
    | false=>rw [flt_f hb];exact ih
    | true =>
      rw [flt_t hb]
      refine ⟨by show _≤(flt p (v+d)).1+1;omega,fun i hi=>?_⟩
      show (if i<(flt p (v+d)).1 then (flt p (v+d)).2 i else ((v+d:Nat):Int))=_
      rw [if_pos (by omega)]
      exact ih.2 i hi
theorem flt_at {p:Nat→Bool} {v N:Nat} (hb:p v=true) (hv:v<N):(flt p v).1<(flt p N).1∧(flt p N).2 (flt p v).1=v:=by
  have h:=flt_pre p (v+1) (N - (v+1))
  rw [show v+1+(N - (v+1))=N by omega] at h
  have e:=flt_t hb
  have e1:(flt p (v+1)).1=(flt p v).1+1:=by rw [e]
  refine ⟨by omega,?_⟩
  rw [h.2 _ (by omega),e]
  show (if (flt p v).1<(flt p v).1 then (flt p v).2 (flt p v).1 else (v:Int))=v
  rw [if_neg (Nat.lt_irrefl _)]
end Go.Proofs.YtkkjoghiigiokaaGreat.Mach
