/- What the law Tp needs, part 7 of 7: the abstract machine and the contracts of the functions. Conditions: as each theorem says. -/
import Derived.Test.YtbdgmpfdlgnkkaaGreatTpP6
set_option linter.unusedVariables false
set_option linter.unusedSimpArgs false
namespace Go.Proofs.YtbdgmpfdlgnkkaaGreat.Mach
open Go Go.Sort
def GL (n:Nat) (f:Nat→Int):St:=⟨[yE n f]++List.replicate 148 ag,[],0⟩
theorem J9 (n:Nat) (f:Nat→Int) :
    zS Tryz.f3 [rg 1,rm [(1,oc [] (jB true))] 0,.dec true,rg 1] [yE n f] [] [] (jB true) =
    some [zE 4 [.p (.seq true 1 n (fun i=>[.int .u8 (f i)]))] [] (jB true),(true=true),(true=true)]:=by kernel_rfl
theorem Oj (n:Nat) (f:Nat→Int) (v:ai) (x y z:cF) (a b c r:Bool) (m:Nat) (q:Nat→Int) :
    zT Tryz.f3 [rg 1,rm [(1,oc [] (jB false))] 0,.dec false,rm [(1,oc [(0,aj v.2.1.1 v.2.1.2)] (cV v.1 v.2.1.1 0))] 2,rm [(1,oc (sQ x) (.tup [BB x,jB a]))] 6,rm [(1,oc (sQ y) (.tup [BB y,jB b]))] 6,rm [(1,oc (sQ z) (.tup [BB z,jB c]))] 6,rm [(3,oc [] (jB true)),(6,oc [] (jB true)),(7,oc [] (jB true))] 3,.dec false,rm [(1,oc [] (jB r))] 1,rm [(2,oc [] (jB r)),(3,oc [] (jB true)),(15,gT),(0,gT),(0,⟨true,(some ⟨[],[],[],1,[(0,aY m q)],.ar 1 0 0 m⟩),some true⟩),(0,gT),(0,gT),(0,gT)] 3,.dec false,.head] [yE n f] [] (GL n f) =
    some (wb,zD (let B:Bool:=bif a then !true else false;let A:Bool:=bif B then true else bif b then !true else false;let C:Bool:=(!A)&&c;let D:Bool:=(!B)&&b;let E:Bool:=!!r==r&&true&&!b==r;let F:Bool:=decide (v.1>1);let G:Bool:=!!r==r&&true;let H:Bool:=!!r==r&&true&&!b==r&&F;[zE 4 [.p (.seq true 1 n (fun i=>[.int .u8 (f i)]))] [] (jB false),(false=false),zE 5 [.p (.seq true 1 n (fun i=>[.int .u8 (f i)]))] (wB v) (.agg [jI v.1,.ar 2 0 0 v.2.1.1]),(NT 0 1),((true=true)→(AN 1)),(AN 2),(NL v.2.1.1 v.2.1.1),zE 6 [jI 1,(br v)] (EZ x) ((Eg x a)),zE 6 [jI 2,(br v)] (EZ y) ((Eg y b)),zE 6 [jI 3,(br v)] (EZ z) ((Eg z c)),((a=true)→(NT 0 1)),(AG a),((a=true)→(AN 2)),((a=true)→(NL x.2.1.2.1.1 x.2.1.2.1.1)),((a=true)→(NL x.2.2.1.1.1.2.1.1 x.2.2.1.1.1.2.1.1)),((a=true)→(NL x.2.2.1.1.2.1.1 x.2.2.1.1.2.1.1)),((a=true)→(AN 1)),((a=true)→(NL x.2.2.1.2.1.1 x.2.2.1.2.1.1)),((a=true)→(AN 5)),((a=true)→(NL x.2.2.2.1.1 x.2.2.2.1.1)),((a=true)→(NL x.2.2.2.2.1.1 x.2.2.2.2.1.1)),((a=true)→zE 7 [(Fa x)] [] (jB true)),(AG (!B)),((D=true)→(NT 0 1)),(AG D),((D=true)→(AN 2)),((D=true)→(NL y.2.1.2.1.1 y.2.1.2.1.1)),((D=true)→(NL y.2.2.1.1.1.2.1.1 y.2.2.1.1.1.2.1.1)),((D=true)→(NL y.2.2.1.1.2.1.1 y.2.2.1.1.2.1.1)),((D=true)→(AN 1)),((D=true)→(NL y.2.2.1.2.1.1 y.2.2.1.2.1.1)),((D=true)→(AN 5)),((D=true)→(NL y.2.2.2.1.1 y.2.2.2.1.1)),((D=true)→(NL y.2.2.2.2.1.1 y.2.2.2.2.1.1)),((D=true)→zE 7 [(Fa y)] [] (jB true)),(((!B)=true)→((b=true)→(D=true))),((B=false)→((!B)=true)),(AG (!A)),((C=true)→(NT 0 1)),(AG C),((C=true)→(AN 2)),((C=true)→(NL z.2.1.2.1.1 z.2.1.2.1.1)),((C=true)→(NL z.2.2.1.1.1.2.1.1 z.2.2.1.1.1.2.1.1)),((C=true)→(NL z.2.2.1.1.2.1.1 z.2.2.1.1.2.1.1)),((C=true)→(AN 1)),((C=true)→(NL z.2.2.1.2.1.1 z.2.2.1.2.1.1)),((C=true)→(AN 5)),((C=true)→(NL z.2.2.2.1.1 z.2.2.2.1.1)),((C=true)→(NL z.2.2.2.2.1.1 z.2.2.2.2.1.1)),((C=true)→zE 7 [(Fa z)] [] (jB true)),(((!A)=true)→((c=true)→(C=true))),((A=false)→((!A)=true)),((bif A then true else bif c then !true else false)=false),zE 8 [(br v)] [] (jB r),zE 9 [(br v)] [] (jB r),(((!!r==r)=true)→(NT 0 1)),(AG (!!r==r)),(((!!r==r)=true)→(AN 2)),(((!!r==r)=true)→(NL v.2.1.1 v.2.1.1)),(((!!r==r)=true)→zE 10 [(br v)] [] (jB true)),(AG G),(AG E),((E=true)→(NT 0 1)),(AG H),((E=true)→((F=true)→(H=true))),((G=true)→(((b==r)=false)→(E=true))),((!!r==r&&true&&!bif b==r then true else bif F then !a==r else false)=true),zE 11 [(br v),jI 2,jI 3] [(0,⟨false,1,m,(fun i=>[.p (.int .i64 (q i))])⟩)] (.ar 1 0 0 m),(((!!r==r)=true)→((true=true)→(G=true))),(((!r==r)=false)→((!!r==r)=true)),((bif !r==r then true else bif true then bif bif b==r then true else bif F then !a==r else false then true else !c==decide ((m:Int)>0) else false)=false),(AN n),(AP n (fun i=>[.int .u8 (f i)]))]) [0,1,2,3,4,3,5,6,7,3,4,3,5,6,8,3,4,3,5,6,9,3,4,10,11,12,13,12,14,12,15,16,17,18,19,16,20,21,11,11,22,23,24,25,26,25,27,25,28,29,30,31,32,29,33,34,24,22,35,36,37,38,39,40,41,40,42,40,43,44,45,46,47,44,48,49,39,37,50,51,52,3,5,6,53,3,5,6,54,55,56,57,58,59,56,60,60,60,61,62,61,61,63,63,61,64,60,65,60,66,66,3,66,5,6,67,66,66,66,60,56,68,69,70,71,72]):=by kernel_rfl
theorem L0 (n:Nat) (f:Nat→Int) (v:ai) (x y z:cF) (r:Bool) :
    zT Tryz.f3 [rg 1,rm [(1,oc [] (jB false))] 0,.dec false,rm [(1,oc [(0,aj v.2.1.1 v.2.1.2)] (cV v.1 v.2.1.1 0))] 2,rm [(1,oc (sQ x) (.tup [BB x,jB false]))] 6,rm [(1,oc (sQ y) (.tup [BB y,jB false]))] 6,rm [(1,oc (sQ z) (.tup [BB z,jB false]))] 6,rm [(3,oc [] (jB true)),(6,oc [] (jB true)),(7,oc [] (jB true))] 3,.dec false,rm [(1,oc [] (jB r))] 1,rm [(2,oc [] (jB r)),(3,oc [] (jB false)),(17,oc [] (.p (.seq false 1 0 (fun _=>[.int .i64 0]))))] 6,.dec false,.head] [yE n f] [] (GL n f) =
    some (wb,zD (let A:Bool:=bif false then !true else false;let D:Bool:=(!A)&&false;let E:Bool:=bif A then true else A;let C:Bool:=(!E)&&false;let G:Bool:=!!r==r&&false&&!false==r;let I:Bool:=!!r==r&&false;let J:Bool:=decide (v.1>1);let B:Bool:=bif false==r then true else bif J then !false==r else false;let F:Bool:=!!r==r&&false&&!B;let H:Bool:=!!r==r&&false&&!false==r&&J;[zE 4 [.p (.seq true 1 n (fun i=>[.int .u8 (f i)]))] [] (jB false),(false=false),zE 5 [.p (.seq true 1 n (fun i=>[.int .u8 (f i)]))] (wB v) (.agg [jI v.1,.ar 2 0 0 v.2.1.1]),(NT 0 1),((true=true)→(AN 1)),(AN 2),(NL v.2.1.1 v.2.1.1),zE 6 [jI 1,(br v)] (EZ x) ((Dn x)),zE 6 [jI 2,(br v)] (EZ y) ((Dn y)),zE 6 [jI 3,(br v)] (EZ z) ((Dn z)),((false=true)→(NT 0 1)),(AG false),((false=true)→(AN 2)),((false=true)→(NL x.2.1.2.1.1 x.2.1.2.1.1)),((false=true)→(NL x.2.2.1.1.1.2.1.1 x.2.2.1.1.1.2.1.1)),((false=true)→(NL x.2.2.1.1.2.1.1 x.2.2.1.1.2.1.1)),((false=true)→(AN 1)),((false=true)→(NL x.2.2.1.2.1.1 x.2.2.1.2.1.1)),((false=true)→(AN 5)),((false=true)→(NL x.2.2.2.1.1 x.2.2.2.1.1)),((false=true)→(NL x.2.2.2.2.1.1 x.2.2.2.2.1.1)),((false=true)→zE 7 [(Fa x)] [] (jB true)),(AG (!A)),((D=true)→(NT 0 1)),(AG D),((D=true)→(AN 2)),((D=true)→(NL y.2.1.2.1.1 y.2.1.2.1.1)),((D=true)→(NL y.2.2.1.1.1.2.1.1 y.2.2.1.1.1.2.1.1)),((D=true)→(NL y.2.2.1.1.2.1.1 y.2.2.1.1.2.1.1)),((D=true)→(AN 1)),((D=true)→(NL y.2.2.1.2.1.1 y.2.2.1.2.1.1)),((D=true)→(AN 5)),((D=true)→(NL y.2.2.2.1.1 y.2.2.2.1.1)),((D=true)→(NL y.2.2.2.2.1.1 y.2.2.2.2.1.1)),((D=true)→zE 7 [(Fa y)] [] (jB true)),(((!A)=true)→((false=true)→(D=true))),((A=false)→((!A)=true)),(AG (!E)),((C=true)→(NT 0 1)),(AG C),((C=true)→(AN 2)),((C=true)→(NL z.2.1.2.1.1 z.2.1.2.1.1)),((C=true)→(NL z.2.2.1.1.1.2.1.1 z.2.2.1.1.1.2.1.1)),((C=true)→(NL z.2.2.1.1.2.1.1 z.2.2.1.1.2.1.1)),((C=true)→(AN 1)),((C=true)→(NL z.2.2.1.2.1.1 z.2.2.1.2.1.1)),((C=true)→(AN 5)),((C=true)→(NL z.2.2.2.1.1 z.2.2.2.1.1)),((C=true)→(NL z.2.2.2.2.1.1 z.2.2.2.2.1.1)),((C=true)→zE 7 [(Fa z)] [] (jB true)),(((!E)=true)→((false=true)→(C=true))),((E=false)→((!E)=true)),((bif E then true else A)=false),zE 8 [(br v)] [] (jB r),zE 9 [(br v)] [] (jB r),(((!!r==r)=true)→(NT 0 1)),(AG (!!r==r)),(((!!r==r)=true)→(AN 2)),(((!!r==r)=true)→(NL v.2.1.1 v.2.1.1)),(((!!r==r)=true)→zE 10 [(br v)] [] (jB false)),(AG I),(AG G),((G=true)→(NT 0 1)),(AG H),((G=true)→((J=true)→(H=true))),((I=true)→(((false==r)=false)→(G=true))),((F=true)→(NT 0 1)),(AG F),((F=true)→(AN 2)),((F=true)→(NL v.2.1.1 v.2.1.1)),((F=true)→zE 11 [(br v),jI 2,jI 3] [] (.p (.seq false 1 0 (fun i=>[.int .i64 0])))),((I=true)→((B=false)→(F=true))),(((!!r==r)=true)→((false=true)→(I=true))),(((!r==r)=false)→((!!r==r)=true)),((bif !r==r then true else bif false then bif B then true else !false==decide ((↑0:Int)>0) else false)=false),(AN n),(AP n (fun i=>[.int .u8 (f i)]))]) [0,1,2,3,4,3,5,6,7,3,4,3,5,6,8,3,4,3,5,6,9,3,4,10,11,12,13,12,14,12,15,16,17,18,19,16,20,21,11,11,22,23,24,25,26,25,27,25,28,29,30,31,32,29,33,34,24,22,35,36,37,38,39,40,41,40,42,40,43,44,45,46,47,44,48,49,39,37,50,51,52,3,5,6,53,3,5,6,54,55,56,57,58,59,56,60,60,60,61,62,61,61,63,63,61,64,60,65,60,66,67,68,69,70,67,67,67,67,60,71,56,72,73,74,75,76]):=by kernel_rfl
theorem Li (n:Nat) (f:Nat→Int) (N:Int) (m:Nat) (R:Nat→aa) (q o p:Nat) (pl:Nat→ae) (k:Int) :
    zP Tryz.f3 0 [rm [(1,oc [(0,aj m R),(1,cU q pl)] (By N m o p 0 1))] 2,rm [(1,oc [] (jB false))] 1,.dec true,rm [(1,oc [] (jI k))] 2] wb (GL n f) [] 1 [] (jB (k == -1)) =
    some (zD [zE 12 [.p (.seq true 1 n (fun i=>[.int .u8 (f i)]))] [(0,⟨false,2,m,(fun i=>[.p (.int .i64 ((R i).1)),.p (.int .i64 ((R i).2.1))])⟩),(1,⟨false,2,q,(fun i=>[.p (.int .i64 ((pl i).1)),.p (.int .i64 ((pl i).2.1))])⟩)] (.agg [jI N,.ar 2 0 0 m,.ar 2 1 o p]),(NT 0 1),((true=true)→(AN 1)),(AN 2),(NL m m),(NL (p+o) q),zE 13 [(nR N m R p pl o)] [] (jB false),((!false)=true),zE 14 [(nR N m R p pl o)] [] (jI k),((k == -1)=(k == -1))] [0,1,2,1,3,4,3,5,6,7,1,3,4,3,5,8,9]):=by kernel_rfl
theorem Ls (n:Nat) (f:Nat→Int) (N:Int) (m:Nat) (R:Nat→aa) (q o p:Nat) (pl:Nat→ae) (r k s:Int) (b c:Bool) (w:ad) (l d e:Bool) :
    zP Tryz.f3 0 [rm [(1,oc [(0,aj m R),(1,cU q pl)] (By N m o p 0 1))] 2,rm [(1,oc [] (jB true))] 1,.dec false,rm [(1,oc [] (jI r))] 1,rm [(3,oc [] (jI k)),(4,oc [] (jI s)),(9,oc [] (jB b)),(3,oc [] (jB c))] 3,.dec false,rm [(1,oc [(0,aY w.1 w.2)] (.tup [.ar 1 0 0 w.1,jB l]))] 5,rm [(2,oc [] (jB b)),(7,oc [] (jB d)),(3,oc [] (jB e))] 5] wb (GL n f) [] 1 [] (jB (bif !l==b then bif !l then true else bif d then !e else false else false)) =
    some (zD (let B:Bool:=decide (r>k);let A:Bool:=bif B then true else r+s != (m:Int);let C:Bool:=!l==b&&!!l&&d;let D:Bool:=!l==b&&!!l;let E:Bool:=(!A)&&b;[zE 12 [.p (.seq true 1 n (fun i=>[.int .u8 (f i)]))] [(0,⟨false,2,m,(fun i=>[.p (.int .i64 ((R i).1)),.p (.int .i64 ((R i).2.1))])⟩),(1,⟨false,2,q,(fun i=>[.p (.int .i64 ((pl i).1)),.p (.int .i64 ((pl i).2.1))])⟩)] (.agg [jI N,.ar 2 0 0 m,.ar 2 1 o p]),(NT 0 1),((true=true)→(AN 1)),(AN 2),(NL m m),(NL (p+o) q),zE 13 [(nR N m R p pl o)] [] (jB true),((!true)=false),zE 14 [(nR N m R p pl o)] [] (jI r),zE 15 [(cq N m R),jI 2,jI 3] [] (jI k),(((!B)=true)→(NT 0 1)),(AG (!B)),(((!B)=true)→(AN 2)),(((!B)=true)→(NL m m)),(((!B)=true)→(NL (p+o) q)),(((!B)=true)→zE 16 [(nR N m R p pl o)] [] (jI s)),(((!B)=true)→(ax (r+s))),(((!B)=true)→(au (r+s))),((B=false)→((!B)=true)),(((!A)=true)→(NT 0 1)),(AG (!A)),(((!A)=true)→(AN 2)),(((!A)=true)→(NL m m)),(((!A)=true)→(NL (p+o) q)),(((!A)=true)→zE 17 [(nR N m R p pl o)] [] (jB b)),(AG E),((E=true)→(NT 0 1)),((E=true)→(AN 2)),((E=true)→(NL m m)),((E=true)→zE 9 [(cq N m R)] [] (jB c)),(((!A)=true)→((b=true)→(E=true))),((A=false)→((!A)=true)),((bif A then true else bif b then !c else false)=false),zE 18 [(nR N m R p pl o)] [(0,⟨false,1,w.1,(fun i=>[.p (.int .i64 (w.2 i))])⟩)] (.tup [.ar 1 0 0 w.1,jB l]),zE 17 [(nR N m R p pl o)] [] (jB b),(AG (!l==b)),((D=true)→(NT 0 1)),(AG D),((D=true)→(AN 2)),((D=true)→(NL m m)),((D=true)→(NL (p+o) q)),((D=true)→(AN 1)),((D=true)→(NL w.1 w.1)),((D=true)→zE 19 [(nR N m R p pl o),.p (.seq true 1 w.1 (c8 w))] [] (jB d)),((C=true)→(NT 0 1)),(AG C),((C=true)→(AN 2)),((C=true)→(NL m m)),((C=true)→(NL (p+o) q)),((C=true)→(AN 1)),((C=true)→(NL w.1 w.1)),((C=true)→zE 20 [(nR N m R p pl o),.p (.seq true 1 w.1 (c8 w))] [] (jB e)),((D=true)→((d=true)→(C=true))),(((!l==b)=true)→(((!l)=false)→(D=true))),((bif !l==b then bif !l then true else bif d then !e else false else false)=(bif !l==b then bif !l then true else bif d then !e else false else false))]) [0,1,2,1,3,4,3,5,6,7,1,3,4,3,5,8,1,3,4,9,10,11,12,13,12,14,15,11,11,16,17,11,11,10,11,11,11,18,19,20,21,22,21,23,24,20,25,26,25,27,28,29,25,20,30,31,32,1,3,4,3,5,33,1,3,4,3,5,34,35,35,36,37,37,38,39,38,40,41,42,43,37,44,45,45,46,47,46,48,49,50,51,45,37,52,35,53,35,54]):=by kernel_rfl
noncomputable abbrev Nx:List Item:=[.code (ao (ab Tryz.f3) [1,1,1,1,1,1,1,1,1,0]),.code (ao (ab Tryz.f3) [1,1,1,1,1,1,1,1,1,1])]
theorem qu {A B:Bool} (h:(A&&B)=true):B=true:=by
  rw [Bool.and_eq_true] at h
  exact h.2
theorem AS {K:Int} {N nb:Nat} {g:Nat→aa} (hK:K=1∨K=2∨K=3) (h:(gG K N nb g).2=true):(gG K N nb g).1.1=K:=by
  rcases hK with e | e | e
  · subst e
    unfold gG at h ⊢
    rw [if_pos rfl] at h ⊢
    unfold BA at h ⊢
    split at h
    · rename_i h1;rw [if_pos h1];rfl
    · cases h
  · subst e
    unfold gG at h ⊢
    rw [if_neg (by decide),if_pos rfl] at h ⊢
    split at h
    · cases h
    · rename_i h1;rw [if_neg h1];rfl
  · subst e
    unfold gG at h ⊢
    rw [if_neg (by decide),if_neg (by decide),if_pos rfl] at h ⊢
    unfold BG at h ⊢
    split at h
    · rename_i h1;rw [if_pos h1];rfl
    · cases h
theorem yJ {x:cF} (hK:x.1=1∨x.1=2∨x.1=3) (hs:cP dL x) (hc:DU x=true) :
    zE 7 [wX x.1 x.2.1.2.1.2 x.2.1.2.1.1 x.2.1.1 x.2.2.1.1.1.2.1.2 x.2.2.1.1.1.2.1.1 x.2.2.1.1.1.1 x.2.2.1.1.2.1.2 x.2.2.1.1.2.1.1 x.2.2.1.2.1 x.2.2.2.1 x.2.2.2.2.1] [] (.p (.bool true)):=by
  obtain ⟨h1,h2,h3,h4,h5⟩:=Ds hs
  rcases hK with e | e | e
  · have:=wU x.1 x.2.1.2.1.2 x.2.1.2.1.1 x.2.1.1 x.2.2.1.1.1.2.1.2 x.2.2.1.1.1.2.1.1 x.2.2.1.1.1.1 x.2.2.1.1.2.1.2 x.2.2.1.1.2.1.1 x.2.2.1.2.1 x.2.2.2.1 x.2.2.2.2.1 e h1 h4
    rwa [show Bf x.2.1.2.1.2 x.2.1.2.1.1 x.2.1.1 x.2.2.2.1=true by unfold DU BF at hc;rwa [if_pos e] at hc] at this
  · have:=xz x.1 x.2.1.2.1.2 x.2.1.2.1.1 x.2.1.1 x.2.2.1.1.1.2.1.2 x.2.2.1.1.1.2.1.1 x.2.2.1.1.1.1 x.2.2.1.1.2.1.2 x.2.2.1.1.2.1.1 x.2.2.1.2.1 x.2.2.2.1 x.2.2.2.2.1 e h1 h5
    rwa [show zd x.2.1.2.1.2 x.2.1.2.1.1 x.2.1.1 x.2.2.2.2.1=true by unfold DU BF at hc;rwa [if_neg (by omega),if_neg (by omega),if_pos e] at hc] at this
  · have:=yu x.1 x.2.1.2.1.2 x.2.1.2.1.1 x.2.1.1 x.2.2.1.1.1.2.1.2 x.2.2.1.1.1.2.1.1 x.2.2.1.1.1.1 x.2.2.1.1.2.1.2 x.2.2.1.1.2.1.1 x.2.2.1.2.1 x.2.2.2.1 x.2.2.2.2.1 e h1 h5
    rwa [show rC x.2.1.2.1.2 x.2.1.2.1.1 x.2.1.1 x.2.2.2.2.1=true by unfold DU BF at hc;rwa [if_neg (by omega),if_neg (by omega),if_neg (by omega),if_pos e] at hc] at this
set_option maxRecDepth 20000 in
set_option maxHeartbeats 1000000 in
theorem Bn {n:Nat} {f:Nat→Int} {c:Cx} (hc:c.n=0) {N:Int} {m:Nat} {R:Nat→aa} {q o p:Nat} {pl:Nat→ae} (hm:m≤25) (hp:p≤8) (hq:o+p≤q)
    (cf:zE 12 [yE n f] [(0,aj m R),(1,cU q pl)] (By N m o p 0 1)):zR c 3 Nx (GL n f) (aS c [] (.p (.bool true))):=by
  have f1:=jP R m N (fun i=>pl (i+o)) p (by omega)
  have f2:=fO R m N (fun i=>pl (i+o)) p (by omega)
  cases hf:gf R m N (fun i=>pl (i+o)) p with
  | false =>
    rw [hf] at f1
    have hk:vF R m N (fun i=>pl (i+o)) p = -1:=by unfold vF;rw [hf];rfl
    rw [hk] at f2
    refine bz Tryz.func3 hc (Li n f N m R q o p pl (-1)) ?_
    and_intros
    all_goals (first | exact zI | (exact cf) | (exact f1) | (exact f2) | (intros;simp [af];done) | (simp;done) | (simp;omega))
  | true =>
    rw [hf] at f1
    obtain ⟨M,rfl⟩:=xO hf
    obtain ⟨hg,h2,h3,h4,hok,hb⟩:=e9 hf
    have hk:vF R m (M:Int) (fun i=>pl (i+o)) p=(DB R m M (fun i=>pl (i+o)):Int):=by unfold vF;rw [if_pos hf];rfl
    have f3:=jR hg 2 3 (by omega) (by omega)
    have f4:=nY R m (M:Int) (fun i=>pl (i+o)) p (by omega)
    have hct:G4 R m (M:Int) (fun i=>pl (i+o)) p=(m:Int) - (DB R m M (fun i=>pl (i+o)):Int):=by unfold G4;rw [if_pos hf,hk]
    have f5:=pL R m (M:Int) (fun i=>pl (i+o)) p (by omega)
    have f6:=iK ((M:Int),(m,R),()) (c9 (by show m≤_;omega))
    have f7:=ls hf
    obtain ⟨l1,l2⟩:=zn hf
    have hrk:=wa hf
    have hsr:=sB hf
    rw [hk] at f2
    rw [hct] at f4
    have hw:(qw R m M (fun i=>pl (i+o)) p).1.1≤2*M:=by
      obtain ⟨a1,a2⟩:=yT (g:=R) (nb:=m) (N:=M) (pl:=fun i=>pl (i+o)) (np:=p) (W:=(kM R m M (fun i=>pl (i+o))).2) (kM R m M (fun i=>pl (i+o))).1 0
      have hle:∀ d i,(zF R m M (fun i=>pl (i+o)) p (kM R m M (fun i=>pl (i+o))).2 d i).1.1≤2*M:=by
        intro d
        induction d with
        | zero=>intro i;exact Nat.zero_le _
        | succ d ih =>
          intro i
          rw [zF]
          split
          · exact ih (i+1)
          · exact Nat.le_refl _
      exact hle _ _
    have f9:=iQ R m (M:Int) (fun i=>pl (i+o)) p (qw R m M (fun i=>pl (i+o)) p).1 (by omega) (by omega)
    have f8:(qw R m M (fun i=>pl (i+o)) p).2=true→zE 19 [fU R m (M:Int) (fun i=>pl (i+o)) p,eI (qw R m M (fun i=>pl (i+o)) p).1] [] (.p (.bool true)):=fun h=>by
      obtain ⟨a1,a2,a3⟩:=l2 h
      exact pM (JR a1) a3
    have f9':(qw R m M (fun i=>pl (i+o)) p).2=true→qF R m (M:Int) (fun i=>pl (i+o)) p (qw R m M (fun i=>pl (i+o)) p).1=false:=fun h=>(l2 h).2.1
    generalize qw R m M (fun i=>pl (i+o)) p=W at *
    generalize qF R m (M:Int) (fun i=>pl (i+o)) p W.1=e at *
    generalize (yF R m (M:Int) (fun i=>pl (i+o)) p==0)=b at *
    generalize DB R m M (fun i=>pl (i+o))=rk at *
    generalize (aK M 2 3 R m).length=ac at *
    generalize (bA ((M:Int),(m,R),())==0)=fr at *
    have d1:(bif bif decide ((rk:Int)>(ac:Int)) then true else (rk:Int)+((m:Int) - (rk:Int)) != (m:Int) then true else bif b then !fr else false)=false:=by
      rw [decide_eq_false (show ¬ (rk:Int)>(ac:Int) by omega),show (rk:Int)+((m:Int) - (rk:Int))=(m:Int) by omega]
      cases b with
      | false=>simp
      | true=>rw [hsr rfl];simp
    have d2:(bif !W.2==b then bif !W.2 then true else bif true then !e else false else false)=true:=by
      rw [l1]
      cases b with
      | true=>rfl
      | false =>
        rw [f9' (by rw [l1];rfl)];rfl
    rw [show (AV.p (.bool true))=.p (.bool (bif !W.2==b then bif !W.2 then true else bif true then !e else false else false)) by rw [d2]]
    refine bz Tryz.func3 hc (Ls n f (M:Int) m R q o p pl (rk:Int) (ac:Int) ((m:Int) - (rk:Int)) b fr W.1 W.2 true e) ?_
    and_intros
    all_goals (first | exact zH | (exact cf) | (exact f1) | (exact f2) | (exact f3) | (intros;exact f4) | (intros;exact f5) | (exact f5) | (intros;exact f6) | (exact f7) | (intro h;exact f8 (by simpa using h)) | (intro h;exact f8 (by simpa using (qu h))) | (intros;exact f9) | (exact d1) | (exact d2) | (intros;omega) | (intros;simp [af];done) | (simp;done) | (simp;omega))
set_option maxRecDepth 20000 in
set_option maxHeartbeats 1000000 in
theorem nU (v0:Nat×(Nat→Int)) (k0:uk (.sl (.int .u8)) v0):zE 3 [yE v0.1 v0.2] [] (.p (.bool true)):=by
  obtain ⟨n,f⟩:=v0
  have hbig:=Ci n f
  refine aW Tryz.func3 (fun c hc=>?_)
  by_cases hn:n≤1048576
  · have hd:decide ((n:Int)>1048576)=false:=decide_eq_false (by omega)
    rw [hd] at hbig
    have hcd:ff n f:=⟨hn,fun i hi=>by have:=k0.2 i hi;simpa [uk,lv,jF] using this⟩
    obtain ⟨v,hv,cv⟩:=sz n f hcd
    obtain ⟨N,m,R,q,o,p,pl,hm,hp,hq,cf⟩:=uW n f hcd
    have sv:cP a6 v:=c9 (by omega)
    have k1:=fM 1 v sv
    have k2:=fM 2 v sv
    have k3:=fM 3 v sv
    have s1:=vn 1 sv
    have s2:=vn 2 sv
    have s3:=vn 3 sv
    have r1:=eQ v sv
    have r2:=iK v sv
    have g1:=bH v sv
    have fin:=Bn (f:=f) hc hm hp hq cf
    cases hg:ah v with
    | false =>
      rw [hg] at g1
      have z1:∀ K,xU K v=(iI,false):=fun K=>by unfold xU;rw [hg];rfl
      rw [z1] at k1 k2 k3
      refine a9 hc (L0 n f v iI iI iI (bA v==0)) ?_ fin
      and_intros
      all_goals (first | exact zH | (exact hbig) | (exact cv) | (exact k1) | (exact k2) | (exact k3) | (exact r1) | (exact r2) | (intros;exact g1) | (intro h;simp at h;done) | (intros;simp [af];done) | (simp;done) | (intros;simp_all;done))
    | true =>
      rw [hg] at g1
      obtain ⟨M,nb,g,rfl⟩:=bM v hg
      have z1:∀ K,xU K ((M:Int),(nb,g),())=gG K M nb g:=fun K=>by unfold xU;rw [hg];rfl
      rw [z1] at k1 k2 k3 s1 s2 s3
      obtain ⟨a1,a2⟩:=sA hg
      obtain ⟨b1,b2⟩:=uC hg
      obtain ⟨c1,c2⟩:=ur hg
      have rj:=mD hg 2 3 (by omega) (by omega)
      have q1:(gG 1 M nb g).2=true→_:=fun h=>yJ (x:=(gG 1 M nb g).1) (.inl (AS (.inl rfl) h)) s1 (a1 h)
      have q2:(gG 2 M nb g).2=true→_:=fun h=>yJ (x:=(gG 2 M nb g).1) (.inr (.inl (AS (.inr (.inl rfl)) h))) s2 (b1 h)
      have q3:(gG 3 M nb g).2=true→_:=fun h=>yJ (x:=(gG 3 M nb g).1) (.inr (.inr (AS (.inr (.inr rfl)) h))) s3 (c1 h)
      generalize (bK (sZ M 2 3 g nb) nb).1=mr at rj c2
      generalize (bK (sZ M 2 3 g nb) nb).2=qr at rj
      generalize gG 1 M nb g=X at *
      generalize gG 2 M nb g=Y at *
      generalize gG 3 M nb g=Z at *
      generalize (bA ((M:Int),(nb,g),())==0)=fr at *
      have d1:(bif bif bif X.2 then !true else false then true else bif Y.2 then !true else false then true else bif Z.2 then !true else false)=false:=by
        cases X.2<;>cases Y.2<;>cases Z.2<;>rfl
      have d2:(bif !fr==fr then true else bif true then bif bif Y.2==fr then true else bif decide ((M:Int)>1) then !X.2==fr else false then true else !Z.2==decide ((mr:Int)>0) else false)=false:=by
        rw [b2,c2]
        by_cases hM:1<M
        · rw [a2 hM];cases fr<;>simp
        · rw [decide_eq_false (show ¬ (M:Int)>1 by omega)];cases fr<;>simp
      have d3:(!!fr==fr&&true&&!bif Y.2==fr then true else bif decide ((M:Int)>1) then !X.2==fr else false)=true:=by
        rw [b2]
        by_cases hM:1<M
        · rw [a2 hM];cases fr<;>simp
        · rw [decide_eq_false (show ¬ (M:Int)>1 by omega)];cases fr<;>simp
      refine a9 hc (Oj n f ((M:Int),(nb,g),()) X.1 Y.1 Z.1 X.2 Y.2 Z.2 fr mr qr) ?_ fin
      and_intros
      all_goals (first | exact zH | (exact hbig) | (exact cv) | (exact k1) | (exact k2) | (exact k3) | (exact r1) | (exact r2) | (intros;exact g1) | (exact rj) | (intros;exact rj) | (intro h;exact q1 h) | (intro h;exact q2 (qu h)) | (intro h;exact q3 (qu h)) | (exact d1) | (exact d2) | (exact d3) | (intros;simp [af];done) | (simp;done) | (intros;simp_all;done))
  · have hd:decide ((n:Int)>1048576)=true:=decide_eq_true (by omega)
    rw [hd] at hbig
    refine be Tryz.func3 hc (J9 n f) ?_
    and_intros
    all_goals (first | exact zN | (exact hbig))
end Go.Proofs.YtbdgmpfdlgnkkaaGreat.Mach
