/- What the law Tp needs, part 4 of 7: the abstract machine and the contracts of the functions. Conditions: as each theorem says. -/
import Derived.Test.YtbdgmpfdlgnkkaaGreatTpP3
namespace Go.Proofs.YtbdgmpfdlgnkkaaGreat.Mach
open Go
set_option linter.unusedVariables false
set_option linter.unusedSimpArgs false
def DT (N m:Nat) (F T Q:Nat→Int) (x:Int) (i:Nat):St :=
  ⟨[eR N m F T Q,.p (.int .i64 x),.pt 3 0 0 0,.p .any,.p .any,.p (.int .i64 (dR T i x)),.p (.int .i64 i)]++List.replicate 17 ag,[(0,EN N m F T Q)],1⟩
def F8 (g:Nat→aa) (nb N k m:Nat) (F T Q:Nat→Int) (i:Nat):St :=
  ⟨[bi g nb N,.p (.int .i64 k),eR N m F T Q,.pt 2 0 0 0,.p .any,.pt 3 1 0 0,.p .any,.p (.int .i64 i)]++List.replicate 115 ag,[(0,ly g nb N),(1,EN N m F T Q)],2⟩
def Gm (g:Nat→aa) (nb N k m:Nat) (F T Q:Nat→Int) (i:Nat):St :=
  ⟨[bi g nb N,.p (.int .i64 k),eR N m F T Q,.pt 2 0 0 0,.p .any,.pt 3 1 0 0,.p .any,.p .any,.p .any,.p (.int .i64 i)]++List.replicate 113 ag,[(0,ly g nb N),(1,EN N m F T Q)],2⟩
def FC (g:Nat→aa) (nb N k l m:Nat) (F T Q:Nat→Int) (i:Nat):St :=
  ⟨[bi g nb N,.p (.int .i64 k),.p (.int .i64 l),.pt 2 0 0 0,.p .any,.p .any,.pt 3 1 0 0,.p .any,.pt 3 2 0 0,.p .any,.p (.int .i64 i)]++List.replicate 32 ag,
   [(0,ly g nb N),(1,Bx),(2,Cw N m 3),(3,aY N F),(4,aY m T),(5,aY m Q)],6⟩
def Fl (g:Nat→aa) (nb:Nat) (T Q:Nat→Int) (i:Nat):Bool :=
  bif bif bif decide (Q i<0) then true else decide (Q i≥(nb:Int)) then true else bif decide ((i:Int)>0) then decide (Q ((i:Int) - 1).toNat≥Q i) else false then true
    else bif T i != (g (Q i).toNat).1 then T i != (g (Q i).toNat).2.1 else false
theorem MT (k l:Nat) :
    zS Tryz.f68 [rg 1,rm [(1,oc [] (jB true)),(5,oc [] (jB true))] 2] [jI k,jI l] [] [] (jB true) =
    some (zD [zE 58 [jI (k:Int),jI 1,jI 3] [] (jB true),(AG true),((true=true)→(ax (2*(k:Int)))),((true=true)→(au (2*(k:Int)))),((true=true)→(ax (2*(k:Int) - 1))),((true=true)→(au (2*(k:Int) - 1))),((true=true)→zE 58 [jI (l:Int),jI 0,jI (2*(k:Int) - 1)] [] (jB true)),((bif true then true else false)=true)] [0,1,2,3,1,4,5,1,1,6,1,7]):=by kernel_rfl
theorem Mv (k l:Nat) :
    zS Tryz.f79 [rg 1,rm [(1,oc [] (jB true))] 11] [jI k,jI l] [] [] (jB true) =
    some (zD (let A:Bool:=bif true then decide ((l:Int)≥0) else false;[zE 41 [jI (k:Int),jI 1,jI 3] [] (jB true),(AG true),(AG A),((A=true)→(ax (2*(k:Int)))),((A=true)→(au (2*(k:Int)))),((bif A then decide ((l:Int)<2*(k:Int)) else false)=true)]) [0,1,1,2,3,4,2,2,2,5]):=by kernel_rfl
theorem MC (g:Nat→aa) (nb N k l m:Nat) (F T Q:Nat→Int) :
    zS Tryz.f64 [rg 3,rm [(1,oc [] (jB true)),(4,oc [] (jB true))] 2,.dec false,rm [(6,oc (bj N m F T Q) (bf N m 0))] 2] [bi g nb N,jI k,jI l] [576,577,578] (bj N m F T Q) (.tup [bf N m 0,jB true]) =
    some (zD [(NT 0 1),zE 23 [(ak N nb g)] [] (jB true),(AG (!!true)),(((!!true)=true)→zE 68 [jI (k:Int),jI (l:Int)] [] (jB true)),(((!true)=false)→((!!true)=true)),((bif !true then true else !true)=false),zE 99 [jI (N:Int),.p (.seq true 2 nb (aH g)),jI (k:Int),jI (l:Int)] (ef N F m T Q) (.agg [.ar 1 0 0 N,.ar 1 1 0 m,.ar 1 2 0 m]),((true=true)→(AN 1)),(AN 0),(AN N),(AN m),(true=true),(AN 1),(NL N N),(AA N (fun i=>[.p (.int .i64 (F i))])),(NL m m),(AA m (fun i=>[.p (.int .i64 (T i))])),(AA m (fun i=>[.p (.int .i64 (Q i))])),(AE N),(AE m)] [0,1,2,2,3,2,4,5,0,0,6,0,7,0,8,9,8,10,8,10,11,12,13,14,12,15,16,12,15,17,18,19,19]):=by kernel_rfl
theorem KB (g:Nat→aa) (nb N k l m:Nat) (F T Q:Nat→Int) :
    zS Tryz.f77 [rg 2,rm [(3,oc (bj N m F T Q) (.tup [bf N m 0,jB true]))] 6,rg 2,.dec false,rg 4] [bi g nb N,jI k,jI l] [] [] (jI m) =
    some [(NT 0 1),zE 64 [(ak N nb g),jI (k:Int),jI (l:Int)] (ef N F m T Q) ((oZ N m)),(NT 0 1),((true=true)→(AN 1)),((!true)=false),(NT 0 1),(AI ((m:Int)))]:=by kernel_rfl
theorem MW (g:Nat→aa) (nb N k l m:Nat) (F T Q:Nat→Int) :
    zS Tryz.f15 [rg 2,rm [(3,oc (bj N m F T Q) (.tup [bf N m 0,jB true]))] 6,rg 2,.dec false,rg 4] [bi g nb N,jI k,jI l] [] [] (jI m) =
    some [(NT 0 1),zE 43 [(ak N nb g),jI (k:Int),jI (l:Int)] (ef N F m T Q) ((oZ N m)),(NT 0 1),((true=true)→(AN 1)),((!true)=false),(NT 0 1),(AI ((m:Int)))]:=by kernel_rfl
theorem MI (N m:Nat) (F T Q:Nat→Int) (x:Int) :
    zT Tryz.f120 [rg 2,rg 1,rg 1,.head] [eR N m F T Q,jI x] [0] (DT N m F T Q x 0) =
    some (sS,zD [(AN N),(AP N (fun i=>[.int .i64 (F i)])),(AN m),(AP m (fun i=>[.int .i64 (T i)])),(AP m (fun i=>[.int .i64 (Q i)])),(AI x),(AN 0),((0:Int)=(dR T 0 x)),((0:Int)=(↑0:Int)),((([gv N F,gv m T,gv m Q].length):Nat)=3),(NL 1 1)] [0,1,2,3,2,4,5,6,7,8,9,10,10,0,1,2,3,2,4]):=by kernel_rfl
theorem NJ (N m:Nat) (F T Q:Nat→Int) (x:Int) (i:Nat) :
    zM 0 [rg 5,.dec true,rg 7,.dec true,rg 3,rg 3,.head] sS (DT N m F T Q x i) [0] 1 (DT N m F T Q x (i+1)) =
    some (sS,zD [(NT 0 1),((decide ((i:Int)<(m:Int)))=true),(IL 0 (i:Int)),(IT (i:Int) (m:Int)),((T i==x)=true),(ax (dR T i x+1)),(au (dR T i x+1)),(ax ((i:Int)+1)),(au ((i:Int)+1)),(AN N),(AP N (fun i_1=>[.int .i64 (F i_1)])),(AN m),(AP m (fun i_1=>[.int .i64 (T i_1)])),(AP m (fun i_1=>[.int .i64 (Q i_1)])),(AI x),(AN 0),(((dR T i x+1):Int)=(dR T (i+1) x)),((((i:Int)+1):Int)=(↑(i+1):Int)),(AN 3),(NL 1 1)] [0,1,0,2,3,4,5,6,7,8,9,10,11,12,11,13,14,15,16,17,18,19,19,9,10,11,12,11,13]):=by kernel_rfl
theorem J9 (N m:Nat) (F T Q:Nat→Int) (x:Int) (i:Nat) :
    zM 0 [rg 5,.dec true,rg 7,.dec false,rg 3,.head] sS (DT N m F T Q x i) [0] 1 (DT N m F T Q x (i+1)) =
    some (sS,zD [(NT 0 1),((decide ((i:Int)<(m:Int)))=true),(IL 0 (i:Int)),(IT (i:Int) (m:Int)),((T i==x)=false),(ax ((i:Int)+1)),(au ((i:Int)+1)),(AN N),(AP N (fun i_1=>[.int .i64 (F i_1)])),(AN m),(AP m (fun i_1=>[.int .i64 (T i_1)])),(AP m (fun i_1=>[.int .i64 (Q i_1)])),(AI x),(AN 0),(((dR T i x):Int)=(dR T (i+1) x)),((((i:Int)+1):Int)=(↑(i+1):Int)),(AN 3),(NL 1 1)] [0,1,0,2,3,4,5,6,7,8,9,10,9,11,12,13,14,15,16,17,17,7,8,9,10,9,11]):=by kernel_rfl
theorem ND (N m:Nat) (F T Q:Nat→Int) (x:Int) (i:Nat) :
    zP Tryz.f120 0 [rg 5,.dec false,rg 2] sS (DT N m F T Q x i) [] 1 [] (jI (dR T i x)) =
    some [(NT 0 1),((decide ((i:Int)<(m:Int)))=false),(AI ((dR T i x)))]:=by kernel_rfl
theorem MJ (g:Nat→aa) (nb N k m:Nat) (F T Q:Nat→Int) :
    zT Tryz.f105 [rg 3,rm [(1,oc [] (jB true)),(3,oc [] (jB true))] 19,.dec false,rg 1,.head] [bi g nb N,jI k,eR N m F T Q] [0,32] (F8 g nb N k m F T Q 0) =
    some (Ae,zD (let B:Bool:=bif !true then true else !true;let A:Bool:=bif B then true else (N:Int) != (N:Int);[(NT 0 1),zE 10 [(ak N nb g)] [] (jB true),(AG (!!true)),(((!!true)=true)→zE 41 [jI (k:Int),jI 1,jI 3] [] (jB true)),(((!true)=false)→((!!true)=true)),(AG (!B)),(((!B)=true)→(NT 0 1)),((B=false)→((!B)=true)),(AG (!A)),(((!A)=true)→(NT 0 1)),((A=false)→((!A)=true)),((bif A then true else (m:Int) != (m:Int))=false),(AI ((N:Int))),(AN nb),(AP nb (aH g)),(AI ((k:Int))),(AN N),(AP N (fun i=>[.int .i64 (F i)])),(AN m),(AP m (fun i=>[.int .i64 (T i)])),(AP m (fun i=>[.int .i64 (Q i)])),(AN 0),((0:Int)=(↑0:Int)),((([AV.p (PV.int IntKind.i64 (N:Int)),b4 g nb].length):Nat)=2),(NL 1 1),((([gv N F,gv m T,gv m Q].length):Nat)=3)]) [0,1,2,3,2,4,5,6,5,5,6,5,5,7,8,9,8,8,9,8,8,8,10,11,12,13,14,15,16,17,18,19,18,20,21,21,22,23,24,24,12,13,14,25,24,24,16,17,18,19,18,20]):=by kernel_rfl
theorem MO (g:Nat→aa) (nb N k m:Nat) (F T Q:Nat→Int) (i:Nat) :
    zM 0 [rg 5,.dec true,rg 6,rg 51,.dec false,rg 3,.head] Ae (F8 g nb N k m F T Q i) [0,1] 1 (F8 g nb N k m F T Q (i+1)) =
    some (Ae,zD (let C:Bool:=T i != (g (Q i).toNat).1;let D:Bool:=decide ((i:Int)>0);let E:Bool:=decide (Q (i:Int).toNat<0);let B:Bool:=bif E then true else decide (Q (i:Int).toNat≥(nb:Int));let A:Bool:=bif B then true else bif D then decide (Q ((i:Int) - 1).toNat≥Q (i:Int).toNat) else false;let G:Bool:=(!B)&&D;let H:Bool:=(!A)&&C;[(NT 0 1),((decide ((i:Int)<(m:Int)))=true),(IL 0 (i:Int)),(IT (i:Int) (m:Int)),(AG (!E)),(((!E)=true)→(NT 0 1)),((E=false)→((!E)=true)),(AG (!B)),(AG G),((G=true)→(NT 0 1)),((G=true)→(ax ((i:Int) - 1))),((G=true)→(au ((i:Int) - 1))),((G=true)→(IL 0 ((i:Int) - 1))),((G=true)→(IT ((i:Int) - 1) (m:Int))),(((!B)=true)→((D=true)→(G=true))),((B=false)→((!B)=true)),(AG (!A)),(((!A)=true)→(NT 0 1)),(((!A)=true)→(IL 0 (i:Int))),(((!A)=true)→(IT (i:Int) (m:Int))),(((!A)=true)→(IL 0 (Q i))),(((!A)=true)→(IT (Q i) (nb:Int))),(AG H),((H=true)→(NT 0 1)),((H=true)→(IL 0 (i:Int))),((H=true)→(IT (i:Int) (m:Int))),((H=true)→(IL 0 (Q i))),((H=true)→(IT (Q i) (nb:Int))),(((!A)=true)→((C=true)→(H=true))),((A=false)→((!A)=true)),((bif A then true else bif C then T i != (g (Q i).toNat).2.1 else false)=false),(ax ((i:Int)+1)),(au ((i:Int)+1)),(AI ((N:Int))),(AN nb),(AP nb (aH g)),(AI ((k:Int))),(AN N),(AP N (fun i_1=>[.int .i64 (F i_1)])),(AN m),(AP m (fun i_1=>[.int .i64 (T i_1)])),(AP m (fun i_1=>[.int .i64 (Q i_1)])),(AN 0),((((i:Int)+1):Int)=(↑(i+1):Int)),(AN 2),(NL 1 1),(AN 3)]) [0,1,0,2,3,4,5,4,4,4,6,7,7,8,9,8,10,11,8,8,12,13,8,8,8,7,14,15,16,17,16,16,18,19,16,16,17,16,16,20,21,16,16,16,16,16,22,23,22,22,24,25,22,22,23,22,22,26,27,22,22,22,22,16,28,29,30,31,32,33,34,35,36,37,38,39,40,39,41,42,42,43,44,45,45,33,34,35,46,45,45,37,38,39,40,39,41]):=by kernel_rfl
theorem HV (g:Nat→aa) (nb N k m:Nat) (F T Q:Nat→Int) (i:Nat) :
    zM 0 [rg 5,.dec false,rg 1,.head] Ae (F8 g nb N k m F T Q i) [0,1] 1 (Gm g nb N k m F T Q 0) =
    some (zj,zD [(NT 0 1),((decide ((i:Int)<(m:Int)))=false),(AI ((N:Int))),(AN nb),(AP nb (aH g)),(AI ((k:Int))),(AN N),(AP N (fun i_1=>[.int .i64 (F i_1)])),(AN m),(AP m (fun i_1=>[.int .i64 (T i_1)])),(AP m (fun i_1=>[.int .i64 (Q i_1)])),(AN 0),((0:Int)=(↑0:Int)),(AN 2),(NL 1 1),(AN 3)] [0,1,2,3,4,5,6,7,8,9,8,10,11,11,12,13,14,14,2,3,4,15,14,14,6,7,8,9,8,10]):=by kernel_rfl
theorem Mc (g:Nat→aa) (nb N k m:Nat) (F T Q:Nat→Int) (i:Nat) :
    zM 0 [rg 4,.dec true,rm [(14,oc [] (jI (dR T m i)))] 4,.dec false,rg 3,.head] zj (Gm g nb N k m F T Q i) [0,1] 1 (Gm g nb N k m F T Q (i+1)) =
    some (zj,zD (let A:Bool:=decide (F (i:Int).toNat<0);[(NT 0 1),((decide ((i:Int)<(N:Int)))=true),(IL 0 (i:Int)),(IT (i:Int) (N:Int)),(AG (!A)),(((!A)=true)→(NT 0 1)),(((!A)=true)→(IL 0 (i:Int))),(((!A)=true)→(IT (i:Int) (N:Int))),(((!A)=true)→zE 120 [.agg [.p (.seq true 1 N (fun i_1=>[.int .i64 (F i_1)])),.p (.seq true 1 m (fun i_1=>[.int .i64 (T i_1)])),.p (.seq true 1 m (fun i_1=>[.int .i64 (Q i_1)]))],jI (i:Int)] [] (jI (dR T m (i:Int)))),(((!A)=true)→(ax (F i+dR T m (i:Int)))),(((!A)=true)→(au (F i+dR T m (i:Int)))),((A=false)→((!A)=true)),((bif A then true else F i+dR T m (i:Int) != (k:Int))=false),(ax ((i:Int)+1)),(au ((i:Int)+1)),(AI ((N:Int))),(AN nb),(AP nb (aH g)),(AI ((k:Int))),(AN N),(AP N (fun i_1=>[.int .i64 (F i_1)])),(AN m),(AP m (fun i_1=>[.int .i64 (T i_1)])),(AP m (fun i_1=>[.int .i64 (Q i_1)])),(AN 0),((((i:Int)+1):Int)=(↑(i+1):Int)),(AN 2),(NL 1 1),(AN 3)]) [0,1,0,2,3,4,5,4,4,6,7,4,5,4,4,8,4,4,9,10,4,4,11,12,13,14,15,16,17,18,19,20,21,22,21,23,24,24,25,26,27,27,15,16,17,28,27,27,19,20,21,22,21,23]):=by kernel_rfl
theorem KN (g:Nat→aa) (nb N k m:Nat) (F T Q:Nat→Int) (i:Nat) :
    zP Tryz.f105 0 [rg 4,.dec false,rg 1] zj (Gm g nb N k m F T Q i) [] 1 [] (jB true) =
    some [(NT 0 1),((decide ((i:Int)<(N:Int)))=false),(true=true)]:=by kernel_rfl
theorem KA (g:Nat→aa) (nb N k l m e:Nat) (F T Q F1 T1:Nat→Int) :
    zS Tryz.f80 [rg 4,rm [(3,oc [] (jB true)),(4,oc [] (jB true))] 31,.dec false,rg 7,rm [(8,oc (bj N m F1 T1 Q) (.tup [bf N m 0,jB false]))] 6,rg 2,.dec true,rm [(1,oc (bj N m F T Q) (bf N m 0))] 2] [bi g nb N,jI k,jI l,eR N m F T Q,jI e] [2208,2209,2210] (bj N m F T Q) (.tup [bf N m 0,jB false]) =
    some (zD (let C:Bool:=decide ((m:Int)>0);let D:Bool:=bif !true then true else !true;let B:Bool:=bif D then true else decide ((e:Int)<0);let A:Bool:=bif B then true else decide ((e:Int)≥(nb:Int));let E:Bool:=(!A)&&C;[(NT 0 1),zE 105 [(ak N nb g),jI (k:Int),(lC N F m T Q)] [] (jB true),(AG (!!true)),(((!!true)=true)→zE 79 [jI (k:Int),jI (l:Int)] [] (jB true)),(((!true)=false)→((!!true)=true)),(AG (!D)),((D=false)→((!D)=true)),(AG (!B)),(((!B)=true)→(NT 0 1)),((B=false)→((!B)=true)),(AG (!A)),(((!A)=true)→(NT 0 1)),(AG E),((E=true)→(NT 0 1)),((E=true)→(ax ((m:Int) - 1))),((E=true)→(au ((m:Int) - 1))),((E=true)→(IL 0 ((m:Int) - 1))),((E=true)→(IT ((m:Int) - 1) (m:Int))),(((!A)=true)→((C=true)→(E=true))),((A=false)→((!A)=true)),((bif A then true else bif C then decide (Q ((m:Int) - 1).toNat≥(e:Int)) else false)=false),(IL 0 (e:Int)),(IT (e:Int) (nb:Int)),((true=true)→(AN 1)),(ax ((l:Int)+1)),(au ((l:Int)+1)),zE 107 [(ak N nb g),(lC N F m T Q),jI ((g e).1),jI ((g e).2.1),jI ((l:Int)+1)] (ef N F1 m T1 Q) ((v6 N m)),((!false)=true),zE 106 [(lC N F m T Q)] (ef N F m T Q) (.agg [.ar 1 0 0 N,.ar 1 1 0 m,.ar 1 2 0 m]),(AN 0),(AN N),(AN m),(false=false),(AN 1),(NL N N),(AA N (fun i=>[.p (.int .i64 (F i))])),(NL m m),(AA m (fun i=>[.p (.int .i64 (T i))])),(AA m (fun i=>[.p (.int .i64 (Q i))])),(AE N),(AE m)]) [0,0,1,2,2,3,2,4,5,6,7,8,7,7,7,9,10,11,10,10,10,12,13,12,13,12,12,14,15,12,12,16,17,12,12,12,10,18,19,20,0,21,22,0,23,0,0,0,0,24,25,26,0,23,27,0,28,0,23,0,29,30,29,31,29,31,32,33,34,35,33,36,37,33,36,38,39,40,40]):=by kernel_rfl
theorem Ox (g:Nat→aa) (nb N k l m e:Nat) (F T Q F1 T1:Nat→Int) :
    zS Tryz.f80 [rg 4,rm [(3,oc [] (jB true)),(4,oc [] (jB true))] 31,.dec false,rg 7,rm [(8,oc (bj N m F1 T1 Q) (.tup [bf N m 0,jB true]))] 6,rg 2,.dec false,rg 3,rg 7,.dec false,rg 11,rg 7,rg 7,rg 3] [bi g nb N,jI k,jI l,eR N m F T Q,jI e] [1888,2976,3200] (bj N (m+1) (fun s=>if s=(g e).1.toNat then F1 s - 1 else F1 s) (fun s=>if s<m then T1 s else (g e).1) (fun s=>if s<m then Q s else e)) (.tup [bf N (m+1) 0,jB true]) =
    some (zD (let C:Bool:=decide ((m:Int)>0);let D:Bool:=bif !true then true else !true;let B:Bool:=bif D then true else decide ((e:Int)<0);let A:Bool:=bif B then true else decide ((e:Int)≥(nb:Int));let E:Bool:=(!A)&&C;[(NT 0 1),zE 105 [(ak N nb g),jI (k:Int),(lC N F m T Q)] [] (jB true),(AG (!!true)),(((!!true)=true)→zE 79 [jI (k:Int),jI (l:Int)] [] (jB true)),(((!true)=false)→((!!true)=true)),(AG (!D)),((D=false)→((!D)=true)),(AG (!B)),(((!B)=true)→(NT 0 1)),((B=false)→((!B)=true)),(AG (!A)),(((!A)=true)→(NT 0 1)),(AG E),((E=true)→(NT 0 1)),((E=true)→(ax ((m:Int) - 1))),((E=true)→(au ((m:Int) - 1))),((E=true)→(IL 0 ((m:Int) - 1))),((E=true)→(IT ((m:Int) - 1) (m:Int))),(((!A)=true)→((C=true)→(E=true))),((A=false)→((!A)=true)),((bif A then true else bif C then decide (Q ((m:Int) - 1).toNat≥(e:Int)) else false)=false),(IL 0 (e:Int)),(IT (e:Int) (nb:Int)),((true=true)→(AN 1)),(ax ((l:Int)+1)),(au ((l:Int)+1)),zE 107 [(ak N nb g),(lC N F m T Q),jI ((g e).1),jI ((g e).2.1),jI ((l:Int)+1)] (ef N F1 m T1 Q) ((oZ N m)),((!true)=false),(IL 0 ((g e).1)),(IT ((g e).1) (N:Int)),(NT ((g e).1.toNat) N),((F1 (g e).1.toNat==0)=false),(ax (F1 (g e).1.toNat - 1)),(au (F1 (g e).1.toNat - 1)),((false=true)→((N:Nat)=1)),(NL 1 1),(NL m m),(NL ((m+1)*8) 140737488355328),(NL (m+1) 9223372036854775807),(AN 0),(AN N),(AN ((m+1))),(true=true),(AN 1),(NL N N),(CV [(64,⟨true,3,1,(fun i_1=>[.ar 1 1888 0 N,.ar 1 2976 0 (m+1),.ar 1 3200 0 (m+1)])⟩),(2016,⟨true,3,1,(fun i_1=>[.ar 1 1888 0 N,.ar 1 2976 0 (m+1),.ar 1 3200 0 (m+1)])⟩),(3200,⟨false,1,(m+1),(fun i_1=>(if (i_1<m) then [.p (.int .i64 (Q i_1))] else [.p (.int .i64 (e:Int))]))⟩),(3168,⟨false,1,1,(fun i_1=>[.p (.int .i64 (e:Int))])⟩),(2976,⟨false,1,(m+1),(fun i_1=>(if (i_1<m) then [.p (.int .i64 (T1 i_1))] else [.p (.int .i64 ((g e).1))]))⟩),(2944,⟨false,1,1,(fun i_1=>[.p (.int .i64 ((g e).1))])⟩),(1888,⟨false,1,N,(fun i_1=>(if (i_1=(g e).1.toNat) then [.p (.int .i64 (F1 (g e).1.toNat - 1))] else [.p (.int .i64 (F1 i_1))]))⟩),(1568,⟨true,2,1,(fun i_1=>[.p (.int .i64 ((g e).1)),.p (.int .i64 ((g e).2.1))])⟩),(32,⟨true,3,1,(fun i_1=>[.p (.seq true 1 N (fun i_2=>[.int .i64 (F i_2)])),.p (.seq true 1 m (fun i_2=>[.int .i64 (T i_2)])),.p (.seq true 1 m (fun i_2=>[.int .i64 (Q i_2)]))])⟩),(0,⟨true,2,1,(fun i_1=>[.p (.int .i64 (N:Int)),.p (.seq true 2 nb (aH g))])⟩)] [1888,2976,3200] 1 N (fun i=>if (i=(g e).1.toNat) then [.p (.int .i64 (F1 (g e).1.toNat - 1))] else [.p (.int .i64 (F1 i))]) (fun i=>[.p (.int .i64 (if i=(g e).1.toNat then F1 i - 1 else F1 i))])),(NL (m+1) (m+1)),(CV [(64,⟨true,3,1,(fun i_1=>[.ar 1 1888 0 N,.ar 1 2976 0 (m+1),.ar 1 3200 0 (m+1)])⟩),(2016,⟨true,3,1,(fun i_1=>[.ar 1 1888 0 N,.ar 1 2976 0 (m+1),.ar 1 3200 0 (m+1)])⟩),(3200,⟨false,1,(m+1),(fun i_1=>(if (i_1<m) then [.p (.int .i64 (Q i_1))] else [.p (.int .i64 (e:Int))]))⟩),(3168,⟨false,1,1,(fun i_1=>[.p (.int .i64 (e:Int))])⟩),(2976,⟨false,1,(m+1),(fun i_1=>(if (i_1<m) then [.p (.int .i64 (T1 i_1))] else [.p (.int .i64 ((g e).1))]))⟩),(2944,⟨false,1,1,(fun i_1=>[.p (.int .i64 ((g e).1))])⟩),(1888,⟨false,1,N,(fun i_1=>(if (i_1=(g e).1.toNat) then [.p (.int .i64 (F1 (g e).1.toNat - 1))] else [.p (.int .i64 (F1 i_1))]))⟩),(1568,⟨true,2,1,(fun i_1=>[.p (.int .i64 ((g e).1)),.p (.int .i64 ((g e).2.1))])⟩),(32,⟨true,3,1,(fun i_1=>[.p (.seq true 1 N (fun i_2=>[.int .i64 (F i_2)])),.p (.seq true 1 m (fun i_2=>[.int .i64 (T i_2)])),.p (.seq true 1 m (fun i_2=>[.int .i64 (Q i_2)]))])⟩),(0,⟨true,2,1,(fun i_1=>[.p (.int .i64 (N:Int)),.p (.seq true 2 nb (aH g))])⟩)] [1888,2976,3200] 1 (m+1) (fun i=>if (i<m) then [.p (.int .i64 (T1 i))] else [.p (.int .i64 ((g e).1))]) (fun i=>[.p (.int .i64 (if i<m then T1 i else (g e).1))])),(CV [(64,⟨true,3,1,(fun i_1=>[.ar 1 1888 0 N,.ar 1 2976 0 (m+1),.ar 1 3200 0 (m+1)])⟩),(2016,⟨true,3,1,(fun i_1=>[.ar 1 1888 0 N,.ar 1 2976 0 (m+1),.ar 1 3200 0 (m+1)])⟩),(3200,⟨false,1,(m+1),(fun i_1=>(if (i_1<m) then [.p (.int .i64 (Q i_1))] else [.p (.int .i64 (e:Int))]))⟩),(3168,⟨false,1,1,(fun i_1=>[.p (.int .i64 (e:Int))])⟩),(2976,⟨false,1,(m+1),(fun i_1=>(if (i_1<m) then [.p (.int .i64 (T1 i_1))] else [.p (.int .i64 ((g e).1))]))⟩),(2944,⟨false,1,1,(fun i_1=>[.p (.int .i64 ((g e).1))])⟩),(1888,⟨false,1,N,(fun i_1=>(if (i_1=(g e).1.toNat) then [.p (.int .i64 (F1 (g e).1.toNat - 1))] else [.p (.int .i64 (F1 i_1))]))⟩),(1568,⟨true,2,1,(fun i_1=>[.p (.int .i64 ((g e).1)),.p (.int .i64 ((g e).2.1))])⟩),(32,⟨true,3,1,(fun i_1=>[.p (.seq true 1 N (fun i_2=>[.int .i64 (F i_2)])),.p (.seq true 1 m (fun i_2=>[.int .i64 (T i_2)])),.p (.seq true 1 m (fun i_2=>[.int .i64 (Q i_2)]))])⟩),(0,⟨true,2,1,(fun i_1=>[.p (.int .i64 (N:Int)),.p (.seq true 2 nb (aH g))])⟩)] [1888,2976,3200] 1 (m+1) (fun i=>if (i<m) then [.p (.int .i64 (Q i))] else [.p (.int .i64 (e:Int))]) (fun i=>[.p (.int .i64 (if i<m then Q i else (e:Int)))])),(AE N),(AE ((m+1)))]) [0,0,1,2,2,3,2,4,5,6,7,8,7,7,7,9,10,11,10,10,10,12,13,12,13,12,12,14,15,12,12,16,17,12,12,12,10,18,19,20,0,21,22,0,23,0,0,0,0,24,25,26,0,23,27,0,0,0,28,29,30,31,0,0,28,29,30,32,33,28,29,30,34,0,35,36,37,38,0,23,0,35,36,37,38,0,23,0,0,23,0,39,40,39,41,39,41,42,43,44,45,43,46,47,43,46,48,49,50,50]):=by kernel_rfl
theorem Kv (g:Nat→aa) (nb N k l m e:Nat) (F T Q F1 T1:Nat→Int) :
    zS Tryz.f80 [rg 4,rm [(3,oc [] (jB true)),(4,oc [] (jB true))] 31,.dec false,rg 7,rm [(8,oc (bj N m F1 T1 Q) (.tup [bf N m 0,jB true]))] 6,rg 2,.dec false,rg 3,rg 7,.dec true,rg 3,rg 11,rg 7,rg 7,rg 3] [bi g nb N,jI k,jI l,eR N m F T Q,jI e] [1888,3072,3296] (bj N (m+1) (fun s=>if s=(g e).2.1.toNat then F1 s - 1 else F1 s) (fun s=>if s<m then T1 s else (g e).2.1) (fun s=>if s<m then Q s else e)) (.tup [bf N (m+1) 0,jB true]) =
    some (zD (let C:Bool:=decide ((m:Int)>0);let D:Bool:=bif !true then true else !true;let B:Bool:=bif D then true else decide ((e:Int)<0);let A:Bool:=bif B then true else decide ((e:Int)≥(nb:Int));let E:Bool:=(!A)&&C;[(NT 0 1),zE 105 [(ak N nb g),jI (k:Int),(lC N F m T Q)] [] (jB true),(AG (!!true)),(((!!true)=true)→zE 79 [jI (k:Int),jI (l:Int)] [] (jB true)),(((!true)=false)→((!!true)=true)),(AG (!D)),((D=false)→((!D)=true)),(AG (!B)),(((!B)=true)→(NT 0 1)),((B=false)→((!B)=true)),(AG (!A)),(((!A)=true)→(NT 0 1)),(AG E),((E=true)→(NT 0 1)),((E=true)→(ax ((m:Int) - 1))),((E=true)→(au ((m:Int) - 1))),((E=true)→(IL 0 ((m:Int) - 1))),((E=true)→(IT ((m:Int) - 1) (m:Int))),(((!A)=true)→((C=true)→(E=true))),((A=false)→((!A)=true)),((bif A then true else bif C then decide (Q ((m:Int) - 1).toNat≥(e:Int)) else false)=false),(IL 0 (e:Int)),(IT (e:Int) (nb:Int)),((true=true)→(AN 1)),(ax ((l:Int)+1)),(au ((l:Int)+1)),zE 107 [(ak N nb g),(lC N F m T Q),jI ((g e).1),jI ((g e).2.1),jI ((l:Int)+1)] (ef N F1 m T1 Q) ((oZ N m)),((!true)=false),(IL 0 ((g e).1)),(IT ((g e).1) (N:Int)),(NT ((g e).1.toNat) N),((F1 (g e).1.toNat==0)=true),(IL 0 ((g e).2.1)),(IT ((g e).2.1) (N:Int)),(NT ((g e).2.1.toNat) N),(ax (F1 (g e).2.1.toNat - 1)),(au (F1 (g e).2.1.toNat - 1)),((false=true)→((N:Nat)=1)),(NL 1 1),(NL m m),(NL ((m+1)*8) 140737488355328),(NL (m+1) 9223372036854775807),(AN 0),(AN N),(AN ((m+1))),(true=true),(AN 1),(NL N N),(CV [(64,⟨true,3,1,(fun i_1=>[.ar 1 1888 0 N,.ar 1 3072 0 (m+1),.ar 1 3296 0 (m+1)])⟩),(2016,⟨true,3,1,(fun i_1=>[.ar 1 1888 0 N,.ar 1 3072 0 (m+1),.ar 1 3296 0 (m+1)])⟩),(3296,⟨false,1,(m+1),(fun i_1=>(if (i_1<m) then [.p (.int .i64 (Q i_1))] else [.p (.int .i64 (e:Int))]))⟩),(3264,⟨false,1,1,(fun i_1=>[.p (.int .i64 (e:Int))])⟩),(3072,⟨false,1,(m+1),(fun i_1=>(if (i_1<m) then [.p (.int .i64 (T1 i_1))] else [.p (.int .i64 ((g e).2.1))]))⟩),(3040,⟨false,1,1,(fun i_1=>[.p (.int .i64 ((g e).2.1))])⟩),(1888,⟨false,1,N,(fun i_1=>(if (i_1=(g e).2.1.toNat) then [.p (.int .i64 (F1 (g e).2.1.toNat - 1))] else [.p (.int .i64 (F1 i_1))]))⟩),(1568,⟨true,2,1,(fun i_1=>[.p (.int .i64 ((g e).1)),.p (.int .i64 ((g e).2.1))])⟩),(32,⟨true,3,1,(fun i_1=>[.p (.seq true 1 N (fun i_2=>[.int .i64 (F i_2)])),.p (.seq true 1 m (fun i_2=>[.int .i64 (T i_2)])),.p (.seq true 1 m (fun i_2=>[.int .i64 (Q i_2)]))])⟩),(0,⟨true,2,1,(fun i_1=>[.p (.int .i64 (N:Int)),.p (.seq true 2 nb (aH g))])⟩)] [1888,3072,3296] 1 N (fun i=>if (i=(g e).2.1.toNat) then [.p (.int .i64 (F1 (g e).2.1.toNat - 1))] else [.p (.int .i64 (F1 i))]) (fun i=>[.p (.int .i64 (if i=(g e).2.1.toNat then F1 i - 1 else F1 i))])),(NL (m+1) (m+1)),(CV [(64,⟨true,3,1,(fun i_1=>[.ar 1 1888 0 N,.ar 1 3072 0 (m+1),.ar 1 3296 0 (m+1)])⟩),(2016,⟨true,3,1,(fun i_1=>[.ar 1 1888 0 N,.ar 1 3072 0 (m+1),.ar 1 3296 0 (m+1)])⟩),(3296,⟨false,1,(m+1),(fun i_1=>(if (i_1<m) then [.p (.int .i64 (Q i_1))] else [.p (.int .i64 (e:Int))]))⟩),(3264,⟨false,1,1,(fun i_1=>[.p (.int .i64 (e:Int))])⟩),(3072,⟨false,1,(m+1),(fun i_1=>(if (i_1<m) then [.p (.int .i64 (T1 i_1))] else [.p (.int .i64 ((g e).2.1))]))⟩),(3040,⟨false,1,1,(fun i_1=>[.p (.int .i64 ((g e).2.1))])⟩),(1888,⟨false,1,N,(fun i_1=>(if (i_1=(g e).2.1.toNat) then [.p (.int .i64 (F1 (g e).2.1.toNat - 1))] else [.p (.int .i64 (F1 i_1))]))⟩),(1568,⟨true,2,1,(fun i_1=>[.p (.int .i64 ((g e).1)),.p (.int .i64 ((g e).2.1))])⟩),(32,⟨true,3,1,(fun i_1=>[.p (.seq true 1 N (fun i_2=>[.int .i64 (F i_2)])),.p (.seq true 1 m (fun i_2=>[.int .i64 (T i_2)])),.p (.seq true 1 m (fun i_2=>[.int .i64 (Q i_2)]))])⟩),(0,⟨true,2,1,(fun i_1=>[.p (.int .i64 (N:Int)),.p (.seq true 2 nb (aH g))])⟩)] [1888,3072,3296] 1 (m+1) (fun i=>if (i<m) then [.p (.int .i64 (T1 i))] else [.p (.int .i64 ((g e).2.1))]) (fun i=>[.p (.int .i64 (if i<m then T1 i else (g e).2.1))])),(CV [(64,⟨true,3,1,(fun i_1=>[.ar 1 1888 0 N,.ar 1 3072 0 (m+1),.ar 1 3296 0 (m+1)])⟩),(2016,⟨true,3,1,(fun i_1=>[.ar 1 1888 0 N,.ar 1 3072 0 (m+1),.ar 1 3296 0 (m+1)])⟩),(3296,⟨false,1,(m+1),(fun i_1=>(if (i_1<m) then [.p (.int .i64 (Q i_1))] else [.p (.int .i64 (e:Int))]))⟩),(3264,⟨false,1,1,(fun i_1=>[.p (.int .i64 (e:Int))])⟩),(3072,⟨false,1,(m+1),(fun i_1=>(if (i_1<m) then [.p (.int .i64 (T1 i_1))] else [.p (.int .i64 ((g e).2.1))]))⟩),(3040,⟨false,1,1,(fun i_1=>[.p (.int .i64 ((g e).2.1))])⟩),(1888,⟨false,1,N,(fun i_1=>(if (i_1=(g e).2.1.toNat) then [.p (.int .i64 (F1 (g e).2.1.toNat - 1))] else [.p (.int .i64 (F1 i_1))]))⟩),(1568,⟨true,2,1,(fun i_1=>[.p (.int .i64 ((g e).1)),.p (.int .i64 ((g e).2.1))])⟩),(32,⟨true,3,1,(fun i_1=>[.p (.seq true 1 N (fun i_2=>[.int .i64 (F i_2)])),.p (.seq true 1 m (fun i_2=>[.int .i64 (T i_2)])),.p (.seq true 1 m (fun i_2=>[.int .i64 (Q i_2)]))])⟩),(0,⟨true,2,1,(fun i_1=>[.p (.int .i64 (N:Int)),.p (.seq true 2 nb (aH g))])⟩)] [1888,3072,3296] 1 (m+1) (fun i=>if (i<m) then [.p (.int .i64 (Q i))] else [.p (.int .i64 (e:Int))]) (fun i=>[.p (.int .i64 (if i<m then Q i else (e:Int)))])),(AE N),(AE ((m+1)))]) [0,0,1,2,2,3,2,4,5,6,7,8,7,7,7,9,10,11,10,10,10,12,13,12,13,12,12,14,15,12,12,16,17,12,12,12,10,18,19,20,0,21,22,0,23,0,0,0,0,24,25,26,0,23,27,0,0,0,28,29,30,31,0,0,0,32,33,34,35,36,32,33,34,37,0,38,39,40,41,0,23,0,38,39,40,41,0,23,0,0,23,0,42,43,42,44,42,44,45,46,47,48,46,49,50,46,49,51,52,53,53]):=by kernel_rfl
theorem Ld (g:Nat→aa) (nb N k l:Nat) :
    zT Tryz.f43 [rg 3,rm [(2,oc (bj N 0 (fun _=>k) (fun _=>0) (fun _=>0)) (.tup [bf N 0 0,jB true]))] 6,rm [(5,oc [] (jB true))] 2,.dec false,rg 1,.head] [bi g nb N,jI k,jI l] [0,32,288,160,161,162] (FC g nb N k l 0 (fun _=>k) (fun _=>0) (fun _=>0) 0) =
    some (zF,zD [(NT 0 1),zE 78 [(ak N nb g),jI (k:Int)] [(0,⟨false,1,N,(fun i=>[.p (.int .i64 (k:Int))])⟩),(1,⟨false,1,0,(fun i=>[.p (.int .i64 0)])⟩),(2,⟨false,1,0,(fun i=>[.p (.int .i64 0)])⟩)] (.tup [.agg [.ar 1 0 0 N,.ar 1 1 0 0,.ar 1 2 0 0],jB true]),((true=true)→(AN 1)),(AG (!!true)),(((!!true)=true)→zE 79 [jI (k:Int),jI (l:Int)] [] (jB true)),(((!true)=false)→((!!true)=true)),((bif !true then true else !true)=false),(AI ((N:Int))),(AN nb),(AP nb (aH g)),(AI ((k:Int))),(AI ((l:Int))),(AN 0),((0:Int)=(↑0:Int)),((([AV.p (PV.int IntKind.i64 (N:Int)),b4 g nb].length):Nat)=2),(NL 1 1),((((List.map (fun v=>AV.p (bZ v)) [Value.slice none 0 0,Value.slice none 0 0,Value.slice none 0 0]).length):Nat)=3),(AN N),(AN 1),(NL N N),(AA N (fun i=>[.p (.int .i64 (k:Int))])),(NL 0 0),(AA 0 (fun i=>[.p (.int .i64 0)]))] [0,1,0,2,3,3,4,3,5,6,7,8,9,10,11,12,12,12,13,14,15,15,7,8,9,16,15,15,16,15,15,12,17,12,12,12,12,18,19,20,18,21,22,18,21,22]):=by kernel_rfl
theorem JJ (g:Nat→aa) (nb N k l m m':Nat) (F T Q F' T' Q':Nat→Int) (i:Nat) (r:Bool) :
    zM 0 [rg 5,.dec true,rm [(5,oc (bj N m' F' T' Q') (.tup [bf N m' 0,jB r]))] 4,rg 3,.head] zF (FC g nb N k l m F T Q i) [0,1,2,326,327,328] 1 (FC g nb N k l m' F' T' Q' (i+1)) =
    some (zF,zD [(NT 0 1),((decide ((i:Int)<(nb:Int)))=true),(AN 1),(NL N N),(NL m m),zE 80 [(AY N nb g),jI (k:Int),jI (l:Int),.agg [.p (.seq true 1 N (fun i_1=>[.int .i64 (F i_1)])),.p (.seq true 1 m (fun i_1=>[.int .i64 (T i_1)])),.p (.seq true 1 m (fun i_1=>[.int .i64 (Q i_1)]))],jI (i:Int)] [(0,⟨false,1,N,(fun i_1=>[.p (.int .i64 (F' i_1))])⟩),(1,⟨false,1,m',(fun i_1=>[.p (.int .i64 (T' i_1))])⟩),(2,⟨false,1,m',(fun i_1=>[.p (.int .i64 (Q' i_1))])⟩)] (.tup [.agg [.ar 1 0 0 N,.ar 1 1 0 m',.ar 1 2 0 m'],jB r]),((true=true)→(AN 1)),(ax ((i:Int)+1)),(au ((i:Int)+1)),(AI ((N:Int))),(AN nb),(AP nb (aH g)),(AI ((k:Int))),(AI ((l:Int))),(AN 0),((((i:Int)+1):Int)=(↑(i+1):Int)),(AN 2),(NL 1 1),(AN 3),(AN N),(AN (m')),(AA N (fun i_1=>[.p (.int .i64 (F' i_1))])),(NL (m') (m')),(AA (m') (fun i_1=>[.p (.int .i64 (T' i_1))])),(AA (m') (fun i_1=>[.p (.int .i64 (Q' i_1))]))] [0,1,0,0,2,3,2,4,2,4,5,0,6,7,8,9,10,11,12,13,14,14,14,15,16,17,17,9,10,11,18,17,17,18,17,17,14,19,14,20,14,20,2,3,21,2,22,23,2,22,24]):=by kernel_rfl
theorem Kr (g:Nat→aa) (nb N k l m:Nat) (F T Q:Nat→Int) (i:Nat) :
    zP Tryz.f43 0 [rg 5,.dec false,rg 3] zF (FC g nb N k l m F T Q i) [3,4,5] 1 (bj N m F T Q) (.tup [bf N m 0,jB true]) =
    some (zD [(NT 0 1),((decide ((i:Int)<(nb:Int)))=false),((true=true)→(AN 1)),(AN 0),(AN N),(AN m),(true=true),(AN 1),(NL N N),(AA N (fun i_1=>[.p (.int .i64 (F i_1))])),(NL m m),(AA m (fun i_1=>[.p (.int .i64 (T i_1))])),(AA m (fun i_1=>[.p (.int .i64 (Q i_1))])),(AE N),(AE m)] [0,1,0,0,2,0,3,4,3,5,3,5,6,7,8,9,7,10,11,7,10,12,13,14,14]):=by kernel_rfl
theorem dw (k l:Nat) (hk:1≤k∧k≤3) (hl:l+1≤2*k):zE 68 [.p (.int .i64 k),.p (.int .i64 l)] [] (.p (.bool true)):=by
  have h1:=bp k 1 3
  rw [show bC k 1 3=true by simp [bC];omega] at h1
  have h2:=bp l 0 (2*(k:Int) - 1)
  rw [show bC l 0 (2*(k:Int) - 1)=true by simp [bC];omega] at h2
  refine aW Tryz.func68 (fun c hc=>?_)
  refine bB Tryz.func68 hc (MT k l) ?_
  and_intros
  all_goals (first | exact zI | (exact h1) | (intros;exact h2) | (intros;omega) | (simp;done))
theorem iO (k l:Nat) (hk:1≤k∧k≤3) (hl:l+1≤2*k):zE 79 [.p (.int .i64 k),.p (.int .i64 l)] [] (.p (.bool true)):=by
  have h1:=dT k 1 3
  rw [show bC k 1 3=true by simp [bC];omega] at h1
  refine aW Tryz.func79 (fun c hc=>?_)
  refine bB Tryz.func79 hc (Mv k l) ?_
  and_intros
  all_goals (first | exact zI | (exact h1) | (intros;omega) | (simp;omega))
def BP (Q:Nat→Int) (m:Nat):Prop:=∀ j,j<m→0≤Q j
theorem fp {N nb:Nat} {g:Nat→aa} (hg:ah ((N:Int),(nb,g),())=true) (k l:Nat) (hk:1≤k∧k≤3) (hl:l+1≤2*k) :
    ∃ m F T Q,zE 64 [bi g nb N,.p (.int .i64 k),.p (.int .i64 l)] (bj N m F T Q) (.tup [bf N m 0,.p (.bool true)])∧m≤24∧BP Q m∧qL Q m=aK N k l g nb:=by
  obtain ⟨hN,hnb,hok⟩:=az hg
  have hsm:cQ a9 ((N:Int),(nb,g),()):=⟨by simp [cQ,j0],⟨by show nb≤1048576;omega,fun i hi=>by simp [cQ,j0]⟩,True.intro⟩
  have hcg:=aQ ((N:Int),(nb,g),()) hsm
  rw [hg] at hcg
  have hr:=dw k l hk hl
  obtain ⟨m,F,T,Q,hc1,hp,hq⟩:=rS (N:=N) (k:=k) (l:=l) hok (by omega) (by omega) (by omega) (by omega)
  have hm:m≤24:=by
    have:=cY N k l g nb
    rw [← hq,bE] at this;omega
  refine ⟨m,F,T,Q,?_,hm,fun j hj=>(hp.q j hj).1,hq⟩
  refine aW Tryz.func64 (fun c hc=>?_)
  refine bB Tryz.func64 hc (MC g nb N k l m F T Q) ?_
  and_intros
  all_goals (first | exact zH | (exact hcg) | (intros;exact hr) | (exact hc1) | (simp;done) | (intro i hi;simp [af]))
theorem jJ {N nb:Nat} {g:Nat→aa} (hg:ah ((N:Int),(nb,g),())=true) (k l:Nat) (hk:1≤k∧k≤3) (hl:l+1≤2*k) :
    zE 77 [bi g nb N,.p (.int .i64 k),.p (.int .i64 l)] [] (.p (.int .i64 ((aK N k l g nb).length:Nat))):=by
  obtain ⟨m,F,T,Q,hrun,hm,hn,hq⟩:=fp hg k l hk hl
  rw [← hq,bE]
  refine aW Tryz.func77 (fun c hc=>?_)
  refine be Tryz.func77 hc (KB g nb N k l m F T Q) ?_
  and_intros
  all_goals (first | exact zI | (exact hrun) | (simp;done) | (intro i hi;simp [af]))
theorem uZ (N m:Nat) (F T Q:Nat→Int) (x:Int) (hm:m≤1048576):zE 120 [eR N m F T Q,.p (.int .i64 x)] [] (.p (.int .i64 (dR T m x))):=by
  have hle:∀ i,0≤dR T i x∧dR T i x≤i:=by
    intro i
    induction i with
    | zero=>simp [dR]
    | succ i ih=>simp only [dR];split<;>omega
  refine aW Tryz.func120 (fun c hc=>?_)
  have lp:∀ d i,i+d=m→zR c 120 sS (DT N m F T Q x i) (aT c [] (.p (.int .i64 (dR T m x)))):=by
    intro d
    induction d with
    | zero =>
      intro i hi
      have hi':i=m:=by omega
      have hd:decide ((i:Int)<(m:Int))=false:=by simp;omega
      rw [show dR T m x=dR T i x by rw [hi']]
      refine be Tryz.func120 hc (ND N m F T Q x i) ?_
      and_intros
      all_goals (first | exact zN | (exact hd) | (simp;done))
    | succ d ih =>
      intro i hi
      have hd:decide ((i:Int)<(m:Int))=true:=by simp;omega
      have hl:=hle i
      by_cases h:T i=x
      · have hb:(T i==x)=true:=by simp [h]
        refine a7 hc (NJ N m F T Q x i) ?_ (ih (i+1) (by omega))
        and_intros
        all_goals (first | exact zN | (exact hb) | (simp only [dR,h,if_true];done) | (simp only [dR,h,if_true];omega) | (intro j hj;simp [af]))
      · have hb:(T i==x)=false:=by simp [h]
        refine a7 hc (J9 N m F T Q x i) ?_ (ih (i+1) (by omega))
        and_intros
        all_goals (first | exact zN | (exact hb) | (simp only [dR,h,if_false];omega) | (intro j hj;simp [af]))
  refine a7 hc (MI N m F T Q x) ?_ (lp m 0 (by omega))
  and_intros
  all_goals (first | exact zN | (intro j hj;simp [af]))
def GU (Q:Nat→Int) (m:Nat):Prop:=∀ j,j+1<m→Q j<Q (j+1)
theorem Dn {N k nb m:Nat} {g:Nat→aa} {F T Q:Nat→Int} (hp:PInv N k nb m g F T Q) (ha:GU Q m) (i:Nat) (hi:i<m):Fl g nb T Q i=false:=by
  have h1:=hp.q i hi
  have h2:=hp.t i hi
  have a1:decide (Q i<0)=false:=by simp;omega
  have a2:decide (Q i≥(nb:Int))=false:=by simp;omega
  have a3:(bif decide ((i:Int)>0) then decide (Q ((i:Int) - 1).toNat≥Q i) else false)=false:=by
    by_cases h:i=0
    · subst h;rfl
    · have:=ha (i - 1) (by omega)
      have e:((i:Int) - 1).toNat=i - 1:=by omega
      rw [show i - 1+1=i by omega] at this
      rw [e]
      have h4:decide (Q (i - 1)≥Q i)=false:=by simp;omega
      rw [h4]
      cases decide ((i:Int)>0)<;>rfl
  have a4:(bif T i != (g (Q i).toNat).1 then T i != (g (Q i).toNat).2.1 else false)=false:=by
    rcases h2 with e | e
    · rw [show (T i != (g (Q i).toNat).1)=false by simp [e]];rfl
    · rw [show (T i != (g (Q i).toNat).2.1)=false by simp [e]]
      cases (T i != (g (Q i).toNat).1)<;>rfl
  unfold Fl
  rw [a1,a2,a3,a4]
  rfl
theorem nZ {N k nb m:Nat} {g:Nat→aa} {F T Q:Nat→Int} (hp:PInv N k nb m g F T Q) (ha:GU Q m) (hg:ah ((N:Int),(nb,g),())=true) (hk:1≤k∧k≤3) (hm:m≤1048576) :
    zE 105 [bi g nb N,.p (.int .i64 k),eR N m F T Q] [] (.p (.bool true)):=by
  obtain ⟨hN,hnb,hok⟩:=az hg
  have hsm:cQ a9 ((N:Int),(nb,g),()):=⟨by simp [cQ,j0],⟨by show nb≤1048576;omega,fun i hi=>by simp [cQ,j0]⟩,True.intro⟩
  have hcg:=bH ((N:Int),(nb,g),()) hsm
  rw [hg] at hcg
  have h1:=dT k 1 3
  rw [show bC k 1 3=true by simp [bC];omega] at h1
  refine aW Tryz.func105 (fun c hc=>?_)
  have lp1:∀ d i,i+d=N→zR c 105 zj (Gm g nb N k m F T Q i) (aT c [] (.p (.bool true))):=by
    intro d
    induction d with
    | zero =>
      intro i hi
      have hd:decide ((i:Int)<(N:Int))=false:=by simp;omega
      refine be Tryz.func105 hc (KN g nb N k m F T Q i) ?_
      and_intros
      all_goals (first | exact zN | (exact hd) | (simp;done))
    | succ d ih =>
      intro i hi
      have hd:decide ((i:Int)<(N:Int))=true:=by simp;omega
      have ht:=uZ N m F T Q i hm
      have hf0:=hp.f0 i (by omega)
      have hsum:=hp.sum i (by omega)
      have htn:=iV T i m
      have hb:(bif decide (F i<0) then true else F i+dR T m i != (k:Int))=false:=by
        have h4:decide (F i<0)=false:=by simp;omega
        rw [h4]
        simp [hsum]
      refine a7 hc (Mc g nb N k m F T Q i) ?_ (ih (i+1) (by omega))
      and_intros
      all_goals (first | exact zH | (intros;exact ht) | (exact hb) | (intros;omega) | (intro j hj;simp [af]))
  have lp0:∀ d i,i+d=m→zR c 105 Ae (F8 g nb N k m F T Q i) (aT c [] (.p (.bool true))):=by
    intro d
    induction d with
    | zero =>
      intro i hi
      have hd:decide ((i:Int)<(m:Int))=false:=by simp;omega
      refine a7 hc (HV g nb N k m F T Q i) ?_ (lp1 N 0 (by omega))
      and_intros
      all_goals (first | exact zN | (exact hd) | (intro j hj;simp [af]))
    | succ d ih =>
      intro i hi
      have him:i<m:=by omega
      have hd:decide ((i:Int)<(m:Int))=true:=by simp;omega
      have hbad:=Dn hp ha i him
      have hq:=hp.q i him
      refine a7 hc (MO g nb N k m F T Q i) ?_ (ih (i+1) (by omega))
      and_intros
      all_goals (first | exact zH | (exact hbad) | (intros;omega) | (intro h;have:=gu h him;omega) | (intro h;show (0:Int)≤Q i∧Q i<nb;omega) | (intro j hj;simp [af]))
  refine a7 hc (MJ g nb N k m F T Q) ?_ (lp0 m 0 (by omega))
  and_intros
  all_goals (first | exact zH | (exact hcg) | (intros;exact h1) | (simp;done) | (intro j hj;simp [af]))
theorem pK {N k nb m l e:Nat} {g:Nat→aa} {F T Q:Nat→Int} (hp:PInv N k nb m g F T Q) (ha:GU Q m) (hlt:∀ j,j<m→Q j<e) (hg:ah ((N:Int),(nb,g),())=true) (hk:1≤k∧k≤3) (hl:l+1≤2*k) (hm:m≤1000) (he:e<nb)
    (hsp:Mat.Sparse N k l (oY g Q m)) :
    (∃ F' T',zE 80 [bi g nb N,.p (.int .i64 k),.p (.int .i64 l),eR N m F T Q,.p (.int .i64 (e:Nat))] (bj N (m+1) F' T' (fun s=>if s<m then Q s else e)) (.tup [bf N (m+1) 0,.p (.bool true)]) ∧
      PInv N k nb (m+1) g F' T' (fun s=>if s<m then Q s else e)∧Mat.Sparse N k l (oY g Q m++[bA (g e)])) ∨
    (zE 80 [bi g nb N,.p (.int .i64 k),.p (.int .i64 l),eR N m F T Q,.p (.int .i64 (e:Nat))] (bj N m F T Q) (.tup [bf N m 0,.p (.bool false)])∧¬ Mat.Sparse N k l (oY g Q m++[bA (g e)])):=by
  obtain ⟨hN,hnb,hok⟩:=az hg
  have hbar:=hok e he
  have hip:=nZ hp ha hg hk (by omega)
  have hir:=iO k l hk hl
  have hcc:=jd N m F T Q (by omega) (by omega)
  have hb:(bif bif bif bif !true then true else !true then true else decide ((e:Int)<0) then true else decide ((e:Int)≥(nb:Int)) then true else bif decide ((m:Int)>0) then decide (Q ((m:Int) - 1).toNat≥(e:Int)) else false)=false:=by
    have b1:decide ((e:Int)<0)=false:=decide_eq_false (by omega)
    have b2:decide ((e:Int)≥(nb:Int))=false:=by simp;omega
    have b3:(bif decide ((m:Int)>0) then decide (Q ((m:Int) - 1).toNat≥(e:Int)) else false)=false:=by
      by_cases h:m=0
      · subst h;rfl
      · have:=hlt ((m:Int) - 1).toNat (by omega)
        have h4:decide (Q ((m:Int) - 1).toNat≥(e:Int))=false:=decide_eq_false (by omega)
        rw [h4]
        cases decide ((m:Int)>0)<;>rfl
    rw [b1,b2,b3];rfl
  obtain ⟨F1,T1,r,hc1,h1,h2,h3⟩:=qE (l:=l) (a:=(g e).1) (b:=(g e).2.1) hp (by omega) (by omega) (by omega) (by omega) (by omega) (by omega) (by omega)
  have hlA:=h1.le (v:=(g e).1.toNat) (by omega)
  have hlB:=h1.le (v:=(g e).2.1.toNat) (by omega)
  cases r with
  | false =>
    right
    refine ⟨?_,h3 rfl⟩
    refine aW Tryz.func80 (fun c hc=>?_)
    refine bB Tryz.func80 hc (KA g nb N k l m e F T Q F1 T1) ?_
    and_intros
    all_goals (first | exact zH | (exact hip) | (intros;exact hir) | (exact hb) | (exact hc1) | (exact hcc) | (simp;done) | (intro h;have:=gu h (Nat.lt_succ_self m);omega) | (intro i hi;simp [af]))
  | true =>
    left
    have hw:=h2 rfl
    have hacc:Mat.Sparse N k l (oY g Q m++[bA (g e)]):=by
      have:=(h1.game l).accept (by rw [dP];exact hsp) (g e).1.toNat (g e).2.1.toNat ⟨by show (g e).1.toNat≠(g e).2.1.toNat;omega,by show (g e).1.toNat<N;omega,by show (g e).2.1.toNat<N;omega⟩
        (by show l+1≤(F1 (g e).1.toNat).toNat+(F1 (g e).2.1.toNat).toNat;omega)
      rw [dP] at this
      exact this
    by_cases hz:F1 (g e).1.toNat=0
    · have hzb:(F1 (g e).1.toNat==0)=true:=by simp [hz]
      refine ⟨_,_,?_,h1.placed e he (g e).2.1 (.inr rfl) (by omega),hacc⟩
      refine aW Tryz.func80 (fun c hc=>?_)
      refine bB Tryz.func80 hc (Kv g nb N k l m e F T Q F1 T1) ?_
      and_intros
      all_goals (first | exact zH | (exact hip) | (intros;exact hir) | (exact hb) | (exact hc1) | (exact hzb) | (simp;done) | (intro h;have:=gu h (Nat.lt_succ_self m);omega) | (intro i hi;simp [af];done) | (intro i hi;by_cases h:i<m<;>simp [h,ay,bh,tg,bu,af];done) | (intro i hi;by_cases h:i=(g e).2.1.toNat<;>simp [h,ay,bh,tg,bu,af]))
    · have hzb:(F1 (g e).1.toNat==0)=false:=by simp [hz]
      refine ⟨_,_,?_,h1.placed e he (g e).1 (.inl rfl) (by omega),hacc⟩
      refine aW Tryz.func80 (fun c hc=>?_)
      refine bB Tryz.func80 hc (Ox g nb N k l m e F T Q F1 T1) ?_
      and_intros
      all_goals (first | exact zH | (exact hip) | (intros;exact hir) | (exact hb) | (exact hc1) | (exact hzb) | (simp;done) | (intro h;have:=gu h (Nat.lt_succ_self m);omega) | (intro i hi;simp [af];done) | (intro i hi;by_cases h:i<m<;>simp [h,ay,bh,tg,bu,af];done) | (intro i hi;by_cases h:i=(g e).1.toNat<;>simp [h,ay,bh,tg,bu,af]))
theorem ft {N nb:Nat} {g:Nat→aa} (hg:ah ((N:Int),(nb,g),())=true) (k l:Nat) (hk:1≤k∧k≤3) (hl:l+1≤2*k) :
    ∃ m F T Q,zE 43 [bi g nb N,.p (.int .i64 k),.p (.int .i64 l)] (bj N m F T Q) (.tup [bf N m 0,.p (.bool true)])∧m≤24∧BP Q m∧qL Q m=aK N k l g nb:=by
  obtain ⟨hN,hnb,hok⟩:=az hg
  have hr:=iO k l hk hl
  have hn:=mP (nb:=nb) (g:=g) (N:=N) (k:=k) (by omega) hk hg (by omega)
  have lp:∀ d i m F T Q,i+d=nb→PInv N k nb m g F T Q→GU Q m→(∀ j,j<m→Q j<(i:Nat))→qL Q m=aK N k l g i →
      ∃ m' F' T' Q',(∀ c,c.n=0→zR c 43 zF (FC g nb N k l m F T Q i) (aT c (bj N m' F' T' Q') (.tup [bf N m' 0,.p (.bool true)])))∧BP Q' m'∧qL Q' m'=aK N k l g nb:=by
    intro d
    induction d with
    | zero =>
      intro i m F T Q hi hp ha hlt hq
      have hi':i=nb:=by omega
      refine ⟨m,F,T,Q,fun c hc=>?_,fun j hj=>(hp.q j hj).1,by rw [hq,hi']⟩
      have hd:decide ((i:Int)<(nb:Int))=false:=by simp;omega
      refine bB Tryz.func43 hc (Kr g nb N k l m F T Q i) ?_
      and_intros
      all_goals (first | exact zI | (exact hd) | (intro j hj;simp [af]))
    | succ d ih =>
      intro i m F T Q hi hp ha hlt hq
      have hd:decide ((i:Int)<(nb:Int))=true:=by simp;omega
      have hm:m≤24:=by
        have:=cY N k l g i
        rw [← hq,bE] at this;omega
      have hsp:Mat.Sparse N k l (oY g Q m):=by rw [iW,hq];exact gL N k l g i
      rcases pK (e:=i) hp ha hlt hg hk hl (by omega) (by omega) hsp with ⟨F1,T1,hc1,hp1,hs1⟩ | ⟨hc1,hs1⟩
      · obtain ⟨m',F',T',Q',hrun,h2⟩:=ih (i+1) (m+1) F1 T1 _ (by omega) hp1 (fun j hj=>by
          show (if j<m then Q j else (i:Int))<(if j+1<m then Q (j+1) else (i:Int))
          rw [if_pos (show j<m by omega)]
          by_cases h:j+1<m
          · rw [if_pos h];exact ha j h
          · rw [if_neg h];exact hlt j (by omega)) (fun j hj=>by
          show (if j<m then Q j else (i:Int))<((i+1:Nat):Int)
          by_cases h:j<m
          · rw [if_pos h];have:=hlt j h;omega
          · rw [if_neg h];omega) (by
          simp only [aK]
          rw [← hq,← iW,if_pos hs1]
          simp only [qL,Nat.lt_irrefl,if_false,Int.toNat_natCast]
          rw [lU (Q':=Q) m (fun j hj=>by simp only [hj,if_true])])
        refine ⟨m',F',T',Q',fun c hc=>?_,h2⟩
        refine a7 hc (JJ g nb N k l m (m+1) F T Q F1 T1 (fun s=>if s<m then Q s else i) i true) ?_ (hrun c hc)
        and_intros
        all_goals (first | exact zI | (exact hd) | (exact hc1) | (intro j hj;simp [af]))
      · obtain ⟨m',F',T',Q',hrun,h2⟩:=ih (i+1) m F T Q (by omega) hp ha (fun j hj=>by have:=hlt j hj;omega) (by
          simp only [aK]
          rw [← hq,← iW,if_neg hs1])
        refine ⟨m',F',T',Q',fun c hc=>?_,h2⟩
        refine a7 hc (JJ g nb N k l m m F T Q F T Q i false) ?_ (hrun c hc)
        and_intros
        all_goals (first | exact zI | (exact hd) | (exact hc1) | (intro j hj;simp [af]))
  obtain ⟨m,F,T,Q,hrun,hnn,hq⟩:=lp nb 0 0 _ _ _ (by omega) (PInv.start hok) (fun j hj=>by omega) (fun j hj=>absurd hj (Nat.not_lt_zero _)) rfl
  have hm:m≤24:=by
    have:=cY N k l g nb
    rw [← hq,bE] at this;omega
  refine ⟨m,F,T,Q,?_,hm,hnn,hq⟩
  refine aW Tryz.func43 (fun c hc=>?_)
  refine a7 hc (Ld g nb N k l) ?_ (hrun c hc)
  and_intros
  all_goals (first | exact zH | (exact hn) | (intros;exact hr) | (simp;done) | (intro j hj;simp [af]))
theorem jH {N nb:Nat} {g:Nat→aa} (hg:ah ((N:Int),(nb,g),())=true) (k l:Nat) (hk:1≤k∧k≤3) (hl:l+1≤2*k) :
    zE 15 [bi g nb N,.p (.int .i64 k),.p (.int .i64 l)] [] (.p (.int .i64 ((aK N k l g nb).length:Nat))):=by
  obtain ⟨m,F,T,Q,hrun,hm,hn,hq⟩:=ft hg k l hk hl
  rw [← hq,bE]
  refine aW Tryz.func15 (fun c hc=>?_)
  refine be Tryz.func15 hc (MW g nb N k l m F T Q) ?_
  and_intros
  all_goals (first | exact zI | (exact hrun) | (simp;done) | (intro i hi;simp [af]))
def z2:Ob:=⟨true,2,1,fun _=>[.p (.int .i64 0),.p .nil]⟩
def Ho (n:Int) (j c:Nat):Ob:=⟨true,2,1,fun _=>[.p (.int .i64 n),.ar 2 j 0 c]⟩
def cE (n:Int):Int:=if 2*n - 3>0 then 2*n - 3 else 0
def Io (n:Int) (c:Nat) (h:Nat→aa):AV:=.agg [.p (.int .i64 n),b4 h c]
def D1 (n:Int) (M:Nat) (A:Nat→aa) (S:ad) (i c:Nat) (h:Nat→aa):St :=
  ⟨[Io n M A,ew S,.pt 2 0 0 0,.p .any,.pt 2 1 0 0,.pt 2 2 0 0]++List.replicate 6 ag++[b4 A M,.p (.int .i64 M),.p (.int .i64 i)]++List.replicate 15 ag,[(0,⟨true,2,1,fun _=>[.p (.int .i64 n),b4 A M]⟩),(1,z2),(2,Ho n 3 c),(3,aj c h)],4⟩
theorem FW (v:ai) :
    zS Tryz.f40 [rg 2,rm [(1,oc [] (jB false))] 1,.dec true,rg 1] [aJ v] [] [] (jI (-1)) =
    some [(NT 0 1),zE 10 [(bt v)] [] (jB false),((!false)=true),(AI ((-1)))]:=by kernel_rfl
theorem FN (g:Nat→aa) (nb N r:Nat) :
    zS Tryz.f40 [rg 2,rm [(1,oc [] (jB true))] 1,.dec false,rm [(6,oc [] (jI r))] 2] [bi g nb N] [] [] (jI (cE N - r)) =
    some [(NT 0 1),zE 10 [(ak N nb g)] [] (jB true),((!true)=false),(NT 0 1),(ax (2*(N:Int))),(au (2*(N:Int))),(ax (2*(N:Int) - 3)),(au (2*(N:Int) - 3)),(NT 0 1),zE 15 [(ak N nb g),jI 2,jI 3] [] (jI (r:Int)),(ax ((if true=true then if 2*(N:Int) - 3>0 then 2*(N:Int) - 3 else 0 else if 2*(N:Int) - 3<0 then 2*(N:Int) - 3 else 0) - (r:Int))),(au ((if true=true then if 2*(N:Int) - 3>0 then 2*(N:Int) - 3 else 0 else if 2*(N:Int) - 3<0 then 2*(N:Int) - 3 else 0) - (r:Int))),((((if true=true then if 2*(N:Int) - 3>0 then 2*(N:Int) - 3 else 0 else if 2*(N:Int) - 3<0 then 2*(N:Int) - 3 else 0) - (r:Int)):Int)=(cE (N:Int) - (r:Int)))]:=by kernel_rfl
theorem Gh (v:ai) :
    zS Tryz.f39 [rg 2,rm [(1,oc [] (jB false))] 1,.dec true,rg 1] [aJ v] [] [] (jI (-1)) =
    some [(NT 0 1),zE 23 [(bt v)] [] (jB false),((!false)=true),(AI ((-1)))]:=by kernel_rfl
theorem GC (g:Nat→aa) (nb N r:Nat) :
    zS Tryz.f39 [rg 2,rm [(1,oc [] (jB true))] 1,.dec false,rm [(6,oc [] (jI r))] 2] [bi g nb N] [] [] (jI (cE N - r)) =
    some [(NT 0 1),zE 23 [(ak N nb g)] [] (jB true),((!true)=false),(NT 0 1),(ax (2*(N:Int))),(au (2*(N:Int))),(ax (2*(N:Int) - 3)),(au (2*(N:Int) - 3)),(NT 0 1),zE 77 [(ak N nb g),jI 2,jI 3] [] (jI (r:Int)),(ax ((if true=true then if 2*(N:Int) - 3>0 then 2*(N:Int) - 3 else 0 else if 2*(N:Int) - 3<0 then 2*(N:Int) - 3 else 0) - (r:Int))),(au ((if true=true then if 2*(N:Int) - 3>0 then 2*(N:Int) - 3 else 0 else if 2*(N:Int) - 3<0 then 2*(N:Int) - 3 else 0) - (r:Int))),((((if true=true then if 2*(N:Int) - 3>0 then 2*(N:Int) - 3 else 0 else if 2*(N:Int) - 3<0 then 2*(N:Int) - 3 else 0) - (r:Int)):Int)=(cE (N:Int) - (r:Int)))]:=by kernel_rfl
theorem Hm (v:ai) (x:Int) :
    zS Tryz.f9 [rg 2,rm [(1,oc [] (jI x))] 2] [aJ v] [] [] (jB (x==0)) =
    some [(NT 0 1),zE 40 [(bt v)] [] (jI x),((x==0)=(x==0))]:=by kernel_rfl
theorem HT (v:ai) (x:Int) :
    zS Tryz.f8 [rg 2,rm [(1,oc [] (jI x))] 2] [aJ v] [] [] (jB (x==0)) =
    some [(NT 0 1),zE 39 [(bt v)] [] (jI x),((x==0)=(x==0))]:=by kernel_rfl
theorem Jw (v:ai) (b:Bool) (r:Nat) :
    zS Tryz.f60 [rg 2,rm [(1,oc [] (jB b)),(2,oc [] (jI r))] 6] [aJ v] [] [] (jB (bif b then (r:Int)==(v.2.1.1:Int) else false)) =
    some (zD [(NT 0 1),zE 8 [(bt v)] [] (jB b),((b=true)→(NT 0 1)),(AG b),((b=true)→zE 77 [(bt v),jI 2,jI 3] [] (jI (r:Int))),((bif b then (r:Int)==(v.2.1.1:Int) else false)=(bif b then (r:Int)==(v.2.1.1:Int) else false))] [0,1,2,3,4,3,2,3,3,3,3,5]):=by kernel_rfl
theorem LY (n:Int) (M:Nat) (A:Nat→aa) (S:ad) :
    zT Tryz.f26 [rg 2,rg 5,rg 4,.head] [Io n M A,ew S] [0,32,160] (D1 n M A S 0 0 (fun _=>(0,0,()))) =
    some (t8,zD [(NT 0 1),((true=true)→(AN 1)),(AI n),(AN M),(AP M (aH A)),(AN S.1),(AP S.1 (c9 S)),(AN 0),(AI ((M:Int))),((0:Int)=(↑0:Int)),((([AV.p (PV.int IntKind.i64 n),b4 A M].length):Nat)=2),(NL 1 1),((((List.map (fun v=>AV.p (bZ v)) [Value.int IntKind.i64 0,Value.slice none 0 0]).length):Nat)=2),(AI 0)] [0,0,1,0,2,3,4,5,6,7,7,7,3,4,8,9,10,11,11,2,3,4,12,11,11,13,12,11,11,2,7,7]):=by kernel_rfl
theorem Nn (n:Int) (M:Nat) (A:Nat→aa) (S:ad) (i c:Nat) (h:Nat→aa) :
    zM 0 [rg 1,.dec true,rg 6,rm [(2,oc [] (jB true))] 0,.dec true,rg 7,rg 2,.head] t8 (D1 n M A S i c h) [0,1,2,452] 1 (D1 n M A S (i+1) (c+1) (aZ c h (A i))) =
    some (t8,zD [((decide ((i:Int)<(M:Int)))=true),(IL 0 (i:Int)),(IT (i:Int) (M:Int)),(NT 0 1),((true=true)→(AN 1)),zE 63 [.p (.seq true 1 S.1 (c9 S)),jI (i:Int)] [] (jB true),(true=true),(NL 1 1),(NL c c),(NL ((c+1)*16) 140737488355328),(NL (c+1) 9223372036854775807),(ax ((i:Int)+1)),(au ((i:Int)+1)),(AI n),(AN M),(AP M (aH A)),(AN S.1),(AP S.1 (c9 S)),(AN 0),(AI ((M:Int))),((((i:Int)+1):Int)=(↑(i+1):Int)),(AN 2),(AI 0),(AN ((c+1))),(NL (c+1) (c+1)),(CV [(2,⟨true,2,1,(fun i_2=>[.p (.int .i64 n),.ar 2 452 0 (c+1)])⟩),(452,⟨false,2,(c+1),(fun i_2=>(if (i_2<c) then [.p (.int .i64 ((h i_2).1)),.p (.int .i64 ((h i_2).2.1))] else [.p (.int .i64 ((A i).1)),.p (.int .i64 ((A i).2.1))]))⟩),(420,⟨false,2,1,(fun i_2=>[.p (.int .i64 ((A i).1)),.p (.int .i64 ((A i).2.1))])⟩),(132,⟨true,2,1,(fun i_2=>[.p (.int .i64 ((A i).1)),.p (.int .i64 ((A i).2.1))])⟩),(0,⟨true,2,1,(fun i_2=>[.p (.int .i64 n),.p (.seq true 2 M (aH A))])⟩),(1,⟨true,2,1,(fun i_2=>[.p (.int .i64 0),.p (.nil)])⟩)] [0,1,2,452] 1 (c+1) (fun i_1=>if (i_1<c) then [.p (.int .i64 ((h i_1).1)),.p (.int .i64 ((h i_1).2.1))] else [.p (.int .i64 ((A i).1)),.p (.int .i64 ((A i).2.1))]) (fun i_1=>[.p (.int .i64 (if i_1<c then (h i_1).1 else (A i).1)),.p (.int .i64 (if i_1<c then (h i_1).2.1 else (A i).2.1))]))] [0,1,2,3,4,5,6,3,3,7,8,9,10,3,4,11,12,13,14,15,16,17,18,18,18,14,15,19,20,21,7,7,13,14,15,21,7,7,22,21,7,7,13,18,23,21,24,25]):=by kernel_rfl
theorem KF (n:Int) (M:Nat) (A:Nat→aa) (S:ad) (i c:Nat) (h:Nat→aa) :
    zM 0 [rg 1,.dec true,rg 6,rm [(2,oc [] (jB false))] 0,.dec false,rg 2,.head] t8 (D1 n M A S i c h) [0,1,2,3] 1 (D1 n M A S (i+1) c h) =
    some (t8,zD [((decide ((i:Int)<(M:Int)))=true),(IL 0 (i:Int)),(IT (i:Int) (M:Int)),(NT 0 1),((true=true)→(AN 1)),zE 63 [.p (.seq true 1 S.1 (c9 S)),jI (i:Int)] [] (jB false),(false=false),(ax ((i:Int)+1)),(au ((i:Int)+1)),(AI n),(AN M),(AP M (aH A)),(AN S.1),(AP S.1 (c9 S)),(AN 0),(AI ((M:Int))),((((i:Int)+1):Int)=(↑(i+1):Int)),(AN 2),(NL 1 1),(AI 0),(AN c),(NL c c),(AA c (fun i_1=>[.p (.int .i64 ((h i_1).1)),.p (.int .i64 ((h i_1).2.1))]))] [0,1,2,3,4,5,6,7,8,9,10,11,12,13,14,14,14,10,11,15,16,17,18,18,9,10,11,17,18,18,19,17,18,18,9,14,20,17,21,22]):=by kernel_rfl
theorem LV (n:Int) (M:Nat) (A:Nat→aa) (S:ad) (i c:Nat) (h:Nat→aa) :
    zP Tryz.f26 0 [rg 1,.dec false,rg 2] t8 (D1 n M A S i c h) [3] 1 [(0,aj c h)] (.agg [jI n,.ar 2 0 0 c]) =
    some [((decide ((i:Int)<(M:Int)))=false),(NT 0 1),(NT 0 1),((true=true)→(AN 1)),(NT 0 1),(AI n),(AN 0),(AN c),(AN 2),(NL c c),(AA c (fun i_1=>[.p (.int .i64 ((h i_1).1)),.p (.int .i64 ((h i_1).2.1))])),(AE c)]:=by kernel_rfl
noncomputable def qF (v:ai):Nat:=(aK v.1.toNat 2 3 v.2.1.2 v.2.1.1).length
noncomputable def bw (v:ai):Int:=if ah v=true then cE v.1 - (qF v:Int) else -1
noncomputable def oV (v:ai):Bool:=bif bw v==0 then (v.2.1.1:Int)==(qF v:Int) else false
theorem yR {n:Int} (h:n≤8):0≤cE n∧cE n≤13:=by
  unfold cE;split<;>omega
theorem lu (v:ai) (hs:cQ a9 v):zE 40 [aJ v] [] (.p (.int .i64 (bw v))):=by
  have hcg:=bH v hs
  cases hg:ah v with
  | false =>
    rw [hg] at hcg
    rw [show bw v = -1 by simp [bw,hg]]
    refine aW Tryz.func40 (fun c hc=>?_)
    refine be Tryz.func40 hc (FW v) ?_
    and_intros
    all_goals (first | exact zN | (intros;exact hcg) | (simp;done))
  | true =>
    rw [hg] at hcg
    obtain ⟨N,nb,g,rfl⟩:=bM v hg
    obtain ⟨hN,hnb,_⟩:=az hg
    have hr:=jH hg 2 3 (by omega) (by omega)
    have hl:=cY N 2 3 g nb
    have hm:=yR (n:=(N:Int)) (by omega)
    rw [show bw ((N:Int),(nb,g),())=cE N - ((aK N 2 3 g nb).length:Nat) by simp [bw,hg,qF]]
    refine aW Tryz.func40 (fun c hc=>?_)
    refine be Tryz.func40 hc (FN g nb N (aK N 2 3 g nb).length) ?_
    and_intros
    all_goals (first | exact zN | (intros;exact hcg) | (exact hr) | (simp only [if_true];show _≤cE N - _;omega) | (simp only [if_true];show cE N - _≤_;omega) | (simp;done) | (simp only [if_true];rfl))
theorem lB (v:ai) (hs:cQ a9 v):zE 39 [aJ v] [] (.p (.int .i64 (bw v))):=by
  have hcg:=aQ v hs
  cases hg:ah v with
  | false =>
    rw [hg] at hcg
    rw [show bw v = -1 by simp [bw,hg]]
    refine aW Tryz.func39 (fun c hc=>?_)
    refine be Tryz.func39 hc (Gh v) ?_
    and_intros
    all_goals (first | exact zN | (intros;exact hcg) | (simp;done))
  | true =>
    rw [hg] at hcg
    obtain ⟨N,nb,g,rfl⟩:=bM v hg
    obtain ⟨hN,hnb,_⟩:=az hg
    have hr:=jJ hg 2 3 (by omega) (by omega)
    have hl:=cY N 2 3 g nb
    have hm:=yR (n:=(N:Int)) (by omega)
    rw [show bw ((N:Int),(nb,g),())=cE N - ((aK N 2 3 g nb).length:Nat) by simp [bw,hg,qF]]
    refine aW Tryz.func39 (fun c hc=>?_)
    refine be Tryz.func39 hc (GC g nb N (aK N 2 3 g nb).length) ?_
    and_intros
    all_goals (first | exact zN | (intros;exact hcg) | (exact hr) | (simp only [if_true];show _≤cE N - _;omega) | (simp only [if_true];show cE N - _≤_;omega) | (simp;done) | (simp only [if_true];rfl))
theorem iM (v:ai) (hs:cQ a9 v):zE 9 [aJ v] [] (.p (.bool (bw v==0))):=by
  have hf:=lu v hs
  refine aW Tryz.func9 (fun c hc=>?_)
  refine be Tryz.func9 hc (Hm v _) ?_
  and_intros
  all_goals (first | exact zN | (exact hf) | (simp;done))
theorem eL (v:ai) (hs:cQ a9 v):zE 8 [aJ v] [] (.p (.bool (bw v==0))):=by
  have hf:=lB v hs
  refine aW Tryz.func8 (fun c hc=>?_)
  refine be Tryz.func8 hc (HT v _) ?_
  and_intros
  all_goals (first | exact zN | (exact hf) | (simp;done))
theorem ku {v:ai} (h:(bw v==0)=true):ah v=true:=by
  cases hg:ah v with
  | true=>rfl
  | false=>simp [bw,hg] at h
theorem qQ (v:ai) (hs:cQ a9 v):zE 60 [aJ v] [] (.p (.bool (oV v))):=by
  have hf:=eL v hs
  have hr:(bw v==0)=true→zE 77 [aJ v,.p (.int .i64 2),.p (.int .i64 3)] [] (.p (.int .i64 (qF v:Nat))):=by
    intro h
    have hg:=ku h
    obtain ⟨N,nb,g,rfl⟩:=bM v hg
    exact jJ hg 2 3 (by omega) (by omega)
  refine aW Tryz.func60 (fun c hc=>?_)
  rw [show oV v=(bif bw v==0 then (qF v:Int)==(v.2.1.1:Int) else false) by unfold oV;rw [show ((v.2.1.1:Int)==(qF v:Int))=((qF v:Int)==(v.2.1.1:Int)) from by rw [Bool.eq_iff_iff];simp only [beq_iff_eq];exact eq_comm]]
  refine bB Tryz.func60 hc (Jw v (bw v==0) (qF v)) ?_
  and_intros
  all_goals (first | exact zI | (exact hf) | (intro h;exact hr h) | (intro h;exact h) | (simp;done) | rfl)
def zB:cA:=(0,fun _=>(0,0,()))
def kC (S:ad) (A:Nat→aa):Nat→Nat→cA→cA
  | _,0,x=>x
  | i,d+1,x=>kC S A (i+1) d (bif a0 S.2 i S.1 then (x.1+1,aZ x.1 x.2 (A i)) else x)
theorem pP (n:Int) (M:Nat) (A:Nat→aa) (S:ad) (hM:M≤100) (hS:S.1≤1000) :
    zE 26 [Io n M A,ew S] [(0,aj (kC S A 0 M zB).1 (kC S A 0 M zB).2)] (.agg [.p (.int .i64 n),.ar 2 0 0 (kC S A 0 M zB).1]):=by
  refine aW Tryz.func26 (fun c hc=>?_)
  generalize hR:kC S A 0 M zB=R
  have lp:∀ d i cc f,i+d=M→cc≤i→kC S A i d (cc,f)=R→zR c 26 t8 (D1 n M A S i cc f) (aT c [(0,aj R.1 R.2)] (.agg [.p (.int .i64 n),.ar 2 0 0 R.1])):=by
    intro d
    induction d with
    | zero =>
      intro i cc f hi hcc he
      have hd:decide ((i:Int)<(M:Int))=false:=by simp;omega
      rw [← he]
      refine be Tryz.func26 hc (LV n M A S i cc f) ?_
      and_intros
      all_goals (first | exact zI | (exact hd) | (intro j hj;simp [af]))
    | succ d ih =>
      intro i cc f hi hcc he
      have hd:decide ((i:Int)<(M:Int))=true:=by simp;omega
      have hh:=dN S (i:Int) (by omega)
      rw [kC] at he
      cases hb:a0 S.2 i S.1 with
      | true =>
        rw [hb] at he hh
        refine a7 hc (Nn n M A S i cc f) ?_ (ih (i+1) (cc+1) _ (by omega) (by omega) he)
        and_intros
        all_goals (first | exact zI | (exact hd) | (exact hh) | (intro j hj;by_cases h':j<cc<;>simp [h',aZ,ay,bh,tg,bu,af]))
      | false =>
        rw [hb] at he hh
        refine a7 hc (KF n M A S i cc f) ?_ (ih (i+1) cc _ (by omega) (by omega) he)
        and_intros
        all_goals (first | exact zI | (exact hd) | (exact hh) | (intro j hj;simp [af]))
  refine a7 hc (LY n M A S) ?_ (lp M 0 0 _ (by omega) (by omega) hR)
  and_intros
  all_goals (first | exact zI | (simp;done) | (intro j hj;simp [af]))
def D0 (g:Nat→aa) (nb N:Nat) (v i c:Nat) (h:Nat→aa) (e:Nat) (f:Nat→Int):St :=
  ⟨[bi g nb N,.p (.int .i64 v),.pt 2 0 0 0,.p .any,.pt 2 1 0 0,.p .any,.pt 2 2 0 0,.ar 1 3 0 e,.p .any,.p .any,.p .any,.p .any,.p .any,.p .any,.p .any,b4 g nb,.p (.int .i64 nb),.p (.int .i64 i)]++List.replicate 23 ag,
   [(0,ly g nb N),(1,z2),(2,Ho N 4 c),(3,aY e f),(4,aj c h)],5⟩
def Iy (N:Int) (n:Nat) (h:Nat→aa):St :=
  ⟨[.p .any,.p .any,.p .any,.p .any,.pt 2 0 0 0,.pt 2 1 0 0]++List.replicate 11 ag,[(0,z2),(1,Ho N 2 n),(2,aj n h)],3⟩
theorem NH (b:aa) (p:Int) :
    zS Tryz.f112 [rg 2,rg 11] [jZ b,jI p] [] [] (jB (bc b p)) =
    some (zD [(NT 0 1),(AG (!b.1==p)),(((!b.1==p)=true)→(NT 0 1)),(((b.1==p)=false)→((!b.1==p)=true)),((bif b.1==p then true else b.2.1==p)=(bc b p))] [0,1,2,1,1,3,4]):=by kernel_rfl
theorem Kt (g:Nat→aa) (nb N v:Nat) :
    zT Tryz.f94 [rg 3,rg 5,rg 2,rg 4,.head] [bi g nb N,jI v] [0,32,192,256] (D0 g nb N v 0 0 (fun _=>(0,0,())) 0 (fun _=>0)) =
    some (uU,zD [(NT 0 1),((true=true)→(AN 1)),(AI ((N:Int))),(AN nb),(AP nb (aH g)),(AI ((v:Int))),(AN 0),(AI ((nb:Int))),((0:Int)=(↑0:Int)),((([AV.p (PV.int IntKind.i64 (N:Int)),b4 g nb].length):Nat)=2),(NL 1 1),((((List.map (fun v=>AV.p (bZ v)) [Value.int IntKind.i64 0,Value.slice none 0 0]).length):Nat)=2),(AI 0),(AN 1),(NL 0 0),(AA 0 (fun i=>[.p (.int .i64 0)]))] [0,0,1,0,2,3,4,5,6,6,6,6,6,3,4,7,8,9,10,10,2,3,4,11,10,10,12,11,10,10,2,6,13,14,15,6]):=by kernel_rfl
theorem Kx (g:Nat→aa) (nb N v i c:Nat) (h:Nat→aa) (e:Nat) (f:Nat→Int) (o:Int) :
    zM 0 [rg 1,.dec true,rg 4,rm [(2,oc [] (jB true))] 0,.dec true,rm [(3,oc [] (jI o))] 3,rg 2,.head] uU (D0 g nb N v i c h e f) [0,1,2,421,4] 1 (D0 g nb N v (i+1) c h (e+1) (fun s=>if s<e then f s else o)) =
    some (uU,zD [((decide ((i:Int)<(nb:Int)))=true),(IL 0 (i:Int)),(IT (i:Int) (nb:Int)),(NT 0 1),((true=true)→(AN 1)),zE 112 [.agg [jI ((g i).1),jI ((g i).2.1)],jI (v:Int)] [] (jB true),(true=true),zE 113 [.agg [jI ((g i).1),jI ((g i).2.1)],jI (v:Int)] [] (jI o),(NL 1 1),(NL e e),(NL ((e+1)*8) 140737488355328),(NL (e+1) 9223372036854775807),(ax ((i:Int)+1)),(au ((i:Int)+1)),(AI ((N:Int))),(AN nb),(AP nb (aH g)),(AI ((v:Int))),(AN 0),(AN ((e+1))),(AI ((nb:Int))),((((i:Int)+1):Int)=(↑(i+1):Int)),(AN 2),(AI 0),(AN c),(AN 1),(NL (e+1) (e+1)),(CV [(421,⟨false,1,(e+1),(fun i_2=>(if (i_2<e) then [.p (.int .i64 (f i_2))] else [.p (.int .i64 o)]))⟩),(389,⟨false,1,1,(fun i_2=>[.p (.int .i64 o)])⟩),(101,⟨true,2,1,(fun i_2=>[.p (.int .i64 ((g i).1)),.p (.int .i64 ((g i).2.1))])⟩),(0,⟨true,2,1,(fun i_2=>[.p (.int .i64 (N:Int)),.p (.seq true 2 nb (aH g))])⟩),(1,⟨true,2,1,(fun i_2=>[.p (.int .i64 0),.p (.nil)])⟩),(2,⟨true,2,1,(fun i_2=>[.p (.int .i64 (N:Int)),.ar 2 4 0 c])⟩),(4,⟨false,2,c,(fun i_2=>[.p (.int .i64 ((h i_2).1)),.p (.int .i64 ((h i_2).2.1))])⟩)] [0,1,2,421,4] 1 (e+1) (fun i_1=>if (i_1<e) then [.p (.int .i64 (f i_1))] else [.p (.int .i64 o)]) (fun i_1=>[.p (.int .i64 (if i_1<e then f i_1 else o))])),(NL c c),(AA c (fun i_1=>[.p (.int .i64 ((h i_1).1)),.p (.int .i64 ((h i_1).2.1))]))] [0,1,2,3,4,3,5,6,3,7,8,9,10,11,12,13,14,15,16,17,18,18,18,18,19,15,16,20,21,22,8,8,14,15,16,22,8,8,23,22,8,8,14,18,24,25,26,27,22,28,29]):=by kernel_rfl
theorem N4 (g:Nat→aa) (nb N v i c:Nat) (h:Nat→aa) (e:Nat) (f:Nat→Int) :
    zM 0 [rg 1,.dec true,rg 4,rm [(2,oc [] (jB false))] 0,.dec false,rg 7,rg 2,.head] uU (D0 g nb N v i c h e f) [0,1,2,3,389] 1 (D0 g nb N v (i+1) (c+1) (aZ c h (g i)) e f) =
    some (uU,zD [((decide ((i:Int)<(nb:Int)))=true),(IL 0 (i:Int)),(IT (i:Int) (nb:Int)),(NT 0 1),((true=true)→(AN 1)),zE 112 [.agg [jI ((g i).1),jI ((g i).2.1)],jI (v:Int)] [] (jB false),(false=false),(NL 1 1),(NL c c),(NL ((c+1)*16) 140737488355328),(NL (c+1) 9223372036854775807),(ax ((i:Int)+1)),(au ((i:Int)+1)),(AI ((N:Int))),(AN nb),(AP nb (aH g)),(AI ((v:Int))),(AN 0),(AN e),(AI ((nb:Int))),((((i:Int)+1):Int)=(↑(i+1):Int)),(AN 2),(AI 0),(AN ((c+1))),(AN 1),(NL e e),(AA e (fun i_1=>[.p (.int .i64 (f i_1))])),(NL (c+1) (c+1)),(CV [(2,⟨true,2,1,(fun i_2=>[.p (.int .i64 (N:Int)),.ar 2 389 0 (c+1)])⟩),(389,⟨false,2,(c+1),(fun i_2=>(if (i_2<c) then [.p (.int .i64 ((h i_2).1)),.p (.int .i64 ((h i_2).2.1))] else [.p (.int .i64 ((g i).1)),.p (.int .i64 ((g i).2.1))]))⟩),(357,⟨false,2,1,(fun i_2=>[.p (.int .i64 ((g i).1)),.p (.int .i64 ((g i).2.1))])⟩),(101,⟨true,2,1,(fun i_2=>[.p (.int .i64 ((g i).1)),.p (.int .i64 ((g i).2.1))])⟩),(0,⟨true,2,1,(fun i_2=>[.p (.int .i64 (N:Int)),.p (.seq true 2 nb (aH g))])⟩),(1,⟨true,2,1,(fun i_2=>[.p (.int .i64 0),.p (.nil)])⟩),(3,⟨false,1,e,(fun i_2=>[.p (.int .i64 (f i_2))])⟩)] [0,1,2,3,389] 1 (c+1) (fun i_1=>if (i_1<c) then [.p (.int .i64 ((h i_1).1)),.p (.int .i64 ((h i_1).2.1))] else [.p (.int .i64 ((g i).1)),.p (.int .i64 ((g i).2.1))]) (fun i_1=>[.p (.int .i64 (if i_1<c then (h i_1).1 else (g i).1)),.p (.int .i64 (if i_1<c then (h i_1).2.1 else (g i).2.1))]))] [0,1,2,3,4,3,5,6,3,3,7,8,9,10,3,4,11,12,13,14,15,16,17,17,17,17,18,14,15,19,20,21,7,7,13,14,15,21,7,7,22,21,7,7,13,17,23,24,25,26,21,27,28]):=by kernel_rfl
theorem NN (g:Nat→aa) (nb N v i c:Nat) (h:Nat→aa) (e:Nat) (f r:Nat→Int) :
    zP Tryz.f94 0 [rg 1,.dec false,rm [(1,oq [3] [(0,aY e r)] (.tup []))] 0,rg 4] uU (D0 g nb N v i c h e f) [4,3] 1 [(0,aj c h),(1,aY e f)] (.tup [.agg [jI N,.ar 2 0 0 c],.ar 1 1 0 e]) =
    some [((decide ((i:Int)<(nb:Int)))=false),(AE e),Con Tryz.prog 114 1 [(0,⟨false,1,e,(fun i_1=>[.p (.int .i64 (f i_1))])⟩)] [.ar 1 0 0 e] [(0,⟨false,1,e,(fun i_1=>[.p (.int .i64 (r i_1))])⟩)] (.tup []),(NT 0 1),(NT 0 1),((true=true)→(AN 1)),(NT 0 1),(AI ((N:Int))),(AN 0),(AN c),(AN 0),(AN e),(AN 2),(NL c c),(AA c (fun i_1=>[.p (.int .i64 ((h i_1).1)),.p (.int .i64 ((h i_1).2.1))])),(AN 1),(NL e e),(∀ i_1:Nat,(((i_1:Nat)<e)→(af []∧(([.p (.int .i64 (r i_1))]:List AV)=[.p (.int .i64 (f i_1))])))),(AE c),(AE e)]:=by kernel_rfl
theorem NK (N n:Nat) (h:Nat→aa) :
    zS Tryz.f24 [rg 2,rg 8] [bi h n N] [224] [(0,aj n h)] (.agg [jI N,.ar 2 0 0 n]) =
    some [(NT 0 1),(NT 0 1),(NL 0 0),(NL ((0+n)*16) 140737488355328),(NL (0+n) 9223372036854775807),(NT 0 1),((true=true)→(AN 1)),(NT 0 1),(AI ((N:Int))),(AN 0),(((0+n):Nat)=n),(AN 2),(NL n (0+n)),(AA n (fun i=>[.p (.int .i64 ((h i).1)),.p (.int .i64 ((h i).2.1))])),(AE n)]:=by kernel_rfl
theorem KW (N n:Nat) (h:Nat→aa) (x:aa) :
    zT Tryz.f95 [rg 2,rm [(1,oc [(0,aj n h)] (.agg [jI N,.ar 2 0 0 n]))] 2,rg 6,.head] [bi h n N,.p (.seq true 2 1 (fun _=>[.int .i64 x.1,.int .i64 x.2.1]))] [32,128,288] (Iy N (n+1) (aZ n h x)) =
    some (Bt,zD [(NT 0 1),zE 24 [(ak N n h)] (bg n h) (.agg [jI (N:Int),.ar 2 0 0 n]),((true=true)→(AN 1)),(NL n n),(NL ((n+1)*16) 140737488355328),(NL (n+1) 9223372036854775807),(AN 0),((((List.map (fun v=>AV.p (bZ v)) [Value.int IntKind.i64 0,Value.slice none 0 0]).length):Nat)=2),(NL 1 1),(AI 0),(AI ((N:Int))),(AN ((n+1))),(AN 2),(NL (n+1) (n+1)),(CV [(128,⟨true,2,1,(fun i_1=>[.p (.int .i64 (N:Int)),.ar 2 288 0 (n+1)])⟩),(288,⟨false,2,(n+1),(fun i_1=>(if (i_1<n) then [.p (.int .i64 ((h i_1).1)),.p (.int .i64 ((h i_1).2.1))] else [.p (.int .i64 x.1),.p (.int .i64 x.2.1)]))⟩),(32,⟨true,2,1,(fun i_1=>[.p (.int .i64 0),.p (.nil)])⟩),(0,⟨true,2,1,(fun i_1=>[.p (.int .i64 (N:Int)),.p (.seq true 2 n (aH h))])⟩)] [32,128,288] 1 (n+1) (fun i=>if (i<n) then [.p (.int .i64 ((h i).1)),.p (.int .i64 ((h i).2.1))] else [.p (.int .i64 x.1),.p (.int .i64 x.2.1)]) (fun i=>[.p (.int .i64 (if i<n then (h i).1 else x.1)),.p (.int .i64 (if i<n then (h i).2.1 else x.2.1))]))] [0,1,0,2,0,3,4,5,0,2,6,6,7,8,8,9,7,8,8,10,6,11,12,13,14]):=by kernel_rfl
theorem JP (N n:Nat) (h r:Nat→aa) :
    zP Tryz.f95 0 [rm [(2,oq [2] [(0,aj n r)] (.tup []))] 0,rg 2] Bt (Iy N n h) [2] 1 [(0,aj n r)] (.agg [jI N,.ar 2 0 0 n]) =
    some [(NT 0 1),(AE n),Con Tryz.prog 115 1 (bg n h) [.ar 2 0 0 n,.p (.fn 59)] (bg n r) (.tup []),(NT 0 1),(NT 0 1),((true=true)→(AN 1)),(NT 0 1),(AI ((N:Int))),(AN 0),(AN n),(AN 2),(NL n n),(AA n (fun i=>[.p (.int .i64 ((r i).1)),.p (.int .i64 ((r i).2.1))])),(AE n)]:=by kernel_rfl
theorem BM {n:Nat} {f:Nat→Int} (h:∀ s t,s<t→t<n→f s≤f t):∀ j,j<n→BJ (yb (jP n f)) j=f j:=by
  have hp:(jP n f).Pairwise (fun x y=>decide (x≤y)=true):=by
    unfold jP
    rw [List.pairwise_map]
    refine List.Pairwise.imp_of_mem (R:=(· < ·)) (fun {a b} ha hb hab=>?_) List.pairwise_lt_range
    exact decide_eq_true (h a b hab (by simpa using hb))
  intro j hj
  unfold yb
  rw [List.mergeSort_of_pairwise hp]
  simp [BJ,jP,hj]
theorem Bi (b:aa) (p:Int):zE 112 [jZ b,.p (.int .i64 p)] [] (.p (.bool (bc b p))):=by
  refine aW Tryz.func112 (fun c hc=>?_)
  refine bB Tryz.func112 hc (NH b p) ?_
  and_intros
  all_goals (first | exact zH)
theorem sz {N nb:Nat} {g:Nat→aa} (hok:aO N nb g) (ha:nU nb g) (hN:N≤8) (hnb:nb≤24) (v:Nat) (hv:v≤8) :
    zE 94 [bi g nb N,.p (.int .i64 v)] [(0,aj (ba g v nb).1 (ba g v nb).2),(1,aY (bq g v nb).1 (bq g v nb).2)] (.tup [.agg [.p (.int .i64 N),.ar 2 0 0 (ba g v nb).1],.ar 1 1 0 (bq g v nb).1]):=by
  refine aW Tryz.func94 (fun c hc=>?_)
  have hasc:=(yH v hok ha nb (Nat.le_refl _)).2
  have hnn:=iL g v nb
  have hsrt:=yn (bq g v nb).1 (bq g v nb).2 (by omega)
  have hid:=BM hasc
  generalize hR:bq g v nb=R at hasc hsrt hid
  generalize hD:ba g v nb=D
  have lo:∀ d i,i+d=nb→zR c 94 uU (D0 g nb N v i (ba g v i).1 (ba g v i).2 (bq g v i).1 (bq g v i).2) (aT c [(0,aj D.1 D.2),(1,aY R.1 R.2)] (.tup [.agg [.p (.int .i64 N),.ar 2 0 0 D.1],.ar 1 1 0 R.1])):=by
    intro d
    induction d with
    | zero =>
      intro i hi
      obtain rfl:i=nb:=by omega
      have hd:decide ((i:Int)<(i:Int))=false:=by simp
      rw [hR,hD]
      refine be Tryz.func94 hc (NN g i N v i D.1 D.2 R.1 R.2 (BJ (yb (jP R.1 R.2)))) ?_
      and_intros
      iterate 2 all_goals (first | exact zI | (exact hd) | (exact hsrt) | (intro t ht;simp [af];done) | (intro t ht;simp [hid t ht,ay,bh,tg,af]) | simp only [af])
    | succ d ih =>
      intro i hi
      have hd:decide ((i:Int)<(nb:Int))=true:=decide_eq_true (by omega)
      have hrec:=ih (i+1) (by omega)
      have hn:=iL g v i
      have hb:=hok i (by omega)
      have ho:=ox (g i) v
      have hh0:=Bi (g i) v
      cases hh:bc (g i) v with
      | true =>
        rw [hh] at hh0
        rw [show bq g v (i+1)=((bq g v i).1+1,fun s=>if s<(bq g v i).1 then (bq g v i).2 s else aw (g i) v) by simp [bq,hh],
          show ba g v (i+1)=ba g v i by simp [ba,hh]] at hrec
        generalize bq g v i=q at hrec hn ⊢
        generalize ba g v i=q2 at hrec hn ⊢
        refine a7 hc (Kx g nb N v i q2.1 q2.2 q.1 q.2 (aw (g i) v)) ?_ hrec
        and_intros
        all_goals (first | exact zI | (exact hd) | (exact hh0) | (exact ho) | (simp;done) | (simp;omega) | (intro t ht;by_cases h':t<q.1<;>(simp [h',ay,bh,tg,bu,af];done)) | (intro t ht;simp [af]))
      | false =>
        rw [hh] at hh0
        rw [show bq g v (i+1)=bq g v i by simp [bq,hh],show ba g v (i+1)=sn (ba g v i) (g i) by simp [ba,hh]] at hrec
        generalize bq g v i=q at hrec hn ⊢
        generalize ba g v i=q2 at hrec hn ⊢
        refine a7 hc (N4 g nb N v i q2.1 q2.2 q.1 q.2) ?_ hrec
        and_intros
        all_goals (first | exact zI | (exact hd) | (exact hh0) | (simp;done) | (simp;omega) | (intro t ht;by_cases h':t<q2.1<;>(simp [h',aZ,ay,bh,tg,bu,af];done)) | (intro t ht;simp [af]))
  refine a7 hc (Kt g nb N v) ?_ (lo nb 0 (by omega))
  and_intros
  all_goals (first | exact zI | (simp;done) | (intro t ht;exact absurd ht (Nat.not_lt_zero _)) | (intro t ht;simp [af]))
theorem im (N n:Nat) (h:Nat→aa) (hn:n≤1048576):zE 24 [bi h n N] [(0,aj n h)] (.agg [.p (.int .i64 N),.ar 2 0 0 n]):=by
  refine aW Tryz.func24 (fun c hc=>?_)
  refine be Tryz.func24 hc (NK N n h) ?_
  and_intros
  all_goals (first | exact zI | (intro j hj;simp [af];done) | (simp;try omega))
theorem gK (N n:Nat) (h:Nat→aa) (x:aa) (hn:n≤1000):zE 95 [bi h n N,.p (.seq true 2 1 (fun _=>[.int .i64 x.1,.int .i64 x.2.1]))]
    [(0,aj (n+1) (df (n+1) (aZ n h x)))] (.agg [.p (.int .i64 N),.ar 2 0 0 (n+1)]):=by
  have h1:=im N n h (by omega)
  have h2:=jn (n+1) (aZ n h x) (by omega)
  generalize df (n+1) (aZ n h x)=r at h2 ⊢
  refine aW Tryz.func95 (fun c hc=>?_)
  refine a7 hc (KW N n h x) ?_ (be Tryz.func95 hc (JP N (n+1) (aZ n h x) r) ?_)
  ·
    and_intros
    all_goals (first | exact zI | (exact h1) | (intro j hj;by_cases h':j<n<;>simp [h',aZ,ay,bh,tg,bu,af];done) | (intro j hj;simp [af];done) | (simp;try omega))
  ·
    and_intros
    all_goals (first | exact zH | (exact h2) | (intro j hj;simp [af];done) | (simp;try omega))
def gl (w i:Int):Bool:=bl .and .i64 (bS .i64 w i) 1==1
theorem lL (m i:Nat) (hi:i<62):bS .i64 (m:Int) (i:Int)=((m >>> i:Nat):Int):=by
  unfold bS
  have:min (i:Int).toNat IntKind.i64.bits=i:=by simp [IntKind.bits];omega
  rw [this,Int.fdiv_eq_ediv_of_nonneg _ (Int.le_of_lt (Int.pow_pos (by omega))),Nat.shiftRight_eq_div_pow]
  simp
theorem uI (x:Nat):BitVec.ofInt 64 (x:Int)=BitVec.ofNat 64 x:=by
  simp
theorem lE (m:Nat) (i:Nat) (hm:m<2 ^ 62) (hi:i<62):gl (m:Int) (i:Int)=m.testBit i:=by
  unfold gl
  rw [lL m i hi]
  have hle:m >>> i≤m:=Nat.shiftRight_le m i
  rw [Nat.testBit_eq_decide_div_mod_eq,← Nat.shiftRight_eq_div_pow]
  generalize m >>> i=x at hle ⊢
  have e:bl .and .i64 ((x:Nat):Int) 1=((x % 2:Nat):Int):=by
    unfold bl
    have e1:(BitVec.ofInt IntKind.i64.bits ((x:Nat):Int) &&& BitVec.ofInt IntKind.i64.bits 1).toNat=x % 2:=by
      rw [BitVec.toNat_and]
      show ((BitVec.ofInt 64 ((x:Nat):Int)).toNat &&& 1)=_
      rw [uI,BitVec.toNat_ofNat,Nat.mod_eq_of_lt (by omega),Nat.and_one_is_mod]
    simp only [e1]
    exact eE (by simp only [lA];omega) (by simp only [jN];omega)
  rw [e]
  rcases Nat.mod_two_eq_zero_or_one x with h | h<;>simp [h]
theorem Cy (e:Nat) (he:e<62):pT .i64 1 (e:Int)=((2 ^ e:Nat):Int):=by
  unfold pT
  have:min (e:Int).toNat IntKind.i64.bits=e:=by simp [IntKind.bits];omega
  rw [this]
  have h2:2 ^ e<2 ^ 62:=Nat.pow_lt_pow_right (by omega) he
  have h3:(1:Int)*2 ^ e=((2 ^ e:Nat):Int):=by simp
  rw [h3]
  generalize 2 ^ e=q at h2
  exact eE (by simp only [lA];omega) (by simp only [jN];omega)
def DZ (w M i c:Nat) (f:Nat→Int):St:=⟨[.p (.int .i64 w),.p (.int .i64 M),.p .any,.p .any,.p .any,.ar 1 0 0 c,.p .any,.p .any,.p (.int .i64 M),.p (.int .i64 i)]++List.replicate 13 ag,[(0,aY c f)],1⟩
theorem Km (w M:Nat) :
    zT Tryz.f69 [rg 1,rg 2,rg 2,.head] [jI w,jI M] [32] (DZ w M 0 0 (fun _=>0)) =
    some (uy,[(AI ((w:Int))),(AI ((M:Int))),(AN 0),(AN 0),(AI ((M:Int))),((0:Int)=(↑0:Int)),(AN 1),(NL 0 0),(AA 0 (fun i=>[.p (.int .i64 0)]))]):=by kernel_rfl
theorem Np (w M i c:Nat) (f:Nat→Int) :
    zM 0 [rg 1,.dec true,rg 2,rg 5,.dec true,rg 5,rg 2,.head] uy (DZ w M i c f) [353] 1 (DZ w M (i+1) (c+1) (fun s=>if s<c then f s else i)) =
    some (uy,[((decide ((i:Int)<(M:Int)))=true),(IL 0 (i:Int)),((bl BinOp.and IntKind.i64 (bS IntKind.i64 (w:Int) (i:Int)) 1==1)=true),(NL 1 1),(NL c c),(NL ((c+1)*8) 140737488355328),(NL (c+1) 9223372036854775807),(ax ((i:Int)+1)),(au ((i:Int)+1)),(AI ((w:Int))),(AI ((M:Int))),(AN 0),(AN ((c+1))),(AI ((M:Int))),((((i:Int)+1):Int)=(↑(i+1):Int)),(AN 1),(NL (c+1) (c+1)),(CV [(353,⟨false,1,(c+1),(fun i_2=>(if (i_2<c) then [.p (.int .i64 (f i_2))] else [.p (.int .i64 (i:Int))]))⟩),(321,⟨false,1,1,(fun i_2=>[.p (.int .i64 (i:Int))])⟩)] [353] 1 (c+1) (fun i_1=>if (i_1<c) then [.p (.int .i64 (f i_1))] else [.p (.int .i64 (i:Int))]) (fun i_1=>[.p (.int .i64 (if i_1<c then f i_1 else (i:Int)))]))]):=by kernel_rfl
theorem J4 (w M i c:Nat) (f:Nat→Int) :
    zM 0 [rg 1,.dec true,rg 2,rg 5,.dec false,rg 2,.head] uy (DZ w M i c f) [0] 1 (DZ w M (i+1) c f) =
    some (uy,[((decide ((i:Int)<(M:Int)))=true),(IL 0 (i:Int)),((bl BinOp.and IntKind.i64 (bS IntKind.i64 (w:Int) (i:Int)) 1==1)=false),(ax ((i:Int)+1)),(au ((i:Int)+1)),(AI ((w:Int))),(AI ((M:Int))),(AN 0),(AN c),(AI ((M:Int))),((((i:Int)+1):Int)=(↑(i+1):Int)),(AN 1),(NL c c),(AA c (fun i_1=>[.p (.int .i64 (f i_1))]))]):=by kernel_rfl
theorem L0 (w M i c:Nat) (f:Nat→Int) :
    zP Tryz.f69 0 [rg 1,.dec false,rg 2] uy (DZ w M i c f) [0] 1 [(0,aY c f)] (.ar 1 0 0 c) =
    some [((decide ((i:Int)<(M:Int)))=false),(AN 0),(AN c),(AN 1),(NL c c),(AA c (fun i_1=>[.p (.int .i64 (f i_1))])),(AE c)]:=by kernel_rfl
def bD (w:Nat):Nat→ad
  | 0=>(0,fun _=>0)
  | i+1=>if gl w i=true then ((bD w i).1+1,fun s=>if s<(bD w i).1 then (bD w i).2 s else i) else bD w i
theorem sE (w:Nat):∀ i,(bD w i).1≤i
  | 0=>Nat.le_refl _
  | i+1=>by
    have:=sE w i
    simp only [bD]
    split
    · show (bD w i).1+1≤i+1;omega
    · omega
theorem yc (w M:Nat) (hM:M≤62):zE 69 [.p (.int .i64 w),.p (.int .i64 M)] [(0,aY (bD w M).1 (bD w M).2)] (.ar 1 0 0 (bD w M).1):=by
  refine aW Tryz.func69 (fun c hc=>?_)
  generalize hR:bD w M=R
  have lo:∀ d i,i+d=M→zR c 69 uy (DZ w M i (bD w i).1 (bD w i).2) (aT c [(0,aY R.1 R.2)] (.ar 1 0 0 R.1)):=by
    intro d
    induction d with
    | zero =>
      intro i hi
      obtain rfl:i=M:=by omega
      have hd:decide ((i:Int)<(i:Int))=false:=by simp
      rw [hR]
      refine be Tryz.func69 hc (L0 w i i R.1 R.2) ?_
      and_intros
      all_goals (first | exact zN | (exact hd) | (intro t ht;simp [af]))
    | succ d ih =>
      intro i hi
      have hd:decide ((i:Int)<(M:Int))=true:=decide_eq_true (by omega)
      have hrec:=ih (i+1) (by omega)
      have hn:=sE w i
      cases hb:gl w i with
      | true =>
        rw [show bD w (i+1)=((bD w i).1+1,fun s=>if s<(bD w i).1 then (bD w i).2 s else i) by simp [bD,hb]] at hrec
        generalize bD w i=q at hn hrec ⊢
        refine cW hc (Np w M i q.1 q.2) ?_ hrec
        and_intros
        all_goals (first | exact zN | (exact hd) | (exact hb) | (intro t ht;by_cases h':t<q.1<;>simp [h',ay,bh,tg,bu,af]))
      | false =>
        rw [show bD w (i+1)=bD w i by simp [bD,hb]] at hrec
        generalize bD w i=q at hn hrec ⊢
        refine cW hc (J4 w M i q.1 q.2) ?_ hrec
        and_intros
        all_goals (first | exact zN | (exact hd) | (exact hb) | (intro t ht;simp [af]))
  refine cW hc (Km w M) ?_ (lo M 0 (by omega))
  and_intros
  all_goals (first | exact zN | (intro t ht;exact absurd ht (Nat.not_lt_zero _)) | (intro t ht;simp [af]))
def D9 (w v:Int):Int:=bl .and .i64 (bS .i64 w v) 1
def C3 (w a b:Int):Int:=bl .and .i64 (bl .and .i64 (bS .i64 w a) (bS .i64 w b)) 1
def Dq (g:Nat→aa) (nb N k l m:Nat) (F T Q:Nat→Int) (i c:Nat) (f:Nat→Int):St :=
  ⟨[bi g nb N,.p (.int .i64 k),.p (.int .i64 l),.pt 2 0 0 0,.p .any,.p .any,.p .any,.ar 1 1 0 c,.pt 3 2 0 0,.p (.bool true),.p (.int .i64 i)]++List.replicate 28 ag,
   [(0,ly g nb N),(1,aY c f),(2,Cw N m 3),(3,aY N F),(4,aY m T),(5,aY m Q)],6⟩
def EP (g:Nat→aa) (nb N k l w:Nat):St :=
  ⟨[bi g nb N,.p (.int .i64 k),.p (.int .i64 l),.pt 2 0 0 0,.p .any,.p .any,.p .any,.p .any,.p (.int .i64 w)]++List.replicate 70 ag,[(0,ly g nb N)],1⟩
def Fz (g:Nat→aa) (nb N k l w:Nat) (s:Int) (v:Nat):St :=
  ⟨[bi g nb N,.p (.int .i64 k),.p (.int .i64 l),.pt 2 0 0 0,.p .any,.p .any,.p .any,.p .any,.p (.int .i64 w),.p (.int .i64 s),.p (.int .i64 0)]++List.replicate 21 ag++[.p (.int .i64 N),.p (.int .i64 v)]++List.replicate 45 ag,[(0,ly g nb N)],1⟩
def Ev (g:Nat→aa) (nb N k l w:Nat) (s q:Int) (i:Nat):St :=
  ⟨[bi g nb N,.p (.int .i64 k),.p (.int .i64 l),.pt 2 0 0 0,.p .any,.p .any,.p .any,.p .any,.p (.int .i64 w),.p (.int .i64 s),.p (.int .i64 q)]++List.replicate 33 ag++[b4 g nb,.p (.int .i64 nb),.p (.int .i64 i)]++List.replicate 32 ag,[(0,ly g nb N)],1⟩
theorem Oj (g:Nat→aa) (nb N k l m:Nat) (F T Q:Nat→Int) :
    zT Tryz.f11 [rg 2,rg 2,rm [(3,oc (bj N m F T Q) (.tup [bf N m 0,jB true]))] 6,rg 1,.head] [bi g nb N,jI k,jI l] [0,64,352,224,225,226] (Dq g nb N k l m F T Q 0 0 (fun _=>0)) =
    some (tK,zD [(NT 0 1),zE 43 [(ak N nb g),jI (k:Int),jI (l:Int)] (ef N F m T Q) ((oZ N m)),((true=true)→(AN 1)),(AI ((N:Int))),(AN nb),(AP nb (aH g)),(AI ((k:Int))),(AI ((l:Int))),(AN 0),(true=true),((0:Int)=(↑0:Int)),((([AV.p (PV.int IntKind.i64 (N:Int)),b4 g nb].length):Nat)=2),(NL 1 1),(AN 1),(NL 0 0),(AA 0 (fun i=>[.p (.int .i64 0)])),((((List.map (fun v=>AV.p (bZ v)) [Value.slice none 0 0,Value.slice none 0 0,Value.slice none 0 0]).length):Nat)=3),(AN N),(AN m),(NL N N),(AA N (fun i=>[.p (.int .i64 (F i))])),(NL m m),(AA m (fun i=>[.p (.int .i64 (T i))])),(AA m (fun i=>[.p (.int .i64 (Q i))]))] [0,1,0,2,3,4,5,6,7,8,8,8,8,9,10,11,12,12,3,4,5,13,14,15,16,12,12,8,17,8,18,8,18,13,19,20,13,21,22,13,21,23]):=by kernel_rfl
theorem KD (g:Nat→aa) (nb N k l m:Nat) (F T Q:Nat→Int) (i c:Nat) (f:Nat→Int) :
    zM 0 [rg 8,.dec true,rm [(3,oc [] (jB false))] 1,.dec true,rg 5,rg 3,.head] tK (Dq g nb N k l m F T Q i c f) [0,518,2,3,4,5] 1 (Dq g nb N k l m F T Q (i+1) (c+1) (fun s=>if s<c then f s else i)) =
    some (tK,zD (let A:Bool:=decide ((i:Int)<(nb:Int));[(NT 0 1),(AG A),((bif A then true else false)=true),(AN 1),(NL m m),zE 44 [.p (.seq true 1 m (fun i_1=>[.int .i64 (Q i_1)])),jI (i:Int)] [] (jB false),((!false)=true),(NL 1 1),(NL c c),(NL ((c+1)*8) 140737488355328),(NL (c+1) 9223372036854775807),(ax ((i:Int)+1)),(au ((i:Int)+1)),(AI ((N:Int))),(AN nb),(AP nb (aH g)),(AI ((k:Int))),(AI ((l:Int))),(AN 0),(AN ((c+1))),(true=true),((((i:Int)+1):Int)=(↑(i+1):Int)),(AN 2),(NL (c+1) (c+1)),(CV [(518,⟨false,1,(c+1),(fun i_2=>(if (i_2<c) then [.p (.int .i64 (f i_2))] else [.p (.int .i64 (i:Int))]))⟩),(486,⟨false,1,1,(fun i_2=>[.p (.int .i64 (i:Int))])⟩),(0,⟨true,2,1,(fun i_2=>[.p (.int .i64 (N:Int)),.p (.seq true 2 nb (aH g))])⟩),(2,⟨true,3,1,(fun i_2=>[.ar 1 3 0 N,.ar 1 4 0 m,.ar 1 5 0 m])⟩),(3,⟨false,1,N,(fun i_2=>[.p (.int .i64 (F i_2))])⟩),(4,⟨false,1,m,(fun i_2=>[.p (.int .i64 (T i_2))])⟩),(5,⟨false,1,m,(fun i_2=>[.p (.int .i64 (Q i_2))])⟩)] [0,518,2,3,4,5] 1 (c+1) (fun i_1=>if (i_1<c) then [.p (.int .i64 (f i_1))] else [.p (.int .i64 (i:Int))]) (fun i_1=>[.p (.int .i64 (if i_1<c then f i_1 else (i:Int)))])),(AN 3),(AN N),(AN m),(NL N N),(AA N (fun i_1=>[.p (.int .i64 (F i_1))])),(AA m (fun i_1=>[.p (.int .i64 (T i_1))])),(AA m (fun i_1=>[.p (.int .i64 (Q i_1))]))]) [0,1,2,0,3,4,5,6,7,8,9,10,11,12,13,14,15,16,17,18,18,19,18,20,21,22,7,7,13,14,15,3,23,24,25,7,7,18,26,18,27,18,27,3,28,29,3,4,30,3,4,31]):=by kernel_rfl
theorem Nm (g:Nat→aa) (nb N k l m:Nat) (F T Q:Nat→Int) (i c:Nat) (f:Nat→Int) :
    zM 0 [rg 8,.dec true,rm [(3,oc [] (jB true))] 1,.dec false,rg 3,.head] tK (Dq g nb N k l m F T Q i c f) [0,1,2,3,4,5] 1 (Dq g nb N k l m F T Q (i+1) c f) =
    some (tK,zD (let A:Bool:=decide ((i:Int)<(nb:Int));[(NT 0 1),(AG A),((bif A then true else false)=true),(AN 1),(NL m m),zE 44 [.p (.seq true 1 m (fun i_1=>[.int .i64 (Q i_1)])),jI (i:Int)] [] (jB true),((!true)=false),(ax ((i:Int)+1)),(au ((i:Int)+1)),(AI ((N:Int))),(AN nb),(AP nb (aH g)),(AI ((k:Int))),(AI ((l:Int))),(AN 0),(AN c),(true=true),((((i:Int)+1):Int)=(↑(i+1):Int)),(AN 2),(NL 1 1),(NL c c),(AA c (fun i_1=>[.p (.int .i64 (f i_1))])),(AN 3),(AN N),(AN m),(NL N N),(AA N (fun i_1=>[.p (.int .i64 (F i_1))])),(AA m (fun i_1=>[.p (.int .i64 (T i_1))])),(AA m (fun i_1=>[.p (.int .i64 (Q i_1))]))]) [0,1,2,0,3,4,5,6,7,8,9,10,11,12,13,14,14,15,14,16,17,18,19,19,9,10,11,3,20,21,22,19,19,14,23,14,24,14,24,3,25,26,3,4,27,3,4,28]):=by kernel_rfl
theorem LB (g:Nat→aa) (nb N k l m:Nat) (F T Q:Nat→Int) (i c:Nat) (f:Nat→Int) :
    zP Tryz.f11 0 [rg 8,.dec false,rg 2] tK (Dq g nb N k l m F T Q i c f) [1] 1 [(0,aY c f)] (.ar 1 0 0 c) =
    some (let A:Bool:=decide ((i:Int)<(nb:Int));[(NT 0 1),(AG A),((bif A then true else false)=false),(AN 0),(AN c),(AN 1),(NL c c),(AA c (fun i_1=>[.p (.int .i64 (f i_1))])),(AE c)]):=by kernel_rfl
theorem LO (g:Nat→aa) (nb N k l:Nat) :
    zT Tryz.f29 [rg 3,rm [(1,oc [] (jB true)),(4,oc [] (jB true))] 2,.dec false,rg 1,.head] [bi g nb N,jI k,jI l] [0] (EP g nb N k l 1) =
    some (xe,zD [(NT 0 1),zE 23 [(ak N nb g)] [] (jB true),(AG (!!true)),(((!!true)=true)→zE 68 [jI (k:Int),jI (l:Int)] [] (jB true)),(((!true)=false)→((!!true)=true)),((bif !true then true else !true)=false),(AI ((N:Int))),(AN nb),(AP nb (aH g)),(AI ((k:Int))),(AI ((l:Int))),(AN 0),((1:Int)=(↑1:Int)),((([AV.p (PV.int IntKind.i64 (N:Int)),b4 g nb].length):Nat)=2),(NL 1 1)] [0,1,2,2,3,2,4,5,6,7,8,9,10,11,12,13,14,14,6,7,8]):=by kernel_rfl
theorem LM (g:Nat→aa) (nb N k l w:Nat) :
    zM 0 [rg 5,.dec true,rg 2,rg 3,.head] xe (EP g nb N k l w) [0] 1 (Fz g nb N k l w 0 0) =
    some (Br,zD [(NT 0 1),(IL 0 (N:Int)),((decide ((w:Int)<pT IntKind.i64 1 (N:Int)))=true),(AI ((N:Int))),(AN nb),(AP nb (aH g)),(AI ((k:Int))),(AI ((l:Int))),(AN 0),(AI ((w:Int))),(AI 0),((0:Int)=(↑0:Int)),(AN 2),(NL 1 1)] [0,1,2,0,3,4,5,6,7,8,9,10,10,3,11,12,13,13,3,4,5]):=by kernel_rfl
theorem NS (g:Nat→aa) (nb N k l w:Nat) :
    zP Tryz.f29 0 [rg 5,.dec false,rg 3] xe (EP g nb N k l w) [161] 1 [(0,aY 0 (fun _=>0))] (.tup [.ar 1 0 0 0,jB false]) =
    some [(NT 0 1),(IL 0 (N:Int)),((decide ((w:Int)<pT IntKind.i64 1 (N:Int)))=false),(AN 0),(AN 0),(false=false),(AN 1),(NL 0 0),(AA 0 (fun i=>[.p (.int .i64 0)])),(AE 0)]:=by kernel_rfl
theorem Ng (g:Nat→aa) (nb N k l w:Nat) (s:Int) (v:Nat) :
    zM 0 [rg 1,.dec true,rg 2,rg 7,rg 2,.head] Br (Fz g nb N k l w s v) [0] 1 (Fz g nb N k l w (s+D9 w v) (v+1)) =
    some (Br,zD [((decide ((v:Int)<(N:Int)))=true),(IL 0 (v:Int)),(ax (s+bl BinOp.and IntKind.i64 (bS IntKind.i64 (w:Int) (v:Int)) 1)),(au (s+bl BinOp.and IntKind.i64 (bS IntKind.i64 (w:Int) (v:Int)) 1)),(ax ((v:Int)+1)),(au ((v:Int)+1)),(AI ((N:Int))),(AN nb),(AP nb (aH g)),(AI ((k:Int))),(AI ((l:Int))),(AN 0),(AI ((w:Int))),(((s+bl BinOp.and IntKind.i64 (bS IntKind.i64 (w:Int) (v:Int)) 1):Int)=(s+D9 (w:Int) (v:Int))),(AI 0),((((v:Int)+1):Int)=(↑(v+1):Int)),(AN 2),(NL 1 1)] [0,1,2,3,4,5,6,7,8,9,10,11,12,13,14,6,15,16,17,17,6,7,8]):=by kernel_rfl
theorem KS (g:Nat→aa) (nb N k l w:Nat) (s:Int) (v:Nat) :
    zM 0 [rg 1,.dec false,rg 4,.head] Br (Fz g nb N k l w s v) [0] 1 (Ev g nb N k l w s 0 0) =
    some (th,zD [((decide ((v:Int)<(N:Int)))=false),(NT 0 1),(AI ((N:Int))),(AN nb),(AP nb (aH g)),(AI ((k:Int))),(AI ((l:Int))),(AN 0),(AI ((w:Int))),(AI s),(AI 0),(AI ((nb:Int))),((0:Int)=(↑0:Int)),(AN 2),(NL 1 1)] [0,1,2,3,4,5,6,7,8,9,10,3,4,11,12,13,14,14,2,3,4]):=by kernel_rfl
theorem Nh (g:Nat→aa) (nb N k l w:Nat) (s q:Int) (i:Nat) :
    zM 0 [rg 1,.dec true,rg 4,rg 13,rg 2,.head] th (Ev g nb N k l w s q i) [0] 1 (Ev g nb N k l w s (q+C3 w (g i).1 (g i).2.1) (i+1)) =
    some (th,[((decide ((i:Int)<(nb:Int)))=true),(IL 0 (i:Int)),(IT (i:Int) (nb:Int)),(NT 0 1),((true=true)→(AN 1)),(NT 0 1),(IL 0 ((g i).1)),(NT 0 1),(IL 0 ((g i).2.1)),(ax (q+bl BinOp.and IntKind.i64 (bl BinOp.and IntKind.i64 (bS IntKind.i64 (w:Int) (g i).1) (bS IntKind.i64 (w:Int) (g i).2.1)) 1)),(au (q+bl BinOp.and IntKind.i64 (bl BinOp.and IntKind.i64 (bS IntKind.i64 (w:Int) (g i).1) (bS IntKind.i64 (w:Int) (g i).2.1)) 1)),(ax ((i:Int)+1)),(au ((i:Int)+1)),(AI ((N:Int))),(AN nb),(AP nb (aH g)),(AI ((k:Int))),(AI ((l:Int))),(AN 0),(AI ((w:Int))),(AI s),(((q+bl BinOp.and IntKind.i64 (bl BinOp.and IntKind.i64 (bS IntKind.i64 (w:Int) (g i).1) (bS IntKind.i64 (w:Int) (g i).2.1)) 1):Int)=(q+C3 (w:Int) (g i).1 (g i).2.1)),(AN nb),(AP nb (aH g)),(AI ((nb:Int))),((((i:Int)+1):Int)=(↑(i+1):Int)),(AN 2),(NL 1 1),(NL 1 1),(AI ((N:Int))),(AN nb),(AP nb (aH g))]):=by kernel_rfl
theorem LZ (g:Nat→aa) (nb N k l w:Nat) (s q:Int) (i c:Nat) (f:Nat→Int) :
    zP Tryz.f29 0 [rg 1,.dec false,rg 11,.dec true,rm [(3,oc [(0,aY c f)] (.ar 1 0 0 c))] 2] th (Ev g nb N k l w s q i) [481] 1 [(0,aY c f)] (.tup [.ar 1 0 0 c,jB true]) =
    some (zD (let A:Bool:=decide (q>0);[((decide ((i:Int)<(nb:Int)))=false),(AG A),((A=true)→(ax ((k:Int)*s))),((A=true)→(au ((k:Int)*s))),((A=true)→(ax ((k:Int)*s - (l:Int)))),((A=true)→(au ((k:Int)*s - (l:Int)))),((bif A then decide (q>(k:Int)*s - (l:Int)) else false)=true),(NT 0 1),zE 69 [jI (w:Int),jI (N:Int)] [(0,⟨false,1,c,(fun i_1=>[.p (.int .i64 (f i_1))])⟩)] (.ar 1 0 0 c),(AN 0),(AN c),(true=true),(AN 1),(NL c c),(AA c (fun i_1=>[.p (.int .i64 (f i_1))])),(AE c)]) [0,1,1,2,3,1,1,4,5,1,1,1,6,7,8,9,10,11,12,13,14,15]):=by kernel_rfl
theorem Nt (g:Nat→aa) (nb N k l w:Nat) (s q:Int) (i:Nat) :
    zM 0 [rg 1,.dec false,rg 11,.dec false,rg 3,.head] th (Ev g nb N k l w s q i) [0] 1 (EP g nb N k l (w+1)) =
    some (xe,zD (let A:Bool:=decide (q>0);[((decide ((i:Int)<(nb:Int)))=false),(AG A),((A=true)→(ax ((k:Int)*s))),((A=true)→(au ((k:Int)*s))),((A=true)→(ax ((k:Int)*s - (l:Int)))),((A=true)→(au ((k:Int)*s - (l:Int)))),((bif A then decide (q>(k:Int)*s - (l:Int)) else false)=false),(ax ((w:Int)+1)),(au ((w:Int)+1)),(AI ((N:Int))),(AN nb),(AP nb (aH g)),(AI ((k:Int))),(AI ((l:Int))),(AN 0),((((w:Int)+1):Int)=(↑(w+1):Int)),(AN 2),(NL 1 1)]) [0,1,1,2,3,1,1,4,5,1,1,1,6,7,8,9,10,11,12,13,14,15,16,17,17,9,10,11]):=by kernel_rfl
theorem L4 (g:Nat→aa) (nb N k l c:Nat) (f:Nat→Int) (d:Bool) :
    zS Tryz.f97 [rg 2,rm [(3,oc [(0,aY c f)] (.tup [.ar 1 0 0 c,jB d]))] 5,rm [(1,oc [] (jB true)),(3,oc [] (jB true))] 6] [bi g nb N,jI k,jI l] [] [] (jB (!d)) =
    some (zD (let A:Bool:=bif true then true else false;[(NT 0 1),zE 29 [(ak N nb g),jI (k:Int),jI (l:Int)] [(0,⟨false,1,c,(fun i=>[.p (.int .i64 (f i))])⟩)] (.tup [.ar 1 0 0 c,jB d]),zE 23 [(ak N nb g)] [] (jB true),(AG true),((true=true)→zE 68 [jI (k:Int),jI (l:Int)] [] (jB true)),(AG A),((bif A then !d else false)=(!d))]) [0,1,0,2,3,3,4,3,5,5,6]):=by kernel_rfl
theorem vG (x y:Nat) (hx:x<2 ^ 62) (hy:y<2 ^ 62):bl .and .i64 (x:Int) (y:Int)=((x &&& y:Nat):Int):=by
  unfold bl
  have e1:(BitVec.ofInt IntKind.i64.bits (x:Int) &&& BitVec.ofInt IntKind.i64.bits (y:Int)).toNat=x &&& y:=by
    rw [BitVec.toNat_and]
    show (BitVec.ofInt 64 (x:Int)).toNat &&& (BitVec.ofInt 64 (y:Int)).toNat=_
    rw [uI,uI,BitVec.toNat_ofNat,BitVec.toNat_ofNat,Nat.mod_eq_of_lt (by omega),Nat.mod_eq_of_lt (by omega)]
  simp only [e1]
  have:x &&& y≤x:=Nat.and_le_left
  exact eE (by simp only [lA];omega) (by simp only [jN];omega)
theorem wl (x:Nat) (hx:x<2 ^ 62):bl .and .i64 (x:Int) 1=if x.testBit 0 then 1 else 0:=by
  rw [show (1:Int)=((1:Nat):Int) from rfl,vG x 1 hx (by omega),Nat.and_one_is_mod,Nat.testBit_zero]
  rcases Nat.mod_two_eq_zero_or_one x with h | h<;>simp [h]
theorem BL (m i:Nat) (hm:m<2 ^ 62) (hi:i<62):D9 (m:Int) (i:Int)=if gl (m:Int) (i:Int) then 1 else 0:=by
  rw [lE m i hm hi]
  unfold D9
  have:=Nat.shiftRight_le m i
  rw [lL m i hi,wl _ (by omega),Nat.testBit_shiftRight]
  simp
theorem Cz (m a b:Nat) (hm:m<2 ^ 62) (ha:a<62) (hb:b<62):C3 (m:Int) (a:Int) (b:Int)=if (gl (m:Int) (a:Int)&&gl (m:Int) (b:Int)) then 1 else 0:=by
  rw [lE m a hm ha,lE m b hm hb]
  unfold C3
  have h1:=Nat.shiftRight_le m a
  have h2:=Nat.shiftRight_le m b
  have h3:(m >>> a) &&& (m >>> b)≤m >>> a:=Nat.and_le_left
  rw [lL m a ha,lL m b hb,vG _ _ (by omega) (by omega),wl _ (by omega),Nat.testBit_and,Nat.testBit_shiftRight,Nat.testBit_shiftRight]
  simp
def bK (p:Nat→Bool):Nat→ad
  | 0=>(0,fun _=>0)
  | i+1=>if p i=true then ((bK p i).1+1,fun s=>if s<(bK p i).1 then (bK p i).2 s else i) else bK p i
theorem r8 (p:Nat→Bool):∀ i,(bK p i).1≤i
  | 0=>Nat.le_refl _
  | i+1=>by
    have:=r8 p i
    simp only [bK]
    split
    · show (bK p i).1+1≤i+1;omega
    · omega
theorem nv {p:Nat→Bool} {i:Nat} (h:p i=true):bK p (i+1)=((bK p i).1+1,fun s=>if s<(bK p i).1 then (bK p i).2 s else i):=by simp [bK,h]
theorem nm {p:Nat→Bool} {i:Nat} (h:p i=false):bK p (i+1)=bK p i:=by simp [bK,h]
theorem mQ (f g:Nat→Int) (x:Int):∀ n,(∀ i,i<n→f i=g i)→a0 f x n=a0 g x n
  | 0,_=>rfl
  | n+1,h=>by simp only [a0,mQ f g x n (fun i hi=>h i (by omega)),h n (by omega)]
theorem nF (w:Nat) (x:Int):∀ i,a0 (bD w i).2 x (bD w i).1=(decide (0≤x∧x<i)&&gl w x)
  | 0=>by
    have:decide (0≤x∧x<((0:Nat):Int))=false:=decide_eq_false (by omega)
    rw [this];rfl
  | i+1=>by
    have ih:=nF w x i
    by_cases hx:x=i
    · subst hx
      have h1:decide (0≤(i:Int)∧(i:Int)<(i:Int))=false:=decide_eq_false (by omega)
      have h2:decide (0≤(i:Int)∧(i:Int)<((i+1:Nat):Int))=true:=decide_eq_true (by omega)
      rw [h1] at ih
      rw [h2]
      cases hb:gl w i with
      | true =>
        rw [show bD w (i+1)=((bD w i).1+1,fun s=>if s<(bD w i).1 then (bD w i).2 s else i) by simp [bD,hb]]
        simp [a0]
      | false =>
        rw [show bD w (i+1)=bD w i by simp [bD,hb]]
        rw [ih];rfl
    · have h1:decide (0≤x∧x<((i+1:Nat):Int))=decide (0≤x∧x<(i:Int)):=by
        rw [decide_eq_decide];omega
      rw [h1,← ih]
      cases hb:gl w i with
      | true =>
        rw [show bD w (i+1)=((bD w i).1+1,fun s=>if s<(bD w i).1 then (bD w i).2 s else i) by simp [bD,hb]]
        simp only [a0,Nat.lt_irrefl,if_false]
        rw [show (((i:Nat):Int)==x)=false from beq_eq_false_iff_ne.2 (fun h=>hx h.symm),Bool.or_false]
        exact mQ _ _ x _ (fun j hj=>by simp only [hj,if_true])
      | false=>rw [show bD w (i+1)=bD w i by simp [bD,hb]]
theorem vO (Q:Nat→Int) (e:Nat):∀ m,BP Q m→a0 Q (e:Int) m=decide (e∈qL Q m)
  | 0,_=>by simp [a0,qL]
  | m+1,h=>by
    have h0:=h m (by omega)
    rw [a0,vO Q e m (fun j hj=>h j (by omega)),qL,Bool.eq_iff_iff]
    simp only [Bool.or_eq_true,decide_eq_true_eq,beq_iff_eq,List.mem_append,List.mem_singleton]
    constructor
    · rintro (h1 | h1)
      · exact .inl h1
      · right;omega
    · rintro (h1 | h1)
      · exact .inl h1
      · right;omega
noncomputable def uT (N k l:Nat) (g:Nat→aa) (nb:Nat) (e:Nat):Bool:=!decide (e∈aK N k l g nb)
theorem nC {N nb:Nat} {g:Nat→aa} (hg:ah ((N:Int),(nb,g),())=true) (k l:Nat) (hk:1≤k∧k≤3) (hl:l+1≤2*k) :
    zE 11 [bi g nb N,.p (.int .i64 k),.p (.int .i64 l)] [(0,aY (bK (uT N k l g nb) nb).1 (bK (uT N k l g nb) nb).2)] (.ar 1 0 0 (bK (uT N k l g nb) nb).1):=by
  obtain ⟨hN,hnb,hok⟩:=az hg
  obtain ⟨m,F,T,Q,hrun,hm,hn,hq⟩:=ft hg k l hk hl
  generalize hp:uT N k l g nb=p
  have hpe:∀ e,a0 Q (e:Nat) m=!p e:=by
    intro e
    rw [vO Q e m hn,hq,← hp]
    simp [uT]
  refine aW Tryz.func11 (fun c hc=>?_)
  generalize hR:bK p nb=R
  have lo:∀ d i,i+d=nb→zR c 11 tK (Dq g nb N k l m F T Q i (bK p i).1 (bK p i).2) (aT c [(0,aY R.1 R.2)] (.ar 1 0 0 R.1)):=by
    intro d
    induction d with
    | zero =>
      intro i hi
      obtain rfl:i=nb:=by omega
      have hd:decide ((i:Int)<(i:Int))=false:=by simp
      rw [hR]
      refine be Tryz.func11 hc (LB g i N k l m F T Q i R.1 R.2) ?_
      and_intros
      all_goals (first | exact zN | (rw [hd];rfl) | (intro t ht;simp [af]))
    | succ d ih =>
      intro i hi
      have hd:decide ((i:Int)<(nb:Int))=true:=decide_eq_true (by omega)
      have hrec:=ih (i+1) (by omega)
      have hc1:=wZ (m,Q) (i:Nat) (by show m≤1048576;omega)
      have hfn:=r8 p i
      rw [show a0 (m,Q).2 (i:Nat) (m,Q).1=!p i from hpe i] at hc1
      cases hb:p i with
      | true =>
        rw [hb] at hc1
        rw [nv hb] at hrec
        generalize bK p i=q at hfn hrec ⊢
        refine a7 hc (KD g nb N k l m F T Q i q.1 q.2) ?_ hrec
        and_intros
        all_goals (first | exact zN | (rw [hd];rfl) | (exact hc1) | (simp;done) | (simp;omega) | (intro t ht;by_cases h':t<q.1<;>(simp [h',ay,bh,tg,bu,af];done)) | (intro t ht;simp [af]))
      | false =>
        rw [hb] at hc1
        rw [nm hb] at hrec
        generalize bK p i=q at hfn hrec ⊢
        refine a7 hc (Nm g nb N k l m F T Q i q.1 q.2) ?_ hrec
        and_intros
        all_goals (first | exact zN | (rw [hd];rfl) | (exact hc1) | (simp;done) | (simp;omega) | (intro t ht;simp [af]))
  refine a7 hc (Oj g nb N k l m F T Q) ?_ (lo nb 0 (by omega))
  and_intros
  all_goals (first | exact zI | (exact hrun) | (simp;done) | (intro t ht;exact absurd ht (Nat.not_lt_zero _)) | (intro t ht;simp [af]))
def ph (g:Nat→aa) (w:Nat) (e:Nat):Bool:=gl w (g e).1&&gl w (g e).2.1
def yF (g:Nat→aa) (nb N k l w:Nat):Bool :=
  bif decide (((bK (ph g w) nb).1:Int)>0) then decide (((bK (ph g w) nb).1:Int)>(k:Int)*((bD w N).1:Int) - (l:Int)) else false
def mq (g:Nat→aa) (nb N k l:Nat):Nat→Nat→ad×Bool
  | 0,_=>((0,fun _=>0),false)
  | d+1,w=>if yF g nb N k l w=true then (bD w N,true) else mq g nb N k l d (w+1)
theorem FA {k s:Nat} (hk:k≤3) (hs:s≤8):0≤(k:Int)*(s:Int)∧(k:Int)*(s:Int)≤24:=by
  have:k*s≤3*8:=Nat.mul_le_mul hk hs
  rw [← Int.natCast_mul]
  omega
theorem nt {N nb:Nat} {g:Nat→aa} (hg:ah ((N:Int),(nb,g),())=true) (k l:Nat) (hk:1≤k∧k≤3) (hl:l+1≤2*k) {R:ad×Bool} (hR:mq g nb N k l (2 ^ N - 1) 1=R) :
    zE 29 [bi g nb N,.p (.int .i64 k),.p (.int .i64 l)] [(0,aY R.1.1 R.1.2)] (.tup [.ar 1 0 0 R.1.1,.p (.bool R.2)]):=by
  obtain ⟨hN,hnb,hok⟩:=az hg
  have hsm:cQ a9 ((N:Int),(nb,g),()):=⟨by simp [cQ,j0],⟨by show nb≤1048576;omega,fun i hi=>by simp [cQ,j0]⟩,True.intro⟩
  have hcg:=aQ ((N:Int),(nb,g),()) hsm
  rw [hg] at hcg
  have hr:=dw k l hk hl
  have hP:2 ^ N≤2 ^ 8:=Nat.pow_le_pow_right (by omega) hN.2
  have hP1:1≤2 ^ N:=Nat.one_le_two_pow
  have hsh:=Cy N (by omega)
  refine aW Tryz.func29 (fun c hc=>?_)
  generalize hG:(aT c [(0,aY R.1.1 R.1.2)] (.tup [.ar 1 0 0 R.1.1,.p (.bool R.2)]))=G
  have l2:∀ w,w<2 ^ N→(yF g nb N k l w=true→R=(bD w N,true))→(yF g nb N k l w=false→zR c 29 xe (EP g nb N k l (w+1)) G) →
      ∀ d i,i+d=nb→zR c 29 th (Ev g nb N k l w ((bD w N).1:Nat) ((bK (ph g w) i).1:Nat) i) G:=by
    intro w hw hT hF d
    have hks:=FA (k:=k) (s:=(bD w N).1) (by omega) (by have:=sE w N;omega)
    induction d with
    | zero =>
      intro i hi
      obtain rfl:i=nb:=by omega
      have hd:decide ((i:Int)<(i:Int))=false:=by simp
      have hov:yF g i N k l w=(bif decide (((bK (ph g w) i).1:Int)>0) then decide (((bK (ph g w) i).1:Int)>(k:Int)*((bD w N).1:Int) - (l:Int)) else false):=rfl
      cases hb:yF g i N k l w with
      | true =>
        rw [hb] at hov
        have hset:=yc w N (by omega)
        rw [← hG,hT hb]
        clear hT hF
        generalize bD w N=q at *
        generalize bK (ph g w) i=y at *
        refine bB Tryz.func29 hc (LZ g i N k l w q.1 y.1 i q.1 q.2) ?_
        and_intros
        all_goals (first | exact zI | (exact hd) | (exact hset) | (exact hov.symm) | (simp;done) | (intro _;omega) | (intro t ht;simp [af]))
      | false =>
        rw [hb] at hov
        have hrec:=hF hb
        clear hT hF
        generalize bD w N=q at *
        generalize bK (ph g w) i=y at *
        refine a7 hc (Nt g i N k l w q.1 y.1 i) ?_ hrec
        and_intros
        all_goals (first | exact zI | (exact hd) | (exact hov.symm) | (simp;done) | (intro _;omega) | (simp;omega) | (intro t ht;simp [af]))
    | succ d ih =>
      intro i hi
      have hd:decide ((i:Int)<(nb:Int))=true:=decide_eq_true (by omega)
      have hrec:=ih (i+1) (by omega)
      have hbar:=hok i (by omega)
      have hfn:=r8 (ph g w) i
      have hbw:C3 w (g i).1 (g i).2.1=if ph g w i then 1 else 0:=by
        have:=Cz w (g i).1.toNat (g i).2.1.toNat (by omega) (by omega) (by omega)
        rw [Int.toNat_of_nonneg (by omega),Int.toNat_of_nonneg (by omega)] at this
        exact this
      have e:((bK (ph g w) (i+1)).1:Int)=((bK (ph g w) i).1:Nat)+C3 w (g i).1 (g i).2.1:=by
        rw [hbw]
        cases hb:ph g w i with
        | true=>rw [nv hb];rfl
        | false=>rw [nm hb];simp
      rw [e] at hrec
      have hbb:0≤C3 w (g i).1 (g i).2.1∧C3 w (g i).1 (g i).2.1≤1:=by rw [hbw];split<;>omega
      have hbb2:0≤bl BinOp.and IntKind.i64 (bl BinOp.and IntKind.i64 (bS IntKind.i64 (w:Int) (g i).1) (bS IntKind.i64 (w:Int) (g i).2.1)) 1∧bl BinOp.and IntKind.i64 (bl BinOp.and IntKind.i64 (bS IntKind.i64 (w:Int) (g i).1) (bS IntKind.i64 (w:Int) (g i).2.1)) 1≤1:=hbb
      refine cW hc (Nh g nb N k l w _ _ i) ?_ hrec
      and_intros
      all_goals (first | exact zI | (exact hd) | (simp;done) | omega | (simp;omega) | (intro t ht;simp [af]))
  have l1:∀ w,w<2 ^ N→(zR c 29 th (Ev g nb N k l w ((bD w N).1:Nat) 0 0) G) →
      ∀ d v,v+d=N→zR c 29 Br (Fz g nb N k l w ((bD w v).1:Nat) v) G:=by
    intro w hw hnx d
    induction d with
    | zero =>
      intro v hv
      obtain rfl:v=N:=by omega
      have hd:decide ((v:Int)<(v:Int))=false:=by simp
      refine a7 hc (KS g nb v k l w _ v) ?_ hnx
      and_intros
      all_goals (first | exact zN | (exact hd) | (simp;done) | (simp;omega) | (intro t ht;simp [af]))
    | succ d ih =>
      intro v hv
      have hd:decide ((v:Int)<(N:Int))=true:=decide_eq_true (by omega)
      have hrec:=ih (v+1) (by omega)
      have hsn:=sE w v
      have hbv:=BL w v (by omega) (by omega)
      have e:((bD w (v+1)).1:Int)=((bD w v).1:Nat)+D9 w v:=by
        rw [hbv]
        cases hb:gl w v with
        | true=>simp [bD,hb]
        | false=>simp [bD,hb]
      rw [e] at hrec
      have hbb:0≤D9 w v∧D9 w v≤1:=by rw [hbv];split<;>omega
      have hbb2:0≤bl BinOp.and IntKind.i64 (bS IntKind.i64 (w:Int) (v:Int)) 1∧bl BinOp.and IntKind.i64 (bS IntKind.i64 (w:Int) (v:Int)) 1≤1:=hbb
      refine a7 hc (Ng g nb N k l w _ v) ?_ hrec
      and_intros
      all_goals (first | exact zN | (exact hd) | (simp;done) | omega | (simp;omega) | (intro t ht;simp [af]))
  have lo:∀ d w,w+d=2 ^ N→mq g nb N k l d w=R→zR c 29 xe (EP g nb N k l w) G:=by
    intro d
    induction d with
    | zero =>
      intro w hw hRw
      have hd:decide ((w:Int)<pT IntKind.i64 1 (N:Int))=false:=by rw [hsh];exact decide_eq_false (by omega)
      rw [← hG,← hRw]
      refine be Tryz.func29 hc (NS g nb N k l w) ?_
      and_intros
      all_goals (first | exact zN | (exact hd) | (intro t ht;exact absurd ht (Nat.not_lt_zero _)) | (simp;done))
    | succ d ih =>
      intro w hw hRw
      have hd:decide ((w:Int)<pT IntKind.i64 1 (N:Int))=true:=by rw [hsh];exact decide_eq_true (by omega)
      rw [mq] at hRw
      have hnx:=l2 w (by omega) (fun hb=>by rw [if_pos hb] at hRw;exact hRw.symm) (fun hb=>ih (w+1) (by omega) (by rw [hb] at hRw;simpa using hRw)) nb 0 (by omega)
      have hny:=l1 w (by omega) hnx N 0 (by omega)
      refine a7 hc (LM g nb N k l w) ?_ hny
      and_intros
      all_goals (first | exact zN | (exact hd) | (simp;done) | (intro t ht;simp [af]))
  refine a7 hc (LO g nb N k l) ?_ (lo (2 ^ N - 1) 1 (by omega) hR)
  and_intros
  all_goals (first | exact zH | (exact hcg) | (intro _;exact hr) | (simp;done) | (intro t ht;simp [af]))
theorem se {N nb:Nat} {g:Nat→aa} (hg:ah ((N:Int),(nb,g),())=true) (k l:Nat) (hk:1≤k∧k≤3) (hl:l+1≤2*k) {R:ad×Bool} (hR:mq g nb N k l (2 ^ N - 1) 1=R) :
    zE 97 [bi g nb N,.p (.int .i64 k),.p (.int .i64 l)] [] (.p (.bool (!R.2))):=by
  obtain ⟨hN,hnb,hok⟩:=az hg
  have hsm:cQ a9 ((N:Int),(nb,g),()):=⟨by simp [cQ,j0],⟨by show nb≤1048576;omega,fun i hi=>by simp [cQ,j0]⟩,True.intro⟩
  have h1:=aQ ((N:Int),(nb,g),()) hsm
  rw [hg] at h1
  have h3:=dw k l hk hl
  have h5:=nt hg k l hk hl hR
  refine aW Tryz.func97 (fun c hc=>?_)
  refine bB Tryz.func97 hc (L4 g nb N k l R.1.1 R.1.2 R.2) ?_
  and_intros
  all_goals (first | exact zI | (exact h5) | (exact h1) | (intro _;exact h3) | (simp;done))
def z5:Ob:=⟨true,5,1,fun _=>[.p (.int .i64 0),.p (.int .i64 0),.p (.int .i64 0),.p (.int .i64 0),.p (.int .i64 0)]⟩
def E9 (g:Nat→aa) (nb N v:Nat):St :=
  ⟨[bi g nb N,.pt 2 0 0 0,.pt 2 1 0 0,.pt 5 2 0 0,.p (.bool false)]++List.replicate 10 ag++[.p (.int .i64 N),.p (.int .i64 v)]++List.replicate 100 ag,[(0,ly g nb N),(1,z2),(2,z5)],3⟩
def Bv (g:Nat→aa) (nb N v:Nat):St :=
  ⟨[bi g nb N,.pt 2 0 0 0,.pt 2 1 0 0,.pt 5 2 0 0,.p (.bool false)]++List.replicate 34 ag++[.p (.int .i64 N),.p (.int .i64 v)]++List.replicate 76 ag,[(0,ly g nb N),(1,z2),(2,z5)],3⟩
def H3:AV:=.tup [.agg [.p .any,.p .any],.agg [.p .any,.p .any,.p .any,.p .any,.p .any],.p (.bool false)]
theorem OC (g:Nat→aa) (nb N k l:Nat) :
    zS Tryz.f97 [rg 2,rm [(3,oc [(0,aY 0 (fun _=>0))] (.tup [.ar 1 0 0 0,jB false]))] 5,rm [(1,oc [] (jB false)),(3,oc [] (jB true))] 6] [bi g nb N,jI k,jI l] [] [] (jB false) =
    some (zD (let A:Bool:=bif false then true else false;[(NT 0 1),zE 29 [(ak N nb g),jI (k:Int),jI (l:Int)] [(0,⟨false,1,0,(fun i=>[.p (.int .i64 0)])⟩)] (.tup [.ar 1 0 0 0,jB false]),zE 23 [(ak N nb g)] [] (jB false),(AG false),((false=true)→zE 68 [jI (k:Int),jI (l:Int)] [] (jB true)),(AG A),((bif A then !false else false)=false)]) [0,1,0,2,3,3,4,3,5,5,6]):=by kernel_rfl
theorem KZ (g:Nat→aa) (nb N:Nat) :
    zT Tryz.f61 [rg 4,rg 3,.head] [bi g nb N] [0,32,64] (E9 g nb N 0) =
    some (xt,zD [(NT 0 1),(AI ((N:Int))),(AN nb),(AP nb (aH g)),(AN 0),(false=false),((0:Int)=(↑0:Int)),((([AV.p (PV.int IntKind.i64 (N:Int)),b4 g nb].length):Nat)=2),(NL 1 1),((((List.map (fun v=>AV.p (bZ v)) [Value.int IntKind.i64 0,Value.slice none 0 0]).length):Nat)=2),(AI 0),((((List.map (fun v=>AV.p (bZ v)) [Value.int IntKind.i64 0,Value.int IntKind.i64 0,Value.int IntKind.i64 0,Value.int IntKind.i64 0,Value.int IntKind.i64 0]).length):Nat)=5)] [0,1,2,3,4,4,4,5,1,6,7,8,8,1,2,3,9,8,8,10,11,8,8,10,10,10,10,10]):=by kernel_rfl
theorem MA (g:Nat→aa) (nb N v:Nat) (d:Nat) (h:Nat→aa) (e:Nat) (f:Nat→Int) :
    zP Tryz.f61 0 [rg 1,.dec true,rg 2,rm [(2,oc [(0,aj d h),(1,aY e f)] (.tup [.agg [jI N,.ar 2 0 0 d],.ar 1 1 0 e]))] 6,rg 3,.dec true,rg 12] xt (E9 g nb N v) [163] 1 [(0,aj d h)] (.tup [.agg [jI N,.ar 2 0 0 d],.agg [jI 1,jI v,jI (f 0),jI (f 1),jI 0],jB true]) =
    some (zD [((decide ((v:Int)<(N:Int)))=true),(NT 0 1),zE 94 [(ak N nb g),jI (v:Int)] (DG d h e f) (.tup [.agg [jI (N:Int),.ar 2 0 0 d],.ar 1 1 0 e]),((true=true)→(AN 1)),(((e:Int)==2)=true),(IL 0 0),(IT 0 (e:Int)),(NT 0 e),(IL 0 1),(IT 1 (e:Int)),(NT 1 e),(AI ((N:Int))),(AN 0),(AN d),(AI 1),(AI ((v:Int))),(AI ((f 0))),(AI ((f 1))),(AI 0),(true=true),(AN 2),(NL d d),(AA d (fun i=>[.p (.int .i64 ((h i).1)),.p (.int .i64 ((h i).2.1))])),(AE d)] [0,1,2,1,3,4,1,5,6,7,8,9,10,1,3,1,3,1,1,11,12,13,14,15,16,17,18,19,20,21,22,23]):=by kernel_rfl
theorem KI (g:Nat→aa) (nb N v:Nat) (d:Nat) (h:Nat→aa) (e:Nat) (f:Nat→Int) :
    zM 0 [rg 1,.dec true,rg 2,rm [(2,oc [(0,aj d h),(1,aY e f)] (.tup [.agg [jI N,.ar 2 0 0 d],.ar 1 1 0 e]))] 6,rg 3,.dec false,rg 2,.head] xt (E9 g nb N v) [0,1,2] 1 (E9 g nb N (v+1)) =
    some (xt,zD [((decide ((v:Int)<(N:Int)))=true),(NT 0 1),zE 94 [(ak N nb g),jI (v:Int)] (DG d h e f) (.tup [.agg [jI (N:Int),.ar 2 0 0 d],.ar 1 1 0 e]),((true=true)→(AN 1)),(((e:Int)==2)=false),(ax ((v:Int)+1)),(au ((v:Int)+1)),(AI ((N:Int))),(AN nb),(AP nb (aH g)),(AN 0),(false=false),((((v:Int)+1):Int)=(↑(v+1):Int)),(AN 2),(NL 1 1),(AI 0),(AN 5)] [0,1,2,1,3,4,5,6,7,8,9,10,10,10,11,7,12,13,14,14,7,8,9,13,14,14,15,16,14,14,15,15,15,15,15]):=by kernel_rfl
theorem Kw (g:Nat→aa) (nb N v:Nat) :
    zM 0 [rg 1,.dec false,rg 3,.head] xt (E9 g nb N v) [0,1,2] 1 (Bv g nb N 0) =
    some (nN,zD [((decide ((v:Int)<(N:Int)))=false),(NT 0 1),(AI ((N:Int))),(AN nb),(AP nb (aH g)),(AN 0),(false=false),((0:Int)=(↑0:Int)),(AN 2),(NL 1 1),(AI 0),(AN 5)] [0,1,2,3,4,5,5,5,6,2,7,8,9,9,2,3,4,8,9,9,10,11,9,9,10,10,10,10,10]):=by kernel_rfl
theorem NC (g:Nat→aa) (nb N v:Nat) (d:Nat) (h:Nat→aa) (e:Nat) (f:Nat→Int) :
    zM 0 [rg 1,.dec true,rg 2,rm [(2,oc [(0,aj d h),(1,aY e f)] (.tup [.agg [jI N,.ar 2 0 0 d],.ar 1 1 0 e]))] 6,rg 3,.dec true,rg 2,.head] nN (Bv g nb N v) [0,1,2] 1 (Bv g nb N (v+1)) =
    some (nN,zD [((decide ((v:Int)<(N:Int)))=true),(NT 0 1),zE 94 [(ak N nb g),jI (v:Int)] (DG d h e f) (.tup [.agg [jI (N:Int),.ar 2 0 0 d],.ar 1 1 0 e]),((true=true)→(AN 1)),(((e:Int) != 3)=true),(ax ((v:Int)+1)),(au ((v:Int)+1)),(AI ((N:Int))),(AN nb),(AP nb (aH g)),(AN 0),(false=false),((((v:Int)+1):Int)=(↑(v+1):Int)),(AN 2),(NL 1 1),(AI 0),(AN 5)] [0,1,2,1,3,4,5,6,7,8,9,10,10,10,11,7,12,13,14,14,7,8,9,13,14,14,15,16,14,14,15,15,15,15,15]):=by kernel_rfl
theorem NM (g:Nat→aa) (nb N v:Nat) :
    zP Tryz.f61 0 [rg 1,.dec false,rg 5] nN (Bv g nb N v) [] 1 [] H3 =
    some (zD [((decide ((v:Int)<(N:Int)))=false),(NT 0 1),((true=true)→(AN 1)),(false=false)] [0,1,2,1,2,1,1,3]):=by kernel_rfl
theorem Ih (g:Nat→aa) (nb N v:Nat) (d:Nat) (h:Nat→aa) (f:Nat→Int) (r0:Nat→aa) :
    zP Tryz.f61 0 [rg 1,.dec true,rg 2,rm [(2,oc [(0,aj d h),(1,aY 3 f)] (.tup [.agg [jI N,.ar 2 0 0 d],.ar 1 1 0 3]))] 6,rg 3,.dec false,rg 33,.loop,rg 1,.dec true,rg 4,rm [(5,oc [] (jZ (aD (f 0) (f 1)))),(1,oc [(0,aj (d+1) r0)] (.agg [jI N,.ar 2 0 0 (d+1)]))] 2,rm [(1,oc [] (jB true))] 0,.dec true,rg 18] nN (Bv g nb N v) [1923] 1 [(0,aj (d+1) r0)] (.tup [.agg [jI N,.ar 2 0 0 (d+1)],.agg [jI 2,jI v,jI ((aD (f 0) (f 1)).1),jI ((aD (f 0) (f 1)).2.1),jI (f 2)],jB true]) =
    some (zD [((decide ((v:Int)<(N:Int)))=true),(NT 0 1),zE 94 [(ak N nb g),jI (v:Int)] (Cp d h f) ((wG N d)),((true=true)→(AN 1)),(((↑3:Int) != 3)=false),(IL 0 0),(IT 0 (↑3:Int)),(NT 0 3),(IL 0 1),(IT 1 (↑3:Int)),(NT 1 3),(IL 0 2),(IT 2 (↑3:Int)),(NT 2 3),((decide (0<(↑3:Int)))=true),zE 96 [jI (f 0),jI (f 1)] [] ((vx f)),(AN 2),(NL d d),(NL 1 1),zE 95 [(ak N d h),.p (.seq true 2 1 (fun i=>[.int .i64 (if f 1<f 0 then f 1 else f 0),.int .i64 (if f 1>f 0 then f 1 else f 0)]))] (iT d r0) (.agg [jI (N:Int),.ar 2 0 0 (d+1)]),(NL (d+1) (d+1)),zE 97 [(jT N d r0),jI 2,jI 3] [] (jB true),(true=true),(AI ((N:Int))),(AN 0),(AN ((d+1))),(AI 2),(AI ((v:Int))),(((if false=true then if f 1>f 0 then f 1 else f 0 else if f 1<f 0 then f 1 else f 0):Int)=(if f 1<f 0 then f 1 else f 0)),(((if true=true then if f 1>f 0 then f 1 else f 0 else if f 1<f 0 then f 1 else f 0):Int)=(if f 1>f 0 then f 1 else f 0)),(AI ((f 2))),(AA ((d+1)) (fun i=>[.p (.int .i64 ((r0 i).1)),.p (.int .i64 ((r0 i).2.1))])),(AE ((d+1)))] [0,1,2,1,3,4,5,6,7,8,9,10,11,12,13,8,9,10,11,12,13,5,6,7,11,12,13,5,6,7,8,9,10,14,5,6,7,1,3,1,5,6,1,8,9,1,15,16,17,16,18,19,1,3,1,16,20,21,22,1,5,6,1,8,9,1,5,6,1,8,9,1,11,12,1,1,3,1,3,1,1,23,24,25,26,27,28,29,30,22,16,20,31,32]):=by kernel_rfl
theorem HF (g:Nat→aa) (nb N v:Nat) (d:Nat) (h:Nat→aa) (f:Nat→Int) (r0 r1:Nat→aa) :
    zP Tryz.f61 0 [rg 1,.dec true,rg 2,rm [(2,oc [(0,aj d h),(1,aY 3 f)] (.tup [.agg [jI N,.ar 2 0 0 d],.ar 1 1 0 3]))] 6,rg 3,.dec false,rg 33,.loop,rg 1,.dec true,rg 4,rm [(5,oc [] (jZ (aD (f 0) (f 1)))),(1,oc [(0,aj (d+1) r0)] (.agg [jI N,.ar 2 0 0 (d+1)]))] 2,rm [(1,oc [] (jB false))] 0,.dec false,rg 2,.loop,rg 1,.dec true,rg 4,rm [(5,oc [] (jZ (aD (f 1) (f 2)))),(1,oc [(0,aj (d+1) r1)] (.agg [jI N,.ar 2 0 0 (d+1)]))] 2,rm [(1,oc [] (jB true))] 0,.dec true,rg 18] nN (Bv g nb N v) [2531] 1 [(0,aj (d+1) r1)] (.tup [.agg [jI N,.ar 2 0 0 (d+1)],.agg [jI 2,jI v,jI ((aD (f 1) (f 2)).1),jI ((aD (f 1) (f 2)).2.1),jI (f 0)],jB true]) =
    some (zD [((decide ((v:Int)<(N:Int)))=true),(NT 0 1),zE 94 [(ak N nb g),jI (v:Int)] (Cp d h f) ((wG N d)),((true=true)→(AN 1)),(((↑3:Int) != 3)=false),(IL 0 0),(IT 0 (↑3:Int)),(NT 0 3),(IL 0 1),(IT 1 (↑3:Int)),(NT 1 3),(IL 0 2),(IT 2 (↑3:Int)),(NT 2 3),((decide (0<(↑3:Int)))=true),zE 96 [jI (f 0),jI (f 1)] [] ((vx f)),(AN 2),(NL d d),(NL 1 1),zE 95 [(ak N d h),.p (.seq true 2 1 (fun i=>[.int .i64 (if f 1<f 0 then f 1 else f 0),.int .i64 (if f 1>f 0 then f 1 else f 0)]))] (iT d r0) (.agg [jI (N:Int),.ar 2 0 0 (d+1)]),(NL (d+1) (d+1)),zE 97 [(jT N d r0),jI 2,jI 3] [] (jB false),(false=false),(ax (0+1)),(au (0+1)),((decide (0+1<(↑3:Int)))=true),(IL 0 (0+1)),(IT (0+1) (↑3:Int)),zE 96 [jI (f 1),jI (f 2)] [] ((AB f)),zE 95 [(ak N d h),.p (.seq true 2 1 (fun i=>[.int .i64 (if f 2<f 1 then f 2 else f 1),.int .i64 (if f 2>f 1 then f 2 else f 1)]))] (iT d r1) (.agg [jI (N:Int),.ar 2 0 0 (d+1)]),zE 97 [(jT N d r1),jI 2,jI 3] [] (jB true),(true=true),(AI ((N:Int))),(AN 0),(AN ((d+1))),(AI 2),(AI ((v:Int))),(((if false=true then if f 2>f 1 then f 2 else f 1 else if f 2<f 1 then f 2 else f 1):Int)=(if f 2<f 1 then f 2 else f 1)),(((if true=true then if f 2>f 1 then f 2 else f 1 else if f 2<f 1 then f 2 else f 1):Int)=(if f 2>f 1 then f 2 else f 1)),(AI ((f 0))),(AA ((d+1)) (fun i=>[.p (.int .i64 ((r1 i).1)),.p (.int .i64 ((r1 i).2.1))])),(AE ((d+1)))] [0,1,2,1,3,4,5,6,7,8,9,10,11,12,13,8,9,10,11,12,13,5,6,7,11,12,13,5,6,7,8,9,10,14,5,6,7,1,3,1,5,6,1,8,9,1,15,16,17,16,18,19,1,3,1,16,20,21,22,23,24,25,26,27,10,1,3,1,5,6,1,8,9,1,28,16,17,16,18,29,1,3,1,16,20,30,31,1,5,6,1,8,9,1,5,6,1,8,9,1,11,12,1,1,3,1,3,1,1,32,33,34,35,36,37,38,39,31,16,20,40,41]):=by kernel_rfl
theorem H6 (g:Nat→aa) (nb N v:Nat) (d:Nat) (h:Nat→aa) (f:Nat→Int) (r0 r1 r2:Nat→aa) :
    zP Tryz.f61 0 [rg 1,.dec true,rg 2,rm [(2,oc [(0,aj d h),(1,aY 3 f)] (.tup [.agg [jI N,.ar 2 0 0 d],.ar 1 1 0 3]))] 6,rg 3,.dec false,rg 33,.loop,rg 1,.dec true,rg 4,rm [(5,oc [] (jZ (aD (f 0) (f 1)))),(1,oc [(0,aj (d+1) r0)] (.agg [jI N,.ar 2 0 0 (d+1)]))] 2,rm [(1,oc [] (jB false))] 0,.dec false,rg 2,.loop,rg 1,.dec true,rg 4,rm [(5,oc [] (jZ (aD (f 1) (f 2)))),(1,oc [(0,aj (d+1) r1)] (.agg [jI N,.ar 2 0 0 (d+1)]))] 2,rm [(1,oc [] (jB false))] 0,.dec false,rg 2,.loop,rg 1,.dec true,rg 4,rm [(5,oc [] (jZ (aD (f 2) (f 0)))),(1,oc [(0,aj (d+1) r2)] (.agg [jI N,.ar 2 0 0 (d+1)]))] 2,rm [(1,oc [] (jB true))] 0,.dec true,rg 18] nN (Bv g nb N v) [3139] 1 [(0,aj (d+1) r2)] (.tup [.agg [jI N,.ar 2 0 0 (d+1)],.agg [jI 2,jI v,jI ((aD (f 2) (f 0)).1),jI ((aD (f 2) (f 0)).2.1),jI (f 1)],jB true]) =
    some (zD [((decide ((v:Int)<(N:Int)))=true),(NT 0 1),zE 94 [(ak N nb g),jI (v:Int)] (Cp d h f) ((wG N d)),((true=true)→(AN 1)),(((↑3:Int) != 3)=false),(IL 0 0),(IT 0 (↑3:Int)),(NT 0 3),(IL 0 1),(IT 1 (↑3:Int)),(NT 1 3),(IL 0 2),(IT 2 (↑3:Int)),(NT 2 3),((decide (0<(↑3:Int)))=true),zE 96 [jI (f 0),jI (f 1)] [] ((vx f)),(AN 2),(NL d d),(NL 1 1),zE 95 [(ak N d h),.p (.seq true 2 1 (fun i=>[.int .i64 (if f 1<f 0 then f 1 else f 0),.int .i64 (if f 1>f 0 then f 1 else f 0)]))] (iT d r0) (.agg [jI (N:Int),.ar 2 0 0 (d+1)]),(NL (d+1) (d+1)),zE 97 [(jT N d r0),jI 2,jI 3] [] (jB false),(false=false),(ax (0+1)),(au (0+1)),((decide (0+1<(↑3:Int)))=true),(IL 0 (0+1)),(IT (0+1) (↑3:Int)),zE 96 [jI (f 1),jI (f 2)] [] ((AB f)),zE 95 [(ak N d h),.p (.seq true 2 1 (fun i=>[.int .i64 (if f 2<f 1 then f 2 else f 1),.int .i64 (if f 2>f 1 then f 2 else f 1)]))] (iT d r1) (.agg [jI (N:Int),.ar 2 0 0 (d+1)]),zE 97 [(jT N d r1),jI 2,jI 3] [] (jB false),(ax (0+1+1)),(au (0+1+1)),((decide (0+1+1<(↑3:Int)))=true),(IL 0 (0+1+1)),(IT (0+1+1) (↑3:Int)),zE 96 [jI (f 2),jI (f 0)] [] (.agg [jI (if f 0<f 2 then f 0 else f 2),jI (if f 0>f 2 then f 0 else f 2)]),zE 95 [(ak N d h),.p (.seq true 2 1 (fun i=>[.int .i64 (if f 0<f 2 then f 0 else f 2),.int .i64 (if f 0>f 2 then f 0 else f 2)]))] (iT d r2) (.agg [jI (N:Int),.ar 2 0 0 (d+1)]),zE 97 [(jT N d r2),jI 2,jI 3] [] (jB true),(true=true),(AI ((N:Int))),(AN 0),(AN ((d+1))),(AI 2),(AI ((v:Int))),(((if false=true then if f 0>f 2 then f 0 else f 2 else if f 0<f 2 then f 0 else f 2):Int)=(if f 0<f 2 then f 0 else f 2)),(((if true=true then if f 0>f 2 then f 0 else f 2 else if f 0<f 2 then f 0 else f 2):Int)=(if f 0>f 2 then f 0 else f 2)),(AI ((f 1))),(AA ((d+1)) (fun i=>[.p (.int .i64 ((r2 i).1)),.p (.int .i64 ((r2 i).2.1))])),(AE ((d+1)))] [0,1,2,1,3,4,5,6,7,8,9,10,11,12,13,8,9,10,11,12,13,5,6,7,11,12,13,5,6,7,8,9,10,14,5,6,7,1,3,1,5,6,1,8,9,1,15,16,17,16,18,19,1,3,1,16,20,21,22,23,24,25,26,27,10,1,3,1,5,6,1,8,9,1,28,16,17,16,18,29,1,3,1,16,20,30,22,31,32,33,34,35,13,1,3,1,5,6,1,8,9,1,36,16,17,16,18,37,1,3,1,16,20,38,39,1,5,6,1,8,9,1,5,6,1,8,9,1,11,12,1,1,3,1,3,1,1,40,41,42,43,44,45,46,47,39,16,20,48,49]):=by kernel_rfl
theorem Kd (g:Nat→aa) (nb N v:Nat) (d:Nat) (h:Nat→aa) (f:Nat→Int) (r0 r1 r2:Nat→aa) :
    zM 0 [rg 1,.dec true,rg 2,rm [(2,oc [(0,aj d h),(1,aY 3 f)] (.tup [.agg [jI N,.ar 2 0 0 d],.ar 1 1 0 3]))] 6,rg 3,.dec false,rg 33,.loop,rg 1,.dec true,rg 4,rm [(5,oc [] (jZ (aD (f 0) (f 1)))),(1,oc [(0,aj (d+1) r0)] (.agg [jI N,.ar 2 0 0 (d+1)]))] 2,rm [(1,oc [] (jB false))] 0,.dec false,rg 2,.loop,rg 1,.dec true,rg 4,rm [(5,oc [] (jZ (aD (f 1) (f 2)))),(1,oc [(0,aj (d+1) r1)] (.agg [jI N,.ar 2 0 0 (d+1)]))] 2,rm [(1,oc [] (jB false))] 0,.dec false,rg 2,.loop,rg 1,.dec true,rg 4,rm [(5,oc [] (jZ (aD (f 2) (f 0)))),(1,oc [(0,aj (d+1) r2)] (.agg [jI N,.ar 2 0 0 (d+1)]))] 2,rm [(1,oc [] (jB false))] 0,.dec false,rg 2,.loop,rg 1,.dec false,rg 2,.head] nN (Bv g nb N v) [0,1,2] 1 (Bv g nb N (v+1)) =
    some (nN,zD [((decide ((v:Int)<(N:Int)))=true),(NT 0 1),zE 94 [(ak N nb g),jI (v:Int)] (Cp d h f) ((wG N d)),((true=true)→(AN 1)),(((↑3:Int) != 3)=false),(IL 0 0),(IT 0 (↑3:Int)),(NT 0 3),(IL 0 1),(IT 1 (↑3:Int)),(NT 1 3),(IL 0 2),(IT 2 (↑3:Int)),(NT 2 3),((decide (0<(↑3:Int)))=true),zE 96 [jI (f 0),jI (f 1)] [] ((vx f)),(AN 2),(NL d d),(NL 1 1),zE 95 [(ak N d h),.p (.seq true 2 1 (fun i=>[.int .i64 (if f 1<f 0 then f 1 else f 0),.int .i64 (if f 1>f 0 then f 1 else f 0)]))] (iT d r0) (.agg [jI (N:Int),.ar 2 0 0 (d+1)]),(NL (d+1) (d+1)),zE 97 [(jT N d r0),jI 2,jI 3] [] (jB false),(false=false),(ax (0+1)),(au (0+1)),((decide (0+1<(↑3:Int)))=true),(IL 0 (0+1)),(IT (0+1) (↑3:Int)),zE 96 [jI (f 1),jI (f 2)] [] ((AB f)),zE 95 [(ak N d h),.p (.seq true 2 1 (fun i=>[.int .i64 (if f 2<f 1 then f 2 else f 1),.int .i64 (if f 2>f 1 then f 2 else f 1)]))] (iT d r1) (.agg [jI (N:Int),.ar 2 0 0 (d+1)]),zE 97 [(jT N d r1),jI 2,jI 3] [] (jB false),(ax (0+1+1)),(au (0+1+1)),((decide (0+1+1<(↑3:Int)))=true),(IL 0 (0+1+1)),(IT (0+1+1) (↑3:Int)),zE 96 [jI (f 2),jI (f 0)] [] (.agg [jI (if f 0<f 2 then f 0 else f 2),jI (if f 0>f 2 then f 0 else f 2)]),zE 95 [(ak N d h),.p (.seq true 2 1 (fun i=>[.int .i64 (if f 0<f 2 then f 0 else f 2),.int .i64 (if f 0>f 2 then f 0 else f 2)]))] (iT d r2) (.agg [jI (N:Int),.ar 2 0 0 (d+1)]),zE 97 [(jT N d r2),jI 2,jI 3] [] (jB false),(ax (0+1+1+1)),(au (0+1+1+1)),((decide (0+1+1+1<(↑3:Int)))=false),(ax ((v:Int)+1)),(au ((v:Int)+1)),(AI ((N:Int))),(AN nb),(AP nb (aH g)),(AN 0),((((v:Int)+1):Int)=(↑(v+1):Int)),(AI 0),(AN 5)] [0,1,2,1,3,4,5,6,7,8,9,10,11,12,13,8,9,10,11,12,13,5,6,7,11,12,13,5,6,7,8,9,10,14,5,6,7,1,3,1,5,6,1,8,9,1,15,16,17,16,18,19,1,3,1,16,20,21,22,23,24,25,26,27,10,1,3,1,5,6,1,8,9,1,28,16,17,16,18,29,1,3,1,16,20,30,22,31,32,33,34,35,13,1,3,1,5,6,1,8,9,1,36,16,17,16,18,37,1,3,1,16,20,38,22,39,40,41,42,43,44,45,46,47,47,47,22,44,48,16,18,18,44,45,46,16,18,18,49,50,18,18,49,49,49,49,49]):=by kernel_rfl
theorem NV (g:Nat→aa) (nb N k l:Nat) :
    zS Tryz.f29 [rg 3,rm [(1,oc [] (jB false)),(4,oc [] (jB true))] 2,.dec true,rg 3] [bi g nb N,jI k,jI l] [384] [(0,aY 0 (fun _=>0))] (.tup [.ar 1 0 0 0,jB false]) =
    some [(NT 0 1),zE 23 [(ak N nb g)] [] (jB false),(AG (!!false)),(AG (!!false)),(((!!false)=true)→zE 68 [jI (k:Int),jI (l:Int)] [] (jB true)),(AG (!!false)),(((!false)=false)→((!!false)=true)),((bif !false then true else !true)=true),(AN 0),(AN 0),(false=false),(AN 1),(NL 0 0),(AA 0 (fun i=>[.p (.int .i64 0)])),(AE 0)]:=by kernel_rfl
noncomputable def lg (N:Nat) (D:NB):Bool:=bif ah ((N:Int),(D.1,D.2),()) then !(mq D.2 D.1 N 2 3 (2 ^ N - 1) 1).2 else false
theorem ma (N:Nat) (D:NB) (hn:D.1≤1000) :
    zE 97 [bi D.2 D.1 N,.p (.int .i64 2),.p (.int .i64 3)] [] (.p (.bool (lg N D))):=by
  cases hg:ah ((N:Int),(D.1,D.2),()) with
  | true =>
    rw [show lg N D=!(mq D.2 D.1 N 2 3 (2 ^ N - 1) 1).2 by unfold lg;rw [hg];rfl]
    exact se hg 2 3 (by omega) (by omega) rfl
  | false =>
    rw [show lg N D=false by unfold lg;rw [hg];rfl]
    obtain ⟨n,h⟩:=D
    have hsm:cQ a9 ((N:Int),(n,h),()):=⟨by simp [cQ,j0],⟨by show n≤1048576;exact Nat.le_trans hn (by omega),fun i hi=>by simp [cQ,j0]⟩,True.intro⟩
    have h1:=aQ ((N:Int),(n,h),()) hsm
    have h3:=dw 2 3 (by omega) (by omega)
    rw [show ah ((N:Int),(n,h),())=false from hg] at h1
    have h5:zE 29 [bi h n N,.p (.int .i64 (2:Nat)),.p (.int .i64 (3:Nat))] [(0,aY 0 (fun _=>0))] (.tup [.ar 1 0 0 0,.p (.bool false)]):=by
      refine aW Tryz.func29 (fun c hc=>?_)
      refine be Tryz.func29 hc (NV h n N 2 3) ?_
      and_intros
      all_goals (first | exact zH | (exact h1) | (intros;exact h3) | (simp;done))
    refine aW Tryz.func97 (fun c hc=>?_)
    refine bB Tryz.func97 hc (OC h n N 2 3) ?_
    and_intros
    all_goals (first | exact zI | (exact h5) | (exact h1) | (intros;exact h3) | (simp;done))
noncomputable def uP (D:NB) (x:aa):NB:=(D.1+1,df (D.1+1) (aZ D.1 D.2 x))
noncomputable def dU (N:Nat) (D:NB) (v:Nat) (a b c:Int):Option (NB×ap) :=
  bif lg N (uP D (aD a b)) then some (uP D (aD a b),(2,v,(aD a b).1,(aD a b).2.1,c,())) else none
noncomputable def ec (N:Nat) (D:NB) (F:ad) (v:Nat):Option (NB×ap) :=
  if F.1=3 then (dU N D v (F.2 0) (F.2 1) (F.2 2)).or ((dU N D v (F.2 1) (F.2 2) (F.2 0)).or (dU N D v (F.2 2) (F.2 0) (F.2 1))) else none
def gk (D:NB) (F:ad) (v:Nat):Option (NB×ap) :=
  if F.1=2 then some (D,(1,v,F.2 0,F.2 1,0,())) else none
def b7 {α:Type} (F:Nat→Option α):Nat→Nat→Option α
  | 0,_=>none
  | d+1,v=>(F v).or (b7 F d (v+1))
noncomputable def i7 (N:Nat) (g:Nat→aa) (nb:Nat):Option (NB×ap) :=
  (b7 (fun v=>gk (ba g v nb) (bq g v nb) v) N 0).or (b7 (fun v=>ec N (ba g v nb) (bq g v nb) v) N 0)
def uH:Option (NB×ap)→Hp
  | none=>[]
  | some u=>[(0,aj u.1.1 u.1.2)]
def uR (N:Nat):Option (NB×ap)→AV
  | none=>H3
  | some u=>.tup [.agg [.p (.int .i64 N),.ar 2 0 0 u.1.1],.agg [.p (.int .i64 u.2.1),.p (.int .i64 u.2.2.1),.p (.int .i64 u.2.2.2.1),.p (.int .i64 u.2.2.2.2.1),.p (.int .i64 u.2.2.2.2.2.1)],.p (.bool true)]
theorem Ep {N v:Nat} {D:NB} {F:ad} (h:F.1≠3):ec N D F v=none:=by unfold ec;rw [if_neg h]
theorem DD {N v:Nat} {D:NB} {f:Nat→Int} (h:lg N (uP D (aD (f 0) (f 1)))=true):ec N D (3,f) v=some (uP D (aD (f 0) (f 1)),(2,(v:Int),(aD (f 0) (f 1)).1,(aD (f 0) (f 1)).2.1,f 2,())):=by
  unfold ec dU;rw [if_pos rfl];simp only [h,cond_true,Option.some_or]
theorem D8 {N v:Nat} {D:NB} {f:Nat→Int} (h0:lg N (uP D (aD (f 0) (f 1)))=false) (h:lg N (uP D (aD (f 1) (f 2)))=true):ec N D (3,f) v=some (uP D (aD (f 1) (f 2)),(2,(v:Int),(aD (f 1) (f 2)).1,(aD (f 1) (f 2)).2.1,f 0,())):=by
  unfold ec dU;rw [if_pos rfl];simp only [h0,h,cond_true,cond_false,Option.some_or,Option.none_or]
theorem D7 {N v:Nat} {D:NB} {f:Nat→Int} (h0:lg N (uP D (aD (f 0) (f 1)))=false) (h1:lg N (uP D (aD (f 1) (f 2)))=false) (h:lg N (uP D (aD (f 2) (f 0)))=true):ec N D (3,f) v=some (uP D (aD (f 2) (f 0)),(2,(v:Int),(aD (f 2) (f 0)).1,(aD (f 2) (f 0)).2.1,f 1,())):=by
  unfold ec dU;rw [if_pos rfl];simp only [h0,h1,h,cond_true,cond_false,Option.none_or]
theorem D3 {N v:Nat} {D:NB} {f:Nat→Int} (h0:lg N (uP D (aD (f 0) (f 1)))=false) (h1:lg N (uP D (aD (f 1) (f 2)))=false) (h:lg N (uP D (aD (f 2) (f 0)))=false):ec N D (3,f) v=none:=by
  unfold ec dU;rw [if_pos rfl];simp only [h0,h1,h,cond_false,Option.none_or]
theorem qh {N nb:Nat} {g:Nat→aa} (hg:ah ((N:Int),(nb,g),())=true) :
    zE 61 [bi g nb N] (uH (i7 N g nb)) (uR N (i7 N g nb)):=by
  obtain ⟨hN,hnb,hok⟩:=az hg
  have hw:∀ v:Nat,v<N→zE 94 [bi g nb N,.p (.int .i64 v)] [(0,aj (ba g v nb).1 (ba g v nb).2),(1,aY (bq g v nb).1 (bq g v nb).2)] (.tup [.agg [.p (.int .i64 N),.ar 2 0 0 (ba g v nb).1],.ar 1 1 0 (bq g v nb).1]):=fun v hv=>sz hok (tF hg) hN.2 hnb v (by omega)
  have hn:∀ v:Nat,(bq g v nb).1+(ba g v nb).1=nb:=fun v=>iL g v nb
  refine aW Tryz.func61 (fun c hc=>?_)
  have l1:∀ d v,v+d=N→zR c 61 nN (Bv g nb N v) (aT c (uH (b7 (fun v=>ec N (ba g v nb) (bq g v nb) v) d v)) (uR N (b7 (fun v=>ec N (ba g v nb) (bq g v nb) v) d v))):=by
    intro d
    induction d with
    | zero =>
      intro v hv
      have hd:decide ((v:Int)<(N:Int))=false:=decide_eq_false (by omega)
      refine bB Tryz.func61 hc (NM g nb N v) ?_
      and_intros
      all_goals (first | exact zI | (exact hd))
    | succ d ih =>
      intro v hv
      have hd:decide ((v:Int)<(N:Int))=true:=decide_eq_true (by omega)
      have hr:=ih (v+1) (by omega)
      have h1:=hw v (by omega)
      have h2:=hn v
      rw [show b7 (fun v=>ec N (ba g v nb) (bq g v nb) v) (d+1) v=(ec N (ba g v nb) (bq g v nb) v).or (b7 (fun v=>ec N (ba g v nb) (bq g v nb) v) d (v+1)) from rfl]
      generalize b7 (fun v=>ec N (ba g v nb) (bq g v nb) v) d (v+1)=Q at hr ⊢
      generalize ba g v nb=D at h1 h2 ⊢
      generalize bq g v nb=F at h1 h2 ⊢
      obtain ⟨e,f⟩:=F
      by_cases he:e=3
      · subst he
        have hdn:D.1≤24:=by simp at h2;omega
        have b0:=lD (f 0) (f 1)
        have b1:=lD (f 1) (f 2)
        have b2:=lD (f 2) (f 0)
        have w0:=gK N D.1 D.2 (aD (f 0) (f 1)) (by omega)
        have w1:=gK N D.1 D.2 (aD (f 1) (f 2)) (by omega)
        have w2:=gK N D.1 D.2 (aD (f 2) (f 0)) (by omega)
        have s0:=ma N (uP D (aD (f 0) (f 1))) (by show D.1+1≤1000;omega)
        have s1:=ma N (uP D (aD (f 1) (f 2))) (by show D.1+1≤1000;omega)
        have s2:=ma N (uP D (aD (f 2) (f 0))) (by show D.1+1≤1000;omega)
        cases h0:lg N (uP D (aD (f 0) (f 1))) with
        | true =>
          rw [h0] at s0
          rw [DD h0,Option.some_or]
          refine bB Tryz.func61 hc (Ih g nb N v D.1 D.2 f (uP D (aD (f 0) (f 1))).2) ?_
          and_intros
          all_goals (first | exact zI | (exact hd) | (exact h1) | (exact b0) | (exact w0) | (exact s0) | (simp;done) | (intro t ht;simp [af];done))
        | false =>
          rw [h0] at s0
          cases h3:lg N (uP D (aD (f 1) (f 2))) with
          | true =>
            rw [h3] at s1
            rw [D8 h0 h3,Option.some_or]
            refine bB Tryz.func61 hc (HF g nb N v D.1 D.2 f (uP D (aD (f 0) (f 1))).2 (uP D (aD (f 1) (f 2))).2) ?_
            and_intros
            all_goals (first | exact zI | (exact hd) | (exact h1) | (exact b0) | (exact w0) | (exact s0) | (exact b1) | (exact w1) | (exact s1) | (simp;done) | (intro t ht;simp [af];done))
          | false =>
            rw [h3] at s1
            cases h4:lg N (uP D (aD (f 2) (f 0))) with
            | true =>
              rw [h4] at s2
              rw [D7 h0 h3 h4,Option.some_or]
              refine bB Tryz.func61 hc (H6 g nb N v D.1 D.2 f (uP D (aD (f 0) (f 1))).2 (uP D (aD (f 1) (f 2))).2 (uP D (aD (f 2) (f 0))).2) ?_
              and_intros
              all_goals (first | exact zI | (exact hd) | (exact h1) | (exact b0) | (exact w0) | (exact s0) | (exact b1) | (exact w1) | (exact s1) | (exact b2) | (exact w2) | (exact s2) | (simp;done) | (intro t ht;simp [af];done))
            | false =>
              rw [h4] at s2
              rw [D3 h0 h3 h4,Option.none_or]
              refine a7 hc (Kd g nb N v D.1 D.2 f (uP D (aD (f 0) (f 1))).2 (uP D (aD (f 1) (f 2))).2 (uP D (aD (f 2) (f 0))).2) ?_ hr
              and_intros
              all_goals (first | exact zI | (exact hd) | (exact h1) | (exact b0) | (exact w0) | (exact s0) | (exact b1) | (exact w1) | (exact s1) | (exact b2) | (exact w2) | (exact s2) | (simp;done) | (intro t ht;simp [af];done))
      · rw [Ep (show (e,f).1≠3 from he),Option.none_or]
        have hx:(!((e:Int)==3))=true:=by simp;omega
        refine a7 hc (NC g nb N v D.1 D.2 e f) ?_ hr
        and_intros
        all_goals (first | exact zI | (exact hd) | (exact h1) | (exact hx) | (simp;omega) | (simp;done) | (intro t ht;simp [af];done))
  have hr1:=l1 N 0 (by omega)
  unfold i7
  generalize b7 (fun v=>ec N (ba g v nb) (bq g v nb) v) N 0=Q at hr1 ⊢
  have l0:∀ d v,v+d=N→zR c 61 xt (E9 g nb N v) (aT c (uH ((b7 (fun v=>gk (ba g v nb) (bq g v nb) v) d v).or Q)) (uR N ((b7 (fun v=>gk (ba g v nb) (bq g v nb) v) d v).or Q))):=by
    intro d
    induction d with
    | zero =>
      intro v hv
      have hd:decide ((v:Int)<(N:Int))=false:=decide_eq_false (by omega)
      refine a7 hc (Kw g nb N v) ?_ hr1
      and_intros
      all_goals (first | exact zN | (exact hd) | (simp;done) | (intro t ht;simp [af];done))
    | succ d ih =>
      intro v hv
      have hd:decide ((v:Int)<(N:Int))=true:=decide_eq_true (by omega)
      have hr:=ih (v+1) (by omega)
      have h1:=hw v (by omega)
      have h2:=hn v
      rw [show b7 (fun v=>gk (ba g v nb) (bq g v nb) v) (d+1) v=(gk (ba g v nb) (bq g v nb) v).or (b7 (fun v=>gk (ba g v nb) (bq g v nb) v) d (v+1)) from rfl,Option.or_assoc]
      generalize (b7 (fun v=>gk (ba g v nb) (bq g v nb) v) d (v+1)).or Q=Q2 at hr ⊢
      generalize ba g v nb=D at h1 h2 ⊢
      generalize bq g v nb=F at h1 h2 ⊢
      obtain ⟨e,f⟩:=F
      by_cases he:e=2
      · subst he
        rw [show gk D (2,f) v=some (D,(1,(v:Int),f 0,f 1,0,())) from rfl,Option.some_or]
        refine bB Tryz.func61 hc (MA g nb N v D.1 D.2 2 f) ?_
        and_intros
        all_goals (first | exact zI | (exact hd) | (exact h1) | (simp;done) | (intro t ht;simp [af];done))
      · rw [show gk D (e,f) v=none by unfold gk;rw [if_neg he],Option.none_or]
        have hx:((e:Int)==2)=false:=by simp;omega
        refine a7 hc (KI g nb N v D.1 D.2 e f) ?_ hr
        and_intros
        all_goals (first | exact zI | (exact hd) | (exact h1) | (exact hx) | (simp;omega) | (simp;done) | (intro t ht;simp [af];done))
  refine a7 hc (KZ g nb N) ?_ (l0 N 0 (by omega))
  and_intros
  all_goals (first | exact zN | (simp;done) | (intro t ht;simp [af];done))
def dX (n:Nat) (f:Nat→ap):Ob:=⟨false,5,n,fun i=>[.p (.int .i64 (f i).1),.p (.int .i64 (f i).2.1),.p (.int .i64 (f i).2.2.1),.p (.int .i64 (f i).2.2.2.1),.p (.int .i64 (f i).2.2.2.2.1)]⟩
def LR (t:Bool) (h:Nat→aa) (n N:Nat):Ob:=⟨true,2,1,fun _=>[.p (.int .i64 N),.p (.seq t 2 n (fun i=>[.int .i64 (h i).1,.int .i64 (h i).2.1]))]⟩
def pM:ap:=(0,0,0,0,0,())
def Bu (c:Nat) (S:Nat→ap) (x:ap) (i:Nat):ap:=(if i<c then (S i).1 else x.1,if i<c then (S i).2.1 else x.2.1,if i<c then (S i).2.2.1 else x.2.2.1,if i<c then (S i).2.2.2.1 else x.2.2.2.1,if i<c then (S i).2.2.2.2.1 else x.2.2.2.2.1,())
def om (S:Nat→ap) (x:ap) (i:Nat):ap:=(if i<1 then x.1 else (S (i - 1)).1,if i<1 then x.2.1 else (S (i - 1)).2.1,if i<1 then x.2.2.1 else (S (i - 1)).2.2.1,if i<1 then x.2.2.2.1 else (S (i - 1)).2.2.2.1,if i<1 then x.2.2.2.2.1 else (S (i - 1)).2.2.2.2.1,())
def Bb (f:Nat→ap) (i j:Int) (s:Nat):ap:=if s=j.toNat then f i.toNat else if s=i.toNat then f j.toNat else f s
def GE (n:Nat) (f:Nat→ap) (i j:Int):St:=⟨[.ar 5 0 0 n,.p .any,.p (.int .i64 i),.p (.int .i64 j)]++List.replicate 24 ag,[(0,dX n f)],1⟩
def Er (t:Bool) (N n:Nat) (h:Nat→aa) (c:Nat) (S:Nat→ap):St:=⟨[.p .any,.pt 2 0 0 0,.p .any,.p .any,.ar 5 1 0 c]++List.replicate 49 ag,[(0,LR t h n N),(1,dX c S)],2⟩
def JX (c:Nat) (S:Nat→ap):St:=⟨[.p .any,.p .any,.p .any,.p .any,.ar 5 0 0 c]++List.replicate 49 ag,[(0,dX c S)],1⟩
def OA (x:ap):AV:=.agg [.p (.int .i64 x.1),.p (.int .i64 x.2.1),.p (.int .i64 x.2.2.1),.p (.int .i64 x.2.2.2.1),.p (.int .i64 x.2.2.2.2.1)]
def dY (h:Nat→aa):ap:=(0,0,(h 0).1,(h 0).2.1,0,())
theorem K9 (n:Nat) (f:Nat→ap) :
    zM 1 [rg 5,.head] [.code (ab Tryz.f62)] (start Tryz.f62 [(0,dX n f)] 1 [.ar 5 0 0 n]) [0] 1 (GE n f 0 ((n:Int) - 1)) =
    some (rN,[(ax ((n:Int) - 1)),(au ((n:Int) - 1)),(AN 0),(AN n),(AI 0),(AI (((n:Int) - 1))),(AN 5),(NL n n),(AA n (fun i=>[.p (.int .i64 ((f i).1)),.p (.int .i64 ((f i).2.1)),.p (.int .i64 ((f i).2.2.1)),.p (.int .i64 ((f i).2.2.2.1)),.p (.int .i64 ((f i).2.2.2.2.1))]))]):=by kernel_rfl
theorem Mg (n:Nat) (f:Nat→ap) (i j:Int) :
    zM 1 [rg 3,.dec true,rg 16,rg 6,.head] rN (GE n f i j) [0] 1 (GE n (Bb f i j) (i+1) (j - 1)) =
    some (rN,zD [((decide (i<j))=true),(IL 0 j),(IT j (n:Int)),(NT j.toNat n),(IL 0 i),(IT i (n:Int)),(NT i.toNat n),((false=true)→((n:Nat)=1)),(ax (i+1)),(au (i+1)),(ax (j - 1)),(au (j - 1)),(AN 0),(AN n),(AI ((i+1))),(AI ((j - 1))),(AN 5),(NL n n),(CV [(0,⟨false,5,n,(fun i_2=>(if (i_2=j.toNat) then [.p (.int .i64 ((f i.toNat).1)),.p (.int .i64 ((f i.toNat).2.1)),.p (.int .i64 ((f i.toNat).2.2.1)),.p (.int .i64 ((f i.toNat).2.2.2.1)),.p (.int .i64 ((f i.toNat).2.2.2.2.1))] else (if (i_2=i.toNat) then [.p (.int .i64 ((f j.toNat).1)),.p (.int .i64 ((f j.toNat).2.1)),.p (.int .i64 ((f j.toNat).2.2.1)),.p (.int .i64 ((f j.toNat).2.2.2.1)),.p (.int .i64 ((f j.toNat).2.2.2.2.1))] else [.p (.int .i64 ((f i_2).1)),.p (.int .i64 ((f i_2).2.1)),.p (.int .i64 ((f i_2).2.2.1)),.p (.int .i64 ((f i_2).2.2.2.1)),.p (.int .i64 ((f i_2).2.2.2.2.1))])))⟩)] [0] 1 n (fun i_1=>if (i_1=j.toNat) then [.p (.int .i64 ((f i.toNat).1)),.p (.int .i64 ((f i.toNat).2.1)),.p (.int .i64 ((f i.toNat).2.2.1)),.p (.int .i64 ((f i.toNat).2.2.2.1)),.p (.int .i64 ((f i.toNat).2.2.2.2.1))] else (if (i_1=i.toNat) then [.p (.int .i64 ((f j.toNat).1)),.p (.int .i64 ((f j.toNat).2.1)),.p (.int .i64 ((f j.toNat).2.2.1)),.p (.int .i64 ((f j.toNat).2.2.2.1)),.p (.int .i64 ((f j.toNat).2.2.2.2.1))] else [.p (.int .i64 ((f i_1).1)),.p (.int .i64 ((f i_1).2.1)),.p (.int .i64 ((f i_1).2.2.1)),.p (.int .i64 ((f i_1).2.2.2.1)),.p (.int .i64 ((f i_1).2.2.2.2.1))])) (fun i_1=>[.p (.int .i64 ((Bb f i j i_1).1)),.p (.int .i64 ((Bb f i j i_1).2.1)),.p (.int .i64 ((Bb f i j i_1).2.2.1)),.p (.int .i64 ((Bb f i j i_1).2.2.2.1)),.p (.int .i64 ((Bb f i j i_1).2.2.2.2.1))]))] [0,1,2,3,4,5,6,4,5,6,7,1,2,3,7,8,9,10,11,12,13,14,15,16,17,18]):=by kernel_rfl
theorem JR (n:Nat) (f r:Nat→ap) (i j:Int) :
    zP Tryz.f62 1 [rg 3,.dec false] rN (GE n f i j) [0] 1 [(0,dX n r)] (.tup []) =
    some [((decide (i<j))=false),(AN 5),(NL n n),(∀ i_1:Nat,(((i_1:Nat)<n)→(af []∧(([.p (.int .i64 ((f i_1).1)),.p (.int .i64 ((f i_1).2.1)),.p (.int .i64 ((f i_1).2.2.1)),.p (.int .i64 ((f i_1).2.2.2.1)),.p (.int .i64 ((f i_1).2.2.2.2.1))]:List AV)=[.p (.int .i64 ((r i_1).1)),.p (.int .i64 ((r i_1).2.1)),.p (.int .i64 ((r i_1).2.2.1)),.p (.int .i64 ((r i_1).2.2.2.1)),.p (.int .i64 ((r i_1).2.2.2.2.1))])))),(AE n)]:=by kernel_rfl
theorem M9 (g:Nat→aa) (nb N:Nat) (b:Bool) :
    zS Tryz.f25 [rg 3,rm [(1,oc [] (jB b))] 7,.dec true,rg 3] [bi g nb N] [384] [(0,dX 0 (fun _=>pM))] (.tup [.ar 5 0 0 0,jB false]) =
    some [(NT 0 1),zE 60 [(ak N nb g)] [] (jB b),(AG (!!b)),(((!!b)=true)→(NT 0 1)),(AG (!!b)),(AG (!!b)),(((!b)=false)→((!!b)=true)),((bif !b then true else (nb:Int)==0)=true),(AN 0),(AN 0),(false=false),(AN 5),(NL 0 0),(AA 0 (fun i=>[.p (.int .i64 0),.p (.int .i64 0),.p (.int .i64 0),.p (.int .i64 0),.p (.int .i64 0)])),(AE 0)]:=by kernel_rfl
theorem Ll (g:Nat→aa) (nb N:Nat) (b:Bool) :
    zT Tryz.f25 [rg 3,rm [(1,oc [] (jB b))] 7,.dec false,rg 2,.head] [bi g nb N] [0,384] (Er true N nb g 0 (fun _=>pM)) =
    some (ta,[(NT 0 1),zE 60 [(ak N nb g)] [] (jB b),(AG (!!b)),(((!!b)=true)→(NT 0 1)),(AG (!!b)),(AG (!!b)),(((!b)=false)→((!!b)=true)),((bif !b then true else (nb:Int)==0)=false),(AN 0),(AN 0),(AN 0),((([AV.p (PV.int IntKind.i64 (N:Int)),b4 g nb].length):Nat)=2),(NL 1 1),(NL 1 1),(AI ((N:Int))),(AN nb),(AP nb (aH g)),(AN 5),(NL 0 0),(AA 0 (fun i=>[.p (.int .i64 0),.p (.int .i64 0),.p (.int .i64 0),.p (.int .i64 0),.p (.int .i64 0)]))]):=by kernel_rfl
theorem Kq (t:Bool) (N n:Nat) (h:Nat→aa) (c:Nat) (S:Nat→ap) :
    zP Tryz.f25 0 [rg 4,.dec true,rm [(1,oc [] H3)] 9,rg 2,.dec true,rg 3] ta (Er t N n h c S) [546] 1 [(0,dX 0 (fun _=>pM))] (.tup [.ar 5 0 0 0,jB false]) =
    some (zD [(NT 0 1),((decide ((n:Int)>1))=true),zE 61 [(ak N n h)] [] (.tup [.agg [.p .any,.p .any],.agg [.p .any,.p .any,.p .any,.p .any,.p .any],jB false]),((true=true)→(AN 1)),((!false)=true),(AN 0),(false=false),(AN 5),(NL 0 0),(AA 0 (fun i=>[.p (.int .i64 0),.p (.int .i64 0),.p (.int .i64 0),.p (.int .i64 0),.p (.int .i64 0)])),(AE 0)] [0,1,0,2,0,3,0,3,4,5,5,6,7,8,9,10]):=by kernel_rfl
theorem MG (t:Bool) (N n:Nat) (h:Nat→aa) (c:Nat) (S:Nat→ap) (d:Nat) (r:Nat→aa) (x:ap) :
    zM 0 [rg 4,.dec true,rm [(1,oc [(0,aj d r)] (.tup [.agg [jI N,.ar 2 0 0 d],OA x,jB true]))] 9,rg 2,.dec false,rg 5,rg 2,.head] ta (Er t N n h c S) [0,642] 1 (Er false N d r (c+1) (Bu c S x)) =
    some (ta,zD [(NT 0 1),((decide ((n:Int)>1))=true),zE 61 [(ak N n h)] (bg d r) (.tup [.agg [jI (N:Int),.ar 2 0 0 d],.agg [jI x.1,jI x.2.1,jI x.2.2.1,jI x.2.2.2.1,jI x.2.2.2.2.1],jB true]),((true=true)→(AN 1)),((!true)=false),(NL 1 1),(NL c c),(NL ((c+1)*40) 140737488355328),(NL (c+1) 9223372036854775807),(AN 0),(AN ((c+1))),(AN 2),(NL d d),(AI ((N:Int))),(AN d),(AP d (aH r)),(AN 5),(NL (c+1) (c+1)),(CV [(0,⟨true,2,1,(fun i_1=>[.p (.int .i64 (N:Int)),.ar 2 162 0 d])⟩),(642,⟨false,5,(c+1),(fun i_1=>(if (i_1<c) then [.p (.int .i64 ((S i_1).1)),.p (.int .i64 ((S i_1).2.1)),.p (.int .i64 ((S i_1).2.2.1)),.p (.int .i64 ((S i_1).2.2.2.1)),.p (.int .i64 ((S i_1).2.2.2.2.1))] else [.p (.int .i64 x.1),.p (.int .i64 x.2.1),.p (.int .i64 x.2.2.1),.p (.int .i64 x.2.2.2.1),.p (.int .i64 x.2.2.2.2.1)]))⟩),(610,⟨false,5,1,(fun i_1=>[.p (.int .i64 x.1),.p (.int .i64 x.2.1),.p (.int .i64 x.2.2.1),.p (.int .i64 x.2.2.2.1),.p (.int .i64 x.2.2.2.2.1)])⟩),(354,⟨true,5,1,(fun i_1=>[.p (.int .i64 x.1),.p (.int .i64 x.2.1),.p (.int .i64 x.2.2.1),.p (.int .i64 x.2.2.2.1),.p (.int .i64 x.2.2.2.2.1)])⟩),(322,⟨true,2,1,(fun i_1=>[.p (.int .i64 (N:Int)),.ar 2 162 0 d])⟩),(162,⟨false,2,d,(fun i_1=>[.p (.int .i64 ((r i_1).1)),.p (.int .i64 ((r i_1).2.1))])⟩)] [0,642] 1 (c+1) (fun i=>if (i<c) then [.p (.int .i64 ((S i).1)),.p (.int .i64 ((S i).2.1)),.p (.int .i64 ((S i).2.2.1)),.p (.int .i64 ((S i).2.2.2.1)),.p (.int .i64 ((S i).2.2.2.2.1))] else [.p (.int .i64 x.1),.p (.int .i64 x.2.1),.p (.int .i64 x.2.2.1),.p (.int .i64 x.2.2.2.1),.p (.int .i64 x.2.2.2.2.1)]) (fun i=>[.p (.int .i64 (if i<c then (S i).1 else x.1)),.p (.int .i64 (if i<c then (S i).2.1 else x.2.1)),.p (.int .i64 (if i<c then (S i).2.2.1 else x.2.2.1)),.p (.int .i64 (if i<c then (S i).2.2.2.1 else x.2.2.2.1)),.p (.int .i64 (if i<c then (S i).2.2.2.2.1 else x.2.2.2.2.1))]))] [0,1,0,2,0,3,0,3,4,0,5,6,7,8,0,0,3,9,9,10,11,5,5,11,12,13,14,15,16,17,18]):=by kernel_rfl
theorem Nb (t:Bool) (N:Nat) (h:Nat→aa) (c:Nat) (S:Nat→ap) :
    zM 0 [rg 4,.dec false,rg 15,.head] ta (Er t N 1 h c S) [546] 1 (JX (c+1) (Bu c S (dY h))) =
    some ([.code (ao (ab Tryz.f25) [1,1,1,1,1,0]),.code (ao (ab Tryz.f25) [1,1,1,1,1,1])],[(NT 0 1),((decide ((↑1:Int)>1))=false),(NT 0 1),(IL 0 0),(IT 0 (↑1:Int)),(NT 0 1),(IL 0 0),(IT 0 (↑1:Int)),(NL 1 1),(NL c c),(NL ((c+1)*40) 140737488355328),(NL (c+1) 9223372036854775807),(AN 0),(AN ((c+1))),(AN 5),(NL (c+1) (c+1)),(CV [(546,⟨false,5,(c+1),(fun i_1=>(if (i_1<c) then [.p (.int .i64 ((S i_1).1)),.p (.int .i64 ((S i_1).2.1)),.p (.int .i64 ((S i_1).2.2.1)),.p (.int .i64 ((S i_1).2.2.2.1)),.p (.int .i64 ((S i_1).2.2.2.2.1))] else [.p (.int .i64 0),.p (.int .i64 0),.p (.int .i64 ((h 0).1)),.p (.int .i64 ((h 0).2.1)),.p (.int .i64 0)]))⟩),(514,⟨false,5,1,(fun i_1=>[.p (.int .i64 0),.p (.int .i64 0),.p (.int .i64 ((h 0).1)),.p (.int .i64 ((h 0).2.1)),.p (.int .i64 0)])⟩),(0,⟨true,2,1,(fun i_1=>[.p (.int .i64 (N:Int)),.p (.seq t 2 1 (aH h))])⟩)] [546] 1 (c+1) (fun i=>if (i<c) then [.p (.int .i64 ((S i).1)),.p (.int .i64 ((S i).2.1)),.p (.int .i64 ((S i).2.2.1)),.p (.int .i64 ((S i).2.2.2.1)),.p (.int .i64 ((S i).2.2.2.2.1))] else [.p (.int .i64 0),.p (.int .i64 0),.p (.int .i64 ((h 0).1)),.p (.int .i64 ((h 0).2.1)),.p (.int .i64 0)]) (fun i=>[.p (.int .i64 (if i<c then (S i).1 else 0)),.p (.int .i64 (if i<c then (S i).2.1 else 0)),.p (.int .i64 (if i<c then (S i).2.2.1 else (h 0).1)),.p (.int .i64 (if i<c then (S i).2.2.2.1 else (h 0).2.1)),.p (.int .i64 (if i<c then (S i).2.2.2.2.1 else 0))]))]):=by kernel_rfl
theorem M2 (c:Nat) (S r:Nat→ap) :
    zP Tryz.f25 0 [rm [(1,oq [0] [(0,dX c r)] (.tup []))] 0,rg 3] [.code (ao (ab Tryz.f25) [1,1,1,1,1,0]),.code (ao (ab Tryz.f25) [1,1,1,1,1,1])] (JX c S) [0] 1 [(0,dX c r)] (.tup [.ar 5 0 0 c,jB true]) =
    some [(AE c),Con Tryz.prog 62 1 (yl c S) [.ar 5 0 0 c] (yl c r) (.tup []),(AN 0),(AN c),(true=true),(AN 5),(NL c c),(AA c (fun i=>[.p (.int .i64 ((r i).1)),.p (.int .i64 ((r i).2.1)),.p (.int .i64 ((r i).2.2.1)),.p (.int .i64 ((r i).2.2.2.1)),.p (.int .i64 ((r i).2.2.2.2.1))])),(AE c)]:=by kernel_rfl
open Go Go.Sort
theorem K6 (v:ai) :
    zS Tryz.f24 [rg 2,rg 8] [aJ v] [224] [(0,aj v.2.1.1 v.2.1.2)] (.agg [jI v.1,.ar 2 0 0 v.2.1.1]) =
    some [(NT 0 1),(NT 0 1),(NL 0 0),(NL ((0+v.2.1.1)*16) 140737488355328),(NL (0+v.2.1.1) 9223372036854775807),(NT 0 1),((true=true)→(AN 1)),(NT 0 1),(AI v.1),(AN 0),(((0+v.2.1.1):Nat)=v.2.1.1),(AN 2),(NL v.2.1.1 (0+v.2.1.1)),(AA v.2.1.1 (fun i=>[.p (.int .i64 ((v.2.1.2 i).1)),.p (.int .i64 ((v.2.1.2 i).2.1))])),(AE v.2.1.1)]:=by kernel_rfl
theorem nM (v:ai) (hn:v.2.1.1≤1048576):zE 24 [aJ v] [(0,aj v.2.1.1 v.2.1.2)] (.agg [.p (.int .i64 v.1),.ar 2 0 0 v.2.1.1]):=by
  refine aW Tryz.func24 (fun c hc=>?_)
  refine be Tryz.func24 hc (K6 v) ?_
  and_intros
  all_goals (first | exact zI | (intro j hj;simp [af];done) | (simp;try omega))
theorem Bn (n:Nat) (f R:Nat→ap) (hn:n≤1000) (hR:∀ s,s<n→R s=f (n - 1 - s)) :
    Con Tryz.prog 62 1 [(0,dX n f)] [.ar 5 0 0 n] [(0,dX n R)] (.tup []):=by
  refine aW Tryz.func62 (fun c hc=>?_)
  have lo:∀ d k (h:Nat→ap),k+d=n→(∀ s,s<n→h s=if s<k∨n≤s+k then f (n - 1 - s) else f s) →
      zR c 62 rN (GE n h k ((n:Int) - 1 - k)) (aT c [(0,dX n R)] (.tup [])):=by
    intro d
    induction d with
    | zero =>
      intro k h hk hh
      have hd:decide ((k:Int)<(n:Int) - 1 - k)=false:=decide_eq_false (by omega)
      have he:∀ s,s<n→h s=R s:=fun s hs=>by rw [hh s hs,hR s hs,if_pos (Or.inl (by omega))]
      refine be Tryz.func62 hc (JR n h R k ((n:Int) - 1 - k)) ?_
      and_intros
      iterate 2 all_goals (first | exact zN | (exact hd) | (simp;done) | (intro t ht;rw [he t ht];simp [af];done) | simp only [af])
    | succ d ih =>
      intro k h hk hh
      by_cases hlt:(k:Int)<(n:Int) - 1 - k
      · have hd:decide ((k:Int)<(n:Int) - 1 - k)=true:=decide_eq_true hlt
        have e1:((n:Int) - 1 - k).toNat=n - 1 - k:=by omega
        have hr:=ih (k+1) (Bb h k ((n:Int) - 1 - k)) (by omega) (fun s hs=>by
          unfold Bb
          rw [e1,show (k:Int).toNat=k from rfl]
          by_cases h1:s=n - 1 - k
          · rw [if_pos h1,hh k (by omega),if_neg (by omega),if_pos (Or.inr (by omega)),show n - 1 - s=k by omega]
          · rw [if_neg h1]
            by_cases h2:s=k
            · rw [if_pos h2,hh _ (by omega),if_neg (by omega),if_pos (Or.inl (by omega)),h2]
            · rw [if_neg h2,hh s hs]
              by_cases h3:s<k∨n≤s+k
              · rw [if_pos h3,if_pos (by omega)]
              · rw [if_neg h3,if_neg (by omega)])
        rw [show ((n:Int) - 1 - ((k+1:Nat):Int))=(n:Int) - 1 - k - 1 by omega,show ((k+1:Nat):Int)=(k:Int)+1 by omega] at hr
        refine a7 hc (Mg n h k ((n:Int) - 1 - k)) ?_ hr
        repeat' (first | exact aN | apply aI)
        all_goals (first | exact zI | (exact hd) | (simp;omega) | (simp;done) | (intro t ht;by_cases h':t=((n:Int) - 1 - k).toNat<;>by_cases h2:t=(k:Int).toNat<;>first | (simp only [Bb,if_pos h'];exact ⟨True.intro,rfl⟩) | (simp only [Bb,if_neg h',if_pos h2];exact ⟨True.intro,rfl⟩) | (simp only [Bb,if_neg h',if_neg h2];exact ⟨True.intro,rfl⟩)) | (intro t ht;simp [af];done))
      · have hd:decide ((k:Int)<(n:Int) - 1 - k)=false:=decide_eq_false hlt
        have he:∀ s,s<n→h s=R s:=fun s hs=>by
          rw [hh s hs,hR s hs]
          by_cases h3:s<k∨n≤s+k
          · rw [if_pos h3]
          · rw [if_neg h3,show n - 1 - s=s by omega]
        refine be Tryz.func62 hc (JR n h R k ((n:Int) - 1 - k)) ?_
        and_intros
        iterate 2 all_goals (first | exact zN | (exact hd) | (simp;done) | (intro t ht;rw [he t ht];simp [af];done) | simp only [af])
  have hr:=lo n 0 f (by omega) (fun s hs=>by rw [if_neg (by omega)])
  rw [show ((n:Int) - 1 - ((0:Nat):Int))=(n:Int) - 1 by omega] at hr
  refine cW hc (K9 n f) ?_ hr
  and_intros
  all_goals (first | exact zN | (simp;done) | (simp;omega) | (intro t ht;simp [af];done))
theorem d9 {α:Type} {F:Nat→Option α} {u:α}:∀ d v,b7 F d v=some u→∃ w,F w=some u
  | 0,v,h=>by cases h
  | d+1,v,h=>by
    rw [show b7 F (d+1) v=(F v).or (b7 F d (v+1)) from rfl] at h
    cases hv:F v with
    | some x=>rw [hv,Option.some_or] at h;exact ⟨v,by rw [hv,h]⟩
    | none=>rw [hv,Option.none_or] at h;exact d9 d (v+1) h
theorem ke {N:Nat} {D:NB} {v:Nat} {a b c:Int} {u:NB×ap} (h:dU N D v a b c=some u):ah ((N:Int),(u.1.1,u.1.2),())=true∧u.1.1=D.1+1:=by
  unfold dU at h
  cases hs:lg N (uP D (aD a b)) with
  | false=>rw [hs] at h;cases h
  | true =>
    rw [hs] at h
    simp only [cond_true,Option.some.injEq] at h
    subst h
    refine ⟨?_,rfl⟩
    cases hg:ah ((N:Int),((uP D (aD a b)).1,(uP D (aD a b)).2),()) with
    | true=>rfl
    | false=>unfold lg at hs;rw [hg] at hs;cases hs
theorem BH {N nb:Nat} {g:Nat→aa} (hg:ah ((N:Int),(nb,g),())=true) {u:NB×ap} (h:i7 N g nb=some u) :
    ah ((N:Int),(u.1.1,u.1.2),())=true∧u.1.1+2=nb:=by
  unfold i7 at h
  cases h2:b7 (fun v=>gk (ba g v nb) (bq g v nb) v) N 0 with
  | some x =>
    rw [h2,Option.some_or] at h
    cases h
    obtain ⟨w,hw⟩:=d9 _ _ h2
    have hn:=iL g w nb
    unfold gk at hw
    by_cases he:(bq g w nb).1=2
    · rw [if_pos he] at hw
      cases hw
      exact ⟨pb hg w,by show (ba g w nb).1+2=nb;omega⟩
    · rw [if_neg he] at hw;cases hw
  | none =>
    rw [h2,Option.none_or] at h
    obtain ⟨w,hw⟩:=d9 _ _ h
    have hn:=iL g w nb
    unfold ec at hw
    by_cases he:(bq g w nb).1=3
    · rw [if_pos he] at hw
      have hx:ah ((N:Int),(u.1.1,u.1.2),())=true∧u.1.1=(ba g w nb).1+1:=by
        cases h0:dU N (ba g w nb) w ((bq g w nb).2 0) ((bq g w nb).2 1) ((bq g w nb).2 2) with
        | some x=>rw [h0,Option.some_or] at hw;cases hw;exact ke h0
        | none =>
          rw [h0,Option.none_or] at hw
          cases h1:dU N (ba g w nb) w ((bq g w nb).2 1) ((bq g w nb).2 2) ((bq g w nb).2 0) with
          | some x=>rw [h1,Option.some_or] at hw;cases hw;exact ke h1
          | none=>rw [h1,Option.none_or] at hw;exact ke hw
      exact ⟨hx.1,by rw [hx.2];omega⟩
    · rw [if_neg he] at hw;cases hw
noncomputable def nI (N:Nat):Nat→NB→aU→aU×Bool
  | 0,D,S=>((S.1+1,om S.2 (dY D.2)),true)
  | m+1,D,S=>if 1<D.1 then (match i7 N D.2 D.1 with
      | none=>((0,fun _=>pM),false)
      | some u=>nI N m u.1 (S.1+1,om S.2 u.2)) else ((S.1+1,om S.2 (dY D.2)),true)
noncomputable def pC (N nb:Nat) (g:Nat→aa):aU×Bool :=
  bif (bif !oV ((N:Int),(nb,g),()) then true else (nb:Int)==0) then ((0,fun _=>pM),false) else nI N nb (nb,g) (0,fun _=>pM)
theorem A3 (N m:Nat) (D:NB) (S:aU) (h:D.1=1):nI N m D S=((S.1+1,om S.2 (dY D.2)),true):=by
  cases m with
  | zero=>rfl
  | succ m=>rw [nI,if_neg (by omega)]
theorem Gp {N m:Nat} {D:NB} {S:aU} (h:1<D.1) (hu:i7 N D.2 D.1=none):nI N (m+1) D S=((0,fun _=>pM),false):=by
  rw [nI,if_pos h,hu]
theorem Dj {N m:Nat} {D:NB} {S:aU} {u:NB×ap} (h:1<D.1) (hu:i7 N D.2 D.1=some u):nI N (m+1) D S=nI N m u.1 (S.1+1,om S.2 u.2):=by
  rw [nI,if_pos h,hu]
theorem Eo {N nb:Nat} {g:Nat→aa} (h:(bif !oV ((N:Int),(nb,g),()) then true else (nb:Int)==0)=false):ah ((N:Int),(nb,g),())=true∧nb % 2=1:=by
  cases hm:oV ((N:Int),(nb,g),()) with
  | false=>rw [hm] at h;cases h
  | true =>
    rw [hm] at h
    have hz:¬ nb=0:=by intro hz;subst hz;simp at h
    unfold oV at hm
    cases hf:(bw ((N:Int),(nb,g),())==0) with
    | false=>rw [hf] at hm;cases hm
    | true =>
      rw [hf] at hm
      have hg:=ku hf
      refine ⟨hg,?_⟩
      have h1:(nb:Int)=(qF ((N:Int),(nb,g),()):Int):=by simpa using hm
      have h2:cE (N:Int) - (qF ((N:Int),(nb,g),()):Int)=0:=by
        have h3:bw ((N:Int),(nb,g),())=cE (N:Int) - (qF ((N:Int),(nb,g),()):Int):=by unfold bw;rw [if_pos hg]
        rw [← h3];simpa using hf
      unfold cE at h2
      split at h2<;>omega
theorem ml {c:Nat} {S:Nat→ap} {x:ap} (t:Nat):om S x t=if t<1 then x else S (t - 1):=by
  unfold om;split<;>rfl
theorem Ej {c:Nat} {S:Nat→ap} {x:ap} (t:Nat):Bu c S x t=if t<c then S t else x:=by
  unfold Bu;split<;>rfl
theorem zp {c:Nat} {S S':Nat→ap} (h:∀ i,i<c→S i=S' (c - 1 - i)) (x:ap):∀ i,i<c+1→om S x i=Bu c S' x (c+1 - 1 - i):=by
  intro i hi
  rw [ml (c:=0),Ej]
  by_cases h0:i<1
  · rw [if_pos h0,if_neg (by omega)]
  · rw [if_neg h0,if_pos (by omega),h (i - 1) (by omega),show c - 1 - (i - 1)=c+1 - 1 - i by omega]
theorem fV {N nb:Nat} {g:Nat→aa} (hsm:nb≤1048576) :
    zE 25 [bi g nb N] [(0,dX (pC N nb g).1.1 (pC N nb g).1.2)] (.tup [.ar 5 0 0 (pC N nb g).1.1,.p (.bool (pC N nb g).2)]):=by
  have hs:cQ a9 ((N:Int),(nb,g),()):=⟨by simp [cQ,j0],⟨hsm,fun i hi=>by simp [cQ,j0]⟩,True.intro⟩
  have cm:=qQ ((N:Int),(nb,g),()) hs
  refine aW Tryz.func25 (fun c hc=>?_)
  cases hb:(bif !oV ((N:Int),(nb,g),()) then true else (nb:Int)==0) with
  | true =>
    rw [show pC N nb g=((0,fun _=>pM),false) by unfold pC;rw [hb];rfl]
    refine be Tryz.func25 hc (M9 g nb N (oV ((N:Int),(nb,g),()))) ?_
    and_intros
    all_goals (first | exact zH | (exact cm) | (exact hb) | (intro h;simpa using h) | (simp;done))
  | false =>
    rw [show pC N nb g=nI N nb (nb,g) (0,fun _=>pM) by unfold pC;rw [hb];rfl]
    obtain ⟨hg,ho⟩:=Eo hb
    have hnb:=(az hg).2.1
    generalize hR:nI N nb (nb,g) (0,fun _=>pM)=R
    have le:∀ (t:Bool) (h:Nat→aa) (e:Nat) (S S':Nat→ap),e≤nb→(∀ i,i<e→S i=S' (e - 1 - i)) →
        zR c 25 ta (Er t N 1 h e S') (aT c [(0,dX (e+1) (om S (dY h)))] (.tup [.ar 5 0 0 (e+1),.p (.bool true)])):=by
      intro t h e S S' he hrel
      have hd:decide (((1:Nat):Int)>1)=false:=by decide
      have cr:=Bn (e+1) (Bu e S' (dY h)) (om S (dY h)) (by omega) (zp hrel (dY h))
      refine cW hc (Nb t N h e S') ?_ (be Tryz.func25 hc (M2 (e+1) (Bu e S' (dY h)) (om S (dY h))) ?_)
      ·
        and_intros
        all_goals (first | exact zN | (exact hd) | (simp;done) | (simp;omega) | (intro t ht;by_cases h':t<e<;>(simp [h',Bu,dY,ay,bh,tg,bu,af];done)) | (intro t ht;simp [af];done))
      ·
        and_intros
        all_goals (first | exact zH | (exact cr) | (simp;done) | (simp;omega) | (intro t ht;simp [af];done))
    have lo:∀ m (t:Bool) (D:NB) (S S':aU),D.1≤2*m+1→D.1 % 2=1→S.1+D.1≤nb→S'.1=S.1→(∀ i,i<S.1→S.2 i=S'.2 (S.1 - 1 - i))→ah ((N:Int),(D.1,D.2),())=true→nI N m D S=R →
        zR c 25 ta (Er t N D.1 D.2 S'.1 S'.2) (aT c [(0,dX R.1.1 R.1.2)] (.tup [.ar 5 0 0 R.1.1,.p (.bool R.2)])):=by
      intro m
      induction m with
      | zero =>
        intro t D S S' hD ho hb hl hrel hg hR
        obtain ⟨n,h⟩:=D
        obtain ⟨e,S⟩:=S
        obtain ⟨e',S'⟩:=S'
        obtain rfl:e'=e:=hl
        have hn:n=1:=by simp at hD ho;omega
        subst hn
        rw [← hR,A3 N 0 _ _ rfl]
        exact le t h e' S S' (by simp at hb;omega) hrel
      | succ m ih =>
        intro t D S S' hD ho hb hl hrel hg hR
        obtain ⟨n,h⟩:=D
        obtain ⟨e,S⟩:=S
        obtain ⟨e',S'⟩:=S'
        obtain rfl:e'=e:=hl
        by_cases h1:1<n
        · have hd:decide ((n:Int)>1)=true:=decide_eq_true (by omega)
          have cu:=qh hg
          cases hu:i7 N h n with
          | none =>
            rw [show i7 N (n,h).2 (n,h).1=none from hu] at cu
            rw [← hR,Gp (D:=(n,h)) h1 hu]
            refine bB Tryz.func25 hc (Kq t N n h e' S') ?_
            and_intros
            all_goals (first | exact zI | (exact hd) | (exact cu) | (simp;done) | (intro t ht;simp [af];done))
          | some u =>
            rw [show i7 N (n,h).2 (n,h).1=some u from hu] at cu
            obtain ⟨hg',hn'⟩:=BH hg hu
            have hr:=ih false u.1 (e'+1,om S u.2) (e'+1,Bu e' S' u.2) (by simp at hD hn';omega) (by simp at ho hn';omega) (by simp at hb hn' ⊢;omega) rfl (zp hrel u.2) hg' (by rw [← hR,Dj (D:=(n,h)) h1 hu])
            refine a7 hc (MG t N n h e' S' u.1.1 u.1.2 u.2) ?_ hr
            and_intros
            all_goals (first | exact zI | (exact hd) | (exact cu) | (simp;done) | (simp;omega) | (intro t ht;by_cases h':t<e'<;>(simp [h',Bu,ay,bh,tg,bu,af];done)) | (intro t ht;simp [af];done))
        · have hn:n=1:=by simp at ho;omega
          subst hn
          rw [← hR,A3 N (m+1) _ _ rfl]
          exact le t h e' S S' (by simp at hb;omega) hrel
    have hr:=lo nb true (nb,g) (0,fun _=>pM) (0,fun _=>pM) (by simp;omega) ho (by simp) rfl (fun i hi=>absurd hi (Nat.not_lt_zero _)) hg hR
    refine cW hc (Ll g nb N (oV ((N:Int),(nb,g),()))) ?_ hr
    and_intros
    all_goals (first | exact zH | (exact cm) | (exact hb) | (intro h;simpa using h) | (simp;done) | (intro t ht;simp [af];done))
theorem Con.add {P:Program} {f:FuncId} {args:List AV} {H' H'':Hp} {cs cs':List AV} {b:Bool} (S:Nat→Bool) (h:Con P f 0 [] args H' (.tup [.agg cs,.p (.bool b)]))
    (h1:∀ o ob,lk H'' o=some ob→(lk H' o=some ob∧S o.o=false)∨(S o.o=true∧ob.n=0)) (h2:∀ o ob,lk H' o=some ob→S o.o=false∧lk H'' o=some ob)
    (h3:∀ o ob,lk H' o=some ob→∀ i j,i<ob.n→j<ob.z→∃ v,(ob.f i).getD j ag=.p v) (hlen:cs'.length=cs.length)
    (h4:∀ j,j<cs.length→(cs'.getD j ag=cs.getD j ag∧((∃ v,cs.getD j ag=.p v)∨∃ z o off n,cs.getD j ag=.ar z o off n∧S o.o=false)) ∨
      (cs.getD j ag=.p .nil∧∃ z o off,cs'.getD j ag=.ar z o off 0)):Con P f 0 [] args H'' (.tup [.agg cs',.p (.bool b)]):=by
  refine ⟨h.en,fun w β X vals hX hH hs hβ hl hv=>?_⟩
  refine (h.go w β X vals hX hH hs hβ hl hv).mono ?_
  rintro e w' ⟨v,β',rfl,g1,g2,g3,g4,g5,g6,g7⟩
  have hb:∀ k:Id,β k=none:=fun k=>by
    cases hk:β k with
    | none=>rfl
    | some a=>exact absurd (hβ k (by rw [hk];simp)) (Nat.not_lt_zero _)
  let β2:Id→Option Addr:=fun k=>bif S k.o then none else β' k
  have e1:∀ k:Id,S k.o=false→β2 k=β' k:=fun k hk=>by show (bif S k.o then none else β' k)=_;rw [hk];rfl
  have e2:∀ k:Id,S k.o=true→β2 k=none:=fun k hk=>by show (bif S k.o then none else β' k)=_;rw [hk];rfl
  have ho:∀ x,aS β2 H'' x↔aS β' H' x:=by
    intro x
    constructor
    · rintro ⟨o,ob,a,k1,k2,k3⟩
      rcases h1 o ob k1 with ⟨k4,k5⟩ | ⟨k4,_⟩
      · rw [e1 o k5] at k2;exact ⟨o,ob,a,k4,k2,k3⟩
      · rw [e2 o k4] at k2;cases k2
    · rintro ⟨o,ob,a,k1,k2,k3⟩
      obtain ⟨k4,k5⟩:=h2 o ob k1
      exact ⟨o,ob,a,k5,by rw [e1 o k4];exact k2,k3⟩
  have hw:ow X β2 H''=ow X β' H':=by
    funext t x
    exact propext ⟨fun k=>k.imp (ho x).1 id,fun k=>k.imp (ho x).2 id⟩
  have hf:fr X β2 H''=fr X β' H':=by
    funext t x
    unfold fr
    rw [hw]
  refine ⟨v,β2,rfl,?_,?_,?_,?_,fun o a k=>(by rw [hb o] at k;cases k),fun x k=>g6 x ((ho x).1 k),fun k hk=>g7 k (fun hn=>hk ?_)⟩
  · rw [hf]
    intro o ob k1
    rcases h1 o ob k1 with ⟨k4,k5⟩ | ⟨k4,k5⟩
    · rcases g1 o ob k4 with ⟨k6,k7⟩ | ⟨bb,base,cells,elem,k6,k7,k8⟩ | k6
      · exact .inl ⟨by rw [e1 o k5];exact k6,k7⟩
      · refine .inr (.inl ⟨bb,base,cells,elem,by rw [e1 o k5];exact k6,k7,fun i hi j hj=>?_⟩)
        obtain ⟨x,m1,m2,m3⟩:=k8 i hi j hj
        refine ⟨x,m1,m2,?_⟩
        obtain ⟨y,hy⟩:=h3 o ob k4 i j hi hj
        rw [hy] at m3 ⊢
        cases m3 with
        | p _ _ q=>exact .p y x q
      · obtain ⟨m1,m2,m3,bx,es,ck,m4,m5⟩:=k6
        exact .inr (.inr ⟨m1,m2,m3,bx,es,ck,by rw [e1 o k5];exact m4,m5⟩)
    · exact .inl ⟨e2 o k4,k5⟩
  · intro o o' ob ob' a a' k1 k2 k3 k4 k5
    rcases h1 o ob k1 with ⟨m1,m2⟩ | ⟨m1,_⟩
    · rcases h1 o' ob' k2 with ⟨m3,m4⟩ | ⟨m3,_⟩
      · rw [e1 o m2] at k3
        rw [e1 o' m4] at k4
        exact g2 o o' ob ob' a a' m1 m3 k3 k4 k5
      · rw [e2 o' m3] at k4;cases k4
    · rw [e2 o m1] at k3;cases k3
  · rw [hf]
    cases g3 with
    | tup _ vs hl' hj =>
      refine .tup _ vs hl' (fun j hjl=>?_)
      have hx:=hj j hjl
      match j,hjl,hx with
      | 0,_,hx =>
        change VR _ _ _ (.agg cs) _ at hx
        show VR _ _ _ (.agg cs') _
        generalize vs.getD 0 undef=q at hx ⊢
        cases hx with
        | agg _ us l1 l2 l3 =>
          refine .agg cs' us (by rw [hlen];exact l1) (fun i hi=>l2 i (by rw [← hlen];exact hi)) (fun i hi=>?_)
          have hi:i<cs.length:=by rw [← hlen];exact hi
          have hy:=l3 i hi
          rcases h4 i hi with ⟨hc,⟨u,hu⟩ | ⟨z,o,off,n,hu,hn⟩⟩ | ⟨hu,z,o,off,hc⟩
          · rw [hc,hu];rw [hu] at hy
            cases hy with
            | p _ _ q=>exact .p _ _ q
          · rw [hc,hu];rw [hu] at hy
            generalize us.getD i undef=y at hy ⊢
            cases hy with
            | ar0 _ _ _ a=>exact .ar0 z o off a
            | ar _ _ _ _ bb base c cells elem fr' q1 q2 q3 q4=>exact .ar z o off n bb base c cells elem fr' (by rw [e1 o hn];exact q1) q2 q3 q4
          · rw [hc];rw [hu] at hy
            generalize us.getD i undef=y at hy ⊢
            cases hy with
            | p _ _ q=>cases q;exact .ar0 z o off none
      | 1,_,hx =>
        change VR _ _ _ (.p (.bool b)) _ at hx
        show VR _ _ _ (.p (.bool b)) _
        cases hx with
        | p _ _ q=>exact .p _ _ q
      | j+2,hjl,_=>exact absurd hjl (by simp)
  · rw [hw];exact g4
  · cases hS:S k.o with
    | true=>exact e2 k hS
    | false=>rw [e1 k hS];exact hn
def iJ (n:Nat) (C:Nat→ad):Ob:=⟨false,1,n,fun i=>[.p (.seq false 1 (C i).1 (fun s=>[.int .i64 ((C i).2 s)]))]⟩
def b8 (n:Nat) (C:Nat→ad) (c:ad) (i:Nat):ad:=(if i<n then (C i).1 else c.1,fun s=>if i<n then (C i).2 s else c.2 s)
def DK (g:Nat→aa) (nb N e:Nat) (n p:Nat) (f:Nat→Int):St :=
  ⟨[bi g nb N,.p (.int .i64 e),.pt 2 0 0 0,.p .any,.p .any,.ar 1 1 0 n,.pt 2 2 0 0]++List.replicate 21 ag++[.p (.int .i64 N),.p (.int .i64 p)]++List.replicate 20 ag,[(0,ly g nb N),(1,aY n f),(2,IS (g e))],3⟩
def E5 (g:Nat→aa) (nb N e cn:Nat) (C:Nat→ad):St :=
  ⟨[bi g nb N,.pt 2 0 0 0,.p .any,.ar 1 1 0 cn]++List.replicate 12 ag++[.p (.int .i64 nb),.p (.int .i64 e)]++List.replicate 26 ag,[(0,ly g nb N),(1,iJ cn C)],2⟩
def rz (g:Nat→aa) (nb N e cn:Nat) (C:Nat→ad) (c:ad) (kn:Bool) (k:Nat):St :=
  ⟨[bi g nb N,.pt 2 0 0 0,.p .any,.ar 1 1 0 cn,.p .any,.ar 1 2 0 c.1,.p (.bool kn)]++List.replicate 9 ag++[.p (.int .i64 nb),.p (.int .i64 e)]++List.replicate 5 ag++[.ar 1 1 0 cn,.p (.int .i64 cn),.p (.int .i64 k)]++List.replicate 18 ag,[(0,ly g nb N),(1,iJ cn C),(2,aY c.1 c.2)],3⟩
theorem IX (g:Nat→aa) (nb N e:Nat) :
    zT Tryz.f66 [rg 2,rg 2,rm [(1,oc [] (jB true)),(7,oc [] (jB true))] 2,.dec false,rg 7,rg 3,.head] [bi g nb N,jI e] [0,64,672] (DK g nb N e 0 0 (fun _=>0)) =
    some (uO,zD [(NT 0 1),zE 23 [(ak N nb g)] [] (jB true),(AG (!!true)),(((!!true)=true)→(NT 0 1)),(((!!true)=true)→(ax ((nb:Int) - 1))),(((!!true)=true)→(au ((nb:Int) - 1))),(((!!true)=true)→zE 58 [jI (e:Int),jI 0,jI ((nb:Int) - 1)] [] (jB true)),(((!true)=false)→((!!true)=true)),((bif !true then true else !true)=false),(IL 0 (e:Int)),(IT (e:Int) (nb:Int)),((true=true)→(AN 1)),(AI ((N:Int))),(AN nb),(AP nb (aH g)),(AI ((e:Int))),(AN 0),((0:Int)=(↑0:Int)),((([AV.p (PV.int IntKind.i64 (N:Int)),b4 g nb].length):Nat)=2),(NL 1 1),(AN 1),(NL 0 0),(AA 0 (fun i=>[.p (.int .i64 0)])),((((List.map (fun v=>AV.p (bZ v)) [Value.int IntKind.i64 0,Value.int IntKind.i64 0]).length):Nat)=2),(AI (((g e).1))),(AI (((g e).2.1)))] [0,1,2,3,2,2,4,5,2,2,6,2,7,8,0,9,10,0,11,0,12,13,14,15,16,16,16,16,12,17,18,19,19,12,13,14,20,21,22,23,19,19,24,25]):=by kernel_rfl
theorem Jm (g:Nat→aa) (nb N e n p:Nat) (f:Nat→Int) (r1 r2:Bool) :
    zM 0 [rg 1,.dec true,rg 2,rm [(4,oc [] (jB r1)),(5,oc [] (jB r2))] 1,.dec true,rg 5,rg 2,.head] uO (DK g nb N e n p f) [0,579,2] 1 (DK g nb N e (n+1) (p+1) (dH n f p)) =
    some (uO,zD [((decide ((p:Int)<(N:Int)))=true),(NT 0 1),zE 100 [(ak N nb g),jI ((g e).1),jI (p:Int)] [] (jB r1),((r1=true)→(NT 0 1)),(AG r1),((r1=true)→zE 100 [(ak N nb g),jI ((g e).2.1),jI (p:Int)] [] (jB r2)),((bif r1 then r2 else false)=true),(NL 1 1),(NL n n),(NL ((n+1)*8) 140737488355328),(NL (n+1) 9223372036854775807),(ax ((p:Int)+1)),(au ((p:Int)+1)),(AI ((N:Int))),(AN nb),(AP nb (aH g)),(AI ((e:Int))),(AN 0),(AN ((n+1))),((((p:Int)+1):Int)=(↑(p+1):Int)),(AN 2),(AN 1),(NL (n+1) (n+1)),(CV [(579,⟨false,1,(n+1),(fun i_1=>(if (i_1<n) then [.p (.int .i64 (f i_1))] else [.p (.int .i64 (p:Int))]))⟩),(547,⟨false,1,1,(fun i_1=>[.p (.int .i64 (p:Int))])⟩),(0,⟨true,2,1,(fun i_1=>[.p (.int .i64 (N:Int)),.p (.seq true 2 nb (aH g))])⟩),(2,⟨true,2,1,(fun i_1=>[.p (.int .i64 ((g e).1)),.p (.int .i64 ((g e).2.1))])⟩)] [0,579,2] 1 (n+1) (fun i=>if (i<n) then [.p (.int .i64 (f i))] else [.p (.int .i64 (p:Int))]) (fun i=>[.p (.int .i64 (dH n f (p:Int) i))])),(AI (((g e).1))),(AI (((g e).2.1)))] [0,1,1,2,3,4,3,4,4,4,5,4,6,7,8,9,10,11,12,13,14,15,16,17,17,18,17,13,19,20,7,7,13,14,15,21,22,23,20,7,7,24,25]):=by kernel_rfl
theorem Je (g:Nat→aa) (nb N e n p:Nat) (f:Nat→Int) (r1 r2:Bool) :
    zM 0 [rg 1,.dec true,rg 2,rm [(4,oc [] (jB r1)),(5,oc [] (jB r2))] 1,.dec false,rg 2,.head] uO (DK g nb N e n p f) [0,1,2] 1 (DK g nb N e n (p+1) f) =
    some (uO,zD [((decide ((p:Int)<(N:Int)))=true),(NT 0 1),zE 100 [(ak N nb g),jI ((g e).1),jI (p:Int)] [] (jB r1),((r1=true)→(NT 0 1)),(AG r1),((r1=true)→zE 100 [(ak N nb g),jI ((g e).2.1),jI (p:Int)] [] (jB r2)),((bif r1 then r2 else false)=false),(ax ((p:Int)+1)),(au ((p:Int)+1)),(AI ((N:Int))),(AN nb),(AP nb (aH g)),(AI ((e:Int))),(AN 0),(AN n),((((p:Int)+1):Int)=(↑(p+1):Int)),(AN 2),(NL 1 1),(AN 1),(NL n n),(AA n (fun i=>[.p (.int .i64 (f i))])),(AI (((g e).1))),(AI (((g e).2.1)))] [0,1,1,2,3,4,3,4,4,4,5,4,6,7,8,9,10,11,12,13,13,14,13,9,15,16,17,17,9,10,11,18,19,20,16,17,17,21,22]):=by kernel_rfl
theorem Ii (g:Nat→aa) (nb N e n p:Nat) (f:Nat→Int) :
    zP Tryz.f66 0 [rg 1,.dec false,rg 2] uO (DK g nb N e n p f) [1] 1 [(0,aY n f)] (.ar 1 0 0 n) =
    some [((decide ((p:Int)<(N:Int)))=false),(AN 0),(AN n),(AN 1),(NL n n),(AA n (fun i=>[.p (.int .i64 (f i))])),(AE n)]:=by kernel_rfl
theorem Jj (g:Nat→aa) (nb N:Nat) :
    zT Tryz.f28 [rg 2,rg 2,rm [(1,oc [] (jB true))] 1,.dec false,rg 4,.head] [bi g nb N] [0,64] (E5 g nb N 0 0 (fun _=>(0,fun _=>0))) =
    some (xp,zD [(NT 0 1),zE 23 [(ak N nb g)] [] (jB true),((!true)=false),(AI ((N:Int))),(AN nb),(AP nb (aH g)),(AN 0),(AI ((nb:Int))),((0:Int)=(↑0:Int)),((([AV.p (PV.int IntKind.i64 (N:Int)),b4 g nb].length):Nat)=2),(NL 1 1),(AN 1),(NL 0 0),(∀ i:Nat,(((i:Nat)<0)→(af []∧(([.p (.nil)]:List AV)=[.p (.seq false 1 0 (fun i_1=>[.int .i64 ((0,fun x=>0).2 i_1)]))]))))] [0,1,2,0,3,4,5,6,6,6,7,8,9,10,10,3,4,5,11,12,13]):=by kernel_rfl
theorem IM (g:Nat→aa) (nb N e cn:Nat) (C:Nat→ad) (c:ad) :
    zM 0 [rg 1,.dec true,rg 2,rm [(2,oc [(0,aY c.1 c.2)] (.ar 1 0 0 c.1))] 1,rg 1,rg 3,.head] xp (E5 g nb N e cn C) [0,1,162] 1 (rz g nb N e cn C c false 0) =
    some (r4,zD [((decide ((e:Int)<(nb:Int)))=true),(NT 0 1),zE 66 [(ak N nb g),jI (e:Int)] [(0,⟨false,1,c.1,(fun i=>[.p (.int .i64 (c.2 i))])⟩)] (.ar 1 0 0 c.1),(AI ((N:Int))),(AN nb),(AP nb (aH g)),(AN 0),(AN cn),(AN c.1),(false=false),(AI ((nb:Int))),(AI ((e:Int))),(AI ((cn:Int))),((0:Int)=(↑0:Int)),(AN 2),(NL 1 1),(AN 1),(NL cn cn),(AA cn (fun i=>[.p (.seq false 1 ((C i).1) (fun i_1=>[.int .i64 ((C i).2 i_1)]))])),(NL c.1 c.1),(AA c.1 (fun i=>[.p (.int .i64 (c.2 i))]))] [0,1,2,3,4,5,6,6,7,6,8,9,10,11,6,7,12,13,14,15,15,3,4,5,16,17,18,16,19,20]):=by kernel_rfl
theorem IP (g:Nat→aa) (nb N e cn:Nat) (C:Nat→ad) :
    zP Tryz.f28 0 [rg 1,.dec false,rg 2] xp (E5 g nb N e cn C) [1] 1 [(0,iJ cn C)] (.ar 1 0 0 cn) =
    some [((decide ((e:Int)<(nb:Int)))=false),(AN 0),(AN cn),(AN 1),(NL cn cn),(AA cn (fun i=>[.p (.seq false 1 ((C i).1) (fun i_1=>[.int .i64 ((C i).2 i_1)]))])),(∀ i:Nat,(((i:Nat)<cn)→af [(false=false),(AE (((C i).1)))]))]:=by kernel_rfl
theorem II (g:Nat→aa) (nb N e cn:Nat) (C:Nat→ad) (c:ad) (kn:Bool) (k:Nat) (q:Bool) :
    zM 0 [rg 1,.dec true,rg 3,rm [(4,oc [] (jB q))] 2,rg 2,.head] r4 (rz g nb N e cn C c kn k) [0,1,2] 1 (rz g nb N e cn C c (bif kn then true else q) (k+1)) =
    some (r4,[((decide ((k:Int)<(cn:Int)))=true),(IL 0 (k:Int)),(IT (k:Int) (cn:Int)),(NT k cn),(AG (!kn)),(AG (!kn)),(((!kn)=true)→(AN 1)),(((!kn)=true)→(NL c.1 c.1)),(((!kn)=true)→zE 67 [.p (.seq true 1 ((C k).1) (fun i=>[.int .i64 ((C k).2 i)])),.p (.seq true 1 c.1 (c9 c))] [] (jB q)),((kn=false)→((!kn)=true)),(ax ((k:Int)+1)),(au ((k:Int)+1)),(AI ((N:Int))),(AN nb),(AP nb (aH g)),(AN 0),(AN 0),(AN cn),(AN 0),(AN c.1),((bif kn then true else q)=(bif kn then true else q)),(AI ((nb:Int))),(AI ((e:Int))),(AN 0),(AN cn),(AI ((cn:Int))),((((k:Int)+1):Int)=(↑(k+1):Int)),(AN 2),(NL 1 1),(NL 1 1),(AI ((N:Int))),(AN nb),(AP nb (aH g)),(AN 1),(NL cn cn),(AA cn (fun i=>[.p (.seq false 1 ((C i).1) (fun i_1=>[.int .i64 ((C i).2 i_1)]))])),(AN 1),(NL c.1 c.1),(AA c.1 (fun i=>[.p (.int .i64 (c.2 i))]))]):=by kernel_rfl
theorem IW (g:Nat→aa) (nb N e cn:Nat) (C:Nat→ad) (c:ad) (kn:Bool) (k:Nat) :
    zM 0 [rg 1,.dec false,rg 2,.dec true,rg 5,rg 2,.head] r4 (rz g nb N e cn C c kn k) [0,195] 1 (E5 g nb N (e+1) (cn+1) (b8 cn C c)) =
    some (xp,[((decide ((k:Int)<(cn:Int)))=false),((!kn)=true),(NL 1 1),(NL cn cn),(NL ((cn+1)*24) 140737488355328),(NL (cn+1) 9223372036854775807),(ax ((e:Int)+1)),(au ((e:Int)+1)),(AI ((N:Int))),(AN nb),(AP nb (aH g)),(AN 0),(AN 0),(AN ((cn+1))),(AI ((nb:Int))),((((e:Int)+1):Int)=(↑(e+1):Int)),(AN 2),(NL 1 1),(NL 1 1),(AI ((N:Int))),(AN nb),(AP nb (aH g)),(AN 1),(NL (cn+1) (cn+1)),(CV [(195,⟨false,1,(cn+1),(fun i_1=>(if (i_1<cn) then [.p (.seq false 1 ((C i_1).1) (fun i_2=>[.int .i64 ((C i_1).2 i_2)]))] else [.ar 1 2 0 c.1]))⟩),(163,⟨false,1,1,(fun i_1=>[.ar 1 2 0 c.1])⟩),(0,⟨true,2,1,(fun i_1=>[.p (.int .i64 (N:Int)),.p (.seq true 2 nb (aH g))])⟩),(2,⟨false,1,c.1,(fun i_1=>[.p (.int .i64 (c.2 i_1))])⟩)] [0,195] 1 (cn+1) (fun i=>if (i<cn) then [.p (.seq false 1 ((C i).1) (fun i_1=>[.int .i64 ((C i).2 i_1)]))] else [.ar 1 2 0 c.1]) (fun i=>[.p (.seq false 1 (if i<cn then (C i).1 else c.1) (fun i_1=>[.int .i64 ((b8 cn C c i).2 i_1)]))]))]):=by kernel_rfl
theorem Ha (g:Nat→aa) (nb N e cn:Nat) (C:Nat→ad) (c:ad) (kn:Bool) (k:Nat) :
    zM 0 [rg 1,.dec false,rg 2,.dec false,rg 2,.head] r4 (rz g nb N e cn C c kn k) [0,1] 1 (E5 g nb N (e+1) cn C) =
    some (xp,[((decide ((k:Int)<(cn:Int)))=false),((!kn)=false),(ax ((e:Int)+1)),(au ((e:Int)+1)),(AI ((N:Int))),(AN nb),(AP nb (aH g)),(AN 0),(AN 0),(AN cn),(AI ((nb:Int))),((((e:Int)+1):Int)=(↑(e+1):Int)),(AN 2),(NL 1 1),(NL 1 1),(AI ((N:Int))),(AN nb),(AP nb (aH g)),(AN 1),(NL cn cn),(AA cn (fun i=>[.p (.seq false 1 ((C i).1) (fun i_1=>[.int .i64 ((C i).2 i_1)]))]))]):=by kernel_rfl
noncomputable def aB (N nb:Nat) (g:Nat→aa) (e:Nat):Nat→ad
  | 0=>(0,fun _=>0)
  | p+1 =>
    if (bif ii N nb g (g e).1 p then ii N nb g (g e).2.1 p else false)=true then ((aB N nb g e p).1+1,dH (aB N nb g e p).1 (aB N nb g e p).2 p)
    else aB N nb g e p
theorem jD (N nb:Nat) (g:Nat→aa) (e:Nat):∀ p,(aB N nb g e p).1≤p
  | 0=>Nat.le_refl _
  | p+1=>by
    have:=jD N nb g e p
    simp only [aB]
    split
    · show (aB N nb g e p).1+1≤p+1;omega
    · omega
def w9 (C:Nat→ad) (c:ad):Nat→Bool
  | 0=>false
  | k+1=>bif w9 C c k then true else bQ (C k) c
noncomputable def an (N nb:Nat) (g:Nat→aa):Nat→Nat×(Nat→ad)
  | 0=>(0,fun _=>(0,fun _=>0))
  | e+1 =>
    if w9 (an N nb g e).2 (aB N nb g e N) (an N nb g e).1=true then an N nb g e
    else ((an N nb g e).1+1,b8 (an N nb g e).1 (an N nb g e).2 (aB N nb g e N))
theorem j9 (N nb:Nat) (g:Nat→aa):∀ e,(an N nb g e).1≤e∧∀ j,j<(an N nb g e).1→((an N nb g e).2 j).1≤N
  | 0=>⟨Nat.le_refl _,fun j hj=>absurd hj (Nat.not_lt_zero _)⟩
  | e+1=>by
    obtain ⟨h1,h2⟩:=j9 N nb g e
    simp only [an]
    split
    · exact ⟨by omega,h2⟩
    · refine ⟨by show (an N nb g e).1+1≤e+1;omega,fun j hj=>?_⟩
      show (if j<(an N nb g e).1 then ((an N nb g e).2 j).1 else (aB N nb g e N).1)≤N
      split
      · exact h2 j (by assumption)
      · exact jD N nb g e N
theorem gG {N nb:Nat} {g:Nat→aa} (hg:ah ((N:Int),(nb,g),())=true) (e:Nat) (he:e<nb) :
    zE 66 [bi g nb N,.p (.int .i64 e)] [(0,aY (aB N nb g e N).1 (aB N nb g e N).2)] (.ar 1 0 0 (aB N nb g e N).1):=by
  obtain ⟨hN,hnb,hok⟩:=az hg
  have hsm:cQ a9 ((N:Int),(nb,g),()):=⟨by simp [cQ,j0],⟨by show nb≤1048576;omega,fun i hi=>by simp [cQ,j0]⟩,True.intro⟩
  have hcg:=aQ ((N:Int),(nb,g),()) hsm
  rw [hg] at hcg
  have hbar:=hok e he
  have hcw:=bp (e:Int) 0 ((nb:Int) - 1)
  rw [show bC (e:Int) 0 ((nb:Int) - 1)=true by simp [bC];omega] at hcw
  have hcond:=True.intro
  refine aW Tryz.func66 (fun c hc=>?_)
  have lp:∀ d p,p+d=N→zR c 66 uO (DK g nb N e (aB N nb g e p).1 p (aB N nb g e p).2) (aT c [(0,aY (aB N nb g e N).1 (aB N nb g e N).2)] (.ar 1 0 0 (aB N nb g e N).1)):=by
    intro d
    induction d with
    | zero =>
      intro p hp
      obtain rfl:p=N:=by omega
      have hd:decide ((p:Int)<(p:Int))=false:=by simp
      refine be Tryz.func66 hc (Ii g nb p e (aB p nb g e p).1 p (aB p nb g e p).2) ?_
      and_intros
      all_goals (first | exact zN | (intro i hi;simp [af]))
    | succ d ih =>
      intro p hp
      have hd:decide ((p:Int)<(N:Int))=true:=by simp;omega
      have hle:=jD N nb g e p
      have c1:=fX hg hok hN hnb (a:=(g e).1) (b:=p) (by omega) (by omega)
      have c2:=fX hg hok hN hnb (a:=(g e).2.1) (b:=p) (by omega) (by omega)
      have hih:=ih (p+1) (by omega)
      cases ht:(bif ii N nb g (g e).1 p then ii N nb g (g e).2.1 p else false) with
      | true =>
        rw [show aB N nb g e (p+1)=((aB N nb g e p).1+1,dH (aB N nb g e p).1 (aB N nb g e p).2 p) by simp only [aB];rw [if_pos ht]] at hih
        refine a7 hc (Jm g nb N e (aB N nb g e p).1 p (aB N nb g e p).2 (ii N nb g (g e).1 p) (ii N nb g (g e).2.1 p)) ?_ hih
        and_intros
        all_goals (first | exact zI | (exact c1) | (intros;exact c2) | (exact ht) | (intro j hj;simp [af];done) | (intro j hj;by_cases h:j<(aB N nb g e p).1<;>simp [h,dH,ay,bh,tg,bu,af]))
      | false =>
        rw [show aB N nb g e (p+1)=aB N nb g e p by simp only [aB];rw [if_neg (by rw [ht];simp)]] at hih
        refine a7 hc (Je g nb N e (aB N nb g e p).1 p (aB N nb g e p).2 (ii N nb g (g e).1 p) (ii N nb g (g e).2.1 p)) ?_ hih
        and_intros
        all_goals (first | exact zI | (exact c1) | (intros;exact c2) | (exact ht) | (intro j hj;simp [af]))
  refine a7 hc (IX g nb N e) ?_ (lp N 0 (by omega))
  and_intros
  all_goals (first | exact zH | (exact hcg) | (intros;exact hcw) | (exact hcond) | (intro h;simp at h ⊢;done) | (intro j hj;simp [af]))
theorem BU {N nb:Nat} {g:Nat→aa} {e cn:Nat} {C:Nat→ad} {cc:ad} (hcn:cn≤1048576) (hC:∀ j,j<cn→(C j).1≤1048576) (c:Cx) (hc:c.n=0) {R:Ending→World→Prop}
    (h:zR c 28 r4 (rz g nb N e cn C cc (w9 C cc cn) cn) R) :
    ∀ d k,k+d=cn→zR c 28 r4 (rz g nb N e cn C cc (w9 C cc k) k) R:=by
  intro d
  induction d with
  | zero =>
    intro k hk
    have hkc:k=cn:=by omega
    rw [hkc]
    exact h
  | succ d ih =>
    intro k hk
    have hd:decide ((k:Int)<(cn:Int))=true:=by simp;omega
    have hq:=ui (C k) cc (hC k (by omega))
    refine cW hc (II g nb N e cn C cc (w9 C cc k) k (bQ (C k) cc)) ?_ (ih (k+1) (by omega))
    and_intros
    all_goals (first | exact zH | (intros;exact hq) | (intro j hj;simp [af]))
theorem je {N nb:Nat} {g:Nat→aa} (hg:ah ((N:Int),(nb,g),())=true) :
    zE 28 [bi g nb N] [(0,iJ (an N nb g nb).1 (an N nb g nb).2)] (.ar 1 0 0 (an N nb g nb).1):=by
  obtain ⟨hN,hnb,hok⟩:=az hg
  have hsm:cQ a9 ((N:Int),(nb,g),()):=⟨by simp [cQ,j0],⟨by show nb≤1048576;omega,fun i hi=>by simp [cQ,j0]⟩,True.intro⟩
  have hcg:=aQ ((N:Int),(nb,g),()) hsm
  rw [hg] at hcg
  refine aW Tryz.func28 (fun c hc=>?_)
  have lp:∀ d e,e+d=nb→zR c 28 xp (E5 g nb N e (an N nb g e).1 (an N nb g e).2) (aT c [(0,iJ (an N nb g nb).1 (an N nb g nb).2)] (.ar 1 0 0 (an N nb g nb).1)):=by
    intro d
    induction d with
    | zero =>
      intro e he
      obtain rfl:e=nb:=by omega
      have hd:decide ((e:Int)<(e:Int))=false:=by simp
      refine be Tryz.func28 hc (IP g e N e (an N e g e).1 (an N e g e).2) ?_
      and_intros
      iterate 2 all_goals (first | exact zN | (exact hcg) | (intros;exact hcg) | (intro h;rw [hd] at h;cases h) | (simp;done) | (intro i hi;simp [af]) | simp only [af])
    | succ d ih =>
      intro e he
      have hd:decide ((e:Int)<(nb:Int))=true:=by simp;omega
      obtain ⟨hle,hC⟩:=j9 N nb g e
      have hcomp:=gG hg e (by omega)
      have hcl:=jD N nb g e N
      have hih:=ih (e+1) (by omega)
      have hin:zR c 28 r4 (rz g nb N e (an N nb g e).1 (an N nb g e).2 (aB N nb g e N) (w9 (an N nb g e).2 (aB N nb g e N) (an N nb g e).1) (an N nb g e).1) (aT c [(0,iJ (an N nb g nb).1 (an N nb g nb).2)] (.ar 1 0 0 (an N nb g nb).1)):=by
        have hd':decide (((an N nb g e).1:Int)<((an N nb g e).1:Int))=false:=by simp
        cases hk:w9 (an N nb g e).2 (aB N nb g e N) (an N nb g e).1 with
        | false =>
          rw [show an N nb g (e+1)=((an N nb g e).1+1,b8 (an N nb g e).1 (an N nb g e).2 (aB N nb g e N)) by simp only [an];rw [if_neg (by rw [hk];simp)]] at hih
          refine cW hc (IW g nb N e (an N nb g e).1 (an N nb g e).2 (aB N nb g e N) false (an N nb g e).1) ?_ hih
          and_intros
          all_goals (first | exact zN | (intro j hj;simp [af];done) | (intro j hj;by_cases h:j<(an N nb g e).1<;>simp [h,b8,ay,bh,eC,bF,ed,iG,dd,sJ,sQ,sR,Ob.isF,List.lookup,aY,tg,bu,af]))
        | true =>
          rw [show an N nb g (e+1)=an N nb g e by simp only [an];rw [if_pos hk]] at hih
          refine cW hc (Ha g nb N e (an N nb g e).1 (an N nb g e).2 (aB N nb g e N) true (an N nb g e).1) ?_ hih
          and_intros
          all_goals (first | exact zN | (intro j hj;simp [af]))
      refine a7 hc (IM g nb N e (an N nb g e).1 (an N nb g e).2 (aB N nb g e N)) ?_ (BU (by omega) (fun j hj=>by have:=hC j hj;omega) c hc hin (an N nb g e).1 0 (by omega))
      and_intros
      all_goals (first | exact zN | (exact hcg) | (intros;exact hcg) | (exact hcomp) | (rw [hd];rfl) | (intro j hj;simp [af]))
  refine a7 hc (Jj g nb N) ?_ (lp nb 0 (by omega))
  and_intros
  iterate 2 all_goals (first | exact zN | (exact hcg) | (intro j hj;simp [af]) | simp only [af])
noncomputable def bU (v:ai):Nat×(Nat→ad):=if ah v=true then an v.1.toNat v.2.1.1 v.2.1.2 v.2.1.1 else (0,fun _=>(0,fun _=>0))
theorem Ko (v:ai) :
    zS Tryz.f28 [rg 2,rg 2,rm [(1,oc [] (jB false))] 1,.dec true,rg 2] [aJ v] [64] [(0,iJ 0 (fun _=>(0,fun _=>0)))] (.ar 1 0 0 0) =
    some [(NT 0 1),zE 23 [(bt v)] [] (jB false),((!false)=true),(AN 0),(AN 0),(AN 1),(NL 0 0),(∀ i:Nat,(((i:Nat)<0)→(af []∧(([.p (.nil)]:List AV)=[.p (.seq false 1 0 (fun i_1=>[.int .i64 ((0,fun x=>0).2 i_1)]))])))),(∀ i:Nat,(((i:Nat)<0)→af [(false=false),(AE 0)]))]:=by kernel_rfl
theorem rV (v:ai) (hs:cQ a9 v):zE 28 [aJ v] [(0,iJ (bU v).1 (bU v).2)] (.ar 1 0 0 (bU v).1):=by
  cases hg:ah v with
  | false =>
    have hcg:=aQ v hs
    rw [hg] at hcg
    rw [show bU v=(0,fun _=>(0,fun _=>0)) by simp [bU,hg]]
    refine aW Tryz.func28 (fun c hc=>?_)
    refine be Tryz.func28 hc (Ko v) ?_
    and_intros
    iterate 2 all_goals (first | exact zN | (intros;exact hcg) | (simp;done) | (intro i hi;simp [af]) | simp only [af])
  | true =>
    obtain ⟨N,nb,g,rfl⟩:=bM v hg
    rw [show bU ((N:Int),(nb,g),())=an N nb g nb by simp [bU,hg]]
    exact je hg
theorem oy (v:ai):(bU v).1≤24∧∀ j,j<(bU v).1→((bU v).2 j).1≤8:=by
  unfold bU
  split
  · rename_i hg
    obtain ⟨N,nb,g,rfl⟩:=bM v hg
    obtain ⟨hN,hnb,_⟩:=az hg
    obtain ⟨h1,h2⟩:=j9 N nb g nb
    simp only [Int.toNat_natCast]
    exact ⟨by omega,fun j hj=>by have:=h2 j hj;omega⟩
  · exact ⟨by show 0≤24;omega,fun j hj=>absurd hj (Nat.not_lt_zero _)⟩
def mz (c:Nat) (f:Nat→Int) (m:Nat) (h:Nat→Int) (t:Nat):Int:=if t<c then f t else if t<c+m then h (t - c) else -1
def cO (C:Nat→ad):Nat→ad
  | 0=>(0,fun _=>0)
  | i+1=>((cO C i).1+(C i).1+1,mz (cO C i).1 (cO C i).2 (C i).1 (C i).2)
def dL:AV:=.p .nil
def BG:AV:=.p (.int .i64 0)
def CC:AV:=.agg [BG,BG,dL,BG,dL,dL,dL,dL,dL]
def GI (K:Int) (N nb n:Nat):AV:=.agg [.p (.int .i64 K),.p (.int .i64 N),.ar 2 0 0 nb,BG,dL,dL,dL,dL,.ar 1 5 0 n]
def IK (K:Int) (N nb n:Nat):AV:=.agg [.p (.int .i64 K),.p (.int .i64 N),.ar 2 0 0 nb,BG,dL,dL,dL,.ar 5 4 0 n,dL]
def MB:Ob:=⟨true,9,1,fun _=>[BG,BG,dL,BG,dL,dL,dL,dL,dL]⟩
def N7 (K:Int) (N nb n:Nat):Ob:=⟨true,9,1,fun _=>[.p (.int .i64 K),.p (.int .i64 N),.ar 2 2 0 nb,BG,dL,dL,dL,dL,.ar 1 4 0 n]⟩
def B5 (K:Int) (g:Nat→aa) (nb N:Nat) (ok:Bool) (n:Nat) (C:Nat→ad) (i c:Nat) (f:Nat→Int):St :=
  ⟨[.p .any,.p .any,.p .any,.p .any,.pt 9 0 0 0,.p .any,.pt 9 1 0 0,.p (.bool ok)]++List.replicate 28 ag++[.ar 1 3 0 n,.p (.int .i64 n),.p (.int .i64 i)]++List.replicate 31 ag,
   [(0,MB),(1,N7 K N nb c),(2,aj nb g),(3,iJ n C),(4,aY c f)],5⟩
theorem Od (g:Nat→aa) (nb N k l m:Nat) (F T Q q:Nat→Int) :
    zS Tryz.f27 [rg 2,rm [(3,oc (bj N m F T Q) (.tup [bf N m 0,jB true]))] 6,rm [(2,oc [(0,aY m Q)] (.ar 1 0 0 m))] 1] [bi g nb N,jI k,jI l] [448] [(0,aY m q)] (.ar 1 0 0 m) =
    some [(NT 0 1),zE 64 [(ak N nb g),jI (k:Int),jI (l:Int)] (ef N F m T Q) ((oZ N m)),(NT 0 1),((true=true)→(AN 1)),(NT 0 1),(AN 1),(NL m m),zE 65 [.p (.seq true 1 m (fun i=>[.int .i64 (Q i)]))] [(0,⟨false,1,m,(fun i=>[.p (.int .i64 (Q i))])⟩)] (.ar 1 0 0 m),(AN 0),(AN m),(AN 1),(NL m m),(∀ i:Nat,(((i:Nat)<m)→(af []∧(([.p (.int .i64 (Q i))]:List AV)=[.p (.int .i64 (q i))])))),(AE m)]:=by kernel_rfl
theorem KC (K:Int) (v:ai) :
    zS Tryz.f6 [rg 3,rm [(1,oc [] (jB false))] 1,.dec true,rg 3] [jI K,aJ v] [] [] (.tup [CC,jB false]) =
    some (zD [(NT 0 1),zE 23 [(bt v)] [] (jB false),((!false)=true),((true=true)→(AN 1)),(AI 0),(false=false)] [0,1,2,0,3,0,4,4,4,5]):=by kernel_rfl
theorem Hg (K:Int) (g:Nat→aa) (nb N:Nat) (m:Nat) (Q:Nat→Int) (d:Nat) (h:Nat→aa) (n:Nat) (S:Nat→ap) :
    zS Tryz.f6 [rg 3,rm [(1,oc [] (jB true))] 1,.dec false,rm [(2,oc [(0,aj nb g)] (.agg [jI N,.ar 2 0 0 nb]))] 3,rg 1,rg 1,rg 2,.dec true,rm [(2,oc [(0,aY m Q)] (.ar 1 0 0 m)),(0,oc [(0,aj d h)] (.agg [jI N,.ar 2 0 0 d])),(0,oc [(0,dX n S)] (.tup [.ar 5 0 0 n,jB true]))] 6,rg 2,.dec false,rg 3] [jI K,bi g nb N] [256,9001,9002,9003,640] [(0,aj nb g),(4,dX n S)] (.tup [IK K N nb n,jB true]) =
    some (zD [(NT 0 1),zE 23 [(ak N nb g)] [] (jB true),((!true)=false),zE 24 [(ak N nb g)] (bg nb g) (.agg [jI (N:Int),.ar 2 0 0 nb]),((true=true)→(AN 1)),((K==1)=true),zE 27 [(ak N nb g),jI 2,jI 3] [(0,⟨false,1,m,(fun i=>[.p (.int .i64 (Q i))])⟩)] (.ar 1 0 0 m),(AN 1),(NL m m),zE 26 [(ak N nb g),.p (.seq true 1 m (fun i=>[.int .i64 (Q i)]))] (bg d h) (.agg [jI (N:Int),.ar 2 0 0 d]),(AN 2),(NL d d),zE 25 [(ak N d h)] (yl n S) (.tup [.ar 5 0 0 n,jB true]),(AI K),(AI ((N:Int))),(AN 0),(AN nb),(AI 0),(AN n),(true=true),(NL nb nb),(AA nb (fun i=>[.p (.int .i64 ((g i).1)),.p (.int .i64 ((g i).2.1))])),(AN 5),(NL n n),(AA n (fun i=>[.p (.int .i64 ((S i).1)),.p (.int .i64 ((S i).2.1)),.p (.int .i64 ((S i).2.2.1)),.p (.int .i64 ((S i).2.2.2.1)),.p (.int .i64 ((S i).2.2.2.2.1))])),(AE nb),(AE n)] [0,1,2,0,3,0,4,5,0,0,6,7,8,9,10,11,12,0,4,2,0,0,4,0,13,14,15,16,17,15,18,19,10,20,21,22,23,24,25,26]):=by kernel_rfl
theorem IU (K:Int) (g:Nat→aa) (nb N:Nat) (m:Nat) (Q:Nat→Int) (d:Nat) (h:Nat→aa) (n:Nat) (S:Nat→ap) :
    zS Tryz.f6 [rg 3,rm [(1,oc [] (jB true))] 1,.dec false,rm [(2,oc [(0,aj nb g)] (.agg [jI N,.ar 2 0 0 nb]))] 3,rg 1,rg 1,rg 2,.dec true,rm [(2,oc [(0,aY m Q)] (.ar 1 0 0 m)),(0,oc [(0,aj d h)] (.agg [jI N,.ar 2 0 0 d])),(0,oc [(0,dX n S)] (.tup [.ar 5 0 0 n,jB false]))] 6,rg 2,.dec true,rg 3] [jI K,bi g nb N] [] [] (.tup [CC,jB false]) =
    some (zD [(NT 0 1),zE 23 [(ak N nb g)] [] (jB true),((!true)=false),zE 24 [(ak N nb g)] (bg nb g) (.agg [jI (N:Int),.ar 2 0 0 nb]),((true=true)→(AN 1)),((K==1)=true),zE 27 [(ak N nb g),jI 2,jI 3] [(0,⟨false,1,m,(fun i=>[.p (.int .i64 (Q i))])⟩)] (.ar 1 0 0 m),(AN 1),(NL m m),zE 26 [(ak N nb g),.p (.seq true 1 m (fun i=>[.int .i64 (Q i)]))] (bg d h) (.agg [jI (N:Int),.ar 2 0 0 d]),(AN 2),(NL d d),zE 25 [(ak N d h)] (yl n S) (.tup [.ar 5 0 0 n,jB false]),((!false)=true),(AI 0),(false=false)] [0,1,2,0,3,0,4,5,0,0,6,7,8,9,10,11,12,0,4,13,0,4,0,14,14,14,15]):=by kernel_rfl
theorem Fj (K:Int) (g:Nat→aa) (nb N:Nat) (b:Bool) (n:Nat) (C:Nat→ad) :
    zT Tryz.f6 [rg 3,rm [(1,oc [] (jB true))] 1,.dec false,rm [(2,oc [(0,aj nb g)] (.agg [jI N,.ar 2 0 0 nb]))] 3,rg 1,rg 1,rg 2,.dec false,rg 2,.dec true,rm [(1,oc [] (jB b))] 2,rm [(1,oc [(0,iJ n C)] (.ar 1 0 0 n))] 2,.head] [jI K,bi g nb N] [32,320,256,736] (B5 K g nb N (!b) n C 0 0 (fun _=>0)) =
    some (pO,zD [(NT 0 1),zE 23 [(ak N nb g)] [] (jB true),((!true)=false),zE 24 [(ak N nb g)] (bg nb g) (.agg [jI (N:Int),.ar 2 0 0 nb]),((true=true)→(AN 1)),((K==1)=false),((K==2)=true),zE 8 [(ak N nb g)] [] (jB b),zE 28 [(ak N nb g)] [(0,⟨false,1,n,(fun i=>[.p (.seq false 1 ((C i).1) (fun i_1=>[.int .i64 ((C i).2 i_1)]))])⟩)] (.ar 1 0 0 n),(AN 0),((!b)=(!b)),(AN n),(AI ((n:Int))),((0:Int)=(↑0:Int)),((((List.map (fun v=>AV.p (bZ v)) [Value.int IntKind.i64 0,Value.int IntKind.i64 0,Value.slice none 0 0,Value.int IntKind.i64 0,Value.slice none 0 0,Value.slice none 0 0,Value.slice none 0 0,Value.slice none 0 0,Value.slice none 0 0]).length):Nat)=9),(NL 1 1),(AI 0),(AI K),(AI ((N:Int))),(AN nb),(AN 2),(NL nb nb),(AA nb (fun i=>[.p (.int .i64 ((g i).1)),.p (.int .i64 ((g i).2.1))])),(AN 1),(NL n n),(AA n (fun i=>[.p (.seq false 1 ((C i).1) (fun i_1=>[.int .i64 ((C i).2 i_1)]))]))] [0,1,2,0,3,0,4,5,6,0,7,0,8,9,9,10,9,11,12,13,14,15,15,16,16,16,14,15,15,17,18,9,19,16,9,20,21,22,23,24,25,9]):=by kernel_rfl
theorem HY (K:Int) (g:Nat→aa) (nb N:Nat) (ok:Bool) (n:Nat) (C:Nat→ad) (i c:Nat) (f:Nat→Int) :
    zM 0 [rg 1,.dec true,rg 3,rg 8,rg 2,.head] pO (B5 K g nb N ok n C i c f) [0,1,2,3,293] 1 (B5 K g nb N ok n C (i+1) (c+(C i).1+1) (mz c f (C i).1 (C i).2)) =
    some (pO,[((decide ((i:Int)<(n:Int)))=true),(IL 0 (i:Int)),(IT (i:Int) (n:Int)),(NT i n),(NT 0 1),(NL c c),(NL ((c+(C i).1)*8) 140737488355328),(NL (c+(C i).1) 9223372036854775807),(NL 1 1),(NL (c+(C i).1) (c+(C i).1)),(NL ((c+(C i).1+1)*8) 140737488355328),(NL (c+(C i).1+1) 9223372036854775807),(NT 0 1),((true=true)→(AN 1)),(ax ((i:Int)+1)),(au ((i:Int)+1)),(AN 0),(AN 0),(ok=ok),(AN 0),(AN n),(AI ((n:Int))),((((i:Int)+1):Int)=(↑(i+1):Int)),(AN 9),(NL 1 1),(NL 1 1),(AI 0),(AI 0),(AI 0),(AN 9),(NL 1 1),(NL 1 1),(AI K),(AI ((N:Int))),(AN 0),(AN nb),(AI 0),(AN 0),(AN ((c+(C i).1+1))),(AN 2),(NL nb nb),(AA nb (fun i_1=>[.p (.int .i64 ((g i_1).1)),.p (.int .i64 ((g i_1).2.1))])),(AN 1),(NL n n),(AA n (fun i_1=>[.p (.seq false 1 ((C i_1).1) (fun i_2=>[.int .i64 ((C i_1).2 i_2)]))])),(AN 1),(NL (c+(C i).1+1) (c+(C i).1+1)),(CV [(1,⟨true,9,1,(fun i_2=>[.p (.int .i64 K),.p (.int .i64 (N:Int)),.ar 2 2 0 nb,.p (.int .i64 0),.p (.nil),.p (.nil),.p (.nil),.p (.nil),.ar 1 293 0 (c+(C i).1+1)])⟩),(293,⟨false,1,(c+(C i).1+1),(fun i_2=>(if (i_2<c+(C i).1) then (if (i_2<c) then [.p (.int .i64 (f i_2))] else [.p (.int .i64 ((C i).2 (i_2 - c)))]) else [.p (.int .i64 (-1))]))⟩),(261,⟨false,1,1,(fun i_2=>[.p (.int .i64 (-1))])⟩),(0,⟨true,9,1,(fun i_2=>[.p (.int .i64 0),.p (.int .i64 0),.p (.nil),.p (.int .i64 0),.p (.nil),.p (.nil),.p (.nil),.p (.nil),.p (.nil)])⟩),(2,⟨false,2,nb,(fun i_2=>[.p (.int .i64 ((g i_2).1)),.p (.int .i64 ((g i_2).2.1))])⟩),(3,⟨false,1,n,(fun i_2=>[.p (.seq false 1 ((C i_2).1) (fun i_3=>[.int .i64 ((C i_2).2 i_3)]))])⟩)] [0,1,2,3,293] 1 (c+(C i).1+1) (fun i_1=>if (i_1<c+(C i).1) then (if (i_1<c) then [.p (.int .i64 (f i_1))] else [.p (.int .i64 ((C i).2 (i_1 - c)))]) else [.p (.int .i64 (-1))]) (fun i_1=>[.p (.int .i64 (mz c f (C i).1 (C i).2 i_1))]))]):=by kernel_rfl
theorem G7 (K:Int) (g:Nat→aa) (nb N:Nat) (n:Nat) (C:Nat→ad) (i c:Nat) (f:Nat→Int) :
    zP Tryz.f6 0 [rg 1,.dec false,rg 2,.dec false,rg 3] pO (B5 K g nb N true n C i c f) [2,9001,9002,9003,9004,4] 1 [(0,aj nb g),(5,aY c f)] (.tup [GI K N nb c,jB true]) =
    some [((decide ((i:Int)<(n:Int)))=false),((!true)=false),(NT 0 1),(NT 0 1),((true=true)→(AN 1)),(NT 0 1),(AI K),(AI ((N:Int))),(AN 0),(AN nb),(AI 0),(AN 0),(AN c),(true=true),(AN 2),(NL nb nb),(AA nb (fun i_1=>[.p (.int .i64 ((g i_1).1)),.p (.int .i64 ((g i_1).2.1))])),(AN 1),(NL c c),(AA c (fun i_1=>[.p (.int .i64 (f i_1))])),(AE nb),(AE c)]:=by kernel_rfl
theorem Iq (K:Int) (g:Nat→aa) (nb N:Nat) (n:Nat) (C:Nat→ad) (i c:Nat) (f:Nat→Int) :
    zP Tryz.f6 0 [rg 1,.dec false,rg 2,.dec true,rg 3] pO (B5 K g nb N false n C i c f) [] 1 [] (.tup [CC,jB false]) =
    some [((decide ((i:Int)<(n:Int)))=false),((!false)=true),(NT 0 1),((true=true)→(AN 1)),(NT 0 1),(AI 0),(AI 0),(AI 0),(false=false)]:=by kernel_rfl
theorem Ig (K:Int) (g:Nat→aa) (nb N:Nat) (m:Nat) (Q:Nat→Int) :
    zS Tryz.f6 [rg 3,rm [(1,oc [] (jB true))] 1,.dec false,rm [(2,oc [(0,aj nb g)] (.agg [jI N,.ar 2 0 0 nb]))] 3,rg 1,rg 1,rg 2,.dec false,rg 2,.dec false,rg 2,.dec true,rm [(1,oc [(0,aY m Q)] (.tup [.ar 1 0 0 m,jB true]))] 6,rg 2,.dec false,rg 3] [jI K,bi g nb N] [256,9001,9002,9003,9004,672] [(0,aj nb g),(5,aY m Q)] (.tup [GI K N nb m,jB true]) =
    some (zD [(NT 0 1),zE 23 [(ak N nb g)] [] (jB true),((!true)=false),zE 24 [(ak N nb g)] (bg nb g) (.agg [jI (N:Int),.ar 2 0 0 nb]),((true=true)→(AN 1)),((K==1)=false),((K==2)=false),((K==3)=true),zE 29 [(ak N nb g),jI 2,jI 3] [(0,⟨false,1,m,(fun i=>[.p (.int .i64 (Q i))])⟩)] (.tup [.ar 1 0 0 m,jB true]),(AI K),(AI ((N:Int))),(AN 0),(AN nb),(AI 0),(AN m),(true=true),(AN 2),(NL nb nb),(AA nb (fun i=>[.p (.int .i64 ((g i).1)),.p (.int .i64 ((g i).2.1))])),(AN 1),(NL m m),(AA m (fun i=>[.p (.int .i64 (Q i))])),(AE nb),(AE m)] [0,1,2,0,3,0,4,5,6,7,0,8,0,4,2,0,0,4,0,9,10,11,12,13,11,14,15,16,17,18,19,20,21,22,23]):=by kernel_rfl
theorem H4 (K:Int) (g:Nat→aa) (nb N:Nat) (m:Nat) (Q:Nat→Int) :
    zS Tryz.f6 [rg 3,rm [(1,oc [] (jB true))] 1,.dec false,rm [(2,oc [(0,aj nb g)] (.agg [jI N,.ar 2 0 0 nb]))] 3,rg 1,rg 1,rg 2,.dec false,rg 2,.dec false,rg 2,.dec true,rm [(1,oc [(0,aY m Q)] (.tup [.ar 1 0 0 m,jB false]))] 6,rg 2,.dec true,rg 3] [jI K,bi g nb N] [] [] (.tup [CC,jB false]) =
    some (zD [(NT 0 1),zE 23 [(ak N nb g)] [] (jB true),((!true)=false),zE 24 [(ak N nb g)] (bg nb g) (.agg [jI (N:Int),.ar 2 0 0 nb]),((true=true)→(AN 1)),((K==1)=false),((K==2)=false),((K==3)=true),zE 29 [(ak N nb g),jI 2,jI 3] [(0,⟨false,1,m,(fun i=>[.p (.int .i64 (Q i))])⟩)] (.tup [.ar 1 0 0 m,jB false]),((!false)=true),(AI 0),(false=false)] [0,1,2,0,3,0,4,5,6,7,0,8,0,4,9,0,4,0,10,10,10,11]):=by kernel_rfl
theorem Hv (K:Int) (g:Nat→aa) (nb N:Nat) (n:Nat) (S:Nat→ap) :
    zS Tryz.f6 [rg 3,rm [(1,oc [] (jB true))] 1,.dec false,rm [(2,oc [(0,aj nb g)] (.agg [jI N,.ar 2 0 0 nb]))] 3,rg 1,rg 1,rg 2,.dec false,rg 2,.dec false,rg 2,.dec false,rg 2,.dec true,rm [(1,oc [(0,dX n S)] (.tup [.ar 5 0 0 n,jB true]))] 6,rg 2,.dec false,rg 3] [jI K,bi g nb N] [256,9001,9002,9003,736] [(0,aj nb g),(4,dX n S)] (.tup [IK K N nb n,jB true]) =
    some (zD [(NT 0 1),zE 23 [(ak N nb g)] [] (jB true),((!true)=false),zE 24 [(ak N nb g)] (bg nb g) (.agg [jI (N:Int),.ar 2 0 0 nb]),((true=true)→(AN 1)),((K==1)=false),((K==2)=false),((K==3)=false),((K==6)=true),zE 25 [(ak N nb g)] (yl n S) (.tup [.ar 5 0 0 n,jB true]),(AI K),(AI ((N:Int))),(AN 0),(AN nb),(AI 0),(AN n),(true=true),(AN 2),(NL nb nb),(AA nb (fun i=>[.p (.int .i64 ((g i).1)),.p (.int .i64 ((g i).2.1))])),(AN 5),(NL n n),(AA n (fun i=>[.p (.int .i64 ((S i).1)),.p (.int .i64 ((S i).2.1)),.p (.int .i64 ((S i).2.2.1)),.p (.int .i64 ((S i).2.2.2.1)),.p (.int .i64 ((S i).2.2.2.2.1))])),(AE nb),(AE n)] [0,1,2,0,3,0,4,5,6,7,8,0,9,0,4,2,0,0,4,0,10,11,12,13,14,12,15,16,17,18,19,20,21,22,23,24]):=by kernel_rfl
theorem Ia (K:Int) (g:Nat→aa) (nb N:Nat) (n:Nat) (S:Nat→ap) :
    zS Tryz.f6 [rg 3,rm [(1,oc [] (jB true))] 1,.dec false,rm [(2,oc [(0,aj nb g)] (.agg [jI N,.ar 2 0 0 nb]))] 3,rg 1,rg 1,rg 2,.dec false,rg 2,.dec false,rg 2,.dec false,rg 2,.dec true,rm [(1,oc [(0,dX n S)] (.tup [.ar 5 0 0 n,jB false]))] 6,rg 2,.dec true,rg 3] [jI K,bi g nb N] [] [] (.tup [CC,jB false]) =
    some (zD [(NT 0 1),zE 23 [(ak N nb g)] [] (jB true),((!true)=false),zE 24 [(ak N nb g)] (bg nb g) (.agg [jI (N:Int),.ar 2 0 0 nb]),((true=true)→(AN 1)),((K==1)=false),((K==2)=false),((K==3)=false),((K==6)=true),zE 25 [(ak N nb g)] (yl n S) (.tup [.ar 5 0 0 n,jB false]),((!false)=true),(AI 0),(false=false)] [0,1,2,0,3,0,4,5,6,7,8,0,9,0,4,10,0,4,0,11,11,11,12]):=by kernel_rfl
theorem LS (K:Int) (g:Nat→aa) (nb N:Nat) :
    zS Tryz.f6 [rg 3,rm [(1,oc [] (jB true))] 1,.dec false,rm [(2,oc [(0,aj nb g)] (.agg [jI N,.ar 2 0 0 nb]))] 3,rg 1,rg 1,rg 2,.dec false,rg 2,.dec false,rg 2,.dec false,rg 2,.dec false,rg 2,.dec true,rg 3] [jI K,bi g nb N] [] [] (.tup [CC,jB false]) =
    some (zD [(NT 0 1),zE 23 [(ak N nb g)] [] (jB true),((!true)=false),zE 24 [(ak N nb g)] (bg nb g) (.agg [jI (N:Int),.ar 2 0 0 nb]),((true=true)→(AN 1)),((K==1)=false),((K==2)=false),((K==3)=false),((K==6)=false),((!false)=true),(AI 0),(false=false)] [0,1,2,0,3,0,4,5,6,7,8,9,0,4,0,10,10,10,11]):=by kernel_rfl
noncomputable def ki (N nb:Nat) (g:Nat→aa):ad:=((aK N 2 3 g nb).length,fun t=>(((aK N 2 3 g nb).getD t 0:Nat):Int))
theorem C5 {Q:Nat→Int}:∀ m t,t<m→(qL Q m).getD t 0=(Q t).toNat
  | 0,t,h=>absurd h (Nat.not_lt_zero _)
  | m+1,t,h=>by
    rw [qL]
    by_cases ht:t<m
    · have:=C5 (Q:=Q) m t ht
      simp only [List.getD_eq_getElem?_getD] at this ⊢
      rw [List.getElem?_append_left (by rw [bE];exact ht)]
      exact this
    · have e:t=m:=by omega
      subst e
      simp only [List.getD_eq_getElem?_getD]
      rw [List.getElem?_append_right (by rw [bE];omega),bE]
      simp
theorem mY {N nb:Nat} {g:Nat→aa} (hg:ah ((N:Int),(nb,g),())=true) :
    zE 27 [bi g nb N,.p (.int .i64 2),.p (.int .i64 3)] [(0,aY (ki N nb g).1 (ki N nb g).2)] (.ar 1 0 0 (ki N nb g).1):=by
  obtain ⟨m,F,T,Q,hrun,hm,hn,hq⟩:=fp hg 2 3 (by omega) (by omega)
  have e1:(ki N nb g).1=m:=by show (aK N 2 3 g nb).length=m;rw [← hq,bE]
  have e2:∀ t,t<m→(ki N nb g).2 t=Q t:=fun t ht=>by
    show (((aK N 2 3 g nb).getD t 0:Nat):Int)=Q t
    rw [← hq,C5 m t ht]
    have:=hn t ht
    omega
  have cc:=cF m Q (by omega)
  rw [e1]
  generalize (ki N nb g).2=q at e2 ⊢
  refine aW Tryz.func27 (fun c hc=>?_)
  refine be Tryz.func27 hc (Od g nb N (2:Nat) (3:Nat) m F T Q q) ?_
  repeat' (first | exact aN | apply aI)
  iterate 2 all_goals (first | exact zI | (exact hrun) | (exact cc) | (intro t ht;refine ⟨True.intro,?_⟩;rw [e2 t ht]) | (intro t ht;simp [af];done) | simp only [af])
theorem DJ (N nb:Nat) (g:Nat→aa):(ki N nb g).1≤nb:=cY N 2 3 g nb
theorem tS {C:Nat→ad} {N:Nat} (hN:N≤8):∀ i,(∀ j,j<i→(C j).1≤N)→(cO C i).1≤9*i
  | 0,_=>Nat.le_refl _
  | i+1,h=>by
    have h1:=tS hN i (fun j hj=>h j (by omega))
    have h2:=h i (by omega)
    show (cO C i).1+(C i).1+1≤_
    omega
theorem pE (k:Nat) (ob:Ob) (H:Hp) (x:Id):lk ((k,ob)::H) x=if x.o=k then vw ob x.m else lk H x:=by
  unfold lk
  rw [List.lookup_cons]
  by_cases h:x.o=k
  · simp [h]
  · have:(x.o==k)=false:=by simpa using h
    rw [this,if_neg h]
theorem p9 (x:Id):lk [] x=none:=rfl
def cU (n:Nat) (f:Nat→ae):Ob:=⟨false,2,n,fun i=>[.p (.int .i64 (f i).1),.p (.int .i64 (f i).2.1)]⟩
def Bw (w:cC):AV:=.agg [.p (.int .i64 w.1),.p (.int .i64 w.2.1.1),.ar 2 0 0 w.2.1.2.1.1,.p (.int .i64 w.2.2.1.1.1.1),.ar 2 1 0 w.2.2.1.1.1.2.1.1,.ar 2 2 0 w.2.2.1.1.2.1.1,.ar 1 3 0 w.2.2.1.2.1.1,.ar 5 4 0 w.2.2.2.1.1,.ar 1 5 0 w.2.2.2.2.1.1]
def sM (w:cC):Hp:=[(0,aj w.2.1.2.1.1 w.2.1.2.1.2),(1,aj w.2.2.1.1.1.2.1.1 w.2.2.1.1.1.2.1.2),(2,cU w.2.2.1.1.2.1.1 w.2.2.1.1.2.1.2),(3,aY w.2.2.1.2.1.1 w.2.2.1.2.1.2),(4,dX w.2.2.2.1.1 w.2.2.2.1.2),(5,aY w.2.2.2.2.1.1 w.2.2.2.2.1.2)]
def Ju:cA:=(0,fun _=>(0,0,()))
def Du:ad:=(0,fun _=>0)
def Dw:aU:=(0,fun _=>pM)
def JZ:ju:=(((0,Ju,()),(0,fun _=>(0,0,())),()),Du,())
def yw (K N:Int) (G:cA) (S:aU) (I:ad):cC:=(K,(N,G,()),JZ,S,I,())
def iI:cC:=yw 0 0 Ju Dw Du
theorem ot {f:FuncId} {a:List AV} {b:Bool} (h:Con Tryz.prog f 0 [] a [] (.tup [CC,.p (.bool b)])):Con Tryz.prog f 0 [] a (sM iI) (.tup [Bw iI,.p (.bool b)]):=by
  refine Con.add (fun k=>true) h (fun o ob ho=>?_) (fun o ob ho=>?_) (fun o ob ho=>?_) rfl (fun j hj=>?_)
  · simp only [sM,pE,p9] at ho ⊢
    by_cases h0:o.o=0
    · rw [if_pos h0] at ho;obtain ⟨_,rfl⟩:=a5 rfl ho;exact .inr ⟨by simp [h0],rfl⟩
    rw [if_neg h0] at ho
    by_cases h1:o.o=1
    · rw [if_pos h1] at ho;obtain ⟨_,rfl⟩:=a5 rfl ho;exact .inr ⟨by simp [h1],rfl⟩
    rw [if_neg h1] at ho
    by_cases h2:o.o=2
    · rw [if_pos h2] at ho;obtain ⟨_,rfl⟩:=a5 rfl ho;exact .inr ⟨by simp [h2],rfl⟩
    rw [if_neg h2] at ho
    by_cases h3:o.o=3
    · rw [if_pos h3] at ho;obtain ⟨_,rfl⟩:=a5 rfl ho;exact .inr ⟨by simp [h3],rfl⟩
    rw [if_neg h3] at ho
    by_cases h4:o.o=4
    · rw [if_pos h4] at ho;obtain ⟨_,rfl⟩:=a5 rfl ho;exact .inr ⟨by simp [h4],rfl⟩
    rw [if_neg h4] at ho
    by_cases h5:o.o=5
    · rw [if_pos h5] at ho;obtain ⟨_,rfl⟩:=a5 rfl ho;exact .inr ⟨by simp [h5],rfl⟩
    rw [if_neg h5] at ho
    cases ho
  · simp only [sM,pE,p9] at ho ⊢
    cases ho
  · simp only [pE,p9] at ho
    cases ho
  · have hj:j<9:=hj
    have:j=0∨j=1∨j=2∨j=3∨j=4∨j=5∨j=6∨j=7∨j=8:=by omega
    rcases this with rfl | rfl | rfl | rfl | rfl | rfl | rfl | rfl | rfl
    · exact .inl ⟨rfl,.inl ⟨_,rfl⟩⟩
    · exact .inl ⟨rfl,.inl ⟨_,rfl⟩⟩
    · exact .inr ⟨rfl,_,_,_,rfl⟩
    · exact .inl ⟨rfl,.inl ⟨_,rfl⟩⟩
    · exact .inr ⟨rfl,_,_,_,rfl⟩
    · exact .inr ⟨rfl,_,_,_,rfl⟩
    · exact .inr ⟨rfl,_,_,_,rfl⟩
    · exact .inr ⟨rfl,_,_,_,rfl⟩
    · exact .inr ⟨rfl,_,_,_,rfl⟩
theorem Di {f:FuncId} {a:List AV} {b:Bool} {K:Int} {N nb n:Nat} {g:Nat→aa} {S:Nat→ap} (h:Con Tryz.prog f 0 [] a [(0,aj nb g),(4,dX n S)] (.tup [IK K N nb n,.p (.bool b)])):Con Tryz.prog f 0 [] a (sM (yw K N (nb,g) (n,S) Du)) (.tup [Bw (yw K N (nb,g) (n,S) Du),.p (.bool b)]):=by
  refine Con.add (fun k=>!((k==0)||(k==4))) h (fun o ob ho=>?_) (fun o ob ho=>?_) (fun o ob ho=>?_) rfl (fun j hj=>?_)
  · simp only [sM,pE,p9] at ho ⊢
    by_cases h0:o.o=0
    · rw [if_pos h0] at ho;exact .inl ⟨by simp only [h0];exact ho,by simp [h0]⟩
    rw [if_neg h0] at ho
    by_cases h1:o.o=1
    · rw [if_pos h1] at ho;obtain ⟨_,rfl⟩:=a5 rfl ho;exact .inr ⟨by simp [h1],rfl⟩
    rw [if_neg h1] at ho
    by_cases h2:o.o=2
    · rw [if_pos h2] at ho;obtain ⟨_,rfl⟩:=a5 rfl ho;exact .inr ⟨by simp [h2],rfl⟩
    rw [if_neg h2] at ho
    by_cases h3:o.o=3
    · rw [if_pos h3] at ho;obtain ⟨_,rfl⟩:=a5 rfl ho;exact .inr ⟨by simp [h3],rfl⟩
    rw [if_neg h3] at ho
    by_cases h4:o.o=4
    · rw [if_pos h4] at ho;exact .inl ⟨by simp only [h4];exact ho,by simp [h4]⟩
    rw [if_neg h4] at ho
    by_cases h5:o.o=5
    · rw [if_pos h5] at ho;obtain ⟨_,rfl⟩:=a5 rfl ho;exact .inr ⟨by simp [h5],rfl⟩
    rw [if_neg h5] at ho
    cases ho
  · simp only [sM,pE,p9] at ho ⊢
    by_cases h0:o.o=0
    · rw [if_pos h0] at ho;exact ⟨by simp [h0],by simp only [h0];exact ho⟩
    rw [if_neg h0] at ho
    by_cases h4:o.o=4
    · rw [if_pos h4] at ho;exact ⟨by simp [h4],by simp only [h4];exact ho⟩
    rw [if_neg h4] at ho
    cases ho
  · simp only [pE,p9] at ho
    by_cases h0:o.o=0
    · rw [if_pos h0] at ho;obtain ⟨_,rfl⟩:=a5 rfl ho;intro i j _ hj
      have hj:j<2:=hj
      have:j=0∨j=1:=by omega
      rcases this with rfl | rfl<;>exact ⟨_,rfl⟩
    rw [if_neg h0] at ho
    by_cases h4:o.o=4
    · rw [if_pos h4] at ho;obtain ⟨_,rfl⟩:=a5 rfl ho;intro i j _ hj
      have hj:j<5:=hj
      have:j=0∨j=1∨j=2∨j=3∨j=4:=by omega
      rcases this with rfl | rfl | rfl | rfl | rfl<;>exact ⟨_,rfl⟩
    rw [if_neg h4] at ho
    cases ho
  · have hj:j<9:=hj
    have:j=0∨j=1∨j=2∨j=3∨j=4∨j=5∨j=6∨j=7∨j=8:=by omega
    rcases this with rfl | rfl | rfl | rfl | rfl | rfl | rfl | rfl | rfl
    · exact .inl ⟨rfl,.inl ⟨_,rfl⟩⟩
    · exact .inl ⟨rfl,.inl ⟨_,rfl⟩⟩
    · exact .inl ⟨rfl,.inr ⟨_,_,_,_,rfl,rfl⟩⟩
    · exact .inl ⟨rfl,.inl ⟨_,rfl⟩⟩
    · exact .inr ⟨rfl,_,_,_,rfl⟩
    · exact .inr ⟨rfl,_,_,_,rfl⟩
    · exact .inr ⟨rfl,_,_,_,rfl⟩
    · exact .inl ⟨rfl,.inr ⟨_,_,_,_,rfl,rfl⟩⟩
    · exact .inr ⟨rfl,_,_,_,rfl⟩
theorem Dl {f:FuncId} {a:List AV} {b:Bool} {K:Int} {N nb n:Nat} {g:Nat→aa} {F:Nat→Int} (h:Con Tryz.prog f 0 [] a [(0,aj nb g),(5,aY n F)] (.tup [GI K N nb n,.p (.bool b)])):Con Tryz.prog f 0 [] a (sM (yw K N (nb,g) Dw (n,F))) (.tup [Bw (yw K N (nb,g) Dw (n,F)),.p (.bool b)]):=by
  refine Con.add (fun k=>!((k==0)||(k==5))) h (fun o ob ho=>?_) (fun o ob ho=>?_) (fun o ob ho=>?_) rfl (fun j hj=>?_)
  · simp only [sM,pE,p9] at ho ⊢
    by_cases h0:o.o=0
    · rw [if_pos h0] at ho;exact .inl ⟨by simp only [h0];exact ho,by simp [h0]⟩
    rw [if_neg h0] at ho
    by_cases h1:o.o=1
    · rw [if_pos h1] at ho;obtain ⟨_,rfl⟩:=a5 rfl ho;exact .inr ⟨by simp [h1],rfl⟩
    rw [if_neg h1] at ho
    by_cases h2:o.o=2
    · rw [if_pos h2] at ho;obtain ⟨_,rfl⟩:=a5 rfl ho;exact .inr ⟨by simp [h2],rfl⟩
    rw [if_neg h2] at ho
    by_cases h3:o.o=3
    · rw [if_pos h3] at ho;obtain ⟨_,rfl⟩:=a5 rfl ho;exact .inr ⟨by simp [h3],rfl⟩
    rw [if_neg h3] at ho
    by_cases h4:o.o=4
    · rw [if_pos h4] at ho;obtain ⟨_,rfl⟩:=a5 rfl ho;exact .inr ⟨by simp [h4],rfl⟩
    rw [if_neg h4] at ho
    by_cases h5:o.o=5
    · rw [if_pos h5] at ho;exact .inl ⟨by simp only [h5];exact ho,by simp [h5]⟩
    rw [if_neg h5] at ho
    cases ho
  · simp only [sM,pE,p9] at ho ⊢
    by_cases h0:o.o=0
    · rw [if_pos h0] at ho;exact ⟨by simp [h0],by simp only [h0];exact ho⟩
    rw [if_neg h0] at ho
    by_cases h5:o.o=5
    · rw [if_pos h5] at ho;exact ⟨by simp [h5],by simp only [h5];exact ho⟩
    rw [if_neg h5] at ho
    cases ho
  · simp only [pE,p9] at ho
    by_cases h0:o.o=0
    · rw [if_pos h0] at ho;obtain ⟨_,rfl⟩:=a5 rfl ho;intro i j _ hj
      have hj:j<2:=hj
      have:j=0∨j=1:=by omega
      rcases this with rfl | rfl<;>exact ⟨_,rfl⟩
    rw [if_neg h0] at ho
    by_cases h5:o.o=5
    · rw [if_pos h5] at ho;obtain ⟨_,rfl⟩:=a5 rfl ho;intro i j _ hj
      have hj:j<1:=hj
      have:j=0:=by omega
      subst this;exact ⟨_,rfl⟩
    rw [if_neg h5] at ho
    cases ho
  · have hj:j<9:=hj
    have:j=0∨j=1∨j=2∨j=3∨j=4∨j=5∨j=6∨j=7∨j=8:=by omega
    rcases this with rfl | rfl | rfl | rfl | rfl | rfl | rfl | rfl | rfl
    · exact .inl ⟨rfl,.inl ⟨_,rfl⟩⟩
    · exact .inl ⟨rfl,.inl ⟨_,rfl⟩⟩
    · exact .inl ⟨rfl,.inr ⟨_,_,_,_,rfl,rfl⟩⟩
    · exact .inl ⟨rfl,.inl ⟨_,rfl⟩⟩
    · exact .inr ⟨rfl,_,_,_,rfl⟩
    · exact .inr ⟨rfl,_,_,_,rfl⟩
    · exact .inr ⟨rfl,_,_,_,rfl⟩
    · exact .inr ⟨rfl,_,_,_,rfl⟩
    · exact .inl ⟨rfl,.inr ⟨_,_,_,_,rfl,rfl⟩⟩
theorem sT (S:ad) (A:Nat→aa):∀ d i (x:cA),(kC S A i d x).1≤x.1+d
  | 0,_,_=>Nat.le_refl _
  | d+1,i,x=>by
    rw [kC]
    have:=sT S A d (i+1) (bif a0 S.2 i S.1 then (x.1+1,aZ x.1 x.2 (A i)) else x)
    revert this
    cases a0 S.2 i S.1<;>intro this<;>simp only [cond_true,cond_false] at this ⊢<;>omega
def BC (K:Int) (N:Nat) (G:cA) (R:aU×Bool):cC×Bool:=if R.2=true then (yw K N G R.1 Du,true) else (iI,false)
def BK (K:Int) (N:Nat) (G:cA) (R:ad×Bool):cC×Bool:=if R.2=true then (yw K N G Dw R.1,true) else (iI,false)
theorem zG {K:Int} {N:Nat} {G:cA} {R:aU×Bool} (h:R.2=true):BC K N G R=(yw K N G R.1 Du,true):=by rw [BC,if_pos h]
theorem A8 {K:Int} {N:Nat} {G:cA} {R:aU×Bool} (h:R.2=false):BC K N G R=(iI,false):=by rw [BC,h];rfl
theorem C6 {K:Int} {N:Nat} {G:cA} {R:ad×Bool} (h:R.2=true):BK K N G R=(yw K N G Dw R.1,true):=by rw [BK,if_pos h]
theorem CT {K:Int} {N:Nat} {G:cA} {R:ad×Bool} (h:R.2=false):BK K N G R=(iI,false):=by rw [BK,h];rfl
noncomputable def gY (K:Int) (N nb:Nat) (g:Nat→aa):cC×Bool :=
  if K=1 then BC K N (nb,g) (pC N (kC (ki N nb g) g 0 nb zB).1 (kC (ki N nb g) g 0 nb zB).2)
  else if K=2 then (if bw ((N:Int),(nb,g),())=0 then (iI,false) else (yw K N (nb,g) Dw (cO (bU ((N:Int),(nb,g),())).2 (bU ((N:Int),(nb,g),())).1),true))
  else if K=3 then BK K N (nb,g) (mq g nb N 2 3 (2 ^ N - 1) 1)
  else if K=6 then BC K N (nb,g) (pC N nb g)
  else (iI,false)
noncomputable def xD (K:Int) (v:ai):cC×Bool:=if ah v=true then gY K v.1.toNat v.2.1.1 v.2.1.2 else (iI,false)
theorem fK (K:Int) (v:ai) (hs:cQ a9 v):zE 6 [.p (.int .i64 K),aJ v] (sM (xD K v).1) (.tup [Bw (xD K v).1,.p (.bool (xD K v).2)]):=by
  have hcg:=aQ v hs
  cases hg:ah v with
  | false =>
    rw [hg] at hcg
    rw [show xD K v=(iI,false) by unfold xD;rw [hg];rfl]
    refine ot (aW Tryz.func6 (fun c hc=>?_))
    refine bB Tryz.func6 hc (KC K v) ?_
    and_intros
    all_goals (first | exact zI | (exact hcg) | rfl)
  | true =>
    rw [hg] at hcg
    obtain ⟨N,nb,g,rfl⟩:=bM v hg
    obtain ⟨hN,hnb,hok⟩:=az hg
    rw [show xD K ((N:Int),(nb,g),())=gY K N nb g by unfold xD;rw [hg];rfl]
    have cc:=im N nb g (by omega)
    unfold gY
    by_cases k1:K=1
    · rw [if_pos k1]
      have ca:=mY hg
      have hal:=DJ N nb g
      have co:=pP (N:Int) nb g (ki N nb g) (by omega) (by omega)
      have hol:=sT (ki N nb g) g nb 0 zB
      have cf:=fV (N:=N) (nb:=(kC (ki N nb g) g 0 nb zB).1) (g:=(kC (ki N nb g) g 0 nb zB).2) (by have:zB.1=0:=rfl;omega)
      generalize ki N nb g=q at *
      generalize kC q g 0 nb zB=G at *
      generalize pC N G.1 G.2=R at *
      subst k1
      cases hb:R.2 with
      | true =>
        rw [hb] at cf
        rw [zG hb]
        refine Di (aW Tryz.func6 (fun c hc=>?_))
        refine bB Tryz.func6 hc (Hg 1 g nb N q.1 q.2 G.1 G.2 R.1.1 R.1.2) ?_
        and_intros
        all_goals (first | exact zI | (exact hcg) | (exact cc) | (exact ca) | (exact co) | (exact cf) | rfl | (intro t ht;simp [af];done))
      | false =>
        rw [hb] at cf
        rw [A8 hb]
        refine ot (aW Tryz.func6 (fun c hc=>?_))
        refine bB Tryz.func6 hc (IU 1 g nb N q.1 q.2 G.1 G.2 R.1.1 R.1.2) ?_
        and_intros
        all_goals (first | exact zI | (exact hcg) | (exact cc) | (exact ca) | (exact co) | (exact cf) | rfl | (intro t ht;simp [af];done))
    rw [if_neg k1]
    have b1:(K==1)=false:=by simp [k1]
    by_cases k2:K=2
    · rw [if_pos k2]
      have cr:=eL ((N:Int),(nb,g),()) hs
      have cp:=rV ((N:Int),(nb,g),()) hs
      obtain ⟨p1,p2⟩:=oy ((N:Int),(nb,g),())
      generalize bU ((N:Int),(nb,g),())=C at *
      have lo:∀ (ok:Bool) (c:Cx) (H:Hp) (r:AV),c.n=0→zR c 6 pO (B5 K g nb N ok C.1 C.2 C.1 (cO C.2 C.1).1 (cO C.2 C.1).2) (aT c H r) →
          ∀ d i,i+d=C.1→zR c 6 pO (B5 K g nb N ok C.1 C.2 i (cO C.2 i).1 (cO C.2 i).2) (aT c H r):=by
        intro ok c H r hc hend d
        induction d with
        | zero =>
          intro i hi
          obtain rfl:i=C.1:=by omega
          exact hend
        | succ d ih =>
          intro i hi
          have hd:decide ((i:Int)<(C.1:Int))=true:=decide_eq_true (by omega)
          have h1:=tS (Nat.le_refl 8) i (fun j hj=>p2 j (by omega))
          have h2:=p2 i (by omega)
          have hr:=ih (i+1) (by omega)
          rw [show cO C.2 (i+1)=((cO C.2 i).1+(C.2 i).1+1,mz (cO C.2 i).1 (cO C.2 i).2 (C.2 i).1 (C.2 i).2) from rfl] at hr
          generalize cO C.2 i=R at hr h1 ⊢
          refine cW hc (HY K g nb N ok C.1 C.2 i R.1 R.2) ?_ hr
          and_intros
          all_goals (first | exact zI | (exact hd) | (intro t ht;by_cases h':t<R.1+(C.2 i).1<;>by_cases h'':t<R.1<;>simp [h',h'',mz,ay,bh,tg,bu,af]<;>omega) | (simp;omega) | (intro t ht;simp [af];done))
      have hd:decide ((C.1:Int)<(C.1:Int))=false:=by simp
      by_cases hf:bw ((N:Int),(nb,g),())=0
      · rw [if_pos hf]
        rw [show (bw ((N:Int),(nb,g),())==0)=true by simp [hf]] at cr
        refine ot (aW Tryz.func6 (fun c hc=>?_))
        have hend:zR c 6 pO (B5 K g nb N false C.1 C.2 C.1 (cO C.2 C.1).1 (cO C.2 C.1).2) (aT c [] (.tup [CC,.p (.bool false)])):=by
          generalize cO C.2 C.1=R
          refine be Tryz.func6 hc (Iq K g nb N C.1 C.2 C.1 R.1 R.2) ?_
          and_intros
          all_goals (first | exact zI | (exact hd) | rfl | (intro t ht;simp [af];done))
        have hr:=lo false c [] (.tup [CC,.p (.bool false)]) hc hend C.1 0 (by omega)
        have b2:(K==2)=true:=by simp [k2]
        refine a7 hc (Fj K g nb N true C.1 C.2) ?_ hr
        and_intros
        all_goals (first | exact zI | (exact hcg) | (exact cc) | (exact cr) | (exact cp) | (exact b1) | (exact b2) | rfl | (intro t ht;exact absurd ht (Nat.not_lt_zero _)) | (intro t ht;simp [af];done))
      · rw [if_neg hf]
        rw [show (bw ((N:Int),(nb,g),())==0)=false by simp [hf]] at cr
        refine Dl (aW Tryz.func6 (fun c hc=>?_))
        have hend:zR c 6 pO (B5 K g nb N true C.1 C.2 C.1 (cO C.2 C.1).1 (cO C.2 C.1).2) (aT c [(0,aj nb g),(5,aY (cO C.2 C.1).1 (cO C.2 C.1).2)] (.tup [GI K N nb (cO C.2 C.1).1,.p (.bool true)])):=by
          generalize cO C.2 C.1=R
          refine be Tryz.func6 hc (G7 K g nb N C.1 C.2 C.1 R.1 R.2) ?_
          and_intros
          all_goals (first | exact zI | (exact hd) | rfl | (intro t ht;simp [af];done))
        have hr:=lo true c [(0,aj nb g),(5,aY (cO C.2 C.1).1 (cO C.2 C.1).2)] (.tup [GI K N nb (cO C.2 C.1).1,.p (.bool true)]) hc hend C.1 0 (by omega)
        have b2:(K==2)=true:=by simp [k2]
        refine a7 hc (Fj K g nb N false C.1 C.2) ?_ hr
        and_intros
        all_goals (first | exact zI | (exact hcg) | (exact cc) | (exact cr) | (exact cp) | (exact b1) | (exact b2) | rfl | (intro t ht;exact absurd ht (Nat.not_lt_zero _)) | (intro t ht;simp [af];done))
    rw [if_neg k2]
    have b2:(K==2)=false:=by simp [k2]
    by_cases k3:K=3
    · rw [if_pos k3]
      have b3:(K==3)=true:=by simp [k3]
      have cv:=nt hg 2 3 (by omega) (by omega) (R:=mq g nb N 2 3 (2 ^ N - 1) 1) rfl
      generalize mq g nb N 2 3 (2 ^ N - 1) 1=R at *
      cases hb:R.2 with
      | true =>
        rw [hb] at cv
        rw [C6 hb]
        refine Dl (aW Tryz.func6 (fun c hc=>?_))
        refine bB Tryz.func6 hc (Ig K g nb N R.1.1 R.1.2) ?_
        and_intros
        all_goals (first | exact zI | (exact hcg) | (exact cc) | (exact cv) | (exact b1) | (exact b2) | (exact b3) | rfl | (intro t ht;simp [af];done))
      | false =>
        rw [hb] at cv
        rw [CT hb]
        refine ot (aW Tryz.func6 (fun c hc=>?_))
        refine bB Tryz.func6 hc (H4 K g nb N R.1.1 R.1.2) ?_
        and_intros
        all_goals (first | exact zI | (exact hcg) | (exact cc) | (exact cv) | (exact b1) | (exact b2) | (exact b3) | rfl | (intro t ht;simp [af];done))
    rw [if_neg k3]
    have b3:(K==3)=false:=by simp [k3]
    by_cases k6:K=6
    · rw [if_pos k6]
      have b6:(K==6)=true:=by simp [k6]
      have cf:=fV (N:=N) (nb:=nb) (g:=g) (by omega)
      generalize pC N nb g=R at *
      cases hb:R.2 with
      | true =>
        rw [hb] at cf
        rw [zG hb]
        refine Di (aW Tryz.func6 (fun c hc=>?_))
        refine bB Tryz.func6 hc (Hv K g nb N R.1.1 R.1.2) ?_
        and_intros
        all_goals (first | exact zI | (exact hcg) | (exact cc) | (exact cf) | (exact b1) | (exact b2) | (exact b3) | (exact b6) | rfl | (intro t ht;simp [af];done))
      | false =>
        rw [hb] at cf
        rw [A8 hb]
        refine ot (aW Tryz.func6 (fun c hc=>?_))
        refine bB Tryz.func6 hc (Ia K g nb N R.1.1 R.1.2) ?_
        and_intros
        all_goals (first | exact zI | (exact hcg) | (exact cc) | (exact cf) | (exact b1) | (exact b2) | (exact b3) | (exact b6) | rfl | (intro t ht;simp [af];done))
    rw [if_neg k6]
    have b6:(K==6)=false:=by simp [k6]
    refine ot (aW Tryz.func6 (fun c hc=>?_))
    refine bB Tryz.func6 hc (LS K g nb N) ?_
    and_intros
    all_goals (first | exact zI | (exact hcg) | (exact cc) | (exact b1) | (exact b2) | (exact b3) | (exact b6) | rfl | (intro t ht;simp [af];done))
def I4 (n:Nat) (h:Nat→ae) (x:ae) (s:Nat):ae:=(if s<n then (h s).1 else x.1,if s<n then (h s).2.1 else x.2.1,())
def JW:Ob:=⟨true,3,1,fun _=>[.p (.int .i64 0),.p .nil,.p .nil]⟩
def Fr (N:Nat) (c m:Nat):Ob:=⟨true,3,1,fun _=>[.p (.int .i64 N),.ar 2 4 0 c,.ar 2 5 0 m]⟩
def Av (n:Nat) (f:Nat→Int) (s:Nat×Int) (g:Nat→aa) (nb N m:Nat) (pl:Nat→ae) (i:Nat):St :=
  ⟨[.pt 3 0 0 0,.p .any,.p .any,.pt 2 1 0 0,.pt 3 2 0 0,.pt 3 3 0 0,.p (.int .i64 i)]++List.replicate 73 ag,[(0,aR n f s),(1,ly g nb N),(2,JW),(3,Fr N 0 m),(4,aj 0 (fun _=>(0,0,()))),(5,cU m pl)],6⟩
def uJ (n:Nat) (f:Nat→Int) (s:Nat×Int) (g:Nat→aa) (nb N c:Nat) (R:Nat→aa) (m:Nat) (pl:Nat→ae) (q:Nat):St :=
  ⟨[.pt 3 0 0 0,.p .any,.p .any,.pt 2 1 0 0,.pt 3 2 0 0,.pt 3 3 0 0,.p .any,.p .any,.p (.int .i64 q)]++List.replicate 71 ag,[(0,aR n f s),(1,ly g nb N),(2,JW),(3,Fr N c m),(4,aj c R),(5,cU m pl)],6⟩
def rl (N:Int) (c m:Nat):AV:=.agg [.p (.int .i64 N),.ar 2 1 0 c,.ar 2 2 0 m]
def BD (N:Int) (c o m j k:Nat):AV:=.agg [.p (.int .i64 N),.ar 2 j 0 c,.ar 2 k o m]
def Ji (pl:Nat→ae) (y:Int) (i:Nat):ae:=(if i=0 then y else (pl i).1,(pl i).2.1,())
theorem Og (n:Nat) (f:Nat→Int) (s:Nat×Int) (g:Nat→aa) (nb N:Nat) :
    zM 1 [rg 2,rg 7,rg 1,.head] [.code (ab Tryz.f109)] (start Tryz.f109 [(0,aR n f s)] 1 [.pt 3 0 0 0,bi g nb N]) [0,1,33,225,129] 1 (Av n f s g nb N 0 (fun _=>(0,0,())) 0) =
    some (zJ,zD [(NT 0 1),((true=true)→(AN 1)),(AN 0),((0:Int)=(↑0:Int)),(AN 3),(NL 1 1),(AN n),(AP n (fun i=>[.int .u8 (f i)])),(AI ((s.1:Int))),(AI s.2),((([AV.p (PV.int IntKind.i64 (N:Int)),b4 g nb].length):Nat)=2),(AI ((N:Int))),(AN nb),(AP nb (aH g)),((((List.map (fun v=>AV.p (bZ v)) [Value.int IntKind.i64 0,Value.slice none 0 0,Value.slice none 0 0]).length):Nat)=3),(AI 0),(AN 2),(NL 0 0),(AA 0 (fun i=>[.p (.int .i64 0),.p (.int .i64 0)]))] [0,0,1,2,2,2,2,3,4,5,5,6,7,8,9,10,5,5,11,12,13,14,5,5,15,14,5,5,11,2,2,2,16,17,18,2]):=by kernel_rfl
theorem OF (n:Nat) (f:Nat→Int) (s s1 s2:Nat×Int) (g:Nat→aa) (nb N m:Nat) (pl:Nat→ae) (i:Nat) (x y:Int) :
    zM 1 [rg 4,.dec true,rm [(1,⟨true,(some ⟨[0],[1000],[],1,[(0,aR n f s1)],jI x⟩),none⟩)] 1,rm [(4,⟨true,(some ⟨[0],[1000],[],1,[(0,aR n f s2)],jI y⟩),none⟩)] 5,rg 3,.head] zJ (Av n f s g nb N m pl i) [0,1,2,3,4,454] 1 (Av n f s2 g nb N (m+1) (I4 m pl (x,y,())) (i+1)) =
    some (zJ,[(NT 0 1),((decide ((i:Int)<(N:Int)))=true),(AE 1),Con Tryz.prog 53 1 (vD n f s) [.pt 3 0 0 0,jI 5] (vD n f s1) (jI x),(NT 0 1),(AE 1),Con Tryz.prog 53 1 (vD n f s1) [.pt 3 0 0 0,jI 5] (vD n f s2) (jI y),(NL 1 1),(NL m m),(NL ((m+1)*16) 140737488355328),(NL (m+1) 9223372036854775807),(NT 0 1),((true=true)→(AN 1)),(ax ((i:Int)+1)),(au ((i:Int)+1)),(AN 0),(AN 0),(AN 0),(AN 0),((((i:Int)+1):Int)=(↑(i+1):Int)),(AN 3),(NL 1 1),(NL 1 1),(AN n),(AP n (fun i_1=>[.int .u8 (f i_1)])),(AI ((s2.1:Int))),(AI s2.2),(AN 2),(NL 1 1),(NL 1 1),(AI ((N:Int))),(AN nb),(AP nb (aH g)),(AN 3),(NL 1 1),(NL 1 1),(AI 0),(AN 3),(NL 1 1),(NL 1 1),(AI ((N:Int))),(AN 0),(AN 0),(AN 0),(AN ((m+1))),(AN 2),(NL 0 0),(AA 0 (fun i_1=>[.p (.int .i64 0),.p (.int .i64 0)])),(AN 2),(NL (m+1) (m+1)),(CV [(3,⟨true,3,1,(fun i_2=>[.p (.int .i64 (N:Int)),.ar 2 4 0 0,.ar 2 454 0 (m+1)])⟩),(454,⟨false,2,(m+1),(fun i_2=>(if (i_2<m) then [.p (.int .i64 ((pl i_2).1)),.p (.int .i64 ((pl i_2).2.1))] else [.p (.int .i64 x),.p (.int .i64 y)]))⟩),(422,⟨false,2,1,(fun i_2=>[.p (.int .i64 x),.p (.int .i64 y)])⟩),(0,⟨true,3,1,(fun i_2=>[.p (.seq false 1 n (fun i_3=>[.int .u8 (f i_3)])),.p (.int .i64 (s2.1:Int)),.p (.int .i64 s2.2)])⟩),(1,⟨true,2,1,(fun i_2=>[.p (.int .i64 (N:Int)),.p (.seq true 2 nb (aH g))])⟩),(2,⟨true,3,1,(fun i_2=>[.p (.int .i64 0),.p (.nil),.p (.nil)])⟩),(4,⟨false,2,0,(fun i_2=>[.p (.int .i64 0),.p (.int .i64 0)])⟩)] [0,1,2,3,4,454] 1 (m+1) (fun i_1=>if (i_1<m) then [.p (.int .i64 ((pl i_1).1)),.p (.int .i64 ((pl i_1).2.1))] else [.p (.int .i64 x),.p (.int .i64 y)]) (fun i_1=>[.p (.int .i64 (if i_1<m then (pl i_1).1 else x)),.p (.int .i64 (if i_1<m then (pl i_1).2.1 else y))]))]):=by kernel_rfl
theorem Mj (n:Nat) (f:Nat→Int) (s:Nat×Int) (g:Nat→aa) (nb N m:Nat) (pl:Nat→ae) (i:Nat) :
    zM 1 [rg 4,.dec false,rg 1,.head] zJ (Av n f s g nb N m pl i) [0,1,2,3,4,5] 1 (uJ n f s g nb N 0 (fun _=>(0,0,())) m pl 0) =
    some (uX,[(NT 0 1),((decide ((i:Int)<(N:Int)))=false),(AN 0),(AN 0),(AN 0),(AN 0),((0:Int)=(↑0:Int)),(AN 3),(NL 1 1),(NL 1 1),(AN n),(AP n (fun i_1=>[.int .u8 (f i_1)])),(AI ((s.1:Int))),(AI s.2),(AN 2),(NL 1 1),(NL 1 1),(AI ((N:Int))),(AN nb),(AP nb (aH g)),(AN 3),(NL 1 1),(NL 1 1),(AI 0),(AN 3),(NL 1 1),(NL 1 1),(AI ((N:Int))),(AN 0),(AN 0),(AN 0),(AN m),(AN 2),(NL 0 0),(AA 0 (fun i_1=>[.p (.int .i64 0),.p (.int .i64 0)])),(AN 2),(NL m m),(AA m (fun i_1=>[.p (.int .i64 ((pl i_1).1)),.p (.int .i64 ((pl i_1).2.1))]))]):=by kernel_rfl
theorem Kk (n:Nat) (f:Nat→Int) (s:Nat×Int) (g:Nat→aa) (nb N c:Nat) (R:Nat→aa) (m:Nat) (pl:Nat→ae) (q:Nat) :
    zM 1 [rg 5,.dec true,rg 7,rg 27,.dec true,rg 9,rg 3,.head] uX (uJ n f s g nb N c R m pl q) [0,1,2,3,1414,5] 1 (uJ n f s g nb N (c+1) (aZ c R (g q)) m pl (q+1)) =
    some (uX,(let A:Bool:=(pl (g q).1.toNat).1==(pl (g q).2.1.toNat).1&&((pl (g q).1.toNat).2.1==(pl (g q).2.1.toNat).2.1&&true);let C:Bool:=(q:Int)==0;let B:Bool:=!(A)&&!C;[(NT 0 1),((decide ((q:Int)<(nb:Int)))=true),(NT 0 1),(IL 0 (q:Int)),(IT (q:Int) (nb:Int)),(NT 0 1),((true=true)→(AN 1)),(NT 0 1),(NT 0 1),(IL 0 ((g q).1)),(IT ((g q).1) (m:Int)),(NT ((g q).1.toNat) m),(NT 0 1),(NT 0 1),(IL 0 ((g q).2.1)),(IT ((g q).2.1) (m:Int)),(NT ((g q).2.1.toNat) m),(AG (!(A))),(AG (!(A))),(AG B),((B=true)→(NT 0 1)),(AG B),((B=true)→(ax ((q:Int) - 1))),((B=true)→(au ((q:Int) - 1))),(AG B),(AG B),((B=true)→(IL 0 ((q:Int) - 1))),((B=true)→(IT ((q:Int) - 1) (nb:Int))),(AG B),((B=true)→(NT 0 1)),(AG B),(AG B),(AG (!(A))),(((!(A))=true)→((C=false)→(B=true))),(AG (!(A))),((bif !(A) then bif C then true else !((g ((q:Int) - 1).toNat).1==(g q).1&&((g ((q:Int) - 1).toNat).2.1==(g q).2.1&&true)) else false)=true),(NT 0 1),(NT 0 1),(NL 1 1),(NL c c),(NL ((c+1)*16) 140737488355328),(NL (c+1) 9223372036854775807),(NT 0 1),((true=true)→(AN 1)),(ax ((q:Int)+1)),(au ((q:Int)+1)),(AN 0),(AN 0),(AN 0),(AN 0),((((q:Int)+1):Int)=(↑(q+1):Int)),(AN 3),(NL 1 1),(NL 1 1),(AN n),(AP n (fun i=>[.int .u8 (f i)])),(AI ((s.1:Int))),(AI s.2),(AN 2),(NL 1 1),(NL 1 1),(AI ((N:Int))),(AN nb),(AP nb (aH g)),(AN 3),(NL 1 1),(NL 1 1),(AI 0),(AN 3),(NL 1 1),(NL 1 1),(AI ((N:Int))),(AN 0),(AN ((c+1))),(AN 0),(AN m),(AN 2),(NL (c+1) (c+1)),(CV [(3,⟨true,3,1,(fun i_1=>[.p (.int .i64 (N:Int)),.ar 2 1414 0 (c+1),.ar 2 5 0 m])⟩),(1414,⟨false,2,(c+1),(fun i_1=>(if (i_1<c) then [.p (.int .i64 ((R i_1).1)),.p (.int .i64 ((R i_1).2.1))] else [.p (.int .i64 ((g q).1)),.p (.int .i64 ((g q).2.1))]))⟩),(1382,⟨false,2,1,(fun i_1=>[.p (.int .i64 ((g q).1)),.p (.int .i64 ((g q).2.1))])⟩),(326,⟨true,2,1,(fun i_1=>[.p (.int .i64 ((g q).1)),.p (.int .i64 ((g q).2.1))])⟩),(0,⟨true,3,1,(fun i_1=>[.p (.seq false 1 n (fun i_2=>[.int .u8 (f i_2)])),.p (.int .i64 (s.1:Int)),.p (.int .i64 s.2)])⟩),(1,⟨true,2,1,(fun i_1=>[.p (.int .i64 (N:Int)),.p (.seq true 2 nb (aH g))])⟩),(2,⟨true,3,1,(fun i_1=>[.p (.int .i64 0),.p (.nil),.p (.nil)])⟩),(5,⟨false,2,m,(fun i_1=>[.p (.int .i64 ((pl i_1).1)),.p (.int .i64 ((pl i_1).2.1))])⟩)] [0,1,2,3,1414,5] 1 (c+1) (fun i=>if (i<c) then [.p (.int .i64 ((R i).1)),.p (.int .i64 ((R i).2.1))] else [.p (.int .i64 ((g q).1)),.p (.int .i64 ((g q).2.1))]) (fun i=>[.p (.int .i64 (if i<c then (R i).1 else (g q).1)),.p (.int .i64 (if i<c then (R i).2.1 else (g q).2.1))])),(AN 2),(NL m m),(AA m (fun i=>[.p (.int .i64 ((pl i).1)),.p (.int .i64 ((pl i).2.1))]))])):=by kernel_rfl
theorem Nw (n:Nat) (f:Nat→Int) (s:Nat×Int) (g:Nat→aa) (nb N c:Nat) (R:Nat→aa) (m:Nat) (pl:Nat→ae) (q:Nat) :
    zM 1 [rg 5,.dec true,rg 7,rg 27,.dec false,rg 3,.head] uX (uJ n f s g nb N c R m pl q) [0,1,2,3,4,5] 1 (uJ n f s g nb N c R m pl (q+1)) =
    some (uX,(let A:Bool:=(pl (g q).1.toNat).1==(pl (g q).2.1.toNat).1&&((pl (g q).1.toNat).2.1==(pl (g q).2.1.toNat).2.1&&true);let C:Bool:=(q:Int)==0;let B:Bool:=!(A)&&!C;[(NT 0 1),((decide ((q:Int)<(nb:Int)))=true),(NT 0 1),(IL 0 (q:Int)),(IT (q:Int) (nb:Int)),(NT 0 1),((true=true)→(AN 1)),(NT 0 1),(NT 0 1),(IL 0 ((g q).1)),(IT ((g q).1) (m:Int)),(NT ((g q).1.toNat) m),(NT 0 1),(NT 0 1),(IL 0 ((g q).2.1)),(IT ((g q).2.1) (m:Int)),(NT ((g q).2.1.toNat) m),(AG (!(A))),(AG (!(A))),(AG B),((B=true)→(NT 0 1)),(AG B),((B=true)→(ax ((q:Int) - 1))),((B=true)→(au ((q:Int) - 1))),(AG B),(AG B),((B=true)→(IL 0 ((q:Int) - 1))),((B=true)→(IT ((q:Int) - 1) (nb:Int))),(AG B),((B=true)→(NT 0 1)),(AG B),(AG B),(AG (!(A))),(((!(A))=true)→((C=false)→(B=true))),(AG (!(A))),((bif !(A) then bif C then true else !((g ((q:Int) - 1).toNat).1==(g q).1&&((g ((q:Int) - 1).toNat).2.1==(g q).2.1&&true)) else false)=false),(ax ((q:Int)+1)),(au ((q:Int)+1)),(AN 0),(AN 0),(AN 0),(AN 0),((((q:Int)+1):Int)=(↑(q+1):Int)),(AN 3),(NL 1 1),(NL 1 1),(AN n),(AP n (fun i=>[.int .u8 (f i)])),(AI ((s.1:Int))),(AI s.2),(AN 2),(NL 1 1),(NL 1 1),(AI ((N:Int))),(AN nb),(AP nb (aH g)),(AN 3),(NL 1 1),(NL 1 1),(AI 0),(AN 3),(NL 1 1),(NL 1 1),(AI ((N:Int))),(AN 0),(AN c),(AN 0),(AN m),(AN 2),(NL c c),(AA c (fun i=>[.p (.int .i64 ((R i).1)),.p (.int .i64 ((R i).2.1))])),(AN 2),(NL m m),(AA m (fun i=>[.p (.int .i64 ((pl i).1)),.p (.int .i64 ((pl i).2.1))]))])):=by kernel_rfl
theorem LG (n:Nat) (f:Nat→Int) (s:Nat×Int) (g:Nat→aa) (nb N c:Nat) (R:Nat→aa) (m:Nat) (pl:Nat→ae) (q:Nat) :
    zP Tryz.f109 1 [rg 5,.dec false,rg 2] uX (uJ n f s g nb N c R m pl q) [0,4,5] 1 [(0,aR n f s),(1,aj c R),(2,cU m pl)] (rl N c m) =
    some [(NT 0 1),((decide ((q:Int)<(nb:Int)))=false),(NT 0 1),(NT 0 1),((true=true)→(AN 1)),(NT 0 1),(AI ((N:Int))),(AN 0),(AN c),(AN 0),(AN m),(AN 3),(NL 1 1),(NL 1 1),(AN n),(AP n (fun i=>[.int .u8 (f i)])),(AI ((s.1:Int))),(AI s.2),(AN 2),(NL c c),(AA c (fun i=>[.p (.int .i64 ((R i).1)),.p (.int .i64 ((R i).2.1))])),(AN 2),(NL m m),(AA m (fun i=>[.p (.int .i64 ((pl i).1)),.p (.int .i64 ((pl i).2.1))])),(∀ i:Nat,(((i:Nat)<1)→af [(false=false),(AE n)])),(AE c),(AE m)]:=by kernel_rfl
theorem NG (n:Nat) (f:Nat→Int) (s s1 s2 s3 s4:Nat×Int) (x:Int) (k:Nat) (h:Nat→aa) (m:Nat) (R:Nat→aa) (p:Nat) (pl:Nat→ae) (x0:Int) :
    zP Tryz.f81 1 [rg 1,rm [(1,⟨true,(some ⟨[0],[1000],[],1,[(0,aR n f s1)],jI x0⟩),none⟩)] 0,rg 2,.dec true,rm [(1,⟨true,(some ⟨[0],[1000],[],1,[(0,aR n f s2)],jI x⟩),none⟩)] 2,rm [(2,⟨true,(some ⟨[0],[1000],[],1,[(0,aR n f s3),(1,aj k h)],cV (2+x) k 1⟩),none⟩)] 2,rm [(2,⟨true,(some ⟨[0],[1000],[],1,[(0,aR n f s4),(1,aj m R),(2,cU p pl)],rl (2+x) m p⟩),none⟩)] 1] [.code (ab Tryz.f81)] (start Tryz.f81 [(0,aR n f s)] 1 [.pt 3 0 0 0]) [0,513,514] 1 [(0,aR n f s4),(1,aj m R),(2,cU p pl)] (rl (2+x) m p) =
    some [(AE 1),Con Tryz.prog 53 1 (am n f s) [.pt 3 0 0 0,jI 3] (am n f s1) (jI x0),((x0==0)=true),(AE 1),Con Tryz.prog 53 1 (am n f s1) [.pt 3 0 0 0,jI 5] (am n f s2) (jI x),(ax (2+x)),(au (2+x)),(AE 1),Con Tryz.prog 108 1 (am n f s2) [.pt 3 0 0 0,jI (2+x),jI 7] (lz n f s3 k h) (.agg [jI (2+x),.ar 2 1 0 k]),(NT 0 1),((true=true)→(AN 1)),(NT 0 1),(AE 1),(AN 2),(NL k k),Con Tryz.prog 109 1 (am n f s3) [.pt 3 0 0 0,(vF x k h)] (tN n f s4 m R p pl) (.agg [jI (2+x),.ar 2 1 0 m,.ar 2 2 0 p]),(NT 0 1),((true=true)→(AN 1)),(NT 0 1),(AI ((2+x))),(AN 0),(AN m),(AN 0),(AN p),(AN 3),(NL 1 1),(NL 1 1),(AN n),(AP n (fun i=>[.int .u8 (f i)])),(AI ((s4.1:Int))),(AI s4.2),(AN 2),(NL m m),(AA m (fun i=>[.p (.int .i64 ((R i).1)),.p (.int .i64 ((R i).2.1))])),(AN 2),(NL p p),(AA p (fun i=>[.p (.int .i64 ((pl i).1)),.p (.int .i64 ((pl i).2.1))])),(∀ i:Nat,(((i:Nat)<1)→af [(false=false),(AE n)])),(AE m),(AE p)]:=by kernel_rfl
theorem Nk (n:Nat) (f:Nat→Int) (s s1 s2 s3 s4 s5 s6:Nat×Int) (x:Int) (k:Nat) (h:Nat→aa) (a b:Int) (k2:Nat) (h2:Nat→aa) (ok:Bool) (m:Nat) (R:Nat→aa) (p:Nat) (pl:Nat→ae) (x0:Int) :
    zP Tryz.f81 1 [rg 1,rm [(1,⟨true,(some ⟨[0],[1000],[],1,[(0,aR n f s1)],jI x0⟩),none⟩)] 0,rg 2,.dec false,rg 2,.dec true,rm [(1,⟨true,(some ⟨[0],[1000],[],1,[(0,aR n f s2)],jI x⟩),none⟩)] 2,rm [(2,⟨true,(some ⟨[0],[1000],[],1,[(0,aR n f s3),(1,aj k h)],cV (2+x) k 1⟩),none⟩)] 2,rm [(2,⟨true,(some ⟨[0],[1000],[],1,[(0,aR n f s4)],jI a⟩),none⟩)] 1,rm [(2,⟨true,(some ⟨[0],[1000],[],1,[(0,aR n f s5)],jI b⟩),none⟩)] 1,rm [(3,oc [(0,aj k2 h2)] (.tup [cV (2+x) k2 0,jB ok]))] 4,rm [(2,⟨true,(some ⟨[0],[1000],[],1,[(0,aR n f s6),(1,aj m R),(2,cU p pl)],rl (2+x) m p⟩),none⟩)] 1] [.code (ab Tryz.f81)] (start Tryz.f81 [(0,aR n f s)] 1 [.pt 3 0 0 0]) [0,1089,1090] 1 [(0,aR n f s6),(1,aj m R),(2,cU p pl)] (rl (2+x) m p) =
    some (zD [(AE 1),Con Tryz.prog 53 1 (am n f s) [.pt 3 0 0 0,jI 3] (am n f s1) (jI x0),((x0==0)=false),((x0==1)=true),Con Tryz.prog 53 1 (am n f s1) [.pt 3 0 0 0,jI 4] (am n f s2) (jI x),(ax (2+x)),(au (2+x)),Con Tryz.prog 55 1 (am n f s2) [.pt 3 0 0 0,jI (2+x)] (lz n f s3 k h) (.agg [jI (2+x),.ar 2 1 0 k]),(NT 0 1),((true=true)→(AN 1)),Con Tryz.prog 53 1 (am n f s3) [.pt 3 0 0 0,jI (2+x)] (am n f s4) (jI a),Con Tryz.prog 53 1 (am n f s4) [.pt 3 0 0 0,jI (2+x)] (am n f s5) (jI b),(AN 2),(NL k k),zE 57 [(vF x k h),jI a,jI b] (bg k2 h2) (.tup [.agg [jI (2+x),.ar 2 0 0 k2],jB ok]),(NL k2 k2),Con Tryz.prog 109 1 (am n f s5) [.pt 3 0 0 0,(vF x k2 h2)] (tN n f s6 m R p pl) (.agg [jI (2+x),.ar 2 1 0 m,.ar 2 2 0 p]),(AI ((2+x))),(AN 0),(AN m),(AN p),(AN 3),(NL 1 1),(AN n),(AP n (fun i=>[.int .u8 (f i)])),(AI ((s6.1:Int))),(AI s6.2),(NL m m),(AA m (fun i=>[.p (.int .i64 ((R i).1)),.p (.int .i64 ((R i).2.1))])),(NL p p),(AA p (fun i=>[.p (.int .i64 ((pl i).1)),.p (.int .i64 ((pl i).2.1))])),(∀ i:Nat,(((i:Nat)<1)→af [(false=false),(AE n)])),(AE m),(AE p)] [0,1,2,3,0,4,5,6,0,7,8,9,0,10,0,11,8,12,13,14,8,9,8,0,12,15,16,8,9,8,17,18,19,18,20,21,22,22,23,24,25,26,12,27,28,12,29,30,31,32,33]):=by kernel_rfl
theorem Nj (n:Nat) (f:Nat→Int) (s s1 s2 s3 s4:Nat×Int) (x:Int) (k:Nat) (h:Nat→aa) (m:Nat) (R:Nat→aa) (p:Nat) (pl:Nat→ae) (x0:Int) :
    zP Tryz.f81 1 [rg 1,rm [(1,⟨true,(some ⟨[0],[1000],[],1,[(0,aR n f s1)],jI x0⟩),none⟩)] 0,rg 2,.dec false,rg 2,.dec false,rm [(1,⟨true,(some ⟨[0],[1000],[],1,[(0,aR n f s2)],jI x⟩),none⟩)] 2,rm [(2,⟨true,(some ⟨[0],[1000],[],1,[(0,aR n f s3),(1,aj k h)],cV (2+x) k 1⟩),none⟩)] 2,rm [(2,⟨true,(some ⟨[0],[1000],[],1,[(0,aR n f s4),(1,aj m R),(2,cU p pl)],rl (2+x) m p⟩),none⟩)] 1] [.code (ab Tryz.f81)] (start Tryz.f81 [(0,aR n f s)] 1 [.pt 3 0 0 0]) [0,577,578] 1 [(0,aR n f s4),(1,aj m R),(2,cU p pl)] (rl (2+x) m p) =
    some [(AE 1),Con Tryz.prog 53 1 (am n f s) [.pt 3 0 0 0,jI 3] (am n f s1) (jI x0),((x0==0)=false),((x0==1)=false),(AE 1),Con Tryz.prog 53 1 (am n f s1) [.pt 3 0 0 0,jI 5] (am n f s2) (jI x),(ax (2+x)),(au (2+x)),(AE 1),Con Tryz.prog 55 1 (am n f s2) [.pt 3 0 0 0,jI (2+x)] (lz n f s3 k h) (.agg [jI (2+x),.ar 2 1 0 k]),(NT 0 1),((true=true)→(AN 1)),(NT 0 1),(AE 1),(AN 2),(NL k k),Con Tryz.prog 109 1 (am n f s3) [.pt 3 0 0 0,(vF x k h)] (tN n f s4 m R p pl) (.agg [jI (2+x),.ar 2 1 0 m,.ar 2 2 0 p]),(NT 0 1),((true=true)→(AN 1)),(NT 0 1),(AI ((2+x))),(AN 0),(AN m),(AN 0),(AN p),(AN 3),(NL 1 1),(NL 1 1),(AN n),(AP n (fun i=>[.int .u8 (f i)])),(AI ((s4.1:Int))),(AI s4.2),(AN 2),(NL m m),(AA m (fun i=>[.p (.int .i64 ((R i).1)),.p (.int .i64 ((R i).2.1))])),(AN 2),(NL p p),(AA p (fun i=>[.p (.int .i64 ((pl i).1)),.p (.int .i64 ((pl i).2.1))])),(∀ i:Nat,(((i:Nat)<1)→af [(false=false),(AE n)])),(AE m),(AE p)]:=by kernel_rfl
theorem KL (n:Nat) (f:Nat→Int) (s s1 s2 s3:Nat×Int) (N:Int) (m:Nat) (R:Nat→aa) (p:Nat) (pl:Nat→ae) (x y:Int) :
    zP Tryz.f45 1 [rg 1,rm [(1,⟨true,(some ⟨[0],[1000],[],1,[(0,aR n f s1),(1,aj m R),(2,cU p pl)],rl N m p⟩),none⟩)] 2,rm [(1,⟨true,(some ⟨[0],[1000],[],1,[(0,aR n f s2)],jI x⟩),none⟩)] 0,rg 2,.dec true,rm [(4,⟨true,(some ⟨[0],[1000],[],1,[(0,aR n f s3)],jI y⟩),none⟩)] 3,rg 2] [.code (ab Tryz.f45)] (start Tryz.f45 [(0,aR n f s)] 1 [.pt 3 0 0 0]) [0,65,66] 1 [(0,aR n f s3),(1,aj m R),(2,cU p (Ji pl y))] (BD N m 0 p 1 2) =
    some [(AE 1),Con Tryz.prog 81 1 (am n f s) [.pt 3 0 0 0] (tN n f s1 m R p pl) (.agg [jI N,.ar 2 1 0 m,.ar 2 2 0 p]),(NT 0 1),((true=true)→(AN 1)),(AE 1),Con Tryz.prog 53 1 (am n f s1) [.pt 3 0 0 0,jI 14] (am n f s2) (jI x),((x==0)=true),(NT 0 1),(AE 1),(AN 1),(NL 3 3),Con Tryz.prog 82 1 (am n f s2) [.pt 3 0 0 0,.p (.seq true 1 3 (fun i=>[(bF true [(List.getD ([.p (.int .i64 (-1)),.p (.int .i64 5),.p (.int .i64 9)]:List AV) (bk 3 i*1) (.p .any))] 0)]))] (am n f s3) (jI y),(IL 0 0),(IT 0 (p:Int)),(NT 0 p),((false=true)→((p:Nat)=1)),(NT 0 1),(NT 0 1),((true=true)→(AN 1)),(NT 0 1),(AI N),(AN 0),(AN m),(AN 0),(AN p),(AN 3),(NL 1 1),(NL 1 1),(AN n),(AP n (fun i=>[.int .u8 (f i)])),(AI ((s3.1:Int))),(AI s3.2),(AN 2),(NL m m),(AA m (fun i=>[.p (.int .i64 ((R i).1)),.p (.int .i64 ((R i).2.1))])),(AN 2),(NL p p),(CV [(1,⟨true,3,1,(fun i_1=>[.p (.int .i64 N),.ar 2 65 0 m,.ar 2 66 0 p])⟩),(66,⟨false,2,p,(fun i_1=>(if (i_1=0) then [.p (.int .i64 y),.p (.int .i64 ((pl 0).2.1))] else [.p (.int .i64 ((pl i_1).1)),.p (.int .i64 ((pl i_1).2.1))]))⟩),(0,⟨true,3,1,(fun i_1=>[.p (.seq false 1 n (fun i_2=>[.int .u8 (f i_2)])),.p (.int .i64 (s3.1:Int)),.p (.int .i64 s3.2)])⟩),(385,⟨false,1,3,(fun i_1=>[(List.getD ([.p (.int .i64 (-1)),.p (.int .i64 5),.p (.int .i64 9)]:List AV) (bk 3 i_1*1) (.p .any))])⟩),(97,⟨true,3,1,(fun i_1=>[.p (.int .i64 N),.ar 2 65 0 m,.ar 2 66 0 p])⟩),(65,⟨false,2,m,(fun i_1=>[.p (.int .i64 ((R i_1).1)),.p (.int .i64 ((R i_1).2.1))])⟩)] [0,65,66] 1 p (fun i=>if (i=0) then [.p (.int .i64 y),.p (.int .i64 ((pl 0).2.1))] else [.p (.int .i64 ((pl i).1)),.p (.int .i64 ((pl i).2.1))]) (fun i=>[.p (.int .i64 (if i=0 then y else (pl i).1)),.p (.int .i64 ((pl i).2.1))])),(∀ i:Nat,(((i:Nat)<1)→af [(false=false),(AE n)])),(AE m),(AE p)]:=by kernel_rfl
theorem Oc (n:Nat) (f:Nat→Int) (s s1 s2:Nat×Int) (N:Int) (m:Nat) (R:Nat→aa) (p:Nat) (pl:Nat→ae) (x:Int) :
    zP Tryz.f45 1 [rg 1,rm [(1,⟨true,(some ⟨[0],[1000],[],1,[(0,aR n f s1),(1,aj m R),(2,cU p pl)],rl N m p⟩),none⟩)] 2,rm [(1,⟨true,(some ⟨[0],[1000],[],1,[(0,aR n f s2)],jI x⟩),none⟩)] 0,rg 2,.dec false,rg 2,.dec true,rg 5,rg 2] [.code (ab Tryz.f45)] (start Tryz.f45 [(0,aR n f s)] 1 [.pt 3 0 0 0]) [0,65,66] 1 [(0,aR n f s2),(1,aj m R),(2,cU p pl)] (BD N m 1 (p - 1) 1 2) =
    some (zD [(AE 1),Con Tryz.prog 81 1 (am n f s) [.pt 3 0 0 0] (tN n f s1 m R p pl) (.agg [jI N,.ar 2 1 0 m,.ar 2 2 0 p]),(NT 0 1),((true=true)→(AN 1)),Con Tryz.prog 53 1 (am n f s1) [.pt 3 0 0 0,jI 14] (am n f s2) (jI x),((x==0)=false),((x==1)=true),(IL 0 1),(IL 1 (p:Int)),(IL (p:Int) (p:Int)),(AI N),(AN 0),(AN m),(AN 1),(AN ((p - 1))),(AN 3),(NL 1 1),(AN n),(AP n (fun i=>[.int .u8 (f i)])),(AI ((s2.1:Int))),(AI s2.2),(AN 2),(NL m m),(AA m (fun i=>[.p (.int .i64 ((R i).1)),.p (.int .i64 ((R i).2.1))])),(NL p p),(AA p (fun i=>[.p (.int .i64 ((pl i).1)),.p (.int .i64 ((pl i).2.1))])),(∀ i:Nat,(((i:Nat)<1)→af [(false=false),(AE n)])),(AE m),(AE p)] [0,1,2,3,0,4,5,6,2,7,8,9,2,3,2,2,3,2,10,11,12,13,14,15,16,16,17,18,19,20,21,22,23,21,24,25,26,27,28]):=by kernel_rfl
theorem KH (n:Nat) (f:Nat→Int) (s s1 s2:Nat×Int) (N:Int) (m:Nat) (R:Nat→aa) (p:Nat) (pl:Nat→ae) (x:Int) :
    zP Tryz.f45 1 [rg 1,rm [(1,⟨true,(some ⟨[0],[1000],[],1,[(0,aR n f s1),(1,aj m R),(2,cU p pl)],rl N m p⟩),none⟩)] 2,rm [(1,⟨true,(some ⟨[0],[1000],[],1,[(0,aR n f s2)],jI x⟩),none⟩)] 0,rg 2,.dec false,rg 2,.dec false,rg 2] [.code (ab Tryz.f45)] (start Tryz.f45 [(0,aR n f s)] 1 [.pt 3 0 0 0]) [0,65,66] 1 [(0,aR n f s2),(1,aj m R),(2,cU p pl)] (BD N m 0 p 1 2) =
    some [(AE 1),Con Tryz.prog 81 1 (am n f s) [.pt 3 0 0 0] (tN n f s1 m R p pl) (.agg [jI N,.ar 2 1 0 m,.ar 2 2 0 p]),(NT 0 1),((true=true)→(AN 1)),(AE 1),Con Tryz.prog 53 1 (am n f s1) [.pt 3 0 0 0,jI 14] (am n f s2) (jI x),((x==0)=false),((x==1)=false),(NT 0 1),(NT 0 1),((true=true)→(AN 1)),(NT 0 1),(AI N),(AN 0),(AN m),(AN 0),(AN p),(AN 3),(NL 1 1),(NL 1 1),(AN n),(AP n (fun i=>[.int .u8 (f i)])),(AI ((s2.1:Int))),(AI s2.2),(AN 2),(NL m m),(AA m (fun i=>[.p (.int .i64 ((R i).1)),.p (.int .i64 ((R i).2.1))])),(AN 2),(NL p p),(AA p (fun i=>[.p (.int .i64 ((pl i).1)),.p (.int .i64 ((pl i).2.1))])),(∀ i:Nat,(((i:Nat)<1)→af [(false=false),(AE n)])),(AE m),(AE p)]:=by kernel_rfl
theorem Ov (n:Nat) (f:Nat→Int) (s s1:Nat×Int) (N:Int) (m:Nat) (R:Nat→aa) (q o p:Nat) (pl:Nat→ae) :
    zS Tryz.f12 [rg 1,rm [(1,⟨true,(some ⟨[],[0],[],1,[(0,aR n f s)],.pt 3 0 0 0⟩),none⟩),(0,⟨true,(some ⟨[64],[0],[],1,[(0,aR n f s1),(1,aj m R),(2,cU q pl)],BD N m o p 1 2⟩),none⟩)] 1] [yG n f] [96,97] [(0,aj m R),(1,cU q pl)] (BD N m o p 0 1) =
    some [zE 22 [.p (.seq false 1 n (fun i=>[.int .u8 (f i)]))] (am n f s) (.pt 3 0 0 0),(AE 1),Con Tryz.prog 45 1 (am n f s) [.pt 3 0 0 0] (tN n f s1 m R q pl) (.agg [jI N,.ar 2 1 0 m,.ar 2 2 o p]),(NT 0 1),((true=true)→(AN 1)),(NT 0 1),(AI N),(AN 0),(AN m),(AN o),(AN p),(AN 2),(NL m m),(AA m (fun i=>[.p (.int .i64 ((R i).1)),.p (.int .i64 ((R i).2.1))])),(AN 2),(NL q q),(AA q (fun i=>[.p (.int .i64 ((pl i).1)),.p (.int .i64 ((pl i).2.1))])),(AE m),(AE q)]:=by kernel_rfl
theorem NO (n:Nat) (f:Nat→Int) (s s1:Nat×Int) (N:Int) (k:Nat) (h:Nat→aa) :
    zS Tryz.f5 [rg 1,rm [(1,⟨true,(some ⟨[],[0],[],1,[(0,aR n f s)],.pt 3 0 0 0⟩),none⟩),(0,⟨true,(some ⟨[64],[0],[],1,[(0,aR n f s1),(1,aj k h)],cV N k 1⟩),none⟩)] 1] [yG n f] [96] [(0,aj k h)] (cV N k 0) =
    some [zE 22 [.p (.seq false 1 n (fun i=>[.int .u8 (f i)]))] (am n f s) (.pt 3 0 0 0),(AE 1),Con Tryz.prog 21 1 (am n f s) [.pt 3 0 0 0] (lz n f s1 k h) (.agg [jI N,.ar 2 1 0 k]),(NT 0 1),((true=true)→(AN 1)),(NT 0 1),(AI N),(AN 0),(AN k),(AN 2),(NL k k),(AA k (fun i=>[.p (.int .i64 ((h i).1)),.p (.int .i64 ((h i).2.1))])),(AE k)]:=by kernel_rfl
theorem F6 {N:Nat} {k:Nat} {h:Nat→aa} (a b:Int) (hb:aO N k h):aO N (ib ((N:Int),(k,h),()) a b).2.1.1 (ib ((N:Int),(k,h),()) a b).2.1.2:=by
  cases hab:A0 ((N:Int),(k,h),()) a b with
  | false=>rw [show ib ((N:Int),(k,h),()) a b=((N:Int),(k,h),()) by simp [ib,hab]];exact hb
  | true =>
    obtain ⟨_,ha,hb2,hne,_⟩:=sY hab
    have hx:=zg (N:=N) (a:=a) (b:=b) ha hb2 hne
    rw [show ib ((N:Int),(k,h),()) a b=((N:Int),(k+1,df (k+1) (aZ k h (aD a b))),()) by simp [ib,hab]]
    intro i hi
    have hi:i<k+1:=hi
    have hlen:(bz (al (k+1) (aZ k h (aD a b)))).length=k+1:=by rw [cq,aC]
    have hm:df (k+1) (aZ k h (aD a b)) i∈al (k+1) (aZ k h (aD a b)):=by
      refine (fj _).mem_iff.1 ?_
      unfold df
      rw [List.getD_eq_getElem?_getD,List.getElem?_eq_getElem (by omega)]
      exact List.getElem_mem _
    obtain ⟨j,hj,e⟩:=List.mem_map.1 hm
    have hj:=List.mem_range.1 hj
    show 0≤(df (k+1) (aZ k h (aD a b)) i).1∧(df (k+1) (aZ k h (aD a b)) i).1<(df (k+1) (aZ k h (aD a b)) i).2.1∧(df (k+1) (aZ k h (aD a b)) i).2.1<(N:Int)
    rw [← e]
    by_cases h1:j<k
    · rw [dc h1];exact hb j h1
    · rw [dM h1];exact hx
theorem kq (n:Nat) (f:Nat→Int) (hn:fk n f) (s:Nat×Int) (hs:s.1≤n) (N:Nat) (hN:N≤8) (nb:Nat) (g:Nat→aa) (hnb:nb≤25) (hok:aO N nb g) :
    ∃ (s2:Nat×Int) (m:Nat) (R:Nat→aa) (pl:Nat→ae),s2.1≤n∧m≤25 ∧
    Con Tryz.prog 109 1 [(0,aR n f s)] [.pt 3 0 0 0,bi g nb N] [(0,aR n f s2),(1,aj m R),(2,cU N pl)] (rl N m N):=by
  have l1:∀ (s:Nat×Int) (pl:Nat→ae),s.1≤n→∀ e q,q+e=nb→∀ (c:Nat) (R:Nat→aa),c≤q→∃ (m:Nat) (R2:Nat→aa),m≤25 ∧
      ∀ cx:Cx,cx.n=1→Run Tryz.prog cx 109 uX (uJ n f s g nb N c R N pl q) (aT cx [(0,aR n f s),(1,aj m R2),(2,cU N pl)] (rl N m N)):=by
    intro s pl hs e
    induction e with
    | zero =>
      intro q hq c R hc
      have hd:decide ((q:Int)<(nb:Int))=false:=decide_eq_false (by omega)
      refine ⟨c,R,by omega,fun cx hcx=>?_⟩
      refine be Tryz.func109 hcx (LG n f s g nb N c R N pl q) ?_
      and_intros
      all_goals (first | exact zH | (exact hd) | (intros;simp [af];done) | (simp;done) | (simp;omega))
    | succ e ih =>
      intro q hq c R hc
      have hd:decide ((q:Int)<(nb:Int))=true:=decide_eq_true (by omega)
      have hb:=hok q (by omega)
      obtain ⟨m1,R1,i1,hr1⟩:=ih (q+1) (by omega) (c+1) (aZ c R (g q)) (by omega)
      obtain ⟨m2,R2,i2,hr2⟩:=ih (q+1) (by omega) c R (by omega)
      cases ht:(bif !(((pl (g q).1.toNat).1==(pl (g q).2.1.toNat).1)&&(((pl (g q).1.toNat).2.1==(pl (g q).2.1.toNat).2.1)&&true)) then (bif (q:Int)==0 then true else !(((g ((q:Int) - 1).toNat).1==(g q).1)&&(((g ((q:Int) - 1).toNat).2.1==(g q).2.1)&&true))) else false) with
      | true =>
        refine ⟨m1,R1,i1,fun cx hcx=>?_⟩
        refine cW hcx (Kk n f s g nb N c R N pl q) ?_ (hr1 cx hcx)
        and_intros
        all_goals (first | exact zH | (exact hd) | (exact ht) | (intros;simp [af];done) | (simp;done) | (simp;omega) | (intro h;simp at h;omega) | (intro i hi;by_cases h':i<c<;>simp [h',aZ,ay,bh,tg,bu,af]))
      | false =>
        refine ⟨m2,R2,i2,fun cx hcx=>?_⟩
        refine cW hcx (Nw n f s g nb N c R N pl q) ?_ (hr2 cx hcx)
        and_intros
        all_goals (first | exact zH | (exact hd) | (exact ht) | (intros;simp [af];done) | (simp;done) | (simp;omega) | (intro h;simp at h;omega))
  have l0:∀ e i,i+e=N→∀ (s:Nat×Int) (pl:Nat→ae),s.1≤n→∃ (s2:Nat×Int) (m:Nat) (R:Nat→aa) (pl2:Nat→ae),s2.1≤n∧m≤25 ∧
      ∀ cx:Cx,cx.n=1→Run Tryz.prog cx 109 zJ (Av n f s g nb N i pl i) (aT cx [(0,aR n f s2),(1,aj m R),(2,cU N pl2)] (rl N m N)):=by
    intro e
    induction e with
    | zero =>
      intro i hi s pl hs
      obtain rfl:i=N:=by omega
      have hd:decide ((i:Int)<(i:Int))=false:=decide_eq_false (by omega)
      obtain ⟨m,R,i1,hr⟩:=l1 s pl hs nb 0 (by omega) 0 (fun _=>(0,0,())) (Nat.le_refl _)
      refine ⟨s,m,R,pl,hs,i1,fun cx hcx=>?_⟩
      refine cW hcx (Mj n f s g nb i i pl i) ?_ (hr cx hcx)
      and_intros
      all_goals (first | exact zH | (exact hd) | (intro i hi;exact absurd hi (Nat.not_lt_zero _)) | (intros;simp [af];done) | (simp;done) | (simp;omega))
    | succ e ih =>
      intro i hi s pl hs
      have hd:decide ((i:Int)<(N:Int))=true:=decide_eq_true (by omega)
      obtain ⟨s1,x,h1,hx,c1⟩:=aq n f hn s hs 5 (by omega)
      obtain ⟨s2,y,h2,hy,c2⟩:=aq n f hn s1 h1 5 (by omega)
      obtain ⟨s3,m,R,pl2,h3,i1,hr⟩:=ih (i+1) (by omega) s2 (I4 i pl (x,y,())) h2
      refine ⟨s3,m,R,pl2,h3,i1,fun cx hcx=>?_⟩
      refine cW hcx (OF n f s s1 s2 g nb N i pl i x y) ?_ (hr cx hcx)
      and_intros
      all_goals (first | exact zH | (exact hd) | (exact c1) | (exact c2) | (intro i hi;exact absurd hi (Nat.not_lt_zero _)) | (intros;simp [af];done) | (simp;done) | (simp;omega) | (intro t ht;by_cases h':t<i<;>simp [h',I4,ay,bh,tg,bu,af]))
  obtain ⟨s2,m,R,pl,h1,h2,hr⟩:=l0 N 0 (by omega) s (fun _=>(0,0,())) hs
  refine ⟨s2,m,R,pl,h1,h2,?_⟩
  refine aW Tryz.func109 (fun c hc=>?_)
  refine a7 hc (Og n f s g nb N) ?_ (hr c hc)
  and_intros
  all_goals (first | exact zI | (intro i hi;exact absurd hi (Nat.not_lt_zero _)) | (intros;simp [af];done) | (simp;done) | (simp;omega))
theorem kz (n:Nat) (f:Nat→Int) (hn:fk n f) (s:Nat×Int) (hs:s.1≤n) :
    ∃ (s2:Nat×Int) (N m:Nat) (R:Nat→aa) (pl:Nat→ae),s2.1≤n∧(2≤N∧N≤8)∧m≤25 ∧
    Con Tryz.prog 81 1 [(0,aR n f s)] [.pt 3 0 0 0] [(0,aR n f s2),(1,aj m R),(2,cU N pl)] (rl N m N):=by
  obtain ⟨s1,x0,h1,hx0,c1⟩:=aq n f hn s hs 3 (by omega)
  by_cases e0:x0=0
  · have b0:(x0==0)=true:=by simp [e0]
    obtain ⟨s2,x,h2,hx,c2⟩:=aq n f hn s1 h1 5 (by omega)
    have hx2:=hx.2.1 (by omega)
    obtain ⟨x,rfl⟩:∃ t:Nat,x=(t:Int):=⟨x.toNat,by omega⟩
    obtain ⟨s3,k,h,h3,hk,hok,c3⟩:=iN n f hn s2 h2 (2+x) 7 (by omega)
    obtain ⟨s4,m,R,pl,h4,hm,c4⟩:=kq n f hn s3 h3 (2+x) (by omega) k h (by omega) hok
    rw [show ((2+x:Nat):Int)=2+(x:Int) by omega] at c3
    have c4:Con Tryz.prog 109 1 [(0,aR n f s3)] [.pt 3 0 0 0,.agg [.p (.int .i64 (2+(x:Int))),b4 h k]] [(0,aR n f s4),(1,aj m R),(2,cU (2+x) pl)] (rl (2+(x:Int)) m (2+x)):=by
      rw [← show ((2+x:Nat):Int)=2+(x:Int) by omega];exact c4
    refine ⟨s4,2+x,m,R,pl,h4,by omega,hm,?_⟩
    rw [show ((2+x:Nat):Int)=2+(x:Int) by omega]
    refine aW Tryz.func81 (fun c hc=>?_)
    refine be Tryz.func81 hc (NG n f s s1 s2 s3 s4 (x:Int) k h m R (2+x) pl x0) ?_
    and_intros
    iterate 2 all_goals (first | exact zI | (exact c1) | (exact c2) | (exact c3) | (exact c4) | (exact b0) | (intros;simp [af];done) | (simp;done) | (simp;omega) | simp only [af])
  · have b0:(x0==0)=false:=beq_eq_false_iff_ne.2 e0
    by_cases e1:x0=1
    · have b1:(x0==1)=true:=by simp [e1]
      obtain ⟨s2,x,h2,hx,c2⟩:=aq n f hn s1 h1 4 (by omega)
      have hx2:=hx.2.1 (by omega)
      obtain ⟨x,rfl⟩:∃ t:Nat,x=(t:Int):=⟨x.toNat,by omega⟩
      obtain ⟨s3,k,h,h3,hk,hok,c3⟩:=fM n f hn s2 h2 (2+x) (by omega)
      obtain ⟨s4,a,h4,ha,c4⟩:=aq n f hn s3 h3 (2+(x:Int)) (by omega)
      obtain ⟨s5,b,h5,hb,c5⟩:=aq n f hn s4 h4 (2+(x:Int)) (by omega)
      have c6:=fH (((2+x:Nat):Int),(k,h),()) (da (by show k≤_;omega)) a b
      have hk2:=An (((2+x:Nat):Int),(k,h),()) a b
      have hM:(ib (((2+x:Nat):Int),(k,h),()) a b).1=2+(x:Int):=by
        rw [← show ((2+x:Nat):Int)=2+(x:Int) by omega];unfold ib;split<;>rfl
      have hok2:=F6 (N:=2+x) a b hok
      rw [hM] at c6
      have hk3:(ib (((2+x:Nat):Int),(k,h),()) a b).2.1.1≤24:=by
        rcases hk2 with e | e
        · have e':(ib (((2+x:Nat):Int),(k,h),()) a b).2.1.1≤k:=e
          omega
        · exact e
      generalize (ib (((2+x:Nat):Int),(k,h),()) a b).2.1.1=k2 at c6 hk3 hok2
      generalize (ib (((2+x:Nat):Int),(k,h),()) a b).2.1.2=hh2 at c6 hok2
      generalize A0 (((2+x:Nat):Int),(k,h),()) a b=ok at c6
      obtain ⟨s6,m,R,pl,h6,hm,c7⟩:=kq n f hn s5 h5 (2+x) (by omega) k2 hh2 (by omega) hok2
      have c6:zE 57 [.agg [.p (.int .i64 (2+(x:Int))),b4 h k],.p (.int .i64 a),.p (.int .i64 b)] [(0,aj k2 hh2)] (.tup [cV (2+(x:Int)) k2 0,.p (.bool ok)]):=by
        rw [← show ((2+x:Nat):Int)=2+(x:Int) by omega] at c6 ⊢;exact c6
      have c7:Con Tryz.prog 109 1 [(0,aR n f s5)] [.pt 3 0 0 0,.agg [.p (.int .i64 (2+(x:Int))),b4 hh2 k2]] [(0,aR n f s6),(1,aj m R),(2,cU (2+x) pl)] (rl (2+(x:Int)) m (2+x)):=by
        rw [← show ((2+x:Nat):Int)=2+(x:Int) by omega];exact c7
      rw [show ((2+x:Nat):Int)=2+(x:Int) by omega] at c3
      refine ⟨s6,2+x,m,R,pl,h6,by omega,hm,?_⟩
      rw [show ((2+x:Nat):Int)=2+(x:Int) by omega]
      refine aW Tryz.func81 (fun c hc=>?_)
      refine bB Tryz.func81 hc (Nk n f s s1 s2 s3 s4 s5 s6 (x:Int) k h a b k2 hh2 ok m R (2+x) pl x0) ?_
      and_intros
      iterate 2 all_goals (first | exact zI | (exact c1) | (exact c2) | (exact c3) | (exact c4) | (exact c5) | (exact c6) | (exact c7) | (exact b0) | (exact b1) | (intros;simp [af];done) | (simp;done) | (simp;omega) | simp only [af])
    · have b1:(x0==1)=false:=beq_eq_false_iff_ne.2 e1
      obtain ⟨s2,x,h2,hx,c2⟩:=aq n f hn s1 h1 5 (by omega)
      have hx2:=hx.2.1 (by omega)
      obtain ⟨x,rfl⟩:∃ t:Nat,x=(t:Int):=⟨x.toNat,by omega⟩
      obtain ⟨s3,k,h,h3,hk,hok,c3⟩:=fM n f hn s2 h2 (2+x) (by omega)
      obtain ⟨s4,m,R,pl,h4,hm,c4⟩:=kq n f hn s3 h3 (2+x) (by omega) k h (by omega) hok
      rw [show ((2+x:Nat):Int)=2+(x:Int) by omega] at c3
      have c4:Con Tryz.prog 109 1 [(0,aR n f s3)] [.pt 3 0 0 0,.agg [.p (.int .i64 (2+(x:Int))),b4 h k]] [(0,aR n f s4),(1,aj m R),(2,cU (2+x) pl)] (rl (2+(x:Int)) m (2+x)):=by
        rw [← show ((2+x:Nat):Int)=2+(x:Int) by omega];exact c4
      refine ⟨s4,2+x,m,R,pl,h4,by omega,hm,?_⟩
      rw [show ((2+x:Nat):Int)=2+(x:Int) by omega]
      refine aW Tryz.func81 (fun c hc=>?_)
      refine be Tryz.func81 hc (Nj n f s s1 s2 s3 s4 (x:Int) k h m R (2+x) pl x0) ?_
      and_intros
      iterate 2 all_goals (first | exact zI | (exact c1) | (exact c2) | (exact c3) | (exact c4) | (exact b0) | (exact b1) | (intros;simp [af];done) | (simp;done) | (simp;omega) | simp only [af])
theorem vg (n:Nat) (f:Nat→Int) (hn:fk n f) (s:Nat×Int) (hs:s.1≤n) :
    ∃ (s2:Nat×Int) (N:Int) (m:Nat) (R:Nat→aa) (q o p:Nat) (pl:Nat→ae),s2.1≤n∧m≤25∧p≤8∧o+p≤q ∧
    Con Tryz.prog 45 1 [(0,aR n f s)] [.pt 3 0 0 0] [(0,aR n f s2),(1,aj m R),(2,cU q pl)] (BD N m o p 1 2):=by
  obtain ⟨s1,N,m,R,pl,h1,hN,hm,c1⟩:=kz n f hn s hs
  obtain ⟨s2,x,h2,hx,c2⟩:=aq n f hn s1 h1 14 (by omega)
  by_cases e0:x=0
  · have b0:(x==0)=true:=by simp [e0]
    obtain ⟨s3,y,h3,hy,c3⟩:=q7 n f hn s2 h2 [-1,5,9] (by simp)
    refine ⟨s3,N,m,R,N,0,N,Ji pl y,h3,hm,hN.2,by omega,?_⟩
    refine aW Tryz.func45 (fun c hc=>?_)
    refine be Tryz.func45 hc (KL n f s s1 s2 s3 N m R N pl x y) ?_
    and_intros
    iterate 2 all_goals (first | exact zI | (exact c1) | (exact c2) | (exact c3) | (exact b0) | (intros;simp [af];done) | (simp;done) | (simp;omega) | (intro i hi;by_cases h':i=0<;>simp [h',Ji,ay,bh,tg,bu,af];done) | simp only [af])
  · have b0:(x==0)=false:=beq_eq_false_iff_ne.2 e0
    by_cases e1:x=1
    · have b1:(x==1)=true:=by simp [e1]
      refine ⟨s2,N,m,R,N,1,N - 1,pl,h2,hm,by omega,by omega,?_⟩
      refine aW Tryz.func45 (fun c hc=>?_)
      refine bB Tryz.func45 hc (Oc n f s s1 s2 N m R N pl x) ?_
      and_intros
      iterate 2 all_goals (first | exact zI | (exact c1) | (exact c2) | (exact b0) | (exact b1) | (intros;simp [af];done) | (simp;done) | (simp;omega) | simp only [af])
    · have b1:(x==1)=false:=beq_eq_false_iff_ne.2 e1
      refine ⟨s2,N,m,R,N,0,N,pl,h2,hm,hN.2,by omega,?_⟩
      refine aW Tryz.func45 (fun c hc=>?_)
      refine be Tryz.func45 hc (KH n f s s1 s2 N m R N pl x) ?_
      and_intros
      iterate 2 all_goals (first | exact zI | (exact c1) | (exact c2) | (exact b0) | (exact b1) | (intros;simp [af];done) | (simp;done) | (simp;omega) | simp only [af])
theorem tP (n:Nat) (f:Nat→Int) (hn:fk n f):∃ (N:Int) (m:Nat) (R:Nat→aa) (q o p:Nat) (pl:Nat→ae),m≤25∧p≤8∧o+p≤q ∧
    zE 12 [yG n f] [(0,aj m R),(1,cU q pl)] (BD N m o p 0 1):=by
  obtain ⟨s,h0,c0⟩:=oH n f hn
  obtain ⟨s1,N,m,R,q,o,p,pl,h1,hm,hp,hq,c1⟩:=vg n f hn s h0
  refine ⟨N,m,R,q,o,p,pl,hm,hp,hq,?_⟩
  refine aW Tryz.func12 (fun c hc=>?_)
  refine be Tryz.func12 hc (Ov n f s s1 N m R q o p pl) ?_
  and_intros
  all_goals (first | exact zI | (exact c0) | (exact c1) | (intros;simp [af];done) | (simp;done))
theorem rp (n:Nat) (f:Nat→Int) (hn:fk n f):∃ v:ai,v.2.1.1≤25 ∧
    zE 5 [yG n f] [(0,aj v.2.1.1 v.2.1.2)] (cV v.1 v.2.1.1 0):=by
  obtain ⟨s,h0,c0⟩:=oH n f hn
  obtain ⟨s1,N,k,h,h1,hk,c1⟩:=xY n f hn s h0
  refine ⟨(N,(k,h),()),hk,?_⟩
  refine aW Tryz.func5 (fun c hc=>?_)
  refine be Tryz.func5 hc (NO n f s s1 N k h) ?_
  and_intros
  all_goals (first | exact zI | (exact c0) | (exact c1) | (intros;simp [af];done) | (simp;done))
end Go.Proofs.YtbdgmpfdlgnkkaaGreat.Mach
