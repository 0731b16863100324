/- What the law Tp needs, part 4 of 7: the abstract machine and the contracts of the functions. Conditions: as each theorem says. -/
import Derived.Test.YtbdgmpfdlgnkkaaGreatTpP3
set_option linter.unusedVariables false
set_option linter.unusedSimpArgs false
namespace Go.Proofs.YtbdgmpfdlgnkkaaGreat.Mach
open Go
def DG (N m:Nat) (F T Q:Nat→Int) (x:Int) (i:Nat):St :=
  ⟨[eR N m F T Q,.p (.int .i64 x),.pt 3 0 0 0,.p .any,.p .any,.p (.int .i64 (dQ T i x)),.p (.int .i64 i)]++List.replicate 17 ag,[(0,EQ N m F T Q)],1⟩
def GD (g:Nat→aa) (nb N k m:Nat) (F T Q:Nat→Int) (i:Nat):St :=
  ⟨[bi g nb N,.p (.int .i64 k),eR N m F T Q,.pt 2 0 0 0,.p .any,.pt 3 1 0 0,.p .any,.p (.int .i64 i)]++List.replicate 115 ag,[(0,lz g nb N),(1,EQ N m F T Q)],2⟩
def F3 (g:Nat→aa) (nb N k m:Nat) (F T Q:Nat→Int) (i:Nat):St :=
  ⟨[bi g nb N,.p (.int .i64 k),eR N m F T Q,.pt 2 0 0 0,.p .any,.pt 3 1 0 0,.p .any,.p .any,.p .any,.p (.int .i64 i)]++List.replicate 113 ag,[(0,lz g nb N),(1,EQ N m F T Q)],2⟩
def Ft (g:Nat→aa) (nb N k l m:Nat) (F T Q:Nat→Int) (i:Nat):St :=
  ⟨[bi g nb N,.p (.int .i64 k),.p (.int .i64 l),.pt 2 0 0 0,.p .any,.p .any,.pt 3 1 0 0,.p .any,.pt 3 2 0 0,.p .any,.p (.int .i64 i)]++List.replicate 32 ag,
   [(0,lz g nb N),(1,Bu),(2,Cc N m 3),(3,aY N F),(4,aY m T),(5,aY m Q)],6⟩
def Gf (g:Nat→aa) (nb:Nat) (T Q:Nat→Int) (i:Nat):Bool :=
  bif bif bif decide (Q i<0) then true else decide (Q i≥(nb:Int)) then true else bif decide ((i:Int)>0) then decide (Q ((i:Int) - 1).toNat≥Q i) else false then true
    else bif T i != (g (Q i).toNat).1 then T i != (g (Q i).toNat).2.1 else false
theorem LX (k l:Nat) :
    zS Tryz.f68 [rg 1,rm [(1,oc [] (jB true)),(5,oc [] (jB true))] 2] [jI k,jI l] [] [] (jB true) =
    some (zD [zE 58 [jI (k:Int),jI 1,jI 3] [] (jB true),(AG true),((true=true)→(ax (2*(k:Int)))),((true=true)→(au (2*(k:Int)))),((true=true)→(ax (2*(k:Int) - 1))),((true=true)→(au (2*(k:Int) - 1))),((true=true)→zE 58 [jI (l:Int),jI 0,jI (2*(k:Int) - 1)] [] (jB true)),((bif true then true else false)=true)] [0,1,2,3,1,4,5,1,1,6,1,7]):=by kernel_rfl
theorem M9 (k l:Nat) :
    zS Tryz.f79 [rg 1,rm [(1,oc [] (jB true))] 11] [jI k,jI l] [] [] (jB true) =
    some (zD (let A:Bool:=bif true then decide ((l:Int)≥0) else false;[zE 41 [jI (k:Int),jI 1,jI 3] [] (jB true),(AG true),(AG A),((A=true)→(ax (2*(k:Int)))),((A=true)→(au (2*(k:Int)))),((bif A then decide ((l:Int)<2*(k:Int)) else false)=true)]) [0,1,1,2,3,4,2,2,2,5]):=by kernel_rfl
theorem Lb (g:Nat→aa) (nb N k l m:Nat) (F T Q:Nat→Int) :
    zS Tryz.f64 [rg 3,rm [(1,oc [] (jB true)),(4,oc [] (jB true))] 2,.dec false,rm [(6,oc (bl N m F T Q) (bf N m 0))] 2] [bi g nb N,jI k,jI l] [576,577,578] (bl N m F T Q) (.tup [bf N m 0,jB true]) =
    some (zD [(NT 0 1),zE 23 [(ak N nb g)] [] (jB true),(AG (!!true)),(((!!true)=true)→zE 68 [jI (k:Int),jI (l:Int)] [] (jB true)),(((!true)=false)→((!!true)=true)),((bif !true then true else !true)=false),zE 99 [jI (N:Int),.p (.seq true 2 nb (aF g)),jI (k:Int),jI (l:Int)] (eb N F m T Q) (.agg [.ar 1 0 0 N,.ar 1 1 0 m,.ar 1 2 0 m]),((true=true)→(AN 1)),(AN 0),(AN N),(AN m),(true=true),(AN 1),(NL N N),(AA N (fun i=>[.p (.int .i64 (F i))])),(NL m m),(AA m (fun i=>[.p (.int .i64 (T i))])),(AA m (fun i=>[.p (.int .i64 (Q i))])),(AE N),(AE m)] [0,1,2,2,3,2,4,5,0,0,6,0,7,0,8,9,8,10,8,10,11,12,13,14,12,15,16,12,15,17,18,19,19]):=by kernel_rfl
theorem Ov (g:Nat→aa) (nb N k l m:Nat) (F T Q:Nat→Int) :
    zS Tryz.f77 [rg 2,rm [(3,oc (bl N m F T Q) (.tup [bf N m 0,jB true]))] 6,rg 2,.dec false,rg 4] [bi g nb N,jI k,jI l] [] [] (jI m) =
    some [(NT 0 1),zE 64 [(ak N nb g),jI (k:Int),jI (l:Int)] (eb N F m T Q) ((oW N m)),(NT 0 1),((true=true)→(AN 1)),((!true)=false),(NT 0 1),(AI ((m:Int)))]:=by kernel_rfl
theorem Ly (g:Nat→aa) (nb N k l m:Nat) (F T Q:Nat→Int) :
    zS Tryz.f15 [rg 2,rm [(3,oc (bl N m F T Q) (.tup [bf N m 0,jB true]))] 6,rg 2,.dec false,rg 4] [bi g nb N,jI k,jI l] [] [] (jI m) =
    some [(NT 0 1),zE 43 [(ak N nb g),jI (k:Int),jI (l:Int)] (eb N F m T Q) ((oW N m)),(NT 0 1),((true=true)→(AN 1)),((!true)=false),(NT 0 1),(AI ((m:Int)))]:=by kernel_rfl
theorem KU (N m:Nat) (F T Q:Nat→Int) (x:Int) :
    zT Tryz.f120 [rg 2,rg 1,rg 1,.head] [eR N m F T Q,jI x] [0] (DG N m F T Q x 0) =
    some (vl,zD [(AN N),(AP N (fun i=>[.int .i64 (F i)])),(AN m),(AP m (fun i=>[.int .i64 (T i)])),(AP m (fun i=>[.int .i64 (Q i)])),(AI x),(AN 0),((0:Int)=(dQ T 0 x)),((0:Int)=(↑0:Int)),((([gM N F,gM m T,gM m Q].length):Nat)=3),(NL 1 1)] [0,1,2,3,2,4,5,6,7,8,9,10,10,0,1,2,3,2,4]):=by kernel_rfl
theorem KJ (N m:Nat) (F T Q:Nat→Int) (x:Int) (i:Nat) :
    zM 0 [rg 5,.dec true,rg 7,.dec true,rg 3,rg 3,.head] vl (DG N m F T Q x i) [0] 1 (DG N m F T Q x (i+1)) =
    some (vl,zD [(NT 0 1),((decide ((i:Int)<(m:Int)))=true),(IL 0 (i:Int)),(IT (i:Int) (m:Int)),((T i==x)=true),(ax (dQ T i x+1)),(au (dQ T i x+1)),(ax ((i:Int)+1)),(au ((i:Int)+1)),(AN N),(AP N (fun i_1=>[.int .i64 (F i_1)])),(AN m),(AP m (fun i_1=>[.int .i64 (T i_1)])),(AP m (fun i_1=>[.int .i64 (Q i_1)])),(AI x),(AN 0),(((dQ T i x+1):Int)=(dQ T (i+1) x)),((((i:Int)+1):Int)=(↑(i+1):Int)),(AN 3),(NL 1 1)] [0,1,0,2,3,4,5,6,7,8,9,10,11,12,11,13,14,15,16,17,18,19,19,9,10,11,12,11,13]):=by kernel_rfl
theorem Mn (N m:Nat) (F T Q:Nat→Int) (x:Int) (i:Nat) :
    zM 0 [rg 5,.dec true,rg 7,.dec false,rg 3,.head] vl (DG N m F T Q x i) [0] 1 (DG N m F T Q x (i+1)) =
    some (vl,zD [(NT 0 1),((decide ((i:Int)<(m:Int)))=true),(IL 0 (i:Int)),(IT (i:Int) (m:Int)),((T i==x)=false),(ax ((i:Int)+1)),(au ((i:Int)+1)),(AN N),(AP N (fun i_1=>[.int .i64 (F i_1)])),(AN m),(AP m (fun i_1=>[.int .i64 (T i_1)])),(AP m (fun i_1=>[.int .i64 (Q i_1)])),(AI x),(AN 0),(((dQ T i x):Int)=(dQ T (i+1) x)),((((i:Int)+1):Int)=(↑(i+1):Int)),(AN 3),(NL 1 1)] [0,1,0,2,3,4,5,6,7,8,9,10,9,11,12,13,14,15,16,17,17,7,8,9,10,9,11]):=by kernel_rfl
theorem MV (N m:Nat) (F T Q:Nat→Int) (x:Int) (i:Nat) :
    zP Tryz.f120 0 [rg 5,.dec false,rg 2] vl (DG N m F T Q x i) [] 1 [] (jI (dQ T i x)) =
    some [(NT 0 1),((decide ((i:Int)<(m:Int)))=false),(AI ((dQ T i x)))]:=by kernel_rfl
theorem Mo (g:Nat→aa) (nb N k m:Nat) (F T Q:Nat→Int) :
    zT Tryz.f105 [rg 3,rm [(1,oc [] (jB true)),(3,oc [] (jB true))] 19,.dec false,rg 1,.head] [bi g nb N,jI k,eR N m F T Q] [0,32] (GD g nb N k m F T Q 0) =
    some (Bp,zD (let B:Bool:=bif !true then true else !true;let A:Bool:=bif B then true else (N:Int) != (N:Int);[(NT 0 1),zE 10 [(ak N nb g)] [] (jB true),(AG (!!true)),(((!!true)=true)→zE 41 [jI (k:Int),jI 1,jI 3] [] (jB true)),(((!true)=false)→((!!true)=true)),(AG (!B)),(((!B)=true)→(NT 0 1)),((B=false)→((!B)=true)),(AG (!A)),(((!A)=true)→(NT 0 1)),((A=false)→((!A)=true)),((bif A then true else (m:Int) != (m:Int))=false),(AI ((N:Int))),(AN nb),(AP nb (aF g)),(AI ((k:Int))),(AN N),(AP N (fun i=>[.int .i64 (F i)])),(AN m),(AP m (fun i=>[.int .i64 (T i)])),(AP m (fun i=>[.int .i64 (Q i)])),(AN 0),((0:Int)=(↑0:Int)),((([AV.p (PV.int IntKind.i64 (N:Int)),b4 g nb].length):Nat)=2),(NL 1 1),((([gM N F,gM m T,gM m Q].length):Nat)=3)]) [0,1,2,3,2,4,5,6,5,5,6,5,5,7,8,9,8,8,9,8,8,8,10,11,12,13,14,15,16,17,18,19,18,20,21,21,22,23,24,24,12,13,14,25,24,24,16,17,18,19,18,20]):=by kernel_rfl
theorem KF (g:Nat→aa) (nb N k m:Nat) (F T Q:Nat→Int) (i:Nat) :
    zM 0 [rg 5,.dec true,rg 6,rg 51,.dec false,rg 3,.head] Bp (GD g nb N k m F T Q i) [0,1] 1 (GD g nb N k m F T Q (i+1)) =
    some (Bp,zD (let C:Bool:=T i != (g (Q i).toNat).1;let D:Bool:=decide ((i:Int)>0);let E:Bool:=decide (Q (i:Int).toNat<0);let B:Bool:=bif E then true else decide (Q (i:Int).toNat≥(nb:Int));let A:Bool:=bif B then true else bif D then decide (Q ((i:Int) - 1).toNat≥Q (i:Int).toNat) else false;let G:Bool:=(!B)&&D;let H:Bool:=(!A)&&C;[(NT 0 1),((decide ((i:Int)<(m:Int)))=true),(IL 0 (i:Int)),(IT (i:Int) (m:Int)),(AG (!E)),(((!E)=true)→(NT 0 1)),((E=false)→((!E)=true)),(AG (!B)),(AG G),((G=true)→(NT 0 1)),((G=true)→(ax ((i:Int) - 1))),((G=true)→(au ((i:Int) - 1))),((G=true)→(IL 0 ((i:Int) - 1))),((G=true)→(IT ((i:Int) - 1) (m:Int))),(((!B)=true)→((D=true)→(G=true))),((B=false)→((!B)=true)),(AG (!A)),(((!A)=true)→(NT 0 1)),(((!A)=true)→(IL 0 (i:Int))),(((!A)=true)→(IT (i:Int) (m:Int))),(((!A)=true)→(IL 0 (Q i))),(((!A)=true)→(IT (Q i) (nb:Int))),(AG H),((H=true)→(NT 0 1)),((H=true)→(IL 0 (i:Int))),((H=true)→(IT (i:Int) (m:Int))),((H=true)→(IL 0 (Q i))),((H=true)→(IT (Q i) (nb:Int))),(((!A)=true)→((C=true)→(H=true))),((A=false)→((!A)=true)),((bif A then true else bif C then T i != (g (Q i).toNat).2.1 else false)=false),(ax ((i:Int)+1)),(au ((i:Int)+1)),(AI ((N:Int))),(AN nb),(AP nb (aF g)),(AI ((k:Int))),(AN N),(AP N (fun i_1=>[.int .i64 (F i_1)])),(AN m),(AP m (fun i_1=>[.int .i64 (T i_1)])),(AP m (fun i_1=>[.int .i64 (Q i_1)])),(AN 0),((((i:Int)+1):Int)=(↑(i+1):Int)),(AN 2),(NL 1 1),(AN 3)]) [0,1,0,2,3,4,5,4,4,4,6,7,7,8,9,8,10,11,8,8,12,13,8,8,8,7,14,15,16,17,16,16,18,19,16,16,17,16,16,20,21,16,16,16,16,16,22,23,22,22,24,25,22,22,23,22,22,26,27,22,22,22,22,16,28,29,30,31,32,33,34,35,36,37,38,39,40,39,41,42,42,43,44,45,45,33,34,35,46,45,45,37,38,39,40,39,41]):=by kernel_rfl
theorem Js (g:Nat→aa) (nb N k m:Nat) (F T Q:Nat→Int) (i:Nat) :
    zM 0 [rg 5,.dec false,rg 1,.head] Bp (GD g nb N k m F T Q i) [0,1] 1 (F3 g nb N k m F T Q 0) =
    some (Aa,zD [(NT 0 1),((decide ((i:Int)<(m:Int)))=false),(AI ((N:Int))),(AN nb),(AP nb (aF g)),(AI ((k:Int))),(AN N),(AP N (fun i_1=>[.int .i64 (F i_1)])),(AN m),(AP m (fun i_1=>[.int .i64 (T i_1)])),(AP m (fun i_1=>[.int .i64 (Q i_1)])),(AN 0),((0:Int)=(↑0:Int)),(AN 2),(NL 1 1),(AN 3)] [0,1,2,3,4,5,6,7,8,9,8,10,11,11,12,13,14,14,2,3,4,15,14,14,6,7,8,9,8,10]):=by kernel_rfl
theorem MO (g:Nat→aa) (nb N k m:Nat) (F T Q:Nat→Int) (i:Nat) :
    zM 0 [rg 4,.dec true,rm [(14,oc [] (jI (dQ T m i)))] 4,.dec false,rg 3,.head] Aa (F3 g nb N k m F T Q i) [0,1] 1 (F3 g nb N k m F T Q (i+1)) =
    some (Aa,zD (let A:Bool:=decide (F (i:Int).toNat<0);[(NT 0 1),((decide ((i:Int)<(N:Int)))=true),(IL 0 (i:Int)),(IT (i:Int) (N:Int)),(AG (!A)),(((!A)=true)→(NT 0 1)),(((!A)=true)→(IL 0 (i:Int))),(((!A)=true)→(IT (i:Int) (N:Int))),(((!A)=true)→zE 120 [.agg [.p (.seq true 1 N (fun i_1=>[.int .i64 (F i_1)])),.p (.seq true 1 m (fun i_1=>[.int .i64 (T i_1)])),.p (.seq true 1 m (fun i_1=>[.int .i64 (Q i_1)]))],jI (i:Int)] [] (jI (dQ T m (i:Int)))),(((!A)=true)→(ax (F i+dQ T m (i:Int)))),(((!A)=true)→(au (F i+dQ T m (i:Int)))),((A=false)→((!A)=true)),((bif A then true else F i+dQ T m (i:Int) != (k:Int))=false),(ax ((i:Int)+1)),(au ((i:Int)+1)),(AI ((N:Int))),(AN nb),(AP nb (aF g)),(AI ((k:Int))),(AN N),(AP N (fun i_1=>[.int .i64 (F i_1)])),(AN m),(AP m (fun i_1=>[.int .i64 (T i_1)])),(AP m (fun i_1=>[.int .i64 (Q i_1)])),(AN 0),((((i:Int)+1):Int)=(↑(i+1):Int)),(AN 2),(NL 1 1),(AN 3)]) [0,1,0,2,3,4,5,4,4,6,7,4,5,4,4,8,4,4,9,10,4,4,11,12,13,14,15,16,17,18,19,20,21,22,21,23,24,24,25,26,27,27,15,16,17,28,27,27,19,20,21,22,21,23]):=by kernel_rfl
theorem N6 (g:Nat→aa) (nb N k m:Nat) (F T Q:Nat→Int) (i:Nat) :
    zP Tryz.f105 0 [rg 4,.dec false,rg 1] Aa (F3 g nb N k m F T Q i) [] 1 [] (jB true) =
    some [(NT 0 1),((decide ((i:Int)<(N:Int)))=false),(true=true)]:=by kernel_rfl
theorem Me (g:Nat→aa) (nb N k l m e:Nat) (F T Q F1 T1:Nat→Int) :
    zS Tryz.f80 [rg 4,rm [(3,oc [] (jB true)),(4,oc [] (jB true))] 31,.dec false,rg 7,rm [(8,oc (bl N m F1 T1 Q) (.tup [bf N m 0,jB false]))] 6,rg 2,.dec true,rm [(1,oc (bl N m F T Q) (bf N m 0))] 2] [bi g nb N,jI k,jI l,eR N m F T Q,jI e] [2208,2209,2210] (bl N m F T Q) (.tup [bf N m 0,jB false]) =
    some (zD (let C:Bool:=decide ((m:Int)>0);let D:Bool:=bif !true then true else !true;let B:Bool:=bif D then true else decide ((e:Int)<0);let A:Bool:=bif B then true else decide ((e:Int)≥(nb:Int));let E:Bool:=(!A)&&C;[(NT 0 1),zE 105 [(ak N nb g),jI (k:Int),(lm N F m T Q)] [] (jB true),(AG (!!true)),(((!!true)=true)→zE 79 [jI (k:Int),jI (l:Int)] [] (jB true)),(((!true)=false)→((!!true)=true)),(AG (!D)),((D=false)→((!D)=true)),(AG (!B)),(((!B)=true)→(NT 0 1)),((B=false)→((!B)=true)),(AG (!A)),(((!A)=true)→(NT 0 1)),(AG E),((E=true)→(NT 0 1)),((E=true)→(ax ((m:Int) - 1))),((E=true)→(au ((m:Int) - 1))),((E=true)→(IL 0 ((m:Int) - 1))),((E=true)→(IT ((m:Int) - 1) (m:Int))),(((!A)=true)→((C=true)→(E=true))),((A=false)→((!A)=true)),((bif A then true else bif C then decide (Q ((m:Int) - 1).toNat≥(e:Int)) else false)=false),(IL 0 (e:Int)),(IT (e:Int) (nb:Int)),((true=true)→(AN 1)),(ax ((l:Int)+1)),(au ((l:Int)+1)),zE 107 [(ak N nb g),(lm N F m T Q),jI ((g e).1),jI ((g e).2.1),jI ((l:Int)+1)] (eb N F1 m T1 Q) ((vY N m)),((!false)=true),zE 106 [(lm N F m T Q)] (eb N F m T Q) (.agg [.ar 1 0 0 N,.ar 1 1 0 m,.ar 1 2 0 m]),(AN 0),(AN N),(AN m),(false=false),(AN 1),(NL N N),(AA N (fun i=>[.p (.int .i64 (F i))])),(NL m m),(AA m (fun i=>[.p (.int .i64 (T i))])),(AA m (fun i=>[.p (.int .i64 (Q i))])),(AE N),(AE m)]) [0,0,1,2,2,3,2,4,5,6,7,8,7,7,7,9,10,11,10,10,10,12,13,12,13,12,12,14,15,12,12,16,17,12,12,12,10,18,19,20,0,21,22,0,23,0,0,0,0,24,25,26,0,23,27,0,28,0,23,0,29,30,29,31,29,31,32,33,34,35,33,36,37,33,36,38,39,40,40]):=by kernel_rfl
theorem NE (g:Nat→aa) (nb N k l m e:Nat) (F T Q F1 T1:Nat→Int) :
    zS Tryz.f80 [rg 4,rm [(3,oc [] (jB true)),(4,oc [] (jB true))] 31,.dec false,rg 7,rm [(8,oc (bl N m F1 T1 Q) (.tup [bf N m 0,jB true]))] 6,rg 2,.dec false,rg 3,rg 7,.dec false,rg 11,rg 7,rg 7,rg 3] [bi g nb N,jI k,jI l,eR N m F T Q,jI e] [1888,2976,3200] (bl N (m+1) (fun s=>if s=(g e).1.toNat then F1 s - 1 else F1 s) (fun s=>if s<m then T1 s else (g e).1) (fun s=>if s<m then Q s else e)) (.tup [bf N (m+1) 0,jB true]) =
    some (zD (let C:Bool:=decide ((m:Int)>0);let D:Bool:=bif !true then true else !true;let B:Bool:=bif D then true else decide ((e:Int)<0);let A:Bool:=bif B then true else decide ((e:Int)≥(nb:Int));let E:Bool:=(!A)&&C;[(NT 0 1),zE 105 [(ak N nb g),jI (k:Int),(lm N F m T Q)] [] (jB true),(AG (!!true)),(((!!true)=true)→zE 79 [jI (k:Int),jI (l:Int)] [] (jB true)),(((!true)=false)→((!!true)=true)),(AG (!D)),((D=false)→((!D)=true)),(AG (!B)),(((!B)=true)→(NT 0 1)),((B=false)→((!B)=true)),(AG (!A)),(((!A)=true)→(NT 0 1)),(AG E),((E=true)→(NT 0 1)),((E=true)→(ax ((m:Int) - 1))),((E=true)→(au ((m:Int) - 1))),((E=true)→(IL 0 ((m:Int) - 1))),((E=true)→(IT ((m:Int) - 1) (m:Int))),(((!A)=true)→((C=true)→(E=true))),((A=false)→((!A)=true)),((bif A then true else bif C then decide (Q ((m:Int) - 1).toNat≥(e:Int)) else false)=false),(IL 0 (e:Int)),(IT (e:Int) (nb:Int)),((true=true)→(AN 1)),(ax ((l:Int)+1)),(au ((l:Int)+1)),zE 107 [(ak N nb g),(lm N F m T Q),jI ((g e).1),jI ((g e).2.1),jI ((l:Int)+1)] (eb N F1 m T1 Q) ((oW N m)),((!true)=false),(IL 0 ((g e).1)),(IT ((g e).1) (N:Int)),(NT ((g e).1.toNat) N),((F1 (g e).1.toNat==0)=false),(ax (F1 (g e).1.toNat - 1)),(au (F1 (g e).1.toNat - 1)),((false=true)→((N:Nat)=1)),(NL 1 1),(NL m m),(NL ((m+1)*8) 140737488355328),(NL (m+1) 9223372036854775807),(AN 0),(AN N),(AN ((m+1))),(true=true),(AN 1),(NL N N),(CV [(64,⟨true,3,1,(fun i_1=>[.ar 1 1888 0 N,.ar 1 2976 0 (m+1),.ar 1 3200 0 (m+1)])⟩),(2016,⟨true,3,1,(fun i_1=>[.ar 1 1888 0 N,.ar 1 2976 0 (m+1),.ar 1 3200 0 (m+1)])⟩),(3200,⟨false,1,(m+1),(fun i_1=>(if (i_1<m) then [.p (.int .i64 (Q i_1))] else [.p (.int .i64 (e:Int))]))⟩),(3168,⟨false,1,1,(fun i_1=>[.p (.int .i64 (e:Int))])⟩),(2976,⟨false,1,(m+1),(fun i_1=>(if (i_1<m) then [.p (.int .i64 (T1 i_1))] else [.p (.int .i64 ((g e).1))]))⟩),(2944,⟨false,1,1,(fun i_1=>[.p (.int .i64 ((g e).1))])⟩),(1888,⟨false,1,N,(fun i_1=>(if (i_1=(g e).1.toNat) then [.p (.int .i64 (F1 (g e).1.toNat - 1))] else [.p (.int .i64 (F1 i_1))]))⟩),(1568,⟨true,2,1,(fun i_1=>[.p (.int .i64 ((g e).1)),.p (.int .i64 ((g e).2.1))])⟩),(32,⟨true,3,1,(fun i_1=>[.p (.seq true 1 N (fun i_2=>[.int .i64 (F i_2)])),.p (.seq true 1 m (fun i_2=>[.int .i64 (T i_2)])),.p (.seq true 1 m (fun i_2=>[.int .i64 (Q i_2)]))])⟩),(0,⟨true,2,1,(fun i_1=>[.p (.int .i64 (N:Int)),.p (.seq true 2 nb (aF g))])⟩)] [1888,2976,3200] 1 N (fun i=>if (i=(g e).1.toNat) then [.p (.int .i64 (F1 (g e).1.toNat - 1))] else [.p (.int .i64 (F1 i))]) (fun i=>[.p (.int .i64 (if i=(g e).1.toNat then F1 i - 1 else F1 i))])),(NL (m+1) (m+1)),(CV [(64,⟨true,3,1,(fun i_1=>[.ar 1 1888 0 N,.ar 1 2976 0 (m+1),.ar 1 3200 0 (m+1)])⟩),(2016,⟨true,3,1,(fun i_1=>[.ar 1 1888 0 N,.ar 1 2976 0 (m+1),.ar 1 3200 0 (m+1)])⟩),(3200,⟨false,1,(m+1),(fun i_1=>(if (i_1<m) then [.p (.int .i64 (Q i_1))] else [.p (.int .i64 (e:Int))]))⟩),(3168,⟨false,1,1,(fun i_1=>[.p (.int .i64 (e:Int))])⟩),(2976,⟨false,1,(m+1),(fun i_1=>(if (i_1<m) then [.p (.int .i64 (T1 i_1))] else [.p (.int .i64 ((g e).1))]))⟩),(2944,⟨false,1,1,(fun i_1=>[.p (.int .i64 ((g e).1))])⟩),(1888,⟨false,1,N,(fun i_1=>(if (i_1=(g e).1.toNat) then [.p (.int .i64 (F1 (g e).1.toNat - 1))] else [.p (.int .i64 (F1 i_1))]))⟩),(1568,⟨true,2,1,(fun i_1=>[.p (.int .i64 ((g e).1)),.p (.int .i64 ((g e).2.1))])⟩),(32,⟨true,3,1,(fun i_1=>[.p (.seq true 1 N (fun i_2=>[.int .i64 (F i_2)])),.p (.seq true 1 m (fun i_2=>[.int .i64 (T i_2)])),.p (.seq true 1 m (fun i_2=>[.int .i64 (Q i_2)]))])⟩),(0,⟨true,2,1,(fun i_1=>[.p (.int .i64 (N:Int)),.p (.seq true 2 nb (aF g))])⟩)] [1888,2976,3200] 1 (m+1) (fun i=>if (i<m) then [.p (.int .i64 (T1 i))] else [.p (.int .i64 ((g e).1))]) (fun i=>[.p (.int .i64 (if i<m then T1 i else (g e).1))])),(CV [(64,⟨true,3,1,(fun i_1=>[.ar 1 1888 0 N,.ar 1 2976 0 (m+1),.ar 1 3200 0 (m+1)])⟩),(2016,⟨true,3,1,(fun i_1=>[.ar 1 1888 0 N,.ar 1 2976 0 (m+1),.ar 1 3200 0 (m+1)])⟩),(3200,⟨false,1,(m+1),(fun i_1=>(if (i_1<m) then [.p (.int .i64 (Q i_1))] else [.p (.int .i64 (e:Int))]))⟩),(3168,⟨false,1,1,(fun i_1=>[.p (.int .i64 (e:Int))])⟩),(2976,⟨false,1,(m+1),(fun i_1=>(if (i_1<m) then [.p (.int .i64 (T1 i_1))] else [.p (.int .i64 ((g e).1))]))⟩),(2944,⟨false,1,1,(fun i_1=>[.p (.int .i64 ((g e).1))])⟩),(1888,⟨false,1,N,(fun i_1=>(if (i_1=(g e).1.toNat) then [.p (.int .i64 (F1 (g e).1.toNat - 1))] else [.p (.int .i64 (F1 i_1))]))⟩),(1568,⟨true,2,1,(fun i_1=>[.p (.int .i64 ((g e).1)),.p (.int .i64 ((g e).2.1))])⟩),(32,⟨true,3,1,(fun i_1=>[.p (.seq true 1 N (fun i_2=>[.int .i64 (F i_2)])),.p (.seq true 1 m (fun i_2=>[.int .i64 (T i_2)])),.p (.seq true 1 m (fun i_2=>[.int .i64 (Q i_2)]))])⟩),(0,⟨true,2,1,(fun i_1=>[.p (.int .i64 (N:Int)),.p (.seq true 2 nb (aF g))])⟩)] [1888,2976,3200] 1 (m+1) (fun i=>if (i<m) then [.p (.int .i64 (Q i))] else [.p (.int .i64 (e:Int))]) (fun i=>[.p (.int .i64 (if i<m then Q i else (e:Int)))])),(AE N),(AE ((m+1)))]) [0,0,1,2,2,3,2,4,5,6,7,8,7,7,7,9,10,11,10,10,10,12,13,12,13,12,12,14,15,12,12,16,17,12,12,12,10,18,19,20,0,21,22,0,23,0,0,0,0,24,25,26,0,23,27,0,0,0,28,29,30,31,0,0,28,29,30,32,33,28,29,30,34,0,35,36,37,38,0,23,0,35,36,37,38,0,23,0,0,23,0,39,40,39,41,39,41,42,43,44,45,43,46,47,43,46,48,49,50,50]):=by kernel_rfl
theorem KW (g:Nat→aa) (nb N k l m e:Nat) (F T Q F1 T1:Nat→Int) :
    zS Tryz.f80 [rg 4,rm [(3,oc [] (jB true)),(4,oc [] (jB true))] 31,.dec false,rg 7,rm [(8,oc (bl N m F1 T1 Q) (.tup [bf N m 0,jB true]))] 6,rg 2,.dec false,rg 3,rg 7,.dec true,rg 3,rg 11,rg 7,rg 7,rg 3] [bi g nb N,jI k,jI l,eR N m F T Q,jI e] [1888,3072,3296] (bl N (m+1) (fun s=>if s=(g e).2.1.toNat then F1 s - 1 else F1 s) (fun s=>if s<m then T1 s else (g e).2.1) (fun s=>if s<m then Q s else e)) (.tup [bf N (m+1) 0,jB true]) =
    some (zD (let C:Bool:=decide ((m:Int)>0);let D:Bool:=bif !true then true else !true;let B:Bool:=bif D then true else decide ((e:Int)<0);let A:Bool:=bif B then true else decide ((e:Int)≥(nb:Int));let E:Bool:=(!A)&&C;[(NT 0 1),zE 105 [(ak N nb g),jI (k:Int),(lm N F m T Q)] [] (jB true),(AG (!!true)),(((!!true)=true)→zE 79 [jI (k:Int),jI (l:Int)] [] (jB true)),(((!true)=false)→((!!true)=true)),(AG (!D)),((D=false)→((!D)=true)),(AG (!B)),(((!B)=true)→(NT 0 1)),((B=false)→((!B)=true)),(AG (!A)),(((!A)=true)→(NT 0 1)),(AG E),((E=true)→(NT 0 1)),((E=true)→(ax ((m:Int) - 1))),((E=true)→(au ((m:Int) - 1))),((E=true)→(IL 0 ((m:Int) - 1))),((E=true)→(IT ((m:Int) - 1) (m:Int))),(((!A)=true)→((C=true)→(E=true))),((A=false)→((!A)=true)),((bif A then true else bif C then decide (Q ((m:Int) - 1).toNat≥(e:Int)) else false)=false),(IL 0 (e:Int)),(IT (e:Int) (nb:Int)),((true=true)→(AN 1)),(ax ((l:Int)+1)),(au ((l:Int)+1)),zE 107 [(ak N nb g),(lm N F m T Q),jI ((g e).1),jI ((g e).2.1),jI ((l:Int)+1)] (eb N F1 m T1 Q) ((oW N m)),((!true)=false),(IL 0 ((g e).1)),(IT ((g e).1) (N:Int)),(NT ((g e).1.toNat) N),((F1 (g e).1.toNat==0)=true),(IL 0 ((g e).2.1)),(IT ((g e).2.1) (N:Int)),(NT ((g e).2.1.toNat) N),(ax (F1 (g e).2.1.toNat - 1)),(au (F1 (g e).2.1.toNat - 1)),((false=true)→((N:Nat)=1)),(NL 1 1),(NL m m),(NL ((m+1)*8) 140737488355328),(NL (m+1) 9223372036854775807),(AN 0),(AN N),(AN ((m+1))),(true=true),(AN 1),(NL N N),(CV [(64,⟨true,3,1,(fun i_1=>[.ar 1 1888 0 N,.ar 1 3072 0 (m+1),.ar 1 3296 0 (m+1)])⟩),(2016,⟨true,3,1,(fun i_1=>[.ar 1 1888 0 N,.ar 1 3072 0 (m+1),.ar 1 3296 0 (m+1)])⟩),(3296,⟨false,1,(m+1),(fun i_1=>(if (i_1<m) then [.p (.int .i64 (Q i_1))] else [.p (.int .i64 (e:Int))]))⟩),(3264,⟨false,1,1,(fun i_1=>[.p (.int .i64 (e:Int))])⟩),(3072,⟨false,1,(m+1),(fun i_1=>(if (i_1<m) then [.p (.int .i64 (T1 i_1))] else [.p (.int .i64 ((g e).2.1))]))⟩),(3040,⟨false,1,1,(fun i_1=>[.p (.int .i64 ((g e).2.1))])⟩),(1888,⟨false,1,N,(fun i_1=>(if (i_1=(g e).2.1.toNat) then [.p (.int .i64 (F1 (g e).2.1.toNat - 1))] else [.p (.int .i64 (F1 i_1))]))⟩),(1568,⟨true,2,1,(fun i_1=>[.p (.int .i64 ((g e).1)),.p (.int .i64 ((g e).2.1))])⟩),(32,⟨true,3,1,(fun i_1=>[.p (.seq true 1 N (fun i_2=>[.int .i64 (F i_2)])),.p (.seq true 1 m (fun i_2=>[.int .i64 (T i_2)])),.p (.seq true 1 m (fun i_2=>[.int .i64 (Q i_2)]))])⟩),(0,⟨true,2,1,(fun i_1=>[.p (.int .i64 (N:Int)),.p (.seq true 2 nb (aF g))])⟩)] [1888,3072,3296] 1 N (fun i=>if (i=(g e).2.1.toNat) then [.p (.int .i64 (F1 (g e).2.1.toNat - 1))] else [.p (.int .i64 (F1 i))]) (fun i=>[.p (.int .i64 (if i=(g e).2.1.toNat then F1 i - 1 else F1 i))])),(NL (m+1) (m+1)),(CV [(64,⟨true,3,1,(fun i_1=>[.ar 1 1888 0 N,.ar 1 3072 0 (m+1),.ar 1 3296 0 (m+1)])⟩),(2016,⟨true,3,1,(fun i_1=>[.ar 1 1888 0 N,.ar 1 3072 0 (m+1),.ar 1 3296 0 (m+1)])⟩),(3296,⟨false,1,(m+1),(fun i_1=>(if (i_1<m) then [.p (.int .i64 (Q i_1))] else [.p (.int .i64 (e:Int))]))⟩),(3264,⟨false,1,1,(fun i_1=>[.p (.int .i64 (e:Int))])⟩),(3072,⟨false,1,(m+1),(fun i_1=>(if (i_1<m) then [.p (.int .i64 (T1 i_1))] else [.p (.int .i64 ((g e).2.1))]))⟩),(3040,⟨false,1,1,(fun i_1=>[.p (.int .i64 ((g e).2.1))])⟩),(1888,⟨false,1,N,(fun i_1=>(if (i_1=(g e).2.1.toNat) then [.p (.int .i64 (F1 (g e).2.1.toNat - 1))] else [.p (.int .i64 (F1 i_1))]))⟩),(1568,⟨true,2,1,(fun i_1=>[.p (.int .i64 ((g e).1)),.p (.int .i64 ((g e).2.1))])⟩),(32,⟨true,3,1,(fun i_1=>[.p (.seq true 1 N (fun i_2=>[.int .i64 (F i_2)])),.p (.seq true 1 m (fun i_2=>[.int .i64 (T i_2)])),.p (.seq true 1 m (fun i_2=>[.int .i64 (Q i_2)]))])⟩),(0,⟨true,2,1,(fun i_1=>[.p (.int .i64 (N:Int)),.p (.seq true 2 nb (aF g))])⟩)] [1888,3072,3296] 1 (m+1) (fun i=>if (i<m) then [.p (.int .i64 (T1 i))] else [.p (.int .i64 ((g e).2.1))]) (fun i=>[.p (.int .i64 (if i<m then T1 i else (g e).2.1))])),(CV [(64,⟨true,3,1,(fun i_1=>[.ar 1 1888 0 N,.ar 1 3072 0 (m+1),.ar 1 3296 0 (m+1)])⟩),(2016,⟨true,3,1,(fun i_1=>[.ar 1 1888 0 N,.ar 1 3072 0 (m+1),.ar 1 3296 0 (m+1)])⟩),(3296,⟨false,1,(m+1),(fun i_1=>(if (i_1<m) then [.p (.int .i64 (Q i_1))] else [.p (.int .i64 (e:Int))]))⟩),(3264,⟨false,1,1,(fun i_1=>[.p (.int .i64 (e:Int))])⟩),(3072,⟨false,1,(m+1),(fun i_1=>(if (i_1<m) then [.p (.int .i64 (T1 i_1))] else [.p (.int .i64 ((g e).2.1))]))⟩),(3040,⟨false,1,1,(fun i_1=>[.p (.int .i64 ((g e).2.1))])⟩),(1888,⟨false,1,N,(fun i_1=>(if (i_1=(g e).2.1.toNat) then [.p (.int .i64 (F1 (g e).2.1.toNat - 1))] else [.p (.int .i64 (F1 i_1))]))⟩),(1568,⟨true,2,1,(fun i_1=>[.p (.int .i64 ((g e).1)),.p (.int .i64 ((g e).2.1))])⟩),(32,⟨true,3,1,(fun i_1=>[.p (.seq true 1 N (fun i_2=>[.int .i64 (F i_2)])),.p (.seq true 1 m (fun i_2=>[.int .i64 (T i_2)])),.p (.seq true 1 m (fun i_2=>[.int .i64 (Q i_2)]))])⟩),(0,⟨true,2,1,(fun i_1=>[.p (.int .i64 (N:Int)),.p (.seq true 2 nb (aF g))])⟩)] [1888,3072,3296] 1 (m+1) (fun i=>if (i<m) then [.p (.int .i64 (Q i))] else [.p (.int .i64 (e:Int))]) (fun i=>[.p (.int .i64 (if i<m then Q i else (e:Int)))])),(AE N),(AE ((m+1)))]) [0,0,1,2,2,3,2,4,5,6,7,8,7,7,7,9,10,11,10,10,10,12,13,12,13,12,12,14,15,12,12,16,17,12,12,12,10,18,19,20,0,21,22,0,23,0,0,0,0,24,25,26,0,23,27,0,0,0,28,29,30,31,0,0,0,32,33,34,35,36,32,33,34,37,0,38,39,40,41,0,23,0,38,39,40,41,0,23,0,0,23,0,42,43,42,44,42,44,45,46,47,48,46,49,50,46,49,51,52,53,53]):=by kernel_rfl
theorem N5 (g:Nat→aa) (nb N k l:Nat) :
    zT Tryz.f43 [rg 3,rm [(2,oc (bl N 0 (fun _=>k) (fun _=>0) (fun _=>0)) (.tup [bf N 0 0,jB true]))] 6,rm [(5,oc [] (jB true))] 2,.dec false,rg 1,.head] [bi g nb N,jI k,jI l] [0,32,288,160,161,162] (Ft g nb N k l 0 (fun _=>k) (fun _=>0) (fun _=>0) 0) =
    some (Bq,zD [(NT 0 1),zE 78 [(ak N nb g),jI (k:Int)] [(0,⟨false,1,N,(fun i=>[.p (.int .i64 (k:Int))])⟩),(1,⟨false,1,0,(fun i=>[.p (.int .i64 0)])⟩),(2,⟨false,1,0,(fun i=>[.p (.int .i64 0)])⟩)] (.tup [.agg [.ar 1 0 0 N,.ar 1 1 0 0,.ar 1 2 0 0],jB true]),((true=true)→(AN 1)),(AG (!!true)),(((!!true)=true)→zE 79 [jI (k:Int),jI (l:Int)] [] (jB true)),(((!true)=false)→((!!true)=true)),((bif !true then true else !true)=false),(AI ((N:Int))),(AN nb),(AP nb (aF g)),(AI ((k:Int))),(AI ((l:Int))),(AN 0),((0:Int)=(↑0:Int)),((([AV.p (PV.int IntKind.i64 (N:Int)),b4 g nb].length):Nat)=2),(NL 1 1),((((List.map (fun v=>AV.p (bZ v)) [Value.slice none 0 0,Value.slice none 0 0,Value.slice none 0 0]).length):Nat)=3),(AN N),(AN 1),(NL N N),(AA N (fun i=>[.p (.int .i64 (k:Int))])),(NL 0 0),(AA 0 (fun i=>[.p (.int .i64 0)]))] [0,1,0,2,3,3,4,3,5,6,7,8,9,10,11,12,12,12,13,14,15,15,7,8,9,16,15,15,16,15,15,12,17,12,12,12,12,18,19,20,18,21,22,18,21,22]):=by kernel_rfl
theorem JT (g:Nat→aa) (nb N k l m m':Nat) (F T Q F' T' Q':Nat→Int) (i:Nat) (r:Bool) :
    zM 0 [rg 5,.dec true,rm [(5,oc (bl N m' F' T' Q') (.tup [bf N m' 0,jB r]))] 4,rg 3,.head] Bq (Ft g nb N k l m F T Q i) [0,1,2,326,327,328] 1 (Ft g nb N k l m' F' T' Q' (i+1)) =
    some (Bq,zD [(NT 0 1),((decide ((i:Int)<(nb:Int)))=true),(AN 1),(NL N N),(NL m m),zE 80 [(za N nb g),jI (k:Int),jI (l:Int),.agg [.p (.seq true 1 N (fun i_1=>[.int .i64 (F i_1)])),.p (.seq true 1 m (fun i_1=>[.int .i64 (T i_1)])),.p (.seq true 1 m (fun i_1=>[.int .i64 (Q i_1)]))],jI (i:Int)] [(0,⟨false,1,N,(fun i_1=>[.p (.int .i64 (F' i_1))])⟩),(1,⟨false,1,m',(fun i_1=>[.p (.int .i64 (T' i_1))])⟩),(2,⟨false,1,m',(fun i_1=>[.p (.int .i64 (Q' i_1))])⟩)] (.tup [.agg [.ar 1 0 0 N,.ar 1 1 0 m',.ar 1 2 0 m'],jB r]),((true=true)→(AN 1)),(ax ((i:Int)+1)),(au ((i:Int)+1)),(AI ((N:Int))),(AN nb),(AP nb (aF g)),(AI ((k:Int))),(AI ((l:Int))),(AN 0),((((i:Int)+1):Int)=(↑(i+1):Int)),(AN 2),(NL 1 1),(AN 3),(AN N),(AN (m')),(AA N (fun i_1=>[.p (.int .i64 (F' i_1))])),(NL (m') (m')),(AA (m') (fun i_1=>[.p (.int .i64 (T' i_1))])),(AA (m') (fun i_1=>[.p (.int .i64 (Q' i_1))]))] [0,1,0,0,2,3,2,4,2,4,5,0,6,7,8,9,10,11,12,13,14,14,14,15,16,17,17,9,10,11,18,17,17,18,17,17,14,19,14,20,14,20,2,3,21,2,22,23,2,22,24]):=by kernel_rfl
theorem KS (g:Nat→aa) (nb N k l m:Nat) (F T Q:Nat→Int) (i:Nat) :
    zP Tryz.f43 0 [rg 5,.dec false,rg 3] Bq (Ft g nb N k l m F T Q i) [3,4,5] 1 (bl N m F T Q) (.tup [bf N m 0,jB true]) =
    some (zD [(NT 0 1),((decide ((i:Int)<(nb:Int)))=false),((true=true)→(AN 1)),(AN 0),(AN N),(AN m),(true=true),(AN 1),(NL N N),(AA N (fun i_1=>[.p (.int .i64 (F i_1))])),(NL m m),(AA m (fun i_1=>[.p (.int .i64 (T i_1))])),(AA m (fun i_1=>[.p (.int .i64 (Q i_1))])),(AE N),(AE m)] [0,1,0,0,2,0,3,4,3,5,3,5,6,7,8,9,7,10,11,7,10,12,13,14,14]):=by kernel_rfl
theorem dr (k l:Nat) (hk:1≤k∧k≤3) (hl:l+1≤2*k):zE 68 [.p (.int .i64 k),.p (.int .i64 l)] [] (.p (.bool true)):=by
  have h1:=bp k 1 3
  rw [show bC k 1 3=true by simp [bC];omega] at h1
  have h2:=bp l 0 (2*(k:Int) - 1)
  rw [show bC l 0 (2*(k:Int) - 1)=true by simp [bC];omega] at h2
  refine aW Tryz.func68 (fun c hc=>?_)
  refine bz Tryz.func68 hc (LX k l) ?_
  and_intros
  all_goals (first | exact zI | (exact h1) | (intros;exact h2) | (intros;omega) | (simp;done))
theorem iR (k l:Nat) (hk:1≤k∧k≤3) (hl:l+1≤2*k):zE 79 [.p (.int .i64 k),.p (.int .i64 l)] [] (.p (.bool true)):=by
  have h1:=dY k 1 3
  rw [show bC k 1 3=true by simp [bC];omega] at h1
  refine aW Tryz.func79 (fun c hc=>?_)
  refine bz Tryz.func79 hc (M9 k l) ?_
  and_intros
  all_goals (first | exact zI | (exact h1) | (intros;omega) | (simp;omega))
def Cp (Q:Nat→Int) (m:Nat):Prop:=∀ j,j<m→0≤Q j
theorem eX {N nb:Nat} {g:Nat→aa} (hg:ah ((N:Int),(nb,g),())=true) (k l:Nat) (hk:1≤k∧k≤3) (hl:l+1≤2*k) :
    ∃ m F T Q,zE 64 [bi g nb N,.p (.int .i64 k),.p (.int .i64 l)] (bl N m F T Q) (.tup [bf N m 0,.p (.bool true)])∧m≤24∧Cp Q m∧qL Q m=aK N k l g nb:=by
  obtain ⟨hN,hnb,hok⟩:=aB hg
  have hsm:cP a6 ((N:Int),(nb,g),()):=⟨by simp [cP,j0],⟨by show nb≤1048576;omega,fun i hi=>by simp [cP,j0]⟩,True.intro⟩
  have hcg:=aQ ((N:Int),(nb,g),()) hsm
  rw [hg] at hcg
  have hr:=dr k l hk hl
  obtain ⟨m,F,T,Q,hc1,hp,hq⟩:=sh (N:=N) (k:=k) (l:=l) hok (by omega) (by omega) (by omega) (by omega)
  have hm:m≤24:=by
    have:=dc N k l g nb
    rw [← hq,bE] at this;omega
  refine ⟨m,F,T,Q,?_,hm,fun j hj=>(hp.q j hj).1,hq⟩
  refine aW Tryz.func64 (fun c hc=>?_)
  refine bz Tryz.func64 hc (Lb g nb N k l m F T Q) ?_
  and_intros
  all_goals (first | exact zH | (exact hcg) | (intros;exact hr) | (exact hc1) | (simp;done) | (intro i hi;simp [af]))
theorem jT {N nb:Nat} {g:Nat→aa} (hg:ah ((N:Int),(nb,g),())=true) (k l:Nat) (hk:1≤k∧k≤3) (hl:l+1≤2*k) :
    zE 77 [bi g nb N,.p (.int .i64 k),.p (.int .i64 l)] [] (.p (.int .i64 ((aK N k l g nb).length:Nat))):=by
  obtain ⟨m,F,T,Q,hrun,hm,hn,hq⟩:=eX hg k l hk hl
  rw [← hq,bE]
  refine aW Tryz.func77 (fun c hc=>?_)
  refine be Tryz.func77 hc (Ov g nb N k l m F T Q) ?_
  and_intros
  all_goals (first | exact zI | (exact hrun) | (simp;done) | (intro i hi;simp [af]))
theorem uf (N m:Nat) (F T Q:Nat→Int) (x:Int) (hm:m≤1048576):zE 120 [eR N m F T Q,.p (.int .i64 x)] [] (.p (.int .i64 (dQ T m x))):=by
  have hle:∀ i,0≤dQ T i x∧dQ T i x≤i:=by
    intro i
    induction i with
    | zero=>simp [dQ]
    | succ i ih=>simp only [dQ];split<;>omega
  refine aW Tryz.func120 (fun c hc=>?_)
  have lp:∀ d i,i+d=m→zR c 120 vl (DG N m F T Q x i) (aS c [] (.p (.int .i64 (dQ T m x)))):=by
    intro d
    induction d with
    | zero =>
      intro i hi
      have hi':i=m:=by omega
      have hd:decide ((i:Int)<(m:Int))=false:=by simp;omega
      rw [show dQ T m x=dQ T i x by rw [hi']]
      refine be Tryz.func120 hc (MV N m F T Q x i) ?_
      and_intros
      all_goals (first | exact zN | (exact hd) | (simp;done))
    | succ d ih =>
      intro i hi
      have hd:decide ((i:Int)<(m:Int))=true:=by simp;omega
      have hl:=hle i
      by_cases h:T i=x
      · have hb:(T i==x)=true:=by simp [h]
        refine a9 hc (KJ N m F T Q x i) ?_ (ih (i+1) (by omega))
        and_intros
        all_goals (first | exact zN | (exact hb) | (simp only [dQ,h,if_true];done) | (simp only [dQ,h,if_true];omega) | (intro j hj;simp [af]))
      · have hb:(T i==x)=false:=by simp [h]
        refine a9 hc (Mn N m F T Q x i) ?_ (ih (i+1) (by omega))
        and_intros
        all_goals (first | exact zN | (exact hb) | (simp only [dQ,h,if_false];omega) | (intro j hj;simp [af]))
  refine a9 hc (KU N m F T Q x) ?_ (lp m 0 (by omega))
  and_intros
  all_goals (first | exact zN | (intro j hj;simp [af]))
def G5 (Q:Nat→Int) (m:Nat):Prop:=∀ j,j+1<m→Q j<Q (j+1)
theorem Ek {N k nb m:Nat} {g:Nat→aa} {F T Q:Nat→Int} (hp:PInv N k nb m g F T Q) (ha:G5 Q m) (i:Nat) (hi:i<m):Gf g nb T Q i=false:=by
  have h1:=hp.q i hi
  have h2:=hp.t i hi
  have a1:decide (Q i<0)=false:=by simp;omega
  have a2:decide (Q i≥(nb:Int))=false:=by simp;omega
  have a3:(bif decide ((i:Int)>0) then decide (Q ((i:Int) - 1).toNat≥Q i) else false)=false:=by
    by_cases h:i=0
    · subst h;rfl
    · have:=ha (i - 1) (by omega)
      have e:((i:Int) - 1).toNat=i - 1:=by omega
      rw [show i - 1+1=i by omega] at this
      rw [e]
      have h4:decide (Q (i - 1)≥Q i)=false:=by simp;omega
      rw [h4]
      cases decide ((i:Int)>0)<;>rfl
  have a4:(bif T i != (g (Q i).toNat).1 then T i != (g (Q i).toNat).2.1 else false)=false:=by
    rcases h2 with e | e
    · rw [show (T i != (g (Q i).toNat).1)=false by simp [e]];rfl
    · rw [show (T i != (g (Q i).toNat).2.1)=false by simp [e]]
      cases (T i != (g (Q i).toNat).1)<;>rfl
  unfold Gf
  rw [a1,a2,a3,a4]
  rfl
theorem nW {N k nb m:Nat} {g:Nat→aa} {F T Q:Nat→Int} (hp:PInv N k nb m g F T Q) (ha:G5 Q m) (hg:ah ((N:Int),(nb,g),())=true) (hk:1≤k∧k≤3) (hm:m≤1048576) :
    zE 105 [bi g nb N,.p (.int .i64 k),eR N m F T Q] [] (.p (.bool true)):=by
  obtain ⟨hN,hnb,hok⟩:=aB hg
  have hsm:cP a6 ((N:Int),(nb,g),()):=⟨by simp [cP,j0],⟨by show nb≤1048576;omega,fun i hi=>by simp [cP,j0]⟩,True.intro⟩
  have hcg:=bH ((N:Int),(nb,g),()) hsm
  rw [hg] at hcg
  have h1:=dY k 1 3
  rw [show bC k 1 3=true by simp [bC];omega] at h1
  refine aW Tryz.func105 (fun c hc=>?_)
  have lp1:∀ d i,i+d=N→zR c 105 Aa (F3 g nb N k m F T Q i) (aS c [] (.p (.bool true))):=by
    intro d
    induction d with
    | zero =>
      intro i hi
      have hd:decide ((i:Int)<(N:Int))=false:=by simp;omega
      refine be Tryz.func105 hc (N6 g nb N k m F T Q i) ?_
      and_intros
      all_goals (first | exact zN | (exact hd) | (simp;done))
    | succ d ih =>
      intro i hi
      have hd:decide ((i:Int)<(N:Int))=true:=by simp;omega
      have ht:=uf N m F T Q i hm
      have hf0:=hp.f0 i (by omega)
      have hsum:=hp.sum i (by omega)
      have htn:=jd T i m
      have hb:(bif decide (F i<0) then true else F i+dQ T m i != (k:Int))=false:=by
        have h4:decide (F i<0)=false:=by simp;omega
        rw [h4]
        simp [hsum]
      refine a9 hc (MO g nb N k m F T Q i) ?_ (ih (i+1) (by omega))
      and_intros
      all_goals (first | exact zH | (intros;exact ht) | (exact hb) | (intros;omega) | (intro j hj;simp [af]))
  have lp0:∀ d i,i+d=m→zR c 105 Bp (GD g nb N k m F T Q i) (aS c [] (.p (.bool true))):=by
    intro d
    induction d with
    | zero =>
      intro i hi
      have hd:decide ((i:Int)<(m:Int))=false:=by simp;omega
      refine a9 hc (Js g nb N k m F T Q i) ?_ (lp1 N 0 (by omega))
      and_intros
      all_goals (first | exact zN | (exact hd) | (intro j hj;simp [af]))
    | succ d ih =>
      intro i hi
      have him:i<m:=by omega
      have hd:decide ((i:Int)<(m:Int))=true:=by simp;omega
      have hbad:=Ek hp ha i him
      have hq:=hp.q i him
      refine a9 hc (KF g nb N k m F T Q i) ?_ (ih (i+1) (by omega))
      and_intros
      all_goals (first | exact zH | (exact hbad) | (intros;omega) | (intro h;have:=ig h him;omega) | (intro h;show (0:Int)≤Q i∧Q i<nb;omega) | (intro j hj;simp [af]))
  refine a9 hc (Mo g nb N k m F T Q) ?_ (lp0 m 0 (by omega))
  and_intros
  all_goals (first | exact zH | (exact hcg) | (intros;exact h1) | (simp;done) | (intro j hj;simp [af]))
theorem pD {N k nb m l e:Nat} {g:Nat→aa} {F T Q:Nat→Int} (hp:PInv N k nb m g F T Q) (ha:G5 Q m) (hlt:∀ j,j<m→Q j<e) (hg:ah ((N:Int),(nb,g),())=true) (hk:1≤k∧k≤3) (hl:l+1≤2*k) (hm:m≤1000) (he:e<nb)
    (hsp:Mat.Sparse N k l (ov g Q m)) :
    (∃ F' T',zE 80 [bi g nb N,.p (.int .i64 k),.p (.int .i64 l),eR N m F T Q,.p (.int .i64 (e:Nat))] (bl N (m+1) F' T' (fun s=>if s<m then Q s else e)) (.tup [bf N (m+1) 0,.p (.bool true)]) ∧
      PInv N k nb (m+1) g F' T' (fun s=>if s<m then Q s else e)∧Mat.Sparse N k l (ov g Q m++[bB (g e)])) ∨
    (zE 80 [bi g nb N,.p (.int .i64 k),.p (.int .i64 l),eR N m F T Q,.p (.int .i64 (e:Nat))] (bl N m F T Q) (.tup [bf N m 0,.p (.bool false)])∧¬ Mat.Sparse N k l (ov g Q m++[bB (g e)])):=by
  obtain ⟨hN,hnb,hok⟩:=aB hg
  have hbar:=hok e he
  have hip:=nW hp ha hg hk (by omega)
  have hir:=iR k l hk hl
  have hcc:=iZ N m F T Q (by omega) (by omega)
  have hb:(bif bif bif bif !true then true else !true then true else decide ((e:Int)<0) then true else decide ((e:Int)≥(nb:Int)) then true else bif decide ((m:Int)>0) then decide (Q ((m:Int) - 1).toNat≥(e:Int)) else false)=false:=by
    have b1:decide ((e:Int)<0)=false:=decide_eq_false (by omega)
    have b2:decide ((e:Int)≥(nb:Int))=false:=by simp;omega
    have b3:(bif decide ((m:Int)>0) then decide (Q ((m:Int) - 1).toNat≥(e:Int)) else false)=false:=by
      by_cases h:m=0
      · subst h;rfl
      · have:=hlt ((m:Int) - 1).toNat (by omega)
        have h4:decide (Q ((m:Int) - 1).toNat≥(e:Int))=false:=decide_eq_false (by omega)
        rw [h4]
        cases decide ((m:Int)>0)<;>rfl
    rw [b1,b2,b3];rfl
  obtain ⟨F1,T1,r,hc1,h1,h2,h3⟩:=qc (l:=l) (a:=(g e).1) (b:=(g e).2.1) hp (by omega) (by omega) (by omega) (by omega) (by omega) (by omega) (by omega)
  have hlA:=h1.le (v:=(g e).1.toNat) (by omega)
  have hlB:=h1.le (v:=(g e).2.1.toNat) (by omega)
  cases r with
  | false =>
    right
    refine ⟨?_,h3 rfl⟩
    refine aW Tryz.func80 (fun c hc=>?_)
    refine bz Tryz.func80 hc (Me g nb N k l m e F T Q F1 T1) ?_
    and_intros
    all_goals (first | exact zH | (exact hip) | (intros;exact hir) | (exact hb) | (exact hc1) | (exact hcc) | (simp;done) | (intro h;have:=ig h (Nat.lt_succ_self m);omega) | (intro i hi;simp [af]))
  | true =>
    left
    have hw:=h2 rfl
    have hacc:Mat.Sparse N k l (ov g Q m++[bB (g e)]):=by
      have:=(h1.game l).accept (by rw [dP];exact hsp) (g e).1.toNat (g e).2.1.toNat ⟨by show (g e).1.toNat≠(g e).2.1.toNat;omega,by show (g e).1.toNat<N;omega,by show (g e).2.1.toNat<N;omega⟩
        (by show l+1≤(F1 (g e).1.toNat).toNat+(F1 (g e).2.1.toNat).toNat;omega)
      rw [dP] at this
      exact this
    by_cases hz:F1 (g e).1.toNat=0
    · have hzb:(F1 (g e).1.toNat==0)=true:=by simp [hz]
      refine ⟨_,_,?_,h1.placed e he (g e).2.1 (.inr rfl) (by omega),hacc⟩
      refine aW Tryz.func80 (fun c hc=>?_)
      refine bz Tryz.func80 hc (KW g nb N k l m e F T Q F1 T1) ?_
      and_intros
      all_goals (first | exact zH | (exact hip) | (intros;exact hir) | (exact hb) | (exact hc1) | (exact hzb) | (simp;done) | (intro h;have:=ig h (Nat.lt_succ_self m);omega) | (intro i hi;simp [af];done) | (intro i hi;by_cases h:i<m<;>simp [h,ay,bh,tg,bu,af];done) | (intro i hi;by_cases h:i=(g e).2.1.toNat<;>simp [h,ay,bh,tg,bu,af]))
    · have hzb:(F1 (g e).1.toNat==0)=false:=by simp [hz]
      refine ⟨_,_,?_,h1.placed e he (g e).1 (.inl rfl) (by omega),hacc⟩
      refine aW Tryz.func80 (fun c hc=>?_)
      refine bz Tryz.func80 hc (NE g nb N k l m e F T Q F1 T1) ?_
      and_intros
      all_goals (first | exact zH | (exact hip) | (intros;exact hir) | (exact hb) | (exact hc1) | (exact hzb) | (simp;done) | (intro h;have:=ig h (Nat.lt_succ_self m);omega) | (intro i hi;simp [af];done) | (intro i hi;by_cases h:i<m<;>simp [h,ay,bh,tg,bu,af];done) | (intro i hi;by_cases h:i=(g e).1.toNat<;>simp [h,ay,bh,tg,bu,af]))
theorem fq {N nb:Nat} {g:Nat→aa} (hg:ah ((N:Int),(nb,g),())=true) (k l:Nat) (hk:1≤k∧k≤3) (hl:l+1≤2*k) :
    ∃ m F T Q,zE 43 [bi g nb N,.p (.int .i64 k),.p (.int .i64 l)] (bl N m F T Q) (.tup [bf N m 0,.p (.bool true)])∧m≤24∧Cp Q m∧qL Q m=aK N k l g nb:=by
  obtain ⟨hN,hnb,hok⟩:=aB hg
  have hr:=iR k l hk hl
  have hn:=l6 (nb:=nb) (g:=g) (N:=N) (k:=k) (by omega) hk hg (by omega)
  have lp:∀ d i m F T Q,i+d=nb→PInv N k nb m g F T Q→G5 Q m→(∀ j,j<m→Q j<(i:Nat))→qL Q m=aK N k l g i →
      ∃ m' F' T' Q',(∀ c,c.n=0→zR c 43 Bq (Ft g nb N k l m F T Q i) (aS c (bl N m' F' T' Q') (.tup [bf N m' 0,.p (.bool true)])))∧Cp Q' m'∧qL Q' m'=aK N k l g nb:=by
    intro d
    induction d with
    | zero =>
      intro i m F T Q hi hp ha hlt hq
      have hi':i=nb:=by omega
      refine ⟨m,F,T,Q,fun c hc=>?_,fun j hj=>(hp.q j hj).1,by rw [hq,hi']⟩
      have hd:decide ((i:Int)<(nb:Int))=false:=by simp;omega
      refine bz Tryz.func43 hc (KS g nb N k l m F T Q i) ?_
      and_intros
      all_goals (first | exact zI | (exact hd) | (intro j hj;simp [af]))
    | succ d ih =>
      intro i m F T Q hi hp ha hlt hq
      have hd:decide ((i:Int)<(nb:Int))=true:=by simp;omega
      have hm:m≤24:=by
        have:=dc N k l g i
        rw [← hq,bE] at this;omega
      have hsp:Mat.Sparse N k l (ov g Q m):=by rw [jc,hq];exact gC N k l g i
      rcases pD (e:=i) hp ha hlt hg hk hl (by omega) (by omega) hsp with ⟨F1,T1,hc1,hp1,hs1⟩ | ⟨hc1,hs1⟩
      · obtain ⟨m',F',T',Q',hrun,h2⟩:=ih (i+1) (m+1) F1 T1 _ (by omega) hp1 (fun j hj=>by
          show (if j<m then Q j else (i:Int))<(if j+1<m then Q (j+1) else (i:Int))
          rw [if_pos (show j<m by omega)]
          by_cases h:j+1<m
          · rw [if_pos h];exact ha j h
          · rw [if_neg h];exact hlt j (by omega)) (fun j hj=>by
          show (if j<m then Q j else (i:Int))<((i+1:Nat):Int)
          by_cases h:j<m
          · rw [if_pos h];have:=hlt j h;omega
          · rw [if_neg h];omega) (by
          simp only [aK]
          rw [← hq,← jc,if_pos hs1]
          simp only [qL,Nat.lt_irrefl,if_false,Int.toNat_natCast]
          rw [mS (Q':=Q) m (fun j hj=>by simp only [hj,if_true])])
        refine ⟨m',F',T',Q',fun c hc=>?_,h2⟩
        refine a9 hc (JT g nb N k l m (m+1) F T Q F1 T1 (fun s=>if s<m then Q s else i) i true) ?_ (hrun c hc)
        and_intros
        all_goals (first | exact zI | (exact hd) | (exact hc1) | (intro j hj;simp [af]))
      · obtain ⟨m',F',T',Q',hrun,h2⟩:=ih (i+1) m F T Q (by omega) hp ha (fun j hj=>by have:=hlt j hj;omega) (by
          simp only [aK]
          rw [← hq,← jc,if_neg hs1])
        refine ⟨m',F',T',Q',fun c hc=>?_,h2⟩
        refine a9 hc (JT g nb N k l m m F T Q F T Q i false) ?_ (hrun c hc)
        and_intros
        all_goals (first | exact zI | (exact hd) | (exact hc1) | (intro j hj;simp [af]))
  obtain ⟨m,F,T,Q,hrun,hnn,hq⟩:=lp nb 0 0 _ _ _ (by omega) (PInv.start hok) (fun j hj=>by omega) (fun j hj=>absurd hj (Nat.not_lt_zero _)) rfl
  have hm:m≤24:=by
    have:=dc N k l g nb
    rw [← hq,bE] at this;omega
  refine ⟨m,F,T,Q,?_,hm,hnn,hq⟩
  refine aW Tryz.func43 (fun c hc=>?_)
  refine a9 hc (N5 g nb N k l) ?_ (hrun c hc)
  and_intros
  all_goals (first | exact zH | (exact hn) | (intros;exact hr) | (simp;done) | (intro j hj;simp [af]))
theorem jR {N nb:Nat} {g:Nat→aa} (hg:ah ((N:Int),(nb,g),())=true) (k l:Nat) (hk:1≤k∧k≤3) (hl:l+1≤2*k) :
    zE 15 [bi g nb N,.p (.int .i64 k),.p (.int .i64 l)] [] (.p (.int .i64 ((aK N k l g nb).length:Nat))):=by
  obtain ⟨m,F,T,Q,hrun,hm,hn,hq⟩:=fq hg k l hk hl
  rw [← hq,bE]
  refine aW Tryz.func15 (fun c hc=>?_)
  refine be Tryz.func15 hc (Ly g nb N k l m F T Q) ?_
  and_intros
  all_goals (first | exact zI | (exact hrun) | (simp;done) | (intro i hi;simp [af]))
def z2:Ob:=⟨true,2,1,fun _=>[.p (.int .i64 0),.p .nil]⟩
def Jh (n:Int) (j c:Nat):Ob:=⟨true,2,1,fun _=>[.p (.int .i64 n),.ar 2 j 0 c]⟩
def cC (n:Int):Int:=if 2*n - 3>0 then 2*n - 3 else 0
def HY (n:Int) (c:Nat) (h:Nat→aa):AV:=.agg [.p (.int .i64 n),b4 h c]
def DR (n:Int) (M:Nat) (A:Nat→aa) (S:ad) (i c:Nat) (h:Nat→aa):St :=
  ⟨[HY n M A,eI S,.pt 2 0 0 0,.p .any,.pt 2 1 0 0,.pt 2 2 0 0]++List.replicate 6 ag++[b4 A M,.p (.int .i64 M),.p (.int .i64 i)]++List.replicate 15 ag,[(0,⟨true,2,1,fun _=>[.p (.int .i64 n),b4 A M]⟩),(1,z2),(2,Jh n 3 c),(3,aj c h)],4⟩
theorem F4 (v:ai) :
    zS Tryz.f40 [rg 2,rm [(1,oc [] (jB false))] 1,.dec true,rg 1] [aJ v] [] [] (jI (-1)) =
    some [(NT 0 1),zE 10 [(br v)] [] (jB false),((!false)=true),(AI ((-1)))]:=by kernel_rfl
theorem Gh (g:Nat→aa) (nb N r:Nat) :
    zS Tryz.f40 [rg 2,rm [(1,oc [] (jB true))] 1,.dec false,rm [(6,oc [] (jI r))] 2] [bi g nb N] [] [] (jI (cC N - r)) =
    some [(NT 0 1),zE 10 [(ak N nb g)] [] (jB true),((!true)=false),(NT 0 1),(ax (2*(N:Int))),(au (2*(N:Int))),(ax (2*(N:Int) - 3)),(au (2*(N:Int) - 3)),(NT 0 1),zE 15 [(ak N nb g),jI 2,jI 3] [] (jI (r:Int)),(ax ((if true=true then if 2*(N:Int) - 3>0 then 2*(N:Int) - 3 else 0 else if 2*(N:Int) - 3<0 then 2*(N:Int) - 3 else 0) - (r:Int))),(au ((if true=true then if 2*(N:Int) - 3>0 then 2*(N:Int) - 3 else 0 else if 2*(N:Int) - 3<0 then 2*(N:Int) - 3 else 0) - (r:Int))),((((if true=true then if 2*(N:Int) - 3>0 then 2*(N:Int) - 3 else 0 else if 2*(N:Int) - 3<0 then 2*(N:Int) - 3 else 0) - (r:Int)):Int)=(cC (N:Int) - (r:Int)))]:=by kernel_rfl
theorem Gg (v:ai) :
    zS Tryz.f39 [rg 2,rm [(1,oc [] (jB false))] 1,.dec true,rg 1] [aJ v] [] [] (jI (-1)) =
    some [(NT 0 1),zE 23 [(br v)] [] (jB false),((!false)=true),(AI ((-1)))]:=by kernel_rfl
theorem FZ (g:Nat→aa) (nb N r:Nat) :
    zS Tryz.f39 [rg 2,rm [(1,oc [] (jB true))] 1,.dec false,rm [(6,oc [] (jI r))] 2] [bi g nb N] [] [] (jI (cC N - r)) =
    some [(NT 0 1),zE 23 [(ak N nb g)] [] (jB true),((!true)=false),(NT 0 1),(ax (2*(N:Int))),(au (2*(N:Int))),(ax (2*(N:Int) - 3)),(au (2*(N:Int) - 3)),(NT 0 1),zE 77 [(ak N nb g),jI 2,jI 3] [] (jI (r:Int)),(ax ((if true=true then if 2*(N:Int) - 3>0 then 2*(N:Int) - 3 else 0 else if 2*(N:Int) - 3<0 then 2*(N:Int) - 3 else 0) - (r:Int))),(au ((if true=true then if 2*(N:Int) - 3>0 then 2*(N:Int) - 3 else 0 else if 2*(N:Int) - 3<0 then 2*(N:Int) - 3 else 0) - (r:Int))),((((if true=true then if 2*(N:Int) - 3>0 then 2*(N:Int) - 3 else 0 else if 2*(N:Int) - 3<0 then 2*(N:Int) - 3 else 0) - (r:Int)):Int)=(cC (N:Int) - (r:Int)))]:=by kernel_rfl
theorem Jg (v:ai) (x:Int) :
    zS Tryz.f9 [rg 2,rm [(1,oc [] (jI x))] 2] [aJ v] [] [] (jB (x==0)) =
    some [(NT 0 1),zE 40 [(br v)] [] (jI x),((x==0)=(x==0))]:=by kernel_rfl
theorem IF (v:ai) (x:Int) :
    zS Tryz.f8 [rg 2,rm [(1,oc [] (jI x))] 2] [aJ v] [] [] (jB (x==0)) =
    some [(NT 0 1),zE 39 [(br v)] [] (jI x),((x==0)=(x==0))]:=by kernel_rfl
theorem Ip (v:ai) (b:Bool) (r:Nat) :
    zS Tryz.f60 [rg 2,rm [(1,oc [] (jB b)),(2,oc [] (jI r))] 6] [aJ v] [] [] (jB (bif b then (r:Int)==(v.2.1.1:Int) else false)) =
    some (zD [(NT 0 1),zE 8 [(br v)] [] (jB b),((b=true)→(NT 0 1)),(AG b),((b=true)→zE 77 [(br v),jI 2,jI 3] [] (jI (r:Int))),((bif b then (r:Int)==(v.2.1.1:Int) else false)=(bif b then (r:Int)==(v.2.1.1:Int) else false))] [0,1,2,3,4,3,2,3,3,3,3,5]):=by kernel_rfl
theorem KH (n:Int) (M:Nat) (A:Nat→aa) (S:ad) :
    zT Tryz.f26 [rg 2,rg 5,rg 4,.head] [HY n M A,eI S] [0,32,160] (DR n M A S 0 0 (fun _=>(0,0,()))) =
    some (tp,zD [(NT 0 1),((true=true)→(AN 1)),(AI n),(AN M),(AP M (aF A)),(AN S.1),(AP S.1 (c8 S)),(AN 0),(AI ((M:Int))),((0:Int)=(↑0:Int)),((([AV.p (PV.int IntKind.i64 n),b4 A M].length):Nat)=2),(NL 1 1),((((List.map (fun v=>AV.p (bZ v)) [Value.int IntKind.i64 0,Value.slice none 0 0]).length):Nat)=2),(AI 0)] [0,0,1,0,2,3,4,5,6,7,7,7,3,4,8,9,10,11,11,2,3,4,12,11,11,13,12,11,11,2,7,7]):=by kernel_rfl
theorem LV (n:Int) (M:Nat) (A:Nat→aa) (S:ad) (i c:Nat) (h:Nat→aa) :
    zM 0 [rg 1,.dec true,rg 6,rm [(2,oc [] (jB true))] 0,.dec true,rg 7,rg 2,.head] tp (DR n M A S i c h) [0,1,2,452] 1 (DR n M A S (i+1) (c+1) (aZ c h (A i))) =
    some (tp,zD [((decide ((i:Int)<(M:Int)))=true),(IL 0 (i:Int)),(IT (i:Int) (M:Int)),(NT 0 1),((true=true)→(AN 1)),zE 63 [.p (.seq true 1 S.1 (c8 S)),jI (i:Int)] [] (jB true),(true=true),(NL 1 1),(NL c c),(NL ((c+1)*16) 140737488355328),(NL (c+1) 9223372036854775807),(ax ((i:Int)+1)),(au ((i:Int)+1)),(AI n),(AN M),(AP M (aF A)),(AN S.1),(AP S.1 (c8 S)),(AN 0),(AI ((M:Int))),((((i:Int)+1):Int)=(↑(i+1):Int)),(AN 2),(AI 0),(AN ((c+1))),(NL (c+1) (c+1)),(CV [(2,⟨true,2,1,(fun i_2=>[.p (.int .i64 n),.ar 2 452 0 (c+1)])⟩),(452,⟨false,2,(c+1),(fun i_2=>(if (i_2<c) then [.p (.int .i64 ((h i_2).1)),.p (.int .i64 ((h i_2).2.1))] else [.p (.int .i64 ((A i).1)),.p (.int .i64 ((A i).2.1))]))⟩),(420,⟨false,2,1,(fun i_2=>[.p (.int .i64 ((A i).1)),.p (.int .i64 ((A i).2.1))])⟩),(132,⟨true,2,1,(fun i_2=>[.p (.int .i64 ((A i).1)),.p (.int .i64 ((A i).2.1))])⟩),(0,⟨true,2,1,(fun i_2=>[.p (.int .i64 n),.p (.seq true 2 M (aF A))])⟩),(1,⟨true,2,1,(fun i_2=>[.p (.int .i64 0),.p (.nil)])⟩)] [0,1,2,452] 1 (c+1) (fun i_1=>if (i_1<c) then [.p (.int .i64 ((h i_1).1)),.p (.int .i64 ((h i_1).2.1))] else [.p (.int .i64 ((A i).1)),.p (.int .i64 ((A i).2.1))]) (fun i_1=>[.p (.int .i64 (if i_1<c then (h i_1).1 else (A i).1)),.p (.int .i64 (if i_1<c then (h i_1).2.1 else (A i).2.1))]))] [0,1,2,3,4,5,6,3,3,7,8,9,10,3,4,11,12,13,14,15,16,17,18,18,18,14,15,19,20,21,7,7,13,14,15,21,7,7,22,21,7,7,13,18,23,21,24,25]):=by kernel_rfl
theorem L9 (n:Int) (M:Nat) (A:Nat→aa) (S:ad) (i c:Nat) (h:Nat→aa) :
    zM 0 [rg 1,.dec true,rg 6,rm [(2,oc [] (jB false))] 0,.dec false,rg 2,.head] tp (DR n M A S i c h) [0,1,2,3] 1 (DR n M A S (i+1) c h) =
    some (tp,zD [((decide ((i:Int)<(M:Int)))=true),(IL 0 (i:Int)),(IT (i:Int) (M:Int)),(NT 0 1),((true=true)→(AN 1)),zE 63 [.p (.seq true 1 S.1 (c8 S)),jI (i:Int)] [] (jB false),(false=false),(ax ((i:Int)+1)),(au ((i:Int)+1)),(AI n),(AN M),(AP M (aF A)),(AN S.1),(AP S.1 (c8 S)),(AN 0),(AI ((M:Int))),((((i:Int)+1):Int)=(↑(i+1):Int)),(AN 2),(NL 1 1),(AI 0),(AN c),(NL c c),(AA c (fun i_1=>[.p (.int .i64 ((h i_1).1)),.p (.int .i64 ((h i_1).2.1))]))] [0,1,2,3,4,5,6,7,8,9,10,11,12,13,14,14,14,10,11,15,16,17,18,18,9,10,11,17,18,18,19,17,18,18,9,14,20,17,21,22]):=by kernel_rfl
theorem NG (n:Int) (M:Nat) (A:Nat→aa) (S:ad) (i c:Nat) (h:Nat→aa) :
    zP Tryz.f26 0 [rg 1,.dec false,rg 2] tp (DR n M A S i c h) [3] 1 [(0,aj c h)] (.agg [jI n,.ar 2 0 0 c]) =
    some [((decide ((i:Int)<(M:Int)))=false),(NT 0 1),(NT 0 1),((true=true)→(AN 1)),(NT 0 1),(AI n),(AN 0),(AN c),(AN 2),(NL c c),(AA c (fun i_1=>[.p (.int .i64 ((h i_1).1)),.p (.int .i64 ((h i_1).2.1))])),(AE c)]:=by kernel_rfl
noncomputable def qG (v:ai):Nat:=(aK v.1.toNat 2 3 v.2.1.2 v.2.1.1).length
noncomputable def bA (v:ai):Int:=if ah v=true then cC v.1 - (qG v:Int) else -1
noncomputable def oL (v:ai):Bool:=bif bA v==0 then (v.2.1.1:Int)==(qG v:Int) else false
theorem AJ {n:Int} (h:n≤8):0≤cC n∧cC n≤13:=by
  unfold cC;split<;>omega
theorem lh (v:ai) (hs:cP a6 v):zE 40 [aJ v] [] (.p (.int .i64 (bA v))):=by
  have hcg:=bH v hs
  cases hg:ah v with
  | false =>
    rw [hg] at hcg
    rw [show bA v = -1 by simp [bA,hg]]
    refine aW Tryz.func40 (fun c hc=>?_)
    refine be Tryz.func40 hc (F4 v) ?_
    and_intros
    all_goals (first | exact zN | (intros;exact hcg) | (simp;done))
  | true =>
    rw [hg] at hcg
    obtain ⟨N,nb,g,rfl⟩:=bM v hg
    obtain ⟨hN,hnb,_⟩:=aB hg
    have hr:=jR hg 2 3 (by omega) (by omega)
    have hl:=dc N 2 3 g nb
    have hm:=AJ (n:=(N:Int)) (by omega)
    rw [show bA ((N:Int),(nb,g),())=cC N - ((aK N 2 3 g nb).length:Nat) by simp [bA,hg,qG]]
    refine aW Tryz.func40 (fun c hc=>?_)
    refine be Tryz.func40 hc (Gh g nb N (aK N 2 3 g nb).length) ?_
    and_intros
    all_goals (first | exact zN | (intros;exact hcg) | (exact hr) | (simp only [if_true];show _≤cC N - _;omega) | (simp only [if_true];show cC N - _≤_;omega) | (simp;done) | (simp only [if_true];rfl))
theorem lu (v:ai) (hs:cP a6 v):zE 39 [aJ v] [] (.p (.int .i64 (bA v))):=by
  have hcg:=aQ v hs
  cases hg:ah v with
  | false =>
    rw [hg] at hcg
    rw [show bA v = -1 by simp [bA,hg]]
    refine aW Tryz.func39 (fun c hc=>?_)
    refine be Tryz.func39 hc (Gg v) ?_
    and_intros
    all_goals (first | exact zN | (intros;exact hcg) | (simp;done))
  | true =>
    rw [hg] at hcg
    obtain ⟨N,nb,g,rfl⟩:=bM v hg
    obtain ⟨hN,hnb,_⟩:=aB hg
    have hr:=jT hg 2 3 (by omega) (by omega)
    have hl:=dc N 2 3 g nb
    have hm:=AJ (n:=(N:Int)) (by omega)
    rw [show bA ((N:Int),(nb,g),())=cC N - ((aK N 2 3 g nb).length:Nat) by simp [bA,hg,qG]]
    refine aW Tryz.func39 (fun c hc=>?_)
    refine be Tryz.func39 hc (FZ g nb N (aK N 2 3 g nb).length) ?_
    and_intros
    all_goals (first | exact zN | (intros;exact hcg) | (exact hr) | (simp only [if_true];show _≤cC N - _;omega) | (simp only [if_true];show cC N - _≤_;omega) | (simp;done) | (simp only [if_true];rfl))
theorem iK (v:ai) (hs:cP a6 v):zE 9 [aJ v] [] (.p (.bool (bA v==0))):=by
  have hf:=lh v hs
  refine aW Tryz.func9 (fun c hc=>?_)
  refine be Tryz.func9 hc (Jg v _) ?_
  and_intros
  all_goals (first | exact zN | (exact hf) | (simp;done))
theorem eQ (v:ai) (hs:cP a6 v):zE 8 [aJ v] [] (.p (.bool (bA v==0))):=by
  have hf:=lu v hs
  refine aW Tryz.func8 (fun c hc=>?_)
  refine be Tryz.func8 hc (IF v _) ?_
  and_intros
  all_goals (first | exact zN | (exact hf) | (simp;done))
theorem ka {v:ai} (h:(bA v==0)=true):ah v=true:=by
  cases hg:ah v with
  | true=>rfl
  | false=>simp [bA,hg] at h
theorem qS (v:ai) (hs:cP a6 v):zE 60 [aJ v] [] (.p (.bool (oL v))):=by
  have hf:=eQ v hs
  have hr:(bA v==0)=true→zE 77 [aJ v,.p (.int .i64 2),.p (.int .i64 3)] [] (.p (.int .i64 (qG v:Nat))):=by
    intro h
    have hg:=ka h
    obtain ⟨N,nb,g,rfl⟩:=bM v hg
    exact jT hg 2 3 (by omega) (by omega)
  refine aW Tryz.func60 (fun c hc=>?_)
  rw [show oL v=(bif bA v==0 then (qG v:Int)==(v.2.1.1:Int) else false) by unfold oL;rw [show ((v.2.1.1:Int)==(qG v:Int))=((qG v:Int)==(v.2.1.1:Int)) from by rw [Bool.eq_iff_iff];simp only [beq_iff_eq];exact eq_comm]]
  refine bz Tryz.func60 hc (Ip v (bA v==0) (qG v)) ?_
  and_intros
  all_goals (first | exact zI | (exact hf) | (intro h;exact hr h) | (intro h;exact h) | (simp;done) | rfl)
def zB:b5:=(0,fun _=>(0,0,()))
def j5 (S:ad) (A:Nat→aa):Nat→Nat→b5→b5
  | _,0,x=>x
  | i,d+1,x=>j5 S A (i+1) d (bif a0 S.2 i S.1 then (x.1+1,aZ x.1 x.2 (A i)) else x)
theorem pO (n:Int) (M:Nat) (A:Nat→aa) (S:ad) (hM:M≤100) (hS:S.1≤1000) :
    zE 26 [HY n M A,eI S] [(0,aj (j5 S A 0 M zB).1 (j5 S A 0 M zB).2)] (.agg [.p (.int .i64 n),.ar 2 0 0 (j5 S A 0 M zB).1]):=by
  refine aW Tryz.func26 (fun c hc=>?_)
  generalize hR:j5 S A 0 M zB=R
  have lp:∀ d i cc f,i+d=M→cc≤i→j5 S A i d (cc,f)=R→zR c 26 tp (DR n M A S i cc f) (aS c [(0,aj R.1 R.2)] (.agg [.p (.int .i64 n),.ar 2 0 0 R.1])):=by
    intro d
    induction d with
    | zero =>
      intro i cc f hi hcc he
      have hd:decide ((i:Int)<(M:Int))=false:=by simp;omega
      rw [← he]
      refine be Tryz.func26 hc (NG n M A S i cc f) ?_
      and_intros
      all_goals (first | exact zI | (exact hd) | (intro j hj;simp [af]))
    | succ d ih =>
      intro i cc f hi hcc he
      have hd:decide ((i:Int)<(M:Int))=true:=by simp;omega
      have hh:=dN S (i:Int) (by omega)
      rw [j5] at he
      cases hb:a0 S.2 i S.1 with
      | true =>
        rw [hb] at he hh
        refine a9 hc (LV n M A S i cc f) ?_ (ih (i+1) (cc+1) _ (by omega) (by omega) he)
        and_intros
        all_goals (first | exact zI | (exact hd) | (exact hh) | (intro j hj;by_cases h':j<cc<;>simp [h',aZ,ay,bh,tg,bu,af]))
      | false =>
        rw [hb] at he hh
        refine a9 hc (L9 n M A S i cc f) ?_ (ih (i+1) cc _ (by omega) (by omega) he)
        and_intros
        all_goals (first | exact zI | (exact hd) | (exact hh) | (intro j hj;simp [af]))
  refine a9 hc (KH n M A S) ?_ (lp M 0 0 _ (by omega) (by omega) hR)
  and_intros
  all_goals (first | exact zI | (simp;done) | (intro j hj;simp [af]))
def DJ (g:Nat→aa) (nb N:Nat) (v i c:Nat) (h:Nat→aa) (e:Nat) (f:Nat→Int):St :=
  ⟨[bi g nb N,.p (.int .i64 v),.pt 2 0 0 0,.p .any,.pt 2 1 0 0,.p .any,.pt 2 2 0 0,.ar 1 3 0 e,.p .any,.p .any,.p .any,.p .any,.p .any,.p .any,.p .any,b4 g nb,.p (.int .i64 nb),.p (.int .i64 i)]++List.replicate 23 ag,
   [(0,lz g nb N),(1,z2),(2,Jh N 4 c),(3,aY e f),(4,aj c h)],5⟩
def Jb (N:Int) (n:Nat) (h:Nat→aa):St :=
  ⟨[.p .any,.p .any,.p .any,.p .any,.pt 2 0 0 0,.pt 2 1 0 0]++List.replicate 11 ag,[(0,z2),(1,Jh N 2 n),(2,aj n h)],3⟩
theorem Lw (b:aa) (p:Int) :
    zS Tryz.f112 [rg 2,rg 11] [jZ b,jI p] [] [] (jB (bc b p)) =
    some (zD [(NT 0 1),(AG (!b.1==p)),(((!b.1==p)=true)→(NT 0 1)),(((b.1==p)=false)→((!b.1==p)=true)),((bif b.1==p then true else b.2.1==p)=(bc b p))] [0,1,2,1,1,3,4]):=by kernel_rfl
theorem Md (g:Nat→aa) (nb N v:Nat) :
    zT Tryz.f94 [rg 3,rg 5,rg 2,rg 4,.head] [bi g nb N,jI v] [0,32,192,256] (DJ g nb N v 0 0 (fun _=>(0,0,())) 0 (fun _=>0)) =
    some (tG,zD [(NT 0 1),((true=true)→(AN 1)),(AI ((N:Int))),(AN nb),(AP nb (aF g)),(AI ((v:Int))),(AN 0),(AI ((nb:Int))),((0:Int)=(↑0:Int)),((([AV.p (PV.int IntKind.i64 (N:Int)),b4 g nb].length):Nat)=2),(NL 1 1),((((List.map (fun v=>AV.p (bZ v)) [Value.int IntKind.i64 0,Value.slice none 0 0]).length):Nat)=2),(AI 0),(AN 1),(NL 0 0),(AA 0 (fun i=>[.p (.int .i64 0)]))] [0,0,1,0,2,3,4,5,6,6,6,6,6,3,4,7,8,9,10,10,2,3,4,11,10,10,12,11,10,10,2,6,13,14,15,6]):=by kernel_rfl
theorem M7 (g:Nat→aa) (nb N v i c:Nat) (h:Nat→aa) (e:Nat) (f:Nat→Int) (o:Int) :
    zM 0 [rg 1,.dec true,rg 4,rm [(2,oc [] (jB true))] 0,.dec true,rm [(3,oc [] (jI o))] 3,rg 2,.head] tG (DJ g nb N v i c h e f) [0,1,2,421,4] 1 (DJ g nb N v (i+1) c h (e+1) (fun s=>if s<e then f s else o)) =
    some (tG,zD [((decide ((i:Int)<(nb:Int)))=true),(IL 0 (i:Int)),(IT (i:Int) (nb:Int)),(NT 0 1),((true=true)→(AN 1)),zE 112 [.agg [jI ((g i).1),jI ((g i).2.1)],jI (v:Int)] [] (jB true),(true=true),zE 113 [.agg [jI ((g i).1),jI ((g i).2.1)],jI (v:Int)] [] (jI o),(NL 1 1),(NL e e),(NL ((e+1)*8) 140737488355328),(NL (e+1) 9223372036854775807),(ax ((i:Int)+1)),(au ((i:Int)+1)),(AI ((N:Int))),(AN nb),(AP nb (aF g)),(AI ((v:Int))),(AN 0),(AN ((e+1))),(AI ((nb:Int))),((((i:Int)+1):Int)=(↑(i+1):Int)),(AN 2),(AI 0),(AN c),(AN 1),(NL (e+1) (e+1)),(CV [(421,⟨false,1,(e+1),(fun i_2=>(if (i_2<e) then [.p (.int .i64 (f i_2))] else [.p (.int .i64 o)]))⟩),(389,⟨false,1,1,(fun i_2=>[.p (.int .i64 o)])⟩),(101,⟨true,2,1,(fun i_2=>[.p (.int .i64 ((g i).1)),.p (.int .i64 ((g i).2.1))])⟩),(0,⟨true,2,1,(fun i_2=>[.p (.int .i64 (N:Int)),.p (.seq true 2 nb (aF g))])⟩),(1,⟨true,2,1,(fun i_2=>[.p (.int .i64 0),.p (.nil)])⟩),(2,⟨true,2,1,(fun i_2=>[.p (.int .i64 (N:Int)),.ar 2 4 0 c])⟩),(4,⟨false,2,c,(fun i_2=>[.p (.int .i64 ((h i_2).1)),.p (.int .i64 ((h i_2).2.1))])⟩)] [0,1,2,421,4] 1 (e+1) (fun i_1=>if (i_1<e) then [.p (.int .i64 (f i_1))] else [.p (.int .i64 o)]) (fun i_1=>[.p (.int .i64 (if i_1<e then f i_1 else o))])),(NL c c),(AA c (fun i_1=>[.p (.int .i64 ((h i_1).1)),.p (.int .i64 ((h i_1).2.1))]))] [0,1,2,3,4,3,5,6,3,7,8,9,10,11,12,13,14,15,16,17,18,18,18,18,19,15,16,20,21,22,8,8,14,15,16,22,8,8,23,22,8,8,14,18,24,25,26,27,22,28,29]):=by kernel_rfl
theorem N8 (g:Nat→aa) (nb N v i c:Nat) (h:Nat→aa) (e:Nat) (f:Nat→Int) :
    zM 0 [rg 1,.dec true,rg 4,rm [(2,oc [] (jB false))] 0,.dec false,rg 7,rg 2,.head] tG (DJ g nb N v i c h e f) [0,1,2,3,389] 1 (DJ g nb N v (i+1) (c+1) (aZ c h (g i)) e f) =
    some (tG,zD [((decide ((i:Int)<(nb:Int)))=true),(IL 0 (i:Int)),(IT (i:Int) (nb:Int)),(NT 0 1),((true=true)→(AN 1)),zE 112 [.agg [jI ((g i).1),jI ((g i).2.1)],jI (v:Int)] [] (jB false),(false=false),(NL 1 1),(NL c c),(NL ((c+1)*16) 140737488355328),(NL (c+1) 9223372036854775807),(ax ((i:Int)+1)),(au ((i:Int)+1)),(AI ((N:Int))),(AN nb),(AP nb (aF g)),(AI ((v:Int))),(AN 0),(AN e),(AI ((nb:Int))),((((i:Int)+1):Int)=(↑(i+1):Int)),(AN 2),(AI 0),(AN ((c+1))),(AN 1),(NL e e),(AA e (fun i_1=>[.p (.int .i64 (f i_1))])),(NL (c+1) (c+1)),(CV [(2,⟨true,2,1,(fun i_2=>[.p (.int .i64 (N:Int)),.ar 2 389 0 (c+1)])⟩),(389,⟨false,2,(c+1),(fun i_2=>(if (i_2<c) then [.p (.int .i64 ((h i_2).1)),.p (.int .i64 ((h i_2).2.1))] else [.p (.int .i64 ((g i).1)),.p (.int .i64 ((g i).2.1))]))⟩),(357,⟨false,2,1,(fun i_2=>[.p (.int .i64 ((g i).1)),.p (.int .i64 ((g i).2.1))])⟩),(101,⟨true,2,1,(fun i_2=>[.p (.int .i64 ((g i).1)),.p (.int .i64 ((g i).2.1))])⟩),(0,⟨true,2,1,(fun i_2=>[.p (.int .i64 (N:Int)),.p (.seq true 2 nb (aF g))])⟩),(1,⟨true,2,1,(fun i_2=>[.p (.int .i64 0),.p (.nil)])⟩),(3,⟨false,1,e,(fun i_2=>[.p (.int .i64 (f i_2))])⟩)] [0,1,2,3,389] 1 (c+1) (fun i_1=>if (i_1<c) then [.p (.int .i64 ((h i_1).1)),.p (.int .i64 ((h i_1).2.1))] else [.p (.int .i64 ((g i).1)),.p (.int .i64 ((g i).2.1))]) (fun i_1=>[.p (.int .i64 (if i_1<c then (h i_1).1 else (g i).1)),.p (.int .i64 (if i_1<c then (h i_1).2.1 else (g i).2.1))]))] [0,1,2,3,4,3,5,6,3,3,7,8,9,10,3,4,11,12,13,14,15,16,17,17,17,17,18,14,15,19,20,21,7,7,13,14,15,21,7,7,22,21,7,7,13,17,23,24,25,26,21,27,28]):=by kernel_rfl
theorem KK (g:Nat→aa) (nb N v i c:Nat) (h:Nat→aa) (e:Nat) (f r:Nat→Int) :
    zP Tryz.f94 0 [rg 1,.dec false,rm [(1,oq [3] [(0,aY e r)] (.tup []))] 0,rg 4] tG (DJ g nb N v i c h e f) [4,3] 1 [(0,aj c h),(1,aY e f)] (.tup [.agg [jI N,.ar 2 0 0 c],.ar 1 1 0 e]) =
    some [((decide ((i:Int)<(nb:Int)))=false),(AE e),Con Tryz.prog 114 1 [(0,⟨false,1,e,(fun i_1=>[.p (.int .i64 (f i_1))])⟩)] [.ar 1 0 0 e] [(0,⟨false,1,e,(fun i_1=>[.p (.int .i64 (r i_1))])⟩)] (.tup []),(NT 0 1),(NT 0 1),((true=true)→(AN 1)),(NT 0 1),(AI ((N:Int))),(AN 0),(AN c),(AN 0),(AN e),(AN 2),(NL c c),(AA c (fun i_1=>[.p (.int .i64 ((h i_1).1)),.p (.int .i64 ((h i_1).2.1))])),(AN 1),(NL e e),(∀ i_1:Nat,(((i_1:Nat)<e)→(af []∧(([.p (.int .i64 (r i_1))]:List AV)=[.p (.int .i64 (f i_1))])))),(AE c),(AE e)]:=by kernel_rfl
theorem KZ (N n:Nat) (h:Nat→aa) :
    zS Tryz.f24 [rg 2,rg 8] [bi h n N] [224] [(0,aj n h)] (.agg [jI N,.ar 2 0 0 n]) =
    some [(NT 0 1),(NT 0 1),(NL 0 0),(NL ((0+n)*16) 140737488355328),(NL (0+n) 9223372036854775807),(NT 0 1),((true=true)→(AN 1)),(NT 0 1),(AI ((N:Int))),(AN 0),(((0+n):Nat)=n),(AN 2),(NL n (0+n)),(AA n (fun i=>[.p (.int .i64 ((h i).1)),.p (.int .i64 ((h i).2.1))])),(AE n)]:=by kernel_rfl
theorem KD (N n:Nat) (h:Nat→aa) (x:aa) :
    zT Tryz.f95 [rg 2,rm [(1,oc [(0,aj n h)] (.agg [jI N,.ar 2 0 0 n]))] 2,rg 6,.head] [bi h n N,.p (.seq true 2 1 (fun _=>[.int .i64 x.1,.int .i64 x.2.1]))] [32,128,288] (Jb N (n+1) (aZ n h x)) =
    some (zu,zD [(NT 0 1),zE 24 [(ak N n h)] (bg n h) (.agg [jI (N:Int),.ar 2 0 0 n]),((true=true)→(AN 1)),(NL n n),(NL ((n+1)*16) 140737488355328),(NL (n+1) 9223372036854775807),(AN 0),((((List.map (fun v=>AV.p (bZ v)) [Value.int IntKind.i64 0,Value.slice none 0 0]).length):Nat)=2),(NL 1 1),(AI 0),(AI ((N:Int))),(AN ((n+1))),(AN 2),(NL (n+1) (n+1)),(CV [(128,⟨true,2,1,(fun i_1=>[.p (.int .i64 (N:Int)),.ar 2 288 0 (n+1)])⟩),(288,⟨false,2,(n+1),(fun i_1=>(if (i_1<n) then [.p (.int .i64 ((h i_1).1)),.p (.int .i64 ((h i_1).2.1))] else [.p (.int .i64 x.1),.p (.int .i64 x.2.1)]))⟩),(32,⟨true,2,1,(fun i_1=>[.p (.int .i64 0),.p (.nil)])⟩),(0,⟨true,2,1,(fun i_1=>[.p (.int .i64 (N:Int)),.p (.seq true 2 n (aF h))])⟩)] [32,128,288] 1 (n+1) (fun i=>if (i<n) then [.p (.int .i64 ((h i).1)),.p (.int .i64 ((h i).2.1))] else [.p (.int .i64 x.1),.p (.int .i64 x.2.1)]) (fun i=>[.p (.int .i64 (if i<n then (h i).1 else x.1)),.p (.int .i64 (if i<n then (h i).2.1 else x.2.1))]))] [0,1,0,2,0,3,4,5,0,2,6,6,7,8,8,9,7,8,8,10,6,11,12,13,14]):=by kernel_rfl
theorem JQ (N n:Nat) (h r:Nat→aa) :
    zP Tryz.f95 0 [rm [(2,oq [2] [(0,aj n r)] (.tup []))] 0,rg 2] zu (Jb N n h) [2] 1 [(0,aj n r)] (.agg [jI N,.ar 2 0 0 n]) =
    some [(NT 0 1),(AE n),Con Tryz.prog 115 1 (bg n h) [.ar 2 0 0 n,.p (.fn 59)] (bg n r) (.tup []),(NT 0 1),(NT 0 1),((true=true)→(AN 1)),(NT 0 1),(AI ((N:Int))),(AN 0),(AN n),(AN 2),(NL n n),(AA n (fun i=>[.p (.int .i64 ((r i).1)),.p (.int .i64 ((r i).2.1))])),(AE n)]:=by kernel_rfl
theorem BU {n:Nat} {f:Nat→Int} (h:∀ s t,s<t→t<n→f s≤f t):∀ j,j<n→BM (wR (jj n f)) j=f j:=by
  have hp:(jj n f).Pairwise (fun x y=>decide (x≤y)=true):=by
    unfold jj
    rw [List.pairwise_map]
    refine List.Pairwise.imp_of_mem (R:=(· < ·)) (fun {a b} ha hb hab=>?_) List.pairwise_lt_range
    exact decide_eq_true (h a b hab (by simpa using hb))
  intro j hj
  unfold wR
  rw [List.mergeSort_of_pairwise hp]
  simp [BM,jj,hj]
theorem Ah (b:aa) (p:Int):zE 112 [jZ b,.p (.int .i64 p)] [] (.p (.bool (bc b p))):=by
  refine aW Tryz.func112 (fun c hc=>?_)
  refine bz Tryz.func112 hc (Lw b p) ?_
  and_intros
  all_goals (first | exact zH)
theorem rP {N nb:Nat} {g:Nat→aa} (hok:aO N nb g) (ha:nQ nb g) (hN:N≤8) (hnb:nb≤24) (v:Nat) (hv:v≤8) :
    zE 94 [bi g nb N,.p (.int .i64 v)] [(0,aj (ba g v nb).1 (ba g v nb).2),(1,aY (bq g v nb).1 (bq g v nb).2)] (.tup [.agg [.p (.int .i64 N),.ar 2 0 0 (ba g v nb).1],.ar 1 1 0 (bq g v nb).1]):=by
  refine aW Tryz.func94 (fun c hc=>?_)
  have hasc:=(A8 v hok ha nb (Nat.le_refl _)).2
  have hnn:=iM g v nb
  have hsrt:=yl (bq g v nb).1 (bq g v nb).2 (by omega)
  have hid:=BU hasc
  generalize hR:bq g v nb=R at hasc hsrt hid
  generalize hD:ba g v nb=D
  have lo:∀ d i,i+d=nb→zR c 94 tG (DJ g nb N v i (ba g v i).1 (ba g v i).2 (bq g v i).1 (bq g v i).2) (aS c [(0,aj D.1 D.2),(1,aY R.1 R.2)] (.tup [.agg [.p (.int .i64 N),.ar 2 0 0 D.1],.ar 1 1 0 R.1])):=by
    intro d
    induction d with
    | zero =>
      intro i hi
      obtain rfl:i=nb:=by omega
      have hd:decide ((i:Int)<(i:Int))=false:=by simp
      rw [hR,hD]
      refine be Tryz.func94 hc (KK g i N v i D.1 D.2 R.1 R.2 (BM (wR (jj R.1 R.2)))) ?_
      and_intros
      iterate 2 all_goals (first | exact zI | (exact hd) | (exact hsrt) | (intro t ht;simp [af];done) | (intro t ht;simp [hid t ht,ay,bh,tg,af]) | simp only [af])
    | succ d ih =>
      intro i hi
      have hd:decide ((i:Int)<(nb:Int))=true:=decide_eq_true (by omega)
      have hrec:=ih (i+1) (by omega)
      have hn:=iM g v i
      have hb:=hok i (by omega)
      have ho:=pq (g i) v
      have hh0:=Ah (g i) v
      cases hh:bc (g i) v with
      | true =>
        rw [hh] at hh0
        rw [show bq g v (i+1)=((bq g v i).1+1,fun s=>if s<(bq g v i).1 then (bq g v i).2 s else aw (g i) v) by simp [bq,hh],
          show ba g v (i+1)=ba g v i by simp [ba,hh]] at hrec
        generalize bq g v i=q at hrec hn ⊢
        generalize ba g v i=q2 at hrec hn ⊢
        refine a9 hc (M7 g nb N v i q2.1 q2.2 q.1 q.2 (aw (g i) v)) ?_ hrec
        and_intros
        all_goals (first | exact zI | (exact hd) | (exact hh0) | (exact ho) | (simp;done) | (simp;omega) | (intro t ht;by_cases h':t<q.1<;>(simp [h',ay,bh,tg,bu,af];done)) | (intro t ht;simp [af]))
      | false =>
        rw [hh] at hh0
        rw [show bq g v (i+1)=bq g v i by simp [bq,hh],show ba g v (i+1)=sn (ba g v i) (g i) by simp [ba,hh]] at hrec
        generalize bq g v i=q at hrec hn ⊢
        generalize ba g v i=q2 at hrec hn ⊢
        refine a9 hc (N8 g nb N v i q2.1 q2.2 q.1 q.2) ?_ hrec
        and_intros
        all_goals (first | exact zI | (exact hd) | (exact hh0) | (simp;done) | (simp;omega) | (intro t ht;by_cases h':t<q2.1<;>(simp [h',aZ,ay,bh,tg,bu,af];done)) | (intro t ht;simp [af]))
  refine a9 hc (Md g nb N v) ?_ (lo nb 0 (by omega))
  and_intros
  all_goals (first | exact zI | (simp;done) | (intro t ht;exact absurd ht (Nat.not_lt_zero _)) | (intro t ht;simp [af]))
theorem iD (N n:Nat) (h:Nat→aa) (hn:n≤1048576):zE 24 [bi h n N] [(0,aj n h)] (.agg [.p (.int .i64 N),.ar 2 0 0 n]):=by
  refine aW Tryz.func24 (fun c hc=>?_)
  refine be Tryz.func24 hc (KZ N n h) ?_
  and_intros
  all_goals (first | exact zI | (intro j hj;simp [af];done) | (simp;try omega))
theorem gQ (N n:Nat) (h:Nat→aa) (x:aa) (hn:n≤1000):zE 95 [bi h n N,.p (.seq true 2 1 (fun _=>[.int .i64 x.1,.int .i64 x.2.1]))]
    [(0,aj (n+1) (df (n+1) (aZ n h x)))] (.agg [.p (.int .i64 N),.ar 2 0 0 (n+1)]):=by
  have h1:=iD N n h (by omega)
  have h2:=jt (n+1) (aZ n h x) (by omega)
  generalize df (n+1) (aZ n h x)=r at h2 ⊢
  refine aW Tryz.func95 (fun c hc=>?_)
  refine a9 hc (KD N n h x) ?_ (be Tryz.func95 hc (JQ N (n+1) (aZ n h x) r) ?_)
  ·
    and_intros
    all_goals (first | exact zI | (exact h1) | (intro j hj;by_cases h':j<n<;>simp [h',aZ,ay,bh,tg,bu,af];done) | (intro j hj;simp [af];done) | (simp;try omega))
  ·
    and_intros
    all_goals (first | exact zH | (exact h2) | (intro j hj;simp [af];done) | (simp;try omega))
def gl (w i:Int):Bool:=bj .and .i64 (bT .i64 w i) 1==1
theorem lN (m i:Nat) (hi:i<62):bT .i64 (m:Int) (i:Int)=((m >>> i:Nat):Int):=by
  unfold bT
  have:min (i:Int).toNat IntKind.i64.bits=i:=by simp [IntKind.bits];omega
  rw [this,Int.fdiv_eq_ediv_of_nonneg _ (Int.le_of_lt (Int.pow_pos (by omega))),Nat.shiftRight_eq_div_pow]
  simp
theorem u0 (x:Nat):BitVec.ofInt 64 (x:Int)=BitVec.ofNat 64 x:=by
  simp
theorem lS (m:Nat) (i:Nat) (hm:m<2 ^ 62) (hi:i<62):gl (m:Int) (i:Int)=m.testBit i:=by
  unfold gl
  rw [lN m i hi]
  have hle:m >>> i≤m:=Nat.shiftRight_le m i
  rw [Nat.testBit_eq_decide_div_mod_eq,← Nat.shiftRight_eq_div_pow]
  generalize m >>> i=x at hle ⊢
  have e:bj .and .i64 ((x:Nat):Int) 1=((x % 2:Nat):Int):=by
    unfold bj
    have e1:(BitVec.ofInt IntKind.i64.bits ((x:Nat):Int) &&& BitVec.ofInt IntKind.i64.bits 1).toNat=x % 2:=by
      rw [BitVec.toNat_and]
      show ((BitVec.ofInt 64 ((x:Nat):Int)).toNat &&& 1)=_
      rw [u0,BitVec.toNat_ofNat,Nat.mod_eq_of_lt (by omega),Nat.and_one_is_mod]
    simp only [e1]
    exact ew (by simp only [lv];omega) (by simp only [jF];omega)
  rw [e]
  rcases Nat.mod_two_eq_zero_or_one x with h | h<;>simp [h]
theorem Cm (e:Nat) (he:e<62):qE .i64 1 (e:Int)=((2 ^ e:Nat):Int):=by
  unfold qE
  have:min (e:Int).toNat IntKind.i64.bits=e:=by simp [IntKind.bits];omega
  rw [this]
  have h2:2 ^ e<2 ^ 62:=Nat.pow_lt_pow_right (by omega) he
  have h3:(1:Int)*2 ^ e=((2 ^ e:Nat):Int):=by simp
  rw [h3]
  generalize 2 ^ e=q at h2
  exact ew (by simp only [lv];omega) (by simp only [jF];omega)
def DH (w M i c:Nat) (f:Nat→Int):St:=⟨[.p (.int .i64 w),.p (.int .i64 M),.p .any,.p .any,.p .any,.ar 1 0 0 c,.p .any,.p .any,.p (.int .i64 M),.p (.int .i64 i)]++List.replicate 13 ag,[(0,aY c f)],1⟩
theorem Kt (w M:Nat) :
    zT Tryz.f69 [rg 1,rg 2,rg 2,.head] [jI w,jI M] [32] (DH w M 0 0 (fun _=>0)) =
    some (uA,[(AI ((w:Int))),(AI ((M:Int))),(AN 0),(AN 0),(AI ((M:Int))),((0:Int)=(↑0:Int)),(AN 1),(NL 0 0),(AA 0 (fun i=>[.p (.int .i64 0)]))]):=by kernel_rfl
theorem Nv (w M i c:Nat) (f:Nat→Int) :
    zM 0 [rg 1,.dec true,rg 2,rg 5,.dec true,rg 5,rg 2,.head] uA (DH w M i c f) [353] 1 (DH w M (i+1) (c+1) (fun s=>if s<c then f s else i)) =
    some (uA,[((decide ((i:Int)<(M:Int)))=true),(IL 0 (i:Int)),((bj BinOp.and IntKind.i64 (bT IntKind.i64 (w:Int) (i:Int)) 1==1)=true),(NL 1 1),(NL c c),(NL ((c+1)*8) 140737488355328),(NL (c+1) 9223372036854775807),(ax ((i:Int)+1)),(au ((i:Int)+1)),(AI ((w:Int))),(AI ((M:Int))),(AN 0),(AN ((c+1))),(AI ((M:Int))),((((i:Int)+1):Int)=(↑(i+1):Int)),(AN 1),(NL (c+1) (c+1)),(CV [(353,⟨false,1,(c+1),(fun i_2=>(if (i_2<c) then [.p (.int .i64 (f i_2))] else [.p (.int .i64 (i:Int))]))⟩),(321,⟨false,1,1,(fun i_2=>[.p (.int .i64 (i:Int))])⟩)] [353] 1 (c+1) (fun i_1=>if (i_1<c) then [.p (.int .i64 (f i_1))] else [.p (.int .i64 (i:Int))]) (fun i_1=>[.p (.int .i64 (if i_1<c then f i_1 else (i:Int)))]))]):=by kernel_rfl
theorem OH (w M i c:Nat) (f:Nat→Int) :
    zM 0 [rg 1,.dec true,rg 2,rg 5,.dec false,rg 2,.head] uA (DH w M i c f) [0] 1 (DH w M (i+1) c f) =
    some (uA,[((decide ((i:Int)<(M:Int)))=true),(IL 0 (i:Int)),((bj BinOp.and IntKind.i64 (bT IntKind.i64 (w:Int) (i:Int)) 1==1)=false),(ax ((i:Int)+1)),(au ((i:Int)+1)),(AI ((w:Int))),(AI ((M:Int))),(AN 0),(AN c),(AI ((M:Int))),((((i:Int)+1):Int)=(↑(i+1):Int)),(AN 1),(NL c c),(AA c (fun i_1=>[.p (.int .i64 (f i_1))]))]):=by kernel_rfl
theorem Ks (w M i c:Nat) (f:Nat→Int) :
    zP Tryz.f69 0 [rg 1,.dec false,rg 2] uA (DH w M i c f) [0] 1 [(0,aY c f)] (.ar 1 0 0 c) =
    some [((decide ((i:Int)<(M:Int)))=false),(AN 0),(AN c),(AN 1),(NL c c),(AA c (fun i_1=>[.p (.int .i64 (f i_1))])),(AE c)]:=by kernel_rfl
def bD (w:Nat):Nat→ad
  | 0=>(0,fun _=>0)
  | i+1=>if gl w i=true then ((bD w i).1+1,fun s=>if s<(bD w i).1 then (bD w i).2 s else i) else bD w i
theorem rz (w:Nat):∀ i,(bD w i).1≤i
  | 0=>Nat.le_refl _
  | i+1=>by
    have:=rz w i
    simp only [bD]
    split
    · show (bD w i).1+1≤i+1;omega
    · omega
theorem x8 (w M:Nat) (hM:M≤62):zE 69 [.p (.int .i64 w),.p (.int .i64 M)] [(0,aY (bD w M).1 (bD w M).2)] (.ar 1 0 0 (bD w M).1):=by
  refine aW Tryz.func69 (fun c hc=>?_)
  generalize hR:bD w M=R
  have lo:∀ d i,i+d=M→zR c 69 uA (DH w M i (bD w i).1 (bD w i).2) (aS c [(0,aY R.1 R.2)] (.ar 1 0 0 R.1)):=by
    intro d
    induction d with
    | zero =>
      intro i hi
      obtain rfl:i=M:=by omega
      have hd:decide ((i:Int)<(i:Int))=false:=by simp
      rw [hR]
      refine be Tryz.func69 hc (Ks w i i R.1 R.2) ?_
      and_intros
      all_goals (first | exact zN | (exact hd) | (intro t ht;simp [af]))
    | succ d ih =>
      intro i hi
      have hd:decide ((i:Int)<(M:Int))=true:=decide_eq_true (by omega)
      have hrec:=ih (i+1) (by omega)
      have hn:=rz w i
      cases hb:gl w i with
      | true =>
        rw [show bD w (i+1)=((bD w i).1+1,fun s=>if s<(bD w i).1 then (bD w i).2 s else i) by simp [bD,hb]] at hrec
        generalize bD w i=q at hn hrec ⊢
        refine cW hc (Nv w M i q.1 q.2) ?_ hrec
        and_intros
        all_goals (first | exact zN | (exact hd) | (exact hb) | (intro t ht;by_cases h':t<q.1<;>simp [h',ay,bh,tg,bu,af]))
      | false =>
        rw [show bD w (i+1)=bD w i by simp [bD,hb]] at hrec
        generalize bD w i=q at hn hrec ⊢
        refine cW hc (OH w M i q.1 q.2) ?_ hrec
        and_intros
        all_goals (first | exact zN | (exact hd) | (exact hb) | (intro t ht;simp [af]))
  refine cW hc (Kt w M) ?_ (lo M 0 (by omega))
  and_intros
  all_goals (first | exact zN | (intro t ht;exact absurd ht (Nat.not_lt_zero _)) | (intro t ht;simp [af]))
def DC (w v:Int):Int:=bj .and .i64 (bT .i64 w v) 1
def CQ (w a b:Int):Int:=bj .and .i64 (bj .and .i64 (bT .i64 w a) (bT .i64 w b)) 1
def Dv (g:Nat→aa) (nb N k l m:Nat) (F T Q:Nat→Int) (i c:Nat) (f:Nat→Int):St :=
  ⟨[bi g nb N,.p (.int .i64 k),.p (.int .i64 l),.pt 2 0 0 0,.p .any,.p .any,.p .any,.ar 1 1 0 c,.pt 3 2 0 0,.p (.bool true),.p (.int .i64 i)]++List.replicate 28 ag,
   [(0,lz g nb N),(1,aY c f),(2,Cc N m 3),(3,aY N F),(4,aY m T),(5,aY m Q)],6⟩
def E6 (g:Nat→aa) (nb N k l w:Nat):St :=
  ⟨[bi g nb N,.p (.int .i64 k),.p (.int .i64 l),.pt 2 0 0 0,.p .any,.p .any,.p .any,.p .any,.p (.int .i64 w)]++List.replicate 70 ag,[(0,lz g nb N)],1⟩
def GI (g:Nat→aa) (nb N k l w:Nat) (s:Int) (v:Nat):St :=
  ⟨[bi g nb N,.p (.int .i64 k),.p (.int .i64 l),.pt 2 0 0 0,.p .any,.p .any,.p .any,.p .any,.p (.int .i64 w),.p (.int .i64 s),.p (.int .i64 0)]++List.replicate 21 ag++[.p (.int .i64 N),.p (.int .i64 v)]++List.replicate 45 ag,[(0,lz g nb N)],1⟩
def En (g:Nat→aa) (nb N k l w:Nat) (s q:Int) (i:Nat):St :=
  ⟨[bi g nb N,.p (.int .i64 k),.p (.int .i64 l),.pt 2 0 0 0,.p .any,.p .any,.p .any,.p .any,.p (.int .i64 w),.p (.int .i64 s),.p (.int .i64 q)]++List.replicate 33 ag++[b4 g nb,.p (.int .i64 nb),.p (.int .i64 i)]++List.replicate 32 ag,[(0,lz g nb N)],1⟩
theorem K2 (g:Nat→aa) (nb N k l m:Nat) (F T Q:Nat→Int) :
    zT Tryz.f11 [rg 2,rg 2,rm [(3,oc (bl N m F T Q) (.tup [bf N m 0,jB true]))] 6,rg 1,.head] [bi g nb N,jI k,jI l] [0,64,352,224,225,226] (Dv g nb N k l m F T Q 0 0 (fun _=>0)) =
    some (uJ,zD [(NT 0 1),zE 43 [(ak N nb g),jI (k:Int),jI (l:Int)] (eb N F m T Q) ((oW N m)),((true=true)→(AN 1)),(AI ((N:Int))),(AN nb),(AP nb (aF g)),(AI ((k:Int))),(AI ((l:Int))),(AN 0),(true=true),((0:Int)=(↑0:Int)),((([AV.p (PV.int IntKind.i64 (N:Int)),b4 g nb].length):Nat)=2),(NL 1 1),(AN 1),(NL 0 0),(AA 0 (fun i=>[.p (.int .i64 0)])),((((List.map (fun v=>AV.p (bZ v)) [Value.slice none 0 0,Value.slice none 0 0,Value.slice none 0 0]).length):Nat)=3),(AN N),(AN m),(NL N N),(AA N (fun i=>[.p (.int .i64 (F i))])),(NL m m),(AA m (fun i=>[.p (.int .i64 (T i))])),(AA m (fun i=>[.p (.int .i64 (Q i))]))] [0,1,0,2,3,4,5,6,7,8,8,8,8,9,10,11,12,12,3,4,5,13,14,15,16,12,12,8,17,8,18,8,18,13,19,20,13,21,22,13,21,23]):=by kernel_rfl
theorem M8 (g:Nat→aa) (nb N k l m:Nat) (F T Q:Nat→Int) (i c:Nat) (f:Nat→Int) :
    zM 0 [rg 8,.dec true,rm [(3,oc [] (jB false))] 1,.dec true,rg 5,rg 3,.head] uJ (Dv g nb N k l m F T Q i c f) [0,518,2,3,4,5] 1 (Dv g nb N k l m F T Q (i+1) (c+1) (fun s=>if s<c then f s else i)) =
    some (uJ,zD (let A:Bool:=decide ((i:Int)<(nb:Int));[(NT 0 1),(AG A),((bif A then true else false)=true),(AN 1),(NL m m),zE 44 [.p (.seq true 1 m (fun i_1=>[.int .i64 (Q i_1)])),jI (i:Int)] [] (jB false),((!false)=true),(NL 1 1),(NL c c),(NL ((c+1)*8) 140737488355328),(NL (c+1) 9223372036854775807),(ax ((i:Int)+1)),(au ((i:Int)+1)),(AI ((N:Int))),(AN nb),(AP nb (aF g)),(AI ((k:Int))),(AI ((l:Int))),(AN 0),(AN ((c+1))),(true=true),((((i:Int)+1):Int)=(↑(i+1):Int)),(AN 2),(NL (c+1) (c+1)),(CV [(518,⟨false,1,(c+1),(fun i_2=>(if (i_2<c) then [.p (.int .i64 (f i_2))] else [.p (.int .i64 (i:Int))]))⟩),(486,⟨false,1,1,(fun i_2=>[.p (.int .i64 (i:Int))])⟩),(0,⟨true,2,1,(fun i_2=>[.p (.int .i64 (N:Int)),.p (.seq true 2 nb (aF g))])⟩),(2,⟨true,3,1,(fun i_2=>[.ar 1 3 0 N,.ar 1 4 0 m,.ar 1 5 0 m])⟩),(3,⟨false,1,N,(fun i_2=>[.p (.int .i64 (F i_2))])⟩),(4,⟨false,1,m,(fun i_2=>[.p (.int .i64 (T i_2))])⟩),(5,⟨false,1,m,(fun i_2=>[.p (.int .i64 (Q i_2))])⟩)] [0,518,2,3,4,5] 1 (c+1) (fun i_1=>if (i_1<c) then [.p (.int .i64 (f i_1))] else [.p (.int .i64 (i:Int))]) (fun i_1=>[.p (.int .i64 (if i_1<c then f i_1 else (i:Int)))])),(AN 3),(AN N),(AN m),(NL N N),(AA N (fun i_1=>[.p (.int .i64 (F i_1))])),(AA m (fun i_1=>[.p (.int .i64 (T i_1))])),(AA m (fun i_1=>[.p (.int .i64 (Q i_1))]))]) [0,1,2,0,3,4,5,6,7,8,9,10,11,12,13,14,15,16,17,18,18,19,18,20,21,22,7,7,13,14,15,3,23,24,25,7,7,18,26,18,27,18,27,3,28,29,3,4,30,3,4,31]):=by kernel_rfl
theorem MT (g:Nat→aa) (nb N k l m:Nat) (F T Q:Nat→Int) (i c:Nat) (f:Nat→Int) :
    zM 0 [rg 8,.dec true,rm [(3,oc [] (jB true))] 1,.dec false,rg 3,.head] uJ (Dv g nb N k l m F T Q i c f) [0,1,2,3,4,5] 1 (Dv g nb N k l m F T Q (i+1) c f) =
    some (uJ,zD (let A:Bool:=decide ((i:Int)<(nb:Int));[(NT 0 1),(AG A),((bif A then true else false)=true),(AN 1),(NL m m),zE 44 [.p (.seq true 1 m (fun i_1=>[.int .i64 (Q i_1)])),jI (i:Int)] [] (jB true),((!true)=false),(ax ((i:Int)+1)),(au ((i:Int)+1)),(AI ((N:Int))),(AN nb),(AP nb (aF g)),(AI ((k:Int))),(AI ((l:Int))),(AN 0),(AN c),(true=true),((((i:Int)+1):Int)=(↑(i+1):Int)),(AN 2),(NL 1 1),(NL c c),(AA c (fun i_1=>[.p (.int .i64 (f i_1))])),(AN 3),(AN N),(AN m),(NL N N),(AA N (fun i_1=>[.p (.int .i64 (F i_1))])),(AA m (fun i_1=>[.p (.int .i64 (T i_1))])),(AA m (fun i_1=>[.p (.int .i64 (Q i_1))]))]) [0,1,2,0,3,4,5,6,7,8,9,10,11,12,13,14,14,15,14,16,17,18,19,19,9,10,11,3,20,21,22,19,19,14,23,14,24,14,24,3,25,26,3,4,27,3,4,28]):=by kernel_rfl
theorem L6 (g:Nat→aa) (nb N k l m:Nat) (F T Q:Nat→Int) (i c:Nat) (f:Nat→Int) :
    zP Tryz.f11 0 [rg 8,.dec false,rg 2] uJ (Dv g nb N k l m F T Q i c f) [1] 1 [(0,aY c f)] (.ar 1 0 0 c) =
    some (let A:Bool:=decide ((i:Int)<(nb:Int));[(NT 0 1),(AG A),((bif A then true else false)=false),(AN 0),(AN c),(AN 1),(NL c c),(AA c (fun i_1=>[.p (.int .i64 (f i_1))])),(AE c)]):=by kernel_rfl
theorem NR (g:Nat→aa) (nb N k l:Nat) :
    zT Tryz.f29 [rg 3,rm [(1,oc [] (jB true)),(4,oc [] (jB true))] 2,.dec false,rg 1,.head] [bi g nb N,jI k,jI l] [0] (E6 g nb N k l 1) =
    some (yx,zD [(NT 0 1),zE 23 [(ak N nb g)] [] (jB true),(AG (!!true)),(((!!true)=true)→zE 68 [jI (k:Int),jI (l:Int)] [] (jB true)),(((!true)=false)→((!!true)=true)),((bif !true then true else !true)=false),(AI ((N:Int))),(AN nb),(AP nb (aF g)),(AI ((k:Int))),(AI ((l:Int))),(AN 0),((1:Int)=(↑1:Int)),((([AV.p (PV.int IntKind.i64 (N:Int)),b4 g nb].length):Nat)=2),(NL 1 1)] [0,1,2,2,3,2,4,5,6,7,8,9,10,11,12,13,14,14,6,7,8]):=by kernel_rfl
theorem Ng (g:Nat→aa) (nb N k l w:Nat) :
    zM 0 [rg 5,.dec true,rg 2,rg 3,.head] yx (E6 g nb N k l w) [0] 1 (GI g nb N k l w 0 0) =
    some (zJ,zD [(NT 0 1),(IL 0 (N:Int)),((decide ((w:Int)<qE IntKind.i64 1 (N:Int)))=true),(AI ((N:Int))),(AN nb),(AP nb (aF g)),(AI ((k:Int))),(AI ((l:Int))),(AN 0),(AI ((w:Int))),(AI 0),((0:Int)=(↑0:Int)),(AN 2),(NL 1 1)] [0,1,2,0,3,4,5,6,7,8,9,10,10,3,11,12,13,13,3,4,5]):=by kernel_rfl
theorem LP (g:Nat→aa) (nb N k l w:Nat) :
    zP Tryz.f29 0 [rg 5,.dec false,rg 3] yx (E6 g nb N k l w) [161] 1 [(0,aY 0 (fun _=>0))] (.tup [.ar 1 0 0 0,jB false]) =
    some [(NT 0 1),(IL 0 (N:Int)),((decide ((w:Int)<qE IntKind.i64 1 (N:Int)))=false),(AN 0),(AN 0),(false=false),(AN 1),(NL 0 0),(AA 0 (fun i=>[.p (.int .i64 0)])),(AE 0)]:=by kernel_rfl
theorem Ni (g:Nat→aa) (nb N k l w:Nat) (s:Int) (v:Nat) :
    zM 0 [rg 1,.dec true,rg 2,rg 7,rg 2,.head] zJ (GI g nb N k l w s v) [0] 1 (GI g nb N k l w (s+DC w v) (v+1)) =
    some (zJ,zD [((decide ((v:Int)<(N:Int)))=true),(IL 0 (v:Int)),(ax (s+bj BinOp.and IntKind.i64 (bT IntKind.i64 (w:Int) (v:Int)) 1)),(au (s+bj BinOp.and IntKind.i64 (bT IntKind.i64 (w:Int) (v:Int)) 1)),(ax ((v:Int)+1)),(au ((v:Int)+1)),(AI ((N:Int))),(AN nb),(AP nb (aF g)),(AI ((k:Int))),(AI ((l:Int))),(AN 0),(AI ((w:Int))),(((s+bj BinOp.and IntKind.i64 (bT IntKind.i64 (w:Int) (v:Int)) 1):Int)=(s+DC (w:Int) (v:Int))),(AI 0),((((v:Int)+1):Int)=(↑(v+1):Int)),(AN 2),(NL 1 1)] [0,1,2,3,4,5,6,7,8,9,10,11,12,13,14,6,15,16,17,17,6,7,8]):=by kernel_rfl
theorem NV (g:Nat→aa) (nb N k l w:Nat) (s:Int) (v:Nat) :
    zM 0 [rg 1,.dec false,rg 4,.head] zJ (GI g nb N k l w s v) [0] 1 (En g nb N k l w s 0 0) =
    some (tW,zD [((decide ((v:Int)<(N:Int)))=false),(NT 0 1),(AI ((N:Int))),(AN nb),(AP nb (aF g)),(AI ((k:Int))),(AI ((l:Int))),(AN 0),(AI ((w:Int))),(AI s),(AI 0),(AI ((nb:Int))),((0:Int)=(↑0:Int)),(AN 2),(NL 1 1)] [0,1,2,3,4,5,6,7,8,9,10,3,4,11,12,13,14,14,2,3,4]):=by kernel_rfl
theorem OC (g:Nat→aa) (nb N k l w:Nat) (s q:Int) (i:Nat) :
    zM 0 [rg 1,.dec true,rg 4,rg 13,rg 2,.head] tW (En g nb N k l w s q i) [0] 1 (En g nb N k l w s (q+CQ w (g i).1 (g i).2.1) (i+1)) =
    some (tW,[((decide ((i:Int)<(nb:Int)))=true),(IL 0 (i:Int)),(IT (i:Int) (nb:Int)),(NT 0 1),((true=true)→(AN 1)),(NT 0 1),(IL 0 ((g i).1)),(NT 0 1),(IL 0 ((g i).2.1)),(ax (q+bj BinOp.and IntKind.i64 (bj BinOp.and IntKind.i64 (bT IntKind.i64 (w:Int) (g i).1) (bT IntKind.i64 (w:Int) (g i).2.1)) 1)),(au (q+bj BinOp.and IntKind.i64 (bj BinOp.and IntKind.i64 (bT IntKind.i64 (w:Int) (g i).1) (bT IntKind.i64 (w:Int) (g i).2.1)) 1)),(ax ((i:Int)+1)),(au ((i:Int)+1)),(AI ((N:Int))),(AN nb),(AP nb (aF g)),(AI ((k:Int))),(AI ((l:Int))),(AN 0),(AI ((w:Int))),(AI s),(((q+bj BinOp.and IntKind.i64 (bj BinOp.and IntKind.i64 (bT IntKind.i64 (w:Int) (g i).1) (bT IntKind.i64 (w:Int) (g i).2.1)) 1):Int)=(q+CQ (w:Int) (g i).1 (g i).2.1)),(AN nb),(AP nb (aF g)),(AI ((nb:Int))),((((i:Int)+1):Int)=(↑(i+1):Int)),(AN 2),(NL 1 1),(NL 1 1),(AI ((N:Int))),(AN nb),(AP nb (aF g))]):=by kernel_rfl
theorem KR (g:Nat→aa) (nb N k l w:Nat) (s q:Int) (i c:Nat) (f:Nat→Int) :
    zP Tryz.f29 0 [rg 1,.dec false,rg 11,.dec true,rm [(3,oc [(0,aY c f)] (.ar 1 0 0 c))] 2] tW (En g nb N k l w s q i) [481] 1 [(0,aY c f)] (.tup [.ar 1 0 0 c,jB true]) =
    some (zD (let A:Bool:=decide (q>0);[((decide ((i:Int)<(nb:Int)))=false),(AG A),((A=true)→(ax ((k:Int)*s))),((A=true)→(au ((k:Int)*s))),((A=true)→(ax ((k:Int)*s - (l:Int)))),((A=true)→(au ((k:Int)*s - (l:Int)))),((bif A then decide (q>(k:Int)*s - (l:Int)) else false)=true),(NT 0 1),zE 69 [jI (w:Int),jI (N:Int)] [(0,⟨false,1,c,(fun i_1=>[.p (.int .i64 (f i_1))])⟩)] (.ar 1 0 0 c),(AN 0),(AN c),(true=true),(AN 1),(NL c c),(AA c (fun i_1=>[.p (.int .i64 (f i_1))])),(AE c)]) [0,1,1,2,3,1,1,4,5,1,1,1,6,7,8,9,10,11,12,13,14,15]):=by kernel_rfl
theorem Od (g:Nat→aa) (nb N k l w:Nat) (s q:Int) (i:Nat) :
    zM 0 [rg 1,.dec false,rg 11,.dec false,rg 3,.head] tW (En g nb N k l w s q i) [0] 1 (E6 g nb N k l (w+1)) =
    some (yx,zD (let A:Bool:=decide (q>0);[((decide ((i:Int)<(nb:Int)))=false),(AG A),((A=true)→(ax ((k:Int)*s))),((A=true)→(au ((k:Int)*s))),((A=true)→(ax ((k:Int)*s - (l:Int)))),((A=true)→(au ((k:Int)*s - (l:Int)))),((bif A then decide (q>(k:Int)*s - (l:Int)) else false)=false),(ax ((w:Int)+1)),(au ((w:Int)+1)),(AI ((N:Int))),(AN nb),(AP nb (aF g)),(AI ((k:Int))),(AI ((l:Int))),(AN 0),((((w:Int)+1):Int)=(↑(w+1):Int)),(AN 2),(NL 1 1)]) [0,1,1,2,3,1,1,4,5,1,1,1,6,7,8,9,10,11,12,13,14,15,16,17,17,9,10,11]):=by kernel_rfl
theorem Mz (g:Nat→aa) (nb N k l c:Nat) (f:Nat→Int) (d:Bool) :
    zS Tryz.f97 [rg 2,rm [(3,oc [(0,aY c f)] (.tup [.ar 1 0 0 c,jB d]))] 5,rm [(1,oc [] (jB true)),(3,oc [] (jB true))] 6] [bi g nb N,jI k,jI l] [] [] (jB (!d)) =
    some (zD (let A:Bool:=bif true then true else false;[(NT 0 1),zE 29 [(ak N nb g),jI (k:Int),jI (l:Int)] [(0,⟨false,1,c,(fun i=>[.p (.int .i64 (f i))])⟩)] (.tup [.ar 1 0 0 c,jB d]),zE 23 [(ak N nb g)] [] (jB true),(AG true),((true=true)→zE 68 [jI (k:Int),jI (l:Int)] [] (jB true)),(AG A),((bif A then !d else false)=(!d))]) [0,1,0,2,3,3,4,3,5,5,6]):=by kernel_rfl
theorem wx (x y:Nat) (hx:x<2 ^ 62) (hy:y<2 ^ 62):bj .and .i64 (x:Int) (y:Int)=((x &&& y:Nat):Int):=by
  unfold bj
  have e1:(BitVec.ofInt IntKind.i64.bits (x:Int) &&& BitVec.ofInt IntKind.i64.bits (y:Int)).toNat=x &&& y:=by
    rw [BitVec.toNat_and]
    show (BitVec.ofInt 64 (x:Int)).toNat &&& (BitVec.ofInt 64 (y:Int)).toNat=_
    rw [u0,u0,BitVec.toNat_ofNat,BitVec.toNat_ofNat,Nat.mod_eq_of_lt (by omega),Nat.mod_eq_of_lt (by omega)]
  simp only [e1]
  have:x &&& y≤x:=Nat.and_le_left
  exact ew (by simp only [lv];omega) (by simp only [jF];omega)
theorem vE (x:Nat) (hx:x<2 ^ 62):bj .and .i64 (x:Int) 1=if x.testBit 0 then 1 else 0:=by
  rw [show (1:Int)=((1:Nat):Int) from rfl,wx x 1 hx (by omega),Nat.and_one_is_mod,Nat.testBit_zero]
  rcases Nat.mod_two_eq_zero_or_one x with h | h<;>simp [h]
theorem Cu (m i:Nat) (hm:m<2 ^ 62) (hi:i<62):DC (m:Int) (i:Int)=if gl (m:Int) (i:Int) then 1 else 0:=by
  rw [lS m i hm hi]
  unfold DC
  have:=Nat.shiftRight_le m i
  rw [lN m i hi,vE _ (by omega),Nat.testBit_shiftRight]
  simp
theorem Cl (m a b:Nat) (hm:m<2 ^ 62) (ha:a<62) (hb:b<62):CQ (m:Int) (a:Int) (b:Int)=if (gl (m:Int) (a:Int)&&gl (m:Int) (b:Int)) then 1 else 0:=by
  rw [lS m a hm ha,lS m b hm hb]
  unfold CQ
  have h1:=Nat.shiftRight_le m a
  have h2:=Nat.shiftRight_le m b
  have h3:(m >>> a) &&& (m >>> b)≤m >>> a:=Nat.and_le_left
  rw [lN m a ha,lN m b hb,wx _ _ (by omega) (by omega),vE _ (by omega),Nat.testBit_and,Nat.testBit_shiftRight,Nat.testBit_shiftRight]
  simp
def bK (p:Nat→Bool):Nat→ad
  | 0=>(0,fun _=>0)
  | i+1=>if p i=true then ((bK p i).1+1,fun s=>if s<(bK p i).1 then (bK p i).2 s else i) else bK p i
theorem rf (p:Nat→Bool):∀ i,(bK p i).1≤i
  | 0=>Nat.le_refl _
  | i+1=>by
    have:=rf p i
    simp only [bK]
    split
    · show (bK p i).1+1≤i+1;omega
    · omega
theorem mn {p:Nat→Bool} {i:Nat} (h:p i=true):bK p (i+1)=((bK p i).1+1,fun s=>if s<(bK p i).1 then (bK p i).2 s else i):=by simp [bK,h]
theorem ml {p:Nat→Bool} {i:Nat} (h:p i=false):bK p (i+1)=bK p i:=by simp [bK,h]
theorem mC (f g:Nat→Int) (x:Int):∀ n,(∀ i,i<n→f i=g i)→a0 f x n=a0 g x n
  | 0,_=>rfl
  | n+1,h=>by simp only [a0,mC f g x n (fun i hi=>h i (by omega)),h n (by omega)]
theorem mX (w:Nat) (x:Int):∀ i,a0 (bD w i).2 x (bD w i).1=(decide (0≤x∧x<i)&&gl w x)
  | 0=>by
    have:decide (0≤x∧x<((0:Nat):Int))=false:=decide_eq_false (by omega)
    rw [this];rfl
  | i+1=>by
    have ih:=mX w x i
    by_cases hx:x=i
    · subst hx
      have h1:decide (0≤(i:Int)∧(i:Int)<(i:Int))=false:=decide_eq_false (by omega)
      have h2:decide (0≤(i:Int)∧(i:Int)<((i+1:Nat):Int))=true:=decide_eq_true (by omega)
      rw [h1] at ih
      rw [h2]
      cases hb:gl w i with
      | true =>
        rw [show bD w (i+1)=((bD w i).1+1,fun s=>if s<(bD w i).1 then (bD w i).2 s else i) by simp [bD,hb]]
        simp [a0]
      | false =>
        rw [show bD w (i+1)=bD w i by simp [bD,hb]]
        rw [ih];rfl
    · have h1:decide (0≤x∧x<((i+1:Nat):Int))=decide (0≤x∧x<(i:Int)):=by
        rw [decide_eq_decide];omega
      rw [h1,← ih]
      cases hb:gl w i with
      | true =>
        rw [show bD w (i+1)=((bD w i).1+1,fun s=>if s<(bD w i).1 then (bD w i).2 s else i) by simp [bD,hb]]
        simp only [a0,Nat.lt_irrefl,if_false]
        rw [show (((i:Nat):Int)==x)=false from beq_eq_false_iff_ne.2 (fun h=>hx h.symm),Bool.or_false]
        exact mC _ _ x _ (fun j hj=>by simp only [hj,if_true])
      | false=>rw [show bD w (i+1)=bD w i by simp [bD,hb]]
theorem wN (Q:Nat→Int) (e:Nat):∀ m,Cp Q m→a0 Q (e:Int) m=decide (e∈qL Q m)
  | 0,_=>by simp [a0,qL]
  | m+1,h=>by
    have h0:=h m (by omega)
    rw [a0,wN Q e m (fun j hj=>h j (by omega)),qL,Bool.eq_iff_iff]
    simp only [Bool.or_eq_true,decide_eq_true_eq,beq_iff_eq,List.mem_append,List.mem_singleton]
    constructor
    · rintro (h1 | h1)
      · exact .inl h1
      · right;omega
    · rintro (h1 | h1)
      · exact .inl h1
      · right;omega
noncomputable def sZ (N k l:Nat) (g:Nat→aa) (nb:Nat) (e:Nat):Bool:=!decide (e∈aK N k l g nb)
theorem mD {N nb:Nat} {g:Nat→aa} (hg:ah ((N:Int),(nb,g),())=true) (k l:Nat) (hk:1≤k∧k≤3) (hl:l+1≤2*k) :
    zE 11 [bi g nb N,.p (.int .i64 k),.p (.int .i64 l)] [(0,aY (bK (sZ N k l g nb) nb).1 (bK (sZ N k l g nb) nb).2)] (.ar 1 0 0 (bK (sZ N k l g nb) nb).1):=by
  obtain ⟨hN,hnb,hok⟩:=aB hg
  obtain ⟨m,F,T,Q,hrun,hm,hn,hq⟩:=fq hg k l hk hl
  generalize hp:sZ N k l g nb=p
  have hpe:∀ e,a0 Q (e:Nat) m=!p e:=by
    intro e
    rw [wN Q e m hn,hq,← hp]
    simp [sZ]
  refine aW Tryz.func11 (fun c hc=>?_)
  generalize hR:bK p nb=R
  have lo:∀ d i,i+d=nb→zR c 11 uJ (Dv g nb N k l m F T Q i (bK p i).1 (bK p i).2) (aS c [(0,aY R.1 R.2)] (.ar 1 0 0 R.1)):=by
    intro d
    induction d with
    | zero =>
      intro i hi
      obtain rfl:i=nb:=by omega
      have hd:decide ((i:Int)<(i:Int))=false:=by simp
      rw [hR]
      refine be Tryz.func11 hc (L6 g i N k l m F T Q i R.1 R.2) ?_
      and_intros
      all_goals (first | exact zN | (rw [hd];rfl) | (intro t ht;simp [af]))
    | succ d ih =>
      intro i hi
      have hd:decide ((i:Int)<(nb:Int))=true:=decide_eq_true (by omega)
      have hrec:=ih (i+1) (by omega)
      have hc1:=xV (m,Q) (i:Nat) (by show m≤1048576;omega)
      have hfn:=rf p i
      rw [show a0 (m,Q).2 (i:Nat) (m,Q).1=!p i from hpe i] at hc1
      cases hb:p i with
      | true =>
        rw [hb] at hc1
        rw [mn hb] at hrec
        generalize bK p i=q at hfn hrec ⊢
        refine a9 hc (M8 g nb N k l m F T Q i q.1 q.2) ?_ hrec
        and_intros
        all_goals (first | exact zN | (rw [hd];rfl) | (exact hc1) | (simp;done) | (simp;omega) | (intro t ht;by_cases h':t<q.1<;>(simp [h',ay,bh,tg,bu,af];done)) | (intro t ht;simp [af]))
      | false =>
        rw [hb] at hc1
        rw [ml hb] at hrec
        generalize bK p i=q at hfn hrec ⊢
        refine a9 hc (MT g nb N k l m F T Q i q.1 q.2) ?_ hrec
        and_intros
        all_goals (first | exact zN | (rw [hd];rfl) | (exact hc1) | (simp;done) | (simp;omega) | (intro t ht;simp [af]))
  refine a9 hc (K2 g nb N k l m F T Q) ?_ (lo nb 0 (by omega))
  and_intros
  all_goals (first | exact zI | (exact hrun) | (simp;done) | (intro t ht;exact absurd ht (Nat.not_lt_zero _)) | (intro t ht;simp [af]))
def pj (g:Nat→aa) (w:Nat) (e:Nat):Bool:=gl w (g e).1&&gl w (g e).2.1
def yG (g:Nat→aa) (nb N k l w:Nat):Bool :=
  bif decide (((bK (pj g w) nb).1:Int)>0) then decide (((bK (pj g w) nb).1:Int)>(k:Int)*((bD w N).1:Int) - (l:Int)) else false
def mz (g:Nat→aa) (nb N k l:Nat):Nat→Nat→ad×Bool
  | 0,_=>((0,fun _=>0),false)
  | d+1,w=>if yG g nb N k l w=true then (bD w N,true) else mz g nb N k l d (w+1)
theorem FW {k s:Nat} (hk:k≤3) (hs:s≤8):0≤(k:Int)*(s:Int)∧(k:Int)*(s:Int)≤24:=by
  have:k*s≤3*8:=Nat.mul_le_mul hk hs
  rw [← Int.natCast_mul]
  omega
theorem mI {N nb:Nat} {g:Nat→aa} (hg:ah ((N:Int),(nb,g),())=true) (k l:Nat) (hk:1≤k∧k≤3) (hl:l+1≤2*k) {R:ad×Bool} (hR:mz g nb N k l (2 ^ N - 1) 1=R) :
    zE 29 [bi g nb N,.p (.int .i64 k),.p (.int .i64 l)] [(0,aY R.1.1 R.1.2)] (.tup [.ar 1 0 0 R.1.1,.p (.bool R.2)]):=by
  obtain ⟨hN,hnb,hok⟩:=aB hg
  have hsm:cP a6 ((N:Int),(nb,g),()):=⟨by simp [cP,j0],⟨by show nb≤1048576;omega,fun i hi=>by simp [cP,j0]⟩,True.intro⟩
  have hcg:=aQ ((N:Int),(nb,g),()) hsm
  rw [hg] at hcg
  have hr:=dr k l hk hl
  have hP:2 ^ N≤2 ^ 8:=Nat.pow_le_pow_right (by omega) hN.2
  have hP1:1≤2 ^ N:=Nat.one_le_two_pow
  have hsh:=Cm N (by omega)
  refine aW Tryz.func29 (fun c hc=>?_)
  generalize hG:(aS c [(0,aY R.1.1 R.1.2)] (.tup [.ar 1 0 0 R.1.1,.p (.bool R.2)]))=G
  have l2:∀ w,w<2 ^ N→(yG g nb N k l w=true→R=(bD w N,true))→(yG g nb N k l w=false→zR c 29 yx (E6 g nb N k l (w+1)) G) →
      ∀ d i,i+d=nb→zR c 29 tW (En g nb N k l w ((bD w N).1:Nat) ((bK (pj g w) i).1:Nat) i) G:=by
    intro w hw hT hF d
    have hks:=FW (k:=k) (s:=(bD w N).1) (by omega) (by have:=rz w N;omega)
    induction d with
    | zero =>
      intro i hi
      obtain rfl:i=nb:=by omega
      have hd:decide ((i:Int)<(i:Int))=false:=by simp
      have hov:yG g i N k l w=(bif decide (((bK (pj g w) i).1:Int)>0) then decide (((bK (pj g w) i).1:Int)>(k:Int)*((bD w N).1:Int) - (l:Int)) else false):=rfl
      cases hb:yG g i N k l w with
      | true =>
        rw [hb] at hov
        have hset:=x8 w N (by omega)
        rw [← hG,hT hb]
        clear hT hF
        generalize bD w N=q at *
        generalize bK (pj g w) i=y at *
        refine bz Tryz.func29 hc (KR g i N k l w q.1 y.1 i q.1 q.2) ?_
        and_intros
        all_goals (first | exact zI | (exact hd) | (exact hset) | (exact hov.symm) | (simp;done) | (intro _;omega) | (intro t ht;simp [af]))
      | false =>
        rw [hb] at hov
        have hrec:=hF hb
        clear hT hF
        generalize bD w N=q at *
        generalize bK (pj g w) i=y at *
        refine a9 hc (Od g i N k l w q.1 y.1 i) ?_ hrec
        and_intros
        all_goals (first | exact zI | (exact hd) | (exact hov.symm) | (simp;done) | (intro _;omega) | (simp;omega) | (intro t ht;simp [af]))
    | succ d ih =>
      intro i hi
      have hd:decide ((i:Int)<(nb:Int))=true:=decide_eq_true (by omega)
      have hrec:=ih (i+1) (by omega)
      have hbar:=hok i (by omega)
      have hfn:=rf (pj g w) i
      have hbw:CQ w (g i).1 (g i).2.1=if pj g w i then 1 else 0:=by
        have:=Cl w (g i).1.toNat (g i).2.1.toNat (by omega) (by omega) (by omega)
        rw [Int.toNat_of_nonneg (by omega),Int.toNat_of_nonneg (by omega)] at this
        exact this
      have e:((bK (pj g w) (i+1)).1:Int)=((bK (pj g w) i).1:Nat)+CQ w (g i).1 (g i).2.1:=by
        rw [hbw]
        cases hb:pj g w i with
        | true=>rw [mn hb];rfl
        | false=>rw [ml hb];simp
      rw [e] at hrec
      have hbb:0≤CQ w (g i).1 (g i).2.1∧CQ w (g i).1 (g i).2.1≤1:=by rw [hbw];split<;>omega
      have hbb2:0≤bj BinOp.and IntKind.i64 (bj BinOp.and IntKind.i64 (bT IntKind.i64 (w:Int) (g i).1) (bT IntKind.i64 (w:Int) (g i).2.1)) 1∧bj BinOp.and IntKind.i64 (bj BinOp.and IntKind.i64 (bT IntKind.i64 (w:Int) (g i).1) (bT IntKind.i64 (w:Int) (g i).2.1)) 1≤1:=hbb
      refine cW hc (OC g nb N k l w _ _ i) ?_ hrec
      and_intros
      all_goals (first | exact zI | (exact hd) | (simp;done) | omega | (simp;omega) | (intro t ht;simp [af]))
  have l1:∀ w,w<2 ^ N→(zR c 29 tW (En g nb N k l w ((bD w N).1:Nat) 0 0) G) →
      ∀ d v,v+d=N→zR c 29 zJ (GI g nb N k l w ((bD w v).1:Nat) v) G:=by
    intro w hw hnx d
    induction d with
    | zero =>
      intro v hv
      obtain rfl:v=N:=by omega
      have hd:decide ((v:Int)<(v:Int))=false:=by simp
      refine a9 hc (NV g nb v k l w _ v) ?_ hnx
      and_intros
      all_goals (first | exact zN | (exact hd) | (simp;done) | (simp;omega) | (intro t ht;simp [af]))
    | succ d ih =>
      intro v hv
      have hd:decide ((v:Int)<(N:Int))=true:=decide_eq_true (by omega)
      have hrec:=ih (v+1) (by omega)
      have hsn:=rz w v
      have hbv:=Cu w v (by omega) (by omega)
      have e:((bD w (v+1)).1:Int)=((bD w v).1:Nat)+DC w v:=by
        rw [hbv]
        cases hb:gl w v with
        | true=>simp [bD,hb]
        | false=>simp [bD,hb]
      rw [e] at hrec
      have hbb:0≤DC w v∧DC w v≤1:=by rw [hbv];split<;>omega
      have hbb2:0≤bj BinOp.and IntKind.i64 (bT IntKind.i64 (w:Int) (v:Int)) 1∧bj BinOp.and IntKind.i64 (bT IntKind.i64 (w:Int) (v:Int)) 1≤1:=hbb
      refine a9 hc (Ni g nb N k l w _ v) ?_ hrec
      and_intros
      all_goals (first | exact zN | (exact hd) | (simp;done) | omega | (simp;omega) | (intro t ht;simp [af]))
  have lo:∀ d w,w+d=2 ^ N→mz g nb N k l d w=R→zR c 29 yx (E6 g nb N k l w) G:=by
    intro d
    induction d with
    | zero =>
      intro w hw hRw
      have hd:decide ((w:Int)<qE IntKind.i64 1 (N:Int))=false:=by rw [hsh];exact decide_eq_false (by omega)
      rw [← hG,← hRw]
      refine be Tryz.func29 hc (LP g nb N k l w) ?_
      and_intros
      all_goals (first | exact zN | (exact hd) | (intro t ht;exact absurd ht (Nat.not_lt_zero _)) | (simp;done))
    | succ d ih =>
      intro w hw hRw
      have hd:decide ((w:Int)<qE IntKind.i64 1 (N:Int))=true:=by rw [hsh];exact decide_eq_true (by omega)
      rw [mz] at hRw
      have hnx:=l2 w (by omega) (fun hb=>by rw [if_pos hb] at hRw;exact hRw.symm) (fun hb=>ih (w+1) (by omega) (by rw [hb] at hRw;simpa using hRw)) nb 0 (by omega)
      have hny:=l1 w (by omega) hnx N 0 (by omega)
      refine a9 hc (Ng g nb N k l w) ?_ hny
      and_intros
      all_goals (first | exact zN | (exact hd) | (simp;done) | (intro t ht;simp [af]))
  refine a9 hc (NR g nb N k l) ?_ (lo (2 ^ N - 1) 1 (by omega) hR)
  and_intros
  all_goals (first | exact zH | (exact hcg) | (intro _;exact hr) | (simp;done) | (intro t ht;simp [af]))
theorem so {N nb:Nat} {g:Nat→aa} (hg:ah ((N:Int),(nb,g),())=true) (k l:Nat) (hk:1≤k∧k≤3) (hl:l+1≤2*k) {R:ad×Bool} (hR:mz g nb N k l (2 ^ N - 1) 1=R) :
    zE 97 [bi g nb N,.p (.int .i64 k),.p (.int .i64 l)] [] (.p (.bool (!R.2))):=by
  obtain ⟨hN,hnb,hok⟩:=aB hg
  have hsm:cP a6 ((N:Int),(nb,g),()):=⟨by simp [cP,j0],⟨by show nb≤1048576;omega,fun i hi=>by simp [cP,j0]⟩,True.intro⟩
  have h1:=aQ ((N:Int),(nb,g),()) hsm
  rw [hg] at h1
  have h3:=dr k l hk hl
  have h5:=mI hg k l hk hl hR
  refine aW Tryz.func97 (fun c hc=>?_)
  refine bz Tryz.func97 hc (Mz g nb N k l R.1.1 R.1.2 R.2) ?_
  and_intros
  all_goals (first | exact zI | (exact h5) | (exact h1) | (intro _;exact h3) | (simp;done))
def z5:Ob:=⟨true,5,1,fun _=>[.p (.int .i64 0),.p (.int .i64 0),.p (.int .i64 0),.p (.int .i64 0),.p (.int .i64 0)]⟩
def E8 (g:Nat→aa) (nb N v:Nat):St :=
  ⟨[bi g nb N,.pt 2 0 0 0,.pt 2 1 0 0,.pt 5 2 0 0,.p (.bool false)]++List.replicate 10 ag++[.p (.int .i64 N),.p (.int .i64 v)]++List.replicate 100 ag,[(0,lz g nb N),(1,z2),(2,z5)],3⟩
def BC (g:Nat→aa) (nb N v:Nat):St :=
  ⟨[bi g nb N,.pt 2 0 0 0,.pt 2 1 0 0,.pt 5 2 0 0,.p (.bool false)]++List.replicate 34 ag++[.p (.int .i64 N),.p (.int .i64 v)]++List.replicate 76 ag,[(0,lz g nb N),(1,z2),(2,z5)],3⟩
def Ia:AV:=.tup [.agg [.p .any,.p .any],.agg [.p .any,.p .any,.p .any,.p .any,.p .any],.p (.bool false)]
theorem Nc (g:Nat→aa) (nb N k l:Nat) :
    zS Tryz.f97 [rg 2,rm [(3,oc [(0,aY 0 (fun _=>0))] (.tup [.ar 1 0 0 0,jB false]))] 5,rm [(1,oc [] (jB false)),(3,oc [] (jB true))] 6] [bi g nb N,jI k,jI l] [] [] (jB false) =
    some (zD (let A:Bool:=bif false then true else false;[(NT 0 1),zE 29 [(ak N nb g),jI (k:Int),jI (l:Int)] [(0,⟨false,1,0,(fun i=>[.p (.int .i64 0)])⟩)] (.tup [.ar 1 0 0 0,jB false]),zE 23 [(ak N nb g)] [] (jB false),(AG false),((false=true)→zE 68 [jI (k:Int),jI (l:Int)] [] (jB true)),(AG A),((bif A then !false else false)=false)]) [0,1,0,2,3,3,4,3,5,5,6]):=by kernel_rfl
theorem MZ (g:Nat→aa) (nb N:Nat) :
    zT Tryz.f61 [rg 4,rg 3,.head] [bi g nb N] [0,32,64] (E8 g nb N 0) =
    some (w4,zD [(NT 0 1),(AI ((N:Int))),(AN nb),(AP nb (aF g)),(AN 0),(false=false),((0:Int)=(↑0:Int)),((([AV.p (PV.int IntKind.i64 (N:Int)),b4 g nb].length):Nat)=2),(NL 1 1),((((List.map (fun v=>AV.p (bZ v)) [Value.int IntKind.i64 0,Value.slice none 0 0]).length):Nat)=2),(AI 0),((((List.map (fun v=>AV.p (bZ v)) [Value.int IntKind.i64 0,Value.int IntKind.i64 0,Value.int IntKind.i64 0,Value.int IntKind.i64 0,Value.int IntKind.i64 0]).length):Nat)=5)] [0,1,2,3,4,4,4,5,1,6,7,8,8,1,2,3,9,8,8,10,11,8,8,10,10,10,10,10]):=by kernel_rfl
theorem MP (g:Nat→aa) (nb N v:Nat) (d:Nat) (h:Nat→aa) (e:Nat) (f:Nat→Int) :
    zP Tryz.f61 0 [rg 1,.dec true,rg 2,rm [(2,oc [(0,aj d h),(1,aY e f)] (.tup [.agg [jI N,.ar 2 0 0 d],.ar 1 1 0 e]))] 6,rg 3,.dec true,rg 12] w4 (E8 g nb N v) [163] 1 [(0,aj d h)] (.tup [.agg [jI N,.ar 2 0 0 d],.agg [jI 1,jI v,jI (f 0),jI (f 1),jI 0],jB true]) =
    some (zD [((decide ((v:Int)<(N:Int)))=true),(NT 0 1),zE 94 [(ak N nb g),jI (v:Int)] (Ep d h e f) (.tup [.agg [jI (N:Int),.ar 2 0 0 d],.ar 1 1 0 e]),((true=true)→(AN 1)),(((e:Int)==2)=true),(IL 0 0),(IT 0 (e:Int)),(NT 0 e),(IL 0 1),(IT 1 (e:Int)),(NT 1 e),(AI ((N:Int))),(AN 0),(AN d),(AI 1),(AI ((v:Int))),(AI ((f 0))),(AI ((f 1))),(AI 0),(true=true),(AN 2),(NL d d),(AA d (fun i=>[.p (.int .i64 ((h i).1)),.p (.int .i64 ((h i).2.1))])),(AE d)] [0,1,2,1,3,4,1,5,6,7,8,9,10,1,3,1,3,1,1,11,12,13,14,15,16,17,18,19,20,21,22,23]):=by kernel_rfl
theorem Nb (g:Nat→aa) (nb N v:Nat) (d:Nat) (h:Nat→aa) (e:Nat) (f:Nat→Int) :
    zM 0 [rg 1,.dec true,rg 2,rm [(2,oc [(0,aj d h),(1,aY e f)] (.tup [.agg [jI N,.ar 2 0 0 d],.ar 1 1 0 e]))] 6,rg 3,.dec false,rg 2,.head] w4 (E8 g nb N v) [0,1,2] 1 (E8 g nb N (v+1)) =
    some (w4,zD [((decide ((v:Int)<(N:Int)))=true),(NT 0 1),zE 94 [(ak N nb g),jI (v:Int)] (Ep d h e f) (.tup [.agg [jI (N:Int),.ar 2 0 0 d],.ar 1 1 0 e]),((true=true)→(AN 1)),(((e:Int)==2)=false),(ax ((v:Int)+1)),(au ((v:Int)+1)),(AI ((N:Int))),(AN nb),(AP nb (aF g)),(AN 0),(false=false),((((v:Int)+1):Int)=(↑(v+1):Int)),(AN 2),(NL 1 1),(AI 0),(AN 5)] [0,1,2,1,3,4,5,6,7,8,9,10,10,10,11,7,12,13,14,14,7,8,9,13,14,14,15,16,14,14,15,15,15,15,15]):=by kernel_rfl
theorem KC (g:Nat→aa) (nb N v:Nat) :
    zM 0 [rg 1,.dec false,rg 3,.head] w4 (E8 g nb N v) [0,1,2] 1 (BC g nb N 0) =
    some (n4,zD [((decide ((v:Int)<(N:Int)))=false),(NT 0 1),(AI ((N:Int))),(AN nb),(AP nb (aF g)),(AN 0),(false=false),((0:Int)=(↑0:Int)),(AN 2),(NL 1 1),(AI 0),(AN 5)] [0,1,2,3,4,5,5,5,6,2,7,8,9,9,2,3,4,8,9,9,10,11,9,9,10,10,10,10,10]):=by kernel_rfl
theorem KI (g:Nat→aa) (nb N v:Nat) (d:Nat) (h:Nat→aa) (e:Nat) (f:Nat→Int) :
    zM 0 [rg 1,.dec true,rg 2,rm [(2,oc [(0,aj d h),(1,aY e f)] (.tup [.agg [jI N,.ar 2 0 0 d],.ar 1 1 0 e]))] 6,rg 3,.dec true,rg 2,.head] n4 (BC g nb N v) [0,1,2] 1 (BC g nb N (v+1)) =
    some (n4,zD [((decide ((v:Int)<(N:Int)))=true),(NT 0 1),zE 94 [(ak N nb g),jI (v:Int)] (Ep d h e f) (.tup [.agg [jI (N:Int),.ar 2 0 0 d],.ar 1 1 0 e]),((true=true)→(AN 1)),(((e:Int) != 3)=true),(ax ((v:Int)+1)),(au ((v:Int)+1)),(AI ((N:Int))),(AN nb),(AP nb (aF g)),(AN 0),(false=false),((((v:Int)+1):Int)=(↑(v+1):Int)),(AN 2),(NL 1 1),(AI 0),(AN 5)] [0,1,2,1,3,4,5,6,7,8,9,10,10,10,11,7,12,13,14,14,7,8,9,13,14,14,15,16,14,14,15,15,15,15,15]):=by kernel_rfl
theorem K5 (g:Nat→aa) (nb N v:Nat) :
    zP Tryz.f61 0 [rg 1,.dec false,rg 5] n4 (BC g nb N v) [] 1 [] Ia =
    some (zD [((decide ((v:Int)<(N:Int)))=false),(NT 0 1),((true=true)→(AN 1)),(false=false)] [0,1,2,1,2,1,1,3]):=by kernel_rfl
theorem Jf (g:Nat→aa) (nb N v:Nat) (d:Nat) (h:Nat→aa) (f:Nat→Int) (r0:Nat→aa) :
    zP Tryz.f61 0 [rg 1,.dec true,rg 2,rm [(2,oc [(0,aj d h),(1,aY 3 f)] (.tup [.agg [jI N,.ar 2 0 0 d],.ar 1 1 0 3]))] 6,rg 3,.dec false,rg 33,.loop,rg 1,.dec true,rg 4,rm [(5,oc [] (jZ (aD (f 0) (f 1)))),(1,oc [(0,aj (d+1) r0)] (.agg [jI N,.ar 2 0 0 (d+1)]))] 2,rm [(1,oc [] (jB true))] 0,.dec true,rg 18] n4 (BC g nb N v) [1923] 1 [(0,aj (d+1) r0)] (.tup [.agg [jI N,.ar 2 0 0 (d+1)],.agg [jI 2,jI v,jI ((aD (f 0) (f 1)).1),jI ((aD (f 0) (f 1)).2.1),jI (f 2)],jB true]) =
    some (zD [((decide ((v:Int)<(N:Int)))=true),(NT 0 1),zE 94 [(ak N nb g),jI (v:Int)] (B6 d h f) ((wt N d)),((true=true)→(AN 1)),(((↑3:Int) != 3)=false),(IL 0 0),(IT 0 (↑3:Int)),(NT 0 3),(IL 0 1),(IT 1 (↑3:Int)),(NT 1 3),(IL 0 2),(IT 2 (↑3:Int)),(NT 2 3),((decide (0<(↑3:Int)))=true),zE 96 [jI (f 0),jI (f 1)] [] ((vQ f)),(AN 2),(NL d d),(NL 1 1),zE 95 [(ak N d h),.p (.seq true 2 1 (fun i=>[.int .i64 (if f 1<f 0 then f 1 else f 0),.int .i64 (if f 1>f 0 then f 1 else f 0)]))] (iT d r0) (.agg [jI (N:Int),.ar 2 0 0 (d+1)]),(NL (d+1) (d+1)),zE 97 [(jv N d r0),jI 2,jI 3] [] (jB true),(true=true),(AI ((N:Int))),(AN 0),(AN ((d+1))),(AI 2),(AI ((v:Int))),(((if false=true then if f 1>f 0 then f 1 else f 0 else if f 1<f 0 then f 1 else f 0):Int)=(if f 1<f 0 then f 1 else f 0)),(((if true=true then if f 1>f 0 then f 1 else f 0 else if f 1<f 0 then f 1 else f 0):Int)=(if f 1>f 0 then f 1 else f 0)),(AI ((f 2))),(AA ((d+1)) (fun i=>[.p (.int .i64 ((r0 i).1)),.p (.int .i64 ((r0 i).2.1))])),(AE ((d+1)))] [0,1,2,1,3,4,5,6,7,8,9,10,11,12,13,8,9,10,11,12,13,5,6,7,11,12,13,5,6,7,8,9,10,14,5,6,7,1,3,1,5,6,1,8,9,1,15,16,17,16,18,19,1,3,1,16,20,21,22,1,5,6,1,8,9,1,5,6,1,8,9,1,11,12,1,1,3,1,3,1,1,23,24,25,26,27,28,29,30,22,16,20,31,32]):=by kernel_rfl
theorem Ii (g:Nat→aa) (nb N v:Nat) (d:Nat) (h:Nat→aa) (f:Nat→Int) (r0 r1:Nat→aa) :
    zP Tryz.f61 0 [rg 1,.dec true,rg 2,rm [(2,oc [(0,aj d h),(1,aY 3 f)] (.tup [.agg [jI N,.ar 2 0 0 d],.ar 1 1 0 3]))] 6,rg 3,.dec false,rg 33,.loop,rg 1,.dec true,rg 4,rm [(5,oc [] (jZ (aD (f 0) (f 1)))),(1,oc [(0,aj (d+1) r0)] (.agg [jI N,.ar 2 0 0 (d+1)]))] 2,rm [(1,oc [] (jB false))] 0,.dec false,rg 2,.loop,rg 1,.dec true,rg 4,rm [(5,oc [] (jZ (aD (f 1) (f 2)))),(1,oc [(0,aj (d+1) r1)] (.agg [jI N,.ar 2 0 0 (d+1)]))] 2,rm [(1,oc [] (jB true))] 0,.dec true,rg 18] n4 (BC g nb N v) [2531] 1 [(0,aj (d+1) r1)] (.tup [.agg [jI N,.ar 2 0 0 (d+1)],.agg [jI 2,jI v,jI ((aD (f 1) (f 2)).1),jI ((aD (f 1) (f 2)).2.1),jI (f 0)],jB true]) =
    some (zD [((decide ((v:Int)<(N:Int)))=true),(NT 0 1),zE 94 [(ak N nb g),jI (v:Int)] (B6 d h f) ((wt N d)),((true=true)→(AN 1)),(((↑3:Int) != 3)=false),(IL 0 0),(IT 0 (↑3:Int)),(NT 0 3),(IL 0 1),(IT 1 (↑3:Int)),(NT 1 3),(IL 0 2),(IT 2 (↑3:Int)),(NT 2 3),((decide (0<(↑3:Int)))=true),zE 96 [jI (f 0),jI (f 1)] [] ((vQ f)),(AN 2),(NL d d),(NL 1 1),zE 95 [(ak N d h),.p (.seq true 2 1 (fun i=>[.int .i64 (if f 1<f 0 then f 1 else f 0),.int .i64 (if f 1>f 0 then f 1 else f 0)]))] (iT d r0) (.agg [jI (N:Int),.ar 2 0 0 (d+1)]),(NL (d+1) (d+1)),zE 97 [(jv N d r0),jI 2,jI 3] [] (jB false),(false=false),(ax (0+1)),(au (0+1)),((decide (0+1<(↑3:Int)))=true),(IL 0 (0+1)),(IT (0+1) (↑3:Int)),zE 96 [jI (f 1),jI (f 2)] [] ((zc f)),zE 95 [(ak N d h),.p (.seq true 2 1 (fun i=>[.int .i64 (if f 2<f 1 then f 2 else f 1),.int .i64 (if f 2>f 1 then f 2 else f 1)]))] (iT d r1) (.agg [jI (N:Int),.ar 2 0 0 (d+1)]),zE 97 [(jv N d r1),jI 2,jI 3] [] (jB true),(true=true),(AI ((N:Int))),(AN 0),(AN ((d+1))),(AI 2),(AI ((v:Int))),(((if false=true then if f 2>f 1 then f 2 else f 1 else if f 2<f 1 then f 2 else f 1):Int)=(if f 2<f 1 then f 2 else f 1)),(((if true=true then if f 2>f 1 then f 2 else f 1 else if f 2<f 1 then f 2 else f 1):Int)=(if f 2>f 1 then f 2 else f 1)),(AI ((f 0))),(AA ((d+1)) (fun i=>[.p (.int .i64 ((r1 i).1)),.p (.int .i64 ((r1 i).2.1))])),(AE ((d+1)))] [0,1,2,1,3,4,5,6,7,8,9,10,11,12,13,8,9,10,11,12,13,5,6,7,11,12,13,5,6,7,8,9,10,14,5,6,7,1,3,1,5,6,1,8,9,1,15,16,17,16,18,19,1,3,1,16,20,21,22,23,24,25,26,27,10,1,3,1,5,6,1,8,9,1,28,16,17,16,18,29,1,3,1,16,20,30,31,1,5,6,1,8,9,1,5,6,1,8,9,1,11,12,1,1,3,1,3,1,1,32,33,34,35,36,37,38,39,31,16,20,40,41]):=by kernel_rfl
theorem IG (g:Nat→aa) (nb N v:Nat) (d:Nat) (h:Nat→aa) (f:Nat→Int) (r0 r1 r2:Nat→aa) :
    zP Tryz.f61 0 [rg 1,.dec true,rg 2,rm [(2,oc [(0,aj d h),(1,aY 3 f)] (.tup [.agg [jI N,.ar 2 0 0 d],.ar 1 1 0 3]))] 6,rg 3,.dec false,rg 33,.loop,rg 1,.dec true,rg 4,rm [(5,oc [] (jZ (aD (f 0) (f 1)))),(1,oc [(0,aj (d+1) r0)] (.agg [jI N,.ar 2 0 0 (d+1)]))] 2,rm [(1,oc [] (jB false))] 0,.dec false,rg 2,.loop,rg 1,.dec true,rg 4,rm [(5,oc [] (jZ (aD (f 1) (f 2)))),(1,oc [(0,aj (d+1) r1)] (.agg [jI N,.ar 2 0 0 (d+1)]))] 2,rm [(1,oc [] (jB false))] 0,.dec false,rg 2,.loop,rg 1,.dec true,rg 4,rm [(5,oc [] (jZ (aD (f 2) (f 0)))),(1,oc [(0,aj (d+1) r2)] (.agg [jI N,.ar 2 0 0 (d+1)]))] 2,rm [(1,oc [] (jB true))] 0,.dec true,rg 18] n4 (BC g nb N v) [3139] 1 [(0,aj (d+1) r2)] (.tup [.agg [jI N,.ar 2 0 0 (d+1)],.agg [jI 2,jI v,jI ((aD (f 2) (f 0)).1),jI ((aD (f 2) (f 0)).2.1),jI (f 1)],jB true]) =
    some (zD [((decide ((v:Int)<(N:Int)))=true),(NT 0 1),zE 94 [(ak N nb g),jI (v:Int)] (B6 d h f) ((wt N d)),((true=true)→(AN 1)),(((↑3:Int) != 3)=false),(IL 0 0),(IT 0 (↑3:Int)),(NT 0 3),(IL 0 1),(IT 1 (↑3:Int)),(NT 1 3),(IL 0 2),(IT 2 (↑3:Int)),(NT 2 3),((decide (0<(↑3:Int)))=true),zE 96 [jI (f 0),jI (f 1)] [] ((vQ f)),(AN 2),(NL d d),(NL 1 1),zE 95 [(ak N d h),.p (.seq true 2 1 (fun i=>[.int .i64 (if f 1<f 0 then f 1 else f 0),.int .i64 (if f 1>f 0 then f 1 else f 0)]))] (iT d r0) (.agg [jI (N:Int),.ar 2 0 0 (d+1)]),(NL (d+1) (d+1)),zE 97 [(jv N d r0),jI 2,jI 3] [] (jB false),(false=false),(ax (0+1)),(au (0+1)),((decide (0+1<(↑3:Int)))=true),(IL 0 (0+1)),(IT (0+1) (↑3:Int)),zE 96 [jI (f 1),jI (f 2)] [] ((zc f)),zE 95 [(ak N d h),.p (.seq true 2 1 (fun i=>[.int .i64 (if f 2<f 1 then f 2 else f 1),.int .i64 (if f 2>f 1 then f 2 else f 1)]))] (iT d r1) (.agg [jI (N:Int),.ar 2 0 0 (d+1)]),zE 97 [(jv N d r1),jI 2,jI 3] [] (jB false),(ax (0+1+1)),(au (0+1+1)),((decide (0+1+1<(↑3:Int)))=true),(IL 0 (0+1+1)),(IT (0+1+1) (↑3:Int)),zE 96 [jI (f 2),jI (f 0)] [] (.agg [jI (if f 0<f 2 then f 0 else f 2),jI (if f 0>f 2 then f 0 else f 2)]),zE 95 [(ak N d h),.p (.seq true 2 1 (fun i=>[.int .i64 (if f 0<f 2 then f 0 else f 2),.int .i64 (if f 0>f 2 then f 0 else f 2)]))] (iT d r2) (.agg [jI (N:Int),.ar 2 0 0 (d+1)]),zE 97 [(jv N d r2),jI 2,jI 3] [] (jB true),(true=true),(AI ((N:Int))),(AN 0),(AN ((d+1))),(AI 2),(AI ((v:Int))),(((if false=true then if f 0>f 2 then f 0 else f 2 else if f 0<f 2 then f 0 else f 2):Int)=(if f 0<f 2 then f 0 else f 2)),(((if true=true then if f 0>f 2 then f 0 else f 2 else if f 0<f 2 then f 0 else f 2):Int)=(if f 0>f 2 then f 0 else f 2)),(AI ((f 1))),(AA ((d+1)) (fun i=>[.p (.int .i64 ((r2 i).1)),.p (.int .i64 ((r2 i).2.1))])),(AE ((d+1)))] [0,1,2,1,3,4,5,6,7,8,9,10,11,12,13,8,9,10,11,12,13,5,6,7,11,12,13,5,6,7,8,9,10,14,5,6,7,1,3,1,5,6,1,8,9,1,15,16,17,16,18,19,1,3,1,16,20,21,22,23,24,25,26,27,10,1,3,1,5,6,1,8,9,1,28,16,17,16,18,29,1,3,1,16,20,30,22,31,32,33,34,35,13,1,3,1,5,6,1,8,9,1,36,16,17,16,18,37,1,3,1,16,20,38,39,1,5,6,1,8,9,1,5,6,1,8,9,1,11,12,1,1,3,1,3,1,1,40,41,42,43,44,45,46,47,39,16,20,48,49]):=by kernel_rfl
theorem Nt (g:Nat→aa) (nb N v:Nat) (d:Nat) (h:Nat→aa) (f:Nat→Int) (r0 r1 r2:Nat→aa) :
    zM 0 [rg 1,.dec true,rg 2,rm [(2,oc [(0,aj d h),(1,aY 3 f)] (.tup [.agg [jI N,.ar 2 0 0 d],.ar 1 1 0 3]))] 6,rg 3,.dec false,rg 33,.loop,rg 1,.dec true,rg 4,rm [(5,oc [] (jZ (aD (f 0) (f 1)))),(1,oc [(0,aj (d+1) r0)] (.agg [jI N,.ar 2 0 0 (d+1)]))] 2,rm [(1,oc [] (jB false))] 0,.dec false,rg 2,.loop,rg 1,.dec true,rg 4,rm [(5,oc [] (jZ (aD (f 1) (f 2)))),(1,oc [(0,aj (d+1) r1)] (.agg [jI N,.ar 2 0 0 (d+1)]))] 2,rm [(1,oc [] (jB false))] 0,.dec false,rg 2,.loop,rg 1,.dec true,rg 4,rm [(5,oc [] (jZ (aD (f 2) (f 0)))),(1,oc [(0,aj (d+1) r2)] (.agg [jI N,.ar 2 0 0 (d+1)]))] 2,rm [(1,oc [] (jB false))] 0,.dec false,rg 2,.loop,rg 1,.dec false,rg 2,.head] n4 (BC g nb N v) [0,1,2] 1 (BC g nb N (v+1)) =
    some (n4,zD [((decide ((v:Int)<(N:Int)))=true),(NT 0 1),zE 94 [(ak N nb g),jI (v:Int)] (B6 d h f) ((wt N d)),((true=true)→(AN 1)),(((↑3:Int) != 3)=false),(IL 0 0),(IT 0 (↑3:Int)),(NT 0 3),(IL 0 1),(IT 1 (↑3:Int)),(NT 1 3),(IL 0 2),(IT 2 (↑3:Int)),(NT 2 3),((decide (0<(↑3:Int)))=true),zE 96 [jI (f 0),jI (f 1)] [] ((vQ f)),(AN 2),(NL d d),(NL 1 1),zE 95 [(ak N d h),.p (.seq true 2 1 (fun i=>[.int .i64 (if f 1<f 0 then f 1 else f 0),.int .i64 (if f 1>f 0 then f 1 else f 0)]))] (iT d r0) (.agg [jI (N:Int),.ar 2 0 0 (d+1)]),(NL (d+1) (d+1)),zE 97 [(jv N d r0),jI 2,jI 3] [] (jB false),(false=false),(ax (0+1)),(au (0+1)),((decide (0+1<(↑3:Int)))=true),(IL 0 (0+1)),(IT (0+1) (↑3:Int)),zE 96 [jI (f 1),jI (f 2)] [] ((zc f)),zE 95 [(ak N d h),.p (.seq true 2 1 (fun i=>[.int .i64 (if f 2<f 1 then f 2 else f 1),.int .i64 (if f 2>f 1 then f 2 else f 1)]))] (iT d r1) (.agg [jI (N:Int),.ar 2 0 0 (d+1)]),zE 97 [(jv N d r1),jI 2,jI 3] [] (jB false),(ax (0+1+1)),(au (0+1+1)),((decide (0+1+1<(↑3:Int)))=true),(IL 0 (0+1+1)),(IT (0+1+1) (↑3:Int)),zE 96 [jI (f 2),jI (f 0)] [] (.agg [jI (if f 0<f 2 then f 0 else f 2),jI (if f 0>f 2 then f 0 else f 2)]),zE 95 [(ak N d h),.p (.seq true 2 1 (fun i=>[.int .i64 (if f 0<f 2 then f 0 else f 2),.int .i64 (if f 0>f 2 then f 0 else f 2)]))] (iT d r2) (.agg [jI (N:Int),.ar 2 0 0 (d+1)]),zE 97 [(jv N d r2),jI 2,jI 3] [] (jB false),(ax (0+1+1+1)),(au (0+1+1+1)),((decide (0+1+1+1<(↑3:Int)))=false),(ax ((v:Int)+1)),(au ((v:Int)+1)),(AI ((N:Int))),(AN nb),(AP nb (aF g)),(AN 0),((((v:Int)+1):Int)=(↑(v+1):Int)),(AI 0),(AN 5)] [0,1,2,1,3,4,5,6,7,8,9,10,11,12,13,8,9,10,11,12,13,5,6,7,11,12,13,5,6,7,8,9,10,14,5,6,7,1,3,1,5,6,1,8,9,1,15,16,17,16,18,19,1,3,1,16,20,21,22,23,24,25,26,27,10,1,3,1,5,6,1,8,9,1,28,16,17,16,18,29,1,3,1,16,20,30,22,31,32,33,34,35,13,1,3,1,5,6,1,8,9,1,36,16,17,16,18,37,1,3,1,16,20,38,22,39,40,41,42,43,44,45,46,47,47,47,22,44,48,16,18,18,44,45,46,16,18,18,49,50,18,18,49,49,49,49,49]):=by kernel_rfl
theorem M4 (g:Nat→aa) (nb N k l:Nat) :
    zS Tryz.f29 [rg 3,rm [(1,oc [] (jB false)),(4,oc [] (jB true))] 2,.dec true,rg 3] [bi g nb N,jI k,jI l] [384] [(0,aY 0 (fun _=>0))] (.tup [.ar 1 0 0 0,jB false]) =
    some [(NT 0 1),zE 23 [(ak N nb g)] [] (jB false),(AG (!!false)),(AG (!!false)),(((!!false)=true)→zE 68 [jI (k:Int),jI (l:Int)] [] (jB true)),(AG (!!false)),(((!false)=false)→((!!false)=true)),((bif !false then true else !true)=true),(AN 0),(AN 0),(false=false),(AN 1),(NL 0 0),(AA 0 (fun i=>[.p (.int .i64 0)])),(AE 0)]:=by kernel_rfl
noncomputable def lB (N:Nat) (D:NB):Bool:=bif ah ((N:Int),(D.1,D.2),()) then !(mz D.2 D.1 N 2 3 (2 ^ N - 1) 1).2 else false
theorem mJ (N:Nat) (D:NB) (hn:D.1≤1000) :
    zE 97 [bi D.2 D.1 N,.p (.int .i64 2),.p (.int .i64 3)] [] (.p (.bool (lB N D))):=by
  cases hg:ah ((N:Int),(D.1,D.2),()) with
  | true =>
    rw [show lB N D=!(mz D.2 D.1 N 2 3 (2 ^ N - 1) 1).2 by unfold lB;rw [hg];rfl]
    exact so hg 2 3 (by omega) (by omega) rfl
  | false =>
    rw [show lB N D=false by unfold lB;rw [hg];rfl]
    obtain ⟨n,h⟩:=D
    have hsm:cP a6 ((N:Int),(n,h),()):=⟨by simp [cP,j0],⟨by show n≤1048576;exact Nat.le_trans hn (by omega),fun i hi=>by simp [cP,j0]⟩,True.intro⟩
    have h1:=aQ ((N:Int),(n,h),()) hsm
    have h3:=dr 2 3 (by omega) (by omega)
    rw [show ah ((N:Int),(n,h),())=false from hg] at h1
    have h5:zE 29 [bi h n N,.p (.int .i64 (2:Nat)),.p (.int .i64 (3:Nat))] [(0,aY 0 (fun _=>0))] (.tup [.ar 1 0 0 0,.p (.bool false)]):=by
      refine aW Tryz.func29 (fun c hc=>?_)
      refine be Tryz.func29 hc (M4 h n N 2 3) ?_
      and_intros
      all_goals (first | exact zH | (exact h1) | (intros;exact h3) | (simp;done))
    refine aW Tryz.func97 (fun c hc=>?_)
    refine bz Tryz.func97 hc (Nc h n N 2 3) ?_
    and_intros
    all_goals (first | exact zI | (exact h5) | (exact h1) | (intros;exact h3) | (simp;done))
noncomputable def uP (D:NB) (x:aa):NB:=(D.1+1,df (D.1+1) (aZ D.1 D.2 x))
noncomputable def d9 (N:Nat) (D:NB) (v:Nat) (a b c:Int):Option (NB×ap) :=
  bif lB N (uP D (aD a b)) then some (uP D (aD a b),(2,v,(aD a b).1,(aD a b).2.1,c,())) else none
noncomputable def dU (N:Nat) (D:NB) (F:ad) (v:Nat):Option (NB×ap) :=
  if F.1=3 then (d9 N D v (F.2 0) (F.2 1) (F.2 2)).or ((d9 N D v (F.2 1) (F.2 2) (F.2 0)).or (d9 N D v (F.2 2) (F.2 0) (F.2 1))) else none
def gi (D:NB) (F:ad) (v:Nat):Option (NB×ap) :=
  if F.1=2 then some (D,(1,v,F.2 0,F.2 1,0,())) else none
def b7 {α:Type} (F:Nat→Option α):Nat→Nat→Option α
  | 0,_=>none
  | d+1,v=>(F v).or (b7 F d (v+1))
noncomputable def ja (N:Nat) (g:Nat→aa) (nb:Nat):Option (NB×ap) :=
  (b7 (fun v=>gi (ba g v nb) (bq g v nb) v) N 0).or (b7 (fun v=>dU N (ba g v nb) (bq g v nb) v) N 0)
def uH:Option (NB×ap)→Hp
  | none=>[]
  | some u=>[(0,aj u.1.1 u.1.2)]
def uR (N:Nat):Option (NB×ap)→AV
  | none=>Ia
  | some u=>.tup [.agg [.p (.int .i64 N),.ar 2 0 0 u.1.1],.agg [.p (.int .i64 u.2.1),.p (.int .i64 u.2.2.1),.p (.int .i64 u.2.2.2.1),.p (.int .i64 u.2.2.2.2.1),.p (.int .i64 u.2.2.2.2.2.1)],.p (.bool true)]
theorem Ex {N v:Nat} {D:NB} {F:ad} (h:F.1≠3):dU N D F v=none:=by unfold dU;rw [if_neg h]
theorem EF {N v:Nat} {D:NB} {f:Nat→Int} (h:lB N (uP D (aD (f 0) (f 1)))=true):dU N D (3,f) v=some (uP D (aD (f 0) (f 1)),(2,(v:Int),(aD (f 0) (f 1)).1,(aD (f 0) (f 1)).2.1,f 2,())):=by
  unfold dU d9;rw [if_pos rfl];simp only [h,cond_true,Option.some_or]
theorem Dt {N v:Nat} {D:NB} {f:Nat→Int} (h0:lB N (uP D (aD (f 0) (f 1)))=false) (h:lB N (uP D (aD (f 1) (f 2)))=true):dU N D (3,f) v=some (uP D (aD (f 1) (f 2)),(2,(v:Int),(aD (f 1) (f 2)).1,(aD (f 1) (f 2)).2.1,f 0,())):=by
  unfold dU d9;rw [if_pos rfl];simp only [h0,h,cond_true,cond_false,Option.some_or,Option.none_or]
theorem EC {N v:Nat} {D:NB} {f:Nat→Int} (h0:lB N (uP D (aD (f 0) (f 1)))=false) (h1:lB N (uP D (aD (f 1) (f 2)))=false) (h:lB N (uP D (aD (f 2) (f 0)))=true):dU N D (3,f) v=some (uP D (aD (f 2) (f 0)),(2,(v:Int),(aD (f 2) (f 0)).1,(aD (f 2) (f 0)).2.1,f 1,())):=by
  unfold dU d9;rw [if_pos rfl];simp only [h0,h1,h,cond_true,cond_false,Option.none_or]
theorem DQ {N v:Nat} {D:NB} {f:Nat→Int} (h0:lB N (uP D (aD (f 0) (f 1)))=false) (h1:lB N (uP D (aD (f 1) (f 2)))=false) (h:lB N (uP D (aD (f 2) (f 0)))=false):dU N D (3,f) v=none:=by
  unfold dU d9;rw [if_pos rfl];simp only [h0,h1,h,cond_false,Option.none_or]
theorem pK {N nb:Nat} {g:Nat→aa} (hg:ah ((N:Int),(nb,g),())=true) :
    zE 61 [bi g nb N] (uH (ja N g nb)) (uR N (ja N g nb)):=by
  obtain ⟨hN,hnb,hok⟩:=aB hg
  have hw:∀ v:Nat,v<N→zE 94 [bi g nb N,.p (.int .i64 v)] [(0,aj (ba g v nb).1 (ba g v nb).2),(1,aY (bq g v nb).1 (bq g v nb).2)] (.tup [.agg [.p (.int .i64 N),.ar 2 0 0 (ba g v nb).1],.ar 1 1 0 (bq g v nb).1]):=fun v hv=>rP hok (u9 hg) hN.2 hnb v (by omega)
  have hn:∀ v:Nat,(bq g v nb).1+(ba g v nb).1=nb:=fun v=>iM g v nb
  refine aW Tryz.func61 (fun c hc=>?_)
  have l1:∀ d v,v+d=N→zR c 61 n4 (BC g nb N v) (aS c (uH (b7 (fun v=>dU N (ba g v nb) (bq g v nb) v) d v)) (uR N (b7 (fun v=>dU N (ba g v nb) (bq g v nb) v) d v))):=by
    intro d
    induction d with
    | zero =>
      intro v hv
      have hd:decide ((v:Int)<(N:Int))=false:=decide_eq_false (by omega)
      refine bz Tryz.func61 hc (K5 g nb N v) ?_
      and_intros
      all_goals (first | exact zI | (exact hd))
    | succ d ih =>
      intro v hv
      have hd:decide ((v:Int)<(N:Int))=true:=decide_eq_true (by omega)
      have hr:=ih (v+1) (by omega)
      have h1:=hw v (by omega)
      have h2:=hn v
      rw [show b7 (fun v=>dU N (ba g v nb) (bq g v nb) v) (d+1) v=(dU N (ba g v nb) (bq g v nb) v).or (b7 (fun v=>dU N (ba g v nb) (bq g v nb) v) d (v+1)) from rfl]
      generalize b7 (fun v=>dU N (ba g v nb) (bq g v nb) v) d (v+1)=Q at hr ⊢
      generalize ba g v nb=D at h1 h2 ⊢
      generalize bq g v nb=F at h1 h2 ⊢
      obtain ⟨e,f⟩:=F
      by_cases he:e=3
      · subst he
        have hdn:D.1≤24:=by simp at h2;omega
        have b0:=lG (f 0) (f 1)
        have b1:=lG (f 1) (f 2)
        have b2:=lG (f 2) (f 0)
        have w0:=gQ N D.1 D.2 (aD (f 0) (f 1)) (by omega)
        have w1:=gQ N D.1 D.2 (aD (f 1) (f 2)) (by omega)
        have w2:=gQ N D.1 D.2 (aD (f 2) (f 0)) (by omega)
        have s0:=mJ N (uP D (aD (f 0) (f 1))) (by show D.1+1≤1000;omega)
        have s1:=mJ N (uP D (aD (f 1) (f 2))) (by show D.1+1≤1000;omega)
        have s2:=mJ N (uP D (aD (f 2) (f 0))) (by show D.1+1≤1000;omega)
        cases h0:lB N (uP D (aD (f 0) (f 1))) with
        | true =>
          rw [h0] at s0
          rw [EF h0,Option.some_or]
          refine bz Tryz.func61 hc (Jf g nb N v D.1 D.2 f (uP D (aD (f 0) (f 1))).2) ?_
          and_intros
          all_goals (first | exact zI | (exact hd) | (exact h1) | (exact b0) | (exact w0) | (exact s0) | (simp;done) | (intro t ht;simp [af];done))
        | false =>
          rw [h0] at s0
          cases h3:lB N (uP D (aD (f 1) (f 2))) with
          | true =>
            rw [h3] at s1
            rw [Dt h0 h3,Option.some_or]
            refine bz Tryz.func61 hc (Ii g nb N v D.1 D.2 f (uP D (aD (f 0) (f 1))).2 (uP D (aD (f 1) (f 2))).2) ?_
            and_intros
            all_goals (first | exact zI | (exact hd) | (exact h1) | (exact b0) | (exact w0) | (exact s0) | (exact b1) | (exact w1) | (exact s1) | (simp;done) | (intro t ht;simp [af];done))
          | false =>
            rw [h3] at s1
            cases h4:lB N (uP D (aD (f 2) (f 0))) with
            | true =>
              rw [h4] at s2
              rw [EC h0 h3 h4,Option.some_or]
              refine bz Tryz.func61 hc (IG g nb N v D.1 D.2 f (uP D (aD (f 0) (f 1))).2 (uP D (aD (f 1) (f 2))).2 (uP D (aD (f 2) (f 0))).2) ?_
              and_intros
              all_goals (first | exact zI | (exact hd) | (exact h1) | (exact b0) | (exact w0) | (exact s0) | (exact b1) | (exact w1) | (exact s1) | (exact b2) | (exact w2) | (exact s2) | (simp;done) | (intro t ht;simp [af];done))
            | false =>
              rw [h4] at s2
              rw [DQ h0 h3 h4,Option.none_or]
              refine a9 hc (Nt g nb N v D.1 D.2 f (uP D (aD (f 0) (f 1))).2 (uP D (aD (f 1) (f 2))).2 (uP D (aD (f 2) (f 0))).2) ?_ hr
              and_intros
              all_goals (first | exact zI | (exact hd) | (exact h1) | (exact b0) | (exact w0) | (exact s0) | (exact b1) | (exact w1) | (exact s1) | (exact b2) | (exact w2) | (exact s2) | (simp;done) | (intro t ht;simp [af];done))
      · rw [Ex (show (e,f).1≠3 from he),Option.none_or]
        have hx:(!((e:Int)==3))=true:=by simp;omega
        refine a9 hc (KI g nb N v D.1 D.2 e f) ?_ hr
        and_intros
        all_goals (first | exact zI | (exact hd) | (exact h1) | (exact hx) | (simp;omega) | (simp;done) | (intro t ht;simp [af];done))
  have hr1:=l1 N 0 (by omega)
  unfold ja
  generalize b7 (fun v=>dU N (ba g v nb) (bq g v nb) v) N 0=Q at hr1 ⊢
  have l0:∀ d v,v+d=N→zR c 61 w4 (E8 g nb N v) (aS c (uH ((b7 (fun v=>gi (ba g v nb) (bq g v nb) v) d v).or Q)) (uR N ((b7 (fun v=>gi (ba g v nb) (bq g v nb) v) d v).or Q))):=by
    intro d
    induction d with
    | zero =>
      intro v hv
      have hd:decide ((v:Int)<(N:Int))=false:=decide_eq_false (by omega)
      refine a9 hc (KC g nb N v) ?_ hr1
      and_intros
      all_goals (first | exact zN | (exact hd) | (simp;done) | (intro t ht;simp [af];done))
    | succ d ih =>
      intro v hv
      have hd:decide ((v:Int)<(N:Int))=true:=decide_eq_true (by omega)
      have hr:=ih (v+1) (by omega)
      have h1:=hw v (by omega)
      have h2:=hn v
      rw [show b7 (fun v=>gi (ba g v nb) (bq g v nb) v) (d+1) v=(gi (ba g v nb) (bq g v nb) v).or (b7 (fun v=>gi (ba g v nb) (bq g v nb) v) d (v+1)) from rfl,Option.or_assoc]
      generalize (b7 (fun v=>gi (ba g v nb) (bq g v nb) v) d (v+1)).or Q=Q2 at hr ⊢
      generalize ba g v nb=D at h1 h2 ⊢
      generalize bq g v nb=F at h1 h2 ⊢
      obtain ⟨e,f⟩:=F
      by_cases he:e=2
      · subst he
        rw [show gi D (2,f) v=some (D,(1,(v:Int),f 0,f 1,0,())) from rfl,Option.some_or]
        refine bz Tryz.func61 hc (MP g nb N v D.1 D.2 2 f) ?_
        and_intros
        all_goals (first | exact zI | (exact hd) | (exact h1) | (simp;done) | (intro t ht;simp [af];done))
      · rw [show gi D (e,f) v=none by unfold gi;rw [if_neg he],Option.none_or]
        have hx:((e:Int)==2)=false:=by simp;omega
        refine a9 hc (Nb g nb N v D.1 D.2 e f) ?_ hr
        and_intros
        all_goals (first | exact zI | (exact hd) | (exact h1) | (exact hx) | (simp;omega) | (simp;done) | (intro t ht;simp [af];done))
  refine a9 hc (MZ g nb N) ?_ (l0 N 0 (by omega))
  and_intros
  all_goals (first | exact zN | (simp;done) | (intro t ht;simp [af];done))
def dZ (n:Nat) (f:Nat→ap):Ob:=⟨false,5,n,fun i=>[.p (.int .i64 (f i).1),.p (.int .i64 (f i).2.1),.p (.int .i64 (f i).2.2.1),.p (.int .i64 (f i).2.2.2.1),.p (.int .i64 (f i).2.2.2.2.1)]⟩
def NC (t:Bool) (h:Nat→aa) (n N:Nat):Ob:=⟨true,2,1,fun _=>[.p (.int .i64 N),.p (.seq t 2 n (fun i=>[.int .i64 (h i).1,.int .i64 (h i).2.1]))]⟩
def qn:ap:=(0,0,0,0,0,())
def Bz (c:Nat) (S:Nat→ap) (x:ap) (i:Nat):ap:=(if i<c then (S i).1 else x.1,if i<c then (S i).2.1 else x.2.1,if i<c then (S i).2.2.1 else x.2.2.1,if i<c then (S i).2.2.2.1 else x.2.2.2.1,if i<c then (S i).2.2.2.2.1 else x.2.2.2.2.1,())
def oG (S:Nat→ap) (x:ap) (i:Nat):ap:=(if i<1 then x.1 else (S (i - 1)).1,if i<1 then x.2.1 else (S (i - 1)).2.1,if i<1 then x.2.2.1 else (S (i - 1)).2.2.1,if i<1 then x.2.2.2.1 else (S (i - 1)).2.2.2.1,if i<1 then x.2.2.2.2.1 else (S (i - 1)).2.2.2.2.1,())
def yI (f:Nat→ap) (i j:Int) (s:Nat):ap:=if s=j.toNat then f i.toNat else if s=i.toNat then f j.toNat else f s
def F6 (n:Nat) (f:Nat→ap) (i j:Int):St:=⟨[.ar 5 0 0 n,.p .any,.p (.int .i64 i),.p (.int .i64 j)]++List.replicate 24 ag,[(0,dZ n f)],1⟩
def Eb (t:Bool) (N n:Nat) (h:Nat→aa) (c:Nat) (S:Nat→ap):St:=⟨[.p .any,.pt 2 0 0 0,.p .any,.p .any,.ar 5 1 0 c]++List.replicate 49 ag,[(0,NC t h n N),(1,dZ c S)],2⟩
def JS (c:Nat) (S:Nat→ap):St:=⟨[.p .any,.p .any,.p .any,.p .any,.ar 5 0 0 c]++List.replicate 49 ag,[(0,dZ c S)],1⟩
def Oy (x:ap):AV:=.agg [.p (.int .i64 x.1),.p (.int .i64 x.2.1),.p (.int .i64 x.2.2.1),.p (.int .i64 x.2.2.2.1),.p (.int .i64 x.2.2.2.2.1)]
def ec (h:Nat→aa):ap:=(0,0,(h 0).1,(h 0).2.1,0,())
theorem K6 (n:Nat) (f:Nat→ap) :
    zM 1 [rg 5,.head] [.code (ab Tryz.f62)] (start Tryz.f62 [(0,dZ n f)] 1 [.ar 5 0 0 n]) [0] 1 (F6 n f 0 ((n:Int) - 1)) =
    some (qN,[(ax ((n:Int) - 1)),(au ((n:Int) - 1)),(AN 0),(AN n),(AI 0),(AI (((n:Int) - 1))),(AN 5),(NL n n),(AA n (fun i=>[.p (.int .i64 ((f i).1)),.p (.int .i64 ((f i).2.1)),.p (.int .i64 ((f i).2.2.1)),.p (.int .i64 ((f i).2.2.2.1)),.p (.int .i64 ((f i).2.2.2.2.1))]))]):=by kernel_rfl
theorem Oo (n:Nat) (f:Nat→ap) (i j:Int) :
    zM 1 [rg 3,.dec true,rg 16,rg 6,.head] qN (F6 n f i j) [0] 1 (F6 n (yI f i j) (i+1) (j - 1)) =
    some (qN,zD [((decide (i<j))=true),(IL 0 j),(IT j (n:Int)),(NT j.toNat n),(IL 0 i),(IT i (n:Int)),(NT i.toNat n),((false=true)→((n:Nat)=1)),(ax (i+1)),(au (i+1)),(ax (j - 1)),(au (j - 1)),(AN 0),(AN n),(AI ((i+1))),(AI ((j - 1))),(AN 5),(NL n n),(CV [(0,⟨false,5,n,(fun i_2=>(if (i_2=j.toNat) then [.p (.int .i64 ((f i.toNat).1)),.p (.int .i64 ((f i.toNat).2.1)),.p (.int .i64 ((f i.toNat).2.2.1)),.p (.int .i64 ((f i.toNat).2.2.2.1)),.p (.int .i64 ((f i.toNat).2.2.2.2.1))] else (if (i_2=i.toNat) then [.p (.int .i64 ((f j.toNat).1)),.p (.int .i64 ((f j.toNat).2.1)),.p (.int .i64 ((f j.toNat).2.2.1)),.p (.int .i64 ((f j.toNat).2.2.2.1)),.p (.int .i64 ((f j.toNat).2.2.2.2.1))] else [.p (.int .i64 ((f i_2).1)),.p (.int .i64 ((f i_2).2.1)),.p (.int .i64 ((f i_2).2.2.1)),.p (.int .i64 ((f i_2).2.2.2.1)),.p (.int .i64 ((f i_2).2.2.2.2.1))])))⟩)] [0] 1 n (fun i_1=>if (i_1=j.toNat) then [.p (.int .i64 ((f i.toNat).1)),.p (.int .i64 ((f i.toNat).2.1)),.p (.int .i64 ((f i.toNat).2.2.1)),.p (.int .i64 ((f i.toNat).2.2.2.1)),.p (.int .i64 ((f i.toNat).2.2.2.2.1))] else (if (i_1=i.toNat) then [.p (.int .i64 ((f j.toNat).1)),.p (.int .i64 ((f j.toNat).2.1)),.p (.int .i64 ((f j.toNat).2.2.1)),.p (.int .i64 ((f j.toNat).2.2.2.1)),.p (.int .i64 ((f j.toNat).2.2.2.2.1))] else [.p (.int .i64 ((f i_1).1)),.p (.int .i64 ((f i_1).2.1)),.p (.int .i64 ((f i_1).2.2.1)),.p (.int .i64 ((f i_1).2.2.2.1)),.p (.int .i64 ((f i_1).2.2.2.2.1))])) (fun i_1=>[.p (.int .i64 ((yI f i j i_1).1)),.p (.int .i64 ((yI f i j i_1).2.1)),.p (.int .i64 ((yI f i j i_1).2.2.1)),.p (.int .i64 ((yI f i j i_1).2.2.2.1)),.p (.int .i64 ((yI f i j i_1).2.2.2.2.1))]))] [0,1,2,3,4,5,6,4,5,6,7,1,2,3,7,8,9,10,11,12,13,14,15,16,17,18]):=by kernel_rfl
theorem JY (n:Nat) (f r:Nat→ap) (i j:Int) :
    zP Tryz.f62 1 [rg 3,.dec false] qN (F6 n f i j) [0] 1 [(0,dZ n r)] (.tup []) =
    some [((decide (i<j))=false),(AN 5),(NL n n),(∀ i_1:Nat,(((i_1:Nat)<n)→(af []∧(([.p (.int .i64 ((f i_1).1)),.p (.int .i64 ((f i_1).2.1)),.p (.int .i64 ((f i_1).2.2.1)),.p (.int .i64 ((f i_1).2.2.2.1)),.p (.int .i64 ((f i_1).2.2.2.2.1))]:List AV)=[.p (.int .i64 ((r i_1).1)),.p (.int .i64 ((r i_1).2.1)),.p (.int .i64 ((r i_1).2.2.1)),.p (.int .i64 ((r i_1).2.2.2.1)),.p (.int .i64 ((r i_1).2.2.2.2.1))])))),(AE n)]:=by kernel_rfl
theorem Mb (g:Nat→aa) (nb N:Nat) (b:Bool) :
    zS Tryz.f25 [rg 3,rm [(1,oc [] (jB b))] 7,.dec true,rg 3] [bi g nb N] [384] [(0,dZ 0 (fun _=>qn))] (.tup [.ar 5 0 0 0,jB false]) =
    some [(NT 0 1),zE 60 [(ak N nb g)] [] (jB b),(AG (!!b)),(((!!b)=true)→(NT 0 1)),(AG (!!b)),(AG (!!b)),(((!b)=false)→((!!b)=true)),((bif !b then true else (nb:Int)==0)=true),(AN 0),(AN 0),(false=false),(AN 5),(NL 0 0),(AA 0 (fun i=>[.p (.int .i64 0),.p (.int .i64 0),.p (.int .i64 0),.p (.int .i64 0),.p (.int .i64 0)])),(AE 0)]:=by kernel_rfl
theorem No (g:Nat→aa) (nb N:Nat) (b:Bool) :
    zT Tryz.f25 [rg 3,rm [(1,oc [] (jB b))] 7,.dec false,rg 2,.head] [bi g nb N] [0,384] (Eb true N nb g 0 (fun _=>qn)) =
    some (ve,[(NT 0 1),zE 60 [(ak N nb g)] [] (jB b),(AG (!!b)),(((!!b)=true)→(NT 0 1)),(AG (!!b)),(AG (!!b)),(((!b)=false)→((!!b)=true)),((bif !b then true else (nb:Int)==0)=false),(AN 0),(AN 0),(AN 0),((([AV.p (PV.int IntKind.i64 (N:Int)),b4 g nb].length):Nat)=2),(NL 1 1),(NL 1 1),(AI ((N:Int))),(AN nb),(AP nb (aF g)),(AN 5),(NL 0 0),(AA 0 (fun i=>[.p (.int .i64 0),.p (.int .i64 0),.p (.int .i64 0),.p (.int .i64 0),.p (.int .i64 0)]))]):=by kernel_rfl
theorem Mq (t:Bool) (N n:Nat) (h:Nat→aa) (c:Nat) (S:Nat→ap) :
    zP Tryz.f25 0 [rg 4,.dec true,rm [(1,oc [] Ia)] 9,rg 2,.dec true,rg 3] ve (Eb t N n h c S) [546] 1 [(0,dZ 0 (fun _=>qn))] (.tup [.ar 5 0 0 0,jB false]) =
    some (zD [(NT 0 1),((decide ((n:Int)>1))=true),zE 61 [(ak N n h)] [] (.tup [.agg [.p .any,.p .any],.agg [.p .any,.p .any,.p .any,.p .any,.p .any],jB false]),((true=true)→(AN 1)),((!false)=true),(AN 0),(false=false),(AN 5),(NL 0 0),(AA 0 (fun i=>[.p (.int .i64 0),.p (.int .i64 0),.p (.int .i64 0),.p (.int .i64 0),.p (.int .i64 0)])),(AE 0)] [0,1,0,2,0,3,0,3,4,5,5,6,7,8,9,10]):=by kernel_rfl
theorem Lq (t:Bool) (N n:Nat) (h:Nat→aa) (c:Nat) (S:Nat→ap) (d:Nat) (r:Nat→aa) (x:ap) :
    zM 0 [rg 4,.dec true,rm [(1,oc [(0,aj d r)] (.tup [.agg [jI N,.ar 2 0 0 d],Oy x,jB true]))] 9,rg 2,.dec false,rg 5,rg 2,.head] ve (Eb t N n h c S) [0,642] 1 (Eb false N d r (c+1) (Bz c S x)) =
    some (ve,zD [(NT 0 1),((decide ((n:Int)>1))=true),zE 61 [(ak N n h)] (bg d r) (.tup [.agg [jI (N:Int),.ar 2 0 0 d],.agg [jI x.1,jI x.2.1,jI x.2.2.1,jI x.2.2.2.1,jI x.2.2.2.2.1],jB true]),((true=true)→(AN 1)),((!true)=false),(NL 1 1),(NL c c),(NL ((c+1)*40) 140737488355328),(NL (c+1) 9223372036854775807),(AN 0),(AN ((c+1))),(AN 2),(NL d d),(AI ((N:Int))),(AN d),(AP d (aF r)),(AN 5),(NL (c+1) (c+1)),(CV [(0,⟨true,2,1,(fun i_1=>[.p (.int .i64 (N:Int)),.ar 2 162 0 d])⟩),(642,⟨false,5,(c+1),(fun i_1=>(if (i_1<c) then [.p (.int .i64 ((S i_1).1)),.p (.int .i64 ((S i_1).2.1)),.p (.int .i64 ((S i_1).2.2.1)),.p (.int .i64 ((S i_1).2.2.2.1)),.p (.int .i64 ((S i_1).2.2.2.2.1))] else [.p (.int .i64 x.1),.p (.int .i64 x.2.1),.p (.int .i64 x.2.2.1),.p (.int .i64 x.2.2.2.1),.p (.int .i64 x.2.2.2.2.1)]))⟩),(610,⟨false,5,1,(fun i_1=>[.p (.int .i64 x.1),.p (.int .i64 x.2.1),.p (.int .i64 x.2.2.1),.p (.int .i64 x.2.2.2.1),.p (.int .i64 x.2.2.2.2.1)])⟩),(354,⟨true,5,1,(fun i_1=>[.p (.int .i64 x.1),.p (.int .i64 x.2.1),.p (.int .i64 x.2.2.1),.p (.int .i64 x.2.2.2.1),.p (.int .i64 x.2.2.2.2.1)])⟩),(322,⟨true,2,1,(fun i_1=>[.p (.int .i64 (N:Int)),.ar 2 162 0 d])⟩),(162,⟨false,2,d,(fun i_1=>[.p (.int .i64 ((r i_1).1)),.p (.int .i64 ((r i_1).2.1))])⟩)] [0,642] 1 (c+1) (fun i=>if (i<c) then [.p (.int .i64 ((S i).1)),.p (.int .i64 ((S i).2.1)),.p (.int .i64 ((S i).2.2.1)),.p (.int .i64 ((S i).2.2.2.1)),.p (.int .i64 ((S i).2.2.2.2.1))] else [.p (.int .i64 x.1),.p (.int .i64 x.2.1),.p (.int .i64 x.2.2.1),.p (.int .i64 x.2.2.2.1),.p (.int .i64 x.2.2.2.2.1)]) (fun i=>[.p (.int .i64 (if i<c then (S i).1 else x.1)),.p (.int .i64 (if i<c then (S i).2.1 else x.2.1)),.p (.int .i64 (if i<c then (S i).2.2.1 else x.2.2.1)),.p (.int .i64 (if i<c then (S i).2.2.2.1 else x.2.2.2.1)),.p (.int .i64 (if i<c then (S i).2.2.2.2.1 else x.2.2.2.2.1))]))] [0,1,0,2,0,3,0,3,4,0,5,6,7,8,0,0,3,9,9,10,11,5,5,11,12,13,14,15,16,17,18]):=by kernel_rfl
theorem NI (t:Bool) (N:Nat) (h:Nat→aa) (c:Nat) (S:Nat→ap) :
    zM 0 [rg 4,.dec false,rg 15,.head] ve (Eb t N 1 h c S) [546] 1 (JS (c+1) (Bz c S (ec h))) =
    some ([.code (ao (ab Tryz.f25) [1,1,1,1,1,0]),.code (ao (ab Tryz.f25) [1,1,1,1,1,1])],[(NT 0 1),((decide ((↑1:Int)>1))=false),(NT 0 1),(IL 0 0),(IT 0 (↑1:Int)),(NT 0 1),(IL 0 0),(IT 0 (↑1:Int)),(NL 1 1),(NL c c),(NL ((c+1)*40) 140737488355328),(NL (c+1) 9223372036854775807),(AN 0),(AN ((c+1))),(AN 5),(NL (c+1) (c+1)),(CV [(546,⟨false,5,(c+1),(fun i_1=>(if (i_1<c) then [.p (.int .i64 ((S i_1).1)),.p (.int .i64 ((S i_1).2.1)),.p (.int .i64 ((S i_1).2.2.1)),.p (.int .i64 ((S i_1).2.2.2.1)),.p (.int .i64 ((S i_1).2.2.2.2.1))] else [.p (.int .i64 0),.p (.int .i64 0),.p (.int .i64 ((h 0).1)),.p (.int .i64 ((h 0).2.1)),.p (.int .i64 0)]))⟩),(514,⟨false,5,1,(fun i_1=>[.p (.int .i64 0),.p (.int .i64 0),.p (.int .i64 ((h 0).1)),.p (.int .i64 ((h 0).2.1)),.p (.int .i64 0)])⟩),(0,⟨true,2,1,(fun i_1=>[.p (.int .i64 (N:Int)),.p (.seq t 2 1 (aF h))])⟩)] [546] 1 (c+1) (fun i=>if (i<c) then [.p (.int .i64 ((S i).1)),.p (.int .i64 ((S i).2.1)),.p (.int .i64 ((S i).2.2.1)),.p (.int .i64 ((S i).2.2.2.1)),.p (.int .i64 ((S i).2.2.2.2.1))] else [.p (.int .i64 0),.p (.int .i64 0),.p (.int .i64 ((h 0).1)),.p (.int .i64 ((h 0).2.1)),.p (.int .i64 0)]) (fun i=>[.p (.int .i64 (if i<c then (S i).1 else 0)),.p (.int .i64 (if i<c then (S i).2.1 else 0)),.p (.int .i64 (if i<c then (S i).2.2.1 else (h 0).1)),.p (.int .i64 (if i<c then (S i).2.2.2.1 else (h 0).2.1)),.p (.int .i64 (if i<c then (S i).2.2.2.2.1 else 0))]))]):=by kernel_rfl
theorem Mj (c:Nat) (S r:Nat→ap) :
    zP Tryz.f25 0 [rm [(1,oq [0] [(0,dZ c r)] (.tup []))] 0,rg 3] [.code (ao (ab Tryz.f25) [1,1,1,1,1,0]),.code (ao (ab Tryz.f25) [1,1,1,1,1,1])] (JS c S) [0] 1 [(0,dZ c r)] (.tup [.ar 5 0 0 c,jB true]) =
    some [(AE c),Con Tryz.prog 62 1 (wT c S) [.ar 5 0 0 c] (wT c r) (.tup []),(AN 0),(AN c),(true=true),(AN 5),(NL c c),(AA c (fun i=>[.p (.int .i64 ((r i).1)),.p (.int .i64 ((r i).2.1)),.p (.int .i64 ((r i).2.2.1)),.p (.int .i64 ((r i).2.2.2.1)),.p (.int .i64 ((r i).2.2.2.2.1))])),(AE c)]:=by kernel_rfl
open Go Go.Sort
theorem KM (v:ai) :
    zS Tryz.f24 [rg 2,rg 8] [aJ v] [224] [(0,aj v.2.1.1 v.2.1.2)] (.agg [jI v.1,.ar 2 0 0 v.2.1.1]) =
    some [(NT 0 1),(NT 0 1),(NL 0 0),(NL ((0+v.2.1.1)*16) 140737488355328),(NL (0+v.2.1.1) 9223372036854775807),(NT 0 1),((true=true)→(AN 1)),(NT 0 1),(AI v.1),(AN 0),(((0+v.2.1.1):Nat)=v.2.1.1),(AN 2),(NL v.2.1.1 (0+v.2.1.1)),(AA v.2.1.1 (fun i=>[.p (.int .i64 ((v.2.1.2 i).1)),.p (.int .i64 ((v.2.1.2 i).2.1))])),(AE v.2.1.1)]:=by kernel_rfl
theorem nX (v:ai) (hn:v.2.1.1≤1048576):zE 24 [aJ v] [(0,aj v.2.1.1 v.2.1.2)] (.agg [.p (.int .i64 v.1),.ar 2 0 0 v.2.1.1]):=by
  refine aW Tryz.func24 (fun c hc=>?_)
  refine be Tryz.func24 hc (KM v) ?_
  and_intros
  all_goals (first | exact zI | (intro j hj;simp [af];done) | (simp;try omega))
theorem A9 (n:Nat) (f R:Nat→ap) (hn:n≤1000) (hR:∀ s,s<n→R s=f (n - 1 - s)) :
    Con Tryz.prog 62 1 [(0,dZ n f)] [.ar 5 0 0 n] [(0,dZ n R)] (.tup []):=by
  refine aW Tryz.func62 (fun c hc=>?_)
  have lo:∀ d k (h:Nat→ap),k+d=n→(∀ s,s<n→h s=if s<k∨n≤s+k then f (n - 1 - s) else f s) →
      zR c 62 qN (F6 n h k ((n:Int) - 1 - k)) (aS c [(0,dZ n R)] (.tup [])):=by
    intro d
    induction d with
    | zero =>
      intro k h hk hh
      have hd:decide ((k:Int)<(n:Int) - 1 - k)=false:=decide_eq_false (by omega)
      have he:∀ s,s<n→h s=R s:=fun s hs=>by rw [hh s hs,hR s hs,if_pos (Or.inl (by omega))]
      refine be Tryz.func62 hc (JY n h R k ((n:Int) - 1 - k)) ?_
      and_intros
      iterate 2 all_goals (first | exact zN | (exact hd) | (simp;done) | (intro t ht;rw [he t ht];simp [af];done) | simp only [af])
    | succ d ih =>
      intro k h hk hh
      by_cases hlt:(k:Int)<(n:Int) - 1 - k
      · have hd:decide ((k:Int)<(n:Int) - 1 - k)=true:=decide_eq_true hlt
        have e1:((n:Int) - 1 - k).toNat=n - 1 - k:=by omega
        have hr:=ih (k+1) (yI h k ((n:Int) - 1 - k)) (by omega) (fun s hs=>by
          unfold yI
          rw [e1,show (k:Int).toNat=k from rfl]
          by_cases h1:s=n - 1 - k
          · rw [if_pos h1,hh k (by omega),if_neg (by omega),if_pos (Or.inr (by omega)),show n - 1 - s=k by omega]
          · rw [if_neg h1]
            by_cases h2:s=k
            · rw [if_pos h2,hh _ (by omega),if_neg (by omega),if_pos (Or.inl (by omega)),h2]
            · rw [if_neg h2,hh s hs]
              by_cases h3:s<k∨n≤s+k
              · rw [if_pos h3,if_pos (by omega)]
              · rw [if_neg h3,if_neg (by omega)])
        rw [show ((n:Int) - 1 - ((k+1:Nat):Int))=(n:Int) - 1 - k - 1 by omega,show ((k+1:Nat):Int)=(k:Int)+1 by omega] at hr
        refine a9 hc (Oo n h k ((n:Int) - 1 - k)) ?_ hr
        repeat' (first | exact aN | apply aI)
        all_goals (first | exact zI | (exact hd) | (simp;omega) | (simp;done) | (intro t ht;by_cases h':t=((n:Int) - 1 - k).toNat<;>by_cases h2:t=(k:Int).toNat<;>first | (simp only [yI,if_pos h'];exact ⟨True.intro,rfl⟩) | (simp only [yI,if_neg h',if_pos h2];exact ⟨True.intro,rfl⟩) | (simp only [yI,if_neg h',if_neg h2];exact ⟨True.intro,rfl⟩)) | (intro t ht;simp [af];done))
      · have hd:decide ((k:Int)<(n:Int) - 1 - k)=false:=decide_eq_false hlt
        have he:∀ s,s<n→h s=R s:=fun s hs=>by
          rw [hh s hs,hR s hs]
          by_cases h3:s<k∨n≤s+k
          · rw [if_pos h3]
          · rw [if_neg h3,show n - 1 - s=s by omega]
        refine be Tryz.func62 hc (JY n h R k ((n:Int) - 1 - k)) ?_
        and_intros
        iterate 2 all_goals (first | exact zN | (exact hd) | (simp;done) | (intro t ht;rw [he t ht];simp [af];done) | simp only [af])
  have hr:=lo n 0 f (by omega) (fun s hs=>by rw [if_neg (by omega)])
  rw [show ((n:Int) - 1 - ((0:Nat):Int))=(n:Int) - 1 by omega] at hr
  refine cW hc (K6 n f) ?_ hr
  and_intros
  all_goals (first | exact zN | (simp;done) | (simp;omega) | (intro t ht;simp [af];done))
theorem ef {α:Type} {F:Nat→Option α} {u:α}:∀ d v,b7 F d v=some u→∃ w,F w=some u
  | 0,v,h=>by cases h
  | d+1,v,h=>by
    rw [show b7 F (d+1) v=(F v).or (b7 F d (v+1)) from rfl] at h
    cases hv:F v with
    | some x=>rw [hv,Option.some_or] at h;exact ⟨v,by rw [hv,h]⟩
    | none=>rw [hv,Option.none_or] at h;exact ef d (v+1) h
theorem kC {N:Nat} {D:NB} {v:Nat} {a b c:Int} {u:NB×ap} (h:d9 N D v a b c=some u):ah ((N:Int),(u.1.1,u.1.2),())=true∧u.1.1=D.1+1:=by
  unfold d9 at h
  cases hs:lB N (uP D (aD a b)) with
  | false=>rw [hs] at h;cases h
  | true =>
    rw [hs] at h
    simp only [cond_true,Option.some.injEq] at h
    subst h
    refine ⟨?_,rfl⟩
    cases hg:ah ((N:Int),((uP D (aD a b)).1,(uP D (aD a b)).2),()) with
    | true=>rfl
    | false=>unfold lB at hs;rw [hg] at hs;cases hs
theorem Ca {N nb:Nat} {g:Nat→aa} (hg:ah ((N:Int),(nb,g),())=true) {u:NB×ap} (h:ja N g nb=some u) :
    ah ((N:Int),(u.1.1,u.1.2),())=true∧u.1.1+2=nb:=by
  unfold ja at h
  cases h2:b7 (fun v=>gi (ba g v nb) (bq g v nb) v) N 0 with
  | some x =>
    rw [h2,Option.some_or] at h
    cases h
    obtain ⟨w,hw⟩:=ef _ _ h2
    have hn:=iM g w nb
    unfold gi at hw
    by_cases he:(bq g w nb).1=2
    · rw [if_pos he] at hw
      cases hw
      exact ⟨ol hg w,by show (ba g w nb).1+2=nb;omega⟩
    · rw [if_neg he] at hw;cases hw
  | none =>
    rw [h2,Option.none_or] at h
    obtain ⟨w,hw⟩:=ef _ _ h
    have hn:=iM g w nb
    unfold dU at hw
    by_cases he:(bq g w nb).1=3
    · rw [if_pos he] at hw
      have hx:ah ((N:Int),(u.1.1,u.1.2),())=true∧u.1.1=(ba g w nb).1+1:=by
        cases h0:d9 N (ba g w nb) w ((bq g w nb).2 0) ((bq g w nb).2 1) ((bq g w nb).2 2) with
        | some x=>rw [h0,Option.some_or] at hw;cases hw;exact kC h0
        | none =>
          rw [h0,Option.none_or] at hw
          cases h1:d9 N (ba g w nb) w ((bq g w nb).2 1) ((bq g w nb).2 2) ((bq g w nb).2 0) with
          | some x=>rw [h1,Option.some_or] at hw;cases hw;exact kC h1
          | none=>rw [h1,Option.none_or] at hw;exact kC hw
      exact ⟨hx.1,by rw [hx.2];omega⟩
    · rw [if_neg he] at hw;cases hw
noncomputable def nI (N:Nat):Nat→NB→aT→aT×Bool
  | 0,D,S=>((S.1+1,oG S.2 (ec D.2)),true)
  | m+1,D,S=>if 1<D.1 then (match ja N D.2 D.1 with
      | none=>((0,fun _=>qn),false)
      | some u=>nI N m u.1 (S.1+1,oG S.2 u.2)) else ((S.1+1,oG S.2 (ec D.2)),true)
noncomputable def pN (N nb:Nat) (g:Nat→aa):aT×Bool :=
  bif (bif !oL ((N:Int),(nb,g),()) then true else (nb:Int)==0) then ((0,fun _=>qn),false) else nI N nb (nb,g) (0,fun _=>qn)
theorem AC (N m:Nat) (D:NB) (S:aT) (h:D.1=1):nI N m D S=((S.1+1,oG S.2 (ec D.2)),true):=by
  cases m with
  | zero=>rfl
  | succ m=>rw [nI,if_neg (by omega)]
theorem GE {N m:Nat} {D:NB} {S:aT} (h:1<D.1) (hu:ja N D.2 D.1=none):nI N (m+1) D S=((0,fun _=>qn),false):=by
  rw [nI,if_pos h,hu]
theorem De {N m:Nat} {D:NB} {S:aT} {u:NB×ap} (h:1<D.1) (hu:ja N D.2 D.1=some u):nI N (m+1) D S=nI N m u.1 (S.1+1,oG S.2 u.2):=by
  rw [nI,if_pos h,hu]
theorem Dy {N nb:Nat} {g:Nat→aa} (h:(bif !oL ((N:Int),(nb,g),()) then true else (nb:Int)==0)=false):ah ((N:Int),(nb,g),())=true∧nb % 2=1:=by
  cases hm:oL ((N:Int),(nb,g),()) with
  | false=>rw [hm] at h;cases h
  | true =>
    rw [hm] at h
    have hz:¬ nb=0:=by intro hz;subst hz;simp at h
    unfold oL at hm
    cases hf:(bA ((N:Int),(nb,g),())==0) with
    | false=>rw [hf] at hm;cases hm
    | true =>
      rw [hf] at hm
      have hg:=ka hf
      refine ⟨hg,?_⟩
      have h1:(nb:Int)=(qG ((N:Int),(nb,g),()):Int):=by simpa using hm
      have h2:cC (N:Int) - (qG ((N:Int),(nb,g),()):Int)=0:=by
        have h3:bA ((N:Int),(nb,g),())=cC (N:Int) - (qG ((N:Int),(nb,g),()):Int):=by unfold bA;rw [if_pos hg]
        rw [← h3];simpa using hf
      unfold cC at h2
      split at h2<;>omega
theorem nE {c:Nat} {S:Nat→ap} {x:ap} (t:Nat):oG S x t=if t<1 then x else S (t - 1):=by
  unfold oG;split<;>rfl
theorem DS {c:Nat} {S:Nat→ap} {x:ap} (t:Nat):Bz c S x t=if t<c then S t else x:=by
  unfold Bz;split<;>rfl
theorem yV {c:Nat} {S S':Nat→ap} (h:∀ i,i<c→S i=S' (c - 1 - i)) (x:ap):∀ i,i<c+1→oG S x i=Bz c S' x (c+1 - 1 - i):=by
  intro i hi
  rw [nE (c:=0),DS]
  by_cases h0:i<1
  · rw [if_pos h0,if_neg (by omega)]
  · rw [if_neg h0,if_pos (by omega),h (i - 1) (by omega),show c - 1 - (i - 1)=c+1 - 1 - i by omega]
theorem fV {N nb:Nat} {g:Nat→aa} (hsm:nb≤1048576) :
    zE 25 [bi g nb N] [(0,dZ (pN N nb g).1.1 (pN N nb g).1.2)] (.tup [.ar 5 0 0 (pN N nb g).1.1,.p (.bool (pN N nb g).2)]):=by
  have hs:cP a6 ((N:Int),(nb,g),()):=⟨by simp [cP,j0],⟨hsm,fun i hi=>by simp [cP,j0]⟩,True.intro⟩
  have cm:=qS ((N:Int),(nb,g),()) hs
  refine aW Tryz.func25 (fun c hc=>?_)
  cases hb:(bif !oL ((N:Int),(nb,g),()) then true else (nb:Int)==0) with
  | true =>
    rw [show pN N nb g=((0,fun _=>qn),false) by unfold pN;rw [hb];rfl]
    refine be Tryz.func25 hc (Mb g nb N (oL ((N:Int),(nb,g),()))) ?_
    and_intros
    all_goals (first | exact zH | (exact cm) | (exact hb) | (intro h;simpa using h) | (simp;done))
  | false =>
    rw [show pN N nb g=nI N nb (nb,g) (0,fun _=>qn) by unfold pN;rw [hb];rfl]
    obtain ⟨hg,ho⟩:=Dy hb
    have hnb:=(aB hg).2.1
    generalize hR:nI N nb (nb,g) (0,fun _=>qn)=R
    have le:∀ (t:Bool) (h:Nat→aa) (e:Nat) (S S':Nat→ap),e≤nb→(∀ i,i<e→S i=S' (e - 1 - i)) →
        zR c 25 ve (Eb t N 1 h e S') (aS c [(0,dZ (e+1) (oG S (ec h)))] (.tup [.ar 5 0 0 (e+1),.p (.bool true)])):=by
      intro t h e S S' he hrel
      have hd:decide (((1:Nat):Int)>1)=false:=by decide
      have cr:=A9 (e+1) (Bz e S' (ec h)) (oG S (ec h)) (by omega) (yV hrel (ec h))
      refine cW hc (NI t N h e S') ?_ (be Tryz.func25 hc (Mj (e+1) (Bz e S' (ec h)) (oG S (ec h))) ?_)
      ·
        and_intros
        all_goals (first | exact zN | (exact hd) | (simp;done) | (simp;omega) | (intro t ht;by_cases h':t<e<;>(simp [h',Bz,ec,ay,bh,tg,bu,af];done)) | (intro t ht;simp [af];done))
      ·
        and_intros
        all_goals (first | exact zH | (exact cr) | (simp;done) | (simp;omega) | (intro t ht;simp [af];done))
    have lo:∀ m (t:Bool) (D:NB) (S S':aT),D.1≤2*m+1→D.1 % 2=1→S.1+D.1≤nb→S'.1=S.1→(∀ i,i<S.1→S.2 i=S'.2 (S.1 - 1 - i))→ah ((N:Int),(D.1,D.2),())=true→nI N m D S=R →
        zR c 25 ve (Eb t N D.1 D.2 S'.1 S'.2) (aS c [(0,dZ R.1.1 R.1.2)] (.tup [.ar 5 0 0 R.1.1,.p (.bool R.2)])):=by
      intro m
      induction m with
      | zero =>
        intro t D S S' hD ho hb hl hrel hg hR
        obtain ⟨n,h⟩:=D
        obtain ⟨e,S⟩:=S
        obtain ⟨e',S'⟩:=S'
        obtain rfl:e'=e:=hl
        have hn:n=1:=by simp at hD ho;omega
        subst hn
        rw [← hR,AC N 0 _ _ rfl]
        exact le t h e' S S' (by simp at hb;omega) hrel
      | succ m ih =>
        intro t D S S' hD ho hb hl hrel hg hR
        obtain ⟨n,h⟩:=D
        obtain ⟨e,S⟩:=S
        obtain ⟨e',S'⟩:=S'
        obtain rfl:e'=e:=hl
        by_cases h1:1<n
        · have hd:decide ((n:Int)>1)=true:=decide_eq_true (by omega)
          have cu:=pK hg
          cases hu:ja N h n with
          | none =>
            rw [show ja N (n,h).2 (n,h).1=none from hu] at cu
            rw [← hR,GE (D:=(n,h)) h1 hu]
            refine bz Tryz.func25 hc (Mq t N n h e' S') ?_
            and_intros
            all_goals (first | exact zI | (exact hd) | (exact cu) | (simp;done) | (intro t ht;simp [af];done))
          | some u =>
            rw [show ja N (n,h).2 (n,h).1=some u from hu] at cu
            obtain ⟨hg',hn'⟩:=Ca hg hu
            have hr:=ih false u.1 (e'+1,oG S u.2) (e'+1,Bz e' S' u.2) (by simp at hD hn';omega) (by simp at ho hn';omega) (by simp at hb hn' ⊢;omega) rfl (yV hrel u.2) hg' (by rw [← hR,De (D:=(n,h)) h1 hu])
            refine a9 hc (Lq t N n h e' S' u.1.1 u.1.2 u.2) ?_ hr
            and_intros
            all_goals (first | exact zI | (exact hd) | (exact cu) | (simp;done) | (simp;omega) | (intro t ht;by_cases h':t<e'<;>(simp [h',Bz,ay,bh,tg,bu,af];done)) | (intro t ht;simp [af];done))
        · have hn:n=1:=by simp at ho;omega
          subst hn
          rw [← hR,AC N (m+1) _ _ rfl]
          exact le t h e' S S' (by simp at hb;omega) hrel
    have hr:=lo nb true (nb,g) (0,fun _=>qn) (0,fun _=>qn) (by simp;omega) ho (by simp) rfl (fun i hi=>absurd hi (Nat.not_lt_zero _)) hg hR
    refine cW hc (No g nb N (oL ((N:Int),(nb,g),()))) ?_ hr
    and_intros
    all_goals (first | exact zH | (exact cm) | (exact hb) | (intro h;simpa using h) | (simp;done) | (intro t ht;simp [af];done))
theorem Con.add {P:Program} {f:FuncId} {args:List AV} {H' H'':Hp} {cs cs':List AV} {b:Bool} (S:Nat→Bool) (h:Con P f 0 [] args H' (.tup [.agg cs,.p (.bool b)]))
    (h1:∀ o ob,lk H'' o=some ob→(lk H' o=some ob∧S o.o=false)∨(S o.o=true∧ob.n=0)) (h2:∀ o ob,lk H' o=some ob→S o.o=false∧lk H'' o=some ob)
    (h3:∀ o ob,lk H' o=some ob→∀ i j,i<ob.n→j<ob.z→∃ v,(ob.f i).getD j ag=.p v) (hlen:cs'.length=cs.length)
    (h4:∀ j,j<cs.length→(cs'.getD j ag=cs.getD j ag∧((∃ v,cs.getD j ag=.p v)∨∃ z o off n,cs.getD j ag=.ar z o off n∧S o.o=false)) ∨
      (cs.getD j ag=.p .nil∧∃ z o off,cs'.getD j ag=.ar z o off 0)):Con P f 0 [] args H'' (.tup [.agg cs',.p (.bool b)]):=by
  refine ⟨h.en,fun w β X vals hX hH hs hβ hl hv=>?_⟩
  refine (h.go w β X vals hX hH hs hβ hl hv).mono ?_
  rintro e w' ⟨v,β',rfl,g1,g2,g3,g4,g5,g6,g7⟩
  have hb:∀ k:Id,β k=none:=fun k=>by
    cases hk:β k with
    | none=>rfl
    | some a=>exact absurd (hβ k (by rw [hk];simp)) (Nat.not_lt_zero _)
  let β2:Id→Option Addr:=fun k=>bif S k.o then none else β' k
  have e1:∀ k:Id,S k.o=false→β2 k=β' k:=fun k hk=>by show (bif S k.o then none else β' k)=_;rw [hk];rfl
  have e2:∀ k:Id,S k.o=true→β2 k=none:=fun k hk=>by show (bif S k.o then none else β' k)=_;rw [hk];rfl
  have ho:∀ x,aU β2 H'' x↔aU β' H' x:=by
    intro x
    constructor
    · rintro ⟨o,ob,a,k1,k2,k3⟩
      rcases h1 o ob k1 with ⟨k4,k5⟩ | ⟨k4,_⟩
      · rw [e1 o k5] at k2;exact ⟨o,ob,a,k4,k2,k3⟩
      · rw [e2 o k4] at k2;cases k2
    · rintro ⟨o,ob,a,k1,k2,k3⟩
      obtain ⟨k4,k5⟩:=h2 o ob k1
      exact ⟨o,ob,a,k5,by rw [e1 o k4];exact k2,k3⟩
  have hw:ow X β2 H''=ow X β' H':=by
    funext t x
    exact propext ⟨fun k=>k.imp (ho x).1 id,fun k=>k.imp (ho x).2 id⟩
  have hf:fr X β2 H''=fr X β' H':=by
    funext t x
    unfold fr
    rw [hw]
  refine ⟨v,β2,rfl,?_,?_,?_,?_,fun o a k=>(by rw [hb o] at k;cases k),fun x k=>g6 x ((ho x).1 k),fun k hk=>g7 k (fun hn=>hk ?_)⟩
  · rw [hf]
    intro o ob k1
    rcases h1 o ob k1 with ⟨k4,k5⟩ | ⟨k4,k5⟩
    · rcases g1 o ob k4 with ⟨k6,k7⟩ | ⟨bb,base,cells,elem,k6,k7,k8⟩ | k6
      · exact .inl ⟨by rw [e1 o k5];exact k6,k7⟩
      · refine .inr (.inl ⟨bb,base,cells,elem,by rw [e1 o k5];exact k6,k7,fun i hi j hj=>?_⟩)
        obtain ⟨x,m1,m2,m3⟩:=k8 i hi j hj
        refine ⟨x,m1,m2,?_⟩
        obtain ⟨y,hy⟩:=h3 o ob k4 i j hi hj
        rw [hy] at m3 ⊢
        cases m3 with
        | p _ _ q=>exact .p y x q
      · obtain ⟨m1,m2,m3,bx,es,ck,m4,m5⟩:=k6
        exact .inr (.inr ⟨m1,m2,m3,bx,es,ck,by rw [e1 o k5];exact m4,m5⟩)
    · exact .inl ⟨e2 o k4,k5⟩
  · intro o o' ob ob' a a' k1 k2 k3 k4 k5
    rcases h1 o ob k1 with ⟨m1,m2⟩ | ⟨m1,_⟩
    · rcases h1 o' ob' k2 with ⟨m3,m4⟩ | ⟨m3,_⟩
      · rw [e1 o m2] at k3
        rw [e1 o' m4] at k4
        exact g2 o o' ob ob' a a' m1 m3 k3 k4 k5
      · rw [e2 o' m3] at k4;cases k4
    · rw [e2 o m1] at k3;cases k3
  · rw [hf]
    cases g3 with
    | tup _ vs hl' hj =>
      refine .tup _ vs hl' (fun j hjl=>?_)
      have hx:=hj j hjl
      match j,hjl,hx with
      | 0,_,hx =>
        change VR _ _ _ (.agg cs) _ at hx
        show VR _ _ _ (.agg cs') _
        generalize vs.getD 0 undef=q at hx ⊢
        cases hx with
        | agg _ us l1 l2 l3 =>
          refine .agg cs' us (by rw [hlen];exact l1) (fun i hi=>l2 i (by rw [← hlen];exact hi)) (fun i hi=>?_)
          have hi:i<cs.length:=by rw [← hlen];exact hi
          have hy:=l3 i hi
          rcases h4 i hi with ⟨hc,⟨u,hu⟩ | ⟨z,o,off,n,hu,hn⟩⟩ | ⟨hu,z,o,off,hc⟩
          · rw [hc,hu];rw [hu] at hy
            cases hy with
            | p _ _ q=>exact .p _ _ q
          · rw [hc,hu];rw [hu] at hy
            generalize us.getD i undef=y at hy ⊢
            cases hy with
            | ar0 _ _ _ a=>exact .ar0 z o off a
            | ar _ _ _ _ bb base c cells elem fr' q1 q2 q3 q4=>exact .ar z o off n bb base c cells elem fr' (by rw [e1 o hn];exact q1) q2 q3 q4
          · rw [hc];rw [hu] at hy
            generalize us.getD i undef=y at hy ⊢
            cases hy with
            | p _ _ q=>cases q;exact .ar0 z o off none
      | 1,_,hx =>
        change VR _ _ _ (.p (.bool b)) _ at hx
        show VR _ _ _ (.p (.bool b)) _
        cases hx with
        | p _ _ q=>exact .p _ _ q
      | j+2,hjl,_=>exact absurd hjl (by simp)
  · rw [hw];exact g4
  · cases hS:S k.o with
    | true=>exact e2 k hS
    | false=>rw [e1 k hS];exact hn
def iH (n:Nat) (C:Nat→ad):Ob:=⟨false,1,n,fun i=>[.p (.seq false 1 (C i).1 (fun s=>[.int .i64 ((C i).2 s)]))]⟩
def ce (n:Nat) (C:Nat→ad) (c:ad) (i:Nat):ad:=(if i<n then (C i).1 else c.1,fun s=>if i<n then (C i).2 s else c.2 s)
def Eo (g:Nat→aa) (nb N e:Nat) (n p:Nat) (f:Nat→Int):St :=
  ⟨[bi g nb N,.p (.int .i64 e),.pt 2 0 0 0,.p .any,.p .any,.ar 1 1 0 n,.pt 2 2 0 0]++List.replicate 21 ag++[.p (.int .i64 N),.p (.int .i64 p)]++List.replicate 20 ag,[(0,lz g nb N),(1,aY n f),(2,IU (g e))],3⟩
def E5 (g:Nat→aa) (nb N e cn:Nat) (C:Nat→ad):St :=
  ⟨[bi g nb N,.pt 2 0 0 0,.p .any,.ar 1 1 0 cn]++List.replicate 12 ag++[.p (.int .i64 nb),.p (.int .i64 e)]++List.replicate 26 ag,[(0,lz g nb N),(1,iH cn C)],2⟩
def q6 (g:Nat→aa) (nb N e cn:Nat) (C:Nat→ad) (c:ad) (kn:Bool) (k:Nat):St :=
  ⟨[bi g nb N,.pt 2 0 0 0,.p .any,.ar 1 1 0 cn,.p .any,.ar 1 2 0 c.1,.p (.bool kn)]++List.replicate 9 ag++[.p (.int .i64 nb),.p (.int .i64 e)]++List.replicate 5 ag++[.ar 1 1 0 cn,.p (.int .i64 cn),.p (.int .i64 k)]++List.replicate 18 ag,[(0,lz g nb N),(1,iH cn C),(2,aY c.1 c.2)],3⟩
theorem Iv (g:Nat→aa) (nb N e:Nat) :
    zT Tryz.f66 [rg 2,rg 2,rm [(1,oc [] (jB true)),(7,oc [] (jB true))] 2,.dec false,rg 7,rg 3,.head] [bi g nb N,jI e] [0,64,672] (Eo g nb N e 0 0 (fun _=>0)) =
    some (ta,zD [(NT 0 1),zE 23 [(ak N nb g)] [] (jB true),(AG (!!true)),(((!!true)=true)→(NT 0 1)),(((!!true)=true)→(ax ((nb:Int) - 1))),(((!!true)=true)→(au ((nb:Int) - 1))),(((!!true)=true)→zE 58 [jI (e:Int),jI 0,jI ((nb:Int) - 1)] [] (jB true)),(((!true)=false)→((!!true)=true)),((bif !true then true else !true)=false),(IL 0 (e:Int)),(IT (e:Int) (nb:Int)),((true=true)→(AN 1)),(AI ((N:Int))),(AN nb),(AP nb (aF g)),(AI ((e:Int))),(AN 0),((0:Int)=(↑0:Int)),((([AV.p (PV.int IntKind.i64 (N:Int)),b4 g nb].length):Nat)=2),(NL 1 1),(AN 1),(NL 0 0),(AA 0 (fun i=>[.p (.int .i64 0)])),((((List.map (fun v=>AV.p (bZ v)) [Value.int IntKind.i64 0,Value.int IntKind.i64 0]).length):Nat)=2),(AI (((g e).1))),(AI (((g e).2.1)))] [0,1,2,3,2,2,4,5,2,2,6,2,7,8,0,9,10,0,11,0,12,13,14,15,16,16,16,16,12,17,18,19,19,12,13,14,20,21,22,23,19,19,24,25]):=by kernel_rfl
theorem He (g:Nat→aa) (nb N e n p:Nat) (f:Nat→Int) (r1 r2:Bool) :
    zM 0 [rg 1,.dec true,rg 2,rm [(4,oc [] (jB r1)),(5,oc [] (jB r2))] 1,.dec true,rg 5,rg 2,.head] ta (Eo g nb N e n p f) [0,579,2] 1 (Eo g nb N e (n+1) (p+1) (dI n f p)) =
    some (ta,zD [((decide ((p:Int)<(N:Int)))=true),(NT 0 1),zE 100 [(ak N nb g),jI ((g e).1),jI (p:Int)] [] (jB r1),((r1=true)→(NT 0 1)),(AG r1),((r1=true)→zE 100 [(ak N nb g),jI ((g e).2.1),jI (p:Int)] [] (jB r2)),((bif r1 then r2 else false)=true),(NL 1 1),(NL n n),(NL ((n+1)*8) 140737488355328),(NL (n+1) 9223372036854775807),(ax ((p:Int)+1)),(au ((p:Int)+1)),(AI ((N:Int))),(AN nb),(AP nb (aF g)),(AI ((e:Int))),(AN 0),(AN ((n+1))),((((p:Int)+1):Int)=(↑(p+1):Int)),(AN 2),(AN 1),(NL (n+1) (n+1)),(CV [(579,⟨false,1,(n+1),(fun i_1=>(if (i_1<n) then [.p (.int .i64 (f i_1))] else [.p (.int .i64 (p:Int))]))⟩),(547,⟨false,1,1,(fun i_1=>[.p (.int .i64 (p:Int))])⟩),(0,⟨true,2,1,(fun i_1=>[.p (.int .i64 (N:Int)),.p (.seq true 2 nb (aF g))])⟩),(2,⟨true,2,1,(fun i_1=>[.p (.int .i64 ((g e).1)),.p (.int .i64 ((g e).2.1))])⟩)] [0,579,2] 1 (n+1) (fun i=>if (i<n) then [.p (.int .i64 (f i))] else [.p (.int .i64 (p:Int))]) (fun i=>[.p (.int .i64 (dI n f (p:Int) i))])),(AI (((g e).1))),(AI (((g e).2.1)))] [0,1,1,2,3,4,3,4,4,4,5,4,6,7,8,9,10,11,12,13,14,15,16,17,17,18,17,13,19,20,7,7,13,14,15,21,22,23,20,7,7,24,25]):=by kernel_rfl
theorem HX (g:Nat→aa) (nb N e n p:Nat) (f:Nat→Int) (r1 r2:Bool) :
    zM 0 [rg 1,.dec true,rg 2,rm [(4,oc [] (jB r1)),(5,oc [] (jB r2))] 1,.dec false,rg 2,.head] ta (Eo g nb N e n p f) [0,1,2] 1 (Eo g nb N e n (p+1) f) =
    some (ta,zD [((decide ((p:Int)<(N:Int)))=true),(NT 0 1),zE 100 [(ak N nb g),jI ((g e).1),jI (p:Int)] [] (jB r1),((r1=true)→(NT 0 1)),(AG r1),((r1=true)→zE 100 [(ak N nb g),jI ((g e).2.1),jI (p:Int)] [] (jB r2)),((bif r1 then r2 else false)=false),(ax ((p:Int)+1)),(au ((p:Int)+1)),(AI ((N:Int))),(AN nb),(AP nb (aF g)),(AI ((e:Int))),(AN 0),(AN n),((((p:Int)+1):Int)=(↑(p+1):Int)),(AN 2),(NL 1 1),(AN 1),(NL n n),(AA n (fun i=>[.p (.int .i64 (f i))])),(AI (((g e).1))),(AI (((g e).2.1)))] [0,1,1,2,3,4,3,4,4,4,5,4,6,7,8,9,10,11,12,13,13,14,13,9,15,16,17,17,9,10,11,18,19,20,16,17,17,21,22]):=by kernel_rfl
theorem H4 (g:Nat→aa) (nb N e n p:Nat) (f:Nat→Int) :
    zP Tryz.f66 0 [rg 1,.dec false,rg 2] ta (Eo g nb N e n p f) [1] 1 [(0,aY n f)] (.ar 1 0 0 n) =
    some [((decide ((p:Int)<(N:Int)))=false),(AN 0),(AN n),(AN 1),(NL n n),(AA n (fun i=>[.p (.int .i64 (f i))])),(AE n)]:=by kernel_rfl
theorem I1 (g:Nat→aa) (nb N:Nat) :
    zT Tryz.f28 [rg 2,rg 2,rm [(1,oc [] (jB true))] 1,.dec false,rg 4,.head] [bi g nb N] [0,64] (E5 g nb N 0 0 (fun _=>(0,fun _=>0))) =
    some (xg,zD [(NT 0 1),zE 23 [(ak N nb g)] [] (jB true),((!true)=false),(AI ((N:Int))),(AN nb),(AP nb (aF g)),(AN 0),(AI ((nb:Int))),((0:Int)=(↑0:Int)),((([AV.p (PV.int IntKind.i64 (N:Int)),b4 g nb].length):Nat)=2),(NL 1 1),(AN 1),(NL 0 0),(∀ i:Nat,(((i:Nat)<0)→(af []∧(([.p (.nil)]:List AV)=[.p (.seq false 1 0 (fun i_1=>[.int .i64 ((0,fun x=>0).2 i_1)]))]))))] [0,1,2,0,3,4,5,6,6,6,7,8,9,10,10,3,4,5,11,12,13]):=by kernel_rfl
theorem I9 (g:Nat→aa) (nb N e cn:Nat) (C:Nat→ad) (c:ad) :
    zM 0 [rg 1,.dec true,rg 2,rm [(2,oc [(0,aY c.1 c.2)] (.ar 1 0 0 c.1))] 1,rg 1,rg 3,.head] xg (E5 g nb N e cn C) [0,1,162] 1 (q6 g nb N e cn C c false 0) =
    some (rB,zD [((decide ((e:Int)<(nb:Int)))=true),(NT 0 1),zE 66 [(ak N nb g),jI (e:Int)] [(0,⟨false,1,c.1,(fun i=>[.p (.int .i64 (c.2 i))])⟩)] (.ar 1 0 0 c.1),(AI ((N:Int))),(AN nb),(AP nb (aF g)),(AN 0),(AN cn),(AN c.1),(false=false),(AI ((nb:Int))),(AI ((e:Int))),(AI ((cn:Int))),((0:Int)=(↑0:Int)),(AN 2),(NL 1 1),(AN 1),(NL cn cn),(AA cn (fun i=>[.p (.seq false 1 ((C i).1) (fun i_1=>[.int .i64 ((C i).2 i_1)]))])),(NL c.1 c.1),(AA c.1 (fun i=>[.p (.int .i64 (c.2 i))]))] [0,1,2,3,4,5,6,6,7,6,8,9,10,11,6,7,12,13,14,15,15,3,4,5,16,17,18,16,19,20]):=by kernel_rfl
theorem Hk (g:Nat→aa) (nb N e cn:Nat) (C:Nat→ad) :
    zP Tryz.f28 0 [rg 1,.dec false,rg 2] xg (E5 g nb N e cn C) [1] 1 [(0,iH cn C)] (.ar 1 0 0 cn) =
    some [((decide ((e:Int)<(nb:Int)))=false),(AN 0),(AN cn),(AN 1),(NL cn cn),(AA cn (fun i=>[.p (.seq false 1 ((C i).1) (fun i_1=>[.int .i64 ((C i).2 i_1)]))])),(∀ i:Nat,(((i:Nat)<cn)→af [(false=false),(AE (((C i).1)))]))]:=by kernel_rfl
theorem Hr (g:Nat→aa) (nb N e cn:Nat) (C:Nat→ad) (c:ad) (kn:Bool) (k:Nat) (q:Bool) :
    zM 0 [rg 1,.dec true,rg 3,rm [(4,oc [] (jB q))] 2,rg 2,.head] rB (q6 g nb N e cn C c kn k) [0,1,2] 1 (q6 g nb N e cn C c (bif kn then true else q) (k+1)) =
    some (rB,[((decide ((k:Int)<(cn:Int)))=true),(IL 0 (k:Int)),(IT (k:Int) (cn:Int)),(NT k cn),(AG (!kn)),(AG (!kn)),(((!kn)=true)→(AN 1)),(((!kn)=true)→(NL c.1 c.1)),(((!kn)=true)→zE 67 [.p (.seq true 1 ((C k).1) (fun i=>[.int .i64 ((C k).2 i)])),.p (.seq true 1 c.1 (c8 c))] [] (jB q)),((kn=false)→((!kn)=true)),(ax ((k:Int)+1)),(au ((k:Int)+1)),(AI ((N:Int))),(AN nb),(AP nb (aF g)),(AN 0),(AN 0),(AN cn),(AN 0),(AN c.1),((bif kn then true else q)=(bif kn then true else q)),(AI ((nb:Int))),(AI ((e:Int))),(AN 0),(AN cn),(AI ((cn:Int))),((((k:Int)+1):Int)=(↑(k+1):Int)),(AN 2),(NL 1 1),(NL 1 1),(AI ((N:Int))),(AN nb),(AP nb (aF g)),(AN 1),(NL cn cn),(AA cn (fun i=>[.p (.seq false 1 ((C i).1) (fun i_1=>[.int .i64 ((C i).2 i_1)]))])),(AN 1),(NL c.1 c.1),(AA c.1 (fun i=>[.p (.int .i64 (c.2 i))]))]):=by kernel_rfl
theorem IH (g:Nat→aa) (nb N e cn:Nat) (C:Nat→ad) (c:ad) (kn:Bool) (k:Nat) :
    zM 0 [rg 1,.dec false,rg 2,.dec true,rg 5,rg 2,.head] rB (q6 g nb N e cn C c kn k) [0,195] 1 (E5 g nb N (e+1) (cn+1) (ce cn C c)) =
    some (xg,[((decide ((k:Int)<(cn:Int)))=false),((!kn)=true),(NL 1 1),(NL cn cn),(NL ((cn+1)*24) 140737488355328),(NL (cn+1) 9223372036854775807),(ax ((e:Int)+1)),(au ((e:Int)+1)),(AI ((N:Int))),(AN nb),(AP nb (aF g)),(AN 0),(AN 0),(AN ((cn+1))),(AI ((nb:Int))),((((e:Int)+1):Int)=(↑(e+1):Int)),(AN 2),(NL 1 1),(NL 1 1),(AI ((N:Int))),(AN nb),(AP nb (aF g)),(AN 1),(NL (cn+1) (cn+1)),(CV [(195,⟨false,1,(cn+1),(fun i_1=>(if (i_1<cn) then [.p (.seq false 1 ((C i_1).1) (fun i_2=>[.int .i64 ((C i_1).2 i_2)]))] else [.ar 1 2 0 c.1]))⟩),(163,⟨false,1,1,(fun i_1=>[.ar 1 2 0 c.1])⟩),(0,⟨true,2,1,(fun i_1=>[.p (.int .i64 (N:Int)),.p (.seq true 2 nb (aF g))])⟩),(2,⟨false,1,c.1,(fun i_1=>[.p (.int .i64 (c.2 i_1))])⟩)] [0,195] 1 (cn+1) (fun i=>if (i<cn) then [.p (.seq false 1 ((C i).1) (fun i_1=>[.int .i64 ((C i).2 i_1)]))] else [.ar 1 2 0 c.1]) (fun i=>[.p (.seq false 1 (if i<cn then (C i).1 else c.1) (fun i_1=>[.int .i64 ((ce cn C c i).2 i_1)]))]))]):=by kernel_rfl
theorem Hi (g:Nat→aa) (nb N e cn:Nat) (C:Nat→ad) (c:ad) (kn:Bool) (k:Nat) :
    zM 0 [rg 1,.dec false,rg 2,.dec false,rg 2,.head] rB (q6 g nb N e cn C c kn k) [0,1] 1 (E5 g nb N (e+1) cn C) =
    some (xg,[((decide ((k:Int)<(cn:Int)))=false),((!kn)=false),(ax ((e:Int)+1)),(au ((e:Int)+1)),(AI ((N:Int))),(AN nb),(AP nb (aF g)),(AN 0),(AN 0),(AN cn),(AI ((nb:Int))),((((e:Int)+1):Int)=(↑(e+1):Int)),(AN 2),(NL 1 1),(NL 1 1),(AI ((N:Int))),(AN nb),(AP nb (aF g)),(AN 1),(NL cn cn),(AA cn (fun i=>[.p (.seq false 1 ((C i).1) (fun i_1=>[.int .i64 ((C i).2 i_1)]))]))]):=by kernel_rfl
noncomputable def az (N nb:Nat) (g:Nat→aa) (e:Nat):Nat→ad
  | 0=>(0,fun _=>0)
  | p+1 =>
    if (bif gS N nb g (g e).1 p then gS N nb g (g e).2.1 p else false)=true then ((az N nb g e p).1+1,dI (az N nb g e p).1 (az N nb g e p).2 p)
    else az N nb g e p
theorem jr (N nb:Nat) (g:Nat→aa) (e:Nat):∀ p,(az N nb g e p).1≤p
  | 0=>Nat.le_refl _
  | p+1=>by
    have:=jr N nb g e p
    simp only [az]
    split
    · show (az N nb g e p).1+1≤p+1;omega
    · omega
def w5 (C:Nat→ad) (c:ad):Nat→Bool
  | 0=>false
  | k+1=>bif w5 C c k then true else bR (C k) c
noncomputable def an (N nb:Nat) (g:Nat→aa):Nat→Nat×(Nat→ad)
  | 0=>(0,fun _=>(0,fun _=>0))
  | e+1 =>
    if w5 (an N nb g e).2 (az N nb g e N) (an N nb g e).1=true then an N nb g e
    else ((an N nb g e).1+1,ce (an N nb g e).1 (an N nb g e).2 (az N nb g e N))
theorem kd (N nb:Nat) (g:Nat→aa):∀ e,(an N nb g e).1≤e∧∀ j,j<(an N nb g e).1→((an N nb g e).2 j).1≤N
  | 0=>⟨Nat.le_refl _,fun j hj=>absurd hj (Nat.not_lt_zero _)⟩
  | e+1=>by
    obtain ⟨h1,h2⟩:=kd N nb g e
    simp only [an]
    split
    · exact ⟨by omega,h2⟩
    · refine ⟨by show (an N nb g e).1+1≤e+1;omega,fun j hj=>?_⟩
      show (if j<(an N nb g e).1 then ((an N nb g e).2 j).1 else (az N nb g e N).1)≤N
      split
      · exact h2 j (by assumption)
      · exact jr N nb g e N
theorem gZ {N nb:Nat} {g:Nat→aa} (hg:ah ((N:Int),(nb,g),())=true) (e:Nat) (he:e<nb) :
    zE 66 [bi g nb N,.p (.int .i64 e)] [(0,aY (az N nb g e N).1 (az N nb g e N).2)] (.ar 1 0 0 (az N nb g e N).1):=by
  obtain ⟨hN,hnb,hok⟩:=aB hg
  have hsm:cP a6 ((N:Int),(nb,g),()):=⟨by simp [cP,j0],⟨by show nb≤1048576;omega,fun i hi=>by simp [cP,j0]⟩,True.intro⟩
  have hcg:=aQ ((N:Int),(nb,g),()) hsm
  rw [hg] at hcg
  have hbar:=hok e he
  have hcw:=bp (e:Int) 0 ((nb:Int) - 1)
  rw [show bC (e:Int) 0 ((nb:Int) - 1)=true by simp [bC];omega] at hcw
  have hcond:=True.intro
  refine aW Tryz.func66 (fun c hc=>?_)
  have lp:∀ d p,p+d=N→zR c 66 ta (Eo g nb N e (az N nb g e p).1 p (az N nb g e p).2) (aS c [(0,aY (az N nb g e N).1 (az N nb g e N).2)] (.ar 1 0 0 (az N nb g e N).1)):=by
    intro d
    induction d with
    | zero =>
      intro p hp
      obtain rfl:p=N:=by omega
      have hd:decide ((p:Int)<(p:Int))=false:=by simp
      refine be Tryz.func66 hc (H4 g nb p e (az p nb g e p).1 p (az p nb g e p).2) ?_
      and_intros
      all_goals (first | exact zN | (intro i hi;simp [af]))
    | succ d ih =>
      intro p hp
      have hd:decide ((p:Int)<(N:Int))=true:=by simp;omega
      have hle:=jr N nb g e p
      have c1:=fR hg hok hN hnb (a:=(g e).1) (b:=p) (by omega) (by omega)
      have c2:=fR hg hok hN hnb (a:=(g e).2.1) (b:=p) (by omega) (by omega)
      have hih:=ih (p+1) (by omega)
      cases ht:(bif gS N nb g (g e).1 p then gS N nb g (g e).2.1 p else false) with
      | true =>
        rw [show az N nb g e (p+1)=((az N nb g e p).1+1,dI (az N nb g e p).1 (az N nb g e p).2 p) by simp only [az];rw [if_pos ht]] at hih
        refine a9 hc (He g nb N e (az N nb g e p).1 p (az N nb g e p).2 (gS N nb g (g e).1 p) (gS N nb g (g e).2.1 p)) ?_ hih
        and_intros
        all_goals (first | exact zI | (exact c1) | (intros;exact c2) | (exact ht) | (intro j hj;simp [af];done) | (intro j hj;by_cases h:j<(az N nb g e p).1<;>simp [h,dI,ay,bh,tg,bu,af]))
      | false =>
        rw [show az N nb g e (p+1)=az N nb g e p by simp only [az];rw [if_neg (by rw [ht];simp)]] at hih
        refine a9 hc (HX g nb N e (az N nb g e p).1 p (az N nb g e p).2 (gS N nb g (g e).1 p) (gS N nb g (g e).2.1 p)) ?_ hih
        and_intros
        all_goals (first | exact zI | (exact c1) | (intros;exact c2) | (exact ht) | (intro j hj;simp [af]))
  refine a9 hc (Iv g nb N e) ?_ (lp N 0 (by omega))
  and_intros
  all_goals (first | exact zH | (exact hcg) | (intros;exact hcw) | (exact hcond) | (intro h;simp at h ⊢;done) | (intro j hj;simp [af]))
theorem BQ {N nb:Nat} {g:Nat→aa} {e cn:Nat} {C:Nat→ad} {cc:ad} (hcn:cn≤1048576) (hC:∀ j,j<cn→(C j).1≤1048576) (c:Cx) (hc:c.n=0) {R:Ending→World→Prop}
    (h:zR c 28 rB (q6 g nb N e cn C cc (w5 C cc cn) cn) R) :
    ∀ d k,k+d=cn→zR c 28 rB (q6 g nb N e cn C cc (w5 C cc k) k) R:=by
  intro d
  induction d with
  | zero =>
    intro k hk
    have hkc:k=cn:=by omega
    rw [hkc]
    exact h
  | succ d ih =>
    intro k hk
    have hd:decide ((k:Int)<(cn:Int))=true:=by simp;omega
    have hq:=uD (C k) cc (hC k (by omega))
    refine cW hc (Hr g nb N e cn C cc (w5 C cc k) k (bR (C k) cc)) ?_ (ih (k+1) (by omega))
    and_intros
    all_goals (first | exact zH | (intros;exact hq) | (intro j hj;simp [af]))
theorem i6 {N nb:Nat} {g:Nat→aa} (hg:ah ((N:Int),(nb,g),())=true) :
    zE 28 [bi g nb N] [(0,iH (an N nb g nb).1 (an N nb g nb).2)] (.ar 1 0 0 (an N nb g nb).1):=by
  obtain ⟨hN,hnb,hok⟩:=aB hg
  have hsm:cP a6 ((N:Int),(nb,g),()):=⟨by simp [cP,j0],⟨by show nb≤1048576;omega,fun i hi=>by simp [cP,j0]⟩,True.intro⟩
  have hcg:=aQ ((N:Int),(nb,g),()) hsm
  rw [hg] at hcg
  refine aW Tryz.func28 (fun c hc=>?_)
  have lp:∀ d e,e+d=nb→zR c 28 xg (E5 g nb N e (an N nb g e).1 (an N nb g e).2) (aS c [(0,iH (an N nb g nb).1 (an N nb g nb).2)] (.ar 1 0 0 (an N nb g nb).1)):=by
    intro d
    induction d with
    | zero =>
      intro e he
      obtain rfl:e=nb:=by omega
      have hd:decide ((e:Int)<(e:Int))=false:=by simp
      refine be Tryz.func28 hc (Hk g e N e (an N e g e).1 (an N e g e).2) ?_
      and_intros
      iterate 2 all_goals (first | exact zN | (exact hcg) | (intros;exact hcg) | (intro h;rw [hd] at h;cases h) | (simp;done) | (intro i hi;simp [af]) | simp only [af])
    | succ d ih =>
      intro e he
      have hd:decide ((e:Int)<(nb:Int))=true:=by simp;omega
      obtain ⟨hle,hC⟩:=kd N nb g e
      have hcomp:=gZ hg e (by omega)
      have hcl:=jr N nb g e N
      have hih:=ih (e+1) (by omega)
      have hin:zR c 28 rB (q6 g nb N e (an N nb g e).1 (an N nb g e).2 (az N nb g e N) (w5 (an N nb g e).2 (az N nb g e N) (an N nb g e).1) (an N nb g e).1) (aS c [(0,iH (an N nb g nb).1 (an N nb g nb).2)] (.ar 1 0 0 (an N nb g nb).1)):=by
        have hd':decide (((an N nb g e).1:Int)<((an N nb g e).1:Int))=false:=by simp
        cases hk:w5 (an N nb g e).2 (az N nb g e N) (an N nb g e).1 with
        | false =>
          rw [show an N nb g (e+1)=((an N nb g e).1+1,ce (an N nb g e).1 (an N nb g e).2 (az N nb g e N)) by simp only [an];rw [if_neg (by rw [hk];simp)]] at hih
          refine cW hc (IH g nb N e (an N nb g e).1 (an N nb g e).2 (az N nb g e N) false (an N nb g e).1) ?_ hih
          and_intros
          all_goals (first | exact zN | (intro j hj;simp [af];done) | (intro j hj;by_cases h:j<(an N nb g e).1<;>simp [h,ce,ay,bh,eH,bG,d7,iE,dd,qQ,sP,sM,Ob.isF,List.lookup,aY,tg,bu,af]))
        | true =>
          rw [show an N nb g (e+1)=an N nb g e by simp only [an];rw [if_pos hk]] at hih
          refine cW hc (Hi g nb N e (an N nb g e).1 (an N nb g e).2 (az N nb g e N) true (an N nb g e).1) ?_ hih
          and_intros
          all_goals (first | exact zN | (intro j hj;simp [af]))
      refine a9 hc (I9 g nb N e (an N nb g e).1 (an N nb g e).2 (az N nb g e N)) ?_ (BQ (by omega) (fun j hj=>by have:=hC j hj;omega) c hc hin (an N nb g e).1 0 (by omega))
      and_intros
      all_goals (first | exact zN | (exact hcg) | (intros;exact hcg) | (exact hcomp) | (rw [hd];rfl) | (intro j hj;simp [af]))
  refine a9 hc (I1 g nb N) ?_ (lp nb 0 (by omega))
  and_intros
  iterate 2 all_goals (first | exact zN | (exact hcg) | (intro j hj;simp [af]) | simp only [af])
noncomputable def bU (v:ai):Nat×(Nat→ad):=if ah v=true then an v.1.toNat v.2.1.1 v.2.1.2 v.2.1.1 else (0,fun _=>(0,fun _=>0))
theorem Ol (v:ai) :
    zS Tryz.f28 [rg 2,rg 2,rm [(1,oc [] (jB false))] 1,.dec true,rg 2] [aJ v] [64] [(0,iH 0 (fun _=>(0,fun _=>0)))] (.ar 1 0 0 0) =
    some [(NT 0 1),zE 23 [(br v)] [] (jB false),((!false)=true),(AN 0),(AN 0),(AN 1),(NL 0 0),(∀ i:Nat,(((i:Nat)<0)→(af []∧(([.p (.nil)]:List AV)=[.p (.seq false 1 0 (fun i_1=>[.int .i64 ((0,fun x=>0).2 i_1)]))])))),(∀ i:Nat,(((i:Nat)<0)→af [(false=false),(AE 0)]))]:=by kernel_rfl
theorem q7 (v:ai) (hs:cP a6 v):zE 28 [aJ v] [(0,iH (bU v).1 (bU v).2)] (.ar 1 0 0 (bU v).1):=by
  cases hg:ah v with
  | false =>
    have hcg:=aQ v hs
    rw [hg] at hcg
    rw [show bU v=(0,fun _=>(0,fun _=>0)) by simp [bU,hg]]
    refine aW Tryz.func28 (fun c hc=>?_)
    refine be Tryz.func28 hc (Ol v) ?_
    and_intros
    iterate 2 all_goals (first | exact zN | (intros;exact hcg) | (simp;done) | (intro i hi;simp [af]) | simp only [af])
  | true =>
    obtain ⟨N,nb,g,rfl⟩:=bM v hg
    rw [show bU ((N:Int),(nb,g),())=an N nb g nb by simp [bU,hg]]
    exact i6 hg
theorem ox (v:ai):(bU v).1≤24∧∀ j,j<(bU v).1→((bU v).2 j).1≤8:=by
  unfold bU
  split
  · rename_i hg
    obtain ⟨N,nb,g,rfl⟩:=bM v hg
    obtain ⟨hN,hnb,_⟩:=aB hg
    obtain ⟨h1,h2⟩:=kd N nb g nb
    simp only [Int.toNat_natCast]
    exact ⟨by omega,fun j hj=>by have:=h2 j hj;omega⟩
  · exact ⟨by show 0≤24;omega,fun j hj=>absurd hj (Nat.not_lt_zero _)⟩
def ms (c:Nat) (f:Nat→Int) (m:Nat) (h:Nat→Int) (t:Nat):Int:=if t<c then f t else if t<c+m then h (t - c) else -1
def cN (C:Nat→ad):Nat→ad
  | 0=>(0,fun _=>0)
  | i+1=>((cN C i).1+(C i).1+1,ms (cN C i).1 (cN C i).2 (C i).1 (C i).2)
def dM:AV:=.p .nil
def BK:AV:=.p (.int .i64 0)
def Cf:AV:=.agg [BK,BK,dM,BK,dM,dM,dM,dM,dM]
def Fj (K:Int) (N nb n:Nat):AV:=.agg [.p (.int .i64 K),.p (.int .i64 N),.ar 2 0 0 nb,BK,dM,dM,dM,dM,.ar 1 5 0 n]
def Hl (K:Int) (N nb n:Nat):AV:=.agg [.p (.int .i64 K),.p (.int .i64 N),.ar 2 0 0 nb,BK,dM,dM,dM,.ar 5 4 0 n,dM]
def N9:Ob:=⟨true,9,1,fun _=>[BK,BK,dM,BK,dM,dM,dM,dM,dM]⟩
def Mg (K:Int) (N nb n:Nat):Ob:=⟨true,9,1,fun _=>[.p (.int .i64 K),.p (.int .i64 N),.ar 2 2 0 nb,BK,dM,dM,dM,dM,.ar 1 4 0 n]⟩
def BX (K:Int) (g:Nat→aa) (nb N:Nat) (ok:Bool) (n:Nat) (C:Nat→ad) (i c:Nat) (f:Nat→Int):St :=
  ⟨[.p .any,.p .any,.p .any,.p .any,.pt 9 0 0 0,.p .any,.pt 9 1 0 0,.p (.bool ok)]++List.replicate 28 ag++[.ar 1 3 0 n,.p (.int .i64 n),.p (.int .i64 i)]++List.replicate 31 ag,
   [(0,N9),(1,Mg K N nb c),(2,aj nb g),(3,iH n C),(4,aY c f)],5⟩
theorem Mp (g:Nat→aa) (nb N k l m:Nat) (F T Q q:Nat→Int) :
    zS Tryz.f27 [rg 2,rm [(3,oc (bl N m F T Q) (.tup [bf N m 0,jB true]))] 6,rm [(2,oc [(0,aY m Q)] (.ar 1 0 0 m))] 1] [bi g nb N,jI k,jI l] [448] [(0,aY m q)] (.ar 1 0 0 m) =
    some [(NT 0 1),zE 64 [(ak N nb g),jI (k:Int),jI (l:Int)] (eb N F m T Q) ((oW N m)),(NT 0 1),((true=true)→(AN 1)),(NT 0 1),(AN 1),(NL m m),zE 65 [.p (.seq true 1 m (fun i=>[.int .i64 (Q i)]))] [(0,⟨false,1,m,(fun i=>[.p (.int .i64 (Q i))])⟩)] (.ar 1 0 0 m),(AN 0),(AN m),(AN 1),(NL m m),(∀ i:Nat,(((i:Nat)<m)→(af []∧(([.p (.int .i64 (Q i))]:List AV)=[.p (.int .i64 (q i))])))),(AE m)]:=by kernel_rfl
theorem NW (K:Int) (v:ai) :
    zS Tryz.f6 [rg 3,rm [(1,oc [] (jB false))] 1,.dec true,rg 3] [jI K,aJ v] [] [] (.tup [Cf,jB false]) =
    some (zD [(NT 0 1),zE 23 [(br v)] [] (jB false),((!false)=true),((true=true)→(AN 1)),(AI 0),(false=false)] [0,1,2,0,3,0,4,4,4,5]):=by kernel_rfl
theorem Is (K:Int) (g:Nat→aa) (nb N:Nat) (m:Nat) (Q:Nat→Int) (d:Nat) (h:Nat→aa) (n:Nat) (S:Nat→ap) :
    zS Tryz.f6 [rg 3,rm [(1,oc [] (jB true))] 1,.dec false,rm [(2,oc [(0,aj nb g)] (.agg [jI N,.ar 2 0 0 nb]))] 3,rg 1,rg 1,rg 2,.dec true,rm [(2,oc [(0,aY m Q)] (.ar 1 0 0 m)),(0,oc [(0,aj d h)] (.agg [jI N,.ar 2 0 0 d])),(0,oc [(0,dZ n S)] (.tup [.ar 5 0 0 n,jB true]))] 6,rg 2,.dec false,rg 3] [jI K,bi g nb N] [256,9001,9002,9003,640] [(0,aj nb g),(4,dZ n S)] (.tup [Hl K N nb n,jB true]) =
    some (zD [(NT 0 1),zE 23 [(ak N nb g)] [] (jB true),((!true)=false),zE 24 [(ak N nb g)] (bg nb g) (.agg [jI (N:Int),.ar 2 0 0 nb]),((true=true)→(AN 1)),((K==1)=true),zE 27 [(ak N nb g),jI 2,jI 3] [(0,⟨false,1,m,(fun i=>[.p (.int .i64 (Q i))])⟩)] (.ar 1 0 0 m),(AN 1),(NL m m),zE 26 [(ak N nb g),.p (.seq true 1 m (fun i=>[.int .i64 (Q i)]))] (bg d h) (.agg [jI (N:Int),.ar 2 0 0 d]),(AN 2),(NL d d),zE 25 [(ak N d h)] (wT n S) (.tup [.ar 5 0 0 n,jB true]),(AI K),(AI ((N:Int))),(AN 0),(AN nb),(AI 0),(AN n),(true=true),(NL nb nb),(AA nb (fun i=>[.p (.int .i64 ((g i).1)),.p (.int .i64 ((g i).2.1))])),(AN 5),(NL n n),(AA n (fun i=>[.p (.int .i64 ((S i).1)),.p (.int .i64 ((S i).2.1)),.p (.int .i64 ((S i).2.2.1)),.p (.int .i64 ((S i).2.2.2.1)),.p (.int .i64 ((S i).2.2.2.2.1))])),(AE nb),(AE n)] [0,1,2,0,3,0,4,5,0,0,6,7,8,9,10,11,12,0,4,2,0,0,4,0,13,14,15,16,17,15,18,19,10,20,21,22,23,24,25,26]):=by kernel_rfl
theorem Jm (K:Int) (g:Nat→aa) (nb N:Nat) (m:Nat) (Q:Nat→Int) (d:Nat) (h:Nat→aa) (n:Nat) (S:Nat→ap) :
    zS Tryz.f6 [rg 3,rm [(1,oc [] (jB true))] 1,.dec false,rm [(2,oc [(0,aj nb g)] (.agg [jI N,.ar 2 0 0 nb]))] 3,rg 1,rg 1,rg 2,.dec true,rm [(2,oc [(0,aY m Q)] (.ar 1 0 0 m)),(0,oc [(0,aj d h)] (.agg [jI N,.ar 2 0 0 d])),(0,oc [(0,dZ n S)] (.tup [.ar 5 0 0 n,jB false]))] 6,rg 2,.dec true,rg 3] [jI K,bi g nb N] [] [] (.tup [Cf,jB false]) =
    some (zD [(NT 0 1),zE 23 [(ak N nb g)] [] (jB true),((!true)=false),zE 24 [(ak N nb g)] (bg nb g) (.agg [jI (N:Int),.ar 2 0 0 nb]),((true=true)→(AN 1)),((K==1)=true),zE 27 [(ak N nb g),jI 2,jI 3] [(0,⟨false,1,m,(fun i=>[.p (.int .i64 (Q i))])⟩)] (.ar 1 0 0 m),(AN 1),(NL m m),zE 26 [(ak N nb g),.p (.seq true 1 m (fun i=>[.int .i64 (Q i)]))] (bg d h) (.agg [jI (N:Int),.ar 2 0 0 d]),(AN 2),(NL d d),zE 25 [(ak N d h)] (wT n S) (.tup [.ar 5 0 0 n,jB false]),((!false)=true),(AI 0),(false=false)] [0,1,2,0,3,0,4,5,0,0,6,7,8,9,10,11,12,0,4,13,0,4,0,14,14,14,15]):=by kernel_rfl
theorem FP (K:Int) (g:Nat→aa) (nb N:Nat) (b:Bool) (n:Nat) (C:Nat→ad) :
    zT Tryz.f6 [rg 3,rm [(1,oc [] (jB true))] 1,.dec false,rm [(2,oc [(0,aj nb g)] (.agg [jI N,.ar 2 0 0 nb]))] 3,rg 1,rg 1,rg 2,.dec false,rg 2,.dec true,rm [(1,oc [] (jB b))] 2,rm [(1,oc [(0,iH n C)] (.ar 1 0 0 n))] 2,.head] [jI K,bi g nb N] [32,320,256,736] (BX K g nb N (!b) n C 0 0 (fun _=>0)) =
    some (qy,zD [(NT 0 1),zE 23 [(ak N nb g)] [] (jB true),((!true)=false),zE 24 [(ak N nb g)] (bg nb g) (.agg [jI (N:Int),.ar 2 0 0 nb]),((true=true)→(AN 1)),((K==1)=false),((K==2)=true),zE 8 [(ak N nb g)] [] (jB b),zE 28 [(ak N nb g)] [(0,⟨false,1,n,(fun i=>[.p (.seq false 1 ((C i).1) (fun i_1=>[.int .i64 ((C i).2 i_1)]))])⟩)] (.ar 1 0 0 n),(AN 0),((!b)=(!b)),(AN n),(AI ((n:Int))),((0:Int)=(↑0:Int)),((((List.map (fun v=>AV.p (bZ v)) [Value.int IntKind.i64 0,Value.int IntKind.i64 0,Value.slice none 0 0,Value.int IntKind.i64 0,Value.slice none 0 0,Value.slice none 0 0,Value.slice none 0 0,Value.slice none 0 0,Value.slice none 0 0]).length):Nat)=9),(NL 1 1),(AI 0),(AI K),(AI ((N:Int))),(AN nb),(AN 2),(NL nb nb),(AA nb (fun i=>[.p (.int .i64 ((g i).1)),.p (.int .i64 ((g i).2.1))])),(AN 1),(NL n n),(AA n (fun i=>[.p (.seq false 1 ((C i).1) (fun i_1=>[.int .i64 ((C i).2 i_1)]))]))] [0,1,2,0,3,0,4,5,6,0,7,0,8,9,9,10,9,11,12,13,14,15,15,16,16,16,14,15,15,17,18,9,19,16,9,20,21,22,23,24,25,9]):=by kernel_rfl
theorem IZ (K:Int) (g:Nat→aa) (nb N:Nat) (ok:Bool) (n:Nat) (C:Nat→ad) (i c:Nat) (f:Nat→Int) :
    zM 0 [rg 1,.dec true,rg 3,rg 8,rg 2,.head] qy (BX K g nb N ok n C i c f) [0,1,2,3,293] 1 (BX K g nb N ok n C (i+1) (c+(C i).1+1) (ms c f (C i).1 (C i).2)) =
    some (qy,[((decide ((i:Int)<(n:Int)))=true),(IL 0 (i:Int)),(IT (i:Int) (n:Int)),(NT i n),(NT 0 1),(NL c c),(NL ((c+(C i).1)*8) 140737488355328),(NL (c+(C i).1) 9223372036854775807),(NL 1 1),(NL (c+(C i).1) (c+(C i).1)),(NL ((c+(C i).1+1)*8) 140737488355328),(NL (c+(C i).1+1) 9223372036854775807),(NT 0 1),((true=true)→(AN 1)),(ax ((i:Int)+1)),(au ((i:Int)+1)),(AN 0),(AN 0),(ok=ok),(AN 0),(AN n),(AI ((n:Int))),((((i:Int)+1):Int)=(↑(i+1):Int)),(AN 9),(NL 1 1),(NL 1 1),(AI 0),(AI 0),(AI 0),(AN 9),(NL 1 1),(NL 1 1),(AI K),(AI ((N:Int))),(AN 0),(AN nb),(AI 0),(AN 0),(AN ((c+(C i).1+1))),(AN 2),(NL nb nb),(AA nb (fun i_1=>[.p (.int .i64 ((g i_1).1)),.p (.int .i64 ((g i_1).2.1))])),(AN 1),(NL n n),(AA n (fun i_1=>[.p (.seq false 1 ((C i_1).1) (fun i_2=>[.int .i64 ((C i_1).2 i_2)]))])),(AN 1),(NL (c+(C i).1+1) (c+(C i).1+1)),(CV [(1,⟨true,9,1,(fun i_2=>[.p (.int .i64 K),.p (.int .i64 (N:Int)),.ar 2 2 0 nb,.p (.int .i64 0),.p (.nil),.p (.nil),.p (.nil),.p (.nil),.ar 1 293 0 (c+(C i).1+1)])⟩),(293,⟨false,1,(c+(C i).1+1),(fun i_2=>(if (i_2<c+(C i).1) then (if (i_2<c) then [.p (.int .i64 (f i_2))] else [.p (.int .i64 ((C i).2 (i_2 - c)))]) else [.p (.int .i64 (-1))]))⟩),(261,⟨false,1,1,(fun i_2=>[.p (.int .i64 (-1))])⟩),(0,⟨true,9,1,(fun i_2=>[.p (.int .i64 0),.p (.int .i64 0),.p (.nil),.p (.int .i64 0),.p (.nil),.p (.nil),.p (.nil),.p (.nil),.p (.nil)])⟩),(2,⟨false,2,nb,(fun i_2=>[.p (.int .i64 ((g i_2).1)),.p (.int .i64 ((g i_2).2.1))])⟩),(3,⟨false,1,n,(fun i_2=>[.p (.seq false 1 ((C i_2).1) (fun i_3=>[.int .i64 ((C i_2).2 i_3)]))])⟩)] [0,1,2,3,293] 1 (c+(C i).1+1) (fun i_1=>if (i_1<c+(C i).1) then (if (i_1<c) then [.p (.int .i64 (f i_1))] else [.p (.int .i64 ((C i).2 (i_1 - c)))]) else [.p (.int .i64 (-1))]) (fun i_1=>[.p (.int .i64 (ms c f (C i).1 (C i).2 i_1))]))]):=by kernel_rfl
theorem Hf (K:Int) (g:Nat→aa) (nb N:Nat) (n:Nat) (C:Nat→ad) (i c:Nat) (f:Nat→Int) :
    zP Tryz.f6 0 [rg 1,.dec false,rg 2,.dec false,rg 3] qy (BX K g nb N true n C i c f) [2,9001,9002,9003,9004,4] 1 [(0,aj nb g),(5,aY c f)] (.tup [Fj K N nb c,jB true]) =
    some [((decide ((i:Int)<(n:Int)))=false),((!true)=false),(NT 0 1),(NT 0 1),((true=true)→(AN 1)),(NT 0 1),(AI K),(AI ((N:Int))),(AN 0),(AN nb),(AI 0),(AN 0),(AN c),(true=true),(AN 2),(NL nb nb),(AA nb (fun i_1=>[.p (.int .i64 ((g i_1).1)),.p (.int .i64 ((g i_1).2.1))])),(AN 1),(NL c c),(AA c (fun i_1=>[.p (.int .i64 (f i_1))])),(AE nb),(AE c)]:=by kernel_rfl
theorem H6 (K:Int) (g:Nat→aa) (nb N:Nat) (n:Nat) (C:Nat→ad) (i c:Nat) (f:Nat→Int) :
    zP Tryz.f6 0 [rg 1,.dec false,rg 2,.dec true,rg 3] qy (BX K g nb N false n C i c f) [] 1 [] (.tup [Cf,jB false]) =
    some [((decide ((i:Int)<(n:Int)))=false),((!false)=true),(NT 0 1),((true=true)→(AN 1)),(NT 0 1),(AI 0),(AI 0),(AI 0),(false=false)]:=by kernel_rfl
theorem HF (K:Int) (g:Nat→aa) (nb N:Nat) (m:Nat) (Q:Nat→Int) :
    zS Tryz.f6 [rg 3,rm [(1,oc [] (jB true))] 1,.dec false,rm [(2,oc [(0,aj nb g)] (.agg [jI N,.ar 2 0 0 nb]))] 3,rg 1,rg 1,rg 2,.dec false,rg 2,.dec false,rg 2,.dec true,rm [(1,oc [(0,aY m Q)] (.tup [.ar 1 0 0 m,jB true]))] 6,rg 2,.dec false,rg 3] [jI K,bi g nb N] [256,9001,9002,9003,9004,672] [(0,aj nb g),(5,aY m Q)] (.tup [Fj K N nb m,jB true]) =
    some (zD [(NT 0 1),zE 23 [(ak N nb g)] [] (jB true),((!true)=false),zE 24 [(ak N nb g)] (bg nb g) (.agg [jI (N:Int),.ar 2 0 0 nb]),((true=true)→(AN 1)),((K==1)=false),((K==2)=false),((K==3)=true),zE 29 [(ak N nb g),jI 2,jI 3] [(0,⟨false,1,m,(fun i=>[.p (.int .i64 (Q i))])⟩)] (.tup [.ar 1 0 0 m,jB true]),(AI K),(AI ((N:Int))),(AN 0),(AN nb),(AI 0),(AN m),(true=true),(AN 2),(NL nb nb),(AA nb (fun i=>[.p (.int .i64 ((g i).1)),.p (.int .i64 ((g i).2.1))])),(AN 1),(NL m m),(AA m (fun i=>[.p (.int .i64 (Q i))])),(AE nb),(AE m)] [0,1,2,0,3,0,4,5,6,7,0,8,0,4,2,0,0,4,0,9,10,11,12,13,11,14,15,16,17,18,19,20,21,22,23]):=by kernel_rfl
theorem Jn (K:Int) (g:Nat→aa) (nb N:Nat) (m:Nat) (Q:Nat→Int) :
    zS Tryz.f6 [rg 3,rm [(1,oc [] (jB true))] 1,.dec false,rm [(2,oc [(0,aj nb g)] (.agg [jI N,.ar 2 0 0 nb]))] 3,rg 1,rg 1,rg 2,.dec false,rg 2,.dec false,rg 2,.dec true,rm [(1,oc [(0,aY m Q)] (.tup [.ar 1 0 0 m,jB false]))] 6,rg 2,.dec true,rg 3] [jI K,bi g nb N] [] [] (.tup [Cf,jB false]) =
    some (zD [(NT 0 1),zE 23 [(ak N nb g)] [] (jB true),((!true)=false),zE 24 [(ak N nb g)] (bg nb g) (.agg [jI (N:Int),.ar 2 0 0 nb]),((true=true)→(AN 1)),((K==1)=false),((K==2)=false),((K==3)=true),zE 29 [(ak N nb g),jI 2,jI 3] [(0,⟨false,1,m,(fun i=>[.p (.int .i64 (Q i))])⟩)] (.tup [.ar 1 0 0 m,jB false]),((!false)=true),(AI 0),(false=false)] [0,1,2,0,3,0,4,5,6,7,0,8,0,4,9,0,4,0,10,10,10,11]):=by kernel_rfl
theorem HG (K:Int) (g:Nat→aa) (nb N:Nat) (n:Nat) (S:Nat→ap) :
    zS Tryz.f6 [rg 3,rm [(1,oc [] (jB true))] 1,.dec false,rm [(2,oc [(0,aj nb g)] (.agg [jI N,.ar 2 0 0 nb]))] 3,rg 1,rg 1,rg 2,.dec false,rg 2,.dec false,rg 2,.dec false,rg 2,.dec true,rm [(1,oc [(0,dZ n S)] (.tup [.ar 5 0 0 n,jB true]))] 6,rg 2,.dec false,rg 3] [jI K,bi g nb N] [256,9001,9002,9003,736] [(0,aj nb g),(4,dZ n S)] (.tup [Hl K N nb n,jB true]) =
    some (zD [(NT 0 1),zE 23 [(ak N nb g)] [] (jB true),((!true)=false),zE 24 [(ak N nb g)] (bg nb g) (.agg [jI (N:Int),.ar 2 0 0 nb]),((true=true)→(AN 1)),((K==1)=false),((K==2)=false),((K==3)=false),((K==6)=true),zE 25 [(ak N nb g)] (wT n S) (.tup [.ar 5 0 0 n,jB true]),(AI K),(AI ((N:Int))),(AN 0),(AN nb),(AI 0),(AN n),(true=true),(AN 2),(NL nb nb),(AA nb (fun i=>[.p (.int .i64 ((g i).1)),.p (.int .i64 ((g i).2.1))])),(AN 5),(NL n n),(AA n (fun i=>[.p (.int .i64 ((S i).1)),.p (.int .i64 ((S i).2.1)),.p (.int .i64 ((S i).2.2.1)),.p (.int .i64 ((S i).2.2.2.1)),.p (.int .i64 ((S i).2.2.2.2.1))])),(AE nb),(AE n)] [0,1,2,0,3,0,4,5,6,7,8,0,9,0,4,2,0,0,4,0,10,11,12,13,14,12,15,16,17,18,19,20,21,22,23,24]):=by kernel_rfl
theorem I4 (K:Int) (g:Nat→aa) (nb N:Nat) (n:Nat) (S:Nat→ap) :
    zS Tryz.f6 [rg 3,rm [(1,oc [] (jB true))] 1,.dec false,rm [(2,oc [(0,aj nb g)] (.agg [jI N,.ar 2 0 0 nb]))] 3,rg 1,rg 1,rg 2,.dec false,rg 2,.dec false,rg 2,.dec false,rg 2,.dec true,rm [(1,oc [(0,dZ n S)] (.tup [.ar 5 0 0 n,jB false]))] 6,rg 2,.dec true,rg 3] [jI K,bi g nb N] [] [] (.tup [Cf,jB false]) =
    some (zD [(NT 0 1),zE 23 [(ak N nb g)] [] (jB true),((!true)=false),zE 24 [(ak N nb g)] (bg nb g) (.agg [jI (N:Int),.ar 2 0 0 nb]),((true=true)→(AN 1)),((K==1)=false),((K==2)=false),((K==3)=false),((K==6)=true),zE 25 [(ak N nb g)] (wT n S) (.tup [.ar 5 0 0 n,jB false]),((!false)=true),(AI 0),(false=false)] [0,1,2,0,3,0,4,5,6,7,8,0,9,0,4,10,0,4,0,11,11,11,12]):=by kernel_rfl
theorem MS (K:Int) (g:Nat→aa) (nb N:Nat) :
    zS Tryz.f6 [rg 3,rm [(1,oc [] (jB true))] 1,.dec false,rm [(2,oc [(0,aj nb g)] (.agg [jI N,.ar 2 0 0 nb]))] 3,rg 1,rg 1,rg 2,.dec false,rg 2,.dec false,rg 2,.dec false,rg 2,.dec false,rg 2,.dec true,rg 3] [jI K,bi g nb N] [] [] (.tup [Cf,jB false]) =
    some (zD [(NT 0 1),zE 23 [(ak N nb g)] [] (jB true),((!true)=false),zE 24 [(ak N nb g)] (bg nb g) (.agg [jI (N:Int),.ar 2 0 0 nb]),((true=true)→(AN 1)),((K==1)=false),((K==2)=false),((K==3)=false),((K==6)=false),((!false)=true),(AI 0),(false=false)] [0,1,2,0,3,0,4,5,6,7,8,9,0,4,0,10,10,10,11]):=by kernel_rfl
noncomputable def ks (N nb:Nat) (g:Nat→aa):ad:=((aK N 2 3 g nb).length,fun t=>(((aK N 2 3 g nb).getD t 0:Nat):Int))
theorem C4 {Q:Nat→Int}:∀ m t,t<m→(qL Q m).getD t 0=(Q t).toNat
  | 0,t,h=>absurd h (Nat.not_lt_zero _)
  | m+1,t,h=>by
    rw [qL]
    by_cases ht:t<m
    · have:=C4 (Q:=Q) m t ht
      simp only [List.getD_eq_getElem?_getD] at this ⊢
      rw [List.getElem?_append_left (by rw [bE];exact ht)]
      exact this
    · have e:t=m:=by omega
      subst e
      simp only [List.getD_eq_getElem?_getD]
      rw [List.getElem?_append_right (by rw [bE];omega),bE]
      simp
theorem mW {N nb:Nat} {g:Nat→aa} (hg:ah ((N:Int),(nb,g),())=true) :
    zE 27 [bi g nb N,.p (.int .i64 2),.p (.int .i64 3)] [(0,aY (ks N nb g).1 (ks N nb g).2)] (.ar 1 0 0 (ks N nb g).1):=by
  obtain ⟨m,F,T,Q,hrun,hm,hn,hq⟩:=eX hg 2 3 (by omega) (by omega)
  have e1:(ks N nb g).1=m:=by show (aK N 2 3 g nb).length=m;rw [← hq,bE]
  have e2:∀ t,t<m→(ks N nb g).2 t=Q t:=fun t ht=>by
    show (((aK N 2 3 g nb).getD t 0:Nat):Int)=Q t
    rw [← hq,C4 m t ht]
    have:=hn t ht
    omega
  have cc:=cG m Q (by omega)
  rw [e1]
  generalize (ks N nb g).2=q at e2 ⊢
  refine aW Tryz.func27 (fun c hc=>?_)
  refine be Tryz.func27 hc (Mp g nb N (2:Nat) (3:Nat) m F T Q q) ?_
  repeat' (first | exact aN | apply aI)
  iterate 2 all_goals (first | exact zI | (exact hrun) | (exact cc) | (intro t ht;refine ⟨True.intro,?_⟩;rw [e2 t ht]) | (intro t ht;simp [af];done) | simp only [af])
theorem El (N nb:Nat) (g:Nat→aa):(ks N nb g).1≤nb:=dc N 2 3 g nb
theorem vi {C:Nat→ad} {N:Nat} (hN:N≤8):∀ i,(∀ j,j<i→(C j).1≤N)→(cN C i).1≤9*i
  | 0,_=>Nat.le_refl _
  | i+1,h=>by
    have h1:=vi hN i (fun j hj=>h j (by omega))
    have h2:=h i (by omega)
    show (cN C i).1+(C i).1+1≤_
    omega
theorem pQ (k:Nat) (ob:Ob) (H:Hp) (x:Id):lk ((k,ob)::H) x=if x.o=k then vw ob x.m else lk H x:=by
  unfold lk
  rw [List.lookup_cons]
  by_cases h:x.o=k
  · simp [h]
  · have:(x.o==k)=false:=by simpa using h
    rw [this,if_neg h]
theorem pF (x:Id):lk [] x=none:=rfl
def cU (n:Nat) (f:Nat→ae):Ob:=⟨false,2,n,fun i=>[.p (.int .i64 (f i).1),.p (.int .i64 (f i).2.1)]⟩
def BB (w:cF):AV:=.agg [.p (.int .i64 w.1),.p (.int .i64 w.2.1.1),.ar 2 0 0 w.2.1.2.1.1,.p (.int .i64 w.2.2.1.1.1.1),.ar 2 1 0 w.2.2.1.1.1.2.1.1,.ar 2 2 0 w.2.2.1.1.2.1.1,.ar 1 3 0 w.2.2.1.2.1.1,.ar 5 4 0 w.2.2.2.1.1,.ar 1 5 0 w.2.2.2.2.1.1]
def sQ (w:cF):Hp:=[(0,aj w.2.1.2.1.1 w.2.1.2.1.2),(1,aj w.2.2.1.1.1.2.1.1 w.2.2.1.1.1.2.1.2),(2,cU w.2.2.1.1.2.1.1 w.2.2.1.1.2.1.2),(3,aY w.2.2.1.2.1.1 w.2.2.1.2.1.2),(4,dZ w.2.2.2.1.1 w.2.2.2.1.2),(5,aY w.2.2.2.2.1.1 w.2.2.2.2.1.2)]
def IY:b5:=(0,fun _=>(0,0,()))
def Ee:ad:=(0,fun _=>0)
def Ew:aT:=(0,fun _=>qn)
def JC:js:=(((0,IY,()),(0,fun _=>(0,0,())),()),Ee,())
def yc (K N:Int) (G:b5) (S:aT) (I:ad):cF:=(K,(N,G,()),JC,S,I,())
def iI:cF:=yc 0 0 IY Ew Ee
theorem oz {f:FuncId} {a:List AV} {b:Bool} (h:Con Tryz.prog f 0 [] a [] (.tup [Cf,.p (.bool b)])):Con Tryz.prog f 0 [] a (sQ iI) (.tup [BB iI,.p (.bool b)]):=by
  refine Con.add (fun k=>true) h (fun o ob ho=>?_) (fun o ob ho=>?_) (fun o ob ho=>?_) rfl (fun j hj=>?_)
  · simp only [sQ,pQ,pF] at ho ⊢
    by_cases h0:o.o=0
    · rw [if_pos h0] at ho;obtain ⟨_,rfl⟩:=a5 rfl ho;exact .inr ⟨by simp [h0],rfl⟩
    rw [if_neg h0] at ho
    by_cases h1:o.o=1
    · rw [if_pos h1] at ho;obtain ⟨_,rfl⟩:=a5 rfl ho;exact .inr ⟨by simp [h1],rfl⟩
    rw [if_neg h1] at ho
    by_cases h2:o.o=2
    · rw [if_pos h2] at ho;obtain ⟨_,rfl⟩:=a5 rfl ho;exact .inr ⟨by simp [h2],rfl⟩
    rw [if_neg h2] at ho
    by_cases h3:o.o=3
    · rw [if_pos h3] at ho;obtain ⟨_,rfl⟩:=a5 rfl ho;exact .inr ⟨by simp [h3],rfl⟩
    rw [if_neg h3] at ho
    by_cases h4:o.o=4
    · rw [if_pos h4] at ho;obtain ⟨_,rfl⟩:=a5 rfl ho;exact .inr ⟨by simp [h4],rfl⟩
    rw [if_neg h4] at ho
    by_cases h5:o.o=5
    · rw [if_pos h5] at ho;obtain ⟨_,rfl⟩:=a5 rfl ho;exact .inr ⟨by simp [h5],rfl⟩
    rw [if_neg h5] at ho
    cases ho
  · simp only [sQ,pQ,pF] at ho ⊢
    cases ho
  · simp only [pQ,pF] at ho
    cases ho
  · have hj:j<9:=hj
    have:j=0∨j=1∨j=2∨j=3∨j=4∨j=5∨j=6∨j=7∨j=8:=by omega
    rcases this with rfl | rfl | rfl | rfl | rfl | rfl | rfl | rfl | rfl
    · exact .inl ⟨rfl,.inl ⟨_,rfl⟩⟩
    · exact .inl ⟨rfl,.inl ⟨_,rfl⟩⟩
    · exact .inr ⟨rfl,_,_,_,rfl⟩
    · exact .inl ⟨rfl,.inl ⟨_,rfl⟩⟩
    · exact .inr ⟨rfl,_,_,_,rfl⟩
    · exact .inr ⟨rfl,_,_,_,rfl⟩
    · exact .inr ⟨rfl,_,_,_,rfl⟩
    · exact .inr ⟨rfl,_,_,_,rfl⟩
    · exact .inr ⟨rfl,_,_,_,rfl⟩
theorem CO {f:FuncId} {a:List AV} {b:Bool} {K:Int} {N nb n:Nat} {g:Nat→aa} {S:Nat→ap} (h:Con Tryz.prog f 0 [] a [(0,aj nb g),(4,dZ n S)] (.tup [Hl K N nb n,.p (.bool b)])):Con Tryz.prog f 0 [] a (sQ (yc K N (nb,g) (n,S) Ee)) (.tup [BB (yc K N (nb,g) (n,S) Ee),.p (.bool b)]):=by
  refine Con.add (fun k=>!((k==0)||(k==4))) h (fun o ob ho=>?_) (fun o ob ho=>?_) (fun o ob ho=>?_) rfl (fun j hj=>?_)
  · simp only [sQ,pQ,pF] at ho ⊢
    by_cases h0:o.o=0
    · rw [if_pos h0] at ho;exact .inl ⟨by simp only [h0];exact ho,by simp [h0]⟩
    rw [if_neg h0] at ho
    by_cases h1:o.o=1
    · rw [if_pos h1] at ho;obtain ⟨_,rfl⟩:=a5 rfl ho;exact .inr ⟨by simp [h1],rfl⟩
    rw [if_neg h1] at ho
    by_cases h2:o.o=2
    · rw [if_pos h2] at ho;obtain ⟨_,rfl⟩:=a5 rfl ho;exact .inr ⟨by simp [h2],rfl⟩
    rw [if_neg h2] at ho
    by_cases h3:o.o=3
    · rw [if_pos h3] at ho;obtain ⟨_,rfl⟩:=a5 rfl ho;exact .inr ⟨by simp [h3],rfl⟩
    rw [if_neg h3] at ho
    by_cases h4:o.o=4
    · rw [if_pos h4] at ho;exact .inl ⟨by simp only [h4];exact ho,by simp [h4]⟩
    rw [if_neg h4] at ho
    by_cases h5:o.o=5
    · rw [if_pos h5] at ho;obtain ⟨_,rfl⟩:=a5 rfl ho;exact .inr ⟨by simp [h5],rfl⟩
    rw [if_neg h5] at ho
    cases ho
  · simp only [sQ,pQ,pF] at ho ⊢
    by_cases h0:o.o=0
    · rw [if_pos h0] at ho;exact ⟨by simp [h0],by simp only [h0];exact ho⟩
    rw [if_neg h0] at ho
    by_cases h4:o.o=4
    · rw [if_pos h4] at ho;exact ⟨by simp [h4],by simp only [h4];exact ho⟩
    rw [if_neg h4] at ho
    cases ho
  · simp only [pQ,pF] at ho
    by_cases h0:o.o=0
    · rw [if_pos h0] at ho;obtain ⟨_,rfl⟩:=a5 rfl ho;intro i j _ hj
      have hj:j<2:=hj
      have:j=0∨j=1:=by omega
      rcases this with rfl | rfl<;>exact ⟨_,rfl⟩
    rw [if_neg h0] at ho
    by_cases h4:o.o=4
    · rw [if_pos h4] at ho;obtain ⟨_,rfl⟩:=a5 rfl ho;intro i j _ hj
      have hj:j<5:=hj
      have:j=0∨j=1∨j=2∨j=3∨j=4:=by omega
      rcases this with rfl | rfl | rfl | rfl | rfl<;>exact ⟨_,rfl⟩
    rw [if_neg h4] at ho
    cases ho
  · have hj:j<9:=hj
    have:j=0∨j=1∨j=2∨j=3∨j=4∨j=5∨j=6∨j=7∨j=8:=by omega
    rcases this with rfl | rfl | rfl | rfl | rfl | rfl | rfl | rfl | rfl
    · exact .inl ⟨rfl,.inl ⟨_,rfl⟩⟩
    · exact .inl ⟨rfl,.inl ⟨_,rfl⟩⟩
    · exact .inl ⟨rfl,.inr ⟨_,_,_,_,rfl,rfl⟩⟩
    · exact .inl ⟨rfl,.inl ⟨_,rfl⟩⟩
    · exact .inr ⟨rfl,_,_,_,rfl⟩
    · exact .inr ⟨rfl,_,_,_,rfl⟩
    · exact .inr ⟨rfl,_,_,_,rfl⟩
    · exact .inl ⟨rfl,.inr ⟨_,_,_,_,rfl,rfl⟩⟩
    · exact .inr ⟨rfl,_,_,_,rfl⟩
theorem Dc {f:FuncId} {a:List AV} {b:Bool} {K:Int} {N nb n:Nat} {g:Nat→aa} {F:Nat→Int} (h:Con Tryz.prog f 0 [] a [(0,aj nb g),(5,aY n F)] (.tup [Fj K N nb n,.p (.bool b)])):Con Tryz.prog f 0 [] a (sQ (yc K N (nb,g) Ew (n,F))) (.tup [BB (yc K N (nb,g) Ew (n,F)),.p (.bool b)]):=by
  refine Con.add (fun k=>!((k==0)||(k==5))) h (fun o ob ho=>?_) (fun o ob ho=>?_) (fun o ob ho=>?_) rfl (fun j hj=>?_)
  · simp only [sQ,pQ,pF] at ho ⊢
    by_cases h0:o.o=0
    · rw [if_pos h0] at ho;exact .inl ⟨by simp only [h0];exact ho,by simp [h0]⟩
    rw [if_neg h0] at ho
    by_cases h1:o.o=1
    · rw [if_pos h1] at ho;obtain ⟨_,rfl⟩:=a5 rfl ho;exact .inr ⟨by simp [h1],rfl⟩
    rw [if_neg h1] at ho
    by_cases h2:o.o=2
    · rw [if_pos h2] at ho;obtain ⟨_,rfl⟩:=a5 rfl ho;exact .inr ⟨by simp [h2],rfl⟩
    rw [if_neg h2] at ho
    by_cases h3:o.o=3
    · rw [if_pos h3] at ho;obtain ⟨_,rfl⟩:=a5 rfl ho;exact .inr ⟨by simp [h3],rfl⟩
    rw [if_neg h3] at ho
    by_cases h4:o.o=4
    · rw [if_pos h4] at ho;obtain ⟨_,rfl⟩:=a5 rfl ho;exact .inr ⟨by simp [h4],rfl⟩
    rw [if_neg h4] at ho
    by_cases h5:o.o=5
    · rw [if_pos h5] at ho;exact .inl ⟨by simp only [h5];exact ho,by simp [h5]⟩
    rw [if_neg h5] at ho
    cases ho
  · simp only [sQ,pQ,pF] at ho ⊢
    by_cases h0:o.o=0
    · rw [if_pos h0] at ho;exact ⟨by simp [h0],by simp only [h0];exact ho⟩
    rw [if_neg h0] at ho
    by_cases h5:o.o=5
    · rw [if_pos h5] at ho;exact ⟨by simp [h5],by simp only [h5];exact ho⟩
    rw [if_neg h5] at ho
    cases ho
  · simp only [pQ,pF] at ho
    by_cases h0:o.o=0
    · rw [if_pos h0] at ho;obtain ⟨_,rfl⟩:=a5 rfl ho;intro i j _ hj
      have hj:j<2:=hj
      have:j=0∨j=1:=by omega
      rcases this with rfl | rfl<;>exact ⟨_,rfl⟩
    rw [if_neg h0] at ho
    by_cases h5:o.o=5
    · rw [if_pos h5] at ho;obtain ⟨_,rfl⟩:=a5 rfl ho;intro i j _ hj
      have hj:j<1:=hj
      have:j=0:=by omega
      subst this;exact ⟨_,rfl⟩
    rw [if_neg h5] at ho
    cases ho
  · have hj:j<9:=hj
    have:j=0∨j=1∨j=2∨j=3∨j=4∨j=5∨j=6∨j=7∨j=8:=by omega
    rcases this with rfl | rfl | rfl | rfl | rfl | rfl | rfl | rfl | rfl
    · exact .inl ⟨rfl,.inl ⟨_,rfl⟩⟩
    · exact .inl ⟨rfl,.inl ⟨_,rfl⟩⟩
    · exact .inl ⟨rfl,.inr ⟨_,_,_,_,rfl,rfl⟩⟩
    · exact .inl ⟨rfl,.inl ⟨_,rfl⟩⟩
    · exact .inr ⟨rfl,_,_,_,rfl⟩
    · exact .inr ⟨rfl,_,_,_,rfl⟩
    · exact .inr ⟨rfl,_,_,_,rfl⟩
    · exact .inr ⟨rfl,_,_,_,rfl⟩
    · exact .inl ⟨rfl,.inr ⟨_,_,_,_,rfl,rfl⟩⟩
theorem tE (S:ad) (A:Nat→aa):∀ d i (x:b5),(j5 S A i d x).1≤x.1+d
  | 0,_,_=>Nat.le_refl _
  | d+1,i,x=>by
    rw [j5]
    have:=tE S A d (i+1) (bif a0 S.2 i S.1 then (x.1+1,aZ x.1 x.2 (A i)) else x)
    revert this
    cases a0 S.2 i S.1<;>intro this<;>simp only [cond_true,cond_false] at this ⊢<;>omega
def BA (K:Int) (N:Nat) (G:b5) (R:aT×Bool):cF×Bool:=if R.2=true then (yc K N G R.1 Ee,true) else (iI,false)
def BG (K:Int) (N:Nat) (G:b5) (R:ad×Bool):cF×Bool:=if R.2=true then (yc K N G Ew R.1,true) else (iI,false)
theorem y7 {K:Int} {N:Nat} {G:b5} {R:aT×Bool} (h:R.2=true):BA K N G R=(yc K N G R.1 Ee,true):=by rw [BA,if_pos h]
theorem A4 {K:Int} {N:Nat} {G:b5} {R:aT×Bool} (h:R.2=false):BA K N G R=(iI,false):=by rw [BA,h];rfl
theorem CN {K:Int} {N:Nat} {G:b5} {R:ad×Bool} (h:R.2=true):BG K N G R=(yc K N G Ew R.1,true):=by rw [BG,if_pos h]
theorem Dg {K:Int} {N:Nat} {G:b5} {R:ad×Bool} (h:R.2=false):BG K N G R=(iI,false):=by rw [BG,h];rfl
noncomputable def gG (K:Int) (N nb:Nat) (g:Nat→aa):cF×Bool :=
  if K=1 then BA K N (nb,g) (pN N (j5 (ks N nb g) g 0 nb zB).1 (j5 (ks N nb g) g 0 nb zB).2)
  else if K=2 then (if bA ((N:Int),(nb,g),())=0 then (iI,false) else (yc K N (nb,g) Ew (cN (bU ((N:Int),(nb,g),())).2 (bU ((N:Int),(nb,g),())).1),true))
  else if K=3 then BG K N (nb,g) (mz g nb N 2 3 (2 ^ N - 1) 1)
  else if K=6 then BA K N (nb,g) (pN N nb g)
  else (iI,false)
noncomputable def xU (K:Int) (v:ai):cF×Bool:=if ah v=true then gG K v.1.toNat v.2.1.1 v.2.1.2 else (iI,false)
theorem fM (K:Int) (v:ai) (hs:cP a6 v):zE 6 [.p (.int .i64 K),aJ v] (sQ (xU K v).1) (.tup [BB (xU K v).1,.p (.bool (xU K v).2)]):=by
  have hcg:=aQ v hs
  cases hg:ah v with
  | false =>
    rw [hg] at hcg
    rw [show xU K v=(iI,false) by unfold xU;rw [hg];rfl]
    refine oz (aW Tryz.func6 (fun c hc=>?_))
    refine bz Tryz.func6 hc (NW K v) ?_
    and_intros
    all_goals (first | exact zI | (exact hcg) | rfl)
  | true =>
    rw [hg] at hcg
    obtain ⟨N,nb,g,rfl⟩:=bM v hg
    obtain ⟨hN,hnb,hok⟩:=aB hg
    rw [show xU K ((N:Int),(nb,g),())=gG K N nb g by unfold xU;rw [hg];rfl]
    have cc:=iD N nb g (by omega)
    unfold gG
    by_cases k1:K=1
    · rw [if_pos k1]
      have ca:=mW hg
      have hal:=El N nb g
      have co:=pO (N:Int) nb g (ks N nb g) (by omega) (by omega)
      have hol:=tE (ks N nb g) g nb 0 zB
      have cf:=fV (N:=N) (nb:=(j5 (ks N nb g) g 0 nb zB).1) (g:=(j5 (ks N nb g) g 0 nb zB).2) (by have:zB.1=0:=rfl;omega)
      generalize ks N nb g=q at *
      generalize j5 q g 0 nb zB=G at *
      generalize pN N G.1 G.2=R at *
      subst k1
      cases hb:R.2 with
      | true =>
        rw [hb] at cf
        rw [y7 hb]
        refine CO (aW Tryz.func6 (fun c hc=>?_))
        refine bz Tryz.func6 hc (Is 1 g nb N q.1 q.2 G.1 G.2 R.1.1 R.1.2) ?_
        and_intros
        all_goals (first | exact zI | (exact hcg) | (exact cc) | (exact ca) | (exact co) | (exact cf) | rfl | (intro t ht;simp [af];done))
      | false =>
        rw [hb] at cf
        rw [A4 hb]
        refine oz (aW Tryz.func6 (fun c hc=>?_))
        refine bz Tryz.func6 hc (Jm 1 g nb N q.1 q.2 G.1 G.2 R.1.1 R.1.2) ?_
        and_intros
        all_goals (first | exact zI | (exact hcg) | (exact cc) | (exact ca) | (exact co) | (exact cf) | rfl | (intro t ht;simp [af];done))
    rw [if_neg k1]
    have b1:(K==1)=false:=by simp [k1]
    by_cases k2:K=2
    · rw [if_pos k2]
      have cr:=eQ ((N:Int),(nb,g),()) hs
      have cp:=q7 ((N:Int),(nb,g),()) hs
      obtain ⟨p1,p2⟩:=ox ((N:Int),(nb,g),())
      generalize bU ((N:Int),(nb,g),())=C at *
      have lo:∀ (ok:Bool) (c:Cx) (H:Hp) (r:AV),c.n=0→zR c 6 qy (BX K g nb N ok C.1 C.2 C.1 (cN C.2 C.1).1 (cN C.2 C.1).2) (aS c H r) →
          ∀ d i,i+d=C.1→zR c 6 qy (BX K g nb N ok C.1 C.2 i (cN C.2 i).1 (cN C.2 i).2) (aS c H r):=by
        intro ok c H r hc hend d
        induction d with
        | zero =>
          intro i hi
          obtain rfl:i=C.1:=by omega
          exact hend
        | succ d ih =>
          intro i hi
          have hd:decide ((i:Int)<(C.1:Int))=true:=decide_eq_true (by omega)
          have h1:=vi (Nat.le_refl 8) i (fun j hj=>p2 j (by omega))
          have h2:=p2 i (by omega)
          have hr:=ih (i+1) (by omega)
          rw [show cN C.2 (i+1)=((cN C.2 i).1+(C.2 i).1+1,ms (cN C.2 i).1 (cN C.2 i).2 (C.2 i).1 (C.2 i).2) from rfl] at hr
          generalize cN C.2 i=R at hr h1 ⊢
          refine cW hc (IZ K g nb N ok C.1 C.2 i R.1 R.2) ?_ hr
          and_intros
          all_goals (first | exact zI | (exact hd) | (intro t ht;by_cases h':t<R.1+(C.2 i).1<;>by_cases h'':t<R.1<;>simp [h',h'',ms,ay,bh,tg,bu,af]<;>omega) | (simp;omega) | (intro t ht;simp [af];done))
      have hd:decide ((C.1:Int)<(C.1:Int))=false:=by simp
      by_cases hf:bA ((N:Int),(nb,g),())=0
      · rw [if_pos hf]
        rw [show (bA ((N:Int),(nb,g),())==0)=true by simp [hf]] at cr
        refine oz (aW Tryz.func6 (fun c hc=>?_))
        have hend:zR c 6 qy (BX K g nb N false C.1 C.2 C.1 (cN C.2 C.1).1 (cN C.2 C.1).2) (aS c [] (.tup [Cf,.p (.bool false)])):=by
          generalize cN C.2 C.1=R
          refine be Tryz.func6 hc (H6 K g nb N C.1 C.2 C.1 R.1 R.2) ?_
          and_intros
          all_goals (first | exact zI | (exact hd) | rfl | (intro t ht;simp [af];done))
        have hr:=lo false c [] (.tup [Cf,.p (.bool false)]) hc hend C.1 0 (by omega)
        have b2:(K==2)=true:=by simp [k2]
        refine a9 hc (FP K g nb N true C.1 C.2) ?_ hr
        and_intros
        all_goals (first | exact zI | (exact hcg) | (exact cc) | (exact cr) | (exact cp) | (exact b1) | (exact b2) | rfl | (intro t ht;exact absurd ht (Nat.not_lt_zero _)) | (intro t ht;simp [af];done))
      · rw [if_neg hf]
        rw [show (bA ((N:Int),(nb,g),())==0)=false by simp [hf]] at cr
        refine Dc (aW Tryz.func6 (fun c hc=>?_))
        have hend:zR c 6 qy (BX K g nb N true C.1 C.2 C.1 (cN C.2 C.1).1 (cN C.2 C.1).2) (aS c [(0,aj nb g),(5,aY (cN C.2 C.1).1 (cN C.2 C.1).2)] (.tup [Fj K N nb (cN C.2 C.1).1,.p (.bool true)])):=by
          generalize cN C.2 C.1=R
          refine be Tryz.func6 hc (Hf K g nb N C.1 C.2 C.1 R.1 R.2) ?_
          and_intros
          all_goals (first | exact zI | (exact hd) | rfl | (intro t ht;simp [af];done))
        have hr:=lo true c [(0,aj nb g),(5,aY (cN C.2 C.1).1 (cN C.2 C.1).2)] (.tup [Fj K N nb (cN C.2 C.1).1,.p (.bool true)]) hc hend C.1 0 (by omega)
        have b2:(K==2)=true:=by simp [k2]
        refine a9 hc (FP K g nb N false C.1 C.2) ?_ hr
        and_intros
        all_goals (first | exact zI | (exact hcg) | (exact cc) | (exact cr) | (exact cp) | (exact b1) | (exact b2) | rfl | (intro t ht;exact absurd ht (Nat.not_lt_zero _)) | (intro t ht;simp [af];done))
    rw [if_neg k2]
    have b2:(K==2)=false:=by simp [k2]
    by_cases k3:K=3
    · rw [if_pos k3]
      have b3:(K==3)=true:=by simp [k3]
      have cv:=mI hg 2 3 (by omega) (by omega) (R:=mz g nb N 2 3 (2 ^ N - 1) 1) rfl
      generalize mz g nb N 2 3 (2 ^ N - 1) 1=R at *
      cases hb:R.2 with
      | true =>
        rw [hb] at cv
        rw [CN hb]
        refine Dc (aW Tryz.func6 (fun c hc=>?_))
        refine bz Tryz.func6 hc (HF K g nb N R.1.1 R.1.2) ?_
        and_intros
        all_goals (first | exact zI | (exact hcg) | (exact cc) | (exact cv) | (exact b1) | (exact b2) | (exact b3) | rfl | (intro t ht;simp [af];done))
      | false =>
        rw [hb] at cv
        rw [Dg hb]
        refine oz (aW Tryz.func6 (fun c hc=>?_))
        refine bz Tryz.func6 hc (Jn K g nb N R.1.1 R.1.2) ?_
        and_intros
        all_goals (first | exact zI | (exact hcg) | (exact cc) | (exact cv) | (exact b1) | (exact b2) | (exact b3) | rfl | (intro t ht;simp [af];done))
    rw [if_neg k3]
    have b3:(K==3)=false:=by simp [k3]
    by_cases k6:K=6
    · rw [if_pos k6]
      have b6:(K==6)=true:=by simp [k6]
      have cf:=fV (N:=N) (nb:=nb) (g:=g) (by omega)
      generalize pN N nb g=R at *
      cases hb:R.2 with
      | true =>
        rw [hb] at cf
        rw [y7 hb]
        refine CO (aW Tryz.func6 (fun c hc=>?_))
        refine bz Tryz.func6 hc (HG K g nb N R.1.1 R.1.2) ?_
        and_intros
        all_goals (first | exact zI | (exact hcg) | (exact cc) | (exact cf) | (exact b1) | (exact b2) | (exact b3) | (exact b6) | rfl | (intro t ht;simp [af];done))
      | false =>
        rw [hb] at cf
        rw [A4 hb]
        refine oz (aW Tryz.func6 (fun c hc=>?_))
        refine bz Tryz.func6 hc (I4 K g nb N R.1.1 R.1.2) ?_
        and_intros
        all_goals (first | exact zI | (exact hcg) | (exact cc) | (exact cf) | (exact b1) | (exact b2) | (exact b3) | (exact b6) | rfl | (intro t ht;simp [af];done))
    rw [if_neg k6]
    have b6:(K==6)=false:=by simp [k6]
    refine oz (aW Tryz.func6 (fun c hc=>?_))
    refine bz Tryz.func6 hc (MS K g nb N) ?_
    and_intros
    all_goals (first | exact zI | (exact hcg) | (exact cc) | (exact b1) | (exact b2) | (exact b3) | (exact b6) | rfl | (intro t ht;simp [af];done))
def Ig (n:Nat) (h:Nat→ae) (x:ae) (s:Nat):ae:=(if s<n then (h s).1 else x.1,if s<n then (h s).2.1 else x.2.1,())
def JL:Ob:=⟨true,3,1,fun _=>[.p (.int .i64 0),.p .nil,.p .nil]⟩
def Fl (N:Nat) (c m:Nat):Ob:=⟨true,3,1,fun _=>[.p (.int .i64 N),.ar 2 4 0 c,.ar 2 5 0 m]⟩
def zU (n:Nat) (f:Nat→Int) (s:Nat×Int) (g:Nat→aa) (nb N m:Nat) (pl:Nat→ae) (i:Nat):St :=
  ⟨[.pt 3 0 0 0,.p .any,.p .any,.pt 2 1 0 0,.pt 3 2 0 0,.pt 3 3 0 0,.p (.int .i64 i)]++List.replicate 73 ag,[(0,aR n f s),(1,lz g nb N),(2,JL),(3,Fl N 0 m),(4,aj 0 (fun _=>(0,0,()))),(5,cU m pl)],6⟩
def tZ (n:Nat) (f:Nat→Int) (s:Nat×Int) (g:Nat→aa) (nb N c:Nat) (R:Nat→aa) (m:Nat) (pl:Nat→ae) (q:Nat):St :=
  ⟨[.pt 3 0 0 0,.p .any,.p .any,.pt 2 1 0 0,.pt 3 2 0 0,.pt 3 3 0 0,.p .any,.p .any,.p (.int .i64 q)]++List.replicate 71 ag,[(0,aR n f s),(1,lz g nb N),(2,JL),(3,Fl N c m),(4,aj c R),(5,cU m pl)],6⟩
def rK (N:Int) (c m:Nat):AV:=.agg [.p (.int .i64 N),.ar 2 1 0 c,.ar 2 2 0 m]
def By (N:Int) (c o m j k:Nat):AV:=.agg [.p (.int .i64 N),.ar 2 j 0 c,.ar 2 k o m]
def IQ (pl:Nat→ae) (y:Int) (i:Nat):ae:=(if i=0 then y else (pl i).1,(pl i).2.1,())
theorem Of (n:Nat) (f:Nat→Int) (s:Nat×Int) (g:Nat→aa) (nb N:Nat) :
    zM 1 [rg 2,rg 7,rg 1,.head] [.code (ab Tryz.f109)] (start Tryz.f109 [(0,aR n f s)] 1 [.pt 3 0 0 0,bi g nb N]) [0,1,33,225,129] 1 (zU n f s g nb N 0 (fun _=>(0,0,())) 0) =
    some (Bt,zD [(NT 0 1),((true=true)→(AN 1)),(AN 0),((0:Int)=(↑0:Int)),(AN 3),(NL 1 1),(AN n),(AP n (fun i=>[.int .u8 (f i)])),(AI ((s.1:Int))),(AI s.2),((([AV.p (PV.int IntKind.i64 (N:Int)),b4 g nb].length):Nat)=2),(AI ((N:Int))),(AN nb),(AP nb (aF g)),((((List.map (fun v=>AV.p (bZ v)) [Value.int IntKind.i64 0,Value.slice none 0 0,Value.slice none 0 0]).length):Nat)=3),(AI 0),(AN 2),(NL 0 0),(AA 0 (fun i=>[.p (.int .i64 0),.p (.int .i64 0)]))] [0,0,1,2,2,2,2,3,4,5,5,6,7,8,9,10,5,5,11,12,13,14,5,5,15,14,5,5,11,2,2,2,16,17,18,2]):=by kernel_rfl
theorem NS (n:Nat) (f:Nat→Int) (s s1 s2:Nat×Int) (g:Nat→aa) (nb N m:Nat) (pl:Nat→ae) (i:Nat) (x y:Int) :
    zM 1 [rg 4,.dec true,rm [(1,⟨true,(some ⟨[0],[1000],[],1,[(0,aR n f s1)],jI x⟩),none⟩)] 1,rm [(4,⟨true,(some ⟨[0],[1000],[],1,[(0,aR n f s2)],jI y⟩),none⟩)] 5,rg 3,.head] Bt (zU n f s g nb N m pl i) [0,1,2,3,4,454] 1 (zU n f s2 g nb N (m+1) (Ig m pl (x,y,())) (i+1)) =
    some (Bt,[(NT 0 1),((decide ((i:Int)<(N:Int)))=true),(AE 1),Con Tryz.prog 53 1 (vA n f s) [.pt 3 0 0 0,jI 5] (vA n f s1) (jI x),(NT 0 1),(AE 1),Con Tryz.prog 53 1 (vA n f s1) [.pt 3 0 0 0,jI 5] (vA n f s2) (jI y),(NL 1 1),(NL m m),(NL ((m+1)*16) 140737488355328),(NL (m+1) 9223372036854775807),(NT 0 1),((true=true)→(AN 1)),(ax ((i:Int)+1)),(au ((i:Int)+1)),(AN 0),(AN 0),(AN 0),(AN 0),((((i:Int)+1):Int)=(↑(i+1):Int)),(AN 3),(NL 1 1),(NL 1 1),(AN n),(AP n (fun i_1=>[.int .u8 (f i_1)])),(AI ((s2.1:Int))),(AI s2.2),(AN 2),(NL 1 1),(NL 1 1),(AI ((N:Int))),(AN nb),(AP nb (aF g)),(AN 3),(NL 1 1),(NL 1 1),(AI 0),(AN 3),(NL 1 1),(NL 1 1),(AI ((N:Int))),(AN 0),(AN 0),(AN 0),(AN ((m+1))),(AN 2),(NL 0 0),(AA 0 (fun i_1=>[.p (.int .i64 0),.p (.int .i64 0)])),(AN 2),(NL (m+1) (m+1)),(CV [(3,⟨true,3,1,(fun i_2=>[.p (.int .i64 (N:Int)),.ar 2 4 0 0,.ar 2 454 0 (m+1)])⟩),(454,⟨false,2,(m+1),(fun i_2=>(if (i_2<m) then [.p (.int .i64 ((pl i_2).1)),.p (.int .i64 ((pl i_2).2.1))] else [.p (.int .i64 x),.p (.int .i64 y)]))⟩),(422,⟨false,2,1,(fun i_2=>[.p (.int .i64 x),.p (.int .i64 y)])⟩),(0,⟨true,3,1,(fun i_2=>[.p (.seq false 1 n (fun i_3=>[.int .u8 (f i_3)])),.p (.int .i64 (s2.1:Int)),.p (.int .i64 s2.2)])⟩),(1,⟨true,2,1,(fun i_2=>[.p (.int .i64 (N:Int)),.p (.seq true 2 nb (aF g))])⟩),(2,⟨true,3,1,(fun i_2=>[.p (.int .i64 0),.p (.nil),.p (.nil)])⟩),(4,⟨false,2,0,(fun i_2=>[.p (.int .i64 0),.p (.int .i64 0)])⟩)] [0,1,2,3,4,454] 1 (m+1) (fun i_1=>if (i_1<m) then [.p (.int .i64 ((pl i_1).1)),.p (.int .i64 ((pl i_1).2.1))] else [.p (.int .i64 x),.p (.int .i64 y)]) (fun i_1=>[.p (.int .i64 (if i_1<m then (pl i_1).1 else x)),.p (.int .i64 (if i_1<m then (pl i_1).2.1 else y))]))]):=by kernel_rfl
theorem MX (n:Nat) (f:Nat→Int) (s:Nat×Int) (g:Nat→aa) (nb N m:Nat) (pl:Nat→ae) (i:Nat) :
    zM 1 [rg 4,.dec false,rg 1,.head] Bt (zU n f s g nb N m pl i) [0,1,2,3,4,5] 1 (tZ n f s g nb N 0 (fun _=>(0,0,())) m pl 0) =
    some (uw,[(NT 0 1),((decide ((i:Int)<(N:Int)))=false),(AN 0),(AN 0),(AN 0),(AN 0),((0:Int)=(↑0:Int)),(AN 3),(NL 1 1),(NL 1 1),(AN n),(AP n (fun i_1=>[.int .u8 (f i_1)])),(AI ((s.1:Int))),(AI s.2),(AN 2),(NL 1 1),(NL 1 1),(AI ((N:Int))),(AN nb),(AP nb (aF g)),(AN 3),(NL 1 1),(NL 1 1),(AI 0),(AN 3),(NL 1 1),(NL 1 1),(AI ((N:Int))),(AN 0),(AN 0),(AN 0),(AN m),(AN 2),(NL 0 0),(AA 0 (fun i_1=>[.p (.int .i64 0),.p (.int .i64 0)])),(AN 2),(NL m m),(AA m (fun i_1=>[.p (.int .i64 ((pl i_1).1)),.p (.int .i64 ((pl i_1).2.1))]))]):=by kernel_rfl
theorem Om (n:Nat) (f:Nat→Int) (s:Nat×Int) (g:Nat→aa) (nb N c:Nat) (R:Nat→aa) (m:Nat) (pl:Nat→ae) (q:Nat) :
    zM 1 [rg 5,.dec true,rg 7,rg 27,.dec true,rg 9,rg 3,.head] uw (tZ n f s g nb N c R m pl q) [0,1,2,3,1414,5] 1 (tZ n f s g nb N (c+1) (aZ c R (g q)) m pl (q+1)) =
    some (uw,(let A:Bool:=(pl (g q).1.toNat).1==(pl (g q).2.1.toNat).1&&((pl (g q).1.toNat).2.1==(pl (g q).2.1.toNat).2.1&&true);let C:Bool:=(q:Int)==0;let B:Bool:=!(A)&&!C;[(NT 0 1),((decide ((q:Int)<(nb:Int)))=true),(NT 0 1),(IL 0 (q:Int)),(IT (q:Int) (nb:Int)),(NT 0 1),((true=true)→(AN 1)),(NT 0 1),(NT 0 1),(IL 0 ((g q).1)),(IT ((g q).1) (m:Int)),(NT ((g q).1.toNat) m),(NT 0 1),(NT 0 1),(IL 0 ((g q).2.1)),(IT ((g q).2.1) (m:Int)),(NT ((g q).2.1.toNat) m),(AG (!(A))),(AG (!(A))),(AG B),((B=true)→(NT 0 1)),(AG B),((B=true)→(ax ((q:Int) - 1))),((B=true)→(au ((q:Int) - 1))),(AG B),(AG B),((B=true)→(IL 0 ((q:Int) - 1))),((B=true)→(IT ((q:Int) - 1) (nb:Int))),(AG B),((B=true)→(NT 0 1)),(AG B),(AG B),(AG (!(A))),(((!(A))=true)→((C=false)→(B=true))),(AG (!(A))),((bif !(A) then bif C then true else !((g ((q:Int) - 1).toNat).1==(g q).1&&((g ((q:Int) - 1).toNat).2.1==(g q).2.1&&true)) else false)=true),(NT 0 1),(NT 0 1),(NL 1 1),(NL c c),(NL ((c+1)*16) 140737488355328),(NL (c+1) 9223372036854775807),(NT 0 1),((true=true)→(AN 1)),(ax ((q:Int)+1)),(au ((q:Int)+1)),(AN 0),(AN 0),(AN 0),(AN 0),((((q:Int)+1):Int)=(↑(q+1):Int)),(AN 3),(NL 1 1),(NL 1 1),(AN n),(AP n (fun i=>[.int .u8 (f i)])),(AI ((s.1:Int))),(AI s.2),(AN 2),(NL 1 1),(NL 1 1),(AI ((N:Int))),(AN nb),(AP nb (aF g)),(AN 3),(NL 1 1),(NL 1 1),(AI 0),(AN 3),(NL 1 1),(NL 1 1),(AI ((N:Int))),(AN 0),(AN ((c+1))),(AN 0),(AN m),(AN 2),(NL (c+1) (c+1)),(CV [(3,⟨true,3,1,(fun i_1=>[.p (.int .i64 (N:Int)),.ar 2 1414 0 (c+1),.ar 2 5 0 m])⟩),(1414,⟨false,2,(c+1),(fun i_1=>(if (i_1<c) then [.p (.int .i64 ((R i_1).1)),.p (.int .i64 ((R i_1).2.1))] else [.p (.int .i64 ((g q).1)),.p (.int .i64 ((g q).2.1))]))⟩),(1382,⟨false,2,1,(fun i_1=>[.p (.int .i64 ((g q).1)),.p (.int .i64 ((g q).2.1))])⟩),(326,⟨true,2,1,(fun i_1=>[.p (.int .i64 ((g q).1)),.p (.int .i64 ((g q).2.1))])⟩),(0,⟨true,3,1,(fun i_1=>[.p (.seq false 1 n (fun i_2=>[.int .u8 (f i_2)])),.p (.int .i64 (s.1:Int)),.p (.int .i64 s.2)])⟩),(1,⟨true,2,1,(fun i_1=>[.p (.int .i64 (N:Int)),.p (.seq true 2 nb (aF g))])⟩),(2,⟨true,3,1,(fun i_1=>[.p (.int .i64 0),.p (.nil),.p (.nil)])⟩),(5,⟨false,2,m,(fun i_1=>[.p (.int .i64 ((pl i_1).1)),.p (.int .i64 ((pl i_1).2.1))])⟩)] [0,1,2,3,1414,5] 1 (c+1) (fun i=>if (i<c) then [.p (.int .i64 ((R i).1)),.p (.int .i64 ((R i).2.1))] else [.p (.int .i64 ((g q).1)),.p (.int .i64 ((g q).2.1))]) (fun i=>[.p (.int .i64 (if i<c then (R i).1 else (g q).1)),.p (.int .i64 (if i<c then (R i).2.1 else (g q).2.1))])),(AN 2),(NL m m),(AA m (fun i=>[.p (.int .i64 ((pl i).1)),.p (.int .i64 ((pl i).2.1))]))])):=by kernel_rfl
theorem KY (n:Nat) (f:Nat→Int) (s:Nat×Int) (g:Nat→aa) (nb N c:Nat) (R:Nat→aa) (m:Nat) (pl:Nat→ae) (q:Nat) :
    zM 1 [rg 5,.dec true,rg 7,rg 27,.dec false,rg 3,.head] uw (tZ n f s g nb N c R m pl q) [0,1,2,3,4,5] 1 (tZ n f s g nb N c R m pl (q+1)) =
    some (uw,(let A:Bool:=(pl (g q).1.toNat).1==(pl (g q).2.1.toNat).1&&((pl (g q).1.toNat).2.1==(pl (g q).2.1.toNat).2.1&&true);let C:Bool:=(q:Int)==0;let B:Bool:=!(A)&&!C;[(NT 0 1),((decide ((q:Int)<(nb:Int)))=true),(NT 0 1),(IL 0 (q:Int)),(IT (q:Int) (nb:Int)),(NT 0 1),((true=true)→(AN 1)),(NT 0 1),(NT 0 1),(IL 0 ((g q).1)),(IT ((g q).1) (m:Int)),(NT ((g q).1.toNat) m),(NT 0 1),(NT 0 1),(IL 0 ((g q).2.1)),(IT ((g q).2.1) (m:Int)),(NT ((g q).2.1.toNat) m),(AG (!(A))),(AG (!(A))),(AG B),((B=true)→(NT 0 1)),(AG B),((B=true)→(ax ((q:Int) - 1))),((B=true)→(au ((q:Int) - 1))),(AG B),(AG B),((B=true)→(IL 0 ((q:Int) - 1))),((B=true)→(IT ((q:Int) - 1) (nb:Int))),(AG B),((B=true)→(NT 0 1)),(AG B),(AG B),(AG (!(A))),(((!(A))=true)→((C=false)→(B=true))),(AG (!(A))),((bif !(A) then bif C then true else !((g ((q:Int) - 1).toNat).1==(g q).1&&((g ((q:Int) - 1).toNat).2.1==(g q).2.1&&true)) else false)=false),(ax ((q:Int)+1)),(au ((q:Int)+1)),(AN 0),(AN 0),(AN 0),(AN 0),((((q:Int)+1):Int)=(↑(q+1):Int)),(AN 3),(NL 1 1),(NL 1 1),(AN n),(AP n (fun i=>[.int .u8 (f i)])),(AI ((s.1:Int))),(AI s.2),(AN 2),(NL 1 1),(NL 1 1),(AI ((N:Int))),(AN nb),(AP nb (aF g)),(AN 3),(NL 1 1),(NL 1 1),(AI 0),(AN 3),(NL 1 1),(NL 1 1),(AI ((N:Int))),(AN 0),(AN c),(AN 0),(AN m),(AN 2),(NL c c),(AA c (fun i=>[.p (.int .i64 ((R i).1)),.p (.int .i64 ((R i).2.1))])),(AN 2),(NL m m),(AA m (fun i=>[.p (.int .i64 ((pl i).1)),.p (.int .i64 ((pl i).2.1))]))])):=by kernel_rfl
theorem Kj (n:Nat) (f:Nat→Int) (s:Nat×Int) (g:Nat→aa) (nb N c:Nat) (R:Nat→aa) (m:Nat) (pl:Nat→ae) (q:Nat) :
    zP Tryz.f109 1 [rg 5,.dec false,rg 2] uw (tZ n f s g nb N c R m pl q) [0,4,5] 1 [(0,aR n f s),(1,aj c R),(2,cU m pl)] (rK N c m) =
    some [(NT 0 1),((decide ((q:Int)<(nb:Int)))=false),(NT 0 1),(NT 0 1),((true=true)→(AN 1)),(NT 0 1),(AI ((N:Int))),(AN 0),(AN c),(AN 0),(AN m),(AN 3),(NL 1 1),(NL 1 1),(AN n),(AP n (fun i=>[.int .u8 (f i)])),(AI ((s.1:Int))),(AI s.2),(AN 2),(NL c c),(AA c (fun i=>[.p (.int .i64 ((R i).1)),.p (.int .i64 ((R i).2.1))])),(AN 2),(NL m m),(AA m (fun i=>[.p (.int .i64 ((pl i).1)),.p (.int .i64 ((pl i).2.1))])),(∀ i:Nat,(((i:Nat)<1)→af [(false=false),(AE n)])),(AE c),(AE m)]:=by kernel_rfl
theorem Ns (n:Nat) (f:Nat→Int) (s s1 s2 s3 s4:Nat×Int) (x:Int) (k:Nat) (h:Nat→aa) (m:Nat) (R:Nat→aa) (p:Nat) (pl:Nat→ae) (x0:Int) :
    zP Tryz.f81 1 [rg 1,rm [(1,⟨true,(some ⟨[0],[1000],[],1,[(0,aR n f s1)],jI x0⟩),none⟩)] 0,rg 2,.dec true,rm [(1,⟨true,(some ⟨[0],[1000],[],1,[(0,aR n f s2)],jI x⟩),none⟩)] 2,rm [(2,⟨true,(some ⟨[0],[1000],[],1,[(0,aR n f s3),(1,aj k h)],cV (2+x) k 1⟩),none⟩)] 2,rm [(2,⟨true,(some ⟨[0],[1000],[],1,[(0,aR n f s4),(1,aj m R),(2,cU p pl)],rK (2+x) m p⟩),none⟩)] 1] [.code (ab Tryz.f81)] (start Tryz.f81 [(0,aR n f s)] 1 [.pt 3 0 0 0]) [0,513,514] 1 [(0,aR n f s4),(1,aj m R),(2,cU p pl)] (rK (2+x) m p) =
    some [(AE 1),Con Tryz.prog 53 1 (am n f s) [.pt 3 0 0 0,jI 3] (am n f s1) (jI x0),((x0==0)=true),(AE 1),Con Tryz.prog 53 1 (am n f s1) [.pt 3 0 0 0,jI 5] (am n f s2) (jI x),(ax (2+x)),(au (2+x)),(AE 1),Con Tryz.prog 108 1 (am n f s2) [.pt 3 0 0 0,jI (2+x),jI 7] (lc n f s3 k h) (.agg [jI (2+x),.ar 2 1 0 k]),(NT 0 1),((true=true)→(AN 1)),(NT 0 1),(AE 1),(AN 2),(NL k k),Con Tryz.prog 109 1 (am n f s3) [.pt 3 0 0 0,(vX x k h)] (vd n f s4 m R p pl) (.agg [jI (2+x),.ar 2 1 0 m,.ar 2 2 0 p]),(NT 0 1),((true=true)→(AN 1)),(NT 0 1),(AI ((2+x))),(AN 0),(AN m),(AN 0),(AN p),(AN 3),(NL 1 1),(NL 1 1),(AN n),(AP n (fun i=>[.int .u8 (f i)])),(AI ((s4.1:Int))),(AI s4.2),(AN 2),(NL m m),(AA m (fun i=>[.p (.int .i64 ((R i).1)),.p (.int .i64 ((R i).2.1))])),(AN 2),(NL p p),(AA p (fun i=>[.p (.int .i64 ((pl i).1)),.p (.int .i64 ((pl i).2.1))])),(∀ i:Nat,(((i:Nat)<1)→af [(false=false),(AE n)])),(AE m),(AE p)]:=by kernel_rfl
theorem KN (n:Nat) (f:Nat→Int) (s s1 s2 s3 s4 s5 s6:Nat×Int) (x:Int) (k:Nat) (h:Nat→aa) (a b:Int) (k2:Nat) (h2:Nat→aa) (ok:Bool) (m:Nat) (R:Nat→aa) (p:Nat) (pl:Nat→ae) (x0:Int) :
    zP Tryz.f81 1 [rg 1,rm [(1,⟨true,(some ⟨[0],[1000],[],1,[(0,aR n f s1)],jI x0⟩),none⟩)] 0,rg 2,.dec false,rg 2,.dec true,rm [(1,⟨true,(some ⟨[0],[1000],[],1,[(0,aR n f s2)],jI x⟩),none⟩)] 2,rm [(2,⟨true,(some ⟨[0],[1000],[],1,[(0,aR n f s3),(1,aj k h)],cV (2+x) k 1⟩),none⟩)] 2,rm [(2,⟨true,(some ⟨[0],[1000],[],1,[(0,aR n f s4)],jI a⟩),none⟩)] 1,rm [(2,⟨true,(some ⟨[0],[1000],[],1,[(0,aR n f s5)],jI b⟩),none⟩)] 1,rm [(3,oc [(0,aj k2 h2)] (.tup [cV (2+x) k2 0,jB ok]))] 4,rm [(2,⟨true,(some ⟨[0],[1000],[],1,[(0,aR n f s6),(1,aj m R),(2,cU p pl)],rK (2+x) m p⟩),none⟩)] 1] [.code (ab Tryz.f81)] (start Tryz.f81 [(0,aR n f s)] 1 [.pt 3 0 0 0]) [0,1089,1090] 1 [(0,aR n f s6),(1,aj m R),(2,cU p pl)] (rK (2+x) m p) =
    some (zD [(AE 1),Con Tryz.prog 53 1 (am n f s) [.pt 3 0 0 0,jI 3] (am n f s1) (jI x0),((x0==0)=false),((x0==1)=true),Con Tryz.prog 53 1 (am n f s1) [.pt 3 0 0 0,jI 4] (am n f s2) (jI x),(ax (2+x)),(au (2+x)),Con Tryz.prog 55 1 (am n f s2) [.pt 3 0 0 0,jI (2+x)] (lc n f s3 k h) (.agg [jI (2+x),.ar 2 1 0 k]),(NT 0 1),((true=true)→(AN 1)),Con Tryz.prog 53 1 (am n f s3) [.pt 3 0 0 0,jI (2+x)] (am n f s4) (jI a),Con Tryz.prog 53 1 (am n f s4) [.pt 3 0 0 0,jI (2+x)] (am n f s5) (jI b),(AN 2),(NL k k),zE 57 [(vX x k h),jI a,jI b] (bg k2 h2) (.tup [.agg [jI (2+x),.ar 2 0 0 k2],jB ok]),(NL k2 k2),Con Tryz.prog 109 1 (am n f s5) [.pt 3 0 0 0,(vX x k2 h2)] (vd n f s6 m R p pl) (.agg [jI (2+x),.ar 2 1 0 m,.ar 2 2 0 p]),(AI ((2+x))),(AN 0),(AN m),(AN p),(AN 3),(NL 1 1),(AN n),(AP n (fun i=>[.int .u8 (f i)])),(AI ((s6.1:Int))),(AI s6.2),(NL m m),(AA m (fun i=>[.p (.int .i64 ((R i).1)),.p (.int .i64 ((R i).2.1))])),(NL p p),(AA p (fun i=>[.p (.int .i64 ((pl i).1)),.p (.int .i64 ((pl i).2.1))])),(∀ i:Nat,(((i:Nat)<1)→af [(false=false),(AE n)])),(AE m),(AE p)] [0,1,2,3,0,4,5,6,0,7,8,9,0,10,0,11,8,12,13,14,8,9,8,0,12,15,16,8,9,8,17,18,19,18,20,21,22,22,23,24,25,26,12,27,28,12,29,30,31,32,33]):=by kernel_rfl
theorem KA (n:Nat) (f:Nat→Int) (s s1 s2 s3 s4:Nat×Int) (x:Int) (k:Nat) (h:Nat→aa) (m:Nat) (R:Nat→aa) (p:Nat) (pl:Nat→ae) (x0:Int) :
    zP Tryz.f81 1 [rg 1,rm [(1,⟨true,(some ⟨[0],[1000],[],1,[(0,aR n f s1)],jI x0⟩),none⟩)] 0,rg 2,.dec false,rg 2,.dec false,rm [(1,⟨true,(some ⟨[0],[1000],[],1,[(0,aR n f s2)],jI x⟩),none⟩)] 2,rm [(2,⟨true,(some ⟨[0],[1000],[],1,[(0,aR n f s3),(1,aj k h)],cV (2+x) k 1⟩),none⟩)] 2,rm [(2,⟨true,(some ⟨[0],[1000],[],1,[(0,aR n f s4),(1,aj m R),(2,cU p pl)],rK (2+x) m p⟩),none⟩)] 1] [.code (ab Tryz.f81)] (start Tryz.f81 [(0,aR n f s)] 1 [.pt 3 0 0 0]) [0,577,578] 1 [(0,aR n f s4),(1,aj m R),(2,cU p pl)] (rK (2+x) m p) =
    some [(AE 1),Con Tryz.prog 53 1 (am n f s) [.pt 3 0 0 0,jI 3] (am n f s1) (jI x0),((x0==0)=false),((x0==1)=false),(AE 1),Con Tryz.prog 53 1 (am n f s1) [.pt 3 0 0 0,jI 5] (am n f s2) (jI x),(ax (2+x)),(au (2+x)),(AE 1),Con Tryz.prog 55 1 (am n f s2) [.pt 3 0 0 0,jI (2+x)] (lc n f s3 k h) (.agg [jI (2+x),.ar 2 1 0 k]),(NT 0 1),((true=true)→(AN 1)),(NT 0 1),(AE 1),(AN 2),(NL k k),Con Tryz.prog 109 1 (am n f s3) [.pt 3 0 0 0,(vX x k h)] (vd n f s4 m R p pl) (.agg [jI (2+x),.ar 2 1 0 m,.ar 2 2 0 p]),(NT 0 1),((true=true)→(AN 1)),(NT 0 1),(AI ((2+x))),(AN 0),(AN m),(AN 0),(AN p),(AN 3),(NL 1 1),(NL 1 1),(AN n),(AP n (fun i=>[.int .u8 (f i)])),(AI ((s4.1:Int))),(AI s4.2),(AN 2),(NL m m),(AA m (fun i=>[.p (.int .i64 ((R i).1)),.p (.int .i64 ((R i).2.1))])),(AN 2),(NL p p),(AA p (fun i=>[.p (.int .i64 ((pl i).1)),.p (.int .i64 ((pl i).2.1))])),(∀ i:Nat,(((i:Nat)<1)→af [(false=false),(AE n)])),(AE m),(AE p)]:=by kernel_rfl
theorem Nd (n:Nat) (f:Nat→Int) (s s1 s2 s3:Nat×Int) (N:Int) (m:Nat) (R:Nat→aa) (p:Nat) (pl:Nat→ae) (x y:Int) :
    zP Tryz.f45 1 [rg 1,rm [(1,⟨true,(some ⟨[0],[1000],[],1,[(0,aR n f s1),(1,aj m R),(2,cU p pl)],rK N m p⟩),none⟩)] 2,rm [(1,⟨true,(some ⟨[0],[1000],[],1,[(0,aR n f s2)],jI x⟩),none⟩)] 0,rg 2,.dec true,rm [(4,⟨true,(some ⟨[0],[1000],[],1,[(0,aR n f s3)],jI y⟩),none⟩)] 3,rg 2] [.code (ab Tryz.f45)] (start Tryz.f45 [(0,aR n f s)] 1 [.pt 3 0 0 0]) [0,65,66] 1 [(0,aR n f s3),(1,aj m R),(2,cU p (IQ pl y))] (By N m 0 p 1 2) =
    some [(AE 1),Con Tryz.prog 81 1 (am n f s) [.pt 3 0 0 0] (vd n f s1 m R p pl) (.agg [jI N,.ar 2 1 0 m,.ar 2 2 0 p]),(NT 0 1),((true=true)→(AN 1)),(AE 1),Con Tryz.prog 53 1 (am n f s1) [.pt 3 0 0 0,jI 14] (am n f s2) (jI x),((x==0)=true),(NT 0 1),(AE 1),(AN 1),(NL 3 3),Con Tryz.prog 82 1 (am n f s2) [.pt 3 0 0 0,.p (.seq true 1 3 (fun i=>[(bG true [(List.getD ([.p (.int .i64 (-1)),.p (.int .i64 5),.p (.int .i64 9)]:List AV) (bk 3 i*1) (.p .any))] 0)]))] (am n f s3) (jI y),(IL 0 0),(IT 0 (p:Int)),(NT 0 p),((false=true)→((p:Nat)=1)),(NT 0 1),(NT 0 1),((true=true)→(AN 1)),(NT 0 1),(AI N),(AN 0),(AN m),(AN 0),(AN p),(AN 3),(NL 1 1),(NL 1 1),(AN n),(AP n (fun i=>[.int .u8 (f i)])),(AI ((s3.1:Int))),(AI s3.2),(AN 2),(NL m m),(AA m (fun i=>[.p (.int .i64 ((R i).1)),.p (.int .i64 ((R i).2.1))])),(AN 2),(NL p p),(CV [(1,⟨true,3,1,(fun i_1=>[.p (.int .i64 N),.ar 2 65 0 m,.ar 2 66 0 p])⟩),(66,⟨false,2,p,(fun i_1=>(if (i_1=0) then [.p (.int .i64 y),.p (.int .i64 ((pl 0).2.1))] else [.p (.int .i64 ((pl i_1).1)),.p (.int .i64 ((pl i_1).2.1))]))⟩),(0,⟨true,3,1,(fun i_1=>[.p (.seq false 1 n (fun i_2=>[.int .u8 (f i_2)])),.p (.int .i64 (s3.1:Int)),.p (.int .i64 s3.2)])⟩),(385,⟨false,1,3,(fun i_1=>[(List.getD ([.p (.int .i64 (-1)),.p (.int .i64 5),.p (.int .i64 9)]:List AV) (bk 3 i_1*1) (.p .any))])⟩),(97,⟨true,3,1,(fun i_1=>[.p (.int .i64 N),.ar 2 65 0 m,.ar 2 66 0 p])⟩),(65,⟨false,2,m,(fun i_1=>[.p (.int .i64 ((R i_1).1)),.p (.int .i64 ((R i_1).2.1))])⟩)] [0,65,66] 1 p (fun i=>if (i=0) then [.p (.int .i64 y),.p (.int .i64 ((pl 0).2.1))] else [.p (.int .i64 ((pl i).1)),.p (.int .i64 ((pl i).2.1))]) (fun i=>[.p (.int .i64 (if i=0 then y else (pl i).1)),.p (.int .i64 ((pl i).2.1))])),(∀ i:Nat,(((i:Nat)<1)→af [(false=false),(AE n)])),(AE m),(AE p)]:=by kernel_rfl
theorem K7 (n:Nat) (f:Nat→Int) (s s1 s2:Nat×Int) (N:Int) (m:Nat) (R:Nat→aa) (p:Nat) (pl:Nat→ae) (x:Int) :
    zP Tryz.f45 1 [rg 1,rm [(1,⟨true,(some ⟨[0],[1000],[],1,[(0,aR n f s1),(1,aj m R),(2,cU p pl)],rK N m p⟩),none⟩)] 2,rm [(1,⟨true,(some ⟨[0],[1000],[],1,[(0,aR n f s2)],jI x⟩),none⟩)] 0,rg 2,.dec false,rg 2,.dec true,rg 5,rg 2] [.code (ab Tryz.f45)] (start Tryz.f45 [(0,aR n f s)] 1 [.pt 3 0 0 0]) [0,65,66] 1 [(0,aR n f s2),(1,aj m R),(2,cU p pl)] (By N m 1 (p - 1) 1 2) =
    some (zD [(AE 1),Con Tryz.prog 81 1 (am n f s) [.pt 3 0 0 0] (vd n f s1 m R p pl) (.agg [jI N,.ar 2 1 0 m,.ar 2 2 0 p]),(NT 0 1),((true=true)→(AN 1)),Con Tryz.prog 53 1 (am n f s1) [.pt 3 0 0 0,jI 14] (am n f s2) (jI x),((x==0)=false),((x==1)=true),(IL 0 1),(IL 1 (p:Int)),(IL (p:Int) (p:Int)),(AI N),(AN 0),(AN m),(AN 1),(AN ((p - 1))),(AN 3),(NL 1 1),(AN n),(AP n (fun i=>[.int .u8 (f i)])),(AI ((s2.1:Int))),(AI s2.2),(AN 2),(NL m m),(AA m (fun i=>[.p (.int .i64 ((R i).1)),.p (.int .i64 ((R i).2.1))])),(NL p p),(AA p (fun i=>[.p (.int .i64 ((pl i).1)),.p (.int .i64 ((pl i).2.1))])),(∀ i:Nat,(((i:Nat)<1)→af [(false=false),(AE n)])),(AE m),(AE p)] [0,1,2,3,0,4,5,6,2,7,8,9,2,3,2,2,3,2,10,11,12,13,14,15,16,16,17,18,19,20,21,22,23,21,24,25,26,27,28]):=by kernel_rfl
theorem M2 (n:Nat) (f:Nat→Int) (s s1 s2:Nat×Int) (N:Int) (m:Nat) (R:Nat→aa) (p:Nat) (pl:Nat→ae) (x:Int) :
    zP Tryz.f45 1 [rg 1,rm [(1,⟨true,(some ⟨[0],[1000],[],1,[(0,aR n f s1),(1,aj m R),(2,cU p pl)],rK N m p⟩),none⟩)] 2,rm [(1,⟨true,(some ⟨[0],[1000],[],1,[(0,aR n f s2)],jI x⟩),none⟩)] 0,rg 2,.dec false,rg 2,.dec false,rg 2] [.code (ab Tryz.f45)] (start Tryz.f45 [(0,aR n f s)] 1 [.pt 3 0 0 0]) [0,65,66] 1 [(0,aR n f s2),(1,aj m R),(2,cU p pl)] (By N m 0 p 1 2) =
    some [(AE 1),Con Tryz.prog 81 1 (am n f s) [.pt 3 0 0 0] (vd n f s1 m R p pl) (.agg [jI N,.ar 2 1 0 m,.ar 2 2 0 p]),(NT 0 1),((true=true)→(AN 1)),(AE 1),Con Tryz.prog 53 1 (am n f s1) [.pt 3 0 0 0,jI 14] (am n f s2) (jI x),((x==0)=false),((x==1)=false),(NT 0 1),(NT 0 1),((true=true)→(AN 1)),(NT 0 1),(AI N),(AN 0),(AN m),(AN 0),(AN p),(AN 3),(NL 1 1),(NL 1 1),(AN n),(AP n (fun i=>[.int .u8 (f i)])),(AI ((s2.1:Int))),(AI s2.2),(AN 2),(NL m m),(AA m (fun i=>[.p (.int .i64 ((R i).1)),.p (.int .i64 ((R i).2.1))])),(AN 2),(NL p p),(AA p (fun i=>[.p (.int .i64 ((pl i).1)),.p (.int .i64 ((pl i).2.1))])),(∀ i:Nat,(((i:Nat)<1)→af [(false=false),(AE n)])),(AE m),(AE p)]:=by kernel_rfl
theorem LD (n:Nat) (f:Nat→Int) (s s1:Nat×Int) (N:Int) (m:Nat) (R:Nat→aa) (q o p:Nat) (pl:Nat→ae) :
    zS Tryz.f12 [rg 1,rm [(1,⟨true,(some ⟨[],[0],[],1,[(0,aR n f s)],.pt 3 0 0 0⟩),none⟩),(0,⟨true,(some ⟨[64],[0],[],1,[(0,aR n f s1),(1,aj m R),(2,cU q pl)],By N m o p 1 2⟩),none⟩)] 1] [yE n f] [96,97] [(0,aj m R),(1,cU q pl)] (By N m o p 0 1) =
    some [zE 22 [.p (.seq false 1 n (fun i=>[.int .u8 (f i)]))] (am n f s) (.pt 3 0 0 0),(AE 1),Con Tryz.prog 45 1 (am n f s) [.pt 3 0 0 0] (vd n f s1 m R q pl) (.agg [jI N,.ar 2 1 0 m,.ar 2 2 o p]),(NT 0 1),((true=true)→(AN 1)),(NT 0 1),(AI N),(AN 0),(AN m),(AN o),(AN p),(AN 2),(NL m m),(AA m (fun i=>[.p (.int .i64 ((R i).1)),.p (.int .i64 ((R i).2.1))])),(AN 2),(NL q q),(AA q (fun i=>[.p (.int .i64 ((pl i).1)),.p (.int .i64 ((pl i).2.1))])),(AE m),(AE q)]:=by kernel_rfl
theorem Lt (n:Nat) (f:Nat→Int) (s s1:Nat×Int) (N:Int) (k:Nat) (h:Nat→aa) :
    zS Tryz.f5 [rg 1,rm [(1,⟨true,(some ⟨[],[0],[],1,[(0,aR n f s)],.pt 3 0 0 0⟩),none⟩),(0,⟨true,(some ⟨[64],[0],[],1,[(0,aR n f s1),(1,aj k h)],cV N k 1⟩),none⟩)] 1] [yE n f] [96] [(0,aj k h)] (cV N k 0) =
    some [zE 22 [.p (.seq false 1 n (fun i=>[.int .u8 (f i)]))] (am n f s) (.pt 3 0 0 0),(AE 1),Con Tryz.prog 21 1 (am n f s) [.pt 3 0 0 0] (lc n f s1 k h) (.agg [jI N,.ar 2 1 0 k]),(NT 0 1),((true=true)→(AN 1)),(NT 0 1),(AI N),(AN 0),(AN k),(AN 2),(NL k k),(AA k (fun i=>[.p (.int .i64 ((h i).1)),.p (.int .i64 ((h i).2.1))])),(AE k)]:=by kernel_rfl
theorem FE {N:Nat} {k:Nat} {h:Nat→aa} (a b:Int) (hb:aO N k h):aO N (gO ((N:Int),(k,h),()) a b).2.1.1 (gO ((N:Int),(k,h),()) a b).2.1.2:=by
  cases hab:zq ((N:Int),(k,h),()) a b with
  | false=>rw [show gO ((N:Int),(k,h),()) a b=((N:Int),(k,h),()) by simp [gO,hab]];exact hb
  | true =>
    obtain ⟨_,ha,hb2,hne,_⟩:=ux hab
    have hx:=yU (N:=N) (a:=a) (b:=b) ha hb2 hne
    rw [show gO ((N:Int),(k,h),()) a b=((N:Int),(k+1,df (k+1) (aZ k h (aD a b))),()) by simp [gO,hab]]
    intro i hi
    have hi:i<k+1:=hi
    have hlen:(bw (al (k+1) (aZ k h (aD a b)))).length=k+1:=by rw [cB,aC]
    have hm:df (k+1) (aZ k h (aD a b)) i∈al (k+1) (aZ k h (aD a b)):=by
      refine (e7 _).mem_iff.1 ?_
      unfold df
      rw [List.getD_eq_getElem?_getD,List.getElem?_eq_getElem (by omega)]
      exact List.getElem_mem _
    obtain ⟨j,hj,e⟩:=List.mem_map.1 hm
    have hj:=List.mem_range.1 hj
    show 0≤(df (k+1) (aZ k h (aD a b)) i).1∧(df (k+1) (aZ k h (aD a b)) i).1<(df (k+1) (aZ k h (aD a b)) i).2.1∧(df (k+1) (aZ k h (aD a b)) i).2.1<(N:Int)
    rw [← e]
    by_cases h1:j<k
    · rw [cY h1];exact hb j h1
    · rw [dO h1];exact hx
theorem kp (n:Nat) (f:Nat→Int) (hn:ff n f) (s:Nat×Int) (hs:s.1≤n) (N:Nat) (hN:N≤8) (nb:Nat) (g:Nat→aa) (hnb:nb≤25) (hok:aO N nb g) :
    ∃ (s2:Nat×Int) (m:Nat) (R:Nat→aa) (pl:Nat→ae),s2.1≤n∧m≤25 ∧
    Con Tryz.prog 109 1 [(0,aR n f s)] [.pt 3 0 0 0,bi g nb N] [(0,aR n f s2),(1,aj m R),(2,cU N pl)] (rK N m N):=by
  have l1:∀ (s:Nat×Int) (pl:Nat→ae),s.1≤n→∀ e q,q+e=nb→∀ (c:Nat) (R:Nat→aa),c≤q→∃ (m:Nat) (R2:Nat→aa),m≤25 ∧
      ∀ cx:Cx,cx.n=1→Run Tryz.prog cx 109 uw (tZ n f s g nb N c R N pl q) (aS cx [(0,aR n f s),(1,aj m R2),(2,cU N pl)] (rK N m N)):=by
    intro s pl hs e
    induction e with
    | zero =>
      intro q hq c R hc
      have hd:decide ((q:Int)<(nb:Int))=false:=decide_eq_false (by omega)
      refine ⟨c,R,by omega,fun cx hcx=>?_⟩
      refine be Tryz.func109 hcx (Kj n f s g nb N c R N pl q) ?_
      and_intros
      all_goals (first | exact zH | (exact hd) | (intros;simp [af];done) | (simp;done) | (simp;omega))
    | succ e ih =>
      intro q hq c R hc
      have hd:decide ((q:Int)<(nb:Int))=true:=decide_eq_true (by omega)
      have hb:=hok q (by omega)
      obtain ⟨m1,R1,i1,hr1⟩:=ih (q+1) (by omega) (c+1) (aZ c R (g q)) (by omega)
      obtain ⟨m2,R2,i2,hr2⟩:=ih (q+1) (by omega) c R (by omega)
      cases ht:(bif !(((pl (g q).1.toNat).1==(pl (g q).2.1.toNat).1)&&(((pl (g q).1.toNat).2.1==(pl (g q).2.1.toNat).2.1)&&true)) then (bif (q:Int)==0 then true else !(((g ((q:Int) - 1).toNat).1==(g q).1)&&(((g ((q:Int) - 1).toNat).2.1==(g q).2.1)&&true))) else false) with
      | true =>
        refine ⟨m1,R1,i1,fun cx hcx=>?_⟩
        refine cW hcx (Om n f s g nb N c R N pl q) ?_ (hr1 cx hcx)
        and_intros
        all_goals (first | exact zH | (exact hd) | (exact ht) | (intros;simp [af];done) | (simp;done) | (simp;omega) | (intro h;simp at h;omega) | (intro i hi;by_cases h':i<c<;>simp [h',aZ,ay,bh,tg,bu,af]))
      | false =>
        refine ⟨m2,R2,i2,fun cx hcx=>?_⟩
        refine cW hcx (KY n f s g nb N c R N pl q) ?_ (hr2 cx hcx)
        and_intros
        all_goals (first | exact zH | (exact hd) | (exact ht) | (intros;simp [af];done) | (simp;done) | (simp;omega) | (intro h;simp at h;omega))
  have l0:∀ e i,i+e=N→∀ (s:Nat×Int) (pl:Nat→ae),s.1≤n→∃ (s2:Nat×Int) (m:Nat) (R:Nat→aa) (pl2:Nat→ae),s2.1≤n∧m≤25 ∧
      ∀ cx:Cx,cx.n=1→Run Tryz.prog cx 109 Bt (zU n f s g nb N i pl i) (aS cx [(0,aR n f s2),(1,aj m R),(2,cU N pl2)] (rK N m N)):=by
    intro e
    induction e with
    | zero =>
      intro i hi s pl hs
      obtain rfl:i=N:=by omega
      have hd:decide ((i:Int)<(i:Int))=false:=decide_eq_false (by omega)
      obtain ⟨m,R,i1,hr⟩:=l1 s pl hs nb 0 (by omega) 0 (fun _=>(0,0,())) (Nat.le_refl _)
      refine ⟨s,m,R,pl,hs,i1,fun cx hcx=>?_⟩
      refine cW hcx (MX n f s g nb i i pl i) ?_ (hr cx hcx)
      and_intros
      all_goals (first | exact zH | (exact hd) | (intro i hi;exact absurd hi (Nat.not_lt_zero _)) | (intros;simp [af];done) | (simp;done) | (simp;omega))
    | succ e ih =>
      intro i hi s pl hs
      have hd:decide ((i:Int)<(N:Int))=true:=decide_eq_true (by omega)
      obtain ⟨s1,x,h1,hx,c1⟩:=aq n f hn s hs 5 (by omega)
      obtain ⟨s2,y,h2,hy,c2⟩:=aq n f hn s1 h1 5 (by omega)
      obtain ⟨s3,m,R,pl2,h3,i1,hr⟩:=ih (i+1) (by omega) s2 (Ig i pl (x,y,())) h2
      refine ⟨s3,m,R,pl2,h3,i1,fun cx hcx=>?_⟩
      refine cW hcx (NS n f s s1 s2 g nb N i pl i x y) ?_ (hr cx hcx)
      and_intros
      all_goals (first | exact zH | (exact hd) | (exact c1) | (exact c2) | (intro i hi;exact absurd hi (Nat.not_lt_zero _)) | (intros;simp [af];done) | (simp;done) | (simp;omega) | (intro t ht;by_cases h':t<i<;>simp [h',Ig,ay,bh,tg,bu,af]))
  obtain ⟨s2,m,R,pl,h1,h2,hr⟩:=l0 N 0 (by omega) s (fun _=>(0,0,())) hs
  refine ⟨s2,m,R,pl,h1,h2,?_⟩
  refine aW Tryz.func109 (fun c hc=>?_)
  refine a9 hc (Of n f s g nb N) ?_ (hr c hc)
  and_intros
  all_goals (first | exact zI | (intro i hi;exact absurd hi (Nat.not_lt_zero _)) | (intros;simp [af];done) | (simp;done) | (simp;omega))
theorem kE (n:Nat) (f:Nat→Int) (hn:ff n f) (s:Nat×Int) (hs:s.1≤n) :
    ∃ (s2:Nat×Int) (N m:Nat) (R:Nat→aa) (pl:Nat→ae),s2.1≤n∧(2≤N∧N≤8)∧m≤25 ∧
    Con Tryz.prog 81 1 [(0,aR n f s)] [.pt 3 0 0 0] [(0,aR n f s2),(1,aj m R),(2,cU N pl)] (rK N m N):=by
  obtain ⟨s1,x0,h1,hx0,c1⟩:=aq n f hn s hs 3 (by omega)
  by_cases e0:x0=0
  · have b0:(x0==0)=true:=by simp [e0]
    obtain ⟨s2,x,h2,hx,c2⟩:=aq n f hn s1 h1 5 (by omega)
    have hx2:=hx.2.1 (by omega)
    obtain ⟨x,rfl⟩:∃ t:Nat,x=(t:Int):=⟨x.toNat,by omega⟩
    obtain ⟨s3,k,h,h3,hk,hok,c3⟩:=iO n f hn s2 h2 (2+x) 7 (by omega)
    obtain ⟨s4,m,R,pl,h4,hm,c4⟩:=kp n f hn s3 h3 (2+x) (by omega) k h (by omega) hok
    rw [show ((2+x:Nat):Int)=2+(x:Int) by omega] at c3
    have c4:Con Tryz.prog 109 1 [(0,aR n f s3)] [.pt 3 0 0 0,.agg [.p (.int .i64 (2+(x:Int))),b4 h k]] [(0,aR n f s4),(1,aj m R),(2,cU (2+x) pl)] (rK (2+(x:Int)) m (2+x)):=by
      rw [← show ((2+x:Nat):Int)=2+(x:Int) by omega];exact c4
    refine ⟨s4,2+x,m,R,pl,h4,by omega,hm,?_⟩
    rw [show ((2+x:Nat):Int)=2+(x:Int) by omega]
    refine aW Tryz.func81 (fun c hc=>?_)
    refine be Tryz.func81 hc (Ns n f s s1 s2 s3 s4 (x:Int) k h m R (2+x) pl x0) ?_
    and_intros
    iterate 2 all_goals (first | exact zI | (exact c1) | (exact c2) | (exact c3) | (exact c4) | (exact b0) | (intros;simp [af];done) | (simp;done) | (simp;omega) | simp only [af])
  · have b0:(x0==0)=false:=beq_eq_false_iff_ne.2 e0
    by_cases e1:x0=1
    · have b1:(x0==1)=true:=by simp [e1]
      obtain ⟨s2,x,h2,hx,c2⟩:=aq n f hn s1 h1 4 (by omega)
      have hx2:=hx.2.1 (by omega)
      obtain ⟨x,rfl⟩:∃ t:Nat,x=(t:Int):=⟨x.toNat,by omega⟩
      obtain ⟨s3,k,h,h3,hk,hok,c3⟩:=fJ n f hn s2 h2 (2+x) (by omega)
      obtain ⟨s4,a,h4,ha,c4⟩:=aq n f hn s3 h3 (2+(x:Int)) (by omega)
      obtain ⟨s5,b,h5,hb,c5⟩:=aq n f hn s4 h4 (2+(x:Int)) (by omega)
      have c6:=fG (((2+x:Nat):Int),(k,h),()) (c9 (by show k≤_;omega)) a b
      have hk2:=AT (((2+x:Nat):Int),(k,h),()) a b
      have hM:(gO (((2+x:Nat):Int),(k,h),()) a b).1=2+(x:Int):=by
        rw [← show ((2+x:Nat):Int)=2+(x:Int) by omega];unfold gO;split<;>rfl
      have hok2:=FE (N:=2+x) a b hok
      rw [hM] at c6
      have hk3:(gO (((2+x:Nat):Int),(k,h),()) a b).2.1.1≤24:=by
        rcases hk2 with e | e
        · have e':(gO (((2+x:Nat):Int),(k,h),()) a b).2.1.1≤k:=e
          omega
        · exact e
      generalize (gO (((2+x:Nat):Int),(k,h),()) a b).2.1.1=k2 at c6 hk3 hok2
      generalize (gO (((2+x:Nat):Int),(k,h),()) a b).2.1.2=hh2 at c6 hok2
      generalize zq (((2+x:Nat):Int),(k,h),()) a b=ok at c6
      obtain ⟨s6,m,R,pl,h6,hm,c7⟩:=kp n f hn s5 h5 (2+x) (by omega) k2 hh2 (by omega) hok2
      have c6:zE 57 [.agg [.p (.int .i64 (2+(x:Int))),b4 h k],.p (.int .i64 a),.p (.int .i64 b)] [(0,aj k2 hh2)] (.tup [cV (2+(x:Int)) k2 0,.p (.bool ok)]):=by
        rw [← show ((2+x:Nat):Int)=2+(x:Int) by omega] at c6 ⊢;exact c6
      have c7:Con Tryz.prog 109 1 [(0,aR n f s5)] [.pt 3 0 0 0,.agg [.p (.int .i64 (2+(x:Int))),b4 hh2 k2]] [(0,aR n f s6),(1,aj m R),(2,cU (2+x) pl)] (rK (2+(x:Int)) m (2+x)):=by
        rw [← show ((2+x:Nat):Int)=2+(x:Int) by omega];exact c7
      rw [show ((2+x:Nat):Int)=2+(x:Int) by omega] at c3
      refine ⟨s6,2+x,m,R,pl,h6,by omega,hm,?_⟩
      rw [show ((2+x:Nat):Int)=2+(x:Int) by omega]
      refine aW Tryz.func81 (fun c hc=>?_)
      refine bz Tryz.func81 hc (KN n f s s1 s2 s3 s4 s5 s6 (x:Int) k h a b k2 hh2 ok m R (2+x) pl x0) ?_
      and_intros
      iterate 2 all_goals (first | exact zI | (exact c1) | (exact c2) | (exact c3) | (exact c4) | (exact c5) | (exact c6) | (exact c7) | (exact b0) | (exact b1) | (intros;simp [af];done) | (simp;done) | (simp;omega) | simp only [af])
    · have b1:(x0==1)=false:=beq_eq_false_iff_ne.2 e1
      obtain ⟨s2,x,h2,hx,c2⟩:=aq n f hn s1 h1 5 (by omega)
      have hx2:=hx.2.1 (by omega)
      obtain ⟨x,rfl⟩:∃ t:Nat,x=(t:Int):=⟨x.toNat,by omega⟩
      obtain ⟨s3,k,h,h3,hk,hok,c3⟩:=fJ n f hn s2 h2 (2+x) (by omega)
      obtain ⟨s4,m,R,pl,h4,hm,c4⟩:=kp n f hn s3 h3 (2+x) (by omega) k h (by omega) hok
      rw [show ((2+x:Nat):Int)=2+(x:Int) by omega] at c3
      have c4:Con Tryz.prog 109 1 [(0,aR n f s3)] [.pt 3 0 0 0,.agg [.p (.int .i64 (2+(x:Int))),b4 h k]] [(0,aR n f s4),(1,aj m R),(2,cU (2+x) pl)] (rK (2+(x:Int)) m (2+x)):=by
        rw [← show ((2+x:Nat):Int)=2+(x:Int) by omega];exact c4
      refine ⟨s4,2+x,m,R,pl,h4,by omega,hm,?_⟩
      rw [show ((2+x:Nat):Int)=2+(x:Int) by omega]
      refine aW Tryz.func81 (fun c hc=>?_)
      refine be Tryz.func81 hc (KA n f s s1 s2 s3 s4 (x:Int) k h m R (2+x) pl x0) ?_
      and_intros
      iterate 2 all_goals (first | exact zI | (exact c1) | (exact c2) | (exact c3) | (exact c4) | (exact b0) | (exact b1) | (intros;simp [af];done) | (simp;done) | (simp;omega) | simp only [af])
theorem u7 (n:Nat) (f:Nat→Int) (hn:ff n f) (s:Nat×Int) (hs:s.1≤n) :
    ∃ (s2:Nat×Int) (N:Int) (m:Nat) (R:Nat→aa) (q o p:Nat) (pl:Nat→ae),s2.1≤n∧m≤25∧p≤8∧o+p≤q ∧
    Con Tryz.prog 45 1 [(0,aR n f s)] [.pt 3 0 0 0] [(0,aR n f s2),(1,aj m R),(2,cU q pl)] (By N m o p 1 2):=by
  obtain ⟨s1,N,m,R,pl,h1,hN,hm,c1⟩:=kE n f hn s hs
  obtain ⟨s2,x,h2,hx,c2⟩:=aq n f hn s1 h1 14 (by omega)
  by_cases e0:x=0
  · have b0:(x==0)=true:=by simp [e0]
    obtain ⟨s3,y,h3,hy,c3⟩:=qY n f hn s2 h2 [-1,5,9] (by simp)
    refine ⟨s3,N,m,R,N,0,N,IQ pl y,h3,hm,hN.2,by omega,?_⟩
    refine aW Tryz.func45 (fun c hc=>?_)
    refine be Tryz.func45 hc (Nd n f s s1 s2 s3 N m R N pl x y) ?_
    and_intros
    iterate 2 all_goals (first | exact zI | (exact c1) | (exact c2) | (exact c3) | (exact b0) | (intros;simp [af];done) | (simp;done) | (simp;omega) | (intro i hi;by_cases h':i=0<;>simp [h',IQ,ay,bh,tg,bu,af];done) | simp only [af])
  · have b0:(x==0)=false:=beq_eq_false_iff_ne.2 e0
    by_cases e1:x=1
    · have b1:(x==1)=true:=by simp [e1]
      refine ⟨s2,N,m,R,N,1,N - 1,pl,h2,hm,by omega,by omega,?_⟩
      refine aW Tryz.func45 (fun c hc=>?_)
      refine bz Tryz.func45 hc (K7 n f s s1 s2 N m R N pl x) ?_
      and_intros
      iterate 2 all_goals (first | exact zI | (exact c1) | (exact c2) | (exact b0) | (exact b1) | (intros;simp [af];done) | (simp;done) | (simp;omega) | simp only [af])
    · have b1:(x==1)=false:=beq_eq_false_iff_ne.2 e1
      refine ⟨s2,N,m,R,N,0,N,pl,h2,hm,hN.2,by omega,?_⟩
      refine aW Tryz.func45 (fun c hc=>?_)
      refine be Tryz.func45 hc (M2 n f s s1 s2 N m R N pl x) ?_
      and_intros
      iterate 2 all_goals (first | exact zI | (exact c1) | (exact c2) | (exact b0) | (exact b1) | (intros;simp [af];done) | (simp;done) | (simp;omega) | simp only [af])
theorem uW (n:Nat) (f:Nat→Int) (hn:ff n f):∃ (N:Int) (m:Nat) (R:Nat→aa) (q o p:Nat) (pl:Nat→ae),m≤25∧p≤8∧o+p≤q ∧
    zE 12 [yE n f] [(0,aj m R),(1,cU q pl)] (By N m o p 0 1):=by
  obtain ⟨s,h0,c0⟩:=oB n f hn
  obtain ⟨s1,N,m,R,q,o,p,pl,h1,hm,hp,hq,c1⟩:=u7 n f hn s h0
  refine ⟨N,m,R,q,o,p,pl,hm,hp,hq,?_⟩
  refine aW Tryz.func12 (fun c hc=>?_)
  refine be Tryz.func12 hc (LD n f s s1 N m R q o p pl) ?_
  and_intros
  all_goals (first | exact zI | (exact c0) | (exact c1) | (intros;simp [af];done) | (simp;done))
theorem sz (n:Nat) (f:Nat→Int) (hn:ff n f):∃ v:ai,v.2.1.1≤25 ∧
    zE 5 [yE n f] [(0,aj v.2.1.1 v.2.1.2)] (cV v.1 v.2.1.1 0):=by
  obtain ⟨s,h0,c0⟩:=oB n f hn
  obtain ⟨s1,N,k,h,h1,hk,c1⟩:=xn n f hn s h0
  refine ⟨(N,(k,h),()),hk,?_⟩
  refine aW Tryz.func5 (fun c hc=>?_)
  refine be Tryz.func5 hc (Lt n f s s1 N k h) ?_
  and_intros
  all_goals (first | exact zI | (exact c0) | (exact c1) | (intros;simp [af];done) | (simp;done))
end Go.Proofs.YtbdgmpfdlgnkkaaGreat.Mach
