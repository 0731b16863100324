/- What the law Cs needs, part 5 of 6: the abstract machine and the contracts of the functions. Conditions: as each theorem says. -/
import Derived.Test.YtkkjoghiigiokaaGreatCsP4
namespace Go.Proofs.YtkkjoghiigiokaaGreat.Mach
open Go
set_option linter.unusedVariables false
set_option linter.unusedSimpArgs false
def TnP (g:Nat→T_Bar) (nb:Nat) (N:Int) (pl:Nat→T_Place) (np:Nat) (K w:T_IntS) (i:Nat):St :=
  ⟨[tsA g nb N pl np K,inL w,.pt 4 0 0 0]++List.replicate 15 anyA++[inL K,.p (.int .i64 K.1),.p (.int .i64 i)]++List.replicate 25 anyA,[(0,tsO g nb N pl np K)],1⟩
def TnQ (g:Nat→T_Bar) (nb:Nat) (N:Int) (pl:Nat→T_Place) (np:Nat) (K w:T_IntS) (i:Nat):St :=
  ⟨[tsA g nb N pl np K,inL w,.pt 4 0 0 0]++List.replicate 2 anyA++[.p (.int .i64 i)]++List.replicate 44 anyA,[(0,tsO g nb N pl np K)],1⟩
def TnS (g:Nat→T_Bar) (nb:Nat) (N:Int) (pl:Nat→T_Place) (np:Nat) (K w:T_IntS) (i:Nat):St :=
  ⟨[tsA g nb N pl np K,inL w,.pt 4 0 0 0]++List.replicate 9 anyA++[inL K,.p (.int .i64 K.1),.p (.int .i64 i)]++List.replicate 14 anyA,[(0,tsO g nb N pl np K)],1⟩
def TnT (g:Nat→T_Bar) (nb:Nat) (N:Int) (pl:Nat→T_Place) (np:Nat) (K w:T_IntS) (i:Nat):St :=
  ⟨[tsA g nb N pl np K,inL w,.pt 4 0 0 0]++List.replicate 2 anyA++[.p (.int .i64 i)]++List.replicate 23 anyA,[(0,tsO g nb N pl np K)],1⟩
def TnM (g:Nat→T_Bar) (nb:Nat) (N:Int) (pl:Nat→T_Place) (np:Nat) (K w:T_IntS) (i:Nat):St :=
  ⟨[tsA g nb N pl np K,inL w,.pt 4 0 0 0]++List.replicate 18 anyA++[brL g nb,.p (.int .i64 nb),.p (.int .i64 i)]++List.replicate 47 anyA,[(0,tsO g nb N pl np K)],1⟩
def TnN (g:Nat→T_Bar) (nb:Nat) (N:Int) (pl:Nat→T_Place) (np:Nat) (K w:T_IntS) (i:Nat):St :=
  ⟨[tsA g nb N pl np K,inL w,.pt 4 0 0 0]++List.replicate 2 anyA++[.p (.int .i64 i)]++List.replicate 72 anyA,[(0,tsO g nb N pl np K)],1⟩
theorem tnpN (g:Nat→T_Bar) (nb:Nat) (N:Int) (pl:Nat→T_Place) (np:Nat) (K w:T_IntS) (b1 b2:Bool) :
    zS Tryz.f304 [rg 2,rm [(1,oc [] (.p (.bool b1))),(5,oc [] (.p (.bool b2)))] 2,.dec true,rg 1] [tsA g nb N pl np K,inL w] [] [] (.p (.bool false)) =
    some (zD [(NT 0 1),zE 151 [(zf45 N nb g np pl K)] [] (.p (.bool b1)),(AG (!!b1)),(((!!b1)=true)→(NT 0 1)),(((!!b1)=true)→ zE 347 [(zf60 N nb g np pl),.p (.seq true 1 w.1 (iRw w))] [] (.p (.bool b2))),(((!b1)=false)→ ((!!b1)=true)),((bif !b1 then true else !b2)=true),(false=false)] [0,1,2,3,2,2,4,2,5,6,7]):=by kernel_rfl
theorem tnpz (g:Nat→T_Bar) (nb:Nat) (N:Int) (pl:Nat→T_Place) (np:Nat) (K w:T_IntS) (b1 b2:Bool) :
    zT Tryz.f304 [rg 2,rm [(1,oc [] (.p (.bool b1))),(5,oc [] (.p (.bool b2)))] 2,.dec false,rg 4,.head] [tsA g nb N pl np K,inL w] [0] (TnP g nb N pl np K w 0) =
    some (zf91,zD [(NT 0 1),zE 151 [(zf45 N nb g np pl K)] [] (.p (.bool b1)),(AG (!!b1)),(((!!b1)=true)→(NT 0 1)),(((!!b1)=true)→ zE 347 [(zf60 N nb g np pl),.p (.seq true 1 w.1 (iRw w))] [] (.p (.bool b2))),(((!b1)=false)→ ((!!b1)=true)),((bif !b1 then true else !b2)=false),(AI N),(AN nb),(AP nb (bRw g)),(AN np),(AP np (bRw pl)),(AN K.1),(AP K.1 (iRw K)),(AN w.1),(AP w.1 (iRw w)),(AN 0),(AI ((↑K.1:Int))),((0:Int)=(↑0:Int)),((([AV.p (PV.int IntKind.i64 N),brL g nb,pcL pl np,inL K].length):Nat)=4),(NL 1 1)] [0,1,2,3,2,2,4,2,5,6,0,7,8,9,10,11,12,13,14,15,16,12,13,17,18,19,20,20,7,8,9,10,11,12,13]):=by kernel_rfl
theorem tnpt (g:Nat→T_Bar) (nb:Nat) (N:Int) (pl:Nat→T_Place) (np:Nat) (K w:T_IntS) (i:Nat) :
    zM 0 [rg 1,.dec true,rg 5,rg 20,.dec false,rg 2,.head] zf91 (TnP g nb N pl np K w i) [0] 1 (TnP g nb N pl np K w (i+1)) =
    some (zf91,zD [((decide ((↑i:Int)<(↑K.1:Int)))=true),(IL 0 (↑i:Int)),(IT (↑i:Int) (↑K.1:Int)),(AG (K.2 i==1)),(((K.2 i==1)=true)→(IL 0 (↑i:Int))),(((K.2 i==1)=true)→(IT (↑i:Int) (↑w.1:Int))),(AG (!bif K.2 i==1 then decide (w.2 (↑i:Int).toNat<0) else false)),(AG ((!bif K.2 i==1 then decide (w.2 (↑i:Int).toNat<0) else false)&&K.2 i==2)),((((!bif K.2 i==1 then decide (w.2 (↑i:Int).toNat<0) else false)&&K.2 i==2)=true)→(IL 0 (↑i:Int))),((((!bif K.2 i==1 then decide (w.2 (↑i:Int).toNat<0) else false)&&K.2 i==2)=true)→(IT (↑i:Int) (↑w.1:Int))),(((!bif K.2 i==1 then decide (w.2 (↑i:Int).toNat<0) else false)=true)→(((K.2 i==2)=true)→ (((!bif K.2 i==1 then decide (w.2 (↑i:Int).toNat<0) else false)&&K.2 i==2)=true))),(((bif K.2 i==1 then decide (w.2 (↑i:Int).toNat<0) else false)=false)→ ((!bif K.2 i==1 then decide (w.2 (↑i:Int).toNat<0) else false)=true)),((bif bif K.2 i==1 then decide (w.2 (↑i:Int).toNat<0) else false then true else bif K.2 i==2 then decide (w.2 (↑i:Int).toNat>0) else false)=false),(ZLo ((↑i:Int)+1)),(ZHi ((↑i:Int)+1)),(AI N),(AN nb),(AP nb (bRw g)),(AN np),(AP np (bRw pl)),(AN K.1),(AP K.1 (iRw K)),(AN w.1),(AP w.1 (iRw w)),(AN 0),(AI ((↑K.1:Int))),((((↑i:Int)+1):Int)=(↑(i+1):Int)),(AN 4),(NL 1 1)] [0,1,2,3,3,4,5,3,3,3,6,6,7,7,8,9,7,7,6,10,11,12,13,14,15,16,17,18,19,20,21,22,23,24,20,21,25,26,27,28,28,15,16,17,18,19,20,21]):=by kernel_rfl
theorem tnpf (g:Nat→T_Bar) (nb:Nat) (N:Int) (pl:Nat→T_Place) (np:Nat) (K w:T_IntS) (i:Nat) :
    zP Tryz.f304 0 [rg 1,.dec true,rg 5,rg 20,.dec true,rg 1] zf91 (TnP g nb N pl np K w i) [] 1 [] (.p (.bool false)) =
    some (zD [((decide ((↑i:Int)<(↑K.1:Int)))=true),(IL 0 (↑i:Int)),(IT (↑i:Int) (↑K.1:Int)),(AG (K.2 i==1)),(((K.2 i==1)=true)→(IL 0 (↑i:Int))),(((K.2 i==1)=true)→(IT (↑i:Int) (↑w.1:Int))),(AG (!bif K.2 i==1 then decide (w.2 (↑i:Int).toNat<0) else false)),(AG ((!bif K.2 i==1 then decide (w.2 (↑i:Int).toNat<0) else false)&&K.2 i==2)),((((!bif K.2 i==1 then decide (w.2 (↑i:Int).toNat<0) else false)&&K.2 i==2)=true)→(IL 0 (↑i:Int))),((((!bif K.2 i==1 then decide (w.2 (↑i:Int).toNat<0) else false)&&K.2 i==2)=true)→(IT (↑i:Int) (↑w.1:Int))),(((!bif K.2 i==1 then decide (w.2 (↑i:Int).toNat<0) else false)=true)→(((K.2 i==2)=true)→ (((!bif K.2 i==1 then decide (w.2 (↑i:Int).toNat<0) else false)&&K.2 i==2)=true))),(((bif K.2 i==1 then decide (w.2 (↑i:Int).toNat<0) else false)=false)→ ((!bif K.2 i==1 then decide (w.2 (↑i:Int).toNat<0) else false)=true)),((bif bif K.2 i==1 then decide (w.2 (↑i:Int).toNat<0) else false then true else bif K.2 i==2 then decide (w.2 (↑i:Int).toNat>0) else false)=true),(false=false)] [0,1,2,3,3,4,5,3,3,3,6,6,7,7,8,9,7,7,6,10,11,12,13]):=by kernel_rfl
theorem tnpe (g:Nat→T_Bar) (nb:Nat) (N:Int) (pl:Nat→T_Place) (np:Nat) (K w:T_IntS) (i:Nat) :
    zP Tryz.f304 0 [rg 1,.dec false,rg 1] zf91 (TnP g nb N pl np K w i) [] 1 [] (.p (.bool true)) =
    some [((decide ((↑i:Int)<(↑K.1:Int)))=false),(true=true)]:=by kernel_rfl
theorem tnqN (g:Nat→T_Bar) (nb:Nat) (N:Int) (pl:Nat→T_Place) (np:Nat) (K w:T_IntS) (b1 b2:Bool) :
    zS Tryz.f298 [rg 2,rm [(1,oc [] (.p (.bool b1))),(5,oc [] (.p (.bool b2)))] 2,.dec true,rg 1] [tsA g nb N pl np K,inL w] [] [] (.p (.bool false)) =
    some (zD [(NT 0 1),zE 147 [(zf45 N nb g np pl K)] [] (.p (.bool b1)),(AG (!!b1)),(((!!b1)=true)→(NT 0 1)),(((!!b1)=true)→ zE 346 [(zf60 N nb g np pl),.p (.seq true 1 w.1 (iRw w))] [] (.p (.bool b2))),(((!b1)=false)→ ((!!b1)=true)),((bif !b1 then true else !b2)=true),(false=false)] [0,1,2,3,2,2,4,2,5,6,7]):=by kernel_rfl
theorem tnqz (g:Nat→T_Bar) (nb:Nat) (N:Int) (pl:Nat→T_Place) (np:Nat) (K w:T_IntS) (b1 b2:Bool) :
    zT Tryz.f298 [rg 2,rm [(1,oc [] (.p (.bool b1))),(5,oc [] (.p (.bool b2)))] 2,.dec false,rg 1,.head] [tsA g nb N pl np K,inL w] [0] (TnQ g nb N pl np K w 0) =
    some (zf92,zD [(NT 0 1),zE 147 [(zf45 N nb g np pl K)] [] (.p (.bool b1)),(AG (!!b1)),(((!!b1)=true)→(NT 0 1)),(((!!b1)=true)→ zE 346 [(zf60 N nb g np pl),.p (.seq true 1 w.1 (iRw w))] [] (.p (.bool b2))),(((!b1)=false)→ ((!!b1)=true)),((bif !b1 then true else !b2)=false),(AI N),(AN nb),(AP nb (bRw g)),(AN np),(AP np (bRw pl)),(AN K.1),(AP K.1 (iRw K)),(AN w.1),(AP w.1 (iRw w)),(AN 0),((0:Int)=(↑0:Int)),((([AV.p (PV.int IntKind.i64 N),brL g nb,pcL pl np,inL K].length):Nat)=4),(NL 1 1)] [0,1,2,3,2,2,4,2,5,6,7,8,9,10,11,12,13,14,15,16,17,18,19,19,7,8,9,10,11,12,13]):=by kernel_rfl
theorem tnqt (g:Nat→T_Bar) (nb:Nat) (N:Int) (pl:Nat→T_Place) (np:Nat) (K w:T_IntS) (i:Nat) :
    zM 0 [rg 4,.dec true,rg 28,.dec false,rg 3,.head] zf92 (TnQ g nb N pl np K w i) [0] 1 (TnQ g nb N pl np K w (i+1)) =
    some (zf92,zD [((decide ((↑i:Int)<(↑w.1:Int)))=true),(NT 0 1),(IL 0 (↑i:Int)),(IT (↑i:Int) (↑K.1:Int)),(AG (K.2 i==1)),(((K.2 i==1)=true)→(IL 0 (↑i:Int))),(((K.2 i==1)=true)→(IT (↑i:Int) (↑w.1:Int))),(AG (!bif K.2 i==1 then decide (w.2 (↑i:Int).toNat<0) else false)),(((!bif K.2 i==1 then decide (w.2 (↑i:Int).toNat<0) else false)=true)→(NT 0 1)),(((!bif K.2 i==1 then decide (w.2 (↑i:Int).toNat<0) else false)=true)→(IL 0 (↑i:Int))),(((!bif K.2 i==1 then decide (w.2 (↑i:Int).toNat<0) else false)=true)→(IT (↑i:Int) (↑K.1:Int))),(AG ((!bif K.2 i==1 then decide (w.2 (↑i:Int).toNat<0) else false)&&K.2 i==2)),((((!bif K.2 i==1 then decide (w.2 (↑i:Int).toNat<0) else false)&&K.2 i==2)=true)→(IL 0 (↑i:Int))),((((!bif K.2 i==1 then decide (w.2 (↑i:Int).toNat<0) else false)&&K.2 i==2)=true)→(IT (↑i:Int) (↑w.1:Int))),(((!bif K.2 i==1 then decide (w.2 (↑i:Int).toNat<0) else false)=true)→(((K.2 i==2)=true)→ (((!bif K.2 i==1 then decide (w.2 (↑i:Int).toNat<0) else false)&&K.2 i==2)=true))),(((bif K.2 i==1 then decide (w.2 (↑i:Int).toNat<0) else false)=false)→ ((!bif K.2 i==1 then decide (w.2 (↑i:Int).toNat<0) else false)=true)),((bif bif K.2 i==1 then decide (w.2 (↑i:Int).toNat<0) else false then true else bif K.2 i==2 then decide (w.2 (↑i:Int).toNat>0) else false)=false),(ZLo ((↑i:Int)+1)),(ZHi ((↑i:Int)+1)),(AI N),(AN nb),(AP nb (bRw g)),(AN np),(AP np (bRw pl)),(AN K.1),(AP K.1 (iRw K)),(AN w.1),(AP w.1 (iRw w)),(AN 0),((((↑i:Int)+1):Int)=(↑(i+1):Int)),(AN 4),(NL 1 1)] [0,1,2,3,4,4,5,6,4,4,4,7,8,7,7,9,10,7,7,7,11,11,12,13,11,11,7,14,15,16,17,18,19,20,21,22,23,24,25,26,27,28,29,30,31,31,19,20,21,22,23,24,25]):=by kernel_rfl
theorem tnqf (g:Nat→T_Bar) (nb:Nat) (N:Int) (pl:Nat→T_Place) (np:Nat) (K w:T_IntS) (i:Nat) :
    zP Tryz.f298 0 [rg 4,.dec true,rg 28,.dec true,rg 1] zf92 (TnQ g nb N pl np K w i) [] 1 [] (.p (.bool false)) =
    some (zD [((decide ((↑i:Int)<(↑w.1:Int)))=true),(NT 0 1),(IL 0 (↑i:Int)),(IT (↑i:Int) (↑K.1:Int)),(AG (K.2 i==1)),(((K.2 i==1)=true)→(IL 0 (↑i:Int))),(((K.2 i==1)=true)→(IT (↑i:Int) (↑w.1:Int))),(AG (!bif K.2 i==1 then decide (w.2 (↑i:Int).toNat<0) else false)),(((!bif K.2 i==1 then decide (w.2 (↑i:Int).toNat<0) else false)=true)→(NT 0 1)),(((!bif K.2 i==1 then decide (w.2 (↑i:Int).toNat<0) else false)=true)→(IL 0 (↑i:Int))),(((!bif K.2 i==1 then decide (w.2 (↑i:Int).toNat<0) else false)=true)→(IT (↑i:Int) (↑K.1:Int))),(AG ((!bif K.2 i==1 then decide (w.2 (↑i:Int).toNat<0) else false)&&K.2 i==2)),((((!bif K.2 i==1 then decide (w.2 (↑i:Int).toNat<0) else false)&&K.2 i==2)=true)→(IL 0 (↑i:Int))),((((!bif K.2 i==1 then decide (w.2 (↑i:Int).toNat<0) else false)&&K.2 i==2)=true)→(IT (↑i:Int) (↑w.1:Int))),(((!bif K.2 i==1 then decide (w.2 (↑i:Int).toNat<0) else false)=true)→(((K.2 i==2)=true)→ (((!bif K.2 i==1 then decide (w.2 (↑i:Int).toNat<0) else false)&&K.2 i==2)=true))),(((bif K.2 i==1 then decide (w.2 (↑i:Int).toNat<0) else false)=false)→ ((!bif K.2 i==1 then decide (w.2 (↑i:Int).toNat<0) else false)=true)),((bif bif K.2 i==1 then decide (w.2 (↑i:Int).toNat<0) else false then true else bif K.2 i==2 then decide (w.2 (↑i:Int).toNat>0) else false)=true),(false=false)] [0,1,2,3,4,4,5,6,4,4,4,7,8,7,7,9,10,7,7,7,11,11,12,13,11,11,7,14,15,16,17]):=by kernel_rfl
theorem tnqe (g:Nat→T_Bar) (nb:Nat) (N:Int) (pl:Nat→T_Place) (np:Nat) (K w:T_IntS) (i:Nat) :
    zP Tryz.f298 0 [rg 4,.dec false,rg 1] zf92 (TnQ g nb N pl np K w i) [] 1 [] (.p (.bool true)) =
    some [((decide ((↑i:Int)<(↑w.1:Int)))=false),(true=true)]:=by kernel_rfl
theorem tnsN (g:Nat→T_Bar) (nb:Nat) (N:Int) (pl:Nat→T_Place) (np:Nat) (K w:T_IntS) :
    zS Tryz.f206 [rg 2,rm [(2,oc [] (.p (.bool false)))] 1,.dec true,rg 1] [tsA g nb N pl np K,inL w] [] [] (.p (.bool false)) =
    some [(NT 0 1),zE 304 [(zf45 N nb g np pl K),.p (.seq true 1 w.1 (iRw w))] [] (.p (.bool false)),((!false)=true),(false=false)]:=by kernel_rfl
theorem tnsz (g:Nat→T_Bar) (nb:Nat) (N:Int) (pl:Nat→T_Place) (np:Nat) (K w:T_IntS) :
    zT Tryz.f206 [rg 2,rm [(2,oc [] (.p (.bool true)))] 1,.dec false,rg 4,.head] [tsA g nb N pl np K,inL w] [0] (TnS g nb N pl np K w 0) =
    some (zf93,zD [(NT 0 1),zE 304 [(zf45 N nb g np pl K),.p (.seq true 1 w.1 (iRw w))] [] (.p (.bool true)),((!true)=false),(AI N),(AN nb),(AP nb (bRw g)),(AN np),(AP np (bRw pl)),(AN K.1),(AP K.1 (iRw K)),(AN w.1),(AP w.1 (iRw w)),(AN 0),(AI ((↑K.1:Int))),((0:Int)=(↑0:Int)),((([AV.p (PV.int IntKind.i64 N),brL g nb,pcL pl np,inL K].length):Nat)=4),(NL 1 1)] [0,1,2,0,3,4,5,6,7,8,9,10,11,12,8,9,13,14,15,16,16,3,4,5,6,7,8,9]):=by kernel_rfl
theorem tnst (g:Nat→T_Bar) (nb:Nat) (N:Int) (pl:Nat→T_Place) (np:Nat) (K w:T_IntS) (i:Nat) :
    zM 0 [rg 1,.dec true,rg 5,rg 9,.dec false,rg 2,.head] zf93 (TnS g nb N pl np K w i) [0] 1 (TnS g nb N pl np K w (i+1)) =
    some (zf93,zD [((decide ((↑i:Int)<(↑K.1:Int)))=true),(IL 0 (↑i:Int)),(IT (↑i:Int) (↑K.1:Int)),(AG (K.2 i != 0)),(((K.2 i != 0)=true)→(IL 0 (↑i:Int))),(((K.2 i != 0)=true)→(IT (↑i:Int) (↑w.1:Int))),((bif K.2 i != 0 then w.2 i==0 else false)=false),(ZLo ((↑i:Int)+1)),(ZHi ((↑i:Int)+1)),(AI N),(AN nb),(AP nb (bRw g)),(AN np),(AP np (bRw pl)),(AN K.1),(AP K.1 (iRw K)),(AN w.1),(AP w.1 (iRw w)),(AN 0),(AI ((↑K.1:Int))),((((↑i:Int)+1):Int)=(↑(i+1):Int)),(AN 4),(NL 1 1)] [0,1,2,3,3,4,5,3,3,3,6,7,8,9,10,11,12,13,14,15,16,17,18,14,15,19,20,21,22,22,9,10,11,12,13,14,15]):=by kernel_rfl
theorem tnsf (g:Nat→T_Bar) (nb:Nat) (N:Int) (pl:Nat→T_Place) (np:Nat) (K w:T_IntS) (i:Nat) :
    zP Tryz.f206 0 [rg 1,.dec true,rg 5,rg 9,.dec true,rg 1] zf93 (TnS g nb N pl np K w i) [] 1 [] (.p (.bool false)) =
    some (zD [((decide ((↑i:Int)<(↑K.1:Int)))=true),(IL 0 (↑i:Int)),(IT (↑i:Int) (↑K.1:Int)),(AG (K.2 i != 0)),(((K.2 i != 0)=true)→(IL 0 (↑i:Int))),(((K.2 i != 0)=true)→(IT (↑i:Int) (↑w.1:Int))),((bif K.2 i != 0 then w.2 i==0 else false)=true),(false=false)] [0,1,2,3,3,4,5,3,3,3,6,7]):=by kernel_rfl
theorem tnse (g:Nat→T_Bar) (nb:Nat) (N:Int) (pl:Nat→T_Place) (np:Nat) (K w:T_IntS) (i:Nat) :
    zP Tryz.f206 0 [rg 1,.dec false,rg 1] zf93 (TnS g nb N pl np K w i) [] 1 [] (.p (.bool true)) =
    some [((decide ((↑i:Int)<(↑K.1:Int)))=false),(true=true)]:=by kernel_rfl
theorem tntN (g:Nat→T_Bar) (nb:Nat) (N:Int) (pl:Nat→T_Place) (np:Nat) (K w:T_IntS) :
    zS Tryz.f197 [rg 2,rm [(2,oc [] (.p (.bool false)))] 1,.dec true,rg 1] [tsA g nb N pl np K,inL w] [] [] (.p (.bool false)) =
    some [(NT 0 1),zE 298 [(zf45 N nb g np pl K),.p (.seq true 1 w.1 (iRw w))] [] (.p (.bool false)),((!false)=true),(false=false)]:=by kernel_rfl
theorem tntz (g:Nat→T_Bar) (nb:Nat) (N:Int) (pl:Nat→T_Place) (np:Nat) (K w:T_IntS) :
    zT Tryz.f197 [rg 2,rm [(2,oc [] (.p (.bool true)))] 1,.dec false,rg 1,.head] [tsA g nb N pl np K,inL w] [0] (TnT g nb N pl np K w 0) =
    some (zf94,zD [(NT 0 1),zE 298 [(zf45 N nb g np pl K),.p (.seq true 1 w.1 (iRw w))] [] (.p (.bool true)),((!true)=false),(AI N),(AN nb),(AP nb (bRw g)),(AN np),(AP np (bRw pl)),(AN K.1),(AP K.1 (iRw K)),(AN w.1),(AP w.1 (iRw w)),(AN 0),((0:Int)=(↑0:Int)),((([AV.p (PV.int IntKind.i64 N),brL g nb,pcL pl np,inL K].length):Nat)=4),(NL 1 1)] [0,1,2,3,4,5,6,7,8,9,10,11,12,13,14,15,15,3,4,5,6,7,8,9]):=by kernel_rfl
theorem tntt (g:Nat→T_Bar) (nb:Nat) (N:Int) (pl:Nat→T_Place) (np:Nat) (K w:T_IntS) (i:Nat) :
    zM 0 [rg 4,.dec true,rg 13,.dec false,rg 3,.head] zf94 (TnT g nb N pl np K w i) [0] 1 (TnT g nb N pl np K w (i+1)) =
    some (zf94,zD [((decide ((↑i:Int)<(↑w.1:Int)))=true),(NT 0 1),(IL 0 (↑i:Int)),(IT (↑i:Int) (↑K.1:Int)),(AG (K.2 i != 0)),(((K.2 i != 0)=true)→(IL 0 (↑i:Int))),(((K.2 i != 0)=true)→(IT (↑i:Int) (↑w.1:Int))),((bif K.2 i != 0 then w.2 i==0 else false)=false),(ZLo ((↑i:Int)+1)),(ZHi ((↑i:Int)+1)),(AI N),(AN nb),(AP nb (bRw g)),(AN np),(AP np (bRw pl)),(AN K.1),(AP K.1 (iRw K)),(AN w.1),(AP w.1 (iRw w)),(AN 0),((((↑i:Int)+1):Int)=(↑(i+1):Int)),(AN 4),(NL 1 1)] [0,1,2,3,4,4,5,6,4,4,4,7,8,9,10,11,12,13,14,15,16,17,18,19,20,21,22,22,10,11,12,13,14,15,16]):=by kernel_rfl
theorem tntf (g:Nat→T_Bar) (nb:Nat) (N:Int) (pl:Nat→T_Place) (np:Nat) (K w:T_IntS) (i:Nat) :
    zP Tryz.f197 0 [rg 4,.dec true,rg 13,.dec true,rg 1] zf94 (TnT g nb N pl np K w i) [] 1 [] (.p (.bool false)) =
    some (zD [((decide ((↑i:Int)<(↑w.1:Int)))=true),(NT 0 1),(IL 0 (↑i:Int)),(IT (↑i:Int) (↑K.1:Int)),(AG (K.2 i != 0)),(((K.2 i != 0)=true)→(IL 0 (↑i:Int))),(((K.2 i != 0)=true)→(IT (↑i:Int) (↑w.1:Int))),((bif K.2 i != 0 then w.2 i==0 else false)=true),(false=false)] [0,1,2,3,4,4,5,6,4,4,4,7,8]):=by kernel_rfl
theorem tnte (g:Nat→T_Bar) (nb:Nat) (N:Int) (pl:Nat→T_Place) (np:Nat) (K w:T_IntS) (i:Nat) :
    zP Tryz.f197 0 [rg 4,.dec false,rg 1] zf94 (TnT g nb N pl np K w i) [] 1 [] (.p (.bool true)) =
    some [((decide ((↑i:Int)<(↑w.1:Int)))=false),(true=true)]:=by kernel_rfl
theorem tnmN (g:Nat→T_Bar) (nb:Nat) (N:Int) (pl:Nat→T_Place) (np:Nat) (K w:T_IntS) (b1 b2:Bool) :
    zS Tryz.f207 [rg 2,rm [(1,oc [] (.p (.bool b1))),(5,oc [] (.p (.bool b2)))] 2,.dec true,rg 1] [tsA g nb N pl np K,inL w] [] [] (.p (.bool false)) =
    some (zD [(NT 0 1),zE 151 [(zf45 N nb g np pl K)] [] (.p (.bool b1)),(AG (!!b1)),(((!!b1)=true)→(NT 0 1)),(((!!b1)=true)→ zE 305 [(zf60 N nb g np pl),.p (.seq true 1 w.1 (iRw w))] [] (.p (.bool b2))),(((!b1)=false)→ ((!!b1)=true)),((bif !b1 then true else !b2)=true),(false=false)] [0,1,2,3,2,2,4,2,5,6,7]):=by kernel_rfl
theorem tnmz (g:Nat→T_Bar) (nb:Nat) (N:Int) (pl:Nat→T_Place) (np:Nat) (K w:T_IntS) (b1 b2:Bool) :
    zT Tryz.f207 [rg 2,rm [(1,oc [] (.p (.bool b1))),(5,oc [] (.p (.bool b2)))] 2,.dec false,rg 6,.head] [tsA g nb N pl np K,inL w] [0] (TnM g nb N pl np K w 0) =
    some (zf95,zD [(NT 0 1),zE 151 [(zf45 N nb g np pl K)] [] (.p (.bool b1)),(AG (!!b1)),(((!!b1)=true)→(NT 0 1)),(((!!b1)=true)→ zE 305 [(zf60 N nb g np pl),.p (.seq true 1 w.1 (iRw w))] [] (.p (.bool b2))),(((!b1)=false)→ ((!!b1)=true)),((bif !b1 then true else !b2)=false),(AI N),(AN nb),(AP nb (bRw g)),(AN np),(AP np (bRw pl)),(AN K.1),(AP K.1 (iRw K)),(AN w.1),(AP w.1 (iRw w)),(AN 0),(AI ((↑nb:Int))),((0:Int)=(↑0:Int)),((([AV.p (PV.int IntKind.i64 N),brL g nb,pcL pl np,inL K].length):Nat)=4),(NL 1 1)] [0,1,2,3,2,2,4,2,5,6,0,7,8,9,10,11,12,13,14,15,16,8,9,17,18,19,20,20,7,8,9,10,11,12,13]):=by kernel_rfl
theorem tnmt (g:Nat→T_Bar) (nb:Nat) (N:Int) (pl:Nat→T_Place) (np:Nat) (K w:T_IntS) (i:Nat) (x:Int) :
    zM 0 [rg 1,.dec true,rg 6,rm [(7,oc [] (.p (.int .i64 x)))] 1,rg 34,.dec false,rg 2,.head] zf95 (TnM g nb N pl np K w i) [0] 1 (TnM g nb N pl np K w (i+1)) =
    some (zf95,zD [((decide ((↑i:Int)<(↑nb:Int)))=true),(IL 0 (↑i:Int)),(IT (↑i:Int) (↑nb:Int)),(NT 0 1),((true=true)→ (AN 1)),zE 306 [(zf53 N nb g np pl),.p (.seq true 1 w.1 (iRw w)),.p (.int .i64 ((g i).1)),.p (.int .i64 ((g i).2.1))] [] (.p (.int .i64 x)),(IT (↑i:Int) (↑K.1:Int)),(AG (K.2 i==0)),(AG (!bif K.2 i==0 then x != 0 else false)),(((!bif K.2 i==0 then x != 0 else false)=true)→(NT 0 1)),(((!bif K.2 i==0 then x != 0 else false)=true)→(IL 0 (↑i:Int))),(((!bif K.2 i==0 then x != 0 else false)=true)→(IT (↑i:Int) (↑K.1:Int))),(AG ((!bif K.2 i==0 then x != 0 else false)&&K.2 i==1)),(((!bif K.2 i==0 then x != 0 else false)=true)→(((K.2 i==1)=true)→ (((!bif K.2 i==0 then x != 0 else false)&&K.2 i==1)=true))),(((bif K.2 i==0 then x != 0 else false)=false)→ ((!bif K.2 i==0 then x != 0 else false)=true)),(AG (!bif bif K.2 i==0 then x != 0 else false then true else bif K.2 i==1 then decide (x>0) else false)),(((!bif bif K.2 i==0 then x != 0 else false then true else bif K.2 i==1 then decide (x>0) else false)=true)→(NT 0 1)),(((!bif bif K.2 i==0 then x != 0 else false then true else bif K.2 i==1 then decide (x>0) else false)=true)→(IL 0 (↑i:Int))),(((!bif bif K.2 i==0 then x != 0 else false then true else bif K.2 i==1 then decide (x>0) else false)=true)→(IT (↑i:Int) (↑K.1:Int))),(AG ((!bif bif K.2 i==0 then x != 0 else false then true else bif K.2 i==1 then decide (x>0) else false)&&K.2 i==2)),(((!bif bif K.2 i==0 then x != 0 else false then true else bif K.2 i==1 then decide (x>0) else false)=true)→(((K.2 i==2)=true)→ (((!bif bif K.2 i==0 then x != 0 else false then true else bif K.2 i==1 then decide (x>0) else false)&&K.2 i==2)=true))),(((bif bif K.2 i==0 then x != 0 else false then true else bif K.2 i==1 then decide (x>0) else false)=false)→ ((!bif bif K.2 i==0 then x != 0 else false then true else bif K.2 i==1 then decide (x>0) else false)=true)),((bif bif bif K.2 i==0 then x != 0 else false then true else bif K.2 i==1 then decide (x>0) else false then true else bif K.2 i==2 then decide (x<0) else false)=false),(ZLo ((↑i:Int)+1)),(ZHi ((↑i:Int)+1)),(AI N),(AN nb),(AP nb (bRw g)),(AN np),(AP np (bRw pl)),(AN K.1),(AP K.1 (iRw K)),(AN w.1),(AP w.1 (iRw w)),(AN 0),(AI ((↑nb:Int))),((((↑i:Int)+1):Int)=(↑(i+1):Int)),(AN 4),(NL 1 1)] [0,1,2,3,4,3,3,3,5,3,1,6,7,7,8,9,8,8,10,11,8,8,8,12,8,13,14,15,16,15,15,17,18,15,15,15,19,15,20,21,22,23,24,25,26,27,28,29,30,31,32,33,34,26,27,35,36,37,38,38,25,26,27,28,29,30,31]):=by kernel_rfl
theorem tnmf (g:Nat→T_Bar) (nb:Nat) (N:Int) (pl:Nat→T_Place) (np:Nat) (K w:T_IntS) (i:Nat) (x:Int) :
    zP Tryz.f207 0 [rg 1,.dec true,rg 6,rm [(7,oc [] (.p (.int .i64 x)))] 1,rg 34,.dec true,rg 1] zf95 (TnM g nb N pl np K w i) [] 1 [] (.p (.bool false)) =
    some (zD [((decide ((↑i:Int)<(↑nb:Int)))=true),(IL 0 (↑i:Int)),(IT (↑i:Int) (↑nb:Int)),(NT 0 1),((true=true)→ (AN 1)),zE 306 [(zf53 N nb g np pl),.p (.seq true 1 w.1 (iRw w)),.p (.int .i64 ((g i).1)),.p (.int .i64 ((g i).2.1))] [] (.p (.int .i64 x)),(IT (↑i:Int) (↑K.1:Int)),(AG (K.2 i==0)),(AG (!bif K.2 i==0 then x != 0 else false)),(((!bif K.2 i==0 then x != 0 else false)=true)→(NT 0 1)),(((!bif K.2 i==0 then x != 0 else false)=true)→(IL 0 (↑i:Int))),(((!bif K.2 i==0 then x != 0 else false)=true)→(IT (↑i:Int) (↑K.1:Int))),(AG ((!bif K.2 i==0 then x != 0 else false)&&K.2 i==1)),(((!bif K.2 i==0 then x != 0 else false)=true)→(((K.2 i==1)=true)→ (((!bif K.2 i==0 then x != 0 else false)&&K.2 i==1)=true))),(((bif K.2 i==0 then x != 0 else false)=false)→ ((!bif K.2 i==0 then x != 0 else false)=true)),(AG (!bif bif K.2 i==0 then x != 0 else false then true else bif K.2 i==1 then decide (x>0) else false)),(((!bif bif K.2 i==0 then x != 0 else false then true else bif K.2 i==1 then decide (x>0) else false)=true)→(NT 0 1)),(((!bif bif K.2 i==0 then x != 0 else false then true else bif K.2 i==1 then decide (x>0) else false)=true)→(IL 0 (↑i:Int))),(((!bif bif K.2 i==0 then x != 0 else false then true else bif K.2 i==1 then decide (x>0) else false)=true)→(IT (↑i:Int) (↑K.1:Int))),(AG ((!bif bif K.2 i==0 then x != 0 else false then true else bif K.2 i==1 then decide (x>0) else false)&&K.2 i==2)),(((!bif bif K.2 i==0 then x != 0 else false then true else bif K.2 i==1 then decide (x>0) else false)=true)→(((K.2 i==2)=true)→ (((!bif bif K.2 i==0 then x != 0 else false then true else bif K.2 i==1 then decide (x>0) else false)&&K.2 i==2)=true))),(((bif bif K.2 i==0 then x != 0 else false then true else bif K.2 i==1 then decide (x>0) else false)=false)→ ((!bif bif K.2 i==0 then x != 0 else false then true else bif K.2 i==1 then decide (x>0) else false)=true)),((bif bif bif K.2 i==0 then x != 0 else false then true else bif K.2 i==1 then decide (x>0) else false then true else bif K.2 i==2 then decide (x<0) else false)=true),(false=false)] [0,1,2,3,4,3,3,3,5,3,1,6,7,7,8,9,8,8,10,11,8,8,8,12,8,13,14,15,16,15,15,17,18,15,15,15,19,15,20,21,22,23]):=by kernel_rfl
theorem tnme (g:Nat→T_Bar) (nb:Nat) (N:Int) (pl:Nat→T_Place) (np:Nat) (K w:T_IntS) (i:Nat) :
    zP Tryz.f207 0 [rg 1,.dec false,rg 1] zf95 (TnM g nb N pl np K w i) [] 1 [] (.p (.bool true)) =
    some [((decide ((↑i:Int)<(↑nb:Int)))=false),(true=true)]:=by kernel_rfl
theorem tnnN (g:Nat→T_Bar) (nb:Nat) (N:Int) (pl:Nat→T_Place) (np:Nat) (K w:T_IntS) (b1 b2:Bool) :
    zS Tryz.f198 [rg 2,rm [(1,oc [] (.p (.bool b1))),(5,oc [] (.p (.bool b2)))] 2,.dec true,rg 1] [tsA g nb N pl np K,inL w] [] [] (.p (.bool false)) =
    some (zD [(NT 0 1),zE 147 [(zf45 N nb g np pl K)] [] (.p (.bool b1)),(AG (!!b1)),(((!!b1)=true)→(NT 0 1)),(((!!b1)=true)→ zE 299 [(zf60 N nb g np pl),.p (.seq true 1 w.1 (iRw w))] [] (.p (.bool b2))),(((!b1)=false)→ ((!!b1)=true)),((bif !b1 then true else !b2)=true),(false=false)] [0,1,2,3,2,2,4,2,5,6,7]):=by kernel_rfl
theorem tnnz (g:Nat→T_Bar) (nb:Nat) (N:Int) (pl:Nat→T_Place) (np:Nat) (K w:T_IntS) (b1 b2:Bool) :
    zT Tryz.f198 [rg 2,rm [(1,oc [] (.p (.bool b1))),(5,oc [] (.p (.bool b2)))] 2,.dec false,rg 1,.head] [tsA g nb N pl np K,inL w] [0] (TnN g nb N pl np K w 0) =
    some (zf96,zD [(NT 0 1),zE 147 [(zf45 N nb g np pl K)] [] (.p (.bool b1)),(AG (!!b1)),(((!!b1)=true)→(NT 0 1)),(((!!b1)=true)→ zE 299 [(zf60 N nb g np pl),.p (.seq true 1 w.1 (iRw w))] [] (.p (.bool b2))),(((!b1)=false)→ ((!!b1)=true)),((bif !b1 then true else !b2)=false),(AI N),(AN nb),(AP nb (bRw g)),(AN np),(AP np (bRw pl)),(AN K.1),(AP K.1 (iRw K)),(AN w.1),(AP w.1 (iRw w)),(AN 0),((0:Int)=(↑0:Int)),((([AV.p (PV.int IntKind.i64 N),brL g nb,pcL pl np,inL K].length):Nat)=4),(NL 1 1)] [0,1,2,3,2,2,4,2,5,6,7,8,9,10,11,12,13,14,15,16,17,18,19,19,7,8,9,10,11,12,13]):=by kernel_rfl
theorem tnnt (g:Nat→T_Bar) (nb:Nat) (N:Int) (pl:Nat→T_Place) (np:Nat) (K w:T_IntS) (i:Nat) (x:Int) :
    zM 0 [rg 5,.dec true,rm [(19,oc [] (.p (.int .i64 x)))] 1,rg 34,.dec false,rg 3,.head] zf96 (TnN g nb N pl np K w i) [0] 1 (TnN g nb N pl np K w (i+1)) =
    some (zf96,zD [(NT 0 1),((decide ((↑i:Int)<(↑K.1:Int)))=true),(IL 0 (↑i:Int)),(IT (↑i:Int) (↑nb:Int)),zE 300 [(zf53 N nb g np pl),.p (.seq true 1 w.1 (iRw w)),.p (.int .i64 ((g i).1)),.p (.int .i64 ((g i).2.1))] [] (.p (.int .i64 x)),(IT (↑i:Int) (↑K.1:Int)),(AG (K.2 i==0)),(AG (!bif K.2 i==0 then x != 0 else false)),(((!bif K.2 i==0 then x != 0 else false)=true)→(NT 0 1)),(((!bif K.2 i==0 then x != 0 else false)=true)→(IL 0 (↑i:Int))),(((!bif K.2 i==0 then x != 0 else false)=true)→(IT (↑i:Int) (↑K.1:Int))),(AG ((!bif K.2 i==0 then x != 0 else false)&&K.2 i==1)),(((!bif K.2 i==0 then x != 0 else false)=true)→(((K.2 i==1)=true)→ (((!bif K.2 i==0 then x != 0 else false)&&K.2 i==1)=true))),(((bif K.2 i==0 then x != 0 else false)=false)→ ((!bif K.2 i==0 then x != 0 else false)=true)),(AG (!bif bif K.2 i==0 then x != 0 else false then true else bif K.2 i==1 then decide (x>0) else false)),(((!bif bif K.2 i==0 then x != 0 else false then true else bif K.2 i==1 then decide (x>0) else false)=true)→(NT 0 1)),(((!bif bif K.2 i==0 then x != 0 else false then true else bif K.2 i==1 then decide (x>0) else false)=true)→(IL 0 (↑i:Int))),(((!bif bif K.2 i==0 then x != 0 else false then true else bif K.2 i==1 then decide (x>0) else false)=true)→(IT (↑i:Int) (↑K.1:Int))),(AG ((!bif bif K.2 i==0 then x != 0 else false then true else bif K.2 i==1 then decide (x>0) else false)&&K.2 i==2)),(((!bif bif K.2 i==0 then x != 0 else false then true else bif K.2 i==1 then decide (x>0) else false)=true)→(((K.2 i==2)=true)→ (((!bif bif K.2 i==0 then x != 0 else false then true else bif K.2 i==1 then decide (x>0) else false)&&K.2 i==2)=true))),(((bif bif K.2 i==0 then x != 0 else false then true else bif K.2 i==1 then decide (x>0) else false)=false)→ ((!bif bif K.2 i==0 then x != 0 else false then true else bif K.2 i==1 then decide (x>0) else false)=true)),((bif bif bif K.2 i==0 then x != 0 else false then true else bif K.2 i==1 then decide (x>0) else false then true else bif K.2 i==2 then decide (x<0) else false)=false),(ZLo ((↑i:Int)+1)),(ZHi ((↑i:Int)+1)),(AI N),(AN nb),(AP nb (bRw g)),(AN np),(AP np (bRw pl)),(AN K.1),(AP K.1 (iRw K)),(AN w.1),(AP w.1 (iRw w)),(AN 0),((((↑i:Int)+1):Int)=(↑(i+1):Int)),(AN 4),(NL 1 1)] [0,1,0,0,2,3,0,2,3,4,0,2,5,6,6,7,8,7,7,9,10,7,7,7,11,7,12,13,14,15,14,14,16,17,14,14,14,18,14,19,20,21,22,23,24,25,26,27,28,29,30,31,32,33,34,35,36,36,24,25,26,27,28,29,30]):=by kernel_rfl
theorem tnnf (g:Nat→T_Bar) (nb:Nat) (N:Int) (pl:Nat→T_Place) (np:Nat) (K w:T_IntS) (i:Nat) (x:Int) :
    zP Tryz.f198 0 [rg 5,.dec true,rm [(19,oc [] (.p (.int .i64 x)))] 1,rg 34,.dec true,rg 1] zf96 (TnN g nb N pl np K w i) [] 1 [] (.p (.bool false)) =
    some (zD [(NT 0 1),((decide ((↑i:Int)<(↑K.1:Int)))=true),(IL 0 (↑i:Int)),(IT (↑i:Int) (↑nb:Int)),zE 300 [(zf53 N nb g np pl),.p (.seq true 1 w.1 (iRw w)),.p (.int .i64 ((g i).1)),.p (.int .i64 ((g i).2.1))] [] (.p (.int .i64 x)),(IT (↑i:Int) (↑K.1:Int)),(AG (K.2 i==0)),(AG (!bif K.2 i==0 then x != 0 else false)),(((!bif K.2 i==0 then x != 0 else false)=true)→(NT 0 1)),(((!bif K.2 i==0 then x != 0 else false)=true)→(IL 0 (↑i:Int))),(((!bif K.2 i==0 then x != 0 else false)=true)→(IT (↑i:Int) (↑K.1:Int))),(AG ((!bif K.2 i==0 then x != 0 else false)&&K.2 i==1)),(((!bif K.2 i==0 then x != 0 else false)=true)→(((K.2 i==1)=true)→ (((!bif K.2 i==0 then x != 0 else false)&&K.2 i==1)=true))),(((bif K.2 i==0 then x != 0 else false)=false)→ ((!bif K.2 i==0 then x != 0 else false)=true)),(AG (!bif bif K.2 i==0 then x != 0 else false then true else bif K.2 i==1 then decide (x>0) else false)),(((!bif bif K.2 i==0 then x != 0 else false then true else bif K.2 i==1 then decide (x>0) else false)=true)→(NT 0 1)),(((!bif bif K.2 i==0 then x != 0 else false then true else bif K.2 i==1 then decide (x>0) else false)=true)→(IL 0 (↑i:Int))),(((!bif bif K.2 i==0 then x != 0 else false then true else bif K.2 i==1 then decide (x>0) else false)=true)→(IT (↑i:Int) (↑K.1:Int))),(AG ((!bif bif K.2 i==0 then x != 0 else false then true else bif K.2 i==1 then decide (x>0) else false)&&K.2 i==2)),(((!bif bif K.2 i==0 then x != 0 else false then true else bif K.2 i==1 then decide (x>0) else false)=true)→(((K.2 i==2)=true)→ (((!bif bif K.2 i==0 then x != 0 else false then true else bif K.2 i==1 then decide (x>0) else false)&&K.2 i==2)=true))),(((bif bif K.2 i==0 then x != 0 else false then true else bif K.2 i==1 then decide (x>0) else false)=false)→ ((!bif bif K.2 i==0 then x != 0 else false then true else bif K.2 i==1 then decide (x>0) else false)=true)),((bif bif bif K.2 i==0 then x != 0 else false then true else bif K.2 i==1 then decide (x>0) else false then true else bif K.2 i==2 then decide (x<0) else false)=true),(false=false)] [0,1,0,0,2,3,0,2,3,4,0,2,5,6,6,7,8,7,7,9,10,7,7,7,11,7,12,13,14,15,14,14,16,17,14,14,14,18,14,19,20,21,22]):=by kernel_rfl
theorem tnne (g:Nat→T_Bar) (nb:Nat) (N:Int) (pl:Nat→T_Place) (np:Nat) (K w:T_IntS) (i:Nat) :
    zP Tryz.f198 0 [rg 5,.dec false,rg 1] zf96 (TnN g nb N pl np K w i) [] 1 [] (.p (.bool true)) =
    some [(NT 0 1),((decide ((↑i:Int)<(↑K.1:Int)))=false),(true=true)]:=by kernel_rfl
theorem pvsi (g:Nat→T_Bar) (nb:Nat) (N:Int) (pl:Nat→T_Place) (np:Nat) (K w:T_IntS) (b1 b2:Bool) :
    zS Tryz.f98 [rg 2,rm [(2,oc [] (.p (.bool b1))),(3,oc [] (.p (.bool b2)))] 2] [tsA g nb N pl np K,inL w] [] [] (.p (.bool (bif b1 then b2 else false))) =
    some [(NT 0 1),zE 206 [(zf45 N nb g np pl K),.p (.seq true 1 w.1 (iRw w))] [] (.p (.bool b1)),(AG b1),((b1=true)→(NT 0 1)),(AG b1),((b1=true)→ zE 133 [(zf60 N nb g np pl)] [] (.p (.bool b2))),(AG b1),((bif b1 then b2 else false)=(bif b1 then b2 else false))]:=by kernel_rfl
theorem pvli (g:Nat→T_Bar) (nb:Nat) (N:Int) (pl:Nat→T_Place) (np:Nat) (K w:T_IntS) (b1 b2:Bool) :
    zS Tryz.f99 [rg 2,rm [(2,oc [] (.p (.bool b1))),(4,oc [] (.p (.bool b2)))] 3] [tsA g nb N pl np K,inL w] [] [] (.p (.bool (bif b1 then !b2 else false))) =
    some (zD [(NT 0 1),zE 207 [(zf45 N nb g np pl K),.p (.seq true 1 w.1 (iRw w))] [] (.p (.bool b1)),(AG b1),((b1=true)→(NT 0 1)),((b1=true)→ zE 208 [(zf60 N nb g np pl),.p (.seq true 1 w.1 (iRw w))] [] (.p (.bool b2))),((bif b1 then !b2 else false)=(bif b1 then !b2 else false))] [0,1,2,3,2,2,4,2,2,5]):=by kernel_rfl
theorem pvss (g:Nat→T_Bar) (nb:Nat) (N:Int) (pl:Nat→T_Place) (np:Nat) (K w:T_IntS) (b1 b2:Bool) :
    zS Tryz.f88 [rg 2,rm [(2,oc [] (.p (.bool b1))),(3,oc [] (.p (.bool b2)))] 2] [tsA g nb N pl np K,inL w] [] [] (.p (.bool (bif b1 then b2 else false))) =
    some [(NT 0 1),zE 197 [(zf45 N nb g np pl K),.p (.seq true 1 w.1 (iRw w))] [] (.p (.bool b1)),(AG b1),((b1=true)→(NT 0 1)),(AG b1),((b1=true)→ zE 123 [(zf60 N nb g np pl)] [] (.p (.bool b2))),(AG b1),((bif b1 then b2 else false)=(bif b1 then b2 else false))]:=by kernel_rfl
theorem pvls (g:Nat→T_Bar) (nb:Nat) (N:Int) (pl:Nat→T_Place) (np:Nat) (K w:T_IntS) (b1 b2:Bool) :
    zS Tryz.f89 [rg 2,rm [(2,oc [] (.p (.bool b1))),(4,oc [] (.p (.bool b2)))] 3] [tsA g nb N pl np K,inL w] [] [] (.p (.bool (bif b1 then !b2 else false))) =
    some (zD [(NT 0 1),zE 198 [(zf45 N nb g np pl K),.p (.seq true 1 w.1 (iRw w))] [] (.p (.bool b1)),(AG b1),((b1=true)→(NT 0 1)),((b1=true)→ zE 199 [(zf60 N nb g np pl),.p (.seq true 1 w.1 (iRw w))] [] (.p (.bool b2))),((bif b1 then !b2 else false)=(bif b1 then !b2 else false))] [0,1,2,3,2,2,4,2,2,5]):=by kernel_rfl
def psqB (K w:T_IntS) (i:Nat):Bool:=bif (bif K.2 i==1 then decide (w.2 i<0) else false) then true else (bif K.2 i==2 then decide (w.2 i>0) else false)
def ssqB (K w:T_IntS) (i:Nat):Bool:=bif !(K.2 i==0) then w.2 i==0 else false
def amqB (K:T_IntS) (x:Int) (i:Nat):Bool:=bif (bif (bif K.2 i==0 then !(x==0) else false) then true else (bif K.2 i==1 then decide (x>0) else false)) then true else (bif K.2 i==2 then decide (x<0) else false)
def prpB (g:Nat→T_Bar) (nb:Nat) (N:Int) (pl:Nat→T_Place) (np:Nat) (K w:T_IntS):Bool :=
  (bif tsB g nb N pl np K then strB g nb N pl np w else false)&&allB (fun i=>!psqB K w i) nb
def strcB (g:Nat→T_Bar) (nb:Nat) (N:Int) (pl:Nat→T_Place) (np:Nat) (K w:T_IntS):Bool:=prpB g nb N pl np K w&&allB (fun i=>!ssqB K w i) nb
def chQ (g:Nat→T_Bar) (pl:Nat→T_Place) (v:T_IntS) (i:Nat):Int:=chV pl v (g i).1.toNat (g i).2.1.toNat
def alwB (g:Nat→T_Bar) (nb:Nat) (N:Int) (pl:Nat→T_Place) (np:Nat) (K v:T_IntS):Bool :=
  (bif tsB g nb N pl np K then velB g nb N pl np v else false)&&allB (fun i=>!amqB K (chQ g pl v i) i) nb
theorem ts_len {g:Nat→T_Bar} {nb:Nat} {N:Int} {pl:Nat→T_Place} {np:Nat} {K:T_IntS} (h:tsB g nb N pl np K=true):K.1=nb∧fwB g nb N pl np=true:=by
  unfold tsB at h
  cases h1:allB (kdP K) K.1 with
  | false=>rw [h1] at h;cases h
  | true =>
    rw [h1] at h
    cases h2:fwB g nb N pl np with
    | false=>rw [h2] at h;cases h
    | true =>
      rw [h2] at h
      have h:((K.1:Int)==(nb:Int))=true:=h
      simp at h
      exact ⟨by omega,rfl⟩
theorem str_frc {g:Nat→T_Bar} {nb:Nat} {N:Int} {pl:Nat→T_Place} {np:Nat} {w:T_IntS} (h:strB g nb N pl np w=true):frcB g nb N pl np w=true:=by
  unfold strB at h
  cases h1:frcB g nb N pl np w with
  | false=>rw [h1] at h;cases h
  | true=>rfl
theorem str_len {g:Nat→T_Bar} {nb:Nat} {N:Int} {pl:Nat→T_Place} {np:Nat} {w:T_IntS} (h:strB g nb N pl np w=true):w.1=nb∧nb≤15∧np≤6:=by
  have h1:=str_frc h
  have hf:fwB g nb N pl np=true:=by
    have h:=h1
    unfold frcB at h
    cases q:fwB g nb N pl np with
    | false=>rw [q] at h;cases h
    | true=>rfl
  obtain ⟨n,rfl⟩:=fw_N hf
  have ok:=fOk h1
  have:=ok.hnp
  have:=ok.hN
  exact ⟨ok.hl,ok.hnb,by omega⟩
theorem con_Proper_i (g:Nat→T_Bar) (nb:Nat) (N:Int) (pl:Nat→T_Place) (np:Nat) (K w:T_IntS) (hn:nb≤1048576∧np≤1048576) (hK:K.1≤1048576) (hw:w.1≤1048576) :
    zE 304 [tsA g nb N pl np K,inL w] [] (.p (.bool (prpB g nb N pl np K w))):=by
  have c1:=con_IsTensegrity_i g nb N pl np K hn hK
  have c2:=con_IsStress_i g nb N pl np w hn hw
  refine csZ Tryz.func304 (fun c hc=>?_)
  cases ha:(bif tsB g nb N pl np K then strB g nb N pl np w else false) with
  | false =>
    have ha':(bif !tsB g nb N pl np K then true else !strB g nb N pl np w)=true:=by
      revert ha;cases tsB g nb N pl np K<;>cases strB g nb N pl np w<;>intro ha<;>first | rfl | cases ha
    rw [show prpB g nb N pl np K w=false by unfold prpB;rw [ha];rfl]
    refine pkD Tryz.func304 hc (tnpN g nb N pl np K w (tsB g nb N pl np K) (strB g nb N pl np w)) ?_
    and_intros
    all_goals (first | exact zH | (exact c1) | (intros;exact c2) | (exact ha') | (intro h;rw [h];rfl))
  | true =>
    have ht:tsB g nb N pl np K=true:=by cases h:tsB g nb N pl np K with | false=>rw [h] at ha;cases ha | true=>rfl
    have hs:strB g nb N pl np w=true:=by rw [ht] at ha;exact ha
    obtain ⟨hl,hb,hnp⟩:=str_len hs
    obtain ⟨hk,hf⟩:=ts_len ht
    rw [ht] at c1
    rw [hs] at c2
    have hr:prpB g nb N pl np K w=allB (fun i=>!psqB K w i) nb:=by unfold prpB;rw [ha];rfl
    rw [hr]
    have lo:∀ d i,i+d=nb→allB (fun i=>!psqB K w i) i=true→zR c 304 zf91 (TnP g nb N pl np K w i) (Post c [] (.p (.bool (allB (fun i=>!psqB K w i) nb)))):=by
      intro d
      induction d with
      | zero =>
        intro i hi hal
        obtain rfl:i=nb:=by omega
        have hd:decide ((i:Int)<(K.1:Int))=false:=decide_eq_false (by omega)
        have hd2:decide ((i:Int)<(w.1:Int))=false:=decide_eq_false (by omega)
        rw [hal]
        refine pkZ Tryz.func304 hc (tnpe g i N pl np K w i) ?_
        and_intros
        all_goals (first | exact zN | (exact hd) | (exact hd2))
      | succ d ih =>
        intro i hi ha
        have hd:decide ((i:Int)<(K.1:Int))=true:=decide_eq_true (by omega)
        have hd2:decide ((i:Int)<(w.1:Int))=true:=decide_eq_true (by omega)
        cases hq:psqB K w i with
        | false =>
          have hq':=hq
          unfold psqB at hq'
          refine pcD hc (tnpt g nb N pl np K w i) ?_ (ih (i+1) (by omega) (by rw [allB,ha,hq];rfl))
          and_intros
          all_goals (first | exact zH | (exact hd) | (exact hd2) | (exact hq') | (intro h;exact h) | (intros;omega) | (intros;simp [All];done))
        | true =>
          have hq':=hq
          unfold psqB at hq'
          rw [all_no (i:=i) (by omega) (show (!psqB K w i)=false by rw [hq];rfl)]
          refine pkD Tryz.func304 hc (tnpf g nb N pl np K w i) ?_
          and_intros
          all_goals (first | exact zH | (exact hd) | (exact hd2) | (exact hq') | (intro h;exact h) | (intros;omega))
    refine pcD hc (tnpz g nb N pl np K w true true) ?_ (lo nb 0 (by omega) rfl)
    and_intros
    all_goals (first | exact zH | (exact c1) | (intros;exact c2) | (intros;simp [All];done))
theorem con_Proper_s (g:Nat→T_Bar) (nb:Nat) (N:Int) (pl:Nat→T_Place) (np:Nat) (K w:T_IntS) (hn:nb≤1048576∧np≤1048576) (hK:K.1≤1048576) (hw:w.1≤1048576) :
    zE 298 [tsA g nb N pl np K,inL w] [] (.p (.bool (prpB g nb N pl np K w))):=by
  have c1:=con_IsTensegrity_s g nb N pl np K hn hK
  have c2:=con_IsStress_s g nb N pl np w hn hw
  refine csZ Tryz.func298 (fun c hc=>?_)
  cases ha:(bif tsB g nb N pl np K then strB g nb N pl np w else false) with
  | false =>
    have ha':(bif !tsB g nb N pl np K then true else !strB g nb N pl np w)=true:=by
      revert ha;cases tsB g nb N pl np K<;>cases strB g nb N pl np w<;>intro ha<;>first | rfl | cases ha
    rw [show prpB g nb N pl np K w=false by unfold prpB;rw [ha];rfl]
    refine pkD Tryz.func298 hc (tnqN g nb N pl np K w (tsB g nb N pl np K) (strB g nb N pl np w)) ?_
    and_intros
    all_goals (first | exact zH | (exact c1) | (intros;exact c2) | (exact ha') | (intro h;rw [h];rfl))
  | true =>
    have ht:tsB g nb N pl np K=true:=by cases h:tsB g nb N pl np K with | false=>rw [h] at ha;cases ha | true=>rfl
    have hs:strB g nb N pl np w=true:=by rw [ht] at ha;exact ha
    obtain ⟨hl,hb,hnp⟩:=str_len hs
    obtain ⟨hk,hf⟩:=ts_len ht
    rw [ht] at c1
    rw [hs] at c2
    have hr:prpB g nb N pl np K w=allB (fun i=>!psqB K w i) nb:=by unfold prpB;rw [ha];rfl
    rw [hr]
    have lo:∀ d i,i+d=nb→allB (fun i=>!psqB K w i) i=true→zR c 298 zf92 (TnQ g nb N pl np K w i) (Post c [] (.p (.bool (allB (fun i=>!psqB K w i) nb)))):=by
      intro d
      induction d with
      | zero =>
        intro i hi hal
        obtain rfl:i=nb:=by omega
        have hd:decide ((i:Int)<(K.1:Int))=false:=decide_eq_false (by omega)
        have hd2:decide ((i:Int)<(w.1:Int))=false:=decide_eq_false (by omega)
        rw [hal]
        refine pkZ Tryz.func298 hc (tnqe g i N pl np K w i) ?_
        and_intros
        all_goals (first | exact zN | (exact hd) | (exact hd2))
      | succ d ih =>
        intro i hi ha
        have hd:decide ((i:Int)<(K.1:Int))=true:=decide_eq_true (by omega)
        have hd2:decide ((i:Int)<(w.1:Int))=true:=decide_eq_true (by omega)
        cases hq:psqB K w i with
        | false =>
          have hq':=hq
          unfold psqB at hq'
          refine pcD hc (tnqt g nb N pl np K w i) ?_ (ih (i+1) (by omega) (by rw [allB,ha,hq];rfl))
          and_intros
          all_goals (first | exact zH | (exact hd) | (exact hd2) | (exact hq') | (intro h;exact h) | (intros;omega) | (intros;simp [All];done))
        | true =>
          have hq':=hq
          unfold psqB at hq'
          rw [all_no (i:=i) (by omega) (show (!psqB K w i)=false by rw [hq];rfl)]
          refine pkD Tryz.func298 hc (tnqf g nb N pl np K w i) ?_
          and_intros
          all_goals (first | exact zH | (exact hd) | (exact hd2) | (exact hq') | (intro h;exact h) | (intros;omega))
    refine pcD hc (tnqz g nb N pl np K w true true) ?_ (lo nb 0 (by omega) rfl)
    and_intros
    all_goals (first | exact zH | (exact c1) | (intros;exact c2) | (intros;simp [All];done))
theorem con_Strict_i (g:Nat→T_Bar) (nb:Nat) (N:Int) (pl:Nat→T_Place) (np:Nat) (K w:T_IntS) (hn:nb≤1048576∧np≤1048576) (hK:K.1≤1048576) (hw:w.1≤1048576) :
    zE 206 [tsA g nb N pl np K,inL w] [] (.p (.bool (strcB g nb N pl np K w))):=by
  have c1:=con_Proper_i g nb N pl np K w hn hK hw
  refine csZ Tryz.func206 (fun c hc=>?_)
  cases hp:prpB g nb N pl np K w with
  | false =>
    rw [hp] at c1
    rw [show strcB g nb N pl np K w=false by unfold strcB;rw [hp];rfl]
    refine pkZ Tryz.func206 hc (tnsN g nb N pl np K w) ?_
    and_intros
    all_goals (first | exact zN | (exact c1))
  | true =>
    rw [hp] at c1
    obtain ⟨ht,hs⟩:tsB g nb N pl np K=true∧strB g nb N pl np w=true:=by
      have h:=hp
      unfold prpB at h
      revert h
      cases tsB g nb N pl np K<;>cases strB g nb N pl np w<;>intro h<;>first | exact ⟨rfl,rfl⟩ | cases h
    obtain ⟨hl,hb,hnp⟩:=str_len hs
    obtain ⟨hk,hf⟩:=ts_len ht
    rw [show strcB g nb N pl np K w=allB (fun i=>!ssqB K w i) nb by unfold strcB;rw [hp];rfl]
    have lo:∀ d i,i+d=nb→allB (fun i=>!ssqB K w i) i=true→zR c 206 zf93 (TnS g nb N pl np K w i) (Post c [] (.p (.bool (allB (fun i=>!ssqB K w i) nb)))):=by
      intro d
      induction d with
      | zero =>
        intro i hi hal
        obtain rfl:i=nb:=by omega
        have hd:decide ((i:Int)<(K.1:Int))=false:=decide_eq_false (by omega)
        have hd2:decide ((i:Int)<(w.1:Int))=false:=decide_eq_false (by omega)
        rw [hal]
        refine pkZ Tryz.func206 hc (tnse g i N pl np K w i) ?_
        and_intros
        all_goals (first | exact zN | (exact hd) | (exact hd2))
      | succ d ih =>
        intro i hi ha
        have hd:decide ((i:Int)<(K.1:Int))=true:=decide_eq_true (by omega)
        have hd2:decide ((i:Int)<(w.1:Int))=true:=decide_eq_true (by omega)
        cases hq:ssqB K w i with
        | false =>
          have hq':=hq
          unfold ssqB at hq'
          refine pcD hc (tnst g nb N pl np K w i) ?_ (ih (i+1) (by omega) (by rw [allB,ha,hq];rfl))
          and_intros
          all_goals (first | exact zI | (exact hd) | (exact hd2) | (exact hq') | (intro h;exact h) | (intros;omega) | (intros;simp [All];done))
        | true =>
          have hq':=hq
          unfold ssqB at hq'
          rw [all_no (i:=i) (by omega) (show (!ssqB K w i)=false by rw [hq];rfl)]
          refine pkD Tryz.func206 hc (tnsf g nb N pl np K w i) ?_
          and_intros
          all_goals (first | exact zI | (exact hd) | (exact hd2) | (exact hq') | (intro h;exact h) | (intros;omega))
    refine pcD hc (tnsz g nb N pl np K w) ?_ (lo nb 0 (by omega) rfl)
    and_intros
    all_goals (first | exact zN | (exact c1) | (intros;simp [All];done))
theorem con_Strict_s (g:Nat→T_Bar) (nb:Nat) (N:Int) (pl:Nat→T_Place) (np:Nat) (K w:T_IntS) (hn:nb≤1048576∧np≤1048576) (hK:K.1≤1048576) (hw:w.1≤1048576) :
    zE 197 [tsA g nb N pl np K,inL w] [] (.p (.bool (strcB g nb N pl np K w))):=by
  have c1:=con_Proper_s g nb N pl np K w hn hK hw
  refine csZ Tryz.func197 (fun c hc=>?_)
  cases hp:prpB g nb N pl np K w with
  | false =>
    rw [hp] at c1
    rw [show strcB g nb N pl np K w=false by unfold strcB;rw [hp];rfl]
    refine pkZ Tryz.func197 hc (tntN g nb N pl np K w) ?_
    and_intros
    all_goals (first | exact zN | (exact c1))
  | true =>
    rw [hp] at c1
    obtain ⟨ht,hs⟩:tsB g nb N pl np K=true∧strB g nb N pl np w=true:=by
      have h:=hp
      unfold prpB at h
      revert h
      cases tsB g nb N pl np K<;>cases strB g nb N pl np w<;>intro h<;>first | exact ⟨rfl,rfl⟩ | cases h
    obtain ⟨hl,hb,hnp⟩:=str_len hs
    obtain ⟨hk,hf⟩:=ts_len ht
    rw [show strcB g nb N pl np K w=allB (fun i=>!ssqB K w i) nb by unfold strcB;rw [hp];rfl]
    have lo:∀ d i,i+d=nb→allB (fun i=>!ssqB K w i) i=true→zR c 197 zf94 (TnT g nb N pl np K w i) (Post c [] (.p (.bool (allB (fun i=>!ssqB K w i) nb)))):=by
      intro d
      induction d with
      | zero =>
        intro i hi hal
        obtain rfl:i=nb:=by omega
        have hd:decide ((i:Int)<(K.1:Int))=false:=decide_eq_false (by omega)
        have hd2:decide ((i:Int)<(w.1:Int))=false:=decide_eq_false (by omega)
        rw [hal]
        refine pkZ Tryz.func197 hc (tnte g i N pl np K w i) ?_
        and_intros
        all_goals (first | exact zN | (exact hd) | (exact hd2))
      | succ d ih =>
        intro i hi ha
        have hd:decide ((i:Int)<(K.1:Int))=true:=decide_eq_true (by omega)
        have hd2:decide ((i:Int)<(w.1:Int))=true:=decide_eq_true (by omega)
        cases hq:ssqB K w i with
        | false =>
          have hq':=hq
          unfold ssqB at hq'
          refine pcD hc (tntt g nb N pl np K w i) ?_ (ih (i+1) (by omega) (by rw [allB,ha,hq];rfl))
          and_intros
          all_goals (first | exact zI | (exact hd) | (exact hd2) | (exact hq') | (intro h;exact h) | (intros;omega) | (intros;simp [All];done))
        | true =>
          have hq':=hq
          unfold ssqB at hq'
          rw [all_no (i:=i) (by omega) (show (!ssqB K w i)=false by rw [hq];rfl)]
          refine pkD Tryz.func197 hc (tntf g nb N pl np K w i) ?_
          and_intros
          all_goals (first | exact zI | (exact hd) | (exact hd2) | (exact hq') | (intro h;exact h) | (intros;omega))
    refine pcD hc (tntz g nb N pl np K w) ?_ (lo nb 0 (by omega) rfl)
    and_intros
    all_goals (first | exact zN | (exact c1) | (intros;simp [All];done))
theorem con_Allowed_i (g:Nat→T_Bar) (nb:Nat) (N:Int) (pl:Nat→T_Place) (np:Nat) (K v:T_IntS) (hn:nb≤1048576∧np≤1048576) (hK:K.1≤1048576) (hv:v.1≤1048576) :
    zE 207 [tsA g nb N pl np K,inL v] [] (.p (.bool (alwB g nb N pl np K v))):=by
  have c1:=con_IsTensegrity_i g nb N pl np K hn hK
  have c2:=con_isVelocity g nb N pl np v hn hv
  refine csZ Tryz.func207 (fun c hc=>?_)
  cases ha:(bif tsB g nb N pl np K then velB g nb N pl np v else false) with
  | false =>
    have ha':(bif !tsB g nb N pl np K then true else !velB g nb N pl np v)=true:=by
      revert ha;cases tsB g nb N pl np K<;>cases velB g nb N pl np v<;>intro ha<;>first | rfl | cases ha
    rw [show alwB g nb N pl np K v=false by unfold alwB;rw [ha];rfl]
    refine pkD Tryz.func207 hc (tnmN g nb N pl np K v (tsB g nb N pl np K) (velB g nb N pl np v)) ?_
    and_intros
    all_goals (first | exact zH | (exact c1) | (intros;exact c2) | (exact ha') | (intro h;rw [h];rfl))
  | true =>
    have ht:tsB g nb N pl np K=true:=by cases h:tsB g nb N pl np K with | false=>rw [h] at ha;cases ha | true=>rfl
    have hs:velB g nb N pl np v=true:=by rw [ht] at ha;exact ha
    obtain ⟨hk,hf⟩:=ts_len ht
    obtain ⟨n,rfl⟩:=fw_N hf
    have ok:=vOk hs
    have hb:=ok.hnb
    have hnp:=ok.hnp
    have hN:=ok.hN
    have hok:=(graph_in ok.gr).2.2
    rw [ht] at c1
    rw [hs] at c2
    have hr:alwB g nb n pl np K v=allB (fun i=>!amqB K (chQ g pl v i) i) nb:=by unfold alwB;rw [ha];rfl
    rw [hr]
    have lo:∀ d i,i+d=nb→allB (fun i=>!amqB K (chQ g pl v i) i) i=true→zR c 207 zf95 (TnM g nb n pl np K v i) (Post c [] (.p (.bool (allB (fun i=>!amqB K (chQ g pl v i) i) nb)))):=by
      intro d
      induction d with
      | zero =>
        intro i hi hal
        obtain rfl:i=nb:=by omega
        have hd:decide ((i:Int)<(i:Int))=false:=decide_eq_false (by omega)
        have hd2:decide ((i:Int)<(K.1:Int))=false:=decide_eq_false (by omega)
        rw [hal]
        refine pkZ Tryz.func207 hc (tnme g i n pl np K v i) ?_
        and_intros
        all_goals (first | exact zN | (exact hd) | (exact hd2))
      | succ d ih =>
        intro i hi ha
        have hd:decide ((i:Int)<(nb:Int))=true:=decide_eq_true (by omega)
        have hd2:decide ((i:Int)<(K.1:Int))=true:=decide_eq_true (by omega)
        have hb:=hok i (by omega)
        have cc:=(con_Change ok (a:=(g i).1.toNat) (b:=(g i).2.1.toNat) (by omega) (by omega)).1
        rw [show (((g i).1.toNat:Nat):Int)=(g i).1 by omega,show (((g i).2.1.toNat:Nat):Int)=(g i).2.1 by omega] at cc
        change Con _ _ _ _ _ _ (.p (.int .i64 (chQ g pl v i))) at cc
        generalize hx:chQ g pl v i=x at cc
        cases hq:amqB K x i with
        | false =>
          have hq':=hq
          unfold amqB at hq'
          refine pcD hc (tnmt g nb n pl np K v i x) ?_ (ih (i+1) (by omega) (by rw [allB,ha];show (true&&!amqB K (chQ g pl v i) i)=true;rw [hx,hq];rfl))
          and_intros
          all_goals (first | exact zH | (exact hd) | (exact hd2) | (exact cc) | (exact hq') | (intro h;exact h) | (intros;omega) | (intros;simp [All];done))
        | true =>
          have hq':=hq
          unfold amqB at hq'
          rw [all_no (i:=i) (by omega) (show (!amqB K (chQ g pl v i) i)=false by rw [hx,hq];rfl)]
          refine pkD Tryz.func207 hc (tnmf g nb n pl np K v i x) ?_
          and_intros
          all_goals (first | exact zH | (exact hd) | (exact hd2) | (exact cc) | (exact hq') | (intro h;exact h) | (intros;omega))
    refine pcD hc (tnmz g nb n pl np K v true true) ?_ (lo nb 0 (by omega) rfl)
    and_intros
    all_goals (first | exact zH | (exact c1) | (intros;exact c2) | (intros;simp [All];done))
theorem con_Allowed_s (g:Nat→T_Bar) (nb:Nat) (N:Int) (pl:Nat→T_Place) (np:Nat) (K v:T_IntS) (hn:nb≤1048576∧np≤1048576) (hK:K.1≤1048576) (hv:v.1≤1048576) :
    zE 198 [tsA g nb N pl np K,inL v] [] (.p (.bool (alwB g nb N pl np K v))):=by
  have c1:=con_IsTensegrity_s g nb N pl np K hn hK
  have c2:=con_Vector g nb N pl np v hn hv
  refine csZ Tryz.func198 (fun c hc=>?_)
  cases ha:(bif tsB g nb N pl np K then velB g nb N pl np v else false) with
  | false =>
    have ha':(bif !tsB g nb N pl np K then true else !velB g nb N pl np v)=true:=by
      revert ha;cases tsB g nb N pl np K<;>cases velB g nb N pl np v<;>intro ha<;>first | rfl | cases ha
    rw [show alwB g nb N pl np K v=false by unfold alwB;rw [ha];rfl]
    refine pkD Tryz.func198 hc (tnnN g nb N pl np K v (tsB g nb N pl np K) (velB g nb N pl np v)) ?_
    and_intros
    all_goals (first | exact zH | (exact c1) | (intros;exact c2) | (exact ha') | (intro h;rw [h];rfl))
  | true =>
    have ht:tsB g nb N pl np K=true:=by cases h:tsB g nb N pl np K with | false=>rw [h] at ha;cases ha | true=>rfl
    have hs:velB g nb N pl np v=true:=by rw [ht] at ha;exact ha
    obtain ⟨hk,hf⟩:=ts_len ht
    obtain ⟨n,rfl⟩:=fw_N hf
    have ok:=vOk hs
    have hb:=ok.hnb
    have hnp:=ok.hnp
    have hN:=ok.hN
    have hok:=(graph_in ok.gr).2.2
    rw [ht] at c1
    rw [hs] at c2
    have hr:alwB g nb n pl np K v=allB (fun i=>!amqB K (chQ g pl v i) i) nb:=by unfold alwB;rw [ha];rfl
    rw [hr]
    have lo:∀ d i,i+d=nb→allB (fun i=>!amqB K (chQ g pl v i) i) i=true→zR c 198 zf96 (TnN g nb n pl np K v i) (Post c [] (.p (.bool (allB (fun i=>!amqB K (chQ g pl v i) i) nb)))):=by
      intro d
      induction d with
      | zero =>
        intro i hi hal
        obtain rfl:i=nb:=by omega
        have hd:decide ((i:Int)<(i:Int))=false:=decide_eq_false (by omega)
        have hd2:decide ((i:Int)<(K.1:Int))=false:=decide_eq_false (by omega)
        rw [hal]
        refine pkZ Tryz.func198 hc (tnne g i n pl np K v i) ?_
        and_intros
        all_goals (first | exact zN | (exact hd) | (exact hd2))
      | succ d ih =>
        intro i hi ha
        have hd:decide ((i:Int)<(nb:Int))=true:=decide_eq_true (by omega)
        have hd2:decide ((i:Int)<(K.1:Int))=true:=decide_eq_true (by omega)
        have hb:=hok i (by omega)
        have cc:=(con_Change ok (a:=(g i).1.toNat) (b:=(g i).2.1.toNat) (by omega) (by omega)).2
        rw [show (((g i).1.toNat:Nat):Int)=(g i).1 by omega,show (((g i).2.1.toNat:Nat):Int)=(g i).2.1 by omega] at cc
        change Con _ _ _ _ _ _ (.p (.int .i64 (chQ g pl v i))) at cc
        generalize hx:chQ g pl v i=x at cc
        cases hq:amqB K x i with
        | false =>
          have hq':=hq
          unfold amqB at hq'
          refine pcD hc (tnnt g nb n pl np K v i x) ?_ (ih (i+1) (by omega) (by rw [allB,ha];show (true&&!amqB K (chQ g pl v i) i)=true;rw [hx,hq];rfl))
          and_intros
          all_goals (first | exact zH | (exact hd) | (exact hd2) | (exact cc) | (exact hq') | (intro h;exact h) | (intros;omega) | (intros;simp [All];done))
        | true =>
          have hq':=hq
          unfold amqB at hq'
          rw [all_no (i:=i) (by omega) (show (!amqB K (chQ g pl v i) i)=false by rw [hx,hq];rfl)]
          refine pkD Tryz.func198 hc (tnnf g nb n pl np K v i x) ?_
          and_intros
          all_goals (first | exact zH | (exact hd) | (exact hd2) | (exact cc) | (exact hq') | (intro h;exact h) | (intros;omega))
    refine pcD hc (tnnz g nb n pl np K v true true) ?_ (lo nb 0 (by omega) rfl)
    and_intros
    all_goals (first | exact zH | (exact c1) | (intros;exact c2) | (intros;simp [All];done))
theorem con_PStiff_i (g:Nat→T_Bar) (nb:Nat) (N:Int) (pl:Nat→T_Place) (np:Nat) (K w:T_IntS) (hn:nb≤1048576∧np≤1048576) (hK:K.1≤1048576) (hw:w.1≤1048576) :
    zE 98 [tsA g nb N pl np K,inL w] [] (.p (.bool (bif strcB g nb N pl np K w then ffF g nb N pl np==0 else false))):=by
  have c1:=con_Strict_i g nb N pl np K w hn hK hw
  have c2:=(con_IsStiff g nb N pl np hn).1
  refine csZ Tryz.func98 (fun c hc=>?_)
  refine pkZ Tryz.func98 hc (pvsi g nb N pl np K w (strcB g nb N pl np K w) (ffF g nb N pl np==0)) ?_
  and_intros
  all_goals (first | exact zI | (exact c1) | (intros;exact c2) | (intro h;exact h) | rfl)
theorem con_PLoose_i (g:Nat→T_Bar) (nb:Nat) (N:Int) (pl:Nat→T_Place) (np:Nat) (K v:T_IntS) (hn:nb≤1048576∧np≤1048576) (hK:K.1≤1048576) (hv:v.1≤1048576) :
    zE 99 [tsA g nb N pl np K,inL v] [] (.p (.bool (bif alwB g nb N pl np K v then !tmB g nb N pl np v else false))):=by
  have c1:=con_Allowed_i g nb N pl np K v hn hK hv
  have c2:=con_Trivial_i g nb N pl np v hn hv
  refine csZ Tryz.func99 (fun c hc=>?_)
  refine pkD Tryz.func99 hc (pvli g nb N pl np K v (alwB g nb N pl np K v) (tmB g nb N pl np v)) ?_
  and_intros
  all_goals (first | exact zI | (exact c1) | (intros;exact c2) | (intro h;exact h) | rfl)
theorem con_PStiff_s (g:Nat→T_Bar) (nb:Nat) (N:Int) (pl:Nat→T_Place) (np:Nat) (K w:T_IntS) (hn:nb≤1048576∧np≤1048576) (hK:K.1≤1048576) (hw:w.1≤1048576) :
    zE 88 [tsA g nb N pl np K,inL w] [] (.p (.bool (bif strcB g nb N pl np K w then ffF g nb N pl np==0 else false))):=by
  have c1:=con_Strict_s g nb N pl np K w hn hK hw
  have c2:=(con_IsStiff g nb N pl np hn).2
  refine csZ Tryz.func88 (fun c hc=>?_)
  refine pkZ Tryz.func88 hc (pvss g nb N pl np K w (strcB g nb N pl np K w) (ffF g nb N pl np==0)) ?_
  and_intros
  all_goals (first | exact zI | (exact c1) | (intros;exact c2) | (intro h;exact h) | rfl)
theorem con_PLoose_s (g:Nat→T_Bar) (nb:Nat) (N:Int) (pl:Nat→T_Place) (np:Nat) (K v:T_IntS) (hn:nb≤1048576∧np≤1048576) (hK:K.1≤1048576) (hv:v.1≤1048576) :
    zE 89 [tsA g nb N pl np K,inL v] [] (.p (.bool (bif alwB g nb N pl np K v then !tmB g nb N pl np v else false))):=by
  have c1:=con_Allowed_s g nb N pl np K v hn hK hv
  have c2:=con_Trivial12 g nb N pl np v hn hv
  refine csZ Tryz.func89 (fun c hc=>?_)
  refine pkD Tryz.func89 hc (pvls g nb N pl np K v (alwB g nb N pl np K v) (tmB g nb N pl np v)) ?_
  and_intros
  all_goals (first | exact zI | (exact c1) | (intros;exact c2) | (intro h;exact h) | rfl)
def ssOb (n:Nat) (C:Nat→T_IntS):Ob:=⟨false,1,n,fun i=>[.p (.seq false 1 (C i).1 (fun s=>[.int .i64 ((C i).2 s)]))]⟩
def trS (S:Nat→Nat→Int):Nat→Nat→Nat→Int
  | 0,_,_=>0
  | i+1,t,j=>trS S i (t / 5) j+(((t % 5:Nat):Int) - 2)*S i j
def Lt0 (n q:Nat) (S:Nat→Nat→Int) (i C:Nat):St :=
  ⟨[ssA2 q (cM n S),.p (.int .i64 n),.p .any,.p .any,.p .any,.ar 1 0 0 C,.p (.int .i64 i)]++List.replicate 61 anyA,[(0,ssOb C (cM n (trS S i)))],1⟩
def Lt1 (n q:Nat) (S:Nat→Nat→Int) (i C k:Nat):St :=
  ⟨[ssA2 q (cM n S),.p (.int .i64 n),.p .any,.p .any,.p .any,.ar 1 0 0 C,.p (.int .i64 i),.ar 1 1 0 (5*k),.p (.int .i64 k)]++List.replicate 59 anyA,[(0,ssOb C (cM n (trS S i))),(1,ssOb (5*k) (cM n (trS S (i+1))))],2⟩
def Lt2 (n q:Nat) (S:Nat→Nat→Int) (i C k a:Nat):St :=
  ⟨[ssA2 q (cM n S),.p (.int .i64 n),.p .any,.p .any,.p .any,.ar 1 0 0 C,.p (.int .i64 i),.ar 1 1 0 (5*k+a),.p (.int .i64 k),.p (.int .i64 ((a:Int) - 2))]++List.replicate 58 anyA,[(0,ssOb C (cM n (trS S i))),(1,ssOb (5*k+a) (cM n (trS S (i+1))))],2⟩
def Lt3 (n q:Nat) (S:Nat→Nat→Int) (i C k a j:Nat):St :=
  ⟨[ssA2 q (cM n S),.p (.int .i64 n),.p .any,.p .any,.p .any,.ar 1 0 0 C,.p (.int .i64 i),.ar 1 1 0 (5*k+a),.p (.int .i64 k),.p (.int .i64 ((a:Int) - 2)),.ar 1 2 0 j,.p (.int .i64 j)]++List.replicate 56 anyA,[(0,ssOb C (cM n (trS S i))),(1,ssOb (5*k+a) (cM n (trS S (i+1)))),(2,iOb j (trS S (i+1) (5*k+a)))],3⟩
def FsS (g:Nat→T_Bar) (nb:Nat) (N:Int) (pl:Nat→T_Place) (np:Nat) (K:T_IntS) (C:Nat) (V:Nat→Nat→Int) (i:Nat):St :=
  ⟨[.p .any,.pt 4 0 0 0,.p .any,.p .any,.ar 1 1 0 C,.p (.int .i64 i)]++List.replicate 30 anyA,[(0,tsO g nb N pl np K),(1,ssOb C (cM nb V))],2⟩
def fl0 (p:Nat):Ob:=⟨true,1,1,fun _=>[.ar 1 1 0 p]⟩
def tsF (g:Nat→T_Bar) (nb:Nat) (N:Int) (pl:Nat→T_Place) (np:Nat) (K:T_IntS):Ob:=⟨true,4,1,fun _=>[.p (.int .i64 N),.p (.seq false 2 nb (fun i=>[.int .i64 (g i).1,.int .i64 (g i).2.1])),.p (.seq false 2 np (fun i=>[.int .i64 (pl i).1,.int .i64 (pl i).2.1])),.p (.seq false 1 K.1 (fun i=>[.int .i64 (K.2 i)]))]⟩
def fcO:Ob:=⟨true,1,1,fun _=>[.clo 262 [.pt 1 0 0 0,.pt 4 3 0 0,.pt 1 4 0 0]]⟩
def fsH (g:Nat→T_Bar) (nb:Nat) (N:Int) (pl:Nat→T_Place) (np:Nat) (K:T_IntS) (q p:Nat) (S:Nat→Nat→Int) (k n:Nat) (w:Nat→Int):Hp :=
  [(0,fl0 p),(1,ooOb 2 q (cM nb S)),(2,ffOb q (cM nb S)),(3,tsF g nb N pl np K),(4,fcO),(k,iOb n w)]
def Fs0 (g:Nat→T_Bar) (nb:Nat) (N:Int) (pl:Nat→T_Place) (np:Nat) (K:T_IntS) (q p:Nat) (S:Nat→Nat→Int) (i:Nat) (w:Nat→Int) (f:Int):St :=
  ⟨[.ar 1 5 0 nb,.p (.int .i64 i),.pt 1 0 0 0,.pt 4 3 0 0,.pt 1 4 0 0,.p .any,.p .any,.p .any,.p .any,.p (.int .i64 f)]++List.replicate 52 anyA,
   [(0,fl0 p),(1,ooOb 2 q (cM nb S)),(2,ffOb q (cM nb S)),(3,tsF g nb N pl np K),(4,fcO),(5,iOb nb w)],6⟩
def Fs1 (g:Nat→T_Bar) (nb:Nat) (N:Int) (pl:Nat→T_Place) (np:Nat) (K:T_IntS) (q p:Nat) (S:Nat→Nat→Int) (i:Nat) (w:Nat→Int) (f:Int) (x:Nat→Int) (k:Nat):St :=
  ⟨[.ar 1 5 0 nb,.p (.int .i64 i),.pt 1 0 0 0,.pt 4 3 0 0,.pt 1 4 0 0,.p .any,.p .any,.p .any,.p .any,.p (.int .i64 f),.ar 1 6 0 nb]++List.replicate 17 anyA++[.ar 1 6 0 nb,.p (.int .i64 nb),.p (.int .i64 k)]++List.replicate 31 anyA,
   [(0,fl0 p),(1,ooOb 2 q (cM nb S)),(2,ffOb q (cM nb S)),(3,tsF g nb N pl np K),(4,fcO),(5,iOb nb w),(6,iOb nb x)],7⟩
def Fs2 (g:Nat→T_Bar) (nb:Nat) (N:Int) (pl:Nat→T_Place) (np:Nat) (K:T_IntS) (q p:Nat) (S:Nat→Nat→Int) (i:Nat) (w:Nat→Int) (f:Int) (x:Nat→Int):St :=
  ⟨[.ar 1 5 0 nb,.p (.int .i64 i),.pt 1 0 0 0,.pt 4 3 0 0,.pt 1 4 0 0,.p .any,.p .any,.p .any,.p .any,.p (.int .i64 f),.ar 1 6 0 nb]++List.replicate 51 anyA,
   [(0,fl0 p),(1,ooOb 2 q (cM nb S)),(2,ffOb q (cM nb S)),(3,tsF g nb N pl np K),(4,fcO),(5,iOb nb w),(6,iOb nb x)],7⟩
def xkF (w s:Nat→Int) (f:Int) (k j:Nat):Int:=if j<k then w j+f*s j else w j
theorem ltz (n q:Nat) (S:Nat→Nat→Int) :
    zT Tryz.f257 [rg 1,rg 4,rg 1,.head] [ssA2 q (cM n S),.p (.int .i64 n)] [96] (Lt0 n q S 0 1) =
    some (zf97,[(IL 0 (↑n:Int)),(IL (↑n:Int) (↑n:Int)),(IL ((↑n:Int)*(↑8:Int)) 281474976710656),(ZHi (↑n:Int)),(AN q),(AP q (fun i=>[.seq true 1 n (fun i_1=>[.int .i64 ((cM n S i).2 i_1)])])),(AI ((↑n:Int))),(AN 0),(AN 1),((0:Int)=(↑0:Int)),(AN 1),(NL 1 1),(∀ i:Nat,(((i:Nat)<1)→(All [(AN 1),((n:Nat)≤n)]∧(([.p (.seq false 1 n (fun i_1=>[.int .i64 0]))]:List AV)=[.p (.seq false 1 n (fun i_1=>[.int .i64 ((cM n (trS S 0) i).2 i_1)]))]))))]):=by kernel_rfl
theorem lta (n q:Nat) (S:Nat→Nat→Int) (i C:Nat) :
    zM 0 [rg 8,.dec true,rg 2,rg 1,.head] zf97 (Lt0 n q S i C) [0,257] 1 (Lt1 n q S i C 0) =
    some (zf20,zD [(AG (decide ((↑i:Int)<(↑q:Int)))),((bif decide ((↑i:Int)<(↑q:Int)) then decide ((↑i:Int)<3) else false)=true),(AN q),(AP q (fun i_1=>[.seq true 1 n (fun i_2=>[.int .i64 ((cM n S i_1).2 i_2)])])),(AI ((↑n:Int))),(AN 0),(AN C),(AI ((↑i:Int))),((0:Int)=(↑0:Int)),(AN 1),(NL C C),(AA C (fun i_1=>[.p (.seq false 1 n (fun i_2=>[.int .i64 ((cM n (trS S i) i_1).2 i_2)]))])),(NL 0 0),(∀ i_1:Nat,(((i_1:Nat)<0)→(All []∧(([.p (.nil)]:List AV)=[.p (.seq false 1 n (fun i_2=>[.int .i64 ((cM n (trS S (i+1)) i_1).2 i_2)]))]))))] [0,0,1,2,3,4,5,6,7,5,5,8,9,10,11,9,12,13]):=by kernel_rfl
theorem lte (n q:Nat) (S:Nat→Nat→Int) (i C:Nat) :
    zP Tryz.f257 0 [rg 8,.dec false,rg 2] zf97 (Lt0 n q S i C) [0] 1 [(0,ssOb C (cM n (trS S i)))] (.ar 1 0 0 C) =
    some (zD [(AG (decide ((↑i:Int)<(↑q:Int)))),((bif decide ((↑i:Int)<(↑q:Int)) then decide ((↑i:Int)<3) else false)=false),(AN 0),(AN C),(AN 1),(NL C C),(AA C (fun i_1=>[.p (.seq false 1 n (fun i_2=>[.int .i64 ((cM n (trS S i) i_1).2 i_2)]))])),(∀ i_1:Nat,(((i_1:Nat)<C)→All [(false=false),(AE n)]))] [0,0,1,2,3,4,5,6,7]):=by kernel_rfl
theorem ltb (n q:Nat) (S:Nat→Nat→Int) (i C k:Nat) :
    zM 0 [rg 4,.dec true,rg 1,.head] zf20 (Lt1 n q S i C k) [0,1] 1 (Lt2 n q S i C k 0) =
    some (zf7,[((decide ((↑k:Int)<(↑C:Int)))=true),(AN q),(AP q (fun i_1=>[.seq true 1 n (fun i_2=>[.int .i64 ((cM n S i_1).2 i_2)])])),(AI ((↑n:Int))),(AN 0),(AN C),(AI ((↑i:Int))),(AN 0),(AN ((5*k))),(AI ((↑k:Int))),(((-2):Int)=((↑0:Int) - 2)),(AN 1),(NL C C),(AA C (fun i_1=>[.p (.seq false 1 n (fun i_2=>[.int .i64 ((cM n (trS S i) i_1).2 i_2)]))])),(AN 1),(NL (5*k) (5*k)),(AA ((5*k)) (fun i_1=>[.p (.seq false 1 n (fun i_2=>[.int .i64 ((cM n (trS S (i+1)) i_1).2 i_2)]))]))]):=by kernel_rfl
theorem ltc (n q:Nat) (S:Nat→Nat→Int) (i C C' k:Nat) :
    zM 0 [rg 4,.dec false,rg 2,rg 3,.head] zf20 (Lt1 n q S i C k) [1] 1 (Lt0 n q S (i+1) C') =
    some (zf97,[((decide ((↑k:Int)<(↑C:Int)))=false),(ZLo ((↑i:Int)+1)),(ZHi ((↑i:Int)+1)),(AN q),(AP q (fun i_1=>[.seq true 1 n (fun i_2=>[.int .i64 ((cM n S i_1).2 i_2)])])),(AI ((↑n:Int))),(AN 0),(((5*k):Nat)=C'),((((↑i:Int)+1):Int)=(↑(i+1):Int)),(AN 1),(NL (C') (5*k)),(AA (C') (fun i_1=>[.p (.seq false 1 n (fun i_2=>[.int .i64 ((cM n (trS S (i+1)) i_1).2 i_2)]))]))]):=by kernel_rfl
theorem ltd (n q:Nat) (S:Nat→Nat→Int) (i C k a:Nat) :
    zM 0 [rg 2,.dec true,rg 2,rg 1,.head] zf7 (Lt2 n q S i C k a) [0,1,66] 1 (Lt3 n q S i C k a 0) =
    some (zf3,[((decide ((↑a:Int) - 2≤2))=true),(AN q),(AP q (fun i_1=>[.seq true 1 n (fun i_2=>[.int .i64 ((cM n S i_1).2 i_2)])])),(AI ((↑n:Int))),(AN 0),(AN C),(AI ((↑i:Int))),(AN 0),(AN ((5*k+a))),(AI ((↑k:Int))),(AI (((↑a:Int) - 2))),(AN 0),(AN 0),((0:Int)=(↑0:Int)),(AN 1),(NL C C),(AA C (fun i_1=>[.p (.seq false 1 n (fun i_2=>[.int .i64 ((cM n (trS S i) i_1).2 i_2)]))])),(AN 1),(NL (5*k+a) (5*k+a)),(AA ((5*k+a)) (fun i_1=>[.p (.seq false 1 n (fun i_2=>[.int .i64 ((cM n (trS S (i+1)) i_1).2 i_2)]))])),(AN 1),(NL 0 0),(∀ i_1:Nat,(((i_1:Nat)<0)→(All []∧(([.p (.int .i64 0)]:List AV)=[.p (.int .i64 (trS S (i+1) (5*k+a) i_1))]))))]):=by kernel_rfl
theorem ltf (n q:Nat) (S:Nat→Nat→Int) (i C k a:Nat) :
    zM 0 [rg 2,.dec false,rg 3,.head] zf7 (Lt2 n q S i C k a) [0,1] 1 (Lt1 n q S i C (k+1)) =
    some (zf20,[((decide ((↑a:Int) - 2≤2))=false),(ZLo ((↑k:Int)+1)),(ZHi ((↑k:Int)+1)),(AN q),(AP q (fun i_1=>[.seq true 1 n (fun i_2=>[.int .i64 ((cM n S i_1).2 i_2)])])),(AI ((↑n:Int))),(AN 0),(AN C),(AI ((↑i:Int))),(AN 0),(((5*k+a):Nat)=(5*(k+1))),((((↑k:Int)+1):Int)=(↑(k+1):Int)),(AN 1),(NL C C),(AA C (fun i_1=>[.p (.seq false 1 n (fun i_2=>[.int .i64 ((cM n (trS S i) i_1).2 i_2)]))])),(AN 1),(NL (5*(k+1)) (5*k+a)),(AA ((5*(k+1))) (fun i_1=>[.p (.seq false 1 n (fun i_2=>[.int .i64 ((cM n (trS S (i+1)) i_1).2 i_2)]))]))]):=by kernel_rfl
theorem ltg (n q:Nat) (S:Nat→Nat→Int) (i C k a j:Nat) :
    zM 0 [rg 3,.dec true,rg 21,rg 3,.head] zf3 (Lt3 n q S i C k a j) [0,1,707] 1 (Lt3 n q S i C k a (j+1)) =
    some (zf3,[((decide ((↑j:Int)<(↑n:Int)))=true),(IL 0 (↑k:Int)),(IT (↑k:Int) (↑C:Int)),(NT k C),(IL 0 (↑j:Int)),(IT (↑j:Int) (↑n:Int)),(IL 0 (↑i:Int)),(IT (↑i:Int) (↑q:Int)),(IL 0 (↑j:Int)),(IT (↑j:Int) (↑n:Int)),(ZLo (((↑a:Int) - 2)*(cM n S i).2 j)),(ZHi (((↑a:Int) - 2)*(cM n S i).2 j)),(ZLo ((cM n (trS S i) k).2 j+((↑a:Int) - 2)*(cM n S i).2 j)),(ZHi ((cM n (trS S i) k).2 j+((↑a:Int) - 2)*(cM n S i).2 j)),(NL 1 1),(NL j j),(NL ((j+1)*8) 140737488355328),(NL (j+1) 9223372036854775807),(ZLo ((↑j:Int)+1)),(ZHi ((↑j:Int)+1)),(AN q),(AP q (fun i_1=>[.seq true 1 n (fun i_2=>[.int .i64 ((cM n S i_1).2 i_2)])])),(AI ((↑n:Int))),(AN 0),(AN C),(AI ((↑i:Int))),(AN 0),(AN ((5*k+a))),(AI ((↑k:Int))),(AI (((↑a:Int) - 2))),(AN 0),(AN ((j+1))),((((↑j:Int)+1):Int)=(↑(j+1):Int)),(AN 1),(NL C C),(AA C (fun i_1=>[.p (.seq false 1 n (fun i_2=>[.int .i64 ((cM n (trS S i) i_1).2 i_2)]))])),(AN 1),(NL (5*k+a) (5*k+a)),(AA ((5*k+a)) (fun i_1=>[.p (.seq false 1 n (fun i_2=>[.int .i64 ((cM n (trS S (i+1)) i_1).2 i_2)]))])),(AN 1),(NL (j+1) (j+1)),(CV [(707,⟨false,1,(j+1),(fun i_2=>(if (i_2<j) then [.p (.int .i64 (trS S (i+1) (5*k+a) i_2))] else [.p (.int .i64 ((cM n (trS S i) k).2 j+((↑a:Int) - 2)*(cM n S i).2 j))]))⟩),(675,⟨false,1,1,(fun i_2=>[.p (.int .i64 ((cM n (trS S i) k).2 j+((↑a:Int) - 2)*(cM n S i).2 j))])⟩),(0,⟨false,1,C,(fun i_2=>[.p (.seq false 1 n (fun i_3=>[.int .i64 ((cM n (trS S i) i_2).2 i_3)]))])⟩),(1,⟨false,1,(5*k+a),(fun i_2=>[.p (.seq false 1 n (fun i_3=>[.int .i64 ((cM n (trS S (i+1)) i_2).2 i_3)]))])⟩)] [0,1,707] 1 (j+1) (fun i_1=>if (i_1<j) then [.p (.int .i64 (trS S (i+1) (5*k+a) i_1))] else [.p (.int .i64 ((cM n (trS S i) k).2 j+((↑a:Int) - 2)*(cM n S i).2 j))]) (fun i_1=>[.p (.int .i64 (trS S (i+1) (5*k+a) i_1))]))]):=by kernel_rfl
theorem lth (n q:Nat) (S:Nat→Nat→Int) (i C k a:Nat) :
    zM 0 [rg 3,.dec false,rg 5,rg 3,.head] zf3 (Lt3 n q S i C k a n) [0,195] 1 (Lt2 n q S i C k (a+1)) =
    some (zf7,[((decide ((↑n:Int)<(↑n:Int)))=false),(NL 1 1),(NL (5*k+a) (5*k+a)),(NL ((5*k+a+1)*24) 140737488355328),(NL (5*k+a+1) 9223372036854775807),(ZLo ((↑a:Int) - 2+1)),(ZHi ((↑a:Int) - 2+1)),(AN q),(AP q (fun i_1=>[.seq true 1 n (fun i_2=>[.int .i64 ((cM n S i_1).2 i_2)])])),(AI ((↑n:Int))),(AN 0),(AN C),(AI ((↑i:Int))),(AN 0),(((5*k+a+1):Nat)=(5*k+(a+1))),(AI ((↑k:Int))),((((↑a:Int) - 2+1):Int)=((↑(a+1):Int) - 2)),(AN 1),(NL C C),(AA C (fun i_1=>[.p (.seq false 1 n (fun i_2=>[.int .i64 ((cM n (trS S i) i_1).2 i_2)]))])),(AN 1),(NL (5*k+(a+1)) (5*k+a+1)),(CV [(195,⟨false,1,(5*k+a+1),(fun i_2=>(if (i_2<5*k+a) then [.p (.seq false 1 n (fun i_3=>[.int .i64 ((cM n (trS S (i+1)) i_2).2 i_3)]))] else [.ar 1 2 0 n]))⟩),(163,⟨false,1,1,(fun i_2=>[.ar 1 2 0 n])⟩),(0,⟨false,1,C,(fun i_2=>[.p (.seq false 1 n (fun i_3=>[.int .i64 ((cM n (trS S i) i_2).2 i_3)]))])⟩),(2,⟨false,1,n,(fun i_2=>[.p (.int .i64 (trS S (i+1) (5*k+a) i_2))])⟩)] [0,195] 1 (5*k+(a+1)) (fun i_1=>if (i_1<5*k+a) then [.p (.seq false 1 n (fun i_2=>[.int .i64 ((cM n (trS S (i+1)) i_1).2 i_2)]))] else [.ar 1 2 0 n]) (fun i_1=>[.p (.seq false 1 n (fun i_2=>[.int .i64 ((cM n (trS S (i+1)) i_1).2 i_2)]))]))]):=by kernel_rfl
theorem fsn (g:Nat→T_Bar) (nb:Nat) (N:Int) (pl:Nat→T_Place) (np:Nat) (K:T_IntS) :
    zS Tryz.f148 [rg 3,rm [(1,oc [] (.p (.bool false)))] 1,.dec true,rg 3] [tsA g nb N pl np K] [192] [(0,iOb 0 (fun _=>0))] (.tup [.ar 1 0 0 0,.p (.bool false)]) =
    some [(NT 0 1),zE 147 [(zf45 N nb g np pl K)] [] (.p (.bool false)),((!false)=true),(AN 0),(AN 0),(false=false),(AN 1),(NL 0 0),(AA 0 (fun i=>[.p (.int .i64 0)])),(AE 0)]:=by kernel_rfl
theorem fsz2 (g:Nat→T_Bar) (nb:Nat) (N:Int) (pl:Nat→T_Place) (np:Nat) (K:T_IntS) (q C:Nat) (S V:Nat→Nat→Int) :
    zT Tryz.f148 [rg 3,rm [(1,oc [] (.p (.bool true)))] 1,.dec false,rm [(2,oc [(0,ooOb 1 q (cM nb S)),(1,ffOb q (cM nb S))] (.ar 1 0 0 q)),(3,⟨true,(some ⟨[],[],[257],2,[(0,ssOb C (cM nb V))],.ar 1 0 0 C⟩),none⟩)] 1,rg 1,.head] [tsA g nb N pl np K] [0,384] (FsS g nb N pl np K C V 0) =
    some (zf80,[(NT 0 1),zE 147 [(zf45 N nb g np pl K)] [] (.p (.bool true)),((!true)=false),(NT 0 1),zE 258 [(zf60 N nb g np pl)] [(0,⟨false,1,q,(fun i=>[.ar 1 ⟨1,some i⟩ 0 nb])⟩),(1,⟨true,0,q,(fun i=>[.p (.seq false 1 nb (fun i_1=>[.int .i64 ((cM nb S i).2 i_1)]))])⟩)] (.ar 1 0 0 q),(NT 0 1),(AN 1),(NL q q),(∀ i:Nat,(((i:Nat)<q)→All [((i:Nat)<q),(AN 1),((nb:Nat)≤nb)])),zE 257 [.p (.seq true 1 q (fun i=>[.seq true 1 nb (fun i_1=>[.int .i64 ((cM nb S i).2 i_1)])])),.p (.int .i64 (↑K.1:Int))] [(0,⟨false,1,C,(fun i=>[.p (.seq false 1 nb (fun i_1=>[.int .i64 ((cM nb V i).2 i_1)]))])⟩)] (.ar 1 0 0 C),(AN 0),(AN 0),(AN C),((0:Int)=(↑0:Int)),((([AV.p (PV.int IntKind.i64 N),brL g nb,pcL pl np,inL K].length):Nat)=4),(NL 1 1),(NL 1 1),(AI N),(AN nb),(AP nb (bRw g)),(AN np),(AP np (bRw pl)),(AN K.1),(AP K.1 (iRw K)),(AN 1),(NL C C),(AA C (fun i=>[.p (.seq false 1 nb (fun i_1=>[.int .i64 ((cM nb V i).2 i_1)]))]))]):=by kernel_rfl
theorem fst2 (g:Nat→T_Bar) (nb:Nat) (N:Int) (pl:Nat→T_Place) (np:Nat) (K:T_IntS) (C:Nat) (V:Nat→Nat→Int) (i:Nat) :
    zM 0 [rg 4,.dec true,rm [(5,oc [] (.p (.bool false)))] 0,.dec false,rg 3,.head] zf80 (FsS g nb N pl np K C V i) [0,1] 1 (FsS g nb N pl np K C V (i+1)) =
    some (zf80,[((decide ((↑i:Int)<(↑C:Int)))=true),(NT 0 1),(IL 0 (↑i:Int)),(IT (↑i:Int) (↑C:Int)),(NT i C),zE 197 [(zf42 N nb g np pl K),.p (.seq true 1 nb (fun i_1=>[.int .i64 ((cM nb V i).2 i_1)]))] [] (.p (.bool false)),(false=false),(ZLo ((↑i:Int)+1)),(ZHi ((↑i:Int)+1)),(AN 0),(AN 0),(AN C),((((↑i:Int)+1):Int)=(↑(i+1):Int)),(AN 4),(NL 1 1),(NL 1 1),(AI N),(AN nb),(AP nb (bRw g)),(AN np),(AP np (bRw pl)),(AN K.1),(AP K.1 (iRw K)),(AN 1),(NL C C),(AA C (fun i_1=>[.p (.seq false 1 nb (fun i_2=>[.int .i64 ((cM nb V i_1).2 i_2)]))]))]):=by kernel_rfl
theorem fsy2 (g:Nat→T_Bar) (nb:Nat) (N:Int) (pl:Nat→T_Place) (np:Nat) (K:T_IntS) (C:Nat) (V:Nat→Nat→Int) (i:Nat) :
    zP Tryz.f148 0 [rg 4,.dec true,rm [(5,oc [] (.p (.bool true)))] 0,.dec true,rg 8] zf80 (FsS g nb N pl np K C V i) [482] 1 [(0,iOb nb (V i))] (.tup [.ar 1 0 0 nb,.p (.bool true)]) =
    some (zD [((decide ((↑i:Int)<(↑C:Int)))=true),(NT 0 1),(IL 0 (↑i:Int)),(IT (↑i:Int) (↑C:Int)),(NT i C),zE 197 [(zf42 N nb g np pl K),.p (.seq true 1 nb (fun i_1=>[.int .i64 ((cM nb V i).2 i_1)]))] [] (.p (.bool true)),(true=true),(NL 0 0),(NL ((0+nb)*8) 140737488355328),(NL (0+nb) 9223372036854775807),(AN 0),(((0+nb):Nat)=nb),(AN 1),(NL nb (0+nb)),(∀ i_1:Nat,(((i_1:Nat)<nb)→(All []∧(([.p (.int .i64 ((cM nb V i).2 i_1))]:List AV)=[.p (.int .i64 (V i i_1))])))),(AE nb)] [0,1,2,3,4,5,6,2,3,4,7,8,9,10,11,6,12,13,14,15]):=by kernel_rfl
theorem fse2 (g:Nat→T_Bar) (nb:Nat) (N:Int) (pl:Nat→T_Place) (np:Nat) (K:T_IntS) (C:Nat) (V:Nat→Nat→Int) (i:Nat) :
    zP Tryz.f148 0 [rg 4,.dec false,rg 3] zf80 (FsS g nb N pl np K C V i) [130] 1 [(0,iOb 0 (fun _=>0))] (.tup [.ar 1 0 0 0,.p (.bool false)]) =
    some [((decide ((↑i:Int)<(↑C:Int)))=false),(AN 0),(AN 0),(false=false),(AN 1),(NL 0 0),(AA 0 (fun i_1=>[.p (.int .i64 0)])),(AE 0)]:=by kernel_rfl
theorem fiB (g:Nat→T_Bar) (nb:Nat) (N:Int) (pl:Nat→T_Place) (np:Nat) (K:T_IntS) (q p:Nat) (S:Nat→Nat→Int) (i:Nat) (w:Nat→Int) (b:Bool) :
    zP Tryz.f262 6 [rg 2,rg 4,.dec true,rm [(3,oc [] (.p (.bool b)))] 2] [.code (bodyOf Tryz.f262)] (start Tryz.f262 (fsH g nb N pl np K q p S 5 nb w) 6 [.ar 1 5 0 nb,.p (.int .i64 i),.pt 1 0 0 0,.pt 4 3 0 0,.pt 1 4 0 0]) [0,1,2,3,4,99999,5] 1 (fsH g nb N pl np K q p S 6 nb w) (.tup [.ar 1 6 0 nb,.p (.bool b)]) =
    some (zD [(NT 0 1),(((↑i:Int)==(↑p:Int))=true),(AN 1),(NL nb nb),zE 206 [(zf42 N nb g np pl K),.p (.seq true 1 nb (fun i_1=>[.int .i64 (w i_1)]))] [] (.p (.bool b)),(AN 0),(AN nb),(b=b),(NL 1 1),(AN p),(NL q q),(AA q (fun i_1=>[.ar 1 ⟨2,some i_1⟩ 0 nb])),(∀ i_1:Nat,(((i_1:Nat)<q)→All [(AN 1),((nb:Nat)≤nb),(AP nb (fun r=>[.int .i64 ((cM nb S i_1).2 r)]))])),(AN 4),(AI N),(AP nb (bRw g)),(AN np),(AP np (bRw pl)),(AN K.1),(AP K.1 (iRw K)),(AA nb (fun i_1=>[.p (.int .i64 (w i_1))])),(AE 1),(AE q),(∀ i_1:Nat,(((i_1:Nat)<q)→All [(false=false),(AE nb)])),(∀ i_1:Nat,(((i_1:Nat)<1)→All [(false=false),(AE nb),(false=false),(AE np),(false=false),(AE K.1)])),(AE nb)] [0,1,0,2,3,4,5,6,7,2,8,8,5,9,2,10,11,10,12,13,8,8,14,6,15,16,17,18,19,2,8,8,5,5,5,2,3,20,21,22,23,24,21,25]):=by kernel_rfl
theorem fiz (g:Nat→T_Bar) (nb:Nat) (N:Int) (pl:Nat→T_Place) (np:Nat) (K:T_IntS) (q p:Nat) (S:Nat→Nat→Int) (i:Nat) (w:Nat→Int) :
    zM 6 [rg 2,rg 4,.dec false,rg 1,.head] [.code (bodyOf Tryz.f262)] (start Tryz.f262 (fsH g nb N pl np K q p S 5 nb w) 6 [.ar 1 5 0 nb,.p (.int .i64 i),.pt 1 0 0 0,.pt 4 3 0 0,.pt 1 4 0 0]) [0,1,2,3,4,5] 1 (Fs0 g nb N pl np K q p S i w (-2)) =
    some (zf98,zD [(NT 0 1),(((↑i:Int)==(↑p:Int))=false),(AN 0),(AN nb),(AI ((↑i:Int))),(AI ((-2))),(AN 1),(NL 1 1),(AN p),(NL q q),(AA q (fun i_1=>[.ar 1 ⟨2,some i_1⟩ 0 nb])),(∀ i_1:Nat,(((i_1:Nat)<q)→All [(AN 1),((nb:Nat)≤nb),(AP nb (fun r=>[.int .i64 ((cM nb S i_1).2 r)]))])),(AN 4),(AI N),(AP nb (bRw g)),(AN np),(AP np (bRw pl)),(AN K.1),(AP K.1 (iRw K)),(NL nb nb),(AA nb (fun i_1=>[.p (.int .i64 (w i_1))]))] [0,1,2,3,4,2,2,2,5,6,7,7,2,8,6,9,10,9,11,12,7,7,13,3,14,15,16,17,18,6,7,7,2,2,2,6,19,20]):=by kernel_rfl
theorem fia (g:Nat→T_Bar) (nb:Nat) (N:Int) (pl:Nat→T_Place) (np:Nat) (K:T_IntS) (q p:Nat) (S:Nat→Nat→Int) (i:Nat) (w:Nat→Int) (f:Int) :
    zM 6 [rg 2,.dec true,rm [(1,oc [(0,iOb nb w)] (.ar 1 0 0 nb))] 1,rg 3,.head] zf98 (Fs0 g nb N pl np K q p S i w f) [0,1,2,3,4,5,102] 1 (Fs1 g nb N pl np K q p S i w f w 0) =
    some (zf21,zD [((decide (f≤2))=true),(AN 1),(NL nb nb),zE 165 [.p (.seq true 1 nb (fun i_1=>[.int .i64 (w i_1)]))] [(0,⟨false,1,nb,(fun i_1=>[.p (.int .i64 (w i_1))])⟩)] (.ar 1 0 0 nb),(AN 0),(AN nb),(AI ((↑i:Int))),(AI f),(AI ((↑nb:Int))),((0:Int)=(↑0:Int)),(NL 1 1),(AN p),(NL q q),(AA q (fun i_1=>[.ar 1 ⟨2,some i_1⟩ 0 nb])),(∀ i_1:Nat,(((i_1:Nat)<q)→All [(AN 1),((nb:Nat)≤nb),(AP nb (fun r=>[.int .i64 ((cM nb S i_1).2 r)]))])),(AN 4),(AI N),(AP nb (bRw g)),(AN np),(AP np (bRw pl)),(AN K.1),(AP K.1 (iRw K)),(AA nb (fun i_1=>[.p (.int .i64 (w i_1))]))] [0,1,2,3,4,5,6,4,4,4,7,4,5,4,5,8,9,1,10,10,4,11,1,12,13,12,14,15,10,10,16,5,17,18,19,20,21,1,10,10,4,4,4,1,2,22,1,2,22]):=by kernel_rfl
theorem fib (g:Nat→T_Bar) (nb:Nat) (N:Int) (pl:Nat→T_Place) (np:Nat) (K:T_IntS) (q p:Nat) (S:Nat→Nat→Int) (i:Nat) (w:Nat→Int) (f:Int) (x:Nat→Int) (k:Nat) :
    zM 6 [rg 1,.dec true,rg 2,rg 18,rg 2,.head] zf21 (Fs1 g nb N pl np K q p S i w f x k) [0,1,2,3,4,5,6] 1 (Fs1 g nb N pl np K q p S i w f (fun j=>if j=k then x j+f*S i j else x j) (k+1)) =
    some (zf21,zD [((decide ((↑k:Int)<(↑nb:Int)))=true),(IL 0 (↑k:Int)),(IT (↑k:Int) (↑nb:Int)),(NT k nb),(NT 0 1),(IL 0 (↑i:Int)),(IT (↑i:Int) (↑p:Int)),(NT i q),(ZLo (f*(cM nb S i).2 k)),(ZHi (f*(cM nb S i).2 k)),(ZLo (x k+f*(cM nb S i).2 k)),(ZHi (x k+f*(cM nb S i).2 k)),((false=true)→ ((nb:Nat)=1)),(ZLo ((↑k:Int)+1)),(ZHi ((↑k:Int)+1)),(AN 0),(AN nb),(AI ((↑i:Int))),(AI f),(AI ((↑nb:Int))),((((↑k:Int)+1):Int)=(↑(k+1):Int)),(AN 1),(NL 1 1),(AN p),(NL q q),(AA q (fun i_1=>[.ar 1 ⟨2,some i_1⟩ 0 nb])),(∀ i_1:Nat,(((i_1:Nat)<q)→All [(AN 1),((nb:Nat)≤nb),(AP nb (fun r=>[.int .i64 ((cM nb S i_1).2 r)]))])),(AN 4),(AI N),(AP nb (bRw g)),(AN np),(AP np (bRw pl)),(AN K.1),(AP K.1 (iRw K)),(NL nb nb),(AA nb (fun i_1=>[.p (.int .i64 (w i_1))])),(CV [(6,⟨false,1,nb,(fun i_2=>(if (i_2=k) then [.p (.int .i64 (x k+f*(cM nb S i).2 k))] else [.p (.int .i64 (x i_2))]))⟩),(0,⟨true,1,1,(fun i_2=>[.ar 1 1 0 p])⟩),(1,⟨false,1,q,(fun i_2=>[.ar 1 ⟨2,some i_2⟩ 0 nb])⟩),(2,⟨true,0,q,(fun i_2=>[.p (.seq false 1 nb (fun i_3=>[.int .i64 ((cM nb S i_2).2 i_3)]))])⟩),(3,⟨true,4,1,(fun i_2=>[.p (.int .i64 N),.p (.seq false 2 nb (bRw g)),.p (.seq false 2 np (bRw pl)),.p (.seq false 1 K.1 (iRw K))])⟩),(4,⟨true,1,1,(fun i_2=>[.clo 262 [.pt 1 0 0 0,.pt 4 3 0 0,.pt 1 4 0 0]])⟩),(5,⟨false,1,nb,(fun i_2=>[.p (.int .i64 (w i_2))])⟩)] [0,1,2,3,4,5,6] 1 nb (fun i_1=>if (i_1=k) then [.p (.int .i64 (x k+f*(cM nb S i).2 k))] else [.p (.int .i64 (x i_1))]) (fun i_1=>[.p (.int .i64 (if i_1=k then x i_1+f*S i i_1 else x i_1))]))] [0,1,2,3,4,5,6,7,1,2,7,3,8,9,10,11,1,2,3,12,13,14,15,16,17,15,15,15,18,15,16,15,16,19,20,21,22,22,15,23,21,24,25,24,26,27,22,22,28,16,29,30,31,32,33,21,22,22,15,15,15,21,34,35,21,34,36]):=by kernel_rfl
theorem fic (g:Nat→T_Bar) (nb:Nat) (N:Int) (pl:Nat→T_Place) (np:Nat) (K:T_IntS) (q p:Nat) (S:Nat→Nat→Int) (i:Nat) (w:Nat→Int) (f:Int) (x y:Nat→Int) :
    zM 6 [rg 1,.dec false,.head] zf21 (Fs1 g nb N pl np K q p S i w f x nb) [0,1,2,3,4,5,6] 1 (Fs2 g nb N pl np K q p S i w f y) =
    some (zf29,zD [((decide ((↑nb:Int)<(↑nb:Int)))=false),(AN 0),(AN nb),(AI ((↑i:Int))),(AI f),(AN 1),(NL 1 1),(AN p),(NL q q),(AA q (fun i_1=>[.ar 1 ⟨2,some i_1⟩ 0 nb])),(∀ i_1:Nat,(((i_1:Nat)<q)→All [(AN 1),((nb:Nat)≤nb),(AP nb (fun r=>[.int .i64 ((cM nb S i_1).2 r)]))])),(AN 4),(AI N),(AP nb (bRw g)),(AN np),(AP np (bRw pl)),(AN K.1),(AP K.1 (iRw K)),(NL nb nb),(AA nb (fun i_1=>[.p (.int .i64 (w i_1))])),(∀ i_1:Nat,(((i_1:Nat)<nb)→(All []∧(([.p (.int .i64 (x i_1))]:List AV)=[.p (.int .i64 (y i_1))]))))] [0,1,2,3,1,1,1,4,1,2,5,6,6,1,7,5,8,9,8,10,11,6,6,12,2,13,14,15,16,17,5,6,6,1,1,1,5,18,19,5,18,20]):=by kernel_rfl
theorem fid (g:Nat→T_Bar) (nb:Nat) (N:Int) (pl:Nat→T_Place) (np:Nat) (K:T_IntS) (q p:Nat) (S:Nat→Nat→Int) (i:Nat) (w:Nat→Int) (f:Int) (x z:Nat→Int) (m:Nat) :
    zP Tryz.f262 6 [rm [(4,⟨true,(some ⟨[0,1,2,3,4,6],[1000],[],1,(fsH g nb N pl np K q p S 6 m z),.tup [.ar 1 6 0 m,.p (.bool true)]⟩),none⟩)] 5,rg 1,.dec true,rg 3] zf29 (Fs2 g nb N pl np K q p S i w f x) [0,1,2,3,4,99999,135] 1 (fsH g nb N pl np K q p S 6 m z) (.tup [.ar 1 6 0 m,.p (.bool true)]) =
    some (zD [(NT 0 1),(ZLo ((↑i:Int)+1)),(ZHi ((↑i:Int)+1)),(AE 1),(AE q),(AE nb),Con Tryz.prog 262 6 [(0,⟨true,1,1,(fun i_1=>[.ar 1 1 0 p])⟩),(1,⟨false,1,q,(fun i_1=>[.ar 1 ⟨2,some i_1⟩ 0 nb])⟩),(2,⟨true,0,q,(fun i_1=>[.p (.seq false 1 nb (fun i_2=>[.int .i64 ((cM nb S i_1).2 i_2)]))])⟩),(3,⟨true,4,1,(fun i_1=>[.p (.int .i64 N),.p (.seq false 2 nb (bRw g)),.p (.seq false 2 np (bRw pl)),.p (.seq false 1 K.1 (iRw K))])⟩),(4,⟨true,1,1,(fun i_1=>[.clo 262 [.pt 1 0 0 0,.pt 4 3 0 0,.pt 1 4 0 0]])⟩),(5,⟨false,1,nb,(fun i_1=>[.p (.int .i64 (x i_1))])⟩)] [.ar 1 5 0 nb,.p (.int .i64 ((↑i:Int)+1)),.pt 1 0 0 0,.pt 4 3 0 0,.pt 1 4 0 0] [(0,⟨true,1,1,(fun i_1=>[.ar 1 1 0 p])⟩),(1,⟨false,1,q,(fun i_1=>[.ar 1 ⟨2,some i_1⟩ 0 nb])⟩),(2,⟨true,0,q,(fun i_1=>[.p (.seq false 1 nb (fun i_2=>[.int .i64 ((cM nb S i_1).2 i_2)]))])⟩),(3,⟨true,4,1,(fun i_1=>[.p (.int .i64 N),.p (.seq false 2 nb (bRw g)),.p (.seq false 2 np (bRw pl)),.p (.seq false 1 K.1 (iRw K))])⟩),(4,⟨true,1,1,(fun i_1=>[.clo 262 [.pt 1 0 0 0,.pt 4 3 0 0,.pt 1 4 0 0]])⟩),(6,⟨false,1,m,(fun i_1=>[.p (.int .i64 (z i_1))])⟩)] (.tup [.ar 1 6 0 m,.p (.bool true)]),(true=true),(AN 0),(AN m),(AN 1),(NL 1 1),(AN p),(NL q q),(AA q (fun i_1=>[.ar 1 ⟨2,some i_1⟩ 0 nb])),(∀ i_1:Nat,(((i_1:Nat)<q)→All [(AN 1),((nb:Nat)≤nb),(AP nb (fun r=>[.int .i64 ((cM nb S i_1).2 r)]))])),(AN 4),(AI N),(AN nb),(AP nb (bRw g)),(AN np),(AP np (bRw pl)),(AN K.1),(AP K.1 (iRw K)),(NL m m),(AA m (fun i_1=>[.p (.int .i64 (z i_1))])),(∀ i_1:Nat,(((i_1:Nat)<q)→All [(false=false),(AE nb)])),(∀ i_1:Nat,(((i_1:Nat)<1)→All [(false=false),(AE nb),(false=false),(AE np),(false=false),(AE K.1)])),(AE m)] [0,1,2,3,4,3,3,5,6,7,8,9,7,10,11,11,8,12,10,13,14,13,15,16,11,11,17,18,19,20,21,22,23,10,11,11,8,8,8,10,24,25,3,4,26,27,3,28]):=by kernel_rfl
theorem fie (g:Nat→T_Bar) (nb:Nat) (N:Int) (pl:Nat→T_Place) (np:Nat) (K:T_IntS) (q p:Nat) (S:Nat→Nat→Int) (i:Nat) (w:Nat→Int) (f:Int) (x z:Nat→Int) (m:Nat) :
    zM 6 [rm [(4,⟨true,(some ⟨[0,1,2,3,4,6],[1000],[],1,(fsH g nb N pl np K q p S 6 m z),.tup [.ar 1 6 0 m,.p (.bool false)]⟩),none⟩)] 5,rg 1,.dec false,rg 3,.head] zf29 (Fs2 g nb N pl np K q p S i w f x) [0,1,2,3,4,5] 1 (Fs0 g nb N pl np K q p S i w (f+1)) =
    some (zf98,zD [(NT 0 1),(ZLo ((↑i:Int)+1)),(ZHi ((↑i:Int)+1)),(AE 1),(AE q),(AE nb),Con Tryz.prog 262 6 [(0,⟨true,1,1,(fun i_1=>[.ar 1 1 0 p])⟩),(1,⟨false,1,q,(fun i_1=>[.ar 1 ⟨2,some i_1⟩ 0 nb])⟩),(2,⟨true,0,q,(fun i_1=>[.p (.seq false 1 nb (fun i_2=>[.int .i64 ((cM nb S i_1).2 i_2)]))])⟩),(3,⟨true,4,1,(fun i_1=>[.p (.int .i64 N),.p (.seq false 2 nb (bRw g)),.p (.seq false 2 np (bRw pl)),.p (.seq false 1 K.1 (iRw K))])⟩),(4,⟨true,1,1,(fun i_1=>[.clo 262 [.pt 1 0 0 0,.pt 4 3 0 0,.pt 1 4 0 0]])⟩),(5,⟨false,1,nb,(fun i_1=>[.p (.int .i64 (x i_1))])⟩)] [.ar 1 5 0 nb,.p (.int .i64 ((↑i:Int)+1)),.pt 1 0 0 0,.pt 4 3 0 0,.pt 1 4 0 0] [(0,⟨true,1,1,(fun i_1=>[.ar 1 1 0 p])⟩),(1,⟨false,1,q,(fun i_1=>[.ar 1 ⟨2,some i_1⟩ 0 nb])⟩),(2,⟨true,0,q,(fun i_1=>[.p (.seq false 1 nb (fun i_2=>[.int .i64 ((cM nb S i_1).2 i_2)]))])⟩),(3,⟨true,4,1,(fun i_1=>[.p (.int .i64 N),.p (.seq false 2 nb (bRw g)),.p (.seq false 2 np (bRw pl)),.p (.seq false 1 K.1 (iRw K))])⟩),(4,⟨true,1,1,(fun i_1=>[.clo 262 [.pt 1 0 0 0,.pt 4 3 0 0,.pt 1 4 0 0]])⟩),(6,⟨false,1,m,(fun i_1=>[.p (.int .i64 (z i_1))])⟩)] (.tup [.ar 1 6 0 m,.p (.bool false)]),(false=false),(ZLo (f+1)),(ZHi (f+1)),(AN 0),(AN nb),(AI ((↑i:Int))),(AI ((f+1))),(AN 1),(NL 1 1),(AN p),(NL q q),(AA q (fun i_1=>[.ar 1 ⟨2,some i_1⟩ 0 nb])),(∀ i_1:Nat,(((i_1:Nat)<q)→All [(AN 1),((nb:Nat)≤nb),(AP nb (fun r=>[.int .i64 ((cM nb S i_1).2 r)]))])),(AN 4),(AI N),(AP nb (bRw g)),(AN np),(AP np (bRw pl)),(AN K.1),(AP K.1 (iRw K)),(NL nb nb),(AA nb (fun i_1=>[.p (.int .i64 (w i_1))]))] [0,1,2,3,4,3,3,5,6,7,8,9,10,11,12,10,10,10,13,14,15,15,10,16,14,17,18,17,19,20,15,15,21,11,22,23,24,25,26,14,15,15,10,10,10,14,27,28]):=by kernel_rfl
theorem fif (g:Nat→T_Bar) (nb:Nat) (N:Int) (pl:Nat→T_Place) (np:Nat) (K:T_IntS) (q p:Nat) (S:Nat→Nat→Int) (i:Nat) (w:Nat→Int) (f:Int) :
    zP Tryz.f262 6 [rg 2,.dec false,rg 3] zf98 (Fs0 g nb N pl np K q p S i w f) [0,1,2,3,4,99999,70] 1 (fsH g nb N pl np K q p S 6 0 (fun _=>0)) (.tup [.ar 1 6 0 0,.p (.bool false)]) =
    some (zD [((decide (f≤2))=false),(AN 0),(false=false),(AN 1),(NL 1 1),(AN p),(NL q q),(AA q (fun i_1=>[.ar 1 ⟨2,some i_1⟩ 0 nb])),(∀ i_1:Nat,(((i_1:Nat)<q)→All [(AN 1),((nb:Nat)≤nb),(AP nb (fun r=>[.int .i64 ((cM nb S i_1).2 r)]))])),(AN 4),(AI N),(AN nb),(AP nb (bRw g)),(AN np),(AP np (bRw pl)),(AN K.1),(AP K.1 (iRw K)),(NL 0 0),(AA 0 (fun i_1=>[.p (.int .i64 0)])),(AE 1),(AE q),(∀ i_1:Nat,(((i_1:Nat)<q)→All [(false=false),(AE nb)])),(∀ i_1:Nat,(((i_1:Nat)<1)→All [(false=false),(AE nb),(false=false),(AE np),(false=false),(AE K.1)])),(AE 0)] [0,1,1,2,3,4,4,1,5,3,6,7,6,8,9,4,4,10,11,12,13,14,15,16,3,4,4,1,1,1,3,17,18,19,20,21,22,19,23]):=by kernel_rfl
noncomputable abbrev ficE:List Item:=[.code (cAt (bodyOf Tryz.f262) [1,1,0,1,0,0,1,0,0,1,1,0]),.code (cAt (bodyOf Tryz.f262) [1,1,0,1,0,0,1,0,0,1,1,1]),.inBlock 1,.code (cAt (bodyOf Tryz.f262) [1,1,0,1,0,0,1,1]),.inLoop (cAt (bodyOf Tryz.f262) [1,1,0,1,0,0]),.inBlock 0,.code (cAt (bodyOf Tryz.f262) [1,1,1])]
noncomputable def fmL (g:Nat→T_Bar) (nb N:Nat) (pl:Nat→T_Place) (np:Nat) (W:Nat→Nat→Int):Nat→Nat→T_IntS×Bool
  | 0,_=>((0,fun _=>0),false)
  | d+1,i=>if tmB g nb N pl np (2*N,W i)=true then fmL g nb N pl np W d (i+1) else ((2*N,W i),true)
noncomputable def fmF (g:Nat→T_Bar) (nb N:Nat) (pl:Nat→T_Place) (np:Nat):T_IntS×Bool:=fmL g nb N pl np (moF g nb N pl).2 (moF g nb N pl).1 0
theorem moF_le (g:Nat→T_Bar) (nb N:Nat) (pl:Nat→T_Place):(moF g nb N pl).1≤2*N:=Had.nsl_le _ _ _
theorem con_FindMotion {g:Nat→T_Bar} {nb N:Nat} {pl:Nat→T_Place} {np:Nat} (hf:fwB g nb N pl np=true) :
    zE 135 [frA g nb N pl np] [(0,iOb (fmF g nb N pl np).1.1 (fmF g nb N pl np).1.2)] (.tup [.ar 1 0 0 (fmF g nb N pl np).1.1,.p (.bool (fmF g nb N pl np).2)]) ∧
    zE 125 [frA g nb N pl np] [(0,iOb (fmF g nb N pl np).1.1 (fmF g nb N pl np).1.2)] (.tup [.ar 1 0 0 (fmF g nb N pl np).1.1,.p (.bool (fmF g nb N pl np).2)]):=by
  obtain ⟨h1,h2,h3,h4,hok,hb⟩:=fw_ok hf
  obtain ⟨m1,m2⟩:=con_Motions hf
  have hq:=moF_le g nb N pl
  have ti:=fun (W:Nat→Nat→Int) i=>con_Trivial_i g nb N pl np (2*N,W i) (by omega) (by show 2*N≤_;omega)
  have ts:=fun (W:Nat→Nat→Int) i=>con_Trivial12 g nb N pl np (2*N,W i) (by omega) (by show 2*N≤_;omega)
  unfold fmF
  generalize (moF g nb N pl).1=q at *
  generalize (moF g nb N pl).2=W at *
  generalize hR:fmL g nb N pl np W q 0=R
  constructor
  · refine csZ Tryz.func135 (fun c hc=>?_)
    have lo:∀ d i,i+d=q→fmL g nb N pl np W d i=R→zR c 135 zf124 (FmI g nb N pl np q W i) (Post c [(0,iOb R.1.1 R.1.2)] (.tup [.ar 1 0 0 R.1.1,.p (.bool R.2)])):=by
      intro d
      induction d with
      | zero =>
        intro i hi hr
        obtain rfl:i=q:=by omega
        have hd:decide ((i:Int)<(i:Int))=false:=decide_eq_false (by omega)
        rw [← hr]
        refine pkZ Tryz.func135 hc (fme g nb N pl np i W i (fun _=>0)) ?_
        and_intros
        iterate 2 all_goals (first | exact zN | (exact hd) | (intro t ht;exact absurd ht (Nat.not_lt_zero _)) | (intro t ht;simp [All];done) | simp only [All])
      | succ d ih =>
        intro i hi hr
        have hd:decide ((i:Int)<(q:Int))=true:=decide_eq_true (by omega)
        have ct:=ti W i
        rw [fmL] at hr
        cases hb:tmB g nb N pl np (2*N,W i) with
        | true =>
          rw [hb] at ct
          rw [if_pos hb] at hr
          refine pcZ hc (fmt g nb N pl np q W i) ?_ (ih (i+1) (by omega) hr)
          and_intros
          iterate 2 all_goals (first | exact zN | (exact hd) | (exact ct) | (intro t ht;simp [All];done) | simp only [All])
        | false =>
          rw [hb] at ct
          rw [if_neg (by rw [hb];exact Bool.false_ne_true)] at hr
          rw [← hr]
          refine pkZ Tryz.func135 hc (fmf g nb N pl np q W i (W i)) ?_
          and_intros
          iterate 2 all_goals (first | exact zN | (exact hd) | (exact ct) | (intro t ht;simp [All,cM];done) | (intro t ht;simp [All];done) | simp only [All])
    refine pcZ hc (fmz g nb N pl np q W) ?_ (lo q 0 (by omega) hR)
    and_intros
    iterate 2 all_goals (first | exact zN | (exact m1) | (intro t ht;simp [All];done) | simp only [All])
  · refine csZ Tryz.func125 (fun c hc=>?_)
    have lo:∀ d i,i+d=q→fmL g nb N pl np W d i=R→zR c 125 zf90 (FmS g nb N pl np q W i) (Post c [(0,iOb R.1.1 R.1.2)] (.tup [.ar 1 0 0 R.1.1,.p (.bool R.2)])):=by
      intro d
      induction d with
      | zero =>
        intro i hi hr
        obtain rfl:i=q:=by omega
        have hd:decide ((i:Int)<(i:Int))=false:=decide_eq_false (by omega)
        rw [← hr]
        refine pkZ Tryz.func125 hc (fne g nb N pl np i W i (fun _=>0)) ?_
        and_intros
        iterate 2 all_goals (first | exact zN | (exact hd) | (intro t ht;exact absurd ht (Nat.not_lt_zero _)) | (intro t ht;simp [All];done) | simp only [All])
      | succ d ih =>
        intro i hi hr
        have hd:decide ((i:Int)<(q:Int))=true:=decide_eq_true (by omega)
        have ct:=ts W i
        rw [fmL] at hr
        cases hb:tmB g nb N pl np (2*N,W i) with
        | true =>
          rw [hb] at ct
          rw [if_pos hb] at hr
          refine pcZ hc (fnt g nb N pl np q W i) ?_ (ih (i+1) (by omega) hr)
          and_intros
          iterate 2 all_goals (first | exact zN | (exact hd) | (exact ct) | (intro t ht;simp [All];done) | simp only [All])
        | false =>
          rw [hb] at ct
          rw [if_neg (by rw [hb];exact Bool.false_ne_true)] at hr
          rw [← hr]
          refine pkD Tryz.func125 hc (fnf g nb N pl np q W i (W i)) ?_
          and_intros
          iterate 2 all_goals (first | exact zN | (exact hd) | (exact ct) | (intro t ht;simp [All,cM];done) | (intro t ht;simp [All];done) | simp only [All])
    refine pcZ hc (fnz g nb N pl np q W) ?_ (lo q 0 (by omega) hR)
    and_intros
    iterate 2 all_goals (first | exact zN | (exact m2) | (intro t ht;simp [All];done) | simp only [All])
def z2:Ob:=⟨true,2,1,fun _=>[.p (.int .i64 0),.p .nil]⟩
def gbx (n:Int) (j c:Nat):Ob:=⟨true,2,1,fun _=>[.p (.int .i64 n),.ar 2 j 0 c]⟩
def gaI (n:Int) (c:Nat) (h:Nat→T_Bar):AV:=.agg [.p (.int .i64 n),brL h c]
def SOb (n:Int) (M:Nat) (A:Nat→T_Bar) (S:T_IntS) (i c:Nat) (h:Nat→T_Bar):St :=
  ⟨[gaI n M A,inL S,.pt 2 0 0 0,.p .any,.pt 2 1 0 0,.pt 2 2 0 0]++List.replicate 6 anyA++[brL A M,.p (.int .i64 M),.p (.int .i64 i)]++List.replicate 15 anyA,[(0,⟨true,2,1,fun _=>[.p (.int .i64 n),brL A M]⟩),(1,z2),(2,gbx n 3 c),(3,brOb c h)],4⟩
theorem eOz (n:Int) (M:Nat) (A:Nat→T_Bar) (S:T_IntS) :
    zT Tryz.f65 [rg 2,rg 5,rg 4,.head] [gaI n M A,inL S] [0,32,160] (SOb n M A S 0 0 (fun _=>(0,0,()))) =
    some (zf108,zD [(NT 0 1),((true=true)→ (AN 1)),(AI n),(AN M),(AP M (bRw A)),(AN S.1),(AP S.1 (iRw S)),(AN 0),(AI ((↑M:Int))),((0:Int)=(↑0:Int)),((([AV.p (PV.int IntKind.i64 n),brL A M].length):Nat)=2),(NL 1 1),((((List.map (fun v=>AV.p (absV v)) [Value.int IntKind.i64 0,Value.slice none 0 0]).length):Nat)=2),(AI 0)] [0,0,1,0,2,3,4,5,6,7,7,7,3,4,8,9,10,11,11,2,3,4,12,11,11,13,12,11,11,2,7,7]):=by kernel_rfl
theorem eOt (n:Int) (M:Nat) (A:Nat→T_Bar) (S:T_IntS) (i c:Nat) (h:Nat→T_Bar) :
    zM 0 [rg 1,.dec true,rg 6,rm [(2,oc [] (.p (.bool true)))] 0,.dec true,rg 7,rg 2,.head] zf108 (SOb n M A S i c h) [0,1,2,452] 1 (SOb n M A S (i+1) (c+1) (snoc c h (A i))) =
    some (zf108,zD [((decide ((↑i:Int)<(↑M:Int)))=true),(IL 0 (↑i:Int)),(IT (↑i:Int) (↑M:Int)),(NT 0 1),((true=true)→ (AN 1)),zE 184 [.p (.seq true 1 S.1 (iRw S)),.p (.int .i64 (↑i:Int))] [] (.p (.bool true)),(true=true),(NL 1 1),(NL c c),(NL ((c+1)*16) 140737488355328),(NL (c+1) 9223372036854775807),(ZLo ((↑i:Int)+1)),(ZHi ((↑i:Int)+1)),(AI n),(AN M),(AP M (bRw A)),(AN S.1),(AP S.1 (iRw S)),(AN 0),(AI ((↑M:Int))),((((↑i:Int)+1):Int)=(↑(i+1):Int)),(AN 2),(AI 0),(AN ((c+1))),(NL (c+1) (c+1)),(CV [(2,⟨true,2,1,(fun i_2=>[.p (.int .i64 n),.ar 2 452 0 (c+1)])⟩),(452,⟨false,2,(c+1),(fun i_2=>(if (i_2<c) then [.p (.int .i64 ((h i_2).1)),.p (.int .i64 ((h i_2).2.1))] else [.p (.int .i64 ((A i).1)),.p (.int .i64 ((A i).2.1))]))⟩),(420,⟨false,2,1,(fun i_2=>[.p (.int .i64 ((A i).1)),.p (.int .i64 ((A i).2.1))])⟩),(132,⟨true,2,1,(fun i_2=>[.p (.int .i64 ((A i).1)),.p (.int .i64 ((A i).2.1))])⟩),(0,⟨true,2,1,(fun i_2=>[.p (.int .i64 n),.p (.seq true 2 M (bRw A))])⟩),(1,⟨true,2,1,(fun i_2=>[.p (.int .i64 0),.p (.nil)])⟩)] [0,1,2,452] 1 (c+1) (fun i_1=>if (i_1<c) then [.p (.int .i64 ((h i_1).1)),.p (.int .i64 ((h i_1).2.1))] else [.p (.int .i64 ((A i).1)),.p (.int .i64 ((A i).2.1))]) (fun i_1=>[.p (.int .i64 (if i_1<c then (h i_1).1 else (A i).1)),.p (.int .i64 (if i_1<c then (h i_1).2.1 else (A i).2.1))]))] [0,1,2,3,4,5,6,3,3,7,8,9,10,3,4,11,12,13,14,15,16,17,18,18,18,14,15,19,20,21,7,7,13,14,15,21,7,7,22,21,7,7,13,18,23,21,24,25]):=by kernel_rfl
theorem eOf (n:Int) (M:Nat) (A:Nat→T_Bar) (S:T_IntS) (i c:Nat) (h:Nat→T_Bar) :
    zM 0 [rg 1,.dec true,rg 6,rm [(2,oc [] (.p (.bool false)))] 0,.dec false,rg 2,.head] zf108 (SOb n M A S i c h) [0,1,2,3] 1 (SOb n M A S (i+1) c h) =
    some (zf108,zD [((decide ((↑i:Int)<(↑M:Int)))=true),(IL 0 (↑i:Int)),(IT (↑i:Int) (↑M:Int)),(NT 0 1),((true=true)→ (AN 1)),zE 184 [.p (.seq true 1 S.1 (iRw S)),.p (.int .i64 (↑i:Int))] [] (.p (.bool false)),(false=false),(ZLo ((↑i:Int)+1)),(ZHi ((↑i:Int)+1)),(AI n),(AN M),(AP M (bRw A)),(AN S.1),(AP S.1 (iRw S)),(AN 0),(AI ((↑M:Int))),((((↑i:Int)+1):Int)=(↑(i+1):Int)),(AN 2),(NL 1 1),(AI 0),(AN c),(NL c c),(AA c (fun i_1=>[.p (.int .i64 ((h i_1).1)),.p (.int .i64 ((h i_1).2.1))]))] [0,1,2,3,4,5,6,7,8,9,10,11,12,13,14,14,14,10,11,15,16,17,18,18,9,10,11,17,18,18,19,17,18,18,9,14,20,17,21,22]):=by kernel_rfl
theorem eOe (n:Int) (M:Nat) (A:Nat→T_Bar) (S:T_IntS) (i c:Nat) (h:Nat→T_Bar) :
    zP Tryz.f65 0 [rg 1,.dec false,rg 2] zf108 (SOb n M A S i c h) [3] 1 [(0,brOb c h)] (.agg [.p (.int .i64 n),.ar 2 0 0 c]) =
    some [((decide ((↑i:Int)<(↑M:Int)))=false),(NT 0 1),(NT 0 1),((true=true)→ (AN 1)),(NT 0 1),(AI n),(AN 0),(AN c),(AN 2),(NL c c),(AA c (fun i_1=>[.p (.int .i64 ((h i_1).1)),.p (.int .i64 ((h i_1).2.1))])),(AE c)]:=by kernel_rfl
def zB:T_BarS:=(0,fun _=>(0,0,()))
def obF (S:T_IntS) (A:Nat→T_Bar):Nat→Nat→T_BarS→T_BarS
  | _,0,x=>x
  | i,d+1,x=>obF S A (i+1) d (bif hasI S.2 i S.1 then (x.1+1,snoc x.1 x.2 (A i)) else x)
theorem con_OnlyBars (n:Int) (M:Nat) (A:Nat→T_Bar) (S:T_IntS) (hM:M≤100) (hS:S.1≤1000) :
    zE 65 [gaI n M A,inL S] [(0,brOb (obF S A 0 M zB).1 (obF S A 0 M zB).2)] (.agg [.p (.int .i64 n),.ar 2 0 0 (obF S A 0 M zB).1]):=by
  refine csZ Tryz.func65 (fun c hc=>?_)
  generalize hR:obF S A 0 M zB=R
  have lp:∀ d i cc f,i+d=M→cc≤i→obF S A i d (cc,f)=R→zR c 65 zf108 (SOb n M A S i cc f) (Post c [(0,brOb R.1 R.2)] (.agg [.p (.int .i64 n),.ar 2 0 0 R.1])):=by
    intro d
    induction d with
    | zero =>
      intro i cc f hi hcc he
      have hd:decide ((i:Int)<(M:Int))=false:=by simp;omega
      rw [← he]
      refine pkZ Tryz.func65 hc (eOe n M A S i cc f) ?_
      and_intros
      all_goals (first | exact zI | (exact hd) | (intro j hj;simp [All]))
    | succ d ih =>
      intro i cc f hi hcc he
      have hd:decide ((i:Int)<(M:Int))=true:=by simp;omega
      have hh:=con_Contains S (i:Int) (by omega)
      rw [obF] at he
      cases hb:hasI S.2 i S.1 with
      | true =>
        rw [hb] at he hh
        refine pcD hc (eOt n M A S i cc f) ?_ (ih (i+1) (cc+1) _ (by omega) (by omega) he)
        and_intros
        all_goals (first | exact zI | (exact hd) | (exact hh) | (intro j hj;by_cases h':j<cc<;>simp [h',snoc,cvtL,cvt,tg,tru,All]))
      | false =>
        rw [hb] at he hh
        refine pcD hc (eOf n M A S i cc f) ?_ (ih (i+1) cc _ (by omega) (by omega) he)
        and_intros
        all_goals (first | exact zI | (exact hd) | (exact hh) | (intro j hj;simp [All]))
  refine pcD hc (eOz n M A S) ?_ (lp M 0 0 _ (by omega) (by omega) hR)
  and_intros
  all_goals (first | exact zI | (simp;done) | (intro j hj;simp [All]))
open Go Go.Sort
theorem bCi (v:T_Graph) :
    zS Tryz.f63 [rg 2,rg 8] [graphA v] [224] [(0,brOb v.2.1.1 v.2.1.2)] (.agg [.p (.int .i64 v.1),.ar 2 0 0 v.2.1.1]) =
    some [(NT 0 1),(NT 0 1),(NL 0 0),(NL ((0+v.2.1.1)*16) 140737488355328),(NL (0+v.2.1.1) 9223372036854775807),(NT 0 1),((true=true)→ (AN 1)),(NT 0 1),(AI v.1),(AN 0),(((0+v.2.1.1):Nat)=v.2.1.1),(AN 2),(NL v.2.1.1 (0+v.2.1.1)),(AA v.2.1.1 (fun i=>[.p (.int .i64 ((v.2.1.2 i).1)),.p (.int .i64 ((v.2.1.2 i).2.1))])),(AE v.2.1.1)]:=by kernel_rfl
theorem bCs (v:T_Graph) :
    zS Tryz.f52 [rg 2,rg 8] [graphA v] [224] [(0,brOb v.2.1.1 v.2.1.2)] (.agg [.p (.int .i64 v.1),.ar 2 0 0 v.2.1.1]) =
    some [(NT 0 1),(NT 0 1),(NL 0 0),(NL ((0+v.2.1.1)*16) 140737488355328),(NL (0+v.2.1.1) 9223372036854775807),(NT 0 1),((true=true)→ (AN 1)),(NT 0 1),(AI v.1),(AN 0),(((0+v.2.1.1):Nat)=v.2.1.1),(AN 2),(NL v.2.1.1 (0+v.2.1.1)),(AA v.2.1.1 (fun i=>[.p (.int .i64 ((v.2.1.2 i).1)),.p (.int .i64 ((v.2.1.2 i).2.1))])),(AE v.2.1.1)]:=by kernel_rfl
theorem con_copyGraph (v:T_Graph) (hn:v.2.1.1≤1048576):zE 63 [graphA v] [(0,brOb v.2.1.1 v.2.1.2)] (.agg [.p (.int .i64 v.1),.ar 2 0 0 v.2.1.1]):=by
  refine csZ Tryz.func63 (fun c hc=>?_)
  refine pkZ Tryz.func63 hc (bCi v) ?_
  and_intros
  all_goals (first | exact zI | (intro j hj;simp [All];done) | (simp;try omega))
theorem con_l2Copy (v:T_Graph) (hn:v.2.1.1≤1048576):zE 52 [graphA v] [(0,brOb v.2.1.1 v.2.1.2)] (.agg [.p (.int .i64 v.1),.ar 2 0 0 v.2.1.1]):=by
  refine csZ Tryz.func52 (fun c hc=>?_)
  refine pkZ Tryz.func52 hc (bCs v) ?_
  and_intros
  all_goals (first | exact zI | (intro j hj;simp [All];done) | (simp;try omega))
def dlB (h:Nat→T_Bar) (e i:Nat):T_Bar:=if i<e then h i else h (i+1)
theorem gRs (g:Nat→T_Bar) (nb N e:Nat) :
    zS Tryz.f259 [rg 3,rm [(1,oc [] (.p (.bool true)))] 12,.dec false,rg 17] [grG g nb N,.p (.int .i64 e)] [960] [(0,brOb (nb - 1) (dlB g e))] (.tup [.agg [.p (.int .i64 N),.ar 2 0 0 (nb - 1)],.p (.bool true)]) =
    some (zD [(NT 0 1),zE 53 [(zf137 N nb g)] [] (.p (.bool true)),(AG (!!true)),(((!true)=false)→ ((!!true)=true)),(AG (!bif !true then true else decide ((↑e:Int)<0))),(((!bif !true then true else decide ((↑e:Int)<0))=true)→(NT 0 1)),(((bif !true then true else decide ((↑e:Int)<0))=false)→ ((!bif !true then true else decide ((↑e:Int)<0))=true)),((bif bif !true then true else decide ((↑e:Int)<0) then true else decide ((↑e:Int)≥(↑nb:Int)))=false),(IL 0 0),(IL 0 (↑e:Int)),(IL (↑e:Int) (↑nb:Int)),(NL 0 0),(NL ((0+e)*16) 140737488355328),(NL (0+e) 9223372036854775807),(ZLo ((↑e:Int)+1)),(ZHi ((↑e:Int)+1)),(IL 0 ((↑e:Int)+1)),(IL ((↑e:Int)+1) (↑nb:Int)),(IL (↑nb:Int) (↑nb:Int)),(NL (0+e) (0+e)),(NL ((0+e+(nb - (e+1)))*16) 140737488355328),(NL (0+e+(nb - (e+1))) 9223372036854775807),((true=true)→ (AN 1)),(AI ((↑N:Int))),(AN 0),(((0+e+(nb - (e+1))):Nat)=(nb - 1)),(true=true),(AN 2),(NL (nb - 1) (0+e+(nb - (e+1)))),(∀ i:Nat,(((i:Nat)<(nb - 1))→(All (cvtL false [(32,⟨true,2,1,(fun i_1=>[.p (.int .i64 (↑N:Int)),.ar 2 960 0 (0+e+(nb - (e+1)))])⟩),(960,⟨false,2,(0+e+(nb - (e+1))),(fun i_1=>(if (i_1<0+e) then [.p (.int .i64 ((g i_1).1)),.p (.int .i64 ((g i_1).2.1))] else [.p (.int .i64 ((g (i_1 - (0+e)+(e+1))).1)),.p (.int .i64 ((g (i_1 - (0+e)+(e+1))).2.1))]))⟩),(0,⟨true,2,1,(fun i_1=>[.p (.int .i64 (↑N:Int)),.p (.seq true 2 nb (bRw g))])⟩)] [960] 1 (if (i<0+e) then [.p (.int .i64 ((g i).1)),.p (.int .i64 ((g i).2.1))] else [.p (.int .i64 ((g (i - (0+e)+(e+1))).1)),.p (.int .i64 ((g (i - (0+e)+(e+1))).2.1))])).2∧(((cvtL false [(32,⟨true,2,1,(fun i_1=>[.p (.int .i64 (↑N:Int)),.ar 2 960 0 (0+e+(nb - (e+1)))])⟩),(960,⟨false,2,(0+e+(nb - (e+1))),(fun i_1=>(if (i_1<0+e) then [.p (.int .i64 ((g i_1).1)),.p (.int .i64 ((g i_1).2.1))] else [.p (.int .i64 ((g (i_1 - (0+e)+(e+1))).1)),.p (.int .i64 ((g (i_1 - (0+e)+(e+1))).2.1))]))⟩),(0,⟨true,2,1,(fun i_1=>[.p (.int .i64 (↑N:Int)),.p (.seq true 2 nb (bRw g))])⟩)] [960] 1 (if (i<0+e) then [.p (.int .i64 ((g i).1)),.p (.int .i64 ((g i).2.1))] else [.p (.int .i64 ((g (i - (0+e)+(e+1))).1)),.p (.int .i64 ((g (i - (0+e)+(e+1))).2.1))])).1:List AV)=[.p (.int .i64 ((dlB g e i).1)),.p (.int .i64 ((dlB g e i).2.1))])))),(AE ((nb - 1)))] [0,1,2,3,4,5,4,4,4,6,7,0,0,8,9,10,11,12,13,0,14,15,16,17,18,19,20,21,0,22,0,23,24,25,26,27,28,29,30]):=by kernel_rfl
theorem con_gRemove_s {N nb:Nat} {g:Nat→T_Bar} (hg:isGraphF ((N:Int),(nb,g),())=true) (e:Nat) (he:e<nb) :
    zE 259 [grG g nb N,.p (.int .i64 e)] [(0,brOb (nb - 1) (dlB g e))] (.tup [.agg [.p (.int .i64 N),.ar 2 0 0 (nb - 1)],.p (.bool true)]):=by
  obtain ⟨h1,h2,h3⟩:=graph_in hg
  have c1:=con_IsGraph_s ((N:Int),(nb,g),()) (sm_graph (by show nb≤_;omega))
  rw [hg] at c1
  have hd:(bif bif !true then true else decide ((e:Int)<0) then true else decide ((e:Int)≥(nb:Int)))=false:=by
    rw [decide_eq_false (show ¬ ((e:Int)<0) by omega),decide_eq_false (show ¬ ((e:Int)≥(nb:Int)) by omega)];rfl
  refine csZ Tryz.func259 (fun c hc=>?_)
  refine pkD Tryz.func259 hc (gRs g nb N e) ?_
  and_intros
  all_goals (first | exact zH | (exact c1) | (exact hd) | (intro t ht;rcases Nat.lt_or_ge t e with h1 | h1;(simp [h1,dlB,cvtL,cvt,tg,tru,All]);((try dsimp only);rw [if_neg (show ¬ t<0+e by omega),show t - (0+e)+(e+1)=t+1 by omega];simp [show ¬ t<e by omega,dlB,cvtL,cvt,tg,tru,All])))
def ngM (V:Nat→Nat→Int) (i k:Nat):Nat→Nat→Int:=fun a s=>if a<i then -(V a s) else if a=i then (if s<k then -(V a s) else V a s) else V a s
def ngA (V:Nat→Nat→Int) (i:Nat):Nat→Nat→Int:=fun a s=>if a<i then -(V a s) else V a s
def ffTb (m:Nat) (C:Nat→T_IntS):Ob:=⟨true,0,m,fun i=>[.p (.seq true 1 (C i).1 (fun s=>[.int .i64 ((C i).2 s)]))]⟩
def loH (n q:Nat) (V:Nat→Nat→Int):Hp:=[(0,ooOb 1 q (cM n V)),(1,ffTb q (cM n V))]
def Ll0 (g:Nat→T_Bar) (nb:Nat) (N:Int) (pl:Nat→T_Place) (np:Nat) (K:T_IntS) (n q:Nat) (V:Nat→Nat→Int) (i:Nat):St :=
  ⟨[.p .any,.ar 1 0 0 q,.pt 4 2 0 0,.p .any,.p .any,.p .any,.p (.int .i64 i)]++List.replicate 44 anyA,[(0,ooOb 1 q (cM n V)),(1,ffOb q (cM n V)),(2,tsO g nb N pl np K)],3⟩
def Ll1 (g:Nat→T_Bar) (nb:Nat) (N:Int) (pl:Nat→T_Place) (np:Nat) (K:T_IntS) (n q:Nat) (V:Nat→Nat→Int) (i k:Nat):St :=
  ⟨[.p .any,.ar 1 0 0 q,.pt 4 2 0 0,.p .any,.p .any,.p .any,.p (.int .i64 i),.ar 1 3 0 k,.p (.int .i64 k)]++List.replicate 42 anyA,[(0,ooOb 1 q (cM n V)),(1,ffOb q (cM n V)),(2,tsO g nb N pl np K),(3,iOb k (fun s=>-(V i s)))],4⟩
def Lt0c (g:Nat→T_Bar) (nb:Nat) (N:Int) (pl:Nat→T_Place) (np:Nat) (K:T_IntS) (n q:Nat) (V:Nat→Nat→Int) (i:Nat):St :=
  ⟨[.p .any,.pt 4 0 0 0]++List.replicate 17 anyA++[.ar 1 1 0 q,.p (.int .i64 q),.p (.int .i64 i)]++List.replicate 27 anyA,[(0,tsF g nb N pl np K),(1,ooOb 2 q (cM n (ngA V i))),(2,ffOb q (cM n (ngA V i)))],3⟩
def Lt1c (g:Nat→T_Bar) (nb:Nat) (N:Int) (pl:Nat→T_Place) (np:Nat) (K:T_IntS) (n q:Nat) (V:Nat→Nat→Int) (i k:Nat):St :=
  ⟨[.p .any,.pt 4 0 0 0,.p .any,.p .any,.p .any,.p .any,.p .any,.ar 1 ⟨2,some i⟩ 0 n]++List.replicate 11 anyA++[.ar 1 1 0 q,.p (.int .i64 q),.p (.int .i64 i)]++List.replicate 8 anyA++[.p (.int .i64 n),.p (.int .i64 k)]++List.replicate 17 anyA,
   [(0,tsF g nb N pl np K),(1,ooOb 2 q (cM n (ngM V i k))),(2,ffOb q (cM n (ngM V i k)))],3⟩
def Lt2c (g:Nat→T_Bar) (nb:Nat) (N:Int) (pl:Nat→T_Place) (np:Nat) (K:T_IntS) (n q:Nat) (V:Nat→Nat→Int) (i:Nat):St :=
  ⟨[.p .any,.pt 4 0 0 0,.p .any,.p .any,.p .any,.p .any,.p .any,.ar 1 ⟨2,some i⟩ 0 n]++List.replicate 11 anyA++[.ar 1 1 0 q,.p (.int .i64 q),.p (.int .i64 i)]++List.replicate 27 anyA,
   [(0,tsF g nb N pl np K),(1,ooOb 2 q (cM n (ngA V (i+1)))),(2,ffOb q (cM n (ngA V (i+1))))],3⟩
def kbF (K:T_IntS) (i:Nat):Bool:=K.2 i==0
def noF (i j:Nat):Bool:=!((j:Int)==(i:Int))
def Fm0 (g:Nat→T_Bar) (nb:Nat) (N:Int) (pl:Nat→T_Place) (np:Nat) (K:T_IntS) (B:T_IntS) (i:Nat):St :=
  ⟨[.p .any,.pt 4 0 0 0,.p .any,.p .any,.p .any,.p .any,.p (.int .i64 K.1),.clo 263 [.pt 4 0 0 0],.ar 1 1 0 B.1]++List.replicate 24 anyA++[inL K,.p (.int .i64 K.1),.p (.int .i64 i)]++List.replicate 37 anyA,[(0,tsO g nb N pl np K),(1,iOb B.1 B.2)],2⟩
def Fm1 (g:Nat→T_Bar) (nb:Nat) (N:Int) (pl:Nat→T_Place) (np:Nat) (K:T_IntS) (B:T_IntS) (i:Nat) (R:T_IntS) (j:Nat):St :=
  ⟨[.p .any,.pt 4 0 0 0,.p .any,.p .any,.p .any,.p .any,.p (.int .i64 K.1),.clo 263 [.pt 4 0 0 0],.ar 1 1 0 B.1,.p (.int .i64 i),.p .any,.ar 1 2 0 R.1]++List.replicate 21 anyA++[inL K,.p (.int .i64 K.1),.p (.int .i64 i)]++List.replicate 11 anyA++[.p (.int .i64 K.1),.p (.int .i64 j)]++List.replicate 24 anyA,
   [(0,tsO g nb N pl np K),(1,iOb B.1 B.2),(2,iOb R.1 R.2)],3⟩
def Fn0 (g:Nat→T_Bar) (nb:Nat) (N:Int) (pl:Nat→T_Place) (np:Nat) (K:T_IntS) (B:T_IntS) (i:Nat):St :=
  ⟨[.p .any,.pt 4 0 0 0,.p .any,.p .any,.p .any,.p .any,.ar 1 1 0 B.1,.p (.int .i64 i)]++List.replicate 74 anyA,[(0,tsO g nb N pl np K),(1,iOb B.1 B.2)],2⟩
theorem llz (g:Nat→T_Bar) (nb:Nat) (N:Int) (pl:Nat→T_Place) (np:Nat) (K:T_IntS) (n q:Nat) (V:Nat→Nat→Int) :
    zM 2 [rg 3,rg 1,.head] [.code (bodyOf Tryz.f260)] (start Tryz.f260 (loH n q V) 2 [tsA g nb N pl np K,.ar 1 0 0 q]) [0,1,2] 1 (Ll0 g nb N pl np K n q V 0) =
    some (zf125,[(AN 0),(AN q),(AN 0),((0:Int)=(↑0:Int)),(AN 1),(NL q q),(AA q (fun i=>[.ar 1 ⟨1,some i⟩ 0 n])),(NL q q),(∀ i:Nat,(((i:Nat)<q)→All [(AN 1),((n:Nat)≤n),(AP n (fun r=>[.int .i64 ((cM n V i).2 r)]))])),((([AV.p (PV.int IntKind.i64 N),brL g nb,pcL pl np,inL K].length):Nat)=4),(NL 1 1),(NL 1 1),(AI N),(AN nb),(AP nb (bRw g)),(AN np),(AP np (bRw pl)),(AN K.1),(AP K.1 (iRw K))]):=by kernel_rfl
theorem lly (g:Nat→T_Bar) (nb:Nat) (N:Int) (pl:Nat→T_Place) (np:Nat) (K:T_IntS) (n q:Nat) (V:Nat→Nat→Int) (i:Nat) :
    zP Tryz.f260 2 [rg 4,.dec true,rm [(5,oc [] (.p (.bool true)))] 0,.dec true,rg 6] zf125 (Ll0 g nb N pl np K n q V i) [99998,99999,.pl ⟨1,some i⟩] 1 [(2,iOb n (V i))] (.tup [.ar 1 2 0 n,.p (.bool true)]) =
    some (zD [((decide ((↑i:Int)<(↑q:Int)))=true),(NT 0 1),(IL 0 (↑i:Int)),(IT (↑i:Int) (↑q:Int)),(NT i q),(AN 1),(NL n n),zE 89 [(zf42 N nb g np pl K),.p (.seq true 1 n (fun i_1=>[.int .i64 ((cM n V i).2 i_1)]))] [] (.p (.bool true)),(true=true),(AN i),(AN 0),(AN n),(∀ i_1:Nat,(((i_1:Nat)<n)→(All []∧(([.p (.int .i64 ((cM n V i).2 i_1))]:List AV)=[.p (.int .i64 (V i i_1))])))),(AE n)] [0,1,2,3,4,4,5,6,7,8,2,3,4,9,10,11,8,4,5,6,12,13]):=by kernel_rfl
theorem lla (g:Nat→T_Bar) (nb:Nat) (N:Int) (pl:Nat→T_Place) (np:Nat) (K:T_IntS) (n q:Nat) (V:Nat→Nat→Int) (i:Nat) :
    zM 2 [rg 4,.dec true,rm [(5,oc [] (.p (.bool false)))] 0,.dec false,rg 2,rg 1,.head] zf125 (Ll0 g nb N pl np K n q V i) [0,1,2,323] 1 (Ll1 g nb N pl np K n q V i 0) =
    some (zf22,[((decide ((↑i:Int)<(↑q:Int)))=true),(NT 0 1),(IL 0 (↑i:Int)),(IT (↑i:Int) (↑q:Int)),(NT i q),(NT i q),(AN 1),(NL n n),zE 89 [(zf42 N nb g np pl K),.p (.seq true 1 n (fun i_1=>[.int .i64 ((cM n V i).2 i_1)]))] [] (.p (.bool false)),(false=false),(AN 0),(AN q),(AN 0),(AI ((↑i:Int))),(AN 0),(AN 0),((0:Int)=(↑0:Int)),(AN 1),(NL q q),(AA q (fun i_1=>[.ar 1 ⟨1,some i_1⟩ 0 n])),(NL q q),(∀ i_1:Nat,(((i_1:Nat)<q)→All [(AN 1),((n:Nat)≤n),(AP n (fun r=>[.int .i64 ((cM n V i_1).2 r)]))])),(AN 4),(NL 1 1),(NL 1 1),(AI N),(AN nb),(AP nb (bRw g)),(AN np),(AP np (bRw pl)),(AN K.1),(AP K.1 (iRw K)),(AN 1),(NL 0 0),(∀ i_1:Nat,(((i_1:Nat)<0)→(All []∧(([.p (.int .i64 0)]:List AV)=[.p (.int .i64 (-V i i_1))]))))]):=by kernel_rfl
theorem lle (g:Nat→T_Bar) (nb:Nat) (N:Int) (pl:Nat→T_Place) (np:Nat) (K:T_IntS) (n q:Nat) (V:Nat→Nat→Int) (i:Nat) :
    zP Tryz.f260 2 [rg 4,.dec false,rg 3] zf125 (Ll0 g nb N pl np K n q V i) [99998,99999,131] 1 [(2,iOb 0 (fun _=>0))] (.tup [.ar 1 2 0 0,.p (.bool false)]) =
    some [((decide ((↑i:Int)<(↑q:Int)))=false),(AN 0),(AN 0),(false=false),(AN 1),(NL 0 0),(AA 0 (fun i_1=>[.p (.int .i64 0)])),(AE 0)]:=by kernel_rfl
theorem llb (g:Nat→T_Bar) (nb:Nat) (N:Int) (pl:Nat→T_Place) (np:Nat) (K:T_IntS) (n q:Nat) (V:Nat→Nat→Int) (i k:Nat) :
    zM 2 [rg 7,.dec true,rg 12,rg 3,.head] zf22 (Ll1 g nb N pl np K n q V i k) [0,1,2,548] 1 (Ll1 g nb N pl np K n q V i (k+1)) =
    some (zf22,[(IL 0 (↑i:Int)),(IT (↑i:Int) (↑q:Int)),(NT i q),((decide ((↑k:Int)<(↑(cM n V ((↑i:Int).toNat+0)).1:Int)))=true),(IL 0 (↑i:Int)),(IT (↑i:Int) (↑q:Int)),(NT i q),(IL 0 (↑k:Int)),(IT (↑k:Int) (↑n:Int)),(NT i q),(NT k n),(ZLo (0 - (cM n V i).2 k)),(ZHi (0 - (cM n V i).2 k)),(NL 1 1),(NL k k),(NL ((k+1)*8) 140737488355328),(NL (k+1) 9223372036854775807),(ZLo ((↑k:Int)+1)),(ZHi ((↑k:Int)+1)),(AN 0),(AN q),(AN 0),(AI ((↑i:Int))),(AN 0),(AN ((k+1))),((((↑k:Int)+1):Int)=(↑(k+1):Int)),(AN 1),(NL q q),(AA q (fun i_1=>[.ar 1 ⟨1,some i_1⟩ 0 n])),(NL q q),(∀ i_1:Nat,(((i_1:Nat)<q)→All [(AN 1),((n:Nat)≤n),(AP n (fun r=>[.int .i64 ((cM n V i_1).2 r)]))])),(AN 4),(NL 1 1),(NL 1 1),(AI N),(AN nb),(AP nb (bRw g)),(AN np),(AP np (bRw pl)),(AN K.1),(AP K.1 (iRw K)),(AN 1),(NL (k+1) (k+1)),(CV [(548,⟨false,1,(k+1),(fun i_2=>(if (i_2<k) then [.p (.int .i64 (-V i i_2))] else [.p (.int .i64 (0 - (cM n V i).2 k))]))⟩),(516,⟨false,1,1,(fun i_2=>[.p (.int .i64 (0 - (cM n V i).2 k))])⟩),(0,⟨false,1,q,(fun i_2=>[.ar 1 ⟨1,some i_2⟩ 0 n])⟩),(1,⟨true,0,q,(fun i_2=>[.p (.seq false 1 n (fun i_3=>[.int .i64 ((cM n V i_2).2 i_3)]))])⟩),(2,⟨true,4,1,(fun i_2=>[.p (.int .i64 N),.p (.seq true 2 nb (bRw g)),.p (.seq true 2 np (bRw pl)),.p (.seq true 1 K.1 (iRw K))])⟩)] [0,1,2,548] 1 (k+1) (fun i_1=>if (i_1<k) then [.p (.int .i64 (-V i i_1))] else [.p (.int .i64 (0 - (cM n V i).2 k))]) (fun i_1=>[.p (.int .i64 (-V i i_1))]))]):=by kernel_rfl
theorem llc (g:Nat→T_Bar) (nb:Nat) (N:Int) (pl:Nat→T_Place) (np:Nat) (K:T_IntS) (n q:Nat) (V:Nat→Nat→Int) (i:Nat) :
    zP Tryz.f260 2 [rg 7,.dec false,rm [(2,oc [] (.p (.bool true)))] 0,.dec true,rg 3] zf22 (Ll1 g nb N pl np K n q V i n) [99998,99999,3] 1 [(2,iOb n (fun s=>-(V i s)))] (.tup [.ar 1 2 0 n,.p (.bool true)]) =
    some [(IL 0 (↑i:Int)),(IT (↑i:Int) (↑q:Int)),(NT i q),((decide ((↑n:Int)<(↑(cM n V ((↑i:Int).toNat+0)).1:Int)))=false),(NT 0 1),(AN 1),(NL n n),zE 89 [(zf42 N nb g np pl K),.p (.seq true 1 n (fun i_1=>[.int .i64 (-V i i_1)]))] [] (.p (.bool true)),(true=true),(AN 0),(AN n),(true=true),(AN 1),(NL n n),(AA n (fun i_1=>[.p (.int .i64 (-V i i_1))])),(AE n)]:=by kernel_rfl
theorem lld (g:Nat→T_Bar) (nb:Nat) (N:Int) (pl:Nat→T_Place) (np:Nat) (K:T_IntS) (n q:Nat) (V:Nat→Nat→Int) (i:Nat) :
    zM 2 [rg 7,.dec false,rm [(2,oc [] (.p (.bool false)))] 0,.dec false,rg 3,.head] zf22 (Ll1 g nb N pl np K n q V i n) [0,1,2] 1 (Ll0 g nb N pl np K n q V (i+1)) =
    some (zf125,[(IL 0 (↑i:Int)),(IT (↑i:Int) (↑q:Int)),(NT i q),((decide ((↑n:Int)<(↑(cM n V ((↑i:Int).toNat+0)).1:Int)))=false),(NT 0 1),(AN 1),(NL n n),zE 89 [(zf42 N nb g np pl K),.p (.seq true 1 n (fun i_1=>[.int .i64 (-V i i_1)]))] [] (.p (.bool false)),(false=false),(ZLo ((↑i:Int)+1)),(ZHi ((↑i:Int)+1)),(AN 0),(AN q),(AN 0),((((↑i:Int)+1):Int)=(↑(i+1):Int)),(AN 1),(NL q q),(AA q (fun i_1=>[.ar 1 ⟨1,some i_1⟩ 0 n])),(NL q q),(∀ i_1:Nat,(((i_1:Nat)<q)→All [(AN 1),((n:Nat)≤n),(AP n (fun r=>[.int .i64 ((cM n V i_1).2 r)]))])),(AN 4),(NL 1 1),(NL 1 1),(AI N),(AN nb),(AP nb (bRw g)),(AN np),(AP np (bRw pl)),(AN K.1),(AP K.1 (iRw K))]):=by kernel_rfl
theorem ltz1 (g:Nat→T_Bar) (nb:Nat) (N:Int) (pl:Nat→T_Place) (np:Nat) (K:T_IntS) (S:T_IntS) (h:Nat→T_Bar) (m n q:Nat) (V:Nat→Nat→Int) :
    zM 1 [rg 2,rm [(4,oc [(0,brOb m h)] (.agg [.p (.int .i64 N),.ar 2 0 0 m]))] 6,rm [(1,oc [(0,ooOb 1 q (cM n V)),(1,ffOb q (cM n V))] (.ar 1 0 0 q))] 2,.head] [.code (bodyOf Tryz.f263)] (start Tryz.f263 ([(0,tsF g nb N pl np K)]) 1 [inL S,.pt 4 0 0 0]) [0,449,450] 1 (Lt0c g nb N pl np K n q V 0) =
    some (zf99,[(NT 0 1),zE 65 [(zf141 N nb g),.p (.seq true 1 S.1 (iRw S))] (zf145 m h) (.agg [.p (.int .i64 N),.ar 2 0 0 m]),(NT 0 1),(NT 0 1),((true=true)→ (AN 1)),(NT 0 1),(AN 2),(NL m m),zE 237 [(zf60 N m h np pl)] [(0,⟨false,1,q,(fun i=>[.ar 1 ⟨1,some i⟩ 0 n])⟩),(1,⟨true,0,q,(fun i=>[.p (.seq false 1 n (fun i_1=>[.int .i64 ((cM n V i).2 i_1)]))])⟩)] (.ar 1 0 0 q),(AN 0),(AN 0),(AN q),(AI ((↑q:Int))),((0:Int)=(↑0:Int)),(AN 4),(NL 1 1),(NL 1 1),(AI N),(AN nb),(AP nb (bRw g)),(AN np),(AP np (bRw pl)),(AN K.1),(AP K.1 (iRw K)),(AN 1),(NL q q),(AA q (fun i=>[.ar 1 ⟨2,some i⟩ 0 n])),(NL q q),(∀ i:Nat,(((i:Nat)<q)→All [(AN 1),((n:Nat)≤n),(∀ r:Nat,(((r:Nat)<n)→(([.int .i64 ((cM n V i).2 r)]:List PV)=[.int .i64 ((cM n (ngA V 0) i).2 r)])))]))]):=by kernel_rfl
theorem lty1 (g:Nat→T_Bar) (nb:Nat) (N:Int) (pl:Nat→T_Place) (np:Nat) (K:T_IntS) (n q:Nat) (V:Nat→Nat→Int) (i:Nat) (z:Nat→Int) :
    zP Tryz.f263 1 [rg 1,.dec true,rg 3,rm [(2,oc [] (.p (.bool true)))] 0,.dec true,rg 3] zf99 (Lt0c g nb N pl np K n q V i) [0,.pl ⟨2,some i⟩] 1 [(0,tsF g nb N pl np K),(1,iOb n z)] (.tup [.ar 1 1 0 n,.p (.bool true)]) =
    some [((decide ((↑i:Int)<(↑q:Int)))=true),(IL 0 (↑i:Int)),(IT (↑i:Int) (↑q:Int)),(NT i q),(NT 0 1),(NT i q),(AN 1),(NL n n),zE 99 [(zf42 N nb g np pl K),.p (.seq true 1 n (fun i_1=>[.int .i64 ((cM n (ngA V i) i).2 i_1)]))] [] (.p (.bool true)),(true=true),(AN i),(AN 0),(AN n),(true=true),(AN 4),(NL 1 1),(NL 1 1),(AI N),(AN nb),(AP nb (bRw g)),(AN np),(AP np (bRw pl)),(AN K.1),(AP K.1 (iRw K)),(NT i q),(AN 1),(NL n n),(∀ i_1:Nat,(((i_1:Nat)<n)→(All []∧(([.p (.int .i64 ((cM n (ngA V i) i).2 i_1))]:List AV)=[.p (.int .i64 (z i_1))])))),(∀ i_1:Nat,(((i_1:Nat)<1)→All [(false=false),(AE nb),(false=false),(AE np),(false=false),(AE K.1)])),(AE n)]:=by kernel_rfl
theorem lta1 (g:Nat→T_Bar) (nb:Nat) (N:Int) (pl:Nat→T_Place) (np:Nat) (K:T_IntS) (n q:Nat) (V:Nat→Nat→Int) (i:Nat) :
    zM 1 [rg 1,.dec true,rg 3,rm [(2,oc [] (.p (.bool false)))] 0,.dec false,rg 3,.head] zf99 (Lt0c g nb N pl np K n q V i) [0,1,2] 1 (Lt1c g nb N pl np K n q V i 0) =
    some (zf16,[((decide ((↑i:Int)<(↑q:Int)))=true),(IL 0 (↑i:Int)),(IT (↑i:Int) (↑q:Int)),(NT i q),(NT 0 1),(NT i q),(AN 1),(NL n n),zE 99 [(zf42 N nb g np pl K),.p (.seq true 1 n (fun i_1=>[.int .i64 ((cM n (ngA V i) i).2 i_1)]))] [] (.p (.bool false)),(false=false),(AN 0),(AN i),(AN 0),(AN n),(AN 0),(AN q),(AI ((↑q:Int))),(AI ((↑i:Int))),(AI ((↑n:Int))),((0:Int)=(↑0:Int)),(AN 4),(NL 1 1),(NL 1 1),(AI N),(AN nb),(AP nb (bRw g)),(AN np),(AP np (bRw pl)),(AN K.1),(AP K.1 (iRw K)),(AN 1),(NL q q),(AA q (fun i_1=>[.ar 1 ⟨2,some i_1⟩ 0 n])),(NL q q),(∀ i_1:Nat,(((i_1:Nat)<q)→All [(AN 1),((n:Nat)≤n),(∀ r:Nat,(((r:Nat)<n)→(([.int .i64 ((cM n (ngA V i) i_1).2 r)]:List PV)=[.int .i64 ((cM n (ngM V i 0) i_1).2 r)])))]))]):=by kernel_rfl
theorem lte1 (g:Nat→T_Bar) (nb:Nat) (N:Int) (pl:Nat→T_Place) (np:Nat) (K:T_IntS) (n q:Nat) (V:Nat→Nat→Int) (i:Nat) :
    zP Tryz.f263 1 [rg 1,.dec false,rg 3] zf99 (Lt0c g nb N pl np K n q V i) [0,35] 1 [(0,tsF g nb N pl np K),(1,iOb 0 (fun _=>0))] (.tup [.ar 1 1 0 0,.p (.bool false)]) =
    some [((decide ((↑i:Int)<(↑q:Int)))=false),(AN 0),(AN 0),(false=false),(AN 4),(NL 1 1),(NL 1 1),(AI N),(AN nb),(AP nb (bRw g)),(AN np),(AP np (bRw pl)),(AN K.1),(AP K.1 (iRw K)),(AN 1),(NL 0 0),(AA 0 (fun i_1=>[.p (.int .i64 0)])),(∀ i_1:Nat,(((i_1:Nat)<1)→All [(false=false),(AE nb),(false=false),(AE np),(false=false),(AE K.1)])),(AE 0)]:=by kernel_rfl
theorem ltb1 (g:Nat→T_Bar) (nb:Nat) (N:Int) (pl:Nat→T_Place) (np:Nat) (K:T_IntS) (n q:Nat) (V:Nat→Nat→Int) (i k:Nat) :
    zM 1 [rg 1,.dec true,rg 2,rg 9,rg 2,.head] zf16 (Lt1c g nb N pl np K n q V i k) [0,1,2] 1 (Lt1c g nb N pl np K n q V i (k+1)) =
    some (zf16,[((decide ((↑k:Int)<(↑n:Int)))=true),(IL 0 (↑k:Int)),(IT (↑k:Int) (↑n:Int)),(NT i q),(NT k n),(ZLo (0 - (cM n (ngM V i k) i).2 k)),(ZHi (0 - (cM n (ngM V i k) i).2 k)),(IL 0 (↑k:Int)),(IT (↑k:Int) (↑n:Int)),(NT i q),(NT k n),((false=true)→ ((n:Nat)=1)),(ZLo ((↑k:Int)+1)),(ZHi ((↑k:Int)+1)),(AN 0),(AN i),(AN 0),(AN n),(AN 0),(AN q),(AI ((↑q:Int))),(AI ((↑i:Int))),(AI ((↑n:Int))),((((↑k:Int)+1):Int)=(↑(k+1):Int)),(AN 4),(NL 1 1),(NL 1 1),(AI N),(AN nb),(AP nb (bRw g)),(AN np),(AP np (bRw pl)),(AN K.1),(AP K.1 (iRw K)),(AN 1),(NL q q),(AA q (fun i_1=>[.ar 1 ⟨2,some i_1⟩ 0 n])),(NL q q),(∀ i_1:Nat,(((i_1:Nat)<q)→All (famE (if (i_1=i) then [.p (.seq false 1 n (fun i_2=>[(toP (List.getD ((if (i_2=k) then [.p (.int .i64 (0 - (cM n (ngM V i k) i).2 k))] else [.p (.int .i64 ((cM n (ngM V i k) i).2 i_2))]):List AV) 0 (.p .any)))]))] else [.p (.seq false 1 n (fun i_2=>[.int .i64 ((cM n (ngM V i k) i_1).2 i_2)]))]) [.p (.seq false 1 n (fun i_2=>[.int .i64 ((cM n (ngM V i (k+1)) i_1).2 i_2)]))])))]):=by kernel_rfl
theorem ltc1 (g:Nat→T_Bar) (nb:Nat) (N:Int) (pl:Nat→T_Place) (np:Nat) (K:T_IntS) (n q:Nat) (V:Nat→Nat→Int) (i:Nat) :
    zM 1 [rg 1,.dec false,.head] zf16 (Lt1c g nb N pl np K n q V i n) [0,1,2] 1 (Lt2c g nb N pl np K n q V i) =
    some (zf27,[((decide ((↑n:Int)<(↑n:Int)))=false),(AN 0),(AN i),(AN 0),(AN n),(AN 0),(AN q),(AI ((↑q:Int))),(AI ((↑i:Int))),(AN 4),(NL 1 1),(NL 1 1),(AI N),(AN nb),(AP nb (bRw g)),(AN np),(AP np (bRw pl)),(AN K.1),(AP K.1 (iRw K)),(AN 1),(NL q q),(AA q (fun i_1=>[.ar 1 ⟨2,some i_1⟩ 0 n])),(NL q q),(∀ i_1:Nat,(((i_1:Nat)<q)→All [(AN 1),((n:Nat)≤n),(∀ r:Nat,(((r:Nat)<n)→(([.int .i64 ((cM n (ngM V i n) i_1).2 r)]:List PV)=[.int .i64 ((cM n (ngA V (i+1)) i_1).2 r)])))]))]):=by kernel_rfl
theorem ltd1 (g:Nat→T_Bar) (nb:Nat) (N:Int) (pl:Nat→T_Place) (np:Nat) (K:T_IntS) (n q:Nat) (V:Nat→Nat→Int) (i:Nat) (z:Nat→Int) :
    zP Tryz.f263 1 [rm [(2,oc [] (.p (.bool true)))] 0,.dec true,rg 3] zf27 (Lt2c g nb N pl np K n q V i) [0,.pl ⟨2,some i⟩] 1 [(0,tsF g nb N pl np K),(1,iOb n z)] (.tup [.ar 1 1 0 n,.p (.bool true)]) =
    some [(NT 0 1),(NT i q),(AN 1),(NL n n),zE 99 [(zf42 N nb g np pl K),.p (.seq true 1 n (fun i_1=>[.int .i64 ((cM n (ngA V (i+1)) i).2 i_1)]))] [] (.p (.bool true)),(true=true),(AN i),(AN 0),(AN n),(true=true),(AN 4),(NL 1 1),(NL 1 1),(AI N),(AN nb),(AP nb (bRw g)),(AN np),(AP np (bRw pl)),(AN K.1),(AP K.1 (iRw K)),(NT i q),(AN 1),(NL n n),(∀ i_1:Nat,(((i_1:Nat)<n)→(All []∧(([.p (.int .i64 ((cM n (ngA V (i+1)) i).2 i_1))]:List AV)=[.p (.int .i64 (z i_1))])))),(∀ i_1:Nat,(((i_1:Nat)<1)→All [(false=false),(AE nb),(false=false),(AE np),(false=false),(AE K.1)])),(AE n)]:=by kernel_rfl
theorem ltf1 (g:Nat→T_Bar) (nb:Nat) (N:Int) (pl:Nat→T_Place) (np:Nat) (K:T_IntS) (n q:Nat) (V:Nat→Nat→Int) (i:Nat) :
    zM 1 [rm [(2,oc [] (.p (.bool false)))] 0,.dec false,rg 2,.head] zf27 (Lt2c g nb N pl np K n q V i) [0,1,2] 1 (Lt0c g nb N pl np K n q V (i+1)) =
    some (zf99,[(NT 0 1),(NT i q),(AN 1),(NL n n),zE 99 [(zf42 N nb g np pl K),.p (.seq true 1 n (fun i_1=>[.int .i64 ((cM n (ngA V (i+1)) i).2 i_1)]))] [] (.p (.bool false)),(false=false),(ZLo ((↑i:Int)+1)),(ZHi ((↑i:Int)+1)),(AN 0),(AN 0),(AN q),(AI ((↑q:Int))),((((↑i:Int)+1):Int)=(↑(i+1):Int)),(AN 4),(NL 1 1),(NL 1 1),(AI N),(AN nb),(AP nb (bRw g)),(AN np),(AP np (bRw pl)),(AN K.1),(AP K.1 (iRw K)),(AN 1),(NL q q),(AA q (fun i_1=>[.ar 1 ⟨2,some i_1⟩ 0 n])),(NL q q),(∀ i_1:Nat,(((i_1:Nat)<q)→All [(AN 1),((n:Nat)≤n),(AP n (fun r=>[.int .i64 ((cM n (ngA V (i+1)) i_1).2 r)]))]))]):=by kernel_rfl
theorem fmn (g:Nat→T_Bar) (nb:Nat) (N:Int) (pl:Nat→T_Place) (np:Nat) (K:T_IntS) :
    zS Tryz.f154 [rg 3,rm [(1,oc [] (.p (.bool false)))] 1,.dec true,rg 3] [tsA g nb N pl np K] [192] [(0,iOb 0 (fun _=>0))] (.tup [.ar 1 0 0 0,.p (.bool false)]) =
    some [(NT 0 1),zE 151 [(zf45 N nb g np pl K)] [] (.p (.bool false)),((!false)=true),(AN 0),(AN 0),(false=false),(AN 1),(NL 0 0),(AA 0 (fun i=>[.p (.int .i64 0)])),(AE 0)]:=by kernel_rfl
theorem fmy (g:Nat→T_Bar) (nb:Nat) (N:Int) (pl:Nat→T_Place) (np:Nat) (K:T_IntS) (m:Nat) (z:Nat→Int) :
    zS Tryz.f154 [rg 3,rm [(1,oc [] (.p (.bool true)))] 1,.dec false,rm [(2,oc [(0,iOb m z)] (.tup [.ar 1 0 0 m,.p (.bool true)]))] 5,rg 1,.dec true,rg 3] [tsA g nb N pl np K] [256] [(0,iOb m z)] (.tup [.ar 1 0 0 m,.p (.bool true)]) =
    some [(NT 0 1),zE 151 [(zf45 N nb g np pl K)] [] (.p (.bool true)),((!true)=false),(NT 0 1),zE 135 [(zf60 N nb g np pl)] [(0,⟨false,1,m,(fun i=>[.p (.int .i64 (z i))])⟩)] (.tup [.ar 1 0 0 m,.p (.bool true)]),(true=true),(AN 0),(AN m),(true=true),(AN 1),(NL m m),(AA m (fun i=>[.p (.int .i64 (z i))])),(AE m)]:=by kernel_rfl
theorem fmz2 (g:Nat→T_Bar) (nb:Nat) (N:Int) (pl:Nat→T_Place) (np:Nat) (K:T_IntS) (m:Nat) (z:Nat→Int) :
    zT Tryz.f154 [rg 3,rm [(1,oc [] (.p (.bool true)))] 1,.dec false,rm [(2,oc [(0,iOb m z)] (.tup [.ar 1 0 0 m,.p (.bool false)]))] 5,rg 1,.dec false,rg 4,rg 2,rg 2,rg 4,.head] [tsA g nb N pl np K] [0,672] (Fm0 g nb N pl np K (0,fun _=>0) 0) =
    some (zf55,zD [(NT 0 1),zE 151 [(zf45 N nb g np pl K)] [] (.p (.bool true)),((!true)=false),zE 135 [(zf60 N nb g np pl)] [(0,⟨false,1,m,(fun i=>[.p (.int .i64 (z i))])⟩)] (.tup [.ar 1 0 0 m,.p (.bool false)]),(false=false),(AN 0),(AI ((↑K.1:Int))),(AN K.1),(AP K.1 (iRw K)),((0:Int)=(↑0:Int)),((([AV.p (PV.int IntKind.i64 N),brL g nb,pcL pl np,inL K].length):Nat)=4),(NL 1 1),(AI N),(AN nb),(AP nb (bRw g)),(AN np),(AP np (bRw pl)),(AN 1),(NL 0 0),(∀ i:Nat,(((i:Nat)<0)→(All []∧(([.p (.int .i64 0)]:List AV)=[.p (.int .i64 ((0,fun x=>0).2 i))]))))] [0,1,2,0,3,4,0,0,5,6,5,5,5,7,8,6,9,10,11,11,12,13,14,15,16,7,8,17,18,19]):=by kernel_rfl
theorem fma2 (g:Nat→T_Bar) (nb:Nat) (N:Int) (pl:Nat→T_Place) (np:Nat) (K:T_IntS) (B:T_IntS) (i:Nat) :
    zM 0 [rg 1,.dec true,rg 5,rg 2,.dec true,rg 5,rg 2,.head] zf55 (Fm0 g nb N pl np K B i) [0,354] 1 (Fm0 g nb N pl np K (B.1+1,fun s=>if s<B.1 then B.2 s else (i:Int)) (i+1)) =
    some (zf55,[((decide ((↑i:Int)<(↑K.1:Int)))=true),(IL 0 (↑i:Int)),(IT (↑i:Int) (↑K.1:Int)),((K.2 i==0)=true),(NL 1 1),(NL B.1 B.1),(NL ((B.1+1)*8) 140737488355328),(NL (B.1+1) 9223372036854775807),(ZLo ((↑i:Int)+1)),(ZHi ((↑i:Int)+1)),(AN 0),(AI ((↑K.1:Int))),(AN 0),(AN 0),(AN ((B.1+1))),(AN K.1),(AP K.1 (iRw K)),(AI ((↑K.1:Int))),((((↑i:Int)+1):Int)=(↑(i+1):Int)),(AN 4),(NL 1 1),(NL 1 1),(AI N),(AN nb),(AP nb (bRw g)),(AN np),(AP np (bRw pl)),(AN K.1),(AP K.1 (iRw K)),(AN 1),(NL (B.1+1) (B.1+1)),(CV [(354,⟨false,1,(B.1+1),(fun i_2=>(if (i_2<B.1) then [.p (.int .i64 (B.2 i_2))] else [.p (.int .i64 (↑i:Int))]))⟩),(322,⟨false,1,1,(fun i_2=>[.p (.int .i64 (↑i:Int))])⟩),(0,⟨true,4,1,(fun i_2=>[.p (.int .i64 N),.p (.seq true 2 nb (bRw g)),.p (.seq true 2 np (bRw pl)),.p (.seq true 1 K.1 (iRw K))])⟩)] [0,354] 1 (B.1+1) (fun i_1=>if (i_1<B.1) then [.p (.int .i64 (B.2 i_1))] else [.p (.int .i64 (↑i:Int))]) (fun i_1=>[.p (.int .i64 ((B.1+1,fun s=>if s<B.1 then B.2 s else (↑i:Int)).2 i_1))]))]):=by kernel_rfl
theorem fmb2 (g:Nat→T_Bar) (nb:Nat) (N:Int) (pl:Nat→T_Place) (np:Nat) (K:T_IntS) (B:T_IntS) (i:Nat) :
    zM 0 [rg 1,.dec true,rg 5,rg 2,.dec false,rg 2,rg 2,.head] zf55 (Fm0 g nb N pl np K B i) [0,1,258] 1 (Fm1 g nb N pl np K B i (0,fun _=>0) 0) =
    some (zf9,zD [((decide ((↑i:Int)<(↑K.1:Int)))=true),(IL 0 (↑i:Int)),(IT (↑i:Int) (↑K.1:Int)),((K.2 i==0)=false),(AN 0),(AI ((↑K.1:Int))),(AN B.1),(AI ((↑i:Int))),(AN K.1),(AP K.1 (iRw K)),((0:Int)=(↑0:Int)),(AN 4),(NL 1 1),(AI N),(AN nb),(AP nb (bRw g)),(AN np),(AP np (bRw pl)),(AN 1),(NL B.1 B.1),(AA B.1 (fun i_1=>[.p (.int .i64 (B.2 i_1))])),(NL 0 0),(∀ i_1:Nat,(((i_1:Nat)<0)→(All []∧(([.p (.int .i64 0)]:List AV)=[.p (.int .i64 ((0,fun x=>0).2 i_1))]))))] [0,1,2,3,4,5,4,4,6,7,4,4,8,9,5,7,5,10,11,12,12,13,14,15,16,17,8,9,18,19,20,18,21,22]):=by kernel_rfl
theorem fmc2 (g:Nat→T_Bar) (nb:Nat) (N:Int) (pl:Nat→T_Place) (np:Nat) (K:T_IntS) (B:T_IntS) (i:Nat) (R:T_IntS) (j:Nat) :
    zM 0 [rg 1,.dec true,rg 2,rg 3,.dec true,rg 5,rg 2,.head] zf9 (Fm1 g nb N pl np K B i R j) [0,1,291] 1 (Fm1 g nb N pl np K B i (R.1+1,fun s=>if s<R.1 then R.2 s else (j:Int)) (j+1)) =
    some (zf9,zD [((decide ((↑j:Int)<(↑K.1:Int)))=true),(((↑j:Int) != (↑i:Int))=true),(NL 1 1),(NL R.1 R.1),(NL ((R.1+1)*8) 140737488355328),(NL (R.1+1) 9223372036854775807),(ZLo ((↑j:Int)+1)),(ZHi ((↑j:Int)+1)),(AN 0),(AI ((↑K.1:Int))),(AN B.1),(AI ((↑i:Int))),(AN ((R.1+1))),(AN K.1),(AP K.1 (iRw K)),((((↑j:Int)+1):Int)=(↑(j+1):Int)),(AN 4),(AI N),(AN nb),(AP nb (bRw g)),(AN np),(AP np (bRw pl)),(AN 1),(NL B.1 B.1),(AA B.1 (fun i_1=>[.p (.int .i64 (B.2 i_1))])),(NL (R.1+1) (R.1+1)),(CV [(291,⟨false,1,(R.1+1),(fun i_2=>(if (i_2<R.1) then [.p (.int .i64 (R.2 i_2))] else [.p (.int .i64 (↑j:Int))]))⟩),(259,⟨false,1,1,(fun i_2=>[.p (.int .i64 (↑j:Int))])⟩),(0,⟨true,4,1,(fun i_2=>[.p (.int .i64 N),.p (.seq true 2 nb (bRw g)),.p (.seq true 2 np (bRw pl)),.p (.seq true 1 K.1 (iRw K))])⟩),(1,⟨false,1,B.1,(fun i_2=>[.p (.int .i64 (B.2 i_2))])⟩)] [0,1,291] 1 (R.1+1) (fun i_1=>if (i_1<R.1) then [.p (.int .i64 (R.2 i_1))] else [.p (.int .i64 (↑j:Int))]) (fun i_1=>[.p (.int .i64 ((R.1+1,fun s=>if s<R.1 then R.2 s else (↑j:Int)).2 i_1))]))] [0,1,2,3,4,5,6,7,8,9,8,8,10,11,8,12,13,14,9,11,9,15,16,2,2,17,18,19,20,21,13,14,22,23,24,22,25,26]):=by kernel_rfl
theorem fmd2 (g:Nat→T_Bar) (nb:Nat) (N:Int) (pl:Nat→T_Place) (np:Nat) (K:T_IntS) (B:T_IntS) (i:Nat) (R:T_IntS) (j:Nat) :
    zM 0 [rg 1,.dec true,rg 2,rg 3,.dec false,rg 2,.head] zf9 (Fm1 g nb N pl np K B i R j) [0,1,2] 1 (Fm1 g nb N pl np K B i R (j+1)) =
    some (zf9,zD [((decide ((↑j:Int)<(↑K.1:Int)))=true),(((↑j:Int) != (↑i:Int))=false),(ZLo ((↑j:Int)+1)),(ZHi ((↑j:Int)+1)),(AN 0),(AI ((↑K.1:Int))),(AN B.1),(AI ((↑i:Int))),(AN R.1),(AN K.1),(AP K.1 (iRw K)),((((↑j:Int)+1):Int)=(↑(j+1):Int)),(AN 4),(NL 1 1),(AI N),(AN nb),(AP nb (bRw g)),(AN np),(AP np (bRw pl)),(AN 1),(NL B.1 B.1),(AA B.1 (fun i_1=>[.p (.int .i64 (B.2 i_1))])),(NL R.1 R.1),(AA R.1 (fun i_1=>[.p (.int .i64 (R.2 i_1))]))] [0,1,2,3,4,5,4,4,6,7,4,8,9,10,5,7,5,11,12,13,13,14,15,16,17,18,9,10,19,20,21,19,22,23]):=by kernel_rfl
theorem fme2 (g:Nat→T_Bar) (nb:Nat) (N:Int) (pl:Nat→T_Place) (np:Nat) (K:T_IntS) (B:T_IntS) (i:Nat) (R:T_IntS) (j:Nat) (m:Nat) (z:Nat→Int) :
    zP Tryz.f154 0 [rg 1,.dec false,rm [(2,⟨true,(some ⟨[0],[7],[],1,[(0,tsF g nb N pl np K),(1,iOb m z)],.tup [.ar 1 1 0 m,.p (.bool true)]⟩),none⟩)] 5,rg 1,.dec true,rg 3] zf9 (Fm1 g nb N pl np K B i R j) [99] 1 [(0,iOb m z)] (.tup [.ar 1 0 0 m,.p (.bool true)]) =
    some [((decide ((↑j:Int)<(↑K.1:Int)))=false),(AE 1),(AN 1),(NL R.1 R.1),Con Tryz.prog 263 1 (zf40 N nb g np pl K) [.p (.seq true 1 R.1 (iRw R)),.pt 4 0 0 0] (zf25 N nb g np pl K m z) (.tup [.ar 1 1 0 m,.p (.bool true)]),(true=true),(AN 0),(AN m),(true=true),(AN 1),(NL m m),(AA m (fun i_1=>[.p (.int .i64 (z i_1))])),(AE m)]:=by kernel_rfl
theorem fmf2 (g:Nat→T_Bar) (nb:Nat) (N:Int) (pl:Nat→T_Place) (np:Nat) (K:T_IntS) (B:T_IntS) (i:Nat) (R:T_IntS) (j:Nat) (m:Nat) (z:Nat→Int) :
    zM 0 [rg 1,.dec false,rm [(2,⟨true,(some ⟨[0],[7],[],1,[(0,tsF g nb N pl np K),(1,iOb m z)],.tup [.ar 1 1 0 m,.p (.bool false)]⟩),none⟩)] 5,rg 1,.dec false,rg 2,.head] zf9 (Fm1 g nb N pl np K B i R j) [0,1] 1 (Fm0 g nb N pl np K B (i+1)) =
    some (zf55,[((decide ((↑j:Int)<(↑K.1:Int)))=false),(AE 1),(AN 1),(NL R.1 R.1),Con Tryz.prog 263 1 (zf40 N nb g np pl K) [.p (.seq true 1 R.1 (iRw R)),.pt 4 0 0 0] (zf25 N nb g np pl K m z) (.tup [.ar 1 1 0 m,.p (.bool false)]),(false=false),(ZLo ((↑i:Int)+1)),(ZHi ((↑i:Int)+1)),(AN 0),(AI ((↑K.1:Int))),(AN 0),(AN 0),(AN B.1),(AN K.1),(AP K.1 (iRw K)),(AI ((↑K.1:Int))),((((↑i:Int)+1):Int)=(↑(i+1):Int)),(AN 4),(NL 1 1),(NL 1 1),(AI N),(AN nb),(AP nb (bRw g)),(AN np),(AP np (bRw pl)),(AN K.1),(AP K.1 (iRw K)),(AN 1),(NL B.1 B.1),(AA B.1 (fun i_1=>[.p (.int .i64 (B.2 i_1))]))]):=by kernel_rfl
theorem fmg2 (g:Nat→T_Bar) (nb:Nat) (N:Int) (pl:Nat→T_Place) (np:Nat) (K:T_IntS) (B:T_IntS) (i:Nat) (b:Bool) (m:Nat) (z:Nat→Int) :
    zP Tryz.f154 0 [rg 1,.dec false,rm [(2,⟨true,(some ⟨[0],[7],[],1,[(0,tsF g nb N pl np K),(1,iOb m z)],.tup [.ar 1 1 0 m,.p (.bool b)]⟩),none⟩)] 4] zf55 (Fm0 g nb N pl np K B i) [98] 1 [(0,iOb m z)] (.tup [.ar 1 0 0 m,.p (.bool b)]) =
    some [((decide ((↑i:Int)<(↑K.1:Int)))=false),(AE 1),(AN 1),(NL B.1 B.1),Con Tryz.prog 263 1 (zf40 N nb g np pl K) [.p (.seq true 1 B.1 (iRw B)),.pt 4 0 0 0] (zf25 N nb g np pl K m z) (.tup [.ar 1 1 0 m,.p (.bool b)]),(AN 0),(AN m),(b=b),(AN 1),(NL m m),(AA m (fun i_1=>[.p (.int .i64 (z i_1))])),(AE m)]:=by kernel_rfl
theorem fnn (g:Nat→T_Bar) (nb:Nat) (N:Int) (pl:Nat→T_Place) (np:Nat) (K:T_IntS) :
    zS Tryz.f150 [rg 3,rm [(1,oc [] (.p (.bool false)))] 1,.dec true,rg 3] [tsA g nb N pl np K] [192] [(0,iOb 0 (fun _=>0))] (.tup [.ar 1 0 0 0,.p (.bool false)]) =
    some [(NT 0 1),zE 147 [(zf45 N nb g np pl K)] [] (.p (.bool false)),((!false)=true),(AN 0),(AN 0),(false=false),(AN 1),(NL 0 0),(AA 0 (fun i=>[.p (.int .i64 0)])),(AE 0)]:=by kernel_rfl
theorem fny (g:Nat→T_Bar) (nb:Nat) (N:Int) (pl:Nat→T_Place) (np:Nat) (K:T_IntS) (m:Nat) (z:Nat→Int) :
    zS Tryz.f150 [rg 3,rm [(1,oc [] (.p (.bool true)))] 1,.dec false,rm [(2,oc [(0,iOb m z)] (.tup [.ar 1 0 0 m,.p (.bool true)]))] 5,rg 1,.dec true,rg 3] [tsA g nb N pl np K] [256] [(0,iOb m z)] (.tup [.ar 1 0 0 m,.p (.bool true)]) =
    some [(NT 0 1),zE 147 [(zf45 N nb g np pl K)] [] (.p (.bool true)),((!true)=false),(NT 0 1),zE 125 [(zf60 N nb g np pl)] [(0,⟨false,1,m,(fun i=>[.p (.int .i64 (z i))])⟩)] (.tup [.ar 1 0 0 m,.p (.bool true)]),(true=true),(AN 0),(AN m),(true=true),(AN 1),(NL m m),(AA m (fun i=>[.p (.int .i64 (z i))])),(AE m)]:=by kernel_rfl
theorem fnz2 (g:Nat→T_Bar) (nb:Nat) (N:Int) (pl:Nat→T_Place) (np:Nat) (K:T_IntS) (m:Nat) (z:Nat→Int) :
    zT Tryz.f150 [rg 3,rm [(1,oc [] (.p (.bool true)))] 1,.dec false,rm [(2,oc [(0,iOb m z)] (.tup [.ar 1 0 0 m,.p (.bool false)]))] 5,rg 1,.dec false,rg 2,rg 1,.head] [tsA g nb N pl np K] [0,480] (Fn0 g nb N pl np K (0,fun _=>0) 0) =
    some (zf59,[(NT 0 1),zE 147 [(zf45 N nb g np pl K)] [] (.p (.bool true)),((!true)=false),(NT 0 1),zE 125 [(zf60 N nb g np pl)] [(0,⟨false,1,m,(fun i=>[.p (.int .i64 (z i))])⟩)] (.tup [.ar 1 0 0 m,.p (.bool false)]),(false=false),(AN 0),(AN 0),(AN 0),((0:Int)=(↑0:Int)),((([AV.p (PV.int IntKind.i64 N),brL g nb,pcL pl np,inL K].length):Nat)=4),(NL 1 1),(NL 1 1),(AI N),(AN nb),(AP nb (bRw g)),(AN np),(AP np (bRw pl)),(AN K.1),(AP K.1 (iRw K)),(AN 1),(NL 0 0),(∀ i:Nat,(((i:Nat)<0)→(All []∧(([.p (.int .i64 0)]:List AV)=[.p (.int .i64 ((0,fun x=>0).2 i))]))))]):=by kernel_rfl
theorem fna2 (g:Nat→T_Bar) (nb:Nat) (N:Int) (pl:Nat→T_Place) (np:Nat) (K:T_IntS) (B:T_IntS) (i:Nat) :
    zM 0 [rg 5,.dec true,rg 6,.dec true,rg 5,rg 3,.head] zf59 (Fn0 g nb N pl np K B i) [0,450] 1 (Fn0 g nb N pl np K (B.1+1,fun s=>if s<B.1 then B.2 s else (i:Int)) (i+1)) =
    some (zf59,[(NT 0 1),((decide ((↑i:Int)<(↑K.1:Int)))=true),(NT 0 1),(IL 0 (↑i:Int)),(IT (↑i:Int) (↑K.1:Int)),((K.2 i==0)=true),(NL 1 1),(NL B.1 B.1),(NL ((B.1+1)*8) 140737488355328),(NL (B.1+1) 9223372036854775807),(ZLo ((↑i:Int)+1)),(ZHi ((↑i:Int)+1)),(AN 0),(AN 0),(AN ((B.1+1))),((((↑i:Int)+1):Int)=(↑(i+1):Int)),(AN 4),(NL 1 1),(NL 1 1),(AI N),(AN nb),(AP nb (bRw g)),(AN np),(AP np (bRw pl)),(AN K.1),(AP K.1 (iRw K)),(AN 1),(NL (B.1+1) (B.1+1)),(CV [(450,⟨false,1,(B.1+1),(fun i_2=>(if (i_2<B.1) then [.p (.int .i64 (B.2 i_2))] else [.p (.int .i64 (↑i:Int))]))⟩),(418,⟨false,1,1,(fun i_2=>[.p (.int .i64 (↑i:Int))])⟩),(0,⟨true,4,1,(fun i_2=>[.p (.int .i64 N),.p (.seq true 2 nb (bRw g)),.p (.seq true 2 np (bRw pl)),.p (.seq true 1 K.1 (iRw K))])⟩)] [0,450] 1 (B.1+1) (fun i_1=>if (i_1<B.1) then [.p (.int .i64 (B.2 i_1))] else [.p (.int .i64 (↑i:Int))]) (fun i_1=>[.p (.int .i64 ((B.1+1,fun s=>if s<B.1 then B.2 s else (↑i:Int)).2 i_1))]))]):=by kernel_rfl
theorem fne2 (g:Nat→T_Bar) (nb:Nat) (N:Int) (pl:Nat→T_Place) (np:Nat) (K:T_IntS) (B:T_IntS) (i:Nat) (mb:Nat) (h:Nat→T_Bar) (n q:Nat) (V:Nat→Nat→Int) (m:Nat) (z:Nat→Int) :
    zP Tryz.f150 0 [rg 5,.dec true,rg 6,.dec false,rm [(4,oc [(0,brOb mb h)] (zf149 N mb))] 6,rm [(6,oc [(0,ooOb 1 q (cM n V)),(1,ffOb q (cM n V))] (.ar 1 0 0 q)),(0,oq [898,899] [(2,iOb m z)] (.tup [.ar 1 2 0 m,.p (.bool true)]))] 5,rg 1,.dec true,rg 3] zf59 (Fn0 g nb N pl np K B i) [930] 1 [(0,iOb m z)] (.tup [.ar 1 0 0 m,.p (.bool true)]) =
    some [(NT 0 1),((decide ((↑i:Int)<(↑K.1:Int)))=true),(NT 0 1),(IL 0 (↑i:Int)),(IT (↑i:Int) (↑K.1:Int)),((K.2 i==0)=false),(NT 0 1),zE 259 [(zf138 N nb g),.p (.int .i64 (↑i:Int))] (zf143 mb h) ((zf149 N mb)),(NT 0 1),((true=true)→ (AN 1)),(NT 0 1),(NT 0 1),(NT 0 1),(AN 2),(NL mb mb),zE 230 [(zf53 N mb h np pl)] [(0,⟨false,1,q,(fun i_1=>[.ar 1 ⟨1,some i_1⟩ 0 n])⟩),(1,⟨true,0,q,(fun i_1=>[.p (.seq false 1 n (fun i_2=>[.int .i64 ((cM n V i_1).2 i_2)]))])⟩)] (.ar 1 0 0 q),(AE q),Con Tryz.prog 260 2 [(0,⟨false,1,q,(fun i_1=>[.ar 1 ⟨1,some i_1⟩ 0 n])⟩),(1,⟨true,0,q,(fun i_1=>[.p (.seq true 1 n (fun i_2=>[.int .i64 ((cM n V i_1).2 i_2)]))])⟩)] [(zf42 N nb g np pl K),.ar 1 0 0 q] [(2,⟨false,1,m,(fun i_1=>[.p (.int .i64 (z i_1))])⟩)] (.tup [.ar 1 2 0 m,.p (.bool true)]),(true=true),(AN 0),(AN m),(true=true),(AN 1),(NL m m),(AA m (fun i_1=>[.p (.int .i64 (z i_1))])),(AE m)]:=by kernel_rfl
theorem fnf2 (g:Nat→T_Bar) (nb:Nat) (N:Int) (pl:Nat→T_Place) (np:Nat) (K:T_IntS) (B:T_IntS) (i:Nat) (mb:Nat) (h:Nat→T_Bar) (n q:Nat) (V:Nat→Nat→Int) (m:Nat) (z:Nat→Int) :
    zM 0 [rg 5,.dec true,rg 6,.dec false,rm [(4,oc [(0,brOb mb h)] (zf149 N mb))] 6,rm [(6,oc [(0,ooOb 1 q (cM n V)),(1,ffOb q (cM n V))] (.ar 1 0 0 q)),(0,oq [898,899] [(2,iOb m z)] (.tup [.ar 1 2 0 m,.p (.bool false)]))] 5,rg 1,.dec false,rg 3,.head] zf59 (Fn0 g nb N pl np K B i) [0,1] 1 (Fn0 g nb N pl np K B (i+1)) =
    some (zf59,[(NT 0 1),((decide ((↑i:Int)<(↑K.1:Int)))=true),(NT 0 1),(IL 0 (↑i:Int)),(IT (↑i:Int) (↑K.1:Int)),((K.2 i==0)=false),(NT 0 1),zE 259 [(zf138 N nb g),.p (.int .i64 (↑i:Int))] (zf143 mb h) ((zf149 N mb)),(NT 0 1),((true=true)→ (AN 1)),(NT 0 1),(NT 0 1),(NT 0 1),(AN 2),(NL mb mb),zE 230 [(zf53 N mb h np pl)] [(0,⟨false,1,q,(fun i_1=>[.ar 1 ⟨1,some i_1⟩ 0 n])⟩),(1,⟨true,0,q,(fun i_1=>[.p (.seq false 1 n (fun i_2=>[.int .i64 ((cM n V i_1).2 i_2)]))])⟩)] (.ar 1 0 0 q),(AE q),Con Tryz.prog 260 2 [(0,⟨false,1,q,(fun i_1=>[.ar 1 ⟨1,some i_1⟩ 0 n])⟩),(1,⟨true,0,q,(fun i_1=>[.p (.seq true 1 n (fun i_2=>[.int .i64 ((cM n V i_1).2 i_2)]))])⟩)] [(zf42 N nb g np pl K),.ar 1 0 0 q] [(2,⟨false,1,m,(fun i_1=>[.p (.int .i64 (z i_1))])⟩)] (.tup [.ar 1 2 0 m,.p (.bool false)]),(false=false),(ZLo ((↑i:Int)+1)),(ZHi ((↑i:Int)+1)),(AN 0),(AN 0),(AN B.1),((((↑i:Int)+1):Int)=(↑(i+1):Int)),(AN 4),(NL 1 1),(NL 1 1),(AI N),(AN nb),(AP nb (bRw g)),(AN np),(AP np (bRw pl)),(AN K.1),(AP K.1 (iRw K)),(AN 1),(NL B.1 B.1),(AA B.1 (fun i_1=>[.p (.int .i64 (B.2 i_1))]))]):=by kernel_rfl
theorem fng2 (g:Nat→T_Bar) (nb:Nat) (N:Int) (pl:Nat→T_Place) (np:Nat) (K:T_IntS) (B:T_IntS) (i:Nat) (mb:Nat) (h:Nat→T_Bar) (n q:Nat) (V:Nat→Nat→Int) (m:Nat) (z:Nat→Int) (b:Bool) :
    zP Tryz.f150 0 [rg 5,.dec false,rm [(5,oc [(0,brOb mb h)] (.agg [.p (.int .i64 N),.ar 2 0 0 mb])),(4,oc [(0,ooOb 1 q (cM n V)),(1,ffOb q (cM n V))] (.ar 1 0 0 q)),(0,oq [482,483] [(2,iOb m z)] (.tup [.ar 1 2 0 m,.p (.bool b)]))] 5,rg 4] zf59 (Fn0 g nb N pl np K B i) [514] 1 [(0,iOb m z)] (.tup [.ar 1 0 0 m,.p (.bool b)]) =
    some [(NT 0 1),((decide ((↑i:Int)<(↑K.1:Int)))=false),(NT 0 1),(NT 0 1),(AN 1),(NL B.1 B.1),zE 56 [(zf138 N nb g),.p (.seq true 1 B.1 (iRw B))] (zf143 mb h) (.agg [.p (.int .i64 N),.ar 2 0 0 mb]),(NT 0 1),(AN 2),(NL mb mb),zE 230 [(zf53 N mb h np pl)] [(0,⟨false,1,q,(fun i_1=>[.ar 1 ⟨1,some i_1⟩ 0 n])⟩),(1,⟨true,0,q,(fun i_1=>[.p (.seq false 1 n (fun i_2=>[.int .i64 ((cM n V i_1).2 i_2)]))])⟩)] (.ar 1 0 0 q),(AE q),Con Tryz.prog 260 2 [(0,⟨false,1,q,(fun i_1=>[.ar 1 ⟨1,some i_1⟩ 0 n])⟩),(1,⟨true,0,q,(fun i_1=>[.p (.seq true 1 n (fun i_2=>[.int .i64 ((cM n V i_1).2 i_2)]))])⟩)] [(zf42 N nb g np pl K),.ar 1 0 0 q] [(2,⟨false,1,m,(fun i_1=>[.p (.int .i64 (z i_1))])⟩)] (.tup [.ar 1 2 0 m,.p (.bool b)]),(AN 0),(AN m),(b=b),(AN 1),(NL m m),(AA m (fun i_1=>[.p (.int .i64 (z i_1))])),(AE m)]:=by kernel_rfl
noncomputable abbrev ltcE:List Item:=[.code (cAt (bodyOf Tryz.f263) [1,1,0,1,0,0,1,1,0,0,1,1,1,0]),.code (cAt (bodyOf Tryz.f263) [1,1,0,1,0,0,1,1,0,0,1,1,1,1]),.inBlock 1,.code (cAt (bodyOf Tryz.f263) [1,1,0,1,0,0,1,1,1]),.inLoop (cAt (bodyOf Tryz.f263) [1,1,0,1,0,0]),.inBlock 0,.code (cAt (bodyOf Tryz.f263) [1,1,1])]
def beqB (x y:T_Bar):Bool:=(x.1==y.1)&&((x.2.1==y.2.1)&&true)
theorem beqB_eq {x y:T_Bar} (h:beqB x y=true):x=y:=by
  obtain ⟨a,b,⟨⟩⟩:=x
  obtain ⟨c,d,⟨⟩⟩:=y
  simp only [beqB,Bool.and_eq_true,beq_iff_eq] at h
  rw [h.1,h.2.1]
def flt (p:Nat→Bool):Nat→T_IntS
  | 0=>(0,fun _=>0)
  | i+1=>if p i=true then ((flt p i).1+1,fun s=>if s<(flt p i).1 then (flt p i).2 s else i) else flt p i
theorem flt_n (p:Nat→Bool):∀ i,(flt p i).1≤i
  | 0=>Nat.le_refl _
  | i+1=>by
    have:=flt_n p i
    simp only [flt]
    split
    · show (flt p i).1+1≤i+1;omega
    · omega
theorem flt_t {p:Nat→Bool} {i:Nat} (h:p i=true):flt p (i+1)=((flt p i).1+1,fun s=>if s<(flt p i).1 then (flt p i).2 s else i):=by simp [flt,h]
theorem flt_f {p:Nat→Bool} {i:Nat} (h:p i=false):flt p (i+1)=flt p i:=by simp [flt,h]
def Sel (g:Nat→T_Bar) (k m:Nat) (h:Nat→T_Bar):Prop:=m≤k∧∃ s:Nat→Nat,(∀ t,t<m→s t<k∧h t=g (s t))∧∀ t,t+1<m→s t<s (t+1)
theorem eB_false {g:Nat→T_Bar} {pl:Nat→T_Place} {i:Nat} (h:brP g pl i=true):eB g pl i=false:=by
  unfold brP at h
  cases h2:eB g pl i with
  | true=>rw [h2] at h;cases h3:(bif decide ((i:Int)>0) then eA g i else false)<;>rw [h3] at h<;>simp at h
  | false=>rfl
theorem bars_ne {g:Nat→T_Bar} {nb N:Nat} {pl:Nat→T_Place} {np:Nat} (hf:fwB g nb N pl np=true) {i j:Nat} (hij:i<j) (hj:j<nb):g i≠g j:=by
  obtain ⟨h1,h2,h3,h4,hok,hb⟩:=fw_ok hf
  intro e
  have:=hb.lt (j - i - 1) i (by omega)
  rw [show i+(j - i - 1+1)=j by omega] at this
  unfold gA gB at this
  rw [e] at this
  omega
theorem fwB_sel {g h:Nat→T_Bar} {nb m N:Nat} {pl:Nat→T_Place} {np:Nat} (hf:fwB g nb N pl np=true) (hs:Sel g nb m h):fwB h m N pl np=true:=by
  obtain ⟨hm,s,s1,s2⟩:=hs
  obtain ⟨h1,h2,h3,h4,hok,hb⟩:=fw_ok hf
  obtain ⟨hN,hnb,_⟩:=graph_in h1
  obtain ⟨p1,p2,p3,p4,p5,p6⟩:=fw_parts hf
  have ha:=asc_of h1
  have hg:isGraphF ((N:Int),(m,h),())=true:=by
    refine isG_of hN (by omega) (fun i hi=>?_) (fun t ht=>?_)
    · rw [(s1 i hi).2];exact hok (s i) (s1 i hi).1
    · rw [(s1 t (by omega)).2,(s1 (t+1) ht).2]
      exact asc_lt ha (s2 t ht) (s1 (t+1) ht).1
  have hpl:allB (plP pl) np=true:=by
    have h:=hf
    unfold fwB at h
    simp only [Bool.and_eq_true] at h
    exact h.2.1
  have hbr:allB (brP h pl) m=true:=by
    rw [all_iff]
    intro t ht
    have e2:=eB_false (p6 (s t) (s1 t ht).1)
    have e3:eB h pl t=false:=by unfold eB at e2 ⊢;rw [(s1 t ht).2];exact e2
    unfold brP
    rw [e3]
    by_cases h0:0<t
    · have e:((t:Int) - 1).toNat=t - 1:=by omega
      have hlt:s (t - 1)<s t:=by
        have:=s2 (t - 1) (by omega)
        rw [show t - 1+1=t by omega] at this
        exact this
      have hne:=bars_ne hf hlt (s1 t ht).1
      rw [← (s1 t ht).2,← (s1 (t - 1) (by omega)).2] at hne
      have e1:eA h t=false:=by
        unfold eA
        rw [e]
        cases hq:((h (t - 1)).1==(h t).1&&((h (t - 1)).2.1==(h t).2.1&&true)) with
        | false=>rfl
        | true=>exact absurd (beqB_eq hq) hne
      rw [e1]
      cases decide ((t:Int)>0)<;>rfl
    · rw [decide_eq_false (by omega)];rfl
  unfold fwB
  rw [hpl,hbr,show isG h m N=true from hg,decide_eq_true (by omega),decide_eq_true (by omega),decide_eq_true (by omega)]
  rfl
theorem dl_sel {g:Nat→T_Bar} {nb e:Nat} (he:e<nb):Sel g nb (nb - 1) (dlB g e):=by
  refine ⟨by omega,fun t=>if t<e then t else t+1,fun t ht=>?_,fun t ht=>?_⟩
  · unfold dlB
    by_cases h:t<e
    · simp only [if_pos h];exact ⟨by omega,trivial⟩
    · simp only [if_neg h];exact ⟨by omega,trivial⟩
  · dsimp only
    split<;>split<;>omega
theorem obF_snoc (S:T_IntS) (A:Nat→T_Bar):∀ d i (x:T_BarS),obF S A i (d+1) x=bif hasI S.2 ((i+d:Nat):Int) S.1 then ((obF S A i d x).1+1,snoc (obF S A i d x).1 (obF S A i d x).2 (A (i+d))) else obF S A i d x
  | 0,i,x=>rfl
  | d+1,i,x=>by
    rw [obF,obF_snoc S A d (i+1),show i+1+d=i+(d+1) by omega]
    rfl
theorem ob_sel (S:T_IntS) (A:Nat→T_Bar):∀ k,Sel A k (obF S A 0 k zB).1 (obF S A 0 k zB).2
  | 0=>⟨Nat.le_refl _,fun t=>t,fun t ht=>absurd ht (Nat.not_lt_zero _),fun t ht=>absurd ht (Nat.not_lt_zero _)⟩
  | k+1=>by
    obtain ⟨hm,s,s1,s2⟩:=ob_sel S A k
    rw [obF_snoc,Nat.zero_add]
    generalize obF S A 0 k zB=x at *
    cases hasI S.2 (k:Int) S.1 with
    | false =>
      exact ⟨by show x.1≤k+1;omega,s,fun t ht=>⟨by have:=(s1 t ht).1;omega,(s1 t ht).2⟩,s2⟩
    | true =>
      refine ⟨by show x.1+1≤k+1;omega,fun t=>if t<x.1 then s t else k,fun t ht=>?_,fun t ht=>?_⟩
      · have ht:t<x.1+1:=ht
        show (if t<x.1 then s t else k)<k+1∧snoc x.1 x.2 (A k) t=A (if t<x.1 then s t else k)
        by_cases h:t<x.1
        · have:=s1 t h
          rw [if_pos h]
          exact ⟨by omega,by rw [← this.2];simp [snoc,h]⟩
        · rw [if_neg h];exact ⟨by omega,by simp [snoc,h]⟩
      · have ht:t+1<x.1+1:=ht
        show (if t<x.1 then s t else k)<(if t+1<x.1 then s (t+1) else k)
        rw [if_pos (show t<x.1 by omega)]
        by_cases h:t+1<x.1
        · rw [if_pos h];exact s2 t h
        · rw [if_neg h];exact (s1 t (by omega)).1
theorem ob_skip {S:T_IntS} {A:Nat→T_Bar} {e nb:Nat} (he:e<nb) (hS:∀ j,j<nb→hasI S.2 (j:Int) S.1=!((j:Int)==(e:Int))) :
    ∀ k,k≤nb→(obF S A 0 k zB).1=(if k≤e then k else k - 1)∧∀ t,t<(obF S A 0 k zB).1→(obF S A 0 k zB).2 t=dlB A e t
  | 0,_=>⟨by rw [if_pos (Nat.zero_le _)];rfl,fun t ht=>absurd ht (Nat.not_lt_zero _)⟩
  | k+1,hk=>by
    obtain ⟨h1,h2⟩:=ob_skip he hS k (by omega)
    rw [obF_snoc,Nat.zero_add,hS k (by omega)]
    generalize obF S A 0 k zB=x at *
    by_cases hke:k=e
    · subst hke
      rw [show ((k:Int)==(k:Int))=true by simp]
      refine ⟨?_,h2⟩
      show x.1=_
      rw [h1,if_pos (Nat.le_refl _),if_neg (by omega)];omega
    · rw [show ((k:Int)==(e:Int))=false from beq_eq_false_iff_ne.2 (by omega)]
      refine ⟨?_,fun t ht=>?_⟩
      · show x.1+1=_
        rw [h1]
        by_cases h:k≤e
        · rw [if_pos h,if_pos (by omega)]
        · rw [if_neg h,if_neg (by omega)];omega
      · have ht:t<x.1+1:=ht
        show snoc x.1 x.2 (A k) t=_
        by_cases h:t<x.1
        · rw [← h2 t h];simp [snoc,h]
        · have htx:t=x.1:=by omega
          have:snoc x.1 x.2 (A k) t=A k:=by simp [snoc,h]
          rw [this]
          unfold dlB
          by_cases hle:k≤e
          · rw [if_pos hle] at h1
            rw [if_pos (by omega),htx,h1]
          · rw [if_neg hle] at h1
            rw [if_neg (by omega),htx,h1,show k - 1+1=k by omega]
noncomputable def plB (g:Nat→T_Bar) (nb:Nat) (N:Int) (pl:Nat→T_Place) (np:Nat) (K:T_IntS) (n:Nat) (v:Nat→Int):Bool:=bif alwB g nb N pl np K (n,v) then !tmB g nb N pl np (n,v) else false
def lsfQ (PL:(Nat→Int)→Bool) (n:Nat) (V:Nat→Nat→Int):Nat→Nat→Bool×T_IntS
  | 0,_=>(false,(0,fun _=>0))
  | e+1,i=>if PL (V i)=true then (true,(n,V i)) else if PL (fun s=>-(V i s))=true then (true,(n,fun s=>-(V i s))) else lsfQ PL n V e (i+1)
noncomputable def tryR (g:Nat→T_Bar) (nb N:Nat) (pl:Nat→T_Place) (np:Nat) (K:T_IntS) (m:Nat) (h:Nat→T_Bar):Bool×T_IntS :=
  lsfQ (plB g nb N pl np K (2*N)) (2*N) (moF h m N pl).2 (moF h m N pl).1 0
noncomputable def fgoF (g:Nat→T_Bar) (nb N:Nat) (pl:Nat→T_Place) (np:Nat) (K:T_IntS):Nat→Nat→Bool×T_IntS
  | 0,_=>tryR g nb N pl np K (obF (flt (kbF K) nb) g 0 nb zB).1 (obF (flt (kbF K) nb) g 0 nb zB).2
  | e+1,i=>if kbF K i=true then fgoF g nb N pl np K e (i+1) else if (tryR g nb N pl np K (nb - 1) (dlB g i)).1=true then (true,(tryR g nb N pl np K (nb - 1) (dlB g i)).2) else fgoF g nb N pl np K e (i+1)
noncomputable def flmF (g:Nat→T_Bar) (nb:Nat) (N:Int) (pl:Nat→T_Place) (np:Nat) (K:T_IntS):Bool×T_IntS :=
  if tsB g nb N pl np K=true then (if (fmF g nb N.toNat pl np).2=true then (true,(fmF g nb N.toNat pl np).1) else fgoF g nb N.toNat pl np K nb 0) else (false,(0,fun _=>0))
def OBs (n:Int) (M:Nat) (A:Nat→T_Bar) (S:T_IntS) (i c:Nat) (h:Nat→T_Bar):St:=⟨[.p .any,inL S,.pt 2 0 0 0,.p .any,.pt 2 1 0 0,.pt 2 2 0 0,.p (.int .i64 i)]++List.replicate 25 anyA,[(0,⟨true,2,1,fun _=>[.p (.int .i64 n),brL A M]⟩),(1,z2),(2,gbx n 3 c),(3,brOb c h)],4⟩
theorem obz (n:Int) (M:Nat) (A:Nat→T_Bar) (S:T_IntS) :
    zT Tryz.f56 [rg 2,rg 6,rg 1,.head] [gaI n M A,inL S] [0,32,192,128] (OBs n M A S 0 0 (fun _=>(0,0,()))) =
    some (zf109,zD [(NT 0 1),((true=true)→ (AN 1)),(AN S.1),(AP S.1 (iRw S)),(AN 0),((0:Int)=(↑0:Int)),((([AV.p (PV.int IntKind.i64 n),brL A M].length):Nat)=2),(NL 1 1),(AI n),(AN M),(AP M (bRw A)),((((List.map (fun v=>AV.p (absV v)) [Value.int IntKind.i64 0,Value.slice none 0 0]).length):Nat)=2),(AI 0),(AN 2),(NL 0 0),(AA 0 (fun i=>[.p (.int .i64 0),.p (.int .i64 0)]))] [0,0,1,2,3,4,4,4,5,6,7,7,8,9,10,11,7,7,12,11,7,7,8,4,4,13,14,15]):=by kernel_rfl
theorem obt (n:Int) (M:Nat) (A:Nat→T_Bar) (S:T_IntS) (i c:Nat) (h:Nat→T_Bar) :
    zM 0 [rg 5,.dec true,rm [(2,oc [] (.p (.bool true)))] 0,.dec true,rg 11,rg 3,.head] zf109 (OBs n M A S i c h) [0,1,2,516] 1 (OBs n M A S (i+1) (c+1) (snoc c h (A i))) =
    some (zf109,zD [(NT 0 1),((decide ((↑i:Int)<(↑M:Int)))=true),zE 172 [.p (.seq true 1 S.1 (iRw S)),.p (.int .i64 (↑i:Int))] [] (.p (.bool true)),(true=true),(IL 0 (↑i:Int)),(IT (↑i:Int) (↑M:Int)),(NL 1 1),(NL c c),(NL ((c+1)*16) 140737488355328),(NL (c+1) 9223372036854775807),((true=true)→ (AN 1)),(ZLo ((↑i:Int)+1)),(ZHi ((↑i:Int)+1)),(AN S.1),(AP S.1 (iRw S)),(AN 0),((((↑i:Int)+1):Int)=(↑(i+1):Int)),(AN 2),(AI n),(AN M),(AP M (bRw A)),(AI 0),(AN ((c+1))),(NL (c+1) (c+1)),(CV [(2,⟨true,2,1,(fun i_2=>[.p (.int .i64 n),.ar 2 516 0 (c+1)])⟩),(516,⟨false,2,(c+1),(fun i_2=>(if (i_2<c) then [.p (.int .i64 ((h i_2).1)),.p (.int .i64 ((h i_2).2.1))] else [.p (.int .i64 ((A i).1)),.p (.int .i64 ((A i).2.1))]))⟩),(484,⟨false,2,1,(fun i_2=>[.p (.int .i64 ((A i).1)),.p (.int .i64 ((A i).2.1))])⟩),(0,⟨true,2,1,(fun i_2=>[.p (.int .i64 n),.p (.seq true 2 M (bRw A))])⟩),(1,⟨true,2,1,(fun i_2=>[.p (.int .i64 0),.p (.nil)])⟩)] [0,1,2,516] 1 (c+1) (fun i_1=>if (i_1<c) then [.p (.int .i64 ((h i_1).1)),.p (.int .i64 ((h i_1).2.1))] else [.p (.int .i64 ((A i).1)),.p (.int .i64 ((A i).2.1))]) (fun i_1=>[.p (.int .i64 (if i_1<c then (h i_1).1 else (A i).1)),.p (.int .i64 (if i_1<c then (h i_1).2.1 else (A i).2.1))]))] [0,1,2,3,0,0,4,5,6,7,8,9,0,10,11,12,13,14,15,15,15,16,17,6,6,18,19,20,17,6,6,21,17,6,6,18,15,22,17,23,24]):=by kernel_rfl
theorem obf (n:Int) (M:Nat) (A:Nat→T_Bar) (S:T_IntS) (i c:Nat) (h:Nat→T_Bar) :
    zM 0 [rg 5,.dec true,rm [(2,oc [] (.p (.bool false)))] 0,.dec false,rg 3,.head] zf109 (OBs n M A S i c h) [0,1,2,3] 1 (OBs n M A S (i+1) c h) =
    some (zf109,zD [(NT 0 1),((decide ((↑i:Int)<(↑M:Int)))=true),zE 172 [.p (.seq true 1 S.1 (iRw S)),.p (.int .i64 (↑i:Int))] [] (.p (.bool false)),(false=false),(ZLo ((↑i:Int)+1)),(ZHi ((↑i:Int)+1)),(AN S.1),(AP S.1 (iRw S)),(AN 0),((((↑i:Int)+1):Int)=(↑(i+1):Int)),(AN 2),(NL 1 1),(AI n),(AN M),(AP M (bRw A)),(AI 0),(AN c),(NL c c),(AA c (fun i_1=>[.p (.int .i64 ((h i_1).1)),.p (.int .i64 ((h i_1).2.1))]))] [0,1,2,3,4,5,6,7,8,8,8,9,10,11,11,12,13,14,10,11,11,15,10,11,11,12,8,16,10,17,18]):=by kernel_rfl
theorem obe (n:Int) (M:Nat) (A:Nat→T_Bar) (S:T_IntS) (i c:Nat) (h:Nat→T_Bar) :
    zP Tryz.f56 0 [rg 5,.dec false,rg 2] zf109 (OBs n M A S i c h) [3] 1 [(0,brOb c h)] (.agg [.p (.int .i64 n),.ar 2 0 0 c]) =
    some [(NT 0 1),((decide ((↑i:Int)<(↑M:Int)))=false),(NT 0 1),(NT 0 1),((true=true)→ (AN 1)),(NT 0 1),(AI n),(AN 0),(AN c),(AN 2),(NL c c),(AA c (fun i_1=>[.p (.int .i64 ((h i_1).1)),.p (.int .i64 ((h i_1).2.1))])),(AE c)]:=by kernel_rfl
theorem con_OnlyBars_s (n:Int) (M:Nat) (A:Nat→T_Bar) (S:T_IntS) (hM:M≤100) (hS:S.1≤1000) :
    zE 56 [gaI n M A,inL S] [(0,brOb (obF S A 0 M zB).1 (obF S A 0 M zB).2)] (.agg [.p (.int .i64 n),.ar 2 0 0 (obF S A 0 M zB).1]):=by
  refine csZ Tryz.func56 (fun c hc=>?_)
  generalize hR:obF S A 0 M zB=R
  have lp:∀ d i cc f,i+d=M→cc≤i→obF S A i d (cc,f)=R→zR c 56 zf109 (OBs n M A S i cc f) (Post c [(0,brOb R.1 R.2)] (.agg [.p (.int .i64 n),.ar 2 0 0 R.1])):=by
    intro d
    induction d with
    | zero =>
      intro i cc f hi hcc he
      have hd:decide ((i:Int)<(M:Int))=false:=by simp;omega
      rw [← he]
      refine pkZ Tryz.func56 hc (obe n M A S i cc f) ?_
      and_intros
      all_goals (first | exact zI | (exact hd) | (intro j hj;simp [All]))
    | succ d ih =>
      intro i cc f hi hcc he
      have hd:decide ((i:Int)<(M:Int))=true:=by simp;omega
      have hh:=con_l2Has S (i:Int) (by omega)
      rw [obF] at he
      cases hb:hasI S.2 i S.1 with
      | true =>
        rw [hb] at he hh
        refine pcD hc (obt n M A S i cc f) ?_ (ih (i+1) (cc+1) _ (by omega) (by omega) he)
        and_intros
        all_goals (first | exact zI | (exact hd) | (exact hh) | (intro j hj;by_cases h':j<cc<;>simp [h',snoc,cvtL,cvt,tg,tru,All]))
      | false =>
        rw [hb] at he hh
        refine pcD hc (obf n M A S i cc f) ?_ (ih (i+1) cc _ (by omega) (by omega) he)
        and_intros
        all_goals (first | exact zN | (exact hd) | (exact hh) | (intro j hj;simp [All]))
  refine pcD hc (obz n M A S) ?_ (lp M 0 0 _ (by omega) (by omega) hR)
  and_intros
  all_goals (first | exact zI | (simp;done) | (intro j hj;simp [All]))
theorem fr_ext {P:Program} {f:FuncId} {H':Hp} {res:AV} {g h:Nat→T_Bar} {m:Nat} {N:Int} {pl:Nat→T_Place} {np:Nat} (hc:Con P f 0 [] [frA h m N pl np] H' res) (he:∀ i,i<m→g i=h i) :
    Con P f 0 [] [frA g m N pl np] H' res:=by
  refine hc.arg_ext ?_
  simp only [frA,brL,pcL,wkL,wk,wkP,beq_self_eq_true,Bool.and_self,if_true,ikEq,List.append_nil,List.cons_append,List.nil_append,All]
  and_intros<;>first | trivial | rfl | (intro i hi;trivial) | (intro i hi;rw [he i hi]) | (intro i hi;rfl)
theorem con_Loose19 {g:Nat→T_Bar} {nb:Nat} {N:Int} {pl:Nat→T_Place} {np:Nat} {K:T_IntS} {n q:Nat} {V:Nat→Nat→Int} (hn:nb≤1048576∧np≤1048576) (hK:K.1≤1048576) (hq:q≤1000∧n≤1000)
    (hV:∀ i,i<q→∀ j,j<n→-1073741824≤V i j∧V i j≤1073741824) :
    Con Tryz.prog 260 2 (loH n q V) [tsA g nb N pl np K,.ar 1 0 0 q]
      [(2,iOb (lsfQ (plB g nb N pl np K n) n V q 0).2.1 (lsfQ (plB g nb N pl np K n) n V q 0).2.2)] (.tup [.ar 1 2 0 (lsfQ (plB g nb N pl np K n) n V q 0).2.1,.p (.bool (lsfQ (plB g nb N pl np K n) n V q 0).1)]):=by
  refine csZ Tryz.func260 (fun c hc=>?_)
  generalize hR:lsfQ (plB g nb N pl np K n) n V q 0=R
  have lo:∀ d i,i+d=q→lsfQ (plB g nb N pl np K n) n V d i=R→zR c 260 zf125 (Ll0 g nb N pl np K n q V i) (Post c [(2,iOb R.2.1 R.2.2)] (.tup [.ar 1 2 0 R.2.1,.p (.bool R.1)])):=by
    intro d
    induction d with
    | zero =>
      intro i hi hr
      have hd:decide ((i:Int)<(q:Int))=false:=decide_eq_false (by omega)
      rw [← hr,lsfQ]
      refine pkZ Tryz.func260 hc (lle g nb N pl np K n q V i) ?_
      and_intros
      all_goals (first | exact zN | (exact hd) | (intro t ht;exact absurd ht (Nat.not_lt_zero _)) | (intros;simp [All];done))
    | succ d ih =>
      intro i hi hr
      have hd:decide ((i:Int)<(q:Int))=true:=decide_eq_true (by omega)
      have c1:=con_PLoose_s g nb N pl np K (n,V i) hn hK (by show n≤_;omega)
      have c2:=con_PLoose_s g nb N pl np K (n,fun s=>-(V i s)) hn hK (by show n≤_;omega)
      change Con _ _ _ _ _ _ (.p (.bool (plB g nb N pl np K n (V i)))) at c1
      change Con _ _ _ _ _ _ (.p (.bool (plB g nb N pl np K n (fun s=>-(V i s))))) at c2
      rw [lsfQ] at hr
      cases h1:plB g nb N pl np K n (V i) with
      | true =>
        rw [h1] at c1
        rw [h1,if_pos rfl] at hr
        rw [← hr]
        refine pkD Tryz.func260 hc (lly g nb N pl np K n q V i) ?_
        and_intros
        iterate 2 all_goals (first | exact zN | (exact hd) | (exact c1) | (intros;simp [All,cM];done) | simp only [All])
      | false =>
        rw [h1] at c1
        rw [h1,if_neg Bool.false_ne_true] at hr
        have li:∀ d k,k+d=n→zR c 260 zf22 (Ll1 g nb N pl np K n q V i k) (Post c [(2,iOb R.2.1 R.2.2)] (.tup [.ar 1 2 0 R.2.1,.p (.bool R.1)])):=by
          intro e
          induction e with
          | zero =>
            intro k hk
            obtain rfl:k=n:=by omega
            have hd2:decide ((k:Int)<(k:Int))=false:=decide_eq_false (by omega)
            cases h2:plB g nb N pl np K k (fun s=>-(V i s)) with
            | true =>
              rw [h2] at c2
              rw [h2,if_pos rfl] at hr
              rw [← hr]
              refine pkZ Tryz.func260 hc (llc g nb N pl np K k q V i) ?_
              and_intros
              all_goals (first | exact zN | (exact hd2) | (exact c2) | (intros;simp [All];done))
            | false =>
              rw [h2] at c2
              rw [h2,if_neg Bool.false_ne_true] at hr
              refine pcZ hc (lld g nb N pl np K k q V i) ?_ (ih (i+1) (by omega) hr)
              and_intros
              iterate 2 all_goals (first | exact zN | (exact hd2) | (exact c2) | (intros;simp [All];done) | simp only [All])
          | succ e ihe =>
            intro k hk
            have hd2:decide ((k:Int)<(n:Int))=true:=decide_eq_true (by omega)
            have b1:=hV i (by omega) k (by omega)
            have e1:(cM n V i).2 k=V i k:=rfl
            refine pcZ hc (llb g nb N pl np K n q V i k) ?_ (ihe (k+1) (by omega))
            and_intros
            iterate 2 all_goals (first | exact zN | (exact hd2) | (rw [e1];omega) | (intro t ht;by_cases h1:t<k<;>by_cases h2:t=k<;>(simp [h1,h2,cvtL,cvt,tg,tru,All,cM]<;>omega)) | (intros;simp [All];done) | simp only [All])
        refine pcZ hc (lla g nb N pl np K n q V i) ?_ (li n 0 (by omega))
        and_intros
        iterate 2 all_goals (first | exact zN | (exact hd) | (exact c1) | (intro t ht;exact absurd ht (Nat.not_lt_zero _)) | (intros;simp [All];done) | simp only [All])
  refine pcZ hc (llz g nb N pl np K n q V) ?_ (lo q 0 (by omega) hR)
  and_intros
  iterate 2 all_goals (first | exact zN | (intros;simp [All];done) | (intro t ht;simp [All,famE];done) | simp only [All])
theorem mo_small {g:Nat→T_Bar} {nb N:Nat} {pl:Nat→T_Place} {np:Nat} (hf:fwB g nb N pl np=true) {i:Nat} (hi:i<(moF g nb N pl).1) {j:Nat} (hj:j<2*N) :
    -1073741824≤(moF g nb N pl).2 i j∧(moF g nb N pl).2 i j≤1073741824:=(fw_ok hf).2.2.2.2.2.mo_small hi hj
theorem ngA_at (V:Nat→Nat→Int) (i:Nat):ngA V i i=V i:=by
  funext s;unfold ngA;rw [if_neg (Nat.lt_irrefl _)]
theorem ngA_next (V:Nat→Nat→Int) (i:Nat):ngA V (i+1) i=fun s=>-(V i s):=by
  funext s;unfold ngA;rw [if_pos (Nat.lt_succ_self _)]
theorem con_TryC {g:Nat→T_Bar} {nb N:Nat} {pl:Nat→T_Place} {np:Nat} {K:T_IntS} (hf:fwB g nb N pl np=true) (hK:K.1≤1048576) (S:T_IntS) (hS:S.1≤1000) {m:Nat} {h:Nat→T_Bar}
    (hm:(obF S g 0 nb zB).1=m) (he:∀ t,t<m→(obF S g 0 nb zB).2 t=h t) (hs:Sel g nb m h) :
    Con Tryz.prog 263 1 [(0,tsF g nb N pl np K)] [inL S,.pt 4 0 0 0]
      [(0,tsF g nb N pl np K),(1,iOb (tryR g nb N pl np K m h).2.1 (tryR g nb N pl np K m h).2.2)] (.tup [.ar 1 1 0 (tryR g nb N pl np K m h).2.1,.p (.bool (tryR g nb N pl np K m h).1)]):=by
  obtain ⟨h1,h2,h3,h4,hok,hb⟩:=fw_ok hf
  have hfh:=fwB_sel hf hs
  have co:=con_OnlyBars (N:Int) nb g S (by omega) hS
  have cm:=fr_ext (con_Motions hfh).1 (g:=(obF S g 0 nb zB).2) he
  rw [hm] at co
  have hsm:∀ i,i<(moF h m N pl).1→∀ j,j<2*N→-1073741824≤(moF h m N pl).2 i j∧(moF h m N pl).2 i j≤1073741824:=fun i hi j hj=>mo_small hfh hi hj
  have hql:=moF_le h m N pl
  unfold tryR
  generalize (obF S g 0 nb zB).2=hh at *
  generalize (moF h m N pl).2=V at *
  generalize (moF h m N pl).1=q at *
  refine csZ Tryz.func263 (fun c hc=>?_)
  generalize hR:lsfQ (plB g nb N pl np K (2*N)) (2*N) V q 0=R
  have lo:∀ d i,i+d=q→lsfQ (plB g nb N pl np K (2*N)) (2*N) V d i=R→zR c 263 zf99 (Lt0c g nb N pl np K (2*N) q V i)
      (Post c [(0,tsF g nb N pl np K),(1,iOb R.2.1 R.2.2)] (.tup [.ar 1 1 0 R.2.1,.p (.bool R.1)])):=by
    intro d
    induction d with
    | zero =>
      intro i hi hr
      have hd:decide ((i:Int)<(q:Int))=false:=decide_eq_false (by omega)
      rw [← hr,lsfQ]
      refine pkZ Tryz.func263 hc (lte1 g nb N pl np K (2*N) q V i) ?_
      and_intros
      iterate 2 all_goals (first | exact zN | (exact hd) | (intro t ht;exact absurd ht (Nat.not_lt_zero _)) | (intros;simp [All];done) | simp only [All])
    | succ d ih =>
      intro i hi hr
      have hd:decide ((i:Int)<(q:Int))=true:=decide_eq_true (by omega)
      have c1:=con_PLoose_i g nb N pl np K (2*N,ngA V i i) (by omega) hK (by show 2*N≤_;omega)
      have c2:=con_PLoose_i g nb N pl np K (2*N,ngA V (i+1) i) (by omega) hK (by show 2*N≤_;omega)
      change Con _ _ _ _ _ _ (.p (.bool (plB g nb N pl np K (2*N) (ngA V i i)))) at c1
      change Con _ _ _ _ _ _ (.p (.bool (plB g nb N pl np K (2*N) (ngA V (i+1) i)))) at c2
      rw [lsfQ] at hr
      cases h1:plB g nb N pl np K (2*N) (V i) with
      | true =>
        rw [ngA_at,h1,← ngA_at V i] at c1
        rw [h1,if_pos rfl] at hr
        rw [← hr]
        refine pkZ Tryz.func263 hc (lty1 g nb N pl np K (2*N) q V i (V i)) ?_
        and_intros
        iterate 2 all_goals (first | exact zN | (exact hd) | (exact c1) | (intro t ht;simp [All,cM,ngA];done) | (intros;simp [All];done) | simp only [All])
      | false =>
        rw [ngA_at,h1,← ngA_at V i] at c1
        rw [h1,if_neg Bool.false_ne_true] at hr
        have fin:zR c 263 ltcE (Lt2c g nb N pl np K (2*N) q V i) (Post c [(0,tsF g nb N pl np K),(1,iOb R.2.1 R.2.2)] (.tup [.ar 1 1 0 R.2.1,.p (.bool R.1)])):=by
          cases h2:plB g nb N pl np K (2*N) (fun s=>-(V i s)) with
          | true =>
            rw [ngA_next,h2,← ngA_next V i] at c2
            rw [h2,if_pos rfl] at hr
            rw [← hr]
            refine pkZ Tryz.func263 hc (ltd1 g nb N pl np K (2*N) q V i (fun s=>-(V i s))) ?_
            and_intros
            iterate 2 all_goals (first | exact zN | (exact c2) | (intro t ht;simp [All,cM,ngA];done) | (intros;simp [All];done) | simp only [All])
          | false =>
            rw [ngA_next,h2,← ngA_next V i] at c2
            rw [h2,if_neg Bool.false_ne_true] at hr
            refine pcZ hc (ltf1 g nb N pl np K (2*N) q V i) ?_ (ih (i+1) (by omega) hr)
            and_intros
            iterate 2 all_goals (first | exact zN | (exact c2) | (intros;simp [All];done) | simp only [All])
        have li:∀ d k,k+d=2*N→zR c 263 zf16 (Lt1c g nb N pl np K (2*N) q V i k) (Post c [(0,tsF g nb N pl np K),(1,iOb R.2.1 R.2.2)] (.tup [.ar 1 1 0 R.2.1,.p (.bool R.1)])):=by
          intro e
          induction e with
          | zero =>
            intro k hk
            obtain rfl:k=2*N:=by omega
            have hd2:decide (((2*N:Nat):Int)<((2*N:Nat):Int))=false:=decide_eq_false (by omega)
            refine pcZ hc (ltc1 g nb N pl np K (2*N) q V i) ?_ fin
            repeat' (first | exact aN | apply aI)
            iterate 2 all_goals (first | exact zN | (exact hd2) | (intro a ha;simp only [All,cM];refine ⟨trivial,Nat.le_refl _,fun s hs=>?_,trivial⟩;unfold ngM ngA;by_cases q1:a<i<;>by_cases q2:a=i<;>by_cases q3:a<i+1<;>(simp [q1,q2,q3,hs]<;>omega)) | (intros;simp [All];done) | simp only [All])
          | succ e ihe =>
            intro k hk
            have hd2:decide ((k:Int)<((2*N:Nat):Int))=true:=decide_eq_true (by omega)
            have b1:=hsm i (by omega) k (by omega)
            have e1:(cM (2*N) (ngM V i k) i).2 k=V i k:=by
              show ngM V i k i k=V i k
              unfold ngM;rw [if_neg (Nat.lt_irrefl _),if_pos rfl,if_neg (Nat.lt_irrefl _)]
            refine pcZ hc (ltb1 g nb N pl np K (2*N) q V i k) ?_ (ihe (k+1) (by omega))
            repeat' (first | exact aN | apply aI)
            all_goals (first | exact zI | (exact hd2) | (rw [e1];omega) | (intro a ha;by_cases q2:a=i<;>(simp only [q2,if_true,if_false,famE,All];refine ⟨trivial,Nat.le_refl _,fun s hs=>?_,trivial⟩;by_cases q3:s=k<;>by_cases q4:s<k<;>by_cases q5:s<k+1<;>by_cases q1:a<i<;>(simp [q1,q2,q3,q4,q5,toP,cM,ngM]<;>omega))) | (intros;simp [All];done))
        refine pcZ hc (lta1 g nb N pl np K (2*N) q V i) ?_ (li (2*N) 0 (by omega))
        repeat' (first | exact aN | apply aI)
        iterate 2 all_goals (first | exact zN | (exact hd) | (exact c1) | (intro a ha;simp only [All,cM];refine ⟨trivial,Nat.le_refl _,fun s hs=>?_,trivial⟩;unfold ngM ngA;by_cases q1:a<i<;>by_cases q2:a=i<;>(simp [q1,q2]<;>omega)) | (intros;simp [All];done) | simp only [All])
  refine pcZ hc (ltz1 g nb N pl np K S hh m (2*N) q V) ?_ (lo q 0 (by omega) hR)
  repeat' (first | exact aN | apply aI)
  iterate 2 all_goals (first | exact zI | (exact co) | (exact cm) | (intro a ha;simp only [All,cM];refine ⟨trivial,Nat.le_refl _,fun s hs=>?_,trivial⟩;simp [ngA];done) | (intros;simp [All];done) | simp only [All])
theorem hasI_cong {g h:Nat→Int} {x:Int}:∀ {n:Nat},(∀ i,i<n→g i=h i)→hasI g x n=hasI h x n
  | 0,_=>rfl
  | n+1,H=>by rw [hasI,hasI,hasI_cong (fun i hi=>H i (by omega)),H n (by omega)]
theorem flt_has (p:Nat→Bool) (e:Nat):∀ n,hasI (flt p n).2 (e:Int) (flt p n).1=(decide (e<n)&&p e)
  | 0=>by simp [flt,hasI]
  | n+1=>by
    have h:=flt_has p e n
    cases hp:p n with
    | true =>
      rw [flt_t hp]
      show (hasI (fun s=>if s<(flt p n).1 then (flt p n).2 s else (n:Int)) (e:Int) (flt p n).1||(if (flt p n).1<(flt p n).1 then (flt p n).2 (flt p n).1 else (n:Int))==(e:Int))=_
      rw [hasI_cong (h:=(flt p n).2) (fun i hi=>if_pos hi),h,if_neg (Nat.lt_irrefl _)]
      by_cases he:e=n
      · subst he;simp [hp]
      · have h1:((n:Int)==(e:Int))=false:=beq_eq_false_iff_ne.2 (by omega)
        rw [h1,Bool.or_false]
        by_cases h2:e<n
        · rw [decide_eq_true h2,decide_eq_true (show e<n+1 by omega)]
        · rw [decide_eq_false h2,decide_eq_false (show ¬ e<n+1 by omega)]
    | false =>
      rw [flt_f hp,h]
      by_cases he:e=n
      · subst he;simp [hp]
      · by_cases h2:e<n
        · rw [decide_eq_true h2,decide_eq_true (show e<n+1 by omega)]
        · rw [decide_eq_false h2,decide_eq_false (show ¬ e<n+1 by omega)]
theorem con_FLoose_i (g:Nat→T_Bar) (nb:Nat) (N:Int) (pl:Nat→T_Place) (np:Nat) (K:T_IntS) (hn:nb≤1048576∧np≤1048576) (hK:K.1≤1048576) :
    zE 154 [tsA g nb N pl np K] [(0,iOb (flmF g nb N pl np K).2.1 (flmF g nb N pl np K).2.2)] (.tup [.ar 1 0 0 (flmF g nb N pl np K).2.1,.p (.bool (flmF g nb N pl np K).1)]):=by
  have c1:=con_IsTensegrity_i g nb N pl np K hn hK
  unfold flmF
  cases ht:tsB g nb N pl np K with
  | false =>
    rw [ht] at c1
    rw [if_neg Bool.false_ne_true]
    refine csZ Tryz.func154 (fun c hc=>?_)
    refine pkZ Tryz.func154 hc (fmn g nb N pl np K) ?_
    and_intros
    all_goals (first | exact zN | (exact c1) | (intro t ht;exact absurd ht (Nat.not_lt_zero _)) | (intros;simp [All];done))
  | true =>
    rw [ht] at c1
    rw [if_pos rfl]
    obtain ⟨hk,hf⟩:=ts_len ht
    obtain ⟨n,rfl⟩:=fw_N hf
    obtain ⟨h1,h2,h3,h4,hok,hb⟩:=fw_ok hf
    rw [Int.toNat_natCast]
    have c2:=(con_FindMotion hf).1
    cases hm:(fmF g nb n pl np).2 with
    | true =>
      rw [hm] at c2
      rw [if_pos rfl]
      generalize (fmF g nb n pl np).1=r at *
      refine csZ Tryz.func154 (fun c hc=>?_)
      refine pkZ Tryz.func154 hc (fmy g nb n pl np K r.1 r.2) ?_
      and_intros
      all_goals (first | exact zN | (exact c1) | (exact c2) | (intros;simp [All];done))
    | false =>
      rw [hm] at c2
      rw [if_neg Bool.false_ne_true]
      generalize (fmF g nb n pl np).1=r at *
      refine csZ Tryz.func154 (fun c hc=>?_)
      generalize hR:fgoF g nb n pl np K nb 0=R
      have lo:∀ d i,i+d=nb→fgoF g nb n pl np K d i=R→zR c 154 zf55 (Fm0 g nb n pl np K (flt (kbF K) i) i)
          (Post c [(0,iOb R.2.1 R.2.2)] (.tup [.ar 1 0 0 R.2.1,.p (.bool R.1)])):=by
        intro d
        induction d with
        | zero =>
          intro i hi hr
          obtain rfl:i=nb:=by omega
          have hd:decide ((i:Int)<(K.1:Int))=false:=decide_eq_false (by omega)
          have hfn:=flt_n (kbF K) i
          have cr:=con_TryC hf hK (flt (kbF K) i) (by omega) rfl (fun t ht=>rfl) (ob_sel (flt (kbF K) i) g i)
          rw [fgoF] at hr
          rw [hr] at cr
          refine pkZ Tryz.func154 hc (fmg2 g i n pl np K (flt (kbF K) i) i R.1 R.2.1 R.2.2) ?_
          and_intros
          all_goals (first | exact zN | (exact hd) | (exact cr) | (intros;simp [All];done))
        | succ d ih =>
          intro i hi hr
          have hd:decide ((i:Int)<(K.1:Int))=true:=decide_eq_true (by omega)
          have hfn:=flt_n (kbF K) i
          rw [fgoF] at hr
          cases hb:kbF K i with
          | true =>
            rw [hb,if_pos rfl] at hr
            have hb':(K.2 i==0)=true:=hb
            have hrec:=ih (i+1) (by omega) hr
            rw [flt_t hb] at hrec
            generalize flt (kbF K) i=B at *
            refine pcZ hc (fma2 g nb n pl np K B i) ?_ hrec
            and_intros
            all_goals (first | exact zN | (exact hd) | (exact hb') | (intro t ht;by_cases h':t<B.1<;>(simp [h',cvtL,cvt,tg,tru,All];done)) | (intros;simp [All];done))
          | false =>
            rw [hb,if_neg Bool.false_ne_true] at hr
            have hb':(K.2 i==0)=false:=hb
            have hrec:fgoF g nb n pl np K d (i+1)=R→zR c 154 zf55 (Fm0 g nb n pl np K (flt (kbF K) i) (i+1))
                (Post c [(0,iOb R.2.1 R.2.2)] (.tup [.ar 1 0 0 R.2.1,.p (.bool R.1)])):=fun h=>by
              have:=ih (i+1) (by omega) h
              rw [flt_f hb] at this
              exact this
            have hsk:=ob_skip (S:=flt (noF i) nb) (A:=g) (e:=i) (nb:=nb) (by omega) (fun j hj=>by rw [flt_has,decide_eq_true hj,Bool.true_and];rfl) nb (Nat.le_refl _)
            rw [if_neg (by omega)] at hsk
            have hfr:=flt_n (noF i) nb
            have cr:=con_TryC hf hK (flt (noF i) nb) (by omega) hsk.1 (fun t ht=>hsk.2 t (by rw [hsk.1];exact ht)) (dl_sel (g:=g) (by omega))
            generalize flt (kbF K) i=B at *
            have li:∀ e j,j+e=nb→zR c 154 zf9 (Fm1 g nb n pl np K B i (flt (noF i) j) j) (Post c [(0,iOb R.2.1 R.2.2)] (.tup [.ar 1 0 0 R.2.1,.p (.bool R.1)])):=by
              intro e
              induction e with
              | zero =>
                intro j hj
                obtain rfl:j=nb:=by omega
                have hd2:decide ((j:Int)<(K.1:Int))=false:=decide_eq_false (by omega)
                generalize flt (noF i) j=S at *
                generalize tryR g j n pl np K (j - 1) (dlB g i)=t at *
                cases ht1:t.1 with
                | true =>
                  rw [ht1] at cr
                  rw [ht1,if_pos rfl] at hr
                  rw [← hr]
                  refine pkZ Tryz.func154 hc (fme2 g j n pl np K B i S j t.2.1 t.2.2) ?_
                  and_intros
                  all_goals (first | exact zN | (exact hd2) | (exact cr) | (intros;simp [All];done))
                | false =>
                  rw [ht1] at cr
                  rw [ht1,if_neg Bool.false_ne_true] at hr
                  refine pcZ hc (fmf2 g j n pl np K B i S j t.2.1 t.2.2) ?_ (hrec hr)
                  and_intros
                  all_goals (first | exact zN | (exact hd2) | (exact cr) | (intros;simp [All];done))
              | succ e ihe =>
                intro j hj
                have hd2:decide ((j:Int)<(K.1:Int))=true:=decide_eq_true (by omega)
                have hfj:=flt_n (noF i) j
                have hr2:=ihe (j+1) (by omega)
                cases hno:noF i j with
                | true =>
                  have hno':(!((j:Int)==(i:Int)))=true:=hno
                  rw [flt_t hno] at hr2
                  generalize flt (noF i) j=S at *
                  refine pcD hc (fmc2 g nb n pl np K B i S j) ?_ hr2
                  and_intros
                  all_goals (first | exact zN | (exact hd2) | (exact hno') | (intro t ht;by_cases h':t<S.1<;>(simp [h',cvtL,cvt,tg,tru,All];done)) | (intros;simp [All];done))
                | false =>
                  have hno':(!((j:Int)==(i:Int)))=false:=hno
                  rw [flt_f hno] at hr2
                  generalize flt (noF i) j=S at *
                  refine pcD hc (fmd2 g nb n pl np K B i S j) ?_ hr2
                  and_intros
                  all_goals (first | exact zN | (exact hd2) | (exact hno') | (intros;simp [All];done))
            refine pcD hc (fmb2 g nb n pl np K B i) ?_ (li nb 0 (by omega))
            and_intros
            iterate 2 all_goals (first | exact zN | (exact hd) | (exact hb') | (intro t ht;exact absurd ht (Nat.not_lt_zero _)) | (intros;simp [All];done) | simp only [All])
      refine pcD hc (fmz2 g nb n pl np K r.1 r.2) ?_ (lo nb 0 (by omega) hR)
      and_intros
      iterate 2 all_goals (first | exact zN | (exact c1) | (exact c2) | (intro t ht;exact absurd ht (Nat.not_lt_zero _)) | (intros;simp [All];done) | simp only [All])
theorem con_FLoose_s (g:Nat→T_Bar) (nb:Nat) (N:Int) (pl:Nat→T_Place) (np:Nat) (K:T_IntS) (hn:nb≤1048576∧np≤1048576) (hK:K.1≤1048576) :
    zE 150 [tsA g nb N pl np K] [(0,iOb (flmF g nb N pl np K).2.1 (flmF g nb N pl np K).2.2)] (.tup [.ar 1 0 0 (flmF g nb N pl np K).2.1,.p (.bool (flmF g nb N pl np K).1)]):=by
  have c1:=con_IsTensegrity_s g nb N pl np K hn hK
  unfold flmF
  cases ht:tsB g nb N pl np K with
  | false =>
    rw [ht] at c1
    rw [if_neg Bool.false_ne_true]
    refine csZ Tryz.func150 (fun c hc=>?_)
    refine pkZ Tryz.func150 hc (fnn g nb N pl np K) ?_
    and_intros
    all_goals (first | exact zN | (exact c1) | (intro t ht;exact absurd ht (Nat.not_lt_zero _)) | (intros;simp [All];done))
  | true =>
    rw [ht] at c1
    rw [if_pos rfl]
    obtain ⟨hk,hf⟩:=ts_len ht
    obtain ⟨n,rfl⟩:=fw_N hf
    obtain ⟨h1,h2,h3,h4,hok,hb⟩:=fw_ok hf
    rw [Int.toNat_natCast]
    have c2:=(con_FindMotion hf).2
    cases hm:(fmF g nb n pl np).2 with
    | true =>
      rw [hm] at c2
      rw [if_pos rfl]
      generalize (fmF g nb n pl np).1=r at *
      refine csZ Tryz.func150 (fun c hc=>?_)
      refine pkZ Tryz.func150 hc (fny g nb n pl np K r.1 r.2) ?_
      and_intros
      all_goals (first | exact zN | (exact c1) | (exact c2) | (intros;simp [All];done))
    | false =>
      rw [hm] at c2
      rw [if_neg Bool.false_ne_true]
      generalize (fmF g nb n pl np).1=r at *
      refine csZ Tryz.func150 (fun c hc=>?_)
      generalize hR:fgoF g nb n pl np K nb 0=R
      have lo:∀ d i,i+d=nb→fgoF g nb n pl np K d i=R→zR c 150 zf59 (Fn0 g nb n pl np K (flt (kbF K) i) i)
          (Post c [(0,iOb R.2.1 R.2.2)] (.tup [.ar 1 0 0 R.2.1,.p (.bool R.1)])):=by
        intro d
        induction d with
        | zero =>
          intro i hi hr
          obtain rfl:i=nb:=by omega
          have hd:decide ((i:Int)<(K.1:Int))=false:=decide_eq_false (by omega)
          have hfn:=flt_n (kbF K) i
          have co:=con_OnlyBars_s (n:Int) i g (flt (kbF K) i) (by omega) (by omega)
          have hsel:=ob_sel (flt (kbF K) i) g i
          have hfh:=fwB_sel hf hsel
          have cm:=(con_Motions hfh).2
          have hql:=moF_le (obF (flt (kbF K) i) g 0 i zB).2 (obF (flt (kbF K) i) g 0 i zB).1 n pl
          have cl:=con_Loose19 (g:=g) (nb:=i) (N:=n) (pl:=pl) (np:=np) (K:=K) (n:=2*n) hn hK ⟨by omega,by omega⟩ (fun a ha b hb=>mo_small hfh ha hb)
          rw [fgoF] at hr
          unfold tryR at hr
          rw [hr] at cl
          generalize obF (flt (kbF K) i) g 0 i zB=x at *
          generalize (moF x.2 x.1 n pl).2=V at *
          generalize (moF x.2 x.1 n pl).1=q at *
          refine pkZ Tryz.func150 hc (fng2 g i n pl np K (flt (kbF K) i) i x.1 x.2 (2*n) q V R.2.1 R.2.2 R.1) ?_
          and_intros
          all_goals (first | exact zN | (exact hd) | (exact co) | (exact cm) | (exact cl) | (intros;simp [All];done))
        | succ d ih =>
          intro i hi hr
          have hd:decide ((i:Int)<(K.1:Int))=true:=decide_eq_true (by omega)
          have hfn:=flt_n (kbF K) i
          rw [fgoF] at hr
          cases hb:kbF K i with
          | true =>
            rw [hb,if_pos rfl] at hr
            have hb':(K.2 i==0)=true:=hb
            have hrec:=ih (i+1) (by omega) hr
            rw [flt_t hb] at hrec
            generalize flt (kbF K) i=B at *
            refine pcZ hc (fna2 g nb n pl np K B i) ?_ hrec
            and_intros
            all_goals (first | exact zN | (exact hd) | (exact hb') | (intro t ht;by_cases h':t<B.1<;>(simp [h',cvtL,cvt,tg,tru,All];done)) | (intros;simp [All];done))
          | false =>
            rw [hb,if_neg Bool.false_ne_true] at hr
            have hb':(K.2 i==0)=false:=hb
            have hrec:fgoF g nb n pl np K d (i+1)=R→zR c 150 zf59 (Fn0 g nb n pl np K (flt (kbF K) i) (i+1))
                (Post c [(0,iOb R.2.1 R.2.2)] (.tup [.ar 1 0 0 R.2.1,.p (.bool R.1)])):=fun h=>by
              have:=ih (i+1) (by omega) h
              rw [flt_f hb] at this
              exact this
            have co:=con_gRemove_s h1 i (by omega)
            have hsel:=dl_sel (g:=g) (nb:=nb) (e:=i) (by omega)
            have hfh:=fwB_sel hf hsel
            have cm:=(con_Motions hfh).2
            have hql:=moF_le (dlB g i) (nb - 1) n pl
            have cl:=con_Loose19 (g:=g) (nb:=nb) (N:=n) (pl:=pl) (np:=np) (K:=K) (n:=2*n) hn hK ⟨by omega,by omega⟩ (fun a ha b hb=>mo_small hfh ha hb)
            change Con _ _ _ _ _ [(2,iOb (tryR g nb n pl np K (nb - 1) (dlB g i)).2.1 (tryR g nb n pl np K (nb - 1) (dlB g i)).2.2)] (.tup [.ar 1 2 0 (tryR g nb n pl np K (nb - 1) (dlB g i)).2.1,.p (.bool (tryR g nb n pl np K (nb - 1) (dlB g i)).1)]) at cl
            generalize tryR g nb n pl np K (nb - 1) (dlB g i)=t at *
            generalize (moF (dlB g i) (nb - 1) n pl).2=V at *
            generalize (moF (dlB g i) (nb - 1) n pl).1=q at *
            generalize flt (kbF K) i=B at *
            cases ht1:t.1 with
            | true =>
              rw [ht1] at cl
              rw [ht1,if_pos rfl] at hr
              rw [← hr]
              refine pkZ Tryz.func150 hc (fne2 g nb n pl np K B i (nb - 1) (dlB g i) (2*n) q V t.2.1 t.2.2) ?_
              and_intros
              all_goals (first | exact zI | (exact hd) | (exact hb') | (exact co) | (exact cm) | (exact cl) | (intros;simp [All];done))
            | false =>
              rw [ht1] at cl
              rw [ht1,if_neg Bool.false_ne_true] at hr
              refine pcZ hc (fnf2 g nb n pl np K B i (nb - 1) (dlB g i) (2*n) q V t.2.1 t.2.2) ?_ (hrec hr)
              and_intros
              all_goals (first | exact zI | (exact hd) | (exact hb') | (exact co) | (exact cm) | (exact cl) | (intros;simp [All];done))
      refine pcZ hc (fnz2 g nb n pl np K r.1 r.2) ?_ (lo nb 0 (by omega) hR)
      and_intros
      iterate 2 all_goals (first | exact zN | (exact c1) | (exact c2) | (intro t ht;exact absurd ht (Nat.not_lt_zero _)) | (intros;simp [All];done) | simp only [All])
def fsTq (good:(Nat→Int)→Bool) (nb:Nat) (V:Nat→Nat→Int):Nat→Nat→Bool×T_IntS
  | 0,_=>(false,(0,fun _=>0))
  | e+1,t=>if good (V t)=true then (true,(nb,V t)) else fsTq good nb V e (t+1)
def goF (F:Int→Bool×T_IntS):Nat→Int→Bool×T_IntS
  | 0,_=>(false,(0,fun _=>0))
  | e+1,f=>if (F f).1=true then (true,(F f).2) else goF F e (f+1)
def adV (w s:Nat→Int) (f:Int):Nat→Int:=fun j=>w j+f*s j
def fsS (good:(Nat→Int)→Bool) (nb:Nat) (S:Nat→Nat→Int):Nat→Nat→(Nat→Int)→Bool×T_IntS
  | 0,_,w=>(good w,(nb,w))
  | d+1,i,w=>goF (fun f=>fsS good nb S d (i+1) (adV w (S i) f)) 5 (-2)
def EqF (r s:Bool×T_IntS):Prop:=r.1=s.1∧(s.1=true→r=s)
theorem fsTq_add (good:(Nat→Int)→Bool) (nb:Nat) (V:Nat→Nat→Int):∀ a b t,fsTq good nb V (a+b) t=if (fsTq good nb V a t).1=true then fsTq good nb V a t else fsTq good nb V b (t+a)
  | 0,b,t=>by rw [Nat.zero_add,fsTq,if_neg Bool.false_ne_true,Nat.add_zero]
  | a+1,b,t=>by
    rw [show a+1+b=(a+b)+1 by omega,fsTq,fsTq]
    by_cases h:good (V t)=true
    · rw [if_pos h,if_pos h,if_pos rfl]
    · rw [if_neg h,if_neg h,fsTq_add good nb V a b (t+1),show t+1+a=t+(a+1) by omega]
theorem trS_step (S:Nat→Nat→Int) (i t a:Nat) (ha:a<5):adV (trS S i t) (S i) ((a:Int) - 2)=trS S (i+1) (5*t+a):=by
  funext j
  rw [trS,show (5*t+a) / 5=t by omega,show (5*t+a) % 5=a by omega]
  rfl
theorem fsS_go (good:(Nat→Int)→Bool) (nb:Nat) (S:Nat→Nat→Int) (d i t0:Nat) (ih:∀ t,EqF (fsS good nb S d (i+1) (trS S (i+1) t)) (fsTq good nb (trS S (i+1+d)) (5 ^ d) (t*5 ^ d))) :
    ∀ (e a:Nat),a+e=5→EqF (goF (fun f=>fsS good nb S d (i+1) (adV (trS S i t0) (S i) f)) e ((a:Int) - 2)) (fsTq good nb (trS S (i+1+d)) (e*5 ^ d) ((5*t0+a)*5 ^ d))
  | 0,a,_=>by rw [goF,Nat.zero_mul,fsTq];exact ⟨rfl,fun _=>rfl⟩
  | e+1,a,h=>by
    have h1:=ih (5*t0+a)
    have h2:=fsS_go good nb S d i t0 ih e (a+1) (by omega)
    rw [show (5*t0+(a+1))*5 ^ d=(5*t0+a)*5 ^ d+5 ^ d by rw [← Nat.add_assoc,Nat.add_mul (5*t0+a) 1,Nat.one_mul]] at h2
    rw [show (e+1)*5 ^ d=5 ^ d+e*5 ^ d by rw [Nat.add_mul,Nat.one_mul,Nat.add_comm],fsTq_add,goF]
    simp only [trS_step S i t0 a (by omega)]
    obtain ⟨k1,k2⟩:=h1
    by_cases hb:(fsTq good nb (trS S (i+1+d)) (5 ^ d) ((5*t0+a)*5 ^ d)).1=true
    · rw [if_pos hb,if_pos (by rw [k1];exact hb),k2 hb]
      refine ⟨hb.symm,fun _=>?_⟩
      rw [← hb]
    · rw [if_neg hb,if_neg (by rw [k1];exact hb),show (a:Int) - 2+1=((a+1:Nat):Int) - 2 by omega]
      exact h2
theorem fsS_eq (good:(Nat→Int)→Bool) (nb:Nat) (S:Nat→Nat→Int):∀ d i t0,EqF (fsS good nb S d i (trS S i t0)) (fsTq good nb (trS S (i+d)) (5 ^ d) (t0*5 ^ d))
  | 0,i,t0=>by
    rw [fsS,Nat.pow_zero,Nat.mul_one,Nat.add_zero,fsTq,fsTq]
    by_cases h:good (trS S i t0)=true
    · rw [if_pos h,h];exact ⟨rfl,fun _=>rfl⟩
    · rw [if_neg h]
      exact ⟨by simpa using h,fun h'=>absurd h' Bool.false_ne_true⟩
  | d+1,i,t0=>by
    have h:=fsS_go good nb S d i t0 (fun t=>by have:=fsS_eq good nb S d (i+1) t;exact this) 5 0 rfl
    rw [fsS,show 5 ^ (d+1)=5*5 ^ d by rw [Nat.pow_succ,Nat.mul_comm],show i+(d+1)=i+1+d by omega,show t0*(5*5 ^ d)=(5*t0+0)*5 ^ d by rw [Nat.add_zero,← Nat.mul_assoc,Nat.mul_comm t0 5]]
    exact h
theorem trS_b {S:Nat→Nat→Int} {B:Int} {p n:Nat} (hS:∀ i,i<p→∀ j,j<n→-B≤S i j∧S i j≤B):∀ i,i≤p→∀ t j,j<n→-(2*B*i)≤trS S i t j∧trS S i t j≤2*B*i
  | 0,_,t,j,_=>by rw [trS];omega
  | i+1,hi,t,j,hj=>by
    have h1:=trS_b hS i (by omega) (t / 5) j hj
    have h2:=hS i (by omega) j hj
    rw [trS]
    have h3:t % 5=0∨t % 5=1∨t % 5=2∨t % 5=3∨t % 5=4:=by omega
    have e:2*B*((i+1:Nat):Int)=2*B*i+2*B:=by rw [Int.natCast_add,Int.mul_add];simp
    rw [e]
    rcases h3 with h | h | h | h | h<;>rw [h]<;>simp<;>omega
def tqO (n m c:Nat):Ob:=⟨false,1,n,fun i=>if i<c then [.ar 1 ⟨1,some i⟩ 0 m] else [.p .nil]⟩
def tqP (n m c k:Nat):Ob:=⟨false,1,n,fun i=>if i<c then [.ar 1 ⟨1,some i⟩ 0 m] else if i=c then [.ar 1 2 0 k] else [.p .nil]⟩
def Tq0 (n m:Nat) (M:Nat→Nat→Int) (c:Nat):St :=
  ⟨[ssA2 m (cM n M),.p (.int .i64 n),.p .any,.p .any,.p .any,.ar 1 0 0 n,.p .any,.p .any,.p .any,.p .any,.p .any,.ar 1 0 0 n,.p (.int .i64 n),.p (.int .i64 c)]++List.replicate 28 anyA,[(0,tqO n m c),(1,ffOb c (cM m (trM M)))],2⟩
def Tq1 (n m:Nat) (M:Nat→Nat→Int) (c k:Nat):St :=
  ⟨[ssA2 m (cM n M),.p (.int .i64 n),.p .any,.p .any,.p .any,.ar 1 0 0 n,.p (.int .i64 c),.p .any,.p .any,.p .any,.p .any,.ar 1 0 0 n,.p (.int .i64 n),.p (.int .i64 c)]++List.replicate 6 anyA++[ssA2 m (cM n M),.p (.int .i64 m),.p (.int .i64 k)]++List.replicate 19 anyA,[(0,tqP n m c k),(1,ffOb c (cM m (trM M))),(2,iOb k (trM M c))],3⟩
theorem tqz (n m:Nat) (M:Nat→Nat→Int) :
    zT Tryz.f332 [rg 1,rg 3,rg 3,.head] [ssA2 m (cM n M),.p (.int .i64 n)] [64] (Tq0 n m M 0) =
    some (zf100,[(IL 0 (↑n:Int)),(IL (↑n:Int) (↑n:Int)),(IL ((↑n:Int)*(↑24:Int)) 281474976710656),(ZHi (↑n:Int)),(AN m),(AP m (fun i=>[.seq true 1 n (fun i_1=>[.int .i64 ((cM n M i).2 i_1)])])),(AI ((↑n:Int))),(AN 0),(AN n),(AN 0),(AN n),(AI ((↑n:Int))),((0:Int)=(↑0:Int)),(AN 1),(NL n n),(AA n (fun i=>[.p (.nil)])),(AN 0)]):=by kernel_rfl
theorem tqa (n m:Nat) (M:Nat→Nat→Int) (c:Nat) :
    zM 0 [rg 1,.dec true,rg 2,rg 5,rg 3,.head] zf100 (Tq0 n m M c) [0,1,162] 1 (Tq1 n m M c 0) =
    some (zf24,zD [((decide ((↑c:Int)<(↑n:Int)))=true),(IL 0 (↑c:Int)),(IT (↑c:Int) (↑n:Int)),(NT c n),((false=true)→ ((n:Nat)=1)),(AN m),(AP m (fun i=>[.seq true 1 n (fun i_1=>[.int .i64 ((cM n M i).2 i_1)])])),(AI ((↑n:Int))),(AN 0),(AN n),(AI ((↑c:Int))),(AI ((↑m:Int))),((0:Int)=(↑0:Int)),(AN 1),(NL n n),(CV [(0,⟨false,1,n,(fun i_1=>(if (i_1=c) then [.ar 1 162 0 0] else (if (i_1<c) then [.ar 1 ⟨1,some i_1⟩ 0 m] else [.p (.nil)])))⟩),(162,⟨false,1,0,(fun i_1=>[.p (.int .i64 0)])⟩),(1,⟨true,0,c,(fun i_1=>[.p (.seq false 1 m (fun i_2=>[.int .i64 ((cM m (trM M) i_1).2 i_2)]))])⟩)] [0,1,162] 1 n (fun i=>if (i=c) then [.ar 1 162 0 0] else (if (i<c) then [.ar 1 ⟨1,some i⟩ 0 m] else [.p (.nil)])) (fun i=>if (i<c) then [.ar 1 ⟨1,some i⟩ 0 m] else (if (i=c) then [.ar 1 2 0 0] else [.p (.nil)]))),(NL c c),(∀ i:Nat,(((i:Nat)<c)→All [(AN 1),((m:Nat)≤m),(AP m (fun r=>[.int .i64 ((cM m (trM M) i).2 r)]))])),(NL 0 0),(∀ i:Nat,(((i:Nat)<0)→(All []∧(([.p (.int .i64 0)]:List AV)=[.p (.int .i64 (trM M c i))]))))] [0,1,2,3,4,5,6,7,8,9,10,8,9,7,10,5,6,11,12,13,14,15,16,17,13,18,19]):=by kernel_rfl
theorem tqc (n m:Nat) (M:Nat→Nat→Int) (c:Nat) :
    zM 0 [rg 1,.dec false,rg 2,.head] zf24 (Tq1 n m M c m) [0,.ins 1 c 2] 1 (Tq0 n m M (c+1)) =
    some (zf100,[((decide ((↑m:Int)<(↑m:Int)))=false),(ZLo ((↑c:Int)+1)),(ZHi ((↑c:Int)+1)),(AN m),(AP m (fun i=>[.seq true 1 n (fun i_1=>[.int .i64 ((cM n M i).2 i_1)])])),(AI ((↑n:Int))),(AN 0),(AN n),(AN 0),(AN n),(AI ((↑n:Int))),((((↑c:Int)+1):Int)=(↑(c+1):Int)),(AN 1),(NL n n),(CV [(0,⟨false,1,n,(fun i_1=>(if (i_1<c) then [.ar 1 ⟨1,some i_1⟩ 0 m] else (if (i_1=c) then [.ar 1 2 0 m] else [.p (.nil)])))⟩),(1,⟨true,0,c,(fun i_1=>[.p (.seq false 1 m (fun i_2=>[.int .i64 ((cM m (trM M) i_1).2 i_2)]))])⟩),(2,⟨false,1,m,(fun i_1=>[.p (.int .i64 (trM M c i_1))])⟩)] [0,.ins 1 c 2] 1 n (fun i=>if (i<c) then [.ar 1 ⟨1,some i⟩ 0 m] else (if (i=c) then [.ar 1 2 0 m] else [.p (.nil)])) (fun i=>if (i<c+1) then [.ar 1 ⟨1,some i⟩ 0 m] else [.p (.nil)])),(∀ i:Nat,(((i:Nat)<(c+1))→(((i:Nat)≠c)→(((i:Nat)<c)∧All [(AN 1),((m:Nat)≤m),(AP m (fun r=>[.int .i64 ((cM m (trM M) i).2 r)]))])))),(((c:Nat)<(c+1))→ All [(AN 1),((m:Nat)≤m),(∀ r:Nat,(((r:Nat)<m)→(([.int .i64 (trM M c r)]:List PV)=[.int .i64 ((cM m (trM M) c).2 r)])))])]):=by kernel_rfl
theorem tqe (n m:Nat) (M:Nat→Nat→Int) :
    zP Tryz.f332 0 [rg 1,.dec false,rg 2] zf100 (Tq0 n m M n) [0,1] 1 [(0,ooOb 1 n (cM m (trM M))),(1,ffOb n (cM m (trM M)))] (.ar 1 0 0 n) =
    some [((decide ((↑n:Int)<(↑n:Int)))=false),(AN 0),(AN n),(AN 1),(NL n n),(CV [(0,⟨false,1,n,(fun i_1=>(if (i_1<n) then [.ar 1 ⟨1,some i_1⟩ 0 m] else [.p (.nil)]))⟩),(1,⟨true,0,n,(fun i_1=>[.p (.seq false 1 m (fun i_2=>[.int .i64 ((cM m (trM M) i_1).2 i_2)]))])⟩)] [0,1] 1 n (fun i=>if (i<n) then [.ar 1 ⟨1,some i⟩ 0 m] else [.p (.nil)]) (fun i=>[.ar 1 ⟨1,some i⟩ 0 m])),(NL n n),(∀ i:Nat,(((i:Nat)<n)→All [(AN 1),((m:Nat)≤m),(AP m (fun r=>[.int .i64 ((cM m (trM M) i).2 r)]))])),(AE n),(∀ i:Nat,(((i:Nat)<n)→All [(false=false),(AE m)]))]:=by kernel_rfl
theorem tqb0 (n m:Nat) (M:Nat→Nat→Int) (k:Nat) :
    zM 0 [rg 1,.dec true,rg 3,rg 14,rg 2,.head] zf24 (Tq1 n m M 0 k) [0,1,483] 1 (Tq1 n m M 0 (k+1)) =
    some (zf24,zD [((decide ((↑k:Int)<(↑m:Int)))=true),(IL 0 (↑k:Int)),(IT (↑k:Int) (↑m:Int)),(IL 0 (↑0:Int)),(IT (↑0:Int) (↑n:Int)),(NT 0 n),(NL 1 1),(NL k k),(NL ((k+1)*8) 140737488355328),(NL (k+1) 9223372036854775807),((false=true)→ ((n:Nat)=1)),(ZLo ((↑k:Int)+1)),(ZHi ((↑k:Int)+1)),(AN m),(AP m (fun i=>[.seq true 1 n (fun i_1=>[.int .i64 ((cM n M i).2 i_1)])])),(AI ((↑n:Int))),(AN 0),(AN n),(AI ((↑0:Int))),(AI ((↑m:Int))),((((↑k:Int)+1):Int)=(↑(k+1):Int)),(AN 1),(NL n n),(CV [(0,⟨false,1,n,(fun i_1=>(if (i_1=0) then [.ar 1 483 0 (k+1)] else (if (i_1<0) then [.ar 1 ⟨1,some i_1⟩ 0 m] else (if (i_1=0) then [.ar 1 2 0 k] else [.p (.nil)]))))⟩),(483,⟨false,1,(k+1),(fun i_1=>(if (i_1<k) then [.p (.int .i64 (trM M 0 i_1))] else [.p (.int .i64 ((cM n M k).2 0))]))⟩),(451,⟨false,1,1,(fun i_1=>[.p (.int .i64 ((cM n M k).2 0))])⟩),(1,⟨true,0,0,(fun i_1=>[.p (.seq false 1 m (fun i_2=>[.int .i64 ((cM m (trM M) i_1).2 i_2)]))])⟩)] [0,1,483] 1 n (fun i=>if (i=0) then [.ar 1 483 0 (k+1)] else (if (i<0) then [.ar 1 ⟨1,some i⟩ 0 m] else (if (i=0) then [.ar 1 2 0 k] else [.p (.nil)]))) (fun i=>if (i<0) then [.ar 1 ⟨1,some i⟩ 0 m] else (if (i=0) then [.ar 1 2 0 (k+1)] else [.p (.nil)]))),(NL 0 0),(∀ i:Nat,(((i:Nat)<0)→All [(AN 1),((m:Nat)≤m),(AP m (fun r=>[.int .i64 ((cM m (trM M) i).2 r)]))])),(NL (k+1) (k+1)),(CV [(0,⟨false,1,n,(fun i_1=>(if (i_1=0) then [.ar 1 483 0 (k+1)] else (if (i_1<0) then [.ar 1 ⟨1,some i_1⟩ 0 m] else (if (i_1=0) then [.ar 1 2 0 k] else [.p (.nil)]))))⟩),(483,⟨false,1,(k+1),(fun i_1=>(if (i_1<k) then [.p (.int .i64 (trM M 0 i_1))] else [.p (.int .i64 ((cM n M k).2 0))]))⟩),(451,⟨false,1,1,(fun i_1=>[.p (.int .i64 ((cM n M k).2 0))])⟩),(1,⟨true,0,0,(fun i_1=>[.p (.seq false 1 m (fun i_2=>[.int .i64 ((cM m (trM M) i_1).2 i_2)]))])⟩)] [0,1,483] 1 (k+1) (fun i=>if (i<k) then [.p (.int .i64 (trM M 0 i))] else [.p (.int .i64 ((cM n M k).2 0))]) (fun i=>[.p (.int .i64 (trM M 0 i))]))] [0,1,2,3,4,5,3,4,6,7,8,9,3,4,5,10,11,12,13,14,15,16,17,18,16,17,15,18,13,14,19,20,21,22,23,24,25,21,26,27]):=by kernel_rfl
theorem tqb1 (n m:Nat) (M:Nat→Nat→Int) (k:Nat) :
    zM 0 [rg 1,.dec true,rg 3,rg 14,rg 2,.head] zf24 (Tq1 n m M 1 k) [0,1,483] 1 (Tq1 n m M 1 (k+1)) =
    some (zf24,zD [((decide ((↑k:Int)<(↑m:Int)))=true),(IL 0 (↑k:Int)),(IT (↑k:Int) (↑m:Int)),(IL 0 (↑1:Int)),(IT (↑1:Int) (↑n:Int)),(NT 1 n),(NL 1 1),(NL k k),(NL ((k+1)*8) 140737488355328),(NL (k+1) 9223372036854775807),((false=true)→ ((n:Nat)=1)),(ZLo ((↑k:Int)+1)),(ZHi ((↑k:Int)+1)),(AN m),(AP m (fun i=>[.seq true 1 n (fun i_1=>[.int .i64 ((cM n M i).2 i_1)])])),(AI ((↑n:Int))),(AN 0),(AN n),(AI ((↑1:Int))),(AI ((↑m:Int))),((((↑k:Int)+1):Int)=(↑(k+1):Int)),(AN 1),(NL n n),(CV [(0,⟨false,1,n,(fun i_1=>(if (i_1=1) then [.ar 1 483 0 (k+1)] else (if (i_1<1) then [.ar 1 ⟨1,some i_1⟩ 0 m] else (if (i_1=1) then [.ar 1 2 0 k] else [.p (.nil)]))))⟩),(483,⟨false,1,(k+1),(fun i_1=>(if (i_1<k) then [.p (.int .i64 (trM M 1 i_1))] else [.p (.int .i64 ((cM n M k).2 1))]))⟩),(451,⟨false,1,1,(fun i_1=>[.p (.int .i64 ((cM n M k).2 1))])⟩),(1,⟨true,0,1,(fun i_1=>[.p (.seq false 1 m (fun i_2=>[.int .i64 ((cM m (trM M) i_1).2 i_2)]))])⟩)] [0,1,483] 1 n (fun i=>if (i=1) then [.ar 1 483 0 (k+1)] else (if (i<1) then [.ar 1 ⟨1,some i⟩ 0 m] else (if (i=1) then [.ar 1 2 0 k] else [.p (.nil)]))) (fun i=>if (i<1) then [.ar 1 ⟨1,some i⟩ 0 m] else (if (i=1) then [.ar 1 2 0 (k+1)] else [.p (.nil)]))),(∀ i:Nat,(((i:Nat)<1)→All [(AN 1),((m:Nat)≤m),(AP m (fun r=>[.int .i64 ((cM m (trM M) i).2 r)]))])),(NL (k+1) (k+1)),(CV [(0,⟨false,1,n,(fun i_1=>(if (i_1=1) then [.ar 1 483 0 (k+1)] else (if (i_1<1) then [.ar 1 ⟨1,some i_1⟩ 0 m] else (if (i_1=1) then [.ar 1 2 0 k] else [.p (.nil)]))))⟩),(483,⟨false,1,(k+1),(fun i_1=>(if (i_1<k) then [.p (.int .i64 (trM M 1 i_1))] else [.p (.int .i64 ((cM n M k).2 1))]))⟩),(451,⟨false,1,1,(fun i_1=>[.p (.int .i64 ((cM n M k).2 1))])⟩),(1,⟨true,0,1,(fun i_1=>[.p (.seq false 1 m (fun i_2=>[.int .i64 ((cM m (trM M) i_1).2 i_2)]))])⟩)] [0,1,483] 1 (k+1) (fun i=>if (i<k) then [.p (.int .i64 (trM M 1 i))] else [.p (.int .i64 ((cM n M k).2 1))]) (fun i=>[.p (.int .i64 (trM M 1 i))]))] [0,1,2,3,4,5,3,4,6,7,8,9,3,4,5,10,11,12,13,14,15,16,17,18,16,17,15,18,13,14,19,20,21,22,23,6,24,21,25,26]):=by kernel_rfl
theorem tqb2 (n m:Nat) (M:Nat→Nat→Int) (k:Nat) :
    zM 0 [rg 1,.dec true,rg 3,rg 14,rg 2,.head] zf24 (Tq1 n m M 2 k) [0,1,483] 1 (Tq1 n m M 2 (k+1)) =
    some (zf24,zD [((decide ((↑k:Int)<(↑m:Int)))=true),(IL 0 (↑k:Int)),(IT (↑k:Int) (↑m:Int)),(IL 0 (↑2:Int)),(IT (↑2:Int) (↑n:Int)),(NT 2 n),(NL 1 1),(NL k k),(NL ((k+1)*8) 140737488355328),(NL (k+1) 9223372036854775807),((false=true)→ ((n:Nat)=1)),(ZLo ((↑k:Int)+1)),(ZHi ((↑k:Int)+1)),(AN m),(AP m (fun i=>[.seq true 1 n (fun i_1=>[.int .i64 ((cM n M i).2 i_1)])])),(AI ((↑n:Int))),(AN 0),(AN n),(AI ((↑2:Int))),(AI ((↑m:Int))),((((↑k:Int)+1):Int)=(↑(k+1):Int)),(AN 1),(NL n n),(CV [(0,⟨false,1,n,(fun i_1=>(if (i_1=2) then [.ar 1 483 0 (k+1)] else (if (i_1<2) then [.ar 1 ⟨1,some i_1⟩ 0 m] else (if (i_1=2) then [.ar 1 2 0 k] else [.p (.nil)]))))⟩),(483,⟨false,1,(k+1),(fun i_1=>(if (i_1<k) then [.p (.int .i64 (trM M 2 i_1))] else [.p (.int .i64 ((cM n M k).2 2))]))⟩),(451,⟨false,1,1,(fun i_1=>[.p (.int .i64 ((cM n M k).2 2))])⟩),(1,⟨true,0,2,(fun i_1=>[.p (.seq false 1 m (fun i_2=>[.int .i64 ((cM m (trM M) i_1).2 i_2)]))])⟩)] [0,1,483] 1 n (fun i=>if (i=2) then [.ar 1 483 0 (k+1)] else (if (i<2) then [.ar 1 ⟨1,some i⟩ 0 m] else (if (i=2) then [.ar 1 2 0 k] else [.p (.nil)]))) (fun i=>if (i<2) then [.ar 1 ⟨1,some i⟩ 0 m] else (if (i=2) then [.ar 1 2 0 (k+1)] else [.p (.nil)]))),(NL 2 2),(∀ i:Nat,(((i:Nat)<2)→All [(AN 1),((m:Nat)≤m),(AP m (fun r=>[.int .i64 ((cM m (trM M) i).2 r)]))])),(NL (k+1) (k+1)),(CV [(0,⟨false,1,n,(fun i_1=>(if (i_1=2) then [.ar 1 483 0 (k+1)] else (if (i_1<2) then [.ar 1 ⟨1,some i_1⟩ 0 m] else (if (i_1=2) then [.ar 1 2 0 k] else [.p (.nil)]))))⟩),(483,⟨false,1,(k+1),(fun i_1=>(if (i_1<k) then [.p (.int .i64 (trM M 2 i_1))] else [.p (.int .i64 ((cM n M k).2 2))]))⟩),(451,⟨false,1,1,(fun i_1=>[.p (.int .i64 ((cM n M k).2 2))])⟩),(1,⟨true,0,2,(fun i_1=>[.p (.seq false 1 m (fun i_2=>[.int .i64 ((cM m (trM M) i_1).2 i_2)]))])⟩)] [0,1,483] 1 (k+1) (fun i=>if (i<k) then [.p (.int .i64 (trM M 2 i))] else [.p (.int .i64 ((cM n M k).2 2))]) (fun i=>[.p (.int .i64 (trM M 2 i))]))] [0,1,2,3,4,5,3,4,6,7,8,9,3,4,5,10,11,12,13,14,15,16,17,18,16,17,15,18,13,14,19,20,21,22,23,24,25,21,26,27]):=by kernel_rfl
theorem tqb3 (n m:Nat) (M:Nat→Nat→Int) (k:Nat) :
    zM 0 [rg 1,.dec true,rg 3,rg 14,rg 2,.head] zf24 (Tq1 n m M 3 k) [0,1,483] 1 (Tq1 n m M 3 (k+1)) =
    some (zf24,zD [((decide ((↑k:Int)<(↑m:Int)))=true),(IL 0 (↑k:Int)),(IT (↑k:Int) (↑m:Int)),(IL 0 (↑3:Int)),(IT (↑3:Int) (↑n:Int)),(NT 3 n),(NL 1 1),(NL k k),(NL ((k+1)*8) 140737488355328),(NL (k+1) 9223372036854775807),((false=true)→ ((n:Nat)=1)),(ZLo ((↑k:Int)+1)),(ZHi ((↑k:Int)+1)),(AN m),(AP m (fun i=>[.seq true 1 n (fun i_1=>[.int .i64 ((cM n M i).2 i_1)])])),(AI ((↑n:Int))),(AN 0),(AN n),(AI ((↑3:Int))),(AI ((↑m:Int))),((((↑k:Int)+1):Int)=(↑(k+1):Int)),(AN 1),(NL n n),(CV [(0,⟨false,1,n,(fun i_1=>(if (i_1=3) then [.ar 1 483 0 (k+1)] else (if (i_1<3) then [.ar 1 ⟨1,some i_1⟩ 0 m] else (if (i_1=3) then [.ar 1 2 0 k] else [.p (.nil)]))))⟩),(483,⟨false,1,(k+1),(fun i_1=>(if (i_1<k) then [.p (.int .i64 (trM M 3 i_1))] else [.p (.int .i64 ((cM n M k).2 3))]))⟩),(451,⟨false,1,1,(fun i_1=>[.p (.int .i64 ((cM n M k).2 3))])⟩),(1,⟨true,0,3,(fun i_1=>[.p (.seq false 1 m (fun i_2=>[.int .i64 ((cM m (trM M) i_1).2 i_2)]))])⟩)] [0,1,483] 1 n (fun i=>if (i=3) then [.ar 1 483 0 (k+1)] else (if (i<3) then [.ar 1 ⟨1,some i⟩ 0 m] else (if (i=3) then [.ar 1 2 0 k] else [.p (.nil)]))) (fun i=>if (i<3) then [.ar 1 ⟨1,some i⟩ 0 m] else (if (i=3) then [.ar 1 2 0 (k+1)] else [.p (.nil)]))),(NL 3 3),(∀ i:Nat,(((i:Nat)<3)→All [(AN 1),((m:Nat)≤m),(AP m (fun r=>[.int .i64 ((cM m (trM M) i).2 r)]))])),(NL (k+1) (k+1)),(CV [(0,⟨false,1,n,(fun i_1=>(if (i_1=3) then [.ar 1 483 0 (k+1)] else (if (i_1<3) then [.ar 1 ⟨1,some i_1⟩ 0 m] else (if (i_1=3) then [.ar 1 2 0 k] else [.p (.nil)]))))⟩),(483,⟨false,1,(k+1),(fun i_1=>(if (i_1<k) then [.p (.int .i64 (trM M 3 i_1))] else [.p (.int .i64 ((cM n M k).2 3))]))⟩),(451,⟨false,1,1,(fun i_1=>[.p (.int .i64 ((cM n M k).2 3))])⟩),(1,⟨true,0,3,(fun i_1=>[.p (.seq false 1 m (fun i_2=>[.int .i64 ((cM m (trM M) i_1).2 i_2)]))])⟩)] [0,1,483] 1 (k+1) (fun i=>if (i<k) then [.p (.int .i64 (trM M 3 i))] else [.p (.int .i64 ((cM n M k).2 3))]) (fun i=>[.p (.int .i64 (trM M 3 i))]))] [0,1,2,3,4,5,3,4,6,7,8,9,3,4,5,10,11,12,13,14,15,16,17,18,16,17,15,18,13,14,19,20,21,22,23,24,25,21,26,27]):=by kernel_rfl
theorem tqb4 (n m:Nat) (M:Nat→Nat→Int) (k:Nat) :
    zM 0 [rg 1,.dec true,rg 3,rg 14,rg 2,.head] zf24 (Tq1 n m M 4 k) [0,1,483] 1 (Tq1 n m M 4 (k+1)) =
    some (zf24,zD [((decide ((↑k:Int)<(↑m:Int)))=true),(IL 0 (↑k:Int)),(IT (↑k:Int) (↑m:Int)),(IL 0 (↑4:Int)),(IT (↑4:Int) (↑n:Int)),(NT 4 n),(NL 1 1),(NL k k),(NL ((k+1)*8) 140737488355328),(NL (k+1) 9223372036854775807),((false=true)→ ((n:Nat)=1)),(ZLo ((↑k:Int)+1)),(ZHi ((↑k:Int)+1)),(AN m),(AP m (fun i=>[.seq true 1 n (fun i_1=>[.int .i64 ((cM n M i).2 i_1)])])),(AI ((↑n:Int))),(AN 0),(AN n),(AI ((↑4:Int))),(AI ((↑m:Int))),((((↑k:Int)+1):Int)=(↑(k+1):Int)),(AN 1),(NL n n),(CV [(0,⟨false,1,n,(fun i_1=>(if (i_1=4) then [.ar 1 483 0 (k+1)] else (if (i_1<4) then [.ar 1 ⟨1,some i_1⟩ 0 m] else (if (i_1=4) then [.ar 1 2 0 k] else [.p (.nil)]))))⟩),(483,⟨false,1,(k+1),(fun i_1=>(if (i_1<k) then [.p (.int .i64 (trM M 4 i_1))] else [.p (.int .i64 ((cM n M k).2 4))]))⟩),(451,⟨false,1,1,(fun i_1=>[.p (.int .i64 ((cM n M k).2 4))])⟩),(1,⟨true,0,4,(fun i_1=>[.p (.seq false 1 m (fun i_2=>[.int .i64 ((cM m (trM M) i_1).2 i_2)]))])⟩)] [0,1,483] 1 n (fun i=>if (i=4) then [.ar 1 483 0 (k+1)] else (if (i<4) then [.ar 1 ⟨1,some i⟩ 0 m] else (if (i=4) then [.ar 1 2 0 k] else [.p (.nil)]))) (fun i=>if (i<4) then [.ar 1 ⟨1,some i⟩ 0 m] else (if (i=4) then [.ar 1 2 0 (k+1)] else [.p (.nil)]))),(NL 4 4),(∀ i:Nat,(((i:Nat)<4)→All [(AN 1),((m:Nat)≤m),(AP m (fun r=>[.int .i64 ((cM m (trM M) i).2 r)]))])),(NL (k+1) (k+1)),(CV [(0,⟨false,1,n,(fun i_1=>(if (i_1=4) then [.ar 1 483 0 (k+1)] else (if (i_1<4) then [.ar 1 ⟨1,some i_1⟩ 0 m] else (if (i_1=4) then [.ar 1 2 0 k] else [.p (.nil)]))))⟩),(483,⟨false,1,(k+1),(fun i_1=>(if (i_1<k) then [.p (.int .i64 (trM M 4 i_1))] else [.p (.int .i64 ((cM n M k).2 4))]))⟩),(451,⟨false,1,1,(fun i_1=>[.p (.int .i64 ((cM n M k).2 4))])⟩),(1,⟨true,0,4,(fun i_1=>[.p (.seq false 1 m (fun i_2=>[.int .i64 ((cM m (trM M) i_1).2 i_2)]))])⟩)] [0,1,483] 1 (k+1) (fun i=>if (i<k) then [.p (.int .i64 (trM M 4 i))] else [.p (.int .i64 ((cM n M k).2 4))]) (fun i=>[.p (.int .i64 (trM M 4 i))]))] [0,1,2,3,4,5,3,4,6,7,8,9,3,4,5,10,11,12,13,14,15,16,17,18,16,17,15,18,13,14,19,20,21,22,23,24,25,21,26,27]):=by kernel_rfl
theorem tqb5 (n m:Nat) (M:Nat→Nat→Int) (k:Nat) :
    zM 0 [rg 1,.dec true,rg 3,rg 14,rg 2,.head] zf24 (Tq1 n m M 5 k) [0,1,483] 1 (Tq1 n m M 5 (k+1)) =
    some (zf24,zD [((decide ((↑k:Int)<(↑m:Int)))=true),(IL 0 (↑k:Int)),(IT (↑k:Int) (↑m:Int)),(IL 0 (↑5:Int)),(IT (↑5:Int) (↑n:Int)),(NT 5 n),(NL 1 1),(NL k k),(NL ((k+1)*8) 140737488355328),(NL (k+1) 9223372036854775807),((false=true)→ ((n:Nat)=1)),(ZLo ((↑k:Int)+1)),(ZHi ((↑k:Int)+1)),(AN m),(AP m (fun i=>[.seq true 1 n (fun i_1=>[.int .i64 ((cM n M i).2 i_1)])])),(AI ((↑n:Int))),(AN 0),(AN n),(AI ((↑5:Int))),(AI ((↑m:Int))),((((↑k:Int)+1):Int)=(↑(k+1):Int)),(AN 1),(NL n n),(CV [(0,⟨false,1,n,(fun i_1=>(if (i_1=5) then [.ar 1 483 0 (k+1)] else (if (i_1<5) then [.ar 1 ⟨1,some i_1⟩ 0 m] else (if (i_1=5) then [.ar 1 2 0 k] else [.p (.nil)]))))⟩),(483,⟨false,1,(k+1),(fun i_1=>(if (i_1<k) then [.p (.int .i64 (trM M 5 i_1))] else [.p (.int .i64 ((cM n M k).2 5))]))⟩),(451,⟨false,1,1,(fun i_1=>[.p (.int .i64 ((cM n M k).2 5))])⟩),(1,⟨true,0,5,(fun i_1=>[.p (.seq false 1 m (fun i_2=>[.int .i64 ((cM m (trM M) i_1).2 i_2)]))])⟩)] [0,1,483] 1 n (fun i=>if (i=5) then [.ar 1 483 0 (k+1)] else (if (i<5) then [.ar 1 ⟨1,some i⟩ 0 m] else (if (i=5) then [.ar 1 2 0 k] else [.p (.nil)]))) (fun i=>if (i<5) then [.ar 1 ⟨1,some i⟩ 0 m] else (if (i=5) then [.ar 1 2 0 (k+1)] else [.p (.nil)]))),(NL 5 5),(∀ i:Nat,(((i:Nat)<5)→All [(AN 1),((m:Nat)≤m),(AP m (fun r=>[.int .i64 ((cM m (trM M) i).2 r)]))])),(NL (k+1) (k+1)),(CV [(0,⟨false,1,n,(fun i_1=>(if (i_1=5) then [.ar 1 483 0 (k+1)] else (if (i_1<5) then [.ar 1 ⟨1,some i_1⟩ 0 m] else (if (i_1=5) then [.ar 1 2 0 k] else [.p (.nil)]))))⟩),(483,⟨false,1,(k+1),(fun i_1=>(if (i_1<k) then [.p (.int .i64 (trM M 5 i_1))] else [.p (.int .i64 ((cM n M k).2 5))]))⟩),(451,⟨false,1,1,(fun i_1=>[.p (.int .i64 ((cM n M k).2 5))])⟩),(1,⟨true,0,5,(fun i_1=>[.p (.seq false 1 m (fun i_2=>[.int .i64 ((cM m (trM M) i_1).2 i_2)]))])⟩)] [0,1,483] 1 (k+1) (fun i=>if (i<k) then [.p (.int .i64 (trM M 5 i))] else [.p (.int .i64 ((cM n M k).2 5))]) (fun i=>[.p (.int .i64 (trM M 5 i))]))] [0,1,2,3,4,5,3,4,6,7,8,9,3,4,5,10,11,12,13,14,15,16,17,18,16,17,15,18,13,14,19,20,21,22,23,24,25,21,26,27]):=by kernel_rfl
theorem tqb6 (n m:Nat) (M:Nat→Nat→Int) (k:Nat) :
    zM 0 [rg 1,.dec true,rg 3,rg 14,rg 2,.head] zf24 (Tq1 n m M 6 k) [0,1,483] 1 (Tq1 n m M 6 (k+1)) =
    some (zf24,zD [((decide ((↑k:Int)<(↑m:Int)))=true),(IL 0 (↑k:Int)),(IT (↑k:Int) (↑m:Int)),(IL 0 (↑6:Int)),(IT (↑6:Int) (↑n:Int)),(NT 6 n),(NL 1 1),(NL k k),(NL ((k+1)*8) 140737488355328),(NL (k+1) 9223372036854775807),((false=true)→ ((n:Nat)=1)),(ZLo ((↑k:Int)+1)),(ZHi ((↑k:Int)+1)),(AN m),(AP m (fun i=>[.seq true 1 n (fun i_1=>[.int .i64 ((cM n M i).2 i_1)])])),(AI ((↑n:Int))),(AN 0),(AN n),(AI ((↑6:Int))),(AI ((↑m:Int))),((((↑k:Int)+1):Int)=(↑(k+1):Int)),(AN 1),(NL n n),(CV [(0,⟨false,1,n,(fun i_1=>(if (i_1=6) then [.ar 1 483 0 (k+1)] else (if (i_1<6) then [.ar 1 ⟨1,some i_1⟩ 0 m] else (if (i_1=6) then [.ar 1 2 0 k] else [.p (.nil)]))))⟩),(483,⟨false,1,(k+1),(fun i_1=>(if (i_1<k) then [.p (.int .i64 (trM M 6 i_1))] else [.p (.int .i64 ((cM n M k).2 6))]))⟩),(451,⟨false,1,1,(fun i_1=>[.p (.int .i64 ((cM n M k).2 6))])⟩),(1,⟨true,0,6,(fun i_1=>[.p (.seq false 1 m (fun i_2=>[.int .i64 ((cM m (trM M) i_1).2 i_2)]))])⟩)] [0,1,483] 1 n (fun i=>if (i=6) then [.ar 1 483 0 (k+1)] else (if (i<6) then [.ar 1 ⟨1,some i⟩ 0 m] else (if (i=6) then [.ar 1 2 0 k] else [.p (.nil)]))) (fun i=>if (i<6) then [.ar 1 ⟨1,some i⟩ 0 m] else (if (i=6) then [.ar 1 2 0 (k+1)] else [.p (.nil)]))),(NL 6 6),(∀ i:Nat,(((i:Nat)<6)→All [(AN 1),((m:Nat)≤m),(AP m (fun r=>[.int .i64 ((cM m (trM M) i).2 r)]))])),(NL (k+1) (k+1)),(CV [(0,⟨false,1,n,(fun i_1=>(if (i_1=6) then [.ar 1 483 0 (k+1)] else (if (i_1<6) then [.ar 1 ⟨1,some i_1⟩ 0 m] else (if (i_1=6) then [.ar 1 2 0 k] else [.p (.nil)]))))⟩),(483,⟨false,1,(k+1),(fun i_1=>(if (i_1<k) then [.p (.int .i64 (trM M 6 i_1))] else [.p (.int .i64 ((cM n M k).2 6))]))⟩),(451,⟨false,1,1,(fun i_1=>[.p (.int .i64 ((cM n M k).2 6))])⟩),(1,⟨true,0,6,(fun i_1=>[.p (.seq false 1 m (fun i_2=>[.int .i64 ((cM m (trM M) i_1).2 i_2)]))])⟩)] [0,1,483] 1 (k+1) (fun i=>if (i<k) then [.p (.int .i64 (trM M 6 i))] else [.p (.int .i64 ((cM n M k).2 6))]) (fun i=>[.p (.int .i64 (trM M 6 i))]))] [0,1,2,3,4,5,3,4,6,7,8,9,3,4,5,10,11,12,13,14,15,16,17,18,16,17,15,18,13,14,19,20,21,22,23,24,25,21,26,27]):=by kernel_rfl
theorem tqb7 (n m:Nat) (M:Nat→Nat→Int) (k:Nat) :
    zM 0 [rg 1,.dec true,rg 3,rg 14,rg 2,.head] zf24 (Tq1 n m M 7 k) [0,1,483] 1 (Tq1 n m M 7 (k+1)) =
    some (zf24,zD [((decide ((↑k:Int)<(↑m:Int)))=true),(IL 0 (↑k:Int)),(IT (↑k:Int) (↑m:Int)),(IL 0 (↑7:Int)),(IT (↑7:Int) (↑n:Int)),(NT 7 n),(NL 1 1),(NL k k),(NL ((k+1)*8) 140737488355328),(NL (k+1) 9223372036854775807),((false=true)→ ((n:Nat)=1)),(ZLo ((↑k:Int)+1)),(ZHi ((↑k:Int)+1)),(AN m),(AP m (fun i=>[.seq true 1 n (fun i_1=>[.int .i64 ((cM n M i).2 i_1)])])),(AI ((↑n:Int))),(AN 0),(AN n),(AI ((↑7:Int))),(AI ((↑m:Int))),((((↑k:Int)+1):Int)=(↑(k+1):Int)),(AN 1),(NL n n),(CV [(0,⟨false,1,n,(fun i_1=>(if (i_1=7) then [.ar 1 483 0 (k+1)] else (if (i_1<7) then [.ar 1 ⟨1,some i_1⟩ 0 m] else (if (i_1=7) then [.ar 1 2 0 k] else [.p (.nil)]))))⟩),(483,⟨false,1,(k+1),(fun i_1=>(if (i_1<k) then [.p (.int .i64 (trM M 7 i_1))] else [.p (.int .i64 ((cM n M k).2 7))]))⟩),(451,⟨false,1,1,(fun i_1=>[.p (.int .i64 ((cM n M k).2 7))])⟩),(1,⟨true,0,7,(fun i_1=>[.p (.seq false 1 m (fun i_2=>[.int .i64 ((cM m (trM M) i_1).2 i_2)]))])⟩)] [0,1,483] 1 n (fun i=>if (i=7) then [.ar 1 483 0 (k+1)] else (if (i<7) then [.ar 1 ⟨1,some i⟩ 0 m] else (if (i=7) then [.ar 1 2 0 k] else [.p (.nil)]))) (fun i=>if (i<7) then [.ar 1 ⟨1,some i⟩ 0 m] else (if (i=7) then [.ar 1 2 0 (k+1)] else [.p (.nil)]))),(NL 7 7),(∀ i:Nat,(((i:Nat)<7)→All [(AN 1),((m:Nat)≤m),(AP m (fun r=>[.int .i64 ((cM m (trM M) i).2 r)]))])),(NL (k+1) (k+1)),(CV [(0,⟨false,1,n,(fun i_1=>(if (i_1=7) then [.ar 1 483 0 (k+1)] else (if (i_1<7) then [.ar 1 ⟨1,some i_1⟩ 0 m] else (if (i_1=7) then [.ar 1 2 0 k] else [.p (.nil)]))))⟩),(483,⟨false,1,(k+1),(fun i_1=>(if (i_1<k) then [.p (.int .i64 (trM M 7 i_1))] else [.p (.int .i64 ((cM n M k).2 7))]))⟩),(451,⟨false,1,1,(fun i_1=>[.p (.int .i64 ((cM n M k).2 7))])⟩),(1,⟨true,0,7,(fun i_1=>[.p (.seq false 1 m (fun i_2=>[.int .i64 ((cM m (trM M) i_1).2 i_2)]))])⟩)] [0,1,483] 1 (k+1) (fun i=>if (i<k) then [.p (.int .i64 (trM M 7 i))] else [.p (.int .i64 ((cM n M k).2 7))]) (fun i=>[.p (.int .i64 (trM M 7 i))]))] [0,1,2,3,4,5,3,4,6,7,8,9,3,4,5,10,11,12,13,14,15,16,17,18,16,17,15,18,13,14,19,20,21,22,23,24,25,21,26,27]):=by kernel_rfl
theorem tqb8 (n m:Nat) (M:Nat→Nat→Int) (k:Nat) :
    zM 0 [rg 1,.dec true,rg 3,rg 14,rg 2,.head] zf24 (Tq1 n m M 8 k) [0,1,483] 1 (Tq1 n m M 8 (k+1)) =
    some (zf24,zD [((decide ((↑k:Int)<(↑m:Int)))=true),(IL 0 (↑k:Int)),(IT (↑k:Int) (↑m:Int)),(IL 0 (↑8:Int)),(IT (↑8:Int) (↑n:Int)),(NT 8 n),(NL 1 1),(NL k k),(NL ((k+1)*8) 140737488355328),(NL (k+1) 9223372036854775807),((false=true)→ ((n:Nat)=1)),(ZLo ((↑k:Int)+1)),(ZHi ((↑k:Int)+1)),(AN m),(AP m (fun i=>[.seq true 1 n (fun i_1=>[.int .i64 ((cM n M i).2 i_1)])])),(AI ((↑n:Int))),(AN 0),(AN n),(AI ((↑8:Int))),(AI ((↑m:Int))),((((↑k:Int)+1):Int)=(↑(k+1):Int)),(AN 1),(NL n n),(CV [(0,⟨false,1,n,(fun i_1=>(if (i_1=8) then [.ar 1 483 0 (k+1)] else (if (i_1<8) then [.ar 1 ⟨1,some i_1⟩ 0 m] else (if (i_1=8) then [.ar 1 2 0 k] else [.p (.nil)]))))⟩),(483,⟨false,1,(k+1),(fun i_1=>(if (i_1<k) then [.p (.int .i64 (trM M 8 i_1))] else [.p (.int .i64 ((cM n M k).2 8))]))⟩),(451,⟨false,1,1,(fun i_1=>[.p (.int .i64 ((cM n M k).2 8))])⟩),(1,⟨true,0,8,(fun i_1=>[.p (.seq false 1 m (fun i_2=>[.int .i64 ((cM m (trM M) i_1).2 i_2)]))])⟩)] [0,1,483] 1 n (fun i=>if (i=8) then [.ar 1 483 0 (k+1)] else (if (i<8) then [.ar 1 ⟨1,some i⟩ 0 m] else (if (i=8) then [.ar 1 2 0 k] else [.p (.nil)]))) (fun i=>if (i<8) then [.ar 1 ⟨1,some i⟩ 0 m] else (if (i=8) then [.ar 1 2 0 (k+1)] else [.p (.nil)]))),(NL 8 8),(∀ i:Nat,(((i:Nat)<8)→All [(AN 1),((m:Nat)≤m),(AP m (fun r=>[.int .i64 ((cM m (trM M) i).2 r)]))])),(NL (k+1) (k+1)),(CV [(0,⟨false,1,n,(fun i_1=>(if (i_1=8) then [.ar 1 483 0 (k+1)] else (if (i_1<8) then [.ar 1 ⟨1,some i_1⟩ 0 m] else (if (i_1=8) then [.ar 1 2 0 k] else [.p (.nil)]))))⟩),(483,⟨false,1,(k+1),(fun i_1=>(if (i_1<k) then [.p (.int .i64 (trM M 8 i_1))] else [.p (.int .i64 ((cM n M k).2 8))]))⟩),(451,⟨false,1,1,(fun i_1=>[.p (.int .i64 ((cM n M k).2 8))])⟩),(1,⟨true,0,8,(fun i_1=>[.p (.seq false 1 m (fun i_2=>[.int .i64 ((cM m (trM M) i_1).2 i_2)]))])⟩)] [0,1,483] 1 (k+1) (fun i=>if (i<k) then [.p (.int .i64 (trM M 8 i))] else [.p (.int .i64 ((cM n M k).2 8))]) (fun i=>[.p (.int .i64 (trM M 8 i))]))] [0,1,2,3,4,5,3,4,6,7,8,9,3,4,5,10,11,12,13,14,15,16,17,18,16,17,15,18,13,14,19,20,21,22,23,24,25,21,26,27]):=by kernel_rfl
theorem tqb9 (n m:Nat) (M:Nat→Nat→Int) (k:Nat) :
    zM 0 [rg 1,.dec true,rg 3,rg 14,rg 2,.head] zf24 (Tq1 n m M 9 k) [0,1,483] 1 (Tq1 n m M 9 (k+1)) =
    some (zf24,zD [((decide ((↑k:Int)<(↑m:Int)))=true),(IL 0 (↑k:Int)),(IT (↑k:Int) (↑m:Int)),(IL 0 (↑9:Int)),(IT (↑9:Int) (↑n:Int)),(NT 9 n),(NL 1 1),(NL k k),(NL ((k+1)*8) 140737488355328),(NL (k+1) 9223372036854775807),((false=true)→ ((n:Nat)=1)),(ZLo ((↑k:Int)+1)),(ZHi ((↑k:Int)+1)),(AN m),(AP m (fun i=>[.seq true 1 n (fun i_1=>[.int .i64 ((cM n M i).2 i_1)])])),(AI ((↑n:Int))),(AN 0),(AN n),(AI ((↑9:Int))),(AI ((↑m:Int))),((((↑k:Int)+1):Int)=(↑(k+1):Int)),(AN 1),(NL n n),(CV [(0,⟨false,1,n,(fun i_1=>(if (i_1=9) then [.ar 1 483 0 (k+1)] else (if (i_1<9) then [.ar 1 ⟨1,some i_1⟩ 0 m] else (if (i_1=9) then [.ar 1 2 0 k] else [.p (.nil)]))))⟩),(483,⟨false,1,(k+1),(fun i_1=>(if (i_1<k) then [.p (.int .i64 (trM M 9 i_1))] else [.p (.int .i64 ((cM n M k).2 9))]))⟩),(451,⟨false,1,1,(fun i_1=>[.p (.int .i64 ((cM n M k).2 9))])⟩),(1,⟨true,0,9,(fun i_1=>[.p (.seq false 1 m (fun i_2=>[.int .i64 ((cM m (trM M) i_1).2 i_2)]))])⟩)] [0,1,483] 1 n (fun i=>if (i=9) then [.ar 1 483 0 (k+1)] else (if (i<9) then [.ar 1 ⟨1,some i⟩ 0 m] else (if (i=9) then [.ar 1 2 0 k] else [.p (.nil)]))) (fun i=>if (i<9) then [.ar 1 ⟨1,some i⟩ 0 m] else (if (i=9) then [.ar 1 2 0 (k+1)] else [.p (.nil)]))),(NL 9 9),(∀ i:Nat,(((i:Nat)<9)→All [(AN 1),((m:Nat)≤m),(AP m (fun r=>[.int .i64 ((cM m (trM M) i).2 r)]))])),(NL (k+1) (k+1)),(CV [(0,⟨false,1,n,(fun i_1=>(if (i_1=9) then [.ar 1 483 0 (k+1)] else (if (i_1<9) then [.ar 1 ⟨1,some i_1⟩ 0 m] else (if (i_1=9) then [.ar 1 2 0 k] else [.p (.nil)]))))⟩),(483,⟨false,1,(k+1),(fun i_1=>(if (i_1<k) then [.p (.int .i64 (trM M 9 i_1))] else [.p (.int .i64 ((cM n M k).2 9))]))⟩),(451,⟨false,1,1,(fun i_1=>[.p (.int .i64 ((cM n M k).2 9))])⟩),(1,⟨true,0,9,(fun i_1=>[.p (.seq false 1 m (fun i_2=>[.int .i64 ((cM m (trM M) i_1).2 i_2)]))])⟩)] [0,1,483] 1 (k+1) (fun i=>if (i<k) then [.p (.int .i64 (trM M 9 i))] else [.p (.int .i64 ((cM n M k).2 9))]) (fun i=>[.p (.int .i64 (trM M 9 i))]))] [0,1,2,3,4,5,3,4,6,7,8,9,3,4,5,10,11,12,13,14,15,16,17,18,16,17,15,18,13,14,19,20,21,22,23,24,25,21,26,27]):=by kernel_rfl
theorem tqb10 (n m:Nat) (M:Nat→Nat→Int) (k:Nat) :
    zM 0 [rg 1,.dec true,rg 3,rg 14,rg 2,.head] zf24 (Tq1 n m M 10 k) [0,1,483] 1 (Tq1 n m M 10 (k+1)) =
    some (zf24,zD [((decide ((↑k:Int)<(↑m:Int)))=true),(IL 0 (↑k:Int)),(IT (↑k:Int) (↑m:Int)),(IL 0 (↑10:Int)),(IT (↑10:Int) (↑n:Int)),(NT 10 n),(NL 1 1),(NL k k),(NL ((k+1)*8) 140737488355328),(NL (k+1) 9223372036854775807),((false=true)→ ((n:Nat)=1)),(ZLo ((↑k:Int)+1)),(ZHi ((↑k:Int)+1)),(AN m),(AP m (fun i=>[.seq true 1 n (fun i_1=>[.int .i64 ((cM n M i).2 i_1)])])),(AI ((↑n:Int))),(AN 0),(AN n),(AI ((↑10:Int))),(AI ((↑m:Int))),((((↑k:Int)+1):Int)=(↑(k+1):Int)),(AN 1),(NL n n),(CV [(0,⟨false,1,n,(fun i_1=>(if (i_1=10) then [.ar 1 483 0 (k+1)] else (if (i_1<10) then [.ar 1 ⟨1,some i_1⟩ 0 m] else (if (i_1=10) then [.ar 1 2 0 k] else [.p (.nil)]))))⟩),(483,⟨false,1,(k+1),(fun i_1=>(if (i_1<k) then [.p (.int .i64 (trM M 10 i_1))] else [.p (.int .i64 ((cM n M k).2 10))]))⟩),(451,⟨false,1,1,(fun i_1=>[.p (.int .i64 ((cM n M k).2 10))])⟩),(1,⟨true,0,10,(fun i_1=>[.p (.seq false 1 m (fun i_2=>[.int .i64 ((cM m (trM M) i_1).2 i_2)]))])⟩)] [0,1,483] 1 n (fun i=>if (i=10) then [.ar 1 483 0 (k+1)] else (if (i<10) then [.ar 1 ⟨1,some i⟩ 0 m] else (if (i=10) then [.ar 1 2 0 k] else [.p (.nil)]))) (fun i=>if (i<10) then [.ar 1 ⟨1,some i⟩ 0 m] else (if (i=10) then [.ar 1 2 0 (k+1)] else [.p (.nil)]))),(NL 10 10),(∀ i:Nat,(((i:Nat)<10)→All [(AN 1),((m:Nat)≤m),(AP m (fun r=>[.int .i64 ((cM m (trM M) i).2 r)]))])),(NL (k+1) (k+1)),(CV [(0,⟨false,1,n,(fun i_1=>(if (i_1=10) then [.ar 1 483 0 (k+1)] else (if (i_1<10) then [.ar 1 ⟨1,some i_1⟩ 0 m] else (if (i_1=10) then [.ar 1 2 0 k] else [.p (.nil)]))))⟩),(483,⟨false,1,(k+1),(fun i_1=>(if (i_1<k) then [.p (.int .i64 (trM M 10 i_1))] else [.p (.int .i64 ((cM n M k).2 10))]))⟩),(451,⟨false,1,1,(fun i_1=>[.p (.int .i64 ((cM n M k).2 10))])⟩),(1,⟨true,0,10,(fun i_1=>[.p (.seq false 1 m (fun i_2=>[.int .i64 ((cM m (trM M) i_1).2 i_2)]))])⟩)] [0,1,483] 1 (k+1) (fun i=>if (i<k) then [.p (.int .i64 (trM M 10 i))] else [.p (.int .i64 ((cM n M k).2 10))]) (fun i=>[.p (.int .i64 (trM M 10 i))]))] [0,1,2,3,4,5,3,4,6,7,8,9,3,4,5,10,11,12,13,14,15,16,17,18,16,17,15,18,13,14,19,20,21,22,23,24,25,21,26,27]):=by kernel_rfl
theorem tqb11 (n m:Nat) (M:Nat→Nat→Int) (k:Nat) :
    zM 0 [rg 1,.dec true,rg 3,rg 14,rg 2,.head] zf24 (Tq1 n m M 11 k) [0,1,483] 1 (Tq1 n m M 11 (k+1)) =
    some (zf24,zD [((decide ((↑k:Int)<(↑m:Int)))=true),(IL 0 (↑k:Int)),(IT (↑k:Int) (↑m:Int)),(IL 0 (↑11:Int)),(IT (↑11:Int) (↑n:Int)),(NT 11 n),(NL 1 1),(NL k k),(NL ((k+1)*8) 140737488355328),(NL (k+1) 9223372036854775807),((false=true)→ ((n:Nat)=1)),(ZLo ((↑k:Int)+1)),(ZHi ((↑k:Int)+1)),(AN m),(AP m (fun i=>[.seq true 1 n (fun i_1=>[.int .i64 ((cM n M i).2 i_1)])])),(AI ((↑n:Int))),(AN 0),(AN n),(AI ((↑11:Int))),(AI ((↑m:Int))),((((↑k:Int)+1):Int)=(↑(k+1):Int)),(AN 1),(NL n n),(CV [(0,⟨false,1,n,(fun i_1=>(if (i_1=11) then [.ar 1 483 0 (k+1)] else (if (i_1<11) then [.ar 1 ⟨1,some i_1⟩ 0 m] else (if (i_1=11) then [.ar 1 2 0 k] else [.p (.nil)]))))⟩),(483,⟨false,1,(k+1),(fun i_1=>(if (i_1<k) then [.p (.int .i64 (trM M 11 i_1))] else [.p (.int .i64 ((cM n M k).2 11))]))⟩),(451,⟨false,1,1,(fun i_1=>[.p (.int .i64 ((cM n M k).2 11))])⟩),(1,⟨true,0,11,(fun i_1=>[.p (.seq false 1 m (fun i_2=>[.int .i64 ((cM m (trM M) i_1).2 i_2)]))])⟩)] [0,1,483] 1 n (fun i=>if (i=11) then [.ar 1 483 0 (k+1)] else (if (i<11) then [.ar 1 ⟨1,some i⟩ 0 m] else (if (i=11) then [.ar 1 2 0 k] else [.p (.nil)]))) (fun i=>if (i<11) then [.ar 1 ⟨1,some i⟩ 0 m] else (if (i=11) then [.ar 1 2 0 (k+1)] else [.p (.nil)]))),(NL 11 11),(∀ i:Nat,(((i:Nat)<11)→All [(AN 1),((m:Nat)≤m),(AP m (fun r=>[.int .i64 ((cM m (trM M) i).2 r)]))])),(NL (k+1) (k+1)),(CV [(0,⟨false,1,n,(fun i_1=>(if (i_1=11) then [.ar 1 483 0 (k+1)] else (if (i_1<11) then [.ar 1 ⟨1,some i_1⟩ 0 m] else (if (i_1=11) then [.ar 1 2 0 k] else [.p (.nil)]))))⟩),(483,⟨false,1,(k+1),(fun i_1=>(if (i_1<k) then [.p (.int .i64 (trM M 11 i_1))] else [.p (.int .i64 ((cM n M k).2 11))]))⟩),(451,⟨false,1,1,(fun i_1=>[.p (.int .i64 ((cM n M k).2 11))])⟩),(1,⟨true,0,11,(fun i_1=>[.p (.seq false 1 m (fun i_2=>[.int .i64 ((cM m (trM M) i_1).2 i_2)]))])⟩)] [0,1,483] 1 (k+1) (fun i=>if (i<k) then [.p (.int .i64 (trM M 11 i))] else [.p (.int .i64 ((cM n M k).2 11))]) (fun i=>[.p (.int .i64 (trM M 11 i))]))] [0,1,2,3,4,5,3,4,6,7,8,9,3,4,5,10,11,12,13,14,15,16,17,18,16,17,15,18,13,14,19,20,21,22,23,24,25,21,26,27]):=by kernel_rfl
theorem con_transposed (n m:Nat) (M:Nat→Nat→Int) (hn:n≤12) (hm:m≤1000) :
    zE 332 [ssA2 m (cM n M),.p (.int .i64 n)] [(0,ooOb 1 n (cM m (trM M))),(1,ffOb n (cM m (trM M)))] (.ar 1 0 0 n):=by
  refine csZ Tryz.func332 (fun c hc=>?_)
  have stp:∀ a k,a<n→k<m→zR c 332 zf24 (Tq1 n m M a (k+1)) (Post c [(0,ooOb 1 n (cM m (trM M))),(1,ffOb n (cM m (trM M)))] (.ar 1 0 0 n)) →
      zR c 332 zf24 (Tq1 n m M a k) (Post c [(0,ooOb 1 n (cM m (trM M))),(1,ffOb n (cM m (trM M)))] (.ar 1 0 0 n)):=by
    intro a k ha hk hr
    have hd:decide ((k:Int)<(m:Int))=true:=decide_eq_true (by omega)
    rcases (show a=0∨a=1∨a=2∨a=3∨a=4∨a=5∨a=6∨a=7∨a=8∨a=9∨a=10∨a=11 by omega) with rfl | rfl | rfl | rfl | rfl | rfl | rfl | rfl | rfl | rfl | rfl | rfl
    ·
      refine pcD hc (tqb0 n m M k) ?_ hr
      and_intros
      iterate 2 all_goals (first | exact zI | (exact hd) | (intros;simp [All];done) | (intro i hi;by_cases h1:i=0<;>by_cases h2:i<0<;>(simp [h1,h2,cvtL,cvt,idx,idx1,idO,idM,tg,tru,All]<;>first | rfl | omega)) | (intro i hi;by_cases h1:i<k<;>by_cases h2:i=k<;>(simp [h1,h2,cvtL,cvt,tg,tru,All,cM,trM]<;>omega)) | simp only [All])
    ·
      refine pcD hc (tqb1 n m M k) ?_ hr
      and_intros
      iterate 2 all_goals (first | exact zI | (exact hd) | (intros;simp [All];done) | (intro i hi;by_cases h1:i=1<;>by_cases h2:i<1<;>(simp [h1,h2,cvtL,cvt,idx,idx1,idO,idM,tg,tru,All]<;>first | rfl | omega)) | (intro i hi;by_cases h1:i<k<;>by_cases h2:i=k<;>(simp [h1,h2,cvtL,cvt,tg,tru,All,cM,trM]<;>omega)) | simp only [All])
    ·
      refine pcD hc (tqb2 n m M k) ?_ hr
      and_intros
      iterate 2 all_goals (first | exact zI | (exact hd) | (intros;simp [All];done) | (intro i hi;by_cases h1:i=2<;>by_cases h2:i<2<;>(simp [h1,h2,cvtL,cvt,idx,idx1,idO,idM,tg,tru,All]<;>first | rfl | omega)) | (intro i hi;by_cases h1:i<k<;>by_cases h2:i=k<;>(simp [h1,h2,cvtL,cvt,tg,tru,All,cM,trM]<;>omega)) | simp only [All])
    ·
      refine pcD hc (tqb3 n m M k) ?_ hr
      and_intros
      iterate 2 all_goals (first | exact zI | (exact hd) | (intros;simp [All];done) | (intro i hi;by_cases h1:i=3<;>by_cases h2:i<3<;>(simp [h1,h2,cvtL,cvt,idx,idx1,idO,idM,tg,tru,All]<;>first | rfl | omega)) | (intro i hi;by_cases h1:i<k<;>by_cases h2:i=k<;>(simp [h1,h2,cvtL,cvt,tg,tru,All,cM,trM]<;>omega)) | simp only [All])
    ·
      refine pcD hc (tqb4 n m M k) ?_ hr
      and_intros
      iterate 2 all_goals (first | exact zI | (exact hd) | (intros;simp [All];done) | (intro i hi;by_cases h1:i=4<;>by_cases h2:i<4<;>(simp [h1,h2,cvtL,cvt,idx,idx1,idO,idM,tg,tru,All]<;>first | rfl | omega)) | (intro i hi;by_cases h1:i<k<;>by_cases h2:i=k<;>(simp [h1,h2,cvtL,cvt,tg,tru,All,cM,trM]<;>omega)) | simp only [All])
    ·
      refine pcD hc (tqb5 n m M k) ?_ hr
      and_intros
      iterate 2 all_goals (first | exact zI | (exact hd) | (intros;simp [All];done) | (intro i hi;by_cases h1:i=5<;>by_cases h2:i<5<;>(simp [h1,h2,cvtL,cvt,idx,idx1,idO,idM,tg,tru,All]<;>first | rfl | omega)) | (intro i hi;by_cases h1:i<k<;>by_cases h2:i=k<;>(simp [h1,h2,cvtL,cvt,tg,tru,All,cM,trM]<;>omega)) | simp only [All])
    ·
      refine pcD hc (tqb6 n m M k) ?_ hr
      and_intros
      iterate 2 all_goals (first | exact zI | (exact hd) | (intros;simp [All];done) | (intro i hi;by_cases h1:i=6<;>by_cases h2:i<6<;>(simp [h1,h2,cvtL,cvt,idx,idx1,idO,idM,tg,tru,All]<;>first | rfl | omega)) | (intro i hi;by_cases h1:i<k<;>by_cases h2:i=k<;>(simp [h1,h2,cvtL,cvt,tg,tru,All,cM,trM]<;>omega)) | simp only [All])
    ·
      refine pcD hc (tqb7 n m M k) ?_ hr
      and_intros
      iterate 2 all_goals (first | exact zI | (exact hd) | (intros;simp [All];done) | (intro i hi;by_cases h1:i=7<;>by_cases h2:i<7<;>(simp [h1,h2,cvtL,cvt,idx,idx1,idO,idM,tg,tru,All]<;>first | rfl | omega)) | (intro i hi;by_cases h1:i<k<;>by_cases h2:i=k<;>(simp [h1,h2,cvtL,cvt,tg,tru,All,cM,trM]<;>omega)) | simp only [All])
    ·
      refine pcD hc (tqb8 n m M k) ?_ hr
      and_intros
      iterate 2 all_goals (first | exact zI | (exact hd) | (intros;simp [All];done) | (intro i hi;by_cases h1:i=8<;>by_cases h2:i<8<;>(simp [h1,h2,cvtL,cvt,idx,idx1,idO,idM,tg,tru,All]<;>first | rfl | omega)) | (intro i hi;by_cases h1:i<k<;>by_cases h2:i=k<;>(simp [h1,h2,cvtL,cvt,tg,tru,All,cM,trM]<;>omega)) | simp only [All])
    ·
      refine pcD hc (tqb9 n m M k) ?_ hr
      and_intros
      iterate 2 all_goals (first | exact zI | (exact hd) | (intros;simp [All];done) | (intro i hi;by_cases h1:i=9<;>by_cases h2:i<9<;>(simp [h1,h2,cvtL,cvt,idx,idx1,idO,idM,tg,tru,All]<;>first | rfl | omega)) | (intro i hi;by_cases h1:i<k<;>by_cases h2:i=k<;>(simp [h1,h2,cvtL,cvt,tg,tru,All,cM,trM]<;>omega)) | simp only [All])
    ·
      refine pcD hc (tqb10 n m M k) ?_ hr
      and_intros
      iterate 2 all_goals (first | exact zI | (exact hd) | (intros;simp [All];done) | (intro i hi;by_cases h1:i=10<;>by_cases h2:i<10<;>(simp [h1,h2,cvtL,cvt,idx,idx1,idO,idM,tg,tru,All]<;>first | rfl | omega)) | (intro i hi;by_cases h1:i<k<;>by_cases h2:i=k<;>(simp [h1,h2,cvtL,cvt,tg,tru,All,cM,trM]<;>omega)) | simp only [All])
    ·
      refine pcD hc (tqb11 n m M k) ?_ hr
      and_intros
      iterate 2 all_goals (first | exact zI | (exact hd) | (intros;simp [All];done) | (intro i hi;by_cases h1:i=11<;>by_cases h2:i<11<;>(simp [h1,h2,cvtL,cvt,idx,idx1,idO,idM,tg,tru,All]<;>first | rfl | omega)) | (intro i hi;by_cases h1:i<k<;>by_cases h2:i=k<;>(simp [h1,h2,cvtL,cvt,tg,tru,All,cM,trM]<;>omega)) | simp only [All])
  have lo:∀ d a,a+d=n→zR c 332 zf100 (Tq0 n m M a) (Post c [(0,ooOb 1 n (cM m (trM M))),(1,ffOb n (cM m (trM M)))] (.ar 1 0 0 n)):=by
    intro d
    induction d with
    | zero =>
      intro a ha
      obtain rfl:a=n:=by omega
      have hd:decide ((a:Int)<(a:Int))=false:=decide_eq_false (by omega)
      refine pkZ Tryz.func332 hc (tqe a m M) ?_
      and_intros
      iterate 2 all_goals (first | exact zN | (exact hd) | (intro i hi;simp [hi,cvtL,cvt,idx,idx1,idO,idM,tg,tru,All];done) | (intro i hi;simp [All];done) | (intros;simp [All];done) | simp only [All])
    | succ d ih =>
      intro a ha
      have hd:decide ((a:Int)<(n:Int))=true:=decide_eq_true (by omega)
      have li:∀ d k,k+d=m→zR c 332 zf24 (Tq1 n m M a k) (Post c [(0,ooOb 1 n (cM m (trM M))),(1,ffOb n (cM m (trM M)))] (.ar 1 0 0 n)):=by
        intro d
        induction d with
        | zero =>
          intro k hk
          obtain rfl:k=m:=by omega
          have hd:decide ((k:Int)<(k:Int))=false:=decide_eq_false (by omega)
          refine pcZ hc (tqc n k M a) ?_ (ih (a+1) (by omega))
          repeat' (first | exact aN | apply aI)
          iterate 2 all_goals (first | exact zH | (exact hd) | (intro i hi;by_cases h1:i=a<;>by_cases h2:i<a<;>by_cases h3:i<a+1<;>(simp [h1,h2,h3,cvtL,cvt,idx,idx1,idO,idM,tg,tru,All]<;>first | rfl | omega)) | (intro i hi hne;refine ⟨by omega,?_⟩;simp [All];done) | (intro i;simp [All,cM,trM];done) | (intros;simp [All];done) | simp only [All])
        | succ d ih2 =>
          intro k hk
          exact stp a k (by omega) (by omega) (ih2 (k+1) (by omega))
      refine pcD hc (tqa n m M a) ?_ (li m 0 (by omega))
      and_intros
      iterate 2 all_goals (first | exact zI | (exact hd) | (intro i hi;by_cases h1:i=a<;>by_cases h2:i<a<;>(simp [h1,h2,cvtL,cvt,idx,idx1,idO,idM,tg,tru,All]<;>first | rfl | omega)) | (intro t ht;exact absurd ht (Nat.not_lt_zero _)) | (intros;simp [All];done) | simp only [All])
  refine pcZ hc (tqz n m M) ?_ (lo n 0 (by omega))
  and_intros
  all_goals (first | exact zN | (intro t ht;exact absurd ht (Nat.not_lt_zero _)) | (intro t ht;simp [All];done) | (intros;simp [All];done))
theorem con_Turned {g:Nat→T_Bar} {nb N:Nat} {pl:Nat→T_Place} {np:Nat} (hf:fwB g nb N pl np=true) (h0:1≤nb) :
    zE 331 [frA g nb N pl np] [(0,ooOb 1 (2*N) (cM nb (trM (rgM g pl)))),(1,ffOb (2*N) (cM nb (trM (rgM g pl))))] (.ar 1 0 0 (2*N)):=by
  obtain ⟨h1,h2,h3,h4,hok,hb⟩:=fw_ok hf
  have m2:=con_RM_s hf
  generalize rgM g pl=M at m2 ⊢
  refine csZ Tryz.func331 (fun c hc=>?_)
  have lo:∀ d j,j+d=2*N→zR c 331 zf76 (Tu0 g nb N pl np M j) (Post c [(0,ooOb 1 (2*N) (cM nb (trM M))),(1,ffOb (2*N) (cM nb (trM M)))] (.ar 1 0 0 (2*N))):=by
    intro d
    induction d with
    | zero =>
      intro j hj
      obtain rfl:j=2*N:=by omega
      have hd:(bif decide (((2*N:Nat):Int)<2*(N:Int)) then decide ((nb:Int)>0) else false)=false:=by rw [decide_eq_false (by omega)];rfl
      refine pkD Tryz.func331 hc (tue g nb N pl np M) ?_
      and_intros
      iterate 2 all_goals (first | exact zN | (exact hd) | (intro h;exact h) | (intros;simp [All];done) | simp only [All])
    | succ d ih =>
      intro j hj
      have hd:(bif decide ((j:Int)<2*(N:Int)) then decide ((nb:Int)>0) else false)=true:=by rw [decide_eq_true (by omega),decide_eq_true (by omega)];rfl
      have li:∀ d i,i+d=nb→zR c 331 zf17 (Tu1 g nb N pl np M j i) (Post c [(0,ooOb 1 (2*N) (cM nb (trM M))),(1,ffOb (2*N) (cM nb (trM M)))] (.ar 1 0 0 (2*N))):=by
        intro d
        induction d with
        | zero =>
          intro i hi
          obtain rfl:i=nb:=by omega
          have hd:decide ((i:Int)<(i:Int))=false:=decide_eq_false (by omega)
          refine pcZ hc (tuc g i N pl np M j i) ?_ (ih (j+1) (by omega))
          repeat' (first | exact aN | apply aI)
          iterate 2 all_goals (first | exact zH | (exact hd) | (intro a ha;by_cases h1:a<j<;>(simp [h1,cvtL,cvt,idx,idx1,idO,idM,tg,tru,All]<;>first | rfl | omega)) | (intro a ha hne;refine ⟨by omega,?_⟩;simp [All];done) | (intro a;simp [All,cM];done) | (intros;simp [All];done) | simp only [All])
        | succ d ih2 =>
          intro i hi
          have hd:decide ((i:Int)<(nb:Int))=true:=decide_eq_true (by omega)
          refine pcZ hc (tub g nb N pl np M j i) ?_ (ih2 (i+1) (by omega))
          and_intros
          iterate 2 all_goals (first | exact zN | (exact hd) | (intro a ha;by_cases h1:a<i<;>by_cases h2:a=i<;>(simp [h1,h2,cvtL,cvt,tg,tru,All,cM,trM]<;>omega)) | (intros;simp [All];done) | simp only [All])
      refine pcD hc (tua g nb N pl np M j) ?_ (li nb 0 (by omega))
      and_intros
      iterate 2 all_goals (first | exact zN | (exact hd) | (intro h;exact h) | (intro t ht;exact absurd ht (Nat.not_lt_zero _)) | (intros;simp [All];done) | simp only [All])
  refine pcZ hc (tuz g nb N pl np M) ?_ (lo (2*N) 0 (by omega))
  and_intros
  iterate 2 all_goals (first | exact zN | (exact m2) | (intro t ht;exact absurd ht (Nat.not_lt_zero _)) | (intros;simp [All];done) | simp only [All])
def stF (g:Nat→T_Bar) (nb N:Nat) (pl:Nat→T_Place):Nat×(Nat→Nat→Int):=Had.nul nb (2*N) (trM (rgM g pl))
theorem stF_le (g:Nat→T_Bar) (nb N:Nat) (pl:Nat→T_Place):(stF g nb N pl).1≤nb:=Had.nsl_le _ _ _
theorem con_StressesOf {g:Nat→T_Bar} {nb N:Nat} {pl:Nat→T_Place} {np:Nat} (hf:fwB g nb N pl np=true) :
    zE 261 [frA g nb N pl np] [(0,ooOb 1 (stF g nb N pl).1 (cM nb (stF g nb N pl).2)),(1,ffOb (stF g nb N pl).1 (cM nb (stF g nb N pl).2))] (.ar 1 0 0 (stF g nb N pl).1) ∧
    zE 258 [frA g nb N pl np] [(0,ooOb 1 (stF g nb N pl).1 (cM nb (stF g nb N pl).2)),(1,ffOb (stF g nb N pl).1 (cM nb (stF g nb N pl).2))] (.ar 1 0 0 (stF g nb N pl).1):=by
  obtain ⟨h1,h2,h3,h4,hok,hb⟩:=fw_ok hf
  have f1:=con_IsFramework_i g nb N pl np (by omega)
  have f2:=con_IsFramework_s g nb N pl np (by omega)
  rw [hf] at f1 f2
  by_cases h0:nb=0
  · subst h0
    rw [show stF g 0 N pl=(0,fun _ _=>0) from rfl]
    constructor
    · refine csZ Tryz.func261 (fun c hc=>?_)
      refine pkD Tryz.func261 hc (stIe g 0 N pl np) ?_
      and_intros
      iterate 2 all_goals (first | exact zH | (exact f1) | (intro t ht;exact absurd ht (Nat.not_lt_zero _)) | (intro h;exact h) | (intros;simp [All];done) | simp only [All])
    · refine csZ Tryz.func258 (fun c hc=>?_)
      refine pkD Tryz.func258 hc (stSe g 0 N pl np) ?_
      and_intros
      iterate 2 all_goals (first | exact zH | (exact f2) | (intro t ht;exact absurd ht (Nat.not_lt_zero _)) | (intro h;exact h) | (intros;simp [All];done) | simp only [All])
  · have hd:(bif !true then true else (nb:Int)==0)=false:=by
      show ((nb:Int)==0)=false
      exact beq_eq_false_iff_ne.2 (by omega)
    have m1:=con_RM_i hf
    have t1:=con_transposed (2*N) nb (rgM g pl) (by omega) (by omega)
    have t2:=con_Turned hf (by omega)
    obtain ⟨K,hK⟩:=hb.tr_ok
    have n1:=con_null_i (n:=nb) (m:=2*N) (M:=trM (rgM g pl)) (K:=K) (by omega) (by omega) (by decide) Had.big96 hK
    have n2:=con_null_s (n:=nb) (m:=2*N) (M:=trM (rgM g pl)) (K:=K) (by omega) (by omega) (by decide) Had.big96 (by decide) hK
    rw [show ((2*N:Nat):Int)=2*(N:Int) by omega] at t1
    unfold stF
    generalize Had.nul nb (2*N) (trM (rgM g pl))=Y at *
    constructor
    · refine csZ Tryz.func261 (fun c hc=>?_)
      refine pkD Tryz.func261 hc (stI g nb N pl np (rgM g pl) Y.2 Y.1) ?_
      repeat' (first | exact aN | apply aI)
      iterate 2 all_goals (first | exact zH | (exact f1) | (exact hd) | (exact m1) | (exact t1) | (exact n1) | (intro h;exact h) | (intro t ht;simp only [All];exact ⟨ht,trivial,Nat.le_refl _,trivial⟩) | (intro t ht;simp [All];omega) | (intro t ht;simp [All];done) | simp only [All])
    · refine csZ Tryz.func258 (fun c hc=>?_)
      refine pkD Tryz.func258 hc (stS g nb N pl np (rgM g pl) Y.2 Y.1) ?_
      repeat' (first | exact aN | apply aI)
      iterate 2 all_goals (first | exact zH | (exact f2) | (exact hd) | (exact t2) | (exact n2) | (intro h;exact h) | (intro t ht;simp only [All];exact ⟨ht,trivial,Nat.le_refl _,trivial⟩) | (intro t ht;simp [All];omega) | (intro t ht;simp [All];done) | simp only [All])
theorem con_Tries {n q:Nat} {S:Nat→Nat→Int} (hn:n≤1000) (hq:q≤1000) (hS:∀ i,i<q→∀ j,j<n→-1073741824≤S i j∧S i j≤1073741824) :
    zE 257 [ssA2 q (cM n S),.p (.int .i64 n)] [(0,ssOb (5 ^ (min q 3)) (cM n (trS S (min q 3))))] (.ar 1 0 0 (5 ^ (min q 3))):=by
  refine csZ Tryz.func257 (fun c hc=>?_)
  generalize hp:min q 3=p
  have hp3:p≤3∧p≤q∧(p=q∨p=3):=by omega
  have lo:∀ d i,i+d=p→zR c 257 zf97 (Lt0 n q S i (5 ^ i)) (Post c [(0,ssOb (5 ^ p) (cM n (trS S p)))] (.ar 1 0 0 (5 ^ p))):=by
    intro d
    induction d with
    | zero =>
      intro i hi
      obtain rfl:i=p:=by omega
      have hd:(bif decide ((i:Int)<(q:Int)) then decide ((i:Int)<3) else false)=false:=by
        rcases hp3.2.2 with h | h
        · rw [decide_eq_false (show ¬ ((i:Int)<(q:Int)) by omega)];rfl
        · rw [decide_eq_false (show ¬ ((i:Int)<3) by omega)];cases decide ((i:Int)<(q:Int))<;>rfl
      refine pkD Tryz.func257 hc (lte n q S i (5 ^ i)) ?_
      and_intros
      iterate 2 all_goals (first | exact zN | (exact hd) | (intro h;exact h) | (intros;simp [All];done) | simp only [All])
    | succ d ih =>
      intro i hi
      have hd:(bif decide ((i:Int)<(q:Int)) then decide ((i:Int)<3) else false)=true:=by
        rw [decide_eq_true (show ((i:Int)<(q:Int)) by omega),decide_eq_true (show ((i:Int)<3) by omega)];rfl
      have hr:=ih (i+1) (by omega)
      have hC:5 ^ (i+1)=5*5 ^ i:=by rw [Nat.pow_succ,Nat.mul_comm]
      have hC3:5 ^ i≤125:=by
        have:i=0∨i=1∨i=2:=by omega
        rcases this with rfl | rfl | rfl<;>decide
      rw [hC] at hr
      have hb:∀ t j,j<n→-(2*1073741824*(i:Int))≤trS S i t j∧trS S i t j≤2*1073741824*(i:Int):=fun t j hj=>trS_b (B:=1073741824) (p:=q) (n:=n) hS i (by omega) t j hj
      generalize 5 ^ i=C at *
      have lk:∀ d k,k+d=C→zR c 257 zf20 (Lt1 n q S i C k) (Post c [(0,ssOb (5 ^ p) (cM n (trS S p)))] (.ar 1 0 0 (5 ^ p))):=by
        intro d
        induction d with
        | zero =>
          intro k hk
          obtain rfl:k=C:=by omega
          have hd:decide ((k:Int)<(k:Int))=false:=decide_eq_false (by omega)
          refine pcZ hc (ltc n q S i k (5*k) k) ?_ hr
          and_intros
          all_goals (first | exact zN | (exact hd) | (intros;simp [All];done))
        | succ d ih2 =>
          intro k hk
          have hd:decide ((k:Int)<(C:Int))=true:=decide_eq_true (by omega)
          have la:∀ d a,a+d=5→zR c 257 zf7 (Lt2 n q S i C k a) (Post c [(0,ssOb (5 ^ p) (cM n (trS S p)))] (.ar 1 0 0 (5 ^ p))):=by
            intro d
            induction d with
            | zero =>
              intro a ha
              have hd:decide ((a:Int) - 2≤2)=false:=decide_eq_false (by omega)
              refine pcZ hc (ltf n q S i C k a) ?_ (ih2 (k+1) (by omega))
              and_intros
              all_goals (first | exact zN | (exact hd) | (intros;simp [All];done))
            | succ d ih3 =>
              intro a ha
              have hd:decide ((a:Int) - 2≤2)=true:=decide_eq_true (by omega)
              have lj:∀ d j,j+d=n→zR c 257 zf3 (Lt3 n q S i C k a j) (Post c [(0,ssOb (5 ^ p) (cM n (trS S p)))] (.ar 1 0 0 (5 ^ p))):=by
                intro d
                induction d with
                | zero =>
                  intro j hj
                  obtain rfl:j=n:=by omega
                  have hd:decide ((j:Int)<(j:Int))=false:=decide_eq_false (by omega)
                  refine pcZ hc (lth j q S i C k a) ?_ (ih3 (a+1) (by omega))
                  and_intros
                  all_goals (first | exact zN | (exact hd) | (intros;simp [All];done) | (intro t ht;by_cases h1:t<5*k+a<;>by_cases h2:t=5*k+a<;>(simp [h1,h2,cvtL,cvt,lendP,cellP,tab,idx,idx1,lkk,idO,idM,Ob.isF,List.lookup,iOb,tg,tru,All,cM]<;>omega)))
                | succ d ih4 =>
                  intro j hj
                  have hd:decide ((j:Int)<(n:Int))=true:=decide_eq_true (by omega)
                  have b1:=hb k j (by omega)
                  have b2:=hS i (by omega) j (by omega)
                  have m1:=Trv.bdm (a:=(a:Int) - 2) (b:=S i j) (A:=2) (B:=1073741824) (by omega) b2
                  have e1:(cM n S i).2 j=S i j:=rfl
                  have e2:(cM n (trS S i) k).2 j=trS S i k j:=rfl
                  have e3:trS S (i+1) (5*k+a) j=trS S i k j+((a:Int) - 2)*S i j:=by
                    rw [trS,show (5*k+a) / 5=k by omega,show (5*k+a) % 5=a by omega]
                  refine pcZ hc (ltg n q S i C k a j) ?_ (ih4 (j+1) (by omega))
                  and_intros
                  all_goals (first | exact zN | (exact hd) | (rw [e1];omega) | (rw [e1,e2];omega) | (intros;simp [All];done) | (intro t ht;by_cases h1:t<j<;>by_cases h2:t=j<;>(simp [h1,h2,cvtL,cvt,tg,tru,All,cM,e3]<;>omega)))
              refine pcZ hc (ltd n q S i C k a) ?_ (lj n 0 (by omega))
              and_intros
              iterate 2 all_goals (first | exact zN | (exact hd) | (intro t ht;exact absurd ht (Nat.not_lt_zero _)) | (intros;simp [All];done) | simp only [All])
          refine pcZ hc (ltb n q S i C k) ?_ (la 5 0 rfl)
          and_intros
          all_goals (first | exact zN | (exact hd) | (intros;simp [All];done))
      refine pcD hc (lta n q S i C) ?_ (lk C 0 (by omega))
      and_intros
      iterate 2 all_goals (first | exact zN | (exact hd) | (intro h;exact h) | (intro t ht;exact absurd ht (Nat.not_lt_zero _)) | (intros;simp [All];done) | simp only [All])
  refine pcZ hc (ltz n q S) ?_ (lo p 0 (by omega))
  and_intros
  iterate 2 all_goals (first | exact zN | (intros;simp [All];done) | (intro t ht;simp [All,cM,trS];done) | simp only [All])
noncomputable def gdB (g:Nat→T_Bar) (nb:Nat) (N:Int) (pl:Nat→T_Place) (np:Nat) (K:T_IntS) (w:Nat→Int):Bool:=strcB g nb N pl np K (nb,w)
theorem con_FsRec {g:Nat→T_Bar} {nb:Nat} {N:Int} {pl:Nat→T_Place} {np:Nat} {K:T_IntS} {q p:Nat} {S:Nat→Nat→Int} (hn:nb≤1000∧np≤1000) (hK:K.1≤1000) (hq:p≤q∧p≤3∧q≤1000)
    (hS:∀ i,i<p→∀ j,j<nb→-1073741824≤S i j∧S i j≤1073741824) :
    ∀ d i (w:Nat→Int),i+d=p→(∀ j,j<nb→-(2147483648*(i:Int))≤w j∧w j≤2147483648*(i:Int)) →
    Con Tryz.prog 262 6 (fsH g nb N pl np K q p S 5 nb w) [.ar 1 5 0 nb,.p (.int .i64 i),.pt 1 0 0 0,.pt 4 3 0 0,.pt 1 4 0 0]
      (fsH g nb N pl np K q p S 6 (fsS (gdB g nb N pl np K) nb S d i w).2.1 (fsS (gdB g nb N pl np K) nb S d i w).2.2)
      (.tup [.ar 1 6 0 (fsS (gdB g nb N pl np K) nb S d i w).2.1,.p (.bool (fsS (gdB g nb N pl np K) nb S d i w).1)]):=by
  intro d
  induction d with
  | zero =>
    intro i w hi hw
    have cs:=con_Strict_i g nb N pl np K (nb,w) (by omega) (by omega) (by show nb≤_;omega)
    have h0:((i:Int)==(p:Int))=true:=beq_iff_eq.2 (by omega)
    rw [fsS]
    refine csZ Tryz.func262 (fun c hc=>?_)
    refine pkD Tryz.func262 hc (fiB g nb N pl np K q p S i w (gdB g nb N pl np K w)) ?_
    and_intros
    iterate 2 all_goals (first | exact zN | (exact h0) | (exact cs) | (intros;simp [All];done) | simp only [All])
  | succ d ih =>
    intro i w hi hw
    have h0:((i:Int)==(p:Int))=false:=beq_eq_false_iff_ne.2 (by omega)
    have cc:=con_copyInts nb w (by omega)
    change Con _ _ _ _ _ [(0,iOb nb w)] (.ar 1 0 0 nb) at cc
    rw [fsS]
    refine csZ Tryz.func262 (fun c hc=>?_)
    generalize hF:(fun f=>fsS (gdB g nb N pl np K) nb S d (i+1) (adV w (S i) f))=F
    have lo:∀ (e:Nat) (f:Int),f+e=3→-2≤f→zR c 262 zf98 (Fs0 g nb N pl np K q p S i w f)
        (Post c (fsH g nb N pl np K q p S 6 (goF F e f).2.1 (goF F e f).2.2) (.tup [.ar 1 6 0 (goF F e f).2.1,.p (.bool (goF F e f).1)])):=by
      intro e
      induction e with
      | zero =>
        intro f hf _
        have hd:decide (f≤2)=false:=decide_eq_false (by omega)
        rw [goF]
        refine pkD Tryz.func262 hc (fif g nb N pl np K q p S i w f) ?_
        and_intros
        iterate 2 all_goals (first | exact zN | (exact hd) | (intro t ht;exact absurd ht (Nat.not_lt_zero _)) | (intros;simp [All];done) | simp only [All])
      | succ e ihe =>
        intro f hf hf2
        have hd:decide (f≤2)=true:=decide_eq_true (by omega)
        have hr:=ihe (f+1) (by omega) (by omega)
        have ca:=ih (i+1) (adV w (S i) f) (by omega) (fun j hj=>by
          have b1:=hw j hj
          have b2:=hS i (by omega) j hj
          have m1:=Trv.bdm (a:=f) (b:=S i j) (A:=2) (B:=1073741824) (by omega) b2
          show -(2147483648*((i+1:Nat):Int))≤w j+f*S i j∧w j+f*S i j≤2147483648*((i+1:Nat):Int)
          omega)
        rw [show ((i+1:Nat):Int)=(i:Int)+1 by omega] at ca
        have hFf:fsS (gdB g nb N pl np K) nb S d (i+1) (adV w (S i) f)=F f:=by rw [← hF]
        rw [hFf] at ca
        have fin:zR c 262 ficE (Fs2 g nb N pl np K q p S i w f (adV w (S i) f))
            (Post c (fsH g nb N pl np K q p S 6 (goF F (e+1) f).2.1 (goF F (e+1) f).2.2) (.tup [.ar 1 6 0 (goF F (e+1) f).2.1,.p (.bool (goF F (e+1) f).1)])):=by
          rw [goF]
          cases hb:(F f).1 with
          | true =>
            rw [if_pos rfl]
            rw [hb] at ca
            generalize F f=r at ca ⊢
            refine pkD Tryz.func262 hc (fid g nb N pl np K q p S i w f (adV w (S i) f) r.2.2 r.2.1) ?_
            and_intros
            iterate 2 all_goals (first | exact zN | (exact ca) | (intros;simp [All];done) | simp only [All])
          | false =>
            rw [if_neg Bool.false_ne_true]
            rw [hb] at ca
            generalize F f=r at ca ⊢
            refine pcD hc (fie g nb N pl np K q p S i w f (adV w (S i) f) r.2.2 r.2.1) ?_ hr
            and_intros
            iterate 2 all_goals (first | exact zN | (exact ca) | (intros;simp [All];done) | simp only [All])
        have lk:∀ d k (x:Nat→Int),k+d=nb→(∀ j,j<nb→x j=xkF w (S i) f k j)→zR c 262 zf21 (Fs1 g nb N pl np K q p S i w f x k)
            (Post c (fsH g nb N pl np K q p S 6 (goF F (e+1) f).2.1 (goF F (e+1) f).2.2) (.tup [.ar 1 6 0 (goF F (e+1) f).2.1,.p (.bool (goF F (e+1) f).1)])):=by
          intro d
          induction d with
          | zero =>
            intro k x hk hx
            obtain rfl:k=nb:=by omega
            have hd:decide ((k:Int)<(k:Int))=false:=decide_eq_false (by omega)
            refine pcD hc (fic g k N pl np K q p S i w f x (adV w (S i) f)) ?_ fin
            and_intros
            iterate 2 all_goals (first | exact zN | (exact hd) | (intro t ht;rw [hx t ht];simp [xkF,adV,ht,All];done) | (intros;simp [All];done) | simp only [All])
          | succ d ihk =>
            intro k x hk hx
            have hd:decide ((k:Int)<(nb:Int))=true:=decide_eq_true (by omega)
            have b1:=hw k (by omega)
            have b2:=hS i (by omega) k (by omega)
            have m1:=Trv.bdm (a:=f) (b:=S i k) (A:=2) (B:=1073741824) (by omega) b2
            have e1:(cM nb S i).2 k=S i k:=rfl
            have e2:x k=w k:=by rw [hx k (by omega),xkF,if_neg (Nat.lt_irrefl _)]
            refine pcD hc (fib g nb N pl np K q p S i w f x k) ?_ (ihk (k+1) (fun j=>if j=k then x j+f*S i j else x j) (by omega) (fun j hj=>by
              show (if j=k then x j+f*S i j else x j)=_
              by_cases hjk:j=k
              · rw [if_pos hjk,hjk,e2,xkF,if_pos (Nat.lt_succ_self _)]
              · rw [if_neg hjk,hx j hj]
                unfold xkF
                by_cases hlt:j<k
                · rw [if_pos hlt,if_pos (show j<k+1 by omega)]
                · rw [if_neg hlt,if_neg (show ¬ j<k+1 by omega)]))
            and_intros
            iterate 2 all_goals (first | exact zI | (exact hd) | (rw [e1];omega) | (rw [e1,e2];omega) | (intro t ht;by_cases h1:t=k<;>(simp [h1,cvtL,cvt,tg,tru,All,cM];done)) | (intros;simp [All];done) | simp only [All])
        refine pcD hc (fia g nb N pl np K q p S i w f) ?_ (lk nb 0 w (by omega) (fun j hj=>by rw [xkF,if_neg (Nat.not_lt_zero _)]))
        and_intros
        iterate 2 all_goals (first | exact zN | (exact hd) | (exact cc) | (intros;simp [All];done) | simp only [All])
    refine pcD hc (fiz g nb N pl np K q p S i w) ?_ (lo 5 (-2) rfl (Int.le_refl _))
    and_intros
    iterate 2 all_goals (first | exact zN | (exact h0) | (intros;simp [All];done) | simp only [All])
def fcO2:Ob:=⟨true,1,1,fun _=>[.clo 262 [.pt 1 3 0 0,.pt 4 0 0 0,.pt 1 4 0 0]]⟩
def Fi0 (g:Nat→T_Bar) (nb:Nat) (N:Int) (pl:Nat→T_Place) (np:Nat) (K:T_IntS) (q p:Nat) (S:Nat→Nat→Int):St :=
  ⟨[.p .any,.pt 4 0 0 0,.p .any,.p .any,.pt 1 3 0 0,.pt 1 4 0 0]++List.replicate 28 anyA,[(0,tsO g nb N pl np K),(1,ooOb 2 q (cM nb S)),(2,ffOb q (cM nb S)),(3,fl0 p),(4,fcO2)],5⟩
theorem ftn (g:Nat→T_Bar) (nb:Nat) (N:Int) (pl:Nat→T_Place) (np:Nat) (K:T_IntS) :
    zS Tryz.f153 [rg 3,rm [(1,oc [] (.p (.bool false)))] 1,.dec true,rg 3] [tsA g nb N pl np K] [192] [(0,iOb 0 (fun _=>0))] (.tup [.ar 1 0 0 0,.p (.bool false)]) =
    some [(NT 0 1),zE 151 [(zf45 N nb g np pl K)] [] (.p (.bool false)),((!false)=true),(AN 0),(AN 0),(false=false),(AN 1),(NL 0 0),(AA 0 (fun i=>[.p (.int .i64 0)])),(AE 0)]:=by kernel_rfl
theorem ftz (g:Nat→T_Bar) (nb:Nat) (N:Int) (pl:Nat→T_Place) (np:Nat) (K:T_IntS) (q p:Nat) (S:Nat→Nat→Int) :
    zT Tryz.f153 [rg 3,rm [(1,oc [] (.p (.bool true)))] 1,.dec false,rm [(2,oc [(0,ooOb 1 q (cM nb S)),(1,ffOb q (cM nb S))] (.ar 1 0 0 q))] 2,rg 6,rg 1,rg 2,.head] [tsA g nb N pl np K] [0,256,257,288,544] (Fi0 g nb N pl np K q p S) =
    some (zf139,zD [(NT 0 1),zE 151 [(zf45 N nb g np pl K)] [] (.p (.bool true)),((!true)=false),zE 261 [(zf60 N nb g np pl)] [(0,⟨false,1,q,(fun i=>[.ar 1 ⟨1,some i⟩ 0 nb])⟩),(1,⟨true,0,q,(fun i=>[.p (.seq false 1 nb (fun i_1=>[.int .i64 ((cM nb S i).2 i_1)]))])⟩)] (.ar 1 0 0 q),((true=true)→ (AN 1)),(IL 0 0),(IL 0 (if false=true then if 3>(↑q:Int) then 3 else (↑q:Int) else if 3<(↑q:Int) then 3 else (↑q:Int))),(IL (if false=true then if 3>(↑q:Int) then 3 else (↑q:Int) else if 3<(↑q:Int) then 3 else (↑q:Int)) (↑q:Int)),(AN 0),((([AV.p (PV.int IntKind.i64 N),brL g nb,pcL pl np,inL K].length):Nat)=4),(NL 1 1),(AI N),(AN nb),(AP nb (bRw g)),(AN np),(AP np (bRw pl)),(AN K.1),(AP K.1 (iRw K)),(AN 1),(NL q q),(AA q (fun i=>[.ar 1 ⟨2,some i⟩ 0 nb])),(∀ i:Nat,(((i:Nat)<q)→All [(AN 1),((nb:Nat)≤nb),(AP nb (fun r=>[.int .i64 ((cM nb S i).2 r)]))])),((((List.map (fun v=>AV.p (absV v)) [Value.slice none 0 0]).length):Nat)=1),((((if false=true then if 3>(↑q:Int) then 3 else (↑q:Int) else if 3<(↑q:Int) then 3 else (↑q:Int)).toNat):Nat)=p),((((List.map (fun v=>AV.p (absV v)) [Value.nilFunc]).length):Nat)=1)] [0,1,2,0,3,0,4,0,0,5,6,7,0,4,0,4,8,8,8,9,10,10,11,12,13,14,15,16,17,18,19,20,19,21,22,10,10,8,23,24,10,10,8,8,8]):=by kernel_rfl
theorem fty (g:Nat→T_Bar) (nb:Nat) (N:Int) (pl:Nat→T_Place) (np:Nat) (kf:Nat→Int) (q p:Nat) (S:Nat→Nat→Int) (m:Nat) (z:Nat→Int) :
    zP Tryz.f153 0 [rm [(5,⟨true,(some ⟨[3,1,2,0,4,133],[7],[],1,(fsH g nb N pl np (nb,kf) q p S 6 m z),.tup [.ar 1 6 0 m,.p (.bool true)]⟩),none⟩)] 5,rg 2,.dec false,rg 3] zf139 (Fi0 g nb N pl np (nb,kf) q p S) [165] 1 [(0,iOb m z)] (.tup [.ar 1 0 0 m,.p (.bool true)]) =
    some [(NT 0 1),(NT 0 1),(IL 0 (↑nb:Int)),(IL (↑nb:Int) (↑nb:Int)),(IL ((↑nb:Int)*(↑8:Int)) 281474976710656),(ZHi (↑nb:Int)),(AE 1),(AE q),(AE 1),(AE 1),(AE nb),Con Tryz.prog 262 6 [(0,⟨true,1,1,(fun i=>[.ar 1 1 0 p])⟩),(1,⟨false,1,q,(fun i=>[.ar 1 ⟨2,some i⟩ 0 nb])⟩),(2,⟨true,0,q,(fun i=>[.p (.seq false 1 nb (fun i_1=>[.int .i64 ((cM nb S i).2 i_1)]))])⟩),(3,⟨true,4,1,(fun i=>[.p (.int .i64 N),.p (.seq false 2 nb (bRw g)),.p (.seq false 2 np (bRw pl)),.p (.seq false 1 nb (fun i_1=>[.int .i64 ((nb,kf).2 i_1)]))])⟩),(4,⟨true,1,1,(fun i=>[.clo 262 [.pt 1 0 0 0,.pt 4 3 0 0,.pt 1 4 0 0]])⟩),(5,⟨false,1,nb,(fun i=>[.p (.int .i64 0)])⟩)] [.ar 1 5 0 nb,.p (.int .i64 0),.pt 1 0 0 0,.pt 4 3 0 0,.pt 1 4 0 0] [(0,⟨true,1,1,(fun i=>[.ar 1 1 0 p])⟩),(1,⟨false,1,q,(fun i=>[.ar 1 ⟨2,some i⟩ 0 nb])⟩),(2,⟨true,0,q,(fun i=>[.p (.seq false 1 nb (fun i_1=>[.int .i64 ((cM nb S i).2 i_1)]))])⟩),(3,⟨true,4,1,(fun i=>[.p (.int .i64 N),.p (.seq false 2 nb (bRw g)),.p (.seq false 2 np (bRw pl)),.p (.seq false 1 nb (fun i_1=>[.int .i64 ((nb,kf).2 i_1)]))])⟩),(4,⟨true,1,1,(fun i=>[.clo 262 [.pt 1 0 0 0,.pt 4 3 0 0,.pt 1 4 0 0]])⟩),(6,⟨false,1,m,(fun i=>[.p (.int .i64 (z i))])⟩)] (.tup [.ar 1 6 0 m,.p (.bool true)]),((!true)=false),(AN 0),(AN m),(true=true),(AN 1),(NL m m),(AA m (fun i=>[.p (.int .i64 (z i))])),(AE m)]:=by kernel_rfl
theorem ftx (g:Nat→T_Bar) (nb:Nat) (N:Int) (pl:Nat→T_Place) (np:Nat) (kf:Nat→Int) (q p:Nat) (S:Nat→Nat→Int) (m:Nat) (z:Nat→Int) :
    zP Tryz.f153 0 [rm [(5,⟨true,(some ⟨[3,1,2,0,4,133],[7],[],1,(fsH g nb N pl np (nb,kf) q p S 6 m z),.tup [.ar 1 6 0 m,.p (.bool false)]⟩),none⟩)] 5,rg 2,.dec true,rg 3] zf139 (Fi0 g nb N pl np (nb,kf) q p S) [421] 1 [(0,iOb 0 (fun _=>0))] (.tup [.ar 1 0 0 0,.p (.bool false)]) =
    some [(NT 0 1),(NT 0 1),(IL 0 (↑nb:Int)),(IL (↑nb:Int) (↑nb:Int)),(IL ((↑nb:Int)*(↑8:Int)) 281474976710656),(ZHi (↑nb:Int)),(AE 1),(AE q),(AE 1),(AE 1),(AE nb),Con Tryz.prog 262 6 [(0,⟨true,1,1,(fun i=>[.ar 1 1 0 p])⟩),(1,⟨false,1,q,(fun i=>[.ar 1 ⟨2,some i⟩ 0 nb])⟩),(2,⟨true,0,q,(fun i=>[.p (.seq false 1 nb (fun i_1=>[.int .i64 ((cM nb S i).2 i_1)]))])⟩),(3,⟨true,4,1,(fun i=>[.p (.int .i64 N),.p (.seq false 2 nb (bRw g)),.p (.seq false 2 np (bRw pl)),.p (.seq false 1 nb (fun i_1=>[.int .i64 ((nb,kf).2 i_1)]))])⟩),(4,⟨true,1,1,(fun i=>[.clo 262 [.pt 1 0 0 0,.pt 4 3 0 0,.pt 1 4 0 0]])⟩),(5,⟨false,1,nb,(fun i=>[.p (.int .i64 0)])⟩)] [.ar 1 5 0 nb,.p (.int .i64 0),.pt 1 0 0 0,.pt 4 3 0 0,.pt 1 4 0 0] [(0,⟨true,1,1,(fun i=>[.ar 1 1 0 p])⟩),(1,⟨false,1,q,(fun i=>[.ar 1 ⟨2,some i⟩ 0 nb])⟩),(2,⟨true,0,q,(fun i=>[.p (.seq false 1 nb (fun i_1=>[.int .i64 ((cM nb S i).2 i_1)]))])⟩),(3,⟨true,4,1,(fun i=>[.p (.int .i64 N),.p (.seq false 2 nb (bRw g)),.p (.seq false 2 np (bRw pl)),.p (.seq false 1 nb (fun i_1=>[.int .i64 ((nb,kf).2 i_1)]))])⟩),(4,⟨true,1,1,(fun i=>[.clo 262 [.pt 1 0 0 0,.pt 4 3 0 0,.pt 1 4 0 0]])⟩),(6,⟨false,1,m,(fun i=>[.p (.int .i64 (z i))])⟩)] (.tup [.ar 1 6 0 m,.p (.bool false)]),((!false)=true),(AN 0),(AN 0),(false=false),(AN 1),(NL 0 0),(AA 0 (fun i=>[.p (.int .i64 0)])),(AE 0)]:=by kernel_rfl
theorem fsTq_no (good:(Nat→Int)→Bool) (nb:Nat) (V:Nat→Nat→Int):∀ e t,(fsTq good nb V e t).1=false→fsTq good nb V e t=(false,(0,fun _=>0))
  | 0,t,_=>rfl
  | e+1,t,h=>by
    rw [fsTq] at h ⊢
    by_cases hg:good (V t)=true
    · rw [if_pos hg] at h;cases h
    · rw [if_neg hg] at h ⊢;exact fsTq_no good nb V e (t+1) h
noncomputable def fstF (g:Nat→T_Bar) (nb:Nat) (N:Int) (pl:Nat→T_Place) (np:Nat) (K:T_IntS):Bool×T_IntS :=
  if tsB g nb N pl np K=true then fsTq (gdB g nb N pl np K) nb (trS (stF g nb N.toNat pl).2 (min (stF g nb N.toNat pl).1 3)) (5 ^ (min (stF g nb N.toNat pl).1 3)) 0 else (false,(0,fun _=>0))
theorem stF_small {g:Nat→T_Bar} {nb N:Nat} {pl:Nat→T_Place} {np:Nat} (hf:fwB g nb N pl np=true) {i:Nat} (hi:i<(stF g nb N pl).1) {j:Nat} (hj:j<nb) :
    -1073741824≤(stF g nb N pl).2 i j∧(stF g nb N pl).2 i j≤1073741824:=(fw_ok hf).2.2.2.2.2.st_small hi hj
theorem con_FStrict_s (g:Nat→T_Bar) (nb:Nat) (N:Int) (pl:Nat→T_Place) (np:Nat) (K:T_IntS) (hn:nb≤1048576∧np≤1048576) (hK:K.1≤1048576) :
    zE 148 [tsA g nb N pl np K] [(0,iOb (fstF g nb N pl np K).2.1 (fstF g nb N pl np K).2.2)] (.tup [.ar 1 0 0 (fstF g nb N pl np K).2.1,.p (.bool (fstF g nb N pl np K).1)]):=by
  have c1:=con_IsTensegrity_s g nb N pl np K hn hK
  unfold fstF
  cases ht:tsB g nb N pl np K with
  | false =>
    rw [ht] at c1
    rw [if_neg Bool.false_ne_true]
    refine csZ Tryz.func148 (fun c hc=>?_)
    refine pkZ Tryz.func148 hc (fsn g nb N pl np K) ?_
    and_intros
    all_goals (first | exact zN | (exact c1) | (intro t ht;exact absurd ht (Nat.not_lt_zero _)) | (intros;simp [All];done))
  | true =>
    rw [ht] at c1
    rw [if_pos rfl]
    obtain ⟨hk,hf⟩:=ts_len ht
    obtain ⟨n,rfl⟩:=fw_N hf
    obtain ⟨h1,h2,h3,h4,hok,hb⟩:=fw_ok hf
    rw [Int.toNat_natCast]
    have c2:=(con_StressesOf hf).2
    have hsm:∀ i,i<(stF g nb n pl).1→∀ j,j<nb→-1073741824≤(stF g nb n pl).2 i j∧(stF g nb n pl).2 i j≤1073741824:=fun i hi j hj=>stF_small hf hi hj
    have hql:=stF_le g nb n pl
    generalize (stF g nb n pl).2=S at *
    generalize (stF g nb n pl).1=q at *
    have c3:=con_Tries (n:=nb) (q:=q) (S:=S) (by omega) (by omega) hsm
    have hC3:5 ^ (min q 3)≤125:=by
      have:min q 3=0∨min q 3=1∨min q 3=2∨min q 3=3:=by omega
      rcases this with h | h | h | h<;>rw [h]<;>decide
    rw [show (nb:Int)=(K.1:Int) by omega] at c3
    generalize trS S (min q 3)=V at *
    generalize 5 ^ (min q 3)=C at *
    refine csZ Tryz.func148 (fun c hc=>?_)
    generalize hR:fsTq (gdB g nb n pl np K) nb V C 0=R
    have lo:∀ d i,i+d=C→fsTq (gdB g nb n pl np K) nb V d i=R→zR c 148 zf80 (FsS g nb n pl np K C V i) (Post c [(0,iOb R.2.1 R.2.2)] (.tup [.ar 1 0 0 R.2.1,.p (.bool R.1)])):=by
      intro d
      induction d with
      | zero =>
        intro i hi hr
        have hd:decide ((i:Int)<(C:Int))=false:=decide_eq_false (by omega)
        rw [← hr,fsTq]
        refine pkZ Tryz.func148 hc (fse2 g nb n pl np K C V i) ?_
        and_intros
        all_goals (first | exact zN | (exact hd) | (intro t ht;exact absurd ht (Nat.not_lt_zero _)) | (intros;simp [All];done))
      | succ d ih =>
        intro i hi hr
        have hd:decide ((i:Int)<(C:Int))=true:=decide_eq_true (by omega)
        have cs:=con_Strict_s g nb n pl np K (nb,V i) hn hK (by show nb≤_;omega)
        change Con _ _ _ _ _ _ (.p (.bool (gdB g nb n pl np K (V i)))) at cs
        rw [fsTq] at hr
        cases hg:gdB g nb n pl np K (V i) with
        | true =>
          rw [hg] at cs
          rw [hg,if_pos rfl] at hr
          rw [← hr]
          refine pkD Tryz.func148 hc (fsy2 g nb n pl np K C V i) ?_
          and_intros
          iterate 2 all_goals (first | exact zN | (exact hd) | (exact cs) | (intros;simp [All,cM];done) | simp only [All])
        | false =>
          rw [hg] at cs
          rw [hg,if_neg Bool.false_ne_true] at hr
          refine pcZ hc (fst2 g nb n pl np K C V i) ?_ (ih (i+1) (by omega) hr)
          and_intros
          all_goals (first | exact zN | (exact hd) | (exact cs) | (intros;simp [All];done))
    refine pcZ hc (fsz2 g nb n pl np K q C S V) ?_ (lo C 0 (by omega) hR)
    and_intros
    iterate 2 all_goals (first | exact zN | (exact c1) | (exact c2) | (exact c3) | (intro t ht;simp [All];omega) | (intro t ht;simp only [All];and_intros<;>first | assumption | trivial | omega) | (intros;simp [All];done) | simp only [All])
theorem con_FStrict_i (g:Nat→T_Bar) (nb:Nat) (N:Int) (pl:Nat→T_Place) (np:Nat) (K:T_IntS) (hn:nb≤1048576∧np≤1048576) (hK:K.1≤1048576) :
    zE 153 [tsA g nb N pl np K] [(0,iOb (fstF g nb N pl np K).2.1 (fstF g nb N pl np K).2.2)] (.tup [.ar 1 0 0 (fstF g nb N pl np K).2.1,.p (.bool (fstF g nb N pl np K).1)]):=by
  have c1:=con_IsTensegrity_i g nb N pl np K hn hK
  unfold fstF
  cases ht:tsB g nb N pl np K with
  | false =>
    rw [ht] at c1
    rw [if_neg Bool.false_ne_true]
    refine csZ Tryz.func153 (fun c hc=>?_)
    refine pkZ Tryz.func153 hc (ftn g nb N pl np K) ?_
    and_intros
    all_goals (first | exact zN | (exact c1) | (intro t ht;exact absurd ht (Nat.not_lt_zero _)) | (intros;simp [All];done))
  | true =>
    rw [ht] at c1
    rw [if_pos rfl]
    obtain ⟨hk,hf⟩:=ts_len ht
    obtain ⟨n,rfl⟩:=fw_N hf
    obtain ⟨h1,h2,h3,h4,hok,hb⟩:=fw_ok hf
    rw [Int.toNat_natCast]
    obtain ⟨k,kf⟩:=K
    have hk:k=nb:=hk
    subst hk
    have c2:=(con_StressesOf hf).1
    have hsm:∀ i,i<(stF g k n pl).1→∀ j,j<k→-1073741824≤(stF g k n pl).2 i j∧(stF g k n pl).2 i j≤1073741824:=fun i hi j hj=>stF_small hf hi hj
    have hql:=stF_le g k n pl
    generalize (stF g k n pl).2=S at *
    generalize (stF g k n pl).1=q at *
    have cr:=con_FsRec (g:=g) (nb:=k) (N:=n) (pl:=pl) (np:=np) (K:=(k,kf)) (q:=q) (p:=min q 3) (S:=S) (by omega) (by show k≤_;omega) (by omega) (fun i hi j hj=>hsm i (by omega) j hj)
      (min q 3) 0 (fun _=>0) (by omega) (fun j hj=>by simp)
    have he:=fsS_eq (gdB g k n pl np (k,kf)) k S (min q 3) 0 0
    rw [show trS S 0 0=fun _=>0 from rfl,Nat.zero_mul,Nat.zero_add] at he
    generalize fsS (gdB g k n pl np (k,kf)) k S (min q 3) 0 (fun _=>0)=r at *
    have hno:=fsTq_no (gdB g k n pl np (k,kf)) k (trS S (min q 3)) (5 ^ (min q 3)) 0
    generalize fsTq (gdB g k n pl np (k,kf)) k (trS S (min q 3)) (5 ^ (min q 3)) 0=R at *
    obtain ⟨he1,he2⟩:=he
    refine csZ Tryz.func153 (fun c hc=>?_)
    have fin:zR c 153 zf139 (Fi0 g k n pl np (k,kf) q (min q 3) S) (Post c [(0,iOb R.2.1 R.2.2)] (.tup [.ar 1 0 0 R.2.1,.p (.bool R.1)])):=by
      cases hb:R.1 with
      | true =>
        rw [he1,hb] at cr
        rw [he2 hb] at cr
        refine pkZ Tryz.func153 hc (fty g k n pl np kf q (min q 3) S R.2.1 R.2.2) ?_
        and_intros
        all_goals (first | exact zN | (exact cr) | (intros;simp [All];done))
      | false =>
        rw [he1,hb] at cr
        rw [hno hb]
        refine pkZ Tryz.func153 hc (ftx g k n pl np kf q (min q 3) S r.2.1 r.2.2) ?_
        and_intros
        all_goals (first | exact zN | (exact cr) | (intro t ht;exact absurd ht (Nat.not_lt_zero _)) | (intros;simp [All];done))
    refine pcD hc (ftz g k n pl np (k,kf) q (min q 3) S) ?_ fin
    and_intros
    iterate 2 all_goals (first | exact zI | (exact c1) | (exact c2) | (intro t ht;simp [All];omega) | (intro t ht;simp only [All];and_intros<;>first | assumption | trivial | omega) | (intros;simp [All];done) | (simp;omega) | simp only [All])
theorem fsTq_mem (good:(Nat→Int)→Bool) (nb:Nat) (V:Nat→Nat→Int):∀ e t,(fsTq good nb V e t).1=true→∃ u,(fsTq good nb V e t).2=(nb,V u)∧good (V u)=true
  | 0,t,h=>absurd h Bool.false_ne_true
  | e+1,t,h=>by
    rw [fsTq] at h ⊢
    by_cases hg:good (V t)=true
    · rw [if_pos hg];exact ⟨t,rfl,hg⟩
    · rw [if_neg hg] at h ⊢;exact fsTq_mem good nb V e (t+1) h
theorem fst_in (g:Nat→T_Bar) (nb:Nat) (N:Int) (pl:Nat→T_Place) (np:Nat) (K:T_IntS):(fstF g nb N pl np K).2.1≤15∧∀ k,k<(fstF g nb N pl np K).2.1→-(2 ^ 62)≤(fstF g nb N pl np K).2.2 k∧(fstF g nb N pl np K).2.2 k≤2 ^ 62:=by
  unfold fstF
  cases ht:tsB g nb N pl np K with
  | false=>rw [if_neg Bool.false_ne_true];exact ⟨Nat.zero_le _,fun k hk=>absurd hk (Nat.not_lt_zero _)⟩
  | true =>
    rw [if_pos rfl]
    obtain ⟨hk,hf⟩:=ts_len ht
    obtain ⟨n,rfl⟩:=fw_N hf
    obtain ⟨h1,h2,h3,h4,hok,hb⟩:=fw_ok hf
    rw [Int.toNat_natCast]
    have hsm:∀ i,i<min (stF g nb n pl).1 3→∀ j,j<nb→-1073741824≤(stF g nb n pl).2 i j∧(stF g nb n pl).2 i j≤1073741824:=fun i hi j hj=>stF_small hf (by omega) hj
    have hp3:min (stF g nb n pl).1 3≤3:=by omega
    generalize min (stF g nb n pl).1 3=p at *
    generalize (stF g nb n pl).2=S at *
    have hno:=fsTq_no (gdB g nb n pl np K) nb (trS S p) (5 ^ p) 0
    have hme:=fsTq_mem (gdB g nb n pl np K) nb (trS S p) (5 ^ p) 0
    cases hR:(fsTq (gdB g nb n pl np K) nb (trS S p) (5 ^ p) 0).1 with
    | false=>rw [hno hR];exact ⟨Nat.zero_le _,fun k hk=>absurd hk (Nat.not_lt_zero _)⟩
    | true =>
      obtain ⟨u,hu,_⟩:=hme hR
      rw [hu]
      refine ⟨h3,fun k hk=>?_⟩
      have:=trS_b (B:=1073741824) (p:=p) (n:=nb) hsm p (Nat.le_refl _) u k hk
      show -(2 ^ 62)≤trS S p u k∧trS S p u k≤2 ^ 62
      have e:2*1073741824*(p:Int)≤2*1073741824*3:=by omega
      omega
theorem lsfQ_mem (PL:(Nat→Int)→Bool) (n:Nat) (V:Nat→Nat→Int):∀ e i,(lsfQ PL n V e i).1=true→PL (lsfQ PL n V e i).2.2=true∧(lsfQ PL n V e i).2.1=n∧∃ j,i≤j∧j<i+e∧((lsfQ PL n V e i).2.2=V j∨(lsfQ PL n V e i).2.2=fun s=>-(V j s))
  | 0,i,h=>absurd h Bool.false_ne_true
  | e+1,i,h=>by
    rw [lsfQ] at h ⊢
    by_cases h1:PL (V i)=true
    · rw [if_pos h1];exact ⟨h1,rfl,i,Nat.le_refl _,by omega,.inl rfl⟩
    · rw [if_neg h1] at h ⊢
      by_cases h2:PL (fun s=>-(V i s))=true
      · rw [if_pos h2];exact ⟨h2,rfl,i,Nat.le_refl _,by omega,.inr rfl⟩
      · rw [if_neg h2] at h ⊢
        obtain ⟨a,b,j,j1,j2,j3⟩:=lsfQ_mem PL n V e (i+1) h
        exact ⟨a,b,j,by omega,by omega,j3⟩
theorem lsfQ_no (PL:(Nat→Int)→Bool) (n:Nat) (V:Nat→Nat→Int):∀ e i,(lsfQ PL n V e i).1=false→(lsfQ PL n V e i).2.1=0
  | 0,i,_=>rfl
  | e+1,i,h=>by
    rw [lsfQ] at h ⊢
    by_cases h1:PL (V i)=true
    · rw [if_pos h1] at h;cases h
    · rw [if_neg h1] at h ⊢
      by_cases h2:PL (fun s=>-(V i s))=true
      · rw [if_pos h2] at h;cases h
      · rw [if_neg h2] at h ⊢;exact lsfQ_no PL n V e (i+1) h
def FndOk (g:Nat→T_Bar) (nb N:Nat) (pl:Nat→T_Place) (np:Nat) (K:T_IntS) (r:Bool×T_IntS):Prop :=
  (r.1=true→plB g nb N pl np K (2*N) r.2.2=true∧r.2.1=2*N)∧r.2.1≤12∧∀ k,k<r.2.1→-(2 ^ 62)≤r.2.2 k∧r.2.2 k≤2 ^ 62
theorem try_ok {g h:Nat→T_Bar} {nb m N:Nat} {pl:Nat→T_Place} {np:Nat} {K:T_IntS} (hf:fwB g nb N pl np=true) (hs:Sel g nb m h):FndOk g nb N pl np K (tryR g nb N pl np K m h):=by
  have hfh:=fwB_sel hf hs
  have h2:=(fw_ok hf).2.1
  unfold tryR
  have hsm:∀ i,i<(moF h m N pl).1→∀ j,j<2*N→-1073741824≤(moF h m N pl).2 i j∧(moF h m N pl).2 i j≤1073741824:=fun i hi j hj=>mo_small hfh hi hj
  generalize (moF h m N pl).2=V at *
  generalize (moF h m N pl).1=q at *
  have hm:=lsfQ_mem (plB g nb N pl np K (2*N)) (2*N) V q 0
  have hn:=lsfQ_no (plB g nb N pl np K (2*N)) (2*N) V q 0
  generalize lsfQ (plB g nb N pl np K (2*N)) (2*N) V q 0=r at *
  unfold FndOk
  cases hr:r.1 with
  | false=>rw [hn hr];exact ⟨fun h=>absurd h Bool.false_ne_true,Nat.zero_le _,fun k hk=>absurd hk (Nat.not_lt_zero _)⟩
  | true =>
    obtain ⟨a,b,j,j1,j2,j3⟩:=hm hr
    refine ⟨fun _=>⟨a,b⟩,by omega,fun k hk=>?_⟩
    have:=hsm j (by omega) k (by omega)
    rcases j3 with e | e<;>rw [e]
    · omega
    · show -(2 ^ 62)≤-(V j k)∧-(V j k)≤2 ^ 62;omega
theorem fgo_ok {g:Nat→T_Bar} {nb N:Nat} {pl:Nat→T_Place} {np:Nat} {K:T_IntS} (hf:fwB g nb N pl np=true):∀ e i,i+e=nb→FndOk g nb N pl np K (fgoF g nb N pl np K e i)
  | 0,i,_=>try_ok hf (ob_sel (flt (kbF K) nb) g nb)
  | e+1,i,hi=>by
    rw [fgoF]
    by_cases h1:kbF K i=true
    · rw [if_pos h1];exact fgo_ok hf e (i+1) (by omega)
    · rw [if_neg h1]
      have ht:=try_ok (K:=K) hf (dl_sel (g:=g) (nb:=nb) (e:=i) (by omega))
      by_cases h2:(tryR g nb N pl np K (nb - 1) (dlB g i)).1=true
      · rw [if_pos h2]
        exact ⟨fun _=>ht.1 h2,ht.2⟩
      · rw [if_neg h2];exact fgo_ok hf e (i+1) (by omega)
theorem mo_still {g:Nat→T_Bar} {nb N:Nat} {pl:Nat→T_Place} {np:Nat} (hf:fwB g nb N pl np=true) {j:Nat} (hj:j<(moF g nb N pl).1) {k:Nat} (hk:k<nb):chQ g pl (2*N,(moF g nb N pl).2 j) k=0 :=
  (fw_ok hf).2.2.2.2.2.ker hj hk
theorem fm_ok {g:Nat→T_Bar} {nb N:Nat} {pl:Nat→T_Place} {np:Nat} {K:T_IntS} (ht:tsB g nb N pl np K=true) (hf:fwB g nb N pl np=true) (hm:(fmF g nb N pl np).2=true):FndOk g nb N pl np K (true,(fmF g nb N pl np).1):=by
  have h2:=(fw_ok hf).2.1
  have key:∀ d i,i+d=(moF g nb N pl).1→(fmL g nb N pl np (moF g nb N pl).2 d i).2=true→∃ j,j<(moF g nb N pl).1∧(fmL g nb N pl np (moF g nb N pl).2 d i).1=(2*N,(moF g nb N pl).2 j)∧tmB g nb N pl np (2*N,(moF g nb N pl).2 j)=false:=by
    intro d
    induction d with
    | zero=>intro i _ h;exact absurd h Bool.false_ne_true
    | succ d ih =>
      intro i hi h
      rw [fmL] at h ⊢
      by_cases ht:tmB g nb N pl np (2*N,(moF g nb N pl).2 i)=true
      · rw [if_pos ht] at h ⊢;exact ih (i+1) (by omega) h
      · rw [if_neg ht];exact ⟨i,by omega,rfl,by simpa using ht⟩
  obtain ⟨j,j1,j2,j3⟩:=key (moF g nb N pl).1 0 (by omega) hm
  have e:(fmF g nb N pl np).1=(2*N,(moF g nb N pl).2 j):=j2
  unfold FndOk
  rw [e]
  refine ⟨fun _=>⟨?_,rfl⟩,by show 2*N≤12;omega,fun k hk=>by have:=mo_small hf j1 hk;show -(2 ^ 62)≤(moF g nb N pl).2 j k∧(moF g nb N pl).2 j k≤2 ^ 62;omega⟩
  show plB g nb N pl np K (2*N) ((moF g nb N pl).2 j)=true
  have hv:velB g nb N pl np (2*N,(moF g nb N pl).2 j)=true:=by
    unfold velB smB
    rw [hf]
    have:allB (smq (2*N,(moF g nb N pl).2 j)) (2*N)=true:=by
      rw [all_iff]
      intro k hk
      have:=mo_small hf j1 hk
      exact inB_iff.2 ⟨by show -10000000000≤(moF g nb N pl).2 j k;omega,by show (moF g nb N pl).2 j k≤10000000000;omega⟩
    show (bif true then (bif allB (smq (2*N,(moF g nb N pl).2 j)) (2*N) then ((2*N:Nat):Int)==2*(N:Int) else false) else false)=true
    rw [this]
    show (((2*N:Nat):Int)==2*(N:Int))=true
    exact beq_iff_eq.2 (by omega)
  have ha:alwB g nb N pl np K (2*N,(moF g nb N pl).2 j)=true:=by
    unfold alwB
    rw [ht,hv]
    show (true&&allB (fun i=>!amqB K (chQ g pl (2*N,(moF g nb N pl).2 j) i) i) nb)=true
    rw [Bool.true_and,all_iff]
    intro k hk
    rw [mo_still hf j1 hk]
    unfold amqB
    simp
  unfold plB
  rw [ha,j3];rfl
theorem flm_ok {g:Nat→T_Bar} {nb N:Nat} {pl:Nat→T_Place} {np:Nat} {K:T_IntS} (ht:tsB g nb N pl np K=true):FndOk g nb N pl np K (flmF g nb N pl np K):=by
  obtain ⟨hk,hf⟩:=ts_len ht
  unfold flmF
  rw [if_pos ht,Int.toNat_natCast]
  by_cases hm:(fmF g nb N pl np).2=true
  · rw [if_pos hm];exact fm_ok ht hf hm
  · rw [if_neg hm];exact fgo_ok hf nb 0 (by omega)
theorem Con.add {P:Program} {f:FuncId} {args:List AV} {H' H'':Hp} {cs cs':List AV} {b:Bool} (S:Nat→Bool) (h:Con P f 0 [] args H' (.tup [.agg cs,.p (.bool b)]))
    (h1:∀ o ob,lk H'' o=some ob→(lk H' o=some ob∧S o.o=false)∨(S o.o=true∧ob.n=0)) (h2:∀ o ob,lk H' o=some ob→S o.o=false∧lk H'' o=some ob)
    (h3:∀ o ob,lk H' o=some ob→∀ i j,i<ob.n→j<ob.z→∃ v,(ob.f i).getD j anyA=.p v) (hlen:cs'.length=cs.length)
    (h4:∀ j,j<cs.length→(cs'.getD j anyA=cs.getD j anyA∧((∃ v,cs.getD j anyA=.p v)∨∃ z o off n,cs.getD j anyA=.ar z o off n∧S o.o=false)) ∨
      (cs.getD j anyA=.p .nil∧∃ z o off,cs'.getD j anyA=.ar z o off 0)):Con P f 0 [] args H'' (.tup [.agg cs',.p (.bool b)]):=by
  refine ⟨h.en,fun w β X vals hX hH hs hβ hl hv=>?_⟩
  refine (h.go w β X vals hX hH hs hβ hl hv).mono ?_
  rintro e w' ⟨v,β',rfl,g1,g2,g3,g4,g5,g6,g7⟩
  have hb:∀ k:Id,β k=none:=fun k=>by
    cases hk:β k with
    | none=>rfl
    | some a=>exact absurd (hβ k (by rw [hk];simp)) (Nat.not_lt_zero _)
  let β2:Id→Option Addr:=fun k=>bif S k.o then none else β' k
  have e1:∀ k:Id,S k.o=false→β2 k=β' k:=fun k hk=>by show (bif S k.o then none else β' k)=_;rw [hk];rfl
  have e2:∀ k:Id,S k.o=true→β2 k=none:=fun k hk=>by show (bif S k.o then none else β' k)=_;rw [hk];rfl
  have ho:∀ x,ownOf β2 H'' x↔ownOf β' H' x:=by
    intro x
    constructor
    · rintro ⟨o,ob,a,k1,k2,k3⟩
      rcases h1 o ob k1 with ⟨k4,k5⟩ | ⟨k4,_⟩
      · rw [e1 o k5] at k2;exact ⟨o,ob,a,k4,k2,k3⟩
      · rw [e2 o k4] at k2;cases k2
    · rintro ⟨o,ob,a,k1,k2,k3⟩
      obtain ⟨k4,k5⟩:=h2 o ob k1
      exact ⟨o,ob,a,k5,by rw [e1 o k4];exact k2,k3⟩
  have hw:ow X β2 H''=ow X β' H':=by
    funext t x
    exact propext ⟨fun k=>k.imp (ho x).1 id,fun k=>k.imp (ho x).2 id⟩
  have hf:fr X β2 H''=fr X β' H':=by
    funext t x
    unfold fr
    rw [hw]
  refine ⟨v,β2,rfl,?_,?_,?_,?_,fun o a k=>(by rw [hb o] at k;cases k),fun x k=>g6 x ((ho x).1 k),fun k hk=>g7 k (fun hn=>hk ?_)⟩
  · rw [hf]
    intro o ob k1
    rcases h1 o ob k1 with ⟨k4,k5⟩ | ⟨k4,k5⟩
    · rcases g1 o ob k4 with ⟨k6,k7⟩ | ⟨bb,base,cells,elem,k6,k7,k8⟩ | k6
      · exact .inl ⟨by rw [e1 o k5];exact k6,k7⟩
      · refine .inr (.inl ⟨bb,base,cells,elem,by rw [e1 o k5];exact k6,k7,fun i hi j hj=>?_⟩)
        obtain ⟨x,m1,m2,m3⟩:=k8 i hi j hj
        refine ⟨x,m1,m2,?_⟩
        obtain ⟨y,hy⟩:=h3 o ob k4 i j hi hj
        rw [hy] at m3 ⊢
        cases m3 with
        | p _ _ q=>exact .p y x q
      · obtain ⟨m1,m2,m3,bx,es,ck,m4,m5⟩:=k6
        exact .inr (.inr ⟨m1,m2,m3,bx,es,ck,by rw [e1 o k5];exact m4,m5⟩)
    · exact .inl ⟨e2 o k4,k5⟩
  · intro o o' ob ob' a a' k1 k2 k3 k4 k5
    rcases h1 o ob k1 with ⟨m1,m2⟩ | ⟨m1,_⟩
    · rcases h1 o' ob' k2 with ⟨m3,m4⟩ | ⟨m3,_⟩
      · rw [e1 o m2] at k3
        rw [e1 o' m4] at k4
        exact g2 o o' ob ob' a a' m1 m3 k3 k4 k5
      · rw [e2 o' m3] at k4;cases k4
    · rw [e2 o m1] at k3;cases k3
  · rw [hf]
    cases g3 with
    | tup _ vs hl' hj =>
      refine .tup _ vs hl' (fun j hjl=>?_)
      have hx:=hj j hjl
      match j,hjl,hx with
      | 0,_,hx =>
        change VR _ _ _ (.agg cs) _ at hx
        show VR _ _ _ (.agg cs') _
        generalize vs.getD 0 undef=q at hx ⊢
        cases hx with
        | agg _ us l1 l2 l3 =>
          refine .agg cs' us (by rw [hlen];exact l1) (fun i hi=>l2 i (by rw [← hlen];exact hi)) (fun i hi=>?_)
          have hi:i<cs.length:=by rw [← hlen];exact hi
          have hy:=l3 i hi
          rcases h4 i hi with ⟨hc,⟨u,hu⟩ | ⟨z,o,off,n,hu,hn⟩⟩ | ⟨hu,z,o,off,hc⟩
          · rw [hc,hu];rw [hu] at hy
            cases hy with
            | p _ _ q=>exact .p _ _ q
          · rw [hc,hu];rw [hu] at hy
            generalize us.getD i undef=y at hy ⊢
            cases hy with
            | ar0 _ _ _ a=>exact .ar0 z o off a
            | ar _ _ _ _ bb base c cells elem fr' q1 q2 q3 q4=>exact .ar z o off n bb base c cells elem fr' (by rw [e1 o hn];exact q1) q2 q3 q4
          · rw [hc];rw [hu] at hy
            generalize us.getD i undef=y at hy ⊢
            cases hy with
            | p _ _ q=>cases q;exact .ar0 z o off none
      | 1,_,hx =>
        change VR _ _ _ (.p (.bool b)) _ at hx
        show VR _ _ _ (.p (.bool b)) _
        cases hx with
        | p _ _ q=>exact .p _ _ q
      | j+2,hjl,_=>exact absurd hjl (by simp)
  · rw [hw];exact g4
  · cases hS:S k.o with
    | true=>exact e2 k hS
    | false=>rw [e1 k hS];exact hn
end Go.Proofs.YtkkjoghiigiokaaGreat.Mach
