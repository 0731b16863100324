/- What the law Lk needs, part 3 of 4: the abstract machine and the contracts of the functions. Conditions: as each theorem says. -/
import Derived.WalkKit
import Derived.Test.YtkkjoghiigiokaaGreatLkP2
namespace Go.Proofs.YtkkjoghiigiokaaGreat.Mach
open Go
set_option linter.unusedVariables false
set_option linter.unusedSimpArgs false
def pcL (pl:Nat→T_Place) (np:Nat):AV:=.p (.seq true 2 np (fun i=>[.int .i64 (pl i).1,.int .i64 (pl i).2.1]))
def frA (g:Nat→T_Bar) (nb:Nat) (N:Int) (pl:Nat→T_Place) (np:Nat):AV:=.agg [.p (.int .i64 N),brL g nb,pcL pl np]
def frO (g:Nat→T_Bar) (nb:Nat) (N:Int) (pl:Nat→T_Place) (np:Nat):Ob:=⟨true,3,1,fun _=>[.p (.int .i64 N),brL g nb,pcL pl np]⟩
def tsA (g:Nat→T_Bar) (nb:Nat) (N:Int) (pl:Nat→T_Place) (np:Nat) (w:T_IntS):AV:=.agg [.p (.int .i64 N),brL g nb,pcL pl np,inL w]
def tsO (g:Nat→T_Bar) (nb:Nat) (N:Int) (pl:Nat→T_Place) (np:Nat) (w:T_IntS):Ob:=⟨true,4,1,fun _=>[.p (.int .i64 N),brL g nb,pcL pl np,inL w]⟩
def FI0 (g:Nat→T_Bar) (nb:Nat) (N:Int) (pl:Nat→T_Place) (np:Nat) (i:Nat):St :=
  ⟨[frA g nb N pl np,.pt 3 0 0 0,.p .any,.pt 2 1 0 0]++List.replicate 29 anyA++[pcL pl np,.p (.int .i64 np),.p (.int .i64 i)]++List.replicate 43 anyA,[(0,frO g nb N pl np),(1,gzO g nb N)],2⟩
def FI1 (g:Nat→T_Bar) (nb:Nat) (N:Int) (pl:Nat→T_Place) (np:Nat) (i:Nat):St :=
  ⟨[frA g nb N pl np,.pt 3 0 0 0,.p .any,.pt 2 1 0 0]++List.replicate 40 anyA++[brL g nb,.p (.int .i64 nb),.p (.int .i64 i)]++List.replicate 32 anyA,[(0,frO g nb N pl np),(1,gzO g nb N)],2⟩
def FJ0 (g:Nat→T_Bar) (nb:Nat) (N:Int) (pl:Nat→T_Place) (np:Nat) (i:Nat):St :=
  ⟨[frA g nb N pl np,.pt 3 0 0 0,.p .any,.p (.int .i64 i)]++List.replicate 95 anyA,[(0,frO g nb N pl np)],1⟩
def FJ1 (g:Nat→T_Bar) (nb:Nat) (N:Int) (pl:Nat→T_Place) (np:Nat) (i:Nat):St :=
  ⟨[frA g nb N pl np,.pt 3 0 0 0,.p .any,.p .any,.p (.int .i64 i)]++List.replicate 94 anyA,[(0,frO g nb N pl np)],1⟩
theorem yPl (a b:Int) (p q:Bool) :
    zS Tryz.f233 [rg 2,rm [(2,oc [] (.p (.bool p))),(3,oc [] (.p (.bool q)))] 2] [.agg [.p (.int .i64 a),.p (.int .i64 b)]] [] [] (.p (.bool (bif p then q else false))) =
    some [(NT 0 1),zE 179 [.p (.int .i64 a),.p (.int .i64 0),.p (.int .i64 4)] [] (.p (.bool p)),(AG p),((p=true)→(NT 0 1)),(AG p),((p=true)→ zE 179 [.p (.int .i64 b),.p (.int .i64 0),.p (.int .i64 4)] [] (.p (.bool q))),(AG p),((bif p then q else false)=(bif p then q else false))]:=by kernel_rfl
theorem yI0 (g:Nat→T_Bar) (nb:Nat) (N:Int) (pl:Nat→T_Place) (np:Nat) (a:Bool) :
    zS Tryz.f128 [rg 2,rg 4,rm [(1,oc [] (.p (.bool a)))] 20,.dec true,rg 1] [frA g nb N pl np] [] [] (.p (.bool false)) =
    some (zD [(NT 0 1),((true=true)→ (AN 1)),zE 62 [(zf96 N nb g)] [] (.p (.bool a)),(AG (!!a)),(((!!a)=true)→(NT 0 1)),(((!a)=false)→ ((!!a)=true)),(AG (!bif !a then true else decide (N>6))),(((!bif !a then true else decide (N>6))=true)→(NT 0 1)),(((bif !a then true else decide (N>6))=false)→ ((!bif !a then true else decide (N>6))=true)),(AG (!bif bif !a then true else decide (N>6) then true else decide ((↑nb:Int)>15))),(((!bif bif !a then true else decide (N>6) then true else decide ((↑nb:Int)>15))=true)→(NT 0 1)),(((bif bif !a then true else decide (N>6) then true else decide ((↑nb:Int)>15))=false)→ ((!bif bif !a then true else decide (N>6) then true else decide ((↑nb:Int)>15))=true)),((bif bif bif !a then true else decide (N>6) then true else decide ((↑nb:Int)>15) then true else (↑np:Int) != N)=true),(false=false)] [0,0,1,0,2,3,4,3,5,6,7,6,6,8,9,10,9,9,10,9,9,11,12,13]):=by kernel_rfl
theorem yIz (g:Nat→T_Bar) (nb:Nat) (N:Int) (pl:Nat→T_Place) (np:Nat) (a:Bool) :
    zT Tryz.f128 [rg 2,rg 4,rm [(1,oc [] (.p (.bool a)))] 20,.dec false,rg 4,.head] [frA g nb N pl np] [0,128] (FI0 g nb N pl np 0) =
    some (zf49,zD [(NT 0 1),((true=true)→ (AN 1)),zE 62 [(zf96 N nb g)] [] (.p (.bool a)),(AG (!!a)),(((!!a)=true)→(NT 0 1)),(((!a)=false)→ ((!!a)=true)),(AG (!bif !a then true else decide (N>6))),(((!bif !a then true else decide (N>6))=true)→(NT 0 1)),(((bif !a then true else decide (N>6))=false)→ ((!bif !a then true else decide (N>6))=true)),(AG (!bif bif !a then true else decide (N>6) then true else decide ((↑nb:Int)>15))),(((!bif bif !a then true else decide (N>6) then true else decide ((↑nb:Int)>15))=true)→(NT 0 1)),(((bif bif !a then true else decide (N>6) then true else decide ((↑nb:Int)>15))=false)→ ((!bif bif !a then true else decide (N>6) then true else decide ((↑nb:Int)>15))=true)),((bif bif bif !a then true else decide (N>6) then true else decide ((↑nb:Int)>15) then true else (↑np:Int) != N)=false),(AI N),(AN nb),(AP nb (bRw g)),(AN np),(AP np (bRw pl)),(AN 0),(AI ((↑np:Int))),((0:Int)=(↑0:Int)),((([AV.p (PV.int IntKind.i64 N),brL g nb,pcL pl np].length):Nat)=3),(NL 1 1),((((List.map (fun v=>AV.p (absV v)) [Value.int IntKind.i64 0,Value.slice none 0 0]).length):Nat)=2)] [0,0,1,0,2,3,4,3,5,6,7,6,6,8,9,10,9,9,10,9,9,11,12,0,13,14,15,16,17,18,18,16,17,19,20,21,22,22,13,14,15,16,17,23,22,22,13,14,15]):=by kernel_rfl
theorem yIt (g:Nat→T_Bar) (nb:Nat) (N:Int) (pl:Nat→T_Place) (np:Nat) (i:Nat) :
    zM 0 [rg 1,.dec true,rg 4,rm [(1,oc [] (.p (.bool true)))] 1,.dec false,rg 2,.head] zf49 (FI0 g nb N pl np i) [0,1] 1 (FI0 g nb N pl np (i+1)) =
    some (zf49,zD [((decide ((↑i:Int)<(↑np:Int)))=true),(IL 0 (↑i:Int)),(IT (↑i:Int) (↑np:Int)),(NT 0 1),((true=true)→ (AN 1)),zE 233 [.agg [.p (.int .i64 ((pl i).1)),.p (.int .i64 ((pl i).2.1))]] [] (.p (.bool true)),((!true)=false),(ZLo ((↑i:Int)+1)),(ZHi ((↑i:Int)+1)),(AI N),(AN nb),(AP nb (bRw g)),(AN np),(AP np (bRw pl)),(AN 0),(AI ((↑np:Int))),((((↑i:Int)+1):Int)=(↑(i+1):Int)),(AN 3),(NL 1 1),(AN 2)] [0,1,2,3,4,3,5,6,7,8,9,10,11,12,13,14,14,12,13,15,16,17,18,18,9,10,11,12,13,19,18,18,9,10,11]):=by kernel_rfl
theorem yIx (g:Nat→T_Bar) (nb:Nat) (N:Int) (pl:Nat→T_Place) (np:Nat) (i:Nat) :
    zP Tryz.f128 0 [rg 1,.dec true,rg 4,rm [(1,oc [] (.p (.bool false)))] 1,.dec true,rg 1] zf49 (FI0 g nb N pl np i) [] 1 [] (.p (.bool false)) =
    some [((decide ((↑i:Int)<(↑np:Int)))=true),(IL 0 (↑i:Int)),(IT (↑i:Int) (↑np:Int)),(NT 0 1),((true=true)→ (AN 1)),(NT 0 1),zE 233 [.agg [.p (.int .i64 ((pl i).1)),.p (.int .i64 ((pl i).2.1))]] [] (.p (.bool false)),((!false)=true),(false=false)]:=by kernel_rfl
theorem yIn (g:Nat→T_Bar) (nb:Nat) (N:Int) (pl:Nat→T_Place) (np:Nat) (i:Nat) :
    zM 0 [rg 1,.dec false,rg 4,.head] zf49 (FI0 g nb N pl np i) [0,1] 1 (FI1 g nb N pl np 0) =
    some (zf40,zD [((decide ((↑i:Int)<(↑np:Int)))=false),(NT 0 1),(AI N),(AN nb),(AP nb (bRw g)),(AN np),(AP np (bRw pl)),(AN 0),(AI ((↑nb:Int))),((0:Int)=(↑0:Int)),(AN 3),(NL 1 1),(AN 2)] [0,1,2,3,4,5,6,7,7,3,4,8,9,10,11,11,2,3,4,5,6,12,11,11,2,3,4]):=by kernel_rfl
theorem yIb (g:Nat→T_Bar) (nb:Nat) (N:Int) (pl:Nat→T_Place) (np:Nat) (i:Nat) :
    zM 0 [rg 1,.dec true,rg 6,rg 27,.dec false,rg 2,.head] zf40 (FI1 g nb N pl np i) [0,1] 1 (FI1 g nb N pl np (i+1)) =
    some (zf40,zD [((decide ((↑i:Int)<(↑nb:Int)))=true),(IL 0 (↑i:Int)),(IT (↑i:Int) (↑nb:Int)),(NT 0 1),((true=true)→ (AN 1)),(AG (decide ((↑i:Int)>0))),(((decide ((↑i:Int)>0))=true)→(NT 0 1)),(((decide ((↑i:Int)>0))=true)→(ZLo ((↑i:Int) - 1))),(((decide ((↑i:Int)>0))=true)→(ZHi ((↑i:Int) - 1))),(((decide ((↑i:Int)>0))=true)→(IL 0 ((↑i:Int) - 1))),(((decide ((↑i:Int)>0))=true)→(IT ((↑i:Int) - 1) (↑nb:Int))),(AG (!bif decide ((↑i:Int)>0) then (g ((↑i:Int) - 1).toNat).1==(g i).1&&((g ((↑i:Int) - 1).toNat).2.1==(g i).2.1&&true) else false)),(((!bif decide ((↑i:Int)>0) then (g ((↑i:Int) - 1).toNat).1==(g i).1&&((g ((↑i:Int) - 1).toNat).2.1==(g i).2.1&&true) else false)=true)→(NT 0 1)),(((!bif decide ((↑i:Int)>0) then (g ((↑i:Int) - 1).toNat).1==(g i).1&&((g ((↑i:Int) - 1).toNat).2.1==(g i).2.1&&true) else false)=true)→(IL 0 ((g i).1))),(((!bif decide ((↑i:Int)>0) then (g ((↑i:Int) - 1).toNat).1==(g i).1&&((g ((↑i:Int) - 1).toNat).2.1==(g i).2.1&&true) else false)=true)→(IT ((g i).1) (↑np:Int))),(((!bif decide ((↑i:Int)>0) then (g ((↑i:Int) - 1).toNat).1==(g i).1&&((g ((↑i:Int) - 1).toNat).2.1==(g i).2.1&&true) else false)=true)→(IL 0 ((g i).2.1))),(((!bif decide ((↑i:Int)>0) then (g ((↑i:Int) - 1).toNat).1==(g i).1&&((g ((↑i:Int) - 1).toNat).2.1==(g i).2.1&&true) else false)=true)→(IT ((g i).2.1) (↑np:Int))),(((bif decide ((↑i:Int)>0) then (g ((↑i:Int) - 1).toNat).1==(g i).1&&((g ((↑i:Int) - 1).toNat).2.1==(g i).2.1&&true) else false)=false)→ ((!bif decide ((↑i:Int)>0) then (g ((↑i:Int) - 1).toNat).1==(g i).1&&((g ((↑i:Int) - 1).toNat).2.1==(g i).2.1&&true) else false)=true)),((bif bif decide ((↑i:Int)>0) then (g ((↑i:Int) - 1).toNat).1==(g i).1&&((g ((↑i:Int) - 1).toNat).2.1==(g i).2.1&&true) else false then true else (pl (g i).1.toNat).1==(pl (g i).2.1.toNat).1&&((pl (g i).1.toNat).2.1==(pl (g i).2.1.toNat).2.1&&true))=false),(ZLo ((↑i:Int)+1)),(ZHi ((↑i:Int)+1)),(AI N),(AN nb),(AP nb (bRw g)),(AN np),(AP np (bRw pl)),(AN 0),(AI ((↑nb:Int))),((((↑i:Int)+1):Int)=(↑(i+1):Int)),(AN 3),(NL 1 1),(AN 2)] [0,1,2,3,4,5,6,5,7,8,5,5,9,10,5,6,5,5,5,11,12,11,12,11,11,13,14,11,11,12,11,12,11,11,15,16,11,11,11,17,18,19,20,21,22,23,24,25,26,26,22,23,27,28,29,30,30,21,22,23,24,25,31,30,30,21,22,23]):=by kernel_rfl
theorem yIy (g:Nat→T_Bar) (nb:Nat) (N:Int) (pl:Nat→T_Place) (np:Nat) (i:Nat) :
    zP Tryz.f128 0 [rg 1,.dec true,rg 6,rg 27,.dec true,rg 1] zf40 (FI1 g nb N pl np i) [] 1 [] (.p (.bool false)) =
    some (zD [((decide ((↑i:Int)<(↑nb:Int)))=true),(IL 0 (↑i:Int)),(IT (↑i:Int) (↑nb:Int)),(NT 0 1),((true=true)→ (AN 1)),(AG (decide ((↑i:Int)>0))),(((decide ((↑i:Int)>0))=true)→(NT 0 1)),(((decide ((↑i:Int)>0))=true)→(ZLo ((↑i:Int) - 1))),(((decide ((↑i:Int)>0))=true)→(ZHi ((↑i:Int) - 1))),(((decide ((↑i:Int)>0))=true)→(IL 0 ((↑i:Int) - 1))),(((decide ((↑i:Int)>0))=true)→(IT ((↑i:Int) - 1) (↑nb:Int))),(AG (!bif decide ((↑i:Int)>0) then (g ((↑i:Int) - 1).toNat).1==(g i).1&&((g ((↑i:Int) - 1).toNat).2.1==(g i).2.1&&true) else false)),(((!bif decide ((↑i:Int)>0) then (g ((↑i:Int) - 1).toNat).1==(g i).1&&((g ((↑i:Int) - 1).toNat).2.1==(g i).2.1&&true) else false)=true)→(NT 0 1)),(((!bif decide ((↑i:Int)>0) then (g ((↑i:Int) - 1).toNat).1==(g i).1&&((g ((↑i:Int) - 1).toNat).2.1==(g i).2.1&&true) else false)=true)→(IL 0 ((g i).1))),(((!bif decide ((↑i:Int)>0) then (g ((↑i:Int) - 1).toNat).1==(g i).1&&((g ((↑i:Int) - 1).toNat).2.1==(g i).2.1&&true) else false)=true)→(IT ((g i).1) (↑np:Int))),(((!bif decide ((↑i:Int)>0) then (g ((↑i:Int) - 1).toNat).1==(g i).1&&((g ((↑i:Int) - 1).toNat).2.1==(g i).2.1&&true) else false)=true)→(IL 0 ((g i).2.1))),(((!bif decide ((↑i:Int)>0) then (g ((↑i:Int) - 1).toNat).1==(g i).1&&((g ((↑i:Int) - 1).toNat).2.1==(g i).2.1&&true) else false)=true)→(IT ((g i).2.1) (↑np:Int))),(((bif decide ((↑i:Int)>0) then (g ((↑i:Int) - 1).toNat).1==(g i).1&&((g ((↑i:Int) - 1).toNat).2.1==(g i).2.1&&true) else false)=false)→ ((!bif decide ((↑i:Int)>0) then (g ((↑i:Int) - 1).toNat).1==(g i).1&&((g ((↑i:Int) - 1).toNat).2.1==(g i).2.1&&true) else false)=true)),((bif bif decide ((↑i:Int)>0) then (g ((↑i:Int) - 1).toNat).1==(g i).1&&((g ((↑i:Int) - 1).toNat).2.1==(g i).2.1&&true) else false then true else (pl (g i).1.toNat).1==(pl (g i).2.1.toNat).1&&((pl (g i).1.toNat).2.1==(pl (g i).2.1.toNat).2.1&&true))=true),(false=false)] [0,1,2,3,4,5,6,5,7,8,5,5,9,10,5,6,5,5,5,11,12,11,12,11,11,13,14,11,11,12,11,12,11,11,15,16,11,11,11,17,18,19]):=by kernel_rfl
theorem yIe (g:Nat→T_Bar) (nb:Nat) (N:Int) (pl:Nat→T_Place) (np:Nat) (i:Nat) :
    zP Tryz.f128 0 [rg 1,.dec false,rg 1] zf40 (FI1 g nb N pl np i) [] 1 [] (.p (.bool true)) =
    some [((decide ((↑i:Int)<(↑nb:Int)))=false),(true=true)]:=by kernel_rfl
theorem zI0 (g:Nat→T_Bar) (nb:Nat) (N:Int) (pl:Nat→T_Place) (np:Nat) (a:Bool) :
    zS Tryz.f117 [rg 2,rm [(2,oc [] (.p (.bool a)))] 23,.dec true,rg 1] [frA g nb N pl np] [] [] (.p (.bool false)) =
    some (zD [(NT 0 1),zE 53 [(zf96 N nb g)] [] (.p (.bool a)),(AG (!!a)),(((!!a)=true)→(NT 0 1)),(((!a)=false)→ ((!!a)=true)),(AG (!bif !a then true else decide (N>6))),(((!bif !a then true else decide (N>6))=true)→(NT 0 1)),(((bif !a then true else decide (N>6))=false)→ ((!bif !a then true else decide (N>6))=true)),(AG (!bif bif !a then true else decide (N>6) then true else (↑np:Int) != N)),(((!bif bif !a then true else decide (N>6) then true else (↑np:Int) != N)=true)→(NT 0 1)),(((bif bif !a then true else decide (N>6) then true else (↑np:Int) != N)=false)→ ((!bif bif !a then true else decide (N>6) then true else (↑np:Int) != N)=true)),((bif bif bif !a then true else decide (N>6) then true else (↑np:Int) != N then true else decide ((↑nb:Int)>15))=true),(false=false)] [0,1,2,2,3,2,4,5,6,5,5,5,6,5,5,7,8,8,9,8,8,10,11,12]):=by kernel_rfl
theorem zIz (g:Nat→T_Bar) (nb:Nat) (N:Int) (pl:Nat→T_Place) (np:Nat) (a:Bool) :
    zT Tryz.f117 [rg 2,rm [(2,oc [] (.p (.bool a)))] 23,.dec false,rg 1,.head] [frA g nb N pl np] [0] (FJ0 g nb N pl np 0) =
    some (zf63,zD [(NT 0 1),zE 53 [(zf96 N nb g)] [] (.p (.bool a)),(AG (!!a)),(((!!a)=true)→(NT 0 1)),(((!a)=false)→ ((!!a)=true)),(AG (!bif !a then true else decide (N>6))),(((!bif !a then true else decide (N>6))=true)→(NT 0 1)),(((bif !a then true else decide (N>6))=false)→ ((!bif !a then true else decide (N>6))=true)),(AG (!bif bif !a then true else decide (N>6) then true else (↑np:Int) != N)),(((!bif bif !a then true else decide (N>6) then true else (↑np:Int) != N)=true)→(NT 0 1)),(((bif bif !a then true else decide (N>6) then true else (↑np:Int) != N)=false)→ ((!bif bif !a then true else decide (N>6) then true else (↑np:Int) != N)=true)),((bif bif bif !a then true else decide (N>6) then true else (↑np:Int) != N then true else decide ((↑nb:Int)>15))=false),(AI N),(AN nb),(AP nb (bRw g)),(AN np),(AP np (bRw pl)),(AN 0),((0:Int)=(↑0:Int)),((([AV.p (PV.int IntKind.i64 N),brL g nb,pcL pl np].length):Nat)=3),(NL 1 1)] [0,1,2,2,3,2,4,5,6,5,5,5,6,5,5,7,8,8,9,8,8,10,11,12,13,14,15,16,17,18,19,20,20,12,13,14,15,16]):=by kernel_rfl
theorem zIt (g:Nat→T_Bar) (nb:Nat) (N:Int) (pl:Nat→T_Place) (np:Nat) (i:Nat) (p q:Bool) :
    zM 0 [rg 5,.dec true,rm [(6,oc [] (.p (.bool p))),(8,oc [] (.p (.bool q)))] 2,.dec false,rg 3,.head] zf63 (FJ0 g nb N pl np i) [0] 1 (FJ0 g nb N pl np (i+1)) =
    some (zf63,zD [(NT 0 1),((decide ((↑i:Int)<(↑np:Int)))=true),(IL 0 (↑i:Int)),(IT (↑i:Int) (↑np:Int)),zE 167 [.p (.int .i64 ((pl i).1)),.p (.int .i64 0),.p (.int .i64 4)] [] (.p (.bool p)),(AG (!!p)),(((!!p)=true)→(NT 0 1)),(((!!p)=true)→(IL 0 (↑i:Int))),(((!!p)=true)→(IT (↑i:Int) (↑np:Int))),(((!!p)=true)→ zE 167 [.p (.int .i64 ((pl i).2.1)),.p (.int .i64 0),.p (.int .i64 4)] [] (.p (.bool q))),(((!p)=false)→ ((!!p)=true)),((bif !p then true else !q)=false),(ZLo ((↑i:Int)+1)),(ZHi ((↑i:Int)+1)),(AI N),(AN nb),(AP nb (bRw g)),(AN np),(AP np (bRw pl)),(AN 0),((((↑i:Int)+1):Int)=(↑(i+1):Int)),(AN 3),(NL 1 1)] [0,1,0,2,3,4,5,6,5,5,7,8,5,5,5,9,5,10,11,12,13,14,15,16,17,18,19,20,21,22,22,14,15,16,17,18]):=by kernel_rfl
theorem zIx (g:Nat→T_Bar) (nb:Nat) (N:Int) (pl:Nat→T_Place) (np:Nat) (i:Nat) (p q:Bool) :
    zP Tryz.f117 0 [rg 5,.dec true,rm [(6,oc [] (.p (.bool p))),(8,oc [] (.p (.bool q)))] 2,.dec true,rg 1] zf63 (FJ0 g nb N pl np i) [] 1 [] (.p (.bool false)) =
    some (zD [(NT 0 1),((decide ((↑i:Int)<(↑np:Int)))=true),(IL 0 (↑i:Int)),(IT (↑i:Int) (↑np:Int)),zE 167 [.p (.int .i64 ((pl i).1)),.p (.int .i64 0),.p (.int .i64 4)] [] (.p (.bool p)),(AG (!!p)),(((!!p)=true)→(NT 0 1)),(((!!p)=true)→(IL 0 (↑i:Int))),(((!!p)=true)→(IT (↑i:Int) (↑np:Int))),(((!!p)=true)→ zE 167 [.p (.int .i64 ((pl i).2.1)),.p (.int .i64 0),.p (.int .i64 4)] [] (.p (.bool q))),(((!p)=false)→ ((!!p)=true)),((bif !p then true else !q)=true),(false=false)] [0,1,0,2,3,4,5,6,5,5,7,8,5,5,5,9,5,10,11,12]):=by kernel_rfl
theorem zIn (g:Nat→T_Bar) (nb:Nat) (N:Int) (pl:Nat→T_Place) (np:Nat) (i:Nat) :
    zM 0 [rg 5,.dec false,rg 1,.head] zf63 (FJ0 g nb N pl np i) [0] 1 (FJ1 g nb N pl np 0) =
    some (zf50,zD [(NT 0 1),((decide ((↑i:Int)<(↑np:Int)))=false),(AI N),(AN nb),(AP nb (bRw g)),(AN np),(AP np (bRw pl)),(AN 0),((0:Int)=(↑0:Int)),(AN 3),(NL 1 1)] [0,1,2,3,4,5,6,7,8,9,10,10,2,3,4,5,6]):=by kernel_rfl
theorem zIb (g:Nat→T_Bar) (nb:Nat) (N:Int) (pl:Nat→T_Place) (np:Nat) (i:Nat) :
    zM 0 [rg 6,.dec true,rg 8,rg 28,.dec false,rg 3,.head] zf50 (FJ1 g nb N pl np i) [0] 1 (FJ1 g nb N pl np (i+1)) =
    some (zf50,zD [(NT 0 1),((decide ((↑i:Int)<(↑nb:Int)))=true),(IL 0 (↑i:Int)),(IT (↑i:Int) (↑nb:Int)),((true=true)→ (AN 1)),(IL 0 ((g i).1)),(IT ((g i).1) (↑np:Int)),(IL 0 ((g i).2.1)),(IT ((g i).2.1) (↑np:Int)),(AG (!((pl (g i).1.toNat).1==(pl (g i).2.1.toNat).1&&((pl (g i).1.toNat).2.1==(pl (g i).2.1.toNat).2.1&&true)))),(AG (!((pl (g i).1.toNat).1==(pl (g i).2.1.toNat).1&&((pl (g i).1.toNat).2.1==(pl (g i).2.1.toNat).2.1&&true))&&decide ((↑i:Int)>0))),(((!((pl (g i).1.toNat).1==(pl (g i).2.1.toNat).1&&((pl (g i).1.toNat).2.1==(pl (g i).2.1.toNat).2.1&&true))&&decide ((↑i:Int)>0))=true)→(NT 0 1)),(((!((pl (g i).1.toNat).1==(pl (g i).2.1.toNat).1&&((pl (g i).1.toNat).2.1==(pl (g i).2.1.toNat).2.1&&true))&&decide ((↑i:Int)>0))=true)→(ZLo ((↑i:Int) - 1))),(((!((pl (g i).1.toNat).1==(pl (g i).2.1.toNat).1&&((pl (g i).1.toNat).2.1==(pl (g i).2.1.toNat).2.1&&true))&&decide ((↑i:Int)>0))=true)→(ZHi ((↑i:Int) - 1))),(((!((pl (g i).1.toNat).1==(pl (g i).2.1.toNat).1&&((pl (g i).1.toNat).2.1==(pl (g i).2.1.toNat).2.1&&true))&&decide ((↑i:Int)>0))=true)→(IL 0 ((↑i:Int) - 1))),(((!((pl (g i).1.toNat).1==(pl (g i).2.1.toNat).1&&((pl (g i).1.toNat).2.1==(pl (g i).2.1.toNat).2.1&&true))&&decide ((↑i:Int)>0))=true)→(IT ((↑i:Int) - 1) (↑nb:Int))),(((!((pl (g i).1.toNat).1==(pl (g i).2.1.toNat).1&&((pl (g i).1.toNat).2.1==(pl (g i).2.1.toNat).2.1&&true)))=true)→(((decide ((↑i:Int)>0))=true)→ ((!((pl (g i).1.toNat).1==(pl (g i).2.1.toNat).1&&((pl (g i).1.toNat).2.1==(pl (g i).2.1.toNat).2.1&&true))&&decide ((↑i:Int)>0))=true))),((((pl (g i).1.toNat).1==(pl (g i).2.1.toNat).1&&((pl (g i).1.toNat).2.1==(pl (g i).2.1.toNat).2.1&&true))=false)→ ((!((pl (g i).1.toNat).1==(pl (g i).2.1.toNat).1&&((pl (g i).1.toNat).2.1==(pl (g i).2.1.toNat).2.1&&true)))=true)),((bif (pl (g i).1.toNat).1==(pl (g i).2.1.toNat).1&&((pl (g i).1.toNat).2.1==(pl (g i).2.1.toNat).2.1&&true) then true else bif decide ((↑i:Int)>0) then (g ((↑i:Int) - 1).toNat).1==(g i).1&&((g ((↑i:Int) - 1).toNat).2.1==(g i).2.1&&true) else false)=false),(ZLo ((↑i:Int)+1)),(ZHi ((↑i:Int)+1)),(AI N),(AN nb),(AP nb (bRw g)),(AN np),(AP np (bRw pl)),(AN 0),((((↑i:Int)+1):Int)=(↑(i+1):Int)),(AN 3),(NL 1 1)] [0,1,0,2,3,0,4,0,0,5,6,0,0,7,8,9,9,10,10,11,10,12,13,10,10,14,15,10,11,10,10,9,16,17,18,19,20,21,22,23,24,25,26,27,28,29,29,21,22,23,24,25]):=by kernel_rfl
theorem zIy (g:Nat→T_Bar) (nb:Nat) (N:Int) (pl:Nat→T_Place) (np:Nat) (i:Nat) :
    zP Tryz.f117 0 [rg 6,.dec true,rg 8,rg 28,.dec true,rg 1] zf50 (FJ1 g nb N pl np i) [] 1 [] (.p (.bool false)) =
    some (zD [(NT 0 1),((decide ((↑i:Int)<(↑nb:Int)))=true),(IL 0 (↑i:Int)),(IT (↑i:Int) (↑nb:Int)),((true=true)→ (AN 1)),(IL 0 ((g i).1)),(IT ((g i).1) (↑np:Int)),(IL 0 ((g i).2.1)),(IT ((g i).2.1) (↑np:Int)),(AG (!((pl (g i).1.toNat).1==(pl (g i).2.1.toNat).1&&((pl (g i).1.toNat).2.1==(pl (g i).2.1.toNat).2.1&&true)))),(AG (!((pl (g i).1.toNat).1==(pl (g i).2.1.toNat).1&&((pl (g i).1.toNat).2.1==(pl (g i).2.1.toNat).2.1&&true))&&decide ((↑i:Int)>0))),(((!((pl (g i).1.toNat).1==(pl (g i).2.1.toNat).1&&((pl (g i).1.toNat).2.1==(pl (g i).2.1.toNat).2.1&&true))&&decide ((↑i:Int)>0))=true)→(NT 0 1)),(((!((pl (g i).1.toNat).1==(pl (g i).2.1.toNat).1&&((pl (g i).1.toNat).2.1==(pl (g i).2.1.toNat).2.1&&true))&&decide ((↑i:Int)>0))=true)→(ZLo ((↑i:Int) - 1))),(((!((pl (g i).1.toNat).1==(pl (g i).2.1.toNat).1&&((pl (g i).1.toNat).2.1==(pl (g i).2.1.toNat).2.1&&true))&&decide ((↑i:Int)>0))=true)→(ZHi ((↑i:Int) - 1))),(((!((pl (g i).1.toNat).1==(pl (g i).2.1.toNat).1&&((pl (g i).1.toNat).2.1==(pl (g i).2.1.toNat).2.1&&true))&&decide ((↑i:Int)>0))=true)→(IL 0 ((↑i:Int) - 1))),(((!((pl (g i).1.toNat).1==(pl (g i).2.1.toNat).1&&((pl (g i).1.toNat).2.1==(pl (g i).2.1.toNat).2.1&&true))&&decide ((↑i:Int)>0))=true)→(IT ((↑i:Int) - 1) (↑nb:Int))),(((!((pl (g i).1.toNat).1==(pl (g i).2.1.toNat).1&&((pl (g i).1.toNat).2.1==(pl (g i).2.1.toNat).2.1&&true)))=true)→(((decide ((↑i:Int)>0))=true)→ ((!((pl (g i).1.toNat).1==(pl (g i).2.1.toNat).1&&((pl (g i).1.toNat).2.1==(pl (g i).2.1.toNat).2.1&&true))&&decide ((↑i:Int)>0))=true))),((((pl (g i).1.toNat).1==(pl (g i).2.1.toNat).1&&((pl (g i).1.toNat).2.1==(pl (g i).2.1.toNat).2.1&&true))=false)→ ((!((pl (g i).1.toNat).1==(pl (g i).2.1.toNat).1&&((pl (g i).1.toNat).2.1==(pl (g i).2.1.toNat).2.1&&true)))=true)),((bif (pl (g i).1.toNat).1==(pl (g i).2.1.toNat).1&&((pl (g i).1.toNat).2.1==(pl (g i).2.1.toNat).2.1&&true) then true else bif decide ((↑i:Int)>0) then (g ((↑i:Int) - 1).toNat).1==(g i).1&&((g ((↑i:Int) - 1).toNat).2.1==(g i).2.1&&true) else false)=true),(false=false)] [0,1,0,2,3,0,4,0,0,5,6,0,0,7,8,9,9,10,10,11,10,12,13,10,10,14,15,10,11,10,10,9,16,17,18,19]):=by kernel_rfl
theorem zIe (g:Nat→T_Bar) (nb:Nat) (N:Int) (pl:Nat→T_Place) (np:Nat) (i:Nat) :
    zP Tryz.f117 0 [rg 6,.dec false,rg 1] zf50 (FJ1 g nb N pl np i) [] 1 [] (.p (.bool true)) =
    some [(NT 0 1),((decide ((↑i:Int)<(↑nb:Int)))=false),(true=true)]:=by kernel_rfl
def allB (p:Nat→Bool):Nat→Bool
  | 0=>true
  | n+1=>allB p n&&p n
theorem all_iff (p:Nat→Bool):∀ n,allB p n=true↔∀ i,i<n→p i=true
  | 0=>by simp [allB]
  | n+1=>by
    rw [allB,Bool.and_eq_true,all_iff p n]
    constructor
    · rintro ⟨h1,h2⟩ i hi
      by_cases h:i=n
      · rw [h];exact h2
      · exact h1 i (by omega)
    · intro h;exact ⟨fun i hi=>h i (by omega),h n (by omega)⟩
theorem all_no {p:Nat→Bool} {n i:Nat} (hi:i<n) (h:p i=false):allB p n=false:=by
  cases hb:allB p n with
  | false=>rfl
  | true=>rw [(all_iff p n).1 hb i hi] at h;cases h
def plP (pl:Nat→T_Place) (i:Nat):Bool:=bif inB (pl i).1 0 4 then inB (pl i).2.1 0 4 else false
def eA (g:Nat→T_Bar) (i:Nat):Bool:=(g ((i:Int) - 1).toNat).1==(g i).1&&((g ((i:Int) - 1).toNat).2.1==(g i).2.1&&true)
def eB (g:Nat→T_Bar) (pl:Nat→T_Place) (i:Nat):Bool:=(pl (g i).1.toNat).1==(pl (g i).2.1.toNat).1&&((pl (g i).1.toNat).2.1==(pl (g i).2.1.toNat).2.1&&true)
def brP (g:Nat→T_Bar) (pl:Nat→T_Place) (i:Nat):Bool:=!(bif bif decide ((i:Int)>0) then eA g i else false then true else eB g pl i)
def fwB (g:Nat→T_Bar) (nb:Nat) (N:Int) (pl:Nat→T_Place) (np:Nat):Bool :=
  (isG g nb N&&(decide (N≤6)&&(decide (nb≤15)&&decide ((np:Int)=N))))&&(allB (plP pl) np&&allB (brP g pl) nb)
theorem con_isPlace (pl:Nat→T_Place) (i:Nat):zE 233 [.agg [.p (.int .i64 (pl i).1),.p (.int .i64 (pl i).2.1)]] [] (.p (.bool (plP pl i))):=by
  have h1:=con_within (pl i).1 0 4
  have h2:=con_within (pl i).2.1 0 4
  refine csZ Tryz.func233 (fun c hc=>?_)
  refine pkZ Tryz.func233 hc (yPl (pl i).1 (pl i).2.1 (inB (pl i).1 0 4) (inB (pl i).2.1 0 4)) ?_
  and_intros
  all_goals (first | exact zI | (exact h1) | (intro _;exact h2) | rfl)
theorem con_IsFramework_i (g:Nat→T_Bar) (nb:Nat) (N:Int) (pl:Nat→T_Place) (np:Nat) (hn:nb≤1048576∧np≤1048576):zE 128 [frA g nb N pl np] [] (.p (.bool (fwB g nb N pl np))):=by
  have hg:=con_IsGraph_i (N,(nb,g),()) (smG g nb N hn.1)
  change zE 62 [gzA g nb N] [] (.p (.bool (isG g nb N))) at hg
  refine csZ Tryz.func128 (fun c hc=>?_)
  have hcond:(bif bif bif !(isG g nb N) then true else decide (N>6) then true else decide ((nb:Int)>15) then true else (np:Int) != N)=!(isG g nb N&&(decide (N≤6)&&(decide (nb≤15)&&decide ((np:Int)=N)))):=by
    rw [Bool.eq_iff_iff]
    cases isG g nb N with
    | false=>simp
    | true =>
      simp
      omega
  cases h0:(isG g nb N&&(decide (N≤6)&&(decide (nb≤15)&&decide ((np:Int)=N)))) with
  | false =>
    rw [h0] at hcond
    rw [show fwB g nb N pl np=false by unfold fwB;rw [h0];rfl]
    refine pkD Tryz.func128 hc (yI0 g nb N pl np (isG g nb N)) ?_
    and_intros
    all_goals (first | exact zH | (exact hg) | (exact hcond) | (simp;done))
  | true =>
    rw [h0] at hcond
    rw [show fwB g nb N pl np=(allB (plP pl) np&&allB (brP g pl) nb) by unfold fwB;rw [h0];rfl]
    simp only [Bool.and_eq_true,decide_eq_true_eq] at h0
    obtain ⟨hN,hnb,hok⟩:=isG_in h0.1
    have l1:∀ d i,i+d=nb→allB (plP pl) np=true→allB (brP g pl) i=true→zR c 128 zf40 (FI1 g nb N pl np i) (Post c [] (.p (.bool (allB (plP pl) np&&allB (brP g pl) nb)))):=by
      intro d
      induction d with
      | zero =>
        intro i hi h1 h2
        obtain rfl:i=nb:=by omega
        have hd:decide ((i:Int)<(i:Int))=false:=by simp
        rw [h1,h2]
        refine pkZ Tryz.func128 hc (yIe g i N pl np i) ?_
        and_intros
        all_goals (first | exact zN | (exact hd) | rfl)
      | succ d ih =>
        intro i hi h1 h2
        have hd:decide ((i:Int)<(nb:Int))=true:=decide_eq_true (by omega)
        have hbar:=hok i (by omega)
        cases hb:brP g pl i with
        | true =>
          have hrec:=ih (i+1) (by omega) h1 (by rw [allB,h2,hb];rfl)
          have hx:(bif bif decide ((i:Int)>0) then eA g i else false then true else eB g pl i)=!(brP g pl i):=(Bool.not_not _).symm
          rw [hb] at hx
          refine pcD hc (yIb g nb N pl np i) ?_ hrec
          and_intros
          all_goals (first | exact zH | (exact hd) | (exact hx) | (intro h;have:=of_decide_eq_true h;omega) | (intro _;omega) | (simp;done) | (simp;omega))
        | false =>
          rw [all_no (show i<nb by omega) hb,Bool.and_false]
          have hx:(bif bif decide ((i:Int)>0) then eA g i else false then true else eB g pl i)=!(brP g pl i):=(Bool.not_not _).symm
          rw [hb] at hx
          refine pkD Tryz.func128 hc (yIy g nb N pl np i) ?_
          and_intros
          all_goals (first | exact zH | (exact hd) | (exact hx) | (intro h;have:=of_decide_eq_true h;omega) | (intro _;omega) | (simp;done) | (simp;omega))
    have l0:∀ d i,i+d=np→allB (plP pl) i=true→zR c 128 zf49 (FI0 g nb N pl np i) (Post c [] (.p (.bool (allB (plP pl) np&&allB (brP g pl) nb)))):=by
      intro d
      induction d with
      | zero =>
        intro i hi h1
        obtain rfl:i=np:=by omega
        have hd:decide ((i:Int)<(i:Int))=false:=by simp
        refine pcD hc (yIn g nb N pl i i) ?_ (l1 nb 0 (by omega) h1 rfl)
        and_intros
        all_goals (first | exact zN | (exact hd) | (simp;done) | (simp;omega))
      | succ d ih =>
        intro i hi h1
        have hd:decide ((i:Int)<(np:Int))=true:=decide_eq_true (by omega)
        have hp:=con_isPlace pl i
        cases hb:plP pl i with
        | true =>
          rw [hb] at hp
          have hrec:=ih (i+1) (by omega) (by rw [allB,h1,hb];rfl)
          refine pcD hc (yIt g nb N pl np i) ?_ hrec
          and_intros
          all_goals (first | exact zI | (exact hd) | (exact hp) | rfl | (simp;done) | (simp;omega))
        | false =>
          rw [hb] at hp
          rw [all_no (show i<np by omega) hb,Bool.false_and]
          refine pkZ Tryz.func128 hc (yIx g nb N pl np i) ?_
          and_intros
          all_goals (first | exact zI | (exact hd) | (exact hp) | rfl | (simp;done) | (simp;omega))
    refine pcD hc (yIz g nb N pl np (isG g nb N)) ?_ (l0 np 0 (by omega) rfl)
    and_intros
    all_goals (first | exact zH | (exact hg) | (exact hcond) | (simp;done))
theorem con_IsFramework_s (g:Nat→T_Bar) (nb:Nat) (N:Int) (pl:Nat→T_Place) (np:Nat) (hn:nb≤1048576∧np≤1048576):zE 117 [frA g nb N pl np] [] (.p (.bool (fwB g nb N pl np))):=by
  have hg:=con_IsGraph_s (N,(nb,g),()) (smG g nb N hn.1)
  change zE 53 [gzA g nb N] [] (.p (.bool (isG g nb N))) at hg
  refine csZ Tryz.func117 (fun c hc=>?_)
  have hcond:(bif bif bif !(isG g nb N) then true else decide (N>6) then true else (np:Int) != N then true else decide ((nb:Int)>15))=!(isG g nb N&&(decide (N≤6)&&(decide (nb≤15)&&decide ((np:Int)=N)))):=by
    rw [Bool.eq_iff_iff]
    cases isG g nb N with
    | false=>simp
    | true =>
      simp
      omega
  cases h0:(isG g nb N&&(decide (N≤6)&&(decide (nb≤15)&&decide ((np:Int)=N)))) with
  | false =>
    rw [h0] at hcond
    rw [show fwB g nb N pl np=false by unfold fwB;rw [h0];rfl]
    refine pkD Tryz.func117 hc (zI0 g nb N pl np (isG g nb N)) ?_
    and_intros
    all_goals (first | exact zH | (exact hg) | (exact hcond) | (simp;done))
  | true =>
    rw [h0] at hcond
    rw [show fwB g nb N pl np=(allB (plP pl) np&&allB (brP g pl) nb) by unfold fwB;rw [h0];rfl]
    simp only [Bool.and_eq_true,decide_eq_true_eq] at h0
    obtain ⟨hN,hnb,hok⟩:=isG_in h0.1
    have hsw:∀ i,(bif eB g pl i then true else bif decide ((i:Int)>0) then eA g i else false)=!(brP g pl i):=by
      intro i
      unfold brP
      cases eB g pl i<;>cases eA g i<;>cases decide ((i:Int)>0)<;>rfl
    have l1:∀ d i,i+d=nb→allB (plP pl) np=true→allB (brP g pl) i=true→zR c 117 zf50 (FJ1 g nb N pl np i) (Post c [] (.p (.bool (allB (plP pl) np&&allB (brP g pl) nb)))):=by
      intro d
      induction d with
      | zero =>
        intro i hi h1 h2
        obtain rfl:i=nb:=by omega
        have hd:decide ((i:Int)<(i:Int))=false:=by simp
        rw [h1,h2]
        refine pkZ Tryz.func117 hc (zIe g i N pl np i) ?_
        and_intros
        all_goals (first | exact zN | (exact hd) | rfl)
      | succ d ih =>
        intro i hi h1 h2
        have hd:decide ((i:Int)<(nb:Int))=true:=decide_eq_true (by omega)
        have hbar:=hok i (by omega)
        have hx:=hsw i
        cases hb:brP g pl i with
        | true =>
          have hrec:=ih (i+1) (by omega) h1 (by rw [allB,h2,hb];rfl)
          rw [hb] at hx
          refine pcD hc (zIb g nb N pl np i) ?_ hrec
          and_intros
          all_goals (first | exact zH | (exact hd) | (exact hx) | (intro h;simp only [Bool.and_eq_true,decide_eq_true_eq] at h;omega) | (intro h1 h2;rw [h1,h2];rfl) | (intro h;rw [h];rfl) | (simp;done) | (simp;omega))
        | false =>
          rw [all_no (show i<nb by omega) hb,Bool.and_false]
          rw [hb] at hx
          refine pkD Tryz.func117 hc (zIy g nb N pl np i) ?_
          and_intros
          all_goals (first | exact zH | (exact hd) | (exact hx) | (intro h;simp only [Bool.and_eq_true,decide_eq_true_eq] at h;omega) | (intro h1 h2;rw [h1,h2];rfl) | (intro h;rw [h];rfl) | (simp;done) | (simp;omega))
    have l0:∀ d i,i+d=np→allB (plP pl) i=true→zR c 117 zf63 (FJ0 g nb N pl np i) (Post c [] (.p (.bool (allB (plP pl) np&&allB (brP g pl) nb)))):=by
      intro d
      induction d with
      | zero =>
        intro i hi h1
        obtain rfl:i=np:=by omega
        have hd:decide ((i:Int)<(i:Int))=false:=by simp
        refine pcD hc (zIn g nb N pl i i) ?_ (l1 nb 0 (by omega) h1 rfl)
        and_intros
        all_goals (first | exact zN | (exact hd) | (simp;done) | (simp;omega))
      | succ d ih =>
        intro i hi h1
        have hd:decide ((i:Int)<(np:Int))=true:=decide_eq_true (by omega)
        have p1:=con_l1In (pl i).1 0 4
        have p2:=con_l1In (pl i).2.1 0 4
        have hx:(bif !(inB (pl i).1 0 4) then true else !(inB (pl i).2.1 0 4))=!(plP pl i):=by
          unfold plP
          cases inB (pl i).1 0 4<;>rfl
        cases hb:plP pl i with
        | true =>
          rw [hb] at hx
          have hrec:=ih (i+1) (by omega) (by rw [allB,h1,hb];rfl)
          refine pcD hc (zIt g nb N pl np i (inB (pl i).1 0 4) (inB (pl i).2.1 0 4)) ?_ hrec
          and_intros
          all_goals (first | exact zH | (exact hd) | (exact p1) | (intro _;exact p2) | (exact hx) | (intro h;rw [h];rfl) | (simp;done) | (intro _;omega) | (simp;omega))
        | false =>
          rw [hb] at hx
          rw [all_no (show i<np by omega) hb,Bool.false_and]
          refine pkD Tryz.func117 hc (zIx g nb N pl np i (inB (pl i).1 0 4) (inB (pl i).2.1 0 4)) ?_
          and_intros
          all_goals (first | exact zH | (exact hd) | (exact p1) | (intro _;exact p2) | (exact hx) | (intro h;rw [h];rfl) | (simp;done) | (intro _;omega) | (simp;omega))
    refine pcD hc (zIz g nb N pl np (isG g nb N)) ?_ (l0 np 0 (by omega) rfl)
    and_intros
    all_goals (first | exact zH | (exact hg) | (exact hcond) | (simp;done))
theorem p89 (v:T_Graph) (p:Int) :
    zS Tryz.f205 [rg 2,rm [(4,oc [] (.p (.bool (inB p 0 (v.1 - 1)))))] 1] [graphA v,.p (.int .i64 p)] [] [] (.p (.bool (inB p 0 (v.1 - 1)))) =
    some [(NT 0 1),(ZLo (v.1 - 1)),(ZHi (v.1 - 1)),zE 179 [.p (.int .i64 p),.p (.int .i64 0),.p (.int .i64 (v.1 - 1))] [] (.p (.bool (inB p 0 (v.1 - 1)))),((inB p 0 (v.1 - 1))=(inB p 0 (v.1 - 1)))]:=by kernel_rfl
theorem con_Graphhas (v:T_Graph) (p:Int) (h1:1≤v.1) (h2:v.1≤8):zE 205 [graphA v,.p (.int .i64 p)] [] (.p (.bool (inB p 0 (v.1 - 1)))):=by
  refine csZ Tryz.func205 (fun c hc=>?_)
  refine pkZ Tryz.func205 hc (p89 v p) ?_
  and_intros
  all_goals (first | exact zN | (exact con_within _ _ _))
def badP (N:Int) (g:Nat→Int) (k:Nat):Bool :=
  bif bif decide (g k<0) then true else decide (g k≥N) then true else bif decide ((k:Int)>0) then decide (g ((k:Int) - 1).toNat≥g k) else false
def goodP (N:Int) (g:Nat→Int):Nat→Bool
  | 0=>true
  | k+1=>goodP N g k&&!badP N g k
theorem goodP_bad (N:Int) (g:Nat→Int) (k:Nat) (h:badP N g k=true):∀ n,k<n→goodP N g n=false
  | 0,h'=>by omega
  | n+1,h'=>by
    by_cases e:k=n
    · subst e;rw [goodP,h];simp
    · rw [goodP,goodP_bad N g k h n (by omega)];simp
theorem bad_in (N:Int) (g:Nat→Int) (k:Nat) {b:Bool} (h:badP N g k=b) :
    (bif !inB (g k) 0 (N - 1) then true else bif decide ((k:Int)>0) then decide (g ((k:Int) - 1).toNat≥g k) else false)=b:=by
  rw [← h]
  unfold badP inB
  by_cases h1:g k<0
  · have h2:¬ (0≤g k):=by omega
    simp [h1,h2]
  · have h2:0≤g k:=by omega
    by_cases h3:g k≥N
    · have h4:¬ (g k≤N - 1):=by omega
      simp [h1,h2,h3,h4]
    · have h4:g k≤N - 1:=by omega
      simp [h1,h2,h3,h4]
def eqGr (v u:T_Graph):Bool:=bif v.1==u.1 then q_BarS v.2.1 u.2.1 else false
def SEg9 (v u:T_Graph) (k:Nat):St :=
  ⟨[graphA v,graphA u,.pt 2 0 0 0,.pt 2 1 0 0,.p .any,.p (.int .i64 k)]++List.replicate 32 anyA,[(0,boxG v),(1,boxG u)],2⟩
theorem eg9z (v u:T_Graph) :
    zS Tryz.f83 [rg 3,rg 14,.dec true,rg 1] [graphA v,graphA u] [] [] (.p (.bool false)) =
    some (zD [(NT 0 1),(AG (!v.1 != u.1)),(((!v.1 != u.1)=true)→(NT 0 1)),(((v.1 != u.1)=false)→ ((!v.1 != u.1)=true)),((bif v.1 != u.1 then true else (↑v.2.1.1:Int) != (↑u.2.1.1:Int))=true),(false=false)] [0,0,1,2,1,1,2,1,1,1,3,4,5]):=by kernel_rfl
theorem eg9a (v u:T_Graph) :
    zT Tryz.f83 [rg 3,rg 14,.dec false,rg 1,.head] [graphA v,graphA u] [0,32] (SEg9 v u 0) =
    some (zf81,zD [(NT 0 1),(AG (!v.1 != u.1)),(((!v.1 != u.1)=true)→(NT 0 1)),(((v.1 != u.1)=false)→ ((!v.1 != u.1)=true)),((bif v.1 != u.1 then true else (↑v.2.1.1:Int) != (↑u.2.1.1:Int))=false),(AI v.1),(AN v.2.1.1),(AP v.2.1.1 (bRw v.2.1.2)),(AI u.1),(AN u.2.1.1),(AP u.2.1.1 (fun i=>[.int .i64 ((u.2.1.2 i).1),.int .i64 ((u.2.1.2 i).2.1)])),(AN 0),((0:Int)=(↑0:Int)),((([AV.p (PV.int IntKind.i64 v.1),graphL v.2.1].length):Nat)=2),(NL 1 1),((([AV.p (PV.int IntKind.i64 u.1),graphL u.2.1].length):Nat)=2)] [0,0,1,2,1,1,2,1,1,1,3,4,5,6,7,8,9,10,11,11,12,13,14,14,5,6,7,15,14,14,8,9,10]):=by kernel_rfl
theorem eg9b (v u:T_Graph) (k:Nat) :
    zM 0 [rg 5,.dec true,rg 11,.dec false,rg 3,.head] zf81 (SEg9 v u k) [0,1] 1 (SEg9 v u (k+1)) =
    some (zf81,zD [(NT 0 1),((decide ((↑k:Int)<(↑v.2.1.1:Int)))=true),(IL 0 (↑k:Int)),(IT (↑k:Int) (↑v.2.1.1:Int)),(IT (↑k:Int) (↑u.2.1.1:Int)),((!((v.2.1.2 k).1==(u.2.1.2 k).1&&((v.2.1.2 k).2.1==(u.2.1.2 k).2.1&&true)))=false),(ZLo ((↑k:Int)+1)),(ZHi ((↑k:Int)+1)),(AI v.1),(AN v.2.1.1),(AP v.2.1.1 (bRw v.2.1.2)),(AI u.1),(AN u.2.1.1),(AP u.2.1.1 (fun i=>[.int .i64 ((u.2.1.2 i).1),.int .i64 ((u.2.1.2 i).2.1)])),(AN 0),((((↑k:Int)+1):Int)=(↑(k+1):Int)),(AN 2),(NL 1 1)] [0,1,0,2,3,0,2,4,5,6,7,8,9,10,11,12,13,14,14,15,16,17,17,8,9,10,16,17,17,11,12,13]):=by kernel_rfl
theorem eg9c (v u:T_Graph) (k:Nat) :
    zP Tryz.f83 0 [rg 5,.dec true,rg 11,.dec true,rg 1] zf81 (SEg9 v u k) [] 1 [] (.p (.bool false)) =
    some (zD [(NT 0 1),((decide ((↑k:Int)<(↑v.2.1.1:Int)))=true),(IL 0 (↑k:Int)),(IT (↑k:Int) (↑v.2.1.1:Int)),(IT (↑k:Int) (↑u.2.1.1:Int)),((!((v.2.1.2 k).1==(u.2.1.2 k).1&&((v.2.1.2 k).2.1==(u.2.1.2 k).2.1&&true)))=true),(false=false)] [0,1,0,2,3,0,2,4,5,6]):=by kernel_rfl
theorem eg9d (v u:T_Graph) (k:Nat) :
    zP Tryz.f83 0 [rg 5,.dec false,rg 1] zf81 (SEg9 v u k) [] 1 [] (.p (.bool true)) =
    some [(NT 0 1),((decide ((↑k:Int)<(↑v.2.1.1:Int)))=false),(true=true)]:=by kernel_rfl
theorem con_EqualGraphs_s (v u:T_Graph) (hn:v.2.1.1≤1048576):zE 83 [graphA v,graphA u] [] (.p (.bool (eqGr v u))):=by
  refine csZ Tryz.func83 (fun c hc=>?_)
  by_cases hz:v.1=u.1∧v.2.1.1=u.2.1.1
  · rw [show eqGr v u=qT_BarS v.2.1.2 u.2.1.2 v.2.1.1 by simp [eqGr,q_BarS,hz.1,hz.2]]
    have lp:∀ m k,k+m=v.2.1.1→qT_BarS v.2.1.2 u.2.1.2 k=true→zR c 83 zf81 (SEg9 v u k) (Post c [] (.p (.bool (qT_BarS v.2.1.2 u.2.1.2 v.2.1.1)))):=by
      intro m
      induction m with
      | zero =>
        intro k hk hg
        rw [show qT_BarS v.2.1.2 u.2.1.2 v.2.1.1=true by rw [show v.2.1.1=k by omega];exact hg]
        have hd:decide ((k:Int)<(v.2.1.1:Int))=false:=by simp;omega
        refine pkZ Tryz.func83 hc (eg9d v u k) ?_
        and_intros
        all_goals (first | exact zN)
      | succ m ih =>
        intro k hk hg
        have hd:decide ((k:Int)<(v.2.1.1:Int))=true:=by simp;omega
        cases he:q1_BarS (v.2.1.2 k) (u.2.1.2 k) with
        | false =>
          rw [qT_BarS_bad _ _ k he v.2.1.1 (by omega)]
          have he':(!q1_BarS (v.2.1.2 k) (u.2.1.2 k))=true:=notf he
          refine pkD Tryz.func83 hc (eg9c v u k) ?_
          and_intros
          all_goals (first | exact zN | exact he')
        | true =>
          have he':(!q1_BarS (v.2.1.2 k) (u.2.1.2 k))=false:=nott he
          refine pcD hc (eg9b v u k) ?_ (ih (k+1) (by omega) (by simp [qT_BarS,hg,he]))
          and_intros
          all_goals (first | exact zN | exact he' | (simp [All]))
    refine pcD hc (eg9a v u) ?_ (lp v.2.1.1 0 (by omega) rfl)
    and_intros
    all_goals (first | exact zH | (intro h;simp [h]) | (simp [hz.1,hz.2]) | (simp [All]))
  · have hr:eqGr v u=false:=by
      simp only [eqGr,q_BarS]
      by_cases h1:v.1=u.1
      · have h2:¬ v.2.1.1=u.2.1.1:=fun h=>hz ⟨h1,h⟩
        simp [h1,h2]
      · have:(v.1==u.1)=false:=by simpa using h1
        rw [this];rfl
    rw [hr]
    have hb:(bif v.1 != u.1 then true else (v.2.1.1:Int) != (u.2.1.1:Int))=true:=by
      by_cases h1:v.1=u.1
      · have h2:¬ v.2.1.1=u.2.1.1:=fun h=>hz ⟨h1,h⟩
        simp [h1];omega
      · simp [h1]
    refine pkD Tryz.func83 hc (eg9z v u) ?_
    and_intros
    all_goals (first | exact zH)
def flt (p:Nat→Bool):Nat→T_IntS
  | 0=>(0,fun _=>0)
  | i+1=>if p i=true then ((flt p i).1+1,fun s=>if s<(flt p i).1 then (flt p i).2 s else i) else flt p i
theorem flt_n (p:Nat→Bool):∀ i,(flt p i).1≤i
  | 0=>Nat.le_refl _
  | i+1=>by
    have:=flt_n p i
    simp only [flt]
    split
    · show (flt p i).1+1≤i+1;omega
    · omega
theorem flt_t {p:Nat→Bool} {i:Nat} (h:p i=true):flt p (i+1)=((flt p i).1+1,fun s=>if s<(flt p i).1 then (flt p i).2 s else i):=by simp [flt,h]
theorem flt_f {p:Nat→Bool} {i:Nat} (h:p i=false):flt p (i+1)=flt p i:=by simp [flt,h]
theorem hasI_congr (f g:Nat→Int) (x:Int):∀ n,(∀ i,i<n→f i=g i)→hasI f x n=hasI g x n
  | 0,_=>rfl
  | n+1,h=>by simp only [hasI,hasI_congr f g x n (fun i hi=>h i (by omega)),h n (by omega)]
def lkS (g:Nat→T_Bar) (nb:Nat) (N:Int) (pl:Nat→T_Place) (np:Nat) (K:T_IntS) (k:Nat):St :=
  ⟨[tsA g nb N pl np K,.pt 4 0 0 0]++List.replicate 25 anyA++[inL K,.p (.int .i64 K.1),.p (.int .i64 k)]++List.replicate 25 anyA,[(0,tsO g nb N pl np K)],1⟩
def llS (g:Nat→T_Bar) (nb:Nat) (N:Int) (pl:Nat→T_Place) (np:Nat) (K:T_IntS) (n:Int) (k:Nat):St :=
  ⟨[tsA g nb N pl np K,.pt 4 0 0 0,.p .any,.p (.int .i64 n),.p (.int .i64 k)]++List.replicate 64 anyA,[(0,tsO g nb N pl np K)],1⟩
def fjS (g:Nat→T_Bar) (nb:Nat) (N:Int) (pl:Nat→T_Place) (np:Nat) (K:T_IntS) (c:Nat) (f:Nat→Int) (k:Nat):St :=
  ⟨[tsA g nb N pl np K,.pt 4 0 0 0,.p .any,.ar 1 1 0 c]++List.replicate 9 anyA++[.p (.int .i64 np),.p (.int .i64 k)]++List.replicate 13 anyA,[(0,tsO g nb N pl np K),(1,iOb c f)],2⟩
def fkS (g:Nat→T_Bar) (nb:Nat) (N:Int) (pl:Nat→T_Place) (np:Nat) (K:T_IntS) (c:Nat) (f:Nat→Int) (k:Nat):St :=
  ⟨[tsA g nb N pl np K,.pt 4 0 0 0,.p .any,.ar 1 1 0 c,.p (.int .i64 k)]++List.replicate 23 anyA,[(0,tsO g nb N pl np K),(1,iOb c f)],2⟩
def slS (g:Nat→T_Bar) (nb:Nat) (N:Int) (pl:Nat→T_Place) (np:Nat) (c:Nat) (f:Nat→Int):St :=
  ⟨[frA g nb N pl np,.pt 3 0 0 0,.p .any,.ar 1 1 0 c,.p (.int .i64 c)]++List.replicate 64 anyA,[(0,frO g nb N pl np),(1,iOb c f)],2⟩
def ipA (g:Nat→T_Bar) (nb:Nat) (N:Int) (pl:Nat→T_Place) (np:Nat) (K:T_IntS) (P:Nat→T_Place) (n k:Nat):St :=
  ⟨[tsA g nb N pl np K,pcL P n,.pt 4 0 0 0,.p .any,.p .any,.pt 3 1 0 0]++List.replicate 18 anyA++[pcL P n,.p (.int .i64 n),.p (.int .i64 k)]++List.replicate 47 anyA,[(0,tsO g nb N pl np K),(1,frO g nb N pl np)],2⟩
def emO (P:Nat→T_Place) (n:Nat):Ob:=⟨true,3,1,fun _=>[.p (.int .i64 0),.p .nil,pcL P n]⟩
def ipB (g:Nat→T_Bar) (nb:Nat) (N:Int) (pl:Nat→T_Place) (np:Nat) (K:T_IntS) (P:Nat→T_Place) (n k:Nat):St :=
  ⟨[tsA g nb N pl np K,pcL P n,.pt 4 0 0 0,.p .any,.p .any,.pt 3 1 0 0,.p .any,.p .any,.pt 3 2 0 0]++List.replicate 45 anyA++[brL g nb,.p (.int .i64 nb),.p (.int .i64 k)]++List.replicate 17 anyA,[(0,tsO g nb N pl np K),(1,frO g nb N pl np),(2,emO P n)],3⟩
def isQ5 (g:Nat→T_Bar) (nb:Nat) (N:Int) (pl:Nat→T_Place) (np:Nat) (K:T_IntS) (P:Nat→T_Place) (n k:Nat):St :=
  ⟨[tsA g nb N pl np K,pcL P n,.pt 4 0 0 0,.p .any,.p .any,.p (.int .i64 k)]++List.replicate 46 anyA,[(0,tsO g nb N pl np K)],1⟩
def sqF (pl:Nat→T_Place) (a b:Nat):Int:=((pl a).1 - (pl b).1)*((pl a).1 - (pl b).1)+((pl a).2.1 - (pl b).2.1)*((pl a).2.1 - (pl b).2.1)
theorem lkn (g:Nat→T_Bar) (nb:Nat) (N:Int) (pl:Nat→T_Place) (np:Nat) (K:T_IntS) (b:Bool) :
    zS Tryz.f270 [rg 2,rm [(2,oc [] (.p (.bool b)))] 18,.dec true,rg 1] [tsA g nb N pl np K] [] [] (.p (.bool false)) =
    some (zD [(NT 0 1),zE 128 [(zf39 N nb g np pl)] [] (.p (.bool b)),(AG (!!b)),(((!!b)=true)→(NT 0 1)),(((!b)=false)→ ((!!b)=true)),(AG (!bif !b then true else (↑K.1:Int)==0)),(((!bif !b then true else (↑K.1:Int)==0)=true)→(NT 0 1)),(((!bif !b then true else (↑K.1:Int)==0)=true)→(ZLo (N - (↑K.1:Int)))),(((!bif !b then true else (↑K.1:Int)==0)=true)→(ZHi (N - (↑K.1:Int)))),(((bif !b then true else (↑K.1:Int)==0)=false)→ ((!bif !b then true else (↑K.1:Int)==0)=true)),((bif bif !b then true else (↑K.1:Int)==0 then true else decide (N - (↑K.1:Int)>2))=true),(false=false)] [0,1,2,3,2,2,4,5,5,5,6,5,6,5,5,5,7,8,5,9,10,11]):=by kernel_rfl
theorem lkz (g:Nat→T_Bar) (nb:Nat) (N:Int) (pl:Nat→T_Place) (np:Nat) (K:T_IntS) :
    zT Tryz.f270 [rg 2,rm [(2,oc [] (.p (.bool true)))] 18,.dec false,rg 4,.head] [tsA g nb N pl np K] [0] (lkS g nb N pl np K 0) =
    some (zf64,zD [(NT 0 1),zE 128 [(zf39 N nb g np pl)] [] (.p (.bool true)),(AG (!!true)),(((!!true)=true)→(NT 0 1)),(((!true)=false)→ ((!!true)=true)),(AG (!bif !true then true else (↑K.1:Int)==0)),(((!bif !true then true else (↑K.1:Int)==0)=true)→(NT 0 1)),(((!bif !true then true else (↑K.1:Int)==0)=true)→(ZLo (N - (↑K.1:Int)))),(((!bif !true then true else (↑K.1:Int)==0)=true)→(ZHi (N - (↑K.1:Int)))),(((bif !true then true else (↑K.1:Int)==0)=false)→ ((!bif !true then true else (↑K.1:Int)==0)=true)),((bif bif !true then true else (↑K.1:Int)==0 then true else decide (N - (↑K.1:Int)>2))=false),(AI N),(AN nb),(AP nb (bRw g)),(AN np),(AP np (bRw pl)),(AN K.1),(AP K.1 (iRw K)),(AN 0),(AI ((↑K.1:Int))),((0:Int)=(↑0:Int)),((([AV.p (PV.int IntKind.i64 N),brL g nb,pcL pl np,inL K].length):Nat)=4),(NL 1 1)] [0,1,2,3,2,2,4,5,5,5,6,5,6,5,5,5,7,8,5,9,10,0,11,12,13,14,15,16,17,18,16,17,19,20,21,22,22,11,12,13,14,15,16,17]):=by kernel_rfl
theorem lkb (g:Nat→T_Bar) (nb:Nat) (N:Int) (pl:Nat→T_Place) (np:Nat) (K:T_IntS) (k:Nat) (b:Bool) :
    zM 0 [rg 1,.dec true,rg 5,rm [(4,oc [] (.p (.bool b)))] 15,.dec false,rg 2,.head] zf64 (lkS g nb N pl np K k) [0] 1 (lkS g nb N pl np K (k+1)) =
    some (zf64,zD [((decide ((↑k:Int)<(↑K.1:Int)))=true),(IL 0 (↑k:Int)),(IT (↑k:Int) (↑K.1:Int)),(NT 0 1),zE 205 [(zf96 N nb g),.p (.int .i64 (K.2 k))] [] (.p (.bool b)),(AG (!!b)),(AG (!!b&&decide ((↑k:Int)>0))),(((!!b&&decide ((↑k:Int)>0))=true)→(NT 0 1)),(((!!b&&decide ((↑k:Int)>0))=true)→(ZLo ((↑k:Int) - 1))),(((!!b&&decide ((↑k:Int)>0))=true)→(ZHi ((↑k:Int) - 1))),(((!!b&&decide ((↑k:Int)>0))=true)→(IL 0 ((↑k:Int) - 1))),(((!!b&&decide ((↑k:Int)>0))=true)→(IT ((↑k:Int) - 1) (↑K.1:Int))),(((!!b)=true)→(((decide ((↑k:Int)>0))=true)→ ((!!b&&decide ((↑k:Int)>0))=true))),(((!b)=false)→ ((!!b)=true)),((bif !b then true else bif decide ((↑k:Int)>0) then decide (K.2 ((↑k:Int) - 1).toNat≥K.2 (↑k:Int).toNat) else false)=false),(ZLo ((↑k:Int)+1)),(ZHi ((↑k:Int)+1)),(AI N),(AN nb),(AP nb (bRw g)),(AN np),(AP np (bRw pl)),(AN K.1),(AP K.1 (iRw K)),(AN 0),(AI ((↑K.1:Int))),((((↑k:Int)+1):Int)=(↑(k+1):Int)),(AN 4),(NL 1 1)] [0,1,2,3,4,5,5,6,7,6,8,9,6,6,10,11,6,6,6,5,12,13,14,15,16,17,18,19,20,21,22,23,24,22,23,25,26,27,28,28,17,18,19,20,21,22,23]):=by kernel_rfl
theorem lkc (g:Nat→T_Bar) (nb:Nat) (N:Int) (pl:Nat→T_Place) (np:Nat) (K:T_IntS) (k:Nat) (b:Bool) :
    zP Tryz.f270 0 [rg 1,.dec true,rg 5,rm [(4,oc [] (.p (.bool b)))] 15,.dec true,rg 1] zf64 (lkS g nb N pl np K k) [] 1 [] (.p (.bool false)) =
    some (zD [((decide ((↑k:Int)<(↑K.1:Int)))=true),(IL 0 (↑k:Int)),(IT (↑k:Int) (↑K.1:Int)),(NT 0 1),zE 205 [(zf96 N nb g),.p (.int .i64 (K.2 k))] [] (.p (.bool b)),(AG (!!b)),(AG (!!b&&decide ((↑k:Int)>0))),(((!!b&&decide ((↑k:Int)>0))=true)→(NT 0 1)),(((!!b&&decide ((↑k:Int)>0))=true)→(ZLo ((↑k:Int) - 1))),(((!!b&&decide ((↑k:Int)>0))=true)→(ZHi ((↑k:Int) - 1))),(((!!b&&decide ((↑k:Int)>0))=true)→(IL 0 ((↑k:Int) - 1))),(((!!b&&decide ((↑k:Int)>0))=true)→(IT ((↑k:Int) - 1) (↑K.1:Int))),(((!!b)=true)→(((decide ((↑k:Int)>0))=true)→ ((!!b&&decide ((↑k:Int)>0))=true))),(((!b)=false)→ ((!!b)=true)),((bif !b then true else bif decide ((↑k:Int)>0) then decide (K.2 ((↑k:Int) - 1).toNat≥K.2 (↑k:Int).toNat) else false)=true),(false=false)] [0,1,2,3,4,5,5,6,7,6,8,9,6,6,10,11,6,6,6,5,12,13,14,15]):=by kernel_rfl
theorem lke (g:Nat→T_Bar) (nb:Nat) (N:Int) (pl:Nat→T_Place) (np:Nat) (K:T_IntS) (k:Nat) :
    zP Tryz.f270 0 [rg 1,.dec false,rg 1] zf64 (lkS g nb N pl np K k) [] 1 [] (.p (.bool true)) =
    some [((decide ((↑k:Int)<(↑K.1:Int)))=false),(true=true)]:=by kernel_rfl
theorem llz (g:Nat→T_Bar) (nb:Nat) (N:Int) (pl:Nat→T_Place) (np:Nat) (K:T_IntS) :
    zT Tryz.f265 [rg 2,rg 9,rg 1,.head] [tsA g nb N pl np K] [0] (llS g nb N pl np K ((np:Int) - (K.1:Int)) 0) =
    some (zf65,zD [(NT 0 1),(ZLo ((↑np:Int) - (↑K.1:Int))),(ZHi ((↑np:Int) - (↑K.1:Int))),(AI N),(AN nb),(AP nb (bRw g)),(AN np),(AP np (bRw pl)),(AN K.1),(AP K.1 (iRw K)),(AN 0),(AI (((↑np:Int) - (↑K.1:Int)))),((0:Int)=(↑0:Int)),((([AV.p (PV.int IntKind.i64 N),brL g nb,pcL pl np,inL K].length):Nat)=4),(NL 1 1)] [0,0,1,2,3,4,5,6,7,8,9,10,11,12,13,14,14,3,4,5,6,7,8,9]):=by kernel_rfl
theorem llb (g:Nat→T_Bar) (nb:Nat) (N:Int) (pl:Nat→T_Place) (np:Nat) (K:T_IntS) (n:Int) (k:Nat) :
    zM 0 [rg 5,.dec true,rg 36,.dec false,rg 3,.head] zf65 (llS g nb N pl np K n k) [0] 1 (llS g nb N pl np K n (k+1)) =
    some (zf65,zD [(NT 0 1),((decide ((↑k:Int)<(↑K.1:Int)))=true),(IL 0 (↑k:Int)),(IT (↑k:Int) (↑K.1:Int)),(AG (!decide (K.2 (↑k:Int).toNat<0))),(((!decide (K.2 (↑k:Int).toNat<0))=true)→(NT 0 1)),(((!decide (K.2 (↑k:Int).toNat<0))=true)→(IL 0 (↑k:Int))),(((!decide (K.2 (↑k:Int).toNat<0))=true)→(IT (↑k:Int) (↑K.1:Int))),(((decide (K.2 (↑k:Int).toNat<0))=false)→ ((!decide (K.2 (↑k:Int).toNat<0))=true)),(AG (!bif decide (K.2 (↑k:Int).toNat<0) then true else decide (K.2 (↑k:Int).toNat≥(↑np:Int)))),(AG ((!bif decide (K.2 (↑k:Int).toNat<0) then true else decide (K.2 (↑k:Int).toNat≥(↑np:Int)))&&decide ((↑k:Int)>0))),((((!bif decide (K.2 (↑k:Int).toNat<0) then true else decide (K.2 (↑k:Int).toNat≥(↑np:Int)))&&decide ((↑k:Int)>0))=true)→(NT 0 1)),((((!bif decide (K.2 (↑k:Int).toNat<0) then true else decide (K.2 (↑k:Int).toNat≥(↑np:Int)))&&decide ((↑k:Int)>0))=true)→(ZLo ((↑k:Int) - 1))),((((!bif decide (K.2 (↑k:Int).toNat<0) then true else decide (K.2 (↑k:Int).toNat≥(↑np:Int)))&&decide ((↑k:Int)>0))=true)→(ZHi ((↑k:Int) - 1))),((((!bif decide (K.2 (↑k:Int).toNat<0) then true else decide (K.2 (↑k:Int).toNat≥(↑np:Int)))&&decide ((↑k:Int)>0))=true)→(IL 0 ((↑k:Int) - 1))),((((!bif decide (K.2 (↑k:Int).toNat<0) then true else decide (K.2 (↑k:Int).toNat≥(↑np:Int)))&&decide ((↑k:Int)>0))=true)→(IT ((↑k:Int) - 1) (↑K.1:Int))),((((!bif decide (K.2 (↑k:Int).toNat<0) then true else decide (K.2 (↑k:Int).toNat≥(↑np:Int)))&&decide ((↑k:Int)>0))=true)→(IL 0 (↑k:Int))),((((!bif decide (K.2 (↑k:Int).toNat<0) then true else decide (K.2 (↑k:Int).toNat≥(↑np:Int)))&&decide ((↑k:Int)>0))=true)→(IT (↑k:Int) (↑K.1:Int))),(((!bif decide (K.2 (↑k:Int).toNat<0) then true else decide (K.2 (↑k:Int).toNat≥(↑np:Int)))=true)→(((decide ((↑k:Int)>0))=true)→ (((!bif decide (K.2 (↑k:Int).toNat<0) then true else decide (K.2 (↑k:Int).toNat≥(↑np:Int)))&&decide ((↑k:Int)>0))=true))),(((bif decide (K.2 (↑k:Int).toNat<0) then true else decide (K.2 (↑k:Int).toNat≥(↑np:Int)))=false)→ ((!bif decide (K.2 (↑k:Int).toNat<0) then true else decide (K.2 (↑k:Int).toNat≥(↑np:Int)))=true)),((bif bif decide (K.2 (↑k:Int).toNat<0) then true else decide (K.2 (↑k:Int).toNat≥(↑np:Int)) then true else bif decide ((↑k:Int)>0) then decide (K.2 ((↑k:Int) - 1).toNat≥K.2 (↑k:Int).toNat) else false)=false),(ZLo ((↑k:Int)+1)),(ZHi ((↑k:Int)+1)),(AI N),(AN nb),(AP nb (bRw g)),(AN np),(AP np (bRw pl)),(AN K.1),(AP K.1 (iRw K)),(AN 0),(AI n),((((↑k:Int)+1):Int)=(↑(k+1):Int)),(AN 4),(NL 1 1)] [0,1,0,2,3,4,5,4,4,6,7,4,4,4,5,4,4,4,8,9,9,10,11,10,12,13,10,10,14,15,10,10,11,10,10,16,17,10,10,10,9,18,19,20,21,22,23,24,25,26,27,28,29,30,31,32,33,34,34,23,24,25,26,27,28,29]):=by kernel_rfl
theorem llc (g:Nat→T_Bar) (nb:Nat) (N:Int) (pl:Nat→T_Place) (np:Nat) (K:T_IntS) (n:Int) (k:Nat) :
    zP Tryz.f265 0 [rg 5,.dec true,rg 36,.dec true,rg 1] zf65 (llS g nb N pl np K n k) [] 1 [] (.p (.bool false)) =
    some (zD [(NT 0 1),((decide ((↑k:Int)<(↑K.1:Int)))=true),(IL 0 (↑k:Int)),(IT (↑k:Int) (↑K.1:Int)),(AG (!decide (K.2 (↑k:Int).toNat<0))),(((!decide (K.2 (↑k:Int).toNat<0))=true)→(NT 0 1)),(((!decide (K.2 (↑k:Int).toNat<0))=true)→(IL 0 (↑k:Int))),(((!decide (K.2 (↑k:Int).toNat<0))=true)→(IT (↑k:Int) (↑K.1:Int))),(((decide (K.2 (↑k:Int).toNat<0))=false)→ ((!decide (K.2 (↑k:Int).toNat<0))=true)),(AG (!bif decide (K.2 (↑k:Int).toNat<0) then true else decide (K.2 (↑k:Int).toNat≥(↑np:Int)))),(AG ((!bif decide (K.2 (↑k:Int).toNat<0) then true else decide (K.2 (↑k:Int).toNat≥(↑np:Int)))&&decide ((↑k:Int)>0))),((((!bif decide (K.2 (↑k:Int).toNat<0) then true else decide (K.2 (↑k:Int).toNat≥(↑np:Int)))&&decide ((↑k:Int)>0))=true)→(NT 0 1)),((((!bif decide (K.2 (↑k:Int).toNat<0) then true else decide (K.2 (↑k:Int).toNat≥(↑np:Int)))&&decide ((↑k:Int)>0))=true)→(ZLo ((↑k:Int) - 1))),((((!bif decide (K.2 (↑k:Int).toNat<0) then true else decide (K.2 (↑k:Int).toNat≥(↑np:Int)))&&decide ((↑k:Int)>0))=true)→(ZHi ((↑k:Int) - 1))),((((!bif decide (K.2 (↑k:Int).toNat<0) then true else decide (K.2 (↑k:Int).toNat≥(↑np:Int)))&&decide ((↑k:Int)>0))=true)→(IL 0 ((↑k:Int) - 1))),((((!bif decide (K.2 (↑k:Int).toNat<0) then true else decide (K.2 (↑k:Int).toNat≥(↑np:Int)))&&decide ((↑k:Int)>0))=true)→(IT ((↑k:Int) - 1) (↑K.1:Int))),((((!bif decide (K.2 (↑k:Int).toNat<0) then true else decide (K.2 (↑k:Int).toNat≥(↑np:Int)))&&decide ((↑k:Int)>0))=true)→(IL 0 (↑k:Int))),((((!bif decide (K.2 (↑k:Int).toNat<0) then true else decide (K.2 (↑k:Int).toNat≥(↑np:Int)))&&decide ((↑k:Int)>0))=true)→(IT (↑k:Int) (↑K.1:Int))),(((!bif decide (K.2 (↑k:Int).toNat<0) then true else decide (K.2 (↑k:Int).toNat≥(↑np:Int)))=true)→(((decide ((↑k:Int)>0))=true)→ (((!bif decide (K.2 (↑k:Int).toNat<0) then true else decide (K.2 (↑k:Int).toNat≥(↑np:Int)))&&decide ((↑k:Int)>0))=true))),(((bif decide (K.2 (↑k:Int).toNat<0) then true else decide (K.2 (↑k:Int).toNat≥(↑np:Int)))=false)→ ((!bif decide (K.2 (↑k:Int).toNat<0) then true else decide (K.2 (↑k:Int).toNat≥(↑np:Int)))=true)),((bif bif decide (K.2 (↑k:Int).toNat<0) then true else decide (K.2 (↑k:Int).toNat≥(↑np:Int)) then true else bif decide ((↑k:Int)>0) then decide (K.2 ((↑k:Int) - 1).toNat≥K.2 (↑k:Int).toNat) else false)=true),(false=false)] [0,1,0,2,3,4,5,4,4,6,7,4,4,4,5,4,4,4,8,9,9,10,11,10,12,13,10,10,14,15,10,10,11,10,10,16,17,10,10,10,9,18,19,20,21]):=by kernel_rfl
theorem lle (g:Nat→T_Bar) (nb:Nat) (N:Int) (pl:Nat→T_Place) (np:Nat) (K:T_IntS) (n:Int) (k:Nat) (b b2:Bool) :
    zP Tryz.f265 0 [rg 5,.dec false,rm [(2,oc [] (.p (.bool b))),(2,oc [] (.p (.bool b2)))] 8] zf65 (llS g nb N pl np K n k) [] 1 [] (.p (.bool (bif bif b then b2 else false then decide ((K.1:Int)>0) else false))) =
    some (zD [(NT 0 1),((decide ((↑k:Int)<(↑K.1:Int)))=false),zE 117 [(zf39 N nb g np pl)] [] (.p (.bool b)),(AG b),((b=true)→ zE 167 [.p (.int .i64 n),.p (.int .i64 0),.p (.int .i64 2)] [] (.p (.bool b2))),(AG (bif b then b2 else false)),(((bif b then b2 else false)=true)→(NT 0 1)),((bif bif b then b2 else false then decide ((↑K.1:Int)>0) else false)=(bif bif b then b2 else false then decide ((↑K.1:Int)>0) else false))] [0,1,0,2,3,4,3,5,6,5,5,5,7]):=by kernel_rfl
theorem fjn (g:Nat→T_Bar) (nb:Nat) (N:Int) (pl:Nat→T_Place) (np:Nat) (K:T_IntS) :
    zS Tryz.f271 [rg 2,rg 2,rm [(1,oc [] (.p (.bool false)))] 1,.dec true,rg 2] [tsA g nb N pl np K] [64] [(0,iOb 0 (fun _=>0))] (.ar 1 0 0 0) =
    some [(NT 0 1),zE 270 [(zf24 N nb g np pl K)] [] (.p (.bool false)),((!false)=true),(AN 0),(AN 0),(AN 1),(NL 0 0),(AA 0 (fun i=>[.p (.int .i64 0)])),(AE 0)]:=by kernel_rfl
theorem fjz (g:Nat→T_Bar) (nb:Nat) (N:Int) (pl:Nat→T_Place) (np:Nat) (K:T_IntS) :
    zT Tryz.f271 [rg 2,rg 2,rm [(1,oc [] (.p (.bool true)))] 1,.dec false,rg 5,.head] [tsA g nb N pl np K] [0,64] (fjS g nb N pl np K 0 (fun _=>0) 0) =
    some (zf51,zD [(NT 0 1),zE 270 [(zf24 N nb g np pl K)] [] (.p (.bool true)),((!true)=false),(AI N),(AN nb),(AP nb (bRw g)),(AN np),(AP np (bRw pl)),(AN K.1),(AP K.1 (iRw K)),(AN 0),(AI ((↑np:Int))),((0:Int)=(↑0:Int)),((([AV.p (PV.int IntKind.i64 N),brL g nb,pcL pl np,inL K].length):Nat)=4),(NL 1 1),(AN 1),(NL 0 0),(AA 0 (fun i=>[.p (.int .i64 0)]))] [0,1,2,0,3,4,5,6,7,8,9,10,10,10,11,12,13,14,14,3,4,5,6,7,8,9,15,16,17]):=by kernel_rfl
theorem fjt (g:Nat→T_Bar) (nb:Nat) (N:Int) (pl:Nat→T_Place) (np:Nat) (K:T_IntS) (c:Nat) (f:Nat→Int) (k:Nat) :
    zM 0 [rg 1,.dec true,rg 2,rm [(3,oc [] (.p (.bool false)))] 1,.dec true,rg 5,rg 2,.head] zf51 (fjS g nb N pl np K c f k) [0,354] 1 (fjS g nb N pl np K (c+1) (fun s=>if s<c then f s else k) (k+1)) =
    some (zf51,zD [((decide ((↑k:Int)<(↑np:Int)))=true),(NT 0 1),zE 184 [.p (.seq true 1 K.1 (iRw K)),.p (.int .i64 (↑k:Int))] [] (.p (.bool false)),((!false)=true),(NL 1 1),(NL c c),(NL ((c+1)*8) 140737488355328),(NL (c+1) 9223372036854775807),(ZLo ((↑k:Int)+1)),(ZHi ((↑k:Int)+1)),(AI N),(AN nb),(AP nb (bRw g)),(AN np),(AP np (bRw pl)),(AN K.1),(AP K.1 (iRw K)),(AN 0),(AN ((c+1))),(AI ((↑np:Int))),((((↑k:Int)+1):Int)=(↑(k+1):Int)),(AN 4),(AN 1),(NL (c+1) (c+1)),(CV [(354,⟨false,1,(c+1),(fun i_1=>(if (i_1<c) then [.p (.int .i64 (f i_1))] else [.p (.int .i64 (↑k:Int))]))⟩),(322,⟨false,1,1,(fun i_1=>[.p (.int .i64 (↑k:Int))])⟩),(0,⟨true,4,1,(fun i_1=>[.p (.int .i64 N),.p (.seq true 2 nb (bRw g)),.p (.seq true 2 np (bRw pl)),.p (.seq true 1 K.1 (iRw K))])⟩)] [0,354] 1 (c+1) (fun i=>if (i<c) then [.p (.int .i64 (f i))] else [.p (.int .i64 (↑k:Int))]) (fun i=>[.p (.int .i64 (if i<c then f i else (↑k:Int)))]))] [0,1,2,3,4,5,6,7,8,9,10,11,12,13,14,15,16,17,17,18,19,20,21,4,4,10,11,12,13,14,15,16,22,23,24]):=by kernel_rfl
theorem fjf (g:Nat→T_Bar) (nb:Nat) (N:Int) (pl:Nat→T_Place) (np:Nat) (K:T_IntS) (c:Nat) (f:Nat→Int) (k:Nat) :
    zM 0 [rg 1,.dec true,rg 2,rm [(3,oc [] (.p (.bool true)))] 1,.dec false,rg 2,.head] zf51 (fjS g nb N pl np K c f k) [0,1] 1 (fjS g nb N pl np K c f (k+1)) =
    some (zf51,zD [((decide ((↑k:Int)<(↑np:Int)))=true),(NT 0 1),zE 184 [.p (.seq true 1 K.1 (iRw K)),.p (.int .i64 (↑k:Int))] [] (.p (.bool true)),((!true)=false),(ZLo ((↑k:Int)+1)),(ZHi ((↑k:Int)+1)),(AI N),(AN nb),(AP nb (bRw g)),(AN np),(AP np (bRw pl)),(AN K.1),(AP K.1 (iRw K)),(AN 0),(AN c),(AI ((↑np:Int))),((((↑k:Int)+1):Int)=(↑(k+1):Int)),(AN 4),(NL 1 1),(AN 1),(NL c c),(AA c (fun i=>[.p (.int .i64 (f i))]))] [0,1,2,3,4,5,6,7,8,9,10,11,12,13,13,14,15,16,17,18,18,6,7,8,9,10,11,12,19,20,21]):=by kernel_rfl
theorem fje (g:Nat→T_Bar) (nb:Nat) (N:Int) (pl:Nat→T_Place) (np:Nat) (K:T_IntS) (c:Nat) (f:Nat→Int) (k:Nat) :
    zP Tryz.f271 0 [rg 1,.dec false,rg 2] zf51 (fjS g nb N pl np K c f k) [1] 1 [(0,iOb c f)] (.ar 1 0 0 c) =
    some [((decide ((↑k:Int)<(↑np:Int)))=false),(AN 0),(AN c),(AN 1),(NL c c),(AA c (fun i=>[.p (.int .i64 (f i))])),(AE c)]:=by kernel_rfl
theorem fkz (g:Nat→T_Bar) (nb:Nat) (N:Int) (pl:Nat→T_Place) (np:Nat) (K:T_IntS) :
    zT Tryz.f264 [rg 2,rg 2,rg 1,.head] [tsA g nb N pl np K] [0,64] (fkS g nb N pl np K 0 (fun _=>0) 0) =
    some (zf66,zD [(AI N),(AN nb),(AP nb (bRw g)),(AN np),(AP np (bRw pl)),(AN K.1),(AP K.1 (iRw K)),(AN 0),((0:Int)=(↑0:Int)),((([AV.p (PV.int IntKind.i64 N),brL g nb,pcL pl np,inL K].length):Nat)=4),(NL 1 1),(AN 1),(NL 0 0),(AA 0 (fun i=>[.p (.int .i64 0)]))] [0,1,2,3,4,5,6,7,7,7,8,9,10,10,0,1,2,3,4,5,6,11,12,13]):=by kernel_rfl
theorem fkt (g:Nat→T_Bar) (nb:Nat) (N:Int) (pl:Nat→T_Place) (np:Nat) (K:T_IntS) (c:Nat) (f:Nat→Int) (k:Nat) :
    zM 0 [rm [(8,oc [] (.p (.bool true)))] 1,.dec true,rm [(3,oc [] (.p (.bool false)))] 1,.dec true,rg 5,rg 3,.head] zf66 (fkS g nb N pl np K c f k) [0,578] 1 (fkS g nb N pl np K (c+1) (fun s=>if s<c then f s else k) (k+1)) =
    some (zf66,zD [(NT 0 1),(((decide ((↑k:Int)<(↑np:Int)))=true)→(NT 0 1)),(AG (decide ((↑k:Int)<(↑np:Int)))),(((decide ((↑k:Int)<(↑np:Int)))=true)→ zE 265 [(zf24 N nb g np pl K)] [] (.p (.bool true))),((bif decide ((↑k:Int)<(↑np:Int)) then true else false)=true),zE 172 [.p (.seq true 1 K.1 (iRw K)),.p (.int .i64 (↑k:Int))] [] (.p (.bool false)),((!false)=true),(NL 1 1),(NL c c),(NL ((c+1)*8) 140737488355328),(NL (c+1) 9223372036854775807),(ZLo ((↑k:Int)+1)),(ZHi ((↑k:Int)+1)),(AI N),(AN nb),(AP nb (bRw g)),(AN np),(AP np (bRw pl)),(AN K.1),(AP K.1 (iRw K)),(AN 0),(AN ((c+1))),((((↑k:Int)+1):Int)=(↑(k+1):Int)),(AN 4),(AN 1),(NL (c+1) (c+1)),(CV [(578,⟨false,1,(c+1),(fun i_1=>(if (i_1<c) then [.p (.int .i64 (f i_1))] else [.p (.int .i64 (↑k:Int))]))⟩),(546,⟨false,1,1,(fun i_1=>[.p (.int .i64 (↑k:Int))])⟩),(0,⟨true,4,1,(fun i_1=>[.p (.int .i64 N),.p (.seq true 2 nb (bRw g)),.p (.seq true 2 np (bRw pl)),.p (.seq true 1 K.1 (iRw K))])⟩)] [0,578] 1 (c+1) (fun i=>if (i<c) then [.p (.int .i64 (f i))] else [.p (.int .i64 (↑k:Int))]) (fun i=>[.p (.int .i64 (if i<c then f i else (↑k:Int)))]))] [0,1,2,3,2,4,0,5,6,7,8,9,10,11,12,13,14,15,16,17,18,19,20,20,21,22,23,7,7,13,14,15,16,17,18,19,24,25,26]):=by kernel_rfl
theorem fkf (g:Nat→T_Bar) (nb:Nat) (N:Int) (pl:Nat→T_Place) (np:Nat) (K:T_IntS) (c:Nat) (f:Nat→Int) (k:Nat) :
    zM 0 [rm [(8,oc [] (.p (.bool true)))] 1,.dec true,rm [(3,oc [] (.p (.bool true)))] 1,.dec false,rg 3,.head] zf66 (fkS g nb N pl np K c f k) [0,1] 1 (fkS g nb N pl np K c f (k+1)) =
    some (zf66,zD [(NT 0 1),(((decide ((↑k:Int)<(↑np:Int)))=true)→(NT 0 1)),(AG (decide ((↑k:Int)<(↑np:Int)))),(((decide ((↑k:Int)<(↑np:Int)))=true)→ zE 265 [(zf24 N nb g np pl K)] [] (.p (.bool true))),((bif decide ((↑k:Int)<(↑np:Int)) then true else false)=true),zE 172 [.p (.seq true 1 K.1 (iRw K)),.p (.int .i64 (↑k:Int))] [] (.p (.bool true)),((!true)=false),(ZLo ((↑k:Int)+1)),(ZHi ((↑k:Int)+1)),(AI N),(AN nb),(AP nb (bRw g)),(AN np),(AP np (bRw pl)),(AN K.1),(AP K.1 (iRw K)),(AN 0),(AN c),((((↑k:Int)+1):Int)=(↑(k+1):Int)),(AN 4),(NL 1 1),(AN 1),(NL c c),(AA c (fun i=>[.p (.int .i64 (f i))]))] [0,1,2,3,2,4,0,5,6,7,8,9,10,11,12,13,14,15,16,16,17,18,19,20,20,9,10,11,12,13,14,15,21,22,23]):=by kernel_rfl
theorem fke (g:Nat→T_Bar) (nb:Nat) (N:Int) (pl:Nat→T_Place) (np:Nat) (K:T_IntS) (c:Nat) (f:Nat→Int) (k:Nat) (b:Bool) :
    zP Tryz.f264 0 [rm [(8,oc [] (.p (.bool b)))] 1,.dec false,rg 2] zf66 (fkS g nb N pl np K c f k) [1] 1 [(0,iOb c f)] (.ar 1 0 0 c) =
    some (zD [(NT 0 1),(((decide ((↑k:Int)<(↑np:Int)))=true)→(NT 0 1)),(AG (decide ((↑k:Int)<(↑np:Int)))),(((decide ((↑k:Int)<(↑np:Int)))=true)→ zE 265 [(zf24 N nb g np pl K)] [] (.p (.bool b))),((bif decide ((↑k:Int)<(↑np:Int)) then b else false)=false),(AN 0),(AN c),(AN 1),(NL c c),(AA c (fun i=>[.p (.int .i64 (f i))])),(AE c)] [0,1,2,3,2,4,5,6,7,8,9,10]):=by kernel_rfl
theorem sqa (g:Nat→T_Bar) (nb:Nat) (N:Int) (pl:Nat→T_Place) (np:Nat) (a b:Nat) :
    zS Tryz.f335 [rg 2,rg 28,rg 8] [frA g nb N pl np,.p (.int .i64 a),.p (.int .i64 b)] [] [] (.p (.int .i64 (sqF pl a b))) =
    some (zD [(NT 0 1),(IL 0 (↑a:Int)),(IT (↑a:Int) (↑np:Int)),(IL 0 (↑b:Int)),(IT (↑b:Int) (↑np:Int)),(ZLo ((pl a).1 - (pl b).1)),(ZHi ((pl a).1 - (pl b).1)),(ZLo ((pl a).2.1 - (pl b).2.1)),(ZHi ((pl a).2.1 - (pl b).2.1)),(ZLo (((pl a).1 - (pl b).1)*((pl a).1 - (pl b).1))),(ZHi (((pl a).1 - (pl b).1)*((pl a).1 - (pl b).1))),(ZLo (((pl a).2.1 - (pl b).2.1)*((pl a).2.1 - (pl b).2.1))),(ZHi (((pl a).2.1 - (pl b).2.1)*((pl a).2.1 - (pl b).2.1))),(ZLo (((pl a).1 - (pl b).1)*((pl a).1 - (pl b).1)+((pl a).2.1 - (pl b).2.1)*((pl a).2.1 - (pl b).2.1))),(ZHi (((pl a).1 - (pl b).1)*((pl a).1 - (pl b).1)+((pl a).2.1 - (pl b).2.1)*((pl a).2.1 - (pl b).2.1))),(((((pl a).1 - (pl b).1)*((pl a).1 - (pl b).1)+((pl a).2.1 - (pl b).2.1)*((pl a).2.1 - (pl b).2.1)):Int)=(sqF pl a b))] [0,1,2,0,3,4,5,6,0,1,2,0,3,4,7,8,9,10,11,12,13,14,15]):=by kernel_rfl
theorem sqb (P:Nat→T_Place) (n:Nat) (a b:Nat) :
    zS Tryz.f335 [rg 2,rg 28,rg 8] [.agg [.p (.int .i64 0),.p .nil,pcL P n],.p (.int .i64 a),.p (.int .i64 b)] [] [] (.p (.int .i64 (sqF P a b))) =
    some (zD [(NT 0 1),(IL 0 (↑a:Int)),(IT (↑a:Int) (↑n:Int)),(IL 0 (↑b:Int)),(IT (↑b:Int) (↑n:Int)),(ZLo ((P a).1 - (P b).1)),(ZHi ((P a).1 - (P b).1)),(ZLo ((P a).2.1 - (P b).2.1)),(ZHi ((P a).2.1 - (P b).2.1)),(ZLo (((P a).1 - (P b).1)*((P a).1 - (P b).1))),(ZHi (((P a).1 - (P b).1)*((P a).1 - (P b).1))),(ZLo (((P a).2.1 - (P b).2.1)*((P a).2.1 - (P b).2.1))),(ZHi (((P a).2.1 - (P b).2.1)*((P a).2.1 - (P b).2.1))),(ZLo (((P a).1 - (P b).1)*((P a).1 - (P b).1)+((P a).2.1 - (P b).2.1)*((P a).2.1 - (P b).2.1))),(ZHi (((P a).1 - (P b).1)*((P a).1 - (P b).1)+((P a).2.1 - (P b).2.1)*((P a).2.1 - (P b).2.1))),(((((P a).1 - (P b).1)*((P a).1 - (P b).1)+((P a).2.1 - (P b).2.1)*((P a).2.1 - (P b).2.1)):Int)=(sqF P a b))] [0,1,2,0,3,4,5,6,0,1,2,0,3,4,7,8,9,10,11,12,13,14,15]):=by kernel_rfl
theorem sqz (g:Nat→T_Bar) (nb:Nat) (N:Int) (pl:Nat→T_Place) (np:Nat) :
    zT Tryz.f363 [rg 2,rg 2,rg 1,.head] [frA g nb N pl np] [0,64] (slS g nb N pl np 0 (fun _=>0)) =
    some (zf67,zD [(AI N),(AN nb),(AP nb (bRw g)),(AN np),(AP np (bRw pl)),(AN 0),((0:Int)=(↑0:Int)),((([AV.p (PV.int IntKind.i64 N),brL g nb,pcL pl np].length):Nat)=3),(NL 1 1),(AN 1),(NL 0 0),(AA 0 (fun i=>[.p (.int .i64 0)]))] [0,1,2,3,4,5,5,5,6,7,8,8,0,1,2,3,4,9,10,11]):=by kernel_rfl
theorem sqt (g:Nat→T_Bar) (nb:Nat) (N:Int) (pl:Nat→T_Place) (np:Nat) (c:Nat) (f:Nat→Int) :
    zM 0 [rm [(8,oc [] (.p (.bool true)))] 1,.dec true,rg 13,rg 13,rg 27,rg 3,.head] zf67 (slS g nb N pl np c f) [0,1954] 1 (slS g nb N pl np (c+1) (fun s=>if s<c then f s else sqF pl (g c).1.toNat (g c).2.1.toNat)) =
    some (zf67,zD [(NT 0 1),(((decide ((↑c:Int)<(↑nb:Int)))=true)→(NT 0 1)),(AG (decide ((↑c:Int)<(↑nb:Int)))),(((decide ((↑c:Int)<(↑nb:Int)))=true)→ zE 117 [(zf39 N nb g np pl)] [] (.p (.bool true))),((bif decide ((↑c:Int)<(↑nb:Int)) then true else false)=true),(IL 0 (↑c:Int)),(IT (↑c:Int) (↑nb:Int)),(IL 0 ((g c).1)),(IT ((g c).1) (↑np:Int)),((true=true)→ (AN 1)),(IL 0 ((g c).2.1)),(IT ((g c).2.1) (↑np:Int)),(ZLo ((pl (g c).1.toNat).1 - (pl (g c).2.1.toNat).1)),(ZHi ((pl (g c).1.toNat).1 - (pl (g c).2.1.toNat).1)),(ZLo (((pl (g c).1.toNat).1 - (pl (g c).2.1.toNat).1)*((pl (g c).1.toNat).1 - (pl (g c).2.1.toNat).1))),(ZHi (((pl (g c).1.toNat).1 - (pl (g c).2.1.toNat).1)*((pl (g c).1.toNat).1 - (pl (g c).2.1.toNat).1))),(ZLo ((pl (g c).1.toNat).2.1 - (pl (g c).2.1.toNat).2.1)),(ZHi ((pl (g c).1.toNat).2.1 - (pl (g c).2.1.toNat).2.1)),(ZLo (((pl (g c).1.toNat).2.1 - (pl (g c).2.1.toNat).2.1)*((pl (g c).1.toNat).2.1 - (pl (g c).2.1.toNat).2.1))),(ZHi (((pl (g c).1.toNat).2.1 - (pl (g c).2.1.toNat).2.1)*((pl (g c).1.toNat).2.1 - (pl (g c).2.1.toNat).2.1))),(ZLo (((pl (g c).1.toNat).1 - (pl (g c).2.1.toNat).1)*((pl (g c).1.toNat).1 - (pl (g c).2.1.toNat).1)+((pl (g c).1.toNat).2.1 - (pl (g c).2.1.toNat).2.1)*((pl (g c).1.toNat).2.1 - (pl (g c).2.1.toNat).2.1))),(ZHi (((pl (g c).1.toNat).1 - (pl (g c).2.1.toNat).1)*((pl (g c).1.toNat).1 - (pl (g c).2.1.toNat).1)+((pl (g c).1.toNat).2.1 - (pl (g c).2.1.toNat).2.1)*((pl (g c).1.toNat).2.1 - (pl (g c).2.1.toNat).2.1))),(NL 1 1),(NL c c),(NL ((c+1)*8) 140737488355328),(NL (c+1) 9223372036854775807),(ZLo ((↑c:Int)+1)),(ZHi ((↑c:Int)+1)),(AI N),(AN nb),(AP nb (bRw g)),(AN np),(AP np (bRw pl)),(AN 0),(AN ((c+1))),((((↑c:Int)+1):Int)=(↑(c+1):Int)),(AN 3),(AN 1),(NL (c+1) (c+1)),(CV [(1954,⟨false,1,(c+1),(fun i_1=>(if (i_1<c) then [.p (.int .i64 (f i_1))] else [.p (.int .i64 (((pl (g c).1.toNat).1 - (pl (g c).2.1.toNat).1)*((pl (g c).1.toNat).1 - (pl (g c).2.1.toNat).1)+((pl (g c).1.toNat).2.1 - (pl (g c).2.1.toNat).2.1)*((pl (g c).1.toNat).2.1 - (pl (g c).2.1.toNat).2.1)))]))⟩),(1922,⟨false,1,1,(fun i_1=>[.p (.int .i64 (((pl (g c).1.toNat).1 - (pl (g c).2.1.toNat).1)*((pl (g c).1.toNat).1 - (pl (g c).2.1.toNat).1)+((pl (g c).1.toNat).2.1 - (pl (g c).2.1.toNat).2.1)*((pl (g c).1.toNat).2.1 - (pl (g c).2.1.toNat).2.1)))])⟩),(1090,⟨true,2,1,(fun i_1=>[.p (.int .i64 ((pl (g c).2.1.toNat).1)),.p (.int .i64 ((pl (g c).2.1.toNat).2.1))])⟩),(674,⟨true,2,1,(fun i_1=>[.p (.int .i64 ((pl (g c).1.toNat).1)),.p (.int .i64 ((pl (g c).1.toNat).2.1))])⟩),(0,⟨true,3,1,(fun i_1=>[.p (.int .i64 N),.p (.seq true 2 nb (bRw g)),.p (.seq true 2 np (bRw pl))])⟩)] [0,1954] 1 (c+1) (fun i=>if (i<c) then [.p (.int .i64 (f i))] else [.p (.int .i64 (((pl (g c).1.toNat).1 - (pl (g c).2.1.toNat).1)*((pl (g c).1.toNat).1 - (pl (g c).2.1.toNat).1)+((pl (g c).1.toNat).2.1 - (pl (g c).2.1.toNat).2.1)*((pl (g c).1.toNat).2.1 - (pl (g c).2.1.toNat).2.1)))]) (fun i=>[.p (.int .i64 (if i<c then f i else sqF pl (g c).1.toNat (g c).2.1.toNat))]))] [0,1,2,3,2,4,0,0,5,6,7,8,0,9,0,0,5,6,10,11,0,9,0,0,12,13,0,0,12,13,14,15,0,0,16,17,0,0,16,17,18,19,20,21,22,23,24,25,26,27,28,29,30,31,32,33,33,34,35,36,22,22,28,29,30,31,32,37,38,39]):=by kernel_rfl
theorem sqe (g:Nat→T_Bar) (nb:Nat) (N:Int) (pl:Nat→T_Place) (np:Nat) (c:Nat) (f:Nat→Int) :
    zP Tryz.f363 0 [rm [(8,oc [] (.p (.bool true)))] 1,.dec false,rg 2] zf67 (slS g nb N pl np c f) [1] 1 [(0,iOb c f)] (.ar 1 0 0 c) =
    some (zD [(NT 0 1),(((decide ((↑c:Int)<(↑nb:Int)))=true)→(NT 0 1)),(AG (decide ((↑c:Int)<(↑nb:Int)))),(((decide ((↑c:Int)<(↑nb:Int)))=true)→ zE 117 [(zf39 N nb g np pl)] [] (.p (.bool true))),((bif decide ((↑c:Int)<(↑nb:Int)) then true else false)=false),(AN 0),(AN c),(AN 1),(NL c c),(AA c (fun i=>[.p (.int .i64 (f i))])),(AE c)] [0,1,2,3,2,4,5,6,7,8,9,10]):=by kernel_rfl
theorem asf (g:Nat→T_Bar) (nb:Nat) (N:Int) (pl:Nat→T_Place) (np:Nat) (P:Nat→T_Place) :
    zS Tryz.f333 [rg 3,rm [(1,oc [] (.p (.bool true))),(1,gT),(0,⟨true,(some ⟨[],[],[],1,[],.p (.bool false)⟩),some true⟩),(0,gT),(1,gF),(0,gF),(0,gF),(0,gF),(0,gF),(0,gF),(1,gF),(0,gF),(0,gF),(0,gF),(0,gF),(0,gF)] 1] [frA g nb N pl np,frA g nb N P np] [] [] (.p (.bool false)) =
    some (zD [(NT 0 1),zE 117 [(zf39 N nb g np pl)] [] (.p (.bool true)),(true=true),zE 117 [(zf39 N nb g np P)] [] (.p (.bool false)),(false=false)] [0,1,2,0,2,3,2,4,4,4,4,4,4,4,4,4,4,4,4,4]):=by kernel_rfl
theorem ast (g:Nat→T_Bar) (nb:Nat) (N:Int) (pl:Nat→T_Place) (np:Nat) (P:Nat→T_Place) (c d:Nat) (f h:Nat→Int) (b:Bool) :
    zS Tryz.f333 [rg 3,rm [(1,oc [] (.p (.bool true))),(1,gT),(0,⟨true,(some ⟨[],[],[],1,[],.p (.bool true)⟩),some true⟩),(0,gT),(1,gT),(0,gT),(0,gT),(0,gT),(0,⟨true,(some ⟨[],[],[],1,[],.p (.bool true)⟩),some true⟩),(0,gT),(1,gT),(0,⟨true,(some ⟨[],[],[],1,[(0,iOb c f)],.ar 1 0 0 c⟩),some true⟩),(0,gT),(0,⟨true,(some ⟨[],[],[],1,[(0,iOb d h)],.ar 1 0 0 d⟩),some true⟩),(0,⟨true,(some ⟨[],[],[],1,[],.p (.bool b)⟩),some true⟩),(0,gT)] 1] [frA g nb N pl np,frA g nb N P np] [] [] (.p (.bool b)) =
    some (zD [(NT 0 1),zE 117 [(zf39 N nb g np pl)] [] (.p (.bool true)),(true=true),zE 117 [(zf39 N nb g np P)] [] (.p (.bool true)),zE 83 [(zf96 N nb g),(zf96 N nb g)] [] (.p (.bool true)),zE 363 [(zf39 N nb g np pl)] [(0,⟨false,1,c,(fun i=>[.p (.int .i64 (f i))])⟩)] (.ar 1 0 0 c),zE 363 [(zf39 N nb g np P)] [(0,⟨false,1,d,(fun i=>[.p (.int .i64 (h i))])⟩)] (.ar 1 0 0 d),(AN 1),(NL c c),(NL d d),zE 175 [.p (.seq true 1 c (fun i=>[.int .i64 (f i)])),.p (.seq true 1 d (fun i=>[.int .i64 (h i)]))] [] (.p (.bool b)),(b=b)] [0,1,2,0,2,3,2,2,2,0,2,2,0,2,4,2,2,0,2,5,2,0,2,6,2,7,8,7,9,10,2,11]):=by kernel_rfl
theorem ipz (g:Nat→T_Bar) (nb:Nat) (N:Int) (pl:Nat→T_Place) (np:Nat) (K:T_IntS) (P:Nat→T_Place) (n:Nat) :
    zT Tryz.f273 [rg 2,rg 4,rm [(1,oc [] (.p (.bool true)))] 9,.dec false,rg 3,.head] [tsA g nb N pl np K,pcL P n] [0,128] (ipA g nb N pl np K P n 0) =
    some (zf52,zD [(NT 0 1),((true=true)→ (AN 1)),zE 270 [(zf24 N nb g np pl K)] [] (.p (.bool true)),(AG (!!true)),(((!!true)=true)→(NT 0 1)),(((!true)=false)→ ((!!true)=true)),((bif !true then true else (↑n:Int) != (↑np:Int))=false),(AI N),(AN nb),(AP nb (bRw g)),(AN np),(AP np (bRw pl)),(AN K.1),(AP K.1 (iRw K)),(AN n),(AP n (bRw P)),(AN 0),(AI ((↑n:Int))),((0:Int)=(↑0:Int)),((([AV.p (PV.int IntKind.i64 N),brL g nb,pcL pl np,inL K].length):Nat)=4),(NL 1 1),((((List.map (fun v=>AV.p (absV v)) [Value.int IntKind.i64 0,Value.slice none 0 0,Value.slice none 0 0]).length):Nat)=3)] [0,0,1,0,2,3,3,4,3,3,3,5,6,7,8,9,10,11,12,13,14,15,16,16,14,15,17,18,19,20,20,7,8,9,10,11,12,13,21,20,20,7,8,9,10,11]):=by kernel_rfl
theorem ipt (g:Nat→T_Bar) (nb:Nat) (N:Int) (pl:Nat→T_Place) (np:Nat) (K:T_IntS) (P:Nat→T_Place) (n k:Nat) (b c:Bool) :
    zM 0 [rg 1,.dec true,rg 6,rm [(1,oc [] (.p (.bool b))),(5,oc [] (.p (.bool c)))] 10,.dec false,rg 2,.head] zf52 (ipA g nb N pl np K P n k) [0,1] 1 (ipA g nb N pl np K P n (k+1)) =
    some (zf52,zD [((decide ((↑k:Int)<(↑n:Int)))=true),(IL 0 (↑k:Int)),(IT (↑k:Int) (↑n:Int)),(NT 0 1),((true=true)→ (AN 1)),zE 233 [.agg [.p (.int .i64 ((P k).1)),.p (.int .i64 ((P k).2.1))]] [] (.p (.bool b)),(AG (!!b)),(((!!b)=true)→(NT 0 1)),(((!!b)=true)→ zE 184 [.p (.seq true 1 K.1 (iRw K)),.p (.int .i64 (↑k:Int))] [] (.p (.bool c))),(((!!b&&c)=true)→(NT 0 1)),(AG (!!b&&c)),(((!!b&&c)=true)→(IL 0 (↑k:Int))),(((!!b&&c)=true)→(IT (↑k:Int) (↑np:Int))),(((!!b)=true)→((c=true)→ ((!!b&&c)=true))),(((!b)=false)→ ((!!b)=true)),((bif !b then true else bif c then !((P k).1==(pl k).1&&((P k).2.1==(pl k).2.1&&true)) else false)=false),(ZLo ((↑k:Int)+1)),(ZHi ((↑k:Int)+1)),(AI N),(AN nb),(AP nb (bRw g)),(AN np),(AP np (bRw pl)),(AN K.1),(AP K.1 (iRw K)),(AN n),(AP n (bRw P)),(AN 0),(AI ((↑n:Int))),((((↑k:Int)+1):Int)=(↑(k+1):Int)),(AN 4),(NL 1 1),(AN 3)] [0,1,2,3,4,3,5,6,7,6,6,8,6,9,10,9,10,10,11,12,10,10,10,6,13,14,15,16,17,18,19,20,21,22,23,24,25,26,27,27,25,26,28,29,30,31,31,18,19,20,21,22,23,24,32,31,31,18,19,20,21,22]):=by kernel_rfl
theorem ipx (g:Nat→T_Bar) (nb:Nat) (N:Int) (pl:Nat→T_Place) (np:Nat) (K:T_IntS) (P:Nat→T_Place) (n k:Nat) (b c:Bool) :
    zP Tryz.f273 0 [rg 1,.dec true,rg 6,rm [(1,oc [] (.p (.bool b))),(5,oc [] (.p (.bool c)))] 10,.dec true,rg 1] zf52 (ipA g nb N pl np K P n k) [] 1 [] (.p (.bool false)) =
    some (zD [((decide ((↑k:Int)<(↑n:Int)))=true),(IL 0 (↑k:Int)),(IT (↑k:Int) (↑n:Int)),(NT 0 1),((true=true)→ (AN 1)),zE 233 [.agg [.p (.int .i64 ((P k).1)),.p (.int .i64 ((P k).2.1))]] [] (.p (.bool b)),(AG (!!b)),(((!!b)=true)→(NT 0 1)),(((!!b)=true)→ zE 184 [.p (.seq true 1 K.1 (iRw K)),.p (.int .i64 (↑k:Int))] [] (.p (.bool c))),(((!!b&&c)=true)→(NT 0 1)),(AG (!!b&&c)),(((!!b&&c)=true)→(IL 0 (↑k:Int))),(((!!b&&c)=true)→(IT (↑k:Int) (↑np:Int))),(((!!b)=true)→((c=true)→ ((!!b&&c)=true))),(((!b)=false)→ ((!!b)=true)),((bif !b then true else bif c then !((P k).1==(pl k).1&&((P k).2.1==(pl k).2.1&&true)) else false)=true),(false=false)] [0,1,2,3,4,3,5,6,7,6,6,8,6,9,10,9,10,10,11,12,10,10,10,6,13,14,15,16]):=by kernel_rfl
theorem ipc (g:Nat→T_Bar) (nb:Nat) (N:Int) (pl:Nat→T_Place) (np:Nat) (K:T_IntS) (P:Nat→T_Place) (n k:Nat) :
    zM 0 [rg 1,.dec false,rg 4,rg 5,.head] zf52 (ipA g nb N pl np K P n k) [0,1,98] 1 (ipB g nb N pl np K P n 0) =
    some (zf32,zD [((decide ((↑k:Int)<(↑n:Int)))=false),(NT 0 1),((true=true)→ (AN 1)),(AI N),(AN nb),(AP nb (bRw g)),(AN np),(AP np (bRw pl)),(AN K.1),(AP K.1 (iRw K)),(AN n),(AP n (bRw P)),(AN 0),(AI ((↑nb:Int))),((0:Int)=(↑0:Int)),(AN 4),(NL 1 1),(AN 3),((((List.map (fun v=>AV.p (absV v)) [Value.int IntKind.i64 0,Value.slice none 0 0,Value.slice none 0 0]).length):Nat)=3),(AI 0)] [0,1,2,1,3,4,5,6,7,8,9,10,11,12,12,12,4,5,13,14,15,16,16,3,4,5,6,7,8,9,17,16,16,3,4,5,6,7,18,16,16,19,10,11]):=by kernel_rfl
theorem ipd (g:Nat→T_Bar) (nb:Nat) (N:Int) (pl:Nat→T_Place) (np:Nat) (K:T_IntS) (P:Nat→T_Place) (n k:Nat) (x y:Int) :
    zM 0 [rg 1,.dec true,rg 4,rm [(5,oc [] (.p (.int .i64 x))),(5,oc [] (.p (.int .i64 y)))] 1,.dec false,rg 2,.head] zf32 (ipB g nb N pl np K P n k) [0,1,2] 1 (ipB g nb N pl np K P n (k+1)) =
    some (zf32,zD [((decide ((↑k:Int)<(↑nb:Int)))=true),(IL 0 (↑k:Int)),(IT (↑k:Int) (↑nb:Int)),(NT 0 1),((true=true)→ (AN 1)),zE 335 [(zf39 N nb g np pl),.p (.int .i64 ((g k).1)),.p (.int .i64 ((g k).2.1))] [] (.p (.int .i64 x)),zE 335 [.agg [.p (.int .i64 0),.p (.nil),.p (.seq true 2 n (bRw P))],.p (.int .i64 ((g k).1)),.p (.int .i64 ((g k).2.1))] [] (.p (.int .i64 y)),((x != y)=false),(ZLo ((↑k:Int)+1)),(ZHi ((↑k:Int)+1)),(AI N),(AN nb),(AP nb (bRw g)),(AN np),(AP np (bRw pl)),(AN K.1),(AP K.1 (iRw K)),(AN n),(AP n (bRw P)),(AN 0),(AI ((↑nb:Int))),((((↑k:Int)+1):Int)=(↑(k+1):Int)),(AN 4),(NL 1 1),(AN 3),(AI 0)] [0,1,2,3,4,3,3,3,5,3,3,3,6,7,8,9,10,11,12,13,14,15,16,17,18,19,19,19,11,12,20,21,22,23,23,10,11,12,13,14,15,16,24,23,23,10,11,12,13,14,24,23,23,25,17,18]):=by kernel_rfl
theorem ipf (g:Nat→T_Bar) (nb:Nat) (N:Int) (pl:Nat→T_Place) (np:Nat) (K:T_IntS) (P:Nat→T_Place) (n k:Nat) (x y:Int) :
    zP Tryz.f273 0 [rg 1,.dec true,rg 4,rm [(5,oc [] (.p (.int .i64 x))),(5,oc [] (.p (.int .i64 y)))] 1,.dec true,rg 1] zf32 (ipB g nb N pl np K P n k) [] 1 [] (.p (.bool false)) =
    some (zD [((decide ((↑k:Int)<(↑nb:Int)))=true),(IL 0 (↑k:Int)),(IT (↑k:Int) (↑nb:Int)),(NT 0 1),((true=true)→ (AN 1)),zE 335 [(zf39 N nb g np pl),.p (.int .i64 ((g k).1)),.p (.int .i64 ((g k).2.1))] [] (.p (.int .i64 x)),zE 335 [.agg [.p (.int .i64 0),.p (.nil),.p (.seq true 2 n (bRw P))],.p (.int .i64 ((g k).1)),.p (.int .i64 ((g k).2.1))] [] (.p (.int .i64 y)),((x != y)=true),(false=false)] [0,1,2,3,4,3,3,3,5,3,3,3,6,7,8]):=by kernel_rfl
theorem ipe (g:Nat→T_Bar) (nb:Nat) (N:Int) (pl:Nat→T_Place) (np:Nat) (K:T_IntS) (P:Nat→T_Place) (n k:Nat) :
    zP Tryz.f273 0 [rg 1,.dec false,rg 1] zf32 (ipB g nb N pl np K P n k) [] 1 [] (.p (.bool true)) =
    some [((decide ((↑k:Int)<(↑nb:Int)))=false),(true=true)]:=by kernel_rfl
theorem isz (g:Nat→T_Bar) (nb:Nat) (N:Int) (pl:Nat→T_Place) (np:Nat) (K:T_IntS) (P:Nat→T_Place) (n:Nat) :
    zT Tryz.f267 [rg 2,rm [(1,oc [] (.p (.bool true)))] 10,.dec false,rg 1,.head] [tsA g nb N pl np K,pcL P n] [0] (isQ5 g nb N pl np K P n 0) =
    some (zf68,zD [(NT 0 1),zE 265 [(zf24 N nb g np pl K)] [] (.p (.bool true)),(AG (!!true)),(((!!true)=true)→(NT 0 1)),(((!true)=false)→ ((!!true)=true)),((bif !true then true else (↑n:Int) != (↑np:Int))=false),(AI N),(AN nb),(AP nb (bRw g)),(AN np),(AP np (bRw pl)),(AN K.1),(AP K.1 (iRw K)),(AN n),(AP n (bRw P)),(AN 0),((0:Int)=(↑0:Int)),((([AV.p (PV.int IntKind.i64 N),brL g nb,pcL pl np,inL K].length):Nat)=4),(NL 1 1)] [0,1,2,2,2,3,2,2,2,4,5,6,7,8,9,10,11,12,13,14,15,16,17,18,18,6,7,8,9,10,11,12]):=by kernel_rfl
theorem ist (g:Nat→T_Bar) (nb:Nat) (N:Int) (pl:Nat→T_Place) (np:Nat) (K:T_IntS) (P:Nat→T_Place) (n k:Nat) :
    zM 0 [rg 5,.dec true,rg 19,.dec false,rg 3,.head] zf68 (isQ5 g nb N pl np K P n k) [0] 1 (isQ5 g nb N pl np K P n (k+1)) =
    some (zf68,zD [(NT 0 1),((decide ((↑k:Int)<(↑K.1:Int)))=true),(IL 0 (↑k:Int)),(IT (↑k:Int) (↑K.1:Int)),(IL 0 (K.2 k)),(IT (K.2 k) (↑n:Int)),(IT (K.2 k) (↑np:Int)),((!((P (K.2 k).toNat).1==(pl (K.2 k).toNat).1&&((P (K.2 k).toNat).2.1==(pl (K.2 k).toNat).2.1&&true)))=false),(ZLo ((↑k:Int)+1)),(ZHi ((↑k:Int)+1)),(AI N),(AN nb),(AP nb (bRw g)),(AN np),(AP np (bRw pl)),(AN K.1),(AP K.1 (iRw K)),(AN n),(AP n (bRw P)),(AN 0),((((↑k:Int)+1):Int)=(↑(k+1):Int)),(AN 4),(NL 1 1)] [0,1,0,2,3,4,5,0,0,2,3,4,6,7,8,9,10,11,12,13,14,15,16,17,18,19,20,21,22,22,10,11,12,13,14,15,16]):=by kernel_rfl
theorem isx (g:Nat→T_Bar) (nb:Nat) (N:Int) (pl:Nat→T_Place) (np:Nat) (K:T_IntS) (P:Nat→T_Place) (n k:Nat) :
    zP Tryz.f267 0 [rg 5,.dec true,rg 19,.dec true,rg 1] zf68 (isQ5 g nb N pl np K P n k) [] 1 [] (.p (.bool false)) =
    some (zD [(NT 0 1),((decide ((↑k:Int)<(↑K.1:Int)))=true),(IL 0 (↑k:Int)),(IT (↑k:Int) (↑K.1:Int)),(IL 0 (K.2 k)),(IT (K.2 k) (↑n:Int)),(IT (K.2 k) (↑np:Int)),((!((P (K.2 k).toNat).1==(pl (K.2 k).toNat).1&&((P (K.2 k).toNat).2.1==(pl (K.2 k).toNat).2.1&&true)))=true),(false=false)] [0,1,0,2,3,4,5,0,0,2,3,4,6,7,8]):=by kernel_rfl
theorem ise (g:Nat→T_Bar) (nb:Nat) (N:Int) (pl:Nat→T_Place) (np:Nat) (K:T_IntS) (P:Nat→T_Place) (n k:Nat) (b:Bool) :
    zP Tryz.f267 0 [rg 5,.dec false,rm [(7,oc [] (.p (.bool b)))] 1] zf68 (isQ5 g nb N pl np K P n k) [] 1 [] (.p (.bool b)) =
    some [(NT 0 1),((decide ((↑k:Int)<(↑K.1:Int)))=false),(NT 0 1),(NT 0 1),zE 333 [(zf39 N nb g np pl),(zf39 N nb g n P)] [] (.p (.bool b)),(b=b)]:=by kernel_rfl
end Go.Proofs.YtkkjoghiigiokaaGreat.Mach
namespace Go.Proofs.YtkkjoghiigiokaaGreat.Had
abbrev Fo:=Nat→Int
abbrev Ve:=Nat→Int
def ev (w:Fo):Fo:=fun q=>w (2*q)
def od (w:Fo):Fo:=fun q=>w (2*q+1)
def tl (a:Ve):Ve:=fun k=>a (k+1)
def wg:Nat→Ve→Fo→Fo
  | 0,_,_=>fun _=>0
  | n+1,a,w=>fun m=>if m % 2=0 then wg n (tl a) (ev w) (m / 2) else a 0*ev w (m / 2) - wg n (tl a) (od w) (m / 2)
def it:Nat→Ve→Fo→Fo
  | 0,_,_=>fun _=>0
  | n+1,a,w=>fun m=>if m % 2=0 then it n (tl a) (ev w) (m / 2)+a 0*od w (m / 2) else - it n (tl a) (od w) (m / 2)
def dotv:Nat→Ve→Ve→Int
  | 0,_,_=>0
  | n+1,a,b=>a 0*b 0+dotv n (tl a) (tl b)
def dot:Nat→Fo→Fo→Int
  | 0,u,w=>u 0*w 0
  | n+1,u,w=>dot n (ev u) (ev w)+dot n (od u) (od w)
def dl (k:Nat):Ve:=fun j=>if j=k then 1 else 0
def vac:Fo:=fun m=>if m=0 then 1 else 0
theorem par (m:Nat):(∃ q,m=2*q)∨∃ q,m=2*q+1:=by
  by_cases h:m % 2=0
  · exact .inl ⟨m / 2,by omega⟩
  · exact .inr ⟨m / 2,by omega⟩
theorem wg_e (n:Nat) (a:Ve) (w:Fo) (q:Nat):wg (n+1) a w (2*q)=wg n (tl a) (ev w) q:=by
  simp only [wg];rw [if_pos (by omega),show 2*q / 2=q by omega]
theorem wg_o (n:Nat) (a:Ve) (w:Fo) (q:Nat):wg (n+1) a w (2*q+1)=a 0*ev w q - wg n (tl a) (od w) q:=by
  simp only [wg];rw [if_neg (by omega),show (2*q+1) / 2=q by omega]
theorem it_e (n:Nat) (a:Ve) (w:Fo) (q:Nat):it (n+1) a w (2*q)=it n (tl a) (ev w) q+a 0*od w q:=by
  simp only [it];rw [if_pos (by omega),show 2*q / 2=q by omega]
theorem it_o (n:Nat) (a:Ve) (w:Fo) (q:Nat):it (n+1) a w (2*q+1) = - it n (tl a) (od w) q:=by
  simp only [it];rw [if_neg (by omega),show (2*q+1) / 2=q by omega]
theorem ev_wg (n:Nat) (a:Ve) (w:Fo):ev (wg (n+1) a w)=wg n (tl a) (ev w):=funext fun q=>wg_e n a w q
theorem od_wg (n:Nat) (a:Ve) (w:Fo):od (wg (n+1) a w)=fun q=>a 0*ev w q+(-1)*wg n (tl a) (od w) q:=funext fun q=>by
  rw [show od (wg (n+1) a w) q=wg (n+1) a w (2*q+1) from rfl,wg_o];omega
theorem ev_it (n:Nat) (a:Ve) (w:Fo):ev (it (n+1) a w)=fun q=>1*it n (tl a) (ev w) q+a 0*od w q:=funext fun q=>by
  rw [show ev (it (n+1) a w) q=it (n+1) a w (2*q) from rfl,it_e];omega
theorem od_it (n:Nat) (a:Ve) (w:Fo):od (it (n+1) a w)=fun q=>(-1)*it n (tl a) (od w) q+0*od w q:=funext fun q=>by
  rw [show od (it (n+1) a w) q=it (n+1) a w (2*q+1) from rfl,it_o];omega
theorem wg_lin (n:Nat):∀ (a:Ve) (x y:Int) (u v:Fo),wg n a (fun m=>x*u m+y*v m)=fun m=>x*wg n a u m+y*wg n a v m:=by
  induction n with
  | zero=>intro a x y u v;funext m;simp [wg]
  | succ n ih =>
    intro a x y u v
    funext m
    rcases par m with ⟨q,rfl⟩ | ⟨q,rfl⟩
    · rw [wg_e,wg_e,wg_e,show ev (fun m=>x*u m+y*v m)=fun m=>x*ev u m+y*ev v m from rfl,ih]
    · rw [wg_o,wg_o,wg_o,show od (fun m=>x*u m+y*v m)=fun m=>x*od u m+y*od v m from rfl,ih,show ev (fun m=>x*u m+y*v m) q=x*ev u q+y*ev v q from rfl]
      grind
theorem it_lin (n:Nat):∀ (a:Ve) (x y:Int) (u v:Fo),it n a (fun m=>x*u m+y*v m)=fun m=>x*it n a u m+y*it n a v m:=by
  induction n with
  | zero=>intro a x y u v;funext m;simp [it]
  | succ n ih =>
    intro a x y u v
    funext m
    rcases par m with ⟨q,rfl⟩ | ⟨q,rfl⟩
    · rw [it_e,it_e,it_e,show ev (fun m=>x*u m+y*v m)=fun m=>x*ev u m+y*ev v m from rfl,ih,show od (fun m=>x*u m+y*v m) q=x*od u q+y*od v q from rfl]
      grind
    · rw [it_o,it_o,it_o,show od (fun m=>x*u m+y*v m)=fun m=>x*od u m+y*od v m from rfl,ih]
      grind
theorem wg_linv (n:Nat):∀ (a b:Ve) (x y:Int) (u:Fo),wg n (fun k=>x*a k+y*b k) u=fun m=>x*wg n a u m+y*wg n b u m:=by
  induction n with
  | zero=>intro a b x y u;funext m;simp [wg]
  | succ n ih =>
    intro a b x y u
    funext m
    rcases par m with ⟨q,rfl⟩ | ⟨q,rfl⟩
    · rw [wg_e,wg_e,wg_e,show tl (fun k=>x*a k+y*b k)=fun k=>x*tl a k+y*tl b k from rfl,ih]
    · rw [wg_o,wg_o,wg_o,show tl (fun k=>x*a k+y*b k)=fun k=>x*tl a k+y*tl b k from rfl,ih]
      grind
theorem wg_congr (n:Nat):∀ (a b:Ve) (u:Fo),(∀ k,k<n→a k=b k)→wg n a u=wg n b u:=by
  induction n with
  | zero=>intro a b u _;rfl
  | succ n ih =>
    intro a b u h
    have h':=ih (tl a) (tl b)
    funext m
    rcases par m with ⟨q,rfl⟩ | ⟨q,rfl⟩
    · rw [wg_e,wg_e,h' (ev u) (fun k hk=>h (k+1) (by omega))]
    · rw [wg_o,wg_o,h' (od u) (fun k hk=>h (k+1) (by omega)),h 0 (by omega)]
theorem wg_0 (n:Nat) (a:Ve):wg n a (fun _=>0)=fun _=>0:=by
  have:=wg_lin n a 0 0 (fun _=>0) (fun _=>0)
  simpa using this
theorem it_0 (n:Nat) (a:Ve):it n a (fun _=>0)=fun _=>0:=by
  have:=it_lin n a 0 0 (fun _=>0) (fun _=>0)
  simpa using this
theorem wg_v0 (n:Nat) (u:Fo):wg n (fun _=>0) u=fun _=>0:=by
  have:=wg_linv n (fun _=>0) (fun _=>0) 0 0 u
  simpa using this
theorem wg_wg (n:Nat):∀ (a b:Ve) (w:Fo),wg n a (wg n b w)=fun m=>- wg n b (wg n a w) m:=by
  induction n with
  | zero=>intro a b w;funext m;simp [wg]
  | succ n ih =>
    intro a b w
    funext m
    rcases par m with ⟨q,rfl⟩ | ⟨q,rfl⟩
    · rw [wg_e,wg_e,ev_wg,ev_wg,ih]
    · rw [wg_o,wg_o,ev_wg,ev_wg,od_wg,od_wg,wg_lin,wg_lin,ih]
      grind
theorem it_it (n:Nat):∀ (a b:Ve) (w:Fo),it n a (it n b w)=fun m=>- it n b (it n a w) m:=by
  induction n with
  | zero=>intro a b w;funext m;simp [it]
  | succ n ih =>
    intro a b w
    funext m
    rcases par m with ⟨q,rfl⟩ | ⟨q,rfl⟩
    · rw [it_e,it_e,ev_it,ev_it,od_it,od_it,it_lin,it_lin,ih]
      grind
    · rw [it_o,it_o,od_it,od_it,it_lin,it_lin,ih]
      grind
theorem car (n:Nat):∀ (v a:Ve) (w:Fo),it n v (wg n a w)=fun m=>dotv n v a*w m+(-1)*wg n a (it n v w) m:=by
  induction n with
  | zero=>intro v a w;funext m;simp [wg,it,dotv]
  | succ n ih =>
    intro v a w
    funext m
    rcases par m with ⟨q,rfl⟩ | ⟨q,rfl⟩
    · rw [it_e,wg_e,ev_wg,od_wg,ev_it,wg_lin,ih]
      show _=dotv (n+1) v a*ev w q+_
      simp only [dotv]
      grind
    · rw [it_o,wg_o,ev_it,od_wg,od_it,wg_lin,it_lin,ih]
      show _=dotv (n+1) v a*od w q+_
      simp only [dotv]
      grind
theorem dot_lin (n:Nat):∀ (x y:Int) (u v w:Fo),dot n (fun m=>x*u m+y*v m) w=x*dot n u w+y*dot n v w:=by
  induction n with
  | zero=>intro x y u v w;simp only [dot];grind
  | succ n ih =>
    intro x y u v w
    simp only [dot]
    rw [show ev (fun m=>x*u m+y*v m)=fun m=>x*ev u m+y*ev v m from rfl,show od (fun m=>x*u m+y*v m)=fun m=>x*od u m+y*od v m from rfl,ih,ih]
    grind
theorem dot_symm (n:Nat):∀ (u w:Fo),dot n u w=dot n w u:=by
  induction n with
  | zero=>intro u w;simp only [dot];exact Int.mul_comm _ _
  | succ n ih=>intro u w;simp only [dot];rw [ih,ih (od u)]
theorem dot_adj (n:Nat):∀ (a:Ve) (u w:Fo),dot n (wg n a u) w=dot n u (it n a w):=by
  induction n with
  | zero=>intro a u w;simp [dot,wg,it]
  | succ n ih =>
    intro a u w
    simp only [dot]
    rw [ev_wg,od_wg,ev_it,od_it,dot_lin,ih,ih,dot_symm n (ev u) (fun q=>1*it n (tl a) (ev w) q+a 0*od w q),dot_lin,dot_symm n (od u) (fun q=>(-1)*it n (tl a) (od w) q+0*od w q),dot_lin,
      dot_symm n (it n (tl a) (ev w)),dot_symm n (it n (tl a) (od w)),dot_symm n (od w) (ev u),dot_symm n (od w) (od u)]
    grind
theorem mul_self_nn (x:Int):0≤x*x:=by
  rcases Int.le_total 0 x with h | h
  · exact Int.mul_nonneg h h
  · have:=Int.mul_nonneg (show 0≤-x by omega) (show 0≤-x by omega)
    rwa [Int.neg_mul_neg] at this
theorem dot_nn (n:Nat):∀ (u:Fo),0≤dot n u u:=by
  induction n with
  | zero=>intro u;simp only [dot];exact mul_self_nn _
  | succ n ih=>intro u;simp only [dot];have:=ih (ev u);have:=ih (od u);omega
theorem dot_at (n:Nat):∀ (u:Fo),u 0*u 0≤dot n u u:=by
  induction n with
  | zero=>intro u;simp only [dot];exact Int.le_refl _
  | succ n ih=>intro u;simp only [dot];have h1:=ih (ev u);have:=dot_nn n (od u);rw [show ev u 0=u 0 from rfl] at h1;omega
theorem pyth (n:Nat) (a:Ve) (w:Fo):dot n (wg n a w) (wg n a w)+dot n (it n a w) (it n a w)=dotv n a a*dot n w w:=by
  rw [dot_adj,car,dot_symm n w,dot_lin,dot_adj]
  grind
theorem wg_le (n:Nat) (a:Ve) (w:Fo):dot n (wg n a w) (wg n a w)≤dotv n a a*dot n w w:=by
  have:=pyth n a w;have:=dot_nn n (it n a w);omega
theorem it_le (n:Nat) (a:Ve) (w:Fo):dot n (it n a w) (it n a w)≤dotv n a a*dot n w w:=by
  have:=pyth n a w;have:=dot_nn n (wg n a w);omega
theorem dotv_0 (n:Nat):∀ b:Ve,dotv n (fun _=>0) b=0:=by
  induction n with
  | zero=>intro b;rfl
  | succ n ih=>intro b;simp only [dotv];rw [show tl (fun _=>(0:Int))=fun _=>0 from rfl,ih];omega
theorem dotv_dl (n:Nat):∀ (k:Nat) (b:Ve),dotv n (dl k) b=if k<n then b k else 0:=by
  induction n with
  | zero=>intro k b;simp [dotv]
  | succ n ih =>
    intro k b
    simp only [dotv]
    cases k with
    | zero =>
      rw [show tl (dl 0)=fun _=>0 from funext fun j=>by simp [tl,dl],dotv_0]
      simp [dl]
    | succ k =>
      rw [show tl (dl (k+1))=dl k from funext fun j=>by simp [tl,dl],ih]
      by_cases h:k<n
      · rw [if_pos h,if_pos (by omega)];simp [dl,tl]
      · rw [if_neg h,if_neg (by omega)];simp [dl]
theorem it_dl_le (n k:Nat) (w:Fo):dot n (it n (dl k) w) (it n (dl k) w)≤dot n w w:=by
  have h:=it_le n (dl k) w
  rw [dotv_dl] at h
  have:=dot_nn n w
  by_cases hk:k<n
  · rw [if_pos hk,show dl k k=1 by simp [dl]] at h;omega
  · rw [if_neg hk] at h;omega
def Lin (l:Fo→Int):Prop:=∀ x y u v,l (fun m=>x*u m+y*v m)=x*l u+y*l v
def Dec (n:Nat) (W:Fo):Prop:=∀ l,Lin l→wg n (fun k=>l (it n (dl k) W)) W=fun _=>0
theorem Lin.zero {l:Fo→Int} (h:Lin l):l (fun _=>0)=0:=by
  have:=h 0 0 (fun _=>0) (fun _=>0)
  simpa using this
theorem it_vac (n:Nat):∀ v:Ve,it n v vac=fun _=>0:=by
  induction n with
  | zero=>intro v;rfl
  | succ n ih =>
    intro v
    have he:ev vac=vac:=funext fun q=>by
      show (if 2*q=0 then (1:Int) else 0)=if q=0 then 1 else 0
      by_cases h:q=0
      · rw [if_pos h,if_pos (by omega)]
      · rw [if_neg h,if_neg (by omega)]
    have ho:od vac=fun _=>0:=funext fun q=>by simp [od,vac]
    funext m
    rcases par m with ⟨q,rfl⟩ | ⟨q,rfl⟩
    · rw [it_e,he,ho,ih];simp
    · rw [it_o,ho,it_0];simp
theorem dec_vac (n:Nat):Dec n vac:=by
  intro l hl
  rw [show (fun k=>l (it n (dl k) vac))=fun _=>0 from funext fun k=>by rw [it_vac,hl.zero],wg_v0]
theorem wg_sq (n:Nat) (a:Ve) (w:Fo):wg n a (wg n a w)=fun _=>0:=by
  funext m
  have:=congrFun (wg_wg n a a w) m
  omega
theorem car_dl (n k:Nat) (a:Ve) (w:Fo):it n (dl k) (wg n a w)=fun m=>(if k<n then a k else 0)*w m+(-1)*wg n a (it n (dl k) w) m:=by
  rw [car,dotv_dl]
theorem Lin.wg {l:Fo→Int} (h:Lin l) (n:Nat) (a:Ve):Lin (fun u=>l (wg n a u)):=fun x y u v=>by
  show l (Had.wg n a _)=_
  rw [wg_lin,h]
theorem Lin.it {l:Fo→Int} (h:Lin l) (n:Nat) (a:Ve):Lin (fun u=>l (it n a u)):=fun x y u v=>by
  show l (Had.it n a _)=_
  rw [it_lin,h]
theorem Lin.neg {l:Fo→Int} (h:Lin l):Lin (fun u=>- l u):=fun x y u v=>by
  show - l _=_
  rw [h];grind
theorem dec_wg {n:Nat} {W:Fo} (a:Ve) (h:Dec n W):Dec n (wg n a W):=by
  intro l hl
  have e:(fun k=>l (it n (dl k) (wg n a W)))=fun k=>l W*(if k<n then a k else 0)+(-1)*l (wg n a (it n (dl k) W)):=funext fun k=>by
    rw [car_dl,hl];grind
  rw [e,wg_linv,wg_congr n (fun k=>if k<n then a k else 0) a _ (fun k hk=>by simp [hk]),wg_sq,wg_wg,h _ (hl.wg n a),wg_0]
  simp
theorem uniq {n r:Nat} {W:Fo} {F:Fo→Int} {p:Nat→Nat} (hl:Lin F) (kv:∀ v:Ve,(∀ j,j<r→v (p j)=0)→∀ Y,F (wg n v Y)=0) (hd:F W≠0)
    {v:Ve} (hz:wg n v W=fun _=>0) (hp:∀ j,j<r→v (p j)=0) {k:Nat} (hk:k<n):v k=0:=by
  have h:=congrArg (it n (dl k)) hz
  rw [it_0,car_dl,if_pos hk] at h
  have h2:=congrArg F h
  rw [hl.zero,hl,kv v hp] at h2
  have h3:v k*F W=0:=by omega
  rcases Int.mul_eq_zero.1 h3 with h4 | h4
  · exact h4
  · exact absurd h4 hd
end Go.Proofs.YtkkjoghiigiokaaGreat.Had
namespace Go.Proofs.YtkkjoghiigiokaaGreat.Had
structure LF (n:Nat) (l:Fo→Int):Prop where
  lin:Lin l
  bd:∀ u,l u*l u≤dot n u u
structure HI (n m:Nat) (B:Int) (a A:Nat→Ve) (r:Nat) (p:Nat→Nat) (d:Int) (W:Fo) (F:Fo→Int) (L:Nat→Fo→Int):Prop where
  rm:r≤m
  rows:∀ i,i<m→dotv n (a i) (a i)≤B
  b0:0≤B
  dec:Dec n W
  lf:LF n F
  ll:∀ i,i<r→LF n (L i)
  pn:∀ j,j<r→p j<n
  k0:∀ j,j<r→∀ Y,F (it n (dl (p j)) Y)=0
  k1:∀ i j,i<r→j<r→∀ Y,L i (it n (dl (p j)) Y)=if i=j then F Y else 0
  kv:∀ v:Ve,(∀ j,j<r→v (p j)=0)→∀ Y,F (wg n v Y)=0
  dF:d=F W
  d0:d≠0
  piv:∀ i k,i<r→k<n→A i k=L i (it n (dl k) W)
  non:∀ i k,r≤i→i<m→k<n→A i k=F (it n (dl k) (wg n (a i) W))
  nw:dot n W W≤B ^ r
theorem wg_at0 (n:Nat):∀ (a:Ve) (w:Fo),wg n a w 0=0:=by
  induction n with
  | zero=>intro a w;rfl
  | succ n ih =>
    intro a w
    have:=wg_e n a w 0
    rw [show 2*0=0 from rfl] at this
    rw [this,ih]
theorem dot_vac (n:Nat):dot n vac vac=1:=by
  induction n with
  | zero=>rfl
  | succ n ih =>
    simp only [dot]
    rw [show ev vac=vac from funext fun q=>by
      show (if 2*q=0 then (1:Int) else 0)=if q=0 then 1 else 0
      by_cases h:q=0
      · rw [if_pos h,if_pos (by omega)]
      · rw [if_neg h,if_neg (by omega)],show od vac=fun _=>0 from funext fun q=>by simp [od,vac],ih]
    have:=dot_lin n 0 0 (fun _=>0) (fun _=>0) (fun _=>0)
    simp at this
    rw [this];rfl
theorem HI.init {n m:Nat} {B:Int} {a:Nat→Ve} {p:Nat→Nat} (h0:0≤B) (hr:∀ i,i<m→dotv n (a i) (a i)≤B) :
    HI n m B a a 0 p 1 vac (fun w=>w 0) (fun _ _=>0) where
  rm:=Nat.zero_le _
  rows:=hr
  b0:=h0
  dec:=dec_vac n
  lf:=⟨fun x y u v=>rfl,dot_at n⟩
  ll i hi:=absurd hi (Nat.not_lt_zero _)
  pn i hi:=absurd hi (Nat.not_lt_zero _)
  k0 i hi:=absurd hi (Nat.not_lt_zero _)
  k1 i j hi:=absurd hi (Nat.not_lt_zero _)
  kv v _ Y:=wg_at0 n v Y
  dF:=rfl
  d0:=by decide
  piv i k hi:=absurd hi (Nat.not_lt_zero _)
  non i k _ _ hk:=by
    show a i k=it n (dl k) (wg n (a i) vac) 0
    rw [car_dl,it_vac,wg_0,if_pos hk]
    simp [vac]
  nw:=by rw [dot_vac];simp
section
variable {n m r:Nat} {B:Int} {a A:Nat→Ve} {p:Nat→Nat} {d:Int} {W:Fo} {F:Fo→Int} {L:Nat→Fo→Int}
theorem HI.bpiv (h:HI n m B a A r p d W F L) {i k:Nat} (hi:i<r) (hk:k<n):A i k*A i k≤B ^ r:=by
  rw [h.piv i k hi hk]
  exact Int.le_trans ((h.ll i hi).bd _) (Int.le_trans (it_dl_le n k W) h.nw)
theorem HI.bnon (h:HI n m B a A r p d W F L) {i k:Nat} (hi:r≤i) (hm:i<m) (hk:k<n):A i k*A i k≤B ^ (r+1):=by
  rw [h.non i k hi hm hk]
  refine Int.le_trans (h.lf.bd _) (Int.le_trans (it_dl_le n k _) (Int.le_trans (wg_le n (a i) W) ?_))
  have h1:=h.rows i hm
  have h2:=dot_nn n W
  have h3:=h.nw
  rw [Int.pow_succ,Int.mul_comm (B ^ r) B]
  exact Int.le_trans (Int.mul_le_mul_of_nonneg_right h1 h2) (Int.mul_le_mul_of_nonneg_left h3 h.b0)
theorem HI.bd (h:HI n m B a A r p d W F L):d*d≤B ^ r:=by
  rw [h.dF];exact Int.le_trans (h.lf.bd _) h.nw
def sw {α:Type} (a:Nat→α) (r s:Nat) (i:Nat):α:=if i=r then a s else if i=s then a r else a i
theorem HI.swap (h:HI n m B a A r p d W F L) {s:Nat} (hs:r≤s) (hm:s<m):HI n m B (sw a r s) (sw A r s) r p d W F L:=by
  have key:∀ i,i<m→r≤i→∃ j,r≤j∧j<m∧sw a r s i=a j∧sw A r s i=A j:=by
    intro i hi hr
    unfold sw
    by_cases h1:i=r
    · exact ⟨s,hs,hm,by rw [if_pos h1],by rw [if_pos h1]⟩
    · by_cases h2:i=s
      · exact ⟨r,Nat.le_refl _,by omega,by rw [if_neg h1,if_pos h2],by rw [if_neg h1,if_pos h2]⟩
      · exact ⟨i,hr,hi,by rw [if_neg h1,if_neg h2],by rw [if_neg h1,if_neg h2]⟩
  have low:∀ i,i<r→sw a r s i=a i∧sw A r s i=A i:=fun i hi=>by
    unfold sw;exact ⟨by rw [if_neg (by omega),if_neg (by omega)],by rw [if_neg (by omega),if_neg (by omega)]⟩
  refine { h with rows:=fun i hi=>?_,piv:=fun i k hi hk=>?_,non:=fun i k hr hi hk=>?_ }
  · by_cases hr:r≤i
    · obtain ⟨j,_,h2,h3,_⟩:=key i hi hr
      rw [h3];exact h.rows j h2
    · rw [(low i (by omega)).1];exact h.rows i hi
  · rw [(low i hi).2];exact h.piv i k hi hk
  · obtain ⟨j,h1,h2,h3,h4⟩:=key i hi hr
    rw [h3,h4];exact h.non j k h1 h2 hk
theorem HI.step (h:HI n m B a A r p d W F L) {c:Nat} (hr:r<m) (hc:c<n) (hx:A r c≠0) {A':Nat→Ve} (hA':∀ i k,i<m→k<n→A' i k =
      if i<r then - L i (it n (dl c) (it n (dl k) (wg n (a r) W))) else if i=r then A r k else F (it n (dl c) (it n (dl k) (wg n (a i) (wg n (a r) W))))) :
    HI n m B a A' (r+1) (fun j=>if j=r then c else p j) (A r c) (wg n (a r) W) (fun Y=>F (it n (dl c) Y)) (fun i Y=>if i=r then F Y else - L i (it n (dl c) Y)) where
  rm:=hr
  rows:=h.rows
  b0:=h.b0
  dec:=dec_wg (a r) h.dec
  lf:=⟨h.lf.lin.it n (dl c),fun u=>Int.le_trans (h.lf.bd _) (it_dl_le n c u)⟩
  ll i hi:=by
    by_cases hir:i=r
    · simp only [hir,if_true];exact h.lf
    · simp only [hir,if_false]
      exact ⟨((h.ll i (by omega)).lin.it n (dl c)).neg,fun u=>by rw [Int.neg_mul_neg];exact Int.le_trans ((h.ll i (by omega)).bd _) (it_dl_le n c u)⟩
  pn j hj:=by
    show (if j=r then c else p j)<n
    split
    · exact hc
    · exact h.pn j (by omega)
  k0 j hj Y:=by
    show F (it n (dl c) (it n (dl (if j=r then c else p j)) Y))=0
    split
    · have:=congrArg F (it_it n (dl c) (dl c) Y)
      rw [show (fun m=>- it n (dl c) (it n (dl c) Y) m)=fun m=>(-1)*it n (dl c) (it n (dl c) Y) m+0*0 from funext fun m=>by omega,h.lf.lin (-1) 0 _ (fun _=>0)] at this
      omega
    · rw [it_it,show (fun m=>- it n (dl (p j)) (it n (dl c) Y) m)=fun m=>(-1)*it n (dl (p j)) (it n (dl c) Y) m+0*0 from funext fun m=>by omega,h.lf.lin (-1) 0 _ (fun _=>0),h.k0 j (by omega)]
      omega
  k1 i j hi hj Y:=by
    show (if i=r then F (it n (dl (if j=r then c else p j)) Y) else - L i (it n (dl c) (it n (dl (if j=r then c else p j)) Y)))=if i=j then F (it n (dl c) Y) else 0
    by_cases hir:i=r
    · rw [if_pos hir]
      by_cases hjr:j=r
      · rw [if_pos hjr,if_pos (by omega)]
      · rw [if_neg hjr,if_neg (by omega),h.k0 j (by omega)]
    · rw [if_neg hir]
      have hl:=(h.ll i (by omega)).lin
      by_cases hjr:j=r
      · rw [if_pos hjr,if_neg (by omega)]
        have:=congrArg (L i) (it_it n (dl c) (dl c) Y)
        rw [show (fun m=>- it n (dl c) (it n (dl c) Y) m)=fun m=>(-1)*it n (dl c) (it n (dl c) Y) m+0*0 from funext fun m=>by omega,hl (-1) 0 _ (fun _=>0)] at this
        omega
      · rw [if_neg hjr,it_it,show (fun m=>- it n (dl (p j)) (it n (dl c) Y) m)=fun m=>(-1)*it n (dl (p j)) (it n (dl c) Y) m+0*0 from funext fun m=>by omega,hl (-1) 0 _ (fun _=>0),h.k1 i j (by omega) (by omega)]
        split<;>omega
  kv v hv Y:=by
    show F (it n (dl c) (wg n v Y))=0
    have h1:=hv r (by omega)
    simp only [if_true] at h1
    rw [car_dl,h.lf.lin,h.kv v (fun j hj=>by have:=hv j (by omega);simpa [show j≠r by omega] using this),if_pos hc,h1]
    omega
  dF:=h.non r c (Nat.le_refl _) hr hc
  d0:=hx
  piv i k hi hk:=by
    show A' i k=if i=r then F (it n (dl k) (wg n (a r) W)) else - L i (it n (dl c) (it n (dl k) (wg n (a r) W)))
    rw [hA' i k (by omega) hk]
    by_cases hir:i=r
    · subst hir
      rw [if_neg (Nat.lt_irrefl _),if_pos rfl,if_pos rfl];exact h.non i k (Nat.le_refl _) hr hk
    · rw [if_pos (show i<r by omega),if_neg hir]
  non i k hi hm hk:=by
    rw [hA' i k hm hk,if_neg (by omega),if_neg (by omega)]
  nw:=by
    have h1:=wg_le n (a r) W
    have h2:=h.rows r hr
    have h3:=h.nw
    have h4:=dot_nn n W
    rw [Int.pow_succ,Int.mul_comm (B ^ r) B]
    exact Int.le_trans h1 (Int.le_trans (Int.mul_le_mul_of_nonneg_right h2 h4) (Int.mul_le_mul_of_nonneg_left h3 h.b0))
theorem HI.ident (h:HI n m B a A r p d W F L) {c:Nat} (hr:r<m) (hc:c<n) (hx:A r c≠0) {A':Nat→Ve} (hA':∀ i k,i<m→k<n→A' i k =
      if i<r then - L i (it n (dl c) (it n (dl k) (wg n (a r) W))) else if i=r then A r k else F (it n (dl c) (it n (dl k) (wg n (a i) (wg n (a r) W)))))
    {i k:Nat} (him:i<m) (hir:i≠r) (hk:k<n):d*A' i k=A r c*A i k - A i c*A r k:=by
  have h':=h.step hr hc hx hA'
  let W':=wg n (a r) W
  let vr:Ve:=fun k=>F (it n (dl k) W')
  have zr:wg n vr W'=fun _=>0:=h'.dec F h.lf.lin
  by_cases hi:i<r
  · let X:Ve:=fun k=>- L i (it n (dl c) (it n (dl k) W'))
    let V:Ve:=fun k=>L i (it n (dl k) W)
    have zX:wg n X W'=fun _=>0:=h'.dec _ ((h.ll i hi).lin.it n (dl c)).neg
    have zV:wg n V W'=fun _=>0:=by
      show wg n V (wg n (a r) W)=_
      rw [wg_wg,h.dec (L i) (h.ll i hi).lin,wg_0];simp
    have e:=uniq (v:=fun k=>1*(d*X k+(- A r c)*V k)+A i c*vr k) h'.lf.lin h'.kv (by rw [← h'.dF];exact hx)
      (by rw [wg_linv,wg_linv,zX,zV,zr];simp)
      (fun j hj=>by
        have e1:X (if j=r then c else p j)=if i=j then A r c else 0:=by
          have:=h'.k1 i j (by omega) hj W'
          simp only [if_neg hir] at this
          show - L i (it n (dl c) (it n (dl (if j=r then c else p j)) W'))=_
          rw [this]
          split
          · exact h'.dF.symm
          · rfl
        have e2:vr (if j=r then c else p j)=if j=r then A r c else 0:=by
          show F (it n (dl (if j=r then c else p j)) W')=_
          split
          · exact h'.dF.symm
          · exact h.k0 j (by omega) _
        have e3:V (if j=r then c else p j)=if j=r then A i c else if i=j then d else 0:=by
          show L i (it n (dl (if j=r then c else p j)) W)=_
          split
          · exact (h.piv i c hi hc).symm
          · rw [h.k1 i j hi (by omega),h.dF]
        show 1*(d*X (if j=r then c else p j)+(- A r c)*V (if j=r then c else p j))+A i c*vr (if j=r then c else p j)=0
        rw [e1,e2,e3]
        by_cases hj:j=r
        · rw [if_pos hj,if_pos hj,if_neg (by omega)];grind
        · rw [if_neg hj,if_neg hj]
          split<;>grind) hk
    have e1:A' i k=X k:=by rw [hA' i k him hk,if_pos hi]
    have e2:A i k=V k:=h.piv i k hi hk
    have e3:A r k=vr k:=h.non r k (Nat.le_refl _) hr hk
    rw [e1,e2,e3]
    have e:1*(d*X k+(- A r c)*V k)+A i c*vr k=0:=e
    grind
  · let X:Ve:=fun k=>F (it n (dl c) (it n (dl k) (wg n (a i) W')))
    let V:Ve:=fun k=>F (it n (dl k) (wg n (a i) W))
    let bb:Ve:=fun k=>if k<n then a i k else 0
    have zX:wg n X W'=fun m=>A r c*wg n bb W' m:=by
      have e0:X=fun k=>A r c*bb k+(-1)*F (it n (dl c) (wg n (a i) (it n (dl k) W'))):=funext fun k=>by
        show F (it n (dl c) (it n (dl k) (wg n (a i) W')))=_
        rw [car_dl,it_lin,h.lf.lin,show F (it n (dl c) W')=A r c from h'.dF.symm]
        show _=A r c*(if k<n then a i k else 0)+_
        grind
      rw [e0,wg_linv,h'.dec _ ((h.lf.lin.it n (dl c)).wg n (a i))]
      funext q;simp
    have zV:wg n V W'=fun m=>d*wg n bb W' m:=by
      have e0:V=fun k=>d*bb k+(-1)*F (wg n (a i) (it n (dl k) W)):=funext fun k=>by
        show F (it n (dl k) (wg n (a i) W))=_
        rw [car_dl,h.lf.lin,← h.dF]
        show _=d*(if k<n then a i k else 0)+_
        grind
      have e1:wg n (fun k=>F (wg n (a i) (it n (dl k) W))) W'=fun _=>0:=by
        show wg n _ (wg n (a r) W)=_
        rw [wg_wg,h.dec _ (h.lf.lin.wg n (a i)),wg_0];simp
      rw [e0,wg_linv,e1]
      funext q;simp
    have e:=uniq (v:=fun k=>1*(d*X k+(- A r c)*V k)+A i c*vr k) h'.lf.lin h'.kv (by rw [← h'.dF];exact hx)
      (by rw [wg_linv,wg_linv,zX,zV,zr];funext q;grind)
      (fun j hj=>by
        have e1:X (if j=r then c else p j)=0:=h'.k0 j hj _
        have e2:vr (if j=r then c else p j)=if j=r then A r c else 0:=by
          show F (it n (dl (if j=r then c else p j)) W')=_
          split
          · exact h'.dF.symm
          · exact h.k0 j (by omega) _
        have e3:V (if j=r then c else p j)=if j=r then A i c else 0:=by
          show F (it n (dl (if j=r then c else p j)) (wg n (a i) W))=_
          split
          · exact (h.non i c (by omega) him hc).symm
          · exact h.k0 j (by omega) _
        show 1*(d*X (if j=r then c else p j)+(- A r c)*V (if j=r then c else p j))+A i c*vr (if j=r then c else p j)=0
        rw [e1,e2,e3]
        split<;>grind) hk
    have e1:A' i k=X k:=by rw [hA' i k him hk,if_neg hi,if_neg hir]
    have e2:A i k=V k:=h.non i k (by omega) him hk
    have e3:A r k=vr k:=h.non r k (Nat.le_refl _) hr hk
    rw [e1,e2,e3]
    have e:1*(d*X k+(- A r c)*V k)+A i c*vr k=0:=e
    grind
end
def Bar (n m:Nat) (B:Int) (A:Nat→Ve) (r:Nat) (p:Nat→Nat) (d:Int):Prop:=∃ a W F L,HI n m B a A r p d W F L
def el (A:Nat→Ve) (r c:Nat) (d:Int):Nat→Ve:=fun i k=>if i=r then A r k else (A r c*A i k - A i c*A r k).tdiv d
theorem Bar.elim {n m r:Nat} {B:Int} {A:Nat→Ve} {p:Nat→Nat} {d:Int} (h:Bar n m B A r p d) {c:Nat} (hr:r<m) (hc:c<n) (hx:A r c≠0) :
    Bar n m B (el A r c d) (r+1) (fun j=>if j=r then c else p j) (A r c)∧∀ i k,i<m→i≠r→k<n→d*el A r c d i k=A r c*A i k - A i c*A r k:=by
  obtain ⟨a,W,F,L,h⟩:=h
  let A':Nat→Ve:=fun i k=>if i<r then - L i (it n (dl c) (it n (dl k) (wg n (a r) W))) else if i=r then A r k else F (it n (dl c) (it n (dl k) (wg n (a i) (wg n (a r) W))))
  have hq:∀ i k,i<m→k<n→el A r c d i k=A' i k:=by
    intro i k hi hk
    unfold el
    by_cases hir:i=r
    · rw [if_pos hir]
      show _=if i<r then _ else if i=r then A r k else _
      rw [if_neg (by omega),if_pos hir]
    · rw [if_neg hir,← h.ident hr hc hx (A':=A') (fun i k _ _=>rfl) hi hir hk,Int.mul_tdiv_cancel_left _ h.d0]
  refine ⟨⟨a,_,_,_,h.step hr hc hx (fun i k hi hk=>(hq i k hi hk).trans rfl)⟩,fun i k hi hir hk=>?_⟩
  rw [hq i k hi hk]
  exact h.ident hr hc hx (fun i k _ _=>rfl) hi hir hk
theorem Bar.init {n m:Nat} {B:Int} {a:Nat→Ve} {p:Nat→Nat} (h0:0≤B) (hr:∀ i,i<m→dotv n (a i) (a i)≤B):Bar n m B a 0 p 1:=⟨a,_,_,_,HI.init h0 hr⟩
theorem Bar.swap {n m r:Nat} {B:Int} {A:Nat→Ve} {p:Nat→Nat} {d:Int} (h:Bar n m B A r p d) {s:Nat} (hs:r≤s) (hm:s<m):Bar n m B (sw A r s) r p d:=by
  obtain ⟨a,W,F,L,h⟩:=h
  exact ⟨_,_,_,_,h.swap hs hm⟩
section
variable {n m r:Nat} {B:Int} {A:Nat→Ve} {p:Nat→Nat} {d:Int}
theorem Bar.rm (h:Bar n m B A r p d):r≤m:=by obtain ⟨a,W,F,L,h⟩:=h;exact h.rm
theorem Bar.d0 (h:Bar n m B A r p d):d≠0:=by obtain ⟨a,W,F,L,h⟩:=h;exact h.d0
theorem Bar.pn (h:Bar n m B A r p d) {j:Nat} (hj:j<r):p j<n:=by obtain ⟨a,W,F,L,h⟩:=h;exact h.pn j hj
theorem Bar.bd (h:Bar n m B A r p d):d*d≤B ^ r:=by obtain ⟨a,W,F,L,h⟩:=h;exact h.bd
theorem Bar.bpiv (h:Bar n m B A r p d) {i k:Nat} (hi:i<r) (hk:k<n):A i k*A i k≤B ^ r:=by obtain ⟨a,W,F,L,h⟩:=h;exact h.bpiv hi hk
theorem Bar.bnon (h:Bar n m B A r p d) {i k:Nat} (hi:r≤i) (hm:i<m) (hk:k<n):A i k*A i k≤B ^ (r+1):=by obtain ⟨a,W,F,L,h⟩:=h;exact h.bnon hi hm hk
end
end Go.Proofs.YtkkjoghiigiokaaGreat.Had
namespace Go.Proofs.YtkkjoghiigiokaaGreat.Had
structure RS where
  A:Nat→Ve
  r:Nat
  p:Nat→Nat
  d:Int
def fnd (A:Nat→Ve) (c m:Nat):Nat→Nat→Nat
  | 0,i=>i
  | f+1,i=>if i<m∧A i c=0 then fnd A c m f (i+1) else i
theorem fnd_ge (A:Nat→Ve) (c m:Nat):∀ f i,i≤fnd A c m f i
  | 0,i=>Nat.le_refl _
  | f+1,i=>by
    unfold fnd
    split
    · exact Nat.le_trans (Nat.le_succ i) (fnd_ge A c m f (i+1))
    · exact Nat.le_refl _
theorem fnd_le (A:Nat→Ve) (c m:Nat):∀ f i,i≤m→fnd A c m f i≤m
  | 0,i,h=>h
  | f+1,i,h=>by
    unfold fnd
    split
    · rename_i hh;exact fnd_le A c m f (i+1) hh.1
    · exact h
theorem fnd_zero (A:Nat→Ve) (c m:Nat):∀ f i j,i≤j→j<fnd A c m f i→A j c=0
  | 0,i,j,h1,h2=>by simp only [fnd] at h2;omega
  | f+1,i,j,h1,h2=>by
    unfold fnd at h2
    split at h2
    · rename_i hh
      by_cases hj:j=i
      · rw [hj];exact hh.2
      · exact fnd_zero A c m f (i+1) j (by omega) h2
    · omega
theorem fnd_hit (A:Nat→Ve) (c m:Nat):∀ f i,m≤i+f→fnd A c m f i<m→A (fnd A c m f i) c≠0
  | 0,i,h1,h2=>by simp only [fnd] at h2;omega
  | f+1,i,h1,h2=>by
    unfold fnd at h2 ⊢
    split
    · rename_i hh;rw [if_pos hh] at h2;exact fnd_hit A c m f (i+1) (by omega) h2
    · rename_i hh
      rw [if_neg hh] at h2
      intro h0;exact hh ⟨h2,h0⟩
def rstep (m c:Nat) (S:RS):RS :=
  if fnd S.A c m m S.r<m then ⟨el (sw S.A S.r (fnd S.A c m m S.r)) S.r c S.d,S.r+1,fun j=>if j=S.r then c else S.p j,S.A (fnd S.A c m m S.r) c⟩ else S
def rrun (m:Nat) (S:RS):Nat→RS
  | 0=>S
  | c+1=>rstep m c (rrun m S c)
def rini (A:Nat→Ve):RS:=⟨A,0,fun _=>0,1⟩
structure Tame (n m rmx:Nat) (K:Nat→Nat→(Nat→Ve)→Prop):Prop where
  skip:∀ c r A,c<n→K c r A→(∀ i,r≤i→i<m→A i c=0)→K (c+1) r A
  piv:∀ c r A q A' d,c<n→K c r A→r≤q→q<m→A q c≠0→d≠0→(∀ i k,i<m→i≠r→k<n→d*A' i k=sw A r q r c*sw A r q i k - sw A r q i c*sw A r q r k) →
    (∀ k,A' r k=sw A r q r k)→K (c+1) (r+1) A'∧r+1≤rmx
structure ROK (n m rmx:Nat) (B:Int) (K:Nat→Nat→(Nat→Ve)→Prop) (c:Nat) (S:RS):Prop where
  bar:Bar n m B S.A S.r S.p S.d
  k:K c S.r S.A
  r:S.r≤rmx
  rc:S.r≤c
  pc:∀ j,j<S.r→S.p j<c
  asc:∀ i j,i<j→j<S.r→S.p i<S.p j
theorem sw_at {α:Type} (a:Nat→α) (r s:Nat):sw a r s r=a s:=by unfold sw;rw [if_pos rfl]
theorem rstep_ok {n m rmx:Nat} {B:Int} {K:Nat→Nat→(Nat→Ve)→Prop} (ht:Tame n m rmx K) {c:Nat} {S:RS} (h:ROK n m rmx B K c S) (hc:c<n):ROK n m rmx B K (c+1) (rstep m c S):=by
  have hrm:=h.bar.rm
  unfold rstep
  split
  · rename_i hf
    generalize hq:fnd S.A c m m S.r=q at hf ⊢
    have hge:S.r≤q:=by rw [← hq];exact fnd_ge S.A c m m S.r
    have hx:S.A q c≠0:=by rw [← hq];exact fnd_hit S.A c m m S.r (by omega) (by rw [hq];exact hf)
    have hb:=h.bar.swap hge hf
    have hx':sw S.A S.r q S.r c≠0:=by rw [sw_at];exact hx
    obtain ⟨b1,b2⟩:=hb.elim (by omega) hc hx'
    obtain ⟨k1,k2⟩:=ht.piv c S.r S.A q (el (sw S.A S.r q) S.r c S.d) S.d hc h.k hge hf hx h.bar.d0 b2 (fun k=>by simp [el])
    refine ⟨?_,k1,k2,Nat.succ_le_succ h.rc,fun j hj=>?_,fun i j hij hj=>?_⟩
    · have:S.A q c=sw S.A S.r q S.r c:=by rw [sw_at]
      show Bar n m B _ (S.r+1) _ (S.A q c)
      rw [this];exact b1
    · show (if j=S.r then c else S.p j)<c+1
      have hj:j<S.r+1:=hj
      split
      · omega
      · have:=h.pc j (by omega);omega
    · show (if i=S.r then c else S.p i)<(if j=S.r then c else S.p j)
      have hj:j<S.r+1:=hj
      rw [if_neg (by omega)]
      split
      · exact h.pc i (by omega)
      · exact h.asc i j hij (by omega)
  · rename_i hf
    have hfm:fnd S.A c m m S.r=m:=by have:=fnd_le S.A c m m S.r hrm;omega
    exact ⟨h.bar,ht.skip c S.r S.A hc h.k (fun i h1 h2=>fnd_zero S.A c m m S.r i h1 (by rw [hfm];exact h2)),h.r,by have:=h.rc;omega,fun j hj=>by have:=h.pc j hj;omega,h.asc⟩
theorem rrun_ok {n m rmx:Nat} {B:Int} {K:Nat→Nat→(Nat→Ve)→Prop} (ht:Tame n m rmx K) {A:Nat→Ve} (hb:0≤B) (hr:∀ i,i<m→dotv n (A i) (A i)≤B) (hk:K 0 0 A) :
    ∀ c,c≤n→ROK n m rmx B K c (rrun m (rini A) c)
  | 0,_=>⟨Bar.init hb hr,hk,Nat.zero_le _,Nat.le_refl _,fun j hj=>absurd hj (Nat.not_lt_zero _),fun i j _ hj=>absurd hj (Nat.not_lt_zero _)⟩
  | c+1,h=>rstep_ok ht (rrun_ok ht hb hr hk c (by omega)) (by omega)
theorem sq_lt {x y:Int} (h0:0≤y) (h:y<x):y*y<x*x:=by
  have h1:=Int.mul_le_mul (show y+1≤x by omega) (show y+1≤x by omega) (by omega) (by omega)
  have:(y+1)*(y+1)=y*y+2*y+1:=by grind
  omega
theorem sq_le {x:Int} {y:Int} (h0:0≤y) (h:x*x≤y*y):-y≤x∧x≤y:=by
  refine ⟨?_,?_⟩
  · refine Int.not_lt.1 (fun hl=>?_)
    have:=sq_lt h0 (show y < -x by omega)
    rw [Int.neg_mul_neg] at this
    omega
  · refine Int.not_lt.1 (fun hl=>?_)
    have:=sq_lt h0 hl
    omega
theorem pow_mono {B:Int} (hB:1≤B) {i j:Nat} (h:i≤j):B ^ i≤B ^ j:=by
  induction j with
  | zero=>rw [show i=0 by omega];exact Int.le_refl _
  | succ j ih =>
    by_cases hij:i=j+1
    · rw [hij];exact Int.le_refl _
    · refine Int.le_trans (ih (by omega)) ?_
      rw [Int.pow_succ]
      have:=Int.pow_nonneg (n:=B) (m:=j) (by omega)
      have:=Int.mul_le_mul_of_nonneg_left hB this
      omega
theorem pow_pos' {B:Int} (hB:1≤B) (i:Nat):0≤B ^ i:=Int.pow_nonneg (by omega)
theorem prod_le {B:Int} (hB:1≤B) {rmx i j:Nat} (hM:B ^ (2*rmx)≤2 ^ 124) {x y:Int} (hx:x*x≤B ^ i) (hy:y*y≤B ^ j) (h:i+j≤2*rmx):-(2 ^ 62)≤x*y∧x*y≤2 ^ 62:=by
  refine sq_le (by decide) ?_
  have e:x*y*(x*y)=x*x*(y*y):=by grind
  rw [e]
  refine Int.le_trans (Int.le_trans (Int.mul_le_mul hx hy (mul_self_nn y) (pow_pos' hB i)) ?_) (show B ^ (2*rmx)≤2 ^ 62*2 ^ 62 from hM)
  rw [← Int.pow_add]
  exact pow_mono hB h
end Go.Proofs.YtkkjoghiigiokaaGreat.Had
namespace Go.Proofs.YtkkjoghiigiokaaGreat.Had
def gcdn (v:Ve):Nat→Nat
  | 0=>0
  | n+1=>Nat.gcd (gcdn v n) (v n).natAbs
def fst0 (v:Ve):Nat→Int
  | 0=>0
  | n+1=>if fst0 v n=0 then v n else fst0 v n
def sgc (v:Ve) (n:Nat):Int:=if fst0 v n<0 then -(gcdn v n:Int) else (gcdn v n:Int)
def prm (n:Nat) (v:Ve):Ve:=fun k=>if gcdn v n=0 then v k else (v k).tdiv (sgc v n)
theorem gcdn_congr {u v:Ve}:∀ n,(∀ k,k<n→u k=v k)→gcdn u n=gcdn v n
  | 0,_=>rfl
  | n+1,h=>by rw [gcdn,gcdn,gcdn_congr n (fun k hk=>h k (by omega)),h n (by omega)]
theorem fst0_congr {u v:Ve}:∀ n,(∀ k,k<n→u k=v k)→fst0 u n=fst0 v n
  | 0,_=>rfl
  | n+1,h=>by rw [fst0,fst0,fst0_congr n (fun k hk=>h k (by omega)),h n (by omega)]
theorem prm_at {n:Nat} {u v:Ve} (h:∀ k,k<n→u k=v k) {k:Nat} (hk:k<n):prm n u k=prm n v k:=by
  unfold prm sgc
  rw [gcdn_congr n h,fst0_congr n h,h k hk]
theorem gcdn_smul (s:Int) (u:Ve):∀ n,gcdn (fun k=>s*u k) n=s.natAbs*gcdn u n
  | 0=>by simp [gcdn]
  | n+1=>by rw [gcdn,gcdn_smul s u n,Int.natAbs_mul,Nat.gcd_mul_left,gcdn]
theorem fst0_smul {s:Int} (hs:s≠0) (u:Ve):∀ n,fst0 (fun k=>s*u k) n=s*fst0 u n
  | 0=>by simp [fst0]
  | n+1=>by
    rw [fst0,fst0_smul hs u n,fst0]
    by_cases h:fst0 u n=0
    · rw [if_pos (by rw [h];simp),if_pos h]
    · rw [if_neg (fun h'=>by rcases Int.mul_eq_zero.1 h' with h2 | h2<;>contradiction),if_neg h]
theorem gcdn_dvd (v:Ve):∀ n k,k<n→(gcdn v n:Int) ∣ v k
  | n+1,k,h=>by
    rw [gcdn]
    by_cases hk:k=n
    · subst hk
      exact Int.dvd_natAbs.1 (Int.ofNat_dvd.2 (Nat.gcd_dvd_right _ _))
    · exact Int.dvd_trans (Int.ofNat_dvd.2 (Nat.gcd_dvd_left _ _)) (gcdn_dvd v n k (by omega))
theorem gcdn_zero {v:Ve} {n:Nat} (h:gcdn v n=0) {k:Nat} (hk:k<n):v k=0:=by
  have:=gcdn_dvd v n k hk
  rw [h] at this
  exact Int.zero_dvd.1 this
theorem sgc_dvd (v:Ve) (n:Nat) {k:Nat} (hk:k<n):sgc v n ∣ v k:=by
  unfold sgc
  split
  · exact Int.neg_dvd.2 (gcdn_dvd v n k hk)
  · exact gcdn_dvd v n k hk
theorem sgc_0 {v:Ve} {n:Nat} (h:gcdn v n≠0):sgc v n≠0:=by unfold sgc;split<;>omega
theorem fst0_gcd {v:Ve}:∀ n,fst0 v n=0↔gcdn v n=0
  | 0=>by simp [fst0,gcdn]
  | n+1=>by
    rw [fst0,gcdn,Nat.gcd_eq_zero_iff,← fst0_gcd n]
    by_cases h:fst0 v n=0
    · rw [if_pos h];simp [h]
    · rw [if_neg h];simp [h]
theorem prm_mul (n:Nat) (v:Ve):∃ s:Int,s≠0∧∀ k,k<n→v k=s*prm n v k:=by
  by_cases h:gcdn v n=0
  · exact ⟨1,by decide,fun k hk=>by unfold prm;rw [if_pos h];omega⟩
  · exact ⟨sgc v n,sgc_0 h,fun k hk=>by unfold prm;rw [if_neg h,Int.mul_tdiv_cancel' (sgc_dvd v n hk)]⟩
theorem prm_smul {s:Int} (hs:s≠0) (u:Ve) {n k:Nat} (hk:k<n):prm n (fun k=>s*u k) k=prm n u k:=by
  unfold prm
  rw [gcdn_smul]
  by_cases h:gcdn u n=0
  · rw [if_pos (by rw [h];simp),if_pos h];show s*u k=u k;rw [gcdn_zero h hk];simp
  · rw [if_neg (fun h'=>by rcases Nat.mul_eq_zero.1 h' with h2 | h2<;>omega),if_neg h]
    have h0:fst0 u n≠0:=fun h'=>h ((fst0_gcd n).1 h')
    have e:sgc (fun k=>s*u k) n=s*sgc u n:=by
      unfold sgc
      rw [gcdn_smul,fst0_smul hs]
      rcases Int.lt_or_gt_of_ne hs with h1 | h1
      · rcases Int.lt_or_gt_of_ne h0 with h2 | h2
        · have:=Int.mul_pos_of_neg_of_neg h1 h2
          rw [if_neg (by omega),if_pos h2]
          have:((s.natAbs*gcdn u n:Nat):Int) = -s*gcdn u n:=by rw [Int.natCast_mul];congr 1;omega
          rw [this];grind
        · have:=Int.mul_neg_of_neg_of_pos h1 h2
          rw [if_pos this,if_neg (by omega)]
          have:((s.natAbs*gcdn u n:Nat):Int) = -s*gcdn u n:=by rw [Int.natCast_mul];congr 1;omega
          rw [this];grind
      · have e1:((s.natAbs*gcdn u n:Nat):Int)=s*gcdn u n:=by rw [Int.natCast_mul];congr 1;omega
        rcases Int.lt_or_gt_of_ne h0 with h2 | h2
        · have:=Int.mul_neg_of_pos_of_neg h1 h2
          rw [if_pos this,if_pos h2,e1];grind
        · have:=Int.mul_pos h1 h2
          rw [if_neg (by omega),if_neg (by omega),e1]
    rw [e]
    obtain ⟨q,hq⟩:=sgc_dvd u n hk
    show (s*u k).tdiv _=_
    rw [hq,Int.mul_tdiv_cancel_left _ (sgc_0 h),← Int.mul_assoc,Int.mul_tdiv_cancel_left _ (fun h'=>by rcases Int.mul_eq_zero.1 h' with h2 | h2;exact hs h2;exact sgc_0 h h2)]
theorem prm_eq {n:Nat} {u v:Ve} {s t:Int} (hs:s≠0) (ht:t≠0) (h:∀ k,k<n→s*u k=t*v k) {k:Nat} (hk:k<n):prm n u k=prm n v k:=by
  rw [← prm_smul hs u hk,← prm_smul ht v hk]
  exact prm_at h hk
theorem prm_zero {n:Nat} {v:Ve} {k:Nat} (hk:k<n):prm n v k=0↔v k=0:=by
  obtain ⟨s,h1,h2⟩:=prm_mul n v
  rw [h2 k hk]
  constructor
  · intro h;rw [h];simp
  · intro h;rcases Int.mul_eq_zero.1 h with h | h
    · exact absurd h h1
    · exact h
theorem mul_abs_le {s x:Int} (hs:s≠0):x*x≤s*x*(s*x):=by
  have h1:1≤s*s:=by
    rcases Int.lt_or_gt_of_ne hs with h | h
    · have:=Int.mul_le_mul (show 1≤-s by omega) (show 1≤-s by omega) (by omega) (by omega)
      rw [Int.neg_mul_neg] at this;omega
    · have:=Int.mul_le_mul (show 1≤s by omega) (show 1≤s by omega) (by omega) (by omega)
      omega
  have h2:=Int.mul_le_mul_of_nonneg_right h1 (mul_self_nn x)
  have e:s*x*(s*x)=s*s*(x*x):=by grind
  rw [e];omega
theorem prm_sq {n:Nat} {v:Ve} {k:Nat} (hk:k<n):prm n v k*prm n v k≤v k*v k:=by
  obtain ⟨s,h1,h2⟩:=prm_mul n v
  rw [h2 k hk]
  exact mul_abs_le h1
def wo (a row:Ve) (j:Nat):Ve:=fun k=>a k*(row j).tdiv (Int.gcd (a j) (row j)) - row k*(a j).tdiv (Int.gcd (a j) (row j))
theorem wo_mul (a row:Ve) (j k:Nat):(Int.gcd (a j) (row j):Int)*wo a row j k=a k*row j - row k*a j:=by
  unfold wo
  obtain ⟨x,hx⟩:=Int.gcd_dvd_left (a j) (row j)
  obtain ⟨y,hy⟩:=Int.gcd_dvd_right (a j) (row j)
  generalize (Int.gcd (a j) (row j):Int)=g at hx hy
  by_cases hg:g=0
  · subst hg
    rw [hx,hy];simp
  · rw [hx,hy,Int.mul_tdiv_cancel_left _ hg,Int.mul_tdiv_cancel_left _ hg]
    grind
theorem step_prm {n:Nat} {u v w:Ve} {d:Int} {c:Nat} (hd:d≠0) (hc:c<n) (hx:v c≠0) (h:∀ k,k<n→d*w k=v c*u k - u c*v k) {k:Nat} (hk:k<n) :
    prm n w k=(if prm n u c=0 then prm n u k else prm n (wo (prm n u) (prm n v) c) k) ∧
    (∀ k,k<n→wo (prm n u) (prm n v) c k*wo (prm n u) (prm n v) c k≤d*w k*(d*w k)):=by
  obtain ⟨s,s1,s2⟩:=prm_mul n u
  obtain ⟨t,t1,t2⟩:=prm_mul n v
  have hv:prm n v c≠0:=fun h'=>hx ((prm_zero hc).1 h')
  have hg:(Int.gcd (prm n u c) (prm n v c):Int)≠0:=fun h'=>by
    have:Int.gcd (prm n u c) (prm n v c)=0:=by omega
    rw [Int.gcd_eq_zero_iff] at this;exact hv this.2
  have key:∀ k,k<n→d*w k=(s*t*Int.gcd (prm n u c) (prm n v c))*wo (prm n u) (prm n v) c k:=fun k hk=>by
    rw [h k hk,Int.mul_assoc,wo_mul,s2 k hk,s2 c hc,t2 k hk,t2 c hc]
    grind
  have hst:s*t*(Int.gcd (prm n u c) (prm n v c):Int)≠0:=fun h'=>by
    rcases Int.mul_eq_zero.1 h' with h2 | h2
    · rcases Int.mul_eq_zero.1 h2 with h3 | h3<;>contradiction
    · exact hg h2
  refine ⟨?_,fun k hk=>?_⟩
  · split
    · rename_i h0
      have hu:u c=0:=(prm_zero hc).1 h0
      have e1:=prm_eq (n:=n) (u:=w) (v:=u) hd hx (fun k hk=>by rw [h k hk,hu];omega) hk
      exact e1
    · exact prm_eq hd hst key hk
  · rw [key k hk]
    exact mul_abs_le hst
end Go.Proofs.YtkkjoghiigiokaaGreat.Had
namespace Go.Proofs.YtkkjoghiigiokaaGreat.Had
theorem tame_few {n m rmx:Nat} (h:n≤rmx):Tame n m rmx (fun c r _=>r≤c) where
  skip c r A _ hk _:=Nat.le_succ_of_le hk
  piv c r A q A' d hc hk _ _ _ _ _ _:=⟨Nat.succ_le_succ hk,by omega⟩
def rs (f:Nat→Int):Nat→Nat→Int
  | _,0=>0
  | lo,k+1=>f lo+rs f (lo+1) k
def Rel (n m:Nat) (a:Nat→Ve) (u:Nat→Int):Prop:=∀ k,k<n→rs (fun i=>u i*a i k) 0 m=0
end Go.Proofs.YtkkjoghiigiokaaGreat.Had
namespace Go.Proofs.YtkkjoghiigiokaaGreat.Had
def rv (x y:Int) (A B:Nat):Ve:=fun w=>if w=2*A then x else if w=2*A+1 then y else if w=2*B then -x else if w=2*B+1 then -y else 0
theorem sq16 {x:Int} (h:-4≤x∧x≤4):x*x≤16:=by
  have h1:=mul_self_nn (x - 4)
  have h3:=Int.mul_nonneg (show 0≤x+4 by omega) (show 0≤4 - x by omega)
  have e:(x+4)*(4 - x)=16 - x*x:=by grind
  omega
structure Bars (P nb:Nat) (A B:Nat→Nat) (px py:Nat→Int):Prop where
  P6:P≤6
  ok:∀ k,k<nb→A k<B k∧B k<P
  asc:∀ k,k+1<nb→A k<A (k+1)∨A k=A (k+1)∧B k<B (k+1)
  gx:∀ v,v<P→0≤px v∧px v≤4
  gy:∀ v,v<P→0≤py v∧py v≤4
  ne:∀ k,k<nb→px (A k)≠px (B k)∨py (A k)≠py (B k)
def rg (A B:Nat→Nat) (px py:Nat→Int) (k:Nat):Ve:=rv (px (A k) - px (B k)) (py (A k) - py (B k)) (A k) (B k)
def tr (M:Nat→Ve) (w:Nat):Ve:=fun k=>M k w
section
variable {P nb:Nat} {A B:Nat→Nat} {px py:Nat→Int}
theorem Bars.lt (h:Bars P nb A B px py):∀ d k,k+(d+1)<nb→A k<A (k+(d+1))∨A k=A (k+(d+1))∧B k<B (k+(d+1))
  | 0,k,hk=>h.asc k hk
  | d+1,k,hk=>by
    have h1:=h.lt d k (by omega)
    have h2:=h.asc (k+(d+1)) (by omega)
    rw [show k+(d+1)+1=k+(d+1+1) by omega] at h2
    omega
def inc (A B:Nat→Nat) (v k:Nat):Prop:=A k=v∨B k=v
instance (A B:Nat→Nat) (v k:Nat):Decidable (inc A B v k):=by unfold inc;exact inferInstance
def cnt (A B:Nat→Nat) (v:Nat):Nat→Nat
  | 0=>0
  | k+1=>cnt A B v k+if inc A B v k then 1 else 0
end
end Go.Proofs.YtkkjoghiigiokaaGreat.Had
namespace Go.Proofs.YtkkjoghiigiokaaGreat.Mach
open Go
set_option linter.unusedVariables false
set_option linter.unusedSimpArgs false
def GcS (x y:Int):St:=⟨[.p (.int .i64 x),.p (.int .i64 y)]++List.replicate 28 anyA,[],0⟩
def PvS (n:Nat) (v:Nat→Int) (g:Int) (i:Nat):St:=⟨[inD n v,.p .any,.p .any,.p (.int .i64 g),.p (.int .i64 i)]++List.replicate 63 anyA,[],0⟩
def PfS (n:Nat) (v:Nat→Int) (g f:Int) (i:Nat):St:=⟨[inD n v,.p .any,.p .any,.p (.int .i64 g),.p .any,.p (.int .i64 f),.p (.int .i64 i)]++List.replicate 61 anyA,[],0⟩
def PdS (n:Nat) (v:Nat→Int) (s:Int) (i:Nat) (h:Nat→Int):St:=⟨[inD n v,.p .any,.p .any,.p (.int .i64 s),.p .any,.p .any,.p .any,.ar 1 0 0 i,.p (.int .i64 i)]++List.replicate 59 anyA,[(0,iOb i h)],1⟩
theorem gsz (a b:Int) :
    zT Tryz.f354 [rg 1,rm [(1,oc [] (.p (.bool true))),(3,oc [] (.p (.bool true)))] 2,.dec false,rg 5,rg 5,.head] [.p (.int .i64 a),.p (.int .i64 b)] [] (GcS (a.natAbs:Int) (b.natAbs:Int)) =
    some (zf47,[zE 167 [.p (.int .i64 a),.p (.int .i64 (-9000000000000000000)),.p (.int .i64 9000000000000000000)] [] (.p (.bool true)),(AG (!!true)),(((!!true)=true)→ zE 167 [.p (.int .i64 b),.p (.int .i64 (-9000000000000000000)),.p (.int .i64 9000000000000000000)] [] (.p (.bool true))),(AG (!!true)),(((!true)=false)→ ((!!true)=true)),((bif !true then true else !true)=false),(ZLo (0 - a)),(ZHi (0 - a)),(ZLo (0 - b)),(ZHi (0 - b)),(((if true=true then if 0 - a>a then 0 - a else a else if 0 - a<a then 0 - a else a):Int)=(↑a.natAbs:Int)),(((if true=true then if 0 - b>b then 0 - b else b else if 0 - b<b then 0 - b else b):Int)=(↑b.natAbs:Int))]):=by kernel_rfl
theorem gst (x y:Int) :
    zM 0 [rg 2,.dec true,rg 4,rg 2,rg 2,.head] zf47 (GcS x y) [] 1 (GcS y (x % y)) =
    some (zf47,[((decide (y>0))=true),(IL 0 x),(IT 0 y),(AI y),(AI ((x % y)))]):=by kernel_rfl
theorem gse (x y:Int) :
    zP Tryz.f354 0 [rg 2,.dec false,rg 2] zf47 (GcS x y) [] 1 [] (.p (.int .i64 x)) =
    some [((decide (y>0))=false),(AI x)]:=by kernel_rfl
theorem clR (n:Nat) (v r:Nat→Int) :
    zS Tryz.f313 [rg 1,rm [(1,oc [(0,iOb n r)] (.ar 1 0 0 n))] 1] [inD n v] [64] [(0,iOb n r)] (.ar 1 0 0 n) =
    some [zE 353 [.p (.seq true 1 n (fun i=>[.int .i64 (v i)]))] [(0,⟨false,1,n,(fun i=>[.p (.int .i64 (r i))])⟩)] (.ar 1 0 0 n),(AN 0),(AN n),(AN 1),(NL n n),(AA n (fun i=>[.p (.int .i64 (r i))])),(AE n)]:=by kernel_rfl
theorem psz (n:Nat) (v:Nat→Int) :
    zT Tryz.f353 [rg 1,rg 1,rg 1,.head] [inD n v] [] (PvS n v 0 0) =
    some (zf69,[(AN n),(AP n (fun i=>[.int .i64 (v i)])),(AI 0),((0:Int)=(↑0:Int))]):=by kernel_rfl
theorem pst (n:Nat) (v:Nat→Int) (g g':Int) (i:Nat) :
    zM 0 [rg 4,.dec true,rm [(4,oc [] (.p (.bool true)))] 1,.dec false,rm [(5,oc [] (.p (.int .i64 g')))] 1,rg 3,.head] zf69 (PvS n v g i) [] 1 (PvS n v g' (i+1)) =
    some (zf69,zD [((decide ((↑i:Int)<(↑n:Int)))=true),(IL 0 (↑i:Int)),(IT (↑i:Int) (↑n:Int)),zE 167 [.p (.int .i64 (v i)),.p (.int .i64 (-9000000000000000000)),.p (.int .i64 9000000000000000000)] [] (.p (.bool true)),((!true)=false),zE 354 [.p (.int .i64 g),.p (.int .i64 (v i))] [] (.p (.int .i64 g')),(ZLo ((↑i:Int)+1)),(ZHi ((↑i:Int)+1)),(AN n),(AP n (fun i_1=>[.int .i64 (v i_1)])),(AI (g')),((((↑i:Int)+1):Int)=(↑(i+1):Int))] [0,1,2,3,4,1,2,5,6,7,8,9,10,11]):=by kernel_rfl
theorem ps0 (n:Nat) (v r:Nat→Int) (g:Int) (i:Nat) :
    zP Tryz.f353 0 [rg 4,.dec false,rg 2,.dec true,rg 4] zf69 (PvS n v g i) [256] 1 [(0,iOb n r)] (.ar 1 0 0 n) =
    some [((decide ((↑i:Int)<(↑n:Int)))=false),((g==0)=true),(NL 0 0),(NL ((0+n)*8) 140737488355328),(NL (0+n) 9223372036854775807),(AN 0),(((0+n):Nat)=n),(AN 1),(NL n (0+n)),(∀ i_1:Nat,(((i_1:Nat)<n)→(All []∧(([.p (.int .i64 (v i_1))]:List AV)=[.p (.int .i64 (r i_1))])))),(AE n)]:=by kernel_rfl
theorem ps1 (n:Nat) (v:Nat→Int) (g:Int) (i:Nat) :
    zM 0 [rg 4,.dec false,rg 2,.dec false,rg 1,rg 1,.head] zf69 (PvS n v g i) [] 1 (PfS n v g 0 0) =
    some (zf33,[((decide ((↑i:Int)<(↑n:Int)))=false),((g==0)=false),(AN n),(AP n (fun i_1=>[.int .i64 (v i_1)])),(AI g),(AI 0),((0:Int)=(↑0:Int))]):=by kernel_rfl
theorem psf (n:Nat) (v:Nat→Int) (g f:Int) (i:Nat) :
    zM 0 [rg 4,.dec true,rg 2,.dec false,rg 3,.head] zf33 (PfS n v g f i) [] 1 (PfS n v g f (i+1)) =
    some (zf33,[((decide ((↑i:Int)<(↑n:Int)))=true),((f==0)=false),(ZLo ((↑i:Int)+1)),(ZHi ((↑i:Int)+1)),(AN n),(AP n (fun i_1=>[.int .i64 (v i_1)])),(AI g),(AI f),((((↑i:Int)+1):Int)=(↑(i+1):Int))]):=by kernel_rfl
theorem psg (n:Nat) (v:Nat→Int) (g f:Int) (i:Nat) :
    zM 0 [rg 4,.dec true,rg 2,.dec true,rg 5,rg 3,.head] zf33 (PfS n v g f i) [] 1 (PfS n v g (v i) (i+1)) =
    some (zf33,[((decide ((↑i:Int)<(↑n:Int)))=true),((f==0)=true),(IL 0 (↑i:Int)),(IT (↑i:Int) (↑n:Int)),(ZLo ((↑i:Int)+1)),(ZHi ((↑i:Int)+1)),(AN n),(AP n (fun i_1=>[.int .i64 (v i_1)])),(AI g),(AI ((v i))),((((↑i:Int)+1):Int)=(↑(i+1):Int))]):=by kernel_rfl
theorem ps2 (n:Nat) (v h:Nat→Int) (g f:Int) (i:Nat) :
    zM 0 [rg 4,.dec false,rg 2,.dec true,rg 3,rg 2,rg 1,.head] zf33 (PfS n v g f i) [288] 1 (PdS n v (-g) 0 h) =
    some (zf28,[((decide ((↑i:Int)<(↑n:Int)))=false),((decide (f<0))=true),(ZLo (0 - g)),(ZHi (0 - g)),(AN n),(AP n (fun i_1=>[.int .i64 (v i_1)])),(((0 - g):Int)=(-g)),(AN 0),(AN 0),((0:Int)=(↑0:Int)),(AN 1),(NL 0 0),(∀ i_1:Nat,(((i_1:Nat)<0)→(All []∧(([.p (.int .i64 0)]:List AV)=[.p (.int .i64 (h i_1))]))))]):=by kernel_rfl
theorem ps3 (n:Nat) (v h:Nat→Int) (g f:Int) (i:Nat) :
    zM 0 [rg 4,.dec false,rg 2,.dec false,rg 2,rg 1,.head] zf33 (PfS n v g f i) [192] 1 (PdS n v g 0 h) =
    some (zf28,[((decide ((↑i:Int)<(↑n:Int)))=false),((decide (f<0))=false),(AN n),(AP n (fun i_1=>[.int .i64 (v i_1)])),(AI g),(AN 0),(AN 0),((0:Int)=(↑0:Int)),(AN 1),(NL 0 0),(∀ i_1:Nat,(((i_1:Nat)<0)→(All []∧(([.p (.int .i64 0)]:List AV)=[.p (.int .i64 (h i_1))]))))]):=by kernel_rfl
theorem psd (n:Nat) (v:Nat→Int) (s:Int) (i:Nat) (h h':Nat→Int) :
    zM 0 [rg 4,.dec true,rm [(6,oF)] 3,rg 3,.head] zf28 (PdS n v s i h) [385] 1 (PdS n v s (i+1) h') =
    some (zf28,[((decide ((↑i:Int)<(↑n:Int)))=true),(IL 0 (↑i:Int)),(IT (↑i:Int) (↑n:Int)),((s:Int)≠0),(NL 1 1),(NL i i),(NL ((i+1)*8) 140737488355328),(NL (i+1) 9223372036854775807),(ZLo ((↑i:Int)+1)),(ZHi ((↑i:Int)+1)),(AN n),(AP n (fun i_1=>[.int .i64 (v i_1)])),(AI s),(AN 0),(AN ((i+1))),((((↑i:Int)+1):Int)=(↑(i+1):Int)),(AN 1),(NL (i+1) (i+1)),(∀ i_1:Nat,(((i_1:Nat)<(i+1))→(All (cvtL false [(385,⟨false,1,(i+1),(fun i_2=>(if (i_2<i) then [.p (.int .i64 (h i_2))] else [.p (.int .i64 (IntKind.i64.wrap ((v i).tdiv s)))]))⟩),(353,⟨false,1,1,(fun i_2=>[.p (.int .i64 (IntKind.i64.wrap ((v i).tdiv s)))])⟩)] [385] 1 (if (i_1<i) then [.p (.int .i64 (h i_1))] else [.p (.int .i64 (IntKind.i64.wrap ((v i).tdiv s)))])).2∧(((cvtL false [(385,⟨false,1,(i+1),(fun i_2=>(if (i_2<i) then [.p (.int .i64 (h i_2))] else [.p (.int .i64 (IntKind.i64.wrap ((v i).tdiv s)))]))⟩),(353,⟨false,1,1,(fun i_2=>[.p (.int .i64 (IntKind.i64.wrap ((v i).tdiv s)))])⟩)] [385] 1 (if (i_1<i) then [.p (.int .i64 (h i_1))] else [.p (.int .i64 (IntKind.i64.wrap ((v i).tdiv s)))])).1:List AV)=[.p (.int .i64 (h' i_1))]))))]):=by kernel_rfl
theorem pse (n:Nat) (v:Nat→Int) (s:Int) (i:Nat) (h:Nat→Int) :
    zP Tryz.f353 0 [rg 4,.dec false,rg 2] zf28 (PdS n v s i h) [0] 1 [(0,iOb i h)] (.ar 1 0 0 i) =
    some [((decide ((↑i:Int)<(↑n:Int)))=false),(AN 0),(AN i),(AN 1),(NL i i),(AA i (fun i_1=>[.p (.int .i64 (h i_1))])),(AE i)]:=by kernel_rfl
theorem con_l1InG {x:Int} (h:x*x≤2 ^ 124):zE 167 [.p (.int .i64 x),.p (.int .i64 (-9000000000000000000)),.p (.int .i64 9000000000000000000)] [] (.p (.bool true)):=by
  have hb:=Had.sq_le (y:=2 ^ 62) (by decide) h
  have:=con_l1In x (-9000000000000000000) 9000000000000000000
  rwa [show inB x (-9000000000000000000) 9000000000000000000=true by simp [inB];omega] at this
theorem nat_sq {x:Int} (h:x*x≤2 ^ 124):x.natAbs≤2 ^ 62:=by
  have:=Had.sq_le (y:=2 ^ 62) (by decide) h
  omega
theorem sq_nat {x:Nat} (h:x≤2 ^ 62):(x:Int)*(x:Int)≤2 ^ 124:=by
  have:=Int.mul_le_mul (show (x:Int)≤2 ^ 62 by omega) (show (x:Int)≤2 ^ 62 by omega) (by omega) (by omega)
  exact this
theorem gcd_step (x y:Nat):Nat.gcd x y=Nat.gcd y (x % y):=by rw [Nat.gcd_comm,Nat.gcd_rec,Nat.gcd_comm]
theorem con_Gcd_s {a b:Int} (ha:a*a≤2 ^ 124) (hb:b*b≤2 ^ 124):zE 354 [.p (.int .i64 a),.p (.int .i64 b)] [] (.p (.int .i64 (Int.gcd a b:Nat))):=by
  have c1:=con_l1InG ha
  have c2:=con_l1InG hb
  have na:=nat_sq ha
  have nb:=nat_sq hb
  refine csZ Tryz.func354 (fun c hc=>?_)
  have lo:∀ m (x y:Nat),y≤m→x≤2 ^ 62→y≤2 ^ 62→Nat.gcd x y=Int.gcd a b→zR c 354 zf47 (GcS x y) (Post c [] (.p (.int .i64 (Int.gcd a b:Nat)))):=by
    intro m
    induction m with
    | zero =>
      intro x y hy hx _ hg
      obtain rfl:y=0:=by omega
      have e:x=Int.gcd a b:=by rw [← hg,Nat.gcd_zero_right]
      rw [← e]
      refine pkZ Tryz.func354 hc (gse x (0:Nat)) ?_
      and_intros
      all_goals (first | exact zN | rfl)
    | succ m ih =>
      intro x y hy hx hyb hg
      by_cases h0:y=0
      · subst h0
        have e:x=Int.gcd a b:=by rw [← hg,Nat.gcd_zero_right]
        rw [← e]
        refine pkZ Tryz.func354 hc (gse x (0:Nat)) ?_
        and_intros
        all_goals (first | exact zN | rfl)
      · have hm:x % y<y:=Nat.mod_lt _ (by omega)
        have hr:=ih y (x % y) (by omega) hyb (by omega) (by rw [← gcd_step];exact hg)
        rw [show ((x % y:Nat):Int)=(x:Int) % (y:Int) from rfl] at hr
        have hd:decide ((y:Int)>0)=true:=decide_eq_true (by omega)
        refine pcZ hc (gst x y) ?_ hr
        and_intros
        all_goals (first | exact zN | (exact hd))
  have hr:=lo _ a.natAbs b.natAbs (Nat.le_refl _) na nb rfl
  refine pcZ hc (gsz a b) ?_ hr
  and_intros
  all_goals (first | exact zH | (exact c1) | (intros;exact c2) | (intros;rfl) | (simp;done) | (simp only [if_true];split<;>omega))
theorem gcdn_le {v:Nat→Int}:∀ n,(∀ k,k<n→v k*v k≤2 ^ 124)→Had.gcdn v n≤2 ^ 62
  | 0,_=>Nat.zero_le _
  | n+1,h=>by
    have h1:=gcdn_le n (fun k hk=>h k (by omega))
    have h2:=nat_sq (h n (by omega))
    rw [Had.gcdn]
    by_cases h0:(v n).natAbs=0
    · rw [h0,Nat.gcd_zero_right];exact h1
    · exact Nat.le_trans (Nat.gcd_le_right _ (by omega)) h2
theorem tdiv_wrap {s x:Int} (hd:s ∣ x) (h0:s≠0) (h:x*x≤2 ^ 124):IntKind.wrap .i64 (x.tdiv s)=x.tdiv s:=by
  obtain ⟨q,rfl⟩:=hd
  rw [Int.mul_tdiv_cancel_left _ h0]
  have h1:=Int.le_trans (Had.mul_abs_le (x:=q) h0) h
  have:=Had.sq_le (y:=2 ^ 62) (by decide) h1
  exact wrap_in (by simp only [imin];omega) (by simp only [imax];omega)
theorem prm_t {n:Nat} {v:Nat→Int} (h:Had.gcdn v n≠0) (k:Nat):Had.prm n v k=(v k).tdiv (Had.sgc v n):=by unfold Had.prm;rw [if_neg h]
theorem prm_0 {n:Nat} {v:Nat→Int} (h:Had.gcdn v n=0) (k:Nat):Had.prm n v k=v k:=by unfold Had.prm;rw [if_pos h]
theorem con_Prim_s (n:Nat) (v:Nat→Int) (hn:n≤1000) (hv:∀ k,k<n→v k*v k≤2 ^ 124) :
    zE 353 [inD n v] [(0,iOb n (Had.prm n v))] (.ar 1 0 0 n):=by
  refine csZ Tryz.func353 (fun c hc=>?_)
  have hg:=gcdn_le n hv
  have l3:∀ d k,k+d=n→Had.gcdn v n≠0→zR c 353 zf28 (PdS n v (Had.sgc v n) k (Had.prm n v)) (Post c [(0,iOb n (Had.prm n v))] (.ar 1 0 0 n)):=by
    intro d
    induction d with
    | zero =>
      intro k hk h0
      obtain rfl:k=n:=by omega
      have hd:decide ((k:Int)<(k:Int))=false:=decide_eq_false (by omega)
      refine pkZ Tryz.func353 hc (pse k v (Had.sgc v k) k (Had.prm k v)) ?_
      and_intros
      all_goals (first | exact zN | (exact hd) | (intro t ht;simp [All];done))
    | succ d ih =>
      intro k hk h0
      have hd:decide ((k:Int)<(n:Int))=true:=decide_eq_true (by omega)
      have h1:=tdiv_wrap (Had.sgc_dvd v n (show k<n by omega)) (Had.sgc_0 h0) (hv k (by omega))
      have h3:=Had.sgc_0 h0
      refine pcZ hc (psd n v (Had.sgc v n) k (Had.prm n v) (Had.prm n v)) ?_ (ih (k+1) (by omega) h0)
      repeat' (first | exact aN | apply aI)
      all_goals (first | exact zN | (exact hd) | (exact h3) | (intro t ht;rw [h1,← prm_t h0 k];by_cases h':t<k;exact ⟨by simp [h',cvtL,cvt,tg,tru,All],by simp [h',cvtL,cvt,tg,tru]⟩;rw [show t=k by omega];exact ⟨by simp [cvtL,cvt,tg,tru,All],by simp [cvtL,cvt,tg,tru]⟩))
  have l2:∀ d i,i+d=n→Had.gcdn v n≠0→zR c 353 zf33 (PfS n v (Had.gcdn v n:Nat) (Had.fst0 v i) i) (Post c [(0,iOb n (Had.prm n v))] (.ar 1 0 0 n)):=by
    intro d
    induction d with
    | zero =>
      intro i hi h0
      obtain rfl:i=n:=by omega
      have hd:decide ((i:Int)<(i:Int))=false:=decide_eq_false (by omega)
      have hr:=l3 i 0 (by omega) h0
      by_cases hf:Had.fst0 v i<0
      · have hf':decide (Had.fst0 v i<0)=true:=decide_eq_true hf
        rw [show Had.sgc v i = -((Had.gcdn v i:Nat):Int) by unfold Had.sgc;rw [if_pos hf]] at hr
        refine pcZ hc (ps2 i v (Had.prm i v) (Had.gcdn v i:Nat) (Had.fst0 v i) i) ?_ hr
        and_intros
        iterate 2 all_goals (first | exact zN | (exact hd) | (exact hf') | (intro t ht;exact absurd ht (Nat.not_lt_zero _)) | (intro t ht;simp [All];done) | simp only [All])
      · have hf':decide (Had.fst0 v i<0)=false:=decide_eq_false hf
        rw [show Had.sgc v i=((Had.gcdn v i:Nat):Int) by unfold Had.sgc;rw [if_neg hf]] at hr
        refine pcZ hc (ps3 i v (Had.prm i v) (Had.gcdn v i:Nat) (Had.fst0 v i) i) ?_ hr
        and_intros
        iterate 2 all_goals (first | exact zN | (exact hd) | (exact hf') | (intro t ht;simp [All];done) | simp only [All])
    | succ d ih =>
      intro i hi h0
      have hd:decide ((i:Int)<(n:Int))=true:=decide_eq_true (by omega)
      have hr:=ih (i+1) (by omega) h0
      by_cases hf:Had.fst0 v i=0
      · have hf':(Had.fst0 v i==0)=true:=by simp [hf]
        rw [show Had.fst0 v (i+1)=v i by rw [Had.fst0,if_pos hf]] at hr
        refine pcZ hc (psg n v (Had.gcdn v n:Nat) (Had.fst0 v i) i) ?_ hr
        and_intros
        all_goals (first | exact zN | (exact hd) | (exact hf') | (intro t ht;simp [All];done))
      · have hf':(Had.fst0 v i==0)=false:=by simp [hf]
        rw [show Had.fst0 v (i+1)=Had.fst0 v i by rw [Had.fst0,if_neg hf]] at hr
        refine pcZ hc (psf n v (Had.gcdn v n:Nat) (Had.fst0 v i) i) ?_ hr
        and_intros
        all_goals (first | exact zN | (exact hd) | (exact hf') | (intro t ht;simp [All];done))
  have l1:∀ d i,i+d=n→zR c 353 zf69 (PvS n v (Had.gcdn v i:Nat) i) (Post c [(0,iOb n (Had.prm n v))] (.ar 1 0 0 n)):=by
    intro d
    induction d with
    | zero =>
      intro i hi
      obtain rfl:i=n:=by omega
      have hd:decide ((i:Int)<(i:Int))=false:=decide_eq_false (by omega)
      by_cases h0:Had.gcdn v i=0
      · have hz:(((Had.gcdn v i:Nat):Int)==0)=true:=by rw [h0];rfl
        refine pkZ Tryz.func353 hc (ps0 i v (Had.prm i v) (Had.gcdn v i:Nat) i) ?_
        repeat' (first | exact aN | apply aI)
        iterate 2 all_goals (first | exact zN | (exact hd) | (exact hz) | (intro t ht;refine ⟨True.intro,?_⟩;rw [prm_0 h0]) | (intro t ht;simp [All];done) | simp only [All])
      · have hz:(((Had.gcdn v i:Nat):Int)==0)=false:=by simp;omega
        refine pcZ hc (ps1 i v (Had.gcdn v i:Nat) i) ?_ (l2 i 0 (by omega) h0)
        and_intros
        all_goals (first | exact zN | (exact hd) | (exact hz) | (intro t ht;simp [All];done))
    | succ d ih =>
      intro i hi
      have hd:decide ((i:Int)<(n:Int))=true:=decide_eq_true (by omega)
      have cg:=con_l1InG (hv i (by omega))
      have cd:=con_Gcd_s (a:=(Had.gcdn v i:Nat)) (b:=v i) (sq_nat (gcdn_le i (fun k hk=>hv k (by omega)))) (hv i (by omega))
      rw [show Int.gcd ((Had.gcdn v i:Nat):Int) (v i)=Had.gcdn v (i+1) from rfl] at cd
      refine pcD hc (pst n v (Had.gcdn v i:Nat) (Had.gcdn v (i+1):Nat) i) ?_ (ih (i+1) (by omega))
      and_intros
      all_goals (first | exact zN | (exact hd) | (exact cg) | (exact cd) | (intro t ht;simp [All];done))
  refine pcZ hc (psz n v) ?_ (l1 n 0 (by omega))
  and_intros
  all_goals (first | exact zN | (intro t ht;simp [All];done))
theorem con_Clean (n:Nat) (v:Nat→Int) (hn:n≤1000) (hv:∀ k,k<n→v k*v k≤2 ^ 124) :
    zE 313 [inD n v] [(0,iOb n (Had.prm n v))] (.ar 1 0 0 n):=by
  have h:=con_Prim_s n v hn hv
  refine csZ Tryz.func313 (fun c hc=>?_)
  refine pkZ Tryz.func313 hc (clR n v (Had.prm n v)) ?_
  and_intros
  all_goals (first | exact zN | (exact h) | (intro t ht;simp [All];done))
def ssA2 (n:Nat) (C:Nat→T_IntS):AV:=.p (.seq true 1 n (fun i=>[.seq true 1 (C i).1 (fun s=>[.int .i64 ((C i).2 s)])]))
def ooOb (F m:Nat) (C:Nat→T_IntS):Ob:=⟨false,1,m,fun i=>[.ar 1 ⟨F,some i⟩ 0 (C i).1]⟩
def ffOb (m:Nat) (C:Nat→T_IntS):Ob:=⟨true,0,m,fun i=>[.p (.seq false 1 (C i).1 (fun s=>[.int .i64 ((C i).2 s)]))]⟩
def CLs (m:Nat) (C:Nat→T_IntS) (i:Nat):St:=⟨[.p .any,.p .any,.p .any,.ar 1 0 0 i,.p .any,.p .any,.p .any,ssA2 m C,.p (.int .i64 m),.p (.int .i64 i)]++List.replicate 10 anyA,[(0,ooOb 1 i C),(1,ffOb i C)],2⟩
def cM (n:Nat) (M:Nat→Nat→Int) (i:Nat):T_IntS:=(n,M i)
def mH (n m:Nat) (M:Nat→Nat→Int) (r:Nat) (p:Nat→Int):Hp:=[(0,ooOb 1 m (cM n M)),(1,ffOb m (cM n M)),(2,iOb r p)]
def R0 (n m:Nat) (M:Nat→Nat→Int) (r:Nat) (p:Nat→Int) (d:Int) (c:Nat):St :=
  ⟨[.p .any,.p (.int .i64 n),.p .any,.p .any,.p .any,.p .any,.p .any,.ar 1 0 0 m,.ar 1 2 0 r,.p (.int .i64 d),.p (.int .i64 c)]++List.replicate 121 anyA,mH n m M r p,3⟩
def R1 (n m:Nat) (M:Nat→Nat→Int) (r:Nat) (p:Nat→Int) (d:Int) (c i:Nat):St :=
  ⟨[.p .any,.p (.int .i64 n),.p .any,.p .any,.p .any,.p .any,.p .any,.ar 1 0 0 m,.ar 1 2 0 r,.p (.int .i64 d),.p (.int .i64 c),.p (.int .i64 r),.p (.int .i64 i)]++List.replicate 119 anyA,mH n m M r p,3⟩
def R2 (n m:Nat) (M:Nat→Nat→Int) (r:Nat) (p:Nat→Int) (d:Int) (c:Nat) (x:Int) (i:Nat):St :=
  ⟨[.p .any,.p (.int .i64 n),.p .any,.p .any,.p .any,.p .any,.p .any,.ar 1 0 0 m,.ar 1 2 0 r,.p (.int .i64 d),.p (.int .i64 c),.p (.int .i64 r),.p .any,.p (.int .i64 x)]++List.replicate 63 anyA++[.p (.int .i64 m),.p (.int .i64 i)]++List.replicate 53 anyA,mH n m M r p,3⟩
def R3 (n m:Nat) (M:Nat→Nat→Int) (r:Nat) (p:Nat→Int) (d:Int) (c:Nat) (x:Int) (i:Nat) (f:Int) (k:Nat):St :=
  ⟨[.p .any,.p (.int .i64 n),.p .any,.p .any,.p .any,.p .any,.p .any,.ar 1 0 0 m,.ar 1 2 0 r,.p (.int .i64 d),.p (.int .i64 c),.p (.int .i64 r),.p .any,.p (.int .i64 x),.p (.int .i64 i),.p (.int .i64 f)]++List.replicate 61 anyA++[.p (.int .i64 m),.p (.int .i64 i)]++List.replicate 12 anyA++[.p (.int .i64 n),.p (.int .i64 k)]++List.replicate 39 anyA,mH n m M r p,3⟩
def sI (r q:Nat):Nat→Nat:=Had.sw (fun i=>i) r q
def WoS (n:Nat) (a row:Nat→Int) (x y:Int) (i:Nat) (h:Nat→Int):St :=
  ⟨[inD n a,inD n row,.p .any,.p .any,.p .any,.p .any,.p .any,.p .any,.p (.int .i64 x),.p (.int .i64 y),.ar 1 0 0 i,.p (.int .i64 i)]++List.replicate 46 anyA,[(0,iOb i h)],1⟩
def Q0 (m:Nat) (C:Nat→T_IntS) (i:Nat) (D:Nat→T_IntS):St:=⟨[ssA2 m C,.p .any,.p .any,.p .any,.ar 1 0 0 i,.p (.int .i64 i)]++List.replicate 109 anyA,[(0,ooOb 1 i D),(1,ffOb i D)],2⟩
def Q1 (n m:Nat) (M:Nat→Nat→Int) (r:Nat) (p:Nat→Int) (c:Nat):St :=
  ⟨[.p .any,.p .any,.p .any,.p .any,.ar 1 0 0 m,.p .any,.ar 1 2 0 r,.p (.int .i64 c)]++List.replicate 107 anyA,mH n m M r p,3⟩
def Q2 (n m:Nat) (M:Nat→Nat→Int) (r:Nat) (p:Nat→Int) (c i:Nat):St :=
  ⟨[.p .any,.p .any,.p .any,.p .any,.ar 1 0 0 m,.p .any,.ar 1 2 0 r,.p (.int .i64 c),.p (.int .i64 i)]++List.replicate 106 anyA,mH n m M r p,3⟩
def Q3 (n m:Nat) (M:Nat→Nat→Int) (r:Nat) (p:Nat→Int) (c i:Nat):St :=
  ⟨[.p .any,.p .any,.p .any,.p .any,.ar 1 0 0 m,.p .any,.ar 1 2 0 r,.p (.int .i64 c),.p .any,.ar 1 ⟨1,some r⟩ 0 n,.p (.int .i64 i)]++List.replicate 104 anyA,mH n m M r p,3⟩
theorem cpz (m:Nat) (C:Nat→T_IntS) :
    zT Tryz.f355 [rg 1,rg 2,rg 3,.head] [ssA2 m C] [32] (CLs m C 0) =
    some (zf70,[(AN 0),(AN 0),(AN m),(AP m (fun i=>[.seq true 1 ((C i).1) (fun i_1=>[.int .i64 ((C i).2 i_1)])])),(AI ((↑m:Int))),((0:Int)=(↑0:Int)),(AN 1),(NL 0 0),(∀ i:Nat,(((i:Nat)<0)→(All []∧(([.p (.nil)]:List AV)=[.ar 1 ⟨1,some i⟩ 0 ((C i).1)])))),(AN 0)]):=by kernel_rfl
theorem cpt (m:Nat) (C:Nat→T_IntS) (i:Nat) :
    zM 0 [rg 1,.dec true,rg 3,rm [(2,oc [(0,iOb (C i).1 (C i).2)] (.ar 1 0 0 (C i).1))] 3,rg 2,.head] zf70 (CLs m C i) [258,.ins 1 i 194] 1 (CLs m C (i+1)) =
    some (zf70,[((decide ((↑i:Int)<(↑m:Int)))=true),(IL 0 (↑i:Int)),(IT (↑i:Int) (↑m:Int)),zE 165 [.p (.seq true 1 ((C i).1) (fun i_1=>[.int .i64 ((C i).2 i_1)]))] [(0,⟨false,1,((C i).1),(fun i_1=>[.p (.int .i64 ((C i).2 i_1))])⟩)] (.ar 1 0 0 ((C i).1)),(NL 1 1),(NL i i),(NL ((i+1)*24) 140737488355328),(NL (i+1) 9223372036854775807),(ZLo ((↑i:Int)+1)),(ZHi ((↑i:Int)+1)),(AN 0),(AN ((i+1))),(AN m),(AP m (fun i_1=>[.seq true 1 ((C i_1).1) (fun i_2=>[.int .i64 ((C i_1).2 i_2)])])),(AI ((↑m:Int))),((((↑i:Int)+1):Int)=(↑(i+1):Int)),(AN 1),(NL (i+1) (i+1)),(CV [(258,⟨false,1,(i+1),(fun i_2=>(if (i_2<i) then [.ar 1 ⟨1,some i_2⟩ 0 ((C i_2).1)] else [.ar 1 194 0 ((C i).1)]))⟩),(226,⟨false,1,1,(fun i_2=>[.ar 1 194 0 ((C i).1)])⟩),(194,⟨false,1,((C i).1),(fun i_2=>[.p (.int .i64 ((C i).2 i_2))])⟩),(1,⟨true,0,i,(fun i_2=>[.p (.seq false 1 ((C i_2).1) (fun i_3=>[.int .i64 ((C i_2).2 i_3)]))])⟩)] [258,.ins 1 i 194] 1 (i+1) (fun i_1=>if (i_1<i) then [.ar 1 ⟨1,some i_1⟩ 0 ((C i_1).1)] else [.ar 1 194 0 ((C i).1)]) (fun i_1=>[.ar 1 ⟨1,some i_1⟩ 0 ((C i_1).1)])),(∀ i_1:Nat,(((i_1:Nat)<(i+1))→(((i_1:Nat)≠i)→(((i_1:Nat)<i)∧All [(AN 1),((((C i_1).1):Nat)≤((C i_1).1)),(AP (((C i_1).1)) (fun r=>[.int .i64 ((C i_1).2 r)]))])))),(((i:Nat)<(i+1))→ All [(AN 1),((((C i).1):Nat)≤((C i).1)),(AP (((C i).1)) (fun r=>[.int .i64 ((C i).2 r)]))])]):=by kernel_rfl
theorem cpe (m:Nat) (C:Nat→T_IntS) (i:Nat) :
    zP Tryz.f355 0 [rg 1,.dec false,rg 2] zf70 (CLs m C i) [0,1] 1 [(0,ooOb 1 i C),(1,ffOb i C)] (.ar 1 0 0 i) =
    some [((decide ((↑i:Int)<(↑m:Int)))=false),(AN 0),(AN i),(AN 1),(NL i i),(AA i (fun i_1=>[.ar 1 ⟨1,some i_1⟩ 0 ((C i_1).1)])),(NL i i),(∀ i_1:Nat,(((i_1:Nat)<i)→All [(AN 1),((((C i_1).1):Nat)≤((C i_1).1)),(AP (((C i_1).1)) (fun r=>[.int .i64 ((C i_1).2 r)]))])),(AE i),(∀ i_1:Nat,(((i_1:Nat)<i)→All [(false=false),(AE (((C i_1).1)))]))]:=by kernel_rfl
theorem rdz (n m:Nat) (M:Nat→Nat→Int) :
    zT Tryz.f317 [rg 3,rm [(1,oc [(0,ooOb 1 m (cM n M)),(1,ffOb m (cM n M))] (.ar 1 0 0 m))] 1,rg 2,rg 1,rg 1,.head] [ssA2 m (cM n M),.p (.int .i64 n)] [128,129,192] (R0 n m M 0 (fun _=>0) 1 0) =
    some (zf41,[zE 355 [.p (.seq true 1 m (fun i=>[.seq true 1 n (fun i_1=>[.int .i64 ((cM n M i).2 i_1)])]))] [(0,⟨false,1,m,(fun i=>[.ar 1 ⟨1,some i⟩ 0 n])⟩),(1,⟨true,0,m,(fun i=>[.p (.seq false 1 n (fun i_1=>[.int .i64 ((cM n M i).2 i_1)]))])⟩)] (.ar 1 0 0 m),(AI ((↑n:Int))),(AN 0),(AN m),(AN 0),(AN 0),(AI 1),((0:Int)=(↑0:Int)),(AN 1),(NL m m),(AA m (fun i=>[.ar 1 ⟨1,some i⟩ 0 n])),(NL m m),(∀ i:Nat,(((i:Nat)<m)→All [(AN 1),((n:Nat)≤n),(AP n (fun r=>[.int .i64 ((cM n M i).2 r)]))])),(AN 1),(NL 0 0),(AA 0 (fun i=>[.p (.int .i64 0)]))]):=by kernel_rfl
theorem rde (n m:Nat) (M:Nat→Nat→Int) (r:Nat) (p:Nat→Int) (d:Int) (c:Nat) :
    zP Tryz.f317 0 [rg 10,.dec false,rg 6] zf41 (R0 n m M r p d c) [0,1,2] 1 (mH n m M r p) (.tup [.ar 1 0 0 m,.ar 1 2 0 r,.p (.int .i64 d)]) =
    some (zD [(AG (decide ((↑c:Int)<(↑n:Int)))),((bif decide ((↑c:Int)<(↑n:Int)) then decide ((↑r:Int)<(↑m:Int)) else false)=false),(AN 0),(AN m),(AN r),(AI d),(AN 1),(NL m m),(AA m (fun i=>[.ar 1 ⟨1,some i⟩ 0 n])),(∀ i:Nat,(((i:Nat)<m)→All [(AN 1),((n:Nat)≤n),(AP n (fun r_1=>[.int .i64 ((cM n M i).2 r_1)]))])),(NL r r),(AA r (fun i=>[.p (.int .i64 (p i))])),(AE m),(∀ i:Nat,(((i:Nat)<m)→All [(false=false),(AE n)])),(AE r)] [0,0,0,0,0,1,2,3,2,4,5,6,7,8,7,9,6,10,11,12,13,14]):=by kernel_rfl
theorem rdb (n m:Nat) (M:Nat→Nat→Int) (r:Nat) (p:Nat→Int) (d:Int) (c:Nat) :
    zM 0 [rg 10,.dec true,rg 3,rg 2,.head] zf41 (R0 n m M r p d c) [0,1,2] 1 (R1 n m M r p d c r) =
    some (zf12,zD [(AG (decide ((↑c:Int)<(↑n:Int)))),((bif decide ((↑c:Int)<(↑n:Int)) then decide ((↑r:Int)<(↑m:Int)) else false)=true),(AI ((↑n:Int))),(AN 0),(AN m),(AN r),(AI d),(AI ((↑c:Int))),(AI ((↑r:Int))),(AN 1),(NL m m),(AA m (fun i=>[.ar 1 ⟨1,some i⟩ 0 n])),(∀ i:Nat,(((i:Nat)<m)→All [(AN 1),((n:Nat)≤n),(AP n (fun r_1=>[.int .i64 ((cM n M i).2 r_1)]))])),(NL r r),(AA r (fun i=>[.p (.int .i64 (p i))]))] [0,0,0,0,0,1,2,3,4,3,5,6,7,8,8,9,10,11,10,12,9,13,14]):=by kernel_rfl
theorem rds (n m:Nat) (M:Nat→Nat→Int) (r:Nat) (p:Nat→Int) (d:Int) (c i:Nat) :
    zM 0 [rg 14,.dec true,rg 3,.head] zf12 (R1 n m M r p d c i) [0,1,2] 1 (R1 n m M r p d c (i+1)) =
    some (zf12,zD [(AG (decide ((↑i:Int)<(↑m:Int)))),(((decide ((↑i:Int)<(↑m:Int)))=true)→(IL 0 (↑i:Int))),(((decide ((↑i:Int)<(↑m:Int)))=true)→(IT (↑i:Int) (↑m:Int))),(((decide ((↑i:Int)<(↑m:Int)))=true)→(NT i m)),(((decide ((↑i:Int)<(↑m:Int)))=true)→(IL 0 (↑c:Int))),(((decide ((↑i:Int)<(↑m:Int)))=true)→(IT (↑c:Int) (↑n:Int))),(((decide ((↑i:Int)<(↑m:Int)))=true)→(NT c n)),((bif decide ((↑i:Int)<(↑m:Int)) then (cM n M i).2 c==0 else false)=true),(ZLo ((↑i:Int)+1)),(ZHi ((↑i:Int)+1)),(AI ((↑n:Int))),(AN 0),(AN m),(AN r),(AI d),(AI ((↑c:Int))),(AI ((↑r:Int))),((((↑i:Int)+1):Int)=(↑(i+1):Int)),(AN 1),(NL m m),(AA m (fun i_1=>[.ar 1 ⟨1,some i_1⟩ 0 n])),(∀ i_1:Nat,(((i_1:Nat)<m)→All [(AN 1),((n:Nat)≤n),(AP n (fun r_1=>[.int .i64 ((cM n M i_1).2 r_1)]))])),(NL r r),(AA r (fun i_1=>[.p (.int .i64 (p i_1))]))] [0,0,1,2,0,3,0,0,4,5,0,3,6,0,0,7,8,9,10,11,12,11,13,14,15,16,17,18,19,20,19,21,18,22,23]):=by kernel_rfl
theorem rdn (n m:Nat) (M:Nat→Nat→Int) (r:Nat) (p:Nat→Int) (d:Int) (c i:Nat) :
    zM 0 [rg 14,.dec false,rg 4,.dec true,rg 3,.head] zf12 (R1 n m M r p d c i) [0,1,2] 1 (R0 n m M r p d (c+1)) =
    some (zf41,zD [(AG (decide ((↑i:Int)<(↑m:Int)))),(((decide ((↑i:Int)<(↑m:Int)))=true)→(IL 0 (↑i:Int))),(((decide ((↑i:Int)<(↑m:Int)))=true)→(IT (↑i:Int) (↑m:Int))),(((decide ((↑i:Int)<(↑m:Int)))=true)→(NT i m)),(((decide ((↑i:Int)<(↑m:Int)))=true)→(IL 0 (↑c:Int))),(((decide ((↑i:Int)<(↑m:Int)))=true)→(IT (↑c:Int) (↑n:Int))),(((decide ((↑i:Int)<(↑m:Int)))=true)→(NT c n)),((bif decide ((↑i:Int)<(↑m:Int)) then (cM n M i).2 c==0 else false)=false),(((↑i:Int)==(↑m:Int))=true),(ZLo ((↑c:Int)+1)),(ZHi ((↑c:Int)+1)),(AI ((↑n:Int))),(AN 0),(AN m),(AN r),(AI d),((((↑c:Int)+1):Int)=(↑(c+1):Int)),(AN 1),(NL m m),(AA m (fun i_1=>[.ar 1 ⟨1,some i_1⟩ 0 n])),(∀ i_1:Nat,(((i_1:Nat)<m)→All [(AN 1),((n:Nat)≤n),(AP n (fun r_1=>[.int .i64 ((cM n M i_1).2 r_1)]))])),(NL r r),(AA r (fun i_1=>[.p (.int .i64 (p i_1))]))] [0,0,1,2,0,3,0,0,4,5,0,3,6,0,0,7,8,9,10,11,12,13,12,14,15,16,17,18,19,18,20,17,21,22]):=by kernel_rfl
theorem rdp (n m:Nat) (M:Nat→Nat→Int) (r:Nat) (p:Nat→Int) (d:Int) (c q:Nat) :
    zM 0 [rg 14,.dec false,rg 4,.dec false,rg 16,.head] zf12 (R1 n m M r p d c q) [0,.perm 1 (sI r q) (sI r q),2] 1 (R1 n m (Had.sw M r q) r p d c q) =
    some (zf16,zD [(AG (decide ((↑q:Int)<(↑m:Int)))),(((decide ((↑q:Int)<(↑m:Int)))=true)→(IL 0 (↑q:Int))),(((decide ((↑q:Int)<(↑m:Int)))=true)→(IT (↑q:Int) (↑m:Int))),(((decide ((↑q:Int)<(↑m:Int)))=true)→(NT q m)),(((decide ((↑q:Int)<(↑m:Int)))=true)→(IL 0 (↑c:Int))),(((decide ((↑q:Int)<(↑m:Int)))=true)→(IT (↑c:Int) (↑n:Int))),(((decide ((↑q:Int)<(↑m:Int)))=true)→(NT c n)),((bif decide ((↑q:Int)<(↑m:Int)) then (cM n M q).2 c==0 else false)=false),(((↑q:Int)==(↑m:Int))=false),(IL 0 (↑q:Int)),(IT (↑q:Int) (↑m:Int)),(NT q m),(IL 0 (↑r:Int)),(IT (↑r:Int) (↑m:Int)),(NT r m),((false=true)→ ((m:Nat)=1)),(AI ((↑n:Int))),(AN 0),(AN m),(AN r),(AI d),(AI ((↑c:Int))),(AI ((↑r:Int))),(AI ((↑q:Int))),(AN 1),(NL m m),(∀ i:Nat,(((i:Nat)<m)→(All (cvtL false [(0,⟨false,1,m,(fun i_1=>(if (i_1=q) then [.ar 1 ⟨1,some r⟩ 0 n] else (if (i_1=r) then [.ar 1 ⟨1,some q⟩ 0 n] else [.ar 1 ⟨1,some i_1⟩ 0 n])))⟩),(1,⟨true,0,m,(fun i_1=>[.p (.seq false 1 n (fun i_2=>[.int .i64 ((cM n M i_1).2 i_2)]))])⟩),(2,⟨false,1,r,(fun i_1=>[.p (.int .i64 (p i_1))])⟩)] [0,.perm 1 (sI r q) (sI r q),2] 1 (if (i=q) then [.ar 1 ⟨1,some r⟩ 0 n] else (if (i=r) then [.ar 1 ⟨1,some q⟩ 0 n] else [.ar 1 ⟨1,some i⟩ 0 n]))).2∧(((cvtL false [(0,⟨false,1,m,(fun i_1=>(if (i_1=q) then [.ar 1 ⟨1,some r⟩ 0 n] else (if (i_1=r) then [.ar 1 ⟨1,some q⟩ 0 n] else [.ar 1 ⟨1,some i_1⟩ 0 n])))⟩),(1,⟨true,0,m,(fun i_1=>[.p (.seq false 1 n (fun i_2=>[.int .i64 ((cM n M i_1).2 i_2)]))])⟩),(2,⟨false,1,r,(fun i_1=>[.p (.int .i64 (p i_1))])⟩)] [0,.perm 1 (sI r q) (sI r q),2] 1 (if (i=q) then [.ar 1 ⟨1,some r⟩ 0 n] else (if (i=r) then [.ar 1 ⟨1,some q⟩ 0 n] else [.ar 1 ⟨1,some i⟩ 0 n]))).1:List AV)=[.ar 1 ⟨1,some i⟩ 0 n])))),(∀ i:Nat,(((i:Nat)<m)→((((sI r q i):Nat)<m)∧((((sI r q (sI r q i)):Nat)=i)∧All [(AN 1),((n:Nat)≤n),(∀ r_1:Nat,(((r_1:Nat)<n)→(([.int .i64 ((cM n M (sI r q i)).2 r_1)]:List PV)=[.int .i64 ((cM n (Had.sw M r q) i).2 r_1)])))])))),(NL r r),(AA r (fun i=>[.p (.int .i64 (p i))]))] [0,0,1,2,0,3,0,0,4,5,0,3,6,0,0,7,8,9,10,11,12,13,14,12,13,14,15,9,10,11,15,16,17,18,17,19,20,21,22,23,24,25,26,27,24,28,29]):=by kernel_rfl
theorem rdq (n m:Nat) (M:Nat→Nat→Int) (r:Nat) (p:Nat→Int) (d:Int) (c q:Nat) :
    zM 0 [rg 8,rg 3,.head] zf16 (R1 n m M r p d c q) [0,1,2] 1 (R2 n m M r p d c (M r c) 0) =
    some (zf5,[(IL 0 (↑r:Int)),(IT (↑r:Int) (↑m:Int)),(NT r m),(IL 0 (↑c:Int)),(IT (↑c:Int) (↑n:Int)),(NT r m),(NT c n),(AI ((↑n:Int))),(AN 0),(AN m),(AN 0),(AN r),(AI d),(AI ((↑c:Int))),(AI ((↑r:Int))),((((cM n M r).2 c):Int)=(M r c)),(AI ((↑m:Int))),((0:Int)=(↑0:Int)),(AN 1),(NL m m),(AA m (fun i=>[.ar 1 ⟨1,some i⟩ 0 n])),(NL m m),(∀ i:Nat,(((i:Nat)<m)→All [(AN 1),((n:Nat)≤n),(AP n (fun r_1=>[.int .i64 ((cM n M i).2 r_1)]))])),(AN 1),(NL r r),(AA r (fun i=>[.p (.int .i64 (p i))]))]):=by kernel_rfl
theorem rdr (n m:Nat) (M M':Nat→Nat→Int) (r:Nat) (p:Nat→Int) (d:Int) (c:Nat) (x:Int) (i:Nat) :
    zM 0 [rg 1,.dec true,rg 2,rg 3,.dec true,rg 2,.head] zf5 (R2 n m M r p d c x i) [0,1,2] 1 (R2 n m M' r p d c x (i+1)) =
    some (zf5,[((decide ((↑i:Int)<(↑m:Int)))=true),(((↑i:Int)==(↑r:Int))=true),(ZLo ((↑i:Int)+1)),(ZHi ((↑i:Int)+1)),(AI ((↑n:Int))),(AN 0),(AN m),(AN 0),(AN r),(AI d),(AI ((↑c:Int))),(AI ((↑r:Int))),(AI x),(AI ((↑m:Int))),((((↑i:Int)+1):Int)=(↑(i+1):Int)),(AN 1),(NL m m),(AA m (fun i_1=>[.ar 1 ⟨1,some i_1⟩ 0 n])),(NL m m),(∀ i_1:Nat,(((i_1:Nat)<m)→All [(AN 1),((n:Nat)≤n),(∀ r_1:Nat,(((r_1:Nat)<n)→(([.int .i64 ((cM n M i_1).2 r_1)]:List PV)=[.int .i64 ((cM n M' i_1).2 r_1)])))])),(AN 1),(NL r r),(AA r (fun i_1=>[.p (.int .i64 (p i_1))]))]):=by kernel_rfl
theorem rdi (n m:Nat) (M:Nat→Nat→Int) (r:Nat) (p:Nat→Int) (d:Int) (c:Nat) (x:Int) (i:Nat) :
    zM 0 [rg 1,.dec true,rg 2,rg 3,.dec false,rg 8,rg 2,.head] zf5 (R2 n m M r p d c x i) [0,1,2] 1 (R3 n m M r p d c x i (M i c) 0) =
    some (zf1,[((decide ((↑i:Int)<(↑m:Int)))=true),(((↑i:Int)==(↑r:Int))=false),(IL 0 (↑i:Int)),(IT (↑i:Int) (↑m:Int)),(NT i m),(IL 0 (↑c:Int)),(IT (↑c:Int) (↑n:Int)),(NT i m),(NT c n),(AI ((↑n:Int))),(AN 0),(AN m),(AN 0),(AN r),(AI d),(AI ((↑c:Int))),(AI ((↑r:Int))),(AI x),(AI ((↑i:Int))),((((cM n M i).2 c):Int)=(M i c)),(AI ((↑m:Int))),(AI ((↑i:Int))),(AI ((↑n:Int))),((0:Int)=(↑0:Int)),(AN 1),(NL m m),(AA m (fun i_1=>[.ar 1 ⟨1,some i_1⟩ 0 n])),(NL m m),(∀ i_1:Nat,(((i_1:Nat)<m)→All [(AN 1),((n:Nat)≤n),(AP n (fun r_1=>[.int .i64 ((cM n M i_1).2 r_1)]))])),(AN 1),(NL r r),(AA r (fun i_1=>[.p (.int .i64 (p i_1))]))]):=by kernel_rfl
theorem rdk (n m:Nat) (M M':Nat→Nat→Int) (r:Nat) (p:Nat→Int) (d:Int) (c:Nat) (x:Int) (i:Nat) (f:Int) (k:Nat) :
    zM 0 [rg 1,.dec true,rg 2,rm [(13,oF),(8,oF),(0,oF),(1,oF)] 2,rg 2,.head] zf1 (R3 n m M r p d c x i f k) [0,1,2] 1 (R3 n m M' r p d c x i f (k+1)) =
    some (zf1,zD [((decide ((↑k:Int)<(↑n:Int)))=true),(IL 0 (↑i:Int)),(IT (↑i:Int) (↑m:Int)),(NT i m),(IL 0 (↑k:Int)),(IT (↑k:Int) (↑n:Int)),(NT k n),(IL 0 (↑r:Int)),(IT (↑r:Int) (↑m:Int)),(NT r m),((d:Int)≠0),((false=true)→ ((n:Nat)=1)),(ZLo ((↑k:Int)+1)),(ZHi ((↑k:Int)+1)),(AI ((↑n:Int))),(AN 0),(AN m),(AN r),(AI d),(AI ((↑c:Int))),(AI ((↑r:Int))),(AI x),(AI ((↑i:Int))),(AI f),(AI ((↑m:Int))),((((↑k:Int)+1):Int)=(↑(k+1):Int)),(AN 1),(NL m m),(AA m (fun i_1=>[.ar 1 ⟨1,some i_1⟩ 0 n])),(∀ i_1:Nat,(((i_1:Nat)<m)→All (famE (if (i_1=i) then [.p (.seq false 1 n (fun i_2=>[(toP (List.getD ((if (i_2=k) then [.p (.int .i64 (IntKind.i64.wrap ((IntKind.i64.wrap (IntKind.i64.wrap (x*(cM n M i).2 k) - IntKind.i64.wrap (f*(cM n M r).2 k))).tdiv d)))] else [.p (.int .i64 ((cM n M i).2 i_2))]):List AV) 0 (.p .any)))]))] else [.p (.seq false 1 n (fun i_2=>[.int .i64 ((cM n M i_1).2 i_2)]))]) [.p (.seq false 1 n (fun i_2=>[.int .i64 ((cM n M' i_1).2 i_2)]))]))),(NL r r),(AA r (fun i_1=>[.p (.int .i64 (p i_1))]))] [0,1,2,3,1,2,3,4,5,3,6,7,8,9,4,5,9,6,10,4,5,3,6,11,12,13,14,15,16,15,17,18,19,20,21,22,23,24,22,14,25,26,27,28,27,29,26,30,31]):=by kernel_rfl
theorem rdx (n m:Nat) (M M':Nat→Nat→Int) (r:Nat) (p:Nat→Int) (d:Int) (c:Nat) (x:Int) (i:Nat) (f:Int) (k:Nat) :
    zM 0 [rg 1,.dec false,rg 2,.head] zf1 (R3 n m M r p d c x i f k) [0,1,2] 1 (R2 n m M' r p d c x (i+1)) =
    some (zf5,[((decide ((↑k:Int)<(↑n:Int)))=false),(ZLo ((↑i:Int)+1)),(ZHi ((↑i:Int)+1)),(AI ((↑n:Int))),(AN 0),(AN m),(AN 0),(AN r),(AI d),(AI ((↑c:Int))),(AI ((↑r:Int))),(AI x),(AI ((↑m:Int))),((((↑i:Int)+1):Int)=(↑(i+1):Int)),(AN 1),(NL m m),(AA m (fun i_1=>[.ar 1 ⟨1,some i_1⟩ 0 n])),(NL m m),(∀ i_1:Nat,(((i_1:Nat)<m)→All [(AN 1),((n:Nat)≤n),(∀ r_1:Nat,(((r_1:Nat)<n)→(([.int .i64 ((cM n M i_1).2 r_1)]:List PV)=[.int .i64 ((cM n M' i_1).2 r_1)])))])),(AN 1),(NL r r),(AA r (fun i_1=>[.p (.int .i64 (p i_1))]))]):=by kernel_rfl
theorem rdy (n m:Nat) (M M':Nat→Nat→Int) (r:Nat) (p p':Nat→Int) (d:Int) (c:Nat) (x:Int) (i:Nat) :
    zM 0 [rg 1,.dec false,rg 5,rg 2,rg 3,.head] zf5 (R2 n m M r p d c x i) [0,1,131] 1 (R0 n m M' (r+1) p' x (c+1)) =
    some (zf41,[((decide ((↑i:Int)<(↑m:Int)))=false),(NL 1 1),(NL r r),(NL ((r+1)*8) 140737488355328),(NL (r+1) 9223372036854775807),(ZLo ((↑c:Int)+1)),(ZHi ((↑c:Int)+1)),(AI ((↑n:Int))),(AN 0),(AN m),(AN 0),(AN ((r+1))),(AI x),((((↑c:Int)+1):Int)=(↑(c+1):Int)),(AN 1),(NL m m),(AA m (fun i_1=>[.ar 1 ⟨1,some i_1⟩ 0 n])),(NL m m),(∀ i_1:Nat,(((i_1:Nat)<m)→All [(AN 1),((n:Nat)≤n),(∀ r_1:Nat,(((r_1:Nat)<n)→(([.int .i64 ((cM n M i_1).2 r_1)]:List PV)=[.int .i64 ((cM n M' i_1).2 r_1)])))])),(AN 1),(NL (r+1) (r+1)),(∀ i_1:Nat,(((i_1:Nat)<(r+1))→(All (cvtL false [(131,⟨false,1,(r+1),(fun i_2=>(if (i_2<r) then [.p (.int .i64 (p i_2))] else [.p (.int .i64 (↑c:Int))]))⟩),(99,⟨false,1,1,(fun i_2=>[.p (.int .i64 (↑c:Int))])⟩),(0,⟨false,1,m,(fun i_2=>[.ar 1 ⟨1,some i_2⟩ 0 n])⟩),(1,⟨true,0,m,(fun i_2=>[.p (.seq false 1 n (fun i_3=>[.int .i64 ((cM n M i_2).2 i_3)]))])⟩)] [0,1,131] 1 (if (i_1<r) then [.p (.int .i64 (p i_1))] else [.p (.int .i64 (↑c:Int))])).2∧(((cvtL false [(131,⟨false,1,(r+1),(fun i_2=>(if (i_2<r) then [.p (.int .i64 (p i_2))] else [.p (.int .i64 (↑c:Int))]))⟩),(99,⟨false,1,1,(fun i_2=>[.p (.int .i64 (↑c:Int))])⟩),(0,⟨false,1,m,(fun i_2=>[.ar 1 ⟨1,some i_2⟩ 0 n])⟩),(1,⟨true,0,m,(fun i_2=>[.p (.seq false 1 n (fun i_3=>[.int .i64 ((cM n M i_2).2 i_3)]))])⟩)] [0,1,131] 1 (if (i_1<r) then [.p (.int .i64 (p i_1))] else [.p (.int .i64 (↑c:Int))])).1:List AV)=[.p (.int .i64 (p' i_1))]))))]):=by kernel_rfl
theorem wxz (n j:Nat) (a row:Nat→Int) (g x y:Int) (h:Nat→Int) :
    zT Tryz.f314 [rg 1,rm [(8,oc [] (.p (.int .i64 g)))] 1,rm [(5,oF)] 1,rm [(5,oF)] 1,rg 2,rg 1,.head] [inD n a,inD n row,.p (.int .i64 j)] [800] (WoS n a row x y 0 h) =
    some (zf34,zD [(IL 0 (↑j:Int)),(IT (↑j:Int) (↑n:Int)),zE 354 [.p (.int .i64 (a j)),.p (.int .i64 (row j))] [] (.p (.int .i64 g)),((g:Int)≠0),(AN n),(AP n (fun i=>[.int .i64 (a i)])),(AP n (fun i=>[.int .i64 (row i)])),(((IntKind.i64.wrap ((row j).tdiv g)):Int)=x),(((IntKind.i64.wrap ((a j).tdiv g)):Int)=y),(AN 0),((0:Int)=(↑0:Int)),(AN 1),(NL 0 0),(∀ i:Nat,(((i:Nat)<0)→(All []∧(([.p (.int .i64 0)]:List AV)=[.p (.int .i64 (h i))]))))] [0,1,0,1,2,0,1,3,0,1,3,4,5,4,6,7,8,9,9,10,11,12,13]):=by kernel_rfl
theorem wxt (n:Nat) (a row:Nat→Int) (x y:Int) (i:Nat) (h h':Nat→Int) :
    zM 0 [rg 4,.dec true,rm [(6,oF),(5,oF),(0,oF)] 3,rg 3,.head] zf34 (WoS n a row x y i h) [609] 1 (WoS n a row x y (i+1) h') =
    some (zf34,[((decide ((↑i:Int)<(↑n:Int)))=true),(IL 0 (↑i:Int)),(IT (↑i:Int) (↑n:Int)),(IL 0 (↑i:Int)),(IT (↑i:Int) (↑n:Int)),(NL 1 1),(NL i i),(NL ((i+1)*8) 140737488355328),(NL (i+1) 9223372036854775807),(ZLo ((↑i:Int)+1)),(ZHi ((↑i:Int)+1)),(AN n),(AP n (fun i_1=>[.int .i64 (a i_1)])),(AN n),(AP n (fun i_1=>[.int .i64 (row i_1)])),(AI x),(AI y),(AN 0),(AN ((i+1))),((((↑i:Int)+1):Int)=(↑(i+1):Int)),(AN 1),(NL (i+1) (i+1)),(∀ i_1:Nat,(((i_1:Nat)<(i+1))→(All (cvtL false [(609,⟨false,1,(i+1),(fun i_2=>(if (i_2<i) then [.p (.int .i64 (h i_2))] else [.p (.int .i64 (IntKind.i64.wrap (IntKind.i64.wrap (a i*x) - IntKind.i64.wrap (row i*y))))]))⟩),(577,⟨false,1,1,(fun i_2=>[.p (.int .i64 (IntKind.i64.wrap (IntKind.i64.wrap (a i*x) - IntKind.i64.wrap (row i*y))))])⟩)] [609] 1 (if (i_1<i) then [.p (.int .i64 (h i_1))] else [.p (.int .i64 (IntKind.i64.wrap (IntKind.i64.wrap (a i*x) - IntKind.i64.wrap (row i*y))))])).2∧(((cvtL false [(609,⟨false,1,(i+1),(fun i_2=>(if (i_2<i) then [.p (.int .i64 (h i_2))] else [.p (.int .i64 (IntKind.i64.wrap (IntKind.i64.wrap (a i*x) - IntKind.i64.wrap (row i*y))))]))⟩),(577,⟨false,1,1,(fun i_2=>[.p (.int .i64 (IntKind.i64.wrap (IntKind.i64.wrap (a i*x) - IntKind.i64.wrap (row i*y))))])⟩)] [609] 1 (if (i_1<i) then [.p (.int .i64 (h i_1))] else [.p (.int .i64 (IntKind.i64.wrap (IntKind.i64.wrap (a i*x) - IntKind.i64.wrap (row i*y))))])).1:List AV)=[.p (.int .i64 (h' i_1))]))))]):=by kernel_rfl
theorem wxe (n:Nat) (a row:Nat→Int) (x y:Int) (h r:Nat→Int) :
    zP Tryz.f314 0 [rg 4,.dec false,rm [(1,oc [(0,iOb n r)] (.ar 1 0 0 n))] 1] zf34 (WoS n a row x y n h) [161] 1 [(0,iOb n r)] (.ar 1 0 0 n) =
    some [((decide ((↑n:Int)<(↑n:Int)))=false),(AN 1),(NL n n),zE 313 [.p (.seq true 1 n (fun i=>[.int .i64 (h i)]))] [(0,⟨false,1,n,(fun i=>[.p (.int .i64 (r i))])⟩)] (.ar 1 0 0 n),(AN 0),(AN n),(AN 1),(NL n n),(AA n (fun i=>[.p (.int .i64 (r i))])),(AE n)]:=by kernel_rfl
theorem qza (m:Nat) (C D:Nat→T_IntS) :
    zT Tryz.f226 [rg 2,rg 2,rg 1,.head] [ssA2 m C] [64] (Q0 m C 0 D) =
    some (zf71,[(AN m),(AP m (fun i=>[.seq true 1 ((C i).1) (fun i_1=>[.int .i64 ((C i).2 i_1)])])),(AN 0),(AN 0),((0:Int)=(↑0:Int)),(AN 1),(NL 0 0),(∀ i:Nat,(((i:Nat)<0)→(All []∧(([.p (.nil)]:List AV)=[.ar 1 ⟨1,some i⟩ 0 ((D i).1)])))),(AN 0)]):=by kernel_rfl
theorem qzb (m:Nat) (C D:Nat→T_IntS) (i:Nat) :
    zM 0 [rg 4,.dec true,rm [(5,oc [(0,iOb (D i).1 (D i).2)] (.ar 1 0 0 (D i).1))] 3,rg 3,.head] zf71 (Q0 m C i D) [354,.ins 1 i 290] 1 (Q0 m C (i+1) D) =
    some (zf71,[((decide ((↑i:Int)<(↑m:Int)))=true),(IL 0 (↑i:Int)),(IT (↑i:Int) (↑m:Int)),zE 313 [.p (.seq true 1 ((C i).1) (fun i_1=>[.int .i64 ((C i).2 i_1)]))] [(0,⟨false,1,((D i).1),(fun i_1=>[.p (.int .i64 ((D i).2 i_1))])⟩)] (.ar 1 0 0 ((D i).1)),(NL 1 1),(NL i i),(NL ((i+1)*24) 140737488355328),(NL (i+1) 9223372036854775807),(ZLo ((↑i:Int)+1)),(ZHi ((↑i:Int)+1)),(AN m),(AP m (fun i_1=>[.seq true 1 ((C i_1).1) (fun i_2=>[.int .i64 ((C i_1).2 i_2)])])),(AN 0),(AN ((i+1))),((((↑i:Int)+1):Int)=(↑(i+1):Int)),(AN 1),(NL (i+1) (i+1)),(CV [(354,⟨false,1,(i+1),(fun i_2=>(if (i_2<i) then [.ar 1 ⟨1,some i_2⟩ 0 ((D i_2).1)] else [.ar 1 290 0 ((D i).1)]))⟩),(322,⟨false,1,1,(fun i_2=>[.ar 1 290 0 ((D i).1)])⟩),(290,⟨false,1,((D i).1),(fun i_2=>[.p (.int .i64 ((D i).2 i_2))])⟩),(1,⟨true,0,i,(fun i_2=>[.p (.seq false 1 ((D i_2).1) (fun i_3=>[.int .i64 ((D i_2).2 i_3)]))])⟩)] [354,.ins 1 i 290] 1 (i+1) (fun i_1=>if (i_1<i) then [.ar 1 ⟨1,some i_1⟩ 0 ((D i_1).1)] else [.ar 1 290 0 ((D i).1)]) (fun i_1=>[.ar 1 ⟨1,some i_1⟩ 0 ((D i_1).1)])),(∀ i_1:Nat,(((i_1:Nat)<(i+1))→(((i_1:Nat)≠i)→(((i_1:Nat)<i)∧All [(AN 1),((((D i_1).1):Nat)≤((D i_1).1)),(AP (((D i_1).1)) (fun r=>[.int .i64 ((D i_1).2 r)]))])))),(((i:Nat)<(i+1))→ All [(AN 1),((((D i).1):Nat)≤((D i).1)),(AP (((D i).1)) (fun r=>[.int .i64 ((D i).2 r)]))])]):=by kernel_rfl
theorem qzc (n m:Nat) (C:Nat→T_IntS) (M:Nat→Nat→Int) :
    zM 0 [rg 4,.dec false,rg 2,rg 1,.head] zf71 (Q0 m C m (cM n M)) [0,1,130] 1 (Q1 n m M 0 (fun _=>0) 0) =
    some (zf42,[((decide ((↑m:Int)<(↑m:Int)))=false),(AN 0),(AN m),(AN 0),(AN 0),((0:Int)=(↑0:Int)),(AN 1),(NL m m),(AA m (fun i=>[.ar 1 ⟨1,some i⟩ 0 n])),(NL m m),(∀ i:Nat,(((i:Nat)<m)→All [(AN 1),((n:Nat)≤n),(AP n (fun r=>[.int .i64 ((cM n M i).2 r)]))])),(AN 1),(NL 0 0),(AA 0 (fun i=>[.p (.int .i64 0)]))]):=by kernel_rfl
theorem qe (n m:Nat) (M:Nat→Nat→Int) (r:Nat) (p:Nat→Int) (c:Nat) :
    zP Tryz.f226 0 [rg 11,.dec false,rg 4] zf42 (Q1 n m M r p c) [0,1,2] 1 (mH n m M r p) (.tup [.ar 1 0 0 m,.ar 1 2 0 r]) =
    some (zD [(AG (decide ((↑m:Int)>0))),(((decide ((↑m:Int)>0))=true)→(IL 0 0)),(((decide ((↑m:Int)>0))=true)→(IT 0 (↑m:Int))),(((decide ((↑m:Int)>0))=true)→(NT 0 m)),((bif decide ((↑m:Int)>0) then decide ((↑c:Int)<(↑(cM n M (Int.toNat 0+0)).1:Int)) else false)=false),(AN 0),(AN m),(AN r),(AN 1),(NL m m),(AA m (fun i=>[.ar 1 ⟨1,some i⟩ 0 n])),(∀ i:Nat,(((i:Nat)<m)→All [(AN 1),((n:Nat)≤n),(AP n (fun r_1=>[.int .i64 ((cM n M i).2 r_1)]))])),(NL r r),(AA r (fun i=>[.p (.int .i64 (p i))])),(AE m),(∀ i:Nat,(((i:Nat)<m)→All [(false=false),(AE n)])),(AE r)] [0,1,2,0,3,0,0,0,0,4,5,6,5,7,8,9,10,9,11,8,12,13,14,15,16]):=by kernel_rfl
theorem qb (n m:Nat) (M:Nat→Nat→Int) (r:Nat) (p:Nat→Int) (c:Nat) :
    zM 0 [rg 11,.dec true,rg 3,.head] zf42 (Q1 n m M r p c) [0,1,2] 1 (Q2 n m M r p c r) =
    some (zf13,zD [(AG (decide ((↑m:Int)>0))),(((decide ((↑m:Int)>0))=true)→(IL 0 0)),(((decide ((↑m:Int)>0))=true)→(IT 0 (↑m:Int))),(((decide ((↑m:Int)>0))=true)→(NT 0 m)),((bif decide ((↑m:Int)>0) then decide ((↑c:Int)<(↑(cM n M (Int.toNat 0+0)).1:Int)) else false)=true),(AN 0),(AN m),(AN r),(AI ((↑c:Int))),(AI ((↑r:Int))),(AN 1),(NL m m),(AA m (fun i=>[.ar 1 ⟨1,some i⟩ 0 n])),(∀ i:Nat,(((i:Nat)<m)→All [(AN 1),((n:Nat)≤n),(AP n (fun r_1=>[.int .i64 ((cM n M i).2 r_1)]))])),(NL r r),(AA r (fun i=>[.p (.int .i64 (p i))]))] [0,1,2,0,3,0,0,0,0,4,5,6,5,7,8,9,10,11,12,11,13,10,14,15]):=by kernel_rfl
theorem qs (n m:Nat) (M:Nat→Nat→Int) (r:Nat) (p:Nat→Int) (c i:Nat) :
    zM 0 [rg 14,.dec true,rg 3,.head] zf13 (Q2 n m M r p c i) [0,1,2] 1 (Q2 n m M r p c (i+1)) =
    some (zf13,zD [(AG (decide ((↑i:Int)<(↑m:Int)))),(((decide ((↑i:Int)<(↑m:Int)))=true)→(IL 0 (↑i:Int))),(((decide ((↑i:Int)<(↑m:Int)))=true)→(IT (↑i:Int) (↑m:Int))),(((decide ((↑i:Int)<(↑m:Int)))=true)→(NT i m)),(((decide ((↑i:Int)<(↑m:Int)))=true)→(IL 0 (↑c:Int))),(((decide ((↑i:Int)<(↑m:Int)))=true)→(IT (↑c:Int) (↑n:Int))),(((decide ((↑i:Int)<(↑m:Int)))=true)→(NT c n)),((bif decide ((↑i:Int)<(↑m:Int)) then (cM n M i).2 c==0 else false)=true),(ZLo ((↑i:Int)+1)),(ZHi ((↑i:Int)+1)),(AN 0),(AN m),(AN r),(AI ((↑c:Int))),((((↑i:Int)+1):Int)=(↑(i+1):Int)),(AN 1),(NL m m),(AA m (fun i_1=>[.ar 1 ⟨1,some i_1⟩ 0 n])),(∀ i_1:Nat,(((i_1:Nat)<m)→All [(AN 1),((n:Nat)≤n),(AP n (fun r_1=>[.int .i64 ((cM n M i_1).2 r_1)]))])),(NL r r),(AA r (fun i_1=>[.p (.int .i64 (p i_1))]))] [0,0,1,2,0,3,0,0,4,5,0,3,6,0,0,7,8,9,10,11,10,12,13,14,15,16,17,16,18,15,19,20]):=by kernel_rfl
theorem qn (n m:Nat) (M:Nat→Nat→Int) (r:Nat) (p:Nat→Int) (c i:Nat) :
    zM 0 [rg 14,.dec false,rg 4,.dec true,rg 3,.head] zf13 (Q2 n m M r p c i) [0,1,2] 1 (Q1 n m M r p (c+1)) =
    some (zf42,zD [(AG (decide ((↑i:Int)<(↑m:Int)))),(((decide ((↑i:Int)<(↑m:Int)))=true)→(IL 0 (↑i:Int))),(((decide ((↑i:Int)<(↑m:Int)))=true)→(IT (↑i:Int) (↑m:Int))),(((decide ((↑i:Int)<(↑m:Int)))=true)→(NT i m)),(((decide ((↑i:Int)<(↑m:Int)))=true)→(IL 0 (↑c:Int))),(((decide ((↑i:Int)<(↑m:Int)))=true)→(IT (↑c:Int) (↑n:Int))),(((decide ((↑i:Int)<(↑m:Int)))=true)→(NT c n)),((bif decide ((↑i:Int)<(↑m:Int)) then (cM n M i).2 c==0 else false)=false),(((↑i:Int)==(↑m:Int))=true),(ZLo ((↑c:Int)+1)),(ZHi ((↑c:Int)+1)),(AN 0),(AN m),(AN r),((((↑c:Int)+1):Int)=(↑(c+1):Int)),(AN 1),(NL m m),(AA m (fun i_1=>[.ar 1 ⟨1,some i_1⟩ 0 n])),(∀ i_1:Nat,(((i_1:Nat)<m)→All [(AN 1),((n:Nat)≤n),(AP n (fun r_1=>[.int .i64 ((cM n M i_1).2 r_1)]))])),(NL r r),(AA r (fun i_1=>[.p (.int .i64 (p i_1))]))] [0,0,1,2,0,3,0,0,4,5,0,3,6,0,0,7,8,9,10,11,12,11,13,14,15,16,17,16,18,15,19,20]):=by kernel_rfl
theorem qp (n m:Nat) (M:Nat→Nat→Int) (r:Nat) (p:Nat→Int) (c q:Nat) :
    zM 0 [rg 14,.dec false,rg 4,.dec false,rg 5,rg 9,rg 6,rg 1,.head] zf13 (Q2 n m M r p c q) [0,.perm 1 (sI r q) (sI r q),2] 1 (Q3 n m (Had.sw M r q) r p c 0) =
    some (zf6,zD [(AG (decide ((↑q:Int)<(↑m:Int)))),(((decide ((↑q:Int)<(↑m:Int)))=true)→(IL 0 (↑q:Int))),(((decide ((↑q:Int)<(↑m:Int)))=true)→(IT (↑q:Int) (↑m:Int))),(((decide ((↑q:Int)<(↑m:Int)))=true)→(NT q m)),(((decide ((↑q:Int)<(↑m:Int)))=true)→(IL 0 (↑c:Int))),(((decide ((↑q:Int)<(↑m:Int)))=true)→(IT (↑c:Int) (↑n:Int))),(((decide ((↑q:Int)<(↑m:Int)))=true)→(NT c n)),((bif decide ((↑q:Int)<(↑m:Int)) then (cM n M q).2 c==0 else false)=false),(((↑q:Int)==(↑m:Int))=false),(IL 0 (↑q:Int)),(IT (↑q:Int) (↑m:Int)),(NT q m),(IL 0 (↑r:Int)),(IT (↑r:Int) (↑m:Int)),(NT r m),((false=true)→ ((m:Nat)=1)),(AN 0),(AN m),(AN r),(AI ((↑c:Int))),(((sI r q (sI r q q)):Nat)=q),(((sI r q q):Nat)=r),(AN n),((0:Int)=(↑0:Int)),(AN 1),(NL m m),(∀ i:Nat,(((i:Nat)<m)→(All (cvtL false [(0,⟨false,1,m,(fun i_1=>(if (i_1=r) then [.ar 1 ⟨1,some q⟩ 0 n] else (if (i_1=q) then [.ar 1 ⟨1,some r⟩ 0 n] else [.ar 1 ⟨1,some i_1⟩ 0 n])))⟩),(1,⟨true,0,m,(fun i_1=>[.p (.seq false 1 n (fun i_2=>[.int .i64 ((cM n M i_1).2 i_2)]))])⟩),(2,⟨false,1,r,(fun i_1=>[.p (.int .i64 (p i_1))])⟩)] [0,.perm 1 (sI r q) (sI r q),2] 1 (if (i=r) then [.ar 1 ⟨1,some q⟩ 0 n] else (if (i=q) then [.ar 1 ⟨1,some r⟩ 0 n] else [.ar 1 ⟨1,some i⟩ 0 n]))).2∧(((cvtL false [(0,⟨false,1,m,(fun i_1=>(if (i_1=r) then [.ar 1 ⟨1,some q⟩ 0 n] else (if (i_1=q) then [.ar 1 ⟨1,some r⟩ 0 n] else [.ar 1 ⟨1,some i_1⟩ 0 n])))⟩),(1,⟨true,0,m,(fun i_1=>[.p (.seq false 1 n (fun i_2=>[.int .i64 ((cM n M i_1).2 i_2)]))])⟩),(2,⟨false,1,r,(fun i_1=>[.p (.int .i64 (p i_1))])⟩)] [0,.perm 1 (sI r q) (sI r q),2] 1 (if (i=r) then [.ar 1 ⟨1,some q⟩ 0 n] else (if (i=q) then [.ar 1 ⟨1,some r⟩ 0 n] else [.ar 1 ⟨1,some i⟩ 0 n]))).1:List AV)=[.ar 1 ⟨1,some i⟩ 0 n])))),(∀ i:Nat,(((i:Nat)<m)→((((sI r q i):Nat)<m)∧((((sI r q (sI r q i)):Nat)=i)∧All [(AN 1),((n:Nat)≤n),(∀ r_1:Nat,(((r_1:Nat)<n)→(([.int .i64 ((cM n M (sI r q i)).2 r_1)]:List PV)=[.int .i64 ((cM n (Had.sw M r q) i).2 r_1)])))])))),(NL r r),(AA r (fun i=>[.p (.int .i64 (p i))]))] [0,0,1,2,0,3,0,0,4,5,0,3,6,0,0,7,8,9,10,11,12,13,14,9,10,11,15,12,13,14,15,16,17,16,18,19,20,21,16,22,23,24,25,26,27,24,28,29]):=by kernel_rfl
theorem qt (n m:Nat) (M M':Nat→Nat→Int) (r:Nat) (p:Nat→Int) (c i:Nat) (w:Nat→Int) :
    zM 0 [rg 4,.dec true,rg 14,.dec true,rm [(8,oc [(0,iOb n w)] (.ar 1 0 0 n))] 2,rg 3,.head] zf6 (Q3 n m M r p c i) [0,.ins 1 i 835,2] 1 (Q3 n m M' r p c (i+1)) =
    some (zf6,zD [((decide ((↑i:Int)<(↑m:Int)))=true),(AG ((↑i:Int) != (↑r:Int))),((((↑i:Int) != (↑r:Int))=true)→(IL 0 (↑i:Int))),((((↑i:Int) != (↑r:Int))=true)→(IT (↑i:Int) (↑m:Int))),((((↑i:Int) != (↑r:Int))=true)→(NT i m)),((((↑i:Int) != (↑r:Int))=true)→(IL 0 (↑c:Int))),((((↑i:Int) != (↑r:Int))=true)→(IT (↑c:Int) (↑n:Int))),((((↑i:Int) != (↑r:Int))=true)→(NT c n)),((bif (↑i:Int) != (↑r:Int) then (cM n M i).2 c != 0 else false)=true),(IL 0 (↑i:Int)),(IT (↑i:Int) (↑m:Int)),(NT i m),(AN 1),(NL n n),(NT r m),zE 314 [.p (.seq true 1 n (fun i_1=>[.int .i64 ((cM n M i).2 i_1)])),.p (.seq true 1 n (fun i_1=>[.int .i64 ((cM n M r).2 i_1)])),.p (.int .i64 (↑c:Int))] [(0,⟨false,1,n,(fun i_1=>[.p (.int .i64 (w i_1))])⟩)] (.ar 1 0 0 n),((false=true)→ ((m:Nat)=1)),(ZLo ((↑i:Int)+1)),(ZHi ((↑i:Int)+1)),(AN 0),(AN m),(AN r),(AI ((↑c:Int))),((r:Nat)≠i),(AN n),((((↑i:Int)+1):Int)=(↑(i+1):Int)),(NL m m),(CV [(0,⟨false,1,m,(fun i_2=>(if (i_2=i) then [.ar 1 835 0 n] else [.ar 1 ⟨1,some i_2⟩ 0 n]))⟩),(835,⟨false,1,n,(fun i_2=>[.p (.int .i64 (w i_2))])⟩),(1,⟨true,0,m,(fun i_2=>[.p (.seq false 1 n (fun i_3=>[.int .i64 ((cM n M i_2).2 i_3)]))])⟩),(2,⟨false,1,r,(fun i_2=>[.p (.int .i64 (p i_2))])⟩)] [0,.ins 1 i 835,2] 1 m (fun i_1=>if (i_1=i) then [.ar 1 835 0 n] else [.ar 1 ⟨1,some i_1⟩ 0 n]) (fun i_1=>[.ar 1 ⟨1,some i_1⟩ 0 n])),(∀ i_1:Nat,(((i_1:Nat)<m)→(((i_1:Nat)≠i)→(((i_1:Nat)<m)∧All [(AN 1),((n:Nat)≤n),(∀ r_1:Nat,(((r_1:Nat)<n)→(([.int .i64 ((cM n M i_1).2 r_1)]:List PV)=[.int .i64 ((cM n M' i_1).2 r_1)])))])))),(((i:Nat)<m)→ All [(AN 1),((n:Nat)≤n),(∀ r_1:Nat,(((r_1:Nat)<n)→(([.int .i64 (w r_1)]:List PV)=[.int .i64 ((cM n M' i).2 r_1)])))]),(NL r r),(AA r (fun i_1=>[.p (.int .i64 (p i_1))]))] [0,1,1,2,3,1,4,1,1,5,6,1,4,7,1,1,8,9,10,11,11,12,13,14,12,13,15,9,10,11,16,17,18,19,20,19,21,22,23,21,19,24,25,12,26,27,28,29,12,30,31]):=by kernel_rfl
theorem qf (n m:Nat) (M M':Nat→Nat→Int) (r:Nat) (p:Nat→Int) (c i:Nat) :
    zM 0 [rg 4,.dec true,rg 14,.dec false,rg 3,.head] zf6 (Q3 n m M r p c i) [0,1,2] 1 (Q3 n m M' r p c (i+1)) =
    some (zf6,zD [((decide ((↑i:Int)<(↑m:Int)))=true),(AG ((↑i:Int) != (↑r:Int))),((((↑i:Int) != (↑r:Int))=true)→(IL 0 (↑i:Int))),((((↑i:Int) != (↑r:Int))=true)→(IT (↑i:Int) (↑m:Int))),((((↑i:Int) != (↑r:Int))=true)→(NT i m)),((((↑i:Int) != (↑r:Int))=true)→(IL 0 (↑c:Int))),((((↑i:Int) != (↑r:Int))=true)→(IT (↑c:Int) (↑n:Int))),((((↑i:Int) != (↑r:Int))=true)→(NT c n)),((bif (↑i:Int) != (↑r:Int) then (cM n M i).2 c != 0 else false)=false),(ZLo ((↑i:Int)+1)),(ZHi ((↑i:Int)+1)),(AN 0),(AN m),(AN r),(AI ((↑c:Int))),(AN n),((((↑i:Int)+1):Int)=(↑(i+1):Int)),(AN 1),(NL m m),(AA m (fun i_1=>[.ar 1 ⟨1,some i_1⟩ 0 n])),(∀ i_1:Nat,(((i_1:Nat)<m)→All [(AN 1),((n:Nat)≤n),(∀ r_1:Nat,(((r_1:Nat)<n)→(([.int .i64 ((cM n M i_1).2 r_1)]:List PV)=[.int .i64 ((cM n M' i_1).2 r_1)])))])),(NL r r),(AA r (fun i_1=>[.p (.int .i64 (p i_1))]))] [0,1,1,2,3,1,4,1,1,5,6,1,4,7,1,1,8,9,10,11,12,11,13,14,13,11,15,16,17,18,19,18,20,17,21,22]):=by kernel_rfl
theorem qx (n m:Nat) (M M':Nat→Nat→Int) (r:Nat) (p p':Nat→Int) (c i:Nat) :
    zM 0 [rg 4,.dec false,rg 5,rg 3,.head] zf6 (Q3 n m M r p c i) [0,1,227] 1 (Q1 n m M' (r+1) p' (c+1)) =
    some (zf42,[((decide ((↑i:Int)<(↑m:Int)))=false),(NL 1 1),(NL r r),(NL ((r+1)*8) 140737488355328),(NL (r+1) 9223372036854775807),(ZLo ((↑c:Int)+1)),(ZHi ((↑c:Int)+1)),(AN 0),(AN m),(AN 0),(AN ((r+1))),((((↑c:Int)+1):Int)=(↑(c+1):Int)),(AN 1),(NL m m),(AA m (fun i_1=>[.ar 1 ⟨1,some i_1⟩ 0 n])),(NL m m),(∀ i_1:Nat,(((i_1:Nat)<m)→All [(AN 1),((n:Nat)≤n),(∀ r_1:Nat,(((r_1:Nat)<n)→(([.int .i64 ((cM n M i_1).2 r_1)]:List PV)=[.int .i64 ((cM n M' i_1).2 r_1)])))])),(AN 1),(NL (r+1) (r+1)),(∀ i_1:Nat,(((i_1:Nat)<(r+1))→(All (cvtL false [(227,⟨false,1,(r+1),(fun i_2=>(if (i_2<r) then [.p (.int .i64 (p i_2))] else [.p (.int .i64 (↑c:Int))]))⟩),(195,⟨false,1,1,(fun i_2=>[.p (.int .i64 (↑c:Int))])⟩),(0,⟨false,1,m,(fun i_2=>[.ar 1 ⟨1,some i_2⟩ 0 n])⟩),(1,⟨true,0,m,(fun i_2=>[.p (.seq false 1 n (fun i_3=>[.int .i64 ((cM n M i_2).2 i_3)]))])⟩)] [0,1,227] 1 (if (i_1<r) then [.p (.int .i64 (p i_1))] else [.p (.int .i64 (↑c:Int))])).2∧(((cvtL false [(227,⟨false,1,(r+1),(fun i_2=>(if (i_2<r) then [.p (.int .i64 (p i_2))] else [.p (.int .i64 (↑c:Int))]))⟩),(195,⟨false,1,1,(fun i_2=>[.p (.int .i64 (↑c:Int))])⟩),(0,⟨false,1,m,(fun i_2=>[.ar 1 ⟨1,some i_2⟩ 0 n])⟩),(1,⟨true,0,m,(fun i_2=>[.p (.seq false 1 n (fun i_3=>[.int .i64 ((cM n M i_2).2 i_3)]))])⟩)] [0,1,227] 1 (if (i_1<r) then [.p (.int .i64 (p i_1))] else [.p (.int .i64 (↑c:Int))])).1:List AV)=[.p (.int .i64 (p' i_1))]))))]):=by kernel_rfl
theorem con_copyLists (m:Nat) (C:Nat→T_IntS) (hm:m≤1000) (hC:∀ i,i<m→(C i).1≤1000):zE 355 [ssA2 m C] [(0,ooOb 1 m C),(1,ffOb m C)] (.ar 1 0 0 m):=by
  refine csZ Tryz.func355 (fun c hc=>?_)
  have lo:∀ d i,i+d=m→zR c 355 zf70 (CLs m C i) (Post c [(0,ooOb 1 m C),(1,ffOb m C)] (.ar 1 0 0 m)):=by
    intro d
    induction d with
    | zero =>
      intro i hi
      obtain rfl:i=m:=by omega
      have hd:decide ((i:Int)<(i:Int))=false:=decide_eq_false (by omega)
      refine pkZ Tryz.func355 hc (cpe i C i) ?_
      and_intros
      iterate 2 all_goals (first | exact zN | (exact hd) | (intro t ht;simp [All];done) | simp only [All])
    | succ d ih =>
      intro i hi
      have hd:decide ((i:Int)<(m:Int))=true:=decide_eq_true (by omega)
      have cc:=con_copyInts (C i).1 (C i).2 (by have:=hC i (by omega);omega)
      refine pcZ hc (cpt m C i) ?_ (ih (i+1) (by omega))
      repeat' (first | exact aN | apply aI)
      iterate 2 all_goals (first | exact zI | (exact hd) | (exact cc) | (intro t ht;by_cases h':t<i;exact ⟨by simp [h',cvtL,cvt,tg,tru,idx,idx1,idO,idM,All,Nat.ne_of_lt h'],by simp [h',cvtL,cvt,tg,tru,idx,idx1,idO,idM]⟩;rw [show t=i by omega];exact ⟨by simp [cvtL,cvt,tg,tru,idx,idx1,idO,idM,All],by simp [cvtL,cvt,tg,tru,idx,idx1,idO,idM]⟩) | (intro t ht hne;exact ⟨by omega,by simp [All]⟩) | (intro t ht;simp [All];done) | (intro h;simp [All];done) | simp only [All])
  refine pcZ hc (cpz m C) ?_ (lo m 0 (by omega))
  and_intros
  iterate 2 all_goals (first | exact zN | (intro t ht;exact absurd ht (Nat.not_lt_zero _)) | (intro t ht;simp [All];done) | simp only [All])
theorem fnd_is {A:Nat→Nat→Int} {c m r i:Nat} (hr:r≤i) (hm:i≤m) (hz:∀ j,r≤j→j<i→A j c=0) (hi:i=m∨A i c≠0):Had.fnd A c m m r=i:=by
  have h1:=Had.fnd_ge A c m m r
  have h2:=Had.fnd_le A c m m r (by omega)
  have h3:=Had.fnd_zero A c m m r i hr
  have h4:=Had.fnd_hit A c m m r (by omega)
  rcases Nat.lt_trichotomy (Had.fnd A c m m r) i with h | h | h
  · exact absurd (hz _ h1 h) (h4 (by omega))
  · exact h
  · rcases hi with hi | hi
    · omega
    · exact absurd (h3 h) hi
def paE (N:Nat→Nat→Int) (r c:Nat) (d:Int) (i k i' k':Nat):Int:=if i'<i then Had.el N r c d i' k' else if i'=i∧k'<k then Had.el N r c d i' k' else N i' k'
theorem el_r (N:Nat→Nat→Int) (r c:Nat) (d:Int) (k:Nat):Had.el N r c d r k=N r k:=by unfold Had.el;rw [if_pos rfl]
theorem paE_r (N:Nat→Nat→Int) (r c:Nat) (d:Int) (i k k':Nat):paE N r c d i k r k'=N r k':=by
  unfold paE
  split
  · exact el_r ..
  · split
    · exact el_r ..
    · rfl
theorem paE_i (N:Nat→Nat→Int) (r c:Nat) (d:Int) (i k k':Nat) (h:k≤k'):paE N r c d i k i k'=N i k':=by
  unfold paE;rw [if_neg (by omega),if_neg (by omega)]
theorem wrap_el {x a f b d:Int} (h:-(2 ^ 62)≤x*a - f*b∧x*a - f*b≤2 ^ 62) (hd:d≠0) (hv:d ∣ x*a - f*b) :
    IntKind.wrap .i64 ((IntKind.wrap .i64 (IntKind.wrap .i64 (x*a) - IntKind.wrap .i64 (f*b))).tdiv d)=(x*a - f*b).tdiv d:=by
  have e:IntKind.wrap .i64 (IntKind.wrap .i64 (x*a) - IntKind.wrap .i64 (f*b))=x*a - f*b:=by
    have h2:IntKind.wrap .i64 (x*a - f*b)=x*a - f*b:=wrap_in (by simp only [imin];omega) (by simp only [imax];omega)
    generalize x*a=u at h h2 ⊢
    generalize f*b=v at h h2 ⊢
    simp only [IntKind.wrap,IntKind.bits,IntKind.signed] at h2 ⊢
    simp at h2 ⊢
    omega
  rw [e]
  refine tdiv_wrap hv hd ?_
  have:=Int.mul_le_mul (a:=(x*a - f*b).natAbs) (b:=(x*a - f*b).natAbs) (c:=2 ^ 62) (d:=2 ^ 62) (by omega) (by omega) (by omega) (by omega)
  rw [Int.natAbs_mul_self'] at this
  exact this
theorem paE_00 (N:Nat→Nat→Int) (r c:Nat) (d:Int):paE N r c d 0 0=N:=by
  funext i k;unfold paE;rw [if_neg (Nat.not_lt_zero _),if_neg (fun h=>absurd h.2 (Nat.not_lt_zero _))]
theorem sI_sI (r q x:Nat):sI r q (sI r q x)=x:=by
  unfold sI Had.sw
  by_cases h1:x=r
  · rw [if_pos h1]
    by_cases h2:q=r
    · rw [if_pos h2,h1,h2]
    · rw [if_neg h2,if_pos rfl,h1]
  · by_cases h2:x=q
    · rw [if_neg h1,if_pos h2,if_pos rfl,h2]
    · rw [if_neg h1,if_neg h2,if_neg h1,if_neg h2]
theorem sI_lt {r q m x:Nat} (hr:r<m) (hq:q<m) (hx:x<m):sI r q x<m:=by
  unfold sI Had.sw;split
  · exact hq
  · split
    · exact hr
    · exact hx
theorem sw_sI {α:Type} (M:Nat→α) (r q i:Nat):M (sI r q i)=Had.sw M r q i:=by
  unfold sI Had.sw;split
  · rfl
  · split<;>rfl
theorem rowsw (r q n t:Nat):(if t=q then [AV.ar 1 ⟨1,some r⟩ 0 n] else if t=r then [AV.ar 1 ⟨1,some q⟩ 0 n] else [AV.ar 1 ⟨1,some t⟩ 0 n])=[AV.ar 1 ⟨1,some (sI r q t)⟩ 0 n]:=by
  unfold sI Had.sw
  by_cases h1:t=q
  · by_cases h2:t=r
    · rw [if_pos h1,if_pos h2,← h1,h2]
    · rw [if_pos h1,if_neg h2,if_pos h1]
  · by_cases h2:t=r
    · rw [if_neg h1,if_pos h2,if_pos h2]
    · rw [if_neg h1,if_neg h2,if_neg h2,if_neg h1]
theorem sI_q (r q:Nat):sI r q q=r:=by
  unfold sI Had.sw;split
  · rename_i h;exact h
  · rw [if_pos rfl]
theorem rstep_full {m c:Nat} {T:Had.RS} (h:T.r=m):Had.rstep m c T=T:=by
  unfold Had.rstep
  have:=Had.fnd_ge T.A c m m T.r
  rw [if_neg (by omega)]
theorem rrun_full {m:Nat} {S:Had.RS} {c:Nat} (h:(Had.rrun m S c).r=m):∀ e,Had.rrun m S (c+e)=Had.rrun m S c
  | 0=>rfl
  | e+1=>by
    rw [show c+(e+1)=(c+e)+1 by omega,Had.rrun,rrun_full h e,rstep_full h]
theorem con_reduced {n m rmx:Nat} {B:Int} {M:Nat→Nat→Int} {K:Nat→Nat→(Nat→Nat→Int)→Prop} (hn:n≤1000) (hm:m≤1000) (hB:1≤B) (hM:B ^ (2*rmx)≤2 ^ 124)
    (hok:∀ c,c≤n→Had.ROK n m rmx B K c (Had.rrun m (Had.rini M) c)) {S:Had.RS} (hS:Had.rrun m (Had.rini M) n=S) :
    zE 317 [ssA2 m (cM n M),.p (.int .i64 n)] (mH n m S.A S.r (fun i=>(S.p i:Int))) (.tup [.ar 1 0 0 m,.ar 1 2 0 S.r,.p (.int .i64 S.d)]):=by
  have ccp:=con_copyLists m (cM n M) hm (fun i _=>hn)
  refine csZ Tryz.func317 (fun cx hc=>?_)
  generalize hQ:Post cx (mH n m S.A S.r (fun i=>(S.p i:Int))) (.tup [.ar 1 0 0 m,.ar 1 2 0 S.r,.p (.int .i64 S.d)])=Q
  have l3:∀ (N:Nat→Nat→Int) (r q:Nat) (p:Nat→Int) (d:Int) (c i:Nat),c<n→r<m→i<m→i≠r→d≠0 →
      (∀ k,k<n→d*Had.el N r c d i k=N r c*N i k - N i c*N r k∧-(2 ^ 62)≤N r c*N i k - N i c*N r k∧N r c*N i k - N i c*N r k≤2 ^ 62) →
      Run Tryz.prog cx 317 zf5 (R2 n m (paE N r c d (i+1) 0) r p d c (N r c) (i+1)) Q →
      ∀ e k,k+e=n→Run Tryz.prog cx 317 zf1 (R3 n m (paE N r c d i k) r p d c (N r c) i (N i c) k) Q:=by
    intro N r q p d c i hcn hrm him hir hd0 hE hnext e
    induction e with
    | zero =>
      intro k hk
      obtain rfl:k=n:=by omega
      have hd:decide ((k:Int)<(k:Int))=false:=decide_eq_false (by omega)
      have hT:∀ s,s<m→∀ t,t<k→paE N r c d i k s t=paE N r c d (i+1) 0 s t:=by
        intro s hs t ht
        unfold paE
        by_cases h1:s<i
        · rw [if_pos h1,if_pos (by omega)]
        · by_cases h2:s=i
          · rw [if_neg h1,if_pos ⟨h2,ht⟩,if_pos (by omega)]
          · rw [if_neg h1,if_neg (by omega),if_neg (by omega),if_neg (by omega)]
      refine pcZ hc (rdx k m (paE N r c d i k) (paE N r c d (i+1) 0) r p d c (N r c) i (N i c) k) ?_ hnext
      repeat' (first | exact aN | apply aI)
      iterate 2 all_goals (first | exact zN | (exact hd) | (intro s hs;simp only [All,cM];exact ⟨trivial,Nat.le_refl _,fun t ht=>by rw [hT s hs t ht],trivial⟩) | (intro t ht;simp [All];done) | simp only [All])
    | succ e ih =>
      intro k hk
      have hd:decide ((k:Int)<(n:Int))=true:=decide_eq_true (by omega)
      obtain ⟨e1,e2⟩:=hE k (by omega)
      have hw:=wrap_el e2 hd0 ⟨_,e1.symm⟩
      have hv:(N r c*N i k - N i c*N r k).tdiv d=Had.el N r c d i k:=by rw [← e1,Int.mul_tdiv_cancel_left _ hd0]
      rw [hv] at hw
      have hT:∀ s,s<m→∀ t,t<n→paE N r c d i (k+1) s t=if s=i∧t=k then Had.el N r c d i k else paE N r c d i k s t:=by
        intro s hs t ht
        by_cases h1:s=i∧t=k
        · rw [if_pos h1,h1.1,h1.2];unfold paE;rw [if_neg (by omega),if_pos ⟨rfl,by omega⟩]
        · rw [if_neg h1];unfold paE
          by_cases h2:s<i
          · rw [if_pos h2,if_pos h2]
          · rw [if_neg h2,if_neg h2]
            by_cases h3:s=i∧t<k
            · rw [if_pos h3,if_pos (by omega)]
            · rw [if_neg h3,if_neg (by omega)]
      refine pcD hc (rdk n m (paE N r c d i k) (paE N r c d i (k+1)) r p d c (N r c) i (N i c) k) ?_ (ih (k+1) (by omega))
      repeat' (first | exact aN | apply aI)
      all_goals (first | exact zI | (exact hd) | (exact hd0) | (intro s hs;simp only [cM,paE_r,paE_i N r c d i k k (Nat.le_refl _),hw];by_cases h1:s=i<;>(simp only [h1,if_true,if_false,famE,All];refine ⟨trivial,Nat.le_refl _,fun t ht=>?_,trivial⟩;rw [hT _ (by omega) t ht];by_cases h2:t=k<;>simp [h1,h2,toP])) | (intro t ht;simp [All];done))
  have l2:∀ (N:Nat→Nat→Int) (r:Nat) (p:Nat→Int) (d:Int) (c:Nat),c<n→r<m→r<1000→d≠0 →
      (∀ i k,i<m→i≠r→k<n→d*Had.el N r c d i k=N r c*N i k - N i c*N r k∧-(2 ^ 62)≤N r c*N i k - N i c*N r k∧N r c*N i k - N i c*N r k≤2 ^ 62) →
      ∀ p':Nat→Int,(∀ t,t<r+1→p' t=if t<r then p t else c)→Run Tryz.prog cx 317 zf41 (R0 n m (Had.el N r c d) (r+1) p' (N r c) (c+1)) Q →
      ∀ e i,i+e=m→Run Tryz.prog cx 317 zf5 (R2 n m (paE N r c d i 0) r p d c (N r c) i) Q:=by
    intro N r p d c hcn hrm hr1 hd0 hE p' hp hnext e
    induction e with
    | zero =>
      intro i hi
      obtain rfl:i=m:=by omega
      have hd:decide ((i:Int)<(i:Int))=false:=decide_eq_false (by omega)
      have hT:∀ s,s<i→∀ t,t<n→paE N r c d i 0 s t=Had.el N r c d s t:=fun s hs t _=>by unfold paE;rw [if_pos hs]
      refine pcZ hc (rdy n i (paE N r c d i 0) (Had.el N r c d) r p p' d c (N r c) i) ?_ hnext
      repeat' (first | exact aN | apply aI)
      iterate 2 all_goals (first | exact zN | (exact hd) | (intro s hs;simp only [All,cM];exact ⟨trivial,Nat.le_refl _,fun t ht=>by rw [hT s hs t ht],trivial⟩) | (intro t ht;rw [hp t ht];by_cases h':t<r<;>simp [h',cvtL,cvt,tg,tru,All];done) | (intro t ht;simp [All];done) | simp only [All])
    | succ e ih =>
      intro i hi
      have hd:decide ((i:Int)<(m:Int))=true:=decide_eq_true (by omega)
      have hr:=ih (i+1) (by omega)
      by_cases hir:i=r
      · have hq:((i:Int)==(r:Int))=true:=by simp [hir]
        have hT:∀ s,s<m→∀ t,t<n→paE N r c d i 0 s t=paE N r c d (i+1) 0 s t:=by
          intro s hs t ht
          unfold paE
          by_cases h1:s<i
          · rw [if_pos h1,if_pos (by omega)]
          · by_cases h2:s=i
            · rw [if_neg h1,if_neg (by omega),if_pos (by omega),h2,hir,el_r]
            · rw [if_neg h1,if_neg (by omega),if_neg (by omega),if_neg (by omega)]
        refine pcZ hc (rdr n m (paE N r c d i 0) (paE N r c d (i+1) 0) r p d c (N r c) i) ?_ hr
        repeat' (first | exact aN | apply aI)
        iterate 2 all_goals (first | exact zN | (exact hd) | (exact hq) | (intro s hs;simp only [All,cM];exact ⟨trivial,Nat.le_refl _,fun t ht=>by rw [hT s hs t ht],trivial⟩) | (intro t ht;simp [All];done) | simp only [All])
      · have hq:((i:Int)==(r:Int))=false:=by simp;omega
        have h3:=l3 N r 0 p d c i hcn hrm (by omega) hir hd0 (fun k hk=>hE i k (by omega) hir hk) hr n 0 (by omega)
        have e1:paE N r c d i 0 i c=N i c:=paE_i N r c d i 0 c (Nat.zero_le _)
        rw [← e1] at h3
        refine pcZ hc (rdi n m (paE N r c d i 0) r p d c (N r c) i) ?_ h3
        and_intros
        iterate 2 all_goals (first | exact zN | (exact hd) | (exact hq) | (intro t ht;simp [All];done) | simp only [All])
  have l0:∀ e c,c+e=n→Run Tryz.prog cx 317 zf41 (R0 n m (Had.rrun m (Had.rini M) c).A (Had.rrun m (Had.rini M) c).r (fun i=>((Had.rrun m (Had.rini M) c).p i:Int)) (Had.rrun m (Had.rini M) c).d c) Q:=by
    intro e
    induction e with
    | zero =>
      intro c hcn
      obtain rfl:c=n:=by omega
      rw [hS,← hQ]
      have hd:(bif decide ((c:Int)<(c:Int)) then decide ((S.r:Int)<(m:Int)) else false)=false:=by simp
      refine pkD Tryz.func317 hc (rde c m S.A S.r (fun i=>(S.p i:Int)) S.d c) ?_
      and_intros
      iterate 2 all_goals (first | exact zN | (exact hd) | (intro h;exact h) | (intro t ht;simp [All];done) | simp only [All])
    | succ e ih =>
      intro c hcn
      have hr:=ih (c+1) (by omega)
      have ok:=hok c (by omega)
      have ok':=hok (c+1) (by omega)
      have hst:Had.rrun m (Had.rini M) (c+1)=Had.rstep m c (Had.rrun m (Had.rini M) c):=rfl
      rw [hst] at hr ok'
      generalize Had.rrun m (Had.rini M) c=T at *
      have hrm:=ok.bar.rm
      by_cases hrl:T.r<m
      · have hd:(bif decide ((c:Int)<(n:Int)) then decide ((T.r:Int)<(m:Int)) else false)=true:=by
          rw [decide_eq_true (show (c:Int)<(n:Int) by omega),decide_eq_true (show (T.r:Int)<(m:Int) by omega)];rfl
        have l1:∀ e i,i+e=m→T.r≤i→(∀ j,T.r≤j→j<i→T.A j c=0)→Run Tryz.prog cx 317 zf12 (R1 n m T.A T.r (fun i=>(T.p i:Int)) T.d c i) Q:=by
          intro e
          induction e with
          | zero =>
            intro i hi hri hz
            obtain rfl:i=m:=by omega
            have hf:=fnd_is hri (Nat.le_refl _) hz (.inl rfl)
            have hst:Had.rstep i c T=T:=by unfold Had.rstep;rw [hf,if_neg (Nat.lt_irrefl _)]
            rw [hst] at hr
            have hd0:decide ((i:Int)<(i:Int))=false:=decide_eq_false (by omega)
            have hq:((i:Int)==(i:Int))=true:=by simp
            refine pcD hc (rdn n i T.A T.r (fun i=>(T.p i:Int)) T.d c i) ?_ hr
            and_intros
            iterate 2 all_goals (first | exact zI | (rw [hd0];rfl) | (exact hq) | (intro h;exact h) | (intro h;rw [hd0] at h;cases h) | (intro t ht;simp [All];done) | simp only [All])
          | succ e ih2 =>
            intro i hi hri hz
            have hd1:decide ((i:Int)<(m:Int))=true:=decide_eq_true (by omega)
            by_cases h0:T.A i c=0
            · have hb:(bif decide ((i:Int)<(m:Int)) then (cM n T.A i).2 c==0 else false)=true:=by
                rw [hd1];show (T.A i c==0)=true;simp [h0]
              refine pcD hc (rds n m T.A T.r (fun i=>(T.p i:Int)) T.d c i) ?_ (ih2 (i+1) (by omega) (by omega) (fun j j1 j2=>by
                by_cases h:j=i
                · rw [h];exact h0
                · exact hz j j1 (by omega)))
              and_intros
              iterate 2 all_goals (first | exact zI | (exact hb) | (intro h;exact h) | (intro h;omega) | (intro t ht;simp [All];done) | simp only [All])
            · have hb:(bif decide ((i:Int)<(m:Int)) then (cM n T.A i).2 c==0 else false)=false:=by
                rw [hd1];show (T.A i c==0)=false;simp [h0]
              have hq:((i:Int)==(m:Int))=false:=by simp;omega
              have hf:=fnd_is hri (show i≤m by omega) hz (.inr h0)
              have hst:Had.rstep m c T=⟨Had.el (Had.sw T.A T.r i) T.r c T.d,T.r+1,fun j=>if j=T.r then c else T.p j,T.A i c⟩:=by
                unfold Had.rstep;rw [hf,if_pos (show i<m by omega)]
              rw [hst] at hr ok'
              have hsw:=ok.bar.swap hri (by omega:i<m)
              have hx:Had.sw T.A T.r i T.r c≠0:=by rw [Had.sw_at];exact h0
              obtain ⟨b1,b2⟩:=hsw.elim (c:=c) hrl (by omega) hx
              have hr2:=ok'.r
              have hr2:T.r+1≤rmx:=hr2
              have hE:∀ i' k,i'<m→i'≠T.r→k<n→T.d*Had.el (Had.sw T.A T.r i) T.r c T.d i' k=Had.sw T.A T.r i T.r c*Had.sw T.A T.r i i' k - Had.sw T.A T.r i i' c*Had.sw T.A T.r i T.r k ∧
                  -(2 ^ 62)≤Had.sw T.A T.r i T.r c*Had.sw T.A T.r i i' k - Had.sw T.A T.r i i' c*Had.sw T.A T.r i T.r k∧Had.sw T.A T.r i T.r c*Had.sw T.A T.r i i' k - Had.sw T.A T.r i i' c*Had.sw T.A T.r i T.r k≤2 ^ 62:=by
                intro i' k h1 h2 h3
                have e1:=b2 i' k h1 h2 h3
                refine ⟨e1,?_⟩
                rw [← e1]
                have hd2:=ok.bar.bd
                have hv:Had.el (Had.sw T.A T.r i) T.r c T.d i' k*Had.el (Had.sw T.A T.r i) T.r c T.d i' k≤B ^ (T.r+2):=by
                  by_cases h4:i'<T.r+1
                  · exact Int.le_trans (b1.bpiv h4 h3) (Had.pow_mono hB (by omega))
                  · exact b1.bnon (by omega) h1 h3
                exact Had.prod_le hB hM hd2 hv (by omega)
              rw [← Had.sw_at T.A T.r i] at hr
              have h2:=l2 (Had.sw T.A T.r i) T.r (fun i=>(T.p i:Int)) T.d c (by omega) hrl (by omega) ok.bar.d0 hE _ (fun t ht=>by
                show ((if t=T.r then c else T.p t:Nat):Int)=_
                by_cases h:t<T.r
                · rw [if_pos h,if_neg (by omega)]
                · rw [if_neg h,if_pos (by omega)]) hr m 0 (by omega)
              rw [paE_00] at h2
              have hsI:∀ t,T.A (sI T.r i t)=Had.sw T.A T.r i t:=fun t=>sw_sI T.A T.r i t
              refine pcD hc (rdp n m T.A T.r (fun i=>(T.p i:Int)) T.d c i) ?_ (pcZ hc (rdq n m (Had.sw T.A T.r i) T.r (fun i=>(T.p i:Int)) T.d c i) ?_ h2)
              ·
                repeat' (first | exact aN | apply aI)
                iterate 2 all_goals (first | exact zI | (exact hb) | (exact hq) | (intro h;exact h) | (intro h;omega) | (intro t ht;simp only [rowsw];exact ⟨by simp [cvtL,cvt,idx,idx1,idO,idM,All,sI_sI],by simp [cvtL,cvt,idx,idx1,idO,idM,sI_sI]⟩) | (intro t ht;refine ⟨sI_lt (by omega) (by omega) ht,sI_sI _ _ _,?_⟩;simp [cM,hsI];done) | (intro t ht;simp [All];done) | simp only [All])
              ·
                and_intros
                all_goals (first | exact zH | (intro t ht;simp [All];done))
        refine pcD hc (rdb n m T.A T.r (fun i=>(T.p i:Int)) T.d c) ?_ (l1 (m - T.r) T.r (by omega) (Nat.le_refl _) (fun j j1 j2=>absurd j2 (by omega)))
        and_intros
        iterate 2 all_goals (first | exact zN | (exact hd) | (intro h;exact h) | (intro t ht;simp [All];done) | simp only [All])
      · have hrm':T.r=m:=by omega
        have hd:(bif decide ((c:Int)<(n:Int)) then decide ((T.r:Int)<(m:Int)) else false)=false:=by
          rw [decide_eq_false (show ¬ (T.r:Int)<(m:Int) by omega)];cases decide ((c:Int)<(n:Int))<;>rfl
        rw [rstep_full hrm'] at hst
        have hSe:S=T:=by
          rw [← hS,← hst,show n=(c+1)+e by omega]
          exact rrun_full (by rw [hst];exact hrm') e
        rw [← hQ,hSe]
        refine pkD Tryz.func317 hc (rde n m T.A T.r (fun i=>(T.p i:Int)) T.d c) ?_
        and_intros
        iterate 2 all_goals (first | exact zN | (exact hd) | (intro h;exact h) | (intro t ht;simp [All];done) | simp only [All])
  refine pcZ hc (rdz n m M) ?_ (l0 n 0 (by omega))
  and_intros
  iterate 2 all_goals (first | exact zN | (exact ccp) | (intro t ht;exact absurd ht (Nat.not_lt_zero _)) | (intro t ht;simp [All];done) | simp only [All])
theorem wrap_sub {u v:Int} (h:-(2 ^ 62)≤u - v∧u - v≤2 ^ 62):IntKind.wrap .i64 (IntKind.wrap .i64 u - IntKind.wrap .i64 v)=u - v:=by
  simp only [IntKind.wrap,IntKind.bits,IntKind.signed]
  simp
  omega
theorem sq_of {x:Int} (h:-(2 ^ 62)≤x∧x≤2 ^ 62):x*x≤2 ^ 124:=by
  have:=sq_nat (x:=x.natAbs) (by omega)
  rwa [Int.natAbs_mul_self'] at this
theorem con_Without (n j:Nat) (a row:Nat→Int) (hn:n≤1000) (hj:j<n) (h0:row j≠0) (ha:∀ k,k<n→a k*a k≤2 ^ 124) (hr:∀ k,k<n→row k*row k≤2 ^ 124)
    (hw:∀ k,k<n→Had.wo a row j k*Had.wo a row j k≤2 ^ 124) :
    zE 314 [inD n a,inD n row,.p (.int .i64 j)] [(0,iOb n (Had.prm n (Had.wo a row j)))] (.ar 1 0 0 n):=by
  have cg:=con_Gcd_s (ha j hj) (hr j hj)
  have cc:=con_Clean n (Had.wo a row j) hn hw
  have g0:((Int.gcd (a j) (row j):Nat):Int)≠0:=fun h=>by
    have:Int.gcd (a j) (row j)=0:=by omega
    rw [Int.gcd_eq_zero_iff] at this;exact h0 this.2
  have w1:=tdiv_wrap (Int.gcd_dvd_right (a j) (row j)) g0 (hr j hj)
  have w2:=tdiv_wrap (Int.gcd_dvd_left (a j) (row j)) g0 (ha j hj)
  have hwo:∀ k,k<n→IntKind.wrap .i64 (IntKind.wrap .i64 (a k*(row j).tdiv (Int.gcd (a j) (row j):Nat)) - IntKind.wrap .i64 (row k*(a j).tdiv (Int.gcd (a j) (row j):Nat)))=Had.wo a row j k:=fun k hk =>
    wrap_sub (Had.sq_le (y:=2 ^ 62) (by decide) (hw k hk))
  generalize hG:((Int.gcd (a j) (row j):Nat):Int)=G at *
  refine csZ Tryz.func314 (fun c hc=>?_)
  have lo:∀ d i,i+d=n→zR c 314 zf34 (WoS n a row ((row j).tdiv G) ((a j).tdiv G) i (Had.wo a row j)) (Post c [(0,iOb n (Had.prm n (Had.wo a row j)))] (.ar 1 0 0 n)):=by
    intro d
    induction d with
    | zero =>
      intro i hi
      obtain rfl:i=n:=by omega
      have hd:decide ((i:Int)<(i:Int))=false:=decide_eq_false (by omega)
      refine pkZ Tryz.func314 hc (wxe i a row ((row j).tdiv G) ((a j).tdiv G) (Had.wo a row j) (Had.prm i (Had.wo a row j))) ?_
      and_intros
      all_goals (first | exact zN | (exact hd) | (exact cc) | (intro t ht;simp [All];done))
    | succ d ih =>
      intro i hi
      have hd:decide ((i:Int)<(n:Int))=true:=decide_eq_true (by omega)
      have hi':=hwo i (by omega)
      refine pcZ hc (wxt n a row ((row j).tdiv G) ((a j).tdiv G) i (Had.wo a row j) (Had.wo a row j)) ?_ (ih (i+1) (by omega))
      repeat' (first | exact aN | apply aI)
      all_goals (first | exact zN | (exact hd) | (intro t ht;rw [hi'];by_cases h':t<i;exact ⟨by simp [h',cvtL,cvt,tg,tru,All],by simp [h',cvtL,cvt,tg,tru]⟩;rw [show t=i by omega];exact ⟨by simp [cvtL,cvt,tg,tru,All],by simp [cvtL,cvt,tg,tru]⟩) | (intro t ht;simp [All];done))
  refine pcD hc (wxz n j a row G ((row j).tdiv G) ((a j).tdiv G) (Had.wo a row j)) ?_ (lo n 0 (by omega))
  and_intros
  iterate 2 all_goals (first | exact zN | (exact cg) | (exact g0) | (exact w1) | (exact w2) | (intro t ht;exact absurd ht (Nat.not_lt_zero _)) | (intro t ht;simp [All];done) | simp only [All])
theorem rowsw' (r q n t:Nat):(if t=r then [AV.ar 1 ⟨1,some q⟩ 0 n] else if t=q then [AV.ar 1 ⟨1,some r⟩ 0 n] else [AV.ar 1 ⟨1,some t⟩ 0 n])=[AV.ar 1 ⟨1,some (sI r q t)⟩ 0 n]:=by
  unfold sI Had.sw
  by_cases h1:t=r
  · rw [if_pos h1,if_pos h1]
  · by_cases h2:t=q
    · rw [if_neg h1,if_pos h2,if_neg h1,if_pos h2]
    · rw [if_neg h1,if_neg h2,if_neg h1,if_neg h2]
theorem el_rf (N:Nat→Nat→Int) (r c:Nat) (d:Int):Had.el N r c d r=N r:=funext fun k=>el_r N r c d k
theorem con_l9Reduced {n m rmx:Nat} {B:Int} {M:Nat→Nat→Int} {K:Nat→Nat→(Nat→Nat→Int)→Prop} (hn:n≤1000) (hm:m≤1000) (hB:1≤B) (hM:B ^ (2*rmx)≤2 ^ 124) (hx1:1≤rmx)
    (hok:∀ c,c≤n→Had.ROK n m rmx B K c (Had.rrun m (Had.rini M) c)) {S:Had.RS} (hS:Had.rrun m (Had.rini M) n=S) :
    zE 226 [ssA2 m (cM n M)] (mH n m (fun i=>Had.prm n (S.A i)) S.r (fun i=>(S.p i:Int))) (.tup [.ar 1 0 0 m,.ar 1 2 0 S.r]):=by
  refine csZ Tryz.func226 (fun cx hc=>?_)
  generalize hQ:Post cx (mH n m (fun i=>Had.prm n (S.A i)) S.r (fun i=>(S.p i:Int))) (.tup [.ar 1 0 0 m,.ar 1 2 0 S.r])=Q
  have hpow:∀ j,j≤2*rmx→B ^ j≤2 ^ 124:=fun j hj=>Int.le_trans (Had.pow_mono hB hj) hM
  have l3:∀ (N:Nat→Nat→Int) (r:Nat) (p:Nat→Int) (d:Int) (c:Nat),c<n→r<m→d≠0→N r c≠0 →
      (∀ i k,i<m→k<n→N i k*N i k≤2 ^ 124) →
      (∀ i k,i<m→i≠r→k<n→d*Had.el N r c d i k=N r c*N i k - N i c*N r k∧(d*Had.el N r c d i k)*(d*Had.el N r c d i k)≤2 ^ 124) →
      ∀ p':Nat→Int,(∀ t,t<r+1→p' t=if t<r then p t else c) →
      Run Tryz.prog cx 226 zf42 (Q1 n m (fun i=>Had.prm n (Had.el N r c d i)) (r+1) p' (c+1)) Q →
      ∀ e i,i+e=m→Run Tryz.prog cx 226 zf6 (Q3 n m (fun i'=>if i'<i then Had.prm n (Had.el N r c d i') else Had.prm n (N i')) r p c i) Q:=by
    intro N r p d c hcn hrm hd0 hx hN hE p' hp hnext e
    induction e with
    | zero =>
      intro i hi
      obtain rfl:i=m:=by omega
      have hd:decide ((i:Int)<(i:Int))=false:=decide_eq_false (by omega)
      have hT:∀ s,s<i→(if s<i then Had.prm n (Had.el N r c d s) else Had.prm n (N s))=Had.prm n (Had.el N r c d s):=fun s hs=>if_pos hs
      refine pcZ hc (qx n i (fun i'=>if i'<i then Had.prm n (Had.el N r c d i') else Had.prm n (N i')) (fun i=>Had.prm n (Had.el N r c d i)) r p p' c i) ?_ hnext
      repeat' (first | exact aN | apply aI)
      iterate 2 all_goals (first | exact zN | (exact hd) | (intro s hs;simp only [All,cM];exact ⟨trivial,Nat.le_refl _,fun t ht=>by rw [hT s hs],trivial⟩) | (intro t ht;rw [hp t ht];by_cases h':t<r<;>simp [h',cvtL,cvt,tg,tru,All];done) | (intro t ht;simp [All];done) | simp only [All])
    | succ e ih =>
      intro i hi
      have hr:=ih (i+1) (by omega)
      have hd:decide ((i:Int)<(m:Int))=true:=decide_eq_true (by omega)
      have e1:(if i<i then Had.prm n (Had.el N r c d i) else Had.prm n (N i))=Had.prm n (N i):=if_neg (Nat.lt_irrefl _)
      have e2:(if r<i then Had.prm n (Had.el N r c d r) else Had.prm n (N r))=Had.prm n (N r):=by rw [el_rf];split<;>rfl
      have next:(∀ k,k<n→Had.prm n (Had.el N r c d i) k=Had.prm n (N i) k)→∀ s,s<m→∀ t,t<n →
          (if s<i then Had.prm n (Had.el N r c d s) else Had.prm n (N s)) t=(if s<i+1 then Had.prm n (Had.el N r c d s) else Had.prm n (N s)) t:=by
        intro h s hs t ht
        by_cases h1:s<i
        · rw [if_pos h1,if_pos (by omega)]
        · by_cases h2:s=i
          · rw [if_neg h1,if_pos (by omega),h2,h t ht]
          · rw [if_neg h1,if_neg (by omega)]
      by_cases hir:i=r
      · have hb:(bif (i:Int) != (r:Int) then (cM n (fun i'=>if i'<i then Had.prm n (Had.el N r c d i') else Had.prm n (N i')) i).2 c != 0 else false)=false:=by simp [hir]
        have hT:=next (fun k hk=>by rw [hir,el_rf])
        refine pcD hc (qf n m (fun i'=>if i'<i then Had.prm n (Had.el N r c d i') else Had.prm n (N i')) (fun i'=>if i'<i+1 then Had.prm n (Had.el N r c d i') else Had.prm n (N i')) r p c i) ?_ hr
        repeat' (first | exact aN | apply aI)
        iterate 2 all_goals (first | exact zI | (exact hd) | (exact hb) | (intro s hs;simp only [All,cM];exact ⟨trivial,Nat.le_refl _,fun t ht=>by rw [hT s hs t ht],trivial⟩) | (intro h;exact h) | (intro h;omega) | (intro t ht;simp [All];done) | simp only [All])
      · have hi1:(i:Int) != (r:Int):=by simp;omega
        have sp:=fun k hk=>Had.step_prm (n:=n) (u:=N i) (v:=N r) (w:=Had.el N r c d i) hd0 hcn hx (fun k hk=>(hE i k (by omega) hir hk).1) (k:=k) hk
        by_cases h0:Had.prm n (N i) c=0
        · have hb:(bif (i:Int) != (r:Int) then (cM n (fun i'=>if i'<i then Had.prm n (Had.el N r c d i') else Had.prm n (N i')) i).2 c != 0 else false)=false:=by
            rw [hi1]
            show ((if i<i then Had.prm n (Had.el N r c d i) else Had.prm n (N i)) c != 0)=false
            rw [e1,h0];rfl
          have hT:=next (fun k hk=>by rw [(sp k hk).1,if_pos h0])
          refine pcD hc (qf n m (fun i'=>if i'<i then Had.prm n (Had.el N r c d i') else Had.prm n (N i')) (fun i'=>if i'<i+1 then Had.prm n (Had.el N r c d i') else Had.prm n (N i')) r p c i) ?_ hr
          repeat' (first | exact aN | apply aI)
          iterate 2 all_goals (first | exact zI | (exact hd) | (exact hb) | (intro s hs;simp only [All,cM];exact ⟨trivial,Nat.le_refl _,fun t ht=>by rw [hT s hs t ht],trivial⟩) | (intro h;exact h) | (intro h;omega) | (intro t ht;simp [All];done) | simp only [All])
        · have hb:(bif (i:Int) != (r:Int) then (cM n (fun i'=>if i'<i then Had.prm n (Had.el N r c d i') else Had.prm n (N i')) i).2 c != 0 else false)=true:=by
            rw [hi1]
            show ((if i<i then Had.prm n (Had.el N r c d i) else Had.prm n (N i)) c != 0)=true
            rw [e1];simpa using h0
          have cw:=con_Without n c (Had.prm n (N i)) (Had.prm n (N r)) hn hcn (fun h=>hx ((Had.prm_zero hcn).1 h)) (fun k hk=>Int.le_trans (Had.prm_sq hk) (hN i k (by omega) hk)) (fun k hk=>Int.le_trans (Had.prm_sq hk) (hN r k hrm hk))
            (fun k hk=>Int.le_trans ((sp k hk).2 k hk) (hE i k (by omega) hir hk).2)
          have hT:∀ t,t<n→Had.prm n (Had.wo (Had.prm n (N i)) (Had.prm n (N r)) c) t=Had.prm n (Had.el N r c d i) t:=fun t ht=>by rw [(sp t ht).1,if_neg h0]
          generalize Had.prm n (Had.wo (Had.prm n (N i)) (Had.prm n (N r)) c)=w at cw hT
          have cw':zE 314 [inD n (if i<i then Had.prm n (Had.el N r c d i) else Had.prm n (N i)),inD n (if r<i then Had.prm n (Had.el N r c d r) else Had.prm n (N r)),.p (.int .i64 c)] [(0,iOb n w)] (.ar 1 0 0 n):=by
            rw [e1,e2];exact cw
          have hN1:∀ s,s≠i→(if s<i then Had.prm n (Had.el N r c d s) else Had.prm n (N s))=(if s<i+1 then Had.prm n (Had.el N r c d s) else Had.prm n (N s)):=fun s hs=>by
            by_cases h1:s<i
            · rw [if_pos h1,if_pos (by omega)]
            · rw [if_neg h1,if_neg (by omega)]
          have hN2:(if i<i+1 then Had.prm n (Had.el N r c d i) else Had.prm n (N i))=Had.prm n (Had.el N r c d i):=if_pos (by omega)
          refine pcD hc (qt n m (fun i'=>if i'<i then Had.prm n (Had.el N r c d i') else Had.prm n (N i')) (fun i'=>if i'<i+1 then Had.prm n (Had.el N r c d i') else Had.prm n (N i')) r p c i w) ?_ hr
          repeat' (first | exact aN | apply aI)
          iterate 2 all_goals (first | exact zH | (exact hd) | (exact hb) | (exact cw') | (intro h;exact h) | (intro h;omega) | (intro s hs;by_cases h1:s=i;exact ⟨by simp [h1,cvtL,cvt,idx,idx1,idO,idM,All],by simp [h1,cvtL,cvt,idx,idx1,idO,idM]⟩;exact ⟨by simp [h1,cvtL,cvt,idx,idx1,idO,idM,All],by simp [h1,cvtL,cvt,idx,idx1,idO,idM]⟩) | (intro s hs hne;refine ⟨hs,?_⟩;simp only [All,cM];exact ⟨trivial,Nat.le_refl _,fun t ht=>by rw [hN1 s hne],trivial⟩) | (intro _;simp only [All,cM];exact ⟨trivial,Nat.le_refl _,fun t ht=>by rw [hN2,hT t ht],trivial⟩) | (intro t ht;simp [All];done) | simp only [All])
  have l1:0<m→∀ e c,c+e=n→Run Tryz.prog cx 226 zf42 (Q1 n m (fun i=>Had.prm n ((Had.rrun m (Had.rini M) c).A i)) (Had.rrun m (Had.rini M) c).r (fun i=>((Had.rrun m (Had.rini M) c).p i:Int)) c) Q:=by
    intro hm0 e
    have dm:decide ((m:Int)>0)=true:=decide_eq_true (by omega)
    induction e with
    | zero =>
      intro c hcn
      obtain rfl:c=n:=by omega
      rw [hS,← hQ]
      have hd:(bif decide ((m:Int)>0) then decide ((c:Int)<(c:Int)) else false)=false:=by rw [dm];simp
      refine pkD Tryz.func226 hc (qe c m (fun i=>Had.prm c (S.A i)) S.r (fun i=>(S.p i:Int)) c) ?_
      and_intros
      iterate 2 all_goals (first | exact zI | (exact hd) | (intro h;exact h) | (intro h;omega) | (intro t ht;simp [All];done) | simp only [All])
    | succ e ih =>
      intro c hcn
      have hr:=ih (c+1) (by omega)
      have ok:=hok c (by omega)
      have ok':=hok (c+1) (by omega)
      have hst:Had.rrun m (Had.rini M) (c+1)=Had.rstep m c (Had.rrun m (Had.rini M) c):=rfl
      rw [hst] at hr ok'
      generalize Had.rrun m (Had.rini M) c=T at *
      have hrm:=ok.bar.rm
      have hd:(bif decide ((m:Int)>0) then decide ((c:Int)<(n:Int)) else false)=true:=by
        rw [dm,decide_eq_true (show (c:Int)<(n:Int) by omega)];rfl
      have l2:∀ e i,i+e=m→T.r≤i→(∀ j,T.r≤j→j<i→T.A j c=0)→Run Tryz.prog cx 226 zf13 (Q2 n m (fun i=>Had.prm n (T.A i)) T.r (fun i=>(T.p i:Int)) c i) Q:=by
        intro e
        induction e with
        | zero =>
          intro i hi hri hz
          obtain rfl:i=m:=by omega
          have hf:=fnd_is hri (Nat.le_refl _) hz (.inl rfl)
          have hst:Had.rstep i c T=T:=by unfold Had.rstep;rw [hf,if_neg (Nat.lt_irrefl _)]
          rw [hst] at hr
          have hd0:decide ((i:Int)<(i:Int))=false:=decide_eq_false (by omega)
          have hq:((i:Int)==(i:Int))=true:=by simp
          refine pcD hc (qn n i (fun i=>Had.prm n (T.A i)) T.r (fun i=>(T.p i:Int)) c i) ?_ hr
          and_intros
          iterate 2 all_goals (first | exact zI | (rw [hd0];rfl) | (exact hq) | (intro h;exact h) | (intro h;rw [hd0] at h;cases h) | (intro t ht;simp [All];done) | simp only [All])
        | succ e ih2 =>
          intro i hi hri hz
          have hd1:decide ((i:Int)<(m:Int))=true:=decide_eq_true (by omega)
          by_cases h0:T.A i c=0
          · have hb:(bif decide ((i:Int)<(m:Int)) then (cM n (fun i=>Had.prm n (T.A i)) i).2 c==0 else false)=true:=by
              rw [hd1];show (Had.prm n (T.A i) c==0)=true;rw [(Had.prm_zero (by omega)).2 h0];rfl
            refine pcD hc (qs n m (fun i=>Had.prm n (T.A i)) T.r (fun i=>(T.p i:Int)) c i) ?_ (ih2 (i+1) (by omega) (by omega) (fun j j1 j2=>by
              by_cases h:j=i
              · rw [h];exact h0
              · exact hz j j1 (by omega)))
            and_intros
            iterate 2 all_goals (first | exact zI | (exact hb) | (intro h;exact h) | (intro h;omega) | (intro t ht;simp [All];done) | simp only [All])
          · have hp0:Had.prm n (T.A i) c≠0:=fun h=>h0 ((Had.prm_zero (by omega)).1 h)
            have hb:(bif decide ((i:Int)<(m:Int)) then (cM n (fun i=>Had.prm n (T.A i)) i).2 c==0 else false)=false:=by
              rw [hd1];show (Had.prm n (T.A i) c==0)=false;simpa using hp0
            have hq:((i:Int)==(m:Int))=false:=by simp;omega
            have hf:=fnd_is hri (show i≤m by omega) hz (.inr h0)
            have hst:Had.rstep m c T=⟨Had.el (Had.sw T.A T.r i) T.r c T.d,T.r+1,fun j=>if j=T.r then c else T.p j,T.A i c⟩:=by
              unfold Had.rstep;rw [hf,if_pos (show i<m by omega)]
            rw [hst] at hr ok'
            have hrl:T.r<m:=by omega
            have hsw:=ok.bar.swap hri (by omega:i<m)
            have hx:Had.sw T.A T.r i T.r c≠0:=by rw [Had.sw_at];exact h0
            obtain ⟨b1,b2⟩:=hsw.elim (c:=c) hrl (by omega) hx
            have hr2:T.r+1≤rmx:=ok'.r
            have hE:∀ i' k,i'<m→i'≠T.r→k<n→T.d*Had.el (Had.sw T.A T.r i) T.r c T.d i' k=Had.sw T.A T.r i T.r c*Had.sw T.A T.r i i' k - Had.sw T.A T.r i i' c*Had.sw T.A T.r i T.r k ∧
                (T.d*Had.el (Had.sw T.A T.r i) T.r c T.d i' k)*(T.d*Had.el (Had.sw T.A T.r i) T.r c T.d i' k)≤2 ^ 124:=by
              intro i' k h1 h2 h3
              refine ⟨b2 i' k h1 h2 h3,sq_of ?_⟩
              have hd2:=ok.bar.bd
              have hv:Had.el (Had.sw T.A T.r i) T.r c T.d i' k*Had.el (Had.sw T.A T.r i) T.r c T.d i' k≤B ^ (T.r+2):=by
                by_cases h4:i'<T.r+1
                · exact Int.le_trans (b1.bpiv h4 h3) (Had.pow_mono hB (by omega))
                · exact b1.bnon (by omega) h1 h3
              exact Had.prod_le hB hM hd2 hv (by omega)
            have hN:∀ i' k,i'<m→k<n→Had.sw T.A T.r i i' k*Had.sw T.A T.r i i' k≤2 ^ 124:=by
              intro i' k h1 h2
              by_cases h4:i'<T.r
              · exact Int.le_trans (hsw.bpiv h4 h2) (hpow _ (by omega))
              · exact Int.le_trans (hsw.bnon (by omega) h1 h2) (hpow _ (by omega))
            have h3:=l3 (Had.sw T.A T.r i) T.r (fun i=>(T.p i:Int)) T.d c (by omega) hrl ok.bar.d0 hx hN hE _ (fun t ht=>by
              show ((if t=T.r then c else T.p t:Nat):Int)=_
              by_cases h:t<T.r
              · rw [if_pos h,if_neg (by omega)]
              · rw [if_neg h,if_pos (by omega)]) hr m 0 (by omega)
            have hsI:∀ t,T.A (sI T.r i t)=Had.sw T.A T.r i t:=fun t=>sw_sI T.A T.r i t
            have e0:(fun i'=>if i'<0 then Had.prm n (Had.el (Had.sw T.A T.r i) T.r c T.d i') else Had.prm n (Had.sw T.A T.r i i'))=Had.sw (fun i=>Had.prm n (T.A i)) T.r i:=funext fun i'=>by
              rw [if_neg (Nat.not_lt_zero _),← sw_sI (fun i=>Had.prm n (T.A i)) T.r i i',← hsI]
            rw [e0] at h3
            have hsJ:∀ t,Had.prm n (T.A (sI T.r i t))=Had.sw (fun i=>Had.prm n (T.A i)) T.r i t:=fun t=>sw_sI (fun i=>Had.prm n (T.A i)) T.r i t
            refine pcD hc (qp n m (fun i=>Had.prm n (T.A i)) T.r (fun i=>(T.p i:Int)) c i) ?_ h3
            repeat' (first | exact aN | apply aI)
            iterate 2 all_goals (first | exact zI | (exact hb) | (exact hq) | (intro h;exact h) | (intro h;omega) | (exact sI_q _ _) | (exact sI_sI _ _ _) | (intro t ht;simp only [rowsw'];exact ⟨by simp [cvtL,cvt,idx,idx1,idO,idM,All,sI_sI],by simp [cvtL,cvt,idx,idx1,idO,idM,sI_sI]⟩) | (intro t ht;refine ⟨sI_lt (by omega) (by omega) ht,sI_sI _ _ _,?_⟩;simp [cM,hsJ];done) | (intro t ht;simp [All];done) | simp only [All])
      refine pcD hc (qb n m (fun i=>Had.prm n (T.A i)) T.r (fun i=>(T.p i:Int)) c) ?_ (l2 (m - T.r) T.r (by omega) (Nat.le_refl _) (fun j j1 j2=>absurd j2 (by omega)))
      and_intros
      iterate 2 all_goals (first | exact zI | (exact hd) | (intro h;exact h) | (intro h;omega) | (intro t ht;simp [All];done) | simp only [All])
  have hb0:=(hok 0 (Nat.zero_le _)).bar
  have l0:∀ e i,i+e=m→Run Tryz.prog cx 226 zf71 (Q0 m (cM n M) i (cM n (fun i=>Had.prm n (M i)))) Q:=by
    intro e
    induction e with
    | zero =>
      intro i hi
      obtain rfl:i=m:=by omega
      have hd:decide ((i:Int)<(i:Int))=false:=decide_eq_false (by omega)
      by_cases hm0:0<i
      · refine pcZ hc (qzc n i (cM n M) (fun i=>Had.prm n (M i))) ?_ (l1 hm0 n 0 (by omega))
        and_intros
        iterate 2 all_goals (first | exact zN | (exact hd) | (intro t ht;exact absurd ht (Nat.not_lt_zero _)) | (intro t ht;simp [All];done) | simp only [All])
      · obtain rfl:i=0:=by omega
        have hSe:S=Had.rini M:=by
          rw [← hS,show n=0+n by omega]
          exact rrun_full (S:=Had.rini M) (c:=0) rfl n
        have dm:decide (((0:Nat):Int)>0)=false:=decide_eq_false (by omega)
        have hd2:(bif decide (((0:Nat):Int)>0) then decide (((0:Nat):Int)<(n:Int)) else false)=false:=by rw [dm];rfl
        rw [← hQ,hSe]
        refine pcZ hc (qzc n 0 (cM n M) (fun i=>Had.prm n (M i))) ?_ (pkD Tryz.func226 hc (qe n 0 (fun i=>Had.prm n (M i)) 0 (fun _=>0) 0) ?_)
        ·
          and_intros
          iterate 2 all_goals (first | exact zN | (exact hd) | (intro t ht;exact absurd ht (Nat.not_lt_zero _)) | (intro t ht;simp [All];done) | simp only [All])
        ·
          and_intros
          all_goals (first | exact zH | (exact hd2) | (intro h;exact h) | (intro h;rw [dm] at h;cases h) | (intro t ht;exact absurd ht (Nat.not_lt_zero _)) | (intro t ht;simp [All];done))
    | succ e ih =>
      intro i hi
      have hd:decide ((i:Int)<(m:Int))=true:=decide_eq_true (by omega)
      have cc:=con_Clean n (M i) hn (fun k hk=>Int.le_trans (hb0.bnon (Nat.zero_le i) (by omega) hk) (hpow 1 (by omega)))
      refine pcZ hc (qzb m (cM n M) (cM n (fun i=>Had.prm n (M i))) i) ?_ (ih (i+1) (by omega))
      repeat' (first | exact aN | apply aI)
      iterate 2 all_goals (first | exact zI | (exact hd) | (exact cc) | (intro t ht;by_cases h':t<i;exact ⟨by simp [h',cvtL,cvt,tg,tru,idx,idx1,idO,idM,All,Nat.ne_of_lt h'],by simp [h',cvtL,cvt,tg,tru,idx,idx1,idO,idM]⟩;rw [show t=i by omega];exact ⟨by simp [cvtL,cvt,tg,tru,idx,idx1,idO,idM,All],by simp [cvtL,cvt,tg,tru,idx,idx1,idO,idM]⟩) | (intro t ht hne;exact ⟨by omega,by simp [All]⟩) | (intro t ht;simp [All];done) | (intro h;simp [All];done) | simp only [All])
  refine pcZ hc (qza m (cM n M) (cM n (fun i=>Had.prm n (M i)))) ?_ (l0 m 0 (by omega))
  and_intros
  iterate 2 all_goals (first | exact zN | (intro t ht;exact absurd ht (Nat.not_lt_zero _)) | (intro t ht;simp [All];done) | simp only [All])
theorem aft_or (a b:T_Bar):aft a b=true↔a.1<b.1∨(a.1=b.1∧a.2.1≤b.2.1):=by
  unfold aft
  by_cases h1:a.1<b.1
  · simp [h1]
  · by_cases h2:a.1=b.1
    · simp [h2]
    · have:(a.1==b.1)=false:=beq_eq_false_iff_ne.2 h2
      simp [h1,h2]
def AscB (n:Nat) (h:Nat→T_Bar):Prop:=∀ s,s+1<n→aft (h s) (h (s+1))=true
theorem bad_parts {N:Int} {g:Nat→T_Bar} {k:Nat} (h:badB N g k=false):0≤(g k).1∧(g k).1<(g k).2.1∧(g k).2.1<N∧(0<k→aft (g (k - 1)) (g k)=true):=by
  unfold badB at h
  by_cases h1:(g k).1<0
  · rw [decide_eq_true h1] at h;cases h
  by_cases h2:(g k).1≥(g k).2.1
  · rw [decide_eq_false h1,decide_eq_true h2] at h;cases h
  by_cases h3:(g k).2.1≥N
  · rw [decide_eq_false h1,decide_eq_false h2,decide_eq_true h3] at h;cases h
  rw [decide_eq_false h1,decide_eq_false h2,decide_eq_false h3] at h
  refine ⟨by omega,by omega,by omega,fun hk=>?_⟩
  rw [decide_eq_true (show (k:Int)>0 by omega)] at h
  rw [show ((k:Int) - 1).toNat=k - 1 by omega] at h
  simpa using h
theorem asc_of {N nb:Nat} {g:Nat→T_Bar} (hg:isGraphF ((N:Int),(nb,g),())=true):AscB nb g:=by
  have h:=(graph_inR hg).2.2.2
  intro s hs
  have:=(bad_parts (goodB_in (N:Int) g nb h (s+1) hs)).2.2.2 (by omega)
  rwa [show s+1 - 1=s by omega] at this
def fbx (g:Nat→T_Bar) (nb N:Nat) (pl:Nat→T_Place) (np:Nat):Ob:=⟨true,3,1,fun _=>[.p (.int .i64 N),brL g nb,pcL pl np]⟩
def RmI (g:Nat→T_Bar) (nb N:Nat) (pl:Nat→T_Place) (np:Nat) (M:Nat→Nat→Int) (i:Nat):St :=
  ⟨[.p .any,.pt 3 0 0 0,.p .any,.ar 1 1 0 i]++List.replicate 12 anyA++[brL g nb,.p (.int .i64 nb),.p (.int .i64 i)]++List.replicate 68 anyA,[(0,fbx g nb N pl np),(1,ooOb 2 i (cM (2*N) M)),(2,ffOb i (cM (2*N) M))],3⟩
def RmS (g:Nat→T_Bar) (nb N:Nat) (pl:Nat→T_Place) (np:Nat) (M:Nat→Nat→Int) (i:Nat):St :=
  ⟨[.p .any,.pt 3 0 0 0,.p .any,.ar 1 1 0 i,.p (.int .i64 i)]++List.replicate 91 anyA,[(0,fbx g nb N pl np),(1,ooOb 2 i (cM (2*N) M)),(2,ffOb i (cM (2*N) M))],3⟩
theorem rmz (g:Nat→T_Bar) (nb N:Nat) (pl:Nat→T_Place) (np:Nat) (M:Nat→Nat→Int) :
    zT Tryz.f235 [rg 2,rg 2,rm [(1,oc [] (.p (.bool true)))] 1,.dec false,rg 5,.head] [frA g nb N pl np] [0,64] (RmI g nb N pl np M 0) =
    some (zf53,zD [(NT 0 1),zE 128 [.agg [.p (.int .i64 (↑N:Int)),.p (.seq true 2 nb (bRw g)),.p (.seq true 2 np (bRw pl))]] [] (.p (.bool true)),((!true)=false),(AN 0),(AN nb),(AP nb (bRw g)),(AI ((↑nb:Int))),((0:Int)=(↑0:Int)),((([AV.p (PV.int IntKind.i64 (↑N:Int)),brL g nb,pcL pl np].length):Nat)=3),(NL 1 1),(AI ((↑N:Int))),(AN np),(AP np (bRw pl)),(AN 1),(NL 0 0),(∀ i:Nat,(((i:Nat)<0)→(All []∧(([.p (.nil)]:List AV)=[.ar 1 ⟨2,some i⟩ 0 (2*N)]))))] [0,1,2,0,3,3,3,4,5,6,7,8,9,9,10,4,5,11,12,13,14,15,3]):=by kernel_rfl
theorem rmt (g:Nat→T_Bar) (nb N:Nat) (pl:Nat→T_Place) (np:Nat) (M:Nat→Nat→Int) (i:Nat) :
    zM 0 [rg 1,.dec true,rg 4,rg 6,rg 16,rg 23,rg 23,rg 5,rg 2,.head] zf53 (RmI g nb N pl np M i) [0,2435,.ins 2 i 291] 1 (RmI g nb N pl np M (i+1)) =
    some (zf53,zD [((decide ((↑i:Int)<(↑nb:Int)))=true),(IL 0 (↑i:Int)),(IT (↑i:Int) (↑nb:Int)),(NT 0 1),((true=true)→ (AN 1)),(ZLo (2*(↑N:Int))),(ZHi (2*(↑N:Int))),(IL 0 (2*(↑N:Int))),(IL (2*(↑N:Int)) (2*(↑N:Int))),(IL (2*(↑N:Int)*(↑8:Int)) 281474976710656),(IL 0 ((g i).1)),(IT ((g i).1) (↑np:Int)),(IL 0 ((g i).2.1)),(IT ((g i).2.1) (↑np:Int)),(ZLo (2*(g i).1)),(ZHi (2*(g i).1)),(ZLo (2*(g i).1+1)),(ZHi (2*(g i).1+1)),(ZLo ((pl (g i).1.toNat).1 - (pl (g i).2.1.toNat).1)),(ZHi ((pl (g i).1.toNat).1 - (pl (g i).2.1.toNat).1)),(ZLo ((pl (g i).1.toNat).2.1 - (pl (g i).2.1.toNat).2.1)),(ZHi ((pl (g i).1.toNat).2.1 - (pl (g i).2.1.toNat).2.1)),(IL 0 (2*(g i).1)),(IT (2*(g i).1) (↑(2*N):Int)),(NT ((2*(g i).1).toNat) (2*N)),((false=true)→ (((2*N):Nat)=1)),(IL 0 (2*(g i).1+1)),(IT (2*(g i).1+1) (↑(2*N):Int)),(NT ((2*(g i).1+1).toNat) (2*N)),(ZLo (2*(g i).2.1)),(ZHi (2*(g i).2.1)),(ZLo (2*(g i).2.1+1)),(ZHi (2*(g i).2.1+1)),(ZLo ((pl (g i).2.1.toNat).1 - (pl (g i).1.toNat).1)),(ZHi ((pl (g i).2.1.toNat).1 - (pl (g i).1.toNat).1)),(ZLo ((pl (g i).2.1.toNat).2.1 - (pl (g i).1.toNat).2.1)),(ZHi ((pl (g i).2.1.toNat).2.1 - (pl (g i).1.toNat).2.1)),(IL 0 (2*(g i).2.1)),(IT (2*(g i).2.1) (↑(2*N):Int)),(NT ((2*(g i).2.1).toNat) (2*N)),(IL 0 (2*(g i).2.1+1)),(IT (2*(g i).2.1+1) (↑(2*N):Int)),(NT ((2*(g i).2.1+1).toNat) (2*N)),(NL 1 1),(NL i i),(NL ((i+1)*24) 140737488355328),(NL (i+1) 9223372036854775807),(ZLo ((↑i:Int)+1)),(ZHi ((↑i:Int)+1)),(AN 0),(AN ((i+1))),(AN nb),(AP nb (bRw g)),(AI ((↑nb:Int))),((((↑i:Int)+1):Int)=(↑(i+1):Int)),(AN 3),(AI ((↑N:Int))),(AN np),(AP np (bRw pl)),(AN 1),(NL (i+1) (i+1)),(CV [(2435,⟨false,1,(i+1),(fun i_2=>(if (i_2<i) then [.ar 1 ⟨2,some i_2⟩ 0 (2*N)] else [.ar 1 291 0 (2*N)]))⟩),(2403,⟨false,1,1,(fun i_2=>[.ar 1 291 0 (2*N)])⟩),(291,⟨false,1,(2*N),(fun i_2=>(if (i_2=(2*(g i).2.1+1).toNat) then [.p (.int .i64 ((pl (g i).2.1.toNat).2.1 - (pl (g i).1.toNat).2.1))] else (if (i_2=(2*(g i).2.1).toNat) then [.p (.int .i64 ((pl (g i).2.1.toNat).1 - (pl (g i).1.toNat).1))] else (if (i_2=(2*(g i).1+1).toNat) then [.p (.int .i64 ((pl (g i).1.toNat).2.1 - (pl (g i).2.1.toNat).2.1))] else (if (i_2=(2*(g i).1).toNat) then [.p (.int .i64 ((pl (g i).1.toNat).1 - (pl (g i).2.1.toNat).1))] else [.p (.int .i64 0)])))))⟩),(771,⟨true,2,1,(fun i_2=>[.p (.int .i64 ((pl (g i).2.1.toNat).1)),.p (.int .i64 ((pl (g i).2.1.toNat).2.1))])⟩),(739,⟨true,2,1,(fun i_2=>[.p (.int .i64 ((pl (g i).1.toNat).1)),.p (.int .i64 ((pl (g i).1.toNat).2.1))])⟩),(99,⟨true,2,1,(fun i_2=>[.p (.int .i64 ((g i).1)),.p (.int .i64 ((g i).2.1))])⟩),(0,⟨true,3,1,(fun i_2=>[.p (.int .i64 (↑N:Int)),.p (.seq true 2 nb (bRw g)),.p (.seq true 2 np (bRw pl))])⟩),(2,⟨true,0,i,(fun i_2=>[.p (.seq false 1 (2*N) (fun i_3=>[.int .i64 ((cM (2*N) M i_2).2 i_3)]))])⟩)] [0,2435,.ins 2 i 291] 1 (i+1) (fun i_1=>if (i_1<i) then [.ar 1 ⟨2,some i_1⟩ 0 (2*N)] else [.ar 1 291 0 (2*N)]) (fun i_1=>[.ar 1 ⟨2,some i_1⟩ 0 (2*N)])),(∀ i_1:Nat,(((i_1:Nat)<(i+1))→(((i_1:Nat)≠i)→(((i_1:Nat)<i)∧All [(AN 1),(((2*N):Nat)≤(2*N)),(AP ((2*N)) (fun r=>[.int .i64 ((cM (2*N) M i_1).2 r)]))])))),(((i:Nat)<(i+1))→ All [(AN 1),(((2*N):Nat)≤(2*N)),(∀ r:Nat,(((r:Nat)<(2*N))→(([(toP (List.getD ((if (r=(2*(g i).2.1+1).toNat) then [.p (.int .i64 ((pl (g i).2.1.toNat).2.1 - (pl (g i).1.toNat).2.1))] else (if (r=(2*(g i).2.1).toNat) then [.p (.int .i64 ((pl (g i).2.1.toNat).1 - (pl (g i).1.toNat).1))] else (if (r=(2*(g i).1+1).toNat) then [.p (.int .i64 ((pl (g i).1.toNat).2.1 - (pl (g i).2.1.toNat).2.1))] else (if (r=(2*(g i).1).toNat) then [.p (.int .i64 ((pl (g i).1.toNat).1 - (pl (g i).2.1.toNat).1))] else [.p (.int .i64 0)])))):List AV) 0 (.p .any)))]:List PV)=[.int .i64 ((cM (2*N) M i).2 r)])))])] [0,1,2,3,4,3,5,6,7,8,9,6,3,3,10,11,3,3,12,13,3,4,3,4,3,14,15,3,14,15,16,17,3,3,18,19,3,3,20,21,22,23,24,25,26,27,28,25,3,29,30,3,29,30,31,32,3,3,33,34,3,3,35,36,37,38,39,25,40,41,42,25,43,44,45,46,47,48,49,49,50,51,52,53,54,55,43,43,56,51,52,57,58,59,60,61,62,63]):=by kernel_rfl
theorem rme (g:Nat→T_Bar) (nb N:Nat) (pl:Nat→T_Place) (np:Nat) (M:Nat→Nat→Int) (i:Nat) :
    zP Tryz.f235 0 [rg 1,.dec false,rg 2] zf53 (RmI g nb N pl np M i) [1,2] 1 [(0,ooOb 1 i (cM (2*N) M)),(1,ffOb i (cM (2*N) M))] (.ar 1 0 0 i) =
    some [((decide ((↑i:Int)<(↑nb:Int)))=false),(AN 0),(AN i),(AN 1),(NL i i),(AA i (fun i_1=>[.ar 1 ⟨1,some i_1⟩ 0 (2*N)])),(NL i i),(∀ i_1:Nat,(((i_1:Nat)<i)→All [(AN 1),(((2*N):Nat)≤(2*N)),(AP ((2*N)) (fun r=>[.int .i64 ((cM (2*N) M i_1).2 r)]))])),(AE i),(∀ i_1:Nat,(((i_1:Nat)<i)→All [(false=false),(AE ((2*N)))]))]:=by kernel_rfl
theorem rsz (g:Nat→T_Bar) (nb N:Nat) (pl:Nat→T_Place) (np:Nat) (M:Nat→Nat→Int) :
    zT Tryz.f227 [rg 2,rg 2,rg 1,.head] [frA g nb N pl np] [0,64] (RmS g nb N pl np M 0) =
    some (zf72,[(AN 0),(AN 0),(AN 0),((0:Int)=(↑0:Int)),((([AV.p (PV.int IntKind.i64 (↑N:Int)),brL g nb,pcL pl np].length):Nat)=3),(NL 1 1),(NL 1 1),(AI ((↑N:Int))),(AN nb),(AP nb (bRw g)),(AN np),(AP np (bRw pl)),(AN 1),(NL 0 0),(∀ i:Nat,(((i:Nat)<0)→(All []∧(([.p (.nil)]:List AV)=[.ar 1 ⟨2,some i⟩ 0 (2*N)])))),(AN 0)]):=by kernel_rfl
theorem rst (g:Nat→T_Bar) (nb N:Nat) (pl:Nat→T_Place) (np:Nat) (M:Nat→Nat→Int) (i:Nat) :
    zM 0 [rm [(8,oc [] (.p (.bool true)))] 1,.dec true,rg 8,rg 6,rg 16,rg 16,rg 7,rg 8,rg 8,rg 9,rg 5,rg 3,.head] zf72 (RmS g nb N pl np M i) [0,2915,.ins 2 i 707] 1 (RmS g nb N pl np M (i+1)) =
    some (zf72,zD [(NT 0 1),(((decide ((↑i:Int)<(↑nb:Int)))=true)→(NT 0 1)),(AG (decide ((↑i:Int)<(↑nb:Int)))),(((decide ((↑i:Int)<(↑nb:Int)))=true)→ zE 117 [(zf29 N nb g np pl)] [] (.p (.bool true))),((bif decide ((↑i:Int)<(↑nb:Int)) then true else false)=true),(IL 0 (↑i:Int)),(IT (↑i:Int) (↑nb:Int)),((true=true)→ (AN 1)),(ZLo (2*(↑N:Int))),(ZHi (2*(↑N:Int))),(IL 0 (2*(↑N:Int))),(IL (2*(↑N:Int)) (2*(↑N:Int))),(IL (2*(↑N:Int)*(↑8:Int)) 281474976710656),(IL 0 ((g i).1)),(IT ((g i).1) (↑np:Int)),(IL 0 ((g i).2.1)),(IT ((g i).2.1) (↑np:Int)),(ZLo ((pl (g i).1.toNat).1 - (pl (g i).2.1.toNat).1)),(ZHi ((pl (g i).1.toNat).1 - (pl (g i).2.1.toNat).1)),(ZLo ((pl (g i).1.toNat).2.1 - (pl (g i).2.1.toNat).2.1)),(ZHi ((pl (g i).1.toNat).2.1 - (pl (g i).2.1.toNat).2.1)),(ZLo (2*(g i).1)),(ZHi (2*(g i).1)),(IL 0 (2*(g i).1)),(IT (2*(g i).1) (↑(2*N):Int)),(NT ((2*(g i).1).toNat) (2*N)),((false=true)→ (((2*N):Nat)=1)),(ZLo (2*(g i).1+1)),(ZHi (2*(g i).1+1)),(IL 0 (2*(g i).1+1)),(IT (2*(g i).1+1) (↑(2*N):Int)),(NT ((2*(g i).1+1).toNat) (2*N)),(ZLo (2*(g i).2.1)),(ZHi (2*(g i).2.1)),(ZLo (0 - ((pl (g i).1.toNat).1 - (pl (g i).2.1.toNat).1))),(ZHi (0 - ((pl (g i).1.toNat).1 - (pl (g i).2.1.toNat).1))),(IL 0 (2*(g i).2.1)),(IT (2*(g i).2.1) (↑(2*N):Int)),(NT ((2*(g i).2.1).toNat) (2*N)),(ZLo (2*(g i).2.1+1)),(ZHi (2*(g i).2.1+1)),(ZLo (0 - ((pl (g i).1.toNat).2.1 - (pl (g i).2.1.toNat).2.1))),(ZHi (0 - ((pl (g i).1.toNat).2.1 - (pl (g i).2.1.toNat).2.1))),(IL 0 (2*(g i).2.1+1)),(IT (2*(g i).2.1+1) (↑(2*N):Int)),(NT ((2*(g i).2.1+1).toNat) (2*N)),(NL 1 1),(NL i i),(NL ((i+1)*24) 140737488355328),(NL (i+1) 9223372036854775807),(ZLo ((↑i:Int)+1)),(ZHi ((↑i:Int)+1)),(AN 0),(AN ((i+1))),((((↑i:Int)+1):Int)=(↑(i+1):Int)),(AN 3),(AI ((↑N:Int))),(AN nb),(AP nb (bRw g)),(AN np),(AP np (bRw pl)),(AN 1),(NL (i+1) (i+1)),(CV [(2915,⟨false,1,(i+1),(fun i_2=>(if (i_2<i) then [.ar 1 ⟨2,some i_2⟩ 0 (2*N)] else [.ar 1 707 0 (2*N)]))⟩),(2883,⟨false,1,1,(fun i_2=>[.ar 1 707 0 (2*N)])⟩),(707,⟨false,1,(2*N),(fun i_2=>(if (i_2=(2*(g i).2.1+1).toNat) then [.p (.int .i64 (0 - ((pl (g i).1.toNat).2.1 - (pl (g i).2.1.toNat).2.1)))] else (if (i_2=(2*(g i).2.1).toNat) then [.p (.int .i64 (0 - ((pl (g i).1.toNat).1 - (pl (g i).2.1.toNat).1)))] else (if (i_2=(2*(g i).1+1).toNat) then [.p (.int .i64 ((pl (g i).1.toNat).2.1 - (pl (g i).2.1.toNat).2.1))] else (if (i_2=(2*(g i).1).toNat) then [.p (.int .i64 ((pl (g i).1.toNat).1 - (pl (g i).2.1.toNat).1))] else [.p (.int .i64 0)])))))⟩),(515,⟨true,2,1,(fun i_2=>[.p (.int .i64 ((g i).1)),.p (.int .i64 ((g i).2.1))])⟩),(0,⟨true,3,1,(fun i_2=>[.p (.int .i64 (↑N:Int)),.p (.seq true 2 nb (bRw g)),.p (.seq true 2 np (bRw pl))])⟩),(2,⟨true,0,i,(fun i_2=>[.p (.seq false 1 (2*N) (fun i_3=>[.int .i64 ((cM (2*N) M i_2).2 i_3)]))])⟩)] [0,2915,.ins 2 i 707] 1 (i+1) (fun i_1=>if (i_1<i) then [.ar 1 ⟨2,some i_1⟩ 0 (2*N)] else [.ar 1 707 0 (2*N)]) (fun i_1=>[.ar 1 ⟨2,some i_1⟩ 0 (2*N)])),(∀ i_1:Nat,(((i_1:Nat)<(i+1))→(((i_1:Nat)≠i)→(((i_1:Nat)<i)∧All [(AN 1),(((2*N):Nat)≤(2*N)),(AP ((2*N)) (fun r=>[.int .i64 ((cM (2*N) M i_1).2 r)]))])))),(((i:Nat)<(i+1))→ All [(AN 1),(((2*N):Nat)≤(2*N)),(∀ r:Nat,(((r:Nat)<(2*N))→(([(toP (List.getD ((if (r=(2*(g i).2.1+1).toNat) then [.p (.int .i64 (0 - ((pl (g i).1.toNat).2.1 - (pl (g i).2.1.toNat).2.1)))] else (if (r=(2*(g i).2.1).toNat) then [.p (.int .i64 (0 - ((pl (g i).1.toNat).1 - (pl (g i).2.1.toNat).1)))] else (if (r=(2*(g i).1+1).toNat) then [.p (.int .i64 ((pl (g i).1.toNat).2.1 - (pl (g i).2.1.toNat).2.1))] else (if (r=(2*(g i).1).toNat) then [.p (.int .i64 ((pl (g i).1.toNat).1 - (pl (g i).2.1.toNat).1))] else [.p (.int .i64 0)])))):List AV) 0 (.p .any)))]:List PV)=[.int .i64 ((cM (2*N) M i).2 r)])))])] [0,1,2,3,2,4,0,5,6,0,7,0,8,9,10,11,12,9,0,0,13,14,0,0,15,16,17,18,0,0,13,14,0,0,15,16,19,20,0,21,22,23,24,25,26,0,21,22,27,28,29,30,31,26,0,32,33,34,35,36,37,38,26,0,32,33,39,40,41,42,43,44,45,26,46,47,48,49,50,51,52,52,53,54,55,46,46,56,57,58,59,60,61,62,63,64,65]):=by kernel_rfl
theorem rse (g:Nat→T_Bar) (nb N:Nat) (pl:Nat→T_Place) (np:Nat) (M:Nat→Nat→Int) (i:Nat) :
    zP Tryz.f227 0 [rm [(8,oc [] (.p (.bool true)))] 1,.dec false,rg 2] zf72 (RmS g nb N pl np M i) [1,2] 1 [(0,ooOb 1 i (cM (2*N) M)),(1,ffOb i (cM (2*N) M))] (.ar 1 0 0 i) =
    some (zD [(NT 0 1),(((decide ((↑i:Int)<(↑nb:Int)))=true)→(NT 0 1)),(AG (decide ((↑i:Int)<(↑nb:Int)))),(((decide ((↑i:Int)<(↑nb:Int)))=true)→ zE 117 [(zf29 N nb g np pl)] [] (.p (.bool true))),((bif decide ((↑i:Int)<(↑nb:Int)) then true else false)=false),(AN 0),(AN i),(AN 1),(NL i i),(AA i (fun i_1=>[.ar 1 ⟨1,some i_1⟩ 0 (2*N)])),(∀ i_1:Nat,(((i_1:Nat)<i)→All [(AN 1),(((2*N):Nat)≤(2*N)),(AP ((2*N)) (fun r=>[.int .i64 ((cM (2*N) M i_1).2 r)]))])),(AE i),(∀ i_1:Nat,(((i_1:Nat)<i)→All [(false=false),(AE ((2*N)))]))] [0,1,2,3,2,4,5,6,7,8,9,8,10,11,12]):=by kernel_rfl
theorem rkI (n m:Nat) (M M':Nat→Nat→Int) (r:Nat) (p:Nat→Int) (d:Int) :
    zS Tryz.f234 [rg 1,rm [(2,oc (mH n m M' r p) (.tup [.ar 1 0 0 m,.ar 1 2 0 r,.p (.int .i64 d)]))] 7,rg 3] [ssA2 m (cM n M),.p (.int .i64 n)] [] [] (.p (.int .i64 r)) =
    some [zE 317 [.p (.seq true 1 m (fun i=>[.seq true 1 n (fun i_1=>[.int .i64 ((cM n M i).2 i_1)])])),.p (.int .i64 (↑n:Int))] [(0,⟨false,1,m,(fun i=>[.ar 1 ⟨1,some i⟩ 0 n])⟩),(1,⟨true,0,m,(fun i=>[.p (.seq false 1 n (fun i_1=>[.int .i64 ((cM n M' i).2 i_1)]))])⟩),(2,⟨false,1,r,(fun i=>[.p (.int .i64 (p i))])⟩)] (.tup [.ar 1 0 0 m,.ar 1 2 0 r,.p (.int .i64 d)]),(AI ((↑r:Int)))]:=by kernel_rfl
def gA (g:Nat→T_Bar) (k:Nat):Nat:=(g k).1.toNat
def gB (g:Nat→T_Bar) (k:Nat):Nat:=(g k).2.1.toNat
def pX (pl:Nat→T_Place) (v:Nat):Int:=(pl v).1
def pY (pl:Nat→T_Place) (v:Nat):Int:=(pl v).2.1
def rgM (g:Nat→T_Bar) (pl:Nat→T_Place):Nat→Nat→Int:=Had.rg (gA g) (gB g) (pX pl) (pY pl)
theorem inB_iff {x a b:Int}:inB x a b=true↔a≤x∧x≤b:=by simp [inB]
theorem fw_parts {g:Nat→T_Bar} {nb:Nat} {N:Int} {pl:Nat→T_Place} {np:Nat} (h:fwB g nb N pl np=true) :
    isGraphF (N,(nb,g),())=true∧N≤6∧nb≤15∧(np:Int)=N∧(∀ i,i<np→(0≤(pl i).1∧(pl i).1≤4)∧(0≤(pl i).2.1∧(pl i).2.1≤4))∧∀ i,i<nb→brP g pl i=true:=by
  unfold fwB at h
  simp only [Bool.and_eq_true,decide_eq_true_eq,all_iff] at h
  obtain ⟨⟨h1,h2,h3,h4⟩,h5,h6⟩:=h
  refine ⟨h1,h2,h3,h4,fun i hi=>?_,h6⟩
  have:=h5 i hi
  unfold plP at this
  cases hb:inB (pl i).1 0 4 with
  | false=>rw [hb] at this;cases this
  | true =>
    rw [hb] at this
    exact ⟨inB_iff.1 hb,inB_iff.1 this⟩
theorem fw_ok {g:Nat→T_Bar} {nb N:Nat} {pl:Nat→T_Place} {np:Nat} (h:fwB g nb N pl np=true) :
    isGraphF ((N:Int),(nb,g),())=true∧N≤6∧nb≤15∧np=N∧OkBars N nb g∧Had.Bars N nb (gA g) (gB g) (pX pl) (pY pl):=by
  obtain ⟨h1,h2,h3,h4,h5,h6⟩:=fw_parts h
  obtain ⟨hN,hnb,hok⟩:=graph_in h1
  have ha:=asc_of h1
  refine ⟨h1,by omega,h3,by omega,hok,⟨by omega,fun k hk=>?_,fun k hk=>?_,fun v hv=>(h5 v (by omega)).1,fun v hv=>(h5 v (by omega)).2,fun k hk=>?_⟩⟩
  · obtain ⟨a1,a2,a3⟩:=hok k hk
    unfold gA gB
    omega
  · obtain ⟨a1,a2,a3⟩:=hok k (by omega)
    obtain ⟨b1,b2,b3⟩:=hok (k+1) hk
    have h7:=(aft_or _ _).1 (ha k hk)
    have h8:=h6 (k+1) hk
    unfold brP eA at h8
    rw [decide_eq_true (show ((k+1:Nat):Int)>0 by omega),show (((k+1:Nat):Int) - 1).toNat=k by omega] at h8
    simp only [cond_true,Bool.and_true] at h8
    have h9:¬ ((g k).1=(g (k+1)).1∧(g k).2.1=(g (k+1)).2.1):=fun ⟨e1,e2⟩=>by
      rw [e1,e2] at h8;simp at h8
    unfold gA gB
    omega
  · have h8:=h6 k hk
    unfold brP at h8
    have h9:eB g pl k=false:=by
      cases he:eB g pl k with
      | false=>rfl
      | true =>
        rw [he] at h8
        cases hx:(bif decide ((k:Int)>0) then eA g k else false)<;>rw [hx] at h8<;>cases h8
    unfold eB at h9
    unfold pX pY gA gB
    by_cases e1:(pl (g k).1.toNat).1=(pl (g k).2.1.toNat).1
    · by_cases e2:(pl (g k).1.toNat).2.1=(pl (g k).2.1.toNat).2.1
      · rw [e1,e2] at h9;simp at h9
      · exact .inr e2
    · exact .inl e1
theorem tog {c1 c2 c3 c4:Prop} [Decidable c1] [Decidable c2] [Decidable c3] [Decidable c4] (a1 a2 a3 a4:Int) :
    toP (List.getD ((if c1 then [.p (.int .i64 a1)] else (if c2 then [.p (.int .i64 a2)] else (if c3 then [.p (.int .i64 a3)] else (if c4 then [.p (.int .i64 a4)] else [.p (.int .i64 0)])))):List AV) 0 (.p .any)) =
      .int .i64 (if c1 then a1 else if c2 then a2 else if c3 then a3 else if c4 then a4 else 0):=by
  repeat' split
  all_goals rfl
theorem chain_i {a b xA xB yA yB:Int} (h0:0≤a) (h1:a<b) (r:Nat) :
    (if r=(2*b+1).toNat then yB - yA else if r=(2*b).toNat then xB - xA else if r=(2*a+1).toNat then yA - yB else if r=(2*a).toNat then xA - xB else 0)=Had.rv (xA - xB) (yA - yB) a.toNat b.toNat r:=by
  unfold Had.rv
  repeat' split
  all_goals omega
theorem chain_s {a b dx dy:Int} (h0:0≤a) (h1:a<b) (r:Nat) :
    (if r=(2*b+1).toNat then 0 - dy else if r=(2*b).toNat then 0 - dx else if r=(2*a+1).toNat then dy else if r=(2*a).toNat then dx else 0)=Had.rv dx dy a.toNat b.toNat r:=by
  unfold Had.rv
  repeat' split
  all_goals omega
theorem con_RM_i {g:Nat→T_Bar} {nb N:Nat} {pl:Nat→T_Place} {np:Nat} (h:fwB g nb N pl np=true) :
    zE 235 [frA g nb N pl np] [(0,ooOb 1 nb (cM (2*N) (rgM g pl))),(1,ffOb nb (cM (2*N) (rgM g pl)))] (.ar 1 0 0 nb):=by
  obtain ⟨h1,h2,h3,h4,hok,hb⟩:=fw_ok h
  have cf:=con_IsFramework_i g nb N pl np (by omega)
  rw [h] at cf
  refine csZ Tryz.func235 (fun c hc=>?_)
  have lo:∀ d i,i+d=nb→zR c 235 zf53 (RmI g nb N pl np (rgM g pl) i) (Post c [(0,ooOb 1 nb (cM (2*N) (rgM g pl))),(1,ffOb nb (cM (2*N) (rgM g pl)))] (.ar 1 0 0 nb)):=by
    intro d
    induction d with
    | zero =>
      intro i hi
      obtain rfl:i=nb:=by omega
      have hd:decide ((i:Int)<(i:Int))=false:=decide_eq_false (by omega)
      refine pkZ Tryz.func235 hc (rme g i N pl np (rgM g pl) i) ?_
      and_intros
      iterate 2 all_goals (first | exact zN | (exact hd) | (intro t ht;simp [All];done) | simp only [All])
    | succ d ih =>
      intro i hi
      have hd:decide ((i:Int)<(nb:Int))=true:=decide_eq_true (by omega)
      obtain ⟨o1,o2,o3⟩:=hok i (by omega)
      have q1:=hb.gx (gA g i) (by unfold gA;omega)
      have q2:=hb.gx (gB g i) (by unfold gB;omega)
      have q3:=hb.gy (gA g i) (by unfold gA;omega)
      have q4:=hb.gy (gB g i) (by unfold gB;omega)
      unfold pX gA at q1
      unfold pX gB at q2
      unfold pY gA at q3
      unfold pY gB at q4
      have hrow:∀ r,(if r=(2*(g i).2.1+1).toNat then (pl (g i).2.1.toNat).2.1 - (pl (g i).1.toNat).2.1 else if r=(2*(g i).2.1).toNat then (pl (g i).2.1.toNat).1 - (pl (g i).1.toNat).1 else if r=(2*(g i).1+1).toNat then (pl (g i).1.toNat).2.1 - (pl (g i).2.1.toNat).2.1 else if r=(2*(g i).1).toNat then (pl (g i).1.toNat).1 - (pl (g i).2.1.toNat).1 else 0)=rgM g pl i r :=
        fun r=>chain_i o1 o2 r
      refine pcD hc (rmt g nb N pl np (rgM g pl) i) ?_ (ih (i+1) (by omega))
      repeat' (first | exact aN | apply aI)
      iterate 2 all_goals (first | exact zH | (exact hd) | (intro t ht;by_cases h':t<i;exact ⟨by simp [h',cvtL,cvt,tg,tru,idx,idx1,idO,idM,All,Nat.ne_of_lt h'],by simp [h',cvtL,cvt,tg,tru,idx,idx1,idO,idM]⟩;rw [show t=i by omega];exact ⟨by simp [cvtL,cvt,tg,tru,idx,idx1,idO,idM,All],by simp [cvtL,cvt,tg,tru,idx,idx1,idO,idM]⟩) | (intro t ht hne;exact ⟨by omega,by simp [All]⟩) | (intro _;simp only [All,cM];exact ⟨trivial,Nat.le_refl _,fun r hr=>by rw [tog,hrow],trivial⟩) | (intro t ht;simp [All];done) | simp only [All])
  refine pcD hc (rmz g nb N pl np (rgM g pl)) ?_ (lo nb 0 (by omega))
  and_intros
  iterate 2 all_goals (first | exact zN | (exact cf) | (intro t ht;exact absurd ht (Nat.not_lt_zero _)) | (intro t ht;simp [All];done) | simp only [All])
theorem con_RM_s {g:Nat→T_Bar} {nb N:Nat} {pl:Nat→T_Place} {np:Nat} (h:fwB g nb N pl np=true) :
    zE 227 [frA g nb N pl np] [(0,ooOb 1 nb (cM (2*N) (rgM g pl))),(1,ffOb nb (cM (2*N) (rgM g pl)))] (.ar 1 0 0 nb):=by
  obtain ⟨h1,h2,h3,h4,hok,hb⟩:=fw_ok h
  have cf:=con_IsFramework_s g nb N pl np (by omega)
  rw [h] at cf
  refine csZ Tryz.func227 (fun c hc=>?_)
  have lo:∀ d i,i+d=nb→zR c 227 zf72 (RmS g nb N pl np (rgM g pl) i) (Post c [(0,ooOb 1 nb (cM (2*N) (rgM g pl))),(1,ffOb nb (cM (2*N) (rgM g pl)))] (.ar 1 0 0 nb)):=by
    intro d
    induction d with
    | zero =>
      intro i hi
      obtain rfl:i=nb:=by omega
      have hd:decide ((i:Int)<(i:Int))=false:=decide_eq_false (by omega)
      refine pkD Tryz.func227 hc (rse g i N pl np (rgM g pl) i) ?_
      and_intros
      iterate 2 all_goals (first | exact zI | (rw [hd];rfl) | (intro h;exact h) | (intro h;rw [hd] at h;cases h) | (intro t ht;simp [All];done) | simp only [All])
    | succ d ih =>
      intro i hi
      have hd:decide ((i:Int)<(nb:Int))=true:=decide_eq_true (by omega)
      obtain ⟨o1,o2,o3⟩:=hok i (by omega)
      have q1:=hb.gx (gA g i) (by unfold gA;omega)
      have q2:=hb.gx (gB g i) (by unfold gB;omega)
      have q3:=hb.gy (gA g i) (by unfold gA;omega)
      have q4:=hb.gy (gB g i) (by unfold gB;omega)
      unfold pX gA at q1
      unfold pX gB at q2
      unfold pY gA at q3
      unfold pY gB at q4
      have hrow:∀ r,(if r=(2*(g i).2.1+1).toNat then 0 - ((pl (g i).1.toNat).2.1 - (pl (g i).2.1.toNat).2.1) else if r=(2*(g i).2.1).toNat then 0 - ((pl (g i).1.toNat).1 - (pl (g i).2.1.toNat).1) else if r=(2*(g i).1+1).toNat then (pl (g i).1.toNat).2.1 - (pl (g i).2.1.toNat).2.1 else if r=(2*(g i).1).toNat then (pl (g i).1.toNat).1 - (pl (g i).2.1.toNat).1 else 0)=rgM g pl i r :=
        fun r=>chain_s o1 o2 r
      refine pcD hc (rst g nb N pl np (rgM g pl) i) ?_ (ih (i+1) (by omega))
      repeat' (first | exact aN | apply aI)
      iterate 2 all_goals (first | exact zH | (rw [hd];rfl) | (intro _;exact cf) | (intro t ht;by_cases h':t<i;exact ⟨by simp [h',cvtL,cvt,tg,tru,idx,idx1,idO,idM,All,Nat.ne_of_lt h'],by simp [h',cvtL,cvt,tg,tru,idx,idx1,idO,idM]⟩;rw [show t=i by omega];exact ⟨by simp [cvtL,cvt,tg,tru,idx,idx1,idO,idM,All],by simp [cvtL,cvt,tg,tru,idx,idx1,idO,idM]⟩) | (intro t ht hne;exact ⟨by omega,by simp [All]⟩) | (intro _;simp only [All,cM];exact ⟨trivial,Nat.le_refl _,fun r hr=>by rw [tog,hrow],trivial⟩) | (intro h;exact h) | (intro t ht;simp [All];done) | simp only [All])
  refine pcZ hc (rsz g nb N pl np (rgM g pl)) ?_ (lo nb 0 (by omega))
  and_intros
  iterate 2 all_goals (first | exact zN | (intro t ht;exact absurd ht (Nat.not_lt_zero _)) | (intro t ht;simp [All];done) | simp only [All])
theorem con_rank {n m rmx:Nat} {B:Int} {M:Nat→Nat→Int} {K:Nat→Nat→(Nat→Nat→Int)→Prop} (hn:n≤1000) (hm:m≤1000) (hB:1≤B) (hM:B ^ (2*rmx)≤2 ^ 124)
    (hok:∀ c,c≤n→Had.ROK n m rmx B K c (Had.rrun m (Had.rini M) c)) :
    zE 234 [ssA2 m (cM n M),.p (.int .i64 n)] [] (.p (.int .i64 (Had.rrun m (Had.rini M) n).r)):=by
  have cr:=con_reduced hn hm hB hM hok rfl
  generalize Had.rrun m (Had.rini M) n=S at cr ⊢
  refine csZ Tryz.func234 (fun c hc=>?_)
  refine pkZ Tryz.func234 hc (rkI n m M S.A S.r (fun i=>(S.p i:Int)) S.d) ?_
  and_intros
  all_goals (first | exact zN | (exact cr) | rfl)
def lkB (g:Nat→T_Bar) (nb:Nat) (N:Int) (pl:Nat→T_Place) (np:Nat) (K:T_IntS):Bool :=
  fwB g nb N pl np&&(decide (0<K.1)&&(decide (N - (K.1:Int)≤2)&&goodP N K.2 K.1))
theorem goodP_rn {N:Int} {g:Nat→Int}:∀ {n:Nat},goodP N g n=true→∀ i,i<n→0≤g i∧g i<N∧∀ j,j<i→g j<g i
  | 0,_,i,hi=>absurd hi (Nat.not_lt_zero _)
  | n+1,h,i,hi=>by
    simp only [goodP,Bool.and_eq_true,Bool.not_eq_true'] at h
    by_cases e:i=n
    · subst e
      have hb:=h.2
      unfold badP at hb
      have h1:¬ (g i<0):=by intro hh;simp [hh] at hb
      have h2:¬ (g i≥N):=by intro hh;simp [h1,hh] at hb
      refine ⟨by omega,by omega,fun j hj=>?_⟩
      have h3:¬ (g ((i:Int) - 1).toNat≥g i):=by
        intro hh
        rw [decide_eq_false h1,decide_eq_false h2,decide_eq_true hh,decide_eq_true (show (i:Int)>0 by omega)] at hb
        cases hb
      rw [show ((i:Int) - 1).toNat=i - 1 by omega] at h3
      by_cases e2:j=i - 1
      · rw [e2];omega
      · have:=(goodP_rn h.1 (i - 1) (by omega)).2.2 j (by omega)
        omega
    · exact goodP_rn h.1 i (by omega)
theorem asc_le {N:Nat} {u:T_IntS} (hin:∀ i,i<u.1→0≤u.2 i∧u.2 i<(N:Int)∧∀ j,j<i→u.2 j<u.2 i):u.1≤N:=by
  have key:∀ i,i<u.1→(i:Int)≤u.2 i:=by
    intro i
    induction i with
    | zero=>intro hi;exact (hin 0 hi).1
    | succ i ih =>
      intro hi
      have:=ih (by omega)
      have:=(hin (i+1) hi).2.2 i (by omega)
      omega
  rcases Nat.eq_zero_or_pos u.1 with h0 | h0
  · omega
  · have h1:=key (u.1 - 1) (by omega)
    have h2:u.2 (u.1 - 1)<(N:Int):=(hin (u.1 - 1) (by omega)).2.1
    omega
theorem lk_ok {g:Nat→T_Bar} {nb:Nat} {N:Int} {pl:Nat→T_Place} {np:Nat} {K:T_IntS} (h:lkB g nb N pl np K=true) :
    fwB g nb N pl np=true∧N=np∧np≤6∧0<K.1∧K.1≤np∧np≤K.1+2∧goodP N K.2 K.1=true∧∀ i,i<K.1→0≤K.2 i∧K.2 i<(np:Int)∧∀ j,j<i→K.2 j<K.2 i:=by
  unfold lkB at h
  simp only [Bool.and_eq_true,decide_eq_true_eq] at h
  obtain ⟨hf,h1,h2,h3⟩:=h
  obtain ⟨p1,p2,p3,p4,p5,p6⟩:=fw_parts hf
  have hin:=goodP_rn h3
  rw [← p4] at hin
  have:=asc_le (N:=np) (u:=K) hin
  exact ⟨hf,p4.symm,by omega,h1,this,by omega,h3,hin⟩
theorem con_lk_i (g:Nat→T_Bar) (nb:Nat) (N:Int) (pl:Nat→T_Place) (np:Nat) (K:T_IntS) (hn:nb≤1048576∧np≤1048576) (hK:K.1≤1048576) :
    zE 270 [tsA g nb N pl np K] [] (.p (.bool (lkB g nb N pl np K))):=by
  have cf:=con_IsFramework_i g nb N pl np hn
  refine csZ Tryz.func270 (fun c hc=>?_)
  cases hf:fwB g nb N pl np with
  | false =>
    rw [hf] at cf
    rw [show lkB g nb N pl np K=false by unfold lkB;rw [hf];rfl]
    refine pkD Tryz.func270 hc (lkn g nb N pl np K false) ?_
    and_intros
    all_goals (first | exact zH | (exact cf) | (simp;done) | (intro h;simp at h))
  | true =>
    rw [hf] at cf
    obtain ⟨p1,p2,p3,p4,p5,p6⟩:=fw_parts hf
    have hg:=graph_inR p1
    by_cases h1:0<K.1∧N - (K.1:Int)≤2
    · have hd:(bif bif !true then true else (K.1:Int)==0 then true else decide (N - (K.1:Int)>2))=false:=by
        rw [show ((K.1:Int)==0)=false from beq_eq_false_iff_ne.2 (by omega),decide_eq_false (show ¬ (N - (K.1:Int)>2) by omega)];rfl
      have hN:1≤N∧N≤8:=⟨hg.1,by omega⟩
      have hlk:lkB g nb N pl np K=goodP N K.2 K.1:=by unfold lkB;rw [hf,decide_eq_true h1.1,decide_eq_true h1.2];rfl
      rw [hlk]
      have lo:∀ d k,k+d=K.1→goodP N K.2 k=true→zR c 270 zf64 (lkS g nb N pl np K k) (Post c [] (.p (.bool (goodP N K.2 K.1)))):=by
        intro d
        induction d with
        | zero =>
          intro k hk hgd
          have hdk:decide ((k:Int)<(K.1:Int))=false:=decide_eq_false (by omega)
          rw [show goodP N K.2 K.1=true by rw [show K.1=k by omega];exact hgd]
          refine pkZ Tryz.func270 hc (lke g nb N pl np K k) ?_
          and_intros
          all_goals (first | exact zN | (exact hdk))
        | succ d ih =>
          intro k hk hgd
          have hdk:decide ((k:Int)<(K.1:Int))=true:=decide_eq_true (by omega)
          have hb:zE 205 [gzA g nb N,.p (.int .i64 (K.2 k))] [] (.p (.bool (inB (K.2 k) 0 (N - 1)))):=con_Graphhas (N,(nb,g),()) (K.2 k) hN.1 hN.2
          cases he:badP N K.2 k with
          | true =>
            rw [goodP_bad N K.2 k he K.1 (by omega)]
            have he':=bad_in N K.2 k he
            refine pkD Tryz.func270 hc (lkc g nb N pl np K k (inB (K.2 k) 0 (N - 1))) ?_
            and_intros
            all_goals (first | exact zH | (exact hdk) | (exact hb) | (exact he') | (intro h;simp at h;omega))
          | false =>
            have he':=bad_in N K.2 k he
            refine pcD hc (lkb g nb N pl np K k (inB (K.2 k) 0 (N - 1))) ?_ (ih (k+1) (by omega) (by rw [goodP,hgd,he];rfl))
            and_intros
            all_goals (first | exact zH | (exact hdk) | (exact hb) | (exact he') | (intro h;simp at h;omega))
      refine pcD hc (lkz g nb N pl np K) ?_ (lo K.1 0 (by omega) rfl)
      and_intros
      all_goals (first | exact zH | (exact cf) | (exact hd) | (intro _;omega) | (simp;done))
    · have hd:(bif bif !true then true else (K.1:Int)==0 then true else decide (N - (K.1:Int)>2))=true:=by
        show (bif (K.1:Int)==0 then true else decide (N - (K.1:Int)>2))=true
        cases h0:((K.1:Int)==0) with
        | true=>rfl
        | false =>
          have:=beq_eq_false_iff_ne.1 h0
          rw [decide_eq_true (show N - (K.1:Int)>2 by omega)];rfl
      have hlk:lkB g nb N pl np K=false:=by
        unfold lkB;rw [hf]
        by_cases h2:0<K.1
        · rw [decide_eq_true h2,decide_eq_false (show ¬ (N - (K.1:Int)≤2) by omega)];rfl
        · rw [decide_eq_false h2];rfl
      rw [hlk]
      refine pkD Tryz.func270 hc (lkn g nb N pl np K true) ?_
      and_intros
      all_goals (first | exact zH | (exact cf) | (exact hd) | (intro _;omega) | (intro h;exact h) | (simp;done))
theorem con_lk_s (g:Nat→T_Bar) (nb:Nat) (N:Int) (pl:Nat→T_Place) (np:Nat) (K:T_IntS) (hn:nb≤1048576∧np≤1048576) (hK:K.1≤1048576) :
    zE 265 [tsA g nb N pl np K] [] (.p (.bool (lkB g nb N pl np K))):=by
  have cf:=con_IsFramework_s g nb N pl np hn
  have ci:=con_l1In ((np:Int) - (K.1:Int)) 0 2
  have key:goodP np K.2 K.1=true→lkB g nb N pl np K=(bif bif fwB g nb N pl np then inB ((np:Int) - (K.1:Int)) 0 2 else false then decide ((K.1:Int)>0) else false):=by
    intro hgd
    cases hf:fwB g nb N pl np with
    | false=>unfold lkB;rw [hf];rfl
    | true =>
      obtain ⟨p1,p2,p3,p4,p5,p6⟩:=fw_parts hf
      have hle:=asc_le (N:=np) (u:=K) (goodP_rn hgd)
      unfold lkB
      rw [hf,← p4,hgd]
      have e1:inB ((np:Int) - (K.1:Int)) 0 2=decide ((np:Int) - (K.1:Int)≤2):=by
        unfold inB;rw [decide_eq_true (show (0:Int)≤(np:Int) - (K.1:Int) by omega)];rfl
      have e2:decide ((K.1:Int)>0)=decide (0<K.1):=by rw [decide_eq_decide];omega
      rw [e1,e2]
      cases decide (0<K.1)<;>cases decide ((np:Int) - (K.1:Int)≤2)<;>rfl
  have nkey:∀ k,k<K.1→badP np K.2 k=true→lkB g nb N pl np K=false:=by
    intro k hk he
    unfold lkB
    cases hf:fwB g nb N pl np with
    | false=>rfl
    | true =>
      obtain ⟨p1,p2,p3,p4,p5,p6⟩:=fw_parts hf
      rw [← p4,goodP_bad _ K.2 k he K.1 hk];simp
  refine csZ Tryz.func265 (fun c hc=>?_)
  have lo:∀ d k,k+d=K.1→goodP np K.2 k=true→zR c 265 zf65 (llS g nb N pl np K ((np:Int) - (K.1:Int)) k) (Post c [] (.p (.bool (lkB g nb N pl np K)))):=by
    intro d
    induction d with
    | zero =>
      intro k hk hgd
      have hdk:decide ((k:Int)<(K.1:Int))=false:=decide_eq_false (by omega)
      rw [key (by rw [show K.1=k by omega];exact hgd)]
      refine pkD Tryz.func265 hc (lle g nb N pl np K ((np:Int) - (K.1:Int)) k _ _) ?_
      and_intros
      all_goals (first | exact zI | (exact hdk) | (exact cf) | (intros;exact ci))
    | succ d ih =>
      intro k hk hgd
      have hdk:decide ((k:Int)<(K.1:Int))=true:=decide_eq_true (by omega)
      cases he:badP np K.2 k with
      | true =>
        rw [nkey k (by omega) he]
        have he':=he
        unfold badP at he'
        refine pkD Tryz.func265 hc (llc g nb N pl np K ((np:Int) - (K.1:Int)) k) ?_
        and_intros
        all_goals (first | exact zH | (exact hdk) | (exact he') | (intro h;simp at h;omega))
      | false =>
        have he':=he
        unfold badP at he'
        refine pcD hc (llb g nb N pl np K ((np:Int) - (K.1:Int)) k) ?_ (ih (k+1) (by omega) (by rw [goodP,hgd,he];rfl))
        and_intros
        all_goals (first | exact zH | (exact hdk) | (exact he') | (intro h;simp at h;omega))
  refine pcD hc (llz g nb N pl np K) ?_ (lo K.1 0 (by omega) rfl)
  and_intros
  all_goals (first | exact zN | (simp;omega))
def fjP (K:T_IntS) (v:Nat):Bool:=!hasI K.2 (v:Int) K.1
def fjF (g:Nat→T_Bar) (nb:Nat) (N:Int) (pl:Nat→T_Place) (np:Nat) (K:T_IntS):T_IntS:=if lkB g nb N pl np K=true then flt (fjP K) np else (0,fun _=>0)
theorem con_fj_i (g:Nat→T_Bar) (nb:Nat) (N:Int) (pl:Nat→T_Place) (np:Nat) (K:T_IntS) (hn:nb≤1048576∧np≤1048576) (hK:K.1≤1048576) :
    zE 271 [tsA g nb N pl np K] [(0,iOb (fjF g nb N pl np K).1 (fjF g nb N pl np K).2)] (.ar 1 0 0 (fjF g nb N pl np K).1):=by
  have cl:=con_lk_i g nb N pl np K hn hK
  refine csZ Tryz.func271 (fun c hc=>?_)
  unfold fjF
  cases hl:lkB g nb N pl np K with
  | false =>
    rw [hl] at cl
    rw [if_neg Bool.false_ne_true]
    refine pkZ Tryz.func271 hc (fjn g nb N pl np K) ?_
    and_intros
    all_goals (first | exact zN | (exact cl) | (intro t ht;exact absurd ht (Nat.not_lt_zero _)) | (intro t ht;simp [All]))
  | true =>
    rw [hl] at cl
    rw [if_pos rfl]
    generalize hX:flt (fjP K) np=X
    have lo:∀ d k,k+d=np→zR c 271 zf51 (fjS g nb N pl np K (flt (fjP K) k).1 (flt (fjP K) k).2 k) (Post c [(0,iOb X.1 X.2)] (.ar 1 0 0 X.1)):=by
      intro d
      induction d with
      | zero =>
        intro k hk
        have hd:decide ((k:Int)<(np:Int))=false:=decide_eq_false (by omega)
        rw [show k=np by omega] at hd ⊢
        rw [hX]
        refine pkZ Tryz.func271 hc (fje g nb N pl np K X.1 X.2 np) ?_
        and_intros
        all_goals (first | exact zN | (exact hd) | (intro t ht;simp [All]))
      | succ d ih =>
        intro k hk
        have hd:decide ((k:Int)<(np:Int))=true:=decide_eq_true (by omega)
        have hrec:=ih (k+1) (by omega)
        have ch:=con_Contains K (k:Int) hK
        have hln:=flt_n (fjP K) k
        cases hh:hasI K.2 (k:Int) K.1 with
        | true =>
          rw [hh] at ch
          rw [flt_f (p:=fjP K) (i:=k) (by unfold fjP;rw [hh];rfl)] at hrec
          refine pcD hc (fjf g nb N pl np K _ _ k) ?_ hrec
          and_intros
          all_goals (first | exact zN | (exact hd) | (exact ch) | (intro t ht;simp [All];done) | (simp;omega))
        | false =>
          rw [hh] at ch
          rw [flt_t (p:=fjP K) (i:=k) (by unfold fjP;rw [hh];rfl)] at hrec
          generalize flt (fjP K) k=q at hrec hln ⊢
          refine pcD hc (fjt g nb N pl np K q.1 q.2 k) ?_ hrec
          and_intros
          all_goals (first | exact zN | (exact hd) | (exact ch) | (intro t ht;by_cases h':t<q.1<;>(simp [h',cvtL,cvt,tg,tru,All];done)) | (intro t ht;simp [All];done) | (simp;omega))
    refine pcD hc (fjz g nb N pl np K) ?_ (lo np 0 (by omega))
    and_intros
    all_goals (first | exact zN | (exact cl) | (intro t ht;exact absurd ht (Nat.not_lt_zero _)) | (intro t ht;simp [All];done) | (simp;done))
theorem con_fj_s (g:Nat→T_Bar) (nb:Nat) (N:Int) (pl:Nat→T_Place) (np:Nat) (K:T_IntS) (hn:nb≤1048576∧np≤1048576) (hK:K.1≤1048576) :
    zE 264 [tsA g nb N pl np K] [(0,iOb (fjF g nb N pl np K).1 (fjF g nb N pl np K).2)] (.ar 1 0 0 (fjF g nb N pl np K).1):=by
  have cl:=con_lk_s g nb N pl np K hn hK
  refine csZ Tryz.func264 (fun c hc=>?_)
  unfold fjF
  cases hl:lkB g nb N pl np K with
  | false =>
    rw [hl] at cl
    rw [if_neg Bool.false_ne_true]
    have hd:(bif decide (((0:Nat):Int)<(np:Int)) then false else false)=false:=by cases decide (((0:Nat):Int)<(np:Int))<;>rfl
    have he:zR c 264 zf66 (fkS g nb N pl np K 0 (fun _=>0) 0) (Post c [(0,iOb 0 (fun _=>0))] (.ar 1 0 0 0)):=by
      refine pkD Tryz.func264 hc (fke g nb N pl np K 0 (fun _=>0) 0 false) ?_
      and_intros
      all_goals (first | exact zI | (exact hd) | (intros;exact cl) | (intro t ht;exact absurd ht (Nat.not_lt_zero _)) | (intro t ht;simp [All]))
    refine pcD hc (fkz g nb N pl np K) ?_ he
    and_intros
    all_goals (first | exact zN | (intro t ht;exact absurd ht (Nat.not_lt_zero _)) | (intro t ht;simp [All];done) | (simp;done))
  | true =>
    rw [hl] at cl
    rw [if_pos rfl]
    generalize hX:flt (fjP K) np=X
    have lo:∀ d k,k+d=np→zR c 264 zf66 (fkS g nb N pl np K (flt (fjP K) k).1 (flt (fjP K) k).2 k) (Post c [(0,iOb X.1 X.2)] (.ar 1 0 0 X.1)):=by
      intro d
      induction d with
      | zero =>
        intro k hk
        have hd:(bif decide ((k:Int)<(np:Int)) then true else false)=false:=by rw [decide_eq_false (show ¬ ((k:Int)<(np:Int)) by omega)];rfl
        rw [show k=np by omega] at hd ⊢
        rw [hX]
        refine pkD Tryz.func264 hc (fke g nb N pl np K X.1 X.2 np true) ?_
        and_intros
        all_goals (first | exact zI | (exact hd) | (intros;exact cl) | (intro t ht;simp [All]))
      | succ d ih =>
        intro k hk
        have hd:(bif decide ((k:Int)<(np:Int)) then true else false)=true:=by rw [decide_eq_true (show ((k:Int)<(np:Int)) by omega)];rfl
        have hrec:=ih (k+1) (by omega)
        have ch:=con_l2Has K (k:Int) hK
        have hln:=flt_n (fjP K) k
        cases hh:hasI K.2 (k:Int) K.1 with
        | true =>
          rw [hh] at ch
          rw [flt_f (p:=fjP K) (i:=k) (by unfold fjP;rw [hh];rfl)] at hrec
          refine pcD hc (fkf g nb N pl np K _ _ k) ?_ hrec
          and_intros
          all_goals (first | exact zI | (exact hd) | (intros;exact cl) | (exact ch) | (intro t ht;simp [All];done) | (simp;omega))
        | false =>
          rw [hh] at ch
          rw [flt_t (p:=fjP K) (i:=k) (by unfold fjP;rw [hh];rfl)] at hrec
          generalize flt (fjP K) k=q at hrec hln ⊢
          refine pcD hc (fkt g nb N pl np K q.1 q.2 k) ?_ hrec
          and_intros
          all_goals (first | exact zI | (exact hd) | (intros;exact cl) | (exact ch) | (intro t ht;by_cases h':t<q.1<;>(simp [h',cvtL,cvt,tg,tru,All];done)) | (intro t ht;simp [All];done) | (simp;omega))
    refine pcD hc (fkz g nb N pl np K) ?_ (lo np 0 (by omega))
    and_intros
    all_goals (first | exact zN | (intro t ht;exact absurd ht (Nat.not_lt_zero _)) | (intro t ht;simp [All];done) | (simp;done))
def InG (P:Nat→T_Place) (n:Nat):Prop:=∀ v,v<n→(0≤(P v).1∧(P v).1≤4)∧(0≤(P v).2.1∧(P v).2.1≤4)
theorem sq16 {x:Int} (h:-4≤x∧x≤4):0≤x*x∧x*x≤16:=by
  have:x = -4∨x = -3∨x = -2∨x = -1∨x=0∨x=1∨x=2∨x=3∨x=4:=by omega
  rcases this with e | e | e | e | e | e | e | e | e<;>subst e<;>decide
theorem con_sqa {g:Nat→T_Bar} {nb:Nat} {N:Int} {pl:Nat→T_Place} {np:Nat} (h:InG pl np) {x y:Int} (hx:0≤x∧x<np) (hy:0≤y∧y<np) :
    zE 335 [frA g nb N pl np,.p (.int .i64 x),.p (.int .i64 y)] [] (.p (.int .i64 (sqF pl x.toNat y.toNat))):=by
  obtain ⟨a,rfl⟩:∃ a:Nat,x=a:=⟨x.toNat,by omega⟩
  obtain ⟨b,rfl⟩:∃ b:Nat,y=b:=⟨y.toNat,by omega⟩
  have h1:=h a (by omega)
  have h2:=h b (by omega)
  have q1:=sq16 (x:=(pl a).1 - (pl b).1) (by omega)
  have q2:=sq16 (x:=(pl a).2.1 - (pl b).2.1) (by omega)
  refine csZ Tryz.func335 (fun c hc=>?_)
  refine pkD Tryz.func335 hc (sqa g nb N pl np a b) ?_
  and_intros
  all_goals (first | exact zN | omega)
theorem con_sqb {P:Nat→T_Place} {n:Nat} (h:InG P n) {x y:Int} (hx:0≤x∧x<n) (hy:0≤y∧y<n) :
    zE 335 [.agg [.p (.int .i64 0),.p .nil,pcL P n],.p (.int .i64 x),.p (.int .i64 y)] [] (.p (.int .i64 (sqF P x.toNat y.toNat))):=by
  obtain ⟨a,rfl⟩:∃ a:Nat,x=a:=⟨x.toNat,by omega⟩
  obtain ⟨b,rfl⟩:∃ b:Nat,y=b:=⟨y.toNat,by omega⟩
  have h1:=h a (by omega)
  have h2:=h b (by omega)
  have q1:=sq16 (x:=(P a).1 - (P b).1) (by omega)
  have q2:=sq16 (x:=(P a).2.1 - (P b).2.1) (by omega)
  refine csZ Tryz.func335 (fun c hc=>?_)
  refine pkD Tryz.func335 hc (sqb P n a b) ?_
  and_intros
  all_goals (first | exact zN | omega)
def slD (g:Nat→T_Bar) (pl:Nat→T_Place):Nat→T_IntS
  | 0=>(0,fun _=>0)
  | c+1=>(c+1,fun s=>if s<c then (slD g pl c).2 s else sqF pl (g c).1.toNat (g c).2.1.toNat)
theorem slD_at (g:Nat→T_Bar) (pl:Nat→T_Place):∀ c s,s<c→(slD g pl c).2 s=sqF pl (g s).1.toNat (g s).2.1.toNat
  | 0,s,h=>absurd h (Nat.not_lt_zero _)
  | c+1,s,h=>by
    show (if s<c then (slD g pl c).2 s else sqF pl (g c).1.toNat (g c).2.1.toNat)=_
    by_cases e:s<c
    · rw [if_pos e];exact slD_at g pl c s e
    · rw [if_neg e,show s=c by omega]
theorem con_SqL {g:Nat→T_Bar} {nb N:Nat} {pl:Nat→T_Place} {np:Nat} (hf:fwB g nb N pl np=true) :
    zE 363 [frA g nb N pl np] [(0,iOb nb (slD g pl nb).2)] (.ar 1 0 0 nb):=by
  obtain ⟨h1,h2,h3,h4,hok,hb⟩:=fw_ok hf
  have hin:InG pl np:=(fw_parts hf).2.2.2.2.1
  have cf:=con_IsFramework_s g nb N pl np (by omega)
  rw [hf] at cf
  refine csZ Tryz.func363 (fun c hc=>?_)
  have lo:∀ d k,k+d=nb→zR c 363 zf67 (slS g nb N pl np k (slD g pl k).2) (Post c [(0,iOb nb (slD g pl nb).2)] (.ar 1 0 0 nb)):=by
    intro d
    induction d with
    | zero =>
      intro k hk
      have hd:(bif decide ((k:Int)<(nb:Int)) then true else false)=false:=by rw [decide_eq_false (show ¬ ((k:Int)<(nb:Int)) by omega)];rfl
      rw [show k=nb by omega] at hd ⊢
      refine pkD Tryz.func363 hc (sqe g nb N pl np nb _) ?_
      and_intros
      all_goals (first | exact zI | (exact hd) | (intros;exact cf) | (intro t ht;simp [All]))
    | succ d ih =>
      intro k hk
      have hd:(bif decide ((k:Int)<(nb:Int)) then true else false)=true:=by rw [decide_eq_true (show ((k:Int)<(nb:Int)) by omega)];rfl
      have hrec:=ih (k+1) (by omega)
      have hbk:=hok k (by omega)
      have p1:=hin (g k).1.toNat (by omega)
      have p2:=hin (g k).2.1.toNat (by omega)
      have q1:=sq16 (x:=(pl (g k).1.toNat).1 - (pl (g k).2.1.toNat).1) (by omega)
      have q2:=sq16 (x:=(pl (g k).1.toNat).2.1 - (pl (g k).2.1.toNat).2.1) (by omega)
      refine pcD hc (sqt g nb N pl np k (slD g pl k).2) ?_ hrec
      and_intros
      all_goals (first | exact zI | (exact hd) | (intros;exact cf) | omega | (intro t ht;by_cases h':t<k<;>(simp [h',sqF,cvtL,cvt,tg,tru,All];done)) | (intro t ht;simp [All];done) | (simp;omega))
  refine pcD hc (sqz g nb N pl np) ?_ (lo nb 0 (by omega))
  and_intros
  all_goals (first | exact zN | (intro t ht;exact absurd ht (Nat.not_lt_zero _)) | (intro t ht;simp [All];done) | (simp;done))
end Go.Proofs.YtkkjoghiigiokaaGreat.Mach
