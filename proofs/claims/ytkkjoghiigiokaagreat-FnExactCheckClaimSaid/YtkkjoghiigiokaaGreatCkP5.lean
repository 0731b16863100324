/- What the law Ck needs, part 5 of 6: the abstract machine and the contracts of the functions. Conditions: as each theorem says. -/
import Derived.Shelf.SlGeneric
import Derived.Ground.SlgmProg
import Derived.Ground.SlgnProg
import Derived.Shelf.SortM.Plain
import Derived.Shelf.SortM.SortNone
import Derived.Shelf.SlicesG.CompactI
import Derived.Test.YtkkjoghiigiokaaGreatCkP4
namespace Go.Proofs.YtkkjoghiigiokaaGreat.Mach
open Go
set_option linter.unusedVariables false
set_option linter.unusedSimpArgs false
def ArI (v:T_IntS) (n:Int) (i:Nat):St:=⟨[inL v,.p (.int .i64 n)]++List.replicate 5 anyA++[inL v,.p (.int .i64 v.1),.p (.int .i64 i)]++List.replicate 11 anyA,[],0⟩
def VcS (g:Nat→T_Bar) (nb:Nat) (N:Int) (pl:Nat→T_Place) (np:Nat) (v:T_IntS) (i:Nat):St :=
  ⟨[.p .any,inL v,.pt 3 0 0 0,.p .any,.p .any,.p (.int .i64 i)]++List.replicate 23 anyA,[(0,⟨true,3,1,fun _=>[.p (.int .i64 N),brL g nb,pcL pl np]⟩)],1⟩
def TI0 (g:Nat→T_Bar) (nb N:Nat) (pl:Nat→T_Place) (np:Nat) (v:T_IntS) (i:Nat):St :=
  ⟨[.p .any,inL v,.pt 3 0 0 0,.p .any,.p .any,.p (.int .i64 0),.p (.int .i64 1)]++List.replicate 13 anyA++[pcL pl np,.p (.int .i64 np),.p (.int .i64 i)]++List.replicate 117 anyA,[(0,fbx g nb N pl np)],1⟩
def TI1 (g:Nat→T_Bar) (nb N:Nat) (pl:Nat→T_Place) (np:Nat) (v:T_IntS) (num den:Int) (i:Nat):St :=
  ⟨[.p .any,inL v,.pt 3 0 0 0,.p .any,.p .any,.p (.int .i64 num),.p (.int .i64 den)]++List.replicate 75 anyA++[pcL pl np,.p (.int .i64 np),.p (.int .i64 i)]++List.replicate 55 anyA,[(0,fbx g nb N pl np)],1⟩
def TS0 (g:Nat→T_Bar) (nb:Nat) (N:Int) (pl:Nat→T_Place) (np:Nat) (v:T_IntS) (a:Nat):St :=
  ⟨[.p .any,inL v,.pt 3 0 0 0,.p .any,.p .any,.p (.int .i64 a)]++List.replicate 73 anyA,[(0,⟨true,3,1,fun _=>[.p (.int .i64 N),brL g nb,pcL pl np]⟩)],1⟩
def TS1 (g:Nat→T_Bar) (nb N:Nat) (pl:Nat→T_Place) (np:Nat) (v:T_IntS) (a b:Nat):St :=
  ⟨[.p .any,inL v,.pt 3 0 0 0,.p .any,.p .any,.p (.int .i64 a),.p (.int .i64 b)]++List.replicate 72 anyA,[(0,fbx g nb N pl np)],1⟩
def TF0 (g:Nat→T_Bar) (nb N:Nat) (pl:Nat→T_Place) (np:Nat) (v:T_IntS) (a:Nat):St :=
  ⟨[.p .any,inL v,.pt 3 0 0 0,.p .any,.p .any,.p (.int .i64 a)]++List.replicate 148 anyA,[(0,fbx g nb N pl np)],1⟩
def TF1 (g:Nat→T_Bar) (nb N:Nat) (pl:Nat→T_Place) (np:Nat) (v:T_IntS) (a b:Nat):St :=
  ⟨[.p .any,inL v,.pt 3 0 0 0,.p .any,.p .any,.p (.int .i64 a),.p (.int .i64 b)]++List.replicate 147 anyA,[(0,fbx g nb N pl np)],1⟩
theorem arz (v:T_IntS) (n:Int) :
    pieceOb Tryz.prog 0 [rg 1,rg 3,.head] [.code (bodyOf Tryz.f348)] (start Tryz.f348 [] 0 [inL v,.p (.int .i64 n)]) [] 1 (ArI v n 0) =
    some (zf97,[(AN v.1),(AP v.1 (fun i=>[.int .i64 (v.2 i)])),(AI n),(AN v.1),(AP v.1 (fun i=>[.int .i64 (v.2 i)])),(AI ((↑v.1:Int))),((0:Int)=(↑0:Int))]):=by kernel_rfl
theorem art (v:T_IntS) (n:Int) (i:Nat) :
    pieceOb Tryz.prog 0 [rg 1,.dec true,rg 3,rm [(1,oc [] (.p (.bool true)))] 1,.dec false,rg 2,.head] zf97 (ArI v n i) [] 1 (ArI v n (i+1)) =
    some (zf97,[((decide ((↑i:Int)<(↑v.1:Int)))=true),(IL 0 (↑i:Int)),(IT (↑i:Int) (↑v.1:Int)),Con Tryz.prog 179 0 [] [.p (.int .i64 (v.2 i)),.p (.int .i64 (-10000000000)),.p (.int .i64 10000000000)] [] (.p (.bool true)),((!true)=false),(ZLo ((↑i:Int)+1)),(ZHi ((↑i:Int)+1)),(AN v.1),(AP v.1 (fun i_1=>[.int .i64 (v.2 i_1)])),(AI n),(AN v.1),(AP v.1 (fun i_1=>[.int .i64 (v.2 i_1)])),(AI ((↑v.1:Int))),((((↑i:Int)+1):Int)=(↑(i+1):Int))]):=by kernel_rfl
theorem arf (v:T_IntS) (n:Int) (i:Nat) :
    pathOb Tryz.prog Tryz.f348 0 [rg 1,.dec true,rg 3,rm [(1,oc [] (.p (.bool false)))] 1,.dec true,rg 1] zf97 (ArI v n i) [] 1 [] (.p (.bool false)) =
    some [((decide ((↑i:Int)<(↑v.1:Int)))=true),(IL 0 (↑i:Int)),(IT (↑i:Int) (↑v.1:Int)),Con Tryz.prog 179 0 [] [.p (.int .i64 (v.2 i)),.p (.int .i64 (-10000000000)),.p (.int .i64 10000000000)] [] (.p (.bool false)),((!false)=true),(false=false)]:=by kernel_rfl
theorem are (v:T_IntS) (n:Int) (i:Nat) :
    pathOb Tryz.prog Tryz.f348 0 [rg 1,.dec false,rg 5] zf97 (ArI v n i) [] 1 [] (.p (.bool ((v.1:Int)==n))) =
    some [((decide ((↑i:Int)<(↑v.1:Int)))=false),(((↑v.1:Int)==n)=((↑v.1:Int)==n))]:=by kernel_rfl
theorem ivR (g:Nat→T_Bar) (nb:Nat) (N:Int) (pl:Nat→T_Place) (np:Nat) (v:T_IntS) (b1 b2:Bool) :
    pathOb Tryz.prog Tryz.f305 0 [rg 2,rm [(1,oc [] (.p (.bool b1))),(6,oc [] (.p (.bool b2)))] 2] [.code (bodyOf Tryz.f305)] (start Tryz.f305 [] 0 [frA g nb N pl np,inL v]) [] 1 [] (.p (.bool (bif b1 then b2 else false))) =
    some [(NT 0 1),Con Tryz.prog 128 0 [] [(zf35 N nb g np pl)] [] (.p (.bool b1)),(AG b1),(AG b1),((b1=true)→(NT 0 1)),(AG b1),((b1=true)→(ZLo (2*N))),((b1=true)→(ZHi (2*N))),(AG b1),(AG b1),((b1=true)→ Con Tryz.prog 348 0 [] [.p (.seq true 1 v.1 (fun i=>[.int .i64 (v.2 i)])),.p (.int .i64 (2*N))] [] (.p (.bool b2))),(AG b1),((bif b1 then b2 else false)=(bif b1 then b2 else false))]:=by kernel_rfl
theorem vcz (g:Nat→T_Bar) (nb:Nat) (N:Int) (pl:Nat→T_Place) (np:Nat) (v:T_IntS) :
    pieceOb Tryz.prog 0 [rg 2,rg 1,.head] [.code (bodyOf Tryz.f299)] (start Tryz.f299 [] 0 [frA g nb N pl np,inL v]) [0] 1 (VcS g nb N pl np v 0) =
    some (zf98,[(AN v.1),(AP v.1 (fun i=>[.int .i64 (v.2 i)])),(AN 0),((0:Int)=(↑0:Int)),((([AV.p (PV.int IntKind.i64 N),brL g nb,pcL pl np].length):Nat)=3),(NL 1 1),(NL 1 1),(AI N),(AN nb),(AP nb (fun i=>[.int .i64 ((g i).1),.int .i64 ((g i).2.1)])),(AN np),(AP np (fun i=>[.int .i64 ((pl i).1),.int .i64 ((pl i).2.1)]))]):=by kernel_rfl
theorem vct (g:Nat→T_Bar) (nb:Nat) (N:Int) (pl:Nat→T_Place) (np:Nat) (v:T_IntS) (i:Nat) :
    pieceOb Tryz.prog 0 [rg 4,.dec true,rm [(4,oc [] (.p (.bool true)))] 1,.dec false,rg 3,.head] zf98 (VcS g nb N pl np v i) [0] 1 (VcS g nb N pl np v (i+1)) =
    some (zf98,[((decide ((↑i:Int)<(↑v.1:Int)))=true),(IL 0 (↑i:Int)),(IT (↑i:Int) (↑v.1:Int)),Con Tryz.prog 167 0 [] [.p (.int .i64 (v.2 i)),.p (.int .i64 (-10000000000)),.p (.int .i64 10000000000)] [] (.p (.bool true)),((!true)=false),(ZLo ((↑i:Int)+1)),(ZHi ((↑i:Int)+1)),(AN v.1),(AP v.1 (fun i_1=>[.int .i64 (v.2 i_1)])),(AN 0),((((↑i:Int)+1):Int)=(↑(i+1):Int)),(AN 3),(NL 1 1),(NL 1 1),(AI N),(AN nb),(AP nb (fun i_1=>[.int .i64 ((g i_1).1),.int .i64 ((g i_1).2.1)])),(AN np),(AP np (fun i_1=>[.int .i64 ((pl i_1).1),.int .i64 ((pl i_1).2.1)]))]):=by kernel_rfl
theorem vcf (g:Nat→T_Bar) (nb:Nat) (N:Int) (pl:Nat→T_Place) (np:Nat) (v:T_IntS) (i:Nat) :
    pathOb Tryz.prog Tryz.f299 0 [rg 4,.dec true,rm [(4,oc [] (.p (.bool false)))] 1,.dec true,rg 1] zf98 (VcS g nb N pl np v i) [] 1 [] (.p (.bool false)) =
    some [((decide ((↑i:Int)<(↑v.1:Int)))=true),(IL 0 (↑i:Int)),(IT (↑i:Int) (↑v.1:Int)),Con Tryz.prog 167 0 [] [.p (.int .i64 (v.2 i)),.p (.int .i64 (-10000000000)),.p (.int .i64 10000000000)] [] (.p (.bool false)),((!false)=true),(false=false)]:=by kernel_rfl
theorem vce (g:Nat→T_Bar) (nb:Nat) (N:Int) (pl:Nat→T_Place) (np:Nat) (v:T_IntS) (i:Nat) (b:Bool) :
    pathOb Tryz.prog Tryz.f299 0 [rg 4,.dec false,rm [(1,oc [] (.p (.bool b)))] 10] zf98 (VcS g nb N pl np v i) [] 1 [] (.p (.bool (bif b then (v.1:Int)==2*N else false))) =
    some [((decide ((↑i:Int)<(↑v.1:Int)))=false),(NT 0 1),Con Tryz.prog 117 0 [] [(zf30 N nb g np pl)] [] (.p (.bool b)),(AG b),(AG b),(AG b),((b=true)→(NT 0 1)),(AG b),((b=true)→(ZLo (2*N))),((b=true)→(ZHi (2*N))),(AG b),(AG b),(AG b),((bif b then (↑v.1:Int)==2*N else false)=(bif b then (↑v.1:Int)==2*N else false))]:=by kernel_rfl
theorem chI (g:Nat→T_Bar) (nb N:Nat) (pl:Nat→T_Place) (np:Nat) (v:T_IntS) (a b:Nat) :
    pathOb Tryz.prog Tryz.f306 0 [rg 2,rm [(2,oc [] (.p (.bool true))),(5,oc [] (.p (.bool true))),(6,oc [] (.p (.bool true)))] 2,.dec false,rg 14,rg 38] [.code (bodyOf Tryz.f306)] (start Tryz.f306 [] 0 [frA g nb N pl np,inL v,.p (.int .i64 a),.p (.int .i64 b)]) [] 1 [] (.p (.int .i64 (((pl a).1 - (pl b).1)*(v.2 (2*a) - v.2 (2*b))+((pl a).2.1 - (pl b).2.1)*(v.2 (2*a+1) - v.2 (2*b+1))))) =
    some [(NT 0 1),Con Tryz.prog 305 0 [] [(zf32 N nb g np pl),.p (.seq true 1 v.1 (fun i=>[.int .i64 (v.2 i)]))] [] (.p (.bool true)),(AG (!!true)),(((!!true)=true)→(NT 0 1)),(AG (!!true)),(AG (!!true)),(((!!true)=true)→ Con Tryz.prog 205 0 [] [(zf113 N nb g),.p (.int .i64 (↑a:Int))] [] (.p (.bool true))),(AG (!!true)),(((!true)=false)→ ((!!true)=true)),(AG (!bif !true then true else !true)),(((!bif !true then true else !true)=true)→(NT 0 1)),(AG (!bif !true then true else !true)),(AG (!bif !true then true else !true)),(((!bif !true then true else !true)=true)→ Con Tryz.prog 205 0 [] [(zf113 N nb g),.p (.int .i64 (↑b:Int))] [] (.p (.bool true))),(AG (!bif !true then true else !true)),(((bif !true then true else !true)=false)→ ((!bif !true then true else !true)=true)),((bif bif !true then true else !true then true else !true)=false),(NT 0 1),(IL 0 (↑a:Int)),(IT (↑a:Int) (↑np:Int)),(NT 0 1),(IL 0 (↑b:Int)),(IT (↑b:Int) (↑np:Int)),(NT 0 1),((true=true)→ (AN 1)),(NT 0 1),((true=true)→ (AN 1)),(NT 0 1),(NT 0 1),(ZLo ((pl a).1 - (pl b).1)),(ZHi ((pl a).1 - (pl b).1)),(ZLo (2*(↑a:Int))),(ZHi (2*(↑a:Int))),(IL 0 (2*(↑a:Int))),(IT (2*(↑a:Int)) (↑v.1:Int)),(ZLo (2*(↑b:Int))),(ZHi (2*(↑b:Int))),(IL 0 (2*(↑b:Int))),(IT (2*(↑b:Int)) (↑v.1:Int)),(ZLo (v.2 (2*a) - v.2 (2*b))),(ZHi (v.2 (2*a) - v.2 (2*b))),(ZLo (((pl a).1 - (pl b).1)*(v.2 (2*a) - v.2 (2*b)))),(ZHi (((pl a).1 - (pl b).1)*(v.2 (2*a) - v.2 (2*b)))),(NT 0 1),(NT 0 1),(ZLo ((pl a).2.1 - (pl b).2.1)),(ZHi ((pl a).2.1 - (pl b).2.1)),(ZLo (2*(↑a:Int))),(ZHi (2*(↑a:Int))),(ZLo (2*(↑a:Int)+1)),(ZHi (2*(↑a:Int)+1)),(IL 0 (2*(↑a:Int)+1)),(IT (2*(↑a:Int)+1) (↑v.1:Int)),(ZLo (2*(↑b:Int))),(ZHi (2*(↑b:Int))),(ZLo (2*(↑b:Int)+1)),(ZHi (2*(↑b:Int)+1)),(IL 0 (2*(↑b:Int)+1)),(IT (2*(↑b:Int)+1) (↑v.1:Int)),(ZLo (v.2 (2*a+1) - v.2 (2*b+1))),(ZHi (v.2 (2*a+1) - v.2 (2*b+1))),(ZLo (((pl a).2.1 - (pl b).2.1)*(v.2 (2*a+1) - v.2 (2*b+1)))),(ZHi (((pl a).2.1 - (pl b).2.1)*(v.2 (2*a+1) - v.2 (2*b+1)))),(ZLo (((pl a).1 - (pl b).1)*(v.2 (2*a) - v.2 (2*b))+((pl a).2.1 - (pl b).2.1)*(v.2 (2*a+1) - v.2 (2*b+1)))),(ZHi (((pl a).1 - (pl b).1)*(v.2 (2*a) - v.2 (2*b))+((pl a).2.1 - (pl b).2.1)*(v.2 (2*a+1) - v.2 (2*b+1)))),(AI ((((pl a).1 - (pl b).1)*(v.2 (2*a) - v.2 (2*b))+((pl a).2.1 - (pl b).2.1)*(v.2 (2*a+1) - v.2 (2*b+1)))))]:=by kernel_rfl
theorem chS (g:Nat→T_Bar) (nb N:Nat) (pl:Nat→T_Place) (np:Nat) (v:T_IntS) (a b:Nat) :
    pathOb Tryz.prog Tryz.f300 0 [rg 2,rm [(2,oc [] (.p (.bool true)))] 23,.dec false,rg 54] [.code (bodyOf Tryz.f300)] (start Tryz.f300 [] 0 [frA g nb N pl np,inL v,.p (.int .i64 a),.p (.int .i64 b)]) [] 1 [] (.p (.int .i64 (((pl a).1 - (pl b).1)*(v.2 (2*a) - v.2 (2*b))+((pl a).2.1 - (pl b).2.1)*(v.2 (2*a+1) - v.2 (2*b+1))))) =
    some [(NT 0 1),Con Tryz.prog 299 0 [] [(zf32 N nb g np pl),.p (.seq true 1 v.1 (fun i=>[.int .i64 (v.2 i)]))] [] (.p (.bool true)),(AG (!!true)),(((!true)=false)→ ((!!true)=true)),(AG (!bif !true then true else decide ((↑a:Int)<0))),(((bif !true then true else decide ((↑a:Int)<0))=false)→ ((!bif !true then true else decide ((↑a:Int)<0))=true)),(AG (!bif bif !true then true else decide ((↑a:Int)<0) then true else decide ((↑b:Int)<0))),(AG (!bif bif !true then true else decide ((↑a:Int)<0) then true else decide ((↑b:Int)<0))),(((!bif bif !true then true else decide ((↑a:Int)<0) then true else decide ((↑b:Int)<0))=true)→(NT 0 1)),(AG (!bif bif !true then true else decide ((↑a:Int)<0) then true else decide ((↑b:Int)<0))),(AG (!bif bif !true then true else decide ((↑a:Int)<0) then true else decide ((↑b:Int)<0))),(((bif bif !true then true else decide ((↑a:Int)<0) then true else decide ((↑b:Int)<0))=false)→ ((!bif bif !true then true else decide ((↑a:Int)<0) then true else decide ((↑b:Int)<0))=true)),(AG (!bif bif bif !true then true else decide ((↑a:Int)<0) then true else decide ((↑b:Int)<0) then true else decide ((↑a:Int)≥(↑N:Int)))),(AG (!bif bif bif !true then true else decide ((↑a:Int)<0) then true else decide ((↑b:Int)<0) then true else decide ((↑a:Int)≥(↑N:Int)))),(((!bif bif bif !true then true else decide ((↑a:Int)<0) then true else decide ((↑b:Int)<0) then true else decide ((↑a:Int)≥(↑N:Int)))=true)→(NT 0 1)),(AG (!bif bif bif !true then true else decide ((↑a:Int)<0) then true else decide ((↑b:Int)<0) then true else decide ((↑a:Int)≥(↑N:Int)))),(AG (!bif bif bif !true then true else decide ((↑a:Int)<0) then true else decide ((↑b:Int)<0) then true else decide ((↑a:Int)≥(↑N:Int)))),(((bif bif bif !true then true else decide ((↑a:Int)<0) then true else decide ((↑b:Int)<0) then true else decide ((↑a:Int)≥(↑N:Int)))=false)→ ((!bif bif bif !true then true else decide ((↑a:Int)<0) then true else decide ((↑b:Int)<0) then true else decide ((↑a:Int)≥(↑N:Int)))=true)),((bif bif bif bif !true then true else decide ((↑a:Int)<0) then true else decide ((↑b:Int)<0) then true else decide ((↑a:Int)≥(↑N:Int)) then true else decide ((↑b:Int)≥(↑N:Int)))=false),(NT 0 1),(IL 0 (↑a:Int)),(IT (↑a:Int) (↑np:Int)),(NT 0 1),(IL 0 (↑b:Int)),(IT (↑b:Int) (↑np:Int)),(ZLo ((pl a).1 - (pl b).1)),(ZHi ((pl a).1 - (pl b).1)),(ZLo (2*(↑a:Int))),(ZHi (2*(↑a:Int))),(IL 0 (2*(↑a:Int))),(IT (2*(↑a:Int)) (↑v.1:Int)),(ZLo (2*(↑b:Int))),(ZHi (2*(↑b:Int))),(IL 0 (2*(↑b:Int))),(IT (2*(↑b:Int)) (↑v.1:Int)),(ZLo (v.2 (2*a) - v.2 (2*b))),(ZHi (v.2 (2*a) - v.2 (2*b))),(ZLo (((pl a).1 - (pl b).1)*(v.2 (2*a) - v.2 (2*b)))),(ZHi (((pl a).1 - (pl b).1)*(v.2 (2*a) - v.2 (2*b)))),(NT 0 1),(IL 0 (↑a:Int)),(IT (↑a:Int) (↑np:Int)),(NT 0 1),(IL 0 (↑b:Int)),(IT (↑b:Int) (↑np:Int)),(ZLo ((pl a).2.1 - (pl b).2.1)),(ZHi ((pl a).2.1 - (pl b).2.1)),(ZLo (2*(↑a:Int))),(ZHi (2*(↑a:Int))),(ZLo (2*(↑a:Int)+1)),(ZHi (2*(↑a:Int)+1)),(IL 0 (2*(↑a:Int)+1)),(IT (2*(↑a:Int)+1) (↑v.1:Int)),(ZLo (2*(↑b:Int))),(ZHi (2*(↑b:Int))),(ZLo (2*(↑b:Int)+1)),(ZHi (2*(↑b:Int)+1)),(IL 0 (2*(↑b:Int)+1)),(IT (2*(↑b:Int)+1) (↑v.1:Int)),(ZLo (v.2 (2*a+1) - v.2 (2*b+1))),(ZHi (v.2 (2*a+1) - v.2 (2*b+1))),(ZLo (((pl a).2.1 - (pl b).2.1)*(v.2 (2*a+1) - v.2 (2*b+1)))),(ZHi (((pl a).2.1 - (pl b).2.1)*(v.2 (2*a+1) - v.2 (2*b+1)))),(ZLo (((pl a).1 - (pl b).1)*(v.2 (2*a) - v.2 (2*b))+((pl a).2.1 - (pl b).2.1)*(v.2 (2*a+1) - v.2 (2*b+1)))),(ZHi (((pl a).1 - (pl b).1)*(v.2 (2*a) - v.2 (2*b))+((pl a).2.1 - (pl b).2.1)*(v.2 (2*a+1) - v.2 (2*b+1)))),(AI ((((pl a).1 - (pl b).1)*(v.2 (2*a) - v.2 (2*b))+((pl a).2.1 - (pl b).2.1)*(v.2 (2*a+1) - v.2 (2*b+1)))))]:=by kernel_rfl
theorem tiN (g:Nat→T_Bar) (nb:Nat) (N:Int) (pl:Nat→T_Place) (np:Nat) (v:T_IntS) :
    pathOb Tryz.prog Tryz.f208 0 [rg 2,rm [(2,oc [] (.p (.bool false)))] 1,.dec true,rg 1] [.code (bodyOf Tryz.f208)] (start Tryz.f208 [] 0 [frA g nb N pl np,inL v]) [] 1 [] (.p (.bool false)) =
    some [(NT 0 1),Con Tryz.prog 305 0 [] [(zf35 N nb g np pl),.p (.seq true 1 v.1 (fun i=>[.int .i64 (v.2 i)]))] [] (.p (.bool false)),((!false)=true),(false=false)]:=by kernel_rfl
theorem tiz (g:Nat→T_Bar) (nb N:Nat) (pl:Nat→T_Place) (np:Nat) (v:T_IntS) :
    pieceOb Tryz.prog 0 [rg 2,rm [(2,oc [] (.p (.bool true)))] 1,.dec false,rg 2,rg 4,.head] [.code (bodyOf Tryz.f208)] (start Tryz.f208 [] 0 [frA g nb N pl np,inL v]) [0] 1 (TI0 g nb N pl np v 0) =
    some (zf49,[(NT 0 1),Con Tryz.prog 305 0 [] [(zf32 N nb g np pl),.p (.seq true 1 v.1 (fun i=>[.int .i64 (v.2 i)]))] [] (.p (.bool true)),((!true)=false),(NT 0 1),(AN v.1),(AP v.1 (fun i=>[.int .i64 (v.2 i)])),(AN 0),(AI 0),(AI 1),(AN np),(AP np (fun i=>[.int .i64 ((pl i).1),.int .i64 ((pl i).2.1)])),(AI ((↑np:Int))),((0:Int)=(↑0:Int)),((([AV.p (PV.int IntKind.i64 (↑N:Int)),brL g nb,pcL pl np].length):Nat)=3),(NL 1 1),(NL 1 1),(AI ((↑N:Int))),(AN nb),(AP nb (fun i=>[.int .i64 ((g i).1),.int .i64 ((g i).2.1)])),(AN np),(AP np (fun i=>[.int .i64 ((pl i).1),.int .i64 ((pl i).2.1)]))]):=by kernel_rfl
theorem tia (g:Nat→T_Bar) (nb N:Nat) (pl:Nat→T_Place) (np:Nat) (v:T_IntS) (i:Nat) :
    pieceOb Tryz.prog 0 [rg 1,.dec true,rg 6,rg 18,rg 6,.dec false,rg 2,.head] zf49 (TI0 g nb N pl np v i) [0] 1 (TI0 g nb N pl np v (i+1)) =
    some (zf49,[((decide ((↑i:Int)<(↑np:Int)))=true),(IL 0 (↑i:Int)),(IT (↑i:Int) (↑np:Int)),(NT 0 1),((true=true)→ (AN 1)),(NT 0 1),(NT 0 1),(IL 0 0),(IT 0 (↑np:Int)),(ZLo ((pl i).1 - (pl 0).1)),(ZHi ((pl i).1 - (pl 0).1)),(NT 0 1),(NT 0 1),(IL 0 0),(IT 0 (↑np:Int)),(ZLo ((pl i).2.1 - (pl 0).2.1)),(ZHi ((pl i).2.1 - (pl 0).2.1)),(AG (!(pl i).1 - (pl 0).1 != 0)),((((pl i).1 - (pl 0).1 != 0)=false)→ ((!(pl i).1 - (pl 0).1 != 0)=true)),((bif (pl i).1 - (pl 0).1 != 0 then true else (pl i).2.1 - (pl 0).2.1 != 0)=false),(ZLo ((↑i:Int)+1)),(ZHi ((↑i:Int)+1)),(AN v.1),(AP v.1 (fun i_1=>[.int .i64 (v.2 i_1)])),(AN 0),(AI 0),(AI 1),(AN np),(AP np (fun i_1=>[.int .i64 ((pl i_1).1),.int .i64 ((pl i_1).2.1)])),(AI ((↑np:Int))),((((↑i:Int)+1):Int)=(↑(i+1):Int)),(AN 3),(NL 1 1),(NL 1 1),(AI ((↑N:Int))),(AN nb),(AP nb (fun i_1=>[.int .i64 ((g i_1).1),.int .i64 ((g i_1).2.1)])),(AN np),(AP np (fun i_1=>[.int .i64 ((pl i_1).1),.int .i64 ((pl i_1).2.1)]))]):=by kernel_rfl
theorem tib (g:Nat→T_Bar) (nb N:Nat) (pl:Nat→T_Place) (np:Nat) (v:T_IntS) (i:Nat) (num den:Int) :
    pieceOb Tryz.prog 0 [rg 1,.dec true,rg 6,rg 18,rg 6,.dec true,rg 25,rg 8,rg 4,.head] zf49 (TI0 g nb N pl np v i) [0] 1 (TI1 g nb N pl np v num den 0) =
    some (zf40,[((decide ((↑i:Int)<(↑np:Int)))=true),(IL 0 (↑i:Int)),(IT (↑i:Int) (↑np:Int)),(NT 0 1),((true=true)→ (AN 1)),(NT 0 1),(NT 0 1),(IL 0 0),(IT 0 (↑np:Int)),(ZLo ((pl i).1 - (pl 0).1)),(ZHi ((pl i).1 - (pl 0).1)),(NT 0 1),(NT 0 1),(IL 0 0),(IT 0 (↑np:Int)),(ZLo ((pl i).2.1 - (pl 0).2.1)),(ZHi ((pl i).2.1 - (pl 0).2.1)),(AG (!(pl i).1 - (pl 0).1 != 0)),((((pl i).1 - (pl 0).1 != 0)=false)→ ((!(pl i).1 - (pl 0).1 != 0)=true)),((bif (pl i).1 - (pl 0).1 != 0 then true else (pl i).2.1 - (pl 0).2.1 != 0)=true),(ZLo (2*(↑i:Int))),(ZHi (2*(↑i:Int))),(ZLo (2*(↑i:Int)+1)),(ZHi (2*(↑i:Int)+1)),(IL 0 (2*(↑i:Int)+1)),(IT (2*(↑i:Int)+1) (↑v.1:Int)),(IL 0 1),(IT 1 (↑v.1:Int)),(ZLo (v.2 (2*i+1) - v.2 1)),(ZHi (v.2 (2*i+1) - v.2 1)),(ZLo ((v.2 (2*i+1) - v.2 1)*((pl i).1 - (pl 0).1))),(ZHi ((v.2 (2*i+1) - v.2 1)*((pl i).1 - (pl 0).1))),(ZLo (2*(↑i:Int))),(ZHi (2*(↑i:Int))),(IL 0 (2*(↑i:Int))),(IT (2*(↑i:Int)) (↑v.1:Int)),(IL 0 0),(IT 0 (↑v.1:Int)),(ZLo (v.2 (2*i) - v.2 0)),(ZHi (v.2 (2*i) - v.2 0)),(ZLo ((v.2 (2*i) - v.2 0)*((pl i).2.1 - (pl 0).2.1))),(ZHi ((v.2 (2*i) - v.2 0)*((pl i).2.1 - (pl 0).2.1))),(ZLo ((v.2 (2*i+1) - v.2 1)*((pl i).1 - (pl 0).1) - (v.2 (2*i) - v.2 0)*((pl i).2.1 - (pl 0).2.1))),(ZHi ((v.2 (2*i+1) - v.2 1)*((pl i).1 - (pl 0).1) - (v.2 (2*i) - v.2 0)*((pl i).2.1 - (pl 0).2.1))),(ZLo (((pl i).1 - (pl 0).1)*((pl i).1 - (pl 0).1))),(ZHi (((pl i).1 - (pl 0).1)*((pl i).1 - (pl 0).1))),(ZLo (((pl i).2.1 - (pl 0).2.1)*((pl i).2.1 - (pl 0).2.1))),(ZHi (((pl i).2.1 - (pl 0).2.1)*((pl i).2.1 - (pl 0).2.1))),(ZLo (((pl i).1 - (pl 0).1)*((pl i).1 - (pl 0).1)+((pl i).2.1 - (pl 0).2.1)*((pl i).2.1 - (pl 0).2.1))),(ZHi (((pl i).1 - (pl 0).1)*((pl i).1 - (pl 0).1)+((pl i).2.1 - (pl 0).2.1)*((pl i).2.1 - (pl 0).2.1))),(NT 0 1),(AN v.1),(AP v.1 (fun i_1=>[.int .i64 (v.2 i_1)])),(AN 0),((((v.2 (2*i+1) - v.2 1)*((pl i).1 - (pl 0).1) - (v.2 (2*i) - v.2 0)*((pl i).2.1 - (pl 0).2.1)):Int)=num),(((((pl i).1 - (pl 0).1)*((pl i).1 - (pl 0).1)+((pl i).2.1 - (pl 0).2.1)*((pl i).2.1 - (pl 0).2.1)):Int)=den),(AN np),(AP np (fun i_1=>[.int .i64 ((pl i_1).1),.int .i64 ((pl i_1).2.1)])),(AI ((↑np:Int))),((0:Int)=(↑0:Int)),(AN 3),(NL 1 1),(NL 1 1),(AI ((↑N:Int))),(AN nb),(AP nb (fun i_1=>[.int .i64 ((g i_1).1),.int .i64 ((g i_1).2.1)])),(AN np),(AP np (fun i_1=>[.int .i64 ((pl i_1).1),.int .i64 ((pl i_1).2.1)]))]):=by kernel_rfl
theorem tic (g:Nat→T_Bar) (nb N:Nat) (pl:Nat→T_Place) (np:Nat) (v:T_IntS) (i:Nat) :
    pieceOb Tryz.prog 0 [rg 1,.dec false,rg 4,.head] zf49 (TI0 g nb N pl np v i) [0] 1 (TI1 g nb N pl np v 0 1 0) =
    some (zf40,[((decide ((↑i:Int)<(↑np:Int)))=false),(NT 0 1),(AN v.1),(AP v.1 (fun i_1=>[.int .i64 (v.2 i_1)])),(AN 0),(AI 0),(AI 1),(AN np),(AP np (fun i_1=>[.int .i64 ((pl i_1).1),.int .i64 ((pl i_1).2.1)])),(AI ((↑np:Int))),((0:Int)=(↑0:Int)),(AN 3),(NL 1 1),(NL 1 1),(AI ((↑N:Int))),(AN nb),(AP nb (fun i_1=>[.int .i64 ((g i_1).1),.int .i64 ((g i_1).2.1)])),(AN np),(AP np (fun i_1=>[.int .i64 ((pl i_1).1),.int .i64 ((pl i_1).2.1)]))]):=by kernel_rfl
theorem tid (g:Nat→T_Bar) (nb N:Nat) (pl:Nat→T_Place) (np:Nat) (v:T_IntS) (num den:Int) (i:Nat) :
    pieceOb Tryz.prog 0 [rg 1,.dec true,rg 6,rg 18,rg 34,.dec false,rg 2,.head] zf40 (TI1 g nb N pl np v num den i) [0] 1 (TI1 g nb N pl np v num den (i+1)) =
    some (zf40,[((decide ((↑i:Int)<(↑np:Int)))=true),(IL 0 (↑i:Int)),(IT (↑i:Int) (↑np:Int)),(NT 0 1),((true=true)→ (AN 1)),(NT 0 1),(NT 0 1),(IL 0 0),(IT 0 (↑np:Int)),(ZLo ((pl i).1 - (pl 0).1)),(ZHi ((pl i).1 - (pl 0).1)),(NT 0 1),(NT 0 1),(IL 0 0),(IT 0 (↑np:Int)),(ZLo ((pl i).2.1 - (pl 0).2.1)),(ZHi ((pl i).2.1 - (pl 0).2.1)),(ZLo (2*(↑i:Int))),(ZHi (2*(↑i:Int))),(IL 0 (2*(↑i:Int))),(IT (2*(↑i:Int)) (↑v.1:Int)),(IL 0 0),(IT 0 (↑v.1:Int)),(ZLo (v.2 (2*i) - v.2 0)),(ZHi (v.2 (2*i) - v.2 0)),(ZLo ((v.2 (2*i) - v.2 0)*den)),(ZHi ((v.2 (2*i) - v.2 0)*den)),(ZLo (0 - num)),(ZHi (0 - num)),(ZLo ((0 - num)*((pl i).2.1 - (pl 0).2.1))),(ZHi ((0 - num)*((pl i).2.1 - (pl 0).2.1))),(AG (!(v.2 (2*i) - v.2 0)*den != (0 - num)*((pl i).2.1 - (pl 0).2.1))),(((!(v.2 (2*i) - v.2 0)*den != (0 - num)*((pl i).2.1 - (pl 0).2.1))=true)→(ZLo (2*(↑i:Int)))),(((!(v.2 (2*i) - v.2 0)*den != (0 - num)*((pl i).2.1 - (pl 0).2.1))=true)→(ZHi (2*(↑i:Int)))),(AG (!(v.2 (2*i) - v.2 0)*den != (0 - num)*((pl i).2.1 - (pl 0).2.1))),(((!(v.2 (2*i) - v.2 0)*den != (0 - num)*((pl i).2.1 - (pl 0).2.1))=true)→(ZLo (2*(↑i:Int)+1))),(((!(v.2 (2*i) - v.2 0)*den != (0 - num)*((pl i).2.1 - (pl 0).2.1))=true)→(ZHi (2*(↑i:Int)+1))),(AG (!(v.2 (2*i) - v.2 0)*den != (0 - num)*((pl i).2.1 - (pl 0).2.1))),(AG (!(v.2 (2*i) - v.2 0)*den != (0 - num)*((pl i).2.1 - (pl 0).2.1))),(((!(v.2 (2*i) - v.2 0)*den != (0 - num)*((pl i).2.1 - (pl 0).2.1))=true)→(IL 0 (2*(↑i:Int)+1))),(((!(v.2 (2*i) - v.2 0)*den != (0 - num)*((pl i).2.1 - (pl 0).2.1))=true)→(IT (2*(↑i:Int)+1) (↑v.1:Int))),(AG (!(v.2 (2*i) - v.2 0)*den != (0 - num)*((pl i).2.1 - (pl 0).2.1))),(AG (!(v.2 (2*i) - v.2 0)*den != (0 - num)*((pl i).2.1 - (pl 0).2.1))),(((!(v.2 (2*i) - v.2 0)*den != (0 - num)*((pl i).2.1 - (pl 0).2.1))=true)→(IL 0 1)),(((!(v.2 (2*i) - v.2 0)*den != (0 - num)*((pl i).2.1 - (pl 0).2.1))=true)→(IT 1 (↑v.1:Int))),(AG (!(v.2 (2*i) - v.2 0)*den != (0 - num)*((pl i).2.1 - (pl 0).2.1))),(AG (!(v.2 (2*i) - v.2 0)*den != (0 - num)*((pl i).2.1 - (pl 0).2.1))),(AG (!(v.2 (2*i) - v.2 0)*den != (0 - num)*((pl i).2.1 - (pl 0).2.1))),(((!(v.2 (2*i) - v.2 0)*den != (0 - num)*((pl i).2.1 - (pl 0).2.1))=true)→(ZLo (v.2 (2*i+1) - v.2 1))),(((!(v.2 (2*i) - v.2 0)*den != (0 - num)*((pl i).2.1 - (pl 0).2.1))=true)→(ZHi (v.2 (2*i+1) - v.2 1))),(AG (!(v.2 (2*i) - v.2 0)*den != (0 - num)*((pl i).2.1 - (pl 0).2.1))),(AG (!(v.2 (2*i) - v.2 0)*den != (0 - num)*((pl i).2.1 - (pl 0).2.1))),(((!(v.2 (2*i) - v.2 0)*den != (0 - num)*((pl i).2.1 - (pl 0).2.1))=true)→(ZLo ((v.2 (2*i+1) - v.2 1)*den))),(((!(v.2 (2*i) - v.2 0)*den != (0 - num)*((pl i).2.1 - (pl 0).2.1))=true)→(ZHi ((v.2 (2*i+1) - v.2 1)*den))),(AG (!(v.2 (2*i) - v.2 0)*den != (0 - num)*((pl i).2.1 - (pl 0).2.1))),(AG (!(v.2 (2*i) - v.2 0)*den != (0 - num)*((pl i).2.1 - (pl 0).2.1))),(((!(v.2 (2*i) - v.2 0)*den != (0 - num)*((pl i).2.1 - (pl 0).2.1))=true)→(ZLo (num*((pl i).1 - (pl 0).1)))),(((!(v.2 (2*i) - v.2 0)*den != (0 - num)*((pl i).2.1 - (pl 0).2.1))=true)→(ZHi (num*((pl i).1 - (pl 0).1)))),(AG (!(v.2 (2*i) - v.2 0)*den != (0 - num)*((pl i).2.1 - (pl 0).2.1))),(AG (!(v.2 (2*i) - v.2 0)*den != (0 - num)*((pl i).2.1 - (pl 0).2.1))),((((v.2 (2*i) - v.2 0)*den != (0 - num)*((pl i).2.1 - (pl 0).2.1))=false)→ ((!(v.2 (2*i) - v.2 0)*den != (0 - num)*((pl i).2.1 - (pl 0).2.1))=true)),((bif (v.2 (2*i) - v.2 0)*den != (0 - num)*((pl i).2.1 - (pl 0).2.1) then true else (v.2 (2*i+1) - v.2 1)*den != num*((pl i).1 - (pl 0).1))=false),(ZLo ((↑i:Int)+1)),(ZHi ((↑i:Int)+1)),(AN v.1),(AP v.1 (fun i_1=>[.int .i64 (v.2 i_1)])),(AN 0),(AI num),(AI den),(AN np),(AP np (fun i_1=>[.int .i64 ((pl i_1).1),.int .i64 ((pl i_1).2.1)])),(AI ((↑np:Int))),((((↑i:Int)+1):Int)=(↑(i+1):Int)),(AN 3),(NL 1 1),(NL 1 1),(AI ((↑N:Int))),(AN nb),(AP nb (fun i_1=>[.int .i64 ((g i_1).1),.int .i64 ((g i_1).2.1)])),(AN np),(AP np (fun i_1=>[.int .i64 ((pl i_1).1),.int .i64 ((pl i_1).2.1)]))]):=by kernel_rfl
theorem tie (g:Nat→T_Bar) (nb N:Nat) (pl:Nat→T_Place) (np:Nat) (v:T_IntS) (num den:Int) (i:Nat) :
    pathOb Tryz.prog Tryz.f208 0 [rg 1,.dec true,rg 6,rg 18,rg 34,.dec true,rg 1] zf40 (TI1 g nb N pl np v num den i) [] 1 [] (.p (.bool false)) =
    some [((decide ((↑i:Int)<(↑np:Int)))=true),(IL 0 (↑i:Int)),(IT (↑i:Int) (↑np:Int)),(NT 0 1),((true=true)→ (AN 1)),(NT 0 1),(NT 0 1),(IL 0 0),(IT 0 (↑np:Int)),(ZLo ((pl i).1 - (pl 0).1)),(ZHi ((pl i).1 - (pl 0).1)),(NT 0 1),(NT 0 1),(IL 0 0),(IT 0 (↑np:Int)),(ZLo ((pl i).2.1 - (pl 0).2.1)),(ZHi ((pl i).2.1 - (pl 0).2.1)),(ZLo (2*(↑i:Int))),(ZHi (2*(↑i:Int))),(IL 0 (2*(↑i:Int))),(IT (2*(↑i:Int)) (↑v.1:Int)),(IL 0 0),(IT 0 (↑v.1:Int)),(ZLo (v.2 (2*i) - v.2 0)),(ZHi (v.2 (2*i) - v.2 0)),(ZLo ((v.2 (2*i) - v.2 0)*den)),(ZHi ((v.2 (2*i) - v.2 0)*den)),(ZLo (0 - num)),(ZHi (0 - num)),(ZLo ((0 - num)*((pl i).2.1 - (pl 0).2.1))),(ZHi ((0 - num)*((pl i).2.1 - (pl 0).2.1))),(AG (!(v.2 (2*i) - v.2 0)*den != (0 - num)*((pl i).2.1 - (pl 0).2.1))),(((!(v.2 (2*i) - v.2 0)*den != (0 - num)*((pl i).2.1 - (pl 0).2.1))=true)→(ZLo (2*(↑i:Int)))),(((!(v.2 (2*i) - v.2 0)*den != (0 - num)*((pl i).2.1 - (pl 0).2.1))=true)→(ZHi (2*(↑i:Int)))),(AG (!(v.2 (2*i) - v.2 0)*den != (0 - num)*((pl i).2.1 - (pl 0).2.1))),(((!(v.2 (2*i) - v.2 0)*den != (0 - num)*((pl i).2.1 - (pl 0).2.1))=true)→(ZLo (2*(↑i:Int)+1))),(((!(v.2 (2*i) - v.2 0)*den != (0 - num)*((pl i).2.1 - (pl 0).2.1))=true)→(ZHi (2*(↑i:Int)+1))),(AG (!(v.2 (2*i) - v.2 0)*den != (0 - num)*((pl i).2.1 - (pl 0).2.1))),(AG (!(v.2 (2*i) - v.2 0)*den != (0 - num)*((pl i).2.1 - (pl 0).2.1))),(((!(v.2 (2*i) - v.2 0)*den != (0 - num)*((pl i).2.1 - (pl 0).2.1))=true)→(IL 0 (2*(↑i:Int)+1))),(((!(v.2 (2*i) - v.2 0)*den != (0 - num)*((pl i).2.1 - (pl 0).2.1))=true)→(IT (2*(↑i:Int)+1) (↑v.1:Int))),(AG (!(v.2 (2*i) - v.2 0)*den != (0 - num)*((pl i).2.1 - (pl 0).2.1))),(AG (!(v.2 (2*i) - v.2 0)*den != (0 - num)*((pl i).2.1 - (pl 0).2.1))),(((!(v.2 (2*i) - v.2 0)*den != (0 - num)*((pl i).2.1 - (pl 0).2.1))=true)→(IL 0 1)),(((!(v.2 (2*i) - v.2 0)*den != (0 - num)*((pl i).2.1 - (pl 0).2.1))=true)→(IT 1 (↑v.1:Int))),(AG (!(v.2 (2*i) - v.2 0)*den != (0 - num)*((pl i).2.1 - (pl 0).2.1))),(AG (!(v.2 (2*i) - v.2 0)*den != (0 - num)*((pl i).2.1 - (pl 0).2.1))),(AG (!(v.2 (2*i) - v.2 0)*den != (0 - num)*((pl i).2.1 - (pl 0).2.1))),(((!(v.2 (2*i) - v.2 0)*den != (0 - num)*((pl i).2.1 - (pl 0).2.1))=true)→(ZLo (v.2 (2*i+1) - v.2 1))),(((!(v.2 (2*i) - v.2 0)*den != (0 - num)*((pl i).2.1 - (pl 0).2.1))=true)→(ZHi (v.2 (2*i+1) - v.2 1))),(AG (!(v.2 (2*i) - v.2 0)*den != (0 - num)*((pl i).2.1 - (pl 0).2.1))),(AG (!(v.2 (2*i) - v.2 0)*den != (0 - num)*((pl i).2.1 - (pl 0).2.1))),(((!(v.2 (2*i) - v.2 0)*den != (0 - num)*((pl i).2.1 - (pl 0).2.1))=true)→(ZLo ((v.2 (2*i+1) - v.2 1)*den))),(((!(v.2 (2*i) - v.2 0)*den != (0 - num)*((pl i).2.1 - (pl 0).2.1))=true)→(ZHi ((v.2 (2*i+1) - v.2 1)*den))),(AG (!(v.2 (2*i) - v.2 0)*den != (0 - num)*((pl i).2.1 - (pl 0).2.1))),(AG (!(v.2 (2*i) - v.2 0)*den != (0 - num)*((pl i).2.1 - (pl 0).2.1))),(((!(v.2 (2*i) - v.2 0)*den != (0 - num)*((pl i).2.1 - (pl 0).2.1))=true)→(ZLo (num*((pl i).1 - (pl 0).1)))),(((!(v.2 (2*i) - v.2 0)*den != (0 - num)*((pl i).2.1 - (pl 0).2.1))=true)→(ZHi (num*((pl i).1 - (pl 0).1)))),(AG (!(v.2 (2*i) - v.2 0)*den != (0 - num)*((pl i).2.1 - (pl 0).2.1))),(AG (!(v.2 (2*i) - v.2 0)*den != (0 - num)*((pl i).2.1 - (pl 0).2.1))),((((v.2 (2*i) - v.2 0)*den != (0 - num)*((pl i).2.1 - (pl 0).2.1))=false)→ ((!(v.2 (2*i) - v.2 0)*den != (0 - num)*((pl i).2.1 - (pl 0).2.1))=true)),((bif (v.2 (2*i) - v.2 0)*den != (0 - num)*((pl i).2.1 - (pl 0).2.1) then true else (v.2 (2*i+1) - v.2 1)*den != num*((pl i).1 - (pl 0).1))=true),(false=false)]:=by kernel_rfl
theorem tif (g:Nat→T_Bar) (nb N:Nat) (pl:Nat→T_Place) (np:Nat) (v:T_IntS) (num den:Int) (i:Nat) :
    pathOb Tryz.prog Tryz.f208 0 [rg 1,.dec false,rg 1] zf40 (TI1 g nb N pl np v num den i) [] 1 [] (.p (.bool true)) =
    some [((decide ((↑i:Int)<(↑np:Int)))=false),(true=true)]:=by kernel_rfl
theorem tsz (g:Nat→T_Bar) (nb:Nat) (N:Int) (pl:Nat→T_Place) (np:Nat) (v:T_IntS) :
    pieceOb Tryz.prog 0 [rg 2,rg 1,.head] [.code (bodyOf Tryz.f199)] (start Tryz.f199 [] 0 [frA g nb N pl np,inL v]) [0] 1 (TS0 g nb N pl np v 0) =
    some (zf99,[(AN v.1),(AP v.1 (fun i=>[.int .i64 (v.2 i)])),(AN 0),((0:Int)=(↑0:Int)),((([AV.p (PV.int IntKind.i64 N),brL g nb,pcL pl np].length):Nat)=3),(NL 1 1),(NL 1 1),(AI N),(AN nb),(AP nb (fun i=>[.int .i64 ((g i).1),.int .i64 ((g i).2.1)])),(AN np),(AP np (fun i=>[.int .i64 ((pl i).1),.int .i64 ((pl i).2.1)]))]):=by kernel_rfl
theorem tsa (g:Nat→T_Bar) (nb N:Nat) (pl:Nat→T_Place) (np:Nat) (v:T_IntS) (a:Nat) :
    pieceOb Tryz.prog 0 [rm [(8,oc [] (.p (.bool true)))] 1,.dec true,rg 1,.head] zf99 (TS0 g nb N pl np v a) [0] 1 (TS1 g nb N pl np v a 0) =
    some (zf15,[(NT 0 1),(((decide ((↑a:Int)<(↑N:Int)))=true)→(NT 0 1)),(AG (decide ((↑a:Int)<(↑N:Int)))),(AG (decide ((↑a:Int)<(↑N:Int)))),(((decide ((↑a:Int)<(↑N:Int)))=true)→ Con Tryz.prog 299 0 [] [(zf32 N nb g np pl),.p (.seq true 1 v.1 (fun i=>[.int .i64 (v.2 i)]))] [] (.p (.bool true))),(AG (decide ((↑a:Int)<(↑N:Int)))),((bif decide ((↑a:Int)<(↑N:Int)) then true else false)=true),(AN v.1),(AP v.1 (fun i=>[.int .i64 (v.2 i)])),(AN 0),(AI ((↑a:Int))),((0:Int)=(↑0:Int)),(AN 3),(NL 1 1),(NL 1 1),(AI ((↑N:Int))),(AN nb),(AP nb (fun i=>[.int .i64 ((g i).1),.int .i64 ((g i).2.1)])),(AN np),(AP np (fun i=>[.int .i64 ((pl i).1),.int .i64 ((pl i).2.1)]))]):=by kernel_rfl
theorem tsb (g:Nat→T_Bar) (nb N:Nat) (pl:Nat→T_Place) (np:Nat) (v:T_IntS) (a b:Nat) (x:Int) :
    pieceOb Tryz.prog 0 [rg 3,.dec true,rm [(4,oc [] (.p (.int .i64 x)))] 42,.dec false,rg 3,.head] zf15 (TS1 g nb N pl np v a b) [0] 1 (TS1 g nb N pl np v a (b+1)) =
    some (zf15,[((decide ((↑b:Int)<(↑a:Int)))=true),(NT 0 1),Con Tryz.prog 300 0 [] [(zf32 N nb g np pl),.p (.seq true 1 v.1 (fun i=>[.int .i64 (v.2 i)])),.p (.int .i64 (↑a:Int)),.p (.int .i64 (↑b:Int))] [] (.p (.int .i64 x)),(AG (!x != 0)),(((!x != 0)=true)→(NT 0 1)),(AG (!x != 0)),(AG (!x != 0)),(((!x != 0)=true)→(IL 0 (↑a:Int))),(((!x != 0)=true)→(IT (↑a:Int) (↑np:Int))),(AG (!x != 0)),(AG (!x != 0)),(((!x != 0)=true)→(NT 0 1)),(AG (!x != 0)),(AG (!x != 0)),(((!x != 0)=true)→(IL 0 (↑b:Int))),(((!x != 0)=true)→(IT (↑b:Int) (↑np:Int))),(AG (!x != 0)),(AG (!x != 0)),(AG (!x != 0)),(AG (!x != 0)),(AG (!x != 0&&((pl a).1==(pl b).1&&((pl a).2.1==(pl b).2.1&&true)))),(((!x != 0&&((pl a).1==(pl b).1&&((pl a).2.1==(pl b).2.1&&true)))=true)→(ZLo (2*(↑a:Int)))),(((!x != 0&&((pl a).1==(pl b).1&&((pl a).2.1==(pl b).2.1&&true)))=true)→(ZHi (2*(↑a:Int)))),(AG (!x != 0&&((pl a).1==(pl b).1&&((pl a).2.1==(pl b).2.1&&true)))),(AG (!x != 0&&((pl a).1==(pl b).1&&((pl a).2.1==(pl b).2.1&&true)))),(((!x != 0&&((pl a).1==(pl b).1&&((pl a).2.1==(pl b).2.1&&true)))=true)→(IL 0 (2*(↑a:Int)))),(((!x != 0&&((pl a).1==(pl b).1&&((pl a).2.1==(pl b).2.1&&true)))=true)→(IT (2*(↑a:Int)) (↑v.1:Int))),(AG (!x != 0&&((pl a).1==(pl b).1&&((pl a).2.1==(pl b).2.1&&true)))),(AG (!x != 0&&((pl a).1==(pl b).1&&((pl a).2.1==(pl b).2.1&&true)))),(((!x != 0&&((pl a).1==(pl b).1&&((pl a).2.1==(pl b).2.1&&true)))=true)→(ZLo (2*(↑b:Int)))),(((!x != 0&&((pl a).1==(pl b).1&&((pl a).2.1==(pl b).2.1&&true)))=true)→(ZHi (2*(↑b:Int)))),(AG (!x != 0&&((pl a).1==(pl b).1&&((pl a).2.1==(pl b).2.1&&true)))),(AG (!x != 0&&((pl a).1==(pl b).1&&((pl a).2.1==(pl b).2.1&&true)))),(((!x != 0&&((pl a).1==(pl b).1&&((pl a).2.1==(pl b).2.1&&true)))=true)→(IL 0 (2*(↑b:Int)))),(((!x != 0&&((pl a).1==(pl b).1&&((pl a).2.1==(pl b).2.1&&true)))=true)→(IT (2*(↑b:Int)) (↑v.1:Int))),(AG (!x != 0&&((pl a).1==(pl b).1&&((pl a).2.1==(pl b).2.1&&true)))),(AG (!x != 0&&((pl a).1==(pl b).1&&((pl a).2.1==(pl b).2.1&&true)))),(AG (!x != 0&&((pl a).1==(pl b).1&&((pl a).2.1==(pl b).2.1&&true)))),(AG (!x != 0&&((pl a).1==(pl b).1&&((pl a).2.1==(pl b).2.1&&true)))),(AG (!x != 0&&((pl a).1==(pl b).1&&((pl a).2.1==(pl b).2.1&&true))&&!v.2 (2*a) != v.2 (2*b))),(((!x != 0&&((pl a).1==(pl b).1&&((pl a).2.1==(pl b).2.1&&true))&&!v.2 (2*a) != v.2 (2*b))=true)→(ZLo (2*(↑a:Int)))),(((!x != 0&&((pl a).1==(pl b).1&&((pl a).2.1==(pl b).2.1&&true))&&!v.2 (2*a) != v.2 (2*b))=true)→(ZHi (2*(↑a:Int)))),(AG (!x != 0&&((pl a).1==(pl b).1&&((pl a).2.1==(pl b).2.1&&true))&&!v.2 (2*a) != v.2 (2*b))),(((!x != 0&&((pl a).1==(pl b).1&&((pl a).2.1==(pl b).2.1&&true))&&!v.2 (2*a) != v.2 (2*b))=true)→(ZLo (2*(↑a:Int)+1))),(((!x != 0&&((pl a).1==(pl b).1&&((pl a).2.1==(pl b).2.1&&true))&&!v.2 (2*a) != v.2 (2*b))=true)→(ZHi (2*(↑a:Int)+1))),(AG (!x != 0&&((pl a).1==(pl b).1&&((pl a).2.1==(pl b).2.1&&true))&&!v.2 (2*a) != v.2 (2*b))),(AG (!x != 0&&((pl a).1==(pl b).1&&((pl a).2.1==(pl b).2.1&&true))&&!v.2 (2*a) != v.2 (2*b))),(((!x != 0&&((pl a).1==(pl b).1&&((pl a).2.1==(pl b).2.1&&true))&&!v.2 (2*a) != v.2 (2*b))=true)→(IL 0 (2*(↑a:Int)+1))),(((!x != 0&&((pl a).1==(pl b).1&&((pl a).2.1==(pl b).2.1&&true))&&!v.2 (2*a) != v.2 (2*b))=true)→(IT (2*(↑a:Int)+1) (↑v.1:Int))),(AG (!x != 0&&((pl a).1==(pl b).1&&((pl a).2.1==(pl b).2.1&&true))&&!v.2 (2*a) != v.2 (2*b))),(AG (!x != 0&&((pl a).1==(pl b).1&&((pl a).2.1==(pl b).2.1&&true))&&!v.2 (2*a) != v.2 (2*b))),(((!x != 0&&((pl a).1==(pl b).1&&((pl a).2.1==(pl b).2.1&&true))&&!v.2 (2*a) != v.2 (2*b))=true)→(ZLo (2*(↑b:Int)))),(((!x != 0&&((pl a).1==(pl b).1&&((pl a).2.1==(pl b).2.1&&true))&&!v.2 (2*a) != v.2 (2*b))=true)→(ZHi (2*(↑b:Int)))),(AG (!x != 0&&((pl a).1==(pl b).1&&((pl a).2.1==(pl b).2.1&&true))&&!v.2 (2*a) != v.2 (2*b))),(((!x != 0&&((pl a).1==(pl b).1&&((pl a).2.1==(pl b).2.1&&true))&&!v.2 (2*a) != v.2 (2*b))=true)→(ZLo (2*(↑b:Int)+1))),(((!x != 0&&((pl a).1==(pl b).1&&((pl a).2.1==(pl b).2.1&&true))&&!v.2 (2*a) != v.2 (2*b))=true)→(ZHi (2*(↑b:Int)+1))),(AG (!x != 0&&((pl a).1==(pl b).1&&((pl a).2.1==(pl b).2.1&&true))&&!v.2 (2*a) != v.2 (2*b))),(AG (!x != 0&&((pl a).1==(pl b).1&&((pl a).2.1==(pl b).2.1&&true))&&!v.2 (2*a) != v.2 (2*b))),(((!x != 0&&((pl a).1==(pl b).1&&((pl a).2.1==(pl b).2.1&&true))&&!v.2 (2*a) != v.2 (2*b))=true)→(IL 0 (2*(↑b:Int)+1))),(((!x != 0&&((pl a).1==(pl b).1&&((pl a).2.1==(pl b).2.1&&true))&&!v.2 (2*a) != v.2 (2*b))=true)→(IT (2*(↑b:Int)+1) (↑v.1:Int))),(AG (!x != 0&&((pl a).1==(pl b).1&&((pl a).2.1==(pl b).2.1&&true))&&!v.2 (2*a) != v.2 (2*b))),(AG (!x != 0&&((pl a).1==(pl b).1&&((pl a).2.1==(pl b).2.1&&true))&&!v.2 (2*a) != v.2 (2*b))),(AG (!x != 0&&((pl a).1==(pl b).1&&((pl a).2.1==(pl b).2.1&&true))&&!v.2 (2*a) != v.2 (2*b))),(AG (!x != 0&&((pl a).1==(pl b).1&&((pl a).2.1==(pl b).2.1&&true)))),(((!x != 0&&((pl a).1==(pl b).1&&((pl a).2.1==(pl b).2.1&&true)))=true)→(((v.2 (2*a) != v.2 (2*b))=false)→ ((!x != 0&&((pl a).1==(pl b).1&&((pl a).2.1==(pl b).2.1&&true))&&!v.2 (2*a) != v.2 (2*b))=true))),(AG (!x != 0)),(((!x != 0)=true)→((((pl a).1==(pl b).1&&((pl a).2.1==(pl b).2.1&&true))=true)→ ((!x != 0&&((pl a).1==(pl b).1&&((pl a).2.1==(pl b).2.1&&true)))=true))),(((x != 0)=false)→ ((!x != 0)=true)),((bif x != 0 then true else bif (pl a).1==(pl b).1&&((pl a).2.1==(pl b).2.1&&true) then bif v.2 (2*a) != v.2 (2*b) then true else v.2 (2*a+1) != v.2 (2*b+1) else false)=false),(ZLo ((↑b:Int)+1)),(ZHi ((↑b:Int)+1)),(AN v.1),(AP v.1 (fun i=>[.int .i64 (v.2 i)])),(AN 0),(AI ((↑a:Int))),((((↑b:Int)+1):Int)=(↑(b+1):Int)),(AN 3),(NL 1 1),(NL 1 1),(AI ((↑N:Int))),(AN nb),(AP nb (fun i=>[.int .i64 ((g i).1),.int .i64 ((g i).2.1)])),(AN np),(AP np (fun i=>[.int .i64 ((pl i).1),.int .i64 ((pl i).2.1)]))]):=by kernel_rfl
theorem tsc (g:Nat→T_Bar) (nb N:Nat) (pl:Nat→T_Place) (np:Nat) (v:T_IntS) (a b:Nat) (x:Int) :
    pathOb Tryz.prog Tryz.f199 0 [rg 3,.dec true,rm [(4,oc [] (.p (.int .i64 x)))] 42,.dec true,rg 1] zf15 (TS1 g nb N pl np v a b) [] 1 [] (.p (.bool false)) =
    some [((decide ((↑b:Int)<(↑a:Int)))=true),(NT 0 1),Con Tryz.prog 300 0 [] [(zf32 N nb g np pl),.p (.seq true 1 v.1 (fun i=>[.int .i64 (v.2 i)])),.p (.int .i64 (↑a:Int)),.p (.int .i64 (↑b:Int))] [] (.p (.int .i64 x)),(AG (!x != 0)),(((!x != 0)=true)→(NT 0 1)),(AG (!x != 0)),(AG (!x != 0)),(((!x != 0)=true)→(IL 0 (↑a:Int))),(((!x != 0)=true)→(IT (↑a:Int) (↑np:Int))),(AG (!x != 0)),(AG (!x != 0)),(((!x != 0)=true)→(NT 0 1)),(AG (!x != 0)),(AG (!x != 0)),(((!x != 0)=true)→(IL 0 (↑b:Int))),(((!x != 0)=true)→(IT (↑b:Int) (↑np:Int))),(AG (!x != 0)),(AG (!x != 0)),(AG (!x != 0)),(AG (!x != 0)),(AG (!x != 0&&((pl a).1==(pl b).1&&((pl a).2.1==(pl b).2.1&&true)))),(((!x != 0&&((pl a).1==(pl b).1&&((pl a).2.1==(pl b).2.1&&true)))=true)→(ZLo (2*(↑a:Int)))),(((!x != 0&&((pl a).1==(pl b).1&&((pl a).2.1==(pl b).2.1&&true)))=true)→(ZHi (2*(↑a:Int)))),(AG (!x != 0&&((pl a).1==(pl b).1&&((pl a).2.1==(pl b).2.1&&true)))),(AG (!x != 0&&((pl a).1==(pl b).1&&((pl a).2.1==(pl b).2.1&&true)))),(((!x != 0&&((pl a).1==(pl b).1&&((pl a).2.1==(pl b).2.1&&true)))=true)→(IL 0 (2*(↑a:Int)))),(((!x != 0&&((pl a).1==(pl b).1&&((pl a).2.1==(pl b).2.1&&true)))=true)→(IT (2*(↑a:Int)) (↑v.1:Int))),(AG (!x != 0&&((pl a).1==(pl b).1&&((pl a).2.1==(pl b).2.1&&true)))),(AG (!x != 0&&((pl a).1==(pl b).1&&((pl a).2.1==(pl b).2.1&&true)))),(((!x != 0&&((pl a).1==(pl b).1&&((pl a).2.1==(pl b).2.1&&true)))=true)→(ZLo (2*(↑b:Int)))),(((!x != 0&&((pl a).1==(pl b).1&&((pl a).2.1==(pl b).2.1&&true)))=true)→(ZHi (2*(↑b:Int)))),(AG (!x != 0&&((pl a).1==(pl b).1&&((pl a).2.1==(pl b).2.1&&true)))),(AG (!x != 0&&((pl a).1==(pl b).1&&((pl a).2.1==(pl b).2.1&&true)))),(((!x != 0&&((pl a).1==(pl b).1&&((pl a).2.1==(pl b).2.1&&true)))=true)→(IL 0 (2*(↑b:Int)))),(((!x != 0&&((pl a).1==(pl b).1&&((pl a).2.1==(pl b).2.1&&true)))=true)→(IT (2*(↑b:Int)) (↑v.1:Int))),(AG (!x != 0&&((pl a).1==(pl b).1&&((pl a).2.1==(pl b).2.1&&true)))),(AG (!x != 0&&((pl a).1==(pl b).1&&((pl a).2.1==(pl b).2.1&&true)))),(AG (!x != 0&&((pl a).1==(pl b).1&&((pl a).2.1==(pl b).2.1&&true)))),(AG (!x != 0&&((pl a).1==(pl b).1&&((pl a).2.1==(pl b).2.1&&true)))),(AG (!x != 0&&((pl a).1==(pl b).1&&((pl a).2.1==(pl b).2.1&&true))&&!v.2 (2*a) != v.2 (2*b))),(((!x != 0&&((pl a).1==(pl b).1&&((pl a).2.1==(pl b).2.1&&true))&&!v.2 (2*a) != v.2 (2*b))=true)→(ZLo (2*(↑a:Int)))),(((!x != 0&&((pl a).1==(pl b).1&&((pl a).2.1==(pl b).2.1&&true))&&!v.2 (2*a) != v.2 (2*b))=true)→(ZHi (2*(↑a:Int)))),(AG (!x != 0&&((pl a).1==(pl b).1&&((pl a).2.1==(pl b).2.1&&true))&&!v.2 (2*a) != v.2 (2*b))),(((!x != 0&&((pl a).1==(pl b).1&&((pl a).2.1==(pl b).2.1&&true))&&!v.2 (2*a) != v.2 (2*b))=true)→(ZLo (2*(↑a:Int)+1))),(((!x != 0&&((pl a).1==(pl b).1&&((pl a).2.1==(pl b).2.1&&true))&&!v.2 (2*a) != v.2 (2*b))=true)→(ZHi (2*(↑a:Int)+1))),(AG (!x != 0&&((pl a).1==(pl b).1&&((pl a).2.1==(pl b).2.1&&true))&&!v.2 (2*a) != v.2 (2*b))),(AG (!x != 0&&((pl a).1==(pl b).1&&((pl a).2.1==(pl b).2.1&&true))&&!v.2 (2*a) != v.2 (2*b))),(((!x != 0&&((pl a).1==(pl b).1&&((pl a).2.1==(pl b).2.1&&true))&&!v.2 (2*a) != v.2 (2*b))=true)→(IL 0 (2*(↑a:Int)+1))),(((!x != 0&&((pl a).1==(pl b).1&&((pl a).2.1==(pl b).2.1&&true))&&!v.2 (2*a) != v.2 (2*b))=true)→(IT (2*(↑a:Int)+1) (↑v.1:Int))),(AG (!x != 0&&((pl a).1==(pl b).1&&((pl a).2.1==(pl b).2.1&&true))&&!v.2 (2*a) != v.2 (2*b))),(AG (!x != 0&&((pl a).1==(pl b).1&&((pl a).2.1==(pl b).2.1&&true))&&!v.2 (2*a) != v.2 (2*b))),(((!x != 0&&((pl a).1==(pl b).1&&((pl a).2.1==(pl b).2.1&&true))&&!v.2 (2*a) != v.2 (2*b))=true)→(ZLo (2*(↑b:Int)))),(((!x != 0&&((pl a).1==(pl b).1&&((pl a).2.1==(pl b).2.1&&true))&&!v.2 (2*a) != v.2 (2*b))=true)→(ZHi (2*(↑b:Int)))),(AG (!x != 0&&((pl a).1==(pl b).1&&((pl a).2.1==(pl b).2.1&&true))&&!v.2 (2*a) != v.2 (2*b))),(((!x != 0&&((pl a).1==(pl b).1&&((pl a).2.1==(pl b).2.1&&true))&&!v.2 (2*a) != v.2 (2*b))=true)→(ZLo (2*(↑b:Int)+1))),(((!x != 0&&((pl a).1==(pl b).1&&((pl a).2.1==(pl b).2.1&&true))&&!v.2 (2*a) != v.2 (2*b))=true)→(ZHi (2*(↑b:Int)+1))),(AG (!x != 0&&((pl a).1==(pl b).1&&((pl a).2.1==(pl b).2.1&&true))&&!v.2 (2*a) != v.2 (2*b))),(AG (!x != 0&&((pl a).1==(pl b).1&&((pl a).2.1==(pl b).2.1&&true))&&!v.2 (2*a) != v.2 (2*b))),(((!x != 0&&((pl a).1==(pl b).1&&((pl a).2.1==(pl b).2.1&&true))&&!v.2 (2*a) != v.2 (2*b))=true)→(IL 0 (2*(↑b:Int)+1))),(((!x != 0&&((pl a).1==(pl b).1&&((pl a).2.1==(pl b).2.1&&true))&&!v.2 (2*a) != v.2 (2*b))=true)→(IT (2*(↑b:Int)+1) (↑v.1:Int))),(AG (!x != 0&&((pl a).1==(pl b).1&&((pl a).2.1==(pl b).2.1&&true))&&!v.2 (2*a) != v.2 (2*b))),(AG (!x != 0&&((pl a).1==(pl b).1&&((pl a).2.1==(pl b).2.1&&true))&&!v.2 (2*a) != v.2 (2*b))),(AG (!x != 0&&((pl a).1==(pl b).1&&((pl a).2.1==(pl b).2.1&&true))&&!v.2 (2*a) != v.2 (2*b))),(AG (!x != 0&&((pl a).1==(pl b).1&&((pl a).2.1==(pl b).2.1&&true)))),(((!x != 0&&((pl a).1==(pl b).1&&((pl a).2.1==(pl b).2.1&&true)))=true)→(((v.2 (2*a) != v.2 (2*b))=false)→ ((!x != 0&&((pl a).1==(pl b).1&&((pl a).2.1==(pl b).2.1&&true))&&!v.2 (2*a) != v.2 (2*b))=true))),(AG (!x != 0)),(((!x != 0)=true)→((((pl a).1==(pl b).1&&((pl a).2.1==(pl b).2.1&&true))=true)→ ((!x != 0&&((pl a).1==(pl b).1&&((pl a).2.1==(pl b).2.1&&true)))=true))),(((x != 0)=false)→ ((!x != 0)=true)),((bif x != 0 then true else bif (pl a).1==(pl b).1&&((pl a).2.1==(pl b).2.1&&true) then bif v.2 (2*a) != v.2 (2*b) then true else v.2 (2*a+1) != v.2 (2*b+1) else false)=true),(false=false)]:=by kernel_rfl
theorem tsd (g:Nat→T_Bar) (nb N:Nat) (pl:Nat→T_Place) (np:Nat) (v:T_IntS) (a b:Nat) :
    pieceOb Tryz.prog 0 [rg 3,.dec false,rg 3,.head] zf15 (TS1 g nb N pl np v a b) [0] 1 (TS0 g nb N pl np v (a+1)) =
    some (zf99,[((decide ((↑b:Int)<(↑a:Int)))=false),(ZLo ((↑a:Int)+1)),(ZHi ((↑a:Int)+1)),(AN v.1),(AP v.1 (fun i=>[.int .i64 (v.2 i)])),(AN 0),((((↑a:Int)+1):Int)=(↑(a+1):Int)),(AN 3),(NL 1 1),(NL 1 1),(AI ((↑N:Int))),(AN nb),(AP nb (fun i=>[.int .i64 ((g i).1),.int .i64 ((g i).2.1)])),(AN np),(AP np (fun i=>[.int .i64 ((pl i).1),.int .i64 ((pl i).2.1)]))]):=by kernel_rfl
theorem tse (g:Nat→T_Bar) (nb:Nat) (N:Int) (pl:Nat→T_Place) (np:Nat) (v:T_IntS) (a:Nat) (b1 b2:Bool) :
    pathOb Tryz.prog Tryz.f199 0 [rm [(8,oc [] (.p (.bool b1)))] 1,.dec false,rm [(2,oc [] (.p (.bool b1))),(3,oc [] (.p (.bool b2)))] 2] zf99 (TS0 g nb N pl np v a) [] 1 [] (.p (.bool (bif b1 then b2 else false))) =
    some [(NT 0 1),(((decide ((↑a:Int)<N))=true)→(NT 0 1)),(AG (decide ((↑a:Int)<N))),(AG (decide ((↑a:Int)<N))),(((decide ((↑a:Int)<N))=true)→ Con Tryz.prog 299 0 [] [(zf35 N nb g np pl),.p (.seq true 1 v.1 (fun i=>[.int .i64 (v.2 i)]))] [] (.p (.bool b1))),(AG (decide ((↑a:Int)<N))),((bif decide ((↑a:Int)<N) then b1 else false)=false),(NT 0 1),Con Tryz.prog 299 0 [] [(zf35 N nb g np pl),.p (.seq true 1 v.1 (fun i=>[.int .i64 (v.2 i)]))] [] (.p (.bool b1)),((b1=true)→(NT 0 1)),(AG b1),(AG b1),((b1=true)→ Con Tryz.prog 301 0 [] [(zf35 N nb g np pl),.p (.seq true 1 v.1 (fun i=>[.int .i64 (v.2 i)]))] [] (.p (.bool b2))),(AG b1),((bif b1 then b2 else false)=(bif b1 then b2 else false))]:=by kernel_rfl
theorem tfz (g:Nat→T_Bar) (nb N:Nat) (pl:Nat→T_Place) (np:Nat) (v:T_IntS) :
    pieceOb Tryz.prog 0 [rg 2,rg 1,.head] [.code (bodyOf Tryz.f301)] (start Tryz.f301 [] 0 [frA g nb N pl np,inL v]) [0] 1 (TF0 g nb N pl np v 1) =
    some (zf100,[(AN v.1),(AP v.1 (fun i=>[.int .i64 (v.2 i)])),(AN 0),((1:Int)=(↑1:Int)),((([AV.p (PV.int IntKind.i64 (↑N:Int)),brL g nb,pcL pl np].length):Nat)=3),(NL 1 1),(NL 1 1),(AI ((↑N:Int))),(AN nb),(AP nb (fun i=>[.int .i64 ((g i).1),.int .i64 ((g i).2.1)])),(AN np),(AP np (fun i=>[.int .i64 ((pl i).1),.int .i64 ((pl i).2.1)]))]):=by kernel_rfl
theorem tfa (g:Nat→T_Bar) (nb N:Nat) (pl:Nat→T_Place) (np:Nat) (v:T_IntS) (a:Nat) :
    pieceOb Tryz.prog 0 [rg 5,.dec true,rg 1,.head] zf100 (TF0 g nb N pl np v a) [0] 1 (TF1 g nb N pl np v a 1) =
    some (zf16,[(NT 0 1),((decide ((↑a:Int)<(↑N:Int)))=true),(AN v.1),(AP v.1 (fun i=>[.int .i64 (v.2 i)])),(AN 0),(AI ((↑a:Int))),((1:Int)=(↑1:Int)),(AN 3),(NL 1 1),(NL 1 1),(AI ((↑N:Int))),(AN nb),(AP nb (fun i=>[.int .i64 ((g i).1),.int .i64 ((g i).2.1)])),(AN np),(AP np (fun i=>[.int .i64 ((pl i).1),.int .i64 ((pl i).2.1)]))]):=by kernel_rfl
theorem tfb (g:Nat→T_Bar) (nb N:Nat) (pl:Nat→T_Place) (np:Nat) (v:T_IntS) (a b:Nat) :
    pieceOb Tryz.prog 0 [rg 3,.dec true,rg 13,rg 13,rg 13,rg 13,rg 10,rg 11,rg 10,rg 11,rg 41,.dec false,rg 3,.head] zf16 (TF1 g nb N pl np v a b) [0] 1 (TF1 g nb N pl np v a (b+1)) =
    some (zf16,[((decide ((↑b:Int)<(↑a:Int)))=true),(NT 0 1),(IL 0 (↑a:Int)),(IT (↑a:Int) (↑np:Int)),(NT 0 1),(IL 0 0),(IT 0 (↑np:Int)),(ZLo ((pl a).1 - (pl 0).1)),(ZHi ((pl a).1 - (pl 0).1)),(NT 0 1),(IL 0 (↑a:Int)),(IT (↑a:Int) (↑np:Int)),(NT 0 1),(IL 0 0),(IT 0 (↑np:Int)),(ZLo ((pl a).2.1 - (pl 0).2.1)),(ZHi ((pl a).2.1 - (pl 0).2.1)),(NT 0 1),(IL 0 (↑b:Int)),(IT (↑b:Int) (↑np:Int)),(NT 0 1),(IL 0 0),(IT 0 (↑np:Int)),(ZLo ((pl b).1 - (pl 0).1)),(ZHi ((pl b).1 - (pl 0).1)),(NT 0 1),(IL 0 (↑b:Int)),(IT (↑b:Int) (↑np:Int)),(NT 0 1),(IL 0 0),(IT 0 (↑np:Int)),(ZLo ((pl b).2.1 - (pl 0).2.1)),(ZHi ((pl b).2.1 - (pl 0).2.1)),(ZLo (2*(↑a:Int))),(ZHi (2*(↑a:Int))),(IL 0 (2*(↑a:Int))),(IT (2*(↑a:Int)) (↑v.1:Int)),(IL 0 0),(IT 0 (↑v.1:Int)),(ZLo (v.2 (2*a) - v.2 0)),(ZHi (v.2 (2*a) - v.2 0)),(ZLo (2*(↑a:Int))),(ZHi (2*(↑a:Int))),(ZLo (2*(↑a:Int)+1)),(ZHi (2*(↑a:Int)+1)),(IL 0 (2*(↑a:Int)+1)),(IT (2*(↑a:Int)+1) (↑v.1:Int)),(IL 0 1),(IT 1 (↑v.1:Int)),(ZLo (v.2 (2*a+1) - v.2 1)),(ZHi (v.2 (2*a+1) - v.2 1)),(ZLo (2*(↑b:Int))),(ZHi (2*(↑b:Int))),(IL 0 (2*(↑b:Int))),(IT (2*(↑b:Int)) (↑v.1:Int)),(IL 0 0),(IT 0 (↑v.1:Int)),(ZLo (v.2 (2*b) - v.2 0)),(ZHi (v.2 (2*b) - v.2 0)),(ZLo (2*(↑b:Int))),(ZHi (2*(↑b:Int))),(ZLo (2*(↑b:Int)+1)),(ZHi (2*(↑b:Int)+1)),(IL 0 (2*(↑b:Int)+1)),(IT (2*(↑b:Int)+1) (↑v.1:Int)),(IL 0 1),(IT 1 (↑v.1:Int)),(ZLo (v.2 (2*b+1) - v.2 1)),(ZHi (v.2 (2*b+1) - v.2 1)),(ZLo (((pl a).1 - (pl 0).1)*((pl b).2.1 - (pl 0).2.1))),(ZHi (((pl a).1 - (pl 0).1)*((pl b).2.1 - (pl 0).2.1))),(ZLo (((pl a).2.1 - (pl 0).2.1)*((pl b).1 - (pl 0).1))),(ZHi (((pl a).2.1 - (pl 0).2.1)*((pl b).1 - (pl 0).1))),(AG (((pl a).1 - (pl 0).1)*((pl b).2.1 - (pl 0).2.1)==((pl a).2.1 - (pl 0).2.1)*((pl b).1 - (pl 0).1))),(AG (((pl a).1 - (pl 0).1)*((pl b).2.1 - (pl 0).2.1)==((pl a).2.1 - (pl 0).2.1)*((pl b).1 - (pl 0).1))),(((((pl a).1 - (pl 0).1)*((pl b).2.1 - (pl 0).2.1)==((pl a).2.1 - (pl 0).2.1)*((pl b).1 - (pl 0).1))=true)→(ZLo (((pl b).1 - (pl 0).1)*(v.2 (2*a) - v.2 0)))),(((((pl a).1 - (pl 0).1)*((pl b).2.1 - (pl 0).2.1)==((pl a).2.1 - (pl 0).2.1)*((pl b).1 - (pl 0).1))=true)→(ZHi (((pl b).1 - (pl 0).1)*(v.2 (2*a) - v.2 0)))),(AG (((pl a).1 - (pl 0).1)*((pl b).2.1 - (pl 0).2.1)==((pl a).2.1 - (pl 0).2.1)*((pl b).1 - (pl 0).1))),(AG (((pl a).1 - (pl 0).1)*((pl b).2.1 - (pl 0).2.1)==((pl a).2.1 - (pl 0).2.1)*((pl b).1 - (pl 0).1))),(((((pl a).1 - (pl 0).1)*((pl b).2.1 - (pl 0).2.1)==((pl a).2.1 - (pl 0).2.1)*((pl b).1 - (pl 0).1))=true)→(ZLo (((pl b).2.1 - (pl 0).2.1)*(v.2 (2*a+1) - v.2 1)))),(((((pl a).1 - (pl 0).1)*((pl b).2.1 - (pl 0).2.1)==((pl a).2.1 - (pl 0).2.1)*((pl b).1 - (pl 0).1))=true)→(ZHi (((pl b).2.1 - (pl 0).2.1)*(v.2 (2*a+1) - v.2 1)))),(AG (((pl a).1 - (pl 0).1)*((pl b).2.1 - (pl 0).2.1)==((pl a).2.1 - (pl 0).2.1)*((pl b).1 - (pl 0).1))),(AG (((pl a).1 - (pl 0).1)*((pl b).2.1 - (pl 0).2.1)==((pl a).2.1 - (pl 0).2.1)*((pl b).1 - (pl 0).1))),(((((pl a).1 - (pl 0).1)*((pl b).2.1 - (pl 0).2.1)==((pl a).2.1 - (pl 0).2.1)*((pl b).1 - (pl 0).1))=true)→(ZLo (((pl b).1 - (pl 0).1)*(v.2 (2*a) - v.2 0)+((pl b).2.1 - (pl 0).2.1)*(v.2 (2*a+1) - v.2 1)))),(((((pl a).1 - (pl 0).1)*((pl b).2.1 - (pl 0).2.1)==((pl a).2.1 - (pl 0).2.1)*((pl b).1 - (pl 0).1))=true)→(ZHi (((pl b).1 - (pl 0).1)*(v.2 (2*a) - v.2 0)+((pl b).2.1 - (pl 0).2.1)*(v.2 (2*a+1) - v.2 1)))),(AG (((pl a).1 - (pl 0).1)*((pl b).2.1 - (pl 0).2.1)==((pl a).2.1 - (pl 0).2.1)*((pl b).1 - (pl 0).1))),(AG (((pl a).1 - (pl 0).1)*((pl b).2.1 - (pl 0).2.1)==((pl a).2.1 - (pl 0).2.1)*((pl b).1 - (pl 0).1))),(((((pl a).1 - (pl 0).1)*((pl b).2.1 - (pl 0).2.1)==((pl a).2.1 - (pl 0).2.1)*((pl b).1 - (pl 0).1))=true)→(ZLo (((pl a).1 - (pl 0).1)*(v.2 (2*b) - v.2 0)))),(((((pl a).1 - (pl 0).1)*((pl b).2.1 - (pl 0).2.1)==((pl a).2.1 - (pl 0).2.1)*((pl b).1 - (pl 0).1))=true)→(ZHi (((pl a).1 - (pl 0).1)*(v.2 (2*b) - v.2 0)))),(AG (((pl a).1 - (pl 0).1)*((pl b).2.1 - (pl 0).2.1)==((pl a).2.1 - (pl 0).2.1)*((pl b).1 - (pl 0).1))),(AG (((pl a).1 - (pl 0).1)*((pl b).2.1 - (pl 0).2.1)==((pl a).2.1 - (pl 0).2.1)*((pl b).1 - (pl 0).1))),(((((pl a).1 - (pl 0).1)*((pl b).2.1 - (pl 0).2.1)==((pl a).2.1 - (pl 0).2.1)*((pl b).1 - (pl 0).1))=true)→(ZLo (((pl a).2.1 - (pl 0).2.1)*(v.2 (2*b+1) - v.2 1)))),(((((pl a).1 - (pl 0).1)*((pl b).2.1 - (pl 0).2.1)==((pl a).2.1 - (pl 0).2.1)*((pl b).1 - (pl 0).1))=true)→(ZHi (((pl a).2.1 - (pl 0).2.1)*(v.2 (2*b+1) - v.2 1)))),(AG (((pl a).1 - (pl 0).1)*((pl b).2.1 - (pl 0).2.1)==((pl a).2.1 - (pl 0).2.1)*((pl b).1 - (pl 0).1))),(AG (((pl a).1 - (pl 0).1)*((pl b).2.1 - (pl 0).2.1)==((pl a).2.1 - (pl 0).2.1)*((pl b).1 - (pl 0).1))),(((((pl a).1 - (pl 0).1)*((pl b).2.1 - (pl 0).2.1)==((pl a).2.1 - (pl 0).2.1)*((pl b).1 - (pl 0).1))=true)→(ZLo (((pl a).1 - (pl 0).1)*(v.2 (2*b) - v.2 0)+((pl a).2.1 - (pl 0).2.1)*(v.2 (2*b+1) - v.2 1)))),(((((pl a).1 - (pl 0).1)*((pl b).2.1 - (pl 0).2.1)==((pl a).2.1 - (pl 0).2.1)*((pl b).1 - (pl 0).1))=true)→(ZHi (((pl a).1 - (pl 0).1)*(v.2 (2*b) - v.2 0)+((pl a).2.1 - (pl 0).2.1)*(v.2 (2*b+1) - v.2 1)))),(AG (((pl a).1 - (pl 0).1)*((pl b).2.1 - (pl 0).2.1)==((pl a).2.1 - (pl 0).2.1)*((pl b).1 - (pl 0).1))),(AG (((pl a).1 - (pl 0).1)*((pl b).2.1 - (pl 0).2.1)==((pl a).2.1 - (pl 0).2.1)*((pl b).1 - (pl 0).1))),(AG (((pl a).1 - (pl 0).1)*((pl b).2.1 - (pl 0).2.1)==((pl a).2.1 - (pl 0).2.1)*((pl b).1 - (pl 0).1))),(AG (((pl a).1 - (pl 0).1)*((pl b).2.1 - (pl 0).2.1)==((pl a).2.1 - (pl 0).2.1)*((pl b).1 - (pl 0).1)&&!((pl b).1 - (pl 0).1)*(v.2 (2*a) - v.2 0)+((pl b).2.1 - (pl 0).2.1)*(v.2 (2*a+1) - v.2 1) != ((pl a).1 - (pl 0).1)*(v.2 (2*b) - v.2 0)+((pl a).2.1 - (pl 0).2.1)*(v.2 (2*b+1) - v.2 1))),(AG (((pl a).1 - (pl 0).1)*((pl b).2.1 - (pl 0).2.1)==((pl a).2.1 - (pl 0).2.1)*((pl b).1 - (pl 0).1)&&!((pl b).1 - (pl 0).1)*(v.2 (2*a) - v.2 0)+((pl b).2.1 - (pl 0).2.1)*(v.2 (2*a+1) - v.2 1) != ((pl a).1 - (pl 0).1)*(v.2 (2*b) - v.2 0)+((pl a).2.1 - (pl 0).2.1)*(v.2 (2*b+1) - v.2 1))),(((((pl a).1 - (pl 0).1)*((pl b).2.1 - (pl 0).2.1)==((pl a).2.1 - (pl 0).2.1)*((pl b).1 - (pl 0).1)&&!((pl b).1 - (pl 0).1)*(v.2 (2*a) - v.2 0)+((pl b).2.1 - (pl 0).2.1)*(v.2 (2*a+1) - v.2 1) != ((pl a).1 - (pl 0).1)*(v.2 (2*b) - v.2 0)+((pl a).2.1 - (pl 0).2.1)*(v.2 (2*b+1) - v.2 1))=true)→(ZLo (((pl b).1 - (pl 0).1)*(v.2 (2*a+1) - v.2 1)))),(((((pl a).1 - (pl 0).1)*((pl b).2.1 - (pl 0).2.1)==((pl a).2.1 - (pl 0).2.1)*((pl b).1 - (pl 0).1)&&!((pl b).1 - (pl 0).1)*(v.2 (2*a) - v.2 0)+((pl b).2.1 - (pl 0).2.1)*(v.2 (2*a+1) - v.2 1) != ((pl a).1 - (pl 0).1)*(v.2 (2*b) - v.2 0)+((pl a).2.1 - (pl 0).2.1)*(v.2 (2*b+1) - v.2 1))=true)→(ZHi (((pl b).1 - (pl 0).1)*(v.2 (2*a+1) - v.2 1)))),(AG (((pl a).1 - (pl 0).1)*((pl b).2.1 - (pl 0).2.1)==((pl a).2.1 - (pl 0).2.1)*((pl b).1 - (pl 0).1)&&!((pl b).1 - (pl 0).1)*(v.2 (2*a) - v.2 0)+((pl b).2.1 - (pl 0).2.1)*(v.2 (2*a+1) - v.2 1) != ((pl a).1 - (pl 0).1)*(v.2 (2*b) - v.2 0)+((pl a).2.1 - (pl 0).2.1)*(v.2 (2*b+1) - v.2 1))),(AG (((pl a).1 - (pl 0).1)*((pl b).2.1 - (pl 0).2.1)==((pl a).2.1 - (pl 0).2.1)*((pl b).1 - (pl 0).1)&&!((pl b).1 - (pl 0).1)*(v.2 (2*a) - v.2 0)+((pl b).2.1 - (pl 0).2.1)*(v.2 (2*a+1) - v.2 1) != ((pl a).1 - (pl 0).1)*(v.2 (2*b) - v.2 0)+((pl a).2.1 - (pl 0).2.1)*(v.2 (2*b+1) - v.2 1))),(((((pl a).1 - (pl 0).1)*((pl b).2.1 - (pl 0).2.1)==((pl a).2.1 - (pl 0).2.1)*((pl b).1 - (pl 0).1)&&!((pl b).1 - (pl 0).1)*(v.2 (2*a) - v.2 0)+((pl b).2.1 - (pl 0).2.1)*(v.2 (2*a+1) - v.2 1) != ((pl a).1 - (pl 0).1)*(v.2 (2*b) - v.2 0)+((pl a).2.1 - (pl 0).2.1)*(v.2 (2*b+1) - v.2 1))=true)→(ZLo (((pl b).2.1 - (pl 0).2.1)*(v.2 (2*a) - v.2 0)))),(((((pl a).1 - (pl 0).1)*((pl b).2.1 - (pl 0).2.1)==((pl a).2.1 - (pl 0).2.1)*((pl b).1 - (pl 0).1)&&!((pl b).1 - (pl 0).1)*(v.2 (2*a) - v.2 0)+((pl b).2.1 - (pl 0).2.1)*(v.2 (2*a+1) - v.2 1) != ((pl a).1 - (pl 0).1)*(v.2 (2*b) - v.2 0)+((pl a).2.1 - (pl 0).2.1)*(v.2 (2*b+1) - v.2 1))=true)→(ZHi (((pl b).2.1 - (pl 0).2.1)*(v.2 (2*a) - v.2 0)))),(AG (((pl a).1 - (pl 0).1)*((pl b).2.1 - (pl 0).2.1)==((pl a).2.1 - (pl 0).2.1)*((pl b).1 - (pl 0).1)&&!((pl b).1 - (pl 0).1)*(v.2 (2*a) - v.2 0)+((pl b).2.1 - (pl 0).2.1)*(v.2 (2*a+1) - v.2 1) != ((pl a).1 - (pl 0).1)*(v.2 (2*b) - v.2 0)+((pl a).2.1 - (pl 0).2.1)*(v.2 (2*b+1) - v.2 1))),(AG (((pl a).1 - (pl 0).1)*((pl b).2.1 - (pl 0).2.1)==((pl a).2.1 - (pl 0).2.1)*((pl b).1 - (pl 0).1)&&!((pl b).1 - (pl 0).1)*(v.2 (2*a) - v.2 0)+((pl b).2.1 - (pl 0).2.1)*(v.2 (2*a+1) - v.2 1) != ((pl a).1 - (pl 0).1)*(v.2 (2*b) - v.2 0)+((pl a).2.1 - (pl 0).2.1)*(v.2 (2*b+1) - v.2 1))),(((((pl a).1 - (pl 0).1)*((pl b).2.1 - (pl 0).2.1)==((pl a).2.1 - (pl 0).2.1)*((pl b).1 - (pl 0).1)&&!((pl b).1 - (pl 0).1)*(v.2 (2*a) - v.2 0)+((pl b).2.1 - (pl 0).2.1)*(v.2 (2*a+1) - v.2 1) != ((pl a).1 - (pl 0).1)*(v.2 (2*b) - v.2 0)+((pl a).2.1 - (pl 0).2.1)*(v.2 (2*b+1) - v.2 1))=true)→(ZLo (((pl b).1 - (pl 0).1)*(v.2 (2*a+1) - v.2 1) - ((pl b).2.1 - (pl 0).2.1)*(v.2 (2*a) - v.2 0)))),(((((pl a).1 - (pl 0).1)*((pl b).2.1 - (pl 0).2.1)==((pl a).2.1 - (pl 0).2.1)*((pl b).1 - (pl 0).1)&&!((pl b).1 - (pl 0).1)*(v.2 (2*a) - v.2 0)+((pl b).2.1 - (pl 0).2.1)*(v.2 (2*a+1) - v.2 1) != ((pl a).1 - (pl 0).1)*(v.2 (2*b) - v.2 0)+((pl a).2.1 - (pl 0).2.1)*(v.2 (2*b+1) - v.2 1))=true)→(ZHi (((pl b).1 - (pl 0).1)*(v.2 (2*a+1) - v.2 1) - ((pl b).2.1 - (pl 0).2.1)*(v.2 (2*a) - v.2 0)))),(AG (((pl a).1 - (pl 0).1)*((pl b).2.1 - (pl 0).2.1)==((pl a).2.1 - (pl 0).2.1)*((pl b).1 - (pl 0).1)&&!((pl b).1 - (pl 0).1)*(v.2 (2*a) - v.2 0)+((pl b).2.1 - (pl 0).2.1)*(v.2 (2*a+1) - v.2 1) != ((pl a).1 - (pl 0).1)*(v.2 (2*b) - v.2 0)+((pl a).2.1 - (pl 0).2.1)*(v.2 (2*b+1) - v.2 1))),(AG (((pl a).1 - (pl 0).1)*((pl b).2.1 - (pl 0).2.1)==((pl a).2.1 - (pl 0).2.1)*((pl b).1 - (pl 0).1)&&!((pl b).1 - (pl 0).1)*(v.2 (2*a) - v.2 0)+((pl b).2.1 - (pl 0).2.1)*(v.2 (2*a+1) - v.2 1) != ((pl a).1 - (pl 0).1)*(v.2 (2*b) - v.2 0)+((pl a).2.1 - (pl 0).2.1)*(v.2 (2*b+1) - v.2 1))),(((((pl a).1 - (pl 0).1)*((pl b).2.1 - (pl 0).2.1)==((pl a).2.1 - (pl 0).2.1)*((pl b).1 - (pl 0).1)&&!((pl b).1 - (pl 0).1)*(v.2 (2*a) - v.2 0)+((pl b).2.1 - (pl 0).2.1)*(v.2 (2*a+1) - v.2 1) != ((pl a).1 - (pl 0).1)*(v.2 (2*b) - v.2 0)+((pl a).2.1 - (pl 0).2.1)*(v.2 (2*b+1) - v.2 1))=true)→(ZLo (((pl a).1 - (pl 0).1)*(v.2 (2*b+1) - v.2 1)))),(((((pl a).1 - (pl 0).1)*((pl b).2.1 - (pl 0).2.1)==((pl a).2.1 - (pl 0).2.1)*((pl b).1 - (pl 0).1)&&!((pl b).1 - (pl 0).1)*(v.2 (2*a) - v.2 0)+((pl b).2.1 - (pl 0).2.1)*(v.2 (2*a+1) - v.2 1) != ((pl a).1 - (pl 0).1)*(v.2 (2*b) - v.2 0)+((pl a).2.1 - (pl 0).2.1)*(v.2 (2*b+1) - v.2 1))=true)→(ZHi (((pl a).1 - (pl 0).1)*(v.2 (2*b+1) - v.2 1)))),(AG (((pl a).1 - (pl 0).1)*((pl b).2.1 - (pl 0).2.1)==((pl a).2.1 - (pl 0).2.1)*((pl b).1 - (pl 0).1)&&!((pl b).1 - (pl 0).1)*(v.2 (2*a) - v.2 0)+((pl b).2.1 - (pl 0).2.1)*(v.2 (2*a+1) - v.2 1) != ((pl a).1 - (pl 0).1)*(v.2 (2*b) - v.2 0)+((pl a).2.1 - (pl 0).2.1)*(v.2 (2*b+1) - v.2 1))),(AG (((pl a).1 - (pl 0).1)*((pl b).2.1 - (pl 0).2.1)==((pl a).2.1 - (pl 0).2.1)*((pl b).1 - (pl 0).1)&&!((pl b).1 - (pl 0).1)*(v.2 (2*a) - v.2 0)+((pl b).2.1 - (pl 0).2.1)*(v.2 (2*a+1) - v.2 1) != ((pl a).1 - (pl 0).1)*(v.2 (2*b) - v.2 0)+((pl a).2.1 - (pl 0).2.1)*(v.2 (2*b+1) - v.2 1))),(((((pl a).1 - (pl 0).1)*((pl b).2.1 - (pl 0).2.1)==((pl a).2.1 - (pl 0).2.1)*((pl b).1 - (pl 0).1)&&!((pl b).1 - (pl 0).1)*(v.2 (2*a) - v.2 0)+((pl b).2.1 - (pl 0).2.1)*(v.2 (2*a+1) - v.2 1) != ((pl a).1 - (pl 0).1)*(v.2 (2*b) - v.2 0)+((pl a).2.1 - (pl 0).2.1)*(v.2 (2*b+1) - v.2 1))=true)→(ZLo (((pl a).2.1 - (pl 0).2.1)*(v.2 (2*b) - v.2 0)))),(((((pl a).1 - (pl 0).1)*((pl b).2.1 - (pl 0).2.1)==((pl a).2.1 - (pl 0).2.1)*((pl b).1 - (pl 0).1)&&!((pl b).1 - (pl 0).1)*(v.2 (2*a) - v.2 0)+((pl b).2.1 - (pl 0).2.1)*(v.2 (2*a+1) - v.2 1) != ((pl a).1 - (pl 0).1)*(v.2 (2*b) - v.2 0)+((pl a).2.1 - (pl 0).2.1)*(v.2 (2*b+1) - v.2 1))=true)→(ZHi (((pl a).2.1 - (pl 0).2.1)*(v.2 (2*b) - v.2 0)))),(AG (((pl a).1 - (pl 0).1)*((pl b).2.1 - (pl 0).2.1)==((pl a).2.1 - (pl 0).2.1)*((pl b).1 - (pl 0).1)&&!((pl b).1 - (pl 0).1)*(v.2 (2*a) - v.2 0)+((pl b).2.1 - (pl 0).2.1)*(v.2 (2*a+1) - v.2 1) != ((pl a).1 - (pl 0).1)*(v.2 (2*b) - v.2 0)+((pl a).2.1 - (pl 0).2.1)*(v.2 (2*b+1) - v.2 1))),(AG (((pl a).1 - (pl 0).1)*((pl b).2.1 - (pl 0).2.1)==((pl a).2.1 - (pl 0).2.1)*((pl b).1 - (pl 0).1)&&!((pl b).1 - (pl 0).1)*(v.2 (2*a) - v.2 0)+((pl b).2.1 - (pl 0).2.1)*(v.2 (2*a+1) - v.2 1) != ((pl a).1 - (pl 0).1)*(v.2 (2*b) - v.2 0)+((pl a).2.1 - (pl 0).2.1)*(v.2 (2*b+1) - v.2 1))),(((((pl a).1 - (pl 0).1)*((pl b).2.1 - (pl 0).2.1)==((pl a).2.1 - (pl 0).2.1)*((pl b).1 - (pl 0).1)&&!((pl b).1 - (pl 0).1)*(v.2 (2*a) - v.2 0)+((pl b).2.1 - (pl 0).2.1)*(v.2 (2*a+1) - v.2 1) != ((pl a).1 - (pl 0).1)*(v.2 (2*b) - v.2 0)+((pl a).2.1 - (pl 0).2.1)*(v.2 (2*b+1) - v.2 1))=true)→(ZLo (((pl a).1 - (pl 0).1)*(v.2 (2*b+1) - v.2 1) - ((pl a).2.1 - (pl 0).2.1)*(v.2 (2*b) - v.2 0)))),(((((pl a).1 - (pl 0).1)*((pl b).2.1 - (pl 0).2.1)==((pl a).2.1 - (pl 0).2.1)*((pl b).1 - (pl 0).1)&&!((pl b).1 - (pl 0).1)*(v.2 (2*a) - v.2 0)+((pl b).2.1 - (pl 0).2.1)*(v.2 (2*a+1) - v.2 1) != ((pl a).1 - (pl 0).1)*(v.2 (2*b) - v.2 0)+((pl a).2.1 - (pl 0).2.1)*(v.2 (2*b+1) - v.2 1))=true)→(ZHi (((pl a).1 - (pl 0).1)*(v.2 (2*b+1) - v.2 1) - ((pl a).2.1 - (pl 0).2.1)*(v.2 (2*b) - v.2 0)))),(AG (((pl a).1 - (pl 0).1)*((pl b).2.1 - (pl 0).2.1)==((pl a).2.1 - (pl 0).2.1)*((pl b).1 - (pl 0).1)&&!((pl b).1 - (pl 0).1)*(v.2 (2*a) - v.2 0)+((pl b).2.1 - (pl 0).2.1)*(v.2 (2*a+1) - v.2 1) != ((pl a).1 - (pl 0).1)*(v.2 (2*b) - v.2 0)+((pl a).2.1 - (pl 0).2.1)*(v.2 (2*b+1) - v.2 1))),(AG (((pl a).1 - (pl 0).1)*((pl b).2.1 - (pl 0).2.1)==((pl a).2.1 - (pl 0).2.1)*((pl b).1 - (pl 0).1)&&!((pl b).1 - (pl 0).1)*(v.2 (2*a) - v.2 0)+((pl b).2.1 - (pl 0).2.1)*(v.2 (2*a+1) - v.2 1) != ((pl a).1 - (pl 0).1)*(v.2 (2*b) - v.2 0)+((pl a).2.1 - (pl 0).2.1)*(v.2 (2*b+1) - v.2 1))),(AG (((pl a).1 - (pl 0).1)*((pl b).2.1 - (pl 0).2.1)==((pl a).2.1 - (pl 0).2.1)*((pl b).1 - (pl 0).1))),(((((pl a).1 - (pl 0).1)*((pl b).2.1 - (pl 0).2.1)==((pl a).2.1 - (pl 0).2.1)*((pl b).1 - (pl 0).1))=true)→(((((pl b).1 - (pl 0).1)*(v.2 (2*a) - v.2 0)+((pl b).2.1 - (pl 0).2.1)*(v.2 (2*a+1) - v.2 1) != ((pl a).1 - (pl 0).1)*(v.2 (2*b) - v.2 0)+((pl a).2.1 - (pl 0).2.1)*(v.2 (2*b+1) - v.2 1))=false)→ ((((pl a).1 - (pl 0).1)*((pl b).2.1 - (pl 0).2.1)==((pl a).2.1 - (pl 0).2.1)*((pl b).1 - (pl 0).1)&&!((pl b).1 - (pl 0).1)*(v.2 (2*a) - v.2 0)+((pl b).2.1 - (pl 0).2.1)*(v.2 (2*a+1) - v.2 1) != ((pl a).1 - (pl 0).1)*(v.2 (2*b) - v.2 0)+((pl a).2.1 - (pl 0).2.1)*(v.2 (2*b+1) - v.2 1))=true))),(AG (((pl a).1 - (pl 0).1)*((pl b).2.1 - (pl 0).2.1)==((pl a).2.1 - (pl 0).2.1)*((pl b).1 - (pl 0).1))),((bif ((pl a).1 - (pl 0).1)*((pl b).2.1 - (pl 0).2.1)==((pl a).2.1 - (pl 0).2.1)*((pl b).1 - (pl 0).1) then bif ((pl b).1 - (pl 0).1)*(v.2 (2*a) - v.2 0)+((pl b).2.1 - (pl 0).2.1)*(v.2 (2*a+1) - v.2 1) != ((pl a).1 - (pl 0).1)*(v.2 (2*b) - v.2 0)+((pl a).2.1 - (pl 0).2.1)*(v.2 (2*b+1) - v.2 1) then true else ((pl b).1 - (pl 0).1)*(v.2 (2*a+1) - v.2 1) - ((pl b).2.1 - (pl 0).2.1)*(v.2 (2*a) - v.2 0) != ((pl a).1 - (pl 0).1)*(v.2 (2*b+1) - v.2 1) - ((pl a).2.1 - (pl 0).2.1)*(v.2 (2*b) - v.2 0) else false)=false),(ZLo ((↑b:Int)+1)),(ZHi ((↑b:Int)+1)),(AN v.1),(AP v.1 (fun i=>[.int .i64 (v.2 i)])),(AN 0),(AI ((↑a:Int))),((((↑b:Int)+1):Int)=(↑(b+1):Int)),(AN 3),(NL 1 1),(NL 1 1),(AI ((↑N:Int))),(AN nb),(AP nb (fun i=>[.int .i64 ((g i).1),.int .i64 ((g i).2.1)])),(AN np),(AP np (fun i=>[.int .i64 ((pl i).1),.int .i64 ((pl i).2.1)]))]):=by kernel_rfl
theorem tfc (g:Nat→T_Bar) (nb N:Nat) (pl:Nat→T_Place) (np:Nat) (v:T_IntS) (a b:Nat) :
    pathOb Tryz.prog Tryz.f301 0 [rg 3,.dec true,rg 13,rg 13,rg 13,rg 13,rg 10,rg 11,rg 10,rg 11,rg 41,.dec true,rg 1] zf16 (TF1 g nb N pl np v a b) [] 1 [] (.p (.bool false)) =
    some [((decide ((↑b:Int)<(↑a:Int)))=true),(NT 0 1),(IL 0 (↑a:Int)),(IT (↑a:Int) (↑np:Int)),(NT 0 1),(IL 0 0),(IT 0 (↑np:Int)),(ZLo ((pl a).1 - (pl 0).1)),(ZHi ((pl a).1 - (pl 0).1)),(NT 0 1),(IL 0 (↑a:Int)),(IT (↑a:Int) (↑np:Int)),(NT 0 1),(IL 0 0),(IT 0 (↑np:Int)),(ZLo ((pl a).2.1 - (pl 0).2.1)),(ZHi ((pl a).2.1 - (pl 0).2.1)),(NT 0 1),(IL 0 (↑b:Int)),(IT (↑b:Int) (↑np:Int)),(NT 0 1),(IL 0 0),(IT 0 (↑np:Int)),(ZLo ((pl b).1 - (pl 0).1)),(ZHi ((pl b).1 - (pl 0).1)),(NT 0 1),(IL 0 (↑b:Int)),(IT (↑b:Int) (↑np:Int)),(NT 0 1),(IL 0 0),(IT 0 (↑np:Int)),(ZLo ((pl b).2.1 - (pl 0).2.1)),(ZHi ((pl b).2.1 - (pl 0).2.1)),(ZLo (2*(↑a:Int))),(ZHi (2*(↑a:Int))),(IL 0 (2*(↑a:Int))),(IT (2*(↑a:Int)) (↑v.1:Int)),(IL 0 0),(IT 0 (↑v.1:Int)),(ZLo (v.2 (2*a) - v.2 0)),(ZHi (v.2 (2*a) - v.2 0)),(ZLo (2*(↑a:Int))),(ZHi (2*(↑a:Int))),(ZLo (2*(↑a:Int)+1)),(ZHi (2*(↑a:Int)+1)),(IL 0 (2*(↑a:Int)+1)),(IT (2*(↑a:Int)+1) (↑v.1:Int)),(IL 0 1),(IT 1 (↑v.1:Int)),(ZLo (v.2 (2*a+1) - v.2 1)),(ZHi (v.2 (2*a+1) - v.2 1)),(ZLo (2*(↑b:Int))),(ZHi (2*(↑b:Int))),(IL 0 (2*(↑b:Int))),(IT (2*(↑b:Int)) (↑v.1:Int)),(IL 0 0),(IT 0 (↑v.1:Int)),(ZLo (v.2 (2*b) - v.2 0)),(ZHi (v.2 (2*b) - v.2 0)),(ZLo (2*(↑b:Int))),(ZHi (2*(↑b:Int))),(ZLo (2*(↑b:Int)+1)),(ZHi (2*(↑b:Int)+1)),(IL 0 (2*(↑b:Int)+1)),(IT (2*(↑b:Int)+1) (↑v.1:Int)),(IL 0 1),(IT 1 (↑v.1:Int)),(ZLo (v.2 (2*b+1) - v.2 1)),(ZHi (v.2 (2*b+1) - v.2 1)),(ZLo (((pl a).1 - (pl 0).1)*((pl b).2.1 - (pl 0).2.1))),(ZHi (((pl a).1 - (pl 0).1)*((pl b).2.1 - (pl 0).2.1))),(ZLo (((pl a).2.1 - (pl 0).2.1)*((pl b).1 - (pl 0).1))),(ZHi (((pl a).2.1 - (pl 0).2.1)*((pl b).1 - (pl 0).1))),(AG (((pl a).1 - (pl 0).1)*((pl b).2.1 - (pl 0).2.1)==((pl a).2.1 - (pl 0).2.1)*((pl b).1 - (pl 0).1))),(AG (((pl a).1 - (pl 0).1)*((pl b).2.1 - (pl 0).2.1)==((pl a).2.1 - (pl 0).2.1)*((pl b).1 - (pl 0).1))),(((((pl a).1 - (pl 0).1)*((pl b).2.1 - (pl 0).2.1)==((pl a).2.1 - (pl 0).2.1)*((pl b).1 - (pl 0).1))=true)→(ZLo (((pl b).1 - (pl 0).1)*(v.2 (2*a) - v.2 0)))),(((((pl a).1 - (pl 0).1)*((pl b).2.1 - (pl 0).2.1)==((pl a).2.1 - (pl 0).2.1)*((pl b).1 - (pl 0).1))=true)→(ZHi (((pl b).1 - (pl 0).1)*(v.2 (2*a) - v.2 0)))),(AG (((pl a).1 - (pl 0).1)*((pl b).2.1 - (pl 0).2.1)==((pl a).2.1 - (pl 0).2.1)*((pl b).1 - (pl 0).1))),(AG (((pl a).1 - (pl 0).1)*((pl b).2.1 - (pl 0).2.1)==((pl a).2.1 - (pl 0).2.1)*((pl b).1 - (pl 0).1))),(((((pl a).1 - (pl 0).1)*((pl b).2.1 - (pl 0).2.1)==((pl a).2.1 - (pl 0).2.1)*((pl b).1 - (pl 0).1))=true)→(ZLo (((pl b).2.1 - (pl 0).2.1)*(v.2 (2*a+1) - v.2 1)))),(((((pl a).1 - (pl 0).1)*((pl b).2.1 - (pl 0).2.1)==((pl a).2.1 - (pl 0).2.1)*((pl b).1 - (pl 0).1))=true)→(ZHi (((pl b).2.1 - (pl 0).2.1)*(v.2 (2*a+1) - v.2 1)))),(AG (((pl a).1 - (pl 0).1)*((pl b).2.1 - (pl 0).2.1)==((pl a).2.1 - (pl 0).2.1)*((pl b).1 - (pl 0).1))),(AG (((pl a).1 - (pl 0).1)*((pl b).2.1 - (pl 0).2.1)==((pl a).2.1 - (pl 0).2.1)*((pl b).1 - (pl 0).1))),(((((pl a).1 - (pl 0).1)*((pl b).2.1 - (pl 0).2.1)==((pl a).2.1 - (pl 0).2.1)*((pl b).1 - (pl 0).1))=true)→(ZLo (((pl b).1 - (pl 0).1)*(v.2 (2*a) - v.2 0)+((pl b).2.1 - (pl 0).2.1)*(v.2 (2*a+1) - v.2 1)))),(((((pl a).1 - (pl 0).1)*((pl b).2.1 - (pl 0).2.1)==((pl a).2.1 - (pl 0).2.1)*((pl b).1 - (pl 0).1))=true)→(ZHi (((pl b).1 - (pl 0).1)*(v.2 (2*a) - v.2 0)+((pl b).2.1 - (pl 0).2.1)*(v.2 (2*a+1) - v.2 1)))),(AG (((pl a).1 - (pl 0).1)*((pl b).2.1 - (pl 0).2.1)==((pl a).2.1 - (pl 0).2.1)*((pl b).1 - (pl 0).1))),(AG (((pl a).1 - (pl 0).1)*((pl b).2.1 - (pl 0).2.1)==((pl a).2.1 - (pl 0).2.1)*((pl b).1 - (pl 0).1))),(((((pl a).1 - (pl 0).1)*((pl b).2.1 - (pl 0).2.1)==((pl a).2.1 - (pl 0).2.1)*((pl b).1 - (pl 0).1))=true)→(ZLo (((pl a).1 - (pl 0).1)*(v.2 (2*b) - v.2 0)))),(((((pl a).1 - (pl 0).1)*((pl b).2.1 - (pl 0).2.1)==((pl a).2.1 - (pl 0).2.1)*((pl b).1 - (pl 0).1))=true)→(ZHi (((pl a).1 - (pl 0).1)*(v.2 (2*b) - v.2 0)))),(AG (((pl a).1 - (pl 0).1)*((pl b).2.1 - (pl 0).2.1)==((pl a).2.1 - (pl 0).2.1)*((pl b).1 - (pl 0).1))),(AG (((pl a).1 - (pl 0).1)*((pl b).2.1 - (pl 0).2.1)==((pl a).2.1 - (pl 0).2.1)*((pl b).1 - (pl 0).1))),(((((pl a).1 - (pl 0).1)*((pl b).2.1 - (pl 0).2.1)==((pl a).2.1 - (pl 0).2.1)*((pl b).1 - (pl 0).1))=true)→(ZLo (((pl a).2.1 - (pl 0).2.1)*(v.2 (2*b+1) - v.2 1)))),(((((pl a).1 - (pl 0).1)*((pl b).2.1 - (pl 0).2.1)==((pl a).2.1 - (pl 0).2.1)*((pl b).1 - (pl 0).1))=true)→(ZHi (((pl a).2.1 - (pl 0).2.1)*(v.2 (2*b+1) - v.2 1)))),(AG (((pl a).1 - (pl 0).1)*((pl b).2.1 - (pl 0).2.1)==((pl a).2.1 - (pl 0).2.1)*((pl b).1 - (pl 0).1))),(AG (((pl a).1 - (pl 0).1)*((pl b).2.1 - (pl 0).2.1)==((pl a).2.1 - (pl 0).2.1)*((pl b).1 - (pl 0).1))),(((((pl a).1 - (pl 0).1)*((pl b).2.1 - (pl 0).2.1)==((pl a).2.1 - (pl 0).2.1)*((pl b).1 - (pl 0).1))=true)→(ZLo (((pl a).1 - (pl 0).1)*(v.2 (2*b) - v.2 0)+((pl a).2.1 - (pl 0).2.1)*(v.2 (2*b+1) - v.2 1)))),(((((pl a).1 - (pl 0).1)*((pl b).2.1 - (pl 0).2.1)==((pl a).2.1 - (pl 0).2.1)*((pl b).1 - (pl 0).1))=true)→(ZHi (((pl a).1 - (pl 0).1)*(v.2 (2*b) - v.2 0)+((pl a).2.1 - (pl 0).2.1)*(v.2 (2*b+1) - v.2 1)))),(AG (((pl a).1 - (pl 0).1)*((pl b).2.1 - (pl 0).2.1)==((pl a).2.1 - (pl 0).2.1)*((pl b).1 - (pl 0).1))),(AG (((pl a).1 - (pl 0).1)*((pl b).2.1 - (pl 0).2.1)==((pl a).2.1 - (pl 0).2.1)*((pl b).1 - (pl 0).1))),(AG (((pl a).1 - (pl 0).1)*((pl b).2.1 - (pl 0).2.1)==((pl a).2.1 - (pl 0).2.1)*((pl b).1 - (pl 0).1))),(AG (((pl a).1 - (pl 0).1)*((pl b).2.1 - (pl 0).2.1)==((pl a).2.1 - (pl 0).2.1)*((pl b).1 - (pl 0).1)&&!((pl b).1 - (pl 0).1)*(v.2 (2*a) - v.2 0)+((pl b).2.1 - (pl 0).2.1)*(v.2 (2*a+1) - v.2 1) != ((pl a).1 - (pl 0).1)*(v.2 (2*b) - v.2 0)+((pl a).2.1 - (pl 0).2.1)*(v.2 (2*b+1) - v.2 1))),(AG (((pl a).1 - (pl 0).1)*((pl b).2.1 - (pl 0).2.1)==((pl a).2.1 - (pl 0).2.1)*((pl b).1 - (pl 0).1)&&!((pl b).1 - (pl 0).1)*(v.2 (2*a) - v.2 0)+((pl b).2.1 - (pl 0).2.1)*(v.2 (2*a+1) - v.2 1) != ((pl a).1 - (pl 0).1)*(v.2 (2*b) - v.2 0)+((pl a).2.1 - (pl 0).2.1)*(v.2 (2*b+1) - v.2 1))),(((((pl a).1 - (pl 0).1)*((pl b).2.1 - (pl 0).2.1)==((pl a).2.1 - (pl 0).2.1)*((pl b).1 - (pl 0).1)&&!((pl b).1 - (pl 0).1)*(v.2 (2*a) - v.2 0)+((pl b).2.1 - (pl 0).2.1)*(v.2 (2*a+1) - v.2 1) != ((pl a).1 - (pl 0).1)*(v.2 (2*b) - v.2 0)+((pl a).2.1 - (pl 0).2.1)*(v.2 (2*b+1) - v.2 1))=true)→(ZLo (((pl b).1 - (pl 0).1)*(v.2 (2*a+1) - v.2 1)))),(((((pl a).1 - (pl 0).1)*((pl b).2.1 - (pl 0).2.1)==((pl a).2.1 - (pl 0).2.1)*((pl b).1 - (pl 0).1)&&!((pl b).1 - (pl 0).1)*(v.2 (2*a) - v.2 0)+((pl b).2.1 - (pl 0).2.1)*(v.2 (2*a+1) - v.2 1) != ((pl a).1 - (pl 0).1)*(v.2 (2*b) - v.2 0)+((pl a).2.1 - (pl 0).2.1)*(v.2 (2*b+1) - v.2 1))=true)→(ZHi (((pl b).1 - (pl 0).1)*(v.2 (2*a+1) - v.2 1)))),(AG (((pl a).1 - (pl 0).1)*((pl b).2.1 - (pl 0).2.1)==((pl a).2.1 - (pl 0).2.1)*((pl b).1 - (pl 0).1)&&!((pl b).1 - (pl 0).1)*(v.2 (2*a) - v.2 0)+((pl b).2.1 - (pl 0).2.1)*(v.2 (2*a+1) - v.2 1) != ((pl a).1 - (pl 0).1)*(v.2 (2*b) - v.2 0)+((pl a).2.1 - (pl 0).2.1)*(v.2 (2*b+1) - v.2 1))),(AG (((pl a).1 - (pl 0).1)*((pl b).2.1 - (pl 0).2.1)==((pl a).2.1 - (pl 0).2.1)*((pl b).1 - (pl 0).1)&&!((pl b).1 - (pl 0).1)*(v.2 (2*a) - v.2 0)+((pl b).2.1 - (pl 0).2.1)*(v.2 (2*a+1) - v.2 1) != ((pl a).1 - (pl 0).1)*(v.2 (2*b) - v.2 0)+((pl a).2.1 - (pl 0).2.1)*(v.2 (2*b+1) - v.2 1))),(((((pl a).1 - (pl 0).1)*((pl b).2.1 - (pl 0).2.1)==((pl a).2.1 - (pl 0).2.1)*((pl b).1 - (pl 0).1)&&!((pl b).1 - (pl 0).1)*(v.2 (2*a) - v.2 0)+((pl b).2.1 - (pl 0).2.1)*(v.2 (2*a+1) - v.2 1) != ((pl a).1 - (pl 0).1)*(v.2 (2*b) - v.2 0)+((pl a).2.1 - (pl 0).2.1)*(v.2 (2*b+1) - v.2 1))=true)→(ZLo (((pl b).2.1 - (pl 0).2.1)*(v.2 (2*a) - v.2 0)))),(((((pl a).1 - (pl 0).1)*((pl b).2.1 - (pl 0).2.1)==((pl a).2.1 - (pl 0).2.1)*((pl b).1 - (pl 0).1)&&!((pl b).1 - (pl 0).1)*(v.2 (2*a) - v.2 0)+((pl b).2.1 - (pl 0).2.1)*(v.2 (2*a+1) - v.2 1) != ((pl a).1 - (pl 0).1)*(v.2 (2*b) - v.2 0)+((pl a).2.1 - (pl 0).2.1)*(v.2 (2*b+1) - v.2 1))=true)→(ZHi (((pl b).2.1 - (pl 0).2.1)*(v.2 (2*a) - v.2 0)))),(AG (((pl a).1 - (pl 0).1)*((pl b).2.1 - (pl 0).2.1)==((pl a).2.1 - (pl 0).2.1)*((pl b).1 - (pl 0).1)&&!((pl b).1 - (pl 0).1)*(v.2 (2*a) - v.2 0)+((pl b).2.1 - (pl 0).2.1)*(v.2 (2*a+1) - v.2 1) != ((pl a).1 - (pl 0).1)*(v.2 (2*b) - v.2 0)+((pl a).2.1 - (pl 0).2.1)*(v.2 (2*b+1) - v.2 1))),(AG (((pl a).1 - (pl 0).1)*((pl b).2.1 - (pl 0).2.1)==((pl a).2.1 - (pl 0).2.1)*((pl b).1 - (pl 0).1)&&!((pl b).1 - (pl 0).1)*(v.2 (2*a) - v.2 0)+((pl b).2.1 - (pl 0).2.1)*(v.2 (2*a+1) - v.2 1) != ((pl a).1 - (pl 0).1)*(v.2 (2*b) - v.2 0)+((pl a).2.1 - (pl 0).2.1)*(v.2 (2*b+1) - v.2 1))),(((((pl a).1 - (pl 0).1)*((pl b).2.1 - (pl 0).2.1)==((pl a).2.1 - (pl 0).2.1)*((pl b).1 - (pl 0).1)&&!((pl b).1 - (pl 0).1)*(v.2 (2*a) - v.2 0)+((pl b).2.1 - (pl 0).2.1)*(v.2 (2*a+1) - v.2 1) != ((pl a).1 - (pl 0).1)*(v.2 (2*b) - v.2 0)+((pl a).2.1 - (pl 0).2.1)*(v.2 (2*b+1) - v.2 1))=true)→(ZLo (((pl b).1 - (pl 0).1)*(v.2 (2*a+1) - v.2 1) - ((pl b).2.1 - (pl 0).2.1)*(v.2 (2*a) - v.2 0)))),(((((pl a).1 - (pl 0).1)*((pl b).2.1 - (pl 0).2.1)==((pl a).2.1 - (pl 0).2.1)*((pl b).1 - (pl 0).1)&&!((pl b).1 - (pl 0).1)*(v.2 (2*a) - v.2 0)+((pl b).2.1 - (pl 0).2.1)*(v.2 (2*a+1) - v.2 1) != ((pl a).1 - (pl 0).1)*(v.2 (2*b) - v.2 0)+((pl a).2.1 - (pl 0).2.1)*(v.2 (2*b+1) - v.2 1))=true)→(ZHi (((pl b).1 - (pl 0).1)*(v.2 (2*a+1) - v.2 1) - ((pl b).2.1 - (pl 0).2.1)*(v.2 (2*a) - v.2 0)))),(AG (((pl a).1 - (pl 0).1)*((pl b).2.1 - (pl 0).2.1)==((pl a).2.1 - (pl 0).2.1)*((pl b).1 - (pl 0).1)&&!((pl b).1 - (pl 0).1)*(v.2 (2*a) - v.2 0)+((pl b).2.1 - (pl 0).2.1)*(v.2 (2*a+1) - v.2 1) != ((pl a).1 - (pl 0).1)*(v.2 (2*b) - v.2 0)+((pl a).2.1 - (pl 0).2.1)*(v.2 (2*b+1) - v.2 1))),(AG (((pl a).1 - (pl 0).1)*((pl b).2.1 - (pl 0).2.1)==((pl a).2.1 - (pl 0).2.1)*((pl b).1 - (pl 0).1)&&!((pl b).1 - (pl 0).1)*(v.2 (2*a) - v.2 0)+((pl b).2.1 - (pl 0).2.1)*(v.2 (2*a+1) - v.2 1) != ((pl a).1 - (pl 0).1)*(v.2 (2*b) - v.2 0)+((pl a).2.1 - (pl 0).2.1)*(v.2 (2*b+1) - v.2 1))),(((((pl a).1 - (pl 0).1)*((pl b).2.1 - (pl 0).2.1)==((pl a).2.1 - (pl 0).2.1)*((pl b).1 - (pl 0).1)&&!((pl b).1 - (pl 0).1)*(v.2 (2*a) - v.2 0)+((pl b).2.1 - (pl 0).2.1)*(v.2 (2*a+1) - v.2 1) != ((pl a).1 - (pl 0).1)*(v.2 (2*b) - v.2 0)+((pl a).2.1 - (pl 0).2.1)*(v.2 (2*b+1) - v.2 1))=true)→(ZLo (((pl a).1 - (pl 0).1)*(v.2 (2*b+1) - v.2 1)))),(((((pl a).1 - (pl 0).1)*((pl b).2.1 - (pl 0).2.1)==((pl a).2.1 - (pl 0).2.1)*((pl b).1 - (pl 0).1)&&!((pl b).1 - (pl 0).1)*(v.2 (2*a) - v.2 0)+((pl b).2.1 - (pl 0).2.1)*(v.2 (2*a+1) - v.2 1) != ((pl a).1 - (pl 0).1)*(v.2 (2*b) - v.2 0)+((pl a).2.1 - (pl 0).2.1)*(v.2 (2*b+1) - v.2 1))=true)→(ZHi (((pl a).1 - (pl 0).1)*(v.2 (2*b+1) - v.2 1)))),(AG (((pl a).1 - (pl 0).1)*((pl b).2.1 - (pl 0).2.1)==((pl a).2.1 - (pl 0).2.1)*((pl b).1 - (pl 0).1)&&!((pl b).1 - (pl 0).1)*(v.2 (2*a) - v.2 0)+((pl b).2.1 - (pl 0).2.1)*(v.2 (2*a+1) - v.2 1) != ((pl a).1 - (pl 0).1)*(v.2 (2*b) - v.2 0)+((pl a).2.1 - (pl 0).2.1)*(v.2 (2*b+1) - v.2 1))),(AG (((pl a).1 - (pl 0).1)*((pl b).2.1 - (pl 0).2.1)==((pl a).2.1 - (pl 0).2.1)*((pl b).1 - (pl 0).1)&&!((pl b).1 - (pl 0).1)*(v.2 (2*a) - v.2 0)+((pl b).2.1 - (pl 0).2.1)*(v.2 (2*a+1) - v.2 1) != ((pl a).1 - (pl 0).1)*(v.2 (2*b) - v.2 0)+((pl a).2.1 - (pl 0).2.1)*(v.2 (2*b+1) - v.2 1))),(((((pl a).1 - (pl 0).1)*((pl b).2.1 - (pl 0).2.1)==((pl a).2.1 - (pl 0).2.1)*((pl b).1 - (pl 0).1)&&!((pl b).1 - (pl 0).1)*(v.2 (2*a) - v.2 0)+((pl b).2.1 - (pl 0).2.1)*(v.2 (2*a+1) - v.2 1) != ((pl a).1 - (pl 0).1)*(v.2 (2*b) - v.2 0)+((pl a).2.1 - (pl 0).2.1)*(v.2 (2*b+1) - v.2 1))=true)→(ZLo (((pl a).2.1 - (pl 0).2.1)*(v.2 (2*b) - v.2 0)))),(((((pl a).1 - (pl 0).1)*((pl b).2.1 - (pl 0).2.1)==((pl a).2.1 - (pl 0).2.1)*((pl b).1 - (pl 0).1)&&!((pl b).1 - (pl 0).1)*(v.2 (2*a) - v.2 0)+((pl b).2.1 - (pl 0).2.1)*(v.2 (2*a+1) - v.2 1) != ((pl a).1 - (pl 0).1)*(v.2 (2*b) - v.2 0)+((pl a).2.1 - (pl 0).2.1)*(v.2 (2*b+1) - v.2 1))=true)→(ZHi (((pl a).2.1 - (pl 0).2.1)*(v.2 (2*b) - v.2 0)))),(AG (((pl a).1 - (pl 0).1)*((pl b).2.1 - (pl 0).2.1)==((pl a).2.1 - (pl 0).2.1)*((pl b).1 - (pl 0).1)&&!((pl b).1 - (pl 0).1)*(v.2 (2*a) - v.2 0)+((pl b).2.1 - (pl 0).2.1)*(v.2 (2*a+1) - v.2 1) != ((pl a).1 - (pl 0).1)*(v.2 (2*b) - v.2 0)+((pl a).2.1 - (pl 0).2.1)*(v.2 (2*b+1) - v.2 1))),(AG (((pl a).1 - (pl 0).1)*((pl b).2.1 - (pl 0).2.1)==((pl a).2.1 - (pl 0).2.1)*((pl b).1 - (pl 0).1)&&!((pl b).1 - (pl 0).1)*(v.2 (2*a) - v.2 0)+((pl b).2.1 - (pl 0).2.1)*(v.2 (2*a+1) - v.2 1) != ((pl a).1 - (pl 0).1)*(v.2 (2*b) - v.2 0)+((pl a).2.1 - (pl 0).2.1)*(v.2 (2*b+1) - v.2 1))),(((((pl a).1 - (pl 0).1)*((pl b).2.1 - (pl 0).2.1)==((pl a).2.1 - (pl 0).2.1)*((pl b).1 - (pl 0).1)&&!((pl b).1 - (pl 0).1)*(v.2 (2*a) - v.2 0)+((pl b).2.1 - (pl 0).2.1)*(v.2 (2*a+1) - v.2 1) != ((pl a).1 - (pl 0).1)*(v.2 (2*b) - v.2 0)+((pl a).2.1 - (pl 0).2.1)*(v.2 (2*b+1) - v.2 1))=true)→(ZLo (((pl a).1 - (pl 0).1)*(v.2 (2*b+1) - v.2 1) - ((pl a).2.1 - (pl 0).2.1)*(v.2 (2*b) - v.2 0)))),(((((pl a).1 - (pl 0).1)*((pl b).2.1 - (pl 0).2.1)==((pl a).2.1 - (pl 0).2.1)*((pl b).1 - (pl 0).1)&&!((pl b).1 - (pl 0).1)*(v.2 (2*a) - v.2 0)+((pl b).2.1 - (pl 0).2.1)*(v.2 (2*a+1) - v.2 1) != ((pl a).1 - (pl 0).1)*(v.2 (2*b) - v.2 0)+((pl a).2.1 - (pl 0).2.1)*(v.2 (2*b+1) - v.2 1))=true)→(ZHi (((pl a).1 - (pl 0).1)*(v.2 (2*b+1) - v.2 1) - ((pl a).2.1 - (pl 0).2.1)*(v.2 (2*b) - v.2 0)))),(AG (((pl a).1 - (pl 0).1)*((pl b).2.1 - (pl 0).2.1)==((pl a).2.1 - (pl 0).2.1)*((pl b).1 - (pl 0).1)&&!((pl b).1 - (pl 0).1)*(v.2 (2*a) - v.2 0)+((pl b).2.1 - (pl 0).2.1)*(v.2 (2*a+1) - v.2 1) != ((pl a).1 - (pl 0).1)*(v.2 (2*b) - v.2 0)+((pl a).2.1 - (pl 0).2.1)*(v.2 (2*b+1) - v.2 1))),(AG (((pl a).1 - (pl 0).1)*((pl b).2.1 - (pl 0).2.1)==((pl a).2.1 - (pl 0).2.1)*((pl b).1 - (pl 0).1)&&!((pl b).1 - (pl 0).1)*(v.2 (2*a) - v.2 0)+((pl b).2.1 - (pl 0).2.1)*(v.2 (2*a+1) - v.2 1) != ((pl a).1 - (pl 0).1)*(v.2 (2*b) - v.2 0)+((pl a).2.1 - (pl 0).2.1)*(v.2 (2*b+1) - v.2 1))),(AG (((pl a).1 - (pl 0).1)*((pl b).2.1 - (pl 0).2.1)==((pl a).2.1 - (pl 0).2.1)*((pl b).1 - (pl 0).1))),(((((pl a).1 - (pl 0).1)*((pl b).2.1 - (pl 0).2.1)==((pl a).2.1 - (pl 0).2.1)*((pl b).1 - (pl 0).1))=true)→(((((pl b).1 - (pl 0).1)*(v.2 (2*a) - v.2 0)+((pl b).2.1 - (pl 0).2.1)*(v.2 (2*a+1) - v.2 1) != ((pl a).1 - (pl 0).1)*(v.2 (2*b) - v.2 0)+((pl a).2.1 - (pl 0).2.1)*(v.2 (2*b+1) - v.2 1))=false)→ ((((pl a).1 - (pl 0).1)*((pl b).2.1 - (pl 0).2.1)==((pl a).2.1 - (pl 0).2.1)*((pl b).1 - (pl 0).1)&&!((pl b).1 - (pl 0).1)*(v.2 (2*a) - v.2 0)+((pl b).2.1 - (pl 0).2.1)*(v.2 (2*a+1) - v.2 1) != ((pl a).1 - (pl 0).1)*(v.2 (2*b) - v.2 0)+((pl a).2.1 - (pl 0).2.1)*(v.2 (2*b+1) - v.2 1))=true))),(AG (((pl a).1 - (pl 0).1)*((pl b).2.1 - (pl 0).2.1)==((pl a).2.1 - (pl 0).2.1)*((pl b).1 - (pl 0).1))),((bif ((pl a).1 - (pl 0).1)*((pl b).2.1 - (pl 0).2.1)==((pl a).2.1 - (pl 0).2.1)*((pl b).1 - (pl 0).1) then bif ((pl b).1 - (pl 0).1)*(v.2 (2*a) - v.2 0)+((pl b).2.1 - (pl 0).2.1)*(v.2 (2*a+1) - v.2 1) != ((pl a).1 - (pl 0).1)*(v.2 (2*b) - v.2 0)+((pl a).2.1 - (pl 0).2.1)*(v.2 (2*b+1) - v.2 1) then true else ((pl b).1 - (pl 0).1)*(v.2 (2*a+1) - v.2 1) - ((pl b).2.1 - (pl 0).2.1)*(v.2 (2*a) - v.2 0) != ((pl a).1 - (pl 0).1)*(v.2 (2*b+1) - v.2 1) - ((pl a).2.1 - (pl 0).2.1)*(v.2 (2*b) - v.2 0) else false)=true),(false=false)]:=by kernel_rfl
theorem tfd (g:Nat→T_Bar) (nb N:Nat) (pl:Nat→T_Place) (np:Nat) (v:T_IntS) (a b:Nat) :
    pieceOb Tryz.prog 0 [rg 3,.dec false,rg 3,.head] zf16 (TF1 g nb N pl np v a b) [0] 1 (TF0 g nb N pl np v (a+1)) =
    some (zf100,[((decide ((↑b:Int)<(↑a:Int)))=false),(ZLo ((↑a:Int)+1)),(ZHi ((↑a:Int)+1)),(AN v.1),(AP v.1 (fun i=>[.int .i64 (v.2 i)])),(AN 0),((((↑a:Int)+1):Int)=(↑(a+1):Int)),(AN 3),(NL 1 1),(NL 1 1),(AI ((↑N:Int))),(AN nb),(AP nb (fun i=>[.int .i64 ((g i).1),.int .i64 ((g i).2.1)])),(AN np),(AP np (fun i=>[.int .i64 ((pl i).1),.int .i64 ((pl i).2.1)]))]):=by kernel_rfl
theorem tfe (g:Nat→T_Bar) (nb N:Nat) (pl:Nat→T_Place) (np:Nat) (v:T_IntS) (a:Nat) :
    pathOb Tryz.prog Tryz.f301 0 [rg 5,.dec false,rg 1] zf100 (TF0 g nb N pl np v a) [] 1 [] (.p (.bool true)) =
    some [(NT 0 1),((decide ((↑a:Int)<(↑N:Int)))=false),(true=true)]:=by kernel_rfl
end Go.Proofs.YtkkjoghiigiokaaGreat.Mach
namespace Go.Proofs.YtkkjoghiigiokaaGreat.Mach
open Go
set_option linter.unusedVariables false
set_option linter.unusedSimpArgs false
def smq (v:T_IntS) (i:Nat):Bool:=inB (v.2 i) (-10000000000) 10000000000
def smB (v:T_IntS) (n:Int):Bool:=bif allB (smq v) v.1 then (v.1:Int)==n else false
def velB (g:Nat→T_Bar) (nb:Nat) (N:Int) (pl:Nat→T_Place) (np:Nat) (v:T_IntS):Bool:=bif fwB g nb N pl np then smB v (2*N) else false
theorem con_areSmall (v:T_IntS) (n:Int) (hv:v.1≤1048576):Con Tryz.prog 348 0 [] [inL v,.p (.int .i64 n)] [] (.p (.bool (smB v n))):=by
  refine csZ Tryz.func348 (fun c hc=>?_)
  have lo:∀ d i,i+d=v.1→allB (smq v) i=true→Run Tryz.prog c 348 zf97 (ArI v n i) (Post c [] (.p (.bool (smB v n)))):=by
    intro d
    induction d with
    | zero =>
      intro i hi ha
      obtain rfl:i=v.1:=by omega
      have hd:decide ((v.1:Int)<(v.1:Int))=false:=decide_eq_false (by omega)
      unfold smB
      rw [ha]
      refine pkZ Tryz.func348 hc (are v n v.1) ?_
      repeat' (first | exact aN | apply aI)
      all_goals (first | omega | rfl | (intros;first | assumption | exact trivial | rfl) | (exact hd))
    | succ d ih =>
      intro i hi ha
      have hd:decide ((i:Int)<(v.1:Int))=true:=decide_eq_true (by omega)
      have cw:=con_within (v.2 i) (-10000000000) 10000000000
      change Con Tryz.prog 179 0 [] _ [] (.p (.bool (smq v i))) at cw
      cases hs:smq v i with
      | true =>
        rw [hs] at cw
        refine pcZ hc (art v n i) ?_ (ih (i+1) (by omega) (by rw [allB,ha,hs];rfl))
        repeat' (first | exact aN | apply aI)
        all_goals (first | exact aP _ _ | omega | rfl | (intros;first | assumption | exact trivial | rfl) | (exact hd) | (exact cw) | (intro t ht;simp [All];done))
      | false =>
        rw [hs] at cw
        unfold smB
        rw [all_no (i:=i) (by omega) hs]
        refine pkZ Tryz.func348 hc (arf v n i) ?_
        repeat' (first | exact aN | apply aI)
        all_goals (first | omega | rfl | (intros;first | assumption | exact trivial | rfl) | (exact hd) | (exact cw))
  refine pcZ hc (arz v n) ?_ (lo v.1 0 (by omega) rfl)
  repeat' (first | exact aN | apply aI)
  all_goals (first | exact aP _ _ | omega | rfl | (intros;first | assumption | exact trivial | rfl) | (intro t ht;simp [All];done))
theorem con_isVelocity (g:Nat→T_Bar) (nb:Nat) (N:Int) (pl:Nat→T_Place) (np:Nat) (v:T_IntS) (hn:nb≤1048576∧np≤1048576) (hv:v.1≤1048576) :
    Con Tryz.prog 305 0 [] [frA g nb N pl np,inL v] [] (.p (.bool (velB g nb N pl np v))):=by
  have cf:=con_IsFramework_i g nb N pl np hn
  have cs:=con_areSmall v (2*N) hv
  have hN:fwB g nb N pl np=true→-9223372036854775808≤2*N∧2*N≤9223372036854775807:=fun h=>by
    obtain ⟨n,rfl⟩:=fw_N h
    have:=(fw_ok h).2.1
    omega
  refine csZ Tryz.func305 (fun c hc=>?_)
  refine pkZ Tryz.func305 hc (ivR g nb N pl np v (fwB g nb N pl np) (smB v (2*N))) ?_
  repeat' (first | exact aN | apply aI)
  all_goals (first | exact aG _ | omega | rfl | (intros;first | assumption | exact trivial | rfl | exact fT ‹_›) | (exact cf) | (intro _;exact cs) | (intro h;exact h) | (intro h;exact (hN h).1) | (intro h;exact (hN h).2) | rfl)
theorem con_Vector (g:Nat→T_Bar) (nb:Nat) (N:Int) (pl:Nat→T_Place) (np:Nat) (v:T_IntS) (hn:nb≤1048576∧np≤1048576) (hv:v.1≤1048576) :
    Con Tryz.prog 299 0 [] [frA g nb N pl np,inL v] [] (.p (.bool (velB g nb N pl np v))):=by
  have cf:=con_IsFramework_s g nb N pl np hn
  have hN:fwB g nb N pl np=true→-9223372036854775808≤2*N∧2*N≤9223372036854775807:=fun h=>by
    obtain ⟨n,rfl⟩:=fw_N h
    have:=(fw_ok h).2.1
    omega
  refine csZ Tryz.func299 (fun c hc=>?_)
  have lo:∀ d i,i+d=v.1→allB (smq v) i=true→Run Tryz.prog c 299 zf98 (VcS g nb N pl np v i) (Post c [] (.p (.bool (velB g nb N pl np v)))):=by
    intro d
    induction d with
    | zero =>
      intro i hi ha
      obtain rfl:i=v.1:=by omega
      have hd:decide ((v.1:Int)<(v.1:Int))=false:=decide_eq_false (by omega)
      unfold velB smB
      rw [ha]
      refine pkZ Tryz.func299 hc (vce g nb N pl np v v.1 (fwB g nb N pl np)) ?_
      repeat' (first | exact aN | apply aI)
      all_goals (first | exact aG _ | omega | rfl | (intros;first | assumption | exact trivial | rfl | exact fT ‹_›) | (exact hd) | (exact cf) | (intro h;exact h) | (intro h;exact (hN h).1) | (intro h;exact (hN h).2) | rfl)
    | succ d ih =>
      intro i hi ha
      have hd:decide ((i:Int)<(v.1:Int))=true:=decide_eq_true (by omega)
      have cw:=con_l1In (v.2 i) (-10000000000) 10000000000
      change Con Tryz.prog 167 0 [] _ [] (.p (.bool (smq v i))) at cw
      cases hs:smq v i with
      | true =>
        rw [hs] at cw
        refine pcZ hc (vct g nb N pl np v i) ?_ (ih (i+1) (by omega) (by rw [allB,ha,hs];rfl))
        repeat' (first | exact aN | apply aI)
        all_goals (first | exact aP _ _ | omega | rfl | (intros;first | assumption | exact trivial | rfl) | (exact hd) | (exact cw) | (intro t ht;simp [All];done))
      | false =>
        rw [hs] at cw
        rw [show velB g nb N pl np v=false by
          unfold velB smB
          rw [all_no (i:=i) (by omega) hs]
          cases fwB g nb N pl np<;>rfl]
        refine pkZ Tryz.func299 hc (vcf g nb N pl np v i) ?_
        repeat' (first | exact aN | apply aI)
        all_goals (first | omega | rfl | (intros;first | assumption | exact trivial | rfl) | (exact hd) | (exact cw))
  refine pcZ hc (vcz g nb N pl np v) ?_ (lo v.1 0 (by omega) rfl)
  repeat' (first | exact aN | apply aI)
  all_goals (first | exact aP _ _ | omega | rfl | (intros;first | assumption | exact trivial | rfl) | (intro t ht;simp [All];done))
structure VOk (g:Nat→T_Bar) (nb N:Nat) (pl:Nat→T_Place) (np:Nat) (v:T_IntS):Prop where
  hf:fwB g nb N pl np=true
  hl:v.1=2*N
  hN:1≤N∧N≤6
  hnp:np=N
  hnb:nb≤15
  sm:∀ j,j<2*N→-10000000000≤v.2 j∧v.2 j≤10000000000
  px:∀ i,i<N→(0≤(pl i).1∧(pl i).1≤4)∧(0≤(pl i).2.1∧(pl i).2.1≤4)
  vel:velB g nb N pl np v=true
  gr:isGraphF ((N:Int),(nb,g),())=true
theorem vOk {g:Nat→T_Bar} {nb N:Nat} {pl:Nat→T_Place} {np:Nat} {v:T_IntS} (h:velB g nb N pl np v=true):VOk g nb N pl np v:=by
  have hv:=h
  unfold velB at h
  cases hf:fwB g nb N pl np with
  | false=>rw [hf] at h;cases h
  | true =>
    rw [hf] at h
    obtain ⟨h1,h2,h3,h4,h5,_⟩:=fw_parts hf
    obtain ⟨hN,_,_⟩:=graph_in h1
    have h:smB v (2*(N:Int))=true:=h
    unfold smB at h
    cases ha:allB (smq v) v.1 with
    | false=>rw [ha] at h;cases h
    | true =>
      rw [ha] at h
      have hl:v.1=2*N:=by simp at h;omega
      exact ⟨hf,hl,by omega,by omega,h3,fun j hj=>inB_iff.1 ((all_iff _ _).1 ha j (by omega)),fun i hi=>h5 i (by omega),hv,h1⟩
def chV (pl:Nat→T_Place) (v:T_IntS) (a b:Nat):Int:=((pl a).1 - (pl b).1)*(v.2 (2*a) - v.2 (2*b))+((pl a).2.1 - (pl b).2.1)*(v.2 (2*a+1) - v.2 (2*b+1))
theorem con_Change {g:Nat→T_Bar} {nb N:Nat} {pl:Nat→T_Place} {np:Nat} {v:T_IntS} (ok:VOk g nb N pl np v) {a b:Nat} (ha:a<N) (hb:b<N) :
    Con Tryz.prog 306 0 [] [frA g nb N pl np,inL v,.p (.int .i64 a),.p (.int .i64 b)] [] (.p (.int .i64 (chV pl v a b))) ∧
    Con Tryz.prog 300 0 [] [frA g nb N pl np,inL v,.p (.int .i64 a),.p (.int .i64 b)] [] (.p (.int .i64 (chV pl v a b))):=by
  obtain ⟨hf,hl,hN,hnp,hnb,sm,px,hv,hg⟩:=ok
  have c1:=con_isVelocity g nb N pl np v (by omega) (by omega)
  have c2:=con_Vector g nb N pl np v (by omega) (by omega)
  rw [hv] at c1 c2
  have h1:=con_has (nb:=nb) (g:=g) (N:=N) (by omega) (p:=(a:Int)) (by omega)
  have h2:=con_has (nb:=nb) (g:=g) (N:=N) (by omega) (p:=(b:Int)) (by omega)
  have p1:=px a ha
  have p2:=px b hb
  have s1:=sm (2*a) (by omega)
  have s2:=sm (2*a+1) (by omega)
  have s3:=sm (2*b) (by omega)
  have s4:=sm (2*b+1) (by omega)
  have m1:=Trv.bdm (a:=(pl a).1 - (pl b).1) (b:=v.2 (2*a) - v.2 (2*b)) (A:=4) (B:=20000000000) (by omega) (by omega)
  have m2:=Trv.bdm (a:=(pl a).2.1 - (pl b).2.1) (b:=v.2 (2*a+1) - v.2 (2*b+1)) (A:=4) (B:=20000000000) (by omega) (by omega)
  have d1:decide ((a:Int)<0)=false:=decide_eq_false (by omega)
  have d2:decide ((b:Int)<0)=false:=decide_eq_false (by omega)
  have d3:decide ((a:Int)≥(N:Int))=false:=decide_eq_false (by omega)
  have d4:decide ((b:Int)≥(N:Int))=false:=decide_eq_false (by omega)
  constructor
  · refine csZ Tryz.func306 (fun c hc=>?_)
    refine pkZ Tryz.func306 hc (chI g nb N pl np v a b) ?_
    repeat' (first | exact aN | apply aI)
    all_goals (first | exact aG _ | omega | rfl | (intros;first | assumption | exact trivial | rfl | exact fT ‹_› | ((repeat' (first | assumption | apply anda | apply notf));done)) | (exact c1) | (intro _;exact h1) | (intro _;exact h2) | (intro h;exact h) | (intros;rfl))
  · refine csZ Tryz.func300 (fun c hc=>?_)
    refine pkZ Tryz.func300 hc (chS g nb N pl np v a b) ?_
    repeat' (first | exact aN | apply aI)
    all_goals (first | exact aG _ | omega | rfl | (intros;first | assumption | exact trivial | rfl | exact fT ‹_› | ((repeat' (first | assumption | apply anda | apply notf));done)) | (exact c2) | (intro h;exact h) | (rw [d1,d2,d3,d4];rfl) | (intro _;rw [d1,d2,d3];rfl) | (intro _;rw [d1,d2];rfl) | (intro _;rw [d1];rfl) | (intros;rfl))
def xP (pl:Nat→T_Place) (i:Nat):Int:=(pl i).1 - (pl 0).1
def yP (pl:Nat→T_Place) (i:Nat):Int:=(pl i).2.1 - (pl 0).2.1
def uPm (v:T_IntS) (i:Nat):Int:=v.2 (2*i) - v.2 0
def wP (v:T_IntS) (i:Nat):Int:=v.2 (2*i+1) - v.2 1
def tmP (N:Nat) (pl:Nat→T_Place) (v:T_IntS):Prop:=Trv.All2 N (xP pl) (yP pl) (uPm v) (wP v)
open Classical in
noncomputable def tmB (g:Nat→T_Bar) (nb:Nat) (N:Int) (pl:Nat→T_Place) (np:Nat) (v:T_IntS):Bool:=velB g nb N pl np v&&decide (tmP N.toNat pl v)
theorem tmB_t {g:Nat→T_Bar} {nb N:Nat} {pl:Nat→T_Place} {np:Nat} {v:T_IntS} (h1:velB g nb N pl np v=true) (h2:tmP N pl v):tmB g nb N pl np v=true:=by
  unfold tmB;rw [h1];simp;exact h2
theorem tmB_f {g:Nat→T_Bar} {nb N:Nat} {pl:Nat→T_Place} {np:Nat} {v:T_IntS} (h2:¬ tmP N pl v):tmB g nb N pl np v=false:=by
  unfold tmB;simp;intro _;exact h2
theorem tmB_n {g:Nat→T_Bar} {nb:Nat} {N:Int} {pl:Nat→T_Place} {np:Nat} {v:T_IntS} (h1:velB g nb N pl np v=false):tmB g nb N pl np v=false:=by
  unfold tmB;rw [h1];rfl
theorem con_Trivial_i (g:Nat→T_Bar) (nb:Nat) (N:Int) (pl:Nat→T_Place) (np:Nat) (v:T_IntS) (hn:nb≤1048576∧np≤1048576) (hv:v.1≤1048576) :
    Con Tryz.prog 208 0 [] [frA g nb N pl np,inL v] [] (.p (.bool (tmB g nb N pl np v))):=by
  have cv:=con_isVelocity g nb N pl np v hn hv
  cases hb:velB g nb N pl np v with
  | false =>
    rw [hb] at cv
    rw [tmB_n hb]
    refine csZ Tryz.func208 (fun c hc=>?_)
    refine pkZ Tryz.func208 hc (tiN g nb N pl np v) ?_
    repeat' (first | exact aN | apply aI)
    all_goals (first | omega | rfl | (intros;first | assumption | exact trivial | rfl) | (exact cv) | rfl)
  | true =>
    rw [hb] at cv
    obtain ⟨n,rfl⟩:∃ n:Nat,N=n:=by
      unfold velB at hb
      cases hf:fwB g nb N pl np with
      | false=>rw [hf] at hb;cases hb
      | true=>exact fw_N hf
    have ok:=vOk hb
    obtain ⟨hf,hl,hN,hnp,hnb,sm,px,hv',hg⟩:=ok
    have p0:=px 0 (by omega)
    have s0:=sm 0 (by omega)
    have s1:=sm 1 (by omega)
    refine csZ Tryz.func208 (fun c hc=>?_)
    have l1:∀ (num den:Int),-200000000000≤num→num≤200000000000→1≤den→den≤32→(Trv.One n (xP pl) (yP pl) (uPm v) (wP v) num den↔tmP n pl v) →
        ∀ d i,i+d=np→(∀ j,j<i→uPm v j*den = -num*yP pl j∧wP v j*den=num*xP pl j) →
        Run Tryz.prog c 208 zf40 (TI1 g nb n pl np v num den i) (Post c [] (.p (.bool (tmB g nb n pl np v)))):=by
      intro num den hn1 hn2 hd1 hd2 hiff d
      induction d with
      | zero =>
        intro i hi hall
        obtain rfl:i=np:=by omega
        have hd:decide ((i:Int)<(i:Int))=false:=decide_eq_false (by omega)
        rw [tmB_t hb (hiff.1 (fun j hj=>hall j (by omega)))]
        refine pkZ Tryz.func208 hc (tif g nb n pl i v num den i) ?_
        repeat' (first | exact aN | apply aI)
        all_goals (first | omega | rfl | (intros;first | assumption | exact trivial | rfl) | (exact hd))
      | succ d ih =>
        intro i hi hall
        have hd:decide ((i:Int)<(np:Int))=true:=decide_eq_true (by omega)
        have pi:=px i (by omega)
        have si:=sm (2*i) (by omega)
        have ti:=sm (2*i+1) (by omega)
        have m1:=Trv.bdm (a:=v.2 (2*i) - v.2 0) (b:=den) (A:=20000000000) (B:=32) (by omega) (by omega)
        have m2:=Trv.bdm (a:=0 - num) (b:=(pl i).2.1 - (pl 0).2.1) (A:=200000000000) (B:=4) (by omega) (by omega)
        have m3:=Trv.bdm (a:=v.2 (2*i+1) - v.2 1) (b:=den) (A:=20000000000) (B:=32) (by omega) (by omega)
        have m4:=Trv.bdm (a:=num) (b:=(pl i).1 - (pl 0).1) (A:=200000000000) (B:=4) (by omega) (by omega)
        have e0:(0 - num)*((pl i).2.1 - (pl 0).2.1) = -num*((pl i).2.1 - (pl 0).2.1):=by rw [Int.zero_sub]
        by_cases hq:(v.2 (2*i) - v.2 0)*den=(0 - num)*((pl i).2.1 - (pl 0).2.1)∧(v.2 (2*i+1) - v.2 1)*den=num*((pl i).1 - (pl 0).1)
        · have b1:((v.2 (2*i) - v.2 0)*den != (0 - num)*((pl i).2.1 - (pl 0).2.1))=false:=by rw [hq.1];simp
          have b2:((v.2 (2*i+1) - v.2 1)*den != num*((pl i).1 - (pl 0).1))=false:=by rw [hq.2];simp
          have hb':(bif (v.2 (2*i) - v.2 0)*den != (0 - num)*((pl i).2.1 - (pl 0).2.1) then true else (v.2 (2*i+1) - v.2 1)*den != num*((pl i).1 - (pl 0).1))=false:=by rw [b1,b2];rfl
          refine pcZ hc (tid g nb n pl np v num den i) ?_ (ih (i+1) (by omega) (fun j hj=>by
            by_cases hji:j=i
            · subst hji;exact ⟨hq.1.trans e0,hq.2⟩
            · exact hall j (by omega)))
          repeat' (first | exact aN | apply aI)
          all_goals (first | exact aG _ | exact aP _ _ | omega | rfl | (intros;first | assumption | exact trivial | rfl | exact fT ‹_› | ((repeat' (first | assumption | apply anda | apply notf));done)) | (exact hd) | (exact hb') | (intro h;exact h) | (intro h;omega) | (intro h;rw [h];rfl) | (intro t ht;simp [All];done))
        · have hb':(bif (v.2 (2*i) - v.2 0)*den != (0 - num)*((pl i).2.1 - (pl 0).2.1) then true else (v.2 (2*i+1) - v.2 1)*den != num*((pl i).1 - (pl 0).1))=true:=by
            by_cases h1:(v.2 (2*i) - v.2 0)*den=(0 - num)*((pl i).2.1 - (pl 0).2.1)
            · have h2:(v.2 (2*i+1) - v.2 1)*den≠num*((pl i).1 - (pl 0).1):=fun h2=>hq ⟨h1,h2⟩
              rw [show ((v.2 (2*i) - v.2 0)*den != (0 - num)*((pl i).2.1 - (pl 0).2.1))=false by rw [h1];simp]
              simpa using h2
            · rw [show ((v.2 (2*i) - v.2 0)*den != (0 - num)*((pl i).2.1 - (pl 0).2.1))=true by simpa using h1];rfl
          rw [tmB_f (fun h=>hq (by
            have:=hiff.2 h i (by omega)
            exact ⟨by rw [e0];exact this.1,this.2⟩))]
          refine pkZ Tryz.func208 hc (tie g nb n pl np v num den i) ?_
          repeat' (first | exact aN | apply aI)
          all_goals (first | exact aG _ | omega | rfl | (intros;first | assumption | exact trivial | rfl | exact fT ‹_› | ((repeat' (first | assumption | apply anda | apply notf));done)) | (exact hd) | (exact hb') | (intro h;exact h) | (intro h;omega) | (intro h;rw [h];rfl))
    have z0:xP pl 0=0∧yP pl 0=0∧uPm v 0=0∧wP v 0=0:=⟨Int.sub_self _,Int.sub_self _,Int.sub_self _,Int.sub_self _⟩
    have l0:∀ d i,i+d=np→(∀ j,j<i→xP pl j=0∧yP pl j=0)→Run Tryz.prog c 208 zf49 (TI0 g nb n pl np v i) (Post c [] (.p (.bool (tmB g nb n pl np v)))):=by
      intro d
      induction d with
      | zero =>
        intro i hi hall
        obtain rfl:i=np:=by omega
        have hd:decide ((i:Int)<(i:Int))=false:=decide_eq_false (by omega)
        have hr:=l1 0 1 (by omega) (by omega) (by omega) (by omega) ⟨fun h=>Trv.one_all (by omega) h,fun h=>Trv.all_one0 h z0 (fun j hj=>hall j (by omega))⟩ i 0 (by omega) (fun j hj=>absurd hj (Nat.not_lt_zero _))
        refine pcZ hc (tic g nb n pl i v i) ?_ hr
        repeat' (first | exact aN | apply aI)
        all_goals (first | exact aP _ _ | omega | rfl | (intros;first | assumption | exact trivial | rfl) | (exact hd) | (intro t ht;simp [All];done))
      | succ d ih =>
        intro i hi hall
        have hd:decide ((i:Int)<(np:Int))=true:=decide_eq_true (by omega)
        have pi:=px i (by omega)
        have si:=sm (2*i) (by omega)
        have ti:=sm (2*i+1) (by omega)
        by_cases hz:(pl i).1 - (pl 0).1=0∧(pl i).2.1 - (pl 0).2.1=0
        · have hb':(bif (pl i).1 - (pl 0).1 != 0 then true else (pl i).2.1 - (pl 0).2.1 != 0)=false:=by rw [hz.1,hz.2];rfl
          refine pcZ hc (tia g nb n pl np v i) ?_ (ih (i+1) (by omega) (fun j hj=>by
            by_cases hji:j=i
            · subst hji;exact hz
            · exact hall j (by omega)))
          repeat' (first | exact aN | apply aI)
          all_goals (first | exact aG _ | exact aP _ _ | omega | rfl | (intros;first | assumption | exact trivial | rfl | exact fT ‹_› | ((repeat' (first | assumption | apply anda | apply notf));done)) | (exact hd) | (exact hb') | (intro h;exact h) | (intro h;rw [h];rfl) | (intro t ht;simp [All];done))
        · have hz':xP pl i≠0∨yP pl i≠0:=by
            show (pl i).1 - (pl 0).1≠0∨(pl i).2.1 - (pl 0).2.1≠0
            omega
          have hb':(bif (pl i).1 - (pl 0).1 != 0 then true else (pl i).2.1 - (pl 0).2.1 != 0)=true:=by
            by_cases h1:(pl i).1 - (pl 0).1=0
            · have h2:(pl i).2.1 - (pl 0).2.1≠0:=fun h2=>hz ⟨h1,h2⟩
              rw [h1];simpa using h2
            · rw [show ((pl i).1 - (pl 0).1 != 0)=true by simpa using h1];rfl
          have m1:=Trv.bdm (a:=v.2 (2*i+1) - v.2 1) (b:=(pl i).1 - (pl 0).1) (A:=20000000000) (B:=4) (by omega) (by omega)
          have m2:=Trv.bdm (a:=v.2 (2*i) - v.2 0) (b:=(pl i).2.1 - (pl 0).2.1) (A:=20000000000) (B:=4) (by omega) (by omega)
          have m3:=Trv.bdm (a:=(pl i).1 - (pl 0).1) (b:=(pl i).1 - (pl 0).1) (A:=4) (B:=4) (by omega) (by omega)
          have m4:=Trv.bdm (a:=(pl i).2.1 - (pl 0).2.1) (b:=(pl i).2.1 - (pl 0).2.1) (A:=4) (B:=4) (by omega) (by omega)
          have hpos:0<((pl i).1 - (pl 0).1)*((pl i).1 - (pl 0).1)+((pl i).2.1 - (pl 0).2.1)*((pl i).2.1 - (pl 0).2.1):=Trv.sum_sq_pos hz'
          have hr:=l1 ((v.2 (2*i+1) - v.2 1)*((pl i).1 - (pl 0).1) - (v.2 (2*i) - v.2 0)*((pl i).2.1 - (pl 0).2.1)) (((pl i).1 - (pl 0).1)*((pl i).1 - (pl 0).1)+((pl i).2.1 - (pl 0).2.1)*((pl i).2.1 - (pl 0).2.1)) (by omega) (by omega) (by omega) (by omega)
            ⟨fun h=>Trv.one_all (by omega) h,fun h=>Trv.all_onej h z0 (j:=i) (by omega) hz'⟩ np 0 (by omega) (fun j hj=>absurd hj (Nat.not_lt_zero _))
          refine pcZ hc (tib g nb n pl np v i _ _) ?_ hr
          repeat' (first | exact aN | apply aI)
          all_goals (first | exact aG _ | exact aP _ _ | omega | rfl | (intros;first | assumption | exact trivial | rfl | exact fT ‹_› | ((repeat' (first | assumption | apply anda | apply notf));done)) | (exact hd) | (exact hb') | (intro h;exact h) | (intro h;rw [h];rfl) | (intro t ht;simp [All];done))
    refine pcZ hc (tiz g nb n pl np v) ?_ (l0 np 0 (by omega) (fun j hj=>absurd hj (Nat.not_lt_zero _)))
    repeat' (first | exact aN | apply aI)
    all_goals (first | exact aP _ _ | omega | rfl | (intros;first | assumption | exact trivial | rfl) | (exact cv) | (intro t ht;simp [All];done))
end Go.Proofs.YtkkjoghiigiokaaGreat.Mach
namespace Go.Proofs.YtkkjoghiigiokaaGreat.Mach
open Go
set_option linter.unusedVariables false
set_option linter.unusedSimpArgs false
def hasB (b:T_Bar) (p:Int):Bool:=bif b.1==p then true else b.2.1==p
def degF (g:Nat→T_Bar) (p:Int):Nat→Int
  | 0=>0
  | k+1=>if hasB (g k) p=true then degF g p k+1 else degF g p k
def SDgs (v:T_Graph) (p:Int) (k:Nat):St :=
  ⟨[graphA v,.p (.int .i64 p),.pt 2 0 0 0,.p .any,.p .any,.p (.int .i64 (degF v.2.1.2 p k)),.p (.int .i64 k)]++List.replicate 28 anyA,[(0,boxG v)],1⟩
def SDgi (v:T_Graph) (p:Int) (k:Nat):St :=
  ⟨[graphA v,.p (.int .i64 p),.pt 2 0 0 0,.p .any,.p .any,.p (.int .i64 (degF v.2.1.2 p k)),.p .any,.p .any,.p .any,graphL v.2.1,.p (.int .i64 v.2.1.1),.p (.int .i64 k)]++List.replicate 10 anyA,[(0,boxG v)],1⟩
theorem pDh (b:T_Bar) (p:Int) :
    pathOb Tryz.prog Tryz.f222 0 [rg 2,rg 11] [.code (bodyOf Tryz.f222)] (start Tryz.f222 [] 0 [barA b,.p (.int .i64 p)]) [] 1 [] (.p (.bool (hasB b p))) =
    some [(NT 0 1),(AG (!b.1==p)),(((!b.1==p)=true)→(NT 0 1)),(AG (!b.1==p)),(AG (!b.1==p)),(((b.1==p)=false)→ ((!b.1==p)=true)),((bif b.1==p then true else b.2.1==p)=(hasB b p))]:=by kernel_rfl
theorem pDsa (v:T_Graph) (p:Int) :
    pieceOb Tryz.prog 0 [rg 2,rg 1,rg 1,.head] [.code (bodyOf Tryz.f345)] (start Tryz.f345 [] 0 [graphA v,.p (.int .i64 p)]) [0] 1 (SDgs v p 0) =
    some (zf67,[(AI v.1),(AN v.2.1.1),(AP v.2.1.1 (fun i=>[.int .i64 ((v.2.1.2 i).1),.int .i64 ((v.2.1.2 i).2.1)])),(AI p),(AN 0),((0:Int)=(degF v.2.1.2 p 0)),((0:Int)=(↑0:Int)),((([AV.p (PV.int IntKind.i64 v.1),graphL v.2.1].length):Nat)=2),(NL 1 1),(NL 1 1),(AI v.1),(AN v.2.1.1),(AP v.2.1.1 (fun i=>[.int .i64 ((v.2.1.2 i).1),.int .i64 ((v.2.1.2 i).2.1)]))]):=by kernel_rfl
theorem pDsb (v:T_Graph) (p:Int) (k:Nat) :
    pieceOb Tryz.prog 0 [rg 5,.dec true,rg 18,.dec true,rg 3,rg 3,.head] zf67 (SDgs v p k) [0] 1 (SDgs v p (k+1)) =
    some (zf67,[(NT 0 1),((decide ((↑k:Int)<(↑v.2.1.1:Int)))=true),(NT 0 1),(IL 0 (↑k:Int)),(IT (↑k:Int) (↑v.2.1.1:Int)),(AG (!(v.2.1.2 k).1==p)),(((!(v.2.1.2 k).1==p)=true)→(NT 0 1)),(AG (!(v.2.1.2 k).1==p)),(AG (!(v.2.1.2 k).1==p)),(((!(v.2.1.2 k).1==p)=true)→(IL 0 (↑k:Int))),(((!(v.2.1.2 k).1==p)=true)→(IT (↑k:Int) (↑v.2.1.1:Int))),(AG (!(v.2.1.2 k).1==p)),(AG (!(v.2.1.2 k).1==p)),(AG (!(v.2.1.2 k).1==p)),(AG (!(v.2.1.2 k).1==p)),((((v.2.1.2 k).1==p)=false)→ ((!(v.2.1.2 k).1==p)=true)),((bif (v.2.1.2 k).1==p then true else (v.2.1.2 k).2.1==p)=true),(ZLo (degF v.2.1.2 p k+1)),(ZHi (degF v.2.1.2 p k+1)),(ZLo ((↑k:Int)+1)),(ZHi ((↑k:Int)+1)),(AI v.1),(AN v.2.1.1),(AP v.2.1.1 (fun i=>[.int .i64 ((v.2.1.2 i).1),.int .i64 ((v.2.1.2 i).2.1)])),(AI p),(AN 0),(((degF v.2.1.2 p k+1):Int)=(degF v.2.1.2 p (k+1))),((((↑k:Int)+1):Int)=(↑(k+1):Int)),(AN 2),(NL 1 1),(NL 1 1),(AI v.1),(AN v.2.1.1),(AP v.2.1.1 (fun i=>[.int .i64 ((v.2.1.2 i).1),.int .i64 ((v.2.1.2 i).2.1)]))]):=by kernel_rfl
theorem pDsc (v:T_Graph) (p:Int) (k:Nat) :
    pieceOb Tryz.prog 0 [rg 5,.dec true,rg 18,.dec false,rg 3,.head] zf67 (SDgs v p k) [0] 1 (SDgs v p (k+1)) =
    some (zf67,[(NT 0 1),((decide ((↑k:Int)<(↑v.2.1.1:Int)))=true),(NT 0 1),(IL 0 (↑k:Int)),(IT (↑k:Int) (↑v.2.1.1:Int)),(AG (!(v.2.1.2 k).1==p)),(((!(v.2.1.2 k).1==p)=true)→(NT 0 1)),(AG (!(v.2.1.2 k).1==p)),(AG (!(v.2.1.2 k).1==p)),(((!(v.2.1.2 k).1==p)=true)→(IL 0 (↑k:Int))),(((!(v.2.1.2 k).1==p)=true)→(IT (↑k:Int) (↑v.2.1.1:Int))),(AG (!(v.2.1.2 k).1==p)),(AG (!(v.2.1.2 k).1==p)),(AG (!(v.2.1.2 k).1==p)),(AG (!(v.2.1.2 k).1==p)),((((v.2.1.2 k).1==p)=false)→ ((!(v.2.1.2 k).1==p)=true)),((bif (v.2.1.2 k).1==p then true else (v.2.1.2 k).2.1==p)=false),(ZLo ((↑k:Int)+1)),(ZHi ((↑k:Int)+1)),(AI v.1),(AN v.2.1.1),(AP v.2.1.1 (fun i=>[.int .i64 ((v.2.1.2 i).1),.int .i64 ((v.2.1.2 i).2.1)])),(AI p),(AN 0),(((degF v.2.1.2 p k):Int)=(degF v.2.1.2 p (k+1))),((((↑k:Int)+1):Int)=(↑(k+1):Int)),(AN 2),(NL 1 1),(NL 1 1),(AI v.1),(AN v.2.1.1),(AP v.2.1.1 (fun i=>[.int .i64 ((v.2.1.2 i).1),.int .i64 ((v.2.1.2 i).2.1)]))]):=by kernel_rfl
theorem pDsd (v:T_Graph) (p:Int) (k:Nat) :
    pathOb Tryz.prog Tryz.f345 0 [rg 5,.dec false,rg 2] zf67 (SDgs v p k) [] 1 [] (.p (.int .i64 (degF v.2.1.2 p k))) =
    some [(NT 0 1),((decide ((↑k:Int)<(↑v.2.1.1:Int)))=false),(AI ((degF v.2.1.2 p k)))]:=by kernel_rfl
theorem pDia (v:T_Graph) (p:Int) :
    pieceOb Tryz.prog 0 [rg 2,rg 1,rg 4,.head] [.code (bodyOf Tryz.f302)] (start Tryz.f302 [] 0 [graphA v,.p (.int .i64 p)]) [0] 1 (SDgi v p 0) =
    some (zf68,[(NT 0 1),(AI v.1),(AN v.2.1.1),(AP v.2.1.1 (fun i=>[.int .i64 ((v.2.1.2 i).1),.int .i64 ((v.2.1.2 i).2.1)])),(AI p),(AN 0),((0:Int)=(degF v.2.1.2 p 0)),(AN v.2.1.1),(AP v.2.1.1 (fun i=>[.int .i64 ((v.2.1.2 i).1),.int .i64 ((v.2.1.2 i).2.1)])),(AI ((↑v.2.1.1:Int))),((0:Int)=(↑0:Int)),((([AV.p (PV.int IntKind.i64 v.1),graphL v.2.1].length):Nat)=2),(NL 1 1),(NL 1 1),(AI v.1),(AN v.2.1.1),(AP v.2.1.1 (fun i=>[.int .i64 ((v.2.1.2 i).1),.int .i64 ((v.2.1.2 i).2.1)]))]):=by kernel_rfl
theorem pDib (v:T_Graph) (p:Int) (k:Nat) :
    pieceOb Tryz.prog 0 [rg 1,.dec true,rg 4,rm [(2,oc [] (.p (.bool (hasB (v.2.1.2 k) p))))] 0,.dec true,rg 3,rg 2,.head] zf68 (SDgi v p k) [0] 1 (SDgi v p (k+1)) =
    some (zf68,[((decide ((↑k:Int)<(↑v.2.1.1:Int)))=true),(IL 0 (↑k:Int)),(IT (↑k:Int) (↑v.2.1.1:Int)),(NT 0 1),((true=true)→ (AN 1)),(NT 0 1),Con Tryz.prog 222 0 [] [(zf123 v k),.p (.int .i64 p)] [] (.p (.bool (hasB (v.2.1.2 k) p))),((hasB (v.2.1.2 k) p)=true),(ZLo (degF v.2.1.2 p k+1)),(ZHi (degF v.2.1.2 p k+1)),(ZLo ((↑k:Int)+1)),(ZHi ((↑k:Int)+1)),(AI v.1),(AN v.2.1.1),(AP v.2.1.1 (fun i=>[.int .i64 ((v.2.1.2 i).1),.int .i64 ((v.2.1.2 i).2.1)])),(AI p),(AN 0),(((degF v.2.1.2 p k+1):Int)=(degF v.2.1.2 p (k+1))),(AN v.2.1.1),(AP v.2.1.1 (fun i=>[.int .i64 ((v.2.1.2 i).1),.int .i64 ((v.2.1.2 i).2.1)])),(AI ((↑v.2.1.1:Int))),((((↑k:Int)+1):Int)=(↑(k+1):Int)),(AN 2),(NL 1 1),(NL 1 1),(AI v.1),(AN v.2.1.1),(AP v.2.1.1 (fun i=>[.int .i64 ((v.2.1.2 i).1),.int .i64 ((v.2.1.2 i).2.1)]))]):=by kernel_rfl
theorem pDic (v:T_Graph) (p:Int) (k:Nat) :
    pieceOb Tryz.prog 0 [rg 1,.dec true,rg 4,rm [(2,oc [] (.p (.bool (hasB (v.2.1.2 k) p))))] 0,.dec false,rg 2,.head] zf68 (SDgi v p k) [0] 1 (SDgi v p (k+1)) =
    some (zf68,[((decide ((↑k:Int)<(↑v.2.1.1:Int)))=true),(IL 0 (↑k:Int)),(IT (↑k:Int) (↑v.2.1.1:Int)),(NT 0 1),((true=true)→ (AN 1)),(NT 0 1),Con Tryz.prog 222 0 [] [(zf123 v k),.p (.int .i64 p)] [] (.p (.bool (hasB (v.2.1.2 k) p))),((hasB (v.2.1.2 k) p)=false),(ZLo ((↑k:Int)+1)),(ZHi ((↑k:Int)+1)),(AI v.1),(AN v.2.1.1),(AP v.2.1.1 (fun i=>[.int .i64 ((v.2.1.2 i).1),.int .i64 ((v.2.1.2 i).2.1)])),(AI p),(AN 0),(((degF v.2.1.2 p k):Int)=(degF v.2.1.2 p (k+1))),(AN v.2.1.1),(AP v.2.1.1 (fun i=>[.int .i64 ((v.2.1.2 i).1),.int .i64 ((v.2.1.2 i).2.1)])),(AI ((↑v.2.1.1:Int))),((((↑k:Int)+1):Int)=(↑(k+1):Int)),(AN 2),(NL 1 1),(NL 1 1),(AI v.1),(AN v.2.1.1),(AP v.2.1.1 (fun i=>[.int .i64 ((v.2.1.2 i).1),.int .i64 ((v.2.1.2 i).2.1)]))]):=by kernel_rfl
theorem pDid (v:T_Graph) (p:Int) (k:Nat) :
    pathOb Tryz.prog Tryz.f302 0 [rg 1,.dec false,rg 2] zf68 (SDgi v p k) [] 1 [] (.p (.int .i64 (degF v.2.1.2 p k))) =
    some [((decide ((↑k:Int)<(↑v.2.1.1:Int)))=false),(AI ((degF v.2.1.2 p k)))]:=by kernel_rfl
theorem con_hasD (b:T_Bar) (p:Int):Con Tryz.prog 222 0 [] [barA b,.p (.int .i64 p)] [] (.p (.bool (hasB b p))):=by
  refine csZ Tryz.func222 (fun c hc=>?_)
  refine pkZ Tryz.func222 hc (pDh b p) ?_
  repeat' (first | exact aN | apply aI)
  all_goals (first | exact aG _ | omega | rfl | (intros;first | assumption | exact trivial | rfl | exact fT ‹_› | ((repeat' (first | assumption | apply anda | apply notf));done)))
theorem degF_bd (g:Nat→T_Bar) (p:Int):∀ k:Nat,0≤degF g p k∧degF g p k≤k
  | 0=>⟨Int.le_refl _,Int.le_refl _⟩
  | k+1=>by
    have:=degF_bd g p k
    unfold degF
    split<;>omega
theorem con_DegreeOf_s (v:T_Graph) (p:Int) (hs:smS s_Graph v):Con Tryz.prog 345 0 [] [graphA v,.p (.int .i64 p)] [] (.p (.int .i64 (degF v.2.1.2 p v.2.1.1))):=by
  refine csZ Tryz.func345 (fun c hc=>?_)
  have hn:v.2.1.1≤1048576:=hs.2.1.1
  have lp:∀ m k,k+m=v.2.1.1→Run Tryz.prog c 345 zf67 (SDgs v p k) (Post c [] (.p (.int .i64 (degF v.2.1.2 p v.2.1.1)))):=by
    intro m
    induction m with
    | zero =>
      intro k hk
      rw [show v.2.1.1=k by omega]
      have hd:decide ((k:Int)<(v.2.1.1:Int))=false:=by simp;omega
      refine pkZ Tryz.func345 hc (pDsd v p k) ?_
      repeat' (first | exact aN | apply aI)
      all_goals (first | omega | rfl | (intros;first | assumption | exact trivial | rfl))
    | succ m ih =>
      intro k hk
      have hb:=degF_bd v.2.1.2 p k
      have hd:decide ((k:Int)<(v.2.1.1:Int))=true:=by simp;omega
      cases he:hasB (v.2.1.2 k) p with
      | true =>
        have hstep:degF v.2.1.2 p (k+1)=degF v.2.1.2 p k+1:=by rw [degF,if_pos he]
        refine pcZ hc (pDsb v p k) ?_ (ih (k+1) (by omega))
        repeat' (first | exact aN | apply aI)
        all_goals (first | exact aG _ | exact aP _ _ | omega | rfl | (intros;first | assumption | exact trivial | rfl | exact fT ‹_› | ((repeat' (first | assumption | apply anda | apply notf));done)) | (exact he) | (simp [All]))
      | false =>
        have hstep:degF v.2.1.2 p (k+1)=degF v.2.1.2 p k:=by rw [degF,he];rfl
        refine pcZ hc (pDsc v p k) ?_ (ih (k+1) (by omega))
        repeat' (first | exact aN | apply aI)
        all_goals (first | exact aG _ | exact aP _ _ | omega | rfl | (intros;first | assumption | exact trivial | rfl | exact fT ‹_› | ((repeat' (first | assumption | apply anda | apply notf));done)) | (exact he) | (simp [All]))
  refine pcZ hc (pDsa v p) ?_ (lp v.2.1.1 0 (by omega))
  repeat' (first | exact aN | apply aI)
  all_goals (first | exact aP _ _ | omega | rfl | (intros;first | assumption | exact trivial | rfl) | (simp [All]))
theorem con_DegreeOf_i (v:T_Graph) (p:Int) (hs:smS s_Graph v):Con Tryz.prog 302 0 [] [graphA v,.p (.int .i64 p)] [] (.p (.int .i64 (degF v.2.1.2 p v.2.1.1))):=by
  refine csZ Tryz.func302 (fun c hc=>?_)
  have hn:v.2.1.1≤1048576:=hs.2.1.1
  have lp:∀ m k,k+m=v.2.1.1→Run Tryz.prog c 302 zf68 (SDgi v p k) (Post c [] (.p (.int .i64 (degF v.2.1.2 p v.2.1.1)))):=by
    intro m
    induction m with
    | zero =>
      intro k hk
      have e:v.2.1.1=k:=by omega
      have hd:decide ((k:Int)<(v.2.1.1:Int))=false:=by simp;omega
      rw [show degF v.2.1.2 p v.2.1.1=degF v.2.1.2 p k by rw [e]]
      refine pkZ Tryz.func302 hc (pDid v p k) ?_
      repeat' (first | exact aN | apply aI)
      all_goals (first | omega | rfl | (intros;first | assumption | exact trivial | rfl))
    | succ m ih =>
      intro k hk
      have hb:=degF_bd v.2.1.2 p k
      have hd:decide ((k:Int)<(v.2.1.1:Int))=true:=by simp;omega
      cases he:hasB (v.2.1.2 k) p with
      | true =>
        have hstep:degF v.2.1.2 p (k+1)=degF v.2.1.2 p k+1:=by rw [degF,if_pos he]
        refine pcZ hc (pDib v p k) ?_ (ih (k+1) (by omega))
        repeat' (first | exact aN | apply aI)
        all_goals (first | exact aP _ _ | omega | rfl | (intros;first | assumption | exact trivial | rfl | exact fT ‹_›) | (exact con_hasD _ _) | (exact he) | (simp [All]))
      | false =>
        have hstep:degF v.2.1.2 p (k+1)=degF v.2.1.2 p k:=by rw [degF,he];rfl
        refine pcZ hc (pDic v p k) ?_ (ih (k+1) (by omega))
        repeat' (first | exact aN | apply aI)
        all_goals (first | exact aP _ _ | omega | rfl | (intros;first | assumption | exact trivial | rfl | exact fT ‹_›) | (exact con_hasD _ _) | (exact he) | (simp [All]))
  refine pcZ hc (pDia v p) ?_ (lp v.2.1.1 0 (by omega))
  repeat' (first | exact aN | apply aI)
  all_goals (first | exact aP _ _ | omega | rfl | (intros;first | assumption | exact trivial | rfl) | (simp [All]))
end Go.Proofs.YtkkjoghiigiokaaGreat.Mach
namespace Go.Proofs.YtkkjoghiigiokaaGreat.Mach
open Go
set_option linter.unusedVariables false
set_option linter.unusedSimpArgs false
def fcX (g:Nat→T_Bar) (pl:Nat→T_Place) (w:T_IntS) (v:Nat):Nat→Int
  | 0=>0
  | k+1=>if hasB (g k) v=true then fcX g pl w v k+w.2 k*((pl v).1 - (pl (if (g k).1=v then (g k).2.1.toNat else (g k).1.toNat)).1) else fcX g pl w v k
def fcY (g:Nat→T_Bar) (pl:Nat→T_Place) (w:T_IntS) (v:Nat):Nat→Int
  | 0=>0
  | k+1=>if hasB (g k) v=true then fcY g pl w v k+w.2 k*((pl v).2.1 - (pl (if (g k).1=v then (g k).2.1.toNat else (g k).1.toNat)).2.1) else fcY g pl w v k
def LvS (g:Nat→T_Bar) (nb:Nat) (N:Int) (pl:Nat→T_Place) (np:Nat) (v:T_IntS) (i:Nat):St :=
  ⟨[.p .any,inL v,.pt 3 0 0 0,.p .any,.p .any,.p (.int .i64 i)]++List.replicate 23 anyA,[(0,⟨true,3,1,fun _=>[.p (.int .i64 N),brL g nb,pcL pl np]⟩)],1⟩
def FaI (g:Nat→T_Bar) (nb N:Nat) (pl:Nat→T_Place) (np:Nat) (w:T_IntS) (v:Nat) (x y:Int) (i:Nat):St :=
  ⟨[.p .any,inL w,.p (.int .i64 v),.pt 3 0 0 0,.p .any,.p .any,.p .any,.p .any,.p (.int .i64 x),.p (.int .i64 y)]++List.replicate 12 anyA++[brL g nb,.p (.int .i64 nb),.p (.int .i64 i)]++List.replicate 46 anyA,[(0,fbx g nb N pl np)],1⟩
def FaS (g:Nat→T_Bar) (nb N:Nat) (pl:Nat→T_Place) (np:Nat) (w:T_IntS) (v:Nat) (x y:Int) (i:Nat):St :=
  ⟨[.p .any,inL w,.p (.int .i64 v),.pt 3 0 0 0,.p .any,.p .any,.p .any,.p .any,.p (.int .i64 x),.p (.int .i64 y),.p (.int .i64 i)]++List.replicate 74 anyA,[(0,fbx g nb N pl np)],1⟩
def IsI (g:Nat→T_Bar) (nb N:Nat) (pl:Nat→T_Place) (np:Nat) (w:T_IntS) (v:Nat):St :=
  ⟨[.p .any,inL w,.pt 3 0 0 0,.p .any,.p .any]++List.replicate 8 anyA++[.p .any,.p (.int .i64 np),.p (.int .i64 v)]++List.replicate 16 anyA,[(0,fbx g nb N pl np)],1⟩
def IsS (g:Nat→T_Bar) (nb:Nat) (N:Int) (pl:Nat→T_Place) (np:Nat) (w:T_IntS) (v:Nat):St :=
  ⟨[.p .any,inL w,.pt 3 0 0 0,.p .any,.p .any,.p (.int .i64 v)]++List.replicate 30 anyA,[(0,⟨true,3,1,fun _=>[.p (.int .i64 N),brL g nb,pcL pl np]⟩)],1⟩
theorem afR (g:Nat→T_Bar) (nb:Nat) (N:Int) (pl:Nat→T_Place) (np:Nat) (v:T_IntS) (b1 b2:Bool) :
    pathOb Tryz.prog Tryz.f381 0 [rg 2,rm [(1,oc [] (.p (.bool b1))),(6,oc [] (.p (.bool b2)))] 2] [.code (bodyOf Tryz.f381)] (start Tryz.f381 [] 0 [frA g nb N pl np,inL v]) [] 1 [] (.p (.bool (bif b1 then b2 else false))) =
    some [(NT 0 1),Con Tryz.prog 128 0 [] [(zf35 N nb g np pl)] [] (.p (.bool b1)),(AG b1),(AG b1),((b1=true)→(NT 0 1)),(AG b1),(AG b1),(AG b1),((b1=true)→ Con Tryz.prog 348 0 [] [.p (.seq true 1 v.1 (fun i=>[.int .i64 (v.2 i)])),.p (.int .i64 (↑nb:Int))] [] (.p (.bool b2))),(AG b1),((bif b1 then b2 else false)=(bif b1 then b2 else false))]:=by kernel_rfl
theorem lvz (g:Nat→T_Bar) (nb:Nat) (N:Int) (pl:Nat→T_Place) (np:Nat) (v:T_IntS) :
    pieceOb Tryz.prog 0 [rg 2,rg 1,.head] [.code (bodyOf Tryz.f379)] (start Tryz.f379 [] 0 [frA g nb N pl np,inL v]) [0] 1 (LvS g nb N pl np v 0) =
    some (zf101,[(AN v.1),(AP v.1 (fun i=>[.int .i64 (v.2 i)])),(AN 0),((0:Int)=(↑0:Int)),((([AV.p (PV.int IntKind.i64 N),brL g nb,pcL pl np].length):Nat)=3),(NL 1 1),(NL 1 1),(AI N),(AN nb),(AP nb (fun i=>[.int .i64 ((g i).1),.int .i64 ((g i).2.1)])),(AN np),(AP np (fun i=>[.int .i64 ((pl i).1),.int .i64 ((pl i).2.1)]))]):=by kernel_rfl
theorem lvt (g:Nat→T_Bar) (nb:Nat) (N:Int) (pl:Nat→T_Place) (np:Nat) (v:T_IntS) (i:Nat) :
    pieceOb Tryz.prog 0 [rg 4,.dec true,rm [(4,oc [] (.p (.bool true)))] 1,.dec false,rg 3,.head] zf101 (LvS g nb N pl np v i) [0] 1 (LvS g nb N pl np v (i+1)) =
    some (zf101,[((decide ((↑i:Int)<(↑v.1:Int)))=true),(IL 0 (↑i:Int)),(IT (↑i:Int) (↑v.1:Int)),Con Tryz.prog 167 0 [] [.p (.int .i64 (v.2 i)),.p (.int .i64 (-10000000000)),.p (.int .i64 10000000000)] [] (.p (.bool true)),((!true)=false),(ZLo ((↑i:Int)+1)),(ZHi ((↑i:Int)+1)),(AN v.1),(AP v.1 (fun i_1=>[.int .i64 (v.2 i_1)])),(AN 0),((((↑i:Int)+1):Int)=(↑(i+1):Int)),(AN 3),(NL 1 1),(NL 1 1),(AI N),(AN nb),(AP nb (fun i_1=>[.int .i64 ((g i_1).1),.int .i64 ((g i_1).2.1)])),(AN np),(AP np (fun i_1=>[.int .i64 ((pl i_1).1),.int .i64 ((pl i_1).2.1)]))]):=by kernel_rfl
theorem lvf (g:Nat→T_Bar) (nb:Nat) (N:Int) (pl:Nat→T_Place) (np:Nat) (v:T_IntS) (i:Nat) :
    pathOb Tryz.prog Tryz.f379 0 [rg 4,.dec true,rm [(4,oc [] (.p (.bool false)))] 1,.dec true,rg 1] zf101 (LvS g nb N pl np v i) [] 1 [] (.p (.bool false)) =
    some [((decide ((↑i:Int)<(↑v.1:Int)))=true),(IL 0 (↑i:Int)),(IT (↑i:Int) (↑v.1:Int)),Con Tryz.prog 167 0 [] [.p (.int .i64 (v.2 i)),.p (.int .i64 (-10000000000)),.p (.int .i64 10000000000)] [] (.p (.bool false)),((!false)=true),(false=false)]:=by kernel_rfl
theorem lve (g:Nat→T_Bar) (nb:Nat) (N:Int) (pl:Nat→T_Place) (np:Nat) (v:T_IntS) (i:Nat) (b:Bool) :
    pathOb Tryz.prog Tryz.f379 0 [rg 4,.dec false,rm [(1,oc [] (.p (.bool b)))] 10] zf101 (LvS g nb N pl np v i) [] 1 [] (.p (.bool (bif b then (v.1:Int)==(nb:Int) else false))) =
    some [((decide ((↑i:Int)<(↑v.1:Int)))=false),(NT 0 1),Con Tryz.prog 117 0 [] [(zf30 N nb g np pl)] [] (.p (.bool b)),(AG b),(AG b),(AG b),((b=true)→(NT 0 1)),(AG b),(AG b),(AG b),(AG b),((bif b then (↑v.1:Int)==(↑nb:Int) else false)=(bif b then (↑v.1:Int)==(↑nb:Int) else false))]:=by kernel_rfl
theorem faz (g:Nat→T_Bar) (nb N:Nat) (pl:Nat→T_Place) (np:Nat) (w:T_IntS) (v:Nat) :
    pieceOb Tryz.prog 0 [rg 3,rg 2,rm [(2,oc [] (.p (.bool true)))] 1,.dec false,rg 5,.head] [.code (bodyOf Tryz.f382)] (start Tryz.f382 [] 0 [frA g nb N pl np,inL w,.p (.int .i64 v)]) [0] 1 (FaI g nb N pl np w v 0 0 0) =
    some (zf50,[(NT 0 1),Con Tryz.prog 381 0 [] [(zf32 N nb g np pl),.p (.seq true 1 w.1 (fun i=>[.int .i64 (w.2 i)]))] [] (.p (.bool true)),((!true)=false),(NT 0 1),(AN w.1),(AP w.1 (fun i=>[.int .i64 (w.2 i)])),(AI ((↑v:Int))),(AN 0),(AI 0),(AI 0),(AN nb),(AP nb (fun i=>[.int .i64 ((g i).1),.int .i64 ((g i).2.1)])),(AI ((↑nb:Int))),((0:Int)=(↑0:Int)),((([AV.p (PV.int IntKind.i64 (↑N:Int)),brL g nb,pcL pl np].length):Nat)=3),(NL 1 1),(NL 1 1),(AI ((↑N:Int))),(AN nb),(AP nb (fun i=>[.int .i64 ((g i).1),.int .i64 ((g i).2.1)])),(AN np),(AP np (fun i=>[.int .i64 ((pl i).1),.int .i64 ((pl i).2.1)]))]):=by kernel_rfl
theorem fat (g:Nat→T_Bar) (nb N:Nat) (pl:Nat→T_Place) (np:Nat) (w:T_IntS) (v:Nat) (x y:Int) (i o:Nat) (x' y':Int) :
    pieceOb Tryz.prog 0 [rg 1,.dec true,rg 6,rm [(2,oc [] (.p (.bool true)))] 0,.dec true,rm [(9,oc [] (.p (.int .i64 o)))] 6,rg 13,rg 13,rg 2,.head] zf50 (FaI g nb N pl np w v x y i) [0] 1 (FaI g nb N pl np w v x' y' (i+1)) =
    some (zf50,[((decide ((↑i:Int)<(↑nb:Int)))=true),(IL 0 (↑i:Int)),(IT (↑i:Int) (↑nb:Int)),(NT 0 1),((true=true)→ (AN 1)),(NT 0 1),Con Tryz.prog 222 0 [] [.agg [.p (.int .i64 ((g i).1)),.p (.int .i64 ((g i).2.1))],.p (.int .i64 (↑v:Int))] [] (.p (.bool true)),(true=true),(NT 0 1),(IL 0 (↑v:Int)),(IT (↑v:Int) (↑np:Int)),(NT 0 1),(NT 0 1),Con Tryz.prog 223 0 [] [.agg [.p (.int .i64 ((g i).1)),.p (.int .i64 ((g i).2.1))],.p (.int .i64 (↑v:Int))] [] (.p (.int .i64 (↑o:Int))),(IL 0 (↑o:Int)),(IT (↑o:Int) (↑np:Int)),(NT 0 1),((true=true)→ (AN 1)),(NT 0 1),((true=true)→ (AN 1)),(IL 0 (↑i:Int)),(IT (↑i:Int) (↑w.1:Int)),(NT 0 1),(NT 0 1),(ZLo ((pl v).1 - (pl o).1)),(ZHi ((pl v).1 - (pl o).1)),(ZLo (w.2 i*((pl v).1 - (pl o).1))),(ZHi (w.2 i*((pl v).1 - (pl o).1))),(ZLo (x+w.2 i*((pl v).1 - (pl o).1))),(ZHi (x+w.2 i*((pl v).1 - (pl o).1))),(IL 0 (↑i:Int)),(IT (↑i:Int) (↑w.1:Int)),(NT 0 1),(NT 0 1),(ZLo ((pl v).2.1 - (pl o).2.1)),(ZHi ((pl v).2.1 - (pl o).2.1)),(ZLo (w.2 i*((pl v).2.1 - (pl o).2.1))),(ZHi (w.2 i*((pl v).2.1 - (pl o).2.1))),(ZLo (y+w.2 i*((pl v).2.1 - (pl o).2.1))),(ZHi (y+w.2 i*((pl v).2.1 - (pl o).2.1))),(ZLo ((↑i:Int)+1)),(ZHi ((↑i:Int)+1)),(AN w.1),(AP w.1 (fun i_1=>[.int .i64 (w.2 i_1)])),(AI ((↑v:Int))),(AN 0),(((x+w.2 i*((pl v).1 - (pl o).1)):Int)=x'),(((y+w.2 i*((pl v).2.1 - (pl o).2.1)):Int)=y'),(AN nb),(AP nb (fun i_1=>[.int .i64 ((g i_1).1),.int .i64 ((g i_1).2.1)])),(AI ((↑nb:Int))),((((↑i:Int)+1):Int)=(↑(i+1):Int)),(AN 3),(NL 1 1),(NL 1 1),(AI ((↑N:Int))),(AN nb),(AP nb (fun i_1=>[.int .i64 ((g i_1).1),.int .i64 ((g i_1).2.1)])),(AN np),(AP np (fun i_1=>[.int .i64 ((pl i_1).1),.int .i64 ((pl i_1).2.1)]))]):=by kernel_rfl
theorem faf (g:Nat→T_Bar) (nb N:Nat) (pl:Nat→T_Place) (np:Nat) (w:T_IntS) (v:Nat) (x y:Int) (i:Nat) :
    pieceOb Tryz.prog 0 [rg 1,.dec true,rg 6,rm [(2,oc [] (.p (.bool false)))] 0,.dec false,rg 2,.head] zf50 (FaI g nb N pl np w v x y i) [0] 1 (FaI g nb N pl np w v x y (i+1)) =
    some (zf50,[((decide ((↑i:Int)<(↑nb:Int)))=true),(IL 0 (↑i:Int)),(IT (↑i:Int) (↑nb:Int)),(NT 0 1),((true=true)→ (AN 1)),(NT 0 1),Con Tryz.prog 222 0 [] [.agg [.p (.int .i64 ((g i).1)),.p (.int .i64 ((g i).2.1))],.p (.int .i64 (↑v:Int))] [] (.p (.bool false)),(false=false),(ZLo ((↑i:Int)+1)),(ZHi ((↑i:Int)+1)),(AN w.1),(AP w.1 (fun i_1=>[.int .i64 (w.2 i_1)])),(AI ((↑v:Int))),(AN 0),(AI x),(AI y),(AN nb),(AP nb (fun i_1=>[.int .i64 ((g i_1).1),.int .i64 ((g i_1).2.1)])),(AI ((↑nb:Int))),((((↑i:Int)+1):Int)=(↑(i+1):Int)),(AN 3),(NL 1 1),(NL 1 1),(AI ((↑N:Int))),(AN nb),(AP nb (fun i_1=>[.int .i64 ((g i_1).1),.int .i64 ((g i_1).2.1)])),(AN np),(AP np (fun i_1=>[.int .i64 ((pl i_1).1),.int .i64 ((pl i_1).2.1)]))]):=by kernel_rfl
theorem fae (g:Nat→T_Bar) (nb N:Nat) (pl:Nat→T_Place) (np:Nat) (w:T_IntS) (v:Nat) (x y:Int) (i:Nat) :
    pathOb Tryz.prog Tryz.f382 0 [rg 1,.dec false,rg 4] zf50 (FaI g nb N pl np w v x y i) [] 1 [] (.tup [.p (.int .i64 x),.p (.int .i64 y)]) =
    some [((decide ((↑i:Int)<(↑nb:Int)))=false),(AI x),(AI y)]:=by kernel_rfl
theorem fsz (g:Nat→T_Bar) (nb N:Nat) (pl:Nat→T_Place) (np:Nat) (w:T_IntS) (v:Nat) :
    pieceOb Tryz.prog 0 [rg 3,rg 1,rg 1,rg 1,.head] [.code (bodyOf Tryz.f380)] (start Tryz.f380 [] 0 [frA g nb N pl np,inL w,.p (.int .i64 v)]) [0] 1 (FaS g nb N pl np w v 0 0 0) =
    some (zf51,[(AN w.1),(AP w.1 (fun i=>[.int .i64 (w.2 i)])),(AI ((↑v:Int))),(AN 0),(AI 0),(AI 0),((0:Int)=(↑0:Int)),((([AV.p (PV.int IntKind.i64 (↑N:Int)),brL g nb,pcL pl np].length):Nat)=3),(NL 1 1),(NL 1 1),(AI ((↑N:Int))),(AN nb),(AP nb (fun i=>[.int .i64 ((g i).1),.int .i64 ((g i).2.1)])),(AN np),(AP np (fun i=>[.int .i64 ((pl i).1),.int .i64 ((pl i).2.1)]))]):=by kernel_rfl
theorem fst1 (g:Nat→T_Bar) (nb N:Nat) (pl:Nat→T_Place) (np:Nat) (w:T_IntS) (v:Nat) (x y:Int) (i o:Nat) (x' y':Int) :
    pieceOb Tryz.prog 0 [rm [(7,oc [] (.p (.bool true)))] 1,.dec true,rg 8,rg 10,.dec true,rm [(2,oc [] (.p (.int .i64 o)))] 1,rg 21,rg 21,rg 3,.head] zf51 (FaS g nb N pl np w v x y i) [0] 1 (FaS g nb N pl np w v x' y' (i+1)) =
    some (zf51,[(((decide ((↑i:Int)<(↑w.1:Int)))=true)→(NT 0 1)),(AG (decide ((↑i:Int)<(↑w.1:Int)))),(AG (decide ((↑i:Int)<(↑w.1:Int)))),(((decide ((↑i:Int)<(↑w.1:Int)))=true)→ Con Tryz.prog 379 0 [] [(zf28 N nb g np pl),.p (.seq true 1 w.1 (fun i_1=>[.int .i64 (w.2 i_1)]))] [] (.p (.bool true))),(AG (decide ((↑i:Int)<(↑w.1:Int)))),((bif decide ((↑i:Int)<(↑w.1:Int)) then true else false)=true),(NT 0 1),(IL 0 (↑i:Int)),(IT (↑i:Int) (↑nb:Int)),(NT 0 1),((true=true)→ (AN 1)),(NT 0 1),(AG (!(g i).1==(↑v:Int))),(((!(g i).1==(↑v:Int))=true)→(NT 0 1)),(AG (!(g i).1==(↑v:Int))),(AG (!(g i).1==(↑v:Int))),((((g i).1==(↑v:Int))=false)→ ((!(g i).1==(↑v:Int))=true)),((bif (g i).1==(↑v:Int) then true else (g i).2.1==(↑v:Int))=true),(NT 0 1),Con Tryz.prog 324 0 [] [.agg [.p (.int .i64 ((g i).1)),.p (.int .i64 ((g i).2.1))],.p (.int .i64 (↑v:Int))] [] (.p (.int .i64 (↑o:Int))),(IL 0 (↑i:Int)),(IT (↑i:Int) (↑w.1:Int)),(NT 0 1),(IL 0 (↑v:Int)),(IT (↑v:Int) (↑np:Int)),(NT 0 1),(IL 0 (↑o:Int)),(IT (↑o:Int) (↑np:Int)),(ZLo ((pl v).1 - (pl o).1)),(ZHi ((pl v).1 - (pl o).1)),(ZLo (w.2 i*((pl v).1 - (pl o).1))),(ZHi (w.2 i*((pl v).1 - (pl o).1))),(ZLo (x+w.2 i*((pl v).1 - (pl o).1))),(ZHi (x+w.2 i*((pl v).1 - (pl o).1))),(IL 0 (↑i:Int)),(IT (↑i:Int) (↑w.1:Int)),(NT 0 1),(IL 0 (↑v:Int)),(IT (↑v:Int) (↑np:Int)),(NT 0 1),(IL 0 (↑o:Int)),(IT (↑o:Int) (↑np:Int)),(ZLo ((pl v).2.1 - (pl o).2.1)),(ZHi ((pl v).2.1 - (pl o).2.1)),(ZLo (w.2 i*((pl v).2.1 - (pl o).2.1))),(ZHi (w.2 i*((pl v).2.1 - (pl o).2.1))),(ZLo (y+w.2 i*((pl v).2.1 - (pl o).2.1))),(ZHi (y+w.2 i*((pl v).2.1 - (pl o).2.1))),(ZLo ((↑i:Int)+1)),(ZHi ((↑i:Int)+1)),(AN w.1),(AP w.1 (fun i_1=>[.int .i64 (w.2 i_1)])),(AI ((↑v:Int))),(AN 0),(((x+w.2 i*((pl v).1 - (pl o).1)):Int)=x'),(((y+w.2 i*((pl v).2.1 - (pl o).2.1)):Int)=y'),((((↑i:Int)+1):Int)=(↑(i+1):Int)),(AN 3),(NL 1 1),(NL 1 1),(AI ((↑N:Int))),(AN nb),(AP nb (fun i_1=>[.int .i64 ((g i_1).1),.int .i64 ((g i_1).2.1)])),(AN np),(AP np (fun i_1=>[.int .i64 ((pl i_1).1),.int .i64 ((pl i_1).2.1)]))]):=by kernel_rfl
theorem fsf (g:Nat→T_Bar) (nb N:Nat) (pl:Nat→T_Place) (np:Nat) (w:T_IntS) (v:Nat) (x y:Int) (i:Nat) :
    pieceOb Tryz.prog 0 [rm [(7,oc [] (.p (.bool true)))] 1,.dec true,rg 8,rg 10,.dec false,rg 3,.head] zf51 (FaS g nb N pl np w v x y i) [0] 1 (FaS g nb N pl np w v x y (i+1)) =
    some (zf51,[(((decide ((↑i:Int)<(↑w.1:Int)))=true)→(NT 0 1)),(AG (decide ((↑i:Int)<(↑w.1:Int)))),(AG (decide ((↑i:Int)<(↑w.1:Int)))),(((decide ((↑i:Int)<(↑w.1:Int)))=true)→ Con Tryz.prog 379 0 [] [(zf28 N nb g np pl),.p (.seq true 1 w.1 (fun i_1=>[.int .i64 (w.2 i_1)]))] [] (.p (.bool true))),(AG (decide ((↑i:Int)<(↑w.1:Int)))),((bif decide ((↑i:Int)<(↑w.1:Int)) then true else false)=true),(NT 0 1),(IL 0 (↑i:Int)),(IT (↑i:Int) (↑nb:Int)),(NT 0 1),((true=true)→ (AN 1)),(NT 0 1),(AG (!(g i).1==(↑v:Int))),(((!(g i).1==(↑v:Int))=true)→(NT 0 1)),(AG (!(g i).1==(↑v:Int))),(AG (!(g i).1==(↑v:Int))),((((g i).1==(↑v:Int))=false)→ ((!(g i).1==(↑v:Int))=true)),((bif (g i).1==(↑v:Int) then true else (g i).2.1==(↑v:Int))=false),(ZLo ((↑i:Int)+1)),(ZHi ((↑i:Int)+1)),(AN w.1),(AP w.1 (fun i_1=>[.int .i64 (w.2 i_1)])),(AI ((↑v:Int))),(AN 0),(AI x),(AI y),((((↑i:Int)+1):Int)=(↑(i+1):Int)),(AN 3),(NL 1 1),(NL 1 1),(AI ((↑N:Int))),(AN nb),(AP nb (fun i_1=>[.int .i64 ((g i_1).1),.int .i64 ((g i_1).2.1)])),(AN np),(AP np (fun i_1=>[.int .i64 ((pl i_1).1),.int .i64 ((pl i_1).2.1)]))]):=by kernel_rfl
theorem fse (g:Nat→T_Bar) (nb N:Nat) (pl:Nat→T_Place) (np:Nat) (w:T_IntS) (v:Nat) (x y:Int) (i:Nat) :
    pathOb Tryz.prog Tryz.f380 0 [rm [(7,oc [] (.p (.bool true)))] 1,.dec false,rg 4] zf51 (FaS g nb N pl np w v x y i) [] 1 [] (.tup [.p (.int .i64 x),.p (.int .i64 y)]) =
    some [(((decide ((↑i:Int)<(↑w.1:Int)))=true)→(NT 0 1)),(AG (decide ((↑i:Int)<(↑w.1:Int)))),(AG (decide ((↑i:Int)<(↑w.1:Int)))),(((decide ((↑i:Int)<(↑w.1:Int)))=true)→ Con Tryz.prog 379 0 [] [(zf28 N nb g np pl),.p (.seq true 1 w.1 (fun i_1=>[.int .i64 (w.2 i_1)]))] [] (.p (.bool true))),(AG (decide ((↑i:Int)<(↑w.1:Int)))),((bif decide ((↑i:Int)<(↑w.1:Int)) then true else false)=false),(AI x),(AI y)]:=by kernel_rfl
theorem isN (g:Nat→T_Bar) (nb:Nat) (N:Int) (pl:Nat→T_Place) (np:Nat) (w:T_IntS) :
    pathOb Tryz.prog Tryz.f347 0 [rg 2,rm [(2,oc [] (.p (.bool false)))] 1,.dec true,rg 1] [.code (bodyOf Tryz.f347)] (start Tryz.f347 [] 0 [frA g nb N pl np,inL w]) [] 1 [] (.p (.bool false)) =
    some [(NT 0 1),Con Tryz.prog 381 0 [] [(zf35 N nb g np pl),.p (.seq true 1 w.1 (fun i=>[.int .i64 (w.2 i)]))] [] (.p (.bool false)),((!false)=true),(false=false)]:=by kernel_rfl
theorem isz (g:Nat→T_Bar) (nb N:Nat) (pl:Nat→T_Place) (np:Nat) (w:T_IntS) :
    pieceOb Tryz.prog 0 [rg 2,rm [(2,oc [] (.p (.bool true)))] 1,.dec false,rg 4,.head] [.code (bodyOf Tryz.f347)] (start Tryz.f347 [] 0 [frA g nb N pl np,inL w]) [0] 1 (IsI g nb N pl np w 0) =
    some (zf69,[(NT 0 1),Con Tryz.prog 381 0 [] [(zf32 N nb g np pl),.p (.seq true 1 w.1 (fun i=>[.int .i64 (w.2 i)]))] [] (.p (.bool true)),((!true)=false),(NT 0 1),(AN w.1),(AP w.1 (fun i=>[.int .i64 (w.2 i)])),(AN 0),(AI ((↑np:Int))),((0:Int)=(↑0:Int)),((([AV.p (PV.int IntKind.i64 (↑N:Int)),brL g nb,pcL pl np].length):Nat)=3),(NL 1 1),(NL 1 1),(AI ((↑N:Int))),(AN nb),(AP nb (fun i=>[.int .i64 ((g i).1),.int .i64 ((g i).2.1)])),(AN np),(AP np (fun i=>[.int .i64 ((pl i).1),.int .i64 ((pl i).2.1)]))]):=by kernel_rfl
theorem ist (g:Nat→T_Bar) (nb N:Nat) (pl:Nat→T_Place) (np:Nat) (w:T_IntS) (v:Nat) (x y:Int) :
    pieceOb Tryz.prog 0 [rg 1,.dec true,rg 2,rm [(3,oc [] (.tup [.p (.int .i64 x),.p (.int .i64 y)]))] 5,rg 6,.dec false,rg 2,.head] zf69 (IsI g nb N pl np w v) [0] 1 (IsI g nb N pl np w (v+1)) =
    some (zf69,[((decide ((↑v:Int)<(↑np:Int)))=true),(NT 0 1),Con Tryz.prog 382 0 [] [(zf32 N nb g np pl),.p (.seq true 1 w.1 (fun i=>[.int .i64 (w.2 i)])),.p (.int .i64 (↑v:Int))] [] (.tup [.p (.int .i64 x),.p (.int .i64 y)]),(AG (!x != 0)),(((x != 0)=false)→ ((!x != 0)=true)),((bif x != 0 then true else y != 0)=false),(ZLo ((↑v:Int)+1)),(ZHi ((↑v:Int)+1)),(AN w.1),(AP w.1 (fun i=>[.int .i64 (w.2 i)])),(AN 0),(AI ((↑np:Int))),((((↑v:Int)+1):Int)=(↑(v+1):Int)),(AN 3),(NL 1 1),(NL 1 1),(AI ((↑N:Int))),(AN nb),(AP nb (fun i=>[.int .i64 ((g i).1),.int .i64 ((g i).2.1)])),(AN np),(AP np (fun i=>[.int .i64 ((pl i).1),.int .i64 ((pl i).2.1)]))]):=by kernel_rfl
theorem isf (g:Nat→T_Bar) (nb N:Nat) (pl:Nat→T_Place) (np:Nat) (w:T_IntS) (v:Nat) (x y:Int) :
    pathOb Tryz.prog Tryz.f347 0 [rg 1,.dec true,rg 2,rm [(3,oc [] (.tup [.p (.int .i64 x),.p (.int .i64 y)]))] 5,rg 6,.dec true,rg 1] zf69 (IsI g nb N pl np w v) [] 1 [] (.p (.bool false)) =
    some [((decide ((↑v:Int)<(↑np:Int)))=true),(NT 0 1),Con Tryz.prog 382 0 [] [(zf32 N nb g np pl),.p (.seq true 1 w.1 (fun i=>[.int .i64 (w.2 i)])),.p (.int .i64 (↑v:Int))] [] (.tup [.p (.int .i64 x),.p (.int .i64 y)]),(AG (!x != 0)),(((x != 0)=false)→ ((!x != 0)=true)),((bif x != 0 then true else y != 0)=true),(false=false)]:=by kernel_rfl
theorem ise (g:Nat→T_Bar) (nb N:Nat) (pl:Nat→T_Place) (np:Nat) (w:T_IntS) (v:Nat) :
    pathOb Tryz.prog Tryz.f347 0 [rg 1,.dec false,rg 1] zf69 (IsI g nb N pl np w v) [] 1 [] (.p (.bool true)) =
    some [((decide ((↑v:Int)<(↑np:Int)))=false),(true=true)]:=by kernel_rfl
theorem iqz (g:Nat→T_Bar) (nb:Nat) (N:Int) (pl:Nat→T_Place) (np:Nat) (w:T_IntS) :
    pieceOb Tryz.prog 0 [rg 2,rg 1,.head] [.code (bodyOf Tryz.f346)] (start Tryz.f346 [] 0 [frA g nb N pl np,inL w]) [0] 1 (IsS g nb N pl np w 0) =
    some (zf102,[(AN w.1),(AP w.1 (fun i=>[.int .i64 (w.2 i)])),(AN 0),((0:Int)=(↑0:Int)),((([AV.p (PV.int IntKind.i64 N),brL g nb,pcL pl np].length):Nat)=3),(NL 1 1),(NL 1 1),(AI N),(AN nb),(AP nb (fun i=>[.int .i64 ((g i).1),.int .i64 ((g i).2.1)])),(AN np),(AP np (fun i=>[.int .i64 ((pl i).1),.int .i64 ((pl i).2.1)]))]):=by kernel_rfl
theorem iqt (g:Nat→T_Bar) (nb:Nat) (N:Int) (pl:Nat→T_Place) (np:Nat) (w:T_IntS) (v:Nat) (x y:Int) :
    pieceOb Tryz.prog 0 [rm [(8,oc [] (.p (.bool true)))] 1,.dec true,rm [(3,oc [] (.tup [.p (.int .i64 x),.p (.int .i64 y)]))] 5,rg 6,.dec false,rg 3,.head] zf102 (IsS g nb N pl np w v) [0] 1 (IsS g nb N pl np w (v+1)) =
    some (zf102,[(NT 0 1),(((decide ((↑v:Int)<N))=true)→(NT 0 1)),(AG (decide ((↑v:Int)<N))),(AG (decide ((↑v:Int)<N))),(((decide ((↑v:Int)<N))=true)→ Con Tryz.prog 379 0 [] [(zf35 N nb g np pl),.p (.seq true 1 w.1 (fun i=>[.int .i64 (w.2 i)]))] [] (.p (.bool true))),(AG (decide ((↑v:Int)<N))),((bif decide ((↑v:Int)<N) then true else false)=true),(NT 0 1),Con Tryz.prog 380 0 [] [(zf35 N nb g np pl),.p (.seq true 1 w.1 (fun i=>[.int .i64 (w.2 i)])),.p (.int .i64 (↑v:Int))] [] (.tup [.p (.int .i64 x),.p (.int .i64 y)]),(AG (!x != 0)),(((x != 0)=false)→ ((!x != 0)=true)),((bif x != 0 then true else y != 0)=false),(ZLo ((↑v:Int)+1)),(ZHi ((↑v:Int)+1)),(AN w.1),(AP w.1 (fun i=>[.int .i64 (w.2 i)])),(AN 0),((((↑v:Int)+1):Int)=(↑(v+1):Int)),(AN 3),(NL 1 1),(NL 1 1),(AI N),(AN nb),(AP nb (fun i=>[.int .i64 ((g i).1),.int .i64 ((g i).2.1)])),(AN np),(AP np (fun i=>[.int .i64 ((pl i).1),.int .i64 ((pl i).2.1)]))]):=by kernel_rfl
theorem iqf (g:Nat→T_Bar) (nb:Nat) (N:Int) (pl:Nat→T_Place) (np:Nat) (w:T_IntS) (v:Nat) (x y:Int) :
    pathOb Tryz.prog Tryz.f346 0 [rm [(8,oc [] (.p (.bool true)))] 1,.dec true,rm [(3,oc [] (.tup [.p (.int .i64 x),.p (.int .i64 y)]))] 5,rg 6,.dec true,rg 1] zf102 (IsS g nb N pl np w v) [] 1 [] (.p (.bool false)) =
    some [(NT 0 1),(((decide ((↑v:Int)<N))=true)→(NT 0 1)),(AG (decide ((↑v:Int)<N))),(AG (decide ((↑v:Int)<N))),(((decide ((↑v:Int)<N))=true)→ Con Tryz.prog 379 0 [] [(zf35 N nb g np pl),.p (.seq true 1 w.1 (fun i=>[.int .i64 (w.2 i)]))] [] (.p (.bool true))),(AG (decide ((↑v:Int)<N))),((bif decide ((↑v:Int)<N) then true else false)=true),(NT 0 1),Con Tryz.prog 380 0 [] [(zf35 N nb g np pl),.p (.seq true 1 w.1 (fun i=>[.int .i64 (w.2 i)])),.p (.int .i64 (↑v:Int))] [] (.tup [.p (.int .i64 x),.p (.int .i64 y)]),(AG (!x != 0)),(((x != 0)=false)→ ((!x != 0)=true)),((bif x != 0 then true else y != 0)=true),(false=false)]:=by kernel_rfl
theorem iqe (g:Nat→T_Bar) (nb:Nat) (N:Int) (pl:Nat→T_Place) (np:Nat) (w:T_IntS) (v:Nat) (b:Bool) :
    pathOb Tryz.prog Tryz.f346 0 [rm [(8,oc [] (.p (.bool b)))] 1,.dec false,rm [(2,oc [] (.p (.bool b)))] 1] zf102 (IsS g nb N pl np w v) [] 1 [] (.p (.bool b)) =
    some [(NT 0 1),(((decide ((↑v:Int)<N))=true)→(NT 0 1)),(AG (decide ((↑v:Int)<N))),(AG (decide ((↑v:Int)<N))),(((decide ((↑v:Int)<N))=true)→ Con Tryz.prog 379 0 [] [(zf35 N nb g np pl),.p (.seq true 1 w.1 (fun i=>[.int .i64 (w.2 i)]))] [] (.p (.bool b))),(AG (decide ((↑v:Int)<N))),((bif decide ((↑v:Int)<N) then b else false)=false),(NT 0 1),Con Tryz.prog 379 0 [] [(zf35 N nb g np pl),.p (.seq true 1 w.1 (fun i=>[.int .i64 (w.2 i)]))] [] (.p (.bool b)),(b=b)]:=by kernel_rfl
end Go.Proofs.YtkkjoghiigiokaaGreat.Mach
namespace Go.Proofs.YtkkjoghiigiokaaGreat.Mach
open Go
set_option linter.unusedVariables false
set_option linter.unusedSimpArgs false
def frcB (g:Nat→T_Bar) (nb:Nat) (N:Int) (pl:Nat→T_Place) (np:Nat) (w:T_IntS):Bool:=bif fwB g nb N pl np then smB w (nb:Int) else false
theorem con_areForces (g:Nat→T_Bar) (nb:Nat) (N:Int) (pl:Nat→T_Place) (np:Nat) (v:T_IntS) (hn:nb≤1048576∧np≤1048576) (hv:v.1≤1048576) :
    Con Tryz.prog 381 0 [] [frA g nb N pl np,inL v] [] (.p (.bool (frcB g nb N pl np v))):=by
  have cf:=con_IsFramework_i g nb N pl np hn
  have cs:=con_areSmall v (nb:Int) hv
  have hN:fwB g nb N pl np=true→-9223372036854775808≤2*N∧2*N≤9223372036854775807:=fun h=>by
    obtain ⟨n,rfl⟩:=fw_N h
    have:=(fw_ok h).2.1
    omega
  refine csZ Tryz.func381 (fun c hc=>?_)
  refine pkZ Tryz.func381 hc (afR g nb N pl np v (fwB g nb N pl np) (smB v (nb:Int))) ?_
  repeat' (first | exact aN | apply aI)
  all_goals (first | exact aG _ | omega | rfl | (intros;first | assumption | exact trivial | rfl | exact fT ‹_›) | (exact cf) | (intro _;exact cs) | (intro h;exact h) | (intro h;exact (hN h).1) | (intro h;exact (hN h).2) | rfl)
theorem con_l13Vector (g:Nat→T_Bar) (nb:Nat) (N:Int) (pl:Nat→T_Place) (np:Nat) (v:T_IntS) (hn:nb≤1048576∧np≤1048576) (hv:v.1≤1048576) :
    Con Tryz.prog 379 0 [] [frA g nb N pl np,inL v] [] (.p (.bool (frcB g nb N pl np v))):=by
  have cf:=con_IsFramework_s g nb N pl np hn
  have hN:fwB g nb N pl np=true→-9223372036854775808≤2*N∧2*N≤9223372036854775807:=fun h=>by
    obtain ⟨n,rfl⟩:=fw_N h
    have:=(fw_ok h).2.1
    omega
  refine csZ Tryz.func379 (fun c hc=>?_)
  have lo:∀ d i,i+d=v.1→allB (smq v) i=true→Run Tryz.prog c 379 zf101 (LvS g nb N pl np v i) (Post c [] (.p (.bool (frcB g nb N pl np v)))):=by
    intro d
    induction d with
    | zero =>
      intro i hi ha
      obtain rfl:i=v.1:=by omega
      have hd:decide ((v.1:Int)<(v.1:Int))=false:=decide_eq_false (by omega)
      unfold frcB smB
      rw [ha]
      refine pkZ Tryz.func379 hc (lve g nb N pl np v v.1 (fwB g nb N pl np)) ?_
      repeat' (first | exact aN | apply aI)
      all_goals (first | exact aG _ | omega | rfl | (intros;first | assumption | exact trivial | rfl | exact fT ‹_›) | (exact hd) | (exact cf) | (intro h;exact h) | (intro h;exact (hN h).1) | (intro h;exact (hN h).2) | rfl)
    | succ d ih =>
      intro i hi ha
      have hd:decide ((i:Int)<(v.1:Int))=true:=decide_eq_true (by omega)
      have cw:=con_l1In (v.2 i) (-10000000000) 10000000000
      change Con Tryz.prog 167 0 [] _ [] (.p (.bool (smq v i))) at cw
      cases hs:smq v i with
      | true =>
        rw [hs] at cw
        refine pcZ hc (lvt g nb N pl np v i) ?_ (ih (i+1) (by omega) (by rw [allB,ha,hs];rfl))
        repeat' (first | exact aN | apply aI)
        all_goals (first | exact aP _ _ | omega | rfl | (intros;first | assumption | exact trivial | rfl) | (exact hd) | (exact cw) | (intro t ht;simp [All];done))
      | false =>
        rw [hs] at cw
        rw [show frcB g nb N pl np v=false by
          unfold frcB smB
          rw [all_no (i:=i) (by omega) hs]
          cases fwB g nb N pl np<;>rfl]
        refine pkZ Tryz.func379 hc (lvf g nb N pl np v i) ?_
        repeat' (first | exact aN | apply aI)
        all_goals (first | omega | rfl | (intros;first | assumption | exact trivial | rfl) | (exact hd) | (exact cw))
  refine pcZ hc (lvz g nb N pl np v) ?_ (lo v.1 0 (by omega) rfl)
  repeat' (first | exact aN | apply aI)
  all_goals (first | exact aP _ _ | omega | rfl | (intros;first | assumption | exact trivial | rfl) | (intro t ht;simp [All];done))
end Go.Proofs.YtkkjoghiigiokaaGreat.Mach
namespace Go.Proofs.YtkkjoghiigiokaaGreat.Mach
open Go
set_option linter.unusedVariables false
set_option linter.unusedSimpArgs false
structure FOk (g:Nat→T_Bar) (nb N:Nat) (pl:Nat→T_Place) (np:Nat) (w:T_IntS):Prop where
  hf:fwB g nb N pl np=true
  hl:w.1=nb
  hN:1≤N∧N≤6
  hnp:np=N
  hnb:nb≤15
  sm:∀ j,j<nb→-10000000000≤w.2 j∧w.2 j≤10000000000
  px:∀ i,i<N→(0≤(pl i).1∧(pl i).1≤4)∧(0≤(pl i).2.1∧(pl i).2.1≤4)
  frc:frcB g nb N pl np w=true
  gr:isGraphF ((N:Int),(nb,g),())=true
  ok:OkBars N nb g
theorem fOk {g:Nat→T_Bar} {nb N:Nat} {pl:Nat→T_Place} {np:Nat} {w:T_IntS} (h:frcB g nb N pl np w=true):FOk g nb N pl np w:=by
  have hv:=h
  unfold frcB at h
  cases hf:fwB g nb N pl np with
  | false=>rw [hf] at h;cases h
  | true =>
    rw [hf] at h
    obtain ⟨h1,h2,h3,h4,h5,_⟩:=fw_parts hf
    obtain ⟨hN,_,hok⟩:=graph_in h1
    have h:smB w (nb:Int)=true:=h
    unfold smB at h
    cases ha:allB (smq w) w.1 with
    | false=>rw [ha] at h;cases h
    | true =>
      rw [ha] at h
      have hl:w.1=nb:=by simp at h;omega
      exact ⟨hf,hl,by omega,by omega,h3,fun j hj=>inB_iff.1 ((all_iff _ _).1 ha j (by omega)),fun i hi=>h5 i (by omega),hv,h1,hok⟩
def ofN (g:Nat→T_Bar) (v k:Nat):Nat:=if (g k).1=v then (g k).2.1.toNat else (g k).1.toNat
theorem fc_b {g:Nat→T_Bar} {nb N:Nat} {pl:Nat→T_Place} {np:Nat} {w:T_IntS} (ok:FOk g nb N pl np w) {v:Nat} (hv:v<N) :
    ∀ k,k≤nb→(-(40000000000*(k:Int))≤fcX g pl w v k∧fcX g pl w v k≤40000000000*(k:Int))∧(-(40000000000*(k:Int))≤fcY g pl w v k∧fcY g pl w v k≤40000000000*(k:Int))
  | 0,_=>⟨⟨by show _≤(0:Int);omega,by show (0:Int)≤_;omega⟩,⟨by show _≤(0:Int);omega,by show (0:Int)≤_;omega⟩⟩
  | k+1,hk=>by
    obtain ⟨a,b⟩:=fc_b ok hv k (by omega)
    have hb:=ok.ok k (by omega)
    have ho:ofN g v k<N:=by unfold ofN;split<;>omega
    have pv:=ok.px v hv
    have po:=ok.px _ ho
    have hw:=ok.sm k (by omega)
    have m1:=Trv.bdm (A:=10000000000) (B:=4) (b:=(pl v).1 - (pl (ofN g v k)).1) ⟨hw.1,hw.2⟩ (by omega)
    have m2:=Trv.bdm (A:=10000000000) (B:=4) (b:=(pl v).2.1 - (pl (ofN g v k)).2.1) ⟨hw.1,hw.2⟩ (by omega)
    unfold ofN at m1 m2
    simp only [fcX,fcY]
    split<;>constructor<;>constructor<;>omega
theorem con_Force_i {g:Nat→T_Bar} {nb N:Nat} {pl:Nat→T_Place} {np:Nat} {w:T_IntS} (ok:FOk g nb N pl np w) {v:Nat} (hv:v<N) :
    Con Tryz.prog 382 0 [] [frA g nb N pl np,inL w,.p (.int .i64 v)] [] (.tup [.p (.int .i64 (fcX g pl w v nb)),.p (.int .i64 (fcY g pl w v nb))]):=by
  have hnp:=ok.hnp
  have hnb:=ok.hnb
  have hl:=ok.hl
  have hN:=ok.hN
  have ca:=con_areForces g nb N pl np w (by omega) (by omega)
  rw [ok.frc] at ca
  refine csZ Tryz.func382 (fun c hc=>?_)
  have lo:∀ d i,i+d=nb→Run Tryz.prog c 382 zf50 (FaI g nb N pl np w v (fcX g pl w v i) (fcY g pl w v i) i) (Post c [] (.tup [.p (.int .i64 (fcX g pl w v nb)),.p (.int .i64 (fcY g pl w v nb))])):=by
    intro d
    induction d with
    | zero =>
      intro i hi
      obtain rfl:i=nb:=by omega
      have hd:decide ((i:Int)<(i:Int))=false:=by simp
      refine pkZ Tryz.func382 hc (fae g i N pl np w v _ _ i) ?_
      repeat' (first | exact aN | apply aI)
      all_goals (first | omega | rfl | (intros;first | assumption | exact trivial | rfl) | (exact hd) | (simp;done))
    | succ d ih =>
      intro i hi
      have hd:decide ((i:Int)<(nb:Int))=true:=decide_eq_true (by omega)
      have hrec:=ih (i+1) (by omega)
      have hb:=ok.ok i (by omega)
      have ch:=con_hasD (g i) v
      have co:=con_other (g i) v
      cases hh:hasB (g i) v with
      | false =>
        rw [hh] at ch
        rw [show fcX g pl w v (i+1)=fcX g pl w v i by simp [fcX,hh],show fcY g pl w v (i+1)=fcY g pl w v i by simp [fcY,hh]] at hrec
        refine pcZ hc (faf g nb N pl np w v _ _ i) ?_ hrec
        repeat' (first | exact aN | apply aI)
        all_goals (first | exact aP _ _ | omega | rfl | (intros;first | assumption | exact trivial | rfl | exact fT ‹_›) | (exact hd) | (exact ch) | (intro t ht;simp [All];done) | (simp;done))
      | true =>
        rw [hh] at ch
        have f1:=fc_b ok hv i (by omega)
        have f2:=fc_b ok hv (i+1) (by omega)
        have ho:ofN g v i<N:=by unfold ofN;split<;>omega
        have e:othF (g i) v=(ofN g v i:Int):=by unfold othF ofN;split<;>omega
        rw [e] at co
        have pv:=ok.px v hv
        have po:=ok.px _ ho
        have hw:=ok.sm i (by omega)
        have m1:=Trv.bdm (A:=10000000000) (B:=4) (b:=(pl v).1 - (pl (ofN g v i)).1) ⟨hw.1,hw.2⟩ (by omega)
        have m2:=Trv.bdm (A:=10000000000) (B:=4) (b:=(pl v).2.1 - (pl (ofN g v i)).2.1) ⟨hw.1,hw.2⟩ (by omega)
        have sx:fcX g pl w v i+w.2 i*((pl v).1 - (pl (ofN g v i)).1)=fcX g pl w v (i+1):=by simp [fcX,hh,ofN]
        have sy:fcY g pl w v i+w.2 i*((pl v).2.1 - (pl (ofN g v i)).2.1)=fcY g pl w v (i+1):=by simp [fcY,hh,ofN]
        refine pcZ hc (fat g nb N pl np w v _ _ i (ofN g v i) _ _) ?_ hrec
        repeat' (first | exact aN | apply aI)
        all_goals (first | exact aP _ _ | omega | rfl | (intros;first | assumption | exact trivial | rfl | exact fT ‹_›) | (exact hd) | (exact ch) | (exact co) | (exact sx) | (exact sy) | (intro t ht;simp [All];done) | (simp;done))
  refine pcZ hc (faz g nb N pl np w v) ?_ (lo nb 0 (by omega))
  repeat' (first | exact aN | apply aI)
  all_goals (first | exact aP _ _ | omega | rfl | (intros;first | assumption | exact trivial | rfl) | (exact ca) | (intro t ht;simp [All];done) | (simp;done))
theorem con_Force_s {g:Nat→T_Bar} {nb N:Nat} {pl:Nat→T_Place} {np:Nat} {w:T_IntS} (ok:FOk g nb N pl np w) {v:Nat} (hv:v<N) :
    Con Tryz.prog 380 0 [] [frA g nb N pl np,inL w,.p (.int .i64 v)] [] (.tup [.p (.int .i64 (fcX g pl w v nb)),.p (.int .i64 (fcY g pl w v nb))]):=by
  have hnp:=ok.hnp
  have hnb:=ok.hnb
  have hl:=ok.hl
  have hN:=ok.hN
  have ca:=con_l13Vector g nb N pl np w (by omega) (by omega)
  rw [ok.frc] at ca
  refine csZ Tryz.func380 (fun c hc=>?_)
  have lo:∀ d i,i+d=nb→Run Tryz.prog c 380 zf51 (FaS g nb N pl np w v (fcX g pl w v i) (fcY g pl w v i) i) (Post c [] (.tup [.p (.int .i64 (fcX g pl w v nb)),.p (.int .i64 (fcY g pl w v nb))])):=by
    intro d
    induction d with
    | zero =>
      intro i hi
      obtain rfl:i=nb:=by omega
      have hd:(bif decide ((i:Int)<(w.1:Int)) then true else false)=false:=by rw [hl,decide_eq_false (Int.lt_irrefl _)];rfl
      refine pkZ Tryz.func380 hc (fse g i N pl np w v _ _ i) ?_
      repeat' (first | exact aN | apply aI)
      all_goals (first | exact aG _ | omega | rfl | (intros;first | assumption | exact trivial | rfl | exact fT ‹_›) | (exact hd) | (intros;exact ca) | (intro h;exact h) | (simp;done))
    | succ d ih =>
      intro i hi
      have hd:(bif decide ((i:Int)<(w.1:Int)) then true else false)=true:=by rw [decide_eq_true (by omega)];rfl
      have hrec:=ih (i+1) (by omega)
      have hb:=ok.ok i (by omega)
      have co:=con_l4Other (g i) v (by omega) (by omega) (by omega)
      cases hh:hasB (g i) v with
      | false =>
        have hh':(bif (g i).1==(v:Int) then true else (g i).2.1==(v:Int))=_:=hh
        rw [show fcX g pl w v (i+1)=fcX g pl w v i by simp [fcX,hh],show fcY g pl w v (i+1)=fcY g pl w v i by simp [fcY,hh]] at hrec
        refine pcZ hc (fsf g nb N pl np w v _ _ i) ?_ hrec
        repeat' (first | exact aN | apply aI)
        all_goals (first | exact aG _ | exact aP _ _ | omega | rfl | (intros;first | assumption | exact trivial | rfl | exact fT ‹_› | ((repeat' (first | assumption | apply anda | apply notf));done)) | (exact hd) | (exact hh') | (intros;exact ca) | (intro h;exact h) | (intro h;rw [h];rfl) | (intro t ht;simp [All];done) | (simp;done))
      | true =>
        have hh':(bif (g i).1==(v:Int) then true else (g i).2.1==(v:Int))=_:=hh
        have f1:=fc_b ok hv i (by omega)
        have f2:=fc_b ok hv (i+1) (by omega)
        have ho:ofN g v i<N:=by unfold ofN;split<;>omega
        have e:(g i).1+(g i).2.1 - (v:Int)=(ofN g v i:Int):=by
          unfold ofN
          by_cases q:(g i).1=(v:Int)
          · rw [if_pos q];omega
          · rw [if_neg q]
            rw [beq_eq_false_iff_ne.2 q] at hh'
            have:=beq_iff_eq.1 hh'
            omega
        rw [e] at co
        have pv:=ok.px v hv
        have po:=ok.px _ ho
        have hw:=ok.sm i (by omega)
        have m1:=Trv.bdm (A:=10000000000) (B:=4) (b:=(pl v).1 - (pl (ofN g v i)).1) ⟨hw.1,hw.2⟩ (by omega)
        have m2:=Trv.bdm (A:=10000000000) (B:=4) (b:=(pl v).2.1 - (pl (ofN g v i)).2.1) ⟨hw.1,hw.2⟩ (by omega)
        have sx:fcX g pl w v i+w.2 i*((pl v).1 - (pl (ofN g v i)).1)=fcX g pl w v (i+1):=by simp [fcX,hh,ofN]
        have sy:fcY g pl w v i+w.2 i*((pl v).2.1 - (pl (ofN g v i)).2.1)=fcY g pl w v (i+1):=by simp [fcY,hh,ofN]
        refine pcZ hc (fst1 g nb N pl np w v _ _ i (ofN g v i) _ _) ?_ hrec
        repeat' (first | exact aN | apply aI)
        all_goals (first | exact aG _ | exact aP _ _ | omega | rfl | (intros;first | assumption | exact trivial | rfl | exact fT ‹_› | ((repeat' (first | assumption | apply anda | apply notf));done)) | (exact hd) | (exact hh') | (intros;exact ca) | (intro h;exact h) | (intro h;rw [h];rfl) | (exact co) | (exact sx) | (exact sy) | (intro t ht;simp [All];done) | (simp;done))
  refine pcZ hc (fsz g nb N pl np w v) ?_ (lo nb 0 (by omega))
  repeat' (first | exact aN | apply aI)
  all_goals (first | exact aP _ _ | omega | rfl | (intros;first | assumption | exact trivial | rfl) | (exact ca) | (intro t ht;simp [All];done) | (simp;done))
end Go.Proofs.YtkkjoghiigiokaaGreat.Mach
namespace Go.Proofs.YtkkjoghiigiokaaGreat.Mach
open Go
set_option linter.unusedVariables false
set_option linter.unusedSimpArgs false
def zrB (g:Nat→T_Bar) (nb:Nat) (pl:Nat→T_Place) (w:T_IntS) (v:Nat):Bool:=(fcX g pl w v nb==0)&&(fcY g pl w v nb==0)
def strB (g:Nat→T_Bar) (nb:Nat) (N:Int) (pl:Nat→T_Place) (np:Nat) (w:T_IntS):Bool:=frcB g nb N pl np w&&allB (zrB g nb pl w) N.toNat
theorem zr_dec (x y:Int):(bif (x != 0) then true else (y != 0))=!((x==0)&&(y==0)):=by
  cases h:(x==0)<;>cases k:(y==0)<;>simp [bne,h,k]
theorem con_IsStress_i (g:Nat→T_Bar) (nb:Nat) (N:Int) (pl:Nat→T_Place) (np:Nat) (w:T_IntS) (hn:nb≤1048576∧np≤1048576) (hw:w.1≤1048576) :
    Con Tryz.prog 347 0 [] [frA g nb N pl np,inL w] [] (.p (.bool (strB g nb N pl np w))):=by
  have ca:=con_areForces g nb N pl np w hn hw
  unfold strB
  cases hb:frcB g nb N pl np w with
  | false =>
    rw [hb] at ca
    refine csZ Tryz.func347 (fun c hc=>?_)
    refine pkZ Tryz.func347 hc (isN g nb N pl np w) ?_
    repeat' (first | exact aN | apply aI)
    all_goals (first | omega | rfl | (intros;first | assumption | exact trivial | rfl) | (exact ca) | (simp;done))
  | true =>
    have hf:fwB g nb N pl np=true:=by
      have h:=hb
      unfold frcB at h
      cases q:fwB g nb N pl np with
      | false=>rw [q] at h;cases h
      | true=>rfl
    obtain ⟨n,rfl⟩:=fw_N hf
    have ok:=fOk hb
    rw [hb] at ca
    have hnp:=ok.hnp
    have hN:=ok.hN
    rw [Int.toNat_natCast,Bool.true_and]
    refine csZ Tryz.func347 (fun c hc=>?_)
    have lo:∀ d i,i+d=n→allB (zrB g nb pl w) i=true→Run Tryz.prog c 347 zf69 (IsI g nb n pl np w i) (Post c [] (.p (.bool (allB (zrB g nb pl w) n)))):=by
      intro d
      induction d with
      | zero =>
        intro i hi ha
        obtain rfl:i=n:=by omega
        have hd:decide ((i:Int)<(np:Int))=false:=decide_eq_false (by omega)
        rw [ha]
        refine pkZ Tryz.func347 hc (ise g nb i pl np w i) ?_
        repeat' (first | exact aN | apply aI)
        all_goals (first | omega | rfl | (intros;first | assumption | exact trivial | rfl) | (exact hd) | (simp;done))
      | succ d ih =>
        intro i hi ha
        have hd:decide ((i:Int)<(np:Int))=true:=decide_eq_true (by omega)
        have cf:=con_Force_i ok (v:=i) (by omega)
        have hz:=zr_dec (fcX g pl w i nb) (fcY g pl w i nb)
        cases hs:zrB g nb pl w i with
        | true =>
          rw [show ((fcX g pl w i nb==0)&&(fcY g pl w i nb==0))=true from hs] at hz
          refine pcZ hc (ist g nb n pl np w i (fcX g pl w i nb) (fcY g pl w i nb)) ?_ (ih (i+1) (by omega) (by rw [allB,ha,hs];rfl))
          repeat' (first | exact aN | apply aI)
          all_goals (first | exact aG _ | exact aP _ _ | omega | rfl | (intros;first | assumption | exact trivial | rfl | exact fT ‹_› | ((repeat' (first | assumption | apply anda | apply notf));done)) | (exact hd) | (exact cf) | (exact hz) | (intro t ht;simp [All];done) | (simp;done))
        | false =>
          rw [show ((fcX g pl w i nb==0)&&(fcY g pl w i nb==0))=false from hs] at hz
          rw [all_no (i:=i) (by omega) hs]
          refine pkZ Tryz.func347 hc (isf g nb n pl np w i (fcX g pl w i nb) (fcY g pl w i nb)) ?_
          repeat' (first | exact aN | apply aI)
          all_goals (first | exact aG _ | omega | rfl | (intros;first | assumption | exact trivial | rfl | exact fT ‹_› | ((repeat' (first | assumption | apply anda | apply notf));done)) | (exact hd) | (exact cf) | (exact hz) | (simp;done))
    refine pcZ hc (isz g nb n pl np w) ?_ (lo n 0 (by omega) rfl)
    repeat' (first | exact aN | apply aI)
    all_goals (first | exact aP _ _ | omega | rfl | (intros;first | assumption | exact trivial | rfl) | (exact ca) | (intro t ht;simp [All];done) | (simp;done))
theorem con_IsStress_s (g:Nat→T_Bar) (nb:Nat) (N:Int) (pl:Nat→T_Place) (np:Nat) (w:T_IntS) (hn:nb≤1048576∧np≤1048576) (hw:w.1≤1048576) :
    Con Tryz.prog 346 0 [] [frA g nb N pl np,inL w] [] (.p (.bool (strB g nb N pl np w))):=by
  have ca:=con_l13Vector g nb N pl np w hn hw
  unfold strB
  cases hb:frcB g nb N pl np w with
  | false =>
    rw [hb] at ca
    refine csZ Tryz.func346 (fun c hc=>?_)
    have hd:(bif decide (((0:Nat):Int)<N) then false else false)=false:=by cases decide (((0:Nat):Int)<N)<;>rfl
    refine pcZ hc (iqz g nb N pl np w) ?_ (pkZ Tryz.func346 hc (iqe g nb N pl np w 0 false) ?_)
    ·
      repeat' (first | exact aN | apply aI)
      all_goals (first | exact aP _ _ | omega | rfl | (intros;first | assumption | exact trivial | rfl) | (intro t ht;simp [All];done) | (simp;done))
    ·
      repeat' (first | exact aN | apply aI)
      all_goals (first | exact aG _ | exact aP _ _ | exact aA _ _ | exact aE _ | omega | rfl | (intros;first | assumption | exact trivial | rfl | exact fT ‹_› | ((repeat' (first | assumption | apply anda | apply notf));done)) | (exact hd) | (exact ca) | (intros;exact ca) | (intro h;exact h) | (simp;done))
  | true =>
    have hf:fwB g nb N pl np=true:=by
      have h:=hb
      unfold frcB at h
      cases q:fwB g nb N pl np with
      | false=>rw [q] at h;cases h
      | true=>rfl
    obtain ⟨n,rfl⟩:=fw_N hf
    have ok:=fOk hb
    rw [hb] at ca
    have hnp:=ok.hnp
    have hN:=ok.hN
    rw [Int.toNat_natCast,Bool.true_and]
    refine csZ Tryz.func346 (fun c hc=>?_)
    have lo:∀ d i,i+d=n→allB (zrB g nb pl w) i=true→Run Tryz.prog c 346 zf102 (IsS g nb n pl np w i) (Post c [] (.p (.bool (allB (zrB g nb pl w) n)))):=by
      intro d
      induction d with
      | zero =>
        intro i hi ha
        obtain rfl:i=n:=by omega
        have hd:(bif decide ((i:Int)<(i:Int)) then true else false)=false:=by rw [decide_eq_false (Int.lt_irrefl _)];rfl
        rw [ha]
        refine pkZ Tryz.func346 hc (iqe g nb i pl np w i true) ?_
        repeat' (first | exact aN | apply aI)
        all_goals (first | exact aG _ | omega | rfl | (intros;first | assumption | exact trivial | rfl | exact fT ‹_›) | (exact hd) | (exact ca) | (intros;exact ca) | (intro h;exact h) | (simp;done))
      | succ d ih =>
        intro i hi ha
        have hd:(bif decide ((i:Int)<(n:Int)) then true else false)=true:=by rw [decide_eq_true (by omega)];rfl
        have cf:=con_Force_s ok (v:=i) (by omega)
        have hz:=zr_dec (fcX g pl w i nb) (fcY g pl w i nb)
        cases hs:zrB g nb pl w i with
        | true =>
          rw [show ((fcX g pl w i nb==0)&&(fcY g pl w i nb==0))=true from hs] at hz
          refine pcZ hc (iqt g nb n pl np w i (fcX g pl w i nb) (fcY g pl w i nb)) ?_ (ih (i+1) (by omega) (by rw [allB,ha,hs];rfl))
          repeat' (first | exact aN | apply aI)
          all_goals (first | exact aG _ | exact aP _ _ | omega | rfl | (intros;first | assumption | exact trivial | rfl | exact fT ‹_› | ((repeat' (first | assumption | apply anda | apply notf));done)) | (exact hd) | (exact ca) | (intros;exact ca) | (intro h;exact h) | (exact cf) | (exact hz) | (intro t ht;simp [All];done) | (simp;done))
        | false =>
          rw [show ((fcX g pl w i nb==0)&&(fcY g pl w i nb==0))=false from hs] at hz
          rw [all_no (i:=i) (by omega) hs]
          refine pkZ Tryz.func346 hc (iqf g nb n pl np w i (fcX g pl w i nb) (fcY g pl w i nb)) ?_
          repeat' (first | exact aN | apply aI)
          all_goals (first | exact aG _ | omega | rfl | (intros;first | assumption | exact trivial | rfl | exact fT ‹_› | ((repeat' (first | assumption | apply anda | apply notf));done)) | (exact hd) | (exact ca) | (intros;exact ca) | (intro h;exact h) | (exact cf) | (exact hz) | (simp;done))
    refine pcZ hc (iqz g nb n pl np w) ?_ (lo n 0 (by omega) rfl)
    repeat' (first | exact aN | apply aI)
    all_goals (first | exact aP _ _ | omega | rfl | (intros;first | assumption | exact trivial | rfl) | (exact ca) | (intro t ht;simp [All];done) | (simp;done))
end Go.Proofs.YtkkjoghiigiokaaGreat.Mach
namespace Go.Proofs.YtkkjoghiigiokaaGreat.Mach
open Go
set_option linter.unusedVariables false
set_option linter.unusedSimpArgs false
def flB (pl:Nat→T_Place) (v:T_IntS) (a b:Nat):Bool :=
  bif ((pl a).1 - (pl 0).1)*((pl b).2.1 - (pl 0).2.1)==((pl a).2.1 - (pl 0).2.1)*((pl b).1 - (pl 0).1) then bif ((pl b).1 - (pl 0).1)*(v.2 (2*a) - v.2 0)+((pl b).2.1 - (pl 0).2.1)*(v.2 (2*a+1) - v.2 1) != ((pl a).1 - (pl 0).1)*(v.2 (2*b) - v.2 0)+((pl a).2.1 - (pl 0).2.1)*(v.2 (2*b+1) - v.2 1) then true else ((pl b).1 - (pl 0).1)*(v.2 (2*a+1) - v.2 1) - ((pl b).2.1 - (pl 0).2.1)*(v.2 (2*a) - v.2 0) != ((pl a).1 - (pl 0).1)*(v.2 (2*b+1) - v.2 1) - ((pl a).2.1 - (pl 0).2.1)*(v.2 (2*b) - v.2 0) else false
def paB (pl:Nat→T_Place) (v:T_IntS) (a b:Nat):Bool :=
  bif chV pl v a b != 0 then true else bif (pl a).1==(pl b).1&&((pl a).2.1==(pl b).2.1&&true) then bif v.2 (2*a) != v.2 (2*b) then true else v.2 (2*a+1) != v.2 (2*b+1) else false
def flP (N:Nat) (pl:Nat→T_Place) (v:T_IntS):Prop:=∀ a,a<N→∀ b,1≤b→b<a→flB pl v a b=false
def paP (N:Nat) (pl:Nat→T_Place) (v:T_IntS):Prop:=∀ a,a<N→∀ b,b<a→paB pl v a b=false
theorem flB_iff {pl:Nat→T_Place} {v:T_IntS} {a b:Nat}:flB pl v a b=false↔(xP pl a*yP pl b=yP pl a*xP pl b→xP pl b*uPm v a+yP pl b*wP v a=xP pl a*uPm v b+yP pl a*wP v b∧xP pl b*wP v a - yP pl b*uPm v a=xP pl a*wP v b - yP pl a*uPm v b):=by
  unfold flB xP yP uPm wP
  generalize ((pl a).1 - (pl 0).1)*((pl b).2.1 - (pl 0).2.1)=e1
  generalize ((pl a).2.1 - (pl 0).2.1)*((pl b).1 - (pl 0).1)=e2
  generalize ((pl b).1 - (pl 0).1)*(v.2 (2*a) - v.2 0)+((pl b).2.1 - (pl 0).2.1)*(v.2 (2*a+1) - v.2 1)=e3
  generalize ((pl a).1 - (pl 0).1)*(v.2 (2*b) - v.2 0)+((pl a).2.1 - (pl 0).2.1)*(v.2 (2*b+1) - v.2 1)=e4
  generalize ((pl b).1 - (pl 0).1)*(v.2 (2*a+1) - v.2 1) - ((pl b).2.1 - (pl 0).2.1)*(v.2 (2*a) - v.2 0)=e5
  generalize ((pl a).1 - (pl 0).1)*(v.2 (2*b+1) - v.2 1) - ((pl a).2.1 - (pl 0).2.1)*(v.2 (2*b) - v.2 0)=e6
  by_cases h1:e1=e2
  · by_cases h2:e3=e4
    · by_cases h3:e5=e6
      · simp [h1,h2,h3]
      · simp [h1,h2,h3]
    · simp [h1,h2]
  · have:(e1==e2)=false:=by simpa using h1
    rw [this]
    simp [h1]
theorem paB_iff {pl:Nat→T_Place} {v:T_IntS} {a b:Nat}:paB pl v a b=false↔(xP pl a - xP pl b)*(uPm v a - uPm v b)+(yP pl a - yP pl b)*(wP v a - wP v b)=0∧(xP pl a=xP pl b→yP pl a=yP pl b→uPm v a=uPm v b∧wP v a=wP v b):=by
  have e:chV pl v a b=(xP pl a - xP pl b)*(uPm v a - uPm v b)+(yP pl a - yP pl b)*(wP v a - wP v b):=by
    unfold chV xP yP uPm wP
    have a1:(pl a).1 - (pl 0).1 - ((pl b).1 - (pl 0).1)=(pl a).1 - (pl b).1:=by omega
    have a2:(pl a).2.1 - (pl 0).2.1 - ((pl b).2.1 - (pl 0).2.1)=(pl a).2.1 - (pl b).2.1:=by omega
    have a3:v.2 (2*a) - v.2 0 - (v.2 (2*b) - v.2 0)=v.2 (2*a) - v.2 (2*b):=by omega
    have a4:v.2 (2*a+1) - v.2 1 - (v.2 (2*b+1) - v.2 1)=v.2 (2*a+1) - v.2 (2*b+1):=by omega
    rw [a1,a2,a3,a4]
  rw [← e]
  unfold paB xP yP uPm wP
  generalize chV pl v a b=x
  have i1:(pl a).1 - (pl 0).1=(pl b).1 - (pl 0).1↔(pl a).1=(pl b).1:=by omega
  have i2:(pl a).2.1 - (pl 0).2.1=(pl b).2.1 - (pl 0).2.1↔(pl a).2.1=(pl b).2.1:=by omega
  have i3:v.2 (2*a) - v.2 0=v.2 (2*b) - v.2 0↔v.2 (2*a)=v.2 (2*b):=by omega
  have i4:v.2 (2*a+1) - v.2 1=v.2 (2*b+1) - v.2 1↔v.2 (2*a+1)=v.2 (2*b+1):=by omega
  rw [i1,i2,i3,i4]
  generalize (pl a).1=c1
  generalize (pl b).1=c2
  generalize (pl a).2.1=c3
  generalize (pl b).2.1=c4
  generalize v.2 (2*a)=c5
  generalize v.2 (2*b)=c6
  generalize v.2 (2*a+1)=c7
  generalize v.2 (2*b+1)=c8
  by_cases h0:x=0
  · by_cases h1:c1=c2
    · by_cases h2:c3=c4
      · by_cases h3:c5=c6
        · by_cases h4:c7=c8
          · simp [h0,h1,h2,h3,h4]
          · simp [h0,h1,h2,h3,h4]
        · simp [h0,h1,h2,h3]
      · simp [h0,h1,h2]
    · simp [h0,h1]
  · simp [h0]
theorem tm_iff {N:Nat} {pl:Nat→T_Place} {v:T_IntS}:tmP N pl v↔paP N pl v∧flP N pl v:=by
  constructor
  · intro h
    exact ⟨fun a ha b hb=>paB_iff.2 ⟨h.ch a b ha hb,h.same a b ha hb⟩,fun a ha b h1 hb=>flB_iff.2 (h.flat a b ha hb h1)⟩
  · rintro ⟨h1,h2⟩
    exact ⟨fun a b ha hb=>(paB_iff.1 (h1 a ha b hb)).1,fun a b ha hb=>(paB_iff.1 (h1 a ha b hb)).2,fun a b ha hb h=>flB_iff.1 (h2 a ha b h hb)⟩
open Classical in
theorem con_Flat12 {g:Nat→T_Bar} {nb N:Nat} {pl:Nat→T_Place} {np:Nat} {v:T_IntS} (ok:VOk g nb N pl np v) :
    Con Tryz.prog 301 0 [] [frA g nb N pl np,inL v] [] (.p (.bool (decide (flP N pl v)))):=by
  obtain ⟨hf,hl,hN,hnp,hnb,sm,px,hv,hg⟩:=ok
  have p0:=px 0 (by omega)
  have s0:=sm 0 (by omega)
  have s1:=sm 1 (by omega)
  refine csZ Tryz.func301 (fun c hc=>?_)
  have l1:∀ a,a<N→1≤a→(∀ a',a'<a→∀ b,1≤b→b<a'→flB pl v a' b=false) →
      ((∀ b,1≤b→b<a→flB pl v a b=false)→Run Tryz.prog c 301 zf100 (TF0 g nb N pl np v (a+1)) (Post c [] (.p (.bool (decide (flP N pl v)))))) →
      ∀ d b,b+d=a→1≤b→(∀ b',1≤b'→b'<b→flB pl v a b'=false)→Run Tryz.prog c 301 zf16 (TF1 g nb N pl np v a b) (Post c [] (.p (.bool (decide (flP N pl v))))):=by
    intro a ha ha1 hall hnext d
    induction d with
    | zero =>
      intro b hb hb1 hrow
      obtain rfl:b=a:=by omega
      have hd:decide ((b:Int)<(b:Int))=false:=decide_eq_false (by omega)
      refine pcZ hc (tfd g nb N pl np v b b) ?_ (hnext hrow)
      repeat' (first | exact aN | apply aI)
      all_goals (first | exact aP _ _ | omega | rfl | (intros;first | assumption | exact trivial | rfl) | (exact hd) | (intro t ht;simp [All];done))
    | succ d ih =>
      intro b hb hb1 hrow
      have hd:decide ((b:Int)<(a:Int))=true:=decide_eq_true (by omega)
      have pa:=px a (by omega)
      have pb:=px b (by omega)
      have sa:=sm (2*a) (by omega)
      have ta:=sm (2*a+1) (by omega)
      have sb:=sm (2*b) (by omega)
      have tb:=sm (2*b+1) (by omega)
      have m1:=Trv.bdm (a:=(pl a).1 - (pl 0).1) (b:=(pl b).2.1 - (pl 0).2.1) (A:=4) (B:=4) (by omega) (by omega)
      have m2:=Trv.bdm (a:=(pl a).2.1 - (pl 0).2.1) (b:=(pl b).1 - (pl 0).1) (A:=4) (B:=4) (by omega) (by omega)
      have m3:=Trv.bdm (a:=(pl b).1 - (pl 0).1) (b:=v.2 (2*a) - v.2 0) (A:=4) (B:=20000000000) (by omega) (by omega)
      have m4:=Trv.bdm (a:=(pl b).2.1 - (pl 0).2.1) (b:=v.2 (2*a+1) - v.2 1) (A:=4) (B:=20000000000) (by omega) (by omega)
      have m5:=Trv.bdm (a:=(pl a).1 - (pl 0).1) (b:=v.2 (2*b) - v.2 0) (A:=4) (B:=20000000000) (by omega) (by omega)
      have m6:=Trv.bdm (a:=(pl a).2.1 - (pl 0).2.1) (b:=v.2 (2*b+1) - v.2 1) (A:=4) (B:=20000000000) (by omega) (by omega)
      have m7:=Trv.bdm (a:=(pl b).1 - (pl 0).1) (b:=v.2 (2*a+1) - v.2 1) (A:=4) (B:=20000000000) (by omega) (by omega)
      have m8:=Trv.bdm (a:=(pl b).2.1 - (pl 0).2.1) (b:=v.2 (2*a) - v.2 0) (A:=4) (B:=20000000000) (by omega) (by omega)
      have m9:=Trv.bdm (a:=(pl a).1 - (pl 0).1) (b:=v.2 (2*b+1) - v.2 1) (A:=4) (B:=20000000000) (by omega) (by omega)
      have m0:=Trv.bdm (a:=(pl a).2.1 - (pl 0).2.1) (b:=v.2 (2*b) - v.2 0) (A:=4) (B:=20000000000) (by omega) (by omega)
      cases hq:flB pl v a b with
      | false =>
        have hr:=ih (b+1) (by omega) (by omega) (fun b' h1 h2=>by
          by_cases h:b'=b
          · rw [h];exact hq
          · exact hrow b' h1 (by omega))
        unfold flB at hq
        refine pcZ hc (tfb g nb N pl np v a b) ?_ hr
        repeat' (first | exact aN | apply aI)
        all_goals (first | exact aG _ | exact aP _ _ | omega | rfl | (intros;first | assumption | exact trivial | rfl | exact fT ‹_› | ((repeat' (first | assumption | apply anda | apply notf));done)) | (exact hd) | (exact hq) | (intro h;exact h) | (intro h;omega) | (intro h;rw [h];rfl) | (intro h;simpa using h) | (intro t ht;simp [All];done))
      | true =>
        rw [show decide (flP N pl v)=false from decide_eq_false (fun h=>by have:=h a ha b hb1 (by omega);rw [hq] at this;cases this)]
        unfold flB at hq
        refine pkZ Tryz.func301 hc (tfc g nb N pl np v a b) ?_
        repeat' (first | exact aN | apply aI)
        all_goals (first | exact aG _ | omega | rfl | (intros;first | assumption | exact trivial | rfl | exact fT ‹_› | ((repeat' (first | assumption | apply anda | apply notf));done)) | (exact hd) | (exact hq) | (intro h;exact h) | (intro h;omega) | (intro h;rw [h];rfl) | (intro h;simpa using h))
  have l0:∀ d a,a+d=N→1≤a→(∀ a',a'<a→∀ b,1≤b→b<a'→flB pl v a' b=false)→Run Tryz.prog c 301 zf100 (TF0 g nb N pl np v a) (Post c [] (.p (.bool (decide (flP N pl v))))):=by
    intro d
    induction d with
    | zero =>
      intro a ha h1 hall
      obtain rfl:a=N:=by omega
      have hd:decide ((a:Int)<(a:Int))=false:=decide_eq_false (by omega)
      rw [decide_eq_true (show flP a pl v from hall)]
      refine pkZ Tryz.func301 hc (tfe g nb a pl np v a) ?_
      repeat' (first | exact aN | apply aI)
      all_goals (first | omega | rfl | (intros;first | assumption | exact trivial | rfl) | (exact hd))
    | succ d ih =>
      intro a ha h1 hall
      have hd:decide ((a:Int)<(N:Int))=true:=decide_eq_true (by omega)
      have hr:=l1 a (by omega) h1 hall (fun hrow=>ih (a+1) (by omega) (by omega) (fun a' h2=>by
        by_cases h:a'=a
        · rw [h];exact hrow
        · exact hall a' (by omega))) (a - 1) 1 (by omega) (Nat.le_refl _) (fun b' h2 h3=>absurd h3 (by omega))
      refine pcZ hc (tfa g nb N pl np v a) ?_ hr
      repeat' (first | exact aN | apply aI)
      all_goals (first | exact aP _ _ | omega | rfl | (intros;first | assumption | exact trivial | rfl) | (exact hd) | (intro t ht;simp [All];done))
  refine pcZ hc (tfz g nb N pl np v) ?_ (l0 (N - 1) 1 (by omega) (Nat.le_refl _) (fun a' h1 b h2 h3=>absurd h3 (by omega)))
  repeat' (first | exact aN | apply aI)
  all_goals (first | exact aP _ _ | omega | rfl | (intros;first | assumption | exact trivial | rfl) | (intro t ht;simp [All];done))
open Classical in
theorem con_Trivial12 (g:Nat→T_Bar) (nb:Nat) (N:Int) (pl:Nat→T_Place) (np:Nat) (v:T_IntS) (hn:nb≤1048576∧np≤1048576) (hv:v.1≤1048576) :
    Con Tryz.prog 199 0 [] [frA g nb N pl np,inL v] [] (.p (.bool (tmB g nb N pl np v))):=by
  have cv:=con_Vector g nb N pl np v hn hv
  cases hb:velB g nb N pl np v with
  | false =>
    rw [hb] at cv
    rw [tmB_n hb]
    refine csZ Tryz.func199 (fun c hc=>?_)
    have hd:(bif decide (((0:Nat):Int)<N) then false else false)=false:=by cases decide (((0:Nat):Int)<N)<;>rfl
    refine pcZ hc (tsz g nb N pl np v) ?_ (pkZ Tryz.func199 hc (tse g nb N pl np v 0 false false) ?_)
    ·
      repeat' (first | exact aN | apply aI)
      all_goals (first | exact aP _ _ | omega | rfl | (intros;first | assumption | exact trivial | rfl) | (intro t ht;simp [All];done))
    ·
      repeat' (first | exact aN | apply aI)
      all_goals (first | exact aG _ | exact aP _ _ | exact aA _ _ | exact aE _ | omega | rfl | (intros;first | assumption | exact trivial | rfl | exact fT ‹_› | ((repeat' (first | assumption | apply anda | apply notf));done)) | (exact hd) | (intro _;exact cv) | (exact cv) | (intro h;exact h) | (intro h;cases h) | rfl)
  | true =>
    rw [hb] at cv
    obtain ⟨n,rfl⟩:∃ n:Nat,N=n:=by
      have hb':=hb
      unfold velB at hb'
      cases hf:fwB g nb N pl np with
      | false=>rw [hf] at hb';cases hb'
      | true=>exact fw_N hf
    have ok:=vOk hb
    have cfl:=con_Flat12 ok
    have cch:=fun a b (ha:a<n) (hb:b<n)=>(con_Change ok ha hb).2
    obtain ⟨hf,hl,hN,hnp,hnb,sm,px,hv',hg⟩:=ok
    refine csZ Tryz.func199 (fun c hc=>?_)
    have l1:∀ a,a<n→(∀ a',a'<a→∀ b,b<a'→paB pl v a' b=false) →
        ((∀ b,b<a→paB pl v a b=false)→Run Tryz.prog c 199 zf99 (TS0 g nb n pl np v (a+1:Nat)) (Post c [] (.p (.bool (tmB g nb n pl np v))))) →
        ∀ d b,b+d=a→(∀ b',b'<b→paB pl v a b'=false)→Run Tryz.prog c 199 zf15 (TS1 g nb n pl np v a b) (Post c [] (.p (.bool (tmB g nb n pl np v)))):=by
      intro a ha hall hnext d
      induction d with
      | zero =>
        intro b hb hrow
        obtain rfl:b=a:=by omega
        have hd:decide ((b:Int)<(b:Int))=false:=decide_eq_false (by omega)
        refine pcZ hc (tsd g nb n pl np v b b) ?_ (hnext hrow)
        repeat' (first | exact aN | apply aI)
        all_goals (first | exact aP _ _ | omega | rfl | (intros;first | assumption | exact trivial | rfl) | (exact hd) | (intro t ht;simp [All];done))
      | succ d ih =>
        intro b hb hrow
        have hd:decide ((b:Int)<(a:Int))=true:=decide_eq_true (by omega)
        have cx:=cch a b ha (by omega)
        cases hq:paB pl v a b with
        | false =>
          have hr:=ih (b+1) (by omega) (fun b' h2=>by
            by_cases h:b'=b
            · rw [h];exact hq
            · exact hrow b' (by omega))
          unfold paB at hq
          refine pcZ hc (tsb g nb n pl np v a b (chV pl v a b)) ?_ hr
          repeat' (first | exact aN | apply aI)
          all_goals (first | exact aG _ | exact aP _ _ | omega | rfl | (intros;first | assumption | exact trivial | rfl | exact fT ‹_› | ((repeat' (first | assumption | apply anda | apply notf));done)) | (exact hd) | (exact cx) | (exact hq) | (intro h;exact h) | (intro h;omega) | (intro h;rw [h];rfl) | (intro h;simpa using h) | (intro t ht;simp [All];done))
        | true =>
          rw [tmB_f (fun h=>by have:=(tm_iff.1 h).1 a ha b (by omega);rw [hq] at this;cases this)]
          unfold paB at hq
          refine pkZ Tryz.func199 hc (tsc g nb n pl np v a b (chV pl v a b)) ?_
          repeat' (first | exact aN | apply aI)
          all_goals (first | exact aG _ | omega | rfl | (intros;first | assumption | exact trivial | rfl | exact fT ‹_› | ((repeat' (first | assumption | apply anda | apply notf));done)) | (exact hd) | (exact cx) | (exact hq) | (intro h;exact h) | (intro h;omega) | (intro h;rw [h];rfl) | (intro h;simpa using h))
    have l0:∀ d a,a+d=n→(∀ a',a'<a→∀ b,b<a'→paB pl v a' b=false)→Run Tryz.prog c 199 zf99 (TS0 g nb n pl np v a) (Post c [] (.p (.bool (tmB g nb n pl np v)))):=by
      intro d
      induction d with
      | zero =>
        intro a ha hall
        obtain rfl:a=n:=by omega
        have hd:(bif decide ((a:Int)<(a:Int)) then true else false)=false:=by simp
        rw [show tmB g nb a pl np v=(bif true then (decide (flP a pl v)) else false) by
          show _=(decide (flP a pl v))
          by_cases h:flP a pl v
          · rw [tmB_t hb (tm_iff.2 ⟨hall,h⟩)];exact (decide_eq_true h).symm
          · rw [tmB_f (fun h'=>h (tm_iff.1 h').2)];exact (decide_eq_false h).symm]
        refine pkZ Tryz.func199 hc (tse g nb a pl np v a true _) ?_
        repeat' (first | exact aN | apply aI)
        all_goals (first | exact aG _ | omega | rfl | (intros;first | assumption | exact trivial | rfl | exact fT ‹_›) | (exact hd) | (intro _;exact cv) | (exact cv) | (intro _;exact cfl) | (intro h;exact h) | rfl)
      | succ d ih =>
        intro a ha hall
        have hd:(bif decide ((a:Int)<(n:Int)) then true else false)=true:=by rw [decide_eq_true (show (a:Int)<(n:Int) by omega)];rfl
        have hr:=l1 a (by omega) hall (fun hrow=>ih (a+1) (by omega) (fun a' h2=>by
          by_cases h:a'=a
          · rw [h];exact hrow
          · exact hall a' (by omega))) a 0 (by omega) (fun b' h3=>absurd h3 (Nat.not_lt_zero _))
        refine pcZ hc (tsa g nb n pl np v a) ?_ hr
        repeat' (first | exact aN | apply aI)
        all_goals (first | exact aG _ | exact aP _ _ | omega | rfl | (intros;first | assumption | exact trivial | rfl | exact fT ‹_›) | (exact hd) | (intro _;exact cv) | (intro h;exact h) | (intro t ht;simp [All];done))
    refine pcZ hc (tsz g nb n pl np v) ?_ (l0 n 0 (by omega) (fun a' h1=>absurd h1 (Nat.not_lt_zero _)))
    repeat' (first | exact aN | apply aI)
    all_goals (first | exact aP _ _ | omega | rfl | (intros;first | assumption | exact trivial | rfl) | (intro t ht;simp [All];done))
end Go.Proofs.YtkkjoghiigiokaaGreat.Mach
namespace Go.Proofs.YtkkjoghiigiokaaGreat.Mach
open Go
set_option linter.unusedVariables false
set_option linter.unusedSimpArgs false
def kdP (w:T_IntS) (i:Nat):Bool:=inB (w.2 i) 0 2
def tsB (g:Nat→T_Bar) (nb:Nat) (N:Int) (pl:Nat→T_Place) (np:Nat) (w:T_IntS):Bool:=allB (kdP w) w.1&&(bif fwB g nb N pl np then (w.1:Int)==(nb:Int) else false)
theorem con_IsTensegrity_i (g:Nat→T_Bar) (nb:Nat) (N:Int) (pl:Nat→T_Place) (np:Nat) (w:T_IntS) (hn:nb≤1048576∧np≤1048576) (hw:w.1≤1048576):Con Tryz.prog 151 0 [] [tsA g nb N pl np w] [] (.p (.bool (tsB g nb N pl np w))):=by
  have hf:=con_IsFramework_i g nb N pl np hn
  refine csZ Tryz.func151 (fun c hc=>?_)
  have lo:∀ d i,i+d=w.1→allB (kdP w) i=true→Run Tryz.prog c 151 zf91 (FT0 g nb N pl np w i) (Post c [] (.p (.bool (tsB g nb N pl np w)))):=by
    intro d
    induction d with
    | zero =>
      intro i hi h1
      obtain rfl:i=w.1:=by omega
      have hd:decide ((w.1:Int)<(w.1:Int))=false:=by simp
      rw [show tsB g nb N pl np w=(bif fwB g nb N pl np then (w.1:Int)==(nb:Int) else false) by unfold tsB;rw [h1];rfl]
      refine pkZ Tryz.func151 hc (yTe g nb N pl np w w.1 (fwB g nb N pl np)) ?_
      repeat' (first | exact aN | apply aI)
      all_goals (first | exact aG _ | omega | rfl | (intros;first | assumption | exact trivial | rfl | exact fT ‹_›) | (exact hd) | (exact hf) | rfl)
    | succ d ih =>
      intro i hi h1
      have hd:decide ((i:Int)<(w.1:Int))=true:=decide_eq_true (by omega)
      have hp:=con_within (w.2 i) 0 2
      change Con _ _ _ _ _ _ (.p (.bool (kdP w i))) at hp
      cases hb:kdP w i with
      | true =>
        rw [hb] at hp
        refine pcZ hc (yTt g nb N pl np w i) ?_ (ih (i+1) (by omega) (by rw [allB,h1,hb];rfl))
        repeat' (first | exact aN | apply aI)
        all_goals (first | exact aP _ _ | omega | rfl | (intros;first | assumption | exact trivial | rfl) | (exact hd) | (exact hp) | rfl | (simp;done) | (simp;omega))
      | false =>
        rw [hb] at hp
        rw [show tsB g nb N pl np w=false by unfold tsB;rw [all_no (show i<w.1 by omega) hb];rfl]
        refine pkZ Tryz.func151 hc (yTx g nb N pl np w i) ?_
        repeat' (first | exact aN | apply aI)
        all_goals (first | omega | rfl | (intros;first | assumption | exact trivial | rfl) | (exact hd) | (exact hp) | rfl | (simp;done) | (simp;omega))
  refine pcZ hc (yTz g nb N pl np w) ?_ (lo w.1 0 (by omega) rfl)
  repeat' (first | exact aN | apply aI)
  all_goals (first | exact aP _ _ | omega | rfl | (intros;first | assumption | exact trivial | rfl) | (simp;done))
theorem con_IsTensegrity_s (g:Nat→T_Bar) (nb:Nat) (N:Int) (pl:Nat→T_Place) (np:Nat) (w:T_IntS) (hn:nb≤1048576∧np≤1048576) (hw:w.1≤1048576):Con Tryz.prog 147 0 [] [tsA g nb N pl np w] [] (.p (.bool (tsB g nb N pl np w))):=by
  have hf:=con_IsFramework_s g nb N pl np hn
  refine csZ Tryz.func147 (fun c hc=>?_)
  have lo:∀ d i,i+d=w.1→allB (kdP w) i=true→Run Tryz.prog c 147 zf92 (FU0 g nb N pl np w i) (Post c [] (.p (.bool (tsB g nb N pl np w)))):=by
    intro d
    induction d with
    | zero =>
      intro i hi h1
      obtain rfl:i=w.1:=by omega
      have hd:decide ((w.1:Int)<(w.1:Int))=false:=by simp
      rw [show tsB g nb N pl np w=(bif fwB g nb N pl np then (w.1:Int)==(nb:Int) else false) by unfold tsB;rw [h1];rfl]
      refine pkZ Tryz.func147 hc (zTe g nb N pl np w w.1 (fwB g nb N pl np)) ?_
      repeat' (first | exact aN | apply aI)
      all_goals (first | exact aG _ | omega | rfl | (intros;first | assumption | exact trivial | rfl | exact fT ‹_›) | (exact hd) | (exact hf) | rfl)
    | succ d ih =>
      intro i hi h1
      have hd:decide ((i:Int)<(w.1:Int))=true:=decide_eq_true (by omega)
      have hp:=con_l1In (w.2 i) 0 2
      change Con _ _ _ _ _ _ (.p (.bool (kdP w i))) at hp
      cases hb:kdP w i with
      | true =>
        rw [hb] at hp
        refine pcZ hc (zTt g nb N pl np w i) ?_ (ih (i+1) (by omega) (by rw [allB,h1,hb];rfl))
        repeat' (first | exact aN | apply aI)
        all_goals (first | exact aP _ _ | omega | rfl | (intros;first | assumption | exact trivial | rfl) | (exact hd) | (exact hp) | rfl | (simp;done) | (simp;omega))
      | false =>
        rw [hb] at hp
        rw [show tsB g nb N pl np w=false by unfold tsB;rw [all_no (show i<w.1 by omega) hb];rfl]
        refine pkZ Tryz.func147 hc (zTx g nb N pl np w i) ?_
        repeat' (first | exact aN | apply aI)
        all_goals (first | omega | rfl | (intros;first | assumption | exact trivial | rfl) | (exact hd) | (exact hp) | rfl | (simp;done) | (simp;omega))
  refine pcZ hc (zTz g nb N pl np w) ?_ (lo w.1 0 (by omega) rfl)
  repeat' (first | exact aN | apply aI)
  all_goals (first | exact aP _ _ | omega | rfl | (intros;first | assumption | exact trivial | rfl) | (simp;done))
end Go.Proofs.YtkkjoghiigiokaaGreat.Mach
namespace Go.Proofs.YtkkjoghiigiokaaGreat.Mach
open Go
set_option linter.unusedVariables false
set_option linter.unusedSimpArgs false
def TnP (g:Nat→T_Bar) (nb:Nat) (N:Int) (pl:Nat→T_Place) (np:Nat) (K w:T_IntS) (i:Nat):St :=
  ⟨[tsA g nb N pl np K,inL w,.pt 4 0 0 0]++List.replicate 15 anyA++[inL K,.p (.int .i64 K.1),.p (.int .i64 i)]++List.replicate 25 anyA,[(0,tsO g nb N pl np K)],1⟩
def TnQ (g:Nat→T_Bar) (nb:Nat) (N:Int) (pl:Nat→T_Place) (np:Nat) (K w:T_IntS) (i:Nat):St :=
  ⟨[tsA g nb N pl np K,inL w,.pt 4 0 0 0]++List.replicate 2 anyA++[.p (.int .i64 i)]++List.replicate 44 anyA,[(0,tsO g nb N pl np K)],1⟩
def TnS (g:Nat→T_Bar) (nb:Nat) (N:Int) (pl:Nat→T_Place) (np:Nat) (K w:T_IntS) (i:Nat):St :=
  ⟨[tsA g nb N pl np K,inL w,.pt 4 0 0 0]++List.replicate 9 anyA++[inL K,.p (.int .i64 K.1),.p (.int .i64 i)]++List.replicate 14 anyA,[(0,tsO g nb N pl np K)],1⟩
def TnT (g:Nat→T_Bar) (nb:Nat) (N:Int) (pl:Nat→T_Place) (np:Nat) (K w:T_IntS) (i:Nat):St :=
  ⟨[tsA g nb N pl np K,inL w,.pt 4 0 0 0]++List.replicate 2 anyA++[.p (.int .i64 i)]++List.replicate 23 anyA,[(0,tsO g nb N pl np K)],1⟩
def TnM (g:Nat→T_Bar) (nb:Nat) (N:Int) (pl:Nat→T_Place) (np:Nat) (K w:T_IntS) (i:Nat):St :=
  ⟨[tsA g nb N pl np K,inL w,.pt 4 0 0 0]++List.replicate 18 anyA++[brL g nb,.p (.int .i64 nb),.p (.int .i64 i)]++List.replicate 47 anyA,[(0,tsO g nb N pl np K)],1⟩
def TnN (g:Nat→T_Bar) (nb:Nat) (N:Int) (pl:Nat→T_Place) (np:Nat) (K w:T_IntS) (i:Nat):St :=
  ⟨[tsA g nb N pl np K,inL w,.pt 4 0 0 0]++List.replicate 2 anyA++[.p (.int .i64 i)]++List.replicate 72 anyA,[(0,tsO g nb N pl np K)],1⟩
theorem tnpN (g:Nat→T_Bar) (nb:Nat) (N:Int) (pl:Nat→T_Place) (np:Nat) (K w:T_IntS) (b1 b2:Bool) :
    pathOb Tryz.prog Tryz.f304 0 [rg 2,rm [(1,oc [] (.p (.bool b1))),(5,oc [] (.p (.bool b2)))] 2,.dec true,rg 1] [.code (bodyOf Tryz.f304)] (start Tryz.f304 [] 0 [tsA g nb N pl np K,inL w]) [] 1 [] (.p (.bool false)) =
    some [(NT 0 1),Con Tryz.prog 151 0 [] [(zf24 N nb g np pl K)] [] (.p (.bool b1)),(AG (!!b1)),(((!!b1)=true)→(NT 0 1)),(AG (!!b1)),(AG (!!b1)),(((!!b1)=true)→ Con Tryz.prog 347 0 [] [(zf35 N nb g np pl),.p (.seq true 1 w.1 (fun i=>[.int .i64 (w.2 i)]))] [] (.p (.bool b2))),(AG (!!b1)),(((!b1)=false)→ ((!!b1)=true)),((bif !b1 then true else !b2)=true),(false=false)]:=by kernel_rfl
theorem tnpz (g:Nat→T_Bar) (nb:Nat) (N:Int) (pl:Nat→T_Place) (np:Nat) (K w:T_IntS) (b1 b2:Bool) :
    pieceOb Tryz.prog 0 [rg 2,rm [(1,oc [] (.p (.bool b1))),(5,oc [] (.p (.bool b2)))] 2,.dec false,rg 4,.head] [.code (bodyOf Tryz.f304)] (start Tryz.f304 [] 0 [tsA g nb N pl np K,inL w]) [0] 1 (TnP g nb N pl np K w 0) =
    some (zf70,[(NT 0 1),Con Tryz.prog 151 0 [] [(zf24 N nb g np pl K)] [] (.p (.bool b1)),(AG (!!b1)),(((!!b1)=true)→(NT 0 1)),(AG (!!b1)),(AG (!!b1)),(((!!b1)=true)→ Con Tryz.prog 347 0 [] [(zf35 N nb g np pl),.p (.seq true 1 w.1 (fun i=>[.int .i64 (w.2 i)]))] [] (.p (.bool b2))),(AG (!!b1)),(((!b1)=false)→ ((!!b1)=true)),((bif !b1 then true else !b2)=false),(NT 0 1),(AI N),(AN nb),(AP nb (fun i=>[.int .i64 ((g i).1),.int .i64 ((g i).2.1)])),(AN np),(AP np (fun i=>[.int .i64 ((pl i).1),.int .i64 ((pl i).2.1)])),(AN K.1),(AP K.1 (fun i=>[.int .i64 (K.2 i)])),(AN w.1),(AP w.1 (fun i=>[.int .i64 (w.2 i)])),(AN 0),(AN K.1),(AP K.1 (fun i=>[.int .i64 (K.2 i)])),(AI ((↑K.1:Int))),((0:Int)=(↑0:Int)),((([AV.p (PV.int IntKind.i64 N),brL g nb,pcL pl np,inL K].length):Nat)=4),(NL 1 1),(NL 1 1),(AI N),(AN nb),(AP nb (fun i=>[.int .i64 ((g i).1),.int .i64 ((g i).2.1)])),(AN np),(AP np (fun i=>[.int .i64 ((pl i).1),.int .i64 ((pl i).2.1)])),(AN K.1),(AP K.1 (fun i=>[.int .i64 (K.2 i)]))]):=by kernel_rfl
theorem tnpt (g:Nat→T_Bar) (nb:Nat) (N:Int) (pl:Nat→T_Place) (np:Nat) (K w:T_IntS) (i:Nat) :
    pieceOb Tryz.prog 0 [rg 1,.dec true,rg 5,rg 20,.dec false,rg 2,.head] zf70 (TnP g nb N pl np K w i) [0] 1 (TnP g nb N pl np K w (i+1)) =
    some (zf70,[((decide ((↑i:Int)<(↑K.1:Int)))=true),(IL 0 (↑i:Int)),(IT (↑i:Int) (↑K.1:Int)),(AG (K.2 i==1)),(AG (K.2 i==1)),(((K.2 i==1)=true)→(IL 0 (↑i:Int))),(((K.2 i==1)=true)→(IT (↑i:Int) (↑w.1:Int))),(AG (K.2 i==1)),(AG (K.2 i==1)),(AG (K.2 i==1)),(AG (!bif K.2 i==1 then decide (w.2 (↑i:Int).toNat<0) else false)),(AG (!bif K.2 i==1 then decide (w.2 (↑i:Int).toNat<0) else false)),(AG ((!bif K.2 i==1 then decide (w.2 (↑i:Int).toNat<0) else false)&&K.2 i==2)),(AG ((!bif K.2 i==1 then decide (w.2 (↑i:Int).toNat<0) else false)&&K.2 i==2)),((((!bif K.2 i==1 then decide (w.2 (↑i:Int).toNat<0) else false)&&K.2 i==2)=true)→(IL 0 (↑i:Int))),((((!bif K.2 i==1 then decide (w.2 (↑i:Int).toNat<0) else false)&&K.2 i==2)=true)→(IT (↑i:Int) (↑w.1:Int))),(AG ((!bif K.2 i==1 then decide (w.2 (↑i:Int).toNat<0) else false)&&K.2 i==2)),(AG ((!bif K.2 i==1 then decide (w.2 (↑i:Int).toNat<0) else false)&&K.2 i==2)),(AG (!bif K.2 i==1 then decide (w.2 (↑i:Int).toNat<0) else false)),(((!bif K.2 i==1 then decide (w.2 (↑i:Int).toNat<0) else false)=true)→(((K.2 i==2)=true)→ (((!bif K.2 i==1 then decide (w.2 (↑i:Int).toNat<0) else false)&&K.2 i==2)=true))),(((bif K.2 i==1 then decide (w.2 (↑i:Int).toNat<0) else false)=false)→ ((!bif K.2 i==1 then decide (w.2 (↑i:Int).toNat<0) else false)=true)),((bif bif K.2 i==1 then decide (w.2 (↑i:Int).toNat<0) else false then true else bif K.2 i==2 then decide (w.2 (↑i:Int).toNat>0) else false)=false),(ZLo ((↑i:Int)+1)),(ZHi ((↑i:Int)+1)),(AI N),(AN nb),(AP nb (fun i_1=>[.int .i64 ((g i_1).1),.int .i64 ((g i_1).2.1)])),(AN np),(AP np (fun i_1=>[.int .i64 ((pl i_1).1),.int .i64 ((pl i_1).2.1)])),(AN K.1),(AP K.1 (fun i_1=>[.int .i64 (K.2 i_1)])),(AN w.1),(AP w.1 (fun i_1=>[.int .i64 (w.2 i_1)])),(AN 0),(AN K.1),(AP K.1 (fun i_1=>[.int .i64 (K.2 i_1)])),(AI ((↑K.1:Int))),((((↑i:Int)+1):Int)=(↑(i+1):Int)),(AN 4),(NL 1 1),(NL 1 1),(AI N),(AN nb),(AP nb (fun i_1=>[.int .i64 ((g i_1).1),.int .i64 ((g i_1).2.1)])),(AN np),(AP np (fun i_1=>[.int .i64 ((pl i_1).1),.int .i64 ((pl i_1).2.1)])),(AN K.1),(AP K.1 (fun i_1=>[.int .i64 (K.2 i_1)]))]):=by kernel_rfl
theorem tnpf (g:Nat→T_Bar) (nb:Nat) (N:Int) (pl:Nat→T_Place) (np:Nat) (K w:T_IntS) (i:Nat) :
    pathOb Tryz.prog Tryz.f304 0 [rg 1,.dec true,rg 5,rg 20,.dec true,rg 1] zf70 (TnP g nb N pl np K w i) [] 1 [] (.p (.bool false)) =
    some [((decide ((↑i:Int)<(↑K.1:Int)))=true),(IL 0 (↑i:Int)),(IT (↑i:Int) (↑K.1:Int)),(AG (K.2 i==1)),(AG (K.2 i==1)),(((K.2 i==1)=true)→(IL 0 (↑i:Int))),(((K.2 i==1)=true)→(IT (↑i:Int) (↑w.1:Int))),(AG (K.2 i==1)),(AG (K.2 i==1)),(AG (K.2 i==1)),(AG (!bif K.2 i==1 then decide (w.2 (↑i:Int).toNat<0) else false)),(AG (!bif K.2 i==1 then decide (w.2 (↑i:Int).toNat<0) else false)),(AG ((!bif K.2 i==1 then decide (w.2 (↑i:Int).toNat<0) else false)&&K.2 i==2)),(AG ((!bif K.2 i==1 then decide (w.2 (↑i:Int).toNat<0) else false)&&K.2 i==2)),((((!bif K.2 i==1 then decide (w.2 (↑i:Int).toNat<0) else false)&&K.2 i==2)=true)→(IL 0 (↑i:Int))),((((!bif K.2 i==1 then decide (w.2 (↑i:Int).toNat<0) else false)&&K.2 i==2)=true)→(IT (↑i:Int) (↑w.1:Int))),(AG ((!bif K.2 i==1 then decide (w.2 (↑i:Int).toNat<0) else false)&&K.2 i==2)),(AG ((!bif K.2 i==1 then decide (w.2 (↑i:Int).toNat<0) else false)&&K.2 i==2)),(AG (!bif K.2 i==1 then decide (w.2 (↑i:Int).toNat<0) else false)),(((!bif K.2 i==1 then decide (w.2 (↑i:Int).toNat<0) else false)=true)→(((K.2 i==2)=true)→ (((!bif K.2 i==1 then decide (w.2 (↑i:Int).toNat<0) else false)&&K.2 i==2)=true))),(((bif K.2 i==1 then decide (w.2 (↑i:Int).toNat<0) else false)=false)→ ((!bif K.2 i==1 then decide (w.2 (↑i:Int).toNat<0) else false)=true)),((bif bif K.2 i==1 then decide (w.2 (↑i:Int).toNat<0) else false then true else bif K.2 i==2 then decide (w.2 (↑i:Int).toNat>0) else false)=true),(false=false)]:=by kernel_rfl
theorem tnpe (g:Nat→T_Bar) (nb:Nat) (N:Int) (pl:Nat→T_Place) (np:Nat) (K w:T_IntS) (i:Nat) :
    pathOb Tryz.prog Tryz.f304 0 [rg 1,.dec false,rg 1] zf70 (TnP g nb N pl np K w i) [] 1 [] (.p (.bool true)) =
    some [((decide ((↑i:Int)<(↑K.1:Int)))=false),(true=true)]:=by kernel_rfl
theorem tnqN (g:Nat→T_Bar) (nb:Nat) (N:Int) (pl:Nat→T_Place) (np:Nat) (K w:T_IntS) (b1 b2:Bool) :
    pathOb Tryz.prog Tryz.f298 0 [rg 2,rm [(1,oc [] (.p (.bool b1))),(5,oc [] (.p (.bool b2)))] 2,.dec true,rg 1] [.code (bodyOf Tryz.f298)] (start Tryz.f298 [] 0 [tsA g nb N pl np K,inL w]) [] 1 [] (.p (.bool false)) =
    some [(NT 0 1),Con Tryz.prog 147 0 [] [(zf24 N nb g np pl K)] [] (.p (.bool b1)),(AG (!!b1)),(((!!b1)=true)→(NT 0 1)),(AG (!!b1)),(AG (!!b1)),(((!!b1)=true)→ Con Tryz.prog 346 0 [] [(zf35 N nb g np pl),.p (.seq true 1 w.1 (fun i=>[.int .i64 (w.2 i)]))] [] (.p (.bool b2))),(AG (!!b1)),(((!b1)=false)→ ((!!b1)=true)),((bif !b1 then true else !b2)=true),(false=false)]:=by kernel_rfl
theorem tnqz (g:Nat→T_Bar) (nb:Nat) (N:Int) (pl:Nat→T_Place) (np:Nat) (K w:T_IntS) (b1 b2:Bool) :
    pieceOb Tryz.prog 0 [rg 2,rm [(1,oc [] (.p (.bool b1))),(5,oc [] (.p (.bool b2)))] 2,.dec false,rg 1,.head] [.code (bodyOf Tryz.f298)] (start Tryz.f298 [] 0 [tsA g nb N pl np K,inL w]) [0] 1 (TnQ g nb N pl np K w 0) =
    some (zf71,[(NT 0 1),Con Tryz.prog 147 0 [] [(zf24 N nb g np pl K)] [] (.p (.bool b1)),(AG (!!b1)),(((!!b1)=true)→(NT 0 1)),(AG (!!b1)),(AG (!!b1)),(((!!b1)=true)→ Con Tryz.prog 346 0 [] [(zf35 N nb g np pl),.p (.seq true 1 w.1 (fun i=>[.int .i64 (w.2 i)]))] [] (.p (.bool b2))),(AG (!!b1)),(((!b1)=false)→ ((!!b1)=true)),((bif !b1 then true else !b2)=false),(AI N),(AN nb),(AP nb (fun i=>[.int .i64 ((g i).1),.int .i64 ((g i).2.1)])),(AN np),(AP np (fun i=>[.int .i64 ((pl i).1),.int .i64 ((pl i).2.1)])),(AN K.1),(AP K.1 (fun i=>[.int .i64 (K.2 i)])),(AN w.1),(AP w.1 (fun i=>[.int .i64 (w.2 i)])),(AN 0),((0:Int)=(↑0:Int)),((([AV.p (PV.int IntKind.i64 N),brL g nb,pcL pl np,inL K].length):Nat)=4),(NL 1 1),(NL 1 1),(AI N),(AN nb),(AP nb (fun i=>[.int .i64 ((g i).1),.int .i64 ((g i).2.1)])),(AN np),(AP np (fun i=>[.int .i64 ((pl i).1),.int .i64 ((pl i).2.1)])),(AN K.1),(AP K.1 (fun i=>[.int .i64 (K.2 i)]))]):=by kernel_rfl
theorem tnqt (g:Nat→T_Bar) (nb:Nat) (N:Int) (pl:Nat→T_Place) (np:Nat) (K w:T_IntS) (i:Nat) :
    pieceOb Tryz.prog 0 [rg 4,.dec true,rg 28,.dec false,rg 3,.head] zf71 (TnQ g nb N pl np K w i) [0] 1 (TnQ g nb N pl np K w (i+1)) =
    some (zf71,[((decide ((↑i:Int)<(↑w.1:Int)))=true),(NT 0 1),(IL 0 (↑i:Int)),(IT (↑i:Int) (↑K.1:Int)),(AG (K.2 i==1)),(AG (K.2 i==1)),(((K.2 i==1)=true)→(IL 0 (↑i:Int))),(((K.2 i==1)=true)→(IT (↑i:Int) (↑w.1:Int))),(AG (K.2 i==1)),(AG (K.2 i==1)),(AG (K.2 i==1)),(AG (!bif K.2 i==1 then decide (w.2 (↑i:Int).toNat<0) else false)),(((!bif K.2 i==1 then decide (w.2 (↑i:Int).toNat<0) else false)=true)→(NT 0 1)),(AG (!bif K.2 i==1 then decide (w.2 (↑i:Int).toNat<0) else false)),(AG (!bif K.2 i==1 then decide (w.2 (↑i:Int).toNat<0) else false)),(((!bif K.2 i==1 then decide (w.2 (↑i:Int).toNat<0) else false)=true)→(IL 0 (↑i:Int))),(((!bif K.2 i==1 then decide (w.2 (↑i:Int).toNat<0) else false)=true)→(IT (↑i:Int) (↑K.1:Int))),(AG (!bif K.2 i==1 then decide (w.2 (↑i:Int).toNat<0) else false)),(AG (!bif K.2 i==1 then decide (w.2 (↑i:Int).toNat<0) else false)),(AG (!bif K.2 i==1 then decide (w.2 (↑i:Int).toNat<0) else false)),(AG ((!bif K.2 i==1 then decide (w.2 (↑i:Int).toNat<0) else false)&&K.2 i==2)),(AG ((!bif K.2 i==1 then decide (w.2 (↑i:Int).toNat<0) else false)&&K.2 i==2)),((((!bif K.2 i==1 then decide (w.2 (↑i:Int).toNat<0) else false)&&K.2 i==2)=true)→(IL 0 (↑i:Int))),((((!bif K.2 i==1 then decide (w.2 (↑i:Int).toNat<0) else false)&&K.2 i==2)=true)→(IT (↑i:Int) (↑w.1:Int))),(AG ((!bif K.2 i==1 then decide (w.2 (↑i:Int).toNat<0) else false)&&K.2 i==2)),(AG ((!bif K.2 i==1 then decide (w.2 (↑i:Int).toNat<0) else false)&&K.2 i==2)),(AG (!bif K.2 i==1 then decide (w.2 (↑i:Int).toNat<0) else false)),(((!bif K.2 i==1 then decide (w.2 (↑i:Int).toNat<0) else false)=true)→(((K.2 i==2)=true)→ (((!bif K.2 i==1 then decide (w.2 (↑i:Int).toNat<0) else false)&&K.2 i==2)=true))),(((bif K.2 i==1 then decide (w.2 (↑i:Int).toNat<0) else false)=false)→ ((!bif K.2 i==1 then decide (w.2 (↑i:Int).toNat<0) else false)=true)),((bif bif K.2 i==1 then decide (w.2 (↑i:Int).toNat<0) else false then true else bif K.2 i==2 then decide (w.2 (↑i:Int).toNat>0) else false)=false),(ZLo ((↑i:Int)+1)),(ZHi ((↑i:Int)+1)),(AI N),(AN nb),(AP nb (fun i_1=>[.int .i64 ((g i_1).1),.int .i64 ((g i_1).2.1)])),(AN np),(AP np (fun i_1=>[.int .i64 ((pl i_1).1),.int .i64 ((pl i_1).2.1)])),(AN K.1),(AP K.1 (fun i_1=>[.int .i64 (K.2 i_1)])),(AN w.1),(AP w.1 (fun i_1=>[.int .i64 (w.2 i_1)])),(AN 0),((((↑i:Int)+1):Int)=(↑(i+1):Int)),(AN 4),(NL 1 1),(NL 1 1),(AI N),(AN nb),(AP nb (fun i_1=>[.int .i64 ((g i_1).1),.int .i64 ((g i_1).2.1)])),(AN np),(AP np (fun i_1=>[.int .i64 ((pl i_1).1),.int .i64 ((pl i_1).2.1)])),(AN K.1),(AP K.1 (fun i_1=>[.int .i64 (K.2 i_1)]))]):=by kernel_rfl
theorem tnqf (g:Nat→T_Bar) (nb:Nat) (N:Int) (pl:Nat→T_Place) (np:Nat) (K w:T_IntS) (i:Nat) :
    pathOb Tryz.prog Tryz.f298 0 [rg 4,.dec true,rg 28,.dec true,rg 1] zf71 (TnQ g nb N pl np K w i) [] 1 [] (.p (.bool false)) =
    some [((decide ((↑i:Int)<(↑w.1:Int)))=true),(NT 0 1),(IL 0 (↑i:Int)),(IT (↑i:Int) (↑K.1:Int)),(AG (K.2 i==1)),(AG (K.2 i==1)),(((K.2 i==1)=true)→(IL 0 (↑i:Int))),(((K.2 i==1)=true)→(IT (↑i:Int) (↑w.1:Int))),(AG (K.2 i==1)),(AG (K.2 i==1)),(AG (K.2 i==1)),(AG (!bif K.2 i==1 then decide (w.2 (↑i:Int).toNat<0) else false)),(((!bif K.2 i==1 then decide (w.2 (↑i:Int).toNat<0) else false)=true)→(NT 0 1)),(AG (!bif K.2 i==1 then decide (w.2 (↑i:Int).toNat<0) else false)),(AG (!bif K.2 i==1 then decide (w.2 (↑i:Int).toNat<0) else false)),(((!bif K.2 i==1 then decide (w.2 (↑i:Int).toNat<0) else false)=true)→(IL 0 (↑i:Int))),(((!bif K.2 i==1 then decide (w.2 (↑i:Int).toNat<0) else false)=true)→(IT (↑i:Int) (↑K.1:Int))),(AG (!bif K.2 i==1 then decide (w.2 (↑i:Int).toNat<0) else false)),(AG (!bif K.2 i==1 then decide (w.2 (↑i:Int).toNat<0) else false)),(AG (!bif K.2 i==1 then decide (w.2 (↑i:Int).toNat<0) else false)),(AG ((!bif K.2 i==1 then decide (w.2 (↑i:Int).toNat<0) else false)&&K.2 i==2)),(AG ((!bif K.2 i==1 then decide (w.2 (↑i:Int).toNat<0) else false)&&K.2 i==2)),((((!bif K.2 i==1 then decide (w.2 (↑i:Int).toNat<0) else false)&&K.2 i==2)=true)→(IL 0 (↑i:Int))),((((!bif K.2 i==1 then decide (w.2 (↑i:Int).toNat<0) else false)&&K.2 i==2)=true)→(IT (↑i:Int) (↑w.1:Int))),(AG ((!bif K.2 i==1 then decide (w.2 (↑i:Int).toNat<0) else false)&&K.2 i==2)),(AG ((!bif K.2 i==1 then decide (w.2 (↑i:Int).toNat<0) else false)&&K.2 i==2)),(AG (!bif K.2 i==1 then decide (w.2 (↑i:Int).toNat<0) else false)),(((!bif K.2 i==1 then decide (w.2 (↑i:Int).toNat<0) else false)=true)→(((K.2 i==2)=true)→ (((!bif K.2 i==1 then decide (w.2 (↑i:Int).toNat<0) else false)&&K.2 i==2)=true))),(((bif K.2 i==1 then decide (w.2 (↑i:Int).toNat<0) else false)=false)→ ((!bif K.2 i==1 then decide (w.2 (↑i:Int).toNat<0) else false)=true)),((bif bif K.2 i==1 then decide (w.2 (↑i:Int).toNat<0) else false then true else bif K.2 i==2 then decide (w.2 (↑i:Int).toNat>0) else false)=true),(false=false)]:=by kernel_rfl
theorem tnqe (g:Nat→T_Bar) (nb:Nat) (N:Int) (pl:Nat→T_Place) (np:Nat) (K w:T_IntS) (i:Nat) :
    pathOb Tryz.prog Tryz.f298 0 [rg 4,.dec false,rg 1] zf71 (TnQ g nb N pl np K w i) [] 1 [] (.p (.bool true)) =
    some [((decide ((↑i:Int)<(↑w.1:Int)))=false),(true=true)]:=by kernel_rfl
theorem tnsN (g:Nat→T_Bar) (nb:Nat) (N:Int) (pl:Nat→T_Place) (np:Nat) (K w:T_IntS) :
    pathOb Tryz.prog Tryz.f206 0 [rg 2,rm [(2,oc [] (.p (.bool false)))] 1,.dec true,rg 1] [.code (bodyOf Tryz.f206)] (start Tryz.f206 [] 0 [tsA g nb N pl np K,inL w]) [] 1 [] (.p (.bool false)) =
    some [(NT 0 1),Con Tryz.prog 304 0 [] [(zf24 N nb g np pl K),.p (.seq true 1 w.1 (fun i=>[.int .i64 (w.2 i)]))] [] (.p (.bool false)),((!false)=true),(false=false)]:=by kernel_rfl
theorem tnsz (g:Nat→T_Bar) (nb:Nat) (N:Int) (pl:Nat→T_Place) (np:Nat) (K w:T_IntS) :
    pieceOb Tryz.prog 0 [rg 2,rm [(2,oc [] (.p (.bool true)))] 1,.dec false,rg 4,.head] [.code (bodyOf Tryz.f206)] (start Tryz.f206 [] 0 [tsA g nb N pl np K,inL w]) [0] 1 (TnS g nb N pl np K w 0) =
    some (zf72,[(NT 0 1),Con Tryz.prog 304 0 [] [(zf24 N nb g np pl K),.p (.seq true 1 w.1 (fun i=>[.int .i64 (w.2 i)]))] [] (.p (.bool true)),((!true)=false),(NT 0 1),(AI N),(AN nb),(AP nb (fun i=>[.int .i64 ((g i).1),.int .i64 ((g i).2.1)])),(AN np),(AP np (fun i=>[.int .i64 ((pl i).1),.int .i64 ((pl i).2.1)])),(AN K.1),(AP K.1 (fun i=>[.int .i64 (K.2 i)])),(AN w.1),(AP w.1 (fun i=>[.int .i64 (w.2 i)])),(AN 0),(AN K.1),(AP K.1 (fun i=>[.int .i64 (K.2 i)])),(AI ((↑K.1:Int))),((0:Int)=(↑0:Int)),((([AV.p (PV.int IntKind.i64 N),brL g nb,pcL pl np,inL K].length):Nat)=4),(NL 1 1),(NL 1 1),(AI N),(AN nb),(AP nb (fun i=>[.int .i64 ((g i).1),.int .i64 ((g i).2.1)])),(AN np),(AP np (fun i=>[.int .i64 ((pl i).1),.int .i64 ((pl i).2.1)])),(AN K.1),(AP K.1 (fun i=>[.int .i64 (K.2 i)]))]):=by kernel_rfl
theorem tnst (g:Nat→T_Bar) (nb:Nat) (N:Int) (pl:Nat→T_Place) (np:Nat) (K w:T_IntS) (i:Nat) :
    pieceOb Tryz.prog 0 [rg 1,.dec true,rg 5,rg 9,.dec false,rg 2,.head] zf72 (TnS g nb N pl np K w i) [0] 1 (TnS g nb N pl np K w (i+1)) =
    some (zf72,[((decide ((↑i:Int)<(↑K.1:Int)))=true),(IL 0 (↑i:Int)),(IT (↑i:Int) (↑K.1:Int)),(AG (K.2 i != 0)),(AG (K.2 i != 0)),(((K.2 i != 0)=true)→(IL 0 (↑i:Int))),(((K.2 i != 0)=true)→(IT (↑i:Int) (↑w.1:Int))),(AG (K.2 i != 0)),(AG (K.2 i != 0)),(AG (K.2 i != 0)),((bif K.2 i != 0 then w.2 i==0 else false)=false),(ZLo ((↑i:Int)+1)),(ZHi ((↑i:Int)+1)),(AI N),(AN nb),(AP nb (fun i_1=>[.int .i64 ((g i_1).1),.int .i64 ((g i_1).2.1)])),(AN np),(AP np (fun i_1=>[.int .i64 ((pl i_1).1),.int .i64 ((pl i_1).2.1)])),(AN K.1),(AP K.1 (fun i_1=>[.int .i64 (K.2 i_1)])),(AN w.1),(AP w.1 (fun i_1=>[.int .i64 (w.2 i_1)])),(AN 0),(AN K.1),(AP K.1 (fun i_1=>[.int .i64 (K.2 i_1)])),(AI ((↑K.1:Int))),((((↑i:Int)+1):Int)=(↑(i+1):Int)),(AN 4),(NL 1 1),(NL 1 1),(AI N),(AN nb),(AP nb (fun i_1=>[.int .i64 ((g i_1).1),.int .i64 ((g i_1).2.1)])),(AN np),(AP np (fun i_1=>[.int .i64 ((pl i_1).1),.int .i64 ((pl i_1).2.1)])),(AN K.1),(AP K.1 (fun i_1=>[.int .i64 (K.2 i_1)]))]):=by kernel_rfl
theorem tnsf (g:Nat→T_Bar) (nb:Nat) (N:Int) (pl:Nat→T_Place) (np:Nat) (K w:T_IntS) (i:Nat) :
    pathOb Tryz.prog Tryz.f206 0 [rg 1,.dec true,rg 5,rg 9,.dec true,rg 1] zf72 (TnS g nb N pl np K w i) [] 1 [] (.p (.bool false)) =
    some [((decide ((↑i:Int)<(↑K.1:Int)))=true),(IL 0 (↑i:Int)),(IT (↑i:Int) (↑K.1:Int)),(AG (K.2 i != 0)),(AG (K.2 i != 0)),(((K.2 i != 0)=true)→(IL 0 (↑i:Int))),(((K.2 i != 0)=true)→(IT (↑i:Int) (↑w.1:Int))),(AG (K.2 i != 0)),(AG (K.2 i != 0)),(AG (K.2 i != 0)),((bif K.2 i != 0 then w.2 i==0 else false)=true),(false=false)]:=by kernel_rfl
theorem tnse (g:Nat→T_Bar) (nb:Nat) (N:Int) (pl:Nat→T_Place) (np:Nat) (K w:T_IntS) (i:Nat) :
    pathOb Tryz.prog Tryz.f206 0 [rg 1,.dec false,rg 1] zf72 (TnS g nb N pl np K w i) [] 1 [] (.p (.bool true)) =
    some [((decide ((↑i:Int)<(↑K.1:Int)))=false),(true=true)]:=by kernel_rfl
theorem tntN (g:Nat→T_Bar) (nb:Nat) (N:Int) (pl:Nat→T_Place) (np:Nat) (K w:T_IntS) :
    pathOb Tryz.prog Tryz.f197 0 [rg 2,rm [(2,oc [] (.p (.bool false)))] 1,.dec true,rg 1] [.code (bodyOf Tryz.f197)] (start Tryz.f197 [] 0 [tsA g nb N pl np K,inL w]) [] 1 [] (.p (.bool false)) =
    some [(NT 0 1),Con Tryz.prog 298 0 [] [(zf24 N nb g np pl K),.p (.seq true 1 w.1 (fun i=>[.int .i64 (w.2 i)]))] [] (.p (.bool false)),((!false)=true),(false=false)]:=by kernel_rfl
theorem tntz (g:Nat→T_Bar) (nb:Nat) (N:Int) (pl:Nat→T_Place) (np:Nat) (K w:T_IntS) :
    pieceOb Tryz.prog 0 [rg 2,rm [(2,oc [] (.p (.bool true)))] 1,.dec false,rg 1,.head] [.code (bodyOf Tryz.f197)] (start Tryz.f197 [] 0 [tsA g nb N pl np K,inL w]) [0] 1 (TnT g nb N pl np K w 0) =
    some (zf73,[(NT 0 1),Con Tryz.prog 298 0 [] [(zf24 N nb g np pl K),.p (.seq true 1 w.1 (fun i=>[.int .i64 (w.2 i)]))] [] (.p (.bool true)),((!true)=false),(AI N),(AN nb),(AP nb (fun i=>[.int .i64 ((g i).1),.int .i64 ((g i).2.1)])),(AN np),(AP np (fun i=>[.int .i64 ((pl i).1),.int .i64 ((pl i).2.1)])),(AN K.1),(AP K.1 (fun i=>[.int .i64 (K.2 i)])),(AN w.1),(AP w.1 (fun i=>[.int .i64 (w.2 i)])),(AN 0),((0:Int)=(↑0:Int)),((([AV.p (PV.int IntKind.i64 N),brL g nb,pcL pl np,inL K].length):Nat)=4),(NL 1 1),(NL 1 1),(AI N),(AN nb),(AP nb (fun i=>[.int .i64 ((g i).1),.int .i64 ((g i).2.1)])),(AN np),(AP np (fun i=>[.int .i64 ((pl i).1),.int .i64 ((pl i).2.1)])),(AN K.1),(AP K.1 (fun i=>[.int .i64 (K.2 i)]))]):=by kernel_rfl
theorem tntt (g:Nat→T_Bar) (nb:Nat) (N:Int) (pl:Nat→T_Place) (np:Nat) (K w:T_IntS) (i:Nat) :
    pieceOb Tryz.prog 0 [rg 4,.dec true,rg 13,.dec false,rg 3,.head] zf73 (TnT g nb N pl np K w i) [0] 1 (TnT g nb N pl np K w (i+1)) =
    some (zf73,[((decide ((↑i:Int)<(↑w.1:Int)))=true),(NT 0 1),(IL 0 (↑i:Int)),(IT (↑i:Int) (↑K.1:Int)),(AG (K.2 i != 0)),(AG (K.2 i != 0)),(((K.2 i != 0)=true)→(IL 0 (↑i:Int))),(((K.2 i != 0)=true)→(IT (↑i:Int) (↑w.1:Int))),(AG (K.2 i != 0)),(AG (K.2 i != 0)),(AG (K.2 i != 0)),((bif K.2 i != 0 then w.2 i==0 else false)=false),(ZLo ((↑i:Int)+1)),(ZHi ((↑i:Int)+1)),(AI N),(AN nb),(AP nb (fun i_1=>[.int .i64 ((g i_1).1),.int .i64 ((g i_1).2.1)])),(AN np),(AP np (fun i_1=>[.int .i64 ((pl i_1).1),.int .i64 ((pl i_1).2.1)])),(AN K.1),(AP K.1 (fun i_1=>[.int .i64 (K.2 i_1)])),(AN w.1),(AP w.1 (fun i_1=>[.int .i64 (w.2 i_1)])),(AN 0),((((↑i:Int)+1):Int)=(↑(i+1):Int)),(AN 4),(NL 1 1),(NL 1 1),(AI N),(AN nb),(AP nb (fun i_1=>[.int .i64 ((g i_1).1),.int .i64 ((g i_1).2.1)])),(AN np),(AP np (fun i_1=>[.int .i64 ((pl i_1).1),.int .i64 ((pl i_1).2.1)])),(AN K.1),(AP K.1 (fun i_1=>[.int .i64 (K.2 i_1)]))]):=by kernel_rfl
theorem tntf (g:Nat→T_Bar) (nb:Nat) (N:Int) (pl:Nat→T_Place) (np:Nat) (K w:T_IntS) (i:Nat) :
    pathOb Tryz.prog Tryz.f197 0 [rg 4,.dec true,rg 13,.dec true,rg 1] zf73 (TnT g nb N pl np K w i) [] 1 [] (.p (.bool false)) =
    some [((decide ((↑i:Int)<(↑w.1:Int)))=true),(NT 0 1),(IL 0 (↑i:Int)),(IT (↑i:Int) (↑K.1:Int)),(AG (K.2 i != 0)),(AG (K.2 i != 0)),(((K.2 i != 0)=true)→(IL 0 (↑i:Int))),(((K.2 i != 0)=true)→(IT (↑i:Int) (↑w.1:Int))),(AG (K.2 i != 0)),(AG (K.2 i != 0)),(AG (K.2 i != 0)),((bif K.2 i != 0 then w.2 i==0 else false)=true),(false=false)]:=by kernel_rfl
theorem tnte (g:Nat→T_Bar) (nb:Nat) (N:Int) (pl:Nat→T_Place) (np:Nat) (K w:T_IntS) (i:Nat) :
    pathOb Tryz.prog Tryz.f197 0 [rg 4,.dec false,rg 1] zf73 (TnT g nb N pl np K w i) [] 1 [] (.p (.bool true)) =
    some [((decide ((↑i:Int)<(↑w.1:Int)))=false),(true=true)]:=by kernel_rfl
theorem tnmN (g:Nat→T_Bar) (nb:Nat) (N:Int) (pl:Nat→T_Place) (np:Nat) (K w:T_IntS) (b1 b2:Bool) :
    pathOb Tryz.prog Tryz.f207 0 [rg 2,rm [(1,oc [] (.p (.bool b1))),(5,oc [] (.p (.bool b2)))] 2,.dec true,rg 1] [.code (bodyOf Tryz.f207)] (start Tryz.f207 [] 0 [tsA g nb N pl np K,inL w]) [] 1 [] (.p (.bool false)) =
    some [(NT 0 1),Con Tryz.prog 151 0 [] [(zf24 N nb g np pl K)] [] (.p (.bool b1)),(AG (!!b1)),(((!!b1)=true)→(NT 0 1)),(AG (!!b1)),(AG (!!b1)),(((!!b1)=true)→ Con Tryz.prog 305 0 [] [(zf35 N nb g np pl),.p (.seq true 1 w.1 (fun i=>[.int .i64 (w.2 i)]))] [] (.p (.bool b2))),(AG (!!b1)),(((!b1)=false)→ ((!!b1)=true)),((bif !b1 then true else !b2)=true),(false=false)]:=by kernel_rfl
theorem tnmz (g:Nat→T_Bar) (nb:Nat) (N:Int) (pl:Nat→T_Place) (np:Nat) (K w:T_IntS) (b1 b2:Bool) :
    pieceOb Tryz.prog 0 [rg 2,rm [(1,oc [] (.p (.bool b1))),(5,oc [] (.p (.bool b2)))] 2,.dec false,rg 6,.head] [.code (bodyOf Tryz.f207)] (start Tryz.f207 [] 0 [tsA g nb N pl np K,inL w]) [0] 1 (TnM g nb N pl np K w 0) =
    some (zf74,[(NT 0 1),Con Tryz.prog 151 0 [] [(zf24 N nb g np pl K)] [] (.p (.bool b1)),(AG (!!b1)),(((!!b1)=true)→(NT 0 1)),(AG (!!b1)),(AG (!!b1)),(((!!b1)=true)→ Con Tryz.prog 305 0 [] [(zf35 N nb g np pl),.p (.seq true 1 w.1 (fun i=>[.int .i64 (w.2 i)]))] [] (.p (.bool b2))),(AG (!!b1)),(((!b1)=false)→ ((!!b1)=true)),((bif !b1 then true else !b2)=false),(NT 0 1),(AI N),(AN nb),(AP nb (fun i=>[.int .i64 ((g i).1),.int .i64 ((g i).2.1)])),(AN np),(AP np (fun i=>[.int .i64 ((pl i).1),.int .i64 ((pl i).2.1)])),(AN K.1),(AP K.1 (fun i=>[.int .i64 (K.2 i)])),(AN w.1),(AP w.1 (fun i=>[.int .i64 (w.2 i)])),(AN 0),(AN nb),(AP nb (fun i=>[.int .i64 ((g i).1),.int .i64 ((g i).2.1)])),(AI ((↑nb:Int))),((0:Int)=(↑0:Int)),((([AV.p (PV.int IntKind.i64 N),brL g nb,pcL pl np,inL K].length):Nat)=4),(NL 1 1),(NL 1 1),(AI N),(AN nb),(AP nb (fun i=>[.int .i64 ((g i).1),.int .i64 ((g i).2.1)])),(AN np),(AP np (fun i=>[.int .i64 ((pl i).1),.int .i64 ((pl i).2.1)])),(AN K.1),(AP K.1 (fun i=>[.int .i64 (K.2 i)]))]):=by kernel_rfl
theorem tnmt (g:Nat→T_Bar) (nb:Nat) (N:Int) (pl:Nat→T_Place) (np:Nat) (K w:T_IntS) (i:Nat) (x:Int) :
    pieceOb Tryz.prog 0 [rg 1,.dec true,rg 6,rm [(7,oc [] (.p (.int .i64 x)))] 1,rg 34,.dec false,rg 2,.head] zf74 (TnM g nb N pl np K w i) [0] 1 (TnM g nb N pl np K w (i+1)) =
    some (zf74,[((decide ((↑i:Int)<(↑nb:Int)))=true),(IL 0 (↑i:Int)),(IT (↑i:Int) (↑nb:Int)),(NT 0 1),((true=true)→ (AN 1)),(NT 0 1),(NT 0 1),(NT 0 1),Con Tryz.prog 306 0 [] [(zf30 N nb g np pl),.p (.seq true 1 w.1 (fun i_1=>[.int .i64 (w.2 i_1)])),.p (.int .i64 ((g i).1)),.p (.int .i64 ((g i).2.1))] [] (.p (.int .i64 x)),(NT 0 1),(IL 0 (↑i:Int)),(IT (↑i:Int) (↑K.1:Int)),(AG (K.2 i==0)),(AG (K.2 i==0)),(AG (!bif K.2 i==0 then x != 0 else false)),(((!bif K.2 i==0 then x != 0 else false)=true)→(NT 0 1)),(AG (!bif K.2 i==0 then x != 0 else false)),(AG (!bif K.2 i==0 then x != 0 else false)),(((!bif K.2 i==0 then x != 0 else false)=true)→(IL 0 (↑i:Int))),(((!bif K.2 i==0 then x != 0 else false)=true)→(IT (↑i:Int) (↑K.1:Int))),(AG (!bif K.2 i==0 then x != 0 else false)),(AG (!bif K.2 i==0 then x != 0 else false)),(AG (!bif K.2 i==0 then x != 0 else false)),(AG ((!bif K.2 i==0 then x != 0 else false)&&K.2 i==1)),(AG (!bif K.2 i==0 then x != 0 else false)),(((!bif K.2 i==0 then x != 0 else false)=true)→(((K.2 i==1)=true)→ (((!bif K.2 i==0 then x != 0 else false)&&K.2 i==1)=true))),(((bif K.2 i==0 then x != 0 else false)=false)→ ((!bif K.2 i==0 then x != 0 else false)=true)),(AG (!bif bif K.2 i==0 then x != 0 else false then true else bif K.2 i==1 then decide (x>0) else false)),(((!bif bif K.2 i==0 then x != 0 else false then true else bif K.2 i==1 then decide (x>0) else false)=true)→(NT 0 1)),(AG (!bif bif K.2 i==0 then x != 0 else false then true else bif K.2 i==1 then decide (x>0) else false)),(AG (!bif bif K.2 i==0 then x != 0 else false then true else bif K.2 i==1 then decide (x>0) else false)),(((!bif bif K.2 i==0 then x != 0 else false then true else bif K.2 i==1 then decide (x>0) else false)=true)→(IL 0 (↑i:Int))),(((!bif bif K.2 i==0 then x != 0 else false then true else bif K.2 i==1 then decide (x>0) else false)=true)→(IT (↑i:Int) (↑K.1:Int))),(AG (!bif bif K.2 i==0 then x != 0 else false then true else bif K.2 i==1 then decide (x>0) else false)),(AG (!bif bif K.2 i==0 then x != 0 else false then true else bif K.2 i==1 then decide (x>0) else false)),(AG (!bif bif K.2 i==0 then x != 0 else false then true else bif K.2 i==1 then decide (x>0) else false)),(AG ((!bif bif K.2 i==0 then x != 0 else false then true else bif K.2 i==1 then decide (x>0) else false)&&K.2 i==2)),(AG (!bif bif K.2 i==0 then x != 0 else false then true else bif K.2 i==1 then decide (x>0) else false)),(((!bif bif K.2 i==0 then x != 0 else false then true else bif K.2 i==1 then decide (x>0) else false)=true)→(((K.2 i==2)=true)→ (((!bif bif K.2 i==0 then x != 0 else false then true else bif K.2 i==1 then decide (x>0) else false)&&K.2 i==2)=true))),(((bif bif K.2 i==0 then x != 0 else false then true else bif K.2 i==1 then decide (x>0) else false)=false)→ ((!bif bif K.2 i==0 then x != 0 else false then true else bif K.2 i==1 then decide (x>0) else false)=true)),((bif bif bif K.2 i==0 then x != 0 else false then true else bif K.2 i==1 then decide (x>0) else false then true else bif K.2 i==2 then decide (x<0) else false)=false),(ZLo ((↑i:Int)+1)),(ZHi ((↑i:Int)+1)),(AI N),(AN nb),(AP nb (fun i_1=>[.int .i64 ((g i_1).1),.int .i64 ((g i_1).2.1)])),(AN np),(AP np (fun i_1=>[.int .i64 ((pl i_1).1),.int .i64 ((pl i_1).2.1)])),(AN K.1),(AP K.1 (fun i_1=>[.int .i64 (K.2 i_1)])),(AN w.1),(AP w.1 (fun i_1=>[.int .i64 (w.2 i_1)])),(AN 0),(AN nb),(AP nb (fun i_1=>[.int .i64 ((g i_1).1),.int .i64 ((g i_1).2.1)])),(AI ((↑nb:Int))),((((↑i:Int)+1):Int)=(↑(i+1):Int)),(AN 4),(NL 1 1),(NL 1 1),(AI N),(AN nb),(AP nb (fun i_1=>[.int .i64 ((g i_1).1),.int .i64 ((g i_1).2.1)])),(AN np),(AP np (fun i_1=>[.int .i64 ((pl i_1).1),.int .i64 ((pl i_1).2.1)])),(AN K.1),(AP K.1 (fun i_1=>[.int .i64 (K.2 i_1)]))]):=by kernel_rfl
theorem tnmf (g:Nat→T_Bar) (nb:Nat) (N:Int) (pl:Nat→T_Place) (np:Nat) (K w:T_IntS) (i:Nat) (x:Int) :
    pathOb Tryz.prog Tryz.f207 0 [rg 1,.dec true,rg 6,rm [(7,oc [] (.p (.int .i64 x)))] 1,rg 34,.dec true,rg 1] zf74 (TnM g nb N pl np K w i) [] 1 [] (.p (.bool false)) =
    some [((decide ((↑i:Int)<(↑nb:Int)))=true),(IL 0 (↑i:Int)),(IT (↑i:Int) (↑nb:Int)),(NT 0 1),((true=true)→ (AN 1)),(NT 0 1),(NT 0 1),(NT 0 1),Con Tryz.prog 306 0 [] [(zf30 N nb g np pl),.p (.seq true 1 w.1 (fun i_1=>[.int .i64 (w.2 i_1)])),.p (.int .i64 ((g i).1)),.p (.int .i64 ((g i).2.1))] [] (.p (.int .i64 x)),(NT 0 1),(IL 0 (↑i:Int)),(IT (↑i:Int) (↑K.1:Int)),(AG (K.2 i==0)),(AG (K.2 i==0)),(AG (!bif K.2 i==0 then x != 0 else false)),(((!bif K.2 i==0 then x != 0 else false)=true)→(NT 0 1)),(AG (!bif K.2 i==0 then x != 0 else false)),(AG (!bif K.2 i==0 then x != 0 else false)),(((!bif K.2 i==0 then x != 0 else false)=true)→(IL 0 (↑i:Int))),(((!bif K.2 i==0 then x != 0 else false)=true)→(IT (↑i:Int) (↑K.1:Int))),(AG (!bif K.2 i==0 then x != 0 else false)),(AG (!bif K.2 i==0 then x != 0 else false)),(AG (!bif K.2 i==0 then x != 0 else false)),(AG ((!bif K.2 i==0 then x != 0 else false)&&K.2 i==1)),(AG (!bif K.2 i==0 then x != 0 else false)),(((!bif K.2 i==0 then x != 0 else false)=true)→(((K.2 i==1)=true)→ (((!bif K.2 i==0 then x != 0 else false)&&K.2 i==1)=true))),(((bif K.2 i==0 then x != 0 else false)=false)→ ((!bif K.2 i==0 then x != 0 else false)=true)),(AG (!bif bif K.2 i==0 then x != 0 else false then true else bif K.2 i==1 then decide (x>0) else false)),(((!bif bif K.2 i==0 then x != 0 else false then true else bif K.2 i==1 then decide (x>0) else false)=true)→(NT 0 1)),(AG (!bif bif K.2 i==0 then x != 0 else false then true else bif K.2 i==1 then decide (x>0) else false)),(AG (!bif bif K.2 i==0 then x != 0 else false then true else bif K.2 i==1 then decide (x>0) else false)),(((!bif bif K.2 i==0 then x != 0 else false then true else bif K.2 i==1 then decide (x>0) else false)=true)→(IL 0 (↑i:Int))),(((!bif bif K.2 i==0 then x != 0 else false then true else bif K.2 i==1 then decide (x>0) else false)=true)→(IT (↑i:Int) (↑K.1:Int))),(AG (!bif bif K.2 i==0 then x != 0 else false then true else bif K.2 i==1 then decide (x>0) else false)),(AG (!bif bif K.2 i==0 then x != 0 else false then true else bif K.2 i==1 then decide (x>0) else false)),(AG (!bif bif K.2 i==0 then x != 0 else false then true else bif K.2 i==1 then decide (x>0) else false)),(AG ((!bif bif K.2 i==0 then x != 0 else false then true else bif K.2 i==1 then decide (x>0) else false)&&K.2 i==2)),(AG (!bif bif K.2 i==0 then x != 0 else false then true else bif K.2 i==1 then decide (x>0) else false)),(((!bif bif K.2 i==0 then x != 0 else false then true else bif K.2 i==1 then decide (x>0) else false)=true)→(((K.2 i==2)=true)→ (((!bif bif K.2 i==0 then x != 0 else false then true else bif K.2 i==1 then decide (x>0) else false)&&K.2 i==2)=true))),(((bif bif K.2 i==0 then x != 0 else false then true else bif K.2 i==1 then decide (x>0) else false)=false)→ ((!bif bif K.2 i==0 then x != 0 else false then true else bif K.2 i==1 then decide (x>0) else false)=true)),((bif bif bif K.2 i==0 then x != 0 else false then true else bif K.2 i==1 then decide (x>0) else false then true else bif K.2 i==2 then decide (x<0) else false)=true),(false=false)]:=by kernel_rfl
theorem tnme (g:Nat→T_Bar) (nb:Nat) (N:Int) (pl:Nat→T_Place) (np:Nat) (K w:T_IntS) (i:Nat) :
    pathOb Tryz.prog Tryz.f207 0 [rg 1,.dec false,rg 1] zf74 (TnM g nb N pl np K w i) [] 1 [] (.p (.bool true)) =
    some [((decide ((↑i:Int)<(↑nb:Int)))=false),(true=true)]:=by kernel_rfl
theorem tnnN (g:Nat→T_Bar) (nb:Nat) (N:Int) (pl:Nat→T_Place) (np:Nat) (K w:T_IntS) (b1 b2:Bool) :
    pathOb Tryz.prog Tryz.f198 0 [rg 2,rm [(1,oc [] (.p (.bool b1))),(5,oc [] (.p (.bool b2)))] 2,.dec true,rg 1] [.code (bodyOf Tryz.f198)] (start Tryz.f198 [] 0 [tsA g nb N pl np K,inL w]) [] 1 [] (.p (.bool false)) =
    some [(NT 0 1),Con Tryz.prog 147 0 [] [(zf24 N nb g np pl K)] [] (.p (.bool b1)),(AG (!!b1)),(((!!b1)=true)→(NT 0 1)),(AG (!!b1)),(AG (!!b1)),(((!!b1)=true)→ Con Tryz.prog 299 0 [] [(zf35 N nb g np pl),.p (.seq true 1 w.1 (fun i=>[.int .i64 (w.2 i)]))] [] (.p (.bool b2))),(AG (!!b1)),(((!b1)=false)→ ((!!b1)=true)),((bif !b1 then true else !b2)=true),(false=false)]:=by kernel_rfl
theorem tnnz (g:Nat→T_Bar) (nb:Nat) (N:Int) (pl:Nat→T_Place) (np:Nat) (K w:T_IntS) (b1 b2:Bool) :
    pieceOb Tryz.prog 0 [rg 2,rm [(1,oc [] (.p (.bool b1))),(5,oc [] (.p (.bool b2)))] 2,.dec false,rg 1,.head] [.code (bodyOf Tryz.f198)] (start Tryz.f198 [] 0 [tsA g nb N pl np K,inL w]) [0] 1 (TnN g nb N pl np K w 0) =
    some (zf75,[(NT 0 1),Con Tryz.prog 147 0 [] [(zf24 N nb g np pl K)] [] (.p (.bool b1)),(AG (!!b1)),(((!!b1)=true)→(NT 0 1)),(AG (!!b1)),(AG (!!b1)),(((!!b1)=true)→ Con Tryz.prog 299 0 [] [(zf35 N nb g np pl),.p (.seq true 1 w.1 (fun i=>[.int .i64 (w.2 i)]))] [] (.p (.bool b2))),(AG (!!b1)),(((!b1)=false)→ ((!!b1)=true)),((bif !b1 then true else !b2)=false),(AI N),(AN nb),(AP nb (fun i=>[.int .i64 ((g i).1),.int .i64 ((g i).2.1)])),(AN np),(AP np (fun i=>[.int .i64 ((pl i).1),.int .i64 ((pl i).2.1)])),(AN K.1),(AP K.1 (fun i=>[.int .i64 (K.2 i)])),(AN w.1),(AP w.1 (fun i=>[.int .i64 (w.2 i)])),(AN 0),((0:Int)=(↑0:Int)),((([AV.p (PV.int IntKind.i64 N),brL g nb,pcL pl np,inL K].length):Nat)=4),(NL 1 1),(NL 1 1),(AI N),(AN nb),(AP nb (fun i=>[.int .i64 ((g i).1),.int .i64 ((g i).2.1)])),(AN np),(AP np (fun i=>[.int .i64 ((pl i).1),.int .i64 ((pl i).2.1)])),(AN K.1),(AP K.1 (fun i=>[.int .i64 (K.2 i)]))]):=by kernel_rfl
theorem tnnt (g:Nat→T_Bar) (nb:Nat) (N:Int) (pl:Nat→T_Place) (np:Nat) (K w:T_IntS) (i:Nat) (x:Int) :
    pieceOb Tryz.prog 0 [rg 5,.dec true,rm [(19,oc [] (.p (.int .i64 x)))] 1,rg 34,.dec false,rg 3,.head] zf75 (TnN g nb N pl np K w i) [0] 1 (TnN g nb N pl np K w (i+1)) =
    some (zf75,[(NT 0 1),((decide ((↑i:Int)<(↑K.1:Int)))=true),(NT 0 1),(NT 0 1),(IL 0 (↑i:Int)),(IT (↑i:Int) (↑nb:Int)),(NT 0 1),(IL 0 (↑i:Int)),(IT (↑i:Int) (↑nb:Int)),Con Tryz.prog 300 0 [] [(zf30 N nb g np pl),.p (.seq true 1 w.1 (fun i_1=>[.int .i64 (w.2 i_1)])),.p (.int .i64 ((g i).1)),.p (.int .i64 ((g i).2.1))] [] (.p (.int .i64 x)),(NT 0 1),(IL 0 (↑i:Int)),(IT (↑i:Int) (↑K.1:Int)),(AG (K.2 i==0)),(AG (K.2 i==0)),(AG (!bif K.2 i==0 then x != 0 else false)),(((!bif K.2 i==0 then x != 0 else false)=true)→(NT 0 1)),(AG (!bif K.2 i==0 then x != 0 else false)),(AG (!bif K.2 i==0 then x != 0 else false)),(((!bif K.2 i==0 then x != 0 else false)=true)→(IL 0 (↑i:Int))),(((!bif K.2 i==0 then x != 0 else false)=true)→(IT (↑i:Int) (↑K.1:Int))),(AG (!bif K.2 i==0 then x != 0 else false)),(AG (!bif K.2 i==0 then x != 0 else false)),(AG (!bif K.2 i==0 then x != 0 else false)),(AG ((!bif K.2 i==0 then x != 0 else false)&&K.2 i==1)),(AG (!bif K.2 i==0 then x != 0 else false)),(((!bif K.2 i==0 then x != 0 else false)=true)→(((K.2 i==1)=true)→ (((!bif K.2 i==0 then x != 0 else false)&&K.2 i==1)=true))),(((bif K.2 i==0 then x != 0 else false)=false)→ ((!bif K.2 i==0 then x != 0 else false)=true)),(AG (!bif bif K.2 i==0 then x != 0 else false then true else bif K.2 i==1 then decide (x>0) else false)),(((!bif bif K.2 i==0 then x != 0 else false then true else bif K.2 i==1 then decide (x>0) else false)=true)→(NT 0 1)),(AG (!bif bif K.2 i==0 then x != 0 else false then true else bif K.2 i==1 then decide (x>0) else false)),(AG (!bif bif K.2 i==0 then x != 0 else false then true else bif K.2 i==1 then decide (x>0) else false)),(((!bif bif K.2 i==0 then x != 0 else false then true else bif K.2 i==1 then decide (x>0) else false)=true)→(IL 0 (↑i:Int))),(((!bif bif K.2 i==0 then x != 0 else false then true else bif K.2 i==1 then decide (x>0) else false)=true)→(IT (↑i:Int) (↑K.1:Int))),(AG (!bif bif K.2 i==0 then x != 0 else false then true else bif K.2 i==1 then decide (x>0) else false)),(AG (!bif bif K.2 i==0 then x != 0 else false then true else bif K.2 i==1 then decide (x>0) else false)),(AG (!bif bif K.2 i==0 then x != 0 else false then true else bif K.2 i==1 then decide (x>0) else false)),(AG ((!bif bif K.2 i==0 then x != 0 else false then true else bif K.2 i==1 then decide (x>0) else false)&&K.2 i==2)),(AG (!bif bif K.2 i==0 then x != 0 else false then true else bif K.2 i==1 then decide (x>0) else false)),(((!bif bif K.2 i==0 then x != 0 else false then true else bif K.2 i==1 then decide (x>0) else false)=true)→(((K.2 i==2)=true)→ (((!bif bif K.2 i==0 then x != 0 else false then true else bif K.2 i==1 then decide (x>0) else false)&&K.2 i==2)=true))),(((bif bif K.2 i==0 then x != 0 else false then true else bif K.2 i==1 then decide (x>0) else false)=false)→ ((!bif bif K.2 i==0 then x != 0 else false then true else bif K.2 i==1 then decide (x>0) else false)=true)),((bif bif bif K.2 i==0 then x != 0 else false then true else bif K.2 i==1 then decide (x>0) else false then true else bif K.2 i==2 then decide (x<0) else false)=false),(ZLo ((↑i:Int)+1)),(ZHi ((↑i:Int)+1)),(AI N),(AN nb),(AP nb (fun i_1=>[.int .i64 ((g i_1).1),.int .i64 ((g i_1).2.1)])),(AN np),(AP np (fun i_1=>[.int .i64 ((pl i_1).1),.int .i64 ((pl i_1).2.1)])),(AN K.1),(AP K.1 (fun i_1=>[.int .i64 (K.2 i_1)])),(AN w.1),(AP w.1 (fun i_1=>[.int .i64 (w.2 i_1)])),(AN 0),((((↑i:Int)+1):Int)=(↑(i+1):Int)),(AN 4),(NL 1 1),(NL 1 1),(AI N),(AN nb),(AP nb (fun i_1=>[.int .i64 ((g i_1).1),.int .i64 ((g i_1).2.1)])),(AN np),(AP np (fun i_1=>[.int .i64 ((pl i_1).1),.int .i64 ((pl i_1).2.1)])),(AN K.1),(AP K.1 (fun i_1=>[.int .i64 (K.2 i_1)]))]):=by kernel_rfl
theorem tnnf (g:Nat→T_Bar) (nb:Nat) (N:Int) (pl:Nat→T_Place) (np:Nat) (K w:T_IntS) (i:Nat) (x:Int) :
    pathOb Tryz.prog Tryz.f198 0 [rg 5,.dec true,rm [(19,oc [] (.p (.int .i64 x)))] 1,rg 34,.dec true,rg 1] zf75 (TnN g nb N pl np K w i) [] 1 [] (.p (.bool false)) =
    some [(NT 0 1),((decide ((↑i:Int)<(↑K.1:Int)))=true),(NT 0 1),(NT 0 1),(IL 0 (↑i:Int)),(IT (↑i:Int) (↑nb:Int)),(NT 0 1),(IL 0 (↑i:Int)),(IT (↑i:Int) (↑nb:Int)),Con Tryz.prog 300 0 [] [(zf30 N nb g np pl),.p (.seq true 1 w.1 (fun i_1=>[.int .i64 (w.2 i_1)])),.p (.int .i64 ((g i).1)),.p (.int .i64 ((g i).2.1))] [] (.p (.int .i64 x)),(NT 0 1),(IL 0 (↑i:Int)),(IT (↑i:Int) (↑K.1:Int)),(AG (K.2 i==0)),(AG (K.2 i==0)),(AG (!bif K.2 i==0 then x != 0 else false)),(((!bif K.2 i==0 then x != 0 else false)=true)→(NT 0 1)),(AG (!bif K.2 i==0 then x != 0 else false)),(AG (!bif K.2 i==0 then x != 0 else false)),(((!bif K.2 i==0 then x != 0 else false)=true)→(IL 0 (↑i:Int))),(((!bif K.2 i==0 then x != 0 else false)=true)→(IT (↑i:Int) (↑K.1:Int))),(AG (!bif K.2 i==0 then x != 0 else false)),(AG (!bif K.2 i==0 then x != 0 else false)),(AG (!bif K.2 i==0 then x != 0 else false)),(AG ((!bif K.2 i==0 then x != 0 else false)&&K.2 i==1)),(AG (!bif K.2 i==0 then x != 0 else false)),(((!bif K.2 i==0 then x != 0 else false)=true)→(((K.2 i==1)=true)→ (((!bif K.2 i==0 then x != 0 else false)&&K.2 i==1)=true))),(((bif K.2 i==0 then x != 0 else false)=false)→ ((!bif K.2 i==0 then x != 0 else false)=true)),(AG (!bif bif K.2 i==0 then x != 0 else false then true else bif K.2 i==1 then decide (x>0) else false)),(((!bif bif K.2 i==0 then x != 0 else false then true else bif K.2 i==1 then decide (x>0) else false)=true)→(NT 0 1)),(AG (!bif bif K.2 i==0 then x != 0 else false then true else bif K.2 i==1 then decide (x>0) else false)),(AG (!bif bif K.2 i==0 then x != 0 else false then true else bif K.2 i==1 then decide (x>0) else false)),(((!bif bif K.2 i==0 then x != 0 else false then true else bif K.2 i==1 then decide (x>0) else false)=true)→(IL 0 (↑i:Int))),(((!bif bif K.2 i==0 then x != 0 else false then true else bif K.2 i==1 then decide (x>0) else false)=true)→(IT (↑i:Int) (↑K.1:Int))),(AG (!bif bif K.2 i==0 then x != 0 else false then true else bif K.2 i==1 then decide (x>0) else false)),(AG (!bif bif K.2 i==0 then x != 0 else false then true else bif K.2 i==1 then decide (x>0) else false)),(AG (!bif bif K.2 i==0 then x != 0 else false then true else bif K.2 i==1 then decide (x>0) else false)),(AG ((!bif bif K.2 i==0 then x != 0 else false then true else bif K.2 i==1 then decide (x>0) else false)&&K.2 i==2)),(AG (!bif bif K.2 i==0 then x != 0 else false then true else bif K.2 i==1 then decide (x>0) else false)),(((!bif bif K.2 i==0 then x != 0 else false then true else bif K.2 i==1 then decide (x>0) else false)=true)→(((K.2 i==2)=true)→ (((!bif bif K.2 i==0 then x != 0 else false then true else bif K.2 i==1 then decide (x>0) else false)&&K.2 i==2)=true))),(((bif bif K.2 i==0 then x != 0 else false then true else bif K.2 i==1 then decide (x>0) else false)=false)→ ((!bif bif K.2 i==0 then x != 0 else false then true else bif K.2 i==1 then decide (x>0) else false)=true)),((bif bif bif K.2 i==0 then x != 0 else false then true else bif K.2 i==1 then decide (x>0) else false then true else bif K.2 i==2 then decide (x<0) else false)=true),(false=false)]:=by kernel_rfl
theorem tnne (g:Nat→T_Bar) (nb:Nat) (N:Int) (pl:Nat→T_Place) (np:Nat) (K w:T_IntS) (i:Nat) :
    pathOb Tryz.prog Tryz.f198 0 [rg 5,.dec false,rg 1] zf75 (TnN g nb N pl np K w i) [] 1 [] (.p (.bool true)) =
    some [(NT 0 1),((decide ((↑i:Int)<(↑K.1:Int)))=false),(true=true)]:=by kernel_rfl
theorem pvsi (g:Nat→T_Bar) (nb:Nat) (N:Int) (pl:Nat→T_Place) (np:Nat) (K w:T_IntS) (b1 b2:Bool) :
    pathOb Tryz.prog Tryz.f98 0 [rg 2,rm [(2,oc [] (.p (.bool b1))),(3,oc [] (.p (.bool b2)))] 2] [.code (bodyOf Tryz.f98)] (start Tryz.f98 [] 0 [tsA g nb N pl np K,inL w]) [] 1 [] (.p (.bool (bif b1 then b2 else false))) =
    some [(NT 0 1),Con Tryz.prog 206 0 [] [(zf24 N nb g np pl K),.p (.seq true 1 w.1 (fun i=>[.int .i64 (w.2 i)]))] [] (.p (.bool b1)),(AG b1),((b1=true)→(NT 0 1)),(AG b1),((b1=true)→ Con Tryz.prog 133 0 [] [(zf35 N nb g np pl)] [] (.p (.bool b2))),(AG b1),((bif b1 then b2 else false)=(bif b1 then b2 else false))]:=by kernel_rfl
theorem pvli (g:Nat→T_Bar) (nb:Nat) (N:Int) (pl:Nat→T_Place) (np:Nat) (K w:T_IntS) (b1 b2:Bool) :
    pathOb Tryz.prog Tryz.f99 0 [rg 2,rm [(2,oc [] (.p (.bool b1))),(4,oc [] (.p (.bool b2)))] 3] [.code (bodyOf Tryz.f99)] (start Tryz.f99 [] 0 [tsA g nb N pl np K,inL w]) [] 1 [] (.p (.bool (bif b1 then !b2 else false))) =
    some [(NT 0 1),Con Tryz.prog 207 0 [] [(zf24 N nb g np pl K),.p (.seq true 1 w.1 (fun i=>[.int .i64 (w.2 i)]))] [] (.p (.bool b1)),(AG b1),((b1=true)→(NT 0 1)),(AG b1),(AG b1),((b1=true)→ Con Tryz.prog 208 0 [] [(zf35 N nb g np pl),.p (.seq true 1 w.1 (fun i=>[.int .i64 (w.2 i)]))] [] (.p (.bool b2))),(AG b1),(AG b1),((bif b1 then !b2 else false)=(bif b1 then !b2 else false))]:=by kernel_rfl
theorem pvss (g:Nat→T_Bar) (nb:Nat) (N:Int) (pl:Nat→T_Place) (np:Nat) (K w:T_IntS) (b1 b2:Bool) :
    pathOb Tryz.prog Tryz.f88 0 [rg 2,rm [(2,oc [] (.p (.bool b1))),(3,oc [] (.p (.bool b2)))] 2] [.code (bodyOf Tryz.f88)] (start Tryz.f88 [] 0 [tsA g nb N pl np K,inL w]) [] 1 [] (.p (.bool (bif b1 then b2 else false))) =
    some [(NT 0 1),Con Tryz.prog 197 0 [] [(zf24 N nb g np pl K),.p (.seq true 1 w.1 (fun i=>[.int .i64 (w.2 i)]))] [] (.p (.bool b1)),(AG b1),((b1=true)→(NT 0 1)),(AG b1),((b1=true)→ Con Tryz.prog 123 0 [] [(zf35 N nb g np pl)] [] (.p (.bool b2))),(AG b1),((bif b1 then b2 else false)=(bif b1 then b2 else false))]:=by kernel_rfl
theorem pvls (g:Nat→T_Bar) (nb:Nat) (N:Int) (pl:Nat→T_Place) (np:Nat) (K w:T_IntS) (b1 b2:Bool) :
    pathOb Tryz.prog Tryz.f89 0 [rg 2,rm [(2,oc [] (.p (.bool b1))),(4,oc [] (.p (.bool b2)))] 3] [.code (bodyOf Tryz.f89)] (start Tryz.f89 [] 0 [tsA g nb N pl np K,inL w]) [] 1 [] (.p (.bool (bif b1 then !b2 else false))) =
    some [(NT 0 1),Con Tryz.prog 198 0 [] [(zf24 N nb g np pl K),.p (.seq true 1 w.1 (fun i=>[.int .i64 (w.2 i)]))] [] (.p (.bool b1)),(AG b1),((b1=true)→(NT 0 1)),(AG b1),(AG b1),((b1=true)→ Con Tryz.prog 199 0 [] [(zf35 N nb g np pl),.p (.seq true 1 w.1 (fun i=>[.int .i64 (w.2 i)]))] [] (.p (.bool b2))),(AG b1),(AG b1),((bif b1 then !b2 else false)=(bif b1 then !b2 else false))]:=by kernel_rfl
end Go.Proofs.YtkkjoghiigiokaaGreat.Mach
namespace Go.Proofs.YtkkjoghiigiokaaGreat.Mach
open Go
set_option linter.unusedVariables false
set_option linter.unusedSimpArgs false
def psqB (K w:T_IntS) (i:Nat):Bool:=bif (bif K.2 i==1 then decide (w.2 i<0) else false) then true else (bif K.2 i==2 then decide (w.2 i>0) else false)
def ssqB (K w:T_IntS) (i:Nat):Bool:=bif !(K.2 i==0) then w.2 i==0 else false
def amqB (K:T_IntS) (x:Int) (i:Nat):Bool:=bif (bif (bif K.2 i==0 then !(x==0) else false) then true else (bif K.2 i==1 then decide (x>0) else false)) then true else (bif K.2 i==2 then decide (x<0) else false)
def prpB (g:Nat→T_Bar) (nb:Nat) (N:Int) (pl:Nat→T_Place) (np:Nat) (K w:T_IntS):Bool :=
  (bif tsB g nb N pl np K then strB g nb N pl np w else false)&&allB (fun i=>!psqB K w i) nb
def strcB (g:Nat→T_Bar) (nb:Nat) (N:Int) (pl:Nat→T_Place) (np:Nat) (K w:T_IntS):Bool:=prpB g nb N pl np K w&&allB (fun i=>!ssqB K w i) nb
def chQ (g:Nat→T_Bar) (pl:Nat→T_Place) (v:T_IntS) (i:Nat):Int:=chV pl v (g i).1.toNat (g i).2.1.toNat
def alwB (g:Nat→T_Bar) (nb:Nat) (N:Int) (pl:Nat→T_Place) (np:Nat) (K v:T_IntS):Bool :=
  (bif tsB g nb N pl np K then velB g nb N pl np v else false)&&allB (fun i=>!amqB K (chQ g pl v i) i) nb
theorem ts_len {g:Nat→T_Bar} {nb:Nat} {N:Int} {pl:Nat→T_Place} {np:Nat} {K:T_IntS} (h:tsB g nb N pl np K=true):K.1=nb∧fwB g nb N pl np=true:=by
  unfold tsB at h
  cases h1:allB (kdP K) K.1 with
  | false=>rw [h1] at h;cases h
  | true =>
    rw [h1] at h
    cases h2:fwB g nb N pl np with
    | false=>rw [h2] at h;cases h
    | true =>
      rw [h2] at h
      have h:((K.1:Int)==(nb:Int))=true:=h
      simp at h
      exact ⟨by omega,rfl⟩
theorem str_frc {g:Nat→T_Bar} {nb:Nat} {N:Int} {pl:Nat→T_Place} {np:Nat} {w:T_IntS} (h:strB g nb N pl np w=true):frcB g nb N pl np w=true:=by
  unfold strB at h
  cases h1:frcB g nb N pl np w with
  | false=>rw [h1] at h;cases h
  | true=>rfl
theorem str_len {g:Nat→T_Bar} {nb:Nat} {N:Int} {pl:Nat→T_Place} {np:Nat} {w:T_IntS} (h:strB g nb N pl np w=true):w.1=nb∧nb≤15∧np≤6:=by
  have h1:=str_frc h
  have hf:fwB g nb N pl np=true:=by
    have h:=h1
    unfold frcB at h
    cases q:fwB g nb N pl np with
    | false=>rw [q] at h;cases h
    | true=>rfl
  obtain ⟨n,rfl⟩:=fw_N hf
  have ok:=fOk h1
  have:=ok.hnp
  have:=ok.hN
  exact ⟨ok.hl,ok.hnb,by omega⟩
theorem con_Proper_i (g:Nat→T_Bar) (nb:Nat) (N:Int) (pl:Nat→T_Place) (np:Nat) (K w:T_IntS) (hn:nb≤1048576∧np≤1048576) (hK:K.1≤1048576) (hw:w.1≤1048576) :
    Con Tryz.prog 304 0 [] [tsA g nb N pl np K,inL w] [] (.p (.bool (prpB g nb N pl np K w))):=by
  have c1:=con_IsTensegrity_i g nb N pl np K hn hK
  have c2:=con_IsStress_i g nb N pl np w hn hw
  refine csZ Tryz.func304 (fun c hc=>?_)
  cases ha:(bif tsB g nb N pl np K then strB g nb N pl np w else false) with
  | false =>
    have ha':(bif !tsB g nb N pl np K then true else !strB g nb N pl np w)=true:=by
      revert ha;cases tsB g nb N pl np K<;>cases strB g nb N pl np w<;>intro ha<;>first | rfl | cases ha
    rw [show prpB g nb N pl np K w=false by unfold prpB;rw [ha];rfl]
    refine pkZ Tryz.func304 hc (tnpN g nb N pl np K w (tsB g nb N pl np K) (strB g nb N pl np w)) ?_
    repeat' (first | exact aN | apply aI)
    all_goals (first | exact aG _ | omega | rfl | (intros;first | assumption | exact trivial | rfl | exact fT ‹_› | ((repeat' (first | assumption | apply anda | apply notf));done)) | (exact c1) | (intros;exact c2) | (exact ha') | (intro h;rw [h];rfl))
  | true =>
    have ht:tsB g nb N pl np K=true:=by cases h:tsB g nb N pl np K with | false=>rw [h] at ha;cases ha | true=>rfl
    have hs:strB g nb N pl np w=true:=by rw [ht] at ha;exact ha
    obtain ⟨hl,hb,hnp⟩:=str_len hs
    obtain ⟨hk,hf⟩:=ts_len ht
    rw [ht] at c1
    rw [hs] at c2
    have hr:prpB g nb N pl np K w=allB (fun i=>!psqB K w i) nb:=by unfold prpB;rw [ha];rfl
    rw [hr]
    have lo:∀ d i,i+d=nb→allB (fun i=>!psqB K w i) i=true→Run Tryz.prog c 304 zf70 (TnP g nb N pl np K w i) (Post c [] (.p (.bool (allB (fun i=>!psqB K w i) nb)))):=by
      intro d
      induction d with
      | zero =>
        intro i hi hal
        obtain rfl:i=nb:=by omega
        have hd:decide ((i:Int)<(K.1:Int))=false:=decide_eq_false (by omega)
        have hd2:decide ((i:Int)<(w.1:Int))=false:=decide_eq_false (by omega)
        rw [hal]
        refine pkZ Tryz.func304 hc (tnpe g i N pl np K w i) ?_
        repeat' (first | exact aN | apply aI)
        all_goals (first | omega | rfl | (intros;first | assumption | exact trivial | rfl) | (exact hd) | (exact hd2))
      | succ d ih =>
        intro i hi ha
        have hd:decide ((i:Int)<(K.1:Int))=true:=decide_eq_true (by omega)
        have hd2:decide ((i:Int)<(w.1:Int))=true:=decide_eq_true (by omega)
        cases hq:psqB K w i with
        | false =>
          have hq':=hq
          unfold psqB at hq'
          refine pcZ hc (tnpt g nb N pl np K w i) ?_ (ih (i+1) (by omega) (by rw [allB,ha,hq];rfl))
          repeat' (first | exact aN | apply aI)
          all_goals (first | exact aG _ | exact aP _ _ | omega | rfl | (intros;first | assumption | exact trivial | rfl | exact fT ‹_› | ((repeat' (first | assumption | apply anda | apply notf));done)) | (exact hd) | (exact hd2) | (exact hq') | (intro h;exact h) | (intros;omega) | (intros;simp [All];done))
        | true =>
          have hq':=hq
          unfold psqB at hq'
          rw [all_no (i:=i) (by omega) (show (!psqB K w i)=false by rw [hq];rfl)]
          refine pkZ Tryz.func304 hc (tnpf g nb N pl np K w i) ?_
          repeat' (first | exact aN | apply aI)
          all_goals (first | exact aG _ | omega | rfl | (intros;first | assumption | exact trivial | rfl | exact fT ‹_› | ((repeat' (first | assumption | apply anda | apply notf));done)) | (exact hd) | (exact hd2) | (exact hq') | (intro h;exact h) | (intros;omega))
    refine pcZ hc (tnpz g nb N pl np K w true true) ?_ (lo nb 0 (by omega) rfl)
    repeat' (first | exact aN | apply aI)
    all_goals (first | exact aG _ | exact aP _ _ | omega | rfl | (intros;first | assumption | exact trivial | rfl | exact fT ‹_› | ((repeat' (first | assumption | apply anda | apply notf));done)) | (exact c1) | (intros;exact c2) | (intros;simp [All];done))
theorem con_Proper_s (g:Nat→T_Bar) (nb:Nat) (N:Int) (pl:Nat→T_Place) (np:Nat) (K w:T_IntS) (hn:nb≤1048576∧np≤1048576) (hK:K.1≤1048576) (hw:w.1≤1048576) :
    Con Tryz.prog 298 0 [] [tsA g nb N pl np K,inL w] [] (.p (.bool (prpB g nb N pl np K w))):=by
  have c1:=con_IsTensegrity_s g nb N pl np K hn hK
  have c2:=con_IsStress_s g nb N pl np w hn hw
  refine csZ Tryz.func298 (fun c hc=>?_)
  cases ha:(bif tsB g nb N pl np K then strB g nb N pl np w else false) with
  | false =>
    have ha':(bif !tsB g nb N pl np K then true else !strB g nb N pl np w)=true:=by
      revert ha;cases tsB g nb N pl np K<;>cases strB g nb N pl np w<;>intro ha<;>first | rfl | cases ha
    rw [show prpB g nb N pl np K w=false by unfold prpB;rw [ha];rfl]
    refine pkZ Tryz.func298 hc (tnqN g nb N pl np K w (tsB g nb N pl np K) (strB g nb N pl np w)) ?_
    repeat' (first | exact aN | apply aI)
    all_goals (first | exact aG _ | omega | rfl | (intros;first | assumption | exact trivial | rfl | exact fT ‹_› | ((repeat' (first | assumption | apply anda | apply notf));done)) | (exact c1) | (intros;exact c2) | (exact ha') | (intro h;rw [h];rfl))
  | true =>
    have ht:tsB g nb N pl np K=true:=by cases h:tsB g nb N pl np K with | false=>rw [h] at ha;cases ha | true=>rfl
    have hs:strB g nb N pl np w=true:=by rw [ht] at ha;exact ha
    obtain ⟨hl,hb,hnp⟩:=str_len hs
    obtain ⟨hk,hf⟩:=ts_len ht
    rw [ht] at c1
    rw [hs] at c2
    have hr:prpB g nb N pl np K w=allB (fun i=>!psqB K w i) nb:=by unfold prpB;rw [ha];rfl
    rw [hr]
    have lo:∀ d i,i+d=nb→allB (fun i=>!psqB K w i) i=true→Run Tryz.prog c 298 zf71 (TnQ g nb N pl np K w i) (Post c [] (.p (.bool (allB (fun i=>!psqB K w i) nb)))):=by
      intro d
      induction d with
      | zero =>
        intro i hi hal
        obtain rfl:i=nb:=by omega
        have hd:decide ((i:Int)<(K.1:Int))=false:=decide_eq_false (by omega)
        have hd2:decide ((i:Int)<(w.1:Int))=false:=decide_eq_false (by omega)
        rw [hal]
        refine pkZ Tryz.func298 hc (tnqe g i N pl np K w i) ?_
        repeat' (first | exact aN | apply aI)
        all_goals (first | omega | rfl | (intros;first | assumption | exact trivial | rfl) | (exact hd) | (exact hd2))
      | succ d ih =>
        intro i hi ha
        have hd:decide ((i:Int)<(K.1:Int))=true:=decide_eq_true (by omega)
        have hd2:decide ((i:Int)<(w.1:Int))=true:=decide_eq_true (by omega)
        cases hq:psqB K w i with
        | false =>
          have hq':=hq
          unfold psqB at hq'
          refine pcZ hc (tnqt g nb N pl np K w i) ?_ (ih (i+1) (by omega) (by rw [allB,ha,hq];rfl))
          repeat' (first | exact aN | apply aI)
          all_goals (first | exact aG _ | exact aP _ _ | omega | rfl | (intros;first | assumption | exact trivial | rfl | exact fT ‹_› | ((repeat' (first | assumption | apply anda | apply notf));done)) | (exact hd) | (exact hd2) | (exact hq') | (intro h;exact h) | (intros;omega) | (intros;simp [All];done))
        | true =>
          have hq':=hq
          unfold psqB at hq'
          rw [all_no (i:=i) (by omega) (show (!psqB K w i)=false by rw [hq];rfl)]
          refine pkZ Tryz.func298 hc (tnqf g nb N pl np K w i) ?_
          repeat' (first | exact aN | apply aI)
          all_goals (first | exact aG _ | omega | rfl | (intros;first | assumption | exact trivial | rfl | exact fT ‹_› | ((repeat' (first | assumption | apply anda | apply notf));done)) | (exact hd) | (exact hd2) | (exact hq') | (intro h;exact h) | (intros;omega))
    refine pcZ hc (tnqz g nb N pl np K w true true) ?_ (lo nb 0 (by omega) rfl)
    repeat' (first | exact aN | apply aI)
    all_goals (first | exact aG _ | exact aP _ _ | omega | rfl | (intros;first | assumption | exact trivial | rfl | exact fT ‹_› | ((repeat' (first | assumption | apply anda | apply notf));done)) | (exact c1) | (intros;exact c2) | (intros;simp [All];done))
theorem con_Strict_i (g:Nat→T_Bar) (nb:Nat) (N:Int) (pl:Nat→T_Place) (np:Nat) (K w:T_IntS) (hn:nb≤1048576∧np≤1048576) (hK:K.1≤1048576) (hw:w.1≤1048576) :
    Con Tryz.prog 206 0 [] [tsA g nb N pl np K,inL w] [] (.p (.bool (strcB g nb N pl np K w))):=by
  have c1:=con_Proper_i g nb N pl np K w hn hK hw
  refine csZ Tryz.func206 (fun c hc=>?_)
  cases hp:prpB g nb N pl np K w with
  | false =>
    rw [hp] at c1
    rw [show strcB g nb N pl np K w=false by unfold strcB;rw [hp];rfl]
    refine pkZ Tryz.func206 hc (tnsN g nb N pl np K w) ?_
    repeat' (first | exact aN | apply aI)
    all_goals (first | omega | rfl | (intros;first | assumption | exact trivial | rfl) | (exact c1))
  | true =>
    rw [hp] at c1
    obtain ⟨ht,hs⟩:tsB g nb N pl np K=true∧strB g nb N pl np w=true:=by
      have h:=hp
      unfold prpB at h
      revert h
      cases tsB g nb N pl np K<;>cases strB g nb N pl np w<;>intro h<;>first | exact ⟨rfl,rfl⟩ | cases h
    obtain ⟨hl,hb,hnp⟩:=str_len hs
    obtain ⟨hk,hf⟩:=ts_len ht
    rw [show strcB g nb N pl np K w=allB (fun i=>!ssqB K w i) nb by unfold strcB;rw [hp];rfl]
    have lo:∀ d i,i+d=nb→allB (fun i=>!ssqB K w i) i=true→Run Tryz.prog c 206 zf72 (TnS g nb N pl np K w i) (Post c [] (.p (.bool (allB (fun i=>!ssqB K w i) nb)))):=by
      intro d
      induction d with
      | zero =>
        intro i hi hal
        obtain rfl:i=nb:=by omega
        have hd:decide ((i:Int)<(K.1:Int))=false:=decide_eq_false (by omega)
        have hd2:decide ((i:Int)<(w.1:Int))=false:=decide_eq_false (by omega)
        rw [hal]
        refine pkZ Tryz.func206 hc (tnse g i N pl np K w i) ?_
        repeat' (first | exact aN | apply aI)
        all_goals (first | omega | rfl | (intros;first | assumption | exact trivial | rfl) | (exact hd) | (exact hd2))
      | succ d ih =>
        intro i hi ha
        have hd:decide ((i:Int)<(K.1:Int))=true:=decide_eq_true (by omega)
        have hd2:decide ((i:Int)<(w.1:Int))=true:=decide_eq_true (by omega)
        cases hq:ssqB K w i with
        | false =>
          have hq':=hq
          unfold ssqB at hq'
          refine pcZ hc (tnst g nb N pl np K w i) ?_ (ih (i+1) (by omega) (by rw [allB,ha,hq];rfl))
          repeat' (first | exact aN | apply aI)
          all_goals (first | exact aG _ | exact aP _ _ | omega | rfl | (intros;first | assumption | exact trivial | rfl | exact fT ‹_›) | (exact hd) | (exact hd2) | (exact hq') | (intro h;exact h) | (intros;omega) | (intros;simp [All];done))
        | true =>
          have hq':=hq
          unfold ssqB at hq'
          rw [all_no (i:=i) (by omega) (show (!ssqB K w i)=false by rw [hq];rfl)]
          refine pkZ Tryz.func206 hc (tnsf g nb N pl np K w i) ?_
          repeat' (first | exact aN | apply aI)
          all_goals (first | exact aG _ | omega | rfl | (intros;first | assumption | exact trivial | rfl | exact fT ‹_›) | (exact hd) | (exact hd2) | (exact hq') | (intro h;exact h) | (intros;omega))
    refine pcZ hc (tnsz g nb N pl np K w) ?_ (lo nb 0 (by omega) rfl)
    repeat' (first | exact aN | apply aI)
    all_goals (first | exact aP _ _ | omega | rfl | (intros;first | assumption | exact trivial | rfl) | (exact c1) | (intros;simp [All];done))
theorem con_Strict_s (g:Nat→T_Bar) (nb:Nat) (N:Int) (pl:Nat→T_Place) (np:Nat) (K w:T_IntS) (hn:nb≤1048576∧np≤1048576) (hK:K.1≤1048576) (hw:w.1≤1048576) :
    Con Tryz.prog 197 0 [] [tsA g nb N pl np K,inL w] [] (.p (.bool (strcB g nb N pl np K w))):=by
  have c1:=con_Proper_s g nb N pl np K w hn hK hw
  refine csZ Tryz.func197 (fun c hc=>?_)
  cases hp:prpB g nb N pl np K w with
  | false =>
    rw [hp] at c1
    rw [show strcB g nb N pl np K w=false by unfold strcB;rw [hp];rfl]
    refine pkZ Tryz.func197 hc (tntN g nb N pl np K w) ?_
    repeat' (first | exact aN | apply aI)
    all_goals (first | omega | rfl | (intros;first | assumption | exact trivial | rfl) | (exact c1))
  | true =>
    rw [hp] at c1
    obtain ⟨ht,hs⟩:tsB g nb N pl np K=true∧strB g nb N pl np w=true:=by
      have h:=hp
      unfold prpB at h
      revert h
      cases tsB g nb N pl np K<;>cases strB g nb N pl np w<;>intro h<;>first | exact ⟨rfl,rfl⟩ | cases h
    obtain ⟨hl,hb,hnp⟩:=str_len hs
    obtain ⟨hk,hf⟩:=ts_len ht
    rw [show strcB g nb N pl np K w=allB (fun i=>!ssqB K w i) nb by unfold strcB;rw [hp];rfl]
    have lo:∀ d i,i+d=nb→allB (fun i=>!ssqB K w i) i=true→Run Tryz.prog c 197 zf73 (TnT g nb N pl np K w i) (Post c [] (.p (.bool (allB (fun i=>!ssqB K w i) nb)))):=by
      intro d
      induction d with
      | zero =>
        intro i hi hal
        obtain rfl:i=nb:=by omega
        have hd:decide ((i:Int)<(K.1:Int))=false:=decide_eq_false (by omega)
        have hd2:decide ((i:Int)<(w.1:Int))=false:=decide_eq_false (by omega)
        rw [hal]
        refine pkZ Tryz.func197 hc (tnte g i N pl np K w i) ?_
        repeat' (first | exact aN | apply aI)
        all_goals (first | omega | rfl | (intros;first | assumption | exact trivial | rfl) | (exact hd) | (exact hd2))
      | succ d ih =>
        intro i hi ha
        have hd:decide ((i:Int)<(K.1:Int))=true:=decide_eq_true (by omega)
        have hd2:decide ((i:Int)<(w.1:Int))=true:=decide_eq_true (by omega)
        cases hq:ssqB K w i with
        | false =>
          have hq':=hq
          unfold ssqB at hq'
          refine pcZ hc (tntt g nb N pl np K w i) ?_ (ih (i+1) (by omega) (by rw [allB,ha,hq];rfl))
          repeat' (first | exact aN | apply aI)
          all_goals (first | exact aG _ | exact aP _ _ | omega | rfl | (intros;first | assumption | exact trivial | rfl | exact fT ‹_›) | (exact hd) | (exact hd2) | (exact hq') | (intro h;exact h) | (intros;omega) | (intros;simp [All];done))
        | true =>
          have hq':=hq
          unfold ssqB at hq'
          rw [all_no (i:=i) (by omega) (show (!ssqB K w i)=false by rw [hq];rfl)]
          refine pkZ Tryz.func197 hc (tntf g nb N pl np K w i) ?_
          repeat' (first | exact aN | apply aI)
          all_goals (first | exact aG _ | omega | rfl | (intros;first | assumption | exact trivial | rfl | exact fT ‹_›) | (exact hd) | (exact hd2) | (exact hq') | (intro h;exact h) | (intros;omega))
    refine pcZ hc (tntz g nb N pl np K w) ?_ (lo nb 0 (by omega) rfl)
    repeat' (first | exact aN | apply aI)
    all_goals (first | exact aP _ _ | omega | rfl | (intros;first | assumption | exact trivial | rfl) | (exact c1) | (intros;simp [All];done))
theorem con_Allowed_i (g:Nat→T_Bar) (nb:Nat) (N:Int) (pl:Nat→T_Place) (np:Nat) (K v:T_IntS) (hn:nb≤1048576∧np≤1048576) (hK:K.1≤1048576) (hv:v.1≤1048576) :
    Con Tryz.prog 207 0 [] [tsA g nb N pl np K,inL v] [] (.p (.bool (alwB g nb N pl np K v))):=by
  have c1:=con_IsTensegrity_i g nb N pl np K hn hK
  have c2:=con_isVelocity g nb N pl np v hn hv
  refine csZ Tryz.func207 (fun c hc=>?_)
  cases ha:(bif tsB g nb N pl np K then velB g nb N pl np v else false) with
  | false =>
    have ha':(bif !tsB g nb N pl np K then true else !velB g nb N pl np v)=true:=by
      revert ha;cases tsB g nb N pl np K<;>cases velB g nb N pl np v<;>intro ha<;>first | rfl | cases ha
    rw [show alwB g nb N pl np K v=false by unfold alwB;rw [ha];rfl]
    refine pkZ Tryz.func207 hc (tnmN g nb N pl np K v (tsB g nb N pl np K) (velB g nb N pl np v)) ?_
    repeat' (first | exact aN | apply aI)
    all_goals (first | exact aG _ | omega | rfl | (intros;first | assumption | exact trivial | rfl | exact fT ‹_› | ((repeat' (first | assumption | apply anda | apply notf));done)) | (exact c1) | (intros;exact c2) | (exact ha') | (intro h;rw [h];rfl))
  | true =>
    have ht:tsB g nb N pl np K=true:=by cases h:tsB g nb N pl np K with | false=>rw [h] at ha;cases ha | true=>rfl
    have hs:velB g nb N pl np v=true:=by rw [ht] at ha;exact ha
    obtain ⟨hk,hf⟩:=ts_len ht
    obtain ⟨n,rfl⟩:=fw_N hf
    have ok:=vOk hs
    have hb:=ok.hnb
    have hnp:=ok.hnp
    have hN:=ok.hN
    have hok:=(graph_in ok.gr).2.2
    rw [ht] at c1
    rw [hs] at c2
    have hr:alwB g nb n pl np K v=allB (fun i=>!amqB K (chQ g pl v i) i) nb:=by unfold alwB;rw [ha];rfl
    rw [hr]
    have lo:∀ d i,i+d=nb→allB (fun i=>!amqB K (chQ g pl v i) i) i=true→Run Tryz.prog c 207 zf74 (TnM g nb n pl np K v i) (Post c [] (.p (.bool (allB (fun i=>!amqB K (chQ g pl v i) i) nb)))):=by
      intro d
      induction d with
      | zero =>
        intro i hi hal
        obtain rfl:i=nb:=by omega
        have hd:decide ((i:Int)<(i:Int))=false:=decide_eq_false (by omega)
        have hd2:decide ((i:Int)<(K.1:Int))=false:=decide_eq_false (by omega)
        rw [hal]
        refine pkZ Tryz.func207 hc (tnme g i n pl np K v i) ?_
        repeat' (first | exact aN | apply aI)
        all_goals (first | omega | rfl | (intros;first | assumption | exact trivial | rfl) | (exact hd) | (exact hd2))
      | succ d ih =>
        intro i hi ha
        have hd:decide ((i:Int)<(nb:Int))=true:=decide_eq_true (by omega)
        have hd2:decide ((i:Int)<(K.1:Int))=true:=decide_eq_true (by omega)
        have hb:=hok i (by omega)
        have cc:=(con_Change ok (a:=(g i).1.toNat) (b:=(g i).2.1.toNat) (by omega) (by omega)).1
        rw [show (((g i).1.toNat:Nat):Int)=(g i).1 by omega,show (((g i).2.1.toNat:Nat):Int)=(g i).2.1 by omega] at cc
        change Con _ _ _ _ _ _ (.p (.int .i64 (chQ g pl v i))) at cc
        generalize hx:chQ g pl v i=x at cc
        cases hq:amqB K x i with
        | false =>
          have hq':=hq
          unfold amqB at hq'
          refine pcZ hc (tnmt g nb n pl np K v i x) ?_ (ih (i+1) (by omega) (by rw [allB,ha];show (true&&!amqB K (chQ g pl v i) i)=true;rw [hx,hq];rfl))
          repeat' (first | exact aN | apply aI)
          all_goals (first | exact aG _ | exact aP _ _ | omega | rfl | (intros;first | assumption | exact trivial | rfl | exact fT ‹_› | ((repeat' (first | assumption | apply anda | apply notf));done)) | (exact hd) | (exact hd2) | (exact cc) | (exact hq') | (intro h;exact h) | (intros;omega) | (intros;simp [All];done))
        | true =>
          have hq':=hq
          unfold amqB at hq'
          rw [all_no (i:=i) (by omega) (show (!amqB K (chQ g pl v i) i)=false by rw [hx,hq];rfl)]
          refine pkZ Tryz.func207 hc (tnmf g nb n pl np K v i x) ?_
          repeat' (first | exact aN | apply aI)
          all_goals (first | exact aG _ | omega | rfl | (intros;first | assumption | exact trivial | rfl | exact fT ‹_› | ((repeat' (first | assumption | apply anda | apply notf));done)) | (exact hd) | (exact hd2) | (exact cc) | (exact hq') | (intro h;exact h) | (intros;omega))
    refine pcZ hc (tnmz g nb n pl np K v true true) ?_ (lo nb 0 (by omega) rfl)
    repeat' (first | exact aN | apply aI)
    all_goals (first | exact aG _ | exact aP _ _ | omega | rfl | (intros;first | assumption | exact trivial | rfl | exact fT ‹_› | ((repeat' (first | assumption | apply anda | apply notf));done)) | (exact c1) | (intros;exact c2) | (intros;simp [All];done))
theorem con_Allowed_s (g:Nat→T_Bar) (nb:Nat) (N:Int) (pl:Nat→T_Place) (np:Nat) (K v:T_IntS) (hn:nb≤1048576∧np≤1048576) (hK:K.1≤1048576) (hv:v.1≤1048576) :
    Con Tryz.prog 198 0 [] [tsA g nb N pl np K,inL v] [] (.p (.bool (alwB g nb N pl np K v))):=by
  have c1:=con_IsTensegrity_s g nb N pl np K hn hK
  have c2:=con_Vector g nb N pl np v hn hv
  refine csZ Tryz.func198 (fun c hc=>?_)
  cases ha:(bif tsB g nb N pl np K then velB g nb N pl np v else false) with
  | false =>
    have ha':(bif !tsB g nb N pl np K then true else !velB g nb N pl np v)=true:=by
      revert ha;cases tsB g nb N pl np K<;>cases velB g nb N pl np v<;>intro ha<;>first | rfl | cases ha
    rw [show alwB g nb N pl np K v=false by unfold alwB;rw [ha];rfl]
    refine pkZ Tryz.func198 hc (tnnN g nb N pl np K v (tsB g nb N pl np K) (velB g nb N pl np v)) ?_
    repeat' (first | exact aN | apply aI)
    all_goals (first | exact aG _ | omega | rfl | (intros;first | assumption | exact trivial | rfl | exact fT ‹_› | ((repeat' (first | assumption | apply anda | apply notf));done)) | (exact c1) | (intros;exact c2) | (exact ha') | (intro h;rw [h];rfl))
  | true =>
    have ht:tsB g nb N pl np K=true:=by cases h:tsB g nb N pl np K with | false=>rw [h] at ha;cases ha | true=>rfl
    have hs:velB g nb N pl np v=true:=by rw [ht] at ha;exact ha
    obtain ⟨hk,hf⟩:=ts_len ht
    obtain ⟨n,rfl⟩:=fw_N hf
    have ok:=vOk hs
    have hb:=ok.hnb
    have hnp:=ok.hnp
    have hN:=ok.hN
    have hok:=(graph_in ok.gr).2.2
    rw [ht] at c1
    rw [hs] at c2
    have hr:alwB g nb n pl np K v=allB (fun i=>!amqB K (chQ g pl v i) i) nb:=by unfold alwB;rw [ha];rfl
    rw [hr]
    have lo:∀ d i,i+d=nb→allB (fun i=>!amqB K (chQ g pl v i) i) i=true→Run Tryz.prog c 198 zf75 (TnN g nb n pl np K v i) (Post c [] (.p (.bool (allB (fun i=>!amqB K (chQ g pl v i) i) nb)))):=by
      intro d
      induction d with
      | zero =>
        intro i hi hal
        obtain rfl:i=nb:=by omega
        have hd:decide ((i:Int)<(i:Int))=false:=decide_eq_false (by omega)
        have hd2:decide ((i:Int)<(K.1:Int))=false:=decide_eq_false (by omega)
        rw [hal]
        refine pkZ Tryz.func198 hc (tnne g i n pl np K v i) ?_
        repeat' (first | exact aN | apply aI)
        all_goals (first | omega | rfl | (intros;first | assumption | exact trivial | rfl) | (exact hd) | (exact hd2))
      | succ d ih =>
        intro i hi ha
        have hd:decide ((i:Int)<(nb:Int))=true:=decide_eq_true (by omega)
        have hd2:decide ((i:Int)<(K.1:Int))=true:=decide_eq_true (by omega)
        have hb:=hok i (by omega)
        have cc:=(con_Change ok (a:=(g i).1.toNat) (b:=(g i).2.1.toNat) (by omega) (by omega)).2
        rw [show (((g i).1.toNat:Nat):Int)=(g i).1 by omega,show (((g i).2.1.toNat:Nat):Int)=(g i).2.1 by omega] at cc
        change Con _ _ _ _ _ _ (.p (.int .i64 (chQ g pl v i))) at cc
        generalize hx:chQ g pl v i=x at cc
        cases hq:amqB K x i with
        | false =>
          have hq':=hq
          unfold amqB at hq'
          refine pcZ hc (tnnt g nb n pl np K v i x) ?_ (ih (i+1) (by omega) (by rw [allB,ha];show (true&&!amqB K (chQ g pl v i) i)=true;rw [hx,hq];rfl))
          repeat' (first | exact aN | apply aI)
          all_goals (first | exact aG _ | exact aP _ _ | omega | rfl | (intros;first | assumption | exact trivial | rfl | exact fT ‹_› | ((repeat' (first | assumption | apply anda | apply notf));done)) | (exact hd) | (exact hd2) | (exact cc) | (exact hq') | (intro h;exact h) | (intros;omega) | (intros;simp [All];done))
        | true =>
          have hq':=hq
          unfold amqB at hq'
          rw [all_no (i:=i) (by omega) (show (!amqB K (chQ g pl v i) i)=false by rw [hx,hq];rfl)]
          refine pkZ Tryz.func198 hc (tnnf g nb n pl np K v i x) ?_
          repeat' (first | exact aN | apply aI)
          all_goals (first | exact aG _ | omega | rfl | (intros;first | assumption | exact trivial | rfl | exact fT ‹_› | ((repeat' (first | assumption | apply anda | apply notf));done)) | (exact hd) | (exact hd2) | (exact cc) | (exact hq') | (intro h;exact h) | (intros;omega))
    refine pcZ hc (tnnz g nb n pl np K v true true) ?_ (lo nb 0 (by omega) rfl)
    repeat' (first | exact aN | apply aI)
    all_goals (first | exact aG _ | exact aP _ _ | omega | rfl | (intros;first | assumption | exact trivial | rfl | exact fT ‹_› | ((repeat' (first | assumption | apply anda | apply notf));done)) | (exact c1) | (intros;exact c2) | (intros;simp [All];done))
theorem con_PStiff_i (g:Nat→T_Bar) (nb:Nat) (N:Int) (pl:Nat→T_Place) (np:Nat) (K w:T_IntS) (hn:nb≤1048576∧np≤1048576) (hK:K.1≤1048576) (hw:w.1≤1048576) :
    Con Tryz.prog 98 0 [] [tsA g nb N pl np K,inL w] [] (.p (.bool (bif strcB g nb N pl np K w then ffF g nb N pl np==0 else false))):=by
  have c1:=con_Strict_i g nb N pl np K w hn hK hw
  have c2:=(con_IsStiff g nb N pl np hn).1
  refine csZ Tryz.func98 (fun c hc=>?_)
  refine pkZ Tryz.func98 hc (pvsi g nb N pl np K w (strcB g nb N pl np K w) (ffF g nb N pl np==0)) ?_
  repeat' (first | exact aN | apply aI)
  all_goals (first | exact aG _ | omega | rfl | (intros;first | assumption | exact trivial | rfl | exact fT ‹_›) | (exact c1) | (intros;exact c2) | (intro h;exact h) | rfl)
theorem con_PLoose_i (g:Nat→T_Bar) (nb:Nat) (N:Int) (pl:Nat→T_Place) (np:Nat) (K v:T_IntS) (hn:nb≤1048576∧np≤1048576) (hK:K.1≤1048576) (hv:v.1≤1048576) :
    Con Tryz.prog 99 0 [] [tsA g nb N pl np K,inL v] [] (.p (.bool (bif alwB g nb N pl np K v then !tmB g nb N pl np v else false))):=by
  have c1:=con_Allowed_i g nb N pl np K v hn hK hv
  have c2:=con_Trivial_i g nb N pl np v hn hv
  refine csZ Tryz.func99 (fun c hc=>?_)
  refine pkZ Tryz.func99 hc (pvli g nb N pl np K v (alwB g nb N pl np K v) (tmB g nb N pl np v)) ?_
  repeat' (first | exact aN | apply aI)
  all_goals (first | exact aG _ | omega | rfl | (intros;first | assumption | exact trivial | rfl | exact fT ‹_›) | (exact c1) | (intros;exact c2) | (intro h;exact h) | rfl)
theorem con_PStiff_s (g:Nat→T_Bar) (nb:Nat) (N:Int) (pl:Nat→T_Place) (np:Nat) (K w:T_IntS) (hn:nb≤1048576∧np≤1048576) (hK:K.1≤1048576) (hw:w.1≤1048576) :
    Con Tryz.prog 88 0 [] [tsA g nb N pl np K,inL w] [] (.p (.bool (bif strcB g nb N pl np K w then ffF g nb N pl np==0 else false))):=by
  have c1:=con_Strict_s g nb N pl np K w hn hK hw
  have c2:=(con_IsStiff g nb N pl np hn).2
  refine csZ Tryz.func88 (fun c hc=>?_)
  refine pkZ Tryz.func88 hc (pvss g nb N pl np K w (strcB g nb N pl np K w) (ffF g nb N pl np==0)) ?_
  repeat' (first | exact aN | apply aI)
  all_goals (first | exact aG _ | omega | rfl | (intros;first | assumption | exact trivial | rfl | exact fT ‹_›) | (exact c1) | (intros;exact c2) | (intro h;exact h) | rfl)
theorem con_PLoose_s (g:Nat→T_Bar) (nb:Nat) (N:Int) (pl:Nat→T_Place) (np:Nat) (K v:T_IntS) (hn:nb≤1048576∧np≤1048576) (hK:K.1≤1048576) (hv:v.1≤1048576) :
    Con Tryz.prog 89 0 [] [tsA g nb N pl np K,inL v] [] (.p (.bool (bif alwB g nb N pl np K v then !tmB g nb N pl np v else false))):=by
  have c1:=con_Allowed_s g nb N pl np K v hn hK hv
  have c2:=con_Trivial12 g nb N pl np v hn hv
  refine csZ Tryz.func89 (fun c hc=>?_)
  refine pkZ Tryz.func89 hc (pvls g nb N pl np K v (alwB g nb N pl np K v) (tmB g nb N pl np v)) ?_
  repeat' (first | exact aN | apply aI)
  all_goals (first | exact aG _ | omega | rfl | (intros;first | assumption | exact trivial | rfl | exact fT ‹_›) | (exact c1) | (intros;exact c2) | (intro h;exact h) | rfl)
end Go.Proofs.YtkkjoghiigiokaaGreat.Mach
namespace Go.Proofs
open Go Go.Shelf Go.RowKit Go.Lib Go.Sort
set_option linter.unusedVariables false
set_option linter.unusedSimpArgs false
shelf_lay_g SlLaysM.n5 Slgm 5 at Tryz 276 as Tryz.sortInt
end Go.Proofs
namespace Go.Proofs.YtkkjoghiigiokaaGreat.Mach
open Go Go.Shelf Go.RowKit Go.Lib Go.Sort
set_option linter.unusedVariables false
set_option linter.unusedSimpArgs false
end Go.Proofs.YtkkjoghiigiokaaGreat.Mach
namespace Go.Proofs.YtkkjoghiigiokaaGreat.Mach
open Go
set_option linter.unusedVariables false
set_option linter.unusedSimpArgs false
def z2:Ob:=⟨true,2,1,fun _=>[.p (.int .i64 0),.p .nil]⟩
def gbx (n:Int) (j c:Nat):Ob:=⟨true,2,1,fun _=>[.p (.int .i64 n),.ar 2 j 0 c]⟩
end Go.Proofs.YtkkjoghiigiokaaGreat.Mach
namespace Go.Proofs.YtkkjoghiigiokaaGreat.Mach
open Go
set_option linter.unusedVariables false
set_option linter.unusedSimpArgs false
def WBs (N:Int) (n:Nat) (h:Nat→T_Bar):St :=
  ⟨[.p .any,.p .any,.p .any,.p .any,.pt 2 0 0 0,.pt 2 1 0 0]++List.replicate 11 anyA,[(0,z2),(1,gbx N 2 n),(2,brOb n h)],3⟩
theorem wcp (N n:Nat) (h:Nat→T_Bar) :
    pathOb Tryz.prog Tryz.f63 0 [rg 2,rg 8] [.code (bodyOf Tryz.f63)] (start Tryz.f63 [] 0 [grG h n N]) [224] 1 [(0,brOb n h)] (.agg [.p (.int .i64 N),.ar 2 0 0 n]) =
    some [(NT 0 1),(NT 0 1),(NL 0 0),(NL ((0+n)*16) 140737488355328),(NL (0+n) 9223372036854775807),(NT 0 1),((true=true)→ (AN 1)),(NT 0 1),(AI ((↑N:Int))),(AN 0),(((0+n):Nat)=n),(AN 2),(NL n (0+n)),(AA n (fun i=>[.p (.int .i64 ((h i).1)),.p (.int .i64 ((h i).2.1))])),(AE n)]:=by kernel_rfl
theorem wbb (N n:Nat) (h r:Nat→T_Bar) :
    pathOb Tryz.prog Tryz.f225 0 [rm [(2,oq [2] [(0,brOb n r)] (.tup []))] 0,rg 2] [.code (cAt (bodyOf Tryz.f225) [1,1,1,0]),.code (cAt (bodyOf Tryz.f225) [1,1,1,1])] (WBs N n h) [2] 1 [(0,brOb n r)] (.agg [.p (.int .i64 N),.ar 2 0 0 n]) =
    some [(NT 0 1),(AE n),Con Tryz.prog 312 1 (zf122 n h) [.ar 2 0 0 n,.p (.fn 180)] (zf122 n r) (.tup []),(NT 0 1),(NT 0 1),((true=true)→ (AN 1)),(NT 0 1),(AI ((↑N:Int))),(AN 0),(AN n),(AN 2),(NL n n),(AA n (fun i=>[.p (.int .i64 ((r i).1)),.p (.int .i64 ((r i).2.1))])),(AE n)]:=by kernel_rfl
theorem con_copyG (N n:Nat) (h:Nat→T_Bar) (hn:n≤1048576):Con Tryz.prog 63 0 [] [grG h n N] [(0,brOb n h)] (.agg [.p (.int .i64 N),.ar 2 0 0 n]):=by
  refine csZ Tryz.func63 (fun c hc=>?_)
  refine pkZ Tryz.func63 hc (wcp N n h) ?_
  repeat' (first | exact aN | apply aI)
  all_goals (first | exact aA _ _ | exact aE _ | omega | rfl | (intros;first | assumption | exact trivial | rfl | exact fT ‹_›) | (intro j hj;simp [All];done) | (simp;try omega))
end Go.Proofs.YtkkjoghiigiokaaGreat.Mach
namespace Go.Proofs.YtkkjoghiigiokaaGreat.Mach
open Go Go.Sort
set_option linter.unusedVariables false
set_option linter.unusedSimpArgs false
theorem bCi (v:T_Graph) :
    pathOb Tryz.prog Tryz.f63 0 [rg 2,rg 8] [.code (bodyOf Tryz.f63)] (start Tryz.f63 [] 0 [graphA v]) [224] 1 [(0,brOb v.2.1.1 v.2.1.2)] (.agg [.p (.int .i64 v.1),.ar 2 0 0 v.2.1.1]) =
    some [(NT 0 1),(NT 0 1),(NL 0 0),(NL ((0+v.2.1.1)*16) 140737488355328),(NL (0+v.2.1.1) 9223372036854775807),(NT 0 1),((true=true)→ (AN 1)),(NT 0 1),(AI v.1),(AN 0),(((0+v.2.1.1):Nat)=v.2.1.1),(AN 2),(NL v.2.1.1 (0+v.2.1.1)),(AA v.2.1.1 (fun i=>[.p (.int .i64 ((v.2.1.2 i).1)),.p (.int .i64 ((v.2.1.2 i).2.1))])),(AE v.2.1.1)]:=by kernel_rfl
theorem bCs (v:T_Graph) :
    pathOb Tryz.prog Tryz.f52 0 [rg 2,rg 8] [.code (bodyOf Tryz.f52)] (start Tryz.f52 [] 0 [graphA v]) [224] 1 [(0,brOb v.2.1.1 v.2.1.2)] (.agg [.p (.int .i64 v.1),.ar 2 0 0 v.2.1.1]) =
    some [(NT 0 1),(NT 0 1),(NL 0 0),(NL ((0+v.2.1.1)*16) 140737488355328),(NL (0+v.2.1.1) 9223372036854775807),(NT 0 1),((true=true)→ (AN 1)),(NT 0 1),(AI v.1),(AN 0),(((0+v.2.1.1):Nat)=v.2.1.1),(AN 2),(NL v.2.1.1 (0+v.2.1.1)),(AA v.2.1.1 (fun i=>[.p (.int .i64 ((v.2.1.2 i).1)),.p (.int .i64 ((v.2.1.2 i).2.1))])),(AE v.2.1.1)]:=by kernel_rfl
theorem con_copyGraph (v:T_Graph) (hn:v.2.1.1≤1048576):Con Tryz.prog 63 0 [] [graphA v] [(0,brOb v.2.1.1 v.2.1.2)] (.agg [.p (.int .i64 v.1),.ar 2 0 0 v.2.1.1]):=by
  refine csZ Tryz.func63 (fun c hc=>?_)
  refine pkZ Tryz.func63 hc (bCi v) ?_
  repeat' (first | exact aN | apply aI)
  all_goals (first | exact aA _ _ | exact aE _ | omega | rfl | (intros;first | assumption | exact trivial | rfl | exact fT ‹_›) | (intro j hj;simp [All];done) | (simp;try omega))
theorem con_l2Copy (v:T_Graph) (hn:v.2.1.1≤1048576):Con Tryz.prog 52 0 [] [graphA v] [(0,brOb v.2.1.1 v.2.1.2)] (.agg [.p (.int .i64 v.1),.ar 2 0 0 v.2.1.1]):=by
  refine csZ Tryz.func52 (fun c hc=>?_)
  refine pkZ Tryz.func52 hc (bCs v) ?_
  repeat' (first | exact aN | apply aI)
  all_goals (first | exact aA _ _ | exact aE _ | omega | rfl | (intros;first | assumption | exact trivial | rfl | exact fT ‹_›) | (intro j hj;simp [All];done) | (simp;try omega))
end Go.Proofs.YtkkjoghiigiokaaGreat.Mach
namespace Go.Proofs.YtkkjoghiigiokaaGreat.Mach
open Go
set_option linter.unusedVariables false
set_option linter.unusedSimpArgs false
def dlB (h:Nat→T_Bar) (e i:Nat):T_Bar:=if i<e then h i else h (i+1)
theorem gRi (g:Nat→T_Bar) (nb N e:Nat) :
    pathOb Tryz.prog Tryz.f303 0 [rg 3,rm [(1,oc [(0,brOb nb g)] (.agg [.p (.int .i64 N),.ar 2 0 0 nb]))] 2,rm [(1,oc [] (.p (.bool true))),(7,oc [] (.p (.bool true)))] 2,.dec false,rg 12,rg 3] [.code (bodyOf Tryz.f303)] (start Tryz.f303 [] 0 [grG g nb N,.p (.int .i64 e)]) [896] 1 [(0,brOb (nb - 1) (dlB g e))] (.tup [.agg [.p (.int .i64 N),.ar 2 0 0 (nb - 1)],.p (.bool true)]) =
    some [(NT 0 1),Con Tryz.prog 63 0 [] [(zf113 N nb g)] (zf122 nb g) (.agg [.p (.int .i64 (↑N:Int)),.ar 2 0 0 nb]),(NT 0 1),((true=true)→ (AN 1)),(NT 0 1),Con Tryz.prog 62 0 [] [(zf113 N nb g)] [] (.p (.bool true)),(AG (!!true)),(((!!true)=true)→(NT 0 1)),(AG (!!true)),(AG (!!true)),(((!!true)=true)→(ZLo ((↑nb:Int) - 1))),(((!!true)=true)→(ZHi ((↑nb:Int) - 1))),(AG (!!true)),(AG (!!true)),(((!!true)=true)→ Con Tryz.prog 179 0 [] [.p (.int .i64 (↑e:Int)),.p (.int .i64 0),.p (.int .i64 ((↑nb:Int) - 1))] [] (.p (.bool true))),(AG (!!true)),(((!true)=false)→ ((!!true)=true)),((bif !true then true else !true)=false),(NT 0 1),(IL 0 0),(IL 0 (↑e:Int)),(IL (↑e:Int) (↑nb:Int)),(NT 0 1),(ZLo ((↑e:Int)+1)),(ZHi ((↑e:Int)+1)),(IL 0 ((↑e:Int)+1)),(IL ((↑e:Int)+1) (↑nb:Int)),(IL (↑nb:Int) (↑nb:Int)),(NL (nb - (e+1)+(e+1)) nb),(NL e nb),(NL ((e+(nb - (e+1)))*16) 140737488355328),(NL (e+(nb - (e+1))) 9223372036854775807),(NT 0 1),((true=true)→ (AN 1)),(NT 0 1),(NT 0 1),((true=true)→ (AN 1)),(NT 0 1),(AI ((↑N:Int))),(AN 0),(((e+(nb - (e+1))):Nat)=(nb - 1)),(true=true),(AN 2),(NL (nb - 1) (e+(nb - (e+1)))),(∀ i:Nat,(((i:Nat)<(nb - 1))→(All (cvtL false [(32,⟨true,2,1,(fun i_1=>[.p (.int .i64 (↑N:Int)),.ar 2 896 0 (e+(nb - (e+1)))])⟩),(160,⟨true,2,1,(fun i_1=>[.p (.int .i64 (↑N:Int)),.ar 2 896 0 (e+(nb - (e+1)))])⟩),(896,⟨false,2,(e+(nb - (e+1))),(fun i_1=>(if (i_1<e) then [.p (.int .i64 ((g i_1).1)),.p (.int .i64 ((g i_1).2.1))] else [.p (.int .i64 ((g (i_1 - e+(e+1))).1)),.p (.int .i64 ((g (i_1 - e+(e+1))).2.1))]))⟩),(0,⟨true,2,1,(fun i_1=>[.p (.int .i64 (↑N:Int)),.p (.seq true 2 nb (fun i_2=>[.int .i64 ((g i_2).1),.int .i64 ((g i_2).2.1)]))])⟩)] [896] 1 (if (i<e) then [.p (.int .i64 ((g i).1)),.p (.int .i64 ((g i).2.1))] else [.p (.int .i64 ((g (i - e+(e+1))).1)),.p (.int .i64 ((g (i - e+(e+1))).2.1))])).2∧(((cvtL false [(32,⟨true,2,1,(fun i_1=>[.p (.int .i64 (↑N:Int)),.ar 2 896 0 (e+(nb - (e+1)))])⟩),(160,⟨true,2,1,(fun i_1=>[.p (.int .i64 (↑N:Int)),.ar 2 896 0 (e+(nb - (e+1)))])⟩),(896,⟨false,2,(e+(nb - (e+1))),(fun i_1=>(if (i_1<e) then [.p (.int .i64 ((g i_1).1)),.p (.int .i64 ((g i_1).2.1))] else [.p (.int .i64 ((g (i_1 - e+(e+1))).1)),.p (.int .i64 ((g (i_1 - e+(e+1))).2.1))]))⟩),(0,⟨true,2,1,(fun i_1=>[.p (.int .i64 (↑N:Int)),.p (.seq true 2 nb (fun i_2=>[.int .i64 ((g i_2).1),.int .i64 ((g i_2).2.1)]))])⟩)] [896] 1 (if (i<e) then [.p (.int .i64 ((g i).1)),.p (.int .i64 ((g i).2.1))] else [.p (.int .i64 ((g (i - e+(e+1))).1)),.p (.int .i64 ((g (i - e+(e+1))).2.1))])).1:List AV)=[.p (.int .i64 ((dlB g e i).1)),.p (.int .i64 ((dlB g e i).2.1))])))),(AE ((nb - 1)))]:=by kernel_rfl
theorem gRs (g:Nat→T_Bar) (nb N e:Nat) :
    pathOb Tryz.prog Tryz.f259 0 [rg 3,rm [(1,oc [] (.p (.bool true)))] 12,.dec false,rg 17] [.code (bodyOf Tryz.f259)] (start Tryz.f259 [] 0 [grG g nb N,.p (.int .i64 e)]) [960] 1 [(0,brOb (nb - 1) (dlB g e))] (.tup [.agg [.p (.int .i64 N),.ar 2 0 0 (nb - 1)],.p (.bool true)]) =
    some [(NT 0 1),Con Tryz.prog 53 0 [] [(zf113 N nb g)] [] (.p (.bool true)),(AG (!!true)),(((!true)=false)→ ((!!true)=true)),(AG (!bif !true then true else decide ((↑e:Int)<0))),(((!bif !true then true else decide ((↑e:Int)<0))=true)→(NT 0 1)),(AG (!bif !true then true else decide ((↑e:Int)<0))),(AG (!bif !true then true else decide ((↑e:Int)<0))),(AG (!bif !true then true else decide ((↑e:Int)<0))),(((bif !true then true else decide ((↑e:Int)<0))=false)→ ((!bif !true then true else decide ((↑e:Int)<0))=true)),((bif bif !true then true else decide ((↑e:Int)<0) then true else decide ((↑e:Int)≥(↑nb:Int)))=false),(NT 0 1),(NT 0 1),(IL 0 0),(IL 0 (↑e:Int)),(IL (↑e:Int) (↑nb:Int)),(NL 0 0),(NL ((0+e)*16) 140737488355328),(NL (0+e) 9223372036854775807),(NT 0 1),(ZLo ((↑e:Int)+1)),(ZHi ((↑e:Int)+1)),(IL 0 ((↑e:Int)+1)),(IL ((↑e:Int)+1) (↑nb:Int)),(IL (↑nb:Int) (↑nb:Int)),(NL (0+e) (0+e)),(NL ((0+e+(nb - (e+1)))*16) 140737488355328),(NL (0+e+(nb - (e+1))) 9223372036854775807),(NT 0 1),((true=true)→ (AN 1)),(NT 0 1),(AI ((↑N:Int))),(AN 0),(((0+e+(nb - (e+1))):Nat)=(nb - 1)),(true=true),(AN 2),(NL (nb - 1) (0+e+(nb - (e+1)))),(∀ i:Nat,(((i:Nat)<(nb - 1))→(All (cvtL false [(32,⟨true,2,1,(fun i_1=>[.p (.int .i64 (↑N:Int)),.ar 2 960 0 (0+e+(nb - (e+1)))])⟩),(960,⟨false,2,(0+e+(nb - (e+1))),(fun i_1=>(if (i_1<0+e) then [.p (.int .i64 ((g i_1).1)),.p (.int .i64 ((g i_1).2.1))] else [.p (.int .i64 ((g (i_1 - (0+e)+(e+1))).1)),.p (.int .i64 ((g (i_1 - (0+e)+(e+1))).2.1))]))⟩),(0,⟨true,2,1,(fun i_1=>[.p (.int .i64 (↑N:Int)),.p (.seq true 2 nb (fun i_2=>[.int .i64 ((g i_2).1),.int .i64 ((g i_2).2.1)]))])⟩)] [960] 1 (if (i<0+e) then [.p (.int .i64 ((g i).1)),.p (.int .i64 ((g i).2.1))] else [.p (.int .i64 ((g (i - (0+e)+(e+1))).1)),.p (.int .i64 ((g (i - (0+e)+(e+1))).2.1))])).2∧(((cvtL false [(32,⟨true,2,1,(fun i_1=>[.p (.int .i64 (↑N:Int)),.ar 2 960 0 (0+e+(nb - (e+1)))])⟩),(960,⟨false,2,(0+e+(nb - (e+1))),(fun i_1=>(if (i_1<0+e) then [.p (.int .i64 ((g i_1).1)),.p (.int .i64 ((g i_1).2.1))] else [.p (.int .i64 ((g (i_1 - (0+e)+(e+1))).1)),.p (.int .i64 ((g (i_1 - (0+e)+(e+1))).2.1))]))⟩),(0,⟨true,2,1,(fun i_1=>[.p (.int .i64 (↑N:Int)),.p (.seq true 2 nb (fun i_2=>[.int .i64 ((g i_2).1),.int .i64 ((g i_2).2.1)]))])⟩)] [960] 1 (if (i<0+e) then [.p (.int .i64 ((g i).1)),.p (.int .i64 ((g i).2.1))] else [.p (.int .i64 ((g (i - (0+e)+(e+1))).1)),.p (.int .i64 ((g (i - (0+e)+(e+1))).2.1))])).1:List AV)=[.p (.int .i64 ((dlB g e i).1)),.p (.int .i64 ((dlB g e i).2.1))])))),(AE ((nb - 1)))]:=by kernel_rfl
theorem dl_graph {N nb:Nat} {g:Nat→T_Bar} (hg:isGraphF ((N:Int),(nb,g),())=true) {e:Nat} (he:e<nb):isGraphF ((N:Int),(nb - 1,dlB g e),())=true:=by
  obtain ⟨h1,h2,h3⟩:=graph_in hg
  have ha:=asc_of hg
  refine isG_of h1 (by omega) (fun i hi=>?_) (fun s hs=>?_)
  · unfold dlB
    split
    · exact h3 i (by omega)
    · exact h3 (i+1) (by omega)
  · unfold dlB
    split<;>split
    · exact ha s (by omega)
    · exact asc_lt ha (by omega) (by omega)
    · omega
    · exact ha (s+1) (by omega)
theorem con_gRemove_i {N nb:Nat} {g:Nat→T_Bar} (hg:isGraphF ((N:Int),(nb,g),())=true) (e:Nat) (he:e<nb) :
    Con Tryz.prog 303 0 [] [grG g nb N,.p (.int .i64 e)] [(0,brOb (nb - 1) (dlB g e))] (.tup [.agg [.p (.int .i64 N),.ar 2 0 0 (nb - 1)],.p (.bool true)]):=by
  obtain ⟨h1,h2,h3⟩:=graph_in hg
  have c1:=con_IsGraph_i ((N:Int),(nb,g),()) (sm_graph (by show nb≤_;omega))
  rw [hg] at c1
  have c2:=con_copyGraph ((N:Int),(nb,g),()) (by show nb≤_;omega)
  have c3:=con_within (e:Int) 0 ((nb:Int) - 1)
  rw [show inB (e:Int) 0 ((nb:Int) - 1)=true by simp [inB];omega] at c3
  refine csZ Tryz.func303 (fun c hc=>?_)
  refine pkZ Tryz.func303 hc (gRi g nb N e) ?_
  repeat' (first | exact aN | apply aI)
  all_goals (first | exact aG _ | exact aE _ | omega | rfl | (intros;first | assumption | exact trivial | rfl | exact fT ‹_› | ((repeat' (first | assumption | apply anda | apply notf));done)) | (exact c2) | (exact c1) | (intros;exact c3) | (exact c3) | (intro t ht;rcases Nat.lt_or_ge t e with h1 | h1;(simp [h1,dlB,cvtL,cvt,tg,tru,All]);((try dsimp only);rw [if_neg (show ¬ t<e by omega)];rw [show t - e+(e+1)=t+1 by omega];simp [show ¬ t<e by omega,dlB,cvtL,cvt,tg,tru,All])))
theorem con_gRemove_s {N nb:Nat} {g:Nat→T_Bar} (hg:isGraphF ((N:Int),(nb,g),())=true) (e:Nat) (he:e<nb) :
    Con Tryz.prog 259 0 [] [grG g nb N,.p (.int .i64 e)] [(0,brOb (nb - 1) (dlB g e))] (.tup [.agg [.p (.int .i64 N),.ar 2 0 0 (nb - 1)],.p (.bool true)]):=by
  obtain ⟨h1,h2,h3⟩:=graph_in hg
  have c1:=con_IsGraph_s ((N:Int),(nb,g),()) (sm_graph (by show nb≤_;omega))
  rw [hg] at c1
  have hd:(bif bif !true then true else decide ((e:Int)<0) then true else decide ((e:Int)≥(nb:Int)))=false:=by
    rw [decide_eq_false (show ¬ ((e:Int)<0) by omega),decide_eq_false (show ¬ ((e:Int)≥(nb:Int)) by omega)];rfl
  refine csZ Tryz.func259 (fun c hc=>?_)
  refine pkZ Tryz.func259 hc (gRs g nb N e) ?_
  repeat' (first | exact aN | apply aI)
  all_goals (first | exact aG _ | exact aE _ | omega | rfl | (intros;first | assumption | exact trivial | rfl | exact fT ‹_› | ((repeat' (first | assumption | apply anda | apply notf));done)) | (exact c1) | (exact hd) | (intro t ht;rcases Nat.lt_or_ge t e with h1 | h1;(simp [h1,dlB,cvtL,cvt,tg,tru,All]);((try dsimp only);rw [if_neg (show ¬ t<0+e by omega),show t - (0+e)+(e+1)=t+1 by omega];simp [show ¬ t<e by omega,dlB,cvtL,cvt,tg,tru,All])))
end Go.Proofs.YtkkjoghiigiokaaGreat.Mach
