/- What the law Ck needs, part 3 of 6: the abstract machine and the contracts of the functions. Conditions: as each theorem says. -/
import Derived.Shelf.SlLaysF0
import Derived.Shelf.SlGeneric
import Derived.Shelf.SlSortCmp.InsertionK
import Derived.Ground.SlsfProg
import Derived.Sort.Grow
import Derived.Sort.Row
import Derived.Shelf.SlSortCmp.NoneTotal
import Derived.WalkKit
import Derived.Test.YtkkjoghiigiokaaGreatCkP2
namespace Go.Proofs.YtkkjoghiigiokaaGreat.Mach
open Go
set_option linter.unusedVariables false
set_option linter.unusedSimpArgs false
def aft (a b:T_Bar):Bool:=bif decide (a.1<b.1) then true else bif a.1==b.1 then decide (a.2.1≤b.2.1) else false
def cmpI (x y:Int):Int:=if x<y then -1 else if x>y then 1 else 0
def cmpB (a b:T_Bar):Int:=if cmpI a.1 b.1=0 then cmpI a.2.1 b.2.1 else cmpI a.1 b.1
def badB (N:Int) (g:Nat→T_Bar) (k:Nat):Bool :=
  bif bif bif decide ((g k).1<0) then true else decide ((g k).1≥(g k).2.1) then true else decide ((g k).2.1≥N) then true
    else bif decide ((k:Int)>0) then !aft (g ((k:Int) - 1).toNat) (g k) else false
def goodB (N:Int) (g:Nat→T_Bar):Nat→Bool
  | 0=>true
  | k+1=>goodB N g k&&!badB N g k
def isGraphF (v:T_Graph):Bool:=if inB v.1 1 8=true∧v.2.1.1≤24 then goodB v.1 v.2.1.2 v.2.1.1 else false
def barA (a:T_Bar):AV:=.agg [.p (.int .i64 a.1),.p (.int .i64 a.2.1)]
def graphL (v:T_BarS):AV:=.p (.seq true 2 v.1 (fun i=>[.int .i64 (v.2 i).1,.int .i64 (v.2 i).2.1]))
def graphA (v:T_Graph):AV:=.agg [.p (.int .i64 v.1),graphL v.2.1]
def boxG (v:T_Graph):Ob:=⟨true,2,1,fun i=>[.p (.int .i64 v.1),graphL v.2.1]⟩
def S48 (v:T_Graph) (k:Nat):St :=
  ⟨[graphA v,.pt 2 0 0 0,.p .any,.p (.int .i64 k)]++List.replicate 55 anyA,[(0,boxG v)],1⟩
def S51 (v:T_Graph) (k:Nat):St :=
  ⟨[graphA v,.pt 2 0 0 0]++List.replicate 14 anyA++[graphL v.2.1,.p (.int .i64 v.2.1.1),.p (.int .i64 k)]++List.replicate 37 anyA,[(0,boxG v)],1⟩
theorem p57 (a b:T_Bar) :
    pathOb Tryz.prog Tryz.f168 0 [rg 3,rg 20] [.code (bodyOf Tryz.f168)] (start Tryz.f168 [] 0 [barA a,barA b]) [] 1 [] (.p (.bool (aft a b))) =
    some [(NT 0 1),(NT 0 1),(AG (!decide (a.1<b.1))),(((!decide (a.1<b.1))=true)→(NT 0 1)),(AG (!decide (a.1<b.1))),(((!decide (a.1<b.1))=true)→(NT 0 1)),(AG (!decide (a.1<b.1))),(AG (!decide (a.1<b.1))),(AG (!decide (a.1<b.1))),(AG (!decide (a.1<b.1)&&a.1==b.1)),(((!decide (a.1<b.1)&&a.1==b.1)=true)→(NT 0 1)),(AG (!decide (a.1<b.1)&&a.1==b.1)),(((!decide (a.1<b.1)&&a.1==b.1)=true)→(NT 0 1)),(AG (!decide (a.1<b.1)&&a.1==b.1)),(AG (!decide (a.1<b.1)&&a.1==b.1)),(AG (!decide (a.1<b.1))),(((!decide (a.1<b.1))=true)→(((a.1==b.1)=true)→ ((!decide (a.1<b.1)&&a.1==b.1)=true))),(((decide (a.1<b.1))=false)→ ((!decide (a.1<b.1))=true)),((bif decide (a.1<b.1) then true else bif a.1==b.1 then decide (a.2.1≤b.2.1) else false)=(aft a b))]:=by kernel_rfl
theorem p62a (x y:Int) :
    pathOb Tryz.prog Tryz.f287 0 [rg 1,rg 4,.dec true,rg 1] [.code (bodyOf Tryz.f287)] (start Tryz.f287 [] 0 [.p (.int .i64 x),.p (.int .i64 y)]) [] 1 [] (.p (.int .i64 (-1))) =
    some [((decide (x<y))=true),(AI ((-1)))]:=by kernel_rfl
theorem p62b (x y:Int) :
    pathOb Tryz.prog Tryz.f287 0 [rg 1,rg 4,.dec false,rg 4,.dec true,rg 1] [.code (bodyOf Tryz.f287)] (start Tryz.f287 [] 0 [.p (.int .i64 x),.p (.int .i64 y)]) [] 1 [] (.p (.int .i64 1)) =
    some [((decide (x<y))=false),((decide (x>y))=true),(AI 1)]:=by kernel_rfl
theorem p62c (x y:Int) :
    pathOb Tryz.prog Tryz.f287 0 [rg 1,rg 4,.dec false,rg 4,.dec false,rg 1] [.code (bodyOf Tryz.f287)] (start Tryz.f287 [] 0 [.p (.int .i64 x),.p (.int .i64 y)]) [] 1 [] (.p (.int .i64 0)) =
    some [((decide (x<y))=false),((decide (x>y))=false),(AI 0)]:=by kernel_rfl
theorem p59a (a b:T_Bar) :
    pathOb Tryz.prog Tryz.f180 0 [rg 3,rm [(4,oc [] (.p (.int .i64 (cmpI a.1 b.1))))] 1,rg 2,.dec true,rg 2] [.code (bodyOf Tryz.f180)] (start Tryz.f180 [] 0 [barA a,barA b]) [] 1 [] (.p (.int .i64 (cmpI a.1 b.1))) =
    some [(NT 0 1),(NT 0 1),Con Tryz.prog 287 0 [] [.p (.int .i64 a.1),.p (.int .i64 b.1)] [] (.p (.int .i64 (cmpI a.1 b.1))),((cmpI a.1 b.1 != 0)=true),(AI ((cmpI a.1 b.1)))]:=by kernel_rfl
theorem p59b (a b:T_Bar) :
    pathOb Tryz.prog Tryz.f180 0 [rg 3,rm [(4,oc [] (.p (.int .i64 (cmpI a.1 b.1))))] 1,rg 2,.dec false,rm [(4,oc [] (.p (.int .i64 (cmpI a.2.1 b.2.1))))] 1] [.code (bodyOf Tryz.f180)] (start Tryz.f180 [] 0 [barA a,barA b]) [] 1 [] (.p (.int .i64 (cmpI a.2.1 b.2.1))) =
    some [(NT 0 1),(NT 0 1),Con Tryz.prog 287 0 [] [.p (.int .i64 a.1),.p (.int .i64 b.1)] [] (.p (.int .i64 (cmpI a.1 b.1))),((cmpI a.1 b.1 != 0)=false),(NT 0 1),(NT 0 1),Con Tryz.prog 287 0 [] [.p (.int .i64 a.2.1),.p (.int .i64 b.2.1)] [] (.p (.int .i64 (cmpI a.2.1 b.2.1))),(AI ((cmpI a.2.1 b.2.1)))]:=by kernel_rfl
theorem p48z (v:T_Graph) :
    pathOb Tryz.prog Tryz.f53 0 [rg 2,rm [(2,oc [] (.p (.bool (inB v.1 1 8))))] 7,.dec true,rg 1] [.code (bodyOf Tryz.f53)] (start Tryz.f53 [] 0 [graphA v]) [] 1 [] (.p (.bool false)) =
    some [(NT 0 1),Con Tryz.prog 167 0 [] [.p (.int .i64 v.1),.p (.int .i64 1),.p (.int .i64 8)] [] (.p (.bool (inB v.1 1 8))),(AG (!!inB v.1 1 8)),(((!!inB v.1 1 8)=true)→(NT 0 1)),(AG (!!inB v.1 1 8)),(AG (!!inB v.1 1 8)),(((!inB v.1 1 8)=false)→ ((!!inB v.1 1 8)=true)),((bif !inB v.1 1 8 then true else decide ((↑v.2.1.1:Int)>24))=true),(false=false)]:=by kernel_rfl
theorem p48a (v:T_Graph) :
    pieceOb Tryz.prog 0 [rg 2,rm [(2,oc [] (.p (.bool (inB v.1 1 8))))] 7,.dec false,rg 1,.head] [.code (bodyOf Tryz.f53)] (start Tryz.f53 [] 0 [graphA v]) [0] 1 (S48 v 0) =
    some (zf82,[(NT 0 1),Con Tryz.prog 167 0 [] [.p (.int .i64 v.1),.p (.int .i64 1),.p (.int .i64 8)] [] (.p (.bool (inB v.1 1 8))),(AG (!!inB v.1 1 8)),(((!!inB v.1 1 8)=true)→(NT 0 1)),(AG (!!inB v.1 1 8)),(AG (!!inB v.1 1 8)),(((!inB v.1 1 8)=false)→ ((!!inB v.1 1 8)=true)),((bif !inB v.1 1 8 then true else decide ((↑v.2.1.1:Int)>24))=false),(AI v.1),(AN v.2.1.1),(AP v.2.1.1 (fun i=>[.int .i64 ((v.2.1.2 i).1),.int .i64 ((v.2.1.2 i).2.1)])),(AN 0),((0:Int)=(↑0:Int)),((([AV.p (PV.int IntKind.i64 v.1),graphL v.2.1].length):Nat)=2),(NL 1 1),(NL 1 1),(AI v.1),(AN v.2.1.1),(AP v.2.1.1 (fun i=>[.int .i64 ((v.2.1.2 i).1),.int .i64 ((v.2.1.2 i).2.1)]))]):=by kernel_rfl
theorem p48b (v:T_Graph) (k:Nat) :
    pieceOb Tryz.prog 0 [rg 5,.dec true,rg 7,rm [(28,oc [] (.p (.bool (aft (v.2.1.2 ((k:Int) - 1).toNat) (v.2.1.2 k)))))] 3,.dec false,rg 3,.head] zf82 (S48 v k) [0] 1 (S48 v (k+1)) =
    some (zf82,[(NT 0 1),((decide ((↑k:Int)<(↑v.2.1.1:Int)))=true),(NT 0 1),(IL 0 (↑k:Int)),(IT (↑k:Int) (↑v.2.1.1:Int)),(NT 0 1),((true=true)→ (AN 1)),(NT 0 1),(AG (!decide ((v.2.1.2 (↑k:Int).toNat).1<0))),(((!decide ((v.2.1.2 (↑k:Int).toNat).1<0))=true)→(NT 0 1)),(AG (!decide ((v.2.1.2 (↑k:Int).toNat).1<0))),(((!decide ((v.2.1.2 (↑k:Int).toNat).1<0))=true)→(NT 0 1)),(AG (!decide ((v.2.1.2 (↑k:Int).toNat).1<0))),(AG (!decide ((v.2.1.2 (↑k:Int).toNat).1<0))),(((decide ((v.2.1.2 (↑k:Int).toNat).1<0))=false)→ ((!decide ((v.2.1.2 (↑k:Int).toNat).1<0))=true)),(AG (!bif decide ((v.2.1.2 (↑k:Int).toNat).1<0) then true else decide ((v.2.1.2 (↑k:Int).toNat).1≥(v.2.1.2 (↑k:Int).toNat).2.1))),(((!bif decide ((v.2.1.2 (↑k:Int).toNat).1<0) then true else decide ((v.2.1.2 (↑k:Int).toNat).1≥(v.2.1.2 (↑k:Int).toNat).2.1))=true)→(NT 0 1)),(AG (!bif decide ((v.2.1.2 (↑k:Int).toNat).1<0) then true else decide ((v.2.1.2 (↑k:Int).toNat).1≥(v.2.1.2 (↑k:Int).toNat).2.1))),(((!bif decide ((v.2.1.2 (↑k:Int).toNat).1<0) then true else decide ((v.2.1.2 (↑k:Int).toNat).1≥(v.2.1.2 (↑k:Int).toNat).2.1))=true)→(NT 0 1)),(AG (!bif decide ((v.2.1.2 (↑k:Int).toNat).1<0) then true else decide ((v.2.1.2 (↑k:Int).toNat).1≥(v.2.1.2 (↑k:Int).toNat).2.1))),(AG (!bif decide ((v.2.1.2 (↑k:Int).toNat).1<0) then true else decide ((v.2.1.2 (↑k:Int).toNat).1≥(v.2.1.2 (↑k:Int).toNat).2.1))),(((bif decide ((v.2.1.2 (↑k:Int).toNat).1<0) then true else decide ((v.2.1.2 (↑k:Int).toNat).1≥(v.2.1.2 (↑k:Int).toNat).2.1))=false)→ ((!bif decide ((v.2.1.2 (↑k:Int).toNat).1<0) then true else decide ((v.2.1.2 (↑k:Int).toNat).1≥(v.2.1.2 (↑k:Int).toNat).2.1))=true)),(AG (!bif bif decide ((v.2.1.2 (↑k:Int).toNat).1<0) then true else decide ((v.2.1.2 (↑k:Int).toNat).1≥(v.2.1.2 (↑k:Int).toNat).2.1) then true else decide ((v.2.1.2 (↑k:Int).toNat).2.1≥v.1))),(AG (!bif bif decide ((v.2.1.2 (↑k:Int).toNat).1<0) then true else decide ((v.2.1.2 (↑k:Int).toNat).1≥(v.2.1.2 (↑k:Int).toNat).2.1) then true else decide ((v.2.1.2 (↑k:Int).toNat).2.1≥v.1))),(AG ((!bif bif decide ((v.2.1.2 (↑k:Int).toNat).1<0) then true else decide ((v.2.1.2 (↑k:Int).toNat).1≥(v.2.1.2 (↑k:Int).toNat).2.1) then true else decide ((v.2.1.2 (↑k:Int).toNat).2.1≥v.1))&&decide ((↑k:Int)>0))),((((!bif bif decide ((v.2.1.2 (↑k:Int).toNat).1<0) then true else decide ((v.2.1.2 (↑k:Int).toNat).1≥(v.2.1.2 (↑k:Int).toNat).2.1) then true else decide ((v.2.1.2 (↑k:Int).toNat).2.1≥v.1))&&decide ((↑k:Int)>0))=true)→(NT 0 1)),(AG ((!bif bif decide ((v.2.1.2 (↑k:Int).toNat).1<0) then true else decide ((v.2.1.2 (↑k:Int).toNat).1≥(v.2.1.2 (↑k:Int).toNat).2.1) then true else decide ((v.2.1.2 (↑k:Int).toNat).2.1≥v.1))&&decide ((↑k:Int)>0))),((((!bif bif decide ((v.2.1.2 (↑k:Int).toNat).1<0) then true else decide ((v.2.1.2 (↑k:Int).toNat).1≥(v.2.1.2 (↑k:Int).toNat).2.1) then true else decide ((v.2.1.2 (↑k:Int).toNat).2.1≥v.1))&&decide ((↑k:Int)>0))=true)→(ZLo ((↑k:Int) - 1))),((((!bif bif decide ((v.2.1.2 (↑k:Int).toNat).1<0) then true else decide ((v.2.1.2 (↑k:Int).toNat).1≥(v.2.1.2 (↑k:Int).toNat).2.1) then true else decide ((v.2.1.2 (↑k:Int).toNat).2.1≥v.1))&&decide ((↑k:Int)>0))=true)→(ZHi ((↑k:Int) - 1))),(AG ((!bif bif decide ((v.2.1.2 (↑k:Int).toNat).1<0) then true else decide ((v.2.1.2 (↑k:Int).toNat).1≥(v.2.1.2 (↑k:Int).toNat).2.1) then true else decide ((v.2.1.2 (↑k:Int).toNat).2.1≥v.1))&&decide ((↑k:Int)>0))),(AG ((!bif bif decide ((v.2.1.2 (↑k:Int).toNat).1<0) then true else decide ((v.2.1.2 (↑k:Int).toNat).1≥(v.2.1.2 (↑k:Int).toNat).2.1) then true else decide ((v.2.1.2 (↑k:Int).toNat).2.1≥v.1))&&decide ((↑k:Int)>0))),((((!bif bif decide ((v.2.1.2 (↑k:Int).toNat).1<0) then true else decide ((v.2.1.2 (↑k:Int).toNat).1≥(v.2.1.2 (↑k:Int).toNat).2.1) then true else decide ((v.2.1.2 (↑k:Int).toNat).2.1≥v.1))&&decide ((↑k:Int)>0))=true)→(IL 0 ((↑k:Int) - 1))),((((!bif bif decide ((v.2.1.2 (↑k:Int).toNat).1<0) then true else decide ((v.2.1.2 (↑k:Int).toNat).1≥(v.2.1.2 (↑k:Int).toNat).2.1) then true else decide ((v.2.1.2 (↑k:Int).toNat).2.1≥v.1))&&decide ((↑k:Int)>0))=true)→(IT ((↑k:Int) - 1) (↑v.2.1.1:Int))),(AG ((!bif bif decide ((v.2.1.2 (↑k:Int).toNat).1<0) then true else decide ((v.2.1.2 (↑k:Int).toNat).1≥(v.2.1.2 (↑k:Int).toNat).2.1) then true else decide ((v.2.1.2 (↑k:Int).toNat).2.1≥v.1))&&decide ((↑k:Int)>0))),((((!bif bif decide ((v.2.1.2 (↑k:Int).toNat).1<0) then true else decide ((v.2.1.2 (↑k:Int).toNat).1≥(v.2.1.2 (↑k:Int).toNat).2.1) then true else decide ((v.2.1.2 (↑k:Int).toNat).2.1≥v.1))&&decide ((↑k:Int)>0))=true)→(NT 0 1)),(AG ((!bif bif decide ((v.2.1.2 (↑k:Int).toNat).1<0) then true else decide ((v.2.1.2 (↑k:Int).toNat).1≥(v.2.1.2 (↑k:Int).toNat).2.1) then true else decide ((v.2.1.2 (↑k:Int).toNat).2.1≥v.1))&&decide ((↑k:Int)>0))),(AG ((!bif bif decide ((v.2.1.2 (↑k:Int).toNat).1<0) then true else decide ((v.2.1.2 (↑k:Int).toNat).1≥(v.2.1.2 (↑k:Int).toNat).2.1) then true else decide ((v.2.1.2 (↑k:Int).toNat).2.1≥v.1))&&decide ((↑k:Int)>0))),((((!bif bif decide ((v.2.1.2 (↑k:Int).toNat).1<0) then true else decide ((v.2.1.2 (↑k:Int).toNat).1≥(v.2.1.2 (↑k:Int).toNat).2.1) then true else decide ((v.2.1.2 (↑k:Int).toNat).2.1≥v.1))&&decide ((↑k:Int)>0))=true)→ Con Tryz.prog 168 0 [] [(zf112 v k),(zf123 v k)] [] (.p (.bool (aft (v.2.1.2 ((↑k:Int) - 1).toNat) (v.2.1.2 k))))),(AG ((!bif bif decide ((v.2.1.2 (↑k:Int).toNat).1<0) then true else decide ((v.2.1.2 (↑k:Int).toNat).1≥(v.2.1.2 (↑k:Int).toNat).2.1) then true else decide ((v.2.1.2 (↑k:Int).toNat).2.1≥v.1))&&decide ((↑k:Int)>0))),(AG (!bif bif decide ((v.2.1.2 (↑k:Int).toNat).1<0) then true else decide ((v.2.1.2 (↑k:Int).toNat).1≥(v.2.1.2 (↑k:Int).toNat).2.1) then true else decide ((v.2.1.2 (↑k:Int).toNat).2.1≥v.1))),(((!bif bif decide ((v.2.1.2 (↑k:Int).toNat).1<0) then true else decide ((v.2.1.2 (↑k:Int).toNat).1≥(v.2.1.2 (↑k:Int).toNat).2.1) then true else decide ((v.2.1.2 (↑k:Int).toNat).2.1≥v.1))=true)→(((decide ((↑k:Int)>0))=true)→ (((!bif bif decide ((v.2.1.2 (↑k:Int).toNat).1<0) then true else decide ((v.2.1.2 (↑k:Int).toNat).1≥(v.2.1.2 (↑k:Int).toNat).2.1) then true else decide ((v.2.1.2 (↑k:Int).toNat).2.1≥v.1))&&decide ((↑k:Int)>0))=true))),(((bif bif decide ((v.2.1.2 (↑k:Int).toNat).1<0) then true else decide ((v.2.1.2 (↑k:Int).toNat).1≥(v.2.1.2 (↑k:Int).toNat).2.1) then true else decide ((v.2.1.2 (↑k:Int).toNat).2.1≥v.1))=false)→ ((!bif bif decide ((v.2.1.2 (↑k:Int).toNat).1<0) then true else decide ((v.2.1.2 (↑k:Int).toNat).1≥(v.2.1.2 (↑k:Int).toNat).2.1) then true else decide ((v.2.1.2 (↑k:Int).toNat).2.1≥v.1))=true)),((bif bif bif decide ((v.2.1.2 (↑k:Int).toNat).1<0) then true else decide ((v.2.1.2 (↑k:Int).toNat).1≥(v.2.1.2 (↑k:Int).toNat).2.1) then true else decide ((v.2.1.2 (↑k:Int).toNat).2.1≥v.1) then true else bif decide ((↑k:Int)>0) then !aft (v.2.1.2 ((↑k:Int) - 1).toNat) (v.2.1.2 k) else false)=false),(ZLo ((↑k:Int)+1)),(ZHi ((↑k:Int)+1)),(AI v.1),(AN v.2.1.1),(AP v.2.1.1 (fun i=>[.int .i64 ((v.2.1.2 i).1),.int .i64 ((v.2.1.2 i).2.1)])),(AN 0),((((↑k:Int)+1):Int)=(↑(k+1):Int)),(AN 2),(NL 1 1),(NL 1 1),(AI v.1),(AN v.2.1.1),(AP v.2.1.1 (fun i=>[.int .i64 ((v.2.1.2 i).1),.int .i64 ((v.2.1.2 i).2.1)]))]):=by kernel_rfl
theorem p48c (v:T_Graph) (k:Nat) :
    pathOb Tryz.prog Tryz.f53 0 [rg 5,.dec true,rg 7,rm [(28,oc [] (.p (.bool (aft (v.2.1.2 ((k:Int) - 1).toNat) (v.2.1.2 k)))))] 3,.dec true,rg 1] zf82 (S48 v k) [] 1 [] (.p (.bool false)) =
    some [(NT 0 1),((decide ((↑k:Int)<(↑v.2.1.1:Int)))=true),(NT 0 1),(IL 0 (↑k:Int)),(IT (↑k:Int) (↑v.2.1.1:Int)),(NT 0 1),((true=true)→ (AN 1)),(NT 0 1),(AG (!decide ((v.2.1.2 (↑k:Int).toNat).1<0))),(((!decide ((v.2.1.2 (↑k:Int).toNat).1<0))=true)→(NT 0 1)),(AG (!decide ((v.2.1.2 (↑k:Int).toNat).1<0))),(((!decide ((v.2.1.2 (↑k:Int).toNat).1<0))=true)→(NT 0 1)),(AG (!decide ((v.2.1.2 (↑k:Int).toNat).1<0))),(AG (!decide ((v.2.1.2 (↑k:Int).toNat).1<0))),(((decide ((v.2.1.2 (↑k:Int).toNat).1<0))=false)→ ((!decide ((v.2.1.2 (↑k:Int).toNat).1<0))=true)),(AG (!bif decide ((v.2.1.2 (↑k:Int).toNat).1<0) then true else decide ((v.2.1.2 (↑k:Int).toNat).1≥(v.2.1.2 (↑k:Int).toNat).2.1))),(((!bif decide ((v.2.1.2 (↑k:Int).toNat).1<0) then true else decide ((v.2.1.2 (↑k:Int).toNat).1≥(v.2.1.2 (↑k:Int).toNat).2.1))=true)→(NT 0 1)),(AG (!bif decide ((v.2.1.2 (↑k:Int).toNat).1<0) then true else decide ((v.2.1.2 (↑k:Int).toNat).1≥(v.2.1.2 (↑k:Int).toNat).2.1))),(((!bif decide ((v.2.1.2 (↑k:Int).toNat).1<0) then true else decide ((v.2.1.2 (↑k:Int).toNat).1≥(v.2.1.2 (↑k:Int).toNat).2.1))=true)→(NT 0 1)),(AG (!bif decide ((v.2.1.2 (↑k:Int).toNat).1<0) then true else decide ((v.2.1.2 (↑k:Int).toNat).1≥(v.2.1.2 (↑k:Int).toNat).2.1))),(AG (!bif decide ((v.2.1.2 (↑k:Int).toNat).1<0) then true else decide ((v.2.1.2 (↑k:Int).toNat).1≥(v.2.1.2 (↑k:Int).toNat).2.1))),(((bif decide ((v.2.1.2 (↑k:Int).toNat).1<0) then true else decide ((v.2.1.2 (↑k:Int).toNat).1≥(v.2.1.2 (↑k:Int).toNat).2.1))=false)→ ((!bif decide ((v.2.1.2 (↑k:Int).toNat).1<0) then true else decide ((v.2.1.2 (↑k:Int).toNat).1≥(v.2.1.2 (↑k:Int).toNat).2.1))=true)),(AG (!bif bif decide ((v.2.1.2 (↑k:Int).toNat).1<0) then true else decide ((v.2.1.2 (↑k:Int).toNat).1≥(v.2.1.2 (↑k:Int).toNat).2.1) then true else decide ((v.2.1.2 (↑k:Int).toNat).2.1≥v.1))),(AG (!bif bif decide ((v.2.1.2 (↑k:Int).toNat).1<0) then true else decide ((v.2.1.2 (↑k:Int).toNat).1≥(v.2.1.2 (↑k:Int).toNat).2.1) then true else decide ((v.2.1.2 (↑k:Int).toNat).2.1≥v.1))),(AG ((!bif bif decide ((v.2.1.2 (↑k:Int).toNat).1<0) then true else decide ((v.2.1.2 (↑k:Int).toNat).1≥(v.2.1.2 (↑k:Int).toNat).2.1) then true else decide ((v.2.1.2 (↑k:Int).toNat).2.1≥v.1))&&decide ((↑k:Int)>0))),((((!bif bif decide ((v.2.1.2 (↑k:Int).toNat).1<0) then true else decide ((v.2.1.2 (↑k:Int).toNat).1≥(v.2.1.2 (↑k:Int).toNat).2.1) then true else decide ((v.2.1.2 (↑k:Int).toNat).2.1≥v.1))&&decide ((↑k:Int)>0))=true)→(NT 0 1)),(AG ((!bif bif decide ((v.2.1.2 (↑k:Int).toNat).1<0) then true else decide ((v.2.1.2 (↑k:Int).toNat).1≥(v.2.1.2 (↑k:Int).toNat).2.1) then true else decide ((v.2.1.2 (↑k:Int).toNat).2.1≥v.1))&&decide ((↑k:Int)>0))),((((!bif bif decide ((v.2.1.2 (↑k:Int).toNat).1<0) then true else decide ((v.2.1.2 (↑k:Int).toNat).1≥(v.2.1.2 (↑k:Int).toNat).2.1) then true else decide ((v.2.1.2 (↑k:Int).toNat).2.1≥v.1))&&decide ((↑k:Int)>0))=true)→(ZLo ((↑k:Int) - 1))),((((!bif bif decide ((v.2.1.2 (↑k:Int).toNat).1<0) then true else decide ((v.2.1.2 (↑k:Int).toNat).1≥(v.2.1.2 (↑k:Int).toNat).2.1) then true else decide ((v.2.1.2 (↑k:Int).toNat).2.1≥v.1))&&decide ((↑k:Int)>0))=true)→(ZHi ((↑k:Int) - 1))),(AG ((!bif bif decide ((v.2.1.2 (↑k:Int).toNat).1<0) then true else decide ((v.2.1.2 (↑k:Int).toNat).1≥(v.2.1.2 (↑k:Int).toNat).2.1) then true else decide ((v.2.1.2 (↑k:Int).toNat).2.1≥v.1))&&decide ((↑k:Int)>0))),(AG ((!bif bif decide ((v.2.1.2 (↑k:Int).toNat).1<0) then true else decide ((v.2.1.2 (↑k:Int).toNat).1≥(v.2.1.2 (↑k:Int).toNat).2.1) then true else decide ((v.2.1.2 (↑k:Int).toNat).2.1≥v.1))&&decide ((↑k:Int)>0))),((((!bif bif decide ((v.2.1.2 (↑k:Int).toNat).1<0) then true else decide ((v.2.1.2 (↑k:Int).toNat).1≥(v.2.1.2 (↑k:Int).toNat).2.1) then true else decide ((v.2.1.2 (↑k:Int).toNat).2.1≥v.1))&&decide ((↑k:Int)>0))=true)→(IL 0 ((↑k:Int) - 1))),((((!bif bif decide ((v.2.1.2 (↑k:Int).toNat).1<0) then true else decide ((v.2.1.2 (↑k:Int).toNat).1≥(v.2.1.2 (↑k:Int).toNat).2.1) then true else decide ((v.2.1.2 (↑k:Int).toNat).2.1≥v.1))&&decide ((↑k:Int)>0))=true)→(IT ((↑k:Int) - 1) (↑v.2.1.1:Int))),(AG ((!bif bif decide ((v.2.1.2 (↑k:Int).toNat).1<0) then true else decide ((v.2.1.2 (↑k:Int).toNat).1≥(v.2.1.2 (↑k:Int).toNat).2.1) then true else decide ((v.2.1.2 (↑k:Int).toNat).2.1≥v.1))&&decide ((↑k:Int)>0))),((((!bif bif decide ((v.2.1.2 (↑k:Int).toNat).1<0) then true else decide ((v.2.1.2 (↑k:Int).toNat).1≥(v.2.1.2 (↑k:Int).toNat).2.1) then true else decide ((v.2.1.2 (↑k:Int).toNat).2.1≥v.1))&&decide ((↑k:Int)>0))=true)→(NT 0 1)),(AG ((!bif bif decide ((v.2.1.2 (↑k:Int).toNat).1<0) then true else decide ((v.2.1.2 (↑k:Int).toNat).1≥(v.2.1.2 (↑k:Int).toNat).2.1) then true else decide ((v.2.1.2 (↑k:Int).toNat).2.1≥v.1))&&decide ((↑k:Int)>0))),(AG ((!bif bif decide ((v.2.1.2 (↑k:Int).toNat).1<0) then true else decide ((v.2.1.2 (↑k:Int).toNat).1≥(v.2.1.2 (↑k:Int).toNat).2.1) then true else decide ((v.2.1.2 (↑k:Int).toNat).2.1≥v.1))&&decide ((↑k:Int)>0))),((((!bif bif decide ((v.2.1.2 (↑k:Int).toNat).1<0) then true else decide ((v.2.1.2 (↑k:Int).toNat).1≥(v.2.1.2 (↑k:Int).toNat).2.1) then true else decide ((v.2.1.2 (↑k:Int).toNat).2.1≥v.1))&&decide ((↑k:Int)>0))=true)→ Con Tryz.prog 168 0 [] [(zf112 v k),(zf123 v k)] [] (.p (.bool (aft (v.2.1.2 ((↑k:Int) - 1).toNat) (v.2.1.2 k))))),(AG ((!bif bif decide ((v.2.1.2 (↑k:Int).toNat).1<0) then true else decide ((v.2.1.2 (↑k:Int).toNat).1≥(v.2.1.2 (↑k:Int).toNat).2.1) then true else decide ((v.2.1.2 (↑k:Int).toNat).2.1≥v.1))&&decide ((↑k:Int)>0))),(AG (!bif bif decide ((v.2.1.2 (↑k:Int).toNat).1<0) then true else decide ((v.2.1.2 (↑k:Int).toNat).1≥(v.2.1.2 (↑k:Int).toNat).2.1) then true else decide ((v.2.1.2 (↑k:Int).toNat).2.1≥v.1))),(((!bif bif decide ((v.2.1.2 (↑k:Int).toNat).1<0) then true else decide ((v.2.1.2 (↑k:Int).toNat).1≥(v.2.1.2 (↑k:Int).toNat).2.1) then true else decide ((v.2.1.2 (↑k:Int).toNat).2.1≥v.1))=true)→(((decide ((↑k:Int)>0))=true)→ (((!bif bif decide ((v.2.1.2 (↑k:Int).toNat).1<0) then true else decide ((v.2.1.2 (↑k:Int).toNat).1≥(v.2.1.2 (↑k:Int).toNat).2.1) then true else decide ((v.2.1.2 (↑k:Int).toNat).2.1≥v.1))&&decide ((↑k:Int)>0))=true))),(((bif bif decide ((v.2.1.2 (↑k:Int).toNat).1<0) then true else decide ((v.2.1.2 (↑k:Int).toNat).1≥(v.2.1.2 (↑k:Int).toNat).2.1) then true else decide ((v.2.1.2 (↑k:Int).toNat).2.1≥v.1))=false)→ ((!bif bif decide ((v.2.1.2 (↑k:Int).toNat).1<0) then true else decide ((v.2.1.2 (↑k:Int).toNat).1≥(v.2.1.2 (↑k:Int).toNat).2.1) then true else decide ((v.2.1.2 (↑k:Int).toNat).2.1≥v.1))=true)),((bif bif bif decide ((v.2.1.2 (↑k:Int).toNat).1<0) then true else decide ((v.2.1.2 (↑k:Int).toNat).1≥(v.2.1.2 (↑k:Int).toNat).2.1) then true else decide ((v.2.1.2 (↑k:Int).toNat).2.1≥v.1) then true else bif decide ((↑k:Int)>0) then !aft (v.2.1.2 ((↑k:Int) - 1).toNat) (v.2.1.2 k) else false)=true),(false=false)]:=by kernel_rfl
theorem p48d (v:T_Graph) (k:Nat) :
    pathOb Tryz.prog Tryz.f53 0 [rg 5,.dec false,rg 1] zf82 (S48 v k) [] 1 [] (.p (.bool true)) =
    some [(NT 0 1),((decide ((↑k:Int)<(↑v.2.1.1:Int)))=false),(true=true)]:=by kernel_rfl
theorem p51z (v:T_Graph) :
    pathOb Tryz.prog Tryz.f62 0 [rg 2,rm [(2,oc [] (.p (.bool (inB v.1 1 8))))] 7,.dec true,rg 1] [.code (bodyOf Tryz.f62)] (start Tryz.f62 [] 0 [graphA v]) [] 1 [] (.p (.bool false)) =
    some [(NT 0 1),Con Tryz.prog 179 0 [] [.p (.int .i64 v.1),.p (.int .i64 1),.p (.int .i64 8)] [] (.p (.bool (inB v.1 1 8))),(AG (!!inB v.1 1 8)),(((!!inB v.1 1 8)=true)→(NT 0 1)),(AG (!!inB v.1 1 8)),(AG (!!inB v.1 1 8)),(((!inB v.1 1 8)=false)→ ((!!inB v.1 1 8)=true)),((bif !inB v.1 1 8 then true else decide ((↑v.2.1.1:Int)>24))=true),(false=false)]:=by kernel_rfl
theorem p51a (v:T_Graph) :
    pieceOb Tryz.prog 0 [rg 2,rm [(2,oc [] (.p (.bool (inB v.1 1 8))))] 7,.dec false,rg 4,.head] [.code (bodyOf Tryz.f62)] (start Tryz.f62 [] 0 [graphA v]) [0] 1 (S51 v 0) =
    some (zf83,[(NT 0 1),Con Tryz.prog 179 0 [] [.p (.int .i64 v.1),.p (.int .i64 1),.p (.int .i64 8)] [] (.p (.bool (inB v.1 1 8))),(AG (!!inB v.1 1 8)),(((!!inB v.1 1 8)=true)→(NT 0 1)),(AG (!!inB v.1 1 8)),(AG (!!inB v.1 1 8)),(((!inB v.1 1 8)=false)→ ((!!inB v.1 1 8)=true)),((bif !inB v.1 1 8 then true else decide ((↑v.2.1.1:Int)>24))=false),(NT 0 1),(AI v.1),(AN v.2.1.1),(AP v.2.1.1 (fun i=>[.int .i64 ((v.2.1.2 i).1),.int .i64 ((v.2.1.2 i).2.1)])),(AN 0),(AN v.2.1.1),(AP v.2.1.1 (fun i=>[.int .i64 ((v.2.1.2 i).1),.int .i64 ((v.2.1.2 i).2.1)])),(AI ((↑v.2.1.1:Int))),((0:Int)=(↑0:Int)),((([AV.p (PV.int IntKind.i64 v.1),graphL v.2.1].length):Nat)=2),(NL 1 1),(NL 1 1),(AI v.1),(AN v.2.1.1),(AP v.2.1.1 (fun i=>[.int .i64 ((v.2.1.2 i).1),.int .i64 ((v.2.1.2 i).2.1)]))]):=by kernel_rfl
theorem p51b (v:T_Graph) (k:Nat) :
    pieceOb Tryz.prog 0 [rg 1,.dec true,rg 6,rm [(28,oc [] (.p (.int .i64 (cmpB (v.2.1.2 ((k:Int) - 1).toNat) (v.2.1.2 k)))))] 3,.dec false,rg 2,.head] zf83 (S51 v k) [0] 1 (S51 v (k+1)) =
    some (zf83,[((decide ((↑k:Int)<(↑v.2.1.1:Int)))=true),(IL 0 (↑k:Int)),(IT (↑k:Int) (↑v.2.1.1:Int)),(NT 0 1),((true=true)→ (AN 1)),(NT 0 1),(AG (!decide ((v.2.1.2 (↑k:Int).toNat).1<0))),(((!decide ((v.2.1.2 (↑k:Int).toNat).1<0))=true)→(NT 0 1)),(AG (!decide ((v.2.1.2 (↑k:Int).toNat).1<0))),(((!decide ((v.2.1.2 (↑k:Int).toNat).1<0))=true)→(NT 0 1)),(AG (!decide ((v.2.1.2 (↑k:Int).toNat).1<0))),(AG (!decide ((v.2.1.2 (↑k:Int).toNat).1<0))),(((decide ((v.2.1.2 (↑k:Int).toNat).1<0))=false)→ ((!decide ((v.2.1.2 (↑k:Int).toNat).1<0))=true)),(AG (!bif decide ((v.2.1.2 (↑k:Int).toNat).1<0) then true else decide ((v.2.1.2 (↑k:Int).toNat).1≥(v.2.1.2 (↑k:Int).toNat).2.1))),(((!bif decide ((v.2.1.2 (↑k:Int).toNat).1<0) then true else decide ((v.2.1.2 (↑k:Int).toNat).1≥(v.2.1.2 (↑k:Int).toNat).2.1))=true)→(NT 0 1)),(AG (!bif decide ((v.2.1.2 (↑k:Int).toNat).1<0) then true else decide ((v.2.1.2 (↑k:Int).toNat).1≥(v.2.1.2 (↑k:Int).toNat).2.1))),(((!bif decide ((v.2.1.2 (↑k:Int).toNat).1<0) then true else decide ((v.2.1.2 (↑k:Int).toNat).1≥(v.2.1.2 (↑k:Int).toNat).2.1))=true)→(NT 0 1)),(AG (!bif decide ((v.2.1.2 (↑k:Int).toNat).1<0) then true else decide ((v.2.1.2 (↑k:Int).toNat).1≥(v.2.1.2 (↑k:Int).toNat).2.1))),(AG (!bif decide ((v.2.1.2 (↑k:Int).toNat).1<0) then true else decide ((v.2.1.2 (↑k:Int).toNat).1≥(v.2.1.2 (↑k:Int).toNat).2.1))),(((bif decide ((v.2.1.2 (↑k:Int).toNat).1<0) then true else decide ((v.2.1.2 (↑k:Int).toNat).1≥(v.2.1.2 (↑k:Int).toNat).2.1))=false)→ ((!bif decide ((v.2.1.2 (↑k:Int).toNat).1<0) then true else decide ((v.2.1.2 (↑k:Int).toNat).1≥(v.2.1.2 (↑k:Int).toNat).2.1))=true)),(AG (!bif bif decide ((v.2.1.2 (↑k:Int).toNat).1<0) then true else decide ((v.2.1.2 (↑k:Int).toNat).1≥(v.2.1.2 (↑k:Int).toNat).2.1) then true else decide ((v.2.1.2 (↑k:Int).toNat).2.1≥v.1))),(AG (!bif bif decide ((v.2.1.2 (↑k:Int).toNat).1<0) then true else decide ((v.2.1.2 (↑k:Int).toNat).1≥(v.2.1.2 (↑k:Int).toNat).2.1) then true else decide ((v.2.1.2 (↑k:Int).toNat).2.1≥v.1))),(AG ((!bif bif decide ((v.2.1.2 (↑k:Int).toNat).1<0) then true else decide ((v.2.1.2 (↑k:Int).toNat).1≥(v.2.1.2 (↑k:Int).toNat).2.1) then true else decide ((v.2.1.2 (↑k:Int).toNat).2.1≥v.1))&&decide ((↑k:Int)>0))),((((!bif bif decide ((v.2.1.2 (↑k:Int).toNat).1<0) then true else decide ((v.2.1.2 (↑k:Int).toNat).1≥(v.2.1.2 (↑k:Int).toNat).2.1) then true else decide ((v.2.1.2 (↑k:Int).toNat).2.1≥v.1))&&decide ((↑k:Int)>0))=true)→(NT 0 1)),(AG ((!bif bif decide ((v.2.1.2 (↑k:Int).toNat).1<0) then true else decide ((v.2.1.2 (↑k:Int).toNat).1≥(v.2.1.2 (↑k:Int).toNat).2.1) then true else decide ((v.2.1.2 (↑k:Int).toNat).2.1≥v.1))&&decide ((↑k:Int)>0))),((((!bif bif decide ((v.2.1.2 (↑k:Int).toNat).1<0) then true else decide ((v.2.1.2 (↑k:Int).toNat).1≥(v.2.1.2 (↑k:Int).toNat).2.1) then true else decide ((v.2.1.2 (↑k:Int).toNat).2.1≥v.1))&&decide ((↑k:Int)>0))=true)→(ZLo ((↑k:Int) - 1))),((((!bif bif decide ((v.2.1.2 (↑k:Int).toNat).1<0) then true else decide ((v.2.1.2 (↑k:Int).toNat).1≥(v.2.1.2 (↑k:Int).toNat).2.1) then true else decide ((v.2.1.2 (↑k:Int).toNat).2.1≥v.1))&&decide ((↑k:Int)>0))=true)→(ZHi ((↑k:Int) - 1))),(AG ((!bif bif decide ((v.2.1.2 (↑k:Int).toNat).1<0) then true else decide ((v.2.1.2 (↑k:Int).toNat).1≥(v.2.1.2 (↑k:Int).toNat).2.1) then true else decide ((v.2.1.2 (↑k:Int).toNat).2.1≥v.1))&&decide ((↑k:Int)>0))),(AG ((!bif bif decide ((v.2.1.2 (↑k:Int).toNat).1<0) then true else decide ((v.2.1.2 (↑k:Int).toNat).1≥(v.2.1.2 (↑k:Int).toNat).2.1) then true else decide ((v.2.1.2 (↑k:Int).toNat).2.1≥v.1))&&decide ((↑k:Int)>0))),((((!bif bif decide ((v.2.1.2 (↑k:Int).toNat).1<0) then true else decide ((v.2.1.2 (↑k:Int).toNat).1≥(v.2.1.2 (↑k:Int).toNat).2.1) then true else decide ((v.2.1.2 (↑k:Int).toNat).2.1≥v.1))&&decide ((↑k:Int)>0))=true)→(IL 0 ((↑k:Int) - 1))),((((!bif bif decide ((v.2.1.2 (↑k:Int).toNat).1<0) then true else decide ((v.2.1.2 (↑k:Int).toNat).1≥(v.2.1.2 (↑k:Int).toNat).2.1) then true else decide ((v.2.1.2 (↑k:Int).toNat).2.1≥v.1))&&decide ((↑k:Int)>0))=true)→(IT ((↑k:Int) - 1) (↑v.2.1.1:Int))),(AG ((!bif bif decide ((v.2.1.2 (↑k:Int).toNat).1<0) then true else decide ((v.2.1.2 (↑k:Int).toNat).1≥(v.2.1.2 (↑k:Int).toNat).2.1) then true else decide ((v.2.1.2 (↑k:Int).toNat).2.1≥v.1))&&decide ((↑k:Int)>0))),((((!bif bif decide ((v.2.1.2 (↑k:Int).toNat).1<0) then true else decide ((v.2.1.2 (↑k:Int).toNat).1≥(v.2.1.2 (↑k:Int).toNat).2.1) then true else decide ((v.2.1.2 (↑k:Int).toNat).2.1≥v.1))&&decide ((↑k:Int)>0))=true)→(NT 0 1)),(AG ((!bif bif decide ((v.2.1.2 (↑k:Int).toNat).1<0) then true else decide ((v.2.1.2 (↑k:Int).toNat).1≥(v.2.1.2 (↑k:Int).toNat).2.1) then true else decide ((v.2.1.2 (↑k:Int).toNat).2.1≥v.1))&&decide ((↑k:Int)>0))),(AG ((!bif bif decide ((v.2.1.2 (↑k:Int).toNat).1<0) then true else decide ((v.2.1.2 (↑k:Int).toNat).1≥(v.2.1.2 (↑k:Int).toNat).2.1) then true else decide ((v.2.1.2 (↑k:Int).toNat).2.1≥v.1))&&decide ((↑k:Int)>0))),((((!bif bif decide ((v.2.1.2 (↑k:Int).toNat).1<0) then true else decide ((v.2.1.2 (↑k:Int).toNat).1≥(v.2.1.2 (↑k:Int).toNat).2.1) then true else decide ((v.2.1.2 (↑k:Int).toNat).2.1≥v.1))&&decide ((↑k:Int)>0))=true)→ Con Tryz.prog 180 0 [] [(zf112 v k),(zf123 v k)] [] (.p (.int .i64 (cmpB (v.2.1.2 ((↑k:Int) - 1).toNat) (v.2.1.2 k))))),(AG ((!bif bif decide ((v.2.1.2 (↑k:Int).toNat).1<0) then true else decide ((v.2.1.2 (↑k:Int).toNat).1≥(v.2.1.2 (↑k:Int).toNat).2.1) then true else decide ((v.2.1.2 (↑k:Int).toNat).2.1≥v.1))&&decide ((↑k:Int)>0))),(AG (!bif bif decide ((v.2.1.2 (↑k:Int).toNat).1<0) then true else decide ((v.2.1.2 (↑k:Int).toNat).1≥(v.2.1.2 (↑k:Int).toNat).2.1) then true else decide ((v.2.1.2 (↑k:Int).toNat).2.1≥v.1))),(((!bif bif decide ((v.2.1.2 (↑k:Int).toNat).1<0) then true else decide ((v.2.1.2 (↑k:Int).toNat).1≥(v.2.1.2 (↑k:Int).toNat).2.1) then true else decide ((v.2.1.2 (↑k:Int).toNat).2.1≥v.1))=true)→(((decide ((↑k:Int)>0))=true)→ (((!bif bif decide ((v.2.1.2 (↑k:Int).toNat).1<0) then true else decide ((v.2.1.2 (↑k:Int).toNat).1≥(v.2.1.2 (↑k:Int).toNat).2.1) then true else decide ((v.2.1.2 (↑k:Int).toNat).2.1≥v.1))&&decide ((↑k:Int)>0))=true))),(((bif bif decide ((v.2.1.2 (↑k:Int).toNat).1<0) then true else decide ((v.2.1.2 (↑k:Int).toNat).1≥(v.2.1.2 (↑k:Int).toNat).2.1) then true else decide ((v.2.1.2 (↑k:Int).toNat).2.1≥v.1))=false)→ ((!bif bif decide ((v.2.1.2 (↑k:Int).toNat).1<0) then true else decide ((v.2.1.2 (↑k:Int).toNat).1≥(v.2.1.2 (↑k:Int).toNat).2.1) then true else decide ((v.2.1.2 (↑k:Int).toNat).2.1≥v.1))=true)),((bif bif bif decide ((v.2.1.2 (↑k:Int).toNat).1<0) then true else decide ((v.2.1.2 (↑k:Int).toNat).1≥(v.2.1.2 (↑k:Int).toNat).2.1) then true else decide ((v.2.1.2 (↑k:Int).toNat).2.1≥v.1) then true else bif decide ((↑k:Int)>0) then decide (cmpB (v.2.1.2 ((↑k:Int) - 1).toNat) (v.2.1.2 k)>0) else false)=false),(ZLo ((↑k:Int)+1)),(ZHi ((↑k:Int)+1)),(AI v.1),(AN v.2.1.1),(AP v.2.1.1 (fun i=>[.int .i64 ((v.2.1.2 i).1),.int .i64 ((v.2.1.2 i).2.1)])),(AN 0),(AN v.2.1.1),(AP v.2.1.1 (fun i=>[.int .i64 ((v.2.1.2 i).1),.int .i64 ((v.2.1.2 i).2.1)])),(AI ((↑v.2.1.1:Int))),((((↑k:Int)+1):Int)=(↑(k+1):Int)),(AN 2),(NL 1 1),(NL 1 1),(AI v.1),(AN v.2.1.1),(AP v.2.1.1 (fun i=>[.int .i64 ((v.2.1.2 i).1),.int .i64 ((v.2.1.2 i).2.1)]))]):=by kernel_rfl
theorem p51c (v:T_Graph) (k:Nat) :
    pathOb Tryz.prog Tryz.f62 0 [rg 1,.dec true,rg 6,rm [(28,oc [] (.p (.int .i64 (cmpB (v.2.1.2 ((k:Int) - 1).toNat) (v.2.1.2 k)))))] 3,.dec true,rg 1] zf83 (S51 v k) [] 1 [] (.p (.bool false)) =
    some [((decide ((↑k:Int)<(↑v.2.1.1:Int)))=true),(IL 0 (↑k:Int)),(IT (↑k:Int) (↑v.2.1.1:Int)),(NT 0 1),((true=true)→ (AN 1)),(NT 0 1),(AG (!decide ((v.2.1.2 (↑k:Int).toNat).1<0))),(((!decide ((v.2.1.2 (↑k:Int).toNat).1<0))=true)→(NT 0 1)),(AG (!decide ((v.2.1.2 (↑k:Int).toNat).1<0))),(((!decide ((v.2.1.2 (↑k:Int).toNat).1<0))=true)→(NT 0 1)),(AG (!decide ((v.2.1.2 (↑k:Int).toNat).1<0))),(AG (!decide ((v.2.1.2 (↑k:Int).toNat).1<0))),(((decide ((v.2.1.2 (↑k:Int).toNat).1<0))=false)→ ((!decide ((v.2.1.2 (↑k:Int).toNat).1<0))=true)),(AG (!bif decide ((v.2.1.2 (↑k:Int).toNat).1<0) then true else decide ((v.2.1.2 (↑k:Int).toNat).1≥(v.2.1.2 (↑k:Int).toNat).2.1))),(((!bif decide ((v.2.1.2 (↑k:Int).toNat).1<0) then true else decide ((v.2.1.2 (↑k:Int).toNat).1≥(v.2.1.2 (↑k:Int).toNat).2.1))=true)→(NT 0 1)),(AG (!bif decide ((v.2.1.2 (↑k:Int).toNat).1<0) then true else decide ((v.2.1.2 (↑k:Int).toNat).1≥(v.2.1.2 (↑k:Int).toNat).2.1))),(((!bif decide ((v.2.1.2 (↑k:Int).toNat).1<0) then true else decide ((v.2.1.2 (↑k:Int).toNat).1≥(v.2.1.2 (↑k:Int).toNat).2.1))=true)→(NT 0 1)),(AG (!bif decide ((v.2.1.2 (↑k:Int).toNat).1<0) then true else decide ((v.2.1.2 (↑k:Int).toNat).1≥(v.2.1.2 (↑k:Int).toNat).2.1))),(AG (!bif decide ((v.2.1.2 (↑k:Int).toNat).1<0) then true else decide ((v.2.1.2 (↑k:Int).toNat).1≥(v.2.1.2 (↑k:Int).toNat).2.1))),(((bif decide ((v.2.1.2 (↑k:Int).toNat).1<0) then true else decide ((v.2.1.2 (↑k:Int).toNat).1≥(v.2.1.2 (↑k:Int).toNat).2.1))=false)→ ((!bif decide ((v.2.1.2 (↑k:Int).toNat).1<0) then true else decide ((v.2.1.2 (↑k:Int).toNat).1≥(v.2.1.2 (↑k:Int).toNat).2.1))=true)),(AG (!bif bif decide ((v.2.1.2 (↑k:Int).toNat).1<0) then true else decide ((v.2.1.2 (↑k:Int).toNat).1≥(v.2.1.2 (↑k:Int).toNat).2.1) then true else decide ((v.2.1.2 (↑k:Int).toNat).2.1≥v.1))),(AG (!bif bif decide ((v.2.1.2 (↑k:Int).toNat).1<0) then true else decide ((v.2.1.2 (↑k:Int).toNat).1≥(v.2.1.2 (↑k:Int).toNat).2.1) then true else decide ((v.2.1.2 (↑k:Int).toNat).2.1≥v.1))),(AG ((!bif bif decide ((v.2.1.2 (↑k:Int).toNat).1<0) then true else decide ((v.2.1.2 (↑k:Int).toNat).1≥(v.2.1.2 (↑k:Int).toNat).2.1) then true else decide ((v.2.1.2 (↑k:Int).toNat).2.1≥v.1))&&decide ((↑k:Int)>0))),((((!bif bif decide ((v.2.1.2 (↑k:Int).toNat).1<0) then true else decide ((v.2.1.2 (↑k:Int).toNat).1≥(v.2.1.2 (↑k:Int).toNat).2.1) then true else decide ((v.2.1.2 (↑k:Int).toNat).2.1≥v.1))&&decide ((↑k:Int)>0))=true)→(NT 0 1)),(AG ((!bif bif decide ((v.2.1.2 (↑k:Int).toNat).1<0) then true else decide ((v.2.1.2 (↑k:Int).toNat).1≥(v.2.1.2 (↑k:Int).toNat).2.1) then true else decide ((v.2.1.2 (↑k:Int).toNat).2.1≥v.1))&&decide ((↑k:Int)>0))),((((!bif bif decide ((v.2.1.2 (↑k:Int).toNat).1<0) then true else decide ((v.2.1.2 (↑k:Int).toNat).1≥(v.2.1.2 (↑k:Int).toNat).2.1) then true else decide ((v.2.1.2 (↑k:Int).toNat).2.1≥v.1))&&decide ((↑k:Int)>0))=true)→(ZLo ((↑k:Int) - 1))),((((!bif bif decide ((v.2.1.2 (↑k:Int).toNat).1<0) then true else decide ((v.2.1.2 (↑k:Int).toNat).1≥(v.2.1.2 (↑k:Int).toNat).2.1) then true else decide ((v.2.1.2 (↑k:Int).toNat).2.1≥v.1))&&decide ((↑k:Int)>0))=true)→(ZHi ((↑k:Int) - 1))),(AG ((!bif bif decide ((v.2.1.2 (↑k:Int).toNat).1<0) then true else decide ((v.2.1.2 (↑k:Int).toNat).1≥(v.2.1.2 (↑k:Int).toNat).2.1) then true else decide ((v.2.1.2 (↑k:Int).toNat).2.1≥v.1))&&decide ((↑k:Int)>0))),(AG ((!bif bif decide ((v.2.1.2 (↑k:Int).toNat).1<0) then true else decide ((v.2.1.2 (↑k:Int).toNat).1≥(v.2.1.2 (↑k:Int).toNat).2.1) then true else decide ((v.2.1.2 (↑k:Int).toNat).2.1≥v.1))&&decide ((↑k:Int)>0))),((((!bif bif decide ((v.2.1.2 (↑k:Int).toNat).1<0) then true else decide ((v.2.1.2 (↑k:Int).toNat).1≥(v.2.1.2 (↑k:Int).toNat).2.1) then true else decide ((v.2.1.2 (↑k:Int).toNat).2.1≥v.1))&&decide ((↑k:Int)>0))=true)→(IL 0 ((↑k:Int) - 1))),((((!bif bif decide ((v.2.1.2 (↑k:Int).toNat).1<0) then true else decide ((v.2.1.2 (↑k:Int).toNat).1≥(v.2.1.2 (↑k:Int).toNat).2.1) then true else decide ((v.2.1.2 (↑k:Int).toNat).2.1≥v.1))&&decide ((↑k:Int)>0))=true)→(IT ((↑k:Int) - 1) (↑v.2.1.1:Int))),(AG ((!bif bif decide ((v.2.1.2 (↑k:Int).toNat).1<0) then true else decide ((v.2.1.2 (↑k:Int).toNat).1≥(v.2.1.2 (↑k:Int).toNat).2.1) then true else decide ((v.2.1.2 (↑k:Int).toNat).2.1≥v.1))&&decide ((↑k:Int)>0))),((((!bif bif decide ((v.2.1.2 (↑k:Int).toNat).1<0) then true else decide ((v.2.1.2 (↑k:Int).toNat).1≥(v.2.1.2 (↑k:Int).toNat).2.1) then true else decide ((v.2.1.2 (↑k:Int).toNat).2.1≥v.1))&&decide ((↑k:Int)>0))=true)→(NT 0 1)),(AG ((!bif bif decide ((v.2.1.2 (↑k:Int).toNat).1<0) then true else decide ((v.2.1.2 (↑k:Int).toNat).1≥(v.2.1.2 (↑k:Int).toNat).2.1) then true else decide ((v.2.1.2 (↑k:Int).toNat).2.1≥v.1))&&decide ((↑k:Int)>0))),(AG ((!bif bif decide ((v.2.1.2 (↑k:Int).toNat).1<0) then true else decide ((v.2.1.2 (↑k:Int).toNat).1≥(v.2.1.2 (↑k:Int).toNat).2.1) then true else decide ((v.2.1.2 (↑k:Int).toNat).2.1≥v.1))&&decide ((↑k:Int)>0))),((((!bif bif decide ((v.2.1.2 (↑k:Int).toNat).1<0) then true else decide ((v.2.1.2 (↑k:Int).toNat).1≥(v.2.1.2 (↑k:Int).toNat).2.1) then true else decide ((v.2.1.2 (↑k:Int).toNat).2.1≥v.1))&&decide ((↑k:Int)>0))=true)→ Con Tryz.prog 180 0 [] [(zf112 v k),(zf123 v k)] [] (.p (.int .i64 (cmpB (v.2.1.2 ((↑k:Int) - 1).toNat) (v.2.1.2 k))))),(AG ((!bif bif decide ((v.2.1.2 (↑k:Int).toNat).1<0) then true else decide ((v.2.1.2 (↑k:Int).toNat).1≥(v.2.1.2 (↑k:Int).toNat).2.1) then true else decide ((v.2.1.2 (↑k:Int).toNat).2.1≥v.1))&&decide ((↑k:Int)>0))),(AG (!bif bif decide ((v.2.1.2 (↑k:Int).toNat).1<0) then true else decide ((v.2.1.2 (↑k:Int).toNat).1≥(v.2.1.2 (↑k:Int).toNat).2.1) then true else decide ((v.2.1.2 (↑k:Int).toNat).2.1≥v.1))),(((!bif bif decide ((v.2.1.2 (↑k:Int).toNat).1<0) then true else decide ((v.2.1.2 (↑k:Int).toNat).1≥(v.2.1.2 (↑k:Int).toNat).2.1) then true else decide ((v.2.1.2 (↑k:Int).toNat).2.1≥v.1))=true)→(((decide ((↑k:Int)>0))=true)→ (((!bif bif decide ((v.2.1.2 (↑k:Int).toNat).1<0) then true else decide ((v.2.1.2 (↑k:Int).toNat).1≥(v.2.1.2 (↑k:Int).toNat).2.1) then true else decide ((v.2.1.2 (↑k:Int).toNat).2.1≥v.1))&&decide ((↑k:Int)>0))=true))),(((bif bif decide ((v.2.1.2 (↑k:Int).toNat).1<0) then true else decide ((v.2.1.2 (↑k:Int).toNat).1≥(v.2.1.2 (↑k:Int).toNat).2.1) then true else decide ((v.2.1.2 (↑k:Int).toNat).2.1≥v.1))=false)→ ((!bif bif decide ((v.2.1.2 (↑k:Int).toNat).1<0) then true else decide ((v.2.1.2 (↑k:Int).toNat).1≥(v.2.1.2 (↑k:Int).toNat).2.1) then true else decide ((v.2.1.2 (↑k:Int).toNat).2.1≥v.1))=true)),((bif bif bif decide ((v.2.1.2 (↑k:Int).toNat).1<0) then true else decide ((v.2.1.2 (↑k:Int).toNat).1≥(v.2.1.2 (↑k:Int).toNat).2.1) then true else decide ((v.2.1.2 (↑k:Int).toNat).2.1≥v.1) then true else bif decide ((↑k:Int)>0) then decide (cmpB (v.2.1.2 ((↑k:Int) - 1).toNat) (v.2.1.2 k)>0) else false)=true),(false=false)]:=by kernel_rfl
theorem p51d (v:T_Graph) (k:Nat) :
    pathOb Tryz.prog Tryz.f62 0 [rg 1,.dec false,rg 1] zf83 (S51 v k) [] 1 [] (.p (.bool true)) =
    some [((decide ((↑k:Int)<(↑v.2.1.1:Int)))=false),(true=true)]:=by kernel_rfl
theorem con_l2After (a b:T_Bar):Con Tryz.prog 168 0 [] [barA a,barA b] [] (.p (.bool (aft a b))):=by
  refine csZ Tryz.func168 (fun c hc=>?_)
  refine pkZ Tryz.func168 hc (p57 a b) ?_
  repeat' (first | exact aN | apply aI)
  all_goals (first | exact aG _ | omega | rfl | (intros;first | assumption | exact trivial | rfl | exact fT ‹_› | ((repeat' (first | assumption | apply anda | apply notf));done)))
theorem con_compareInts (x y:Int):Con Tryz.prog 287 0 [] [.p (.int .i64 x),.p (.int .i64 y)] [] (.p (.int .i64 (cmpI x y))):=by
  refine csZ Tryz.func287 (fun c hc=>?_)
  by_cases h1:x<y
  · rw [show cmpI x y = -1 by simp [cmpI,h1]]
    refine pkZ Tryz.func287 hc (p62a x y) ?_
    repeat' (first | exact aN | apply aI)
    all_goals (first | omega | rfl | (intros;first | assumption | exact trivial | rfl) | (simp;omega))
  · by_cases h2:x>y
    · rw [show cmpI x y=1 by simp only [cmpI,h1,h2,if_true,if_false]]
      refine pkZ Tryz.func287 hc (p62b x y) ?_
      repeat' (first | exact aN | apply aI)
      all_goals (first | omega | rfl | (intros;first | assumption | exact trivial | rfl) | (simp;omega))
    · rw [show cmpI x y=0 by simp only [cmpI,h1,h2,if_false]]
      refine pkZ Tryz.func287 hc (p62c x y) ?_
      repeat' (first | exact aN | apply aI)
      all_goals (first | omega | rfl | (intros;first | assumption | exact trivial | rfl) | (simp;omega))
theorem con_compareBars (a b:T_Bar):Con Tryz.prog 180 0 [] [barA a,barA b] [] (.p (.int .i64 (cmpB a b))):=by
  refine csZ Tryz.func180 (fun c hc=>?_)
  by_cases h1:cmpI a.1 b.1=0
  · rw [show cmpB a b=cmpI a.2.1 b.2.1 by simp [cmpB,h1]]
    refine pkZ Tryz.func180 hc (p59b a b) ?_
    repeat' (first | exact aN | apply aI)
    all_goals (first | omega | rfl | (intros;first | assumption | exact trivial | rfl) | (exact con_compareInts _ _) | (simp [h1]))
  · rw [show cmpB a b=cmpI a.1 b.1 by simp [cmpB,h1]]
    refine pkZ Tryz.func180 hc (p59a a b) ?_
    repeat' (first | exact aN | apply aI)
    all_goals (first | omega | rfl | (intros;first | assumption | exact trivial | rfl) | (exact con_compareInts _ _) | (simp [h1]))
theorem cmpB_gt (a b:T_Bar):decide (cmpB a b>0)=!aft a b:=by
  simp only [cmpB,cmpI,aft]
  by_cases h1:a.1<b.1
  · simp [h1]
  · by_cases h2:a.1>b.1
    · have h3:¬ a.1=b.1:=by omega
      simp [h1,h2,h3]
    · have h3:a.1=b.1:=by omega
      simp only [h1,h2,h3,if_true,if_false]
      by_cases h4:a.2.1<b.2.1
      · have:a.2.1≤b.2.1:=by omega
        simp [h4,this]
      · by_cases h5:a.2.1>b.2.1
        · have:¬ a.2.1≤b.2.1:=by omega
          simp [h4,h5,this]
        · have:a.2.1≤b.2.1:=by omega
          simp [h4,h5,this]
theorem goodB_bad (N:Int) (g:Nat→T_Bar) (k:Nat) (h:badB N g k=true):∀ n,k<n→goodB N g n=false
  | 0,h'=>by omega
  | n+1,h'=>by
    by_cases e:k=n
    · subst e;simp [goodB,h]
    · simp [goodB,goodB_bad N g k h n (by omega)]
theorem idx_lt {b:Bool} {k n:Nat} (h:(b&&decide ((k:Int)>0))=true) (hk:k<n):0≤(k:Int) - 1∧(k:Int) - 1<n∧-9223372036854775808≤(k:Int) - 1∧(k:Int) - 1≤n:=by
  simp at h
  omega
theorem con_IsGraph_s (v:T_Graph) (hs:smS s_Graph v):Con Tryz.prog 53 0 [] [graphA v] [] (.p (.bool (isGraphF v))):=by
  refine csZ Tryz.func53 (fun c hc=>?_)
  have hn:v.2.1.1≤1048576:=hs.2.1.1
  by_cases hz:inB v.1 1 8=true∧v.2.1.1≤24
  · rw [show isGraphF v=goodB v.1 v.2.1.2 v.2.1.1 by rw [isGraphF,if_pos hz]]
    have lp:∀ m k,k+m=v.2.1.1→goodB v.1 v.2.1.2 k=true→Run Tryz.prog c 53 zf82 (S48 v k) (Post c [] (.p (.bool (goodB v.1 v.2.1.2 v.2.1.1)))):=by
      intro m
      induction m with
      | zero =>
        intro k hk hg
        rw [show goodB v.1 v.2.1.2 v.2.1.1=true by rw [show v.2.1.1=k by omega];exact hg]
        have hd:decide ((k:Int)<(v.2.1.1:Int))=false:=by simp;omega
        refine pkZ Tryz.func53 hc (p48d v k) ?_
        repeat' (first | exact aN | apply aI)
        all_goals (first | omega | rfl | (intros;first | assumption | exact trivial | rfl))
      | succ m ih =>
        intro k hk hg
        have hd:decide ((k:Int)<(v.2.1.1:Int))=true:=by simp;omega
        have hkn:k<v.2.1.1:=by omega
        cases he:badB v.1 v.2.1.2 k with
        | true =>
          rw [goodB_bad _ _ k he v.2.1.1 (by omega)]
          refine pkZ Tryz.func53 hc (p48c v k) ?_
          repeat' (first | exact aN | apply aI)
          all_goals (first | exact aG _ | omega | rfl | (intros;first | assumption | exact trivial | rfl | exact fT ‹_› | ((repeat' (first | assumption | apply anda | apply notf));done)) | (intros;exact con_l2After _ _) | (exact he) | (intro h;have:=idx_lt h hkn;omega))
        | false =>
          refine pcZ hc (p48b v k) ?_ (ih (k+1) (by omega) (by simp [goodB,hg,he]))
          repeat' (first | exact aN | apply aI)
          all_goals (first | exact aG _ | exact aP _ _ | omega | rfl | (intros;first | assumption | exact trivial | rfl | exact fT ‹_› | ((repeat' (first | assumption | apply anda | apply notf));done)) | (intros;exact con_l2After _ _) | (exact he) | (intro h;have:=idx_lt h hkn;omega) | (simp [All]))
    refine pcZ hc (p48a v) ?_ (lp v.2.1.1 0 (by omega) rfl)
    repeat' (first | exact aN | apply aI)
    all_goals (first | exact aG _ | exact aP _ _ | omega | rfl | (intros;first | assumption | exact trivial | rfl | exact fT ‹_› | ((repeat' (first | assumption | apply anda | apply notf));done)) | (exact con_l1In _ _ _) | (simp [hz.1];omega) | (simp [All]))
  · rw [show isGraphF v=false by rw [isGraphF,if_neg hz]]
    have hb:(bif !inB v.1 1 8 then true else decide ((v.2.1.1:Int)>24))=true:=by
      cases hi:inB v.1 1 8 with
      | false=>rfl
      | true =>
        have:¬ v.2.1.1≤24:=fun h=>hz ⟨hi,h⟩
        simp;omega
    refine pkZ Tryz.func53 hc (p48z v) ?_
    repeat' (first | exact aN | apply aI)
    all_goals (first | exact aG _ | omega | rfl | (intros;first | assumption | exact trivial | rfl | exact fT ‹_› | ((repeat' (first | assumption | apply anda | apply notf));done)) | (exact con_l1In _ _ _))
theorem con_IsGraph_i (v:T_Graph) (hs:smS s_Graph v):Con Tryz.prog 62 0 [] [graphA v] [] (.p (.bool (isGraphF v))):=by
  refine csZ Tryz.func62 (fun c hc=>?_)
  have hn:v.2.1.1≤1048576:=hs.2.1.1
  by_cases hz:inB v.1 1 8=true∧v.2.1.1≤24
  · rw [show isGraphF v=goodB v.1 v.2.1.2 v.2.1.1 by rw [isGraphF,if_pos hz]]
    have lp:∀ m k,k+m=v.2.1.1→goodB v.1 v.2.1.2 k=true→Run Tryz.prog c 62 zf83 (S51 v k) (Post c [] (.p (.bool (goodB v.1 v.2.1.2 v.2.1.1)))):=by
      intro m
      induction m with
      | zero =>
        intro k hk hg
        rw [show goodB v.1 v.2.1.2 v.2.1.1=true by rw [show v.2.1.1=k by omega];exact hg]
        have hd:decide ((k:Int)<(v.2.1.1:Int))=false:=by simp;omega
        refine pkZ Tryz.func62 hc (p51d v k) ?_
        repeat' (first | exact aN | apply aI)
        all_goals (first | omega | rfl | (intros;first | assumption | exact trivial | rfl))
      | succ m ih =>
        intro k hk hg
        have hd:decide ((k:Int)<(v.2.1.1:Int))=true:=by simp;omega
        have hkn:k<v.2.1.1:=by omega
        cases he:badB v.1 v.2.1.2 k with
        | true =>
          rw [goodB_bad _ _ k he v.2.1.1 (by omega)]
          have he2:=he
          rw [badB,← cmpB_gt] at he2
          refine pkZ Tryz.func62 hc (p51c v k) ?_
          repeat' (first | exact aN | apply aI)
          all_goals (first | exact aG _ | omega | rfl | (intros;first | assumption | exact trivial | rfl | exact fT ‹_› | ((repeat' (first | assumption | apply anda | apply notf));done)) | (intros;exact con_compareBars _ _) | (exact he2) | (intro h;have:=idx_lt h hkn;omega))
        | false =>
          have he2:=he
          rw [badB,← cmpB_gt] at he2
          refine pcZ hc (p51b v k) ?_ (ih (k+1) (by omega) (by simp [goodB,hg,he]))
          repeat' (first | exact aN | apply aI)
          all_goals (first | exact aG _ | exact aP _ _ | omega | rfl | (intros;first | assumption | exact trivial | rfl | exact fT ‹_› | ((repeat' (first | assumption | apply anda | apply notf));done)) | (intros;exact con_compareBars _ _) | (exact he2) | (intro h;have:=idx_lt h hkn;omega) | (simp [All]))
    refine pcZ hc (p51a v) ?_ (lp v.2.1.1 0 (by omega) rfl)
    repeat' (first | exact aN | apply aI)
    all_goals (first | exact aG _ | exact aP _ _ | omega | rfl | (intros;first | assumption | exact trivial | rfl | exact fT ‹_› | ((repeat' (first | assumption | apply anda | apply notf));done)) | (exact con_within _ _ _) | (simp [hz.1];omega) | (simp [All]))
  · rw [show isGraphF v=false by rw [isGraphF,if_neg hz]]
    have hb:(bif !inB v.1 1 8 then true else decide ((v.2.1.1:Int)>24))=true:=by
      cases hi:inB v.1 1 8 with
      | false=>rfl
      | true =>
        have:¬ v.2.1.1≤24:=fun h=>hz ⟨hi,h⟩
        simp;omega
    refine pkZ Tryz.func62 hc (p51z v) ?_
    repeat' (first | exact aN | apply aI)
    all_goals (first | exact aG _ | omega | rfl | (intros;first | assumption | exact trivial | rfl | exact fT ‹_› | ((repeat' (first | assumption | apply anda | apply notf));done)) | (exact con_within _ _ _))
end Go.Proofs.YtkkjoghiigiokaaGreat.Mach
namespace Go.Proofs
open Go Go.Shelf Go.RowKit Go.Lib Go.Sort
set_option linter.unusedVariables false
set_option linter.unusedSimpArgs false
shelf_lay_g SlLaysF0.n6 Slsf 6 at Tryz 312 as Tryz.sortBar
end Go.Proofs
namespace Go.Proofs.YtkkjoghiigiokaaGreat.Mach
open Go Go.Shelf Go.RowKit Go.Lib Go.Sort
set_option linter.unusedVariables false
set_option linter.unusedSimpArgs false
def encB (x:T_Bar):List Value:=[.int .i64 x.1,.int .i64 x.2.1]
theorem cmpI_1 {x y:Int} (h:x<y):cmpI x y = -1:=by simp [cmpI,h]
theorem cmpI_2 {x y:Int} (h:y<x):cmpI x y=1:=by
  have h3:¬ x<y:=by omega
  simp [cmpI,h3,h]
theorem cmpI_3 {x y:Int} (h:¬ x<y) (h':¬ y<x):cmpI x y=0:=by simp [cmpI,h,h']
theorem cmp_int (x y:Int) (W:World):Calls Tryz.prog 287 #[.int .i64 x,.int .i64 y] W fun e w'=>e=.returned (.int .i64 (cmpI x y))∧w'=W:=by
  go_enter Tryz.func287,Tryz.ntmps287
  by_cases h1:x<y
  · have hc:=cmpI_1 h1
    go_wp2
    go_ret
    exact ⟨by first | rfl | (rw [hc];rfl),rfl⟩
  · by_cases h2:y<x
    · have hc:=cmpI_2 h2
      go_wp2
      go_ret
      exact ⟨by first | rfl | (rw [hc];rfl),rfl⟩
    · have hc:=cmpI_3 h1 h2
      go_wp2
      go_ret
      exact ⟨by first | rfl | (rw [hc];rfl),rfl⟩
set_option maxRecDepth 10000 in
set_option maxHeartbeats 1000000 in
theorem cmp_bars4 (a b c d:Int) (W:World):Calls Tryz.prog 180 #[.agg #[.int .i64 a,.int .i64 b],.agg #[.int .i64 c,.int .i64 d]] W fun e w'=>e=.returned (.int .i64 (if cmpI a c=0 then cmpI b d else cmpI a c))∧∃ q os',w'=grow (W.drewN q) os':=by
  have c1:=fun W'=>cmp_int a c W'
  have c2:=fun W'=>cmp_int b d W'
  generalize cmpI a c=r1 at c1 ⊢
  generalize cmpI b d=r2 at c2 ⊢
  by_cases h:r1=0
  · have h9:(if r1=0 then r2 else r1)=r2:=if_pos h
    have c1':∀ W':World,Calls Tryz.prog 287 #[.int .i64 a,.int .i64 c] W' fun e w'=>e=.returned (.int .i64 0)∧w'=W':=by rw [← h];exact c1
    rw [h9]
    clear c1 h9 h
    go_enter Tryz.func180,Tryz.ntmps180
    go_wp2_with fail
    go_at_call 287
    refine (c1' _).mono ?_
    rintro e w' ⟨rfl,rfl⟩
    go_wp2_with fail
    go_at_call 287
    refine (c2 _).mono ?_
    rintro e w' ⟨rfl,rfl⟩
    go_wp2
    go_ret
    exact ⟨rfl,0,_,by rw [alloc_eq_grow,alloc_eq_grow,grow_grow];rfl⟩
  · have h9:(if r1=0 then r2 else r1)=r1:=if_neg h
    rw [h9]
    clear h9
    go_enter Tryz.func180,Tryz.ntmps180
    clear c2
    go_wp2_with fail
    go_at_call 287
    refine (c1 _).mono ?_
    rintro e w' ⟨rfl,rfl⟩
    go_wp2
    go_ret
    exact ⟨rfl,0,_,by rw [alloc_eq_grow,alloc_eq_grow,grow_grow];rfl⟩
theorem cmp_bars (x y:T_Bar) (W:World):Calls Tryz.prog 180 #[.agg #[.int .i64 x.1,.int .i64 x.2.1],.agg #[.int .i64 y.1,.int .i64 y.2.1]] W fun e w'=>e=.returned (.int .i64 (cmpB x y))∧∃ q os',w'=grow (W.drewN q) os' :=
  cmp_bars4 x.1 x.2.1 y.1 y.2.1 W
end Go.Proofs.YtkkjoghiigiokaaGreat.Mach
namespace Go.Proofs.YtkkjoghiigiokaaGreat.Mach
open Go Go.Shelf Go.RowKit Go.Sort
set_option linter.unusedVariables false
set_option linter.unusedSimpArgs false
def sW (w:World) (b base q:Nat) (F:Array Value) (os:Array Obj):World:=grow (putRow id (Sort.ahead w q) b base F) os
theorem sW_at {w:World} {b base q:Nat} {F:Array Value} {os:Array Obj} {cells:Array Value} {el:TypeId} {fr:Nat×Nat} (hb:w.heap[b]? = some (.cells cells el fr)) :
    (sW w b base q F os).heap[b]? = some (.cells (putCells id base F cells) el fr):=by
  have hlt:b<w.heap.size:=by
    rcases Nat.lt_or_ge b w.heap.size with h | h
    · exact h
    · rw [Array.getElem?_eq_none h] at hb;cases hb
  rw [sW,heap_grow_old _ _ (by rw [size_putRow];exact hlt)]
  simp only [putRow,mapBlock,heap_ahead,Array.getElem?_modify,if_true,hb,Option.map_some,onCells]
theorem sW_ne {w:World} {b base q c:Nat} {F:Array Value} {os:Array Obj} (hne:c≠b) (hlt:c<w.heap.size) :
    (sW w b base q F os).heap[c]? = w.heap[c]?:=by
  rw [sW,heap_grow_old _ _ (by rw [size_putRow];exact hlt)]
  simp only [putRow,mapBlock,heap_ahead,Array.getElem?_modify,if_neg (Ne.symm hne)]
theorem putCells_size (base:Nat) (F cells:Array Value):(putCells id base F cells).size=cells.size:=by simp [putCells]
theorem putCells_in (base:Nat) (F cells:Array Value) (t:Nat) (h:t<F.size) (hs:base+t<cells.size):(putCells id base F cells)[base+t]? = some F[t]!:=by
  simp only [putCells,Array.getElem?_mapIdx,Array.getElem?_eq_getElem hs,Option.map_some,id]
  rw [if_pos ⟨by omega,by omega⟩,show base+t - base=t by omega]
theorem look_one {ob ob':Ob} {o:Id} (h:lk [(0,ob)] o=some ob') (hb:ob.bx=false:=by rfl):o=0∧ob'=ob:=by
  unfold lk at h
  split at h
  · rename_i ob1 h1
    obtain ⟨oo,m⟩:=o
    simp only [List.lookup] at h1
    split at h1
    · rename_i h2
      cases h1
      have h2:oo=0:=by simpa using h2
      obtain ⟨h3,h4⟩:=vw_plain (isF_nb hb) h
      simp only at h3
      subst h2;subst h3
      exact ⟨rfl,h4⟩
    · cases h1
  · cases h
theorem lk_one (ob:Ob) (hb:ob.bx=false:=by rfl):lk [(0,ob)] 0=some ob:=lk_plain (H:=[(0,ob)]) (o:=0) rfl (isF_nb hb)
theorem own_one (β:Id→Option Addr) (ob:Ob) (b:Nat) (hb:ob.bx=false:=by rfl):ownOf β [(0,ob)] b↔∃ a,β 0=some a∧a.block=b:=by
  constructor
  · rintro ⟨o,ob',a,h1,h2,h3⟩
    obtain ⟨rfl,_⟩:=look_one h1 hb
    exact ⟨a,h2,h3⟩
  · rintro ⟨a,h1,h2⟩
    exact ⟨0,ob,a,lk_one ob hb,h1,h2⟩
theorem ow_one (X:Nat→Prop) (β:Id→Option Addr) (ob ob':Ob) (hb:ob.bx=false:=by rfl) (hb':ob'.bx=false:=by rfl):ow X β [(0,ob)]=ow X β [(0,ob')]:=by
  funext t b
  simp only [ow,own_one β ob b hb,own_one β ob' b hb']
theorem sW_post {w:World} {β:Id→Option Addr} {X:Nat→Prop} {z n:Nat} {fo f':Nat→List AV} {b base q:Nat} {F:Array Value} {os:Array Obj} {cells:Array Value} {el:TypeId} {res:AV} {v:Value}
    (hβ:β 0=some ⟨b,base,none⟩) (hh:w.heap[b]? = some (.cells cells el (0,0)))
    (hS:Sep β [(0,⟨false,z,n,fo⟩)])
    (hsz:base+n*z≤cells.size) (hF:F.size=n*z)
    (hrow:∀ i,i<n→∀ j,j<z→One (F[i*z+j]!)∧∀ (w:World) (own:Bool→Nat→Prop),VR w β own ((f' i).getD j anyA) (F[i*z+j]!))
    (hv:∀ own:Bool→Nat→Prop,VR (sW w b base q F os) β own res v) :
    ∃ v' β',Ending.returned v=.returned v'∧HR (sW w b base q F os) β' (fr X β' [(0,⟨false,z,n,f'⟩)]) [(0,⟨false,z,n,f'⟩)]∧Sep β' [(0,⟨false,z,n,f'⟩)] ∧
      VR (sW w b base q F os) β' (fr X β' [(0,⟨false,z,n,f'⟩)]) res v'∧Ext w (ow X β [(0,⟨false,z,n,fo⟩)]) (sW w b base q F os) (ow X β' [(0,⟨false,z,n,f'⟩)]) ∧
      (∀ o a,β o=some a→β' o=some a)∧(∀ b,ownOf β' [(0,⟨false,z,n,f'⟩)] b→ownOf β [(0,⟨false,z,n,fo⟩)] b∨w.heap.size≤b)∧∀ k,β' k≠none→β k≠none∨(1≤k.o∧k.o<1+32):=by
  have hown:ownOf β [(0,⟨false,z,n,fo⟩)] b:=(own_one _ _ _).2 ⟨_,hβ,rfl⟩
  refine ⟨v,β,rfl,?_,?_,hv _,?_,fun o a h=>h,fun b' h=>.inl ?_,fun k h=>.inl h⟩
  · intro o ob hl
    obtain ⟨rfl,rfl⟩:=look_one hl
    refine .inr (.inl ⟨b,base,_,el,hβ,sW_at hh,?_⟩)
    intro i hi j hj
    change i<n at hi
    change j<z at hj
    show ∃ v,(putCells id base F cells)[base+(i*z+j)]? = some v∧One v∧_
    have hlt:i*z+j<n*z:=by
      have h1:=Nat.mul_le_mul_right z (show i+1≤n from hi)
      rw [Nat.add_mul,Nat.one_mul] at h1
      have h2:j<z:=hj
      omega
    exact ⟨F[i*z+j]!,putCells_in base F cells _ (by omega) (by omega),(hrow i hi j hj).1,(hrow i hi j hj).2 _ _⟩
  · intro o o' ob ob' a a' h1 h2 h3 h4 h5
    obtain ⟨rfl,rfl⟩:=look_one h1
    obtain ⟨rfl,rfl⟩:=look_one h2
    rfl
  · rw [ow_one X β ⟨false,z,n,f'⟩ ⟨false,z,n,fo⟩]
    refine ⟨rfl,rfl,rfl,by rw [sW,size_grow,size_putRow];exact Nat.le_add_right _ _,fun t c hc hn=>?_,fun t c hc h=>h,fun c cs e f h=>?_,fun c es ck h=>?_⟩
    · refine sW_ne (fun h=>hn ?_) hc
      subst h
      exact .inl hown
    · by_cases hcb:c=b
      · subst hcb
        rw [hh] at h
        injection h with h
        injection h with h1 h2 h3
        subst h1
        exact ⟨_,_,_,sW_at hh,by rw [putCells_size];exact Nat.le_refl _⟩
      · have hlt:c<w.heap.size:=by
          rcases Nat.lt_or_ge c w.heap.size with h' | h'
          · exact h'
          · rw [Array.getElem?_eq_none h'] at h;cases h
        exact ⟨cs,e,f,by rw [sW_ne hcb hlt];exact h,Nat.le_refl _⟩
    · by_cases hcb:c=b
      · subst hcb
        rw [hh] at h
        cases h
      · have hlt:c<w.heap.size:=by
          rcases Nat.lt_or_ge c w.heap.size with h' | h'
          · exact h'
          · rw [Array.getElem?_eq_none h'] at h;cases h
        exact ⟨es,ck,by rw [sW_ne hcb hlt];exact h⟩
  · rw [own_one _ _ _ rfl] at h ⊢;exact h
theorem vr_int {w:World} {β:Id→Option Addr} {own:Bool→Nat→Prop} {k:IntKind} {x:Int} {v:Value} (h:VR w β own (.p (.int k x)) v):v=.int k x:=by
  cases h with
  | p _ _ hp=>cases hp;rfl
end Go.Proofs.YtkkjoghiigiokaaGreat.Mach
namespace Go.Proofs.YtkkjoghiigiokaaGreat.Mach
open Go
set_option linter.unusedVariables false
set_option linter.unusedSimpArgs false
def brOb (n:Nat) (h:Nat→T_Bar):Ob:=⟨false,2,n,fun i=>[.p (.int .i64 (h i).1),.p (.int .i64 (h i).2.1)]⟩
def bxB (x:T_Bar):Ob:=⟨true,2,1,fun _=>[.p (.int .i64 x.1),.p (.int .i64 x.2.1)]⟩
def SL (g:Nat→T_Bar) (nb N:Nat) (x:T_Bar) (i n:Nat) (pl:Bool) (h:Nat→T_Bar):St :=
  ⟨[grG g nb N,brA x,.pt 2 0 0 0,.pt 2 1 0 0,.pt 2 2 0 0,.pt 2 3 0 0,.p (.bool pl),.p (.int .i64 i)]++List.replicate 48 anyA,
   [(0,bxG g nb N),(1,bxB x),(2,⟨true,2,1,fun _=>[.p (.int .i64 0),.p .nil]⟩),(3,⟨true,2,1,fun _=>[.p (.int .i64 N),.ar 2 4 0 n]⟩),(4,brOb n h)],5⟩
def snoc (n:Nat) (h:Nat→T_Bar) (x:T_Bar) (s:Nat):T_Bar:=(if s<n then (h s).1 else x.1,if s<n then (h s).2.1 else x.2.1,())
abbrev NB:=Nat×(Nat→T_Bar)
theorem rLz (g:Nat→T_Bar) (nb N:Nat) (x:T_Bar) :
    pieceOb Tryz.prog 0 [rg 3,rg 6,rg 1,rg 1,.head] [.code (bodyOf Tryz.f216)] (start Tryz.f216 [] 0 [grG g nb N,brA x]) [0,32,64,224,160] 1 (SL g nb N x 0 0 false (fun _=>(0,0,()))) =
    some (zf43,[(NT 0 1),(NT 0 1),((true=true)→ (AN 1)),(AI ((↑N:Int))),(AN nb),(AP nb (fun i=>[.int .i64 ((g i).1),.int .i64 ((g i).2.1)])),(AI x.1),(AI x.2.1),(AN 0),(AN 0),(AN 0),(AN 0),(false=false),((0:Int)=(↑0:Int)),((([AV.p (PV.int IntKind.i64 (↑N:Int)),brL g nb].length):Nat)=2),(NL 1 1),(NL 1 1),(AI ((↑N:Int))),(AN nb),(AP nb (fun i=>[.int .i64 ((g i).1),.int .i64 ((g i).2.1)])),((([AV.p (PV.int IntKind.i64 x.1),AV.p (PV.int IntKind.i64 x.2.1)].length):Nat)=2),(NL 1 1),(NL 1 1),(AI x.1),(AI x.2.1),((((List.map (fun v=>AV.p (absV v)) [Value.int IntKind.i64 0,Value.slice none 0 0]).length):Nat)=2),(NL 1 1),(NL 1 1),(AI 0),((((List.map (fun v=>AV.p (absV v)) [Value.int IntKind.i64 0,Value.slice none 0 0]).length):Nat)=2),(NL 1 1),(NL 1 1),(AI ((↑N:Int))),(AN 0),(AN 0),(AN 2),(NL 0 0),(AA 0 (fun i=>[.p (.int .i64 0),.p (.int .i64 0)]))]):=by kernel_rfl
theorem rLa (g:Nat→T_Bar) (nb N:Nat) (x:T_Bar) (i n:Nat) (pl:Bool) (h:Nat→T_Bar) :
    pieceOb Tryz.prog 0 [rg 5,.dec true,rm [(9,oc [] (.p (.bool (aft (g i) x))))] 2,.dec true,rg 7,rg 1,rg 11,rg 3,.head] zf43 (SL g nb N x i n pl h) [0,1,2,3,1061] 1 (SL g nb N x (i+1) (n+1+1) true (snoc (n+1) (snoc n h x) (g i))) =
    some (zf43,[(NT 0 1),((decide ((↑i:Int)<(↑nb:Int)))=true),(AG (!pl)),(((!pl)=true)→(NT 0 1)),(AG (!pl)),(AG (!pl)),(((!pl)=true)→(IL 0 (↑i:Int))),(((!pl)=true)→(IT (↑i:Int) (↑nb:Int))),(AG (!pl)),(((!pl)=true)→(NT 0 1)),(AG (!pl)),(AG (!pl)),(((!pl)=true)→ Con Tryz.prog 168 0 [] [.agg [.p (.int .i64 ((g i).1)),.p (.int .i64 ((g i).2.1))],.agg [.p (.int .i64 x.1),.p (.int .i64 x.2.1)]] [] (.p (.bool (aft (g i) x)))),(AG (!pl)),(AG (!pl)),((bif !pl then !aft (g i) x else false)=true),(NT 0 1),(NT 0 1),(NL 1 1),(NL n n),(NL ((n+1)*16) 140737488355328),(NL (n+1) 9223372036854775807),(NT 0 1),((true=true)→ (AN 1)),(NT 0 1),(NT 0 1),(IL 0 (↑i:Int)),(IT (↑i:Int) (↑nb:Int)),(NL 1 1),(NL (n+1) (n+1)),(NL ((n+1+1)*16) 140737488355328),(NL (n+1+1) 9223372036854775807),(NT 0 1),((true=true)→ (AN 1)),(ZLo ((↑i:Int)+1)),(ZHi ((↑i:Int)+1)),(AI ((↑N:Int))),(AN nb),(AP nb (fun i_1=>[.int .i64 ((g i_1).1),.int .i64 ((g i_1).2.1)])),(AI x.1),(AI x.2.1),(AN 0),(AN 0),(AN 0),(AN 0),(true=true),((((↑i:Int)+1):Int)=(↑(i+1):Int)),(AN 2),(NL 1 1),(NL 1 1),(AI ((↑N:Int))),(AN nb),(AP nb (fun i_1=>[.int .i64 ((g i_1).1),.int .i64 ((g i_1).2.1)])),(AN 2),(NL 1 1),(NL 1 1),(AI x.1),(AI x.2.1),(AN 2),(NL 1 1),(NL 1 1),(AI 0),(AN 2),(NL 1 1),(NL 1 1),(AI ((↑N:Int))),(AN 0),(AN ((n+1+1))),(AN 2),(NL (n+1+1) (n+1+1)),(CV [(3,⟨true,2,1,(fun i_2=>[.p (.int .i64 (↑N:Int)),.ar 2 1061 0 (n+1+1)])⟩),(1061,⟨false,2,(n+1+1),(fun i_2=>(if (i_2<n+1) then (if (i_2<n) then [.p (.int .i64 ((h i_2).1)),.p (.int .i64 ((h i_2).2.1))] else [.p (.int .i64 x.1),.p (.int .i64 x.2.1)]) else [.p (.int .i64 ((g i).1)),.p (.int .i64 ((g i).2.1))]))⟩),(1029,⟨false,2,1,(fun i_2=>[.p (.int .i64 ((g i).1)),.p (.int .i64 ((g i).2.1))])⟩),(645,⟨false,2,1,(fun i_2=>[.p (.int .i64 x.1),.p (.int .i64 x.2.1)])⟩),(0,⟨true,2,1,(fun i_2=>[.p (.int .i64 (↑N:Int)),.p (.seq true 2 nb (fun i_3=>[.int .i64 ((g i_3).1),.int .i64 ((g i_3).2.1)]))])⟩),(1,⟨true,2,1,(fun i_2=>[.p (.int .i64 x.1),.p (.int .i64 x.2.1)])⟩),(2,⟨true,2,1,(fun i_2=>[.p (.int .i64 0),.p (.nil)])⟩)] [0,1,2,3,1061] 1 (n+1+1) (fun i_1=>if (i_1<n+1) then (if (i_1<n) then [.p (.int .i64 ((h i_1).1)),.p (.int .i64 ((h i_1).2.1))] else [.p (.int .i64 x.1),.p (.int .i64 x.2.1)]) else [.p (.int .i64 ((g i).1)),.p (.int .i64 ((g i).2.1))]) (fun i_1=>[.p (.int .i64 (if i_1<n+1 then if i_1<n then (h i_1).1 else x.1 else (g i).1)),.p (.int .i64 (if i_1<n+1 then if i_1<n then (h i_1).2.1 else x.2.1 else (g i).2.1))]))]):=by kernel_rfl
theorem rLb (g:Nat→T_Bar) (nb N:Nat) (x:T_Bar) (i n:Nat) (pl:Bool) (h:Nat→T_Bar) :
    pieceOb Tryz.prog 0 [rg 5,.dec true,rm [(9,oc [] (.p (.bool (aft (g i) x))))] 2,.dec false,rg 11,rg 3,.head] zf43 (SL g nb N x i n pl h) [0,1,2,3,805] 1 (SL g nb N x (i+1) (n+1) pl (snoc n h (g i))) =
    some (zf43,[(NT 0 1),((decide ((↑i:Int)<(↑nb:Int)))=true),(AG (!pl)),(((!pl)=true)→(NT 0 1)),(AG (!pl)),(AG (!pl)),(((!pl)=true)→(IL 0 (↑i:Int))),(((!pl)=true)→(IT (↑i:Int) (↑nb:Int))),(AG (!pl)),(((!pl)=true)→(NT 0 1)),(AG (!pl)),(AG (!pl)),(((!pl)=true)→ Con Tryz.prog 168 0 [] [.agg [.p (.int .i64 ((g i).1)),.p (.int .i64 ((g i).2.1))],.agg [.p (.int .i64 x.1),.p (.int .i64 x.2.1)]] [] (.p (.bool (aft (g i) x)))),(AG (!pl)),(AG (!pl)),((bif !pl then !aft (g i) x else false)=false),(NT 0 1),(NT 0 1),(IL 0 (↑i:Int)),(IT (↑i:Int) (↑nb:Int)),(NL 1 1),(NL n n),(NL ((n+1)*16) 140737488355328),(NL (n+1) 9223372036854775807),(NT 0 1),((true=true)→ (AN 1)),(ZLo ((↑i:Int)+1)),(ZHi ((↑i:Int)+1)),(AI ((↑N:Int))),(AN nb),(AP nb (fun i_1=>[.int .i64 ((g i_1).1),.int .i64 ((g i_1).2.1)])),(AI x.1),(AI x.2.1),(AN 0),(AN 0),(AN 0),(AN 0),(pl=pl),((((↑i:Int)+1):Int)=(↑(i+1):Int)),(AN 2),(NL 1 1),(NL 1 1),(AI ((↑N:Int))),(AN nb),(AP nb (fun i_1=>[.int .i64 ((g i_1).1),.int .i64 ((g i_1).2.1)])),(AN 2),(NL 1 1),(NL 1 1),(AI x.1),(AI x.2.1),(AN 2),(NL 1 1),(NL 1 1),(AI 0),(AN 2),(NL 1 1),(NL 1 1),(AI ((↑N:Int))),(AN 0),(AN ((n+1))),(AN 2),(NL (n+1) (n+1)),(CV [(3,⟨true,2,1,(fun i_2=>[.p (.int .i64 (↑N:Int)),.ar 2 805 0 (n+1)])⟩),(805,⟨false,2,(n+1),(fun i_2=>(if (i_2<n) then [.p (.int .i64 ((h i_2).1)),.p (.int .i64 ((h i_2).2.1))] else [.p (.int .i64 ((g i).1)),.p (.int .i64 ((g i).2.1))]))⟩),(773,⟨false,2,1,(fun i_2=>[.p (.int .i64 ((g i).1)),.p (.int .i64 ((g i).2.1))])⟩),(0,⟨true,2,1,(fun i_2=>[.p (.int .i64 (↑N:Int)),.p (.seq true 2 nb (fun i_3=>[.int .i64 ((g i_3).1),.int .i64 ((g i_3).2.1)]))])⟩),(1,⟨true,2,1,(fun i_2=>[.p (.int .i64 x.1),.p (.int .i64 x.2.1)])⟩),(2,⟨true,2,1,(fun i_2=>[.p (.int .i64 0),.p (.nil)])⟩)] [0,1,2,3,805] 1 (n+1) (fun i_1=>if (i_1<n) then [.p (.int .i64 ((h i_1).1)),.p (.int .i64 ((h i_1).2.1))] else [.p (.int .i64 ((g i).1)),.p (.int .i64 ((g i).2.1))]) (fun i_1=>[.p (.int .i64 (if i_1<n then (h i_1).1 else (g i).1)),.p (.int .i64 (if i_1<n then (h i_1).2.1 else (g i).2.1))]))]):=by kernel_rfl
theorem rLc (g:Nat→T_Bar) (nb N:Nat) (x:T_Bar) (i n:Nat) (pl:Bool) (h:Nat→T_Bar) :
    pathOb Tryz.prog Tryz.f216 0 [rg 5,.dec false,rg 2,.dec true,rg 7,rg 2] zf43 (SL g nb N x i n pl h) [357] 1 [(0,brOb (n+1) (snoc n h x))] (.agg [.p (.int .i64 N),.ar 2 0 0 (n+1)]) =
    some [(NT 0 1),((decide ((↑i:Int)<(↑nb:Int)))=false),((!pl)=true),(NT 0 1),(NT 0 1),(NL 1 1),(NL n n),(NL ((n+1)*16) 140737488355328),(NL (n+1) 9223372036854775807),(NT 0 1),((true=true)→ (AN 1)),(NT 0 1),(NT 0 1),((true=true)→ (AN 1)),(NT 0 1),(AI ((↑N:Int))),(AN 0),(AN ((n+1))),(AN 2),(NL (n+1) (n+1)),(CV [(2,⟨true,2,1,(fun i_2=>[.p (.int .i64 (↑N:Int)),.ar 2 357 0 (n+1)])⟩),(3,⟨true,2,1,(fun i_2=>[.p (.int .i64 (↑N:Int)),.ar 2 357 0 (n+1)])⟩),(357,⟨false,2,(n+1),(fun i_2=>(if (i_2<n) then [.p (.int .i64 ((h i_2).1)),.p (.int .i64 ((h i_2).2.1))] else [.p (.int .i64 x.1),.p (.int .i64 x.2.1)]))⟩),(325,⟨false,2,1,(fun i_2=>[.p (.int .i64 x.1),.p (.int .i64 x.2.1)])⟩),(0,⟨true,2,1,(fun i_2=>[.p (.int .i64 (↑N:Int)),.p (.seq true 2 nb (fun i_3=>[.int .i64 ((g i_3).1),.int .i64 ((g i_3).2.1)]))])⟩),(1,⟨true,2,1,(fun i_2=>[.p (.int .i64 x.1),.p (.int .i64 x.2.1)])⟩)] [357] 1 (n+1) (fun i_1=>if (i_1<n) then [.p (.int .i64 ((h i_1).1)),.p (.int .i64 ((h i_1).2.1))] else [.p (.int .i64 x.1),.p (.int .i64 x.2.1)]) (fun i_1=>[.p (.int .i64 (if i_1<n then (h i_1).1 else x.1)),.p (.int .i64 (if i_1<n then (h i_1).2.1 else x.2.1))])),(AE ((n+1)))]:=by kernel_rfl
theorem rLd (g:Nat→T_Bar) (nb N:Nat) (x:T_Bar) (i n:Nat) (pl:Bool) (h:Nat→T_Bar) :
    pathOb Tryz.prog Tryz.f216 0 [rg 5,.dec false,rg 2,.dec false,rg 2] zf43 (SL g nb N x i n pl h) [4] 1 [(0,brOb n h)] (.agg [.p (.int .i64 N),.ar 2 0 0 n]) =
    some [(NT 0 1),((decide ((↑i:Int)<(↑nb:Int)))=false),((!pl)=false),(NT 0 1),(NT 0 1),((true=true)→ (AN 1)),(NT 0 1),(AI ((↑N:Int))),(AN 0),(AN n),(AN 2),(NL n n),(AA n (fun i_1=>[.p (.int .i64 ((h i_1).1)),.p (.int .i64 ((h i_1).2.1))])),(AE n)]:=by kernel_rfl
theorem snoc_lt {n:Nat} {h:Nat→T_Bar} {x:T_Bar} {s:Nat} (hs:s<n):snoc n h x s=h s:=by
  simp only [snoc,hs,if_true]
theorem snoc_ge {n:Nat} {h:Nat→T_Bar} {x:T_Bar} {s:Nat} (hs:¬ s<n):snoc n h x s=x:=by
  simp only [snoc,hs,if_false]
def insD (g:Nat→T_Bar) (x:T_Bar):Nat→Bool×Nat×(Nat→T_Bar)
  | 0=>(false,0,fun _=>(0,0,()))
  | i+1 =>
    if (bif !(insD g x i).1 then !aft (g i) x else false)=true then (true,(insD g x i).2.1+1+1,snoc ((insD g x i).2.1+1) (snoc (insD g x i).2.1 (insD g x i).2.2 x) (g i))
    else ((insD g x i).1,(insD g x i).2.1+1,snoc (insD g x i).2.1 (insD g x i).2.2 (g i))
def insR (g:Nat→T_Bar) (nb:Nat) (x:T_Bar):Nat×(Nat→T_Bar) :=
  if (insD g x nb).1=true then ((insD g x nb).2.1,(insD g x nb).2.2) else ((insD g x nb).2.1+1,snoc (insD g x nb).2.1 (insD g x nb).2.2 x)
theorem insD_n (g:Nat→T_Bar) (x:T_Bar):∀ i,(insD g x i).2.1=i+(if (insD g x i).1=true then 1 else 0)
  | 0=>rfl
  | i+1=>by
    have ih:=insD_n g x i
    simp only [insD]
    split
    · rename_i h
      have hf:(insD g x i).1=false:=by
        cases e:(insD g x i).1 with
        | false=>rfl
        | true=>rw [e] at h;simp at h
      rw [hf] at ih
      simp only [if_true]
      simp at ih
      omega
    · simp only
      omega
theorem insR_n (g:Nat→T_Bar) (nb:Nat) (x:T_Bar):(insR g nb x).1=nb+1:=by
  have h:=insD_n g x nb
  unfold insR
  split
  · rename_i hp;rw [if_pos hp] at h;exact h
  · rename_i hp;rw [if_neg hp] at h;show (insD g x nb).2.1+1=nb+1;omega
theorem con_l2Put (g:Nat→T_Bar) (nb N:Nat) (x:T_Bar) (hnb:nb≤1048576):Con Tryz.prog 216 0 [] [grG g nb N,brA x] [(0,brOb (insR g nb x).1 (insR g nb x).2)] (.agg [.p (.int .i64 N),.ar 2 0 0 (insR g nb x).1]):=by
  refine csZ Tryz.func216 (fun c hc=>?_)
  have lp:∀ d i,i+d=nb→Run Tryz.prog c 216 zf43 (SL g nb N x i (insD g x i).2.1 (insD g x i).1 (insD g x i).2.2) (Post c [(0,brOb (insR g nb x).1 (insR g nb x).2)] (.agg [.p (.int .i64 N),.ar 2 0 0 (insR g nb x).1])):=by
    intro d
    induction d with
    | zero =>
      intro i hi
      obtain rfl:i=nb:=by omega
      have hd:decide ((i:Int)<(i:Int))=false:=by simp
      have hn:=insD_n g x i
      have hle:(insD g x i).2.1≤i+1:=by split at hn<;>omega
      cases hp:(insD g x i).1 with
      | true =>
        rw [show insR g i x=((insD g x i).2.1,(insD g x i).2.2) by simp [insR,hp]]
        refine pkZ Tryz.func216 hc (rLd g i N x i (insD g x i).2.1 true (insD g x i).2.2) ?_
        repeat' (first | exact aN | apply aI)
        all_goals (first | exact aA _ _ | exact aE _ | omega | rfl | (intros;first | assumption | exact trivial | rfl | exact fT ‹_›) | (intro i hi;simp [All]))
      | false =>
        rw [show insR g i x=((insD g x i).2.1+1,snoc (insD g x i).2.1 (insD g x i).2.2 x) by simp [insR,hp]]
        refine pkZ Tryz.func216 hc (rLc g i N x i (insD g x i).2.1 false (insD g x i).2.2) ?_
        repeat' (first | exact aN | apply aI)
        all_goals (first | exact aE _ | omega | rfl | (intros;first | assumption | exact trivial | rfl | exact fT ‹_›) | (intro j hj;simp [All];done) | (intro j hj;by_cases h:j<(insD g x i).2.1<;>simp [h,snoc,cvtL,cvt,tg,tru,All]))
    | succ d ih =>
      intro i hi
      have hd:decide ((i:Int)<(nb:Int))=true:=by simp;omega
      have hn:=insD_n g x i
      have hle:(insD g x i).2.1≤i+1:=by split at hn<;>omega
      have hca:=con_l2After (g i) x
      have hs:insD g x (i+1)=if (bif !(insD g x i).1 then !aft (g i) x else false)=true then (true,(insD g x i).2.1+1+1,snoc ((insD g x i).2.1+1) (snoc (insD g x i).2.1 (insD g x i).2.2 x) (g i)) else ((insD g x i).1,(insD g x i).2.1+1,snoc (insD g x i).2.1 (insD g x i).2.2 (g i)):=rfl
      have hih:=ih (i+1) (by omega)
      cases ht:(bif !(insD g x i).1 then !aft (g i) x else false) with
      | true =>
        rw [hs,if_pos ht] at hih
        refine pcZ hc (rLa g nb N x i (insD g x i).2.1 (insD g x i).1 (insD g x i).2.2) ?_ hih
        repeat' (first | exact aN | apply aI)
        all_goals (first | exact aG _ | exact aP _ _ | omega | rfl | (intros;first | assumption | exact trivial | rfl | exact fT ‹_›) | (intros;exact hca) | (exact ht) | (intro j hj;simp [All];done) | (intro j hj;by_cases h:j<(insD g x i).2.1+1<;>by_cases h':j<(insD g x i).2.1<;>simp [h,h',snoc,cvtL,cvt,tg,tru,All]) | (simp;omega))
      | false =>
        rw [hs,if_neg (by rw [ht];simp)] at hih
        refine pcZ hc (rLb g nb N x i (insD g x i).2.1 (insD g x i).1 (insD g x i).2.2) ?_ hih
        repeat' (first | exact aN | apply aI)
        all_goals (first | exact aG _ | exact aP _ _ | omega | rfl | (intros;first | assumption | exact trivial | rfl | exact fT ‹_›) | (intros;exact hca) | (exact ht) | (intro j hj;simp [All];done) | (intro j hj;by_cases h:j<(insD g x i).2.1<;>simp [h,snoc,cvtL,cvt,tg,tru,All]))
  refine pcZ hc (rLz g nb N x) ?_ (lp nb 0 (by omega))
  repeat' (first | exact aN | apply aI)
  all_goals (first | exact aP _ _ | exact aA _ _ | omega | rfl | (intros;first | assumption | exact trivial | rfl | exact fT ‹_›) | (intro i hi;simp [All]))
end Go.Proofs.YtkkjoghiigiokaaGreat.Mach
namespace Go.Proofs.YtkkjoghiigiokaaGreat.Mach
open Go Go.Shelf Go.RowKit Go.Lib Go.Sort
set_option linter.unusedVariables false
set_option linter.unusedSimpArgs false
def ltB (x y:T_Bar):Bool:=ltOf cmpB x y
theorem ltB_iff (x y:T_Bar):ltB x y=true↔x.1<y.1∨(x.1=y.1∧x.2.1<y.2.1):=by
  rw [show ltB x y=decide (cmpB x y<0) from rfl,decide_eq_true_iff]
  unfold cmpB
  rcases Int.lt_trichotomy x.1 y.1 with h | h | h
  · rw [cmpI_1 h];simp;omega
  · rw [cmpI_3 (x:=x.1) (y:=y.1) (by omega) (by omega)]
    simp only [if_true]
    rcases Int.lt_trichotomy x.2.1 y.2.1 with h' | h' | h'
    · rw [cmpI_1 h'];simp;omega
    · rw [cmpI_3 (x:=x.2.1) (y:=y.2.1) (by omega) (by omega)];simp;omega
    · rw [cmpI_2 h'];simp;omega
  · rw [cmpI_2 h];simp;omega
theorem swoB:SWO (ltOf cmpB) where
  irrefl x:=by
    cases h:ltOf cmpB x x with
    | false=>rfl
    | true=>have:=(ltB_iff x x).1 h;omega
  trans x y z h1 h2:=by
    have h1:=(ltB_iff x y).1 h1
    have h2:=(ltB_iff y z).1 h2
    exact (ltB_iff x z).2 (by omega)
  ntrans x y z h1 h2:=by
    cases h:ltOf cmpB x z with
    | false=>rfl
    | true =>
      have h3:=(ltB_iff x z).1 h
      have e1:¬ (x.1<y.1∨(x.1=y.1∧x.2.1<y.2.1)):=fun h'=>by rw [show ltOf cmpB x y=true from (ltB_iff x y).2 h'] at h1;cases h1
      have e2:¬ (y.1<z.1∨(y.1=z.1∧y.2.1<z.2.1)):=fun h'=>by rw [show ltOf cmpB y z=true from (ltB_iff y z).2 h'] at h2;cases h2
      omega
theorem totB (x y:T_Bar) (h1:ltOf cmpB x y=false) (h2:ltOf cmpB y x=false):x=y:=by
  have e1:¬ (x.1<y.1∨(x.1=y.1∧x.2.1<y.2.1)):=fun h'=>by rw [show ltOf cmpB x y=true from (ltB_iff x y).2 h'] at h1;cases h1
  have e2:¬ (y.1<x.1∨(y.1=x.1∧y.2.1<x.2.1)):=fun h'=>by rw [show ltOf cmpB y x=true from (ltB_iff y x).2 h'] at h2;cases h2
  obtain ⟨a,b,⟨⟩⟩:=x
  obtain ⟨c,d,⟨⟩⟩:=y
  simp only [Prod.mk.injEq,and_true] at e1 e2 ⊢
  omega
def lstB (n:Nat) (h:Nat→T_Bar):List T_Bar:=(List.range n).map h
def srtL (l:List T_Bar):List T_Bar:=l.mergeSort fun x y=>!(ltOf cmpB) y x
def srtB (n:Nat) (h:Nat→T_Bar) (i:Nat):T_Bar:=(srtL (lstB n h)).getD i (0,0,())
theorem encB_len (x:T_Bar):(encB x).length=2:=rfl
theorem encB_one (x:T_Bar):∀ v∈encB x,v.oneCell'=true:=by
  intro v hv
  simp only [encB,List.mem_cons,List.not_mem_nil,or_false] at hv
  rcases hv with rfl | rfl<;>rfl
theorem srtL_len (l:List T_Bar):(srtL l).length=l.length:=by simp [srtL]
theorem lstB_len (n:Nat) (h:Nat→T_Bar):(lstB n h).length=n:=by simp [lstB]
theorem con_sortBars (n:Nat) (h:Nat→T_Bar) (hn:n≤1048576) :
    Con Tryz.prog 312 1 [(0,brOb n h)] [.ar 2 0 0 n,.p (.fn 180)] [(0,brOb n (srtB n h))] (.tup []):=by
  refine ⟨by kernel_rfl,fun w β X vals hX hH hS hd hl ha=>?_⟩
  obtain ⟨v0,v1,rfl⟩:∃ v0 v1,vals = #[v0,v1]:=by
    rcases vals with ⟨l⟩
    match l,hl with
    | [a,b],_=>exact ⟨a,b,rfl⟩
  have h0:VR w β (ow X β [(0,brOb n h)]) (.ar 2 0 0 n) v0:=ha 0 (by simp)
  have h1:VR w β (ow X β [(0,brOb n h)]) (.p (.fn 180)) v1:=ha 1 (by simp)
  have e1:v1=.func (.func 180) #[] #[]:=by
    cases h1 with
    | p _ _ hp=>cases hp;rfl
  subst e1
  have hnil:∀ (w':World) (own:Bool→Nat→Prop),VR w' β own (.tup []) (.tuple #[]):=fun w' own=>.tup [] #[] rfl (fun j hj=>absurd hj (Nat.not_lt_zero _))
  rcases Nat.eq_zero_or_pos n with rfl | hpos
  · obtain ⟨p,cap,rfl⟩:∃ p cap,v0=.slice p 0 cap:=by
      cases h0 with
      | ar0=>exact ⟨_,_,rfl⟩
      | ar=>exact ⟨_,_,rfl⟩
    refine (AnyF.slices_SortFunc_none (P:=Tryz.prog) (ρ:=Tryz.sortBar_ren) { Tryz.sortBar with } p cap _ w).mono ?_
    rintro e w' ⟨rfl,rfl⟩
    refine ⟨_,β,rfl,?_,?_,hnil _ _,?_,fun o a h=>h,fun b' h'=>.inl ?_,fun k h=>.inl h⟩
    · intro o ob hl
      obtain ⟨rfl,rfl⟩:=look_one hl
      rcases hH 0 _ (lk_one _) with ⟨hb,_⟩ | ⟨b,base,cells,el,hβ,hh,_⟩ | hm
      · exact .inl ⟨hb,rfl⟩
      · exact .inr (.inl ⟨b,base,cells,el,hβ,hh,fun i hi=>absurd hi (Nat.not_lt_zero _)⟩)
      · exact absurd hm.2.1 (by simp [brOb])
    · intro o o' ob ob' a a' h1 h2 h3 h4 h5
      obtain ⟨rfl,rfl⟩:=look_one h1
      obtain ⟨rfl,rfl⟩:=look_one h2
      rfl
    · rw [ow_one X β (brOb 0 (srtB 0 h)) (brOb 0 h)]
      exact Ext.refl _ _
    · rw [own_one _ _ _ rfl] at h' ⊢;exact h'
  · cases h0 with
    | ar0=>exact absurd hpos (Nat.lt_irrefl 0)
    | ar _ _ _ _ b base c cells elem fr' hβ hh hsz hc =>
      rcases hH 0 _ (lk_one _) with ⟨hb,_⟩ | ⟨b',base',cells',el',hβ',hh',hrw⟩ | hm
      · rw [hb] at hβ;cases hβ
      · rw [hβ] at hβ'
        injection hβ' with hβ'
        injection hβ' with i1 i2 _
        subst i1;subst i2
        rw [hh] at hh'
        injection hh' with hh'
        injection hh' with i1 i2 i3
        subst i1;subst i2;subst i3
        have hcell:∀ i,i<n→cells[base+(i*2+0)]? = some (.int .i64 (h i).1)∧cells[base+(i*2+1)]? = some (.int .i64 (h i).2.1):=by
          intro i hi
          obtain ⟨u,hu1,hu2,hu3⟩:=hrw i hi 0 (by simp [brOb])
          obtain ⟨u',hu1',hu2',hu3'⟩:=hrw i hi 1 (by simp [brOb])
          have:=vr_int (k:=.i64) (x:=(h i).1) hu3
          subst this
          have:=vr_int (k:=.i64) (x:=(h i).2.1) hu3'
          subst this
          exact ⟨hu1,hu1'⟩
        have hend:base+n*2≤cells.size:=by
          have:=(hcell (n - 1) (by omega)).2
          rcases Nat.lt_or_ge (base+((n - 1)*2+1)) cells.size with h' | h'
          · omega
          · rw [Array.getElem?_eq_none h'] at this;cases this
        have hdz:((lstB n h).toArray).size=n:=by simp [lstB]
        have hdi:∀ i,i<n→((lstB n h).toArray)[i]! = h i:=by
          intro i hi
          rw [getElem!_pos _ i (by rw [hdz];exact hi)]
          simp [lstB]
        have hHK:HoldsK encB 2 w b base (lstB n h).toArray:=by
          intro t ht
          rw [size_flatK,hdz] at ht
          rw [get_flatK _ _ _ _ (by rw [hdz];exact ht),hdi (t / 2) (by omega)]
          have hc:=hcell (t / 2) (by omega)
          rcases Nat.mod_two_eq_zero_or_one t with h2 | h2
          · refine ⟨?_,by simp [World.frozen?,hh]⟩
            rw [h2]
            have:base+t=base+(t / 2*2+0):=by omega
            simp only [World.cell?,hh]
            rw [this,hc.1];rfl
          · refine ⟨?_,by simp [World.frozen?,hh]⟩
            rw [h2]
            have:base+t=base+(t / 2*2+1):=by omega
            simp only [World.cell?,hh]
            rw [this,hc.2];rfl
        have hblk:b<w.heap.size:=by
          rcases Nat.lt_or_ge b w.heap.size with h' | h'
          · exact h'
          · rw [Array.getElem?_eq_none h'] at hh;cases hh
        have eg:∀ args w,(callFunc 180 args).run Tryz.prog w=.ok (.enter 180 args) w:=enters_of Tryz.func180 (by kernel_rfl) rfl
        have hcmp:CmpLays Tryz.prog 180 #[] encB 2 cmpB b base (lstB n h).toArray.size w:=fun _ _ _ _ x y=>cmp_bars x y _
        have hcon:=AnyQ.slices_SortFunc_total Tryz.sortBar 2 Tryz.isAgg121 Tryz.sizeOf121 encB encB_len encB_one cmpB swoB 180 #[] b base c (lstB n h).toArray w eg hcmp hHK hblk (by rw [hdz];omega) totB
        rw [hdz] at hcon
        change Calls Tryz.prog 312 _ _ _ at hcon
        rw [show base+0*2=base by omega]
        refine hcon.mono ?_
        rintro e w' ⟨rfl,q,os,rfl⟩
        refine sW_post (F:=flatK encB 2 (srtL (lstB n h)).toArray) hβ hh hS hend (by rw [size_flatK];simp [srtL_len,lstB_len]) (fun i hi j hj=>?_) (hnil _)
        have hs:((srtL (lstB n h)).toArray).size=n:=by simp [srtL_len,lstB_len]
        have hi2:i*2+j<n*2:=by omega
        rw [get_flatK _ _ _ _ (by rw [hs];exact hi2),show (i*2+j) / 2=i by omega,show (i*2+j) % 2=j by omega]
        have hgi:(srtL (lstB n h)).toArray[i]! = srtB n h i:=by
          rw [getElem!_pos _ i (by rw [hs];exact hi),srtB]
          simp [List.getD_eq_getElem?_getD,List.getElem?_eq_getElem (show i<(srtL (lstB n h)).length by rw [srtL_len,lstB_len];exact hi)]
        rw [hgi]
        rcases (show j=0∨j=1 by omega) with rfl | rfl
        · exact ⟨rfl,fun w' own=>.p _ _ (.int _ _)⟩
        · exact ⟨rfl,fun w' own=>.p _ _ (.int _ _)⟩
      · exact absurd hm.2.1 (by simp [brOb])
def leB (x y:T_Bar):Prop:=ltB y x=false
theorem leB_iff (x y:T_Bar):leB x y↔x.1<y.1∨(x.1=y.1∧x.2.1≤y.2.1):=by
  have h:=ltB_iff y x
  unfold leB
  cases hb:ltB y x with
  | false=>rw [hb] at h;simp only [Bool.false_eq_true,false_iff] at h;simp only [true_iff];omega
  | true=>rw [hb] at h;simp only [true_iff] at h;simp only [Bool.true_eq_false,false_iff];omega
theorem aft_iff (x y:T_Bar):aft x y=true↔leB x y:=by
  rw [leB_iff]
  unfold aft
  by_cases h1:x.1<y.1
  · simp [h1]
  · by_cases h2:x.1=y.1<;>simp [h1,h2]
theorem leB_antisymm (x y:T_Bar) (h1:leB x y) (h2:leB y x):x=y:=totB x y h2 h1
theorem srtL_sorted (l:List T_Bar):(srtL l).Pairwise leB:=by
  have h:=List.pairwise_mergeSort (le:=fun x y=>!(ltOf cmpB) y x) (fun a b c h1 h2=>by
    simp only [Bool.not_eq_true'] at *
    have h1:=(leB_iff a b).1 h1
    have h2:=(leB_iff b c).1 h2
    exact (leB_iff a c).2 (by omega)) (fun a b=>by
    simp only [Bool.or_eq_true,Bool.not_eq_true']
    rcases (show (a.1<b.1∨(a.1=b.1∧a.2.1≤b.2.1))∨(b.1<a.1∨(b.1=a.1∧b.2.1≤a.2.1)) by omega) with h | h
    · exact .inl ((leB_iff a b).2 h)
    · exact .inr ((leB_iff b a).2 h)) l
  exact h.imp (fun {a b} h=>show ltOf cmpB b a=false by simpa using h)
theorem srtL_perm (l:List T_Bar):(srtL l).Perm l:=List.mergeSort_perm l _
theorem srtL_eq {l m:List T_Bar} (hp:m.Perm l) (hs:m.Pairwise leB):m=srtL l :=
  List.Perm.eq_of_pairwise (le:=leB) (fun a b _ _ h1 h2=>leB_antisymm a b h1 h2) hs (srtL_sorted l) (hp.trans (srtL_perm l).symm)
theorem lstB_succ (n:Nat) (h:Nat→T_Bar):lstB (n+1) h=lstB n h++[h n]:=by simp [lstB,List.range_succ]
theorem lstB_congr {n:Nat} {h h':Nat→T_Bar} (he:∀ i,i<n→h i=h' i):lstB n h=lstB n h':=by
  simp only [lstB]
  exact List.map_congr_left (fun a ha=>he a (List.mem_range.1 ha))
theorem lstB_snoc (n:Nat) (h:Nat→T_Bar) (x:T_Bar):lstB (n+1) (snoc n h x)=lstB n h++[x]:=by
  rw [lstB_succ,lstB_congr (h':=h) (fun i hi=>snoc_lt hi),snoc_ge (Nat.lt_irrefl n)]
theorem lstB_inj {n:Nat} {h h':Nat→T_Bar} (he:lstB n h=lstB n h') (i:Nat) (hi:i<n):h i=h' i:=by
  have:(lstB n h)[i]? = (lstB n h')[i]?:=by rw [he]
  simpa [lstB,hi] using this
theorem insD_list (g:Nat→T_Bar) (x:T_Bar) (nb:Nat) (hs:(lstB nb g).Pairwise leB):∀ i,i≤nb →
    (lstB (insD g x i).2.1 (insD g x i).2.2).Perm (lstB i g++(if (insD g x i).1=true then [x] else [])) ∧
    (lstB (insD g x i).2.1 (insD g x i).2.2).Pairwise leB∧((insD g x i).1=false→(lstB (insD g x i).2.1 (insD g x i).2.2)=lstB i g∧∀ s,s<i→leB (g s) x) ∧
    ((insD g x i).1=true→∀ s,s<nb→i≤s→∀ y∈lstB (insD g x i).2.1 (insD g x i).2.2,leB y (g s)):=by
  have hmono:∀ s s',s<s'→s'<nb→leB (g s) (g s'):=by
    intro s s' h1 h2
    have:=List.pairwise_iff_getElem.1 hs s s' (by rw [lstB_len];omega) (by rw [lstB_len];omega) h1
    simpa [lstB] using this
  have htr:∀ {a b c:T_Bar},leB a b→leB b c→leB a c:=by
    intro a b c h1 h2
    have h1:=(leB_iff a b).1 h1
    have h2:=(leB_iff b c).1 h2
    exact (leB_iff a c).2 (by omega)
  intro i
  induction i with
  | zero=>intro _;exact ⟨by simp [insD,lstB],by simp [insD,lstB],fun _=>⟨rfl,fun s h=>absurd h (Nat.not_lt_zero _)⟩,fun h=>by simp [insD] at h⟩
  | succ i ih =>
    intro hi
    obtain ⟨ih1,ih2,ih3,ih4⟩:=ih (by omega)
    simp only [insD]
    split
    · rename_i ht
      have hf:(insD g x i).1=false:=by
        cases e:(insD g x i).1 with
        | false=>rfl
        | true=>rw [e] at ht;simp at ht
      rw [hf] at ht
      simp only [Bool.not_false,cond_true,Bool.not_eq_true'] at ht
      have hxg:leB x (g i):=by
        have h1:¬ leB (g i) x:=fun h=>by rw [(aft_iff _ _).2 h] at ht;cases ht
        rw [leB_iff] at h1 ⊢
        omega
      obtain ⟨e1,e2⟩:=ih3 hf
      simp only [if_true]
      rw [lstB_snoc,lstB_snoc,e1]
      have hlt:∀ y∈lstB i g,leB y x∧leB y (g i):=by
        intro y hy
        simp only [lstB,List.mem_map,List.mem_range] at hy
        obtain ⟨s,h1,rfl⟩:=hy
        exact ⟨e2 s h1,hmono s i h1 (by omega)⟩
      refine ⟨?_,?_,fun h=>by simp at h,fun _ s hs1 hs2 y hy=>?_⟩
      · rw [lstB_succ,List.append_assoc,List.append_assoc]
        exact List.Perm.append_left _ (List.Perm.swap _ _ _)
      · rw [e1] at ih2
        rw [List.append_assoc,List.pairwise_append]
        refine ⟨ih2,by simp [hxg],fun y hy y' hy'=>?_⟩
        simp only [List.cons_append,List.nil_append,List.mem_cons,List.not_mem_nil,or_false] at hy'
        rcases hy' with rfl | rfl
        · exact (hlt y hy).1
        · exact (hlt y hy).2
      · have his:leB (g i) (g s):=hmono i s (by omega) hs1
        simp only [List.mem_append,List.mem_cons,List.not_mem_nil,or_false] at hy
        rcases hy with (hy | rfl) | rfl
        · exact htr (hlt y hy).2 his
        · exact htr hxg his
        · exact his
    · rename_i ht
      rw [lstB_snoc]
      refine ⟨?_,?_,fun h=>?_,fun h s hs1 hs2 y hy=>?_⟩
      · rw [lstB_succ,List.append_assoc]
        refine (List.Perm.append_right [g i] ih1).trans ?_
        rw [List.append_assoc]
        exact List.Perm.append_left _ List.perm_append_comm
      · rw [List.pairwise_append]
        refine ⟨ih2,by simp,fun y hy y' hy'=>?_⟩
        simp only [List.mem_cons,List.not_mem_nil,or_false] at hy'
        subst hy'
        cases hp:(insD g x i).1 with
        | true=>exact ih4 hp i (by omega) (Nat.le_refl _) y hy
        | false =>
          rw [(ih3 hp).1] at hy
          simp only [lstB,List.mem_map,List.mem_range] at hy
          obtain ⟨s,h1,rfl⟩:=hy
          exact hmono s i h1 (by omega)
      · simp only at h
        obtain ⟨e1,e2⟩:=ih3 h
        refine ⟨by rw [e1,lstB_succ],fun s hs1=>?_⟩
        rcases Nat.lt_or_ge s i with h' | h'
        · exact e2 s h'
        · obtain rfl:s=i:=by omega
          rw [h] at ht
          simp only [Bool.not_false,cond_true,Bool.not_eq_true',Bool.not_eq_false] at ht
          exact (aft_iff _ _).1 ht
      · simp only at h
        simp only [List.mem_append,List.mem_cons,List.not_mem_nil,or_false] at hy
        rcases hy with hy | rfl
        · exact ih4 h s hs1 (by omega) y hy
        · exact hmono i s (by omega) hs1
theorem insR_list (g:Nat→T_Bar) (nb:Nat) (x:T_Bar) (hs:(lstB nb g).Pairwise leB) :
    lstB (insR g nb x).1 (insR g nb x).2=srtL (lstB nb g++[x]):=by
  obtain ⟨h1,h2,h3,h4⟩:=insD_list g x nb hs nb (Nat.le_refl _)
  unfold insR
  split
  · rename_i hp
    rw [if_pos hp] at h1
    exact srtL_eq h1 h2
  · rename_i hp
    have hf:(insD g x nb).1=false:=by simpa using hp
    obtain ⟨e1,e2⟩:=h3 hf
    simp only
    rw [lstB_snoc,e1]
    refine srtL_eq (List.Perm.refl _) ?_
    rw [List.pairwise_append]
    refine ⟨hs,by simp,fun y hy y' hy'=>?_⟩
    simp only [List.mem_cons,List.not_mem_nil,or_false] at hy'
    subst hy'
    simp only [lstB,List.mem_map,List.mem_range] at hy
    obtain ⟨s,h',rfl⟩:=hy
    exact e2 s h'
end Go.Proofs.YtkkjoghiigiokaaGreat.Mach
namespace Go.Proofs.YtkkjoghiigiokaaGreat.Mach
open Go
set_option linter.unusedVariables false
set_option linter.unusedSimpArgs false
def hasI (g:Nat→Int) (x:Int):Nat→Bool
  | 0=>false
  | k+1=>hasI g x k||g k==x
def inL (v:T_IntS):AV:=.p (.seq true 1 v.1 (fun i=>[.int .i64 (v.2 i)]))
def S85 (v:T_IntS) (x:Int) (k:Nat):St :=
  ⟨[inL v,.p (.int .i64 x),.p .any,.p .any,.p .any,.p (.int .i64 k)]++List.replicate 12 anyA,[],0⟩
def S112 (v:T_IntS) (x:Int) (k:Nat):St :=
  ⟨[inL v,.p (.int .i64 x)]++List.replicate 5 anyA++[.p (.int .i64 v.1),.p (.int .i64 k)]++List.replicate 10 anyA,[],0⟩
theorem p85a (v:T_IntS) (x:Int) :
    pieceOb Tryz.prog 0 [rg 1,rg 1,.head] [.code (bodyOf Tryz.f172)] (start Tryz.f172 [] 0 [inL v,.p (.int .i64 x)]) [] 1 (S85 v x 0) =
    some (zf89,[(AN v.1),(AP v.1 (fun i=>[.int .i64 (v.2 i)])),(AI x),((0:Int)=(↑0:Int))]):=by kernel_rfl
theorem p85b (v:T_IntS) (x:Int) (k:Nat) :
    pieceOb Tryz.prog 0 [rg 4,.dec true,rg 6,.dec false,rg 3,.head] zf89 (S85 v x k) [] 1 (S85 v x (k+1)) =
    some (zf89,[((decide ((↑k:Int)<(↑v.1:Int)))=true),(IL 0 (↑k:Int)),(IT (↑k:Int) (↑v.1:Int)),((v.2 k==x)=false),(ZLo ((↑k:Int)+1)),(ZHi ((↑k:Int)+1)),(AN v.1),(AP v.1 (fun i=>[.int .i64 (v.2 i)])),(AI x),((((↑k:Int)+1):Int)=(↑(k+1):Int))]):=by kernel_rfl
theorem p85c (v:T_IntS) (x:Int) (k:Nat) :
    pathOb Tryz.prog Tryz.f172 0 [rg 4,.dec true,rg 6,.dec true,rg 1] zf89 (S85 v x k) [] 1 [] (.p (.bool true)) =
    some [((decide ((↑k:Int)<(↑v.1:Int)))=true),(IL 0 (↑k:Int)),(IT (↑k:Int) (↑v.1:Int)),((v.2 k==x)=true),(true=true)]:=by kernel_rfl
theorem p85d (v:T_IntS) (x:Int) (k:Nat) :
    pathOb Tryz.prog Tryz.f172 0 [rg 4,.dec false,rg 1] zf89 (S85 v x k) [] 1 [] (.p (.bool false)) =
    some [((decide ((↑k:Int)<(↑v.1:Int)))=false),(false=false)]:=by kernel_rfl
theorem p112a (v:T_IntS) (x:Int) :
    pieceOb Tryz.prog 0 [rg 1,rg 3,.head] [.code (bodyOf Tryz.f292)] (start Tryz.f292 [] 0 [inL v,.p (.int .i64 x)]) [] 1 (S112 v x 0) =
    some (zf90,[(AN v.1),(AP v.1 (fun i=>[.int .i64 (v.2 i)])),(AI x),(AI ((↑v.1:Int))),((0:Int)=(↑0:Int))]):=by kernel_rfl
theorem p112b (v:T_IntS) (x:Int) (k:Nat) :
    pieceOb Tryz.prog 0 [rg 1,.dec true,rg 2,rg 6,.dec false,rg 2,.head] zf90 (S112 v x k) [] 1 (S112 v x (k+1)) =
    some (zf90,[((decide ((↑k:Int)<(↑v.1:Int)))=true),(IL 0 (↑k:Int)),(IT (↑k:Int) (↑v.1:Int)),((x==v.2 k)=false),(ZLo ((↑k:Int)+1)),(ZHi ((↑k:Int)+1)),(AN v.1),(AP v.1 (fun i=>[.int .i64 (v.2 i)])),(AI x),(AI ((↑v.1:Int))),((((↑k:Int)+1):Int)=(↑(k+1):Int))]):=by kernel_rfl
theorem p112c (v:T_IntS) (x:Int) (k:Nat) :
    pathOb Tryz.prog Tryz.f292 0 [rg 1,.dec true,rg 2,rg 6,.dec true,rg 2] zf90 (S112 v x k) [] 1 [] (.p (.int .i64 k)) =
    some [((decide ((↑k:Int)<(↑v.1:Int)))=true),(IL 0 (↑k:Int)),(IT (↑k:Int) (↑v.1:Int)),((x==v.2 k)=true),(AI ((↑k:Int)))]:=by kernel_rfl
theorem p112d (v:T_IntS) (x:Int) (k:Nat) :
    pathOb Tryz.prog Tryz.f292 0 [rg 1,.dec false,rg 1] zf90 (S112 v x k) [] 1 [] (.p (.int .i64 (-1))) =
    some [((decide ((↑k:Int)<(↑v.1:Int)))=false),(AI ((-1)))]:=by kernel_rfl
theorem p90 (v:T_IntS) (x r:Int) :
    pathOb Tryz.prog Tryz.f184 0 [rg 1,rm [(2,oc [] (.p (.int .i64 r)))] 2] [.code (bodyOf Tryz.f184)] (start Tryz.f184 [] 0 [inL v,.p (.int .i64 x)]) [] 1 [] (.p (.bool (decide (r≥0)))) =
    some [Con Tryz.prog 292 0 [] [.p (.seq true 1 v.1 (fun i=>[.int .i64 (v.2 i)])),.p (.int .i64 x)] [] (.p (.int .i64 r)),((decide (r≥0))=(decide (r≥0)))]:=by kernel_rfl
theorem hasI_hit (g:Nat→Int) (x:Int) (k:Nat) (h:(g k==x)=true):∀ n,k<n→hasI g x n=true
  | 0,h'=>by omega
  | n+1,h'=>by
    by_cases e:k=n
    · subst e;simp [hasI,h]
    · simp [hasI,hasI_hit g x k h n (by omega)]
theorem con_l2Has (v:T_IntS) (x:Int) (hn:v.1≤1048576):Con Tryz.prog 172 0 [] [inL v,.p (.int .i64 x)] [] (.p (.bool (hasI v.2 x v.1))):=by
  refine csZ Tryz.func172 (fun c hc=>?_)
  have lp:∀ m k,k+m=v.1→hasI v.2 x k=false→Run Tryz.prog c 172 zf89 (S85 v x k) (Post c [] (.p (.bool (hasI v.2 x v.1)))):=by
    intro m
    induction m with
    | zero =>
      intro k hk hg
      rw [show hasI v.2 x v.1=false by rw [show v.1=k by omega];exact hg]
      have hd:decide ((k:Int)<(v.1:Int))=false:=by simp;omega
      refine pkZ Tryz.func172 hc (p85d v x k) ?_
      repeat' (first | exact aN | apply aI)
      all_goals (first | omega | rfl | (intros;first | assumption | exact trivial | rfl))
    | succ m ih =>
      intro k hk hg
      have hd:decide ((k:Int)<(v.1:Int))=true:=by simp;omega
      cases he:(v.2 k==x) with
      | true =>
        rw [hasI_hit v.2 x k he v.1 (by omega)]
        refine pkZ Tryz.func172 hc (p85c v x k) ?_
        repeat' (first | exact aN | apply aI)
        all_goals (first | omega | rfl | (intros;first | assumption | exact trivial | rfl) | (exact he))
      | false =>
        refine pcZ hc (p85b v x k) ?_ (ih (k+1) (by omega) (by simp only [hasI,hg,he];rfl))
        repeat' (first | exact aN | apply aI)
        all_goals (first | exact aP _ _ | omega | rfl | (intros;first | assumption | exact trivial | rfl) | (exact he))
  refine pcZ hc (p85a v x) ?_ (lp v.1 0 (by omega) rfl)
  repeat' (first | exact aN | apply aI)
  all_goals (first | exact aP _ _ | omega | rfl | (intros;first | assumption | exact trivial | rfl))
theorem con_Index (v:T_IntS) (x:Int) (hn:v.1≤1048576):∃ r:Int,decide (r≥0)=hasI v.2 x v.1∧Con Tryz.prog 292 0 [] [inL v,.p (.int .i64 x)] [] (.p (.int .i64 r)):=by
  have key:(∃ k,k<v.1∧hasI v.2 x k=false∧(v.2 k==x)=true)∨hasI v.2 x v.1=false:=by
    have gen:∀ n,(∃ k,k<n∧hasI v.2 x k=false∧(v.2 k==x)=true)∨hasI v.2 x n=false:=by
      intro n
      induction n with
      | zero=>exact .inr rfl
      | succ n ih =>
        rcases ih with ⟨k,h1,h2⟩ | h
        · exact .inl ⟨k,by omega,h2⟩
        · cases he:(v.2 n==x) with
          | true=>exact .inl ⟨n,by omega,h,he⟩
          | false=>exact .inr (by simp only [hasI,h,he];rfl)
    exact gen v.1
  rcases key with ⟨q,hq,hq1,hq2⟩ | hno
  · refine ⟨(q:Int),by rw [hasI_hit v.2 x q hq2 v.1 hq];simp,?_⟩
    refine csZ Tryz.func292 (fun c hc=>?_)
    have lp:∀ m k,k+m=q→Run Tryz.prog c 292 zf90 (S112 v x k) (Post c [] (.p (.int .i64 (q:Int)))):=by
      intro m
      induction m with
      | zero =>
        intro k hk
        obtain rfl:k=q:=by omega
        have hd:decide ((k:Int)<(v.1:Int))=true:=by simp;omega
        have he:(x==v.2 k)=true:=by rw [beq_iff_eq] at hq2 ⊢;exact hq2.symm
        refine pkZ Tryz.func292 hc (p112c v x k) ?_
        repeat' (first | exact aN | apply aI)
        all_goals (first | omega | rfl | (intros;first | assumption | exact trivial | rfl) | (exact he))
      | succ m ih =>
        intro k hk
        have hd:decide ((k:Int)<(v.1:Int))=true:=by simp;omega
        have he:(x==v.2 k)=false:=by
          cases h:(v.2 k==x) with
          | true=>rw [hasI_hit v.2 x k h q (by omega)] at hq1;cases hq1
          | false =>
            simp only [beq_eq_false_iff_ne,ne_eq] at h ⊢
            exact fun e=>h e.symm
        refine pcZ hc (p112b v x k) ?_ (ih (k+1) (by omega))
        repeat' (first | exact aN | apply aI)
        all_goals (first | exact aP _ _ | omega | rfl | (intros;first | assumption | exact trivial | rfl) | (exact he))
    refine pcZ hc (p112a v x) ?_ (lp q 0 (by omega))
    repeat' (first | exact aN | apply aI)
    all_goals (first | exact aP _ _ | omega | rfl | (intros;first | assumption | exact trivial | rfl))
  · refine ⟨-1,by rw [hno];rfl,?_⟩
    refine csZ Tryz.func292 (fun c hc=>?_)
    have lp:∀ m k,k+m=v.1→Run Tryz.prog c 292 zf90 (S112 v x k) (Post c [] (.p (.int .i64 (-1)))):=by
      intro m
      induction m with
      | zero =>
        intro k hk
        have hd:decide ((k:Int)<(v.1:Int))=false:=by simp;omega
        refine pkZ Tryz.func292 hc (p112d v x k) ?_
        repeat' (first | exact aN | apply aI)
        all_goals (first | omega | rfl | (intros;first | assumption | exact trivial | rfl))
      | succ m ih =>
        intro k hk
        have hd:decide ((k:Int)<(v.1:Int))=true:=by simp;omega
        have he:(x==v.2 k)=false:=by
          cases h:(v.2 k==x) with
          | true=>rw [hasI_hit v.2 x k h v.1 (by omega)] at hno;cases hno
          | false =>
            simp only [beq_eq_false_iff_ne,ne_eq] at h ⊢
            exact fun e=>h e.symm
        refine pcZ hc (p112b v x k) ?_ (ih (k+1) (by omega))
        repeat' (first | exact aN | apply aI)
        all_goals (first | exact aP _ _ | omega | rfl | (intros;first | assumption | exact trivial | rfl) | (exact he))
    refine pcZ hc (p112a v x) ?_ (lp v.1 0 (by omega))
    repeat' (first | exact aN | apply aI)
    all_goals (first | exact aP _ _ | omega | rfl | (intros;first | assumption | exact trivial | rfl))
theorem con_Contains (v:T_IntS) (x:Int) (hn:v.1≤1048576):Con Tryz.prog 184 0 [] [inL v,.p (.int .i64 x)] [] (.p (.bool (hasI v.2 x v.1))):=by
  obtain ⟨r,hr,hcon⟩:=con_Index v x hn
  rw [← hr]
  refine csZ Tryz.func184 (fun c hc=>?_)
  refine pkZ Tryz.func184 hc (p90 v x r) ?_
  repeat' (first | exact aN | apply aI)
  all_goals (first | omega | rfl | (intros;first | assumption | exact trivial | rfl) | (exact hcon))
end Go.Proofs.YtkkjoghiigiokaaGreat.Mach
namespace Go.Proofs.YtkkjoghiigiokaaGreat.Mach
open Go Go.Sort
set_option linter.unusedVariables false
set_option linter.unusedSimpArgs false
def brX (a b:Int):T_Bar:=(if b<a then b else a,if b>a then b else a,())
def difN (N:Int) (s:Nat→Int) (k:Nat):Bool:=bif !inB (s k) 0 (N - 1) then true else hasI s (s k) k
def difZ (N:Int) (s:Nat→Int) (k:Nat):Bool:=bif bif decide (s k<0) then true else decide (s k≥N) then true else hasI s (s k) k
def okD (N:Int) (s:Nat→Int):Nat→Bool
  | 0=>true
  | k+1=>okD N s k&&!difN N s k
def SDi (v:T_Graph) (u:T_IntS) (k:Nat):St :=
  ⟨[graphA v,inL u,.pt 2 0 0 0,.p .any,.p (.bool false),.p .any,.p .any,inL u,.p (.int .i64 u.1),.p (.int .i64 k)]++List.replicate 16 anyA,[(0,boxG v)],1⟩
def SDs (v:T_Graph) (u:T_IntS) (k:Nat):St :=
  ⟨[graphA v,inL u,.pt 2 0 0 0,.p .any,.p (.bool false),.p (.int .i64 k)]++List.replicate 30 anyA,[(0,boxG v)],1⟩
theorem dBar (a b:Int) :
    pathOb Tryz.prog Tryz.f290 0 [rg 1,rg 8] [.code (bodyOf Tryz.f290)] (start Tryz.f290 [] 0 [.p (.int .i64 a),.p (.int .i64 b)]) [] 1 [] (.agg [.p (.int .i64 (if b<a then b else a)),.p (.int .i64 (if b>a then b else a))]) =
    some [(NT 0 1),((true=true)→ (AN 1)),(NT 0 1),(((if false=true then if b>a then b else a else if b<a then b else a):Int)=(if b<a then b else a)),(((if true=true then if b>a then b else a else if b<a then b else a):Int)=(if b>a then b else a))]:=by kernel_rfl
theorem dHas (v:T_Graph) (p:Int) :
    pathOb Tryz.prog Tryz.f205 0 [rg 2,rm [(4,oc [] (.p (.bool (inB p 0 (v.1 - 1)))))] 1] [.code (bodyOf Tryz.f205)] (start Tryz.f205 [] 0 [graphA v,.p (.int .i64 p)]) [] 1 [] (.p (.bool (inB p 0 (v.1 - 1)))) =
    some [(NT 0 1),(ZLo (v.1 - 1)),(ZHi (v.1 - 1)),Con Tryz.prog 179 0 [] [.p (.int .i64 p),.p (.int .i64 0),.p (.int .i64 (v.1 - 1))] [] (.p (.bool (inB p 0 (v.1 - 1)))),((inB p 0 (v.1 - 1))=(inB p 0 (v.1 - 1)))]:=by kernel_rfl
theorem dDa (v:T_Graph) (u:T_IntS) :
    pieceOb Tryz.prog 0 [rg 2,rg 3,.head] [.code (bodyOf Tryz.f97)] (start Tryz.f97 [] 0 [graphA v,inL u]) [0] 1 (SDi v u 0) =
    some (zf103,[(AI v.1),(AN v.2.1.1),(AP v.2.1.1 (fun i=>[.int .i64 ((v.2.1.2 i).1),.int .i64 ((v.2.1.2 i).2.1)])),(AN u.1),(AP u.1 (fun i=>[.int .i64 (u.2 i)])),(AN 0),(false=false),(AN u.1),(AP u.1 (fun i=>[.int .i64 (u.2 i)])),(AI ((↑u.1:Int))),((0:Int)=(↑0:Int)),((([AV.p (PV.int IntKind.i64 v.1),graphL v.2.1].length):Nat)=2),(NL 1 1),(NL 1 1),(AI v.1),(AN v.2.1.1),(AP v.2.1.1 (fun i=>[.int .i64 ((v.2.1.2 i).1),.int .i64 ((v.2.1.2 i).2.1)]))]):=by kernel_rfl
theorem dDb (v:T_Graph) (u:T_IntS) (k:Nat) :
    pieceOb Tryz.prog 0 [rg 1,.dec true,rg 5,rm [(2,oc [] (.p (.bool (inB (u.2 k) 0 (v.1 - 1))))),(6,oc [] (.p (.bool (hasI u.2 (u.2 k) k))))] 1,.dec false,rg 2,.head] zf103 (SDi v u k) [0] 1 (SDi v u (k+1)) =
    some (zf103,[((decide ((↑k:Int)<(↑u.1:Int)))=true),(IL 0 (↑k:Int)),(IT (↑k:Int) (↑u.1:Int)),(NT 0 1),Con Tryz.prog 205 0 [] [(zf110 v),.p (.int .i64 (u.2 k))] [] (.p (.bool (inB (u.2 k) 0 (v.1 - 1)))),(AG (!!inB (u.2 k) 0 (v.1 - 1))),(AG (!!inB (u.2 k) 0 (v.1 - 1))),(((!!inB (u.2 k) 0 (v.1 - 1))=true)→(IL 0 0)),(((!!inB (u.2 k) 0 (v.1 - 1))=true)→(IL 0 (↑k:Int))),(((!!inB (u.2 k) 0 (v.1 - 1))=true)→(IL (↑k:Int) (↑u.1:Int))),(AG (!!inB (u.2 k) 0 (v.1 - 1))),(AG (!!inB (u.2 k) 0 (v.1 - 1))),(((!!inB (u.2 k) 0 (v.1 - 1))=true)→ Con Tryz.prog 184 0 [] [.p (.seq true 1 k (fun i=>[.int .i64 (u.2 i)])),.p (.int .i64 (u.2 k))] [] (.p (.bool (hasI u.2 (u.2 k) k)))),(((!inB (u.2 k) 0 (v.1 - 1))=false)→ ((!!inB (u.2 k) 0 (v.1 - 1))=true)),((bif !inB (u.2 k) 0 (v.1 - 1) then true else hasI u.2 (u.2 k) k)=false),(ZLo ((↑k:Int)+1)),(ZHi ((↑k:Int)+1)),(AI v.1),(AN v.2.1.1),(AP v.2.1.1 (fun i=>[.int .i64 ((v.2.1.2 i).1),.int .i64 ((v.2.1.2 i).2.1)])),(AN u.1),(AP u.1 (fun i=>[.int .i64 (u.2 i)])),(AN 0),(false=false),(AN u.1),(AP u.1 (fun i=>[.int .i64 (u.2 i)])),(AI ((↑u.1:Int))),((((↑k:Int)+1):Int)=(↑(k+1):Int)),(AN 2),(NL 1 1),(NL 1 1),(AI v.1),(AN v.2.1.1),(AP v.2.1.1 (fun i=>[.int .i64 ((v.2.1.2 i).1),.int .i64 ((v.2.1.2 i).2.1)]))]):=by kernel_rfl
theorem dDc (v:T_Graph) (u:T_IntS) (k:Nat) :
    pathOb Tryz.prog Tryz.f97 0 [rg 1,.dec true,rg 5,rm [(2,oc [] (.p (.bool (inB (u.2 k) 0 (v.1 - 1))))),(6,oc [] (.p (.bool (hasI u.2 (u.2 k) k))))] 1,.dec true,rg 1] zf103 (SDi v u k) [] 1 [] (.p (.bool false)) =
    some [((decide ((↑k:Int)<(↑u.1:Int)))=true),(IL 0 (↑k:Int)),(IT (↑k:Int) (↑u.1:Int)),(NT 0 1),Con Tryz.prog 205 0 [] [(zf110 v),.p (.int .i64 (u.2 k))] [] (.p (.bool (inB (u.2 k) 0 (v.1 - 1)))),(AG (!!inB (u.2 k) 0 (v.1 - 1))),(AG (!!inB (u.2 k) 0 (v.1 - 1))),(((!!inB (u.2 k) 0 (v.1 - 1))=true)→(IL 0 0)),(((!!inB (u.2 k) 0 (v.1 - 1))=true)→(IL 0 (↑k:Int))),(((!!inB (u.2 k) 0 (v.1 - 1))=true)→(IL (↑k:Int) (↑u.1:Int))),(AG (!!inB (u.2 k) 0 (v.1 - 1))),(AG (!!inB (u.2 k) 0 (v.1 - 1))),(((!!inB (u.2 k) 0 (v.1 - 1))=true)→ Con Tryz.prog 184 0 [] [.p (.seq true 1 k (fun i=>[.int .i64 (u.2 i)])),.p (.int .i64 (u.2 k))] [] (.p (.bool (hasI u.2 (u.2 k) k)))),(((!inB (u.2 k) 0 (v.1 - 1))=false)→ ((!!inB (u.2 k) 0 (v.1 - 1))=true)),((bif !inB (u.2 k) 0 (v.1 - 1) then true else hasI u.2 (u.2 k) k)=true),(false=false)]:=by kernel_rfl
theorem dDd (v:T_Graph) (u:T_IntS) (k:Nat) :
    pathOb Tryz.prog Tryz.f97 0 [rg 1,.dec false,rg 1] zf103 (SDi v u k) [] 1 [] (.p (.bool true)) =
    some [((decide ((↑k:Int)<(↑u.1:Int)))=false),(true=true)]:=by kernel_rfl
theorem dPa (v:T_Graph) (u:T_IntS) :
    pieceOb Tryz.prog 0 [rg 2,rg 1,.head] [.code (bodyOf Tryz.f86)] (start Tryz.f86 [] 0 [graphA v,inL u]) [0] 1 (SDs v u 0) =
    some (zf104,[(AI v.1),(AN v.2.1.1),(AP v.2.1.1 (fun i=>[.int .i64 ((v.2.1.2 i).1),.int .i64 ((v.2.1.2 i).2.1)])),(AN u.1),(AP u.1 (fun i=>[.int .i64 (u.2 i)])),(AN 0),(false=false),((0:Int)=(↑0:Int)),((([AV.p (PV.int IntKind.i64 v.1),graphL v.2.1].length):Nat)=2),(NL 1 1),(NL 1 1),(AI v.1),(AN v.2.1.1),(AP v.2.1.1 (fun i=>[.int .i64 ((v.2.1.2 i).1),.int .i64 ((v.2.1.2 i).2.1)]))]):=by kernel_rfl
theorem dPb (v:T_Graph) (u:T_IntS) (k:Nat) :
    pieceOb Tryz.prog 0 [rg 4,.dec true,rm [(22,oc [] (.p (.bool (hasI u.2 (u.2 k) k))))] 1,.dec false,rg 3,.head] zf104 (SDs v u k) [0] 1 (SDs v u (k+1)) =
    some (zf104,[((decide ((↑k:Int)<(↑u.1:Int)))=true),(IL 0 (↑k:Int)),(IT (↑k:Int) (↑u.1:Int)),(AG (!decide (u.2 (↑k:Int).toNat<0))),(AG (!decide (u.2 (↑k:Int).toNat<0))),(((!decide (u.2 (↑k:Int).toNat<0))=true)→(IL 0 (↑k:Int))),(((!decide (u.2 (↑k:Int).toNat<0))=true)→(IT (↑k:Int) (↑u.1:Int))),(AG (!decide (u.2 (↑k:Int).toNat<0))),(AG (!decide (u.2 (↑k:Int).toNat<0))),(((!decide (u.2 (↑k:Int).toNat<0))=true)→(NT 0 1)),(AG (!decide (u.2 (↑k:Int).toNat<0))),(AG (!decide (u.2 (↑k:Int).toNat<0))),(((decide (u.2 (↑k:Int).toNat<0))=false)→ ((!decide (u.2 (↑k:Int).toNat<0))=true)),(AG (!bif decide (u.2 (↑k:Int).toNat<0) then true else decide (u.2 (↑k:Int).toNat≥v.1))),(AG (!bif decide (u.2 (↑k:Int).toNat<0) then true else decide (u.2 (↑k:Int).toNat≥v.1))),(((!bif decide (u.2 (↑k:Int).toNat<0) then true else decide (u.2 (↑k:Int).toNat≥v.1))=true)→(IL 0 0)),(((!bif decide (u.2 (↑k:Int).toNat<0) then true else decide (u.2 (↑k:Int).toNat≥v.1))=true)→(IL 0 (↑k:Int))),(((!bif decide (u.2 (↑k:Int).toNat<0) then true else decide (u.2 (↑k:Int).toNat≥v.1))=true)→(IL (↑k:Int) (↑u.1:Int))),(AG (!bif decide (u.2 (↑k:Int).toNat<0) then true else decide (u.2 (↑k:Int).toNat≥v.1))),(AG (!bif decide (u.2 (↑k:Int).toNat<0) then true else decide (u.2 (↑k:Int).toNat≥v.1))),(((!bif decide (u.2 (↑k:Int).toNat<0) then true else decide (u.2 (↑k:Int).toNat≥v.1))=true)→(IL 0 (↑k:Int))),(((!bif decide (u.2 (↑k:Int).toNat<0) then true else decide (u.2 (↑k:Int).toNat≥v.1))=true)→(IT (↑k:Int) (↑u.1:Int))),(AG (!bif decide (u.2 (↑k:Int).toNat<0) then true else decide (u.2 (↑k:Int).toNat≥v.1))),(AG (!bif decide (u.2 (↑k:Int).toNat<0) then true else decide (u.2 (↑k:Int).toNat≥v.1))),(AG (!bif decide (u.2 (↑k:Int).toNat<0) then true else decide (u.2 (↑k:Int).toNat≥v.1))),(((!bif decide (u.2 (↑k:Int).toNat<0) then true else decide (u.2 (↑k:Int).toNat≥v.1))=true)→ Con Tryz.prog 172 0 [] [.p (.seq true 1 k (fun i=>[.int .i64 (u.2 i)])),.p (.int .i64 (u.2 k))] [] (.p (.bool (hasI u.2 (u.2 k) k)))),(((bif decide (u.2 (↑k:Int).toNat<0) then true else decide (u.2 (↑k:Int).toNat≥v.1))=false)→ ((!bif decide (u.2 (↑k:Int).toNat<0) then true else decide (u.2 (↑k:Int).toNat≥v.1))=true)),((bif bif decide (u.2 (↑k:Int).toNat<0) then true else decide (u.2 (↑k:Int).toNat≥v.1) then true else hasI u.2 (u.2 k) k)=false),(ZLo ((↑k:Int)+1)),(ZHi ((↑k:Int)+1)),(AI v.1),(AN v.2.1.1),(AP v.2.1.1 (fun i=>[.int .i64 ((v.2.1.2 i).1),.int .i64 ((v.2.1.2 i).2.1)])),(AN u.1),(AP u.1 (fun i=>[.int .i64 (u.2 i)])),(AN 0),(false=false),((((↑k:Int)+1):Int)=(↑(k+1):Int)),(AN 2),(NL 1 1),(NL 1 1),(AI v.1),(AN v.2.1.1),(AP v.2.1.1 (fun i=>[.int .i64 ((v.2.1.2 i).1),.int .i64 ((v.2.1.2 i).2.1)]))]):=by kernel_rfl
theorem dPc (v:T_Graph) (u:T_IntS) (k:Nat) :
    pathOb Tryz.prog Tryz.f86 0 [rg 4,.dec true,rm [(22,oc [] (.p (.bool (hasI u.2 (u.2 k) k))))] 1,.dec true,rg 1] zf104 (SDs v u k) [] 1 [] (.p (.bool false)) =
    some [((decide ((↑k:Int)<(↑u.1:Int)))=true),(IL 0 (↑k:Int)),(IT (↑k:Int) (↑u.1:Int)),(AG (!decide (u.2 (↑k:Int).toNat<0))),(AG (!decide (u.2 (↑k:Int).toNat<0))),(((!decide (u.2 (↑k:Int).toNat<0))=true)→(IL 0 (↑k:Int))),(((!decide (u.2 (↑k:Int).toNat<0))=true)→(IT (↑k:Int) (↑u.1:Int))),(AG (!decide (u.2 (↑k:Int).toNat<0))),(AG (!decide (u.2 (↑k:Int).toNat<0))),(((!decide (u.2 (↑k:Int).toNat<0))=true)→(NT 0 1)),(AG (!decide (u.2 (↑k:Int).toNat<0))),(AG (!decide (u.2 (↑k:Int).toNat<0))),(((decide (u.2 (↑k:Int).toNat<0))=false)→ ((!decide (u.2 (↑k:Int).toNat<0))=true)),(AG (!bif decide (u.2 (↑k:Int).toNat<0) then true else decide (u.2 (↑k:Int).toNat≥v.1))),(AG (!bif decide (u.2 (↑k:Int).toNat<0) then true else decide (u.2 (↑k:Int).toNat≥v.1))),(((!bif decide (u.2 (↑k:Int).toNat<0) then true else decide (u.2 (↑k:Int).toNat≥v.1))=true)→(IL 0 0)),(((!bif decide (u.2 (↑k:Int).toNat<0) then true else decide (u.2 (↑k:Int).toNat≥v.1))=true)→(IL 0 (↑k:Int))),(((!bif decide (u.2 (↑k:Int).toNat<0) then true else decide (u.2 (↑k:Int).toNat≥v.1))=true)→(IL (↑k:Int) (↑u.1:Int))),(AG (!bif decide (u.2 (↑k:Int).toNat<0) then true else decide (u.2 (↑k:Int).toNat≥v.1))),(AG (!bif decide (u.2 (↑k:Int).toNat<0) then true else decide (u.2 (↑k:Int).toNat≥v.1))),(((!bif decide (u.2 (↑k:Int).toNat<0) then true else decide (u.2 (↑k:Int).toNat≥v.1))=true)→(IL 0 (↑k:Int))),(((!bif decide (u.2 (↑k:Int).toNat<0) then true else decide (u.2 (↑k:Int).toNat≥v.1))=true)→(IT (↑k:Int) (↑u.1:Int))),(AG (!bif decide (u.2 (↑k:Int).toNat<0) then true else decide (u.2 (↑k:Int).toNat≥v.1))),(AG (!bif decide (u.2 (↑k:Int).toNat<0) then true else decide (u.2 (↑k:Int).toNat≥v.1))),(AG (!bif decide (u.2 (↑k:Int).toNat<0) then true else decide (u.2 (↑k:Int).toNat≥v.1))),(((!bif decide (u.2 (↑k:Int).toNat<0) then true else decide (u.2 (↑k:Int).toNat≥v.1))=true)→ Con Tryz.prog 172 0 [] [.p (.seq true 1 k (fun i=>[.int .i64 (u.2 i)])),.p (.int .i64 (u.2 k))] [] (.p (.bool (hasI u.2 (u.2 k) k)))),(((bif decide (u.2 (↑k:Int).toNat<0) then true else decide (u.2 (↑k:Int).toNat≥v.1))=false)→ ((!bif decide (u.2 (↑k:Int).toNat<0) then true else decide (u.2 (↑k:Int).toNat≥v.1))=true)),((bif bif decide (u.2 (↑k:Int).toNat<0) then true else decide (u.2 (↑k:Int).toNat≥v.1) then true else hasI u.2 (u.2 k) k)=true),(false=false)]:=by kernel_rfl
theorem dPd (v:T_Graph) (u:T_IntS) (k:Nat) :
    pathOb Tryz.prog Tryz.f86 0 [rg 4,.dec false,rg 1] zf104 (SDs v u k) [] 1 [] (.p (.bool true)) =
    some [((decide ((↑k:Int)<(↑u.1:Int)))=false),(true=true)]:=by kernel_rfl
theorem con_barX (a b:Int):Con Tryz.prog 290 0 [] [.p (.int .i64 a),.p (.int .i64 b)] [] (.agg [.p (.int .i64 (brX a b).1),.p (.int .i64 (brX a b).2.1)]):=by
  refine csZ Tryz.func290 (fun c hc=>?_)
  refine pkZ Tryz.func290 hc (dBar a b) ?_
  repeat' (first | exact aN | apply aI)
  all_goals (first | omega | rfl | (intros;first | assumption | exact trivial | rfl | exact fT ‹_›) | simp)
theorem con_hasX (v:T_Graph) (p:Int) (h1:1≤v.1) (h2:v.1≤8):Con Tryz.prog 205 0 [] [graphA v,.p (.int .i64 p)] [] (.p (.bool (inB p 0 (v.1 - 1)))):=by
  refine csZ Tryz.func205 (fun c hc=>?_)
  refine pkZ Tryz.func205 hc (dHas v p) ?_
  repeat' (first | exact aN | apply aI)
  all_goals (first | omega | rfl | (intros;first | assumption | exact trivial | rfl) | (exact con_within _ _ _))
theorem difZ_N (N:Int) (s:Nat→Int) (k:Nat):difZ N s k=difN N s k:=by
  unfold difZ difN inB
  by_cases h1:s k<0
  · have:¬ 0≤s k:=by omega
    simp [h1,this]
  · have:0≤s k:=by omega
    by_cases h2:s k≥N
    · have h3:¬ s k≤N - 1:=by omega
      simp [h1,h2,h3]
    · have h3:s k≤N - 1:=by omega
      simp [h1,h2,h3,this]
theorem okD_bad (N:Int) (s:Nat→Int) (k:Nat) (h:difN N s k=true):∀ n,k<n→okD N s n=false
  | 0,h'=>absurd h' (Nat.not_lt_zero _)
  | n+1,h'=>by
    by_cases e:k=n
    · subst e;simp [okD,h]
    · simp [okD,okD_bad N s k h n (by omega)]
theorem okD_in {N:Int} {s:Nat→Int}:∀ {n:Nat},okD N s n=true→∀ k,k<n→0≤s k∧s k<N∧∀ j,j<k→s j≠s k
  | 0,_,k,hk=>absurd hk (Nat.not_lt_zero _)
  | n+1,h,k,hk=>by
    simp only [okD,Bool.and_eq_true,Bool.not_eq_true'] at h
    by_cases e:k=n
    · subst e
      have h2:=h.2
      unfold difN at h2
      cases hb:inB (s k) 0 (N - 1) with
      | false=>rw [hb] at h2;simp at h2
      | true =>
        rw [hb] at h2
        simp only [Bool.not_true,cond_false] at h2
        simp only [inB,Bool.and_eq_true,decide_eq_true_eq] at hb
        refine ⟨hb.1,by omega,fun j hj hjk=>?_⟩
        rw [hasI_hit s (s k) j (by simpa using hjk) k hj] at h2
        cases h2
    · exact okD_in h.1 k (by omega)
theorem con_areDifferent (v:T_Graph) (u:T_IntS) (h1:1≤v.1) (h2:v.1≤8) (hn:u.1≤1048576):Con Tryz.prog 97 0 [] [graphA v,inL u] [] (.p (.bool (okD v.1 u.2 u.1))):=by
  refine csZ Tryz.func97 (fun c hc=>?_)
  have lp:∀ m k,k+m=u.1→okD v.1 u.2 k=true→Run Tryz.prog c 97 zf103 (SDi v u k) (Post c [] (.p (.bool (okD v.1 u.2 u.1)))):=by
    intro m
    induction m with
    | zero =>
      intro k hk hg
      obtain rfl:k=u.1:=by omega
      have hd:decide (((u.1:Nat):Int)<(u.1:Int))=false:=by simp
      rw [hg]
      refine pkZ Tryz.func97 hc (dDd v u u.1) ?_
      repeat' (first | exact aN | apply aI)
      all_goals (first | omega | rfl | (intros;first | assumption | exact trivial | rfl))
    | succ m ih =>
      intro k hk hg
      have hd:decide ((k:Int)<(u.1:Int))=true:=by simp;omega
      have c1:=con_hasX v (u.2 k) h1 h2
      have c2:=con_Contains (k,u.2) (u.2 k) (by show k≤1048576;omega)
      cases he:difN v.1 u.2 k with
      | true =>
        rw [okD_bad v.1 u.2 k he u.1 (by omega)]
        have he':(bif !inB (u.2 k) 0 (v.1 - 1) then true else hasI u.2 (u.2 k) k)=true:=he
        refine pkZ Tryz.func97 hc (dDc v u k) ?_
        repeat' (first | exact aN | apply aI)
        all_goals (first | exact aG _ | omega | rfl | (intros;first | assumption | exact trivial | rfl | exact fT ‹_› | ((repeat' (first | assumption | apply anda | apply notf));done)) | (exact c1) | (exact he') | (intro _;exact c2) | (intros;omega))
      | false =>
        have he':(bif !inB (u.2 k) 0 (v.1 - 1) then true else hasI u.2 (u.2 k) k)=false:=he
        refine pcZ hc (dDb v u k) ?_ (ih (k+1) (by omega) (by simp only [okD,hg,he];rfl))
        repeat' (first | exact aN | apply aI)
        all_goals (first | exact aG _ | exact aP _ _ | omega | rfl | (intros;first | assumption | exact trivial | rfl | exact fT ‹_› | ((repeat' (first | assumption | apply anda | apply notf));done)) | (exact c1) | (exact he') | (intro _;exact c2) | (intros;omega) | (intro j hj;simp [All]))
  refine pcZ hc (dDa v u) ?_ (lp u.1 0 (by omega) rfl)
  repeat' (first | exact aN | apply aI)
  all_goals (first | exact aP _ _ | omega | rfl | (intros;first | assumption | exact trivial | rfl) | (intro j hj;simp [All]))
theorem con_l7Points (v:T_Graph) (u:T_IntS) (hn:u.1≤1048576):Con Tryz.prog 86 0 [] [graphA v,inL u] [] (.p (.bool (okD v.1 u.2 u.1))):=by
  refine csZ Tryz.func86 (fun c hc=>?_)
  have lp:∀ m k,k+m=u.1→okD v.1 u.2 k=true→Run Tryz.prog c 86 zf104 (SDs v u k) (Post c [] (.p (.bool (okD v.1 u.2 u.1)))):=by
    intro m
    induction m with
    | zero =>
      intro k hk hg
      obtain rfl:k=u.1:=by omega
      have hd:decide (((u.1:Nat):Int)<(u.1:Int))=false:=by simp
      rw [hg]
      refine pkZ Tryz.func86 hc (dPd v u u.1) ?_
      repeat' (first | exact aN | apply aI)
      all_goals (first | omega | rfl | (intros;first | assumption | exact trivial | rfl))
    | succ m ih =>
      intro k hk hg
      have hd:decide ((k:Int)<(u.1:Int))=true:=by simp;omega
      have c2:=con_l2Has (k,u.2) (u.2 k) (by show k≤1048576;omega)
      have hz:=difZ_N v.1 u.2 k
      cases he:difN v.1 u.2 k with
      | true =>
        rw [okD_bad v.1 u.2 k he u.1 (by omega)]
        rw [he] at hz
        unfold difZ at hz
        refine pkZ Tryz.func86 hc (dPc v u k) ?_
        repeat' (first | exact aN | apply aI)
        all_goals (first | exact aG _ | omega | rfl | (intros;first | assumption | exact trivial | rfl | exact fT ‹_› | ((repeat' (first | assumption | apply anda | apply notf));done)) | (exact hz) | (intro _;exact c2) | (intros;omega))
      | false =>
        rw [he] at hz
        unfold difZ at hz
        refine pcZ hc (dPb v u k) ?_ (ih (k+1) (by omega) (by simp only [okD,hg,he];rfl))
        repeat' (first | exact aN | apply aI)
        all_goals (first | exact aG _ | exact aP _ _ | omega | rfl | (intros;first | assumption | exact trivial | rfl | exact fT ‹_› | ((repeat' (first | assumption | apply anda | apply notf));done)) | (exact hz) | (intro _;exact c2) | (intros;omega) | (intro j hj;simp [All]))
  refine pcZ hc (dPa v u) ?_ (lp u.1 0 (by omega) rfl)
  repeat' (first | exact aN | apply aI)
  all_goals (first | exact aP _ _ | omega | rfl | (intros;first | assumption | exact trivial | rfl) | (intro j hj;simp [All]))
theorem graph_inR {v:T_Graph} (h:isGraphF v=true):1≤v.1∧v.1≤8∧v.2.1.1≤24∧goodB v.1 v.2.1.2 v.2.1.1=true:=by
  unfold isGraphF at h
  split at h
  · rename_i h1
    simp only [inB,Bool.and_eq_true,decide_eq_true_eq] at h1
    exact ⟨h1.1.1,h1.1.2,h1.2,h⟩
  · cases h
theorem goodB_at {N:Int} {g:Nat→T_Bar}:∀ {n:Nat},goodB N g n=true→∀ k,k<n→0≤(g k).1∧(g k).1<(g k).2.1∧(g k).2.1<N∧(0<k→leB (g (k - 1)) (g k))
  | 0,_,k,hk=>absurd hk (Nat.not_lt_zero _)
  | n+1,h,k,hk=>by
    simp only [goodB,Bool.and_eq_true,Bool.not_eq_true'] at h
    by_cases e:k=n
    · subst e
      have h2:=h.2
      unfold badB at h2
      by_cases c1:(g k).1<0
      · simp [c1] at h2
      by_cases c2:(g k).1≥(g k).2.1
      · simp [c1,c2] at h2
      by_cases c3:(g k).2.1≥N
      · simp [c1,c2,c3] at h2
      refine ⟨by omega,by omega,by omega,fun h0=>?_⟩
      simp only [c1,c2,c3,decide_false,cond_false] at h2
      rw [decide_eq_true (show (k:Int)>0 by omega)] at h2
      simp only [cond_true,Bool.not_eq_false'] at h2
      rw [← aft_iff]
      rw [show ((k:Int) - 1).toNat=k - 1 by omega] at h2
      exact h2
    · exact goodB_at h.1 k (by omega)
theorem goodB_sorted {N:Int} {g:Nat→T_Bar} {n:Nat} (h:goodB N g n=true):(lstB n g).Pairwise leB:=by
  have step:=goodB_at h
  have htr:∀ {a b c:T_Bar},leB a b→leB b c→leB a c:=by
    intro a b c h1 h2
    have h1:=(leB_iff a b).1 h1
    have h2:=(leB_iff b c).1 h2
    exact (leB_iff a c).2 (by omega)
  have mono:∀ d i,i+d<n→leB (g i) (g (i+d)):=by
    intro d
    induction d with
    | zero=>intro i hi;show leB (g i) (g i);exact (leB_iff _ _).2 (by omega)
    | succ d ih=>intro i hi;exact htr (ih i (by omega)) ((step (i+(d+1)) hi).2.2.2 (by omega))
  rw [List.pairwise_iff_getElem]
  intro i j hi hj hij
  rw [lstB_len] at hi hj
  have:=mono (j - i) i (by omega)
  rw [show i+(j - i)=j by omega] at this
  simpa [lstB] using this
theorem sm_graph {v:T_Graph} (h:v.2.1.1≤1048576):smS s_Graph v:=⟨by simp [smS,smL],⟨h,fun i hi=>by simp [smS,smL]⟩,True.intro⟩
end Go.Proofs.YtkkjoghiigiokaaGreat.Mach
namespace Go.Proofs.YtkkjoghiigiokaaGreat.Mach
open Go
set_option linter.unusedVariables false
set_option linter.unusedSimpArgs false
def OkBars (N nb:Nat) (g:Nat→T_Bar):Prop:=∀ e,e<nb→0≤(g e).1∧(g e).1<(g e).2.1∧(g e).2.1<N
theorem goodB_in (N:Int) (g:Nat→T_Bar):∀ n,goodB N g n=true→∀ e,e<n→badB N g e=false
  | 0,_,e,he=>by omega
  | n+1,h,e,he=>by
    simp only [goodB,Bool.and_eq_true,Bool.not_eq_true'] at h
    by_cases h':e=n
    · subst h';exact h.2
    · exact goodB_in N g n h.1 e (by omega)
theorem graph_in {N nb:Nat} {g:Nat→T_Bar} (h:isGraphF ((N:Int),(nb,g),())=true):(1≤N∧N≤8)∧nb≤24∧OkBars N nb g:=by
  unfold isGraphF at h
  split at h
  case isFalse=>cases h
  rename_i hc
  obtain ⟨h1,h2⟩:=hc
  simp only [inB,Bool.and_eq_true,decide_eq_true_eq] at h1
  refine ⟨by omega,h2,fun e he=>?_⟩
  have hb:=goodB_in (N:Int) g nb h e he
  unfold badB at hb
  by_cases a1:(g e).1<0
  · simp [a1] at hb
  by_cases a2:(g e).1≥(g e).2.1
  · simp [a2] at hb
  by_cases a3:(g e).2.1≥(N:Int)
  · simp [a3] at hb
  omega
end Go.Proofs.YtkkjoghiigiokaaGreat.Mach
namespace Go.Proofs.YtkkjoghiigiokaaGreat.Mach
open Go
set_option linter.unusedVariables false
set_option linter.unusedSimpArgs false
theorem rHas (g:Nat→T_Bar) (nb N:Nat) (p:Int) :
    pathOb Tryz.prog Tryz.f205 0 [rg 2,rm [(4,oc [] (.p (.bool (inB p 0 ((N:Int) - 1)))))] 1] [.code (bodyOf Tryz.f205)] (start Tryz.f205 [] 0 [grG g nb N,.p (.int .i64 p)]) [] 1 [] (.p (.bool (inB p 0 ((N:Int) - 1)))) =
    some [(NT 0 1),(ZLo ((↑N:Int) - 1)),(ZHi ((↑N:Int) - 1)),Con Tryz.prog 179 0 [] [.p (.int .i64 p),.p (.int .i64 0),.p (.int .i64 ((↑N:Int) - 1))] [] (.p (.bool (inB p 0 ((↑N:Int) - 1)))),((inB p 0 ((↑N:Int) - 1))=(inB p 0 ((↑N:Int) - 1)))]:=by kernel_rfl
end Go.Proofs.YtkkjoghiigiokaaGreat.Mach
namespace Go.Proofs.YtkkjoghiigiokaaGreat.Mach
open Go
set_option linter.unusedVariables false
set_option linter.unusedSimpArgs false
theorem con_has {N nb:Nat} {g:Nat→T_Bar} (hN:1≤N∧N≤8) {p:Int} (hp:0≤p∧p<N):Con Tryz.prog 205 0 [] [grG g nb N,.p (.int .i64 p)] [] (.p (.bool true)):=by
  have hw:=con_within p 0 ((N:Int) - 1)
  have ht:inB p 0 ((N:Int) - 1)=true:=by simp [inB];omega
  rw [show (true:Bool)=inB p 0 ((N:Int) - 1) from ht.symm]
  refine csZ Tryz.func205 (fun c hc=>?_)
  refine pkZ Tryz.func205 hc (rHas g nb N p) ?_
  repeat' (first | exact aN | apply aI)
  all_goals (first | omega | rfl | (intros;first | assumption | exact trivial | rfl) | (exact hw))
end Go.Proofs.YtkkjoghiigiokaaGreat.Mach
namespace Go.Proofs.YtkkjoghiigiokaaGreat.Mach
open Go
set_option linter.unusedVariables false
set_option linter.unusedSimpArgs false
def flt (p:Nat→Bool):Nat→T_IntS
  | 0=>(0,fun _=>0)
  | i+1=>if p i=true then ((flt p i).1+1,fun s=>if s<(flt p i).1 then (flt p i).2 s else i) else flt p i
theorem flt_n (p:Nat→Bool):∀ i,(flt p i).1≤i
  | 0=>Nat.le_refl _
  | i+1=>by
    have:=flt_n p i
    simp only [flt]
    split
    · show (flt p i).1+1≤i+1;omega
    · omega
theorem flt_t {p:Nat→Bool} {i:Nat} (h:p i=true):flt p (i+1)=((flt p i).1+1,fun s=>if s<(flt p i).1 then (flt p i).2 s else i):=by simp [flt,h]
theorem flt_f {p:Nat→Bool} {i:Nat} (h:p i=false):flt p (i+1)=flt p i:=by simp [flt,h]
end Go.Proofs.YtkkjoghiigiokaaGreat.Mach
namespace Go.Proofs.YtkkjoghiigiokaaGreat.Mach
open Go
set_option linter.unusedVariables false
set_option linter.unusedSimpArgs false
def bxV (v:T_Graph):Ob:=⟨true,2,1,fun _=>[.p (.int .i64 v.1),brL v.2.1.2 v.2.1.1]⟩
def CSv (v:T_Graph) (w:T_IntS) (i c:Nat) (f:Nat→Int):St :=
  ⟨[graphA v,inL w,.pt 2 0 0 0,.p .any,.p .any,.ar 1 1 0 c,.p (.int .i64 i)]++List.replicate 31 anyA,[(0,bxV v),(1,iOb c f)],2⟩
def CSw (v:T_Graph) (w:T_IntS) (i c:Nat) (f:Nat→Int):St :=
  ⟨[graphA v,inL w,.pt 2 0 0 0,.p .any,.p .any,.ar 1 1 0 c,.p .any,.p .any,.p .any,.p .any,brL v.2.1.2 v.2.1.1,.p (.int .i64 v.2.1.1),.p (.int .i64 i)]++List.replicate 20 anyA,[(0,bxV v),(1,iOb c f)],2⟩
theorem oVz (v:T_Graph) (w:T_IntS) :
    pieceOb Tryz.prog 0 [rg 2,rg 2,rg 1,.head] [.code (bodyOf Tryz.f87)] (start Tryz.f87 [] 0 [graphA v,inL w]) [0,64] 1 (CSv v w 0 0 (fun _=>0)) =
    some (zf84,[(AI v.1),(AN v.2.1.1),(AP v.2.1.1 (fun i=>[.int .i64 ((v.2.1.2 i).1),.int .i64 ((v.2.1.2 i).2.1)])),(AN w.1),(AP w.1 (fun i=>[.int .i64 (w.2 i)])),(AN 0),(AN 0),(AN 0),((0:Int)=(↑0:Int)),((([AV.p (PV.int IntKind.i64 v.1),graphL v.2.1].length):Nat)=2),(NL 1 1),(NL 1 1),(AI v.1),(AN v.2.1.1),(AP v.2.1.1 (fun i=>[.int .i64 ((v.2.1.2 i).1),.int .i64 ((v.2.1.2 i).2.1)])),(AN 1),(NL 0 0),(AA 0 (fun i=>[.p (.int .i64 0)]))]):=by kernel_rfl
theorem oVt (v:T_Graph) (w:T_IntS) (i c:Nat) (f:Nat→Int) (a b:Bool) :
    pieceOb Tryz.prog 0 [rg 5,.dec true,rm [(7,oc [] (.p (.bool a))),(8,oc [] (.p (.bool b)))] 1,.dec true,rg 5,rg 3,.head] zf84 (CSv v w i c f) [0,834] 1 (CSv v w (i+1) (c+1) (fun s=>if s<c then f s else i)) =
    some (zf84,[(NT 0 1),((decide ((↑i:Int)<(↑v.2.1.1:Int)))=true),(NT 0 1),(IL 0 (↑i:Int)),(IT (↑i:Int) (↑v.2.1.1:Int)),Con Tryz.prog 172 0 [] [.p (.seq true 1 w.1 (fun i_1=>[.int .i64 (w.2 i_1)])),.p (.int .i64 ((v.2.1.2 i).1))] [] (.p (.bool a)),(AG a),((a=true)→(NT 0 1)),(AG a),(AG a),((a=true)→(IL 0 (↑i:Int))),((a=true)→(IT (↑i:Int) (↑v.2.1.1:Int))),(AG a),(AG a),(AG a),(AG a),((a=true)→ Con Tryz.prog 172 0 [] [.p (.seq true 1 w.1 (fun i_1=>[.int .i64 (w.2 i_1)])),.p (.int .i64 ((v.2.1.2 i).2.1))] [] (.p (.bool b))),(AG a),((bif a then b else false)=true),(NL 1 1),(NL c c),(NL ((c+1)*8) 140737488355328),(NL (c+1) 9223372036854775807),(ZLo ((↑i:Int)+1)),(ZHi ((↑i:Int)+1)),(AI v.1),(AN v.2.1.1),(AP v.2.1.1 (fun i_1=>[.int .i64 ((v.2.1.2 i_1).1),.int .i64 ((v.2.1.2 i_1).2.1)])),(AN w.1),(AP w.1 (fun i_1=>[.int .i64 (w.2 i_1)])),(AN 0),(AN 0),(AN ((c+1))),((((↑i:Int)+1):Int)=(↑(i+1):Int)),(AN 2),(NL 1 1),(NL 1 1),(AI v.1),(AN v.2.1.1),(AP v.2.1.1 (fun i_1=>[.int .i64 ((v.2.1.2 i_1).1),.int .i64 ((v.2.1.2 i_1).2.1)])),(AN 1),(NL (c+1) (c+1)),(CV [(834,⟨false,1,(c+1),(fun i_2=>(if (i_2<c) then [.p (.int .i64 (f i_2))] else [.p (.int .i64 (↑i:Int))]))⟩),(802,⟨false,1,1,(fun i_2=>[.p (.int .i64 (↑i:Int))])⟩),(0,⟨true,2,1,(fun i_2=>[.p (.int .i64 v.1),.p (.seq true 2 v.2.1.1 (fun i_3=>[.int .i64 ((v.2.1.2 i_3).1),.int .i64 ((v.2.1.2 i_3).2.1)]))])⟩)] [0,834] 1 (c+1) (fun i_1=>if (i_1<c) then [.p (.int .i64 (f i_1))] else [.p (.int .i64 (↑i:Int))]) (fun i_1=>[.p (.int .i64 (if i_1<c then f i_1 else (↑i:Int)))]))]):=by kernel_rfl
theorem oVf (v:T_Graph) (w:T_IntS) (i c:Nat) (f:Nat→Int) (a b:Bool) :
    pieceOb Tryz.prog 0 [rg 5,.dec true,rm [(7,oc [] (.p (.bool a))),(8,oc [] (.p (.bool b)))] 1,.dec false,rg 3,.head] zf84 (CSv v w i c f) [0,1] 1 (CSv v w (i+1) c f) =
    some (zf84,[(NT 0 1),((decide ((↑i:Int)<(↑v.2.1.1:Int)))=true),(NT 0 1),(IL 0 (↑i:Int)),(IT (↑i:Int) (↑v.2.1.1:Int)),Con Tryz.prog 172 0 [] [.p (.seq true 1 w.1 (fun i_1=>[.int .i64 (w.2 i_1)])),.p (.int .i64 ((v.2.1.2 i).1))] [] (.p (.bool a)),(AG a),((a=true)→(NT 0 1)),(AG a),(AG a),((a=true)→(IL 0 (↑i:Int))),((a=true)→(IT (↑i:Int) (↑v.2.1.1:Int))),(AG a),(AG a),(AG a),(AG a),((a=true)→ Con Tryz.prog 172 0 [] [.p (.seq true 1 w.1 (fun i_1=>[.int .i64 (w.2 i_1)])),.p (.int .i64 ((v.2.1.2 i).2.1))] [] (.p (.bool b))),(AG a),((bif a then b else false)=false),(ZLo ((↑i:Int)+1)),(ZHi ((↑i:Int)+1)),(AI v.1),(AN v.2.1.1),(AP v.2.1.1 (fun i_1=>[.int .i64 ((v.2.1.2 i_1).1),.int .i64 ((v.2.1.2 i_1).2.1)])),(AN w.1),(AP w.1 (fun i_1=>[.int .i64 (w.2 i_1)])),(AN 0),(AN 0),(AN c),((((↑i:Int)+1):Int)=(↑(i+1):Int)),(AN 2),(NL 1 1),(NL 1 1),(AI v.1),(AN v.2.1.1),(AP v.2.1.1 (fun i_1=>[.int .i64 ((v.2.1.2 i_1).1),.int .i64 ((v.2.1.2 i_1).2.1)])),(AN 1),(NL c c),(AA c (fun i_1=>[.p (.int .i64 (f i_1))]))]):=by kernel_rfl
theorem oVe (v:T_Graph) (w:T_IntS) (i c:Nat) (f:Nat→Int) :
    pathOb Tryz.prog Tryz.f87 0 [rg 5,.dec false,rg 2] zf84 (CSv v w i c f) [1] 1 [(0,iOb c f)] (.ar 1 0 0 c) =
    some [(NT 0 1),((decide ((↑i:Int)<(↑v.2.1.1:Int)))=false),(AN 0),(AN c),(AN 1),(NL c c),(AA c (fun i_1=>[.p (.int .i64 (f i_1))])),(AE c)]:=by kernel_rfl
theorem oWz (v:T_Graph) (w:T_IntS) :
    pieceOb Tryz.prog 0 [rg 2,rg 2,rg 4,.head] [.code (bodyOf Tryz.f95)] (start Tryz.f95 [] 0 [graphA v,inL w]) [0,64] 1 (CSw v w 0 0 (fun _=>0)) =
    some (zf85,[(NT 0 1),(AI v.1),(AN v.2.1.1),(AP v.2.1.1 (fun i=>[.int .i64 ((v.2.1.2 i).1),.int .i64 ((v.2.1.2 i).2.1)])),(AN w.1),(AP w.1 (fun i=>[.int .i64 (w.2 i)])),(AN 0),(AN 0),(AN 0),(AN v.2.1.1),(AP v.2.1.1 (fun i=>[.int .i64 ((v.2.1.2 i).1),.int .i64 ((v.2.1.2 i).2.1)])),(AI ((↑v.2.1.1:Int))),((0:Int)=(↑0:Int)),((([AV.p (PV.int IntKind.i64 v.1),graphL v.2.1].length):Nat)=2),(NL 1 1),(NL 1 1),(AI v.1),(AN v.2.1.1),(AP v.2.1.1 (fun i=>[.int .i64 ((v.2.1.2 i).1),.int .i64 ((v.2.1.2 i).2.1)])),(AN 1),(NL 0 0),(AA 0 (fun i=>[.p (.int .i64 0)]))]):=by kernel_rfl
theorem oWt (v:T_Graph) (w:T_IntS) (i c:Nat) (f:Nat→Int) (a b:Bool) :
    pieceOb Tryz.prog 0 [rg 1,.dec true,rg 6,rm [(3,oc [] (.p (.bool a))),(4,oc [] (.p (.bool b)))] 1,.dec true,rg 5,rg 2,.head] zf85 (CSw v w i c f) [0,642] 1 (CSw v w (i+1) (c+1) (fun s=>if s<c then f s else i)) =
    some (zf85,[((decide ((↑i:Int)<(↑v.2.1.1:Int)))=true),(IL 0 (↑i:Int)),(IT (↑i:Int) (↑v.2.1.1:Int)),(NT 0 1),((true=true)→ (AN 1)),(NT 0 1),Con Tryz.prog 184 0 [] [.p (.seq true 1 w.1 (fun i_1=>[.int .i64 (w.2 i_1)])),.p (.int .i64 ((v.2.1.2 i).1))] [] (.p (.bool a)),(AG a),((a=true)→(NT 0 1)),(AG a),(AG a),((a=true)→ Con Tryz.prog 184 0 [] [.p (.seq true 1 w.1 (fun i_1=>[.int .i64 (w.2 i_1)])),.p (.int .i64 ((v.2.1.2 i).2.1))] [] (.p (.bool b))),(AG a),((bif a then b else false)=true),(NL 1 1),(NL c c),(NL ((c+1)*8) 140737488355328),(NL (c+1) 9223372036854775807),(ZLo ((↑i:Int)+1)),(ZHi ((↑i:Int)+1)),(AI v.1),(AN v.2.1.1),(AP v.2.1.1 (fun i_1=>[.int .i64 ((v.2.1.2 i_1).1),.int .i64 ((v.2.1.2 i_1).2.1)])),(AN w.1),(AP w.1 (fun i_1=>[.int .i64 (w.2 i_1)])),(AN 0),(AN 0),(AN ((c+1))),(AN v.2.1.1),(AP v.2.1.1 (fun i_1=>[.int .i64 ((v.2.1.2 i_1).1),.int .i64 ((v.2.1.2 i_1).2.1)])),(AI ((↑v.2.1.1:Int))),((((↑i:Int)+1):Int)=(↑(i+1):Int)),(AN 2),(NL 1 1),(NL 1 1),(AI v.1),(AN v.2.1.1),(AP v.2.1.1 (fun i_1=>[.int .i64 ((v.2.1.2 i_1).1),.int .i64 ((v.2.1.2 i_1).2.1)])),(AN 1),(NL (c+1) (c+1)),(CV [(642,⟨false,1,(c+1),(fun i_2=>(if (i_2<c) then [.p (.int .i64 (f i_2))] else [.p (.int .i64 (↑i:Int))]))⟩),(610,⟨false,1,1,(fun i_2=>[.p (.int .i64 (↑i:Int))])⟩),(130,⟨true,2,1,(fun i_2=>[.p (.int .i64 ((v.2.1.2 i).1)),.p (.int .i64 ((v.2.1.2 i).2.1))])⟩),(0,⟨true,2,1,(fun i_2=>[.p (.int .i64 v.1),.p (.seq true 2 v.2.1.1 (fun i_3=>[.int .i64 ((v.2.1.2 i_3).1),.int .i64 ((v.2.1.2 i_3).2.1)]))])⟩)] [0,642] 1 (c+1) (fun i_1=>if (i_1<c) then [.p (.int .i64 (f i_1))] else [.p (.int .i64 (↑i:Int))]) (fun i_1=>[.p (.int .i64 (if i_1<c then f i_1 else (↑i:Int)))]))]):=by kernel_rfl
theorem oWf (v:T_Graph) (w:T_IntS) (i c:Nat) (f:Nat→Int) (a b:Bool) :
    pieceOb Tryz.prog 0 [rg 1,.dec true,rg 6,rm [(3,oc [] (.p (.bool a))),(4,oc [] (.p (.bool b)))] 1,.dec false,rg 2,.head] zf85 (CSw v w i c f) [0,1] 1 (CSw v w (i+1) c f) =
    some (zf85,[((decide ((↑i:Int)<(↑v.2.1.1:Int)))=true),(IL 0 (↑i:Int)),(IT (↑i:Int) (↑v.2.1.1:Int)),(NT 0 1),((true=true)→ (AN 1)),(NT 0 1),Con Tryz.prog 184 0 [] [.p (.seq true 1 w.1 (fun i_1=>[.int .i64 (w.2 i_1)])),.p (.int .i64 ((v.2.1.2 i).1))] [] (.p (.bool a)),(AG a),((a=true)→(NT 0 1)),(AG a),(AG a),((a=true)→ Con Tryz.prog 184 0 [] [.p (.seq true 1 w.1 (fun i_1=>[.int .i64 (w.2 i_1)])),.p (.int .i64 ((v.2.1.2 i).2.1))] [] (.p (.bool b))),(AG a),((bif a then b else false)=false),(ZLo ((↑i:Int)+1)),(ZHi ((↑i:Int)+1)),(AI v.1),(AN v.2.1.1),(AP v.2.1.1 (fun i_1=>[.int .i64 ((v.2.1.2 i_1).1),.int .i64 ((v.2.1.2 i_1).2.1)])),(AN w.1),(AP w.1 (fun i_1=>[.int .i64 (w.2 i_1)])),(AN 0),(AN 0),(AN c),(AN v.2.1.1),(AP v.2.1.1 (fun i_1=>[.int .i64 ((v.2.1.2 i_1).1),.int .i64 ((v.2.1.2 i_1).2.1)])),(AI ((↑v.2.1.1:Int))),((((↑i:Int)+1):Int)=(↑(i+1):Int)),(AN 2),(NL 1 1),(NL 1 1),(AI v.1),(AN v.2.1.1),(AP v.2.1.1 (fun i_1=>[.int .i64 ((v.2.1.2 i_1).1),.int .i64 ((v.2.1.2 i_1).2.1)])),(AN 1),(NL c c),(AA c (fun i_1=>[.p (.int .i64 (f i_1))]))]):=by kernel_rfl
theorem oWe (v:T_Graph) (w:T_IntS) (i c:Nat) (f:Nat→Int) :
    pathOb Tryz.prog Tryz.f95 0 [rg 1,.dec false,rg 2] zf85 (CSw v w i c f) [1] 1 [(0,iOb c f)] (.ar 1 0 0 c) =
    some [((decide ((↑i:Int)<(↑v.2.1.1:Int)))=false),(AN 0),(AN c),(AN 1),(NL c c),(AA c (fun i_1=>[.p (.int .i64 (f i_1))])),(AE c)]:=by kernel_rfl
def spS (g:Nat→T_Bar) (S:T_IntS) (e:Nat):Bool:=hasI S.2 (g e).1 S.1&&hasI S.2 (g e).2.1 S.1
theorem con_SpannedV_s (v:T_Graph) (S:T_IntS) (hs:smS s_Graph v) (hS:S.1≤1048576) :
    Con Tryz.prog 87 0 [] [graphA v,inL S] [(0,iOb (flt (spS v.2.1.2 S) v.2.1.1).1 (flt (spS v.2.1.2 S) v.2.1.1).2)] (.ar 1 0 0 (flt (spS v.2.1.2 S) v.2.1.1).1):=by
  refine csZ Tryz.func87 (fun c hc=>?_)
  have hnb:v.2.1.1≤1048576:=hs.2.1.1
  generalize hp:spS v.2.1.2 S=p
  generalize hR:flt p v.2.1.1=R
  have lo:∀ d i,i+d=v.2.1.1→Run Tryz.prog c 87 zf84 (CSv v S i (flt p i).1 (flt p i).2) (Post c [(0,iOb R.1 R.2)] (.ar 1 0 0 R.1)):=by
    intro d
    induction d with
    | zero =>
      intro i hi
      obtain rfl:i=v.2.1.1:=by omega
      have hd:decide ((v.2.1.1:Int)<(v.2.1.1:Int))=false:=by simp
      rw [hR]
      refine pkZ Tryz.func87 hc (oVe v S v.2.1.1 R.1 R.2) ?_
      repeat' (first | exact aN | apply aI)
      all_goals (first | exact aA _ _ | exact aE _ | omega | rfl | (intros;first | assumption | exact trivial | rfl) | (exact hd) | (intro t ht;simp [All]))
    | succ d ih =>
      intro i hi
      have hd:decide ((i:Int)<(v.2.1.1:Int))=true:=decide_eq_true (by omega)
      have hrec:=ih (i+1) (by omega)
      have hfn:=flt_n p i
      have hc1:=con_l2Has S (v.2.1.2 i).1 hS
      have hc2:=con_l2Has S (v.2.1.2 i).2.1 hS
      have hpe:p i=(hasI S.2 (v.2.1.2 i).1 S.1&&hasI S.2 (v.2.1.2 i).2.1 S.1):=by rw [← hp];rfl
      generalize hasI S.2 (v.2.1.2 i).1 S.1=a at hc1 hpe
      generalize hasI S.2 (v.2.1.2 i).2.1 S.1=b at hc2 hpe
      cases hb:p i with
      | true =>
        rw [hb] at hpe
        rw [flt_t hb] at hrec
        generalize flt p i=q at hfn hrec ⊢
        refine pcZ hc (oVt v S i q.1 q.2 a b) ?_ hrec
        repeat' (first | exact aN | apply aI)
        all_goals (first | exact aG _ | exact aP _ _ | omega | rfl | (intros;first | assumption | exact trivial | rfl | exact fT ‹_›) | (exact hd) | (exact hc1) | (intro _;exact hc2) | (simp [hpe.symm];done) | (cases a<;>cases b<;>simp at hpe ⊢;done) | (simp;omega) | (intro t ht;by_cases h':t<q.1<;>(simp [h',cvtL,cvt,tg,tru,All];done)) | (intro t ht;simp [All]))
      | false =>
        rw [hb] at hpe
        rw [flt_f hb] at hrec
        generalize flt p i=q at hfn hrec ⊢
        refine pcZ hc (oVf v S i q.1 q.2 a b) ?_ hrec
        repeat' (first | exact aN | apply aI)
        all_goals (first | exact aG _ | exact aP _ _ | exact aA _ _ | omega | rfl | (intros;first | assumption | exact trivial | rfl | exact fT ‹_›) | (exact hd) | (exact hc1) | (intro _;exact hc2) | (cases a<;>cases b<;>simp at hpe ⊢;done) | (simp;done) | (simp;omega) | (intro t ht;simp [All]))
  refine pcZ hc (oVz v S) ?_ (lo v.2.1.1 0 (by omega))
  repeat' (first | exact aN | apply aI)
  all_goals (first | exact aP _ _ | exact aA _ _ | omega | rfl | (intros;first | assumption | exact trivial | rfl) | (simp;done) | (intro t ht;exact absurd ht (Nat.not_lt_zero _)) | (intro t ht;simp [All]))
theorem con_SpannedV_i (v:T_Graph) (S:T_IntS) (hs:smS s_Graph v) (hS:S.1≤1048576) :
    Con Tryz.prog 95 0 [] [graphA v,inL S] [(0,iOb (flt (spS v.2.1.2 S) v.2.1.1).1 (flt (spS v.2.1.2 S) v.2.1.1).2)] (.ar 1 0 0 (flt (spS v.2.1.2 S) v.2.1.1).1):=by
  refine csZ Tryz.func95 (fun c hc=>?_)
  have hnb:v.2.1.1≤1048576:=hs.2.1.1
  generalize hp:spS v.2.1.2 S=p
  generalize hR:flt p v.2.1.1=R
  have lo:∀ d i,i+d=v.2.1.1→Run Tryz.prog c 95 zf85 (CSw v S i (flt p i).1 (flt p i).2) (Post c [(0,iOb R.1 R.2)] (.ar 1 0 0 R.1)):=by
    intro d
    induction d with
    | zero =>
      intro i hi
      obtain rfl:i=v.2.1.1:=by omega
      have hd:decide ((v.2.1.1:Int)<(v.2.1.1:Int))=false:=by simp
      rw [hR]
      refine pkZ Tryz.func95 hc (oWe v S v.2.1.1 R.1 R.2) ?_
      repeat' (first | exact aN | apply aI)
      all_goals (first | exact aA _ _ | exact aE _ | omega | rfl | (intros;first | assumption | exact trivial | rfl) | (exact hd) | (intro t ht;simp [All]))
    | succ d ih =>
      intro i hi
      have hd:decide ((i:Int)<(v.2.1.1:Int))=true:=decide_eq_true (by omega)
      have hrec:=ih (i+1) (by omega)
      have hfn:=flt_n p i
      have hc1:=con_Contains S (v.2.1.2 i).1 hS
      have hc2:=con_Contains S (v.2.1.2 i).2.1 hS
      have hpe:p i=(hasI S.2 (v.2.1.2 i).1 S.1&&hasI S.2 (v.2.1.2 i).2.1 S.1):=by rw [← hp];rfl
      generalize hasI S.2 (v.2.1.2 i).1 S.1=a at hc1 hpe
      generalize hasI S.2 (v.2.1.2 i).2.1 S.1=b at hc2 hpe
      cases hb:p i with
      | true =>
        rw [hb] at hpe
        rw [flt_t hb] at hrec
        generalize flt p i=q at hfn hrec ⊢
        refine pcZ hc (oWt v S i q.1 q.2 a b) ?_ hrec
        repeat' (first | exact aN | apply aI)
        all_goals (first | exact aG _ | exact aP _ _ | omega | rfl | (intros;first | assumption | exact trivial | rfl | exact fT ‹_›) | (exact hd) | (exact hc1) | (intro _;exact hc2) | (cases a<;>cases b<;>simp at hpe ⊢;done) | (simp;done) | (simp;omega) | (intro t ht;by_cases h':t<q.1<;>(simp [h',cvtL,cvt,tg,tru,All];done)) | (intro t ht;simp [All]))
      | false =>
        rw [hb] at hpe
        rw [flt_f hb] at hrec
        generalize flt p i=q at hfn hrec ⊢
        refine pcZ hc (oWf v S i q.1 q.2 a b) ?_ hrec
        repeat' (first | exact aN | apply aI)
        all_goals (first | exact aG _ | exact aP _ _ | exact aA _ _ | omega | rfl | (intros;first | assumption | exact trivial | rfl | exact fT ‹_›) | (exact hd) | (exact hc1) | (intro _;exact hc2) | (cases a<;>cases b<;>simp at hpe ⊢;done) | (simp;done) | (simp;omega) | (intro t ht;simp [All]))
  refine pcZ hc (oWz v S) ?_ (lo v.2.1.1 0 (by omega))
  repeat' (first | exact aN | apply aI)
  all_goals (first | exact aP _ _ | exact aA _ _ | omega | rfl | (intros;first | assumption | exact trivial | rfl) | (simp;done) | (intro t ht;exact absurd ht (Nat.not_lt_zero _)) | (intro t ht;simp [All]))
end Go.Proofs.YtkkjoghiigiokaaGreat.Mach
namespace Go.Proofs.YtkkjoghiigiokaaGreat.Mach
open Go
set_option linter.unusedVariables false
set_option linter.unusedSimpArgs false
def ssOb (n:Nat) (C:Nat→T_IntS):Ob:=⟨false,1,n,fun i=>[.p (.seq false 1 (C i).1 (fun s=>[.int .i64 ((C i).2 s)]))]⟩
def snocC (n:Nat) (C:Nat→T_IntS) (c:T_IntS) (i:Nat):T_IntS:=(if i<n then (C i).1 else c.1,fun s=>if i<n then (C i).2 s else c.2 s)
end Go.Proofs.YtkkjoghiigiokaaGreat.Mach
namespace Go.Proofs.YtkkjoghiigiokaaGreat.Mach
open Go
set_option linter.unusedVariables false
set_option linter.unusedSimpArgs false
def bs (l:List Int):ByteArray:=l.foldl (fun r n=>r.push (UInt8.ofNat n.toNat)) ByteArray.empty
end Go.Proofs.YtkkjoghiigiokaaGreat.Mach
namespace Go.Proofs.YtkkjoghiigiokaaGreat.Mach
open Go
set_option linter.unusedVariables false
set_option linter.unusedSimpArgs false
def gzA (g:Nat→T_Bar) (nb:Nat) (N:Int):AV:=.agg [.p (.int .i64 N),brL g nb]
def gzO (g:Nat→T_Bar) (nb:Nat) (N:Int):Ob:=⟨true,2,1,fun _=>[.p (.int .i64 N),brL g nb]⟩
def isG (g:Nat→T_Bar) (nb:Nat) (N:Int):Bool:=isGraphF (N,(nb,g),())
theorem isG_in {g:Nat→T_Bar} {nb:Nat} {N:Int} (h:isG g nb N=true):(1≤N∧N≤8)∧nb≤24∧∀ e,e<nb→0≤(g e).1∧(g e).1<(g e).2.1∧(g e).2.1<N:=by
  unfold isG at h
  have hN:1≤N:=by
    unfold isGraphF at h
    split at h
    case isFalse=>cases h
    rename_i hc
    have h4:=hc.1
    simp only [inB,Bool.and_eq_true,decide_eq_true_eq] at h4
    exact h4.1
  obtain ⟨M,rfl⟩:∃ M:Nat,N=M:=⟨N.toNat,by omega⟩
  obtain ⟨h1,h2,h3⟩:=graph_in h
  exact ⟨by omega,h2,h3⟩
theorem smG (g:Nat→T_Bar) (nb:Nat) (N:Int) (h:nb≤1048576):smS s_Graph (N,(nb,g),()):=⟨by simp [smS,smL],⟨h,fun i hi=>by simp [smS,smL]⟩,True.intro⟩
end Go.Proofs.YtkkjoghiigiokaaGreat.Mach
namespace Go.Proofs.YtkkjoghiigiokaaGreat.Mach
open Go
set_option linter.unusedVariables false
set_option linter.unusedSimpArgs false
def pcL (pl:Nat→T_Place) (np:Nat):AV:=.p (.seq true 2 np (fun i=>[.int .i64 (pl i).1,.int .i64 (pl i).2.1]))
def frA (g:Nat→T_Bar) (nb:Nat) (N:Int) (pl:Nat→T_Place) (np:Nat):AV:=.agg [.p (.int .i64 N),brL g nb,pcL pl np]
def frO (g:Nat→T_Bar) (nb:Nat) (N:Int) (pl:Nat→T_Place) (np:Nat):Ob:=⟨true,3,1,fun _=>[.p (.int .i64 N),brL g nb,pcL pl np]⟩
def tsA (g:Nat→T_Bar) (nb:Nat) (N:Int) (pl:Nat→T_Place) (np:Nat) (w:T_IntS):AV:=.agg [.p (.int .i64 N),brL g nb,pcL pl np,inL w]
def tsO (g:Nat→T_Bar) (nb:Nat) (N:Int) (pl:Nat→T_Place) (np:Nat) (w:T_IntS):Ob:=⟨true,4,1,fun _=>[.p (.int .i64 N),brL g nb,pcL pl np,inL w]⟩
def FI0 (g:Nat→T_Bar) (nb:Nat) (N:Int) (pl:Nat→T_Place) (np:Nat) (i:Nat):St :=
  ⟨[frA g nb N pl np,.pt 3 0 0 0,.p .any,.pt 2 1 0 0]++List.replicate 29 anyA++[pcL pl np,.p (.int .i64 np),.p (.int .i64 i)]++List.replicate 43 anyA,[(0,frO g nb N pl np),(1,gzO g nb N)],2⟩
def FI1 (g:Nat→T_Bar) (nb:Nat) (N:Int) (pl:Nat→T_Place) (np:Nat) (i:Nat):St :=
  ⟨[frA g nb N pl np,.pt 3 0 0 0,.p .any,.pt 2 1 0 0]++List.replicate 40 anyA++[brL g nb,.p (.int .i64 nb),.p (.int .i64 i)]++List.replicate 32 anyA,[(0,frO g nb N pl np),(1,gzO g nb N)],2⟩
def FJ0 (g:Nat→T_Bar) (nb:Nat) (N:Int) (pl:Nat→T_Place) (np:Nat) (i:Nat):St :=
  ⟨[frA g nb N pl np,.pt 3 0 0 0,.p .any,.p (.int .i64 i)]++List.replicate 95 anyA,[(0,frO g nb N pl np)],1⟩
def FJ1 (g:Nat→T_Bar) (nb:Nat) (N:Int) (pl:Nat→T_Place) (np:Nat) (i:Nat):St :=
  ⟨[frA g nb N pl np,.pt 3 0 0 0,.p .any,.p .any,.p (.int .i64 i)]++List.replicate 94 anyA,[(0,frO g nb N pl np)],1⟩
def FT0 (g:Nat→T_Bar) (nb:Nat) (N:Int) (pl:Nat→T_Place) (np:Nat) (w:T_IntS) (i:Nat):St :=
  ⟨[tsA g nb N pl np w,.pt 4 0 0 0,.p .any,.p .any,.p .any,.p .any,inL w,.p (.int .i64 w.1),.p (.int .i64 i)]++List.replicate 21 anyA,[(0,tsO g nb N pl np w)],1⟩
def FU0 (g:Nat→T_Bar) (nb:Nat) (N:Int) (pl:Nat→T_Place) (np:Nat) (w:T_IntS) (i:Nat):St :=
  ⟨[tsA g nb N pl np w,.pt 4 0 0 0,.p .any,.p (.int .i64 i)]++List.replicate 28 anyA,[(0,tsO g nb N pl np w)],1⟩
theorem yPl (a b:Int) (p q:Bool) :
    pathOb Tryz.prog Tryz.f233 0 [rg 2,rm [(2,oc [] (.p (.bool p))),(3,oc [] (.p (.bool q)))] 2] [.code (bodyOf Tryz.f233)] (start Tryz.f233 [] 0 [.agg [.p (.int .i64 a),.p (.int .i64 b)]]) [] 1 [] (.p (.bool (bif p then q else false))) =
    some [(NT 0 1),Con Tryz.prog 179 0 [] [.p (.int .i64 a),.p (.int .i64 0),.p (.int .i64 4)] [] (.p (.bool p)),(AG p),((p=true)→(NT 0 1)),(AG p),((p=true)→ Con Tryz.prog 179 0 [] [.p (.int .i64 b),.p (.int .i64 0),.p (.int .i64 4)] [] (.p (.bool q))),(AG p),((bif p then q else false)=(bif p then q else false))]:=by kernel_rfl
theorem yI0 (g:Nat→T_Bar) (nb:Nat) (N:Int) (pl:Nat→T_Place) (np:Nat) (a:Bool) :
    pathOb Tryz.prog Tryz.f128 0 [rg 2,rg 4,rm [(1,oc [] (.p (.bool a)))] 20,.dec true,rg 1] [.code (bodyOf Tryz.f128)] (start Tryz.f128 [] 0 [frA g nb N pl np]) [] 1 [] (.p (.bool false)) =
    some [(NT 0 1),(NT 0 1),((true=true)→ (AN 1)),(NT 0 1),Con Tryz.prog 62 0 [] [(zf116 N nb g)] [] (.p (.bool a)),(AG (!!a)),(((!!a)=true)→(NT 0 1)),(AG (!!a)),(((!a)=false)→ ((!!a)=true)),(AG (!bif !a then true else decide (N>6))),(((!bif !a then true else decide (N>6))=true)→(NT 0 1)),(AG (!bif !a then true else decide (N>6))),(AG (!bif !a then true else decide (N>6))),(((bif !a then true else decide (N>6))=false)→ ((!bif !a then true else decide (N>6))=true)),(AG (!bif bif !a then true else decide (N>6) then true else decide ((↑nb:Int)>15))),(((!bif bif !a then true else decide (N>6) then true else decide ((↑nb:Int)>15))=true)→(NT 0 1)),(AG (!bif bif !a then true else decide (N>6) then true else decide ((↑nb:Int)>15))),(AG (!bif bif !a then true else decide (N>6) then true else decide ((↑nb:Int)>15))),(((!bif bif !a then true else decide (N>6) then true else decide ((↑nb:Int)>15))=true)→(NT 0 1)),(AG (!bif bif !a then true else decide (N>6) then true else decide ((↑nb:Int)>15))),(AG (!bif bif !a then true else decide (N>6) then true else decide ((↑nb:Int)>15))),(((bif bif !a then true else decide (N>6) then true else decide ((↑nb:Int)>15))=false)→ ((!bif bif !a then true else decide (N>6) then true else decide ((↑nb:Int)>15))=true)),((bif bif bif !a then true else decide (N>6) then true else decide ((↑nb:Int)>15) then true else (↑np:Int) != N)=true),(false=false)]:=by kernel_rfl
theorem yIz (g:Nat→T_Bar) (nb:Nat) (N:Int) (pl:Nat→T_Place) (np:Nat) (a:Bool) :
    pieceOb Tryz.prog 0 [rg 2,rg 4,rm [(1,oc [] (.p (.bool a)))] 20,.dec false,rg 4,.head] [.code (bodyOf Tryz.f128)] (start Tryz.f128 [] 0 [frA g nb N pl np]) [0,128] 1 (FI0 g nb N pl np 0) =
    some (zf44,[(NT 0 1),(NT 0 1),((true=true)→ (AN 1)),(NT 0 1),Con Tryz.prog 62 0 [] [(zf116 N nb g)] [] (.p (.bool a)),(AG (!!a)),(((!!a)=true)→(NT 0 1)),(AG (!!a)),(((!a)=false)→ ((!!a)=true)),(AG (!bif !a then true else decide (N>6))),(((!bif !a then true else decide (N>6))=true)→(NT 0 1)),(AG (!bif !a then true else decide (N>6))),(AG (!bif !a then true else decide (N>6))),(((bif !a then true else decide (N>6))=false)→ ((!bif !a then true else decide (N>6))=true)),(AG (!bif bif !a then true else decide (N>6) then true else decide ((↑nb:Int)>15))),(((!bif bif !a then true else decide (N>6) then true else decide ((↑nb:Int)>15))=true)→(NT 0 1)),(AG (!bif bif !a then true else decide (N>6) then true else decide ((↑nb:Int)>15))),(AG (!bif bif !a then true else decide (N>6) then true else decide ((↑nb:Int)>15))),(((!bif bif !a then true else decide (N>6) then true else decide ((↑nb:Int)>15))=true)→(NT 0 1)),(AG (!bif bif !a then true else decide (N>6) then true else decide ((↑nb:Int)>15))),(AG (!bif bif !a then true else decide (N>6) then true else decide ((↑nb:Int)>15))),(((bif bif !a then true else decide (N>6) then true else decide ((↑nb:Int)>15))=false)→ ((!bif bif !a then true else decide (N>6) then true else decide ((↑nb:Int)>15))=true)),((bif bif bif !a then true else decide (N>6) then true else decide ((↑nb:Int)>15) then true else (↑np:Int) != N)=false),(NT 0 1),(AI N),(AN nb),(AP nb (fun i=>[.int .i64 ((g i).1),.int .i64 ((g i).2.1)])),(AN np),(AP np (fun i=>[.int .i64 ((pl i).1),.int .i64 ((pl i).2.1)])),(AN 0),(AN 0),(AN np),(AP np (fun i=>[.int .i64 ((pl i).1),.int .i64 ((pl i).2.1)])),(AI ((↑np:Int))),((0:Int)=(↑0:Int)),((([AV.p (PV.int IntKind.i64 N),brL g nb,pcL pl np].length):Nat)=3),(NL 1 1),(NL 1 1),(AI N),(AN nb),(AP nb (fun i=>[.int .i64 ((g i).1),.int .i64 ((g i).2.1)])),(AN np),(AP np (fun i=>[.int .i64 ((pl i).1),.int .i64 ((pl i).2.1)])),((((List.map (fun v=>AV.p (absV v)) [Value.int IntKind.i64 0,Value.slice none 0 0]).length):Nat)=2),(NL 1 1),(NL 1 1),(AI N),(AN nb),(AP nb (fun i=>[.int .i64 ((g i).1),.int .i64 ((g i).2.1)]))]):=by kernel_rfl
theorem yIt (g:Nat→T_Bar) (nb:Nat) (N:Int) (pl:Nat→T_Place) (np:Nat) (i:Nat) :
    pieceOb Tryz.prog 0 [rg 1,.dec true,rg 4,rm [(1,oc [] (.p (.bool true)))] 1,.dec false,rg 2,.head] zf44 (FI0 g nb N pl np i) [0,1] 1 (FI0 g nb N pl np (i+1)) =
    some (zf44,[((decide ((↑i:Int)<(↑np:Int)))=true),(IL 0 (↑i:Int)),(IT (↑i:Int) (↑np:Int)),(NT 0 1),((true=true)→ (AN 1)),(NT 0 1),Con Tryz.prog 233 0 [] [.agg [.p (.int .i64 ((pl i).1)),.p (.int .i64 ((pl i).2.1))]] [] (.p (.bool true)),((!true)=false),(ZLo ((↑i:Int)+1)),(ZHi ((↑i:Int)+1)),(AI N),(AN nb),(AP nb (fun i_1=>[.int .i64 ((g i_1).1),.int .i64 ((g i_1).2.1)])),(AN np),(AP np (fun i_1=>[.int .i64 ((pl i_1).1),.int .i64 ((pl i_1).2.1)])),(AN 0),(AN 0),(AN np),(AP np (fun i_1=>[.int .i64 ((pl i_1).1),.int .i64 ((pl i_1).2.1)])),(AI ((↑np:Int))),((((↑i:Int)+1):Int)=(↑(i+1):Int)),(AN 3),(NL 1 1),(NL 1 1),(AI N),(AN nb),(AP nb (fun i_1=>[.int .i64 ((g i_1).1),.int .i64 ((g i_1).2.1)])),(AN np),(AP np (fun i_1=>[.int .i64 ((pl i_1).1),.int .i64 ((pl i_1).2.1)])),(AN 2),(NL 1 1),(NL 1 1),(AI N),(AN nb),(AP nb (fun i_1=>[.int .i64 ((g i_1).1),.int .i64 ((g i_1).2.1)]))]):=by kernel_rfl
theorem yIx (g:Nat→T_Bar) (nb:Nat) (N:Int) (pl:Nat→T_Place) (np:Nat) (i:Nat) :
    pathOb Tryz.prog Tryz.f128 0 [rg 1,.dec true,rg 4,rm [(1,oc [] (.p (.bool false)))] 1,.dec true,rg 1] zf44 (FI0 g nb N pl np i) [] 1 [] (.p (.bool false)) =
    some [((decide ((↑i:Int)<(↑np:Int)))=true),(IL 0 (↑i:Int)),(IT (↑i:Int) (↑np:Int)),(NT 0 1),((true=true)→ (AN 1)),(NT 0 1),Con Tryz.prog 233 0 [] [.agg [.p (.int .i64 ((pl i).1)),.p (.int .i64 ((pl i).2.1))]] [] (.p (.bool false)),((!false)=true),(false=false)]:=by kernel_rfl
theorem yIn (g:Nat→T_Bar) (nb:Nat) (N:Int) (pl:Nat→T_Place) (np:Nat) (i:Nat) :
    pieceOb Tryz.prog 0 [rg 1,.dec false,rg 4,.head] zf44 (FI0 g nb N pl np i) [0,1] 1 (FI1 g nb N pl np 0) =
    some (zf36,[((decide ((↑i:Int)<(↑np:Int)))=false),(NT 0 1),(AI N),(AN nb),(AP nb (fun i_1=>[.int .i64 ((g i_1).1),.int .i64 ((g i_1).2.1)])),(AN np),(AP np (fun i_1=>[.int .i64 ((pl i_1).1),.int .i64 ((pl i_1).2.1)])),(AN 0),(AN 0),(AN nb),(AP nb (fun i_1=>[.int .i64 ((g i_1).1),.int .i64 ((g i_1).2.1)])),(AI ((↑nb:Int))),((0:Int)=(↑0:Int)),(AN 3),(NL 1 1),(NL 1 1),(AI N),(AN nb),(AP nb (fun i_1=>[.int .i64 ((g i_1).1),.int .i64 ((g i_1).2.1)])),(AN np),(AP np (fun i_1=>[.int .i64 ((pl i_1).1),.int .i64 ((pl i_1).2.1)])),(AN 2),(NL 1 1),(NL 1 1),(AI N),(AN nb),(AP nb (fun i_1=>[.int .i64 ((g i_1).1),.int .i64 ((g i_1).2.1)]))]):=by kernel_rfl
theorem yIb (g:Nat→T_Bar) (nb:Nat) (N:Int) (pl:Nat→T_Place) (np:Nat) (i:Nat) :
    pieceOb Tryz.prog 0 [rg 1,.dec true,rg 6,rg 27,.dec false,rg 2,.head] zf36 (FI1 g nb N pl np i) [0,1] 1 (FI1 g nb N pl np (i+1)) =
    some (zf36,[((decide ((↑i:Int)<(↑nb:Int)))=true),(IL 0 (↑i:Int)),(IT (↑i:Int) (↑nb:Int)),(NT 0 1),((true=true)→ (AN 1)),(AG (decide ((↑i:Int)>0))),(((decide ((↑i:Int)>0))=true)→(NT 0 1)),(AG (decide ((↑i:Int)>0))),(((decide ((↑i:Int)>0))=true)→(ZLo ((↑i:Int) - 1))),(((decide ((↑i:Int)>0))=true)→(ZHi ((↑i:Int) - 1))),(AG (decide ((↑i:Int)>0))),(AG (decide ((↑i:Int)>0))),(((decide ((↑i:Int)>0))=true)→(IL 0 ((↑i:Int) - 1))),(((decide ((↑i:Int)>0))=true)→(IT ((↑i:Int) - 1) (↑nb:Int))),(AG (decide ((↑i:Int)>0))),(((decide ((↑i:Int)>0))=true)→(NT 0 1)),(AG (decide ((↑i:Int)>0))),(AG (decide ((↑i:Int)>0))),(AG (decide ((↑i:Int)>0))),(AG (!bif decide ((↑i:Int)>0) then (g ((↑i:Int) - 1).toNat).1==(g i).1&&((g ((↑i:Int) - 1).toNat).2.1==(g i).2.1&&true) else false)),(((!bif decide ((↑i:Int)>0) then (g ((↑i:Int) - 1).toNat).1==(g i).1&&((g ((↑i:Int) - 1).toNat).2.1==(g i).2.1&&true) else false)=true)→(NT 0 1)),(AG (!bif decide ((↑i:Int)>0) then (g ((↑i:Int) - 1).toNat).1==(g i).1&&((g ((↑i:Int) - 1).toNat).2.1==(g i).2.1&&true) else false)),(((!bif decide ((↑i:Int)>0) then (g ((↑i:Int) - 1).toNat).1==(g i).1&&((g ((↑i:Int) - 1).toNat).2.1==(g i).2.1&&true) else false)=true)→(NT 0 1)),(AG (!bif decide ((↑i:Int)>0) then (g ((↑i:Int) - 1).toNat).1==(g i).1&&((g ((↑i:Int) - 1).toNat).2.1==(g i).2.1&&true) else false)),(AG (!bif decide ((↑i:Int)>0) then (g ((↑i:Int) - 1).toNat).1==(g i).1&&((g ((↑i:Int) - 1).toNat).2.1==(g i).2.1&&true) else false)),(((!bif decide ((↑i:Int)>0) then (g ((↑i:Int) - 1).toNat).1==(g i).1&&((g ((↑i:Int) - 1).toNat).2.1==(g i).2.1&&true) else false)=true)→(IL 0 ((g i).1))),(((!bif decide ((↑i:Int)>0) then (g ((↑i:Int) - 1).toNat).1==(g i).1&&((g ((↑i:Int) - 1).toNat).2.1==(g i).2.1&&true) else false)=true)→(IT ((g i).1) (↑np:Int))),(AG (!bif decide ((↑i:Int)>0) then (g ((↑i:Int) - 1).toNat).1==(g i).1&&((g ((↑i:Int) - 1).toNat).2.1==(g i).2.1&&true) else false)),(AG (!bif decide ((↑i:Int)>0) then (g ((↑i:Int) - 1).toNat).1==(g i).1&&((g ((↑i:Int) - 1).toNat).2.1==(g i).2.1&&true) else false)),(((!bif decide ((↑i:Int)>0) then (g ((↑i:Int) - 1).toNat).1==(g i).1&&((g ((↑i:Int) - 1).toNat).2.1==(g i).2.1&&true) else false)=true)→(NT 0 1)),(AG (!bif decide ((↑i:Int)>0) then (g ((↑i:Int) - 1).toNat).1==(g i).1&&((g ((↑i:Int) - 1).toNat).2.1==(g i).2.1&&true) else false)),(((!bif decide ((↑i:Int)>0) then (g ((↑i:Int) - 1).toNat).1==(g i).1&&((g ((↑i:Int) - 1).toNat).2.1==(g i).2.1&&true) else false)=true)→(NT 0 1)),(AG (!bif decide ((↑i:Int)>0) then (g ((↑i:Int) - 1).toNat).1==(g i).1&&((g ((↑i:Int) - 1).toNat).2.1==(g i).2.1&&true) else false)),(AG (!bif decide ((↑i:Int)>0) then (g ((↑i:Int) - 1).toNat).1==(g i).1&&((g ((↑i:Int) - 1).toNat).2.1==(g i).2.1&&true) else false)),(((!bif decide ((↑i:Int)>0) then (g ((↑i:Int) - 1).toNat).1==(g i).1&&((g ((↑i:Int) - 1).toNat).2.1==(g i).2.1&&true) else false)=true)→(IL 0 ((g i).2.1))),(((!bif decide ((↑i:Int)>0) then (g ((↑i:Int) - 1).toNat).1==(g i).1&&((g ((↑i:Int) - 1).toNat).2.1==(g i).2.1&&true) else false)=true)→(IT ((g i).2.1) (↑np:Int))),(AG (!bif decide ((↑i:Int)>0) then (g ((↑i:Int) - 1).toNat).1==(g i).1&&((g ((↑i:Int) - 1).toNat).2.1==(g i).2.1&&true) else false)),(AG (!bif decide ((↑i:Int)>0) then (g ((↑i:Int) - 1).toNat).1==(g i).1&&((g ((↑i:Int) - 1).toNat).2.1==(g i).2.1&&true) else false)),(AG (!bif decide ((↑i:Int)>0) then (g ((↑i:Int) - 1).toNat).1==(g i).1&&((g ((↑i:Int) - 1).toNat).2.1==(g i).2.1&&true) else false)),(((bif decide ((↑i:Int)>0) then (g ((↑i:Int) - 1).toNat).1==(g i).1&&((g ((↑i:Int) - 1).toNat).2.1==(g i).2.1&&true) else false)=false)→ ((!bif decide ((↑i:Int)>0) then (g ((↑i:Int) - 1).toNat).1==(g i).1&&((g ((↑i:Int) - 1).toNat).2.1==(g i).2.1&&true) else false)=true)),((bif bif decide ((↑i:Int)>0) then (g ((↑i:Int) - 1).toNat).1==(g i).1&&((g ((↑i:Int) - 1).toNat).2.1==(g i).2.1&&true) else false then true else (pl (g i).1.toNat).1==(pl (g i).2.1.toNat).1&&((pl (g i).1.toNat).2.1==(pl (g i).2.1.toNat).2.1&&true))=false),(ZLo ((↑i:Int)+1)),(ZHi ((↑i:Int)+1)),(AI N),(AN nb),(AP nb (fun i_1=>[.int .i64 ((g i_1).1),.int .i64 ((g i_1).2.1)])),(AN np),(AP np (fun i_1=>[.int .i64 ((pl i_1).1),.int .i64 ((pl i_1).2.1)])),(AN 0),(AN 0),(AN nb),(AP nb (fun i_1=>[.int .i64 ((g i_1).1),.int .i64 ((g i_1).2.1)])),(AI ((↑nb:Int))),((((↑i:Int)+1):Int)=(↑(i+1):Int)),(AN 3),(NL 1 1),(NL 1 1),(AI N),(AN nb),(AP nb (fun i_1=>[.int .i64 ((g i_1).1),.int .i64 ((g i_1).2.1)])),(AN np),(AP np (fun i_1=>[.int .i64 ((pl i_1).1),.int .i64 ((pl i_1).2.1)])),(AN 2),(NL 1 1),(NL 1 1),(AI N),(AN nb),(AP nb (fun i_1=>[.int .i64 ((g i_1).1),.int .i64 ((g i_1).2.1)]))]):=by kernel_rfl
theorem yIy (g:Nat→T_Bar) (nb:Nat) (N:Int) (pl:Nat→T_Place) (np:Nat) (i:Nat) :
    pathOb Tryz.prog Tryz.f128 0 [rg 1,.dec true,rg 6,rg 27,.dec true,rg 1] zf36 (FI1 g nb N pl np i) [] 1 [] (.p (.bool false)) =
    some [((decide ((↑i:Int)<(↑nb:Int)))=true),(IL 0 (↑i:Int)),(IT (↑i:Int) (↑nb:Int)),(NT 0 1),((true=true)→ (AN 1)),(AG (decide ((↑i:Int)>0))),(((decide ((↑i:Int)>0))=true)→(NT 0 1)),(AG (decide ((↑i:Int)>0))),(((decide ((↑i:Int)>0))=true)→(ZLo ((↑i:Int) - 1))),(((decide ((↑i:Int)>0))=true)→(ZHi ((↑i:Int) - 1))),(AG (decide ((↑i:Int)>0))),(AG (decide ((↑i:Int)>0))),(((decide ((↑i:Int)>0))=true)→(IL 0 ((↑i:Int) - 1))),(((decide ((↑i:Int)>0))=true)→(IT ((↑i:Int) - 1) (↑nb:Int))),(AG (decide ((↑i:Int)>0))),(((decide ((↑i:Int)>0))=true)→(NT 0 1)),(AG (decide ((↑i:Int)>0))),(AG (decide ((↑i:Int)>0))),(AG (decide ((↑i:Int)>0))),(AG (!bif decide ((↑i:Int)>0) then (g ((↑i:Int) - 1).toNat).1==(g i).1&&((g ((↑i:Int) - 1).toNat).2.1==(g i).2.1&&true) else false)),(((!bif decide ((↑i:Int)>0) then (g ((↑i:Int) - 1).toNat).1==(g i).1&&((g ((↑i:Int) - 1).toNat).2.1==(g i).2.1&&true) else false)=true)→(NT 0 1)),(AG (!bif decide ((↑i:Int)>0) then (g ((↑i:Int) - 1).toNat).1==(g i).1&&((g ((↑i:Int) - 1).toNat).2.1==(g i).2.1&&true) else false)),(((!bif decide ((↑i:Int)>0) then (g ((↑i:Int) - 1).toNat).1==(g i).1&&((g ((↑i:Int) - 1).toNat).2.1==(g i).2.1&&true) else false)=true)→(NT 0 1)),(AG (!bif decide ((↑i:Int)>0) then (g ((↑i:Int) - 1).toNat).1==(g i).1&&((g ((↑i:Int) - 1).toNat).2.1==(g i).2.1&&true) else false)),(AG (!bif decide ((↑i:Int)>0) then (g ((↑i:Int) - 1).toNat).1==(g i).1&&((g ((↑i:Int) - 1).toNat).2.1==(g i).2.1&&true) else false)),(((!bif decide ((↑i:Int)>0) then (g ((↑i:Int) - 1).toNat).1==(g i).1&&((g ((↑i:Int) - 1).toNat).2.1==(g i).2.1&&true) else false)=true)→(IL 0 ((g i).1))),(((!bif decide ((↑i:Int)>0) then (g ((↑i:Int) - 1).toNat).1==(g i).1&&((g ((↑i:Int) - 1).toNat).2.1==(g i).2.1&&true) else false)=true)→(IT ((g i).1) (↑np:Int))),(AG (!bif decide ((↑i:Int)>0) then (g ((↑i:Int) - 1).toNat).1==(g i).1&&((g ((↑i:Int) - 1).toNat).2.1==(g i).2.1&&true) else false)),(AG (!bif decide ((↑i:Int)>0) then (g ((↑i:Int) - 1).toNat).1==(g i).1&&((g ((↑i:Int) - 1).toNat).2.1==(g i).2.1&&true) else false)),(((!bif decide ((↑i:Int)>0) then (g ((↑i:Int) - 1).toNat).1==(g i).1&&((g ((↑i:Int) - 1).toNat).2.1==(g i).2.1&&true) else false)=true)→(NT 0 1)),(AG (!bif decide ((↑i:Int)>0) then (g ((↑i:Int) - 1).toNat).1==(g i).1&&((g ((↑i:Int) - 1).toNat).2.1==(g i).2.1&&true) else false)),(((!bif decide ((↑i:Int)>0) then (g ((↑i:Int) - 1).toNat).1==(g i).1&&((g ((↑i:Int) - 1).toNat).2.1==(g i).2.1&&true) else false)=true)→(NT 0 1)),(AG (!bif decide ((↑i:Int)>0) then (g ((↑i:Int) - 1).toNat).1==(g i).1&&((g ((↑i:Int) - 1).toNat).2.1==(g i).2.1&&true) else false)),(AG (!bif decide ((↑i:Int)>0) then (g ((↑i:Int) - 1).toNat).1==(g i).1&&((g ((↑i:Int) - 1).toNat).2.1==(g i).2.1&&true) else false)),(((!bif decide ((↑i:Int)>0) then (g ((↑i:Int) - 1).toNat).1==(g i).1&&((g ((↑i:Int) - 1).toNat).2.1==(g i).2.1&&true) else false)=true)→(IL 0 ((g i).2.1))),(((!bif decide ((↑i:Int)>0) then (g ((↑i:Int) - 1).toNat).1==(g i).1&&((g ((↑i:Int) - 1).toNat).2.1==(g i).2.1&&true) else false)=true)→(IT ((g i).2.1) (↑np:Int))),(AG (!bif decide ((↑i:Int)>0) then (g ((↑i:Int) - 1).toNat).1==(g i).1&&((g ((↑i:Int) - 1).toNat).2.1==(g i).2.1&&true) else false)),(AG (!bif decide ((↑i:Int)>0) then (g ((↑i:Int) - 1).toNat).1==(g i).1&&((g ((↑i:Int) - 1).toNat).2.1==(g i).2.1&&true) else false)),(AG (!bif decide ((↑i:Int)>0) then (g ((↑i:Int) - 1).toNat).1==(g i).1&&((g ((↑i:Int) - 1).toNat).2.1==(g i).2.1&&true) else false)),(((bif decide ((↑i:Int)>0) then (g ((↑i:Int) - 1).toNat).1==(g i).1&&((g ((↑i:Int) - 1).toNat).2.1==(g i).2.1&&true) else false)=false)→ ((!bif decide ((↑i:Int)>0) then (g ((↑i:Int) - 1).toNat).1==(g i).1&&((g ((↑i:Int) - 1).toNat).2.1==(g i).2.1&&true) else false)=true)),((bif bif decide ((↑i:Int)>0) then (g ((↑i:Int) - 1).toNat).1==(g i).1&&((g ((↑i:Int) - 1).toNat).2.1==(g i).2.1&&true) else false then true else (pl (g i).1.toNat).1==(pl (g i).2.1.toNat).1&&((pl (g i).1.toNat).2.1==(pl (g i).2.1.toNat).2.1&&true))=true),(false=false)]:=by kernel_rfl
theorem yIe (g:Nat→T_Bar) (nb:Nat) (N:Int) (pl:Nat→T_Place) (np:Nat) (i:Nat) :
    pathOb Tryz.prog Tryz.f128 0 [rg 1,.dec false,rg 1] zf36 (FI1 g nb N pl np i) [] 1 [] (.p (.bool true)) =
    some [((decide ((↑i:Int)<(↑nb:Int)))=false),(true=true)]:=by kernel_rfl
theorem zI0 (g:Nat→T_Bar) (nb:Nat) (N:Int) (pl:Nat→T_Place) (np:Nat) (a:Bool) :
    pathOb Tryz.prog Tryz.f117 0 [rg 2,rm [(2,oc [] (.p (.bool a)))] 23,.dec true,rg 1] [.code (bodyOf Tryz.f117)] (start Tryz.f117 [] 0 [frA g nb N pl np]) [] 1 [] (.p (.bool false)) =
    some [(NT 0 1),Con Tryz.prog 53 0 [] [(zf116 N nb g)] [] (.p (.bool a)),(AG (!!a)),(AG (!!a)),(((!!a)=true)→(NT 0 1)),(AG (!!a)),(((!a)=false)→ ((!!a)=true)),(AG (!bif !a then true else decide (N>6))),(((!bif !a then true else decide (N>6))=true)→(NT 0 1)),(AG (!bif !a then true else decide (N>6))),(AG (!bif !a then true else decide (N>6))),(AG (!bif !a then true else decide (N>6))),(((!bif !a then true else decide (N>6))=true)→(NT 0 1)),(AG (!bif !a then true else decide (N>6))),(AG (!bif !a then true else decide (N>6))),(((bif !a then true else decide (N>6))=false)→ ((!bif !a then true else decide (N>6))=true)),(AG (!bif bif !a then true else decide (N>6) then true else (↑np:Int) != N)),(AG (!bif bif !a then true else decide (N>6) then true else (↑np:Int) != N)),(((!bif bif !a then true else decide (N>6) then true else (↑np:Int) != N)=true)→(NT 0 1)),(AG (!bif bif !a then true else decide (N>6) then true else (↑np:Int) != N)),(AG (!bif bif !a then true else decide (N>6) then true else (↑np:Int) != N)),(((bif bif !a then true else decide (N>6) then true else (↑np:Int) != N)=false)→ ((!bif bif !a then true else decide (N>6) then true else (↑np:Int) != N)=true)),((bif bif bif !a then true else decide (N>6) then true else (↑np:Int) != N then true else decide ((↑nb:Int)>15))=true),(false=false)]:=by kernel_rfl
theorem zIz (g:Nat→T_Bar) (nb:Nat) (N:Int) (pl:Nat→T_Place) (np:Nat) (a:Bool) :
    pieceOb Tryz.prog 0 [rg 2,rm [(2,oc [] (.p (.bool a)))] 23,.dec false,rg 1,.head] [.code (bodyOf Tryz.f117)] (start Tryz.f117 [] 0 [frA g nb N pl np]) [0] 1 (FJ0 g nb N pl np 0) =
    some (zf61,[(NT 0 1),Con Tryz.prog 53 0 [] [(zf116 N nb g)] [] (.p (.bool a)),(AG (!!a)),(AG (!!a)),(((!!a)=true)→(NT 0 1)),(AG (!!a)),(((!a)=false)→ ((!!a)=true)),(AG (!bif !a then true else decide (N>6))),(((!bif !a then true else decide (N>6))=true)→(NT 0 1)),(AG (!bif !a then true else decide (N>6))),(AG (!bif !a then true else decide (N>6))),(AG (!bif !a then true else decide (N>6))),(((!bif !a then true else decide (N>6))=true)→(NT 0 1)),(AG (!bif !a then true else decide (N>6))),(AG (!bif !a then true else decide (N>6))),(((bif !a then true else decide (N>6))=false)→ ((!bif !a then true else decide (N>6))=true)),(AG (!bif bif !a then true else decide (N>6) then true else (↑np:Int) != N)),(AG (!bif bif !a then true else decide (N>6) then true else (↑np:Int) != N)),(((!bif bif !a then true else decide (N>6) then true else (↑np:Int) != N)=true)→(NT 0 1)),(AG (!bif bif !a then true else decide (N>6) then true else (↑np:Int) != N)),(AG (!bif bif !a then true else decide (N>6) then true else (↑np:Int) != N)),(((bif bif !a then true else decide (N>6) then true else (↑np:Int) != N)=false)→ ((!bif bif !a then true else decide (N>6) then true else (↑np:Int) != N)=true)),((bif bif bif !a then true else decide (N>6) then true else (↑np:Int) != N then true else decide ((↑nb:Int)>15))=false),(AI N),(AN nb),(AP nb (fun i=>[.int .i64 ((g i).1),.int .i64 ((g i).2.1)])),(AN np),(AP np (fun i=>[.int .i64 ((pl i).1),.int .i64 ((pl i).2.1)])),(AN 0),((0:Int)=(↑0:Int)),((([AV.p (PV.int IntKind.i64 N),brL g nb,pcL pl np].length):Nat)=3),(NL 1 1),(NL 1 1),(AI N),(AN nb),(AP nb (fun i=>[.int .i64 ((g i).1),.int .i64 ((g i).2.1)])),(AN np),(AP np (fun i=>[.int .i64 ((pl i).1),.int .i64 ((pl i).2.1)]))]):=by kernel_rfl
theorem zIt (g:Nat→T_Bar) (nb:Nat) (N:Int) (pl:Nat→T_Place) (np:Nat) (i:Nat) (p q:Bool) :
    pieceOb Tryz.prog 0 [rg 5,.dec true,rm [(6,oc [] (.p (.bool p))),(8,oc [] (.p (.bool q)))] 2,.dec false,rg 3,.head] zf61 (FJ0 g nb N pl np i) [0] 1 (FJ0 g nb N pl np (i+1)) =
    some (zf61,[(NT 0 1),((decide ((↑i:Int)<(↑np:Int)))=true),(NT 0 1),(IL 0 (↑i:Int)),(IT (↑i:Int) (↑np:Int)),Con Tryz.prog 167 0 [] [.p (.int .i64 ((pl i).1)),.p (.int .i64 0),.p (.int .i64 4)] [] (.p (.bool p)),(AG (!!p)),(((!!p)=true)→(NT 0 1)),(AG (!!p)),(AG (!!p)),(((!!p)=true)→(IL 0 (↑i:Int))),(((!!p)=true)→(IT (↑i:Int) (↑np:Int))),(AG (!!p)),(AG (!!p)),(AG (!!p)),(((!!p)=true)→ Con Tryz.prog 167 0 [] [.p (.int .i64 ((pl i).2.1)),.p (.int .i64 0),.p (.int .i64 4)] [] (.p (.bool q))),(AG (!!p)),(((!p)=false)→ ((!!p)=true)),((bif !p then true else !q)=false),(ZLo ((↑i:Int)+1)),(ZHi ((↑i:Int)+1)),(AI N),(AN nb),(AP nb (fun i_1=>[.int .i64 ((g i_1).1),.int .i64 ((g i_1).2.1)])),(AN np),(AP np (fun i_1=>[.int .i64 ((pl i_1).1),.int .i64 ((pl i_1).2.1)])),(AN 0),((((↑i:Int)+1):Int)=(↑(i+1):Int)),(AN 3),(NL 1 1),(NL 1 1),(AI N),(AN nb),(AP nb (fun i_1=>[.int .i64 ((g i_1).1),.int .i64 ((g i_1).2.1)])),(AN np),(AP np (fun i_1=>[.int .i64 ((pl i_1).1),.int .i64 ((pl i_1).2.1)]))]):=by kernel_rfl
theorem zIx (g:Nat→T_Bar) (nb:Nat) (N:Int) (pl:Nat→T_Place) (np:Nat) (i:Nat) (p q:Bool) :
    pathOb Tryz.prog Tryz.f117 0 [rg 5,.dec true,rm [(6,oc [] (.p (.bool p))),(8,oc [] (.p (.bool q)))] 2,.dec true,rg 1] zf61 (FJ0 g nb N pl np i) [] 1 [] (.p (.bool false)) =
    some [(NT 0 1),((decide ((↑i:Int)<(↑np:Int)))=true),(NT 0 1),(IL 0 (↑i:Int)),(IT (↑i:Int) (↑np:Int)),Con Tryz.prog 167 0 [] [.p (.int .i64 ((pl i).1)),.p (.int .i64 0),.p (.int .i64 4)] [] (.p (.bool p)),(AG (!!p)),(((!!p)=true)→(NT 0 1)),(AG (!!p)),(AG (!!p)),(((!!p)=true)→(IL 0 (↑i:Int))),(((!!p)=true)→(IT (↑i:Int) (↑np:Int))),(AG (!!p)),(AG (!!p)),(AG (!!p)),(((!!p)=true)→ Con Tryz.prog 167 0 [] [.p (.int .i64 ((pl i).2.1)),.p (.int .i64 0),.p (.int .i64 4)] [] (.p (.bool q))),(AG (!!p)),(((!p)=false)→ ((!!p)=true)),((bif !p then true else !q)=true),(false=false)]:=by kernel_rfl
theorem zIn (g:Nat→T_Bar) (nb:Nat) (N:Int) (pl:Nat→T_Place) (np:Nat) (i:Nat) :
    pieceOb Tryz.prog 0 [rg 5,.dec false,rg 1,.head] zf61 (FJ0 g nb N pl np i) [0] 1 (FJ1 g nb N pl np 0) =
    some (zf45,[(NT 0 1),((decide ((↑i:Int)<(↑np:Int)))=false),(AI N),(AN nb),(AP nb (fun i_1=>[.int .i64 ((g i_1).1),.int .i64 ((g i_1).2.1)])),(AN np),(AP np (fun i_1=>[.int .i64 ((pl i_1).1),.int .i64 ((pl i_1).2.1)])),(AN 0),((0:Int)=(↑0:Int)),(AN 3),(NL 1 1),(NL 1 1),(AI N),(AN nb),(AP nb (fun i_1=>[.int .i64 ((g i_1).1),.int .i64 ((g i_1).2.1)])),(AN np),(AP np (fun i_1=>[.int .i64 ((pl i_1).1),.int .i64 ((pl i_1).2.1)]))]):=by kernel_rfl
theorem zIb (g:Nat→T_Bar) (nb:Nat) (N:Int) (pl:Nat→T_Place) (np:Nat) (i:Nat) :
    pieceOb Tryz.prog 0 [rg 6,.dec true,rg 8,rg 28,.dec false,rg 3,.head] zf45 (FJ1 g nb N pl np i) [0] 1 (FJ1 g nb N pl np (i+1)) =
    some (zf45,[(NT 0 1),((decide ((↑i:Int)<(↑nb:Int)))=true),(NT 0 1),(IL 0 (↑i:Int)),(IT (↑i:Int) (↑nb:Int)),(NT 0 1),((true=true)→ (AN 1)),(NT 0 1),(NT 0 1),(IL 0 ((g i).1)),(IT ((g i).1) (↑np:Int)),(NT 0 1),(NT 0 1),(IL 0 ((g i).2.1)),(IT ((g i).2.1) (↑np:Int)),(AG (!((pl (g i).1.toNat).1==(pl (g i).2.1.toNat).1&&((pl (g i).1.toNat).2.1==(pl (g i).2.1.toNat).2.1&&true)))),(AG (!((pl (g i).1.toNat).1==(pl (g i).2.1.toNat).1&&((pl (g i).1.toNat).2.1==(pl (g i).2.1.toNat).2.1&&true)))),(AG (!((pl (g i).1.toNat).1==(pl (g i).2.1.toNat).1&&((pl (g i).1.toNat).2.1==(pl (g i).2.1.toNat).2.1&&true))&&decide ((↑i:Int)>0))),(AG (!((pl (g i).1.toNat).1==(pl (g i).2.1.toNat).1&&((pl (g i).1.toNat).2.1==(pl (g i).2.1.toNat).2.1&&true))&&decide ((↑i:Int)>0))),(((!((pl (g i).1.toNat).1==(pl (g i).2.1.toNat).1&&((pl (g i).1.toNat).2.1==(pl (g i).2.1.toNat).2.1&&true))&&decide ((↑i:Int)>0))=true)→(NT 0 1)),(AG (!((pl (g i).1.toNat).1==(pl (g i).2.1.toNat).1&&((pl (g i).1.toNat).2.1==(pl (g i).2.1.toNat).2.1&&true))&&decide ((↑i:Int)>0))),(((!((pl (g i).1.toNat).1==(pl (g i).2.1.toNat).1&&((pl (g i).1.toNat).2.1==(pl (g i).2.1.toNat).2.1&&true))&&decide ((↑i:Int)>0))=true)→(ZLo ((↑i:Int) - 1))),(((!((pl (g i).1.toNat).1==(pl (g i).2.1.toNat).1&&((pl (g i).1.toNat).2.1==(pl (g i).2.1.toNat).2.1&&true))&&decide ((↑i:Int)>0))=true)→(ZHi ((↑i:Int) - 1))),(AG (!((pl (g i).1.toNat).1==(pl (g i).2.1.toNat).1&&((pl (g i).1.toNat).2.1==(pl (g i).2.1.toNat).2.1&&true))&&decide ((↑i:Int)>0))),(AG (!((pl (g i).1.toNat).1==(pl (g i).2.1.toNat).1&&((pl (g i).1.toNat).2.1==(pl (g i).2.1.toNat).2.1&&true))&&decide ((↑i:Int)>0))),(((!((pl (g i).1.toNat).1==(pl (g i).2.1.toNat).1&&((pl (g i).1.toNat).2.1==(pl (g i).2.1.toNat).2.1&&true))&&decide ((↑i:Int)>0))=true)→(IL 0 ((↑i:Int) - 1))),(((!((pl (g i).1.toNat).1==(pl (g i).2.1.toNat).1&&((pl (g i).1.toNat).2.1==(pl (g i).2.1.toNat).2.1&&true))&&decide ((↑i:Int)>0))=true)→(IT ((↑i:Int) - 1) (↑nb:Int))),(AG (!((pl (g i).1.toNat).1==(pl (g i).2.1.toNat).1&&((pl (g i).1.toNat).2.1==(pl (g i).2.1.toNat).2.1&&true))&&decide ((↑i:Int)>0))),(((!((pl (g i).1.toNat).1==(pl (g i).2.1.toNat).1&&((pl (g i).1.toNat).2.1==(pl (g i).2.1.toNat).2.1&&true))&&decide ((↑i:Int)>0))=true)→(NT 0 1)),(AG (!((pl (g i).1.toNat).1==(pl (g i).2.1.toNat).1&&((pl (g i).1.toNat).2.1==(pl (g i).2.1.toNat).2.1&&true))&&decide ((↑i:Int)>0))),(AG (!((pl (g i).1.toNat).1==(pl (g i).2.1.toNat).1&&((pl (g i).1.toNat).2.1==(pl (g i).2.1.toNat).2.1&&true))&&decide ((↑i:Int)>0))),(AG (!((pl (g i).1.toNat).1==(pl (g i).2.1.toNat).1&&((pl (g i).1.toNat).2.1==(pl (g i).2.1.toNat).2.1&&true)))),(((!((pl (g i).1.toNat).1==(pl (g i).2.1.toNat).1&&((pl (g i).1.toNat).2.1==(pl (g i).2.1.toNat).2.1&&true)))=true)→(((decide ((↑i:Int)>0))=true)→ ((!((pl (g i).1.toNat).1==(pl (g i).2.1.toNat).1&&((pl (g i).1.toNat).2.1==(pl (g i).2.1.toNat).2.1&&true))&&decide ((↑i:Int)>0))=true))),((((pl (g i).1.toNat).1==(pl (g i).2.1.toNat).1&&((pl (g i).1.toNat).2.1==(pl (g i).2.1.toNat).2.1&&true))=false)→ ((!((pl (g i).1.toNat).1==(pl (g i).2.1.toNat).1&&((pl (g i).1.toNat).2.1==(pl (g i).2.1.toNat).2.1&&true)))=true)),((bif (pl (g i).1.toNat).1==(pl (g i).2.1.toNat).1&&((pl (g i).1.toNat).2.1==(pl (g i).2.1.toNat).2.1&&true) then true else bif decide ((↑i:Int)>0) then (g ((↑i:Int) - 1).toNat).1==(g i).1&&((g ((↑i:Int) - 1).toNat).2.1==(g i).2.1&&true) else false)=false),(ZLo ((↑i:Int)+1)),(ZHi ((↑i:Int)+1)),(AI N),(AN nb),(AP nb (fun i_1=>[.int .i64 ((g i_1).1),.int .i64 ((g i_1).2.1)])),(AN np),(AP np (fun i_1=>[.int .i64 ((pl i_1).1),.int .i64 ((pl i_1).2.1)])),(AN 0),((((↑i:Int)+1):Int)=(↑(i+1):Int)),(AN 3),(NL 1 1),(NL 1 1),(AI N),(AN nb),(AP nb (fun i_1=>[.int .i64 ((g i_1).1),.int .i64 ((g i_1).2.1)])),(AN np),(AP np (fun i_1=>[.int .i64 ((pl i_1).1),.int .i64 ((pl i_1).2.1)]))]):=by kernel_rfl
theorem zIy (g:Nat→T_Bar) (nb:Nat) (N:Int) (pl:Nat→T_Place) (np:Nat) (i:Nat) :
    pathOb Tryz.prog Tryz.f117 0 [rg 6,.dec true,rg 8,rg 28,.dec true,rg 1] zf45 (FJ1 g nb N pl np i) [] 1 [] (.p (.bool false)) =
    some [(NT 0 1),((decide ((↑i:Int)<(↑nb:Int)))=true),(NT 0 1),(IL 0 (↑i:Int)),(IT (↑i:Int) (↑nb:Int)),(NT 0 1),((true=true)→ (AN 1)),(NT 0 1),(NT 0 1),(IL 0 ((g i).1)),(IT ((g i).1) (↑np:Int)),(NT 0 1),(NT 0 1),(IL 0 ((g i).2.1)),(IT ((g i).2.1) (↑np:Int)),(AG (!((pl (g i).1.toNat).1==(pl (g i).2.1.toNat).1&&((pl (g i).1.toNat).2.1==(pl (g i).2.1.toNat).2.1&&true)))),(AG (!((pl (g i).1.toNat).1==(pl (g i).2.1.toNat).1&&((pl (g i).1.toNat).2.1==(pl (g i).2.1.toNat).2.1&&true)))),(AG (!((pl (g i).1.toNat).1==(pl (g i).2.1.toNat).1&&((pl (g i).1.toNat).2.1==(pl (g i).2.1.toNat).2.1&&true))&&decide ((↑i:Int)>0))),(AG (!((pl (g i).1.toNat).1==(pl (g i).2.1.toNat).1&&((pl (g i).1.toNat).2.1==(pl (g i).2.1.toNat).2.1&&true))&&decide ((↑i:Int)>0))),(((!((pl (g i).1.toNat).1==(pl (g i).2.1.toNat).1&&((pl (g i).1.toNat).2.1==(pl (g i).2.1.toNat).2.1&&true))&&decide ((↑i:Int)>0))=true)→(NT 0 1)),(AG (!((pl (g i).1.toNat).1==(pl (g i).2.1.toNat).1&&((pl (g i).1.toNat).2.1==(pl (g i).2.1.toNat).2.1&&true))&&decide ((↑i:Int)>0))),(((!((pl (g i).1.toNat).1==(pl (g i).2.1.toNat).1&&((pl (g i).1.toNat).2.1==(pl (g i).2.1.toNat).2.1&&true))&&decide ((↑i:Int)>0))=true)→(ZLo ((↑i:Int) - 1))),(((!((pl (g i).1.toNat).1==(pl (g i).2.1.toNat).1&&((pl (g i).1.toNat).2.1==(pl (g i).2.1.toNat).2.1&&true))&&decide ((↑i:Int)>0))=true)→(ZHi ((↑i:Int) - 1))),(AG (!((pl (g i).1.toNat).1==(pl (g i).2.1.toNat).1&&((pl (g i).1.toNat).2.1==(pl (g i).2.1.toNat).2.1&&true))&&decide ((↑i:Int)>0))),(AG (!((pl (g i).1.toNat).1==(pl (g i).2.1.toNat).1&&((pl (g i).1.toNat).2.1==(pl (g i).2.1.toNat).2.1&&true))&&decide ((↑i:Int)>0))),(((!((pl (g i).1.toNat).1==(pl (g i).2.1.toNat).1&&((pl (g i).1.toNat).2.1==(pl (g i).2.1.toNat).2.1&&true))&&decide ((↑i:Int)>0))=true)→(IL 0 ((↑i:Int) - 1))),(((!((pl (g i).1.toNat).1==(pl (g i).2.1.toNat).1&&((pl (g i).1.toNat).2.1==(pl (g i).2.1.toNat).2.1&&true))&&decide ((↑i:Int)>0))=true)→(IT ((↑i:Int) - 1) (↑nb:Int))),(AG (!((pl (g i).1.toNat).1==(pl (g i).2.1.toNat).1&&((pl (g i).1.toNat).2.1==(pl (g i).2.1.toNat).2.1&&true))&&decide ((↑i:Int)>0))),(((!((pl (g i).1.toNat).1==(pl (g i).2.1.toNat).1&&((pl (g i).1.toNat).2.1==(pl (g i).2.1.toNat).2.1&&true))&&decide ((↑i:Int)>0))=true)→(NT 0 1)),(AG (!((pl (g i).1.toNat).1==(pl (g i).2.1.toNat).1&&((pl (g i).1.toNat).2.1==(pl (g i).2.1.toNat).2.1&&true))&&decide ((↑i:Int)>0))),(AG (!((pl (g i).1.toNat).1==(pl (g i).2.1.toNat).1&&((pl (g i).1.toNat).2.1==(pl (g i).2.1.toNat).2.1&&true))&&decide ((↑i:Int)>0))),(AG (!((pl (g i).1.toNat).1==(pl (g i).2.1.toNat).1&&((pl (g i).1.toNat).2.1==(pl (g i).2.1.toNat).2.1&&true)))),(((!((pl (g i).1.toNat).1==(pl (g i).2.1.toNat).1&&((pl (g i).1.toNat).2.1==(pl (g i).2.1.toNat).2.1&&true)))=true)→(((decide ((↑i:Int)>0))=true)→ ((!((pl (g i).1.toNat).1==(pl (g i).2.1.toNat).1&&((pl (g i).1.toNat).2.1==(pl (g i).2.1.toNat).2.1&&true))&&decide ((↑i:Int)>0))=true))),((((pl (g i).1.toNat).1==(pl (g i).2.1.toNat).1&&((pl (g i).1.toNat).2.1==(pl (g i).2.1.toNat).2.1&&true))=false)→ ((!((pl (g i).1.toNat).1==(pl (g i).2.1.toNat).1&&((pl (g i).1.toNat).2.1==(pl (g i).2.1.toNat).2.1&&true)))=true)),((bif (pl (g i).1.toNat).1==(pl (g i).2.1.toNat).1&&((pl (g i).1.toNat).2.1==(pl (g i).2.1.toNat).2.1&&true) then true else bif decide ((↑i:Int)>0) then (g ((↑i:Int) - 1).toNat).1==(g i).1&&((g ((↑i:Int) - 1).toNat).2.1==(g i).2.1&&true) else false)=true),(false=false)]:=by kernel_rfl
theorem zIe (g:Nat→T_Bar) (nb:Nat) (N:Int) (pl:Nat→T_Place) (np:Nat) (i:Nat) :
    pathOb Tryz.prog Tryz.f117 0 [rg 6,.dec false,rg 1] zf45 (FJ1 g nb N pl np i) [] 1 [] (.p (.bool true)) =
    some [(NT 0 1),((decide ((↑i:Int)<(↑nb:Int)))=false),(true=true)]:=by kernel_rfl
theorem yTz (g:Nat→T_Bar) (nb:Nat) (N:Int) (pl:Nat→T_Place) (np:Nat) (w:T_IntS) :
    pieceOb Tryz.prog 0 [rg 2,rg 4,.head] [.code (bodyOf Tryz.f151)] (start Tryz.f151 [] 0 [tsA g nb N pl np w]) [0] 1 (FT0 g nb N pl np w 0) =
    some (zf91,[(NT 0 1),(AI N),(AN nb),(AP nb (fun i=>[.int .i64 ((g i).1),.int .i64 ((g i).2.1)])),(AN np),(AP np (fun i=>[.int .i64 ((pl i).1),.int .i64 ((pl i).2.1)])),(AN w.1),(AP w.1 (fun i=>[.int .i64 (w.2 i)])),(AN 0),(AN w.1),(AP w.1 (fun i=>[.int .i64 (w.2 i)])),(AI ((↑w.1:Int))),((0:Int)=(↑0:Int)),((([AV.p (PV.int IntKind.i64 N),brL g nb,pcL pl np,inL w].length):Nat)=4),(NL 1 1),(NL 1 1),(AI N),(AN nb),(AP nb (fun i=>[.int .i64 ((g i).1),.int .i64 ((g i).2.1)])),(AN np),(AP np (fun i=>[.int .i64 ((pl i).1),.int .i64 ((pl i).2.1)])),(AN w.1),(AP w.1 (fun i=>[.int .i64 (w.2 i)]))]):=by kernel_rfl
theorem yTt (g:Nat→T_Bar) (nb:Nat) (N:Int) (pl:Nat→T_Place) (np:Nat) (w:T_IntS) (i:Nat) :
    pieceOb Tryz.prog 0 [rg 1,.dec true,rg 3,rm [(1,oc [] (.p (.bool true)))] 1,.dec false,rg 2,.head] zf91 (FT0 g nb N pl np w i) [0] 1 (FT0 g nb N pl np w (i+1)) =
    some (zf91,[((decide ((↑i:Int)<(↑w.1:Int)))=true),(IL 0 (↑i:Int)),(IT (↑i:Int) (↑w.1:Int)),Con Tryz.prog 179 0 [] [.p (.int .i64 (w.2 i)),.p (.int .i64 0),.p (.int .i64 2)] [] (.p (.bool true)),((!true)=false),(ZLo ((↑i:Int)+1)),(ZHi ((↑i:Int)+1)),(AI N),(AN nb),(AP nb (fun i_1=>[.int .i64 ((g i_1).1),.int .i64 ((g i_1).2.1)])),(AN np),(AP np (fun i_1=>[.int .i64 ((pl i_1).1),.int .i64 ((pl i_1).2.1)])),(AN w.1),(AP w.1 (fun i_1=>[.int .i64 (w.2 i_1)])),(AN 0),(AN w.1),(AP w.1 (fun i_1=>[.int .i64 (w.2 i_1)])),(AI ((↑w.1:Int))),((((↑i:Int)+1):Int)=(↑(i+1):Int)),(AN 4),(NL 1 1),(NL 1 1),(AI N),(AN nb),(AP nb (fun i_1=>[.int .i64 ((g i_1).1),.int .i64 ((g i_1).2.1)])),(AN np),(AP np (fun i_1=>[.int .i64 ((pl i_1).1),.int .i64 ((pl i_1).2.1)])),(AN w.1),(AP w.1 (fun i_1=>[.int .i64 (w.2 i_1)]))]):=by kernel_rfl
theorem yTx (g:Nat→T_Bar) (nb:Nat) (N:Int) (pl:Nat→T_Place) (np:Nat) (w:T_IntS) (i:Nat) :
    pathOb Tryz.prog Tryz.f151 0 [rg 1,.dec true,rg 3,rm [(1,oc [] (.p (.bool false)))] 1,.dec true,rg 1] zf91 (FT0 g nb N pl np w i) [] 1 [] (.p (.bool false)) =
    some [((decide ((↑i:Int)<(↑w.1:Int)))=true),(IL 0 (↑i:Int)),(IT (↑i:Int) (↑w.1:Int)),Con Tryz.prog 179 0 [] [.p (.int .i64 (w.2 i)),.p (.int .i64 0),.p (.int .i64 2)] [] (.p (.bool false)),((!false)=true),(false=false)]:=by kernel_rfl
theorem yTe (g:Nat→T_Bar) (nb:Nat) (N:Int) (pl:Nat→T_Place) (np:Nat) (w:T_IntS) (i:Nat) (a:Bool) :
    pathOb Tryz.prog Tryz.f151 0 [rg 1,.dec false,rm [(2,oc [] (.p (.bool a)))] 12] zf91 (FT0 g nb N pl np w i) [] 1 [] (.p (.bool (bif a then (w.1:Int)==(nb:Int) else false))) =
    some [((decide ((↑i:Int)<(↑w.1:Int)))=false),(NT 0 1),Con Tryz.prog 128 0 [] [(zf30 N nb g np pl)] [] (.p (.bool a)),(AG a),((a=true)→(NT 0 1)),(AG a),(AG a),(AG a),(AG a),((a=true)→(NT 0 1)),(AG a),(AG a),(AG a),(AG a),((bif a then (↑w.1:Int)==(↑nb:Int) else false)=(bif a then (↑w.1:Int)==(↑nb:Int) else false))]:=by kernel_rfl
theorem zTz (g:Nat→T_Bar) (nb:Nat) (N:Int) (pl:Nat→T_Place) (np:Nat) (w:T_IntS) :
    pieceOb Tryz.prog 0 [rg 2,rg 1,.head] [.code (bodyOf Tryz.f147)] (start Tryz.f147 [] 0 [tsA g nb N pl np w]) [0] 1 (FU0 g nb N pl np w 0) =
    some (zf92,[(AI N),(AN nb),(AP nb (fun i=>[.int .i64 ((g i).1),.int .i64 ((g i).2.1)])),(AN np),(AP np (fun i=>[.int .i64 ((pl i).1),.int .i64 ((pl i).2.1)])),(AN w.1),(AP w.1 (fun i=>[.int .i64 (w.2 i)])),(AN 0),((0:Int)=(↑0:Int)),((([AV.p (PV.int IntKind.i64 N),brL g nb,pcL pl np,inL w].length):Nat)=4),(NL 1 1),(NL 1 1),(AI N),(AN nb),(AP nb (fun i=>[.int .i64 ((g i).1),.int .i64 ((g i).2.1)])),(AN np),(AP np (fun i=>[.int .i64 ((pl i).1),.int .i64 ((pl i).2.1)])),(AN w.1),(AP w.1 (fun i=>[.int .i64 (w.2 i)]))]):=by kernel_rfl
theorem zTt (g:Nat→T_Bar) (nb:Nat) (N:Int) (pl:Nat→T_Place) (np:Nat) (w:T_IntS) (i:Nat) :
    pieceOb Tryz.prog 0 [rg 5,.dec true,rm [(5,oc [] (.p (.bool true)))] 1,.dec false,rg 3,.head] zf92 (FU0 g nb N pl np w i) [0] 1 (FU0 g nb N pl np w (i+1)) =
    some (zf92,[(NT 0 1),((decide ((↑i:Int)<(↑w.1:Int)))=true),(NT 0 1),(IL 0 (↑i:Int)),(IT (↑i:Int) (↑w.1:Int)),Con Tryz.prog 167 0 [] [.p (.int .i64 (w.2 i)),.p (.int .i64 0),.p (.int .i64 2)] [] (.p (.bool true)),((!true)=false),(ZLo ((↑i:Int)+1)),(ZHi ((↑i:Int)+1)),(AI N),(AN nb),(AP nb (fun i_1=>[.int .i64 ((g i_1).1),.int .i64 ((g i_1).2.1)])),(AN np),(AP np (fun i_1=>[.int .i64 ((pl i_1).1),.int .i64 ((pl i_1).2.1)])),(AN w.1),(AP w.1 (fun i_1=>[.int .i64 (w.2 i_1)])),(AN 0),((((↑i:Int)+1):Int)=(↑(i+1):Int)),(AN 4),(NL 1 1),(NL 1 1),(AI N),(AN nb),(AP nb (fun i_1=>[.int .i64 ((g i_1).1),.int .i64 ((g i_1).2.1)])),(AN np),(AP np (fun i_1=>[.int .i64 ((pl i_1).1),.int .i64 ((pl i_1).2.1)])),(AN w.1),(AP w.1 (fun i_1=>[.int .i64 (w.2 i_1)]))]):=by kernel_rfl
theorem zTx (g:Nat→T_Bar) (nb:Nat) (N:Int) (pl:Nat→T_Place) (np:Nat) (w:T_IntS) (i:Nat) :
    pathOb Tryz.prog Tryz.f147 0 [rg 5,.dec true,rm [(5,oc [] (.p (.bool false)))] 1,.dec true,rg 1] zf92 (FU0 g nb N pl np w i) [] 1 [] (.p (.bool false)) =
    some [(NT 0 1),((decide ((↑i:Int)<(↑w.1:Int)))=true),(NT 0 1),(IL 0 (↑i:Int)),(IT (↑i:Int) (↑w.1:Int)),Con Tryz.prog 167 0 [] [.p (.int .i64 (w.2 i)),.p (.int .i64 0),.p (.int .i64 2)] [] (.p (.bool false)),((!false)=true),(false=false)]:=by kernel_rfl
theorem zTe (g:Nat→T_Bar) (nb:Nat) (N:Int) (pl:Nat→T_Place) (np:Nat) (w:T_IntS) (i:Nat) (a:Bool) :
    pathOb Tryz.prog Tryz.f147 0 [rg 5,.dec false,rm [(2,oc [] (.p (.bool a)))] 12] zf92 (FU0 g nb N pl np w i) [] 1 [] (.p (.bool (bif a then (w.1:Int)==(nb:Int) else false))) =
    some [(NT 0 1),((decide ((↑i:Int)<(↑w.1:Int)))=false),(NT 0 1),Con Tryz.prog 117 0 [] [(zf30 N nb g np pl)] [] (.p (.bool a)),(AG a),((a=true)→(NT 0 1)),(AG a),(AG a),(AG a),(AG a),((a=true)→(NT 0 1)),(AG a),(AG a),(AG a),(AG a),((bif a then (↑w.1:Int)==(↑nb:Int) else false)=(bif a then (↑w.1:Int)==(↑nb:Int) else false))]:=by kernel_rfl
end Go.Proofs.YtkkjoghiigiokaaGreat.Mach
namespace Go.Proofs.YtkkjoghiigiokaaGreat.Mach
open Go
set_option linter.unusedVariables false
set_option linter.unusedSimpArgs false
def stL (v:T_StepS):AV:=.p (.seq true 5 v.1 (fun i=>[.int .i64 (v.2 i).1,.int .i64 (v.2 i).2.1,.int .i64 (v.2 i).2.2.1,.int .i64 (v.2 i).2.2.2.1,.int .i64 (v.2 i).2.2.2.2.1]))
def clA (K:Int) (g1:Nat→T_Bar) (nb1:Nat) (N1:Int) (g:Nat→T_Bar) (nb:Nat) (N:Int) (pl:Nat→T_Place) (np:Nat) (w:T_IntS) (v:T_StepS) (u:T_IntS):AV :=
  .agg [.p (.int .i64 K),.p (.int .i64 N1),brL g1 nb1,.p (.int .i64 N),brL g nb,pcL pl np,inL w,stL v,inL u]
end Go.Proofs.YtkkjoghiigiokaaGreat.Mach
namespace Go.Proofs.YtkkjoghiigiokaaGreat.Mach
open Go
set_option linter.unusedVariables false
set_option linter.unusedSimpArgs false
def allB (p:Nat→Bool):Nat→Bool
  | 0=>true
  | n+1=>allB p n&&p n
theorem all_iff (p:Nat→Bool):∀ n,allB p n=true↔∀ i,i<n→p i=true
  | 0=>by simp [allB]
  | n+1=>by
    rw [allB,Bool.and_eq_true,all_iff p n]
    constructor
    · rintro ⟨h1,h2⟩ i hi
      by_cases h:i=n
      · rw [h];exact h2
      · exact h1 i (by omega)
    · intro h;exact ⟨fun i hi=>h i (by omega),h n (by omega)⟩
theorem all_no {p:Nat→Bool} {n i:Nat} (hi:i<n) (h:p i=false):allB p n=false:=by
  cases hb:allB p n with
  | false=>rfl
  | true=>rw [(all_iff p n).1 hb i hi] at h;cases h
def plP (pl:Nat→T_Place) (i:Nat):Bool:=bif inB (pl i).1 0 4 then inB (pl i).2.1 0 4 else false
def eA (g:Nat→T_Bar) (i:Nat):Bool:=(g ((i:Int) - 1).toNat).1==(g i).1&&((g ((i:Int) - 1).toNat).2.1==(g i).2.1&&true)
def eB (g:Nat→T_Bar) (pl:Nat→T_Place) (i:Nat):Bool:=(pl (g i).1.toNat).1==(pl (g i).2.1.toNat).1&&((pl (g i).1.toNat).2.1==(pl (g i).2.1.toNat).2.1&&true)
def brP (g:Nat→T_Bar) (pl:Nat→T_Place) (i:Nat):Bool:=!(bif bif decide ((i:Int)>0) then eA g i else false then true else eB g pl i)
def fwB (g:Nat→T_Bar) (nb:Nat) (N:Int) (pl:Nat→T_Place) (np:Nat):Bool :=
  (isG g nb N&&(decide (N≤6)&&(decide (nb≤15)&&decide ((np:Int)=N))))&&(allB (plP pl) np&&allB (brP g pl) nb)
theorem con_isPlace (pl:Nat→T_Place) (i:Nat):Con Tryz.prog 233 0 [] [.agg [.p (.int .i64 (pl i).1),.p (.int .i64 (pl i).2.1)]] [] (.p (.bool (plP pl i))):=by
  have h1:=con_within (pl i).1 0 4
  have h2:=con_within (pl i).2.1 0 4
  refine csZ Tryz.func233 (fun c hc=>?_)
  refine pkZ Tryz.func233 hc (yPl (pl i).1 (pl i).2.1 (inB (pl i).1 0 4) (inB (pl i).2.1 0 4)) ?_
  repeat' (first | exact aN | apply aI)
  all_goals (first | exact aG _ | omega | rfl | (intros;first | assumption | exact trivial | rfl | exact fT ‹_›) | (exact h1) | (intro _;exact h2) | rfl)
theorem con_IsFramework_i (g:Nat→T_Bar) (nb:Nat) (N:Int) (pl:Nat→T_Place) (np:Nat) (hn:nb≤1048576∧np≤1048576):Con Tryz.prog 128 0 [] [frA g nb N pl np] [] (.p (.bool (fwB g nb N pl np))):=by
  have hg:=con_IsGraph_i (N,(nb,g),()) (smG g nb N hn.1)
  change Con Tryz.prog 62 0 [] [gzA g nb N] [] (.p (.bool (isG g nb N))) at hg
  refine csZ Tryz.func128 (fun c hc=>?_)
  have hcond:(bif bif bif !(isG g nb N) then true else decide (N>6) then true else decide ((nb:Int)>15) then true else (np:Int) != N)=!(isG g nb N&&(decide (N≤6)&&(decide (nb≤15)&&decide ((np:Int)=N)))):=by
    rw [Bool.eq_iff_iff]
    cases isG g nb N with
    | false=>simp
    | true =>
      simp
      omega
  cases h0:(isG g nb N&&(decide (N≤6)&&(decide (nb≤15)&&decide ((np:Int)=N)))) with
  | false =>
    rw [h0] at hcond
    rw [show fwB g nb N pl np=false by unfold fwB;rw [h0];rfl]
    refine pkZ Tryz.func128 hc (yI0 g nb N pl np (isG g nb N)) ?_
    repeat' (first | exact aN | apply aI)
    all_goals (first | exact aG _ | omega | rfl | (intros;first | assumption | exact trivial | rfl | exact fT ‹_› | ((repeat' (first | assumption | apply anda | apply notf));done)) | (exact hg) | (exact hcond) | (simp;done))
  | true =>
    rw [h0] at hcond
    rw [show fwB g nb N pl np=(allB (plP pl) np&&allB (brP g pl) nb) by unfold fwB;rw [h0];rfl]
    simp only [Bool.and_eq_true,decide_eq_true_eq] at h0
    obtain ⟨hN,hnb,hok⟩:=isG_in h0.1
    have l1:∀ d i,i+d=nb→allB (plP pl) np=true→allB (brP g pl) i=true→Run Tryz.prog c 128 zf36 (FI1 g nb N pl np i) (Post c [] (.p (.bool (allB (plP pl) np&&allB (brP g pl) nb)))):=by
      intro d
      induction d with
      | zero =>
        intro i hi h1 h2
        obtain rfl:i=nb:=by omega
        have hd:decide ((i:Int)<(i:Int))=false:=by simp
        rw [h1,h2]
        refine pkZ Tryz.func128 hc (yIe g i N pl np i) ?_
        repeat' (first | exact aN | apply aI)
        all_goals (first | omega | rfl | (intros;first | assumption | exact trivial | rfl) | (exact hd) | rfl)
      | succ d ih =>
        intro i hi h1 h2
        have hd:decide ((i:Int)<(nb:Int))=true:=decide_eq_true (by omega)
        have hbar:=hok i (by omega)
        cases hb:brP g pl i with
        | true =>
          have hrec:=ih (i+1) (by omega) h1 (by rw [allB,h2,hb];rfl)
          have hx:(bif bif decide ((i:Int)>0) then eA g i else false then true else eB g pl i)=!(brP g pl i):=(Bool.not_not _).symm
          rw [hb] at hx
          refine pcZ hc (yIb g nb N pl np i) ?_ hrec
          repeat' (first | exact aN | apply aI)
          all_goals (first | exact aG _ | exact aP _ _ | omega | rfl | (intros;first | assumption | exact trivial | rfl | exact fT ‹_› | ((repeat' (first | assumption | apply anda | apply notf));done)) | (exact hd) | (exact hx) | (intro h;have:=of_decide_eq_true h;omega) | (intro _;omega) | (simp;done) | (simp;omega))
        | false =>
          rw [all_no (show i<nb by omega) hb,Bool.and_false]
          have hx:(bif bif decide ((i:Int)>0) then eA g i else false then true else eB g pl i)=!(brP g pl i):=(Bool.not_not _).symm
          rw [hb] at hx
          refine pkZ Tryz.func128 hc (yIy g nb N pl np i) ?_
          repeat' (first | exact aN | apply aI)
          all_goals (first | exact aG _ | omega | rfl | (intros;first | assumption | exact trivial | rfl | exact fT ‹_› | ((repeat' (first | assumption | apply anda | apply notf));done)) | (exact hd) | (exact hx) | (intro h;have:=of_decide_eq_true h;omega) | (intro _;omega) | (simp;done) | (simp;omega))
    have l0:∀ d i,i+d=np→allB (plP pl) i=true→Run Tryz.prog c 128 zf44 (FI0 g nb N pl np i) (Post c [] (.p (.bool (allB (plP pl) np&&allB (brP g pl) nb)))):=by
      intro d
      induction d with
      | zero =>
        intro i hi h1
        obtain rfl:i=np:=by omega
        have hd:decide ((i:Int)<(i:Int))=false:=by simp
        refine pcZ hc (yIn g nb N pl i i) ?_ (l1 nb 0 (by omega) h1 rfl)
        repeat' (first | exact aN | apply aI)
        all_goals (first | exact aP _ _ | omega | rfl | (intros;first | assumption | exact trivial | rfl) | (exact hd) | (simp;done) | (simp;omega))
      | succ d ih =>
        intro i hi h1
        have hd:decide ((i:Int)<(np:Int))=true:=decide_eq_true (by omega)
        have hp:=con_isPlace pl i
        cases hb:plP pl i with
        | true =>
          rw [hb] at hp
          have hrec:=ih (i+1) (by omega) (by rw [allB,h1,hb];rfl)
          refine pcZ hc (yIt g nb N pl np i) ?_ hrec
          repeat' (first | exact aN | apply aI)
          all_goals (first | exact aP _ _ | omega | rfl | (intros;first | assumption | exact trivial | rfl | exact fT ‹_›) | (exact hd) | (exact hp) | rfl | (simp;done) | (simp;omega))
        | false =>
          rw [hb] at hp
          rw [all_no (show i<np by omega) hb,Bool.false_and]
          refine pkZ Tryz.func128 hc (yIx g nb N pl np i) ?_
          repeat' (first | exact aN | apply aI)
          all_goals (first | omega | rfl | (intros;first | assumption | exact trivial | rfl | exact fT ‹_›) | (exact hd) | (exact hp) | rfl | (simp;done) | (simp;omega))
    refine pcZ hc (yIz g nb N pl np (isG g nb N)) ?_ (l0 np 0 (by omega) rfl)
    repeat' (first | exact aN | apply aI)
    all_goals (first | exact aG _ | exact aP _ _ | omega | rfl | (intros;first | assumption | exact trivial | rfl | exact fT ‹_› | ((repeat' (first | assumption | apply anda | apply notf));done)) | (exact hg) | (exact hcond) | (simp;done))
theorem con_IsFramework_s (g:Nat→T_Bar) (nb:Nat) (N:Int) (pl:Nat→T_Place) (np:Nat) (hn:nb≤1048576∧np≤1048576):Con Tryz.prog 117 0 [] [frA g nb N pl np] [] (.p (.bool (fwB g nb N pl np))):=by
  have hg:=con_IsGraph_s (N,(nb,g),()) (smG g nb N hn.1)
  change Con Tryz.prog 53 0 [] [gzA g nb N] [] (.p (.bool (isG g nb N))) at hg
  refine csZ Tryz.func117 (fun c hc=>?_)
  have hcond:(bif bif bif !(isG g nb N) then true else decide (N>6) then true else (np:Int) != N then true else decide ((nb:Int)>15))=!(isG g nb N&&(decide (N≤6)&&(decide (nb≤15)&&decide ((np:Int)=N)))):=by
    rw [Bool.eq_iff_iff]
    cases isG g nb N with
    | false=>simp
    | true =>
      simp
      omega
  cases h0:(isG g nb N&&(decide (N≤6)&&(decide (nb≤15)&&decide ((np:Int)=N)))) with
  | false =>
    rw [h0] at hcond
    rw [show fwB g nb N pl np=false by unfold fwB;rw [h0];rfl]
    refine pkZ Tryz.func117 hc (zI0 g nb N pl np (isG g nb N)) ?_
    repeat' (first | exact aN | apply aI)
    all_goals (first | exact aG _ | omega | rfl | (intros;first | assumption | exact trivial | rfl | exact fT ‹_› | ((repeat' (first | assumption | apply anda | apply notf));done)) | (exact hg) | (exact hcond) | (simp;done))
  | true =>
    rw [h0] at hcond
    rw [show fwB g nb N pl np=(allB (plP pl) np&&allB (brP g pl) nb) by unfold fwB;rw [h0];rfl]
    simp only [Bool.and_eq_true,decide_eq_true_eq] at h0
    obtain ⟨hN,hnb,hok⟩:=isG_in h0.1
    have hsw:∀ i,(bif eB g pl i then true else bif decide ((i:Int)>0) then eA g i else false)=!(brP g pl i):=by
      intro i
      unfold brP
      cases eB g pl i<;>cases eA g i<;>cases decide ((i:Int)>0)<;>rfl
    have l1:∀ d i,i+d=nb→allB (plP pl) np=true→allB (brP g pl) i=true→Run Tryz.prog c 117 zf45 (FJ1 g nb N pl np i) (Post c [] (.p (.bool (allB (plP pl) np&&allB (brP g pl) nb)))):=by
      intro d
      induction d with
      | zero =>
        intro i hi h1 h2
        obtain rfl:i=nb:=by omega
        have hd:decide ((i:Int)<(i:Int))=false:=by simp
        rw [h1,h2]
        refine pkZ Tryz.func117 hc (zIe g i N pl np i) ?_
        repeat' (first | exact aN | apply aI)
        all_goals (first | omega | rfl | (intros;first | assumption | exact trivial | rfl) | (exact hd) | rfl)
      | succ d ih =>
        intro i hi h1 h2
        have hd:decide ((i:Int)<(nb:Int))=true:=decide_eq_true (by omega)
        have hbar:=hok i (by omega)
        have hx:=hsw i
        cases hb:brP g pl i with
        | true =>
          have hrec:=ih (i+1) (by omega) h1 (by rw [allB,h2,hb];rfl)
          rw [hb] at hx
          refine pcZ hc (zIb g nb N pl np i) ?_ hrec
          repeat' (first | exact aN | apply aI)
          all_goals (first | exact aG _ | exact aP _ _ | omega | rfl | (intros;first | assumption | exact trivial | rfl | exact fT ‹_› | ((repeat' (first | assumption | apply anda | apply notf));done)) | (exact hd) | (exact hx) | (intro h;simp only [Bool.and_eq_true,decide_eq_true_eq] at h;omega) | (intro h1 h2;rw [h1,h2];rfl) | (intro h;rw [h];rfl) | (simp;done) | (simp;omega))
        | false =>
          rw [all_no (show i<nb by omega) hb,Bool.and_false]
          rw [hb] at hx
          refine pkZ Tryz.func117 hc (zIy g nb N pl np i) ?_
          repeat' (first | exact aN | apply aI)
          all_goals (first | exact aG _ | omega | rfl | (intros;first | assumption | exact trivial | rfl | exact fT ‹_› | ((repeat' (first | assumption | apply anda | apply notf));done)) | (exact hd) | (exact hx) | (intro h;simp only [Bool.and_eq_true,decide_eq_true_eq] at h;omega) | (intro h1 h2;rw [h1,h2];rfl) | (intro h;rw [h];rfl) | (simp;done) | (simp;omega))
    have l0:∀ d i,i+d=np→allB (plP pl) i=true→Run Tryz.prog c 117 zf61 (FJ0 g nb N pl np i) (Post c [] (.p (.bool (allB (plP pl) np&&allB (brP g pl) nb)))):=by
      intro d
      induction d with
      | zero =>
        intro i hi h1
        obtain rfl:i=np:=by omega
        have hd:decide ((i:Int)<(i:Int))=false:=by simp
        refine pcZ hc (zIn g nb N pl i i) ?_ (l1 nb 0 (by omega) h1 rfl)
        repeat' (first | exact aN | apply aI)
        all_goals (first | exact aP _ _ | omega | rfl | (intros;first | assumption | exact trivial | rfl) | (exact hd) | (simp;done) | (simp;omega))
      | succ d ih =>
        intro i hi h1
        have hd:decide ((i:Int)<(np:Int))=true:=decide_eq_true (by omega)
        have p1:=con_l1In (pl i).1 0 4
        have p2:=con_l1In (pl i).2.1 0 4
        have hx:(bif !(inB (pl i).1 0 4) then true else !(inB (pl i).2.1 0 4))=!(plP pl i):=by
          unfold plP
          cases inB (pl i).1 0 4<;>rfl
        cases hb:plP pl i with
        | true =>
          rw [hb] at hx
          have hrec:=ih (i+1) (by omega) (by rw [allB,h1,hb];rfl)
          refine pcZ hc (zIt g nb N pl np i (inB (pl i).1 0 4) (inB (pl i).2.1 0 4)) ?_ hrec
          repeat' (first | exact aN | apply aI)
          all_goals (first | exact aG _ | exact aP _ _ | omega | rfl | (intros;first | assumption | exact trivial | rfl | exact fT ‹_› | ((repeat' (first | assumption | apply anda | apply notf));done)) | (exact hd) | (exact p1) | (intro _;exact p2) | (exact hx) | (intro h;rw [h];rfl) | (simp;done) | (intro _;omega) | (simp;omega))
        | false =>
          rw [hb] at hx
          rw [all_no (show i<np by omega) hb,Bool.false_and]
          refine pkZ Tryz.func117 hc (zIx g nb N pl np i (inB (pl i).1 0 4) (inB (pl i).2.1 0 4)) ?_
          repeat' (first | exact aN | apply aI)
          all_goals (first | exact aG _ | omega | rfl | (intros;first | assumption | exact trivial | rfl | exact fT ‹_› | ((repeat' (first | assumption | apply anda | apply notf));done)) | (exact hd) | (exact p1) | (intro _;exact p2) | (exact hx) | (intro h;rw [h];rfl) | (simp;done) | (intro _;omega) | (simp;omega))
    refine pcZ hc (zIz g nb N pl np (isG g nb N)) ?_ (l0 np 0 (by omega) rfl)
    repeat' (first | exact aN | apply aI)
    all_goals (first | exact aG _ | exact aP _ _ | omega | rfl | (intros;first | assumption | exact trivial | rfl | exact fT ‹_› | ((repeat' (first | assumption | apply anda | apply notf));done)) | (exact hg) | (exact hcond) | (simp;done))
end Go.Proofs.YtkkjoghiigiokaaGreat.Mach
namespace Go.Proofs.YtkkjoghiigiokaaGreat.Mach
open Go
set_option linter.unusedVariables false
set_option linter.unusedSimpArgs false
def snI (s:T_IntS) (x:Int):T_IntS:=(s.1+1,fun i=>if i<s.1 then s.2 i else x)
def zPc0:T_IntS:=(0,fun _=>0)
def pcN (l:Nat→Int):Nat→Nat
  | 0=>0
  | k+1=>if l k = -1 then pcN l k+1 else pcN l k
def pcU (l:Nat→Int):Nat→T_IntS
  | 0=>zPc0
  | k+1=>if l k = -1 then zPc0 else snI (pcU l k) (l k)
def pcC (l:Nat→Int):Nat→Nat→T_IntS
  | 0=>fun _=>zPc0
  | k+1=>if l k = -1 then snocC (pcN l k) (pcC l k) (pcU l k) else pcC l k
theorem pcN_le (l:Nat→Int):∀ k,pcN l k≤k
  | 0=>Nat.le_refl _
  | k+1=>by
    have:=pcN_le l k
    rw [pcN];split<;>omega
theorem pcU_le (l:Nat→Int):∀ k,(pcU l k).1≤k
  | 0=>Nat.le_refl _
  | k+1=>by
    have:=pcU_le l k
    rw [pcU];split
    · exact Nat.zero_le _
    · show (pcU l k).1+1≤k+1;omega
theorem snocC_lt {n:Nat} {C:Nat→T_IntS} {c:T_IntS} {i:Nat} (h:i<n):snocC n C c i=C i:=by
  unfold snocC;simp only [if_pos h]
theorem snocC_eq {n:Nat} {C:Nat→T_IntS} {c:T_IntS} {i:Nat} (h:¬ i<n):snocC n C c i=c:=by
  unfold snocC;simp only [if_neg h]
theorem pcC_le (l:Nat→Int):∀ k i,(pcC l k i).1≤k
  | 0,i=>Nat.le_refl _
  | k+1,i=>by
    have h1:=pcC_le l k i
    have h2:=pcU_le l k
    rw [pcC];split
    · by_cases h:i<pcN l k
      · rw [snocC_lt h];omega
      · rw [snocC_eq h];omega
    · omega
theorem pcN_mono (l:Nat→Int) (k:Nat):∀ d,pcN l k≤pcN l (k+d)
  | 0=>Nat.le_refl _
  | d+1=>by
    have:=pcN_mono l k d
    rw [show k+(d+1)=(k+d)+1 by omega,pcN];split<;>omega
theorem pcC_old (l:Nat→Int) (k:Nat) {i:Nat} (hi:i<pcN l k):∀ d,pcC l (k+d) i=pcC l k i
  | 0=>rfl
  | d+1=>by
    have h1:=pcC_old l k hi d
    have h2:=pcN_mono l k d
    rw [show k+(d+1)=(k+d)+1 by omega,pcC];split
    · rw [snocC_lt (by omega),h1]
    · exact h1
def qsB (N:Int) (S:T_IntS):Bool:=bif decide ((S.1:Int)<2) then false else okD N S.2 S.1
def pcB (N:Int) (l:Nat→Int) (k:Nat):Bool:=allB (fun i=>qsB N (pcC l k i)) (pcN l k)
theorem pcB_t {N:Int} {l:Nat→Int} {k:Nat} (h:pcB N l k=true) (hl:l k≠-1∨qsB N (pcU l k)=true):pcB N l (k+1)=true:=by
  unfold pcB at *
  rw [all_iff] at h ⊢
  intro i hi
  rw [pcN] at hi
  rw [pcC]
  by_cases e:l k = -1
  · rw [if_pos e] at hi ⊢
    by_cases h':i<pcN l k
    · rw [snocC_lt h'];exact h i h'
    · rw [snocC_eq h']
      rcases hl with hl | hl
      · exact absurd e hl
      · exact hl
  · rw [if_neg e] at hi ⊢
    exact h i hi
theorem pcB_f {N:Int} {l:Nat→Int} {k:Nat} (hl:l k = -1) (hq:qsB N (pcU l k)=false) (d:Nat):pcB N l (k+1+d)=false:=by
  have hn:pcN l (k+1)=pcN l k+1:=by rw [pcN,if_pos hl]
  have hm:=pcN_mono l (k+1) d
  unfold pcB
  refine all_no (i:=pcN l k) (by omega) ?_
  show qsB N (pcC l (k+1+d) (pcN l k))=false
  rw [pcC_old l (k+1) (by omega) d,pcC,if_pos hl,snocC_eq (Nat.lt_irrefl _)]
  exact hq
theorem pcC_nlen {l:Nat→Int} {k:Nat} (hl:l k = -1):pcN l (k+1)=pcN l k+1∧pcU l (k+1)=zPc0∧pcC l (k+1)=snocC (pcN l k) (pcC l k) (pcU l k):=by
  rw [pcN,pcU,pcC,if_pos hl,if_pos hl,if_pos hl];exact ⟨rfl,rfl,rfl⟩
theorem pcC_add {l:Nat→Int} {k:Nat} (hl:l k≠-1):pcN l (k+1)=pcN l k∧pcU l (k+1)=snI (pcU l k) (l k)∧pcC l (k+1)=pcC l k:=by
  rw [pcN,pcU,pcC,if_neg hl,if_neg hl,if_neg hl];exact ⟨rfl,rfl,rfl⟩
def anF (p:Nat→Bool):Nat→Bool
  | 0=>false
  | k+1=>anF p k||p k
def cvrS (C:Nat→T_IntS):Nat→Int
  | 0=>0
  | k+1=>cvrS C k+2*((C k).1:Int) - 3
theorem cvrS_b {C:Nat→T_IntS} {B:Nat} (hB:∀ i,(C i).1≤B):∀ k:Nat,-3*(k:Int)≤cvrS C k∧cvrS C k≤2*(B:Int)*k
  | 0=>by rw [cvrS];omega
  | k+1=>by
    have h1:=cvrS_b hB k
    have h2:=hB k
    rw [cvrS]
    have e:2*(B:Int)*((k+1:Nat):Int)=2*(B:Int)*k+2*B:=by rw [Int.natCast_add];simp [Int.mul_add]
    omega
def cvM (g:Nat→T_Bar) (C:Nat→T_IntS) (i e:Nat):Bool:=anF (fun j=>spS g (C j) e) i
def cvrB (g:Nat→T_Bar) (nb:Nat) (cn:Nat) (C:Nat→T_IntS):Bool:=allB (cvM g C cn) nb
theorem hasI_cong {g h:Nat→Int} {x:Int}:∀ {n:Nat},(∀ i,i<n→g i=h i)→hasI g x n=hasI h x n
  | 0,_=>rfl
  | n+1,H=>by rw [hasI,hasI,hasI_cong (fun i hi=>H i (by omega)),H n (by omega)]
theorem flt_has (p:Nat→Bool) (e:Nat):∀ n,hasI (flt p n).2 (e:Int) (flt p n).1=(decide (e<n)&&p e)
  | 0=>by simp [flt,hasI]
  | n+1=>by
    have h:=flt_has p e n
    cases hp:p n with
    | true =>
      rw [flt_t hp]
      show (hasI (fun s=>if s<(flt p n).1 then (flt p n).2 s else (n:Int)) (e:Int) (flt p n).1||(if (flt p n).1<(flt p n).1 then (flt p n).2 (flt p n).1 else (n:Int))==(e:Int))=_
      rw [hasI_cong (h:=(flt p n).2) (fun i hi=>if_pos hi),h,if_neg (Nat.lt_irrefl _)]
      by_cases he:e=n
      · subst he;simp [hp]
      · have h1:((n:Int)==(e:Int))=false:=beq_eq_false_iff_ne.2 (by omega)
        rw [h1,Bool.or_false]
        by_cases h2:e<n
        · rw [decide_eq_true h2,decide_eq_true (show e<n+1 by omega)]
        · rw [decide_eq_false h2,decide_eq_false (show ¬ e<n+1 by omega)]
    | false =>
      rw [flt_f hp,h]
      by_cases he:e=n
      · subst he;simp [hp]
      · by_cases h2:e<n
        · rw [decide_eq_true h2,decide_eq_true (show e<n+1 by omega)]
        · rw [decide_eq_false h2,decide_eq_false (show ¬ e<n+1 by omega)]
theorem flt_in (p:Nat→Bool):∀ n s,s<(flt p n).1→∃ e,e<n∧(flt p n).2 s=(e:Int)
  | 0,s,h=>absurd h (Nat.not_lt_zero _)
  | n+1,s,h=>by
    cases hp:p n with
    | true =>
      rw [flt_t hp] at h ⊢
      by_cases h':s<(flt p n).1
      · obtain ⟨e,h1,h2⟩:=flt_in p n s h'
        exact ⟨e,by omega,by show (if s<(flt p n).1 then _ else _)=_;rw [if_pos h'];exact h2⟩
      · exact ⟨n,by omega,by show (if s<(flt p n).1 then _ else _)=_;rw [if_neg h']⟩
    | false =>
      rw [flt_f hp] at h ⊢
      obtain ⟨e,h1,h2⟩:=flt_in p n s h
      exact ⟨e,by omega,h2⟩
end Go.Proofs.YtkkjoghiigiokaaGreat.Mach
namespace Go.Proofs.YtkkjoghiigiokaaGreat.Had
abbrev Fo:=Nat→Int
abbrev Ve:=Nat→Int
def ev (w:Fo):Fo:=fun q=>w (2*q)
def od (w:Fo):Fo:=fun q=>w (2*q+1)
def tl (a:Ve):Ve:=fun k=>a (k+1)
def wg:Nat→Ve→Fo→Fo
  | 0,_,_=>fun _=>0
  | n+1,a,w=>fun m=>if m % 2=0 then wg n (tl a) (ev w) (m / 2) else a 0*ev w (m / 2) - wg n (tl a) (od w) (m / 2)
def it:Nat→Ve→Fo→Fo
  | 0,_,_=>fun _=>0
  | n+1,a,w=>fun m=>if m % 2=0 then it n (tl a) (ev w) (m / 2)+a 0*od w (m / 2) else - it n (tl a) (od w) (m / 2)
def dotv:Nat→Ve→Ve→Int
  | 0,_,_=>0
  | n+1,a,b=>a 0*b 0+dotv n (tl a) (tl b)
def dot:Nat→Fo→Fo→Int
  | 0,u,w=>u 0*w 0
  | n+1,u,w=>dot n (ev u) (ev w)+dot n (od u) (od w)
def dl (k:Nat):Ve:=fun j=>if j=k then 1 else 0
def vac:Fo:=fun m=>if m=0 then 1 else 0
theorem par (m:Nat):(∃ q,m=2*q)∨∃ q,m=2*q+1:=by
  by_cases h:m % 2=0
  · exact .inl ⟨m / 2,by omega⟩
  · exact .inr ⟨m / 2,by omega⟩
theorem wg_e (n:Nat) (a:Ve) (w:Fo) (q:Nat):wg (n+1) a w (2*q)=wg n (tl a) (ev w) q:=by
  simp only [wg];rw [if_pos (by omega),show 2*q / 2=q by omega]
theorem wg_o (n:Nat) (a:Ve) (w:Fo) (q:Nat):wg (n+1) a w (2*q+1)=a 0*ev w q - wg n (tl a) (od w) q:=by
  simp only [wg];rw [if_neg (by omega),show (2*q+1) / 2=q by omega]
theorem it_e (n:Nat) (a:Ve) (w:Fo) (q:Nat):it (n+1) a w (2*q)=it n (tl a) (ev w) q+a 0*od w q:=by
  simp only [it];rw [if_pos (by omega),show 2*q / 2=q by omega]
theorem it_o (n:Nat) (a:Ve) (w:Fo) (q:Nat):it (n+1) a w (2*q+1) = - it n (tl a) (od w) q:=by
  simp only [it];rw [if_neg (by omega),show (2*q+1) / 2=q by omega]
theorem ev_wg (n:Nat) (a:Ve) (w:Fo):ev (wg (n+1) a w)=wg n (tl a) (ev w):=funext fun q=>wg_e n a w q
theorem od_wg (n:Nat) (a:Ve) (w:Fo):od (wg (n+1) a w)=fun q=>a 0*ev w q+(-1)*wg n (tl a) (od w) q:=funext fun q=>by
  rw [show od (wg (n+1) a w) q=wg (n+1) a w (2*q+1) from rfl,wg_o];omega
theorem ev_it (n:Nat) (a:Ve) (w:Fo):ev (it (n+1) a w)=fun q=>1*it n (tl a) (ev w) q+a 0*od w q:=funext fun q=>by
  rw [show ev (it (n+1) a w) q=it (n+1) a w (2*q) from rfl,it_e];omega
theorem od_it (n:Nat) (a:Ve) (w:Fo):od (it (n+1) a w)=fun q=>(-1)*it n (tl a) (od w) q+0*od w q:=funext fun q=>by
  rw [show od (it (n+1) a w) q=it (n+1) a w (2*q+1) from rfl,it_o];omega
theorem wg_lin (n:Nat):∀ (a:Ve) (x y:Int) (u v:Fo),wg n a (fun m=>x*u m+y*v m)=fun m=>x*wg n a u m+y*wg n a v m:=by
  induction n with
  | zero=>intro a x y u v;funext m;simp [wg]
  | succ n ih =>
    intro a x y u v
    funext m
    rcases par m with ⟨q,rfl⟩ | ⟨q,rfl⟩
    · rw [wg_e,wg_e,wg_e,show ev (fun m=>x*u m+y*v m)=fun m=>x*ev u m+y*ev v m from rfl,ih]
    · rw [wg_o,wg_o,wg_o,show od (fun m=>x*u m+y*v m)=fun m=>x*od u m+y*od v m from rfl,ih,show ev (fun m=>x*u m+y*v m) q=x*ev u q+y*ev v q from rfl]
      grind
theorem it_lin (n:Nat):∀ (a:Ve) (x y:Int) (u v:Fo),it n a (fun m=>x*u m+y*v m)=fun m=>x*it n a u m+y*it n a v m:=by
  induction n with
  | zero=>intro a x y u v;funext m;simp [it]
  | succ n ih =>
    intro a x y u v
    funext m
    rcases par m with ⟨q,rfl⟩ | ⟨q,rfl⟩
    · rw [it_e,it_e,it_e,show ev (fun m=>x*u m+y*v m)=fun m=>x*ev u m+y*ev v m from rfl,ih,show od (fun m=>x*u m+y*v m) q=x*od u q+y*od v q from rfl]
      grind
    · rw [it_o,it_o,it_o,show od (fun m=>x*u m+y*v m)=fun m=>x*od u m+y*od v m from rfl,ih]
      grind
theorem wg_linv (n:Nat):∀ (a b:Ve) (x y:Int) (u:Fo),wg n (fun k=>x*a k+y*b k) u=fun m=>x*wg n a u m+y*wg n b u m:=by
  induction n with
  | zero=>intro a b x y u;funext m;simp [wg]
  | succ n ih =>
    intro a b x y u
    funext m
    rcases par m with ⟨q,rfl⟩ | ⟨q,rfl⟩
    · rw [wg_e,wg_e,wg_e,show tl (fun k=>x*a k+y*b k)=fun k=>x*tl a k+y*tl b k from rfl,ih]
    · rw [wg_o,wg_o,wg_o,show tl (fun k=>x*a k+y*b k)=fun k=>x*tl a k+y*tl b k from rfl,ih]
      grind
theorem wg_congr (n:Nat):∀ (a b:Ve) (u:Fo),(∀ k,k<n→a k=b k)→wg n a u=wg n b u:=by
  induction n with
  | zero=>intro a b u _;rfl
  | succ n ih =>
    intro a b u h
    have h':=ih (tl a) (tl b)
    funext m
    rcases par m with ⟨q,rfl⟩ | ⟨q,rfl⟩
    · rw [wg_e,wg_e,h' (ev u) (fun k hk=>h (k+1) (by omega))]
    · rw [wg_o,wg_o,h' (od u) (fun k hk=>h (k+1) (by omega)),h 0 (by omega)]
theorem wg_0 (n:Nat) (a:Ve):wg n a (fun _=>0)=fun _=>0:=by
  have:=wg_lin n a 0 0 (fun _=>0) (fun _=>0)
  simpa using this
theorem it_0 (n:Nat) (a:Ve):it n a (fun _=>0)=fun _=>0:=by
  have:=it_lin n a 0 0 (fun _=>0) (fun _=>0)
  simpa using this
theorem wg_v0 (n:Nat) (u:Fo):wg n (fun _=>0) u=fun _=>0:=by
  have:=wg_linv n (fun _=>0) (fun _=>0) 0 0 u
  simpa using this
theorem wg_wg (n:Nat):∀ (a b:Ve) (w:Fo),wg n a (wg n b w)=fun m=>- wg n b (wg n a w) m:=by
  induction n with
  | zero=>intro a b w;funext m;simp [wg]
  | succ n ih =>
    intro a b w
    funext m
    rcases par m with ⟨q,rfl⟩ | ⟨q,rfl⟩
    · rw [wg_e,wg_e,ev_wg,ev_wg,ih]
    · rw [wg_o,wg_o,ev_wg,ev_wg,od_wg,od_wg,wg_lin,wg_lin,ih]
      grind
theorem it_it (n:Nat):∀ (a b:Ve) (w:Fo),it n a (it n b w)=fun m=>- it n b (it n a w) m:=by
  induction n with
  | zero=>intro a b w;funext m;simp [it]
  | succ n ih =>
    intro a b w
    funext m
    rcases par m with ⟨q,rfl⟩ | ⟨q,rfl⟩
    · rw [it_e,it_e,ev_it,ev_it,od_it,od_it,it_lin,it_lin,ih]
      grind
    · rw [it_o,it_o,od_it,od_it,it_lin,it_lin,ih]
      grind
theorem car (n:Nat):∀ (v a:Ve) (w:Fo),it n v (wg n a w)=fun m=>dotv n v a*w m+(-1)*wg n a (it n v w) m:=by
  induction n with
  | zero=>intro v a w;funext m;simp [wg,it,dotv]
  | succ n ih =>
    intro v a w
    funext m
    rcases par m with ⟨q,rfl⟩ | ⟨q,rfl⟩
    · rw [it_e,wg_e,ev_wg,od_wg,ev_it,wg_lin,ih]
      show _=dotv (n+1) v a*ev w q+_
      simp only [dotv]
      grind
    · rw [it_o,wg_o,ev_it,od_wg,od_it,wg_lin,it_lin,ih]
      show _=dotv (n+1) v a*od w q+_
      simp only [dotv]
      grind
theorem dot_lin (n:Nat):∀ (x y:Int) (u v w:Fo),dot n (fun m=>x*u m+y*v m) w=x*dot n u w+y*dot n v w:=by
  induction n with
  | zero=>intro x y u v w;simp only [dot];grind
  | succ n ih =>
    intro x y u v w
    simp only [dot]
    rw [show ev (fun m=>x*u m+y*v m)=fun m=>x*ev u m+y*ev v m from rfl,show od (fun m=>x*u m+y*v m)=fun m=>x*od u m+y*od v m from rfl,ih,ih]
    grind
theorem dot_symm (n:Nat):∀ (u w:Fo),dot n u w=dot n w u:=by
  induction n with
  | zero=>intro u w;simp only [dot];exact Int.mul_comm _ _
  | succ n ih=>intro u w;simp only [dot];rw [ih,ih (od u)]
theorem dot_adj (n:Nat):∀ (a:Ve) (u w:Fo),dot n (wg n a u) w=dot n u (it n a w):=by
  induction n with
  | zero=>intro a u w;simp [dot,wg,it]
  | succ n ih =>
    intro a u w
    simp only [dot]
    rw [ev_wg,od_wg,ev_it,od_it,dot_lin,ih,ih,dot_symm n (ev u) (fun q=>1*it n (tl a) (ev w) q+a 0*od w q),dot_lin,dot_symm n (od u) (fun q=>(-1)*it n (tl a) (od w) q+0*od w q),dot_lin,
      dot_symm n (it n (tl a) (ev w)),dot_symm n (it n (tl a) (od w)),dot_symm n (od w) (ev u),dot_symm n (od w) (od u)]
    grind
theorem mul_self_nn (x:Int):0≤x*x:=by
  rcases Int.le_total 0 x with h | h
  · exact Int.mul_nonneg h h
  · have:=Int.mul_nonneg (show 0≤-x by omega) (show 0≤-x by omega)
    rwa [Int.neg_mul_neg] at this
theorem dot_nn (n:Nat):∀ (u:Fo),0≤dot n u u:=by
  induction n with
  | zero=>intro u;simp only [dot];exact mul_self_nn _
  | succ n ih=>intro u;simp only [dot];have:=ih (ev u);have:=ih (od u);omega
theorem dot_at (n:Nat):∀ (u:Fo),u 0*u 0≤dot n u u:=by
  induction n with
  | zero=>intro u;simp only [dot];exact Int.le_refl _
  | succ n ih=>intro u;simp only [dot];have h1:=ih (ev u);have:=dot_nn n (od u);rw [show ev u 0=u 0 from rfl] at h1;omega
theorem pyth (n:Nat) (a:Ve) (w:Fo):dot n (wg n a w) (wg n a w)+dot n (it n a w) (it n a w)=dotv n a a*dot n w w:=by
  rw [dot_adj,car,dot_symm n w,dot_lin,dot_adj]
  grind
theorem wg_le (n:Nat) (a:Ve) (w:Fo):dot n (wg n a w) (wg n a w)≤dotv n a a*dot n w w:=by
  have:=pyth n a w;have:=dot_nn n (it n a w);omega
theorem it_le (n:Nat) (a:Ve) (w:Fo):dot n (it n a w) (it n a w)≤dotv n a a*dot n w w:=by
  have:=pyth n a w;have:=dot_nn n (wg n a w);omega
theorem dotv_0 (n:Nat):∀ b:Ve,dotv n (fun _=>0) b=0:=by
  induction n with
  | zero=>intro b;rfl
  | succ n ih=>intro b;simp only [dotv];rw [show tl (fun _=>(0:Int))=fun _=>0 from rfl,ih];omega
theorem dotv_dl (n:Nat):∀ (k:Nat) (b:Ve),dotv n (dl k) b=if k<n then b k else 0:=by
  induction n with
  | zero=>intro k b;simp [dotv]
  | succ n ih =>
    intro k b
    simp only [dotv]
    cases k with
    | zero =>
      rw [show tl (dl 0)=fun _=>0 from funext fun j=>by simp [tl,dl],dotv_0]
      simp [dl]
    | succ k =>
      rw [show tl (dl (k+1))=dl k from funext fun j=>by simp [tl,dl],ih]
      by_cases h:k<n
      · rw [if_pos h,if_pos (by omega)];simp [dl,tl]
      · rw [if_neg h,if_neg (by omega)];simp [dl]
theorem it_dl_le (n k:Nat) (w:Fo):dot n (it n (dl k) w) (it n (dl k) w)≤dot n w w:=by
  have h:=it_le n (dl k) w
  rw [dotv_dl] at h
  have:=dot_nn n w
  by_cases hk:k<n
  · rw [if_pos hk,show dl k k=1 by simp [dl]] at h;omega
  · rw [if_neg hk] at h;omega
def Lin (l:Fo→Int):Prop:=∀ x y u v,l (fun m=>x*u m+y*v m)=x*l u+y*l v
def Dec (n:Nat) (W:Fo):Prop:=∀ l,Lin l→wg n (fun k=>l (it n (dl k) W)) W=fun _=>0
theorem Lin.zero {l:Fo→Int} (h:Lin l):l (fun _=>0)=0:=by
  have:=h 0 0 (fun _=>0) (fun _=>0)
  simpa using this
theorem it_vac (n:Nat):∀ v:Ve,it n v vac=fun _=>0:=by
  induction n with
  | zero=>intro v;rfl
  | succ n ih =>
    intro v
    have he:ev vac=vac:=funext fun q=>by
      show (if 2*q=0 then (1:Int) else 0)=if q=0 then 1 else 0
      by_cases h:q=0
      · rw [if_pos h,if_pos (by omega)]
      · rw [if_neg h,if_neg (by omega)]
    have ho:od vac=fun _=>0:=funext fun q=>by simp [od,vac]
    funext m
    rcases par m with ⟨q,rfl⟩ | ⟨q,rfl⟩
    · rw [it_e,he,ho,ih];simp
    · rw [it_o,ho,it_0];simp
theorem dec_vac (n:Nat):Dec n vac:=by
  intro l hl
  rw [show (fun k=>l (it n (dl k) vac))=fun _=>0 from funext fun k=>by rw [it_vac,hl.zero],wg_v0]
theorem wg_sq (n:Nat) (a:Ve) (w:Fo):wg n a (wg n a w)=fun _=>0:=by
  funext m
  have:=congrFun (wg_wg n a a w) m
  omega
theorem car_dl (n k:Nat) (a:Ve) (w:Fo):it n (dl k) (wg n a w)=fun m=>(if k<n then a k else 0)*w m+(-1)*wg n a (it n (dl k) w) m:=by
  rw [car,dotv_dl]
theorem Lin.wg {l:Fo→Int} (h:Lin l) (n:Nat) (a:Ve):Lin (fun u=>l (wg n a u)):=fun x y u v=>by
  show l (Had.wg n a _)=_
  rw [wg_lin,h]
theorem Lin.it {l:Fo→Int} (h:Lin l) (n:Nat) (a:Ve):Lin (fun u=>l (it n a u)):=fun x y u v=>by
  show l (Had.it n a _)=_
  rw [it_lin,h]
theorem Lin.neg {l:Fo→Int} (h:Lin l):Lin (fun u=>- l u):=fun x y u v=>by
  show - l _=_
  rw [h];grind
theorem dec_wg {n:Nat} {W:Fo} (a:Ve) (h:Dec n W):Dec n (wg n a W):=by
  intro l hl
  have e:(fun k=>l (it n (dl k) (wg n a W)))=fun k=>l W*(if k<n then a k else 0)+(-1)*l (wg n a (it n (dl k) W)):=funext fun k=>by
    rw [car_dl,hl];grind
  rw [e,wg_linv,wg_congr n (fun k=>if k<n then a k else 0) a _ (fun k hk=>by simp [hk]),wg_sq,wg_wg,h _ (hl.wg n a),wg_0]
  simp
theorem uniq {n r:Nat} {W:Fo} {F:Fo→Int} {p:Nat→Nat} (hl:Lin F) (kv:∀ v:Ve,(∀ j,j<r→v (p j)=0)→∀ Y,F (wg n v Y)=0) (hd:F W≠0)
    {v:Ve} (hz:wg n v W=fun _=>0) (hp:∀ j,j<r→v (p j)=0) {k:Nat} (hk:k<n):v k=0:=by
  have h:=congrArg (it n (dl k)) hz
  rw [it_0,car_dl,if_pos hk] at h
  have h2:=congrArg F h
  rw [hl.zero,hl,kv v hp] at h2
  have h3:v k*F W=0:=by omega
  rcases Int.mul_eq_zero.1 h3 with h4 | h4
  · exact h4
  · exact absurd h4 hd
end Go.Proofs.YtkkjoghiigiokaaGreat.Had
namespace Go.Proofs.YtkkjoghiigiokaaGreat.Had
structure LF (n:Nat) (l:Fo→Int):Prop where
  lin:Lin l
  bd:∀ u,l u*l u≤dot n u u
structure HI (n m:Nat) (B:Int) (a A:Nat→Ve) (r:Nat) (p:Nat→Nat) (d:Int) (W:Fo) (F:Fo→Int) (L:Nat→Fo→Int):Prop where
  rm:r≤m
  rows:∀ i,i<m→dotv n (a i) (a i)≤B
  b0:0≤B
  dec:Dec n W
  lf:LF n F
  ll:∀ i,i<r→LF n (L i)
  pn:∀ j,j<r→p j<n
  k0:∀ j,j<r→∀ Y,F (it n (dl (p j)) Y)=0
  k1:∀ i j,i<r→j<r→∀ Y,L i (it n (dl (p j)) Y)=if i=j then F Y else 0
  kv:∀ v:Ve,(∀ j,j<r→v (p j)=0)→∀ Y,F (wg n v Y)=0
  dF:d=F W
  d0:d≠0
  piv:∀ i k,i<r→k<n→A i k=L i (it n (dl k) W)
  non:∀ i k,r≤i→i<m→k<n→A i k=F (it n (dl k) (wg n (a i) W))
  nw:dot n W W≤B ^ r
theorem wg_at0 (n:Nat):∀ (a:Ve) (w:Fo),wg n a w 0=0:=by
  induction n with
  | zero=>intro a w;rfl
  | succ n ih =>
    intro a w
    have:=wg_e n a w 0
    rw [show 2*0=0 from rfl] at this
    rw [this,ih]
theorem dot_vac (n:Nat):dot n vac vac=1:=by
  induction n with
  | zero=>rfl
  | succ n ih =>
    simp only [dot]
    rw [show ev vac=vac from funext fun q=>by
      show (if 2*q=0 then (1:Int) else 0)=if q=0 then 1 else 0
      by_cases h:q=0
      · rw [if_pos h,if_pos (by omega)]
      · rw [if_neg h,if_neg (by omega)],show od vac=fun _=>0 from funext fun q=>by simp [od,vac],ih]
    have:=dot_lin n 0 0 (fun _=>0) (fun _=>0) (fun _=>0)
    simp at this
    rw [this];rfl
theorem HI.init {n m:Nat} {B:Int} {a:Nat→Ve} {p:Nat→Nat} (h0:0≤B) (hr:∀ i,i<m→dotv n (a i) (a i)≤B) :
    HI n m B a a 0 p 1 vac (fun w=>w 0) (fun _ _=>0) where
  rm:=Nat.zero_le _
  rows:=hr
  b0:=h0
  dec:=dec_vac n
  lf:=⟨fun x y u v=>rfl,dot_at n⟩
  ll i hi:=absurd hi (Nat.not_lt_zero _)
  pn i hi:=absurd hi (Nat.not_lt_zero _)
  k0 i hi:=absurd hi (Nat.not_lt_zero _)
  k1 i j hi:=absurd hi (Nat.not_lt_zero _)
  kv v _ Y:=wg_at0 n v Y
  dF:=rfl
  d0:=by decide
  piv i k hi:=absurd hi (Nat.not_lt_zero _)
  non i k _ _ hk:=by
    show a i k=it n (dl k) (wg n (a i) vac) 0
    rw [car_dl,it_vac,wg_0,if_pos hk]
    simp [vac]
  nw:=by rw [dot_vac];simp
section
variable {n m r:Nat} {B:Int} {a A:Nat→Ve} {p:Nat→Nat} {d:Int} {W:Fo} {F:Fo→Int} {L:Nat→Fo→Int}
theorem HI.bpiv (h:HI n m B a A r p d W F L) {i k:Nat} (hi:i<r) (hk:k<n):A i k*A i k≤B ^ r:=by
  rw [h.piv i k hi hk]
  exact Int.le_trans ((h.ll i hi).bd _) (Int.le_trans (it_dl_le n k W) h.nw)
theorem HI.bnon (h:HI n m B a A r p d W F L) {i k:Nat} (hi:r≤i) (hm:i<m) (hk:k<n):A i k*A i k≤B ^ (r+1):=by
  rw [h.non i k hi hm hk]
  refine Int.le_trans (h.lf.bd _) (Int.le_trans (it_dl_le n k _) (Int.le_trans (wg_le n (a i) W) ?_))
  have h1:=h.rows i hm
  have h2:=dot_nn n W
  have h3:=h.nw
  rw [Int.pow_succ,Int.mul_comm (B ^ r) B]
  exact Int.le_trans (Int.mul_le_mul_of_nonneg_right h1 h2) (Int.mul_le_mul_of_nonneg_left h3 h.b0)
theorem HI.bd (h:HI n m B a A r p d W F L):d*d≤B ^ r:=by
  rw [h.dF];exact Int.le_trans (h.lf.bd _) h.nw
def sw {α:Type} (a:Nat→α) (r s:Nat) (i:Nat):α:=if i=r then a s else if i=s then a r else a i
theorem HI.swap (h:HI n m B a A r p d W F L) {s:Nat} (hs:r≤s) (hm:s<m):HI n m B (sw a r s) (sw A r s) r p d W F L:=by
  have key:∀ i,i<m→r≤i→∃ j,r≤j∧j<m∧sw a r s i=a j∧sw A r s i=A j:=by
    intro i hi hr
    unfold sw
    by_cases h1:i=r
    · exact ⟨s,hs,hm,by rw [if_pos h1],by rw [if_pos h1]⟩
    · by_cases h2:i=s
      · exact ⟨r,Nat.le_refl _,by omega,by rw [if_neg h1,if_pos h2],by rw [if_neg h1,if_pos h2]⟩
      · exact ⟨i,hr,hi,by rw [if_neg h1,if_neg h2],by rw [if_neg h1,if_neg h2]⟩
  have low:∀ i,i<r→sw a r s i=a i∧sw A r s i=A i:=fun i hi=>by
    unfold sw;exact ⟨by rw [if_neg (by omega),if_neg (by omega)],by rw [if_neg (by omega),if_neg (by omega)]⟩
  refine { h with rows:=fun i hi=>?_,piv:=fun i k hi hk=>?_,non:=fun i k hr hi hk=>?_ }
  · by_cases hr:r≤i
    · obtain ⟨j,_,h2,h3,_⟩:=key i hi hr
      rw [h3];exact h.rows j h2
    · rw [(low i (by omega)).1];exact h.rows i hi
  · rw [(low i hi).2];exact h.piv i k hi hk
  · obtain ⟨j,h1,h2,h3,h4⟩:=key i hi hr
    rw [h3,h4];exact h.non j k h1 h2 hk
theorem HI.step (h:HI n m B a A r p d W F L) {c:Nat} (hr:r<m) (hc:c<n) (hx:A r c≠0) {A':Nat→Ve} (hA':∀ i k,i<m→k<n→A' i k =
      if i<r then - L i (it n (dl c) (it n (dl k) (wg n (a r) W))) else if i=r then A r k else F (it n (dl c) (it n (dl k) (wg n (a i) (wg n (a r) W))))) :
    HI n m B a A' (r+1) (fun j=>if j=r then c else p j) (A r c) (wg n (a r) W) (fun Y=>F (it n (dl c) Y)) (fun i Y=>if i=r then F Y else - L i (it n (dl c) Y)) where
  rm:=hr
  rows:=h.rows
  b0:=h.b0
  dec:=dec_wg (a r) h.dec
  lf:=⟨h.lf.lin.it n (dl c),fun u=>Int.le_trans (h.lf.bd _) (it_dl_le n c u)⟩
  ll i hi:=by
    by_cases hir:i=r
    · simp only [hir,if_true];exact h.lf
    · simp only [hir,if_false]
      exact ⟨((h.ll i (by omega)).lin.it n (dl c)).neg,fun u=>by rw [Int.neg_mul_neg];exact Int.le_trans ((h.ll i (by omega)).bd _) (it_dl_le n c u)⟩
  pn j hj:=by
    show (if j=r then c else p j)<n
    split
    · exact hc
    · exact h.pn j (by omega)
  k0 j hj Y:=by
    show F (it n (dl c) (it n (dl (if j=r then c else p j)) Y))=0
    split
    · have:=congrArg F (it_it n (dl c) (dl c) Y)
      rw [show (fun m=>- it n (dl c) (it n (dl c) Y) m)=fun m=>(-1)*it n (dl c) (it n (dl c) Y) m+0*0 from funext fun m=>by omega,h.lf.lin (-1) 0 _ (fun _=>0)] at this
      omega
    · rw [it_it,show (fun m=>- it n (dl (p j)) (it n (dl c) Y) m)=fun m=>(-1)*it n (dl (p j)) (it n (dl c) Y) m+0*0 from funext fun m=>by omega,h.lf.lin (-1) 0 _ (fun _=>0),h.k0 j (by omega)]
      omega
  k1 i j hi hj Y:=by
    show (if i=r then F (it n (dl (if j=r then c else p j)) Y) else - L i (it n (dl c) (it n (dl (if j=r then c else p j)) Y)))=if i=j then F (it n (dl c) Y) else 0
    by_cases hir:i=r
    · rw [if_pos hir]
      by_cases hjr:j=r
      · rw [if_pos hjr,if_pos (by omega)]
      · rw [if_neg hjr,if_neg (by omega),h.k0 j (by omega)]
    · rw [if_neg hir]
      have hl:=(h.ll i (by omega)).lin
      by_cases hjr:j=r
      · rw [if_pos hjr,if_neg (by omega)]
        have:=congrArg (L i) (it_it n (dl c) (dl c) Y)
        rw [show (fun m=>- it n (dl c) (it n (dl c) Y) m)=fun m=>(-1)*it n (dl c) (it n (dl c) Y) m+0*0 from funext fun m=>by omega,hl (-1) 0 _ (fun _=>0)] at this
        omega
      · rw [if_neg hjr,it_it,show (fun m=>- it n (dl (p j)) (it n (dl c) Y) m)=fun m=>(-1)*it n (dl (p j)) (it n (dl c) Y) m+0*0 from funext fun m=>by omega,hl (-1) 0 _ (fun _=>0),h.k1 i j (by omega) (by omega)]
        split<;>omega
  kv v hv Y:=by
    show F (it n (dl c) (wg n v Y))=0
    have h1:=hv r (by omega)
    simp only [if_true] at h1
    rw [car_dl,h.lf.lin,h.kv v (fun j hj=>by have:=hv j (by omega);simpa [show j≠r by omega] using this),if_pos hc,h1]
    omega
  dF:=h.non r c (Nat.le_refl _) hr hc
  d0:=hx
  piv i k hi hk:=by
    show A' i k=if i=r then F (it n (dl k) (wg n (a r) W)) else - L i (it n (dl c) (it n (dl k) (wg n (a r) W)))
    rw [hA' i k (by omega) hk]
    by_cases hir:i=r
    · subst hir
      rw [if_neg (Nat.lt_irrefl _),if_pos rfl,if_pos rfl];exact h.non i k (Nat.le_refl _) hr hk
    · rw [if_pos (show i<r by omega),if_neg hir]
  non i k hi hm hk:=by
    rw [hA' i k hm hk,if_neg (by omega),if_neg (by omega)]
  nw:=by
    have h1:=wg_le n (a r) W
    have h2:=h.rows r hr
    have h3:=h.nw
    have h4:=dot_nn n W
    rw [Int.pow_succ,Int.mul_comm (B ^ r) B]
    exact Int.le_trans h1 (Int.le_trans (Int.mul_le_mul_of_nonneg_right h2 h4) (Int.mul_le_mul_of_nonneg_left h3 h.b0))
theorem HI.ident (h:HI n m B a A r p d W F L) {c:Nat} (hr:r<m) (hc:c<n) (hx:A r c≠0) {A':Nat→Ve} (hA':∀ i k,i<m→k<n→A' i k =
      if i<r then - L i (it n (dl c) (it n (dl k) (wg n (a r) W))) else if i=r then A r k else F (it n (dl c) (it n (dl k) (wg n (a i) (wg n (a r) W)))))
    {i k:Nat} (him:i<m) (hir:i≠r) (hk:k<n):d*A' i k=A r c*A i k - A i c*A r k:=by
  have h':=h.step hr hc hx hA'
  let W':=wg n (a r) W
  let vr:Ve:=fun k=>F (it n (dl k) W')
  have zr:wg n vr W'=fun _=>0:=h'.dec F h.lf.lin
  by_cases hi:i<r
  · let X:Ve:=fun k=>- L i (it n (dl c) (it n (dl k) W'))
    let V:Ve:=fun k=>L i (it n (dl k) W)
    have zX:wg n X W'=fun _=>0:=h'.dec _ ((h.ll i hi).lin.it n (dl c)).neg
    have zV:wg n V W'=fun _=>0:=by
      show wg n V (wg n (a r) W)=_
      rw [wg_wg,h.dec (L i) (h.ll i hi).lin,wg_0];simp
    have e:=uniq (v:=fun k=>1*(d*X k+(- A r c)*V k)+A i c*vr k) h'.lf.lin h'.kv (by rw [← h'.dF];exact hx)
      (by rw [wg_linv,wg_linv,zX,zV,zr];simp)
      (fun j hj=>by
        have e1:X (if j=r then c else p j)=if i=j then A r c else 0:=by
          have:=h'.k1 i j (by omega) hj W'
          simp only [if_neg hir] at this
          show - L i (it n (dl c) (it n (dl (if j=r then c else p j)) W'))=_
          rw [this]
          split
          · exact h'.dF.symm
          · rfl
        have e2:vr (if j=r then c else p j)=if j=r then A r c else 0:=by
          show F (it n (dl (if j=r then c else p j)) W')=_
          split
          · exact h'.dF.symm
          · exact h.k0 j (by omega) _
        have e3:V (if j=r then c else p j)=if j=r then A i c else if i=j then d else 0:=by
          show L i (it n (dl (if j=r then c else p j)) W)=_
          split
          · exact (h.piv i c hi hc).symm
          · rw [h.k1 i j hi (by omega),h.dF]
        show 1*(d*X (if j=r then c else p j)+(- A r c)*V (if j=r then c else p j))+A i c*vr (if j=r then c else p j)=0
        rw [e1,e2,e3]
        by_cases hj:j=r
        · rw [if_pos hj,if_pos hj,if_neg (by omega)];grind
        · rw [if_neg hj,if_neg hj]
          split<;>grind) hk
    have e1:A' i k=X k:=by rw [hA' i k him hk,if_pos hi]
    have e2:A i k=V k:=h.piv i k hi hk
    have e3:A r k=vr k:=h.non r k (Nat.le_refl _) hr hk
    rw [e1,e2,e3]
    have e:1*(d*X k+(- A r c)*V k)+A i c*vr k=0:=e
    grind
  · let X:Ve:=fun k=>F (it n (dl c) (it n (dl k) (wg n (a i) W')))
    let V:Ve:=fun k=>F (it n (dl k) (wg n (a i) W))
    let bb:Ve:=fun k=>if k<n then a i k else 0
    have zX:wg n X W'=fun m=>A r c*wg n bb W' m:=by
      have e0:X=fun k=>A r c*bb k+(-1)*F (it n (dl c) (wg n (a i) (it n (dl k) W'))):=funext fun k=>by
        show F (it n (dl c) (it n (dl k) (wg n (a i) W')))=_
        rw [car_dl,it_lin,h.lf.lin,show F (it n (dl c) W')=A r c from h'.dF.symm]
        show _=A r c*(if k<n then a i k else 0)+_
        grind
      rw [e0,wg_linv,h'.dec _ ((h.lf.lin.it n (dl c)).wg n (a i))]
      funext q;simp
    have zV:wg n V W'=fun m=>d*wg n bb W' m:=by
      have e0:V=fun k=>d*bb k+(-1)*F (wg n (a i) (it n (dl k) W)):=funext fun k=>by
        show F (it n (dl k) (wg n (a i) W))=_
        rw [car_dl,h.lf.lin,← h.dF]
        show _=d*(if k<n then a i k else 0)+_
        grind
      have e1:wg n (fun k=>F (wg n (a i) (it n (dl k) W))) W'=fun _=>0:=by
        show wg n _ (wg n (a r) W)=_
        rw [wg_wg,h.dec _ (h.lf.lin.wg n (a i)),wg_0];simp
      rw [e0,wg_linv,e1]
      funext q;simp
    have e:=uniq (v:=fun k=>1*(d*X k+(- A r c)*V k)+A i c*vr k) h'.lf.lin h'.kv (by rw [← h'.dF];exact hx)
      (by rw [wg_linv,wg_linv,zX,zV,zr];funext q;grind)
      (fun j hj=>by
        have e1:X (if j=r then c else p j)=0:=h'.k0 j hj _
        have e2:vr (if j=r then c else p j)=if j=r then A r c else 0:=by
          show F (it n (dl (if j=r then c else p j)) W')=_
          split
          · exact h'.dF.symm
          · exact h.k0 j (by omega) _
        have e3:V (if j=r then c else p j)=if j=r then A i c else 0:=by
          show F (it n (dl (if j=r then c else p j)) (wg n (a i) W))=_
          split
          · exact (h.non i c (by omega) him hc).symm
          · exact h.k0 j (by omega) _
        show 1*(d*X (if j=r then c else p j)+(- A r c)*V (if j=r then c else p j))+A i c*vr (if j=r then c else p j)=0
        rw [e1,e2,e3]
        split<;>grind) hk
    have e1:A' i k=X k:=by rw [hA' i k him hk,if_neg hi,if_neg hir]
    have e2:A i k=V k:=h.non i k (by omega) him hk
    have e3:A r k=vr k:=h.non r k (Nat.le_refl _) hr hk
    rw [e1,e2,e3]
    have e:1*(d*X k+(- A r c)*V k)+A i c*vr k=0:=e
    grind
end
def Bar (n m:Nat) (B:Int) (A:Nat→Ve) (r:Nat) (p:Nat→Nat) (d:Int):Prop:=∃ a W F L,HI n m B a A r p d W F L
def el (A:Nat→Ve) (r c:Nat) (d:Int):Nat→Ve:=fun i k=>if i=r then A r k else (A r c*A i k - A i c*A r k).tdiv d
theorem Bar.elim {n m r:Nat} {B:Int} {A:Nat→Ve} {p:Nat→Nat} {d:Int} (h:Bar n m B A r p d) {c:Nat} (hr:r<m) (hc:c<n) (hx:A r c≠0) :
    Bar n m B (el A r c d) (r+1) (fun j=>if j=r then c else p j) (A r c)∧∀ i k,i<m→i≠r→k<n→d*el A r c d i k=A r c*A i k - A i c*A r k:=by
  obtain ⟨a,W,F,L,h⟩:=h
  let A':Nat→Ve:=fun i k=>if i<r then - L i (it n (dl c) (it n (dl k) (wg n (a r) W))) else if i=r then A r k else F (it n (dl c) (it n (dl k) (wg n (a i) (wg n (a r) W))))
  have hq:∀ i k,i<m→k<n→el A r c d i k=A' i k:=by
    intro i k hi hk
    unfold el
    by_cases hir:i=r
    · rw [if_pos hir]
      show _=if i<r then _ else if i=r then A r k else _
      rw [if_neg (by omega),if_pos hir]
    · rw [if_neg hir,← h.ident hr hc hx (A':=A') (fun i k _ _=>rfl) hi hir hk,Int.mul_tdiv_cancel_left _ h.d0]
  refine ⟨⟨a,_,_,_,h.step hr hc hx (fun i k hi hk=>(hq i k hi hk).trans rfl)⟩,fun i k hi hir hk=>?_⟩
  rw [hq i k hi hk]
  exact h.ident hr hc hx (fun i k _ _=>rfl) hi hir hk
theorem Bar.init {n m:Nat} {B:Int} {a:Nat→Ve} {p:Nat→Nat} (h0:0≤B) (hr:∀ i,i<m→dotv n (a i) (a i)≤B):Bar n m B a 0 p 1:=⟨a,_,_,_,HI.init h0 hr⟩
theorem Bar.swap {n m r:Nat} {B:Int} {A:Nat→Ve} {p:Nat→Nat} {d:Int} (h:Bar n m B A r p d) {s:Nat} (hs:r≤s) (hm:s<m):Bar n m B (sw A r s) r p d:=by
  obtain ⟨a,W,F,L,h⟩:=h
  exact ⟨_,_,_,_,h.swap hs hm⟩
section
variable {n m r:Nat} {B:Int} {A:Nat→Ve} {p:Nat→Nat} {d:Int}
theorem Bar.rm (h:Bar n m B A r p d):r≤m:=by obtain ⟨a,W,F,L,h⟩:=h;exact h.rm
theorem Bar.d0 (h:Bar n m B A r p d):d≠0:=by obtain ⟨a,W,F,L,h⟩:=h;exact h.d0
theorem Bar.pn (h:Bar n m B A r p d) {j:Nat} (hj:j<r):p j<n:=by obtain ⟨a,W,F,L,h⟩:=h;exact h.pn j hj
theorem Bar.bd (h:Bar n m B A r p d):d*d≤B ^ r:=by obtain ⟨a,W,F,L,h⟩:=h;exact h.bd
theorem Bar.bpiv (h:Bar n m B A r p d) {i k:Nat} (hi:i<r) (hk:k<n):A i k*A i k≤B ^ r:=by obtain ⟨a,W,F,L,h⟩:=h;exact h.bpiv hi hk
theorem Bar.bnon (h:Bar n m B A r p d) {i k:Nat} (hi:r≤i) (hm:i<m) (hk:k<n):A i k*A i k≤B ^ (r+1):=by obtain ⟨a,W,F,L,h⟩:=h;exact h.bnon hi hm hk
end
end Go.Proofs.YtkkjoghiigiokaaGreat.Had
namespace Go.Proofs.YtkkjoghiigiokaaGreat.Had
structure RS where
  A:Nat→Ve
  r:Nat
  p:Nat→Nat
  d:Int
def fnd (A:Nat→Ve) (c m:Nat):Nat→Nat→Nat
  | 0,i=>i
  | f+1,i=>if i<m∧A i c=0 then fnd A c m f (i+1) else i
theorem fnd_ge (A:Nat→Ve) (c m:Nat):∀ f i,i≤fnd A c m f i
  | 0,i=>Nat.le_refl _
  | f+1,i=>by
    unfold fnd
    split
    · exact Nat.le_trans (Nat.le_succ i) (fnd_ge A c m f (i+1))
    · exact Nat.le_refl _
theorem fnd_le (A:Nat→Ve) (c m:Nat):∀ f i,i≤m→fnd A c m f i≤m
  | 0,i,h=>h
  | f+1,i,h=>by
    unfold fnd
    split
    · rename_i hh;exact fnd_le A c m f (i+1) hh.1
    · exact h
theorem fnd_zero (A:Nat→Ve) (c m:Nat):∀ f i j,i≤j→j<fnd A c m f i→A j c=0
  | 0,i,j,h1,h2=>by simp only [fnd] at h2;omega
  | f+1,i,j,h1,h2=>by
    unfold fnd at h2
    split at h2
    · rename_i hh
      by_cases hj:j=i
      · rw [hj];exact hh.2
      · exact fnd_zero A c m f (i+1) j (by omega) h2
    · omega
theorem fnd_hit (A:Nat→Ve) (c m:Nat):∀ f i,m≤i+f→fnd A c m f i<m→A (fnd A c m f i) c≠0
  | 0,i,h1,h2=>by simp only [fnd] at h2;omega
  | f+1,i,h1,h2=>by
    unfold fnd at h2 ⊢
    split
    · rename_i hh;rw [if_pos hh] at h2;exact fnd_hit A c m f (i+1) (by omega) h2
    · rename_i hh
      rw [if_neg hh] at h2
      intro h0;exact hh ⟨h2,h0⟩
def rstep (m c:Nat) (S:RS):RS :=
  if fnd S.A c m m S.r<m then ⟨el (sw S.A S.r (fnd S.A c m m S.r)) S.r c S.d,S.r+1,fun j=>if j=S.r then c else S.p j,S.A (fnd S.A c m m S.r) c⟩ else S
def rrun (m:Nat) (S:RS):Nat→RS
  | 0=>S
  | c+1=>rstep m c (rrun m S c)
def rini (A:Nat→Ve):RS:=⟨A,0,fun _=>0,1⟩
structure Tame (n m rmx:Nat) (K:Nat→Nat→(Nat→Ve)→Prop):Prop where
  skip:∀ c r A,c<n→K c r A→(∀ i,r≤i→i<m→A i c=0)→K (c+1) r A
  piv:∀ c r A q A' d,c<n→K c r A→r≤q→q<m→A q c≠0→d≠0→(∀ i k,i<m→i≠r→k<n→d*A' i k=sw A r q r c*sw A r q i k - sw A r q i c*sw A r q r k) →
    (∀ k,A' r k=sw A r q r k)→K (c+1) (r+1) A'∧r+1≤rmx
structure ROK (n m rmx:Nat) (B:Int) (K:Nat→Nat→(Nat→Ve)→Prop) (c:Nat) (S:RS):Prop where
  bar:Bar n m B S.A S.r S.p S.d
  k:K c S.r S.A
  r:S.r≤rmx
  rc:S.r≤c
  pc:∀ j,j<S.r→S.p j<c
  asc:∀ i j,i<j→j<S.r→S.p i<S.p j
theorem sw_at {α:Type} (a:Nat→α) (r s:Nat):sw a r s r=a s:=by unfold sw;rw [if_pos rfl]
theorem rstep_ok {n m rmx:Nat} {B:Int} {K:Nat→Nat→(Nat→Ve)→Prop} (ht:Tame n m rmx K) {c:Nat} {S:RS} (h:ROK n m rmx B K c S) (hc:c<n):ROK n m rmx B K (c+1) (rstep m c S):=by
  have hrm:=h.bar.rm
  unfold rstep
  split
  · rename_i hf
    generalize hq:fnd S.A c m m S.r=q at hf ⊢
    have hge:S.r≤q:=by rw [← hq];exact fnd_ge S.A c m m S.r
    have hx:S.A q c≠0:=by rw [← hq];exact fnd_hit S.A c m m S.r (by omega) (by rw [hq];exact hf)
    have hb:=h.bar.swap hge hf
    have hx':sw S.A S.r q S.r c≠0:=by rw [sw_at];exact hx
    obtain ⟨b1,b2⟩:=hb.elim (by omega) hc hx'
    obtain ⟨k1,k2⟩:=ht.piv c S.r S.A q (el (sw S.A S.r q) S.r c S.d) S.d hc h.k hge hf hx h.bar.d0 b2 (fun k=>by simp [el])
    refine ⟨?_,k1,k2,Nat.succ_le_succ h.rc,fun j hj=>?_,fun i j hij hj=>?_⟩
    · have:S.A q c=sw S.A S.r q S.r c:=by rw [sw_at]
      show Bar n m B _ (S.r+1) _ (S.A q c)
      rw [this];exact b1
    · show (if j=S.r then c else S.p j)<c+1
      have hj:j<S.r+1:=hj
      split
      · omega
      · have:=h.pc j (by omega);omega
    · show (if i=S.r then c else S.p i)<(if j=S.r then c else S.p j)
      have hj:j<S.r+1:=hj
      rw [if_neg (by omega)]
      split
      · exact h.pc i (by omega)
      · exact h.asc i j hij (by omega)
  · rename_i hf
    have hfm:fnd S.A c m m S.r=m:=by have:=fnd_le S.A c m m S.r hrm;omega
    exact ⟨h.bar,ht.skip c S.r S.A hc h.k (fun i h1 h2=>fnd_zero S.A c m m S.r i h1 (by rw [hfm];exact h2)),h.r,by have:=h.rc;omega,fun j hj=>by have:=h.pc j hj;omega,h.asc⟩
theorem rrun_ok {n m rmx:Nat} {B:Int} {K:Nat→Nat→(Nat→Ve)→Prop} (ht:Tame n m rmx K) {A:Nat→Ve} (hb:0≤B) (hr:∀ i,i<m→dotv n (A i) (A i)≤B) (hk:K 0 0 A) :
    ∀ c,c≤n→ROK n m rmx B K c (rrun m (rini A) c)
  | 0,_=>⟨Bar.init hb hr,hk,Nat.zero_le _,Nat.le_refl _,fun j hj=>absurd hj (Nat.not_lt_zero _),fun i j _ hj=>absurd hj (Nat.not_lt_zero _)⟩
  | c+1,h=>rstep_ok ht (rrun_ok ht hb hr hk c (by omega)) (by omega)
theorem sq_lt {x y:Int} (h0:0≤y) (h:y<x):y*y<x*x:=by
  have h1:=Int.mul_le_mul (show y+1≤x by omega) (show y+1≤x by omega) (by omega) (by omega)
  have:(y+1)*(y+1)=y*y+2*y+1:=by grind
  omega
theorem sq_le {x:Int} {y:Int} (h0:0≤y) (h:x*x≤y*y):-y≤x∧x≤y:=by
  refine ⟨?_,?_⟩
  · refine Int.not_lt.1 (fun hl=>?_)
    have:=sq_lt h0 (show y < -x by omega)
    rw [Int.neg_mul_neg] at this
    omega
  · refine Int.not_lt.1 (fun hl=>?_)
    have:=sq_lt h0 hl
    omega
theorem pow_mono {B:Int} (hB:1≤B) {i j:Nat} (h:i≤j):B ^ i≤B ^ j:=by
  induction j with
  | zero=>rw [show i=0 by omega];exact Int.le_refl _
  | succ j ih =>
    by_cases hij:i=j+1
    · rw [hij];exact Int.le_refl _
    · refine Int.le_trans (ih (by omega)) ?_
      rw [Int.pow_succ]
      have:=Int.pow_nonneg (n:=B) (m:=j) (by omega)
      have:=Int.mul_le_mul_of_nonneg_left hB this
      omega
theorem pow_pos' {B:Int} (hB:1≤B) (i:Nat):0≤B ^ i:=Int.pow_nonneg (by omega)
theorem prod_le {B:Int} (hB:1≤B) {rmx i j:Nat} (hM:B ^ (2*rmx)≤2 ^ 124) {x y:Int} (hx:x*x≤B ^ i) (hy:y*y≤B ^ j) (h:i+j≤2*rmx):-(2 ^ 62)≤x*y∧x*y≤2 ^ 62:=by
  refine sq_le (by decide) ?_
  have e:x*y*(x*y)=x*x*(y*y):=by grind
  rw [e]
  refine Int.le_trans (Int.le_trans (Int.mul_le_mul hx hy (mul_self_nn y) (pow_pos' hB i)) ?_) (show B ^ (2*rmx)≤2 ^ 62*2 ^ 62 from hM)
  rw [← Int.pow_add]
  exact pow_mono hB h
end Go.Proofs.YtkkjoghiigiokaaGreat.Had
namespace Go.Proofs.YtkkjoghiigiokaaGreat.Had
def gcdn (v:Ve):Nat→Nat
  | 0=>0
  | n+1=>Nat.gcd (gcdn v n) (v n).natAbs
def fst0 (v:Ve):Nat→Int
  | 0=>0
  | n+1=>if fst0 v n=0 then v n else fst0 v n
def sgc (v:Ve) (n:Nat):Int:=if fst0 v n<0 then -(gcdn v n:Int) else (gcdn v n:Int)
def prm (n:Nat) (v:Ve):Ve:=fun k=>if gcdn v n=0 then v k else (v k).tdiv (sgc v n)
theorem gcdn_congr {u v:Ve}:∀ n,(∀ k,k<n→u k=v k)→gcdn u n=gcdn v n
  | 0,_=>rfl
  | n+1,h=>by rw [gcdn,gcdn,gcdn_congr n (fun k hk=>h k (by omega)),h n (by omega)]
theorem fst0_congr {u v:Ve}:∀ n,(∀ k,k<n→u k=v k)→fst0 u n=fst0 v n
  | 0,_=>rfl
  | n+1,h=>by rw [fst0,fst0,fst0_congr n (fun k hk=>h k (by omega)),h n (by omega)]
theorem prm_at {n:Nat} {u v:Ve} (h:∀ k,k<n→u k=v k) {k:Nat} (hk:k<n):prm n u k=prm n v k:=by
  unfold prm sgc
  rw [gcdn_congr n h,fst0_congr n h,h k hk]
theorem gcdn_smul (s:Int) (u:Ve):∀ n,gcdn (fun k=>s*u k) n=s.natAbs*gcdn u n
  | 0=>by simp [gcdn]
  | n+1=>by rw [gcdn,gcdn_smul s u n,Int.natAbs_mul,Nat.gcd_mul_left,gcdn]
theorem fst0_smul {s:Int} (hs:s≠0) (u:Ve):∀ n,fst0 (fun k=>s*u k) n=s*fst0 u n
  | 0=>by simp [fst0]
  | n+1=>by
    rw [fst0,fst0_smul hs u n,fst0]
    by_cases h:fst0 u n=0
    · rw [if_pos (by rw [h];simp),if_pos h]
    · rw [if_neg (fun h'=>by rcases Int.mul_eq_zero.1 h' with h2 | h2<;>contradiction),if_neg h]
theorem gcdn_dvd (v:Ve):∀ n k,k<n→(gcdn v n:Int) ∣ v k
  | n+1,k,h=>by
    rw [gcdn]
    by_cases hk:k=n
    · subst hk
      exact Int.dvd_natAbs.1 (Int.ofNat_dvd.2 (Nat.gcd_dvd_right _ _))
    · exact Int.dvd_trans (Int.ofNat_dvd.2 (Nat.gcd_dvd_left _ _)) (gcdn_dvd v n k (by omega))
theorem gcdn_zero {v:Ve} {n:Nat} (h:gcdn v n=0) {k:Nat} (hk:k<n):v k=0:=by
  have:=gcdn_dvd v n k hk
  rw [h] at this
  exact Int.zero_dvd.1 this
theorem sgc_dvd (v:Ve) (n:Nat) {k:Nat} (hk:k<n):sgc v n ∣ v k:=by
  unfold sgc
  split
  · exact Int.neg_dvd.2 (gcdn_dvd v n k hk)
  · exact gcdn_dvd v n k hk
theorem sgc_0 {v:Ve} {n:Nat} (h:gcdn v n≠0):sgc v n≠0:=by unfold sgc;split<;>omega
theorem fst0_gcd {v:Ve}:∀ n,fst0 v n=0↔gcdn v n=0
  | 0=>by simp [fst0,gcdn]
  | n+1=>by
    rw [fst0,gcdn,Nat.gcd_eq_zero_iff,← fst0_gcd n]
    by_cases h:fst0 v n=0
    · rw [if_pos h];simp [h]
    · rw [if_neg h];simp [h]
theorem prm_mul (n:Nat) (v:Ve):∃ s:Int,s≠0∧∀ k,k<n→v k=s*prm n v k:=by
  by_cases h:gcdn v n=0
  · exact ⟨1,by decide,fun k hk=>by unfold prm;rw [if_pos h];omega⟩
  · exact ⟨sgc v n,sgc_0 h,fun k hk=>by unfold prm;rw [if_neg h,Int.mul_tdiv_cancel' (sgc_dvd v n hk)]⟩
theorem prm_smul {s:Int} (hs:s≠0) (u:Ve) {n k:Nat} (hk:k<n):prm n (fun k=>s*u k) k=prm n u k:=by
  unfold prm
  rw [gcdn_smul]
  by_cases h:gcdn u n=0
  · rw [if_pos (by rw [h];simp),if_pos h];show s*u k=u k;rw [gcdn_zero h hk];simp
  · rw [if_neg (fun h'=>by rcases Nat.mul_eq_zero.1 h' with h2 | h2<;>omega),if_neg h]
    have h0:fst0 u n≠0:=fun h'=>h ((fst0_gcd n).1 h')
    have e:sgc (fun k=>s*u k) n=s*sgc u n:=by
      unfold sgc
      rw [gcdn_smul,fst0_smul hs]
      rcases Int.lt_or_gt_of_ne hs with h1 | h1
      · rcases Int.lt_or_gt_of_ne h0 with h2 | h2
        · have:=Int.mul_pos_of_neg_of_neg h1 h2
          rw [if_neg (by omega),if_pos h2]
          have:((s.natAbs*gcdn u n:Nat):Int) = -s*gcdn u n:=by rw [Int.natCast_mul];congr 1;omega
          rw [this];grind
        · have:=Int.mul_neg_of_neg_of_pos h1 h2
          rw [if_pos this,if_neg (by omega)]
          have:((s.natAbs*gcdn u n:Nat):Int) = -s*gcdn u n:=by rw [Int.natCast_mul];congr 1;omega
          rw [this];grind
      · have e1:((s.natAbs*gcdn u n:Nat):Int)=s*gcdn u n:=by rw [Int.natCast_mul];congr 1;omega
        rcases Int.lt_or_gt_of_ne h0 with h2 | h2
        · have:=Int.mul_neg_of_pos_of_neg h1 h2
          rw [if_pos this,if_pos h2,e1];grind
        · have:=Int.mul_pos h1 h2
          rw [if_neg (by omega),if_neg (by omega),e1]
    rw [e]
    obtain ⟨q,hq⟩:=sgc_dvd u n hk
    show (s*u k).tdiv _=_
    rw [hq,Int.mul_tdiv_cancel_left _ (sgc_0 h),← Int.mul_assoc,Int.mul_tdiv_cancel_left _ (fun h'=>by rcases Int.mul_eq_zero.1 h' with h2 | h2;exact hs h2;exact sgc_0 h h2)]
theorem prm_eq {n:Nat} {u v:Ve} {s t:Int} (hs:s≠0) (ht:t≠0) (h:∀ k,k<n→s*u k=t*v k) {k:Nat} (hk:k<n):prm n u k=prm n v k:=by
  rw [← prm_smul hs u hk,← prm_smul ht v hk]
  exact prm_at h hk
theorem prm_zero {n:Nat} {v:Ve} {k:Nat} (hk:k<n):prm n v k=0↔v k=0:=by
  obtain ⟨s,h1,h2⟩:=prm_mul n v
  rw [h2 k hk]
  constructor
  · intro h;rw [h];simp
  · intro h;rcases Int.mul_eq_zero.1 h with h | h
    · exact absurd h h1
    · exact h
theorem mul_abs_le {s x:Int} (hs:s≠0):x*x≤s*x*(s*x):=by
  have h1:1≤s*s:=by
    rcases Int.lt_or_gt_of_ne hs with h | h
    · have:=Int.mul_le_mul (show 1≤-s by omega) (show 1≤-s by omega) (by omega) (by omega)
      rw [Int.neg_mul_neg] at this;omega
    · have:=Int.mul_le_mul (show 1≤s by omega) (show 1≤s by omega) (by omega) (by omega)
      omega
  have h2:=Int.mul_le_mul_of_nonneg_right h1 (mul_self_nn x)
  have e:s*x*(s*x)=s*s*(x*x):=by grind
  rw [e];omega
theorem prm_sq {n:Nat} {v:Ve} {k:Nat} (hk:k<n):prm n v k*prm n v k≤v k*v k:=by
  obtain ⟨s,h1,h2⟩:=prm_mul n v
  rw [h2 k hk]
  exact mul_abs_le h1
def wo (a row:Ve) (j:Nat):Ve:=fun k=>a k*(row j).tdiv (Int.gcd (a j) (row j)) - row k*(a j).tdiv (Int.gcd (a j) (row j))
theorem wo_mul (a row:Ve) (j k:Nat):(Int.gcd (a j) (row j):Int)*wo a row j k=a k*row j - row k*a j:=by
  unfold wo
  obtain ⟨x,hx⟩:=Int.gcd_dvd_left (a j) (row j)
  obtain ⟨y,hy⟩:=Int.gcd_dvd_right (a j) (row j)
  generalize (Int.gcd (a j) (row j):Int)=g at hx hy
  by_cases hg:g=0
  · subst hg
    rw [hx,hy];simp
  · rw [hx,hy,Int.mul_tdiv_cancel_left _ hg,Int.mul_tdiv_cancel_left _ hg]
    grind
theorem step_prm {n:Nat} {u v w:Ve} {d:Int} {c:Nat} (hd:d≠0) (hc:c<n) (hx:v c≠0) (h:∀ k,k<n→d*w k=v c*u k - u c*v k) {k:Nat} (hk:k<n) :
    prm n w k=(if prm n u c=0 then prm n u k else prm n (wo (prm n u) (prm n v) c) k) ∧
    (∀ k,k<n→wo (prm n u) (prm n v) c k*wo (prm n u) (prm n v) c k≤d*w k*(d*w k)):=by
  obtain ⟨s,s1,s2⟩:=prm_mul n u
  obtain ⟨t,t1,t2⟩:=prm_mul n v
  have hv:prm n v c≠0:=fun h'=>hx ((prm_zero hc).1 h')
  have hg:(Int.gcd (prm n u c) (prm n v c):Int)≠0:=fun h'=>by
    have:Int.gcd (prm n u c) (prm n v c)=0:=by omega
    rw [Int.gcd_eq_zero_iff] at this;exact hv this.2
  have key:∀ k,k<n→d*w k=(s*t*Int.gcd (prm n u c) (prm n v c))*wo (prm n u) (prm n v) c k:=fun k hk=>by
    rw [h k hk,Int.mul_assoc,wo_mul,s2 k hk,s2 c hc,t2 k hk,t2 c hc]
    grind
  have hst:s*t*(Int.gcd (prm n u c) (prm n v c):Int)≠0:=fun h'=>by
    rcases Int.mul_eq_zero.1 h' with h2 | h2
    · rcases Int.mul_eq_zero.1 h2 with h3 | h3<;>contradiction
    · exact hg h2
  refine ⟨?_,fun k hk=>?_⟩
  · split
    · rename_i h0
      have hu:u c=0:=(prm_zero hc).1 h0
      have e1:=prm_eq (n:=n) (u:=w) (v:=u) hd hx (fun k hk=>by rw [h k hk,hu];omega) hk
      exact e1
    · exact prm_eq hd hst key hk
  · rw [key k hk]
    exact mul_abs_le hst
end Go.Proofs.YtkkjoghiigiokaaGreat.Had
namespace Go.Proofs.YtkkjoghiigiokaaGreat.Had
def psum (v:Ve) (t:Nat):Nat→Int
  | 0=>0
  | k+1=>psum v t k+(if k % 2=t then v k else 0)
theorem psum_lin {u v w:Ve} {d x y:Int} {t:Nat}:∀ n,(∀ k,k<n→d*w k=x*u k - y*v k)→d*psum w t n=x*psum u t n - y*psum v t n
  | 0,_=>by simp [psum]
  | n+1,h=>by
    have h1:=psum_lin (t:=t) n (fun k hk=>h k (by omega))
    have h2:=h n (by omega)
    simp only [psum]
    split<;>grind
theorem psum_zero {v:Ve} {t:Nat}:∀ n,(∀ k,k<n→v k=0)→psum v t n=0
  | 0,_=>rfl
  | n+1,h=>by
    simp only [psum]
    rw [psum_zero n (fun k hk=>h k (by omega)),h n (by omega)]
    split<;>omega
theorem tame_rows {n m rmx:Nat} (hn:n≤rmx+2) (he:n % 2=0) :
    Tame n m rmx (fun c r A=>r≤c∧(∀ i,r≤i→i<m→∀ k,k<c→A i k=0)∧∀ i,i<m→∀ t,t<2→psum (A i) t n=0) where
  skip c r A hc hk hz:=⟨by omega,fun i h1 h2 k h3=>by
    by_cases hkc:k=c
    · rw [hkc];exact hz i h1 h2
    · exact hk.2.1 i h1 h2 k (by omega),hk.2.2⟩
  piv c r A q A' d hc hk hrq hqm hx hd hE hR:=by
    obtain ⟨k1,k2,k3⟩:=hk
    have hcn:c+2<n:=by
      refine Nat.not_le.1 (fun hle=>?_)
      have hs:=k3 q hqm (c % 2) (by omega)
      have hz:=k2 q hrq hqm
      have e:psum (A q) (c % 2) n=A q c:=by
        by_cases h1:n=c+1
        · subst h1
          simp only [psum,if_true]
          rw [psum_zero c hz];omega
        · have h2:n=c+2:=by omega
          subst h2
          simp only [psum,if_true]
          rw [psum_zero c hz,if_neg (by omega)];omega
      rw [e] at hs
      exact hx hs
    have sws:∀ i,i<m→∃ j,j<m∧sw A r q i=A j∧(r≤i→r≤j):=by
      intro i hi
      unfold sw
      by_cases h1:i=r
      · exact ⟨q,hqm,by rw [if_pos h1],fun _=>hrq⟩
      · by_cases h2:i=q
        · exact ⟨r,by omega,by rw [if_neg h1,if_pos h2],fun _=>Nat.le_refl _⟩
        · exact ⟨i,hi,by rw [if_neg h1,if_neg h2],fun h=>h⟩
    refine ⟨⟨by omega,fun i h1 h2 k h3=>?_,fun i hi t ht=>?_⟩,by omega⟩
    · have hE':=hE i k h2 (by omega) (by omega)
      obtain ⟨j,j1,j2,j3⟩:=sws i h2
      have j3:=j3 (by omega)
      rw [sw_at,j2] at hE'
      have:d*A' i k=0:=by
        rw [hE']
        by_cases hkc:k=c
        · subst hkc;grind
        · rw [k2 j j3 j1 k (by omega),k2 q hrq hqm k (by omega)];grind
      rcases Int.mul_eq_zero.1 this with h | h
      · exact absurd h hd
      · exact h
    · by_cases hir:i=r
      · subst hir
        have e:psum (A' i) t n=psum (A q) t n:=by
          have:=psum_lin (u:=A q) (v:=A q) (w:=A' i) (d:=1) (x:=1) (y:=0) (t:=t) n (fun k hk=>by rw [hR k,sw_at];omega)
          omega
        rw [e];exact k3 q hqm t ht
      · obtain ⟨j,j1,j2,_⟩:=sws i hi
        have:=psum_lin (t:=t) n (fun k hk=>by have:=hE i k hi hir hk;rw [sw_at,j2] at this;exact this)
        rw [k3 j j1 t ht,k3 q hqm t ht] at this
        have h0:d*psum (A' i) t n=0:=by rw [this];grind
        rcases Int.mul_eq_zero.1 h0 with h | h
        · exact absurd h hd
        · exact h
def rs (f:Nat→Int):Nat→Nat→Int
  | _,0=>0
  | lo,k+1=>f lo+rs f (lo+1) k
theorem rs_lin {f g h:Nat→Int} {d x y:Int}:∀ k lo,(∀ i,lo≤i→i<lo+k→d*h i=x*f i - y*g i)→d*rs h lo k=x*rs f lo k - y*rs g lo k
  | 0,_,_=>by simp [rs]
  | k+1,lo,hh=>by
    have h1:=rs_lin k (lo+1) (fun i h1 h2=>hh i (by omega) (by omega))
    have h2:=hh lo (Nat.le_refl _) (by omega)
    rw [rs,rs,rs]
    grind
theorem rs_zero {f:Nat→Int} (k lo:Nat) (h:∀ i,lo≤i→i<lo+k→f i=0):rs f lo k=0:=by
  have:=rs_lin (f:=f) (g:=f) (h:=f) (d:=1) (x:=0) (y:=0) k lo (fun i h1 h2=>by rw [h i h1 h2];rfl)
  omega
def upd1 (f:Nat→Int) (q:Nat) (x:Int) (i:Nat):Int:=if i=q then x else f i
theorem rs_upd (f:Nat→Int) (q:Nat) (x:Int):∀ k lo,rs (upd1 f q x) lo k=rs f lo k+(if lo≤q∧q<lo+k then x - f q else 0)
  | 0,lo=>by rw [rs,rs,if_neg (by omega)];rfl
  | k+1,lo=>by
    rw [rs,rs,rs_upd f q x k (lo+1)]
    unfold upd1
    by_cases h1:lo=q
    · rw [if_pos h1,if_neg (by omega),if_pos (by omega),h1];omega
    · rw [if_neg h1]
      by_cases h2:lo+1≤q∧q<lo+1+k
      · rw [if_pos h2,if_pos (by omega)];omega
      · rw [if_neg h2,if_neg (by omega)];omega
def Rel (n m:Nat) (a:Nat→Ve) (u:Nat→Int):Prop:=∀ k,k<n→rs (fun i=>u i*a i k) 0 m=0
end Go.Proofs.YtkkjoghiigiokaaGreat.Had
namespace Go.Proofs.YtkkjoghiigiokaaGreat.Had
def rv (x y:Int) (A B:Nat):Ve:=fun w=>if w=2*A then x else if w=2*A+1 then y else if w=2*B then -x else if w=2*B+1 then -y else 0
theorem rv_sum {x y:Int} {A B P:Nat} (hA:A<P) (hB:B<P) (hAB:A≠B) (f:Nat→Int) :
    rs (fun w=>f w*rv x y A B w) 0 (2*P)=f (2*A)*x+f (2*A+1)*y - f (2*B)*x - f (2*B+1)*y:=by
  have e:(fun w=>f w*rv x y A B w)=upd1 (upd1 (upd1 (upd1 (fun _=>0) (2*B+1) (-(f (2*B+1)*y))) (2*B) (-(f (2*B)*x))) (2*A+1) (f (2*A+1)*y)) (2*A) (f (2*A)*x):=funext fun w=>by
    unfold rv upd1
    split
    · rename_i h;rw [h]
    · split
      · rename_i h;rw [h]
      · split
        · rename_i h;rw [h];grind
        · split
          · rename_i h;rw [h];grind
          · simp
  rw [e,rs_upd,rs_upd,rs_upd,rs_upd,rs_zero _ _ (fun _ _ _=>rfl),if_pos (by omega),if_pos (by omega),if_pos (by omega),if_pos (by omega)]
  unfold upd1
  rw [if_neg (show ¬ 2*B=2*B+1 by omega),if_neg (show ¬ 2*A+1=2*B by omega),if_neg (show ¬ 2*A+1=2*B+1 by omega),if_neg (show ¬ 2*A=2*A+1 by omega),if_neg (show ¬ 2*A=2*B by omega),if_neg (show ¬ 2*A=2*B+1 by omega)]
  dsimp only
  omega
theorem rv_A (x y:Int) (A B:Nat):rv x y A B (2*A)=x:=by unfold rv;rw [if_pos rfl]
theorem rv_A1 (x y:Int) (A B:Nat):rv x y A B (2*A+1)=y:=by unfold rv;rw [if_neg (by omega),if_pos rfl]
theorem rv_B (x y:Int) {A B:Nat} (h:A≠B):rv x y A B (2*B) = -x:=by unfold rv;rw [if_neg (by omega),if_neg (by omega),if_pos rfl]
theorem rv_B1 (x y:Int) {A B:Nat} (h:A≠B):rv x y A B (2*B+1) = -y:=by unfold rv;rw [if_neg (by omega),if_neg (by omega),if_neg (by omega),if_pos rfl]
theorem rs_shift (f:Nat→Int):∀ k lo,rs f (lo+1) k=rs (fun i=>f (i+1)) lo k
  | 0,_=>rfl
  | k+1,lo=>by rw [rs,rs,rs_shift f k (lo+1)]
theorem dotv_rs:∀ (n:Nat) (a b:Ve),dotv n a b=rs (fun k=>a k*b k) 0 n
  | 0,_,_=>rfl
  | n+1,a,b=>by rw [dotv,rs,rs_shift,dotv_rs n];rfl
theorem rs_snoc (f:Nat→Int):∀ k lo,rs f lo (k+1)=rs f lo k+f (lo+k)
  | 0,lo=>by simp [rs]
  | k+1,lo=>by rw [rs,rs_snoc f k (lo+1),rs,show lo+1+k=lo+(k+1) by omega];omega
theorem psum_rs (v:Ve) (t:Nat):∀ n,psum v t n=rs (fun k=>(if k % 2=t then 1 else 0)*v k) 0 n
  | 0=>rfl
  | n+1=>by
    rw [psum,rs_snoc,psum_rs v t n,Nat.zero_add]
    by_cases h:n % 2=t
    · rw [if_pos h,if_pos h];omega
    · rw [if_neg h,if_neg h];omega
theorem sq16 {x:Int} (h:-4≤x∧x≤4):x*x≤16:=by
  have h1:=mul_self_nn (x - 4)
  have h3:=Int.mul_nonneg (show 0≤x+4 by omega) (show 0≤4 - x by omega)
  have e:(x+4)*(4 - x)=16 - x*x:=by grind
  omega
theorem rv_norm {x y:Int} {A B P:Nat} (hA:A<P) (hB:B<P) (hAB:A≠B) (hx:-4≤x∧x≤4) (hy:-4≤y∧y≤4):dotv (2*P) (rv x y A B) (rv x y A B)≤64:=by
  rw [dotv_rs,rv_sum hA hB hAB,rv_A,rv_A1,rv_B _ _ hAB,rv_B1 _ _ hAB]
  have:=sq16 hx
  have:=sq16 hy
  have e1:x*x+y*y - -x*x - -y*y=2*(x*x)+2*(y*y):=by grind
  omega
theorem rv_psum {x y:Int} {A B P:Nat} (hA:A<P) (hB:B<P) (hAB:A≠B) {t:Nat} (ht:t<2):psum (rv x y A B) t (2*P)=0:=by
  rw [psum_rs,rv_sum hA hB hAB (fun k=>if k % 2=t then 1 else 0)]
  by_cases h:t=0
  · rw [if_pos (by omega),if_neg (by omega),if_pos (by omega),if_neg (by omega)];omega
  · rw [if_neg (by omega),if_pos (by omega),if_neg (by omega),if_pos (by omega)];omega
structure Bars (P nb:Nat) (A B:Nat→Nat) (px py:Nat→Int):Prop where
  P6:P≤6
  ok:∀ k,k<nb→A k<B k∧B k<P
  asc:∀ k,k+1<nb→A k<A (k+1)∨A k=A (k+1)∧B k<B (k+1)
  gx:∀ v,v<P→0≤px v∧px v≤4
  gy:∀ v,v<P→0≤py v∧py v≤4
  ne:∀ k,k<nb→px (A k)≠px (B k)∨py (A k)≠py (B k)
def rg (A B:Nat→Nat) (px py:Nat→Int) (k:Nat):Ve:=rv (px (A k) - px (B k)) (py (A k) - py (B k)) (A k) (B k)
def tr (M:Nat→Ve) (w:Nat):Ve:=fun k=>M k w
section
variable {P nb:Nat} {A B:Nat→Nat} {px py:Nat→Int}
theorem Bars.norm (h:Bars P nb A B px py) {k:Nat} (hk:k<nb):dotv (2*P) (rg A B px py k) (rg A B px py k)≤64:=by
  obtain ⟨h1,h2⟩:=h.ok k hk
  have a1:=h.gx (A k) (by omega)
  have a2:=h.gx (B k) h2
  have a3:=h.gy (A k) (by omega)
  have a4:=h.gy (B k) h2
  exact rv_norm (by omega) h2 (by omega) (by omega) (by omega)
theorem Bars.sums (h:Bars P nb A B px py) {k:Nat} (hk:k<nb) {t:Nat} (ht:t<2):psum (rg A B px py k) t (2*P)=0:=by
  obtain ⟨h1,h2⟩:=h.ok k hk
  exact rv_psum (by omega) h2 (by omega) ht
theorem Bars.lt (h:Bars P nb A B px py):∀ d k,k+(d+1)<nb→A k<A (k+(d+1))∨A k=A (k+(d+1))∧B k<B (k+(d+1))
  | 0,k,hk=>h.asc k hk
  | d+1,k,hk=>by
    have h1:=h.lt d k (by omega)
    have h2:=h.asc (k+(d+1)) (by omega)
    rw [show k+(d+1)+1=k+(d+1+1) by omega] at h2
    omega
def inc (A B:Nat→Nat) (v k:Nat):Prop:=A k=v∨B k=v
instance (A B:Nat→Nat) (v k:Nat):Decidable (inc A B v k):=by unfold inc;exact inferInstance
def cnt (A B:Nat→Nat) (v:Nat):Nat→Nat
  | 0=>0
  | k+1=>cnt A B v k+if inc A B v k then 1 else 0
theorem Bars.red (h:Bars P nb A B px py) (c:Nat) (hc:c≤2*P) :
    ROK (2*P) nb 10 64 (fun c r M=>r≤c∧(∀ i,r≤i→i<nb→∀ k,k<c→M i k=0)∧∀ i,i<nb→∀ t,t<2→psum (M i) t (2*P)=0) c (rrun nb (rini (rg A B px py)) c) :=
  rrun_ok (tame_rows (by have:=h.P6;omega) (by omega)) (by decide) (fun i hi=>h.norm hi) ⟨Nat.le_refl _,fun i _ _ k hk=>absurd hk (Nat.not_lt_zero _),fun i hi t ht=>h.sums hi ht⟩ c hc
end
theorem big64:(64:Int) ^ (2*10)≤2 ^ 124:=by decide
end Go.Proofs.YtkkjoghiigiokaaGreat.Had
namespace Go.Proofs.YtkkjoghiigiokaaGreat.Mach
open Go
set_option linter.unusedVariables false
set_option linter.unusedSimpArgs false
def GcS (x y:Int):St:=⟨[.p (.int .i64 x),.p (.int .i64 y)]++List.replicate 28 anyA,[],0⟩
def PvS (n:Nat) (v:Nat→Int) (g:Int) (i:Nat):St:=⟨[inD n v,.p .any,.p .any,.p (.int .i64 g),.p (.int .i64 i)]++List.replicate 63 anyA,[],0⟩
def PfS (n:Nat) (v:Nat→Int) (g f:Int) (i:Nat):St:=⟨[inD n v,.p .any,.p .any,.p (.int .i64 g),.p .any,.p (.int .i64 f),.p (.int .i64 i)]++List.replicate 61 anyA,[],0⟩
def PdS (n:Nat) (v:Nat→Int) (s:Int) (i:Nat) (h:Nat→Int):St:=⟨[inD n v,.p .any,.p .any,.p (.int .i64 s),.p .any,.p .any,.p .any,.ar 1 0 0 i,.p (.int .i64 i)]++List.replicate 59 anyA,[(0,iOb i h)],1⟩
theorem gsz (a b:Int) :
    pieceOb Tryz.prog 0 [rg 1,rm [(1,oc [] (.p (.bool true))),(3,oc [] (.p (.bool true)))] 2,.dec false,rg 5,rg 5,.head] [.code (bodyOf Tryz.f354)] (start Tryz.f354 [] 0 [.p (.int .i64 a),.p (.int .i64 b)]) [] 1 (GcS (a.natAbs:Int) (b.natAbs:Int)) =
    some (zf42,[Con Tryz.prog 167 0 [] [.p (.int .i64 a),.p (.int .i64 (-9000000000000000000)),.p (.int .i64 9000000000000000000)] [] (.p (.bool true)),(AG (!!true)),(((!!true)=true)→ Con Tryz.prog 167 0 [] [.p (.int .i64 b),.p (.int .i64 (-9000000000000000000)),.p (.int .i64 9000000000000000000)] [] (.p (.bool true))),(AG (!!true)),(((!true)=false)→ ((!!true)=true)),((bif !true then true else !true)=false),(ZLo (0 - a)),(ZHi (0 - a)),(ZLo (0 - b)),(ZHi (0 - b)),(((if true=true then if 0 - a>a then 0 - a else a else if 0 - a<a then 0 - a else a):Int)=(↑a.natAbs:Int)),(((if true=true then if 0 - b>b then 0 - b else b else if 0 - b<b then 0 - b else b):Int)=(↑b.natAbs:Int))]):=by kernel_rfl
theorem gst (x y:Int) :
    pieceOb Tryz.prog 0 [rg 2,.dec true,rg 4,rg 2,rg 2,.head] zf42 (GcS x y) [] 1 (GcS y (x % y)) =
    some (zf42,[((decide (y>0))=true),(IL 0 x),(IT 0 y),(AI y),(AI ((x % y)))]):=by kernel_rfl
theorem gse (x y:Int) :
    pathOb Tryz.prog Tryz.f354 0 [rg 2,.dec false,rg 2] zf42 (GcS x y) [] 1 [] (.p (.int .i64 x)) =
    some [((decide (y>0))=false),(AI x)]:=by kernel_rfl
theorem clR (n:Nat) (v r:Nat→Int) :
    pathOb Tryz.prog Tryz.f313 0 [rg 1,rm [(1,oc [(0,iOb n r)] (.ar 1 0 0 n))] 1] [.code (bodyOf Tryz.f313)] (start Tryz.f313 [] 0 [inD n v]) [64] 1 [(0,iOb n r)] (.ar 1 0 0 n) =
    some [Con Tryz.prog 353 0 [] [.p (.seq true 1 n (fun i=>[.int .i64 (v i)]))] [(0,⟨false,1,n,(fun i=>[.p (.int .i64 (r i))])⟩)] (.ar 1 0 0 n),(AN 0),(AN n),(AN 1),(NL n n),(AA n (fun i=>[.p (.int .i64 (r i))])),(AE n)]:=by kernel_rfl
theorem psz (n:Nat) (v:Nat→Int) :
    pieceOb Tryz.prog 0 [rg 1,rg 1,rg 1,.head] [.code (bodyOf Tryz.f353)] (start Tryz.f353 [] 0 [inD n v]) [] 1 (PvS n v 0 0) =
    some (zf62,[(AN n),(AP n (fun i=>[.int .i64 (v i)])),(AI 0),((0:Int)=(↑0:Int))]):=by kernel_rfl
theorem pst (n:Nat) (v:Nat→Int) (g g':Int) (i:Nat) :
    pieceOb Tryz.prog 0 [rg 4,.dec true,rm [(4,oc [] (.p (.bool true)))] 1,.dec false,rm [(5,oc [] (.p (.int .i64 g')))] 1,rg 3,.head] zf62 (PvS n v g i) [] 1 (PvS n v g' (i+1)) =
    some (zf62,[((decide ((↑i:Int)<(↑n:Int)))=true),(IL 0 (↑i:Int)),(IT (↑i:Int) (↑n:Int)),Con Tryz.prog 167 0 [] [.p (.int .i64 (v i)),.p (.int .i64 (-9000000000000000000)),.p (.int .i64 9000000000000000000)] [] (.p (.bool true)),((!true)=false),(IL 0 (↑i:Int)),(IT (↑i:Int) (↑n:Int)),Con Tryz.prog 354 0 [] [.p (.int .i64 g),.p (.int .i64 (v i))] [] (.p (.int .i64 g')),(ZLo ((↑i:Int)+1)),(ZHi ((↑i:Int)+1)),(AN n),(AP n (fun i_1=>[.int .i64 (v i_1)])),(AI (g')),((((↑i:Int)+1):Int)=(↑(i+1):Int))]):=by kernel_rfl
theorem ps0 (n:Nat) (v r:Nat→Int) (g:Int) (i:Nat) :
    pathOb Tryz.prog Tryz.f353 0 [rg 4,.dec false,rg 2,.dec true,rg 4] zf62 (PvS n v g i) [256] 1 [(0,iOb n r)] (.ar 1 0 0 n) =
    some [((decide ((↑i:Int)<(↑n:Int)))=false),((g==0)=true),(NL 0 0),(NL ((0+n)*8) 140737488355328),(NL (0+n) 9223372036854775807),(AN 0),(((0+n):Nat)=n),(AN 1),(NL n (0+n)),(∀ i_1:Nat,(((i_1:Nat)<n)→(All []∧(([.p (.int .i64 (v i_1))]:List AV)=[.p (.int .i64 (r i_1))])))),(AE n)]:=by kernel_rfl
theorem ps1 (n:Nat) (v:Nat→Int) (g:Int) (i:Nat) :
    pieceOb Tryz.prog 0 [rg 4,.dec false,rg 2,.dec false,rg 1,rg 1,.head] zf62 (PvS n v g i) [] 1 (PfS n v g 0 0) =
    some (zf33,[((decide ((↑i:Int)<(↑n:Int)))=false),((g==0)=false),(AN n),(AP n (fun i_1=>[.int .i64 (v i_1)])),(AI g),(AI 0),((0:Int)=(↑0:Int))]):=by kernel_rfl
theorem psf (n:Nat) (v:Nat→Int) (g f:Int) (i:Nat) :
    pieceOb Tryz.prog 0 [rg 4,.dec true,rg 2,.dec false,rg 3,.head] zf33 (PfS n v g f i) [] 1 (PfS n v g f (i+1)) =
    some (zf33,[((decide ((↑i:Int)<(↑n:Int)))=true),((f==0)=false),(ZLo ((↑i:Int)+1)),(ZHi ((↑i:Int)+1)),(AN n),(AP n (fun i_1=>[.int .i64 (v i_1)])),(AI g),(AI f),((((↑i:Int)+1):Int)=(↑(i+1):Int))]):=by kernel_rfl
theorem psg (n:Nat) (v:Nat→Int) (g f:Int) (i:Nat) :
    pieceOb Tryz.prog 0 [rg 4,.dec true,rg 2,.dec true,rg 5,rg 3,.head] zf33 (PfS n v g f i) [] 1 (PfS n v g (v i) (i+1)) =
    some (zf33,[((decide ((↑i:Int)<(↑n:Int)))=true),((f==0)=true),(IL 0 (↑i:Int)),(IT (↑i:Int) (↑n:Int)),(ZLo ((↑i:Int)+1)),(ZHi ((↑i:Int)+1)),(AN n),(AP n (fun i_1=>[.int .i64 (v i_1)])),(AI g),(AI ((v i))),((((↑i:Int)+1):Int)=(↑(i+1):Int))]):=by kernel_rfl
theorem ps2 (n:Nat) (v h:Nat→Int) (g f:Int) (i:Nat) :
    pieceOb Tryz.prog 0 [rg 4,.dec false,rg 2,.dec true,rg 3,rg 2,rg 1,.head] zf33 (PfS n v g f i) [288] 1 (PdS n v (-g) 0 h) =
    some (zf27,[((decide ((↑i:Int)<(↑n:Int)))=false),((decide (f<0))=true),(ZLo (0 - g)),(ZHi (0 - g)),(AN n),(AP n (fun i_1=>[.int .i64 (v i_1)])),(((0 - g):Int)=(-g)),(AN 0),(AN 0),((0:Int)=(↑0:Int)),(AN 1),(NL 0 0),(∀ i_1:Nat,(((i_1:Nat)<0)→(All []∧(([.p (.int .i64 0)]:List AV)=[.p (.int .i64 (h i_1))]))))]):=by kernel_rfl
theorem ps3 (n:Nat) (v h:Nat→Int) (g f:Int) (i:Nat) :
    pieceOb Tryz.prog 0 [rg 4,.dec false,rg 2,.dec false,rg 2,rg 1,.head] zf33 (PfS n v g f i) [192] 1 (PdS n v g 0 h) =
    some (zf27,[((decide ((↑i:Int)<(↑n:Int)))=false),((decide (f<0))=false),(AN n),(AP n (fun i_1=>[.int .i64 (v i_1)])),(AI g),(AN 0),(AN 0),((0:Int)=(↑0:Int)),(AN 1),(NL 0 0),(∀ i_1:Nat,(((i_1:Nat)<0)→(All []∧(([.p (.int .i64 0)]:List AV)=[.p (.int .i64 (h i_1))]))))]):=by kernel_rfl
theorem psd (n:Nat) (v:Nat→Int) (s:Int) (i:Nat) (h h':Nat→Int) :
    pieceOb Tryz.prog 0 [rg 4,.dec true,rm [(6,oF)] 3,rg 3,.head] zf27 (PdS n v s i h) [385] 1 (PdS n v s (i+1) h') =
    some (zf27,[((decide ((↑i:Int)<(↑n:Int)))=true),(IL 0 (↑i:Int)),(IT (↑i:Int) (↑n:Int)),((s:Int)≠0),(NL 1 1),(NL i i),(NL ((i+1)*8) 140737488355328),(NL (i+1) 9223372036854775807),(ZLo ((↑i:Int)+1)),(ZHi ((↑i:Int)+1)),(AN n),(AP n (fun i_1=>[.int .i64 (v i_1)])),(AI s),(AN 0),(AN ((i+1))),((((↑i:Int)+1):Int)=(↑(i+1):Int)),(AN 1),(NL (i+1) (i+1)),(∀ i_1:Nat,(((i_1:Nat)<(i+1))→(All (cvtL false [(385,⟨false,1,(i+1),(fun i_2=>(if (i_2<i) then [.p (.int .i64 (h i_2))] else [.p (.int .i64 (IntKind.i64.wrap ((v i).tdiv s)))]))⟩),(353,⟨false,1,1,(fun i_2=>[.p (.int .i64 (IntKind.i64.wrap ((v i).tdiv s)))])⟩)] [385] 1 (if (i_1<i) then [.p (.int .i64 (h i_1))] else [.p (.int .i64 (IntKind.i64.wrap ((v i).tdiv s)))])).2∧(((cvtL false [(385,⟨false,1,(i+1),(fun i_2=>(if (i_2<i) then [.p (.int .i64 (h i_2))] else [.p (.int .i64 (IntKind.i64.wrap ((v i).tdiv s)))]))⟩),(353,⟨false,1,1,(fun i_2=>[.p (.int .i64 (IntKind.i64.wrap ((v i).tdiv s)))])⟩)] [385] 1 (if (i_1<i) then [.p (.int .i64 (h i_1))] else [.p (.int .i64 (IntKind.i64.wrap ((v i).tdiv s)))])).1:List AV)=[.p (.int .i64 (h' i_1))]))))]):=by kernel_rfl
theorem pse (n:Nat) (v:Nat→Int) (s:Int) (i:Nat) (h:Nat→Int) :
    pathOb Tryz.prog Tryz.f353 0 [rg 4,.dec false,rg 2] zf27 (PdS n v s i h) [0] 1 [(0,iOb i h)] (.ar 1 0 0 i) =
    some [((decide ((↑i:Int)<(↑n:Int)))=false),(AN 0),(AN i),(AN 1),(NL i i),(AA i (fun i_1=>[.p (.int .i64 (h i_1))])),(AE i)]:=by kernel_rfl
theorem con_l1InG {x:Int} (h:x*x≤2 ^ 124):Con Tryz.prog 167 0 [] [.p (.int .i64 x),.p (.int .i64 (-9000000000000000000)),.p (.int .i64 9000000000000000000)] [] (.p (.bool true)):=by
  have hb:=Had.sq_le (y:=2 ^ 62) (by decide) h
  have:=con_l1In x (-9000000000000000000) 9000000000000000000
  rwa [show inB x (-9000000000000000000) 9000000000000000000=true by simp [inB];omega] at this
end Go.Proofs.YtkkjoghiigiokaaGreat.Mach
namespace Go.Proofs.YtkkjoghiigiokaaGreat.Mach
open Go
set_option linter.unusedVariables false
set_option linter.unusedSimpArgs false
theorem nat_sq {x:Int} (h:x*x≤2 ^ 124):x.natAbs≤2 ^ 62:=by
  have:=Had.sq_le (y:=2 ^ 62) (by decide) h
  omega
theorem sq_nat {x:Nat} (h:x≤2 ^ 62):(x:Int)*(x:Int)≤2 ^ 124:=by
  have:=Int.mul_le_mul (show (x:Int)≤2 ^ 62 by omega) (show (x:Int)≤2 ^ 62 by omega) (by omega) (by omega)
  exact this
theorem gcd_step (x y:Nat):Nat.gcd x y=Nat.gcd y (x % y):=by rw [Nat.gcd_comm,Nat.gcd_rec,Nat.gcd_comm]
theorem con_Gcd_s {a b:Int} (ha:a*a≤2 ^ 124) (hb:b*b≤2 ^ 124):Con Tryz.prog 354 0 [] [.p (.int .i64 a),.p (.int .i64 b)] [] (.p (.int .i64 (Int.gcd a b:Nat))):=by
  have c1:=con_l1InG ha
  have c2:=con_l1InG hb
  have na:=nat_sq ha
  have nb:=nat_sq hb
  refine csZ Tryz.func354 (fun c hc=>?_)
  have lo:∀ m (x y:Nat),y≤m→x≤2 ^ 62→y≤2 ^ 62→Nat.gcd x y=Int.gcd a b→Run Tryz.prog c 354 zf42 (GcS x y) (Post c [] (.p (.int .i64 (Int.gcd a b:Nat)))):=by
    intro m
    induction m with
    | zero =>
      intro x y hy hx _ hg
      obtain rfl:y=0:=by omega
      have e:x=Int.gcd a b:=by rw [← hg,Nat.gcd_zero_right]
      rw [← e]
      refine pkZ Tryz.func354 hc (gse x (0:Nat)) ?_
      repeat' (first | exact aN | apply aI)
      all_goals (first | omega | rfl | (intros;first | assumption | exact trivial | rfl) | rfl)
    | succ m ih =>
      intro x y hy hx hyb hg
      by_cases h0:y=0
      · subst h0
        have e:x=Int.gcd a b:=by rw [← hg,Nat.gcd_zero_right]
        rw [← e]
        refine pkZ Tryz.func354 hc (gse x (0:Nat)) ?_
        repeat' (first | exact aN | apply aI)
        all_goals (first | omega | rfl | (intros;first | assumption | exact trivial | rfl) | rfl)
      · have hm:x % y<y:=Nat.mod_lt _ (by omega)
        have hr:=ih y (x % y) (by omega) hyb (by omega) (by rw [← gcd_step];exact hg)
        rw [show ((x % y:Nat):Int)=(x:Int) % (y:Int) from rfl] at hr
        have hd:decide ((y:Int)>0)=true:=decide_eq_true (by omega)
        refine pcZ hc (gst x y) ?_ hr
        repeat' (first | exact aN | apply aI)
        all_goals (first | omega | rfl | (intros;first | assumption | exact trivial | rfl) | (exact hd))
  have hr:=lo _ a.natAbs b.natAbs (Nat.le_refl _) na nb rfl
  refine pcZ hc (gsz a b) ?_ hr
  repeat' (first | exact aN | apply aI)
  all_goals (first | exact aG _ | omega | rfl | (intros;first | assumption | exact trivial | rfl | exact fT ‹_› | ((repeat' (first | assumption | apply anda | apply notf));done)) | (exact c1) | (intros;exact c2) | (intros;rfl) | (simp;done) | (simp only [if_true];split<;>omega))
theorem gcdn_le {v:Nat→Int}:∀ n,(∀ k,k<n→v k*v k≤2 ^ 124)→Had.gcdn v n≤2 ^ 62
  | 0,_=>Nat.zero_le _
  | n+1,h=>by
    have h1:=gcdn_le n (fun k hk=>h k (by omega))
    have h2:=nat_sq (h n (by omega))
    rw [Had.gcdn]
    by_cases h0:(v n).natAbs=0
    · rw [h0,Nat.gcd_zero_right];exact h1
    · exact Nat.le_trans (Nat.gcd_le_right _ (by omega)) h2
theorem tdiv_wrap {s x:Int} (hd:s ∣ x) (h0:s≠0) (h:x*x≤2 ^ 124):IntKind.wrap .i64 (x.tdiv s)=x.tdiv s:=by
  obtain ⟨q,rfl⟩:=hd
  rw [Int.mul_tdiv_cancel_left _ h0]
  have h1:=Int.le_trans (Had.mul_abs_le (x:=q) h0) h
  have:=Had.sq_le (y:=2 ^ 62) (by decide) h1
  exact wrap_in (by simp only [imin];omega) (by simp only [imax];omega)
theorem prm_t {n:Nat} {v:Nat→Int} (h:Had.gcdn v n≠0) (k:Nat):Had.prm n v k=(v k).tdiv (Had.sgc v n):=by unfold Had.prm;rw [if_neg h]
theorem prm_0 {n:Nat} {v:Nat→Int} (h:Had.gcdn v n=0) (k:Nat):Had.prm n v k=v k:=by unfold Had.prm;rw [if_pos h]
theorem con_Prim_s (n:Nat) (v:Nat→Int) (hn:n≤1000) (hv:∀ k,k<n→v k*v k≤2 ^ 124) :
    Con Tryz.prog 353 0 [] [inD n v] [(0,iOb n (Had.prm n v))] (.ar 1 0 0 n):=by
  refine csZ Tryz.func353 (fun c hc=>?_)
  have hg:=gcdn_le n hv
  have l3:∀ d k,k+d=n→Had.gcdn v n≠0→Run Tryz.prog c 353 zf27 (PdS n v (Had.sgc v n) k (Had.prm n v)) (Post c [(0,iOb n (Had.prm n v))] (.ar 1 0 0 n)):=by
    intro d
    induction d with
    | zero =>
      intro k hk h0
      obtain rfl:k=n:=by omega
      have hd:decide ((k:Int)<(k:Int))=false:=decide_eq_false (by omega)
      refine pkZ Tryz.func353 hc (pse k v (Had.sgc v k) k (Had.prm k v)) ?_
      repeat' (first | exact aN | apply aI)
      all_goals (first | exact aA _ _ | exact aE _ | omega | rfl | (intros;first | assumption | exact trivial | rfl) | (exact hd) | (intro t ht;simp [All];done))
    | succ d ih =>
      intro k hk h0
      have hd:decide ((k:Int)<(n:Int))=true:=decide_eq_true (by omega)
      have h1:=tdiv_wrap (Had.sgc_dvd v n (show k<n by omega)) (Had.sgc_0 h0) (hv k (by omega))
      have h3:=Had.sgc_0 h0
      refine pcZ hc (psd n v (Had.sgc v n) k (Had.prm n v) (Had.prm n v)) ?_ (ih (k+1) (by omega) h0)
      repeat' (first | exact aN | apply aI)
      all_goals (first | exact aP _ _ | omega | rfl | (intros;first | assumption | exact trivial | rfl) | (exact hd) | (exact h3) | (intro t ht;rw [h1,← prm_t h0 k];by_cases h':t<k;exact ⟨by simp [h',cvtL,cvt,tg,tru,All],by simp [h',cvtL,cvt,tg,tru]⟩;rw [show t=k by omega];exact ⟨by simp [cvtL,cvt,tg,tru,All],by simp [cvtL,cvt,tg,tru]⟩))
  have l2:∀ d i,i+d=n→Had.gcdn v n≠0→Run Tryz.prog c 353 zf33 (PfS n v (Had.gcdn v n:Nat) (Had.fst0 v i) i) (Post c [(0,iOb n (Had.prm n v))] (.ar 1 0 0 n)):=by
    intro d
    induction d with
    | zero =>
      intro i hi h0
      obtain rfl:i=n:=by omega
      have hd:decide ((i:Int)<(i:Int))=false:=decide_eq_false (by omega)
      have hr:=l3 i 0 (by omega) h0
      by_cases hf:Had.fst0 v i<0
      · have hf':decide (Had.fst0 v i<0)=true:=decide_eq_true hf
        rw [show Had.sgc v i = -((Had.gcdn v i:Nat):Int) by unfold Had.sgc;rw [if_pos hf]] at hr
        refine pcZ hc (ps2 i v (Had.prm i v) (Had.gcdn v i:Nat) (Had.fst0 v i) i) ?_ hr
        repeat' (first | exact aN | apply aI)
        all_goals (first | exact aP _ _ | omega | rfl | (intros;first | assumption | exact trivial | rfl) | (exact hd) | (exact hf') | (intro t ht;exact absurd ht (Nat.not_lt_zero _)) | (intro t ht;simp [All];done) | (simp only [All];first | exact aP _ _ | omega | rfl | (intros;first | assumption | exact trivial | rfl) | (exact hd) | (exact hf') | (intro t ht;exact absurd ht (Nat.not_lt_zero _)) | (intro t ht;simp [All];done)))
      · have hf':decide (Had.fst0 v i<0)=false:=decide_eq_false hf
        rw [show Had.sgc v i=((Had.gcdn v i:Nat):Int) by unfold Had.sgc;rw [if_neg hf]] at hr
        refine pcZ hc (ps3 i v (Had.prm i v) (Had.gcdn v i:Nat) (Had.fst0 v i) i) ?_ hr
        repeat' (first | exact aN | apply aI)
        all_goals (first | exact aP _ _ | omega | rfl | (intros;first | assumption | exact trivial | rfl) | (exact hd) | (exact hf') | (intro t ht;simp [All];done) | (simp only [All];first | exact aP _ _ | omega | rfl | (intros;first | assumption | exact trivial | rfl) | (exact hd) | (exact hf') | (intro t ht;simp [All];done)))
    | succ d ih =>
      intro i hi h0
      have hd:decide ((i:Int)<(n:Int))=true:=decide_eq_true (by omega)
      have hr:=ih (i+1) (by omega) h0
      by_cases hf:Had.fst0 v i=0
      · have hf':(Had.fst0 v i==0)=true:=by simp [hf]
        rw [show Had.fst0 v (i+1)=v i by rw [Had.fst0,if_pos hf]] at hr
        refine pcZ hc (psg n v (Had.gcdn v n:Nat) (Had.fst0 v i) i) ?_ hr
        repeat' (first | exact aN | apply aI)
        all_goals (first | exact aP _ _ | omega | rfl | (intros;first | assumption | exact trivial | rfl) | (exact hd) | (exact hf') | (intro t ht;simp [All];done))
      · have hf':(Had.fst0 v i==0)=false:=by simp [hf]
        rw [show Had.fst0 v (i+1)=Had.fst0 v i by rw [Had.fst0,if_neg hf]] at hr
        refine pcZ hc (psf n v (Had.gcdn v n:Nat) (Had.fst0 v i) i) ?_ hr
        repeat' (first | exact aN | apply aI)
        all_goals (first | exact aP _ _ | omega | rfl | (intros;first | assumption | exact trivial | rfl) | (exact hd) | (exact hf') | (intro t ht;simp [All];done))
  have l1:∀ d i,i+d=n→Run Tryz.prog c 353 zf62 (PvS n v (Had.gcdn v i:Nat) i) (Post c [(0,iOb n (Had.prm n v))] (.ar 1 0 0 n)):=by
    intro d
    induction d with
    | zero =>
      intro i hi
      obtain rfl:i=n:=by omega
      have hd:decide ((i:Int)<(i:Int))=false:=decide_eq_false (by omega)
      by_cases h0:Had.gcdn v i=0
      · have hz:(((Had.gcdn v i:Nat):Int)==0)=true:=by rw [h0];rfl
        refine pkZ Tryz.func353 hc (ps0 i v (Had.prm i v) (Had.gcdn v i:Nat) i) ?_
        repeat' (first | exact aN | apply aI)
        all_goals (first | exact aE _ | omega | rfl | (intros;first | assumption | exact trivial | rfl) | (exact hd) | (exact hz) | (intro t ht;refine ⟨True.intro,?_⟩;rw [prm_0 h0]) | (intro t ht;simp [All];done) | (simp only [All];first | exact aE _ | omega | rfl | (intros;first | assumption | exact trivial | rfl) | (exact hd) | (exact hz) | (intro t ht;refine ⟨True.intro,?_⟩;rw [prm_0 h0]) | (intro t ht;simp [All];done)))
      · have hz:(((Had.gcdn v i:Nat):Int)==0)=false:=by simp;omega
        refine pcZ hc (ps1 i v (Had.gcdn v i:Nat) i) ?_ (l2 i 0 (by omega) h0)
        repeat' (first | exact aN | apply aI)
        all_goals (first | exact aP _ _ | omega | rfl | (intros;first | assumption | exact trivial | rfl) | (exact hd) | (exact hz) | (intro t ht;simp [All];done))
    | succ d ih =>
      intro i hi
      have hd:decide ((i:Int)<(n:Int))=true:=decide_eq_true (by omega)
      have cg:=con_l1InG (hv i (by omega))
      have cd:=con_Gcd_s (a:=(Had.gcdn v i:Nat)) (b:=v i) (sq_nat (gcdn_le i (fun k hk=>hv k (by omega)))) (hv i (by omega))
      rw [show Int.gcd ((Had.gcdn v i:Nat):Int) (v i)=Had.gcdn v (i+1) from rfl] at cd
      refine pcZ hc (pst n v (Had.gcdn v i:Nat) (Had.gcdn v (i+1):Nat) i) ?_ (ih (i+1) (by omega))
      repeat' (first | exact aN | apply aI)
      all_goals (first | exact aP _ _ | omega | rfl | (intros;first | assumption | exact trivial | rfl) | (exact hd) | (exact cg) | (exact cd) | (intro t ht;simp [All];done))
  refine pcZ hc (psz n v) ?_ (l1 n 0 (by omega))
  repeat' (first | exact aN | apply aI)
  all_goals (first | exact aP _ _ | omega | rfl | (intros;first | assumption | exact trivial | rfl) | (intro t ht;simp [All];done))
theorem con_Clean (n:Nat) (v:Nat→Int) (hn:n≤1000) (hv:∀ k,k<n→v k*v k≤2 ^ 124) :
    Con Tryz.prog 313 0 [] [inD n v] [(0,iOb n (Had.prm n v))] (.ar 1 0 0 n):=by
  have h:=con_Prim_s n v hn hv
  refine csZ Tryz.func313 (fun c hc=>?_)
  refine pkZ Tryz.func313 hc (clR n v (Had.prm n v)) ?_
  repeat' (first | exact aN | apply aI)
  all_goals (first | exact aA _ _ | exact aE _ | omega | rfl | (intros;first | assumption | exact trivial | rfl) | (exact h) | (intro t ht;simp [All];done))
end Go.Proofs.YtkkjoghiigiokaaGreat.Mach
