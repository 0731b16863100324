/- What the law Rg needs, part 3 of 3: the abstract machine and the contracts of the functions. Conditions: as each theorem says. -/
import Derived.Test.YtffnfeefjdmifaaRgP2
namespace Go.Proofs.Ytffnfeefjdmifaa.Mach
open Go
set_option linter.unusedVariables false
set_option linter.unusedSimpArgs false
def aft (a b:T_Bar):Bool:=bif decide (a.1<b.1) then true else bif a.1==b.1 then decide (a.2.1≤b.2.1) else false
def cmpI (x y:Int):Int:=if x<y then -1 else if x>y then 1 else 0
def cmpB (a b:T_Bar):Int:=if cmpI a.1 b.1=0 then cmpI a.2.1 b.2.1 else cmpI a.1 b.1
def badB (N:Int) (g:Nat→T_Bar) (k:Nat):Bool :=
  bif bif bif decide ((g k).1<0) then true else decide ((g k).1≥(g k).2.1) then true else decide ((g k).2.1≥N) then true
    else bif decide ((k:Int)>0) then !aft (g ((k:Int) - 1).toNat) (g k) else false
def goodB (N:Int) (g:Nat→T_Bar):Nat→Bool
  | 0=>true
  | k+1=>goodB N g k&&!badB N g k
def isGraphF (v:T_Graph):Bool:=if inB v.1 1 8=true∧v.2.1.1≤24 then goodB v.1 v.2.1.2 v.2.1.1 else false
def barA (a:T_Bar):AV:=.agg [.p (.int .i64 a.1),.p (.int .i64 a.2.1)]
def graphL (v:T_BarS):AV:=.p (.seq true 2 v.1 (fun i=>[.int .i64 (v.2 i).1,.int .i64 (v.2 i).2.1]))
def graphA (v:T_Graph):AV:=.agg [.p (.int .i64 v.1),graphL v.2.1]
def boxG (v:T_Graph):Ob:=⟨true,2,1,fun i=>[.p (.int .i64 v.1),graphL v.2.1]⟩
def S48 (v:T_Graph) (k:Nat):St :=
  ⟨[graphA v,.pt 2 0 0 0,.p .any,.p (.int .i64 k)]++List.replicate 55 anyA,[(0,boxG v)],1⟩
def S51 (v:T_Graph) (k:Nat):St :=
  ⟨[graphA v,.pt 2 0 0 0]++List.replicate 14 anyA++[graphL v.2.1,.p (.int .i64 v.2.1.1),.p (.int .i64 k)]++List.replicate 37 anyA,[(0,boxG v)],1⟩
theorem p57 (a b:T_Bar) :
    pathOb Try.prog Try.f141 0 [rg 3,rg 20] [.code (bodyOf Try.f141)] (start Try.f141 [] 0 [barA a,barA b]) [] 1 [] (.p (.bool (aft a b))) =
    some [(NT 0 1),(NT 0 1),(AG (!decide (a.1<b.1))),(((!decide (a.1<b.1))=true)→(NT 0 1)),(AG (!decide (a.1<b.1))),(((!decide (a.1<b.1))=true)→(NT 0 1)),(AG (!decide (a.1<b.1))),(AG (!decide (a.1<b.1))),(AG (!decide (a.1<b.1))),(AG (!decide (a.1<b.1)&&a.1==b.1)),(((!decide (a.1<b.1)&&a.1==b.1)=true)→(NT 0 1)),(AG (!decide (a.1<b.1)&&a.1==b.1)),(((!decide (a.1<b.1)&&a.1==b.1)=true)→(NT 0 1)),(AG (!decide (a.1<b.1)&&a.1==b.1)),(AG (!decide (a.1<b.1)&&a.1==b.1)),(AG (!decide (a.1<b.1))),(((!decide (a.1<b.1))=true)→(((a.1==b.1)=true)→ ((!decide (a.1<b.1)&&a.1==b.1)=true))),(((decide (a.1<b.1))=false)→ ((!decide (a.1<b.1))=true)),((bif decide (a.1<b.1) then true else bif a.1==b.1 then decide (a.2.1≤b.2.1) else false)=(aft a b))]:=by kernel_rfl
theorem p62a (x y:Int) :
    pathOb Try.prog Try.f152 0 [rg 1,rg 4,.dec true,rg 1] [.code (bodyOf Try.f152)] (start Try.f152 [] 0 [.p (.int .i64 x),.p (.int .i64 y)]) [] 1 [] (.p (.int .i64 (-1))) =
    some [((decide (x<y))=true),(AI ((-1)))]:=by kernel_rfl
theorem p62b (x y:Int) :
    pathOb Try.prog Try.f152 0 [rg 1,rg 4,.dec false,rg 4,.dec true,rg 1] [.code (bodyOf Try.f152)] (start Try.f152 [] 0 [.p (.int .i64 x),.p (.int .i64 y)]) [] 1 [] (.p (.int .i64 1)) =
    some [((decide (x<y))=false),((decide (x>y))=true),(AI 1)]:=by kernel_rfl
theorem p62c (x y:Int) :
    pathOb Try.prog Try.f152 0 [rg 1,rg 4,.dec false,rg 4,.dec false,rg 1] [.code (bodyOf Try.f152)] (start Try.f152 [] 0 [.p (.int .i64 x),.p (.int .i64 y)]) [] 1 [] (.p (.int .i64 0)) =
    some [((decide (x<y))=false),((decide (x>y))=false),(AI 0)]:=by kernel_rfl
theorem p59a (a b:T_Bar) :
    pathOb Try.prog Try.f135 0 [rg 3,rm [(4,oc [] (.p (.int .i64 (cmpI a.1 b.1))))] 1,rg 2,.dec true,rg 2] [.code (bodyOf Try.f135)] (start Try.f135 [] 0 [barA a,barA b]) [] 1 [] (.p (.int .i64 (cmpI a.1 b.1))) =
    some [(NT 0 1),(NT 0 1),Con Try.prog 152 0 [] [.p (.int .i64 a.1),.p (.int .i64 b.1)] [] (.p (.int .i64 (cmpI a.1 b.1))),((cmpI a.1 b.1 != 0)=true),(AI ((cmpI a.1 b.1)))]:=by kernel_rfl
theorem p59b (a b:T_Bar) :
    pathOb Try.prog Try.f135 0 [rg 3,rm [(4,oc [] (.p (.int .i64 (cmpI a.1 b.1))))] 1,rg 2,.dec false,rm [(4,oc [] (.p (.int .i64 (cmpI a.2.1 b.2.1))))] 1] [.code (bodyOf Try.f135)] (start Try.f135 [] 0 [barA a,barA b]) [] 1 [] (.p (.int .i64 (cmpI a.2.1 b.2.1))) =
    some [(NT 0 1),(NT 0 1),Con Try.prog 152 0 [] [.p (.int .i64 a.1),.p (.int .i64 b.1)] [] (.p (.int .i64 (cmpI a.1 b.1))),((cmpI a.1 b.1 != 0)=false),(NT 0 1),(NT 0 1),Con Try.prog 152 0 [] [.p (.int .i64 a.2.1),.p (.int .i64 b.2.1)] [] (.p (.int .i64 (cmpI a.2.1 b.2.1))),(AI ((cmpI a.2.1 b.2.1)))]:=by kernel_rfl
theorem p48z (v:T_Graph) :
    pathOb Try.prog Try.f110 0 [rg 2,rm [(2,oc [] (.p (.bool (inB v.1 1 8))))] 7,.dec true,rg 1] [.code (bodyOf Try.f110)] (start Try.f110 [] 0 [graphA v]) [] 1 [] (.p (.bool false)) =
    some [(NT 0 1),Con Try.prog 37 0 [] [.p (.int .i64 v.1),.p (.int .i64 1),.p (.int .i64 8)] [] (.p (.bool (inB v.1 1 8))),(AG (!!inB v.1 1 8)),(((!!inB v.1 1 8)=true)→(NT 0 1)),(AG (!!inB v.1 1 8)),(AG (!!inB v.1 1 8)),(((!inB v.1 1 8)=false)→ ((!!inB v.1 1 8)=true)),((bif !inB v.1 1 8 then true else decide ((↑v.2.1.1:Int)>24))=true),(false=false)]:=by kernel_rfl
theorem p48a (v:T_Graph) :
    pieceOb Try.prog 0 [rg 2,rm [(2,oc [] (.p (.bool (inB v.1 1 8))))] 7,.dec false,rg 1,.head] [.code (bodyOf Try.f110)] (start Try.f110 [] 0 [graphA v]) [0] 1 (S48 v 0) =
    some (zf27,[(NT 0 1),Con Try.prog 37 0 [] [.p (.int .i64 v.1),.p (.int .i64 1),.p (.int .i64 8)] [] (.p (.bool (inB v.1 1 8))),(AG (!!inB v.1 1 8)),(((!!inB v.1 1 8)=true)→(NT 0 1)),(AG (!!inB v.1 1 8)),(AG (!!inB v.1 1 8)),(((!inB v.1 1 8)=false)→ ((!!inB v.1 1 8)=true)),((bif !inB v.1 1 8 then true else decide ((↑v.2.1.1:Int)>24))=false),(AI v.1),(AN v.2.1.1),(AP v.2.1.1 (fun i=>[.int .i64 ((v.2.1.2 i).1),.int .i64 ((v.2.1.2 i).2.1)])),(AN 0),((0:Int)=(↑0:Int)),((([AV.p (PV.int IntKind.i64 v.1),graphL v.2.1].length):Nat)=2),(NL 1 1),(NL 1 1),(AI v.1),(AN v.2.1.1),(AP v.2.1.1 (fun i=>[.int .i64 ((v.2.1.2 i).1),.int .i64 ((v.2.1.2 i).2.1)]))]):=by kernel_rfl
theorem p48b (v:T_Graph) (k:Nat) :
    pieceOb Try.prog 0 [rg 5,.dec true,rg 7,rm [(28,oc [] (.p (.bool (aft (v.2.1.2 ((k:Int) - 1).toNat) (v.2.1.2 k)))))] 3,.dec false,rg 3,.head] zf27 (S48 v k) [0] 1 (S48 v (k+1)) =
    some (zf27,[(NT 0 1),((decide ((↑k:Int)<(↑v.2.1.1:Int)))=true),(NT 0 1),(IL 0 (↑k:Int)),(IT (↑k:Int) (↑v.2.1.1:Int)),(NT 0 1),((true=true)→ (AN 1)),(NT 0 1),(AG (!decide ((v.2.1.2 (↑k:Int).toNat).1<0))),(((!decide ((v.2.1.2 (↑k:Int).toNat).1<0))=true)→(NT 0 1)),(AG (!decide ((v.2.1.2 (↑k:Int).toNat).1<0))),(((!decide ((v.2.1.2 (↑k:Int).toNat).1<0))=true)→(NT 0 1)),(AG (!decide ((v.2.1.2 (↑k:Int).toNat).1<0))),(AG (!decide ((v.2.1.2 (↑k:Int).toNat).1<0))),(((decide ((v.2.1.2 (↑k:Int).toNat).1<0))=false)→ ((!decide ((v.2.1.2 (↑k:Int).toNat).1<0))=true)),(AG (!bif decide ((v.2.1.2 (↑k:Int).toNat).1<0) then true else decide ((v.2.1.2 (↑k:Int).toNat).1≥(v.2.1.2 (↑k:Int).toNat).2.1))),(((!bif decide ((v.2.1.2 (↑k:Int).toNat).1<0) then true else decide ((v.2.1.2 (↑k:Int).toNat).1≥(v.2.1.2 (↑k:Int).toNat).2.1))=true)→(NT 0 1)),(AG (!bif decide ((v.2.1.2 (↑k:Int).toNat).1<0) then true else decide ((v.2.1.2 (↑k:Int).toNat).1≥(v.2.1.2 (↑k:Int).toNat).2.1))),(((!bif decide ((v.2.1.2 (↑k:Int).toNat).1<0) then true else decide ((v.2.1.2 (↑k:Int).toNat).1≥(v.2.1.2 (↑k:Int).toNat).2.1))=true)→(NT 0 1)),(AG (!bif decide ((v.2.1.2 (↑k:Int).toNat).1<0) then true else decide ((v.2.1.2 (↑k:Int).toNat).1≥(v.2.1.2 (↑k:Int).toNat).2.1))),(AG (!bif decide ((v.2.1.2 (↑k:Int).toNat).1<0) then true else decide ((v.2.1.2 (↑k:Int).toNat).1≥(v.2.1.2 (↑k:Int).toNat).2.1))),(((bif decide ((v.2.1.2 (↑k:Int).toNat).1<0) then true else decide ((v.2.1.2 (↑k:Int).toNat).1≥(v.2.1.2 (↑k:Int).toNat).2.1))=false)→ ((!bif decide ((v.2.1.2 (↑k:Int).toNat).1<0) then true else decide ((v.2.1.2 (↑k:Int).toNat).1≥(v.2.1.2 (↑k:Int).toNat).2.1))=true)),(AG (!bif bif decide ((v.2.1.2 (↑k:Int).toNat).1<0) then true else decide ((v.2.1.2 (↑k:Int).toNat).1≥(v.2.1.2 (↑k:Int).toNat).2.1) then true else decide ((v.2.1.2 (↑k:Int).toNat).2.1≥v.1))),(AG (!bif bif decide ((v.2.1.2 (↑k:Int).toNat).1<0) then true else decide ((v.2.1.2 (↑k:Int).toNat).1≥(v.2.1.2 (↑k:Int).toNat).2.1) then true else decide ((v.2.1.2 (↑k:Int).toNat).2.1≥v.1))),(AG ((!bif bif decide ((v.2.1.2 (↑k:Int).toNat).1<0) then true else decide ((v.2.1.2 (↑k:Int).toNat).1≥(v.2.1.2 (↑k:Int).toNat).2.1) then true else decide ((v.2.1.2 (↑k:Int).toNat).2.1≥v.1))&&decide ((↑k:Int)>0))),((((!bif bif decide ((v.2.1.2 (↑k:Int).toNat).1<0) then true else decide ((v.2.1.2 (↑k:Int).toNat).1≥(v.2.1.2 (↑k:Int).toNat).2.1) then true else decide ((v.2.1.2 (↑k:Int).toNat).2.1≥v.1))&&decide ((↑k:Int)>0))=true)→(NT 0 1)),(AG ((!bif bif decide ((v.2.1.2 (↑k:Int).toNat).1<0) then true else decide ((v.2.1.2 (↑k:Int).toNat).1≥(v.2.1.2 (↑k:Int).toNat).2.1) then true else decide ((v.2.1.2 (↑k:Int).toNat).2.1≥v.1))&&decide ((↑k:Int)>0))),((((!bif bif decide ((v.2.1.2 (↑k:Int).toNat).1<0) then true else decide ((v.2.1.2 (↑k:Int).toNat).1≥(v.2.1.2 (↑k:Int).toNat).2.1) then true else decide ((v.2.1.2 (↑k:Int).toNat).2.1≥v.1))&&decide ((↑k:Int)>0))=true)→(R0 ((↑k:Int) - 1))),((((!bif bif decide ((v.2.1.2 (↑k:Int).toNat).1<0) then true else decide ((v.2.1.2 (↑k:Int).toNat).1≥(v.2.1.2 (↑k:Int).toNat).2.1) then true else decide ((v.2.1.2 (↑k:Int).toNat).2.1≥v.1))&&decide ((↑k:Int)>0))=true)→(R1 ((↑k:Int) - 1))),(AG ((!bif bif decide ((v.2.1.2 (↑k:Int).toNat).1<0) then true else decide ((v.2.1.2 (↑k:Int).toNat).1≥(v.2.1.2 (↑k:Int).toNat).2.1) then true else decide ((v.2.1.2 (↑k:Int).toNat).2.1≥v.1))&&decide ((↑k:Int)>0))),(AG ((!bif bif decide ((v.2.1.2 (↑k:Int).toNat).1<0) then true else decide ((v.2.1.2 (↑k:Int).toNat).1≥(v.2.1.2 (↑k:Int).toNat).2.1) then true else decide ((v.2.1.2 (↑k:Int).toNat).2.1≥v.1))&&decide ((↑k:Int)>0))),((((!bif bif decide ((v.2.1.2 (↑k:Int).toNat).1<0) then true else decide ((v.2.1.2 (↑k:Int).toNat).1≥(v.2.1.2 (↑k:Int).toNat).2.1) then true else decide ((v.2.1.2 (↑k:Int).toNat).2.1≥v.1))&&decide ((↑k:Int)>0))=true)→(IL 0 ((↑k:Int) - 1))),((((!bif bif decide ((v.2.1.2 (↑k:Int).toNat).1<0) then true else decide ((v.2.1.2 (↑k:Int).toNat).1≥(v.2.1.2 (↑k:Int).toNat).2.1) then true else decide ((v.2.1.2 (↑k:Int).toNat).2.1≥v.1))&&decide ((↑k:Int)>0))=true)→(IT ((↑k:Int) - 1) (↑v.2.1.1:Int))),(AG ((!bif bif decide ((v.2.1.2 (↑k:Int).toNat).1<0) then true else decide ((v.2.1.2 (↑k:Int).toNat).1≥(v.2.1.2 (↑k:Int).toNat).2.1) then true else decide ((v.2.1.2 (↑k:Int).toNat).2.1≥v.1))&&decide ((↑k:Int)>0))),((((!bif bif decide ((v.2.1.2 (↑k:Int).toNat).1<0) then true else decide ((v.2.1.2 (↑k:Int).toNat).1≥(v.2.1.2 (↑k:Int).toNat).2.1) then true else decide ((v.2.1.2 (↑k:Int).toNat).2.1≥v.1))&&decide ((↑k:Int)>0))=true)→(NT 0 1)),(AG ((!bif bif decide ((v.2.1.2 (↑k:Int).toNat).1<0) then true else decide ((v.2.1.2 (↑k:Int).toNat).1≥(v.2.1.2 (↑k:Int).toNat).2.1) then true else decide ((v.2.1.2 (↑k:Int).toNat).2.1≥v.1))&&decide ((↑k:Int)>0))),(AG ((!bif bif decide ((v.2.1.2 (↑k:Int).toNat).1<0) then true else decide ((v.2.1.2 (↑k:Int).toNat).1≥(v.2.1.2 (↑k:Int).toNat).2.1) then true else decide ((v.2.1.2 (↑k:Int).toNat).2.1≥v.1))&&decide ((↑k:Int)>0))),((((!bif bif decide ((v.2.1.2 (↑k:Int).toNat).1<0) then true else decide ((v.2.1.2 (↑k:Int).toNat).1≥(v.2.1.2 (↑k:Int).toNat).2.1) then true else decide ((v.2.1.2 (↑k:Int).toNat).2.1≥v.1))&&decide ((↑k:Int)>0))=true)→ Con Try.prog 141 0 [] [(zf46 v k),(zf49 v k)] [] (.p (.bool (aft (v.2.1.2 ((↑k:Int) - 1).toNat) (v.2.1.2 k))))),(AG ((!bif bif decide ((v.2.1.2 (↑k:Int).toNat).1<0) then true else decide ((v.2.1.2 (↑k:Int).toNat).1≥(v.2.1.2 (↑k:Int).toNat).2.1) then true else decide ((v.2.1.2 (↑k:Int).toNat).2.1≥v.1))&&decide ((↑k:Int)>0))),(AG (!bif bif decide ((v.2.1.2 (↑k:Int).toNat).1<0) then true else decide ((v.2.1.2 (↑k:Int).toNat).1≥(v.2.1.2 (↑k:Int).toNat).2.1) then true else decide ((v.2.1.2 (↑k:Int).toNat).2.1≥v.1))),(((!bif bif decide ((v.2.1.2 (↑k:Int).toNat).1<0) then true else decide ((v.2.1.2 (↑k:Int).toNat).1≥(v.2.1.2 (↑k:Int).toNat).2.1) then true else decide ((v.2.1.2 (↑k:Int).toNat).2.1≥v.1))=true)→(((decide ((↑k:Int)>0))=true)→ (((!bif bif decide ((v.2.1.2 (↑k:Int).toNat).1<0) then true else decide ((v.2.1.2 (↑k:Int).toNat).1≥(v.2.1.2 (↑k:Int).toNat).2.1) then true else decide ((v.2.1.2 (↑k:Int).toNat).2.1≥v.1))&&decide ((↑k:Int)>0))=true))),(((bif bif decide ((v.2.1.2 (↑k:Int).toNat).1<0) then true else decide ((v.2.1.2 (↑k:Int).toNat).1≥(v.2.1.2 (↑k:Int).toNat).2.1) then true else decide ((v.2.1.2 (↑k:Int).toNat).2.1≥v.1))=false)→ ((!bif bif decide ((v.2.1.2 (↑k:Int).toNat).1<0) then true else decide ((v.2.1.2 (↑k:Int).toNat).1≥(v.2.1.2 (↑k:Int).toNat).2.1) then true else decide ((v.2.1.2 (↑k:Int).toNat).2.1≥v.1))=true)),((bif bif bif decide ((v.2.1.2 (↑k:Int).toNat).1<0) then true else decide ((v.2.1.2 (↑k:Int).toNat).1≥(v.2.1.2 (↑k:Int).toNat).2.1) then true else decide ((v.2.1.2 (↑k:Int).toNat).2.1≥v.1) then true else bif decide ((↑k:Int)>0) then !aft (v.2.1.2 ((↑k:Int) - 1).toNat) (v.2.1.2 k) else false)=false),(R0 ((↑k:Int)+1)),(R1 ((↑k:Int)+1)),(AI v.1),(AN v.2.1.1),(AP v.2.1.1 (fun i=>[.int .i64 ((v.2.1.2 i).1),.int .i64 ((v.2.1.2 i).2.1)])),(AN 0),((((↑k:Int)+1):Int)=(↑(k+1):Int)),(AN 2),(NL 1 1),(NL 1 1),(AI v.1),(AN v.2.1.1),(AP v.2.1.1 (fun i=>[.int .i64 ((v.2.1.2 i).1),.int .i64 ((v.2.1.2 i).2.1)]))]):=by kernel_rfl
theorem p48c (v:T_Graph) (k:Nat) :
    pathOb Try.prog Try.f110 0 [rg 5,.dec true,rg 7,rm [(28,oc [] (.p (.bool (aft (v.2.1.2 ((k:Int) - 1).toNat) (v.2.1.2 k)))))] 3,.dec true,rg 1] zf27 (S48 v k) [] 1 [] (.p (.bool false)) =
    some [(NT 0 1),((decide ((↑k:Int)<(↑v.2.1.1:Int)))=true),(NT 0 1),(IL 0 (↑k:Int)),(IT (↑k:Int) (↑v.2.1.1:Int)),(NT 0 1),((true=true)→ (AN 1)),(NT 0 1),(AG (!decide ((v.2.1.2 (↑k:Int).toNat).1<0))),(((!decide ((v.2.1.2 (↑k:Int).toNat).1<0))=true)→(NT 0 1)),(AG (!decide ((v.2.1.2 (↑k:Int).toNat).1<0))),(((!decide ((v.2.1.2 (↑k:Int).toNat).1<0))=true)→(NT 0 1)),(AG (!decide ((v.2.1.2 (↑k:Int).toNat).1<0))),(AG (!decide ((v.2.1.2 (↑k:Int).toNat).1<0))),(((decide ((v.2.1.2 (↑k:Int).toNat).1<0))=false)→ ((!decide ((v.2.1.2 (↑k:Int).toNat).1<0))=true)),(AG (!bif decide ((v.2.1.2 (↑k:Int).toNat).1<0) then true else decide ((v.2.1.2 (↑k:Int).toNat).1≥(v.2.1.2 (↑k:Int).toNat).2.1))),(((!bif decide ((v.2.1.2 (↑k:Int).toNat).1<0) then true else decide ((v.2.1.2 (↑k:Int).toNat).1≥(v.2.1.2 (↑k:Int).toNat).2.1))=true)→(NT 0 1)),(AG (!bif decide ((v.2.1.2 (↑k:Int).toNat).1<0) then true else decide ((v.2.1.2 (↑k:Int).toNat).1≥(v.2.1.2 (↑k:Int).toNat).2.1))),(((!bif decide ((v.2.1.2 (↑k:Int).toNat).1<0) then true else decide ((v.2.1.2 (↑k:Int).toNat).1≥(v.2.1.2 (↑k:Int).toNat).2.1))=true)→(NT 0 1)),(AG (!bif decide ((v.2.1.2 (↑k:Int).toNat).1<0) then true else decide ((v.2.1.2 (↑k:Int).toNat).1≥(v.2.1.2 (↑k:Int).toNat).2.1))),(AG (!bif decide ((v.2.1.2 (↑k:Int).toNat).1<0) then true else decide ((v.2.1.2 (↑k:Int).toNat).1≥(v.2.1.2 (↑k:Int).toNat).2.1))),(((bif decide ((v.2.1.2 (↑k:Int).toNat).1<0) then true else decide ((v.2.1.2 (↑k:Int).toNat).1≥(v.2.1.2 (↑k:Int).toNat).2.1))=false)→ ((!bif decide ((v.2.1.2 (↑k:Int).toNat).1<0) then true else decide ((v.2.1.2 (↑k:Int).toNat).1≥(v.2.1.2 (↑k:Int).toNat).2.1))=true)),(AG (!bif bif decide ((v.2.1.2 (↑k:Int).toNat).1<0) then true else decide ((v.2.1.2 (↑k:Int).toNat).1≥(v.2.1.2 (↑k:Int).toNat).2.1) then true else decide ((v.2.1.2 (↑k:Int).toNat).2.1≥v.1))),(AG (!bif bif decide ((v.2.1.2 (↑k:Int).toNat).1<0) then true else decide ((v.2.1.2 (↑k:Int).toNat).1≥(v.2.1.2 (↑k:Int).toNat).2.1) then true else decide ((v.2.1.2 (↑k:Int).toNat).2.1≥v.1))),(AG ((!bif bif decide ((v.2.1.2 (↑k:Int).toNat).1<0) then true else decide ((v.2.1.2 (↑k:Int).toNat).1≥(v.2.1.2 (↑k:Int).toNat).2.1) then true else decide ((v.2.1.2 (↑k:Int).toNat).2.1≥v.1))&&decide ((↑k:Int)>0))),((((!bif bif decide ((v.2.1.2 (↑k:Int).toNat).1<0) then true else decide ((v.2.1.2 (↑k:Int).toNat).1≥(v.2.1.2 (↑k:Int).toNat).2.1) then true else decide ((v.2.1.2 (↑k:Int).toNat).2.1≥v.1))&&decide ((↑k:Int)>0))=true)→(NT 0 1)),(AG ((!bif bif decide ((v.2.1.2 (↑k:Int).toNat).1<0) then true else decide ((v.2.1.2 (↑k:Int).toNat).1≥(v.2.1.2 (↑k:Int).toNat).2.1) then true else decide ((v.2.1.2 (↑k:Int).toNat).2.1≥v.1))&&decide ((↑k:Int)>0))),((((!bif bif decide ((v.2.1.2 (↑k:Int).toNat).1<0) then true else decide ((v.2.1.2 (↑k:Int).toNat).1≥(v.2.1.2 (↑k:Int).toNat).2.1) then true else decide ((v.2.1.2 (↑k:Int).toNat).2.1≥v.1))&&decide ((↑k:Int)>0))=true)→(R0 ((↑k:Int) - 1))),((((!bif bif decide ((v.2.1.2 (↑k:Int).toNat).1<0) then true else decide ((v.2.1.2 (↑k:Int).toNat).1≥(v.2.1.2 (↑k:Int).toNat).2.1) then true else decide ((v.2.1.2 (↑k:Int).toNat).2.1≥v.1))&&decide ((↑k:Int)>0))=true)→(R1 ((↑k:Int) - 1))),(AG ((!bif bif decide ((v.2.1.2 (↑k:Int).toNat).1<0) then true else decide ((v.2.1.2 (↑k:Int).toNat).1≥(v.2.1.2 (↑k:Int).toNat).2.1) then true else decide ((v.2.1.2 (↑k:Int).toNat).2.1≥v.1))&&decide ((↑k:Int)>0))),(AG ((!bif bif decide ((v.2.1.2 (↑k:Int).toNat).1<0) then true else decide ((v.2.1.2 (↑k:Int).toNat).1≥(v.2.1.2 (↑k:Int).toNat).2.1) then true else decide ((v.2.1.2 (↑k:Int).toNat).2.1≥v.1))&&decide ((↑k:Int)>0))),((((!bif bif decide ((v.2.1.2 (↑k:Int).toNat).1<0) then true else decide ((v.2.1.2 (↑k:Int).toNat).1≥(v.2.1.2 (↑k:Int).toNat).2.1) then true else decide ((v.2.1.2 (↑k:Int).toNat).2.1≥v.1))&&decide ((↑k:Int)>0))=true)→(IL 0 ((↑k:Int) - 1))),((((!bif bif decide ((v.2.1.2 (↑k:Int).toNat).1<0) then true else decide ((v.2.1.2 (↑k:Int).toNat).1≥(v.2.1.2 (↑k:Int).toNat).2.1) then true else decide ((v.2.1.2 (↑k:Int).toNat).2.1≥v.1))&&decide ((↑k:Int)>0))=true)→(IT ((↑k:Int) - 1) (↑v.2.1.1:Int))),(AG ((!bif bif decide ((v.2.1.2 (↑k:Int).toNat).1<0) then true else decide ((v.2.1.2 (↑k:Int).toNat).1≥(v.2.1.2 (↑k:Int).toNat).2.1) then true else decide ((v.2.1.2 (↑k:Int).toNat).2.1≥v.1))&&decide ((↑k:Int)>0))),((((!bif bif decide ((v.2.1.2 (↑k:Int).toNat).1<0) then true else decide ((v.2.1.2 (↑k:Int).toNat).1≥(v.2.1.2 (↑k:Int).toNat).2.1) then true else decide ((v.2.1.2 (↑k:Int).toNat).2.1≥v.1))&&decide ((↑k:Int)>0))=true)→(NT 0 1)),(AG ((!bif bif decide ((v.2.1.2 (↑k:Int).toNat).1<0) then true else decide ((v.2.1.2 (↑k:Int).toNat).1≥(v.2.1.2 (↑k:Int).toNat).2.1) then true else decide ((v.2.1.2 (↑k:Int).toNat).2.1≥v.1))&&decide ((↑k:Int)>0))),(AG ((!bif bif decide ((v.2.1.2 (↑k:Int).toNat).1<0) then true else decide ((v.2.1.2 (↑k:Int).toNat).1≥(v.2.1.2 (↑k:Int).toNat).2.1) then true else decide ((v.2.1.2 (↑k:Int).toNat).2.1≥v.1))&&decide ((↑k:Int)>0))),((((!bif bif decide ((v.2.1.2 (↑k:Int).toNat).1<0) then true else decide ((v.2.1.2 (↑k:Int).toNat).1≥(v.2.1.2 (↑k:Int).toNat).2.1) then true else decide ((v.2.1.2 (↑k:Int).toNat).2.1≥v.1))&&decide ((↑k:Int)>0))=true)→ Con Try.prog 141 0 [] [(zf46 v k),(zf49 v k)] [] (.p (.bool (aft (v.2.1.2 ((↑k:Int) - 1).toNat) (v.2.1.2 k))))),(AG ((!bif bif decide ((v.2.1.2 (↑k:Int).toNat).1<0) then true else decide ((v.2.1.2 (↑k:Int).toNat).1≥(v.2.1.2 (↑k:Int).toNat).2.1) then true else decide ((v.2.1.2 (↑k:Int).toNat).2.1≥v.1))&&decide ((↑k:Int)>0))),(AG (!bif bif decide ((v.2.1.2 (↑k:Int).toNat).1<0) then true else decide ((v.2.1.2 (↑k:Int).toNat).1≥(v.2.1.2 (↑k:Int).toNat).2.1) then true else decide ((v.2.1.2 (↑k:Int).toNat).2.1≥v.1))),(((!bif bif decide ((v.2.1.2 (↑k:Int).toNat).1<0) then true else decide ((v.2.1.2 (↑k:Int).toNat).1≥(v.2.1.2 (↑k:Int).toNat).2.1) then true else decide ((v.2.1.2 (↑k:Int).toNat).2.1≥v.1))=true)→(((decide ((↑k:Int)>0))=true)→ (((!bif bif decide ((v.2.1.2 (↑k:Int).toNat).1<0) then true else decide ((v.2.1.2 (↑k:Int).toNat).1≥(v.2.1.2 (↑k:Int).toNat).2.1) then true else decide ((v.2.1.2 (↑k:Int).toNat).2.1≥v.1))&&decide ((↑k:Int)>0))=true))),(((bif bif decide ((v.2.1.2 (↑k:Int).toNat).1<0) then true else decide ((v.2.1.2 (↑k:Int).toNat).1≥(v.2.1.2 (↑k:Int).toNat).2.1) then true else decide ((v.2.1.2 (↑k:Int).toNat).2.1≥v.1))=false)→ ((!bif bif decide ((v.2.1.2 (↑k:Int).toNat).1<0) then true else decide ((v.2.1.2 (↑k:Int).toNat).1≥(v.2.1.2 (↑k:Int).toNat).2.1) then true else decide ((v.2.1.2 (↑k:Int).toNat).2.1≥v.1))=true)),((bif bif bif decide ((v.2.1.2 (↑k:Int).toNat).1<0) then true else decide ((v.2.1.2 (↑k:Int).toNat).1≥(v.2.1.2 (↑k:Int).toNat).2.1) then true else decide ((v.2.1.2 (↑k:Int).toNat).2.1≥v.1) then true else bif decide ((↑k:Int)>0) then !aft (v.2.1.2 ((↑k:Int) - 1).toNat) (v.2.1.2 k) else false)=true),(false=false)]:=by kernel_rfl
theorem p48d (v:T_Graph) (k:Nat) :
    pathOb Try.prog Try.f110 0 [rg 5,.dec false,rg 1] zf27 (S48 v k) [] 1 [] (.p (.bool true)) =
    some [(NT 0 1),((decide ((↑k:Int)<(↑v.2.1.1:Int)))=false),(true=true)]:=by kernel_rfl
theorem p51z (v:T_Graph) :
    pathOb Try.prog Try.f101 0 [rg 2,rm [(2,oc [] (.p (.bool (inB v.1 1 8))))] 7,.dec true,rg 1] [.code (bodyOf Try.f101)] (start Try.f101 [] 0 [graphA v]) [] 1 [] (.p (.bool false)) =
    some [(NT 0 1),Con Try.prog 40 0 [] [.p (.int .i64 v.1),.p (.int .i64 1),.p (.int .i64 8)] [] (.p (.bool (inB v.1 1 8))),(AG (!!inB v.1 1 8)),(((!!inB v.1 1 8)=true)→(NT 0 1)),(AG (!!inB v.1 1 8)),(AG (!!inB v.1 1 8)),(((!inB v.1 1 8)=false)→ ((!!inB v.1 1 8)=true)),((bif !inB v.1 1 8 then true else decide ((↑v.2.1.1:Int)>24))=true),(false=false)]:=by kernel_rfl
theorem p51a (v:T_Graph) :
    pieceOb Try.prog 0 [rg 2,rm [(2,oc [] (.p (.bool (inB v.1 1 8))))] 7,.dec false,rg 4,.head] [.code (bodyOf Try.f101)] (start Try.f101 [] 0 [graphA v]) [0] 1 (S51 v 0) =
    some (zf28,[(NT 0 1),Con Try.prog 40 0 [] [.p (.int .i64 v.1),.p (.int .i64 1),.p (.int .i64 8)] [] (.p (.bool (inB v.1 1 8))),(AG (!!inB v.1 1 8)),(((!!inB v.1 1 8)=true)→(NT 0 1)),(AG (!!inB v.1 1 8)),(AG (!!inB v.1 1 8)),(((!inB v.1 1 8)=false)→ ((!!inB v.1 1 8)=true)),((bif !inB v.1 1 8 then true else decide ((↑v.2.1.1:Int)>24))=false),(NT 0 1),(AI v.1),(AN v.2.1.1),(AP v.2.1.1 (fun i=>[.int .i64 ((v.2.1.2 i).1),.int .i64 ((v.2.1.2 i).2.1)])),(AN 0),(AN v.2.1.1),(AP v.2.1.1 (fun i=>[.int .i64 ((v.2.1.2 i).1),.int .i64 ((v.2.1.2 i).2.1)])),(AI ((↑v.2.1.1:Int))),((0:Int)=(↑0:Int)),((([AV.p (PV.int IntKind.i64 v.1),graphL v.2.1].length):Nat)=2),(NL 1 1),(NL 1 1),(AI v.1),(AN v.2.1.1),(AP v.2.1.1 (fun i=>[.int .i64 ((v.2.1.2 i).1),.int .i64 ((v.2.1.2 i).2.1)]))]):=by kernel_rfl
theorem p51b (v:T_Graph) (k:Nat) :
    pieceOb Try.prog 0 [rg 1,.dec true,rg 6,rm [(28,oc [] (.p (.int .i64 (cmpB (v.2.1.2 ((k:Int) - 1).toNat) (v.2.1.2 k)))))] 3,.dec false,rg 2,.head] zf28 (S51 v k) [0] 1 (S51 v (k+1)) =
    some (zf28,[((decide ((↑k:Int)<(↑v.2.1.1:Int)))=true),(IL 0 (↑k:Int)),(IT (↑k:Int) (↑v.2.1.1:Int)),(NT 0 1),((true=true)→ (AN 1)),(NT 0 1),(AG (!decide ((v.2.1.2 (↑k:Int).toNat).1<0))),(((!decide ((v.2.1.2 (↑k:Int).toNat).1<0))=true)→(NT 0 1)),(AG (!decide ((v.2.1.2 (↑k:Int).toNat).1<0))),(((!decide ((v.2.1.2 (↑k:Int).toNat).1<0))=true)→(NT 0 1)),(AG (!decide ((v.2.1.2 (↑k:Int).toNat).1<0))),(AG (!decide ((v.2.1.2 (↑k:Int).toNat).1<0))),(((decide ((v.2.1.2 (↑k:Int).toNat).1<0))=false)→ ((!decide ((v.2.1.2 (↑k:Int).toNat).1<0))=true)),(AG (!bif decide ((v.2.1.2 (↑k:Int).toNat).1<0) then true else decide ((v.2.1.2 (↑k:Int).toNat).1≥(v.2.1.2 (↑k:Int).toNat).2.1))),(((!bif decide ((v.2.1.2 (↑k:Int).toNat).1<0) then true else decide ((v.2.1.2 (↑k:Int).toNat).1≥(v.2.1.2 (↑k:Int).toNat).2.1))=true)→(NT 0 1)),(AG (!bif decide ((v.2.1.2 (↑k:Int).toNat).1<0) then true else decide ((v.2.1.2 (↑k:Int).toNat).1≥(v.2.1.2 (↑k:Int).toNat).2.1))),(((!bif decide ((v.2.1.2 (↑k:Int).toNat).1<0) then true else decide ((v.2.1.2 (↑k:Int).toNat).1≥(v.2.1.2 (↑k:Int).toNat).2.1))=true)→(NT 0 1)),(AG (!bif decide ((v.2.1.2 (↑k:Int).toNat).1<0) then true else decide ((v.2.1.2 (↑k:Int).toNat).1≥(v.2.1.2 (↑k:Int).toNat).2.1))),(AG (!bif decide ((v.2.1.2 (↑k:Int).toNat).1<0) then true else decide ((v.2.1.2 (↑k:Int).toNat).1≥(v.2.1.2 (↑k:Int).toNat).2.1))),(((bif decide ((v.2.1.2 (↑k:Int).toNat).1<0) then true else decide ((v.2.1.2 (↑k:Int).toNat).1≥(v.2.1.2 (↑k:Int).toNat).2.1))=false)→ ((!bif decide ((v.2.1.2 (↑k:Int).toNat).1<0) then true else decide ((v.2.1.2 (↑k:Int).toNat).1≥(v.2.1.2 (↑k:Int).toNat).2.1))=true)),(AG (!bif bif decide ((v.2.1.2 (↑k:Int).toNat).1<0) then true else decide ((v.2.1.2 (↑k:Int).toNat).1≥(v.2.1.2 (↑k:Int).toNat).2.1) then true else decide ((v.2.1.2 (↑k:Int).toNat).2.1≥v.1))),(AG (!bif bif decide ((v.2.1.2 (↑k:Int).toNat).1<0) then true else decide ((v.2.1.2 (↑k:Int).toNat).1≥(v.2.1.2 (↑k:Int).toNat).2.1) then true else decide ((v.2.1.2 (↑k:Int).toNat).2.1≥v.1))),(AG ((!bif bif decide ((v.2.1.2 (↑k:Int).toNat).1<0) then true else decide ((v.2.1.2 (↑k:Int).toNat).1≥(v.2.1.2 (↑k:Int).toNat).2.1) then true else decide ((v.2.1.2 (↑k:Int).toNat).2.1≥v.1))&&decide ((↑k:Int)>0))),((((!bif bif decide ((v.2.1.2 (↑k:Int).toNat).1<0) then true else decide ((v.2.1.2 (↑k:Int).toNat).1≥(v.2.1.2 (↑k:Int).toNat).2.1) then true else decide ((v.2.1.2 (↑k:Int).toNat).2.1≥v.1))&&decide ((↑k:Int)>0))=true)→(NT 0 1)),(AG ((!bif bif decide ((v.2.1.2 (↑k:Int).toNat).1<0) then true else decide ((v.2.1.2 (↑k:Int).toNat).1≥(v.2.1.2 (↑k:Int).toNat).2.1) then true else decide ((v.2.1.2 (↑k:Int).toNat).2.1≥v.1))&&decide ((↑k:Int)>0))),((((!bif bif decide ((v.2.1.2 (↑k:Int).toNat).1<0) then true else decide ((v.2.1.2 (↑k:Int).toNat).1≥(v.2.1.2 (↑k:Int).toNat).2.1) then true else decide ((v.2.1.2 (↑k:Int).toNat).2.1≥v.1))&&decide ((↑k:Int)>0))=true)→(R0 ((↑k:Int) - 1))),((((!bif bif decide ((v.2.1.2 (↑k:Int).toNat).1<0) then true else decide ((v.2.1.2 (↑k:Int).toNat).1≥(v.2.1.2 (↑k:Int).toNat).2.1) then true else decide ((v.2.1.2 (↑k:Int).toNat).2.1≥v.1))&&decide ((↑k:Int)>0))=true)→(R1 ((↑k:Int) - 1))),(AG ((!bif bif decide ((v.2.1.2 (↑k:Int).toNat).1<0) then true else decide ((v.2.1.2 (↑k:Int).toNat).1≥(v.2.1.2 (↑k:Int).toNat).2.1) then true else decide ((v.2.1.2 (↑k:Int).toNat).2.1≥v.1))&&decide ((↑k:Int)>0))),(AG ((!bif bif decide ((v.2.1.2 (↑k:Int).toNat).1<0) then true else decide ((v.2.1.2 (↑k:Int).toNat).1≥(v.2.1.2 (↑k:Int).toNat).2.1) then true else decide ((v.2.1.2 (↑k:Int).toNat).2.1≥v.1))&&decide ((↑k:Int)>0))),((((!bif bif decide ((v.2.1.2 (↑k:Int).toNat).1<0) then true else decide ((v.2.1.2 (↑k:Int).toNat).1≥(v.2.1.2 (↑k:Int).toNat).2.1) then true else decide ((v.2.1.2 (↑k:Int).toNat).2.1≥v.1))&&decide ((↑k:Int)>0))=true)→(IL 0 ((↑k:Int) - 1))),((((!bif bif decide ((v.2.1.2 (↑k:Int).toNat).1<0) then true else decide ((v.2.1.2 (↑k:Int).toNat).1≥(v.2.1.2 (↑k:Int).toNat).2.1) then true else decide ((v.2.1.2 (↑k:Int).toNat).2.1≥v.1))&&decide ((↑k:Int)>0))=true)→(IT ((↑k:Int) - 1) (↑v.2.1.1:Int))),(AG ((!bif bif decide ((v.2.1.2 (↑k:Int).toNat).1<0) then true else decide ((v.2.1.2 (↑k:Int).toNat).1≥(v.2.1.2 (↑k:Int).toNat).2.1) then true else decide ((v.2.1.2 (↑k:Int).toNat).2.1≥v.1))&&decide ((↑k:Int)>0))),((((!bif bif decide ((v.2.1.2 (↑k:Int).toNat).1<0) then true else decide ((v.2.1.2 (↑k:Int).toNat).1≥(v.2.1.2 (↑k:Int).toNat).2.1) then true else decide ((v.2.1.2 (↑k:Int).toNat).2.1≥v.1))&&decide ((↑k:Int)>0))=true)→(NT 0 1)),(AG ((!bif bif decide ((v.2.1.2 (↑k:Int).toNat).1<0) then true else decide ((v.2.1.2 (↑k:Int).toNat).1≥(v.2.1.2 (↑k:Int).toNat).2.1) then true else decide ((v.2.1.2 (↑k:Int).toNat).2.1≥v.1))&&decide ((↑k:Int)>0))),(AG ((!bif bif decide ((v.2.1.2 (↑k:Int).toNat).1<0) then true else decide ((v.2.1.2 (↑k:Int).toNat).1≥(v.2.1.2 (↑k:Int).toNat).2.1) then true else decide ((v.2.1.2 (↑k:Int).toNat).2.1≥v.1))&&decide ((↑k:Int)>0))),((((!bif bif decide ((v.2.1.2 (↑k:Int).toNat).1<0) then true else decide ((v.2.1.2 (↑k:Int).toNat).1≥(v.2.1.2 (↑k:Int).toNat).2.1) then true else decide ((v.2.1.2 (↑k:Int).toNat).2.1≥v.1))&&decide ((↑k:Int)>0))=true)→ Con Try.prog 135 0 [] [(zf46 v k),(zf49 v k)] [] (.p (.int .i64 (cmpB (v.2.1.2 ((↑k:Int) - 1).toNat) (v.2.1.2 k))))),(AG ((!bif bif decide ((v.2.1.2 (↑k:Int).toNat).1<0) then true else decide ((v.2.1.2 (↑k:Int).toNat).1≥(v.2.1.2 (↑k:Int).toNat).2.1) then true else decide ((v.2.1.2 (↑k:Int).toNat).2.1≥v.1))&&decide ((↑k:Int)>0))),(AG (!bif bif decide ((v.2.1.2 (↑k:Int).toNat).1<0) then true else decide ((v.2.1.2 (↑k:Int).toNat).1≥(v.2.1.2 (↑k:Int).toNat).2.1) then true else decide ((v.2.1.2 (↑k:Int).toNat).2.1≥v.1))),(((!bif bif decide ((v.2.1.2 (↑k:Int).toNat).1<0) then true else decide ((v.2.1.2 (↑k:Int).toNat).1≥(v.2.1.2 (↑k:Int).toNat).2.1) then true else decide ((v.2.1.2 (↑k:Int).toNat).2.1≥v.1))=true)→(((decide ((↑k:Int)>0))=true)→ (((!bif bif decide ((v.2.1.2 (↑k:Int).toNat).1<0) then true else decide ((v.2.1.2 (↑k:Int).toNat).1≥(v.2.1.2 (↑k:Int).toNat).2.1) then true else decide ((v.2.1.2 (↑k:Int).toNat).2.1≥v.1))&&decide ((↑k:Int)>0))=true))),(((bif bif decide ((v.2.1.2 (↑k:Int).toNat).1<0) then true else decide ((v.2.1.2 (↑k:Int).toNat).1≥(v.2.1.2 (↑k:Int).toNat).2.1) then true else decide ((v.2.1.2 (↑k:Int).toNat).2.1≥v.1))=false)→ ((!bif bif decide ((v.2.1.2 (↑k:Int).toNat).1<0) then true else decide ((v.2.1.2 (↑k:Int).toNat).1≥(v.2.1.2 (↑k:Int).toNat).2.1) then true else decide ((v.2.1.2 (↑k:Int).toNat).2.1≥v.1))=true)),((bif bif bif decide ((v.2.1.2 (↑k:Int).toNat).1<0) then true else decide ((v.2.1.2 (↑k:Int).toNat).1≥(v.2.1.2 (↑k:Int).toNat).2.1) then true else decide ((v.2.1.2 (↑k:Int).toNat).2.1≥v.1) then true else bif decide ((↑k:Int)>0) then decide (cmpB (v.2.1.2 ((↑k:Int) - 1).toNat) (v.2.1.2 k)>0) else false)=false),(R0 ((↑k:Int)+1)),(R1 ((↑k:Int)+1)),(AI v.1),(AN v.2.1.1),(AP v.2.1.1 (fun i=>[.int .i64 ((v.2.1.2 i).1),.int .i64 ((v.2.1.2 i).2.1)])),(AN 0),(AN v.2.1.1),(AP v.2.1.1 (fun i=>[.int .i64 ((v.2.1.2 i).1),.int .i64 ((v.2.1.2 i).2.1)])),(AI ((↑v.2.1.1:Int))),((((↑k:Int)+1):Int)=(↑(k+1):Int)),(AN 2),(NL 1 1),(NL 1 1),(AI v.1),(AN v.2.1.1),(AP v.2.1.1 (fun i=>[.int .i64 ((v.2.1.2 i).1),.int .i64 ((v.2.1.2 i).2.1)]))]):=by kernel_rfl
theorem p51c (v:T_Graph) (k:Nat) :
    pathOb Try.prog Try.f101 0 [rg 1,.dec true,rg 6,rm [(28,oc [] (.p (.int .i64 (cmpB (v.2.1.2 ((k:Int) - 1).toNat) (v.2.1.2 k)))))] 3,.dec true,rg 1] zf28 (S51 v k) [] 1 [] (.p (.bool false)) =
    some [((decide ((↑k:Int)<(↑v.2.1.1:Int)))=true),(IL 0 (↑k:Int)),(IT (↑k:Int) (↑v.2.1.1:Int)),(NT 0 1),((true=true)→ (AN 1)),(NT 0 1),(AG (!decide ((v.2.1.2 (↑k:Int).toNat).1<0))),(((!decide ((v.2.1.2 (↑k:Int).toNat).1<0))=true)→(NT 0 1)),(AG (!decide ((v.2.1.2 (↑k:Int).toNat).1<0))),(((!decide ((v.2.1.2 (↑k:Int).toNat).1<0))=true)→(NT 0 1)),(AG (!decide ((v.2.1.2 (↑k:Int).toNat).1<0))),(AG (!decide ((v.2.1.2 (↑k:Int).toNat).1<0))),(((decide ((v.2.1.2 (↑k:Int).toNat).1<0))=false)→ ((!decide ((v.2.1.2 (↑k:Int).toNat).1<0))=true)),(AG (!bif decide ((v.2.1.2 (↑k:Int).toNat).1<0) then true else decide ((v.2.1.2 (↑k:Int).toNat).1≥(v.2.1.2 (↑k:Int).toNat).2.1))),(((!bif decide ((v.2.1.2 (↑k:Int).toNat).1<0) then true else decide ((v.2.1.2 (↑k:Int).toNat).1≥(v.2.1.2 (↑k:Int).toNat).2.1))=true)→(NT 0 1)),(AG (!bif decide ((v.2.1.2 (↑k:Int).toNat).1<0) then true else decide ((v.2.1.2 (↑k:Int).toNat).1≥(v.2.1.2 (↑k:Int).toNat).2.1))),(((!bif decide ((v.2.1.2 (↑k:Int).toNat).1<0) then true else decide ((v.2.1.2 (↑k:Int).toNat).1≥(v.2.1.2 (↑k:Int).toNat).2.1))=true)→(NT 0 1)),(AG (!bif decide ((v.2.1.2 (↑k:Int).toNat).1<0) then true else decide ((v.2.1.2 (↑k:Int).toNat).1≥(v.2.1.2 (↑k:Int).toNat).2.1))),(AG (!bif decide ((v.2.1.2 (↑k:Int).toNat).1<0) then true else decide ((v.2.1.2 (↑k:Int).toNat).1≥(v.2.1.2 (↑k:Int).toNat).2.1))),(((bif decide ((v.2.1.2 (↑k:Int).toNat).1<0) then true else decide ((v.2.1.2 (↑k:Int).toNat).1≥(v.2.1.2 (↑k:Int).toNat).2.1))=false)→ ((!bif decide ((v.2.1.2 (↑k:Int).toNat).1<0) then true else decide ((v.2.1.2 (↑k:Int).toNat).1≥(v.2.1.2 (↑k:Int).toNat).2.1))=true)),(AG (!bif bif decide ((v.2.1.2 (↑k:Int).toNat).1<0) then true else decide ((v.2.1.2 (↑k:Int).toNat).1≥(v.2.1.2 (↑k:Int).toNat).2.1) then true else decide ((v.2.1.2 (↑k:Int).toNat).2.1≥v.1))),(AG (!bif bif decide ((v.2.1.2 (↑k:Int).toNat).1<0) then true else decide ((v.2.1.2 (↑k:Int).toNat).1≥(v.2.1.2 (↑k:Int).toNat).2.1) then true else decide ((v.2.1.2 (↑k:Int).toNat).2.1≥v.1))),(AG ((!bif bif decide ((v.2.1.2 (↑k:Int).toNat).1<0) then true else decide ((v.2.1.2 (↑k:Int).toNat).1≥(v.2.1.2 (↑k:Int).toNat).2.1) then true else decide ((v.2.1.2 (↑k:Int).toNat).2.1≥v.1))&&decide ((↑k:Int)>0))),((((!bif bif decide ((v.2.1.2 (↑k:Int).toNat).1<0) then true else decide ((v.2.1.2 (↑k:Int).toNat).1≥(v.2.1.2 (↑k:Int).toNat).2.1) then true else decide ((v.2.1.2 (↑k:Int).toNat).2.1≥v.1))&&decide ((↑k:Int)>0))=true)→(NT 0 1)),(AG ((!bif bif decide ((v.2.1.2 (↑k:Int).toNat).1<0) then true else decide ((v.2.1.2 (↑k:Int).toNat).1≥(v.2.1.2 (↑k:Int).toNat).2.1) then true else decide ((v.2.1.2 (↑k:Int).toNat).2.1≥v.1))&&decide ((↑k:Int)>0))),((((!bif bif decide ((v.2.1.2 (↑k:Int).toNat).1<0) then true else decide ((v.2.1.2 (↑k:Int).toNat).1≥(v.2.1.2 (↑k:Int).toNat).2.1) then true else decide ((v.2.1.2 (↑k:Int).toNat).2.1≥v.1))&&decide ((↑k:Int)>0))=true)→(R0 ((↑k:Int) - 1))),((((!bif bif decide ((v.2.1.2 (↑k:Int).toNat).1<0) then true else decide ((v.2.1.2 (↑k:Int).toNat).1≥(v.2.1.2 (↑k:Int).toNat).2.1) then true else decide ((v.2.1.2 (↑k:Int).toNat).2.1≥v.1))&&decide ((↑k:Int)>0))=true)→(R1 ((↑k:Int) - 1))),(AG ((!bif bif decide ((v.2.1.2 (↑k:Int).toNat).1<0) then true else decide ((v.2.1.2 (↑k:Int).toNat).1≥(v.2.1.2 (↑k:Int).toNat).2.1) then true else decide ((v.2.1.2 (↑k:Int).toNat).2.1≥v.1))&&decide ((↑k:Int)>0))),(AG ((!bif bif decide ((v.2.1.2 (↑k:Int).toNat).1<0) then true else decide ((v.2.1.2 (↑k:Int).toNat).1≥(v.2.1.2 (↑k:Int).toNat).2.1) then true else decide ((v.2.1.2 (↑k:Int).toNat).2.1≥v.1))&&decide ((↑k:Int)>0))),((((!bif bif decide ((v.2.1.2 (↑k:Int).toNat).1<0) then true else decide ((v.2.1.2 (↑k:Int).toNat).1≥(v.2.1.2 (↑k:Int).toNat).2.1) then true else decide ((v.2.1.2 (↑k:Int).toNat).2.1≥v.1))&&decide ((↑k:Int)>0))=true)→(IL 0 ((↑k:Int) - 1))),((((!bif bif decide ((v.2.1.2 (↑k:Int).toNat).1<0) then true else decide ((v.2.1.2 (↑k:Int).toNat).1≥(v.2.1.2 (↑k:Int).toNat).2.1) then true else decide ((v.2.1.2 (↑k:Int).toNat).2.1≥v.1))&&decide ((↑k:Int)>0))=true)→(IT ((↑k:Int) - 1) (↑v.2.1.1:Int))),(AG ((!bif bif decide ((v.2.1.2 (↑k:Int).toNat).1<0) then true else decide ((v.2.1.2 (↑k:Int).toNat).1≥(v.2.1.2 (↑k:Int).toNat).2.1) then true else decide ((v.2.1.2 (↑k:Int).toNat).2.1≥v.1))&&decide ((↑k:Int)>0))),((((!bif bif decide ((v.2.1.2 (↑k:Int).toNat).1<0) then true else decide ((v.2.1.2 (↑k:Int).toNat).1≥(v.2.1.2 (↑k:Int).toNat).2.1) then true else decide ((v.2.1.2 (↑k:Int).toNat).2.1≥v.1))&&decide ((↑k:Int)>0))=true)→(NT 0 1)),(AG ((!bif bif decide ((v.2.1.2 (↑k:Int).toNat).1<0) then true else decide ((v.2.1.2 (↑k:Int).toNat).1≥(v.2.1.2 (↑k:Int).toNat).2.1) then true else decide ((v.2.1.2 (↑k:Int).toNat).2.1≥v.1))&&decide ((↑k:Int)>0))),(AG ((!bif bif decide ((v.2.1.2 (↑k:Int).toNat).1<0) then true else decide ((v.2.1.2 (↑k:Int).toNat).1≥(v.2.1.2 (↑k:Int).toNat).2.1) then true else decide ((v.2.1.2 (↑k:Int).toNat).2.1≥v.1))&&decide ((↑k:Int)>0))),((((!bif bif decide ((v.2.1.2 (↑k:Int).toNat).1<0) then true else decide ((v.2.1.2 (↑k:Int).toNat).1≥(v.2.1.2 (↑k:Int).toNat).2.1) then true else decide ((v.2.1.2 (↑k:Int).toNat).2.1≥v.1))&&decide ((↑k:Int)>0))=true)→ Con Try.prog 135 0 [] [(zf46 v k),(zf49 v k)] [] (.p (.int .i64 (cmpB (v.2.1.2 ((↑k:Int) - 1).toNat) (v.2.1.2 k))))),(AG ((!bif bif decide ((v.2.1.2 (↑k:Int).toNat).1<0) then true else decide ((v.2.1.2 (↑k:Int).toNat).1≥(v.2.1.2 (↑k:Int).toNat).2.1) then true else decide ((v.2.1.2 (↑k:Int).toNat).2.1≥v.1))&&decide ((↑k:Int)>0))),(AG (!bif bif decide ((v.2.1.2 (↑k:Int).toNat).1<0) then true else decide ((v.2.1.2 (↑k:Int).toNat).1≥(v.2.1.2 (↑k:Int).toNat).2.1) then true else decide ((v.2.1.2 (↑k:Int).toNat).2.1≥v.1))),(((!bif bif decide ((v.2.1.2 (↑k:Int).toNat).1<0) then true else decide ((v.2.1.2 (↑k:Int).toNat).1≥(v.2.1.2 (↑k:Int).toNat).2.1) then true else decide ((v.2.1.2 (↑k:Int).toNat).2.1≥v.1))=true)→(((decide ((↑k:Int)>0))=true)→ (((!bif bif decide ((v.2.1.2 (↑k:Int).toNat).1<0) then true else decide ((v.2.1.2 (↑k:Int).toNat).1≥(v.2.1.2 (↑k:Int).toNat).2.1) then true else decide ((v.2.1.2 (↑k:Int).toNat).2.1≥v.1))&&decide ((↑k:Int)>0))=true))),(((bif bif decide ((v.2.1.2 (↑k:Int).toNat).1<0) then true else decide ((v.2.1.2 (↑k:Int).toNat).1≥(v.2.1.2 (↑k:Int).toNat).2.1) then true else decide ((v.2.1.2 (↑k:Int).toNat).2.1≥v.1))=false)→ ((!bif bif decide ((v.2.1.2 (↑k:Int).toNat).1<0) then true else decide ((v.2.1.2 (↑k:Int).toNat).1≥(v.2.1.2 (↑k:Int).toNat).2.1) then true else decide ((v.2.1.2 (↑k:Int).toNat).2.1≥v.1))=true)),((bif bif bif decide ((v.2.1.2 (↑k:Int).toNat).1<0) then true else decide ((v.2.1.2 (↑k:Int).toNat).1≥(v.2.1.2 (↑k:Int).toNat).2.1) then true else decide ((v.2.1.2 (↑k:Int).toNat).2.1≥v.1) then true else bif decide ((↑k:Int)>0) then decide (cmpB (v.2.1.2 ((↑k:Int) - 1).toNat) (v.2.1.2 k)>0) else false)=true),(false=false)]:=by kernel_rfl
theorem p51d (v:T_Graph) (k:Nat) :
    pathOb Try.prog Try.f101 0 [rg 1,.dec false,rg 1] zf28 (S51 v k) [] 1 [] (.p (.bool true)) =
    some [((decide ((↑k:Int)<(↑v.2.1.1:Int)))=false),(true=true)]:=by kernel_rfl
theorem con_l2After (a b:T_Bar):Con Try.prog 141 0 [] [barA a,barA b] [] (.p (.bool (aft a b))):=by
  refine con_start Try.func141 rfl (by kernel_rfl) rfl (fun c hc=>?_)
  refine path_ok mixed Try.func141 hc (p57 a b) ?_
  repeat' (first | exact aN | apply aI)
  all_goals (first | exact aG _ | omega | rfl | (intros;first | assumption | exact trivial | rfl | exact fT ‹_› | ((repeat' (first | assumption | apply anda | apply notf));done)))
theorem con_compareInts (x y:Int):Con Try.prog 152 0 [] [.p (.int .i64 x),.p (.int .i64 y)] [] (.p (.int .i64 (cmpI x y))):=by
  refine con_start Try.func152 rfl (by kernel_rfl) rfl (fun c hc=>?_)
  by_cases h1:x<y
  · rw [show cmpI x y = -1 by simp [cmpI,h1]]
    refine path_ok mixed Try.func152 hc (p62a x y) ?_
    repeat' (first | exact aN | apply aI)
    all_goals (first | omega | rfl | (intros;first | assumption | exact trivial | rfl | exact fT ‹_› | ((repeat' (first | assumption | apply anda | apply notf));done)) | (simp;omega))
  · by_cases h2:x>y
    · rw [show cmpI x y=1 by simp only [cmpI,h1,h2,if_true,if_false]]
      refine path_ok mixed Try.func152 hc (p62b x y) ?_
      repeat' (first | exact aN | apply aI)
      all_goals (first | omega | rfl | (intros;first | assumption | exact trivial | rfl | exact fT ‹_› | ((repeat' (first | assumption | apply anda | apply notf));done)) | (simp;omega))
    · rw [show cmpI x y=0 by simp only [cmpI,h1,h2,if_false]]
      refine path_ok mixed Try.func152 hc (p62c x y) ?_
      repeat' (first | exact aN | apply aI)
      all_goals (first | omega | rfl | (intros;first | assumption | exact trivial | rfl | exact fT ‹_› | ((repeat' (first | assumption | apply anda | apply notf));done)) | (simp;omega))
theorem con_compareBars (a b:T_Bar):Con Try.prog 135 0 [] [barA a,barA b] [] (.p (.int .i64 (cmpB a b))):=by
  refine con_start Try.func135 rfl (by kernel_rfl) rfl (fun c hc=>?_)
  by_cases h1:cmpI a.1 b.1=0
  · rw [show cmpB a b=cmpI a.2.1 b.2.1 by simp [cmpB,h1]]
    refine path_ok mixed Try.func135 hc (p59b a b) ?_
    repeat' (first | exact aN | apply aI)
    all_goals (first | omega | rfl | (intros;first | assumption | exact trivial | rfl | exact fT ‹_› | ((repeat' (first | assumption | apply anda | apply notf));done)) | (exact con_compareInts _ _) | (simp [h1]))
  · rw [show cmpB a b=cmpI a.1 b.1 by simp [cmpB,h1]]
    refine path_ok mixed Try.func135 hc (p59a a b) ?_
    repeat' (first | exact aN | apply aI)
    all_goals (first | omega | rfl | (intros;first | assumption | exact trivial | rfl | exact fT ‹_› | ((repeat' (first | assumption | apply anda | apply notf));done)) | (exact con_compareInts _ _) | (simp [h1]))
theorem cmpB_gt (a b:T_Bar):decide (cmpB a b>0)=!aft a b:=by
  simp only [cmpB,cmpI,aft]
  by_cases h1:a.1<b.1
  · simp [h1]
  · by_cases h2:a.1>b.1
    · have h3:¬ a.1=b.1:=by omega
      simp [h1,h2,h3]
    · have h3:a.1=b.1:=by omega
      simp only [h1,h2,h3,if_true,if_false]
      by_cases h4:a.2.1<b.2.1
      · have:a.2.1≤b.2.1:=by omega
        simp [h4,this]
      · by_cases h5:a.2.1>b.2.1
        · have:¬ a.2.1≤b.2.1:=by omega
          simp [h4,h5,this]
        · have:a.2.1≤b.2.1:=by omega
          simp [h4,h5,this]
theorem goodB_bad (N:Int) (g:Nat→T_Bar) (k:Nat) (h:badB N g k=true):∀ n,k<n→goodB N g n=false
  | 0,h'=>by omega
  | n+1,h'=>by
    by_cases e:k=n
    · subst e;simp [goodB,h]
    · simp [goodB,goodB_bad N g k h n (by omega)]
theorem idx_lt {b:Bool} {k n:Nat} (h:(b&&decide ((k:Int)>0))=true) (hk:k<n):0≤(k:Int) - 1∧(k:Int) - 1<n∧-9223372036854775808≤(k:Int) - 1∧(k:Int) - 1≤n:=by
  simp at h
  omega
theorem con_IsGraph_s (v:T_Graph) (hs:smS s_Graph v):Con Try.prog 110 0 [] [graphA v] [] (.p (.bool (isGraphF v))):=by
  refine con_start Try.func110 rfl (by kernel_rfl) rfl (fun c hc=>?_)
  have hn:v.2.1.1≤1048576:=hs.2.1.1
  by_cases hz:inB v.1 1 8=true∧v.2.1.1≤24
  · rw [show isGraphF v=goodB v.1 v.2.1.2 v.2.1.1 by rw [isGraphF,if_pos hz]]
    have lp:∀ m k,k+m=v.2.1.1→goodB v.1 v.2.1.2 k=true→Run Try.prog c 110 zf27 (S48 v k) (Post c [] (.p (.bool (goodB v.1 v.2.1.2 v.2.1.1)))):=by
      intro m
      induction m with
      | zero =>
        intro k hk hg
        rw [show goodB v.1 v.2.1.2 v.2.1.1=true by rw [show v.2.1.1=k by omega];exact hg]
        have hd:decide ((k:Int)<(v.2.1.1:Int))=false:=by simp;omega
        refine path_ok mixed Try.func110 hc (p48d v k) ?_
        repeat' (first | exact aN | apply aI)
        all_goals (first | omega | rfl | (intros;first | assumption | exact trivial | rfl | exact fT ‹_› | ((repeat' (first | assumption | apply anda | apply notf));done)))
      | succ m ih =>
        intro k hk hg
        have hd:decide ((k:Int)<(v.2.1.1:Int))=true:=by simp;omega
        have hkn:k<v.2.1.1:=by omega
        cases he:badB v.1 v.2.1.2 k with
        | true =>
          rw [goodB_bad _ _ k he v.2.1.1 (by omega)]
          refine path_ok mixed Try.func110 hc (p48c v k) ?_
          repeat' (first | exact aN | apply aI)
          all_goals (first | exact aG _ | omega | rfl | (intros;first | assumption | exact trivial | rfl | exact fT ‹_› | ((repeat' (first | assumption | apply anda | apply notf));done)) | (intros;exact con_l2After _ _) | (exact he) | (intro h;have:=idx_lt h hkn;omega))
        | false =>
          refine piece_ok mixed hc (p48b v k) ?_ (ih (k+1) (by omega) (by simp [goodB,hg,he]))
          repeat' (first | exact aN | apply aI)
          all_goals (first | exact aG _ | exact aP _ _ | omega | rfl | (intros;first | assumption | exact trivial | rfl | exact fT ‹_› | ((repeat' (first | assumption | apply anda | apply notf));done)) | (intros;exact con_l2After _ _) | (exact he) | (intro h;have:=idx_lt h hkn;omega) | (simp [All]))
    refine piece_ok mixed hc (p48a v) ?_ (lp v.2.1.1 0 (by omega) rfl)
    repeat' (first | exact aN | apply aI)
    all_goals (first | exact aG _ | exact aP _ _ | omega | rfl | (intros;first | assumption | exact trivial | rfl | exact fT ‹_› | ((repeat' (first | assumption | apply anda | apply notf));done)) | (exact con_l1In _ _ _) | (simp [hz.1];omega) | (simp [All]))
  · rw [show isGraphF v=false by rw [isGraphF,if_neg hz]]
    have hb:(bif !inB v.1 1 8 then true else decide ((v.2.1.1:Int)>24))=true:=by
      cases hi:inB v.1 1 8 with
      | false=>rfl
      | true =>
        have:¬ v.2.1.1≤24:=fun h=>hz ⟨hi,h⟩
        simp;omega
    refine path_ok mixed Try.func110 hc (p48z v) ?_
    repeat' (first | exact aN | apply aI)
    all_goals (first | exact aG _ | omega | rfl | (intros;first | assumption | exact trivial | rfl | exact fT ‹_› | ((repeat' (first | assumption | apply anda | apply notf));done)) | (exact con_l1In _ _ _))
theorem con_IsGraph_i (v:T_Graph) (hs:smS s_Graph v):Con Try.prog 101 0 [] [graphA v] [] (.p (.bool (isGraphF v))):=by
  refine con_start Try.func101 rfl (by kernel_rfl) rfl (fun c hc=>?_)
  have hn:v.2.1.1≤1048576:=hs.2.1.1
  by_cases hz:inB v.1 1 8=true∧v.2.1.1≤24
  · rw [show isGraphF v=goodB v.1 v.2.1.2 v.2.1.1 by rw [isGraphF,if_pos hz]]
    have lp:∀ m k,k+m=v.2.1.1→goodB v.1 v.2.1.2 k=true→Run Try.prog c 101 zf28 (S51 v k) (Post c [] (.p (.bool (goodB v.1 v.2.1.2 v.2.1.1)))):=by
      intro m
      induction m with
      | zero =>
        intro k hk hg
        rw [show goodB v.1 v.2.1.2 v.2.1.1=true by rw [show v.2.1.1=k by omega];exact hg]
        have hd:decide ((k:Int)<(v.2.1.1:Int))=false:=by simp;omega
        refine path_ok mixed Try.func101 hc (p51d v k) ?_
        repeat' (first | exact aN | apply aI)
        all_goals (first | omega | rfl | (intros;first | assumption | exact trivial | rfl | exact fT ‹_› | ((repeat' (first | assumption | apply anda | apply notf));done)))
      | succ m ih =>
        intro k hk hg
        have hd:decide ((k:Int)<(v.2.1.1:Int))=true:=by simp;omega
        have hkn:k<v.2.1.1:=by omega
        cases he:badB v.1 v.2.1.2 k with
        | true =>
          rw [goodB_bad _ _ k he v.2.1.1 (by omega)]
          have he2:=he
          rw [badB,← cmpB_gt] at he2
          refine path_ok mixed Try.func101 hc (p51c v k) ?_
          repeat' (first | exact aN | apply aI)
          all_goals (first | exact aG _ | omega | rfl | (intros;first | assumption | exact trivial | rfl | exact fT ‹_› | ((repeat' (first | assumption | apply anda | apply notf));done)) | (intros;exact con_compareBars _ _) | (exact he2) | (intro h;have:=idx_lt h hkn;omega))
        | false =>
          have he2:=he
          rw [badB,← cmpB_gt] at he2
          refine piece_ok mixed hc (p51b v k) ?_ (ih (k+1) (by omega) (by simp [goodB,hg,he]))
          repeat' (first | exact aN | apply aI)
          all_goals (first | exact aG _ | exact aP _ _ | omega | rfl | (intros;first | assumption | exact trivial | rfl | exact fT ‹_› | ((repeat' (first | assumption | apply anda | apply notf));done)) | (intros;exact con_compareBars _ _) | (exact he2) | (intro h;have:=idx_lt h hkn;omega) | (simp [All]))
    refine piece_ok mixed hc (p51a v) ?_ (lp v.2.1.1 0 (by omega) rfl)
    repeat' (first | exact aN | apply aI)
    all_goals (first | exact aG _ | exact aP _ _ | omega | rfl | (intros;first | assumption | exact trivial | rfl | exact fT ‹_› | ((repeat' (first | assumption | apply anda | apply notf));done)) | (exact con_within _ _ _) | (simp [hz.1];omega) | (simp [All]))
  · rw [show isGraphF v=false by rw [isGraphF,if_neg hz]]
    have hb:(bif !inB v.1 1 8 then true else decide ((v.2.1.1:Int)>24))=true:=by
      cases hi:inB v.1 1 8 with
      | false=>rfl
      | true =>
        have:¬ v.2.1.1≤24:=fun h=>hz ⟨hi,h⟩
        simp;omega
    refine path_ok mixed Try.func101 hc (p51z v) ?_
    repeat' (first | exact aN | apply aI)
    all_goals (first | exact aG _ | omega | rfl | (intros;first | assumption | exact trivial | rfl | exact fT ‹_› | ((repeat' (first | assumption | apply anda | apply notf));done)) | (exact con_within _ _ _))
end Go.Proofs.Ytffnfeefjdmifaa.Mach
namespace Go.Proofs.Ytffnfeefjdmifaa.Mach
open Go
set_option linter.unusedVariables false
set_option linter.unusedSimpArgs false
def SH (g:Nat→T_Bar) (nb N m:Nat) (F0 T0 F T Q:Nat→Int) (a b want:Int):St :=
  ⟨[grG g nb N,pebD N m F0 T0 Q,.p (.int .i64 a),.p (.int .i64 b),.p (.int .i64 want),.pt 2 0 0 0,.pt 3 1 0 0,.p .any,.p .any,.p .any,.pt 3 2 0 0,.p .any,.pt 3 3 0 0]++List.replicate 40 anyA,
   [(0,bxG g nb N),(1,bxD N m F0 T0 Q),(2,bx0),(3,bxP N m 4),(4,iOb N F),(5,iOb m T),(6,iOb m Q)],7⟩
def SNc (g:Nat→T_Bar) (nb N k:Nat):St :=
  ⟨[.p .any,.p (.int .i64 k),.pt 2 0 0 0,.p .any,.pt 3 1 0 0,.p .any,.pt 3 2 0 0]++List.replicate 27 anyA,
   [(0,bxG g nb N),(1,bx0),(2,⟨true,3,1,fun _=>[.ar 1 3 0 0,.ar 1 4 0 0,.ar 1 5 0 0]⟩),(3,iOb 0 (fun _=>k)),(4,iOb 0 (fun _=>0)),(5,iOb 0 (fun _=>0))],6⟩
def SN0 (g:Nat→T_Bar) (nb N k i:Nat):St :=
  ⟨[.p .any,.p (.int .i64 k),.pt 2 0 0 0,.p .any,.pt 3 1 0 0,.p .any,.pt 3 2 0 0,.p (.int .i64 i)]++List.replicate 26 anyA,
   [(0,bxG g nb N),(1,bx0),(2,⟨true,3,1,fun _=>[.ar 1 3 0 i,.ar 1 4 0 0,.ar 1 5 0 0]⟩),(3,iOb i (fun _=>k)),(4,iOb 0 (fun _=>0)),(5,iOb 0 (fun _=>0))],6⟩
theorem qHz (g:Nat→T_Bar) (nb N m:Nat) (F T Q:Nat→Int) (a b want:Int) :
    pieceOb Try.prog 0 [rg 4,rm [(1,oc (pebR N m F T Q) (pebO N m 0))] 2,.head] [.code (bodyOf Try.f162)] (start Try.f162 [] 0 [grG g nb N,pebD N m F T Q,.p (.int .i64 a),.p (.int .i64 b),.p (.int .i64 want)]) [0,32,64,192,160,161,162] 1 (SH g nb N m F T F T Q a b want) =
    some (zf36,[(NT 0 1),Con Try.prog 161 0 [] [(zf24 N F m T Q)] (zf15 N F m T Q) (.agg [.ar 1 0 0 N,.ar 1 1 0 m,.ar 1 2 0 m]),(NT 0 1),((true=true)→ (AN 1)),(AI ((↑N:Int))),(AN nb),(AP nb (fun i=>[.int .i64 ((g i).1),.int .i64 ((g i).2.1)])),(AN N),(AP N (fun i=>[.int .i64 (F i)])),(AN m),(AP m (fun i=>[.int .i64 (T i)])),(AN m),(AP m (fun i=>[.int .i64 (Q i)])),(AI a),(AI b),(AI want),(AN 0),(AN 0),(AN 0),(AN 0),((([AV.p (PV.int IntKind.i64 (↑N:Int)),brL g nb].length):Nat)=2),(NL 1 1),(NL 1 1),(AI ((↑N:Int))),(AN nb),(AP nb (fun i=>[.int .i64 ((g i).1),.int .i64 ((g i).2.1)])),((([inD N F,inD m T,inD m Q].length):Nat)=3),(NL 1 1),(NL 1 1),(AN N),(AP N (fun i=>[.int .i64 (F i)])),(AN m),(AP m (fun i=>[.int .i64 (T i)])),(AN m),(AP m (fun i=>[.int .i64 (Q i)])),((((List.map (fun v=>AV.p (absV v)) [Value.slice none 0 0,Value.slice none 0 0,Value.slice none 0 0]).length):Nat)=3),(NL 1 1),(NL 1 1),((((List.map (fun v=>AV.p (absV v)) [Value.slice none 0 0,Value.slice none 0 0,Value.slice none 0 0]).length):Nat)=3),(NL 1 1),(NL 1 1),(AN 0),(AN N),(AN 0),(AN m),(AN 0),(AN m),(AN 1),(NL N N),(AA N (fun i=>[.p (.int .i64 (F i))])),(AN 1),(NL m m),(AA m (fun i=>[.p (.int .i64 (T i))])),(AN 1),(NL m m),(AA m (fun i=>[.p (.int .i64 (Q i))]))]):=by kernel_rfl
theorem qHa (g:Nat→T_Bar) (nb N m:Nat) (F0 T0 F T Q F1 T1:Nat→Int) (a b want:Int) :
    pieceOb Try.prog 0 [rg 13,.dec true,rm [(4,oq [4,5,6] (pebR3 N m F T Q F1 T1 Q) (.tup [pebO N m 3,.p (.bool true)]))] 6,rg 2,.dec false,rg 2,.dec false,rg 2,.head] zf36 (SH g nb N m F0 T0 F T Q a b want) [0,1,2,3,551,552,553] 1 (SH g nb N m F0 T0 F1 T1 Q a b want) =
    some (zf36,[(NT 0 1),(IL 0 a),(IT a (↑N:Int)),(NT a.toNat N),(NT 0 1),(IL 0 b),(IT b (↑N:Int)),(NT b.toNat N),(R0 (F a.toNat+F b.toNat)),(R1 (F a.toNat+F b.toNat)),((decide (F (a.toNat+0)+F (b.toNat+0)<want))=true),(NT 0 1),(NT 0 1),(AE N),(AE m),(AE m),Con Try.prog 180 3 (zf15 N F m T Q) [(zf47 N nb g),.agg [.ar 1 0 0 N,.ar 1 1 0 m,.ar 1 2 0 m],.p (.int .i64 a),.p (.int .i64 b)] (zf7 N F m T Q F1 T1) (.tup [.agg [.ar 1 3 0 N,.ar 1 4 0 m,.ar 1 5 0 m],.p (.bool true)]),(NT 0 1),((true=true)→ (AN 1)),((!true)=false),((!true)=false),(NT 0 1),(NT 0 1),((true=true)→ (AN 1)),(AI ((↑N:Int))),(AN nb),(AP nb (fun i=>[.int .i64 ((g i).1),.int .i64 ((g i).2.1)])),(AN N),(AP N (fun i=>[.int .i64 (F0 i)])),(AN m),(AP m (fun i=>[.int .i64 (T0 i)])),(AN m),(AP m (fun i=>[.int .i64 (Q i)])),(AI a),(AI b),(AI want),(AN 0),(AN 0),(AN 0),(AN 0),(AN 2),(NL 1 1),(NL 1 1),(AI ((↑N:Int))),(AN nb),(AP nb (fun i=>[.int .i64 ((g i).1),.int .i64 ((g i).2.1)])),(AN 3),(NL 1 1),(NL 1 1),(AN N),(AP N (fun i=>[.int .i64 (F0 i)])),(AN m),(AP m (fun i=>[.int .i64 (T0 i)])),(AN m),(AP m (fun i=>[.int .i64 (Q i)])),(AN 3),(NL 1 1),(NL 1 1),(AN 3),(NL 1 1),(NL 1 1),(AN 0),(AN N),(AN 0),(AN m),(AN 0),(AN m),(AN 1),(NL N N),(AA N (fun i=>[.p (.int .i64 (F1 i))])),(AN 1),(NL m m),(AA m (fun i=>[.p (.int .i64 (T1 i))])),(AN 1),(NL m m),(AA m (fun i=>[.p (.int .i64 (Q i))]))]):=by kernel_rfl
theorem qHb (g:Nat→T_Bar) (nb N m:Nat) (F0 T0 F T Q F1 T1:Nat→Int) (a b want:Int) :
    pieceOb Try.prog 0 [rg 13,.dec true,rm [(4,oq [4,5,6] (pebR N m F T Q) (.tup [pebO N m 0,.p (.bool false)]))] 6,rg 2,.dec true,rm [(4,oq [4,5,6] (pebR3 N m F T Q F1 T1 Q) (.tup [pebO N m 3,.p (.bool true)]))] 5,rg 2,.dec false,rg 2,.head] zf36 (SH g nb N m F0 T0 F T Q a b want) [0,1,2,3,967,968,969] 1 (SH g nb N m F0 T0 F1 T1 Q a b want) =
    some (zf36,[(NT 0 1),(IL 0 a),(IT a (↑N:Int)),(NT a.toNat N),(NT 0 1),(IL 0 b),(IT b (↑N:Int)),(NT b.toNat N),(R0 (F a.toNat+F b.toNat)),(R1 (F a.toNat+F b.toNat)),((decide (F (a.toNat+0)+F (b.toNat+0)<want))=true),(NT 0 1),(NT 0 1),(AE N),(AE m),(AE m),Con Try.prog 180 3 (zf15 N F m T Q) [(zf47 N nb g),.agg [.ar 1 0 0 N,.ar 1 1 0 m,.ar 1 2 0 m],.p (.int .i64 a),.p (.int .i64 b)] (zf15 N F m T Q) ((zf50 N m)),(NT 0 1),((true=true)→ (AN 1)),((!false)=true),(NT 0 1),(NT 0 1),(AE N),(AE m),(AE m),Con Try.prog 180 3 (zf15 N F m T Q) [(zf47 N nb g),.agg [.ar 1 0 0 N,.ar 1 1 0 m,.ar 1 2 0 m],.p (.int .i64 b),.p (.int .i64 a)] (zf7 N F m T Q F1 T1) (.tup [.agg [.ar 1 3 0 N,.ar 1 4 0 m,.ar 1 5 0 m],.p (.bool true)]),(NT 0 1),((true=true)→ (AN 1)),((!true)=false),(NT 0 1),(NT 0 1),((true=true)→ (AN 1)),(AI ((↑N:Int))),(AN nb),(AP nb (fun i=>[.int .i64 ((g i).1),.int .i64 ((g i).2.1)])),(AN N),(AP N (fun i=>[.int .i64 (F0 i)])),(AN m),(AP m (fun i=>[.int .i64 (T0 i)])),(AN m),(AP m (fun i=>[.int .i64 (Q i)])),(AI a),(AI b),(AI want),(AN 0),(AN 0),(AN 0),(AN 0),(AN 2),(NL 1 1),(NL 1 1),(AI ((↑N:Int))),(AN nb),(AP nb (fun i=>[.int .i64 ((g i).1),.int .i64 ((g i).2.1)])),(AN 3),(NL 1 1),(NL 1 1),(AN N),(AP N (fun i=>[.int .i64 (F0 i)])),(AN m),(AP m (fun i=>[.int .i64 (T0 i)])),(AN m),(AP m (fun i=>[.int .i64 (Q i)])),(AN 3),(NL 1 1),(NL 1 1),(AN 3),(NL 1 1),(NL 1 1),(AN 0),(AN N),(AN 0),(AN m),(AN 0),(AN m),(AN 1),(NL N N),(AA N (fun i=>[.p (.int .i64 (F1 i))])),(AN 1),(NL m m),(AA m (fun i=>[.p (.int .i64 (T1 i))])),(AN 1),(NL m m),(AA m (fun i=>[.p (.int .i64 (Q i))]))]):=by kernel_rfl
theorem qHc (g:Nat→T_Bar) (nb N m:Nat) (F0 T0 F T Q:Nat→Int) (a b want:Int) :
    pathOb Try.prog Try.f162 0 [rg 13,.dec true,rm [(4,oq [4,5,6] (pebR N m F T Q) (.tup [pebO N m 0,.p (.bool false)]))] 6,rg 2,.dec true,rm [(4,oq [4,5,6] (pebR N m F T Q) (.tup [pebO N m 0,.p (.bool false)]))] 5,rg 2,.dec true,rg 3] zf36 (SH g nb N m F0 T0 F T Q a b want) [4,5,6] 1 (pebR N m F T Q) (.tup [pebO N m 0,.p (.bool false)]) =
    some [(NT 0 1),(IL 0 a),(IT a (↑N:Int)),(NT a.toNat N),(NT 0 1),(IL 0 b),(IT b (↑N:Int)),(NT b.toNat N),(R0 (F a.toNat+F b.toNat)),(R1 (F a.toNat+F b.toNat)),((decide (F (a.toNat+0)+F (b.toNat+0)<want))=true),(NT 0 1),(NT 0 1),(AE N),(AE m),(AE m),Con Try.prog 180 3 (zf15 N F m T Q) [(zf47 N nb g),.agg [.ar 1 0 0 N,.ar 1 1 0 m,.ar 1 2 0 m],.p (.int .i64 a),.p (.int .i64 b)] (zf15 N F m T Q) ((zf50 N m)),(NT 0 1),((true=true)→ (AN 1)),((!false)=true),(NT 0 1),(NT 0 1),(AE N),(AE m),(AE m),Con Try.prog 180 3 (zf15 N F m T Q) [(zf47 N nb g),.agg [.ar 1 0 0 N,.ar 1 1 0 m,.ar 1 2 0 m],.p (.int .i64 b),.p (.int .i64 a)] (zf15 N F m T Q) ((zf50 N m)),(NT 0 1),((true=true)→ (AN 1)),((!false)=true),(NT 0 1),(NT 0 1),((true=true)→ (AN 1)),(NT 0 1),(AN 0),(AN N),(AN 0),(AN m),(AN 0),(AN m),(false=false),(AN 1),(NL N N),(AA N (fun i=>[.p (.int .i64 (F i))])),(AN 1),(NL m m),(AA m (fun i=>[.p (.int .i64 (T i))])),(AN 1),(NL m m),(AA m (fun i=>[.p (.int .i64 (Q i))])),(AE N),(AE m),(AE m)]:=by kernel_rfl
theorem qHd (g:Nat→T_Bar) (nb N m:Nat) (F0 T0 F T Q:Nat→Int) (a b want:Int) :
    pathOb Try.prog Try.f162 0 [rg 13,.dec false,rg 3] zf36 (SH g nb N m F0 T0 F T Q a b want) [4,5,6] 1 (pebR N m F T Q) (.tup [pebO N m 0,.p (.bool true)]) =
    some [(NT 0 1),(IL 0 a),(IT a (↑N:Int)),(NT a.toNat N),(NT 0 1),(IL 0 b),(IT b (↑N:Int)),(NT b.toNat N),(R0 (F a.toNat+F b.toNat)),(R1 (F a.toNat+F b.toNat)),((decide (F (a.toNat+0)+F (b.toNat+0)<want))=false),(NT 0 1),(NT 0 1),((true=true)→ (AN 1)),(NT 0 1),(AN 0),(AN N),(AN 0),(AN m),(AN 0),(AN m),(true=true),(AN 1),(NL N N),(AA N (fun i=>[.p (.int .i64 (F i))])),(AN 1),(NL m m),(AA m (fun i=>[.p (.int .i64 (T i))])),(AN 1),(NL m m),(AA m (fun i=>[.p (.int .i64 (Q i))])),(AE N),(AE m),(AE m)]:=by kernel_rfl
theorem qNy (g:Nat→T_Bar) (nb N k:Nat) :
    pieceOb Try.prog 0 [rg 3,rg 6,.head] [.code (bodyOf Try.f144)] (start Try.f144 [] 0 [grG g nb N,.p (.int .i64 k)]) [0,32,224,96,128,160] 1 (SNc g nb N k) =
    some (zf43,[(NT 0 1),((true=true)→ (AN 1)),(AI ((↑k:Int))),(AN 0),(AN 0),(AN 0),((([AV.p (PV.int IntKind.i64 (↑N:Int)),brL g nb].length):Nat)=2),(NL 1 1),(NL 1 1),(AI ((↑N:Int))),(AN nb),(AP nb (fun i=>[.int .i64 ((g i).1),.int .i64 ((g i).2.1)])),((((List.map (fun v=>AV.p (absV v)) [Value.slice none 0 0,Value.slice none 0 0,Value.slice none 0 0]).length):Nat)=3),(NL 1 1),(NL 1 1),((((List.map (fun v=>AV.p (absV v)) [Value.slice none 0 0,Value.slice none 0 0,Value.slice none 0 0]).length):Nat)=3),(NL 1 1),(NL 1 1),(AN 0),(AN 0),(AN 0),(AN 0),(AN 0),(AN 0),(AN 1),(NL 0 0),(∀ i:Nat,(((i:Nat)<0)→(All []∧(([.p (.int .i64 0)]:List AV)=[.p (.int .i64 (↑k:Int))])))),(AN 1),(NL 0 0),(AA 0 (fun i=>[.p (.int .i64 0)])),(AN 1),(NL 0 0),(AA 0 (fun i=>[.p (.int .i64 0)]))]):=by kernel_rfl
theorem qNa (g:Nat→T_Bar) (nb N k:Nat) :
    pieceOb Try.prog 0 [rm [(1,oc [] (.p (.bool true))),(3,oc [] (.p (.bool true)))] 2,.dec false,rg 1,.head] zf43 (SNc g nb N k) [0,1,2,3,4,5] 1 (SN0 g nb N k 0) =
    some (zf19,[(NT 0 1),Con Try.prog 110 0 [] [(zf47 N nb g)] [] (.p (.bool true)),(AG (!!true)),(((!!true)=true)→ Con Try.prog 37 0 [] [.p (.int .i64 (↑k:Int)),.p (.int .i64 1),.p (.int .i64 3)] [] (.p (.bool true))),(AG (!!true)),(((!true)=false)→ ((!!true)=true)),((bif !true then true else !true)=false),(AI ((↑k:Int))),(AN 0),(AN 0),(AN 0),((0:Int)=(↑0:Int)),(AN 2),(NL 1 1),(NL 1 1),(AI ((↑N:Int))),(AN nb),(AP nb (fun i=>[.int .i64 ((g i).1),.int .i64 ((g i).2.1)])),(AN 3),(NL 1 1),(NL 1 1),(AN 3),(NL 1 1),(NL 1 1),(AN 0),(AN 0),(AN 0),(AN 0),(AN 0),(AN 0),(AN 1),(NL 0 0),(AA 0 (fun i=>[.p (.int .i64 (↑k:Int))])),(AN 1),(NL 0 0),(AA 0 (fun i=>[.p (.int .i64 0)])),(AN 1),(NL 0 0),(AA 0 (fun i=>[.p (.int .i64 0)]))]):=by kernel_rfl
theorem qNl (g:Nat→T_Bar) (nb N k i:Nat) :
    pieceOb Try.prog 0 [rg 4,.dec true,rg 7,rg 3,.head] zf19 (SN0 g nb N k i) [0,1,2,262,4,5] 1 (SN0 g nb N k (i+1)) =
    some (zf19,[(NT 0 1),((decide ((↑i:Int)<(↑N:Int)))=true),(NT 0 1),(NL 1 1),(NL i i),(NL ((i+1)*8) 140737488355328),(NL (i+1) 9223372036854775807),(NT 0 1),((true=true)→ (AN 1)),(R0 ((↑i:Int)+1)),(R1 ((↑i:Int)+1)),(AI ((↑k:Int))),(AN 0),(AN 0),(AN 0),((((↑i:Int)+1):Int)=(↑(i+1):Int)),(AN 2),(NL 1 1),(NL 1 1),(AI ((↑N:Int))),(AN nb),(AP nb (fun i_1=>[.int .i64 ((g i_1).1),.int .i64 ((g i_1).2.1)])),(AN 3),(NL 1 1),(NL 1 1),(AN 3),(NL 1 1),(NL 1 1),(AN 0),(AN ((i+1))),(AN 0),(AN 0),(AN 0),(AN 0),(AN 1),(NL (i+1) (i+1)),(CV [(2,⟨true,3,1,(fun i_2=>[.ar 1 262 0 (i+1),.ar 1 4 0 0,.ar 1 5 0 0])⟩),(262,⟨false,1,(i+1),(fun i_2=>(if (i_2<i) then [.p (.int .i64 (↑k:Int))] else [.p (.int .i64 (↑k:Int))]))⟩),(230,⟨false,1,1,(fun i_2=>[.p (.int .i64 (↑k:Int))])⟩),(0,⟨true,2,1,(fun i_2=>[.p (.int .i64 (↑N:Int)),.p (.seq true 2 nb (fun i_3=>[.int .i64 ((g i_3).1),.int .i64 ((g i_3).2.1)]))])⟩),(1,⟨true,3,1,(fun i_2=>[.p (.nil),.p (.nil),.p (.nil)])⟩),(4,⟨false,1,0,(fun i_2=>[.p (.int .i64 0)])⟩),(5,⟨false,1,0,(fun i_2=>[.p (.int .i64 0)])⟩)] [0,1,2,262,4,5] 1 (i+1) (fun i_1=>if (i_1<i) then [.p (.int .i64 (↑k:Int))] else [.p (.int .i64 (↑k:Int))]) (fun i_1=>[.p (.int .i64 (↑k:Int))])),(AN 1),(NL 0 0),(AA 0 (fun i_1=>[.p (.int .i64 0)])),(AN 1),(NL 0 0),(AA 0 (fun i_1=>[.p (.int .i64 0)]))]):=by kernel_rfl
theorem qNe (g:Nat→T_Bar) (nb N k i:Nat) :
    pathOb Try.prog Try.f144 0 [rg 4,.dec false,rg 3] zf19 (SN0 g nb N k i) [3,4,5] 1 (pebR i 0 (fun _=>k) (fun _=>0) (fun _=>0)) (.tup [pebO i 0 0,.p (.bool true)]) =
    some [(NT 0 1),((decide ((↑i:Int)<(↑N:Int)))=false),(NT 0 1),(NT 0 1),((true=true)→ (AN 1)),(NT 0 1),(AN 0),(AN i),(AN 0),(AN 0),(AN 0),(AN 0),(true=true),(AN 1),(NL i i),(AA i (fun i_1=>[.p (.int .i64 (↑k:Int))])),(AN 1),(NL 0 0),(AA 0 (fun i_1=>[.p (.int .i64 0)])),(AN 1),(NL 0 0),(AA 0 (fun i_1=>[.p (.int .i64 0)])),(AE i),(AE 0),(AE 0)]:=by kernel_rfl
theorem con_l4Gather {N k nb m l:Nat} {g:Nat→T_Bar} {F0 T0 Q:Nat→Int} {a b:Int} (hp0:PInv N k nb m g F0 T0 Q) (hk:k≤1048576) (hN:N≤1048576) (hm:m≤1048576) (hnb:nb≤1048576)
    (ha:0≤a∧a<N) (hb:0≤b∧b<N) (hab:a≠b):∃ F' T' r,Con Try.prog 162 0 [] [grG g nb N,pebD N m F0 T0 Q,.p (.int .i64 a),.p (.int .i64 b),.p (.int .i64 ((l:Int)+1))] (pebR N m F' T' Q) (.tup [pebO N m 0,.p (.bool r)]) ∧
      PInv N k nb m g F' T' Q∧(r=true→(l:Int)+1≤F' a.toNat+F' b.toNat)∧(r=false→¬ Mat.Sparse N k l (plL g Q m++[(a.toNat,b.toNat)])):=by
  have lp:∀ d F T,PInv N k nb m g F T Q→(l:Int)+1≤F a.toNat+F b.toNat+(d:Nat)→∃ F' T' r,(∀ c,c.n=0→Run Try.prog c 162 zf36 (SH g nb N m F0 T0 F T Q a b ((l:Int)+1)) (Post c (pebR N m F' T' Q) (.tup [pebO N m 0,.p (.bool r)]))) ∧
      PInv N k nb m g F' T' Q∧(r=true→(l:Int)+1≤F' a.toNat+F' b.toNat)∧(r=false→¬ Mat.Sparse N k l (plL g Q m++[(a.toNat,b.toNat)])):=by
    intro d
    induction d with
    | zero =>
      intro F T hp hw
      have hd:decide (F a.toNat+F b.toNat<(l:Int)+1)=false:=by simp;omega
      have l1:=hp.le (v:=a.toNat) (by omega)
      have l2:=hp.le (v:=b.toNat) (by omega)
      refine ⟨F,T,true,fun c hc=>?_,hp,(fun _=>by omega),(fun h=>by cases h)⟩
      refine path_ok mixed Try.func162 hc (qHd g nb N m F0 T0 F T Q a b ((l:Int)+1)) ?_
      repeat' (first | exact aN | apply aI)
      all_goals (first | exact aA _ _ | exact aE _ | omega | rfl | (intros;first | assumption | exact trivial | rfl | exact fT ‹_› | ((repeat' (first | assumption | apply anda | apply notf));done)) | (exact hd) | (intro i hi;simp [All]))
    | succ d ih =>
      intro F T hp hw
      have l1:=hp.le (v:=a.toNat) (by omega)
      have l2:=hp.le (v:=b.toNat) (by omega)
      by_cases hs:F a.toNat+F b.toNat<(l:Int)+1
      · have hd:decide (F a.toNat+F b.toNat<(l:Int)+1)=true:=by simp;omega
        obtain ⟨H1,r1,hc1,hf1⟩:=con_l4Find hp hk hN hm hnb ha hb hab
        cases hf1 with
        | yes F1 T1 hm1 =>
          obtain ⟨y1,y2⟩:=hm1.yes rfl
          obtain ⟨F',T',r,hrun,h1,h2,h3⟩:=ih F1 T1 hm1.inv (by omega)
          refine ⟨F',T',r,fun c hc=>?_,h1,h2,h3⟩
          refine piece_ok mixed hc (qHa g nb N m F0 T0 F T Q F1 T1 a b ((l:Int)+1)) ?_ (hrun c hc)
          repeat' (first | exact aN | apply aI)
          all_goals (first | exact aP _ _ | exact aA _ _ | exact aE _ | omega | rfl | (intros;first | assumption | exact trivial | rfl | exact fT ‹_› | ((repeat' (first | assumption | apply anda | apply notf));done)) | (exact hd) | (exact hc1) | (intro i hi;simp [All]))
        | no hm1 =>
          obtain ⟨H2,r2,hc2,hf2⟩:=con_l4Find hp hk hN hm hnb hb ha (Ne.symm hab)
          cases hf2 with
          | yes F2 T2 hm2 =>
            obtain ⟨y1,y2⟩:=hm2.yes rfl
            obtain ⟨F',T',r,hrun,h1,h2,h3⟩:=ih F2 T2 hm2.inv (by omega)
            refine ⟨F',T',r,fun c hc=>?_,h1,h2,h3⟩
            refine piece_ok mixed hc (qHb g nb N m F0 T0 F T Q F2 T2 a b ((l:Int)+1)) ?_ (hrun c hc)
            repeat' (first | exact aN | apply aI)
            all_goals (first | exact aP _ _ | exact aA _ _ | exact aE _ | omega | rfl | (intros;first | assumption | exact trivial | rfl | exact fT ‹_› | ((repeat' (first | assumption | apply anda | apply notf));done)) | (exact hd) | (exact hc1) | (exact hc2) | (intro i hi;simp [All]))
          | no hm2 =>
            refine ⟨F,T,false,fun c hc=>?_,hp,(fun h=>by cases h),fun _=>gather_no hp ha hb hab (by omega) hm1 hm2⟩
            refine path_ok mixed Try.func162 hc (qHc g nb N m F0 T0 F T Q a b ((l:Int)+1)) ?_
            repeat' (first | exact aN | apply aI)
            all_goals (first | exact aA _ _ | exact aE _ | omega | rfl | (intros;first | assumption | exact trivial | rfl | exact fT ‹_› | ((repeat' (first | assumption | apply anda | apply notf));done)) | (exact hd) | (exact hc1) | (exact hc2) | (intro i hi;simp [All]))
      · have hd:decide (F a.toNat+F b.toNat<(l:Int)+1)=false:=by simp;omega
        refine ⟨F,T,true,fun c hc=>?_,hp,(fun _=>by omega),(fun h=>by cases h)⟩
        refine path_ok mixed Try.func162 hc (qHd g nb N m F0 T0 F T Q a b ((l:Int)+1)) ?_
        repeat' (first | exact aN | apply aI)
        all_goals (first | exact aA _ _ | exact aE _ | omega | rfl | (intros;first | assumption | exact trivial | rfl | exact fT ‹_› | ((repeat' (first | assumption | apply anda | apply notf));done)) | (exact hd) | (intro i hi;simp [All]))
  have l1:=hp0.le (v:=a.toNat) (by omega)
  have l2:=hp0.le (v:=b.toNat) (by omega)
  obtain ⟨F',T',r,hrun,h⟩:=lp (l+1) F0 T0 hp0 (by omega)
  refine ⟨F',T',r,?_,h⟩
  have hcc:=con_l4Copy N m F0 T0 Q hN hm
  refine con_start Try.func162 rfl (by kernel_rfl) rfl (fun c hc=>?_)
  refine piece_ok mixed hc (qHz g nb N m F0 T0 Q a b ((l:Int)+1)) ?_ (hrun c hc)
  repeat' (first | exact aN | apply aI)
  all_goals (first | exact aP _ _ | exact aA _ _ | omega | rfl | (intros;first | assumption | exact trivial | rfl | exact fT ‹_› | ((repeat' (first | assumption | apply anda | apply notf));done)) | (exact hcc) | (intro i hi;simp [All]))
theorem run_new {g:Nat→T_Bar} {nb N k:Nat} (hN:N≤1048576) (hk:1≤k∧k≤3) (hg:isGraphF ((N:Int),(nb,g),())=true) (hnb:nb≤1048576) (c:Cx) (hc:c.n=0) {items:List Item} (hit:items=zf43) :
    Run Try.prog c 144 items (SNc g nb N k) (Post c (pebR N 0 (fun _=>k) (fun _=>0) (fun _=>0)) (.tup [pebO N 0 0,.p (.bool true)])):=by
  subst hit
  have hsm:smS s_Graph ((N:Int),(nb,g),()):=⟨by simp [smS,smL],⟨hnb,fun i hi=>by simp [smS,smL]⟩,True.intro⟩
  have hcg:=con_IsGraph_s ((N:Int),(nb,g),()) hsm
  rw [hg] at hcg
  have hci:=con_l1In k 1 3
  rw [show inB k 1 3=true by simp [inB];omega] at hci
  have lp0:∀ d i,i+d=N→Run Try.prog c 144 zf19 (SN0 g nb N k i) (Post c (pebR N 0 (fun _=>k) (fun _=>0) (fun _=>0)) (.tup [pebO N 0 0,.p (.bool true)])):=by
    intro d
    induction d with
    | zero =>
      intro i hi
      obtain rfl:i=N:=by omega
      have hd:decide ((i:Int)<(i:Int))=false:=by simp
      refine path_ok mixed Try.func144 hc (qNe g nb i k i) ?_
      repeat' (first | exact aN | apply aI)
      all_goals (first | exact aA _ _ | exact aE _ | omega | rfl | (intros;first | assumption | exact trivial | rfl | exact fT ‹_› | ((repeat' (first | assumption | apply anda | apply notf));done)) | (intro i hi;simp [All]))
    | succ d ih =>
      intro i hi
      have hd:decide ((i:Int)<(N:Int))=true:=by simp;omega
      refine piece_ok mixed hc (qNl g nb N k i) ?_ (ih (i+1) (by omega))
      repeat' (first | exact aN | apply aI)
      all_goals (first | exact aP _ _ | exact aA _ _ | omega | rfl | (intros;first | assumption | exact trivial | rfl | exact fT ‹_› | ((repeat' (first | assumption | apply anda | apply notf));done)) | (intro j hj;simp [All];done) | (intro j hj;by_cases h:j<i<;>simp [h,cvtL,cvt,tg,tru,All]))
  refine piece_ok mixed hc (qNa g nb N k) ?_ (lp0 N 0 (by omega))
  repeat' (first | exact aN | apply aI)
  all_goals (first | exact aG _ | exact aP _ _ | exact aA _ _ | omega | rfl | (intros;first | assumption | exact trivial | rfl | exact fT ‹_› | ((repeat' (first | assumption | apply anda | apply notf));done)) | (exact hcg) | (intros;exact hci) | (intro i hi;simp [All]))
theorem con_NewPebbles {N k nb:Nat} {g:Nat→T_Bar} (hN:N≤1048576) (hk:1≤k∧k≤3) (hg:isGraphF ((N:Int),(nb,g),())=true) (hnb:nb≤1048576) :
    Con Try.prog 144 0 [] [grG g nb N,.p (.int .i64 k)] (pebR N 0 (fun _=>k) (fun _=>0) (fun _=>0)) (.tup [pebO N 0 0,.p (.bool true)]):=by
  refine con_start Try.func144 rfl (by kernel_rfl) rfl (fun c hc=>?_)
  refine piece_ok mixed hc (qNy g nb N k) ?_ (run_new hN hk hg hnb c hc rfl)
  repeat' (first | exact aN | apply aI)
  all_goals (first | exact aP _ _ | exact aA _ _ | omega | rfl | (intros;first | assumption | exact trivial | rfl | exact fT ‹_› | ((repeat' (first | assumption | apply anda | apply notf));done)) | (intro i hi;simp [All]))
end Go.Proofs.Ytffnfeefjdmifaa.Mach
namespace Go.Proofs.Ytffnfeefjdmifaa.Mach
open Go
set_option linter.unusedVariables false
set_option linter.unusedSimpArgs false
def brOb (n:Nat) (h:Nat→T_Bar):Ob:=⟨false,2,n,fun i=>[.p (.int .i64 (h i).1),.p (.int .i64 (h i).2.1)]⟩
def snoc (n:Nat) (h:Nat→T_Bar) (x:T_Bar) (s:Nat):T_Bar:=(if s<n then (h s).1 else x.1,if s<n then (h s).2.1 else x.2.1,())
end Go.Proofs.Ytffnfeefjdmifaa.Mach
namespace Go.Proofs.Ytffnfeefjdmifaa.Mach
open Go
set_option linter.unusedVariables false
set_option linter.unusedSimpArgs false
def hasI (g:Nat→Int) (x:Int):Nat→Bool
  | 0=>false
  | k+1=>hasI g x k||g k==x
def inL (v:T_IntS):AV:=.p (.seq true 1 v.1 (fun i=>[.int .i64 (v.2 i)]))
def S112 (v:T_IntS) (x:Int) (k:Nat):St :=
  ⟨[inL v,.p (.int .i64 x)]++List.replicate 5 anyA++[.p (.int .i64 v.1),.p (.int .i64 k)]++List.replicate 10 anyA,[],0⟩
theorem p112a (v:T_IntS) (x:Int) :
    pieceOb Try.prog 0 [rg 1,rg 3,.head] [.code (bodyOf Try.f139)] (start Try.f139 [] 0 [inL v,.p (.int .i64 x)]) [] 1 (S112 v x 0) =
    some (zf37,[(AN v.1),(AP v.1 (fun i=>[.int .i64 (v.2 i)])),(AI x),(AI ((↑v.1:Int))),((0:Int)=(↑0:Int))]):=by kernel_rfl
theorem p112b (v:T_IntS) (x:Int) (k:Nat) :
    pieceOb Try.prog 0 [rg 1,.dec true,rg 2,rg 6,.dec false,rg 2,.head] zf37 (S112 v x k) [] 1 (S112 v x (k+1)) =
    some (zf37,[((decide ((↑k:Int)<(↑v.1:Int)))=true),(IL 0 (↑k:Int)),(IT (↑k:Int) (↑v.1:Int)),((x==v.2 k)=false),(R0 ((↑k:Int)+1)),(R1 ((↑k:Int)+1)),(AN v.1),(AP v.1 (fun i=>[.int .i64 (v.2 i)])),(AI x),(AI ((↑v.1:Int))),((((↑k:Int)+1):Int)=(↑(k+1):Int))]):=by kernel_rfl
theorem p112c (v:T_IntS) (x:Int) (k:Nat) :
    pathOb Try.prog Try.f139 0 [rg 1,.dec true,rg 2,rg 6,.dec true,rg 2] zf37 (S112 v x k) [] 1 [] (.p (.int .i64 k)) =
    some [((decide ((↑k:Int)<(↑v.1:Int)))=true),(IL 0 (↑k:Int)),(IT (↑k:Int) (↑v.1:Int)),((x==v.2 k)=true),(AI ((↑k:Int)))]:=by kernel_rfl
theorem p112d (v:T_IntS) (x:Int) (k:Nat) :
    pathOb Try.prog Try.f139 0 [rg 1,.dec false,rg 1] zf37 (S112 v x k) [] 1 [] (.p (.int .i64 (-1))) =
    some [((decide ((↑k:Int)<(↑v.1:Int)))=false),(AI ((-1)))]:=by kernel_rfl
theorem p90 (v:T_IntS) (x r:Int) :
    pathOb Try.prog Try.f108 0 [rg 1,rm [(2,oc [] (.p (.int .i64 r)))] 2] [.code (bodyOf Try.f108)] (start Try.f108 [] 0 [inL v,.p (.int .i64 x)]) [] 1 [] (.p (.bool (decide (r≥0)))) =
    some [Con Try.prog 139 0 [] [.p (.seq true 1 v.1 (fun i=>[.int .i64 (v.2 i)])),.p (.int .i64 x)] [] (.p (.int .i64 r)),((decide (r≥0))=(decide (r≥0)))]:=by kernel_rfl
theorem hasI_hit (g:Nat→Int) (x:Int) (k:Nat) (h:(g k==x)=true):∀ n,k<n→hasI g x n=true
  | 0,h'=>by omega
  | n+1,h'=>by
    by_cases e:k=n
    · subst e;simp [hasI,h]
    · simp [hasI,hasI_hit g x k h n (by omega)]
theorem con_Index (v:T_IntS) (x:Int) (hn:v.1≤1048576):∃ r:Int,decide (r≥0)=hasI v.2 x v.1∧Con Try.prog 139 0 [] [inL v,.p (.int .i64 x)] [] (.p (.int .i64 r)):=by
  have key:(∃ k,k<v.1∧hasI v.2 x k=false∧(v.2 k==x)=true)∨hasI v.2 x v.1=false:=by
    have gen:∀ n,(∃ k,k<n∧hasI v.2 x k=false∧(v.2 k==x)=true)∨hasI v.2 x n=false:=by
      intro n
      induction n with
      | zero=>exact .inr rfl
      | succ n ih =>
        rcases ih with ⟨k,h1,h2⟩ | h
        · exact .inl ⟨k,by omega,h2⟩
        · cases he:(v.2 n==x) with
          | true=>exact .inl ⟨n,by omega,h,he⟩
          | false=>exact .inr (by simp only [hasI,h,he];rfl)
    exact gen v.1
  rcases key with ⟨q,hq,hq1,hq2⟩ | hno
  · refine ⟨(q:Int),by rw [hasI_hit v.2 x q hq2 v.1 hq];simp,?_⟩
    refine con_start Try.func139 rfl (by kernel_rfl) rfl (fun c hc=>?_)
    have lp:∀ m k,k+m=q→Run Try.prog c 139 zf37 (S112 v x k) (Post c [] (.p (.int .i64 (q:Int)))):=by
      intro m
      induction m with
      | zero =>
        intro k hk
        obtain rfl:k=q:=by omega
        have hd:decide ((k:Int)<(v.1:Int))=true:=by simp;omega
        have he:(x==v.2 k)=true:=by rw [beq_iff_eq] at hq2 ⊢;exact hq2.symm
        refine path_ok mixed Try.func139 hc (p112c v x k) ?_
        repeat' (first | exact aN | apply aI)
        all_goals (first | omega | rfl | (intros;first | assumption | exact trivial | rfl | exact fT ‹_› | ((repeat' (first | assumption | apply anda | apply notf));done)) | (exact he))
      | succ m ih =>
        intro k hk
        have hd:decide ((k:Int)<(v.1:Int))=true:=by simp;omega
        have he:(x==v.2 k)=false:=by
          cases h:(v.2 k==x) with
          | true=>rw [hasI_hit v.2 x k h q (by omega)] at hq1;cases hq1
          | false =>
            simp only [beq_eq_false_iff_ne,ne_eq] at h ⊢
            exact fun e=>h e.symm
        refine piece_ok mixed hc (p112b v x k) ?_ (ih (k+1) (by omega))
        repeat' (first | exact aN | apply aI)
        all_goals (first | exact aP _ _ | omega | rfl | (intros;first | assumption | exact trivial | rfl | exact fT ‹_› | ((repeat' (first | assumption | apply anda | apply notf));done)) | (exact he))
    refine piece_ok mixed hc (p112a v x) ?_ (lp q 0 (by omega))
    repeat' (first | exact aN | apply aI)
    all_goals (first | exact aP _ _ | omega | rfl | (intros;first | assumption | exact trivial | rfl | exact fT ‹_› | ((repeat' (first | assumption | apply anda | apply notf));done)))
  · refine ⟨-1,by rw [hno];rfl,?_⟩
    refine con_start Try.func139 rfl (by kernel_rfl) rfl (fun c hc=>?_)
    have lp:∀ m k,k+m=v.1→Run Try.prog c 139 zf37 (S112 v x k) (Post c [] (.p (.int .i64 (-1)))):=by
      intro m
      induction m with
      | zero =>
        intro k hk
        have hd:decide ((k:Int)<(v.1:Int))=false:=by simp;omega
        refine path_ok mixed Try.func139 hc (p112d v x k) ?_
        repeat' (first | exact aN | apply aI)
        all_goals (first | omega | rfl | (intros;first | assumption | exact trivial | rfl | exact fT ‹_› | ((repeat' (first | assumption | apply anda | apply notf));done)))
      | succ m ih =>
        intro k hk
        have hd:decide ((k:Int)<(v.1:Int))=true:=by simp;omega
        have he:(x==v.2 k)=false:=by
          cases h:(v.2 k==x) with
          | true=>rw [hasI_hit v.2 x k h v.1 (by omega)] at hno;cases hno
          | false =>
            simp only [beq_eq_false_iff_ne,ne_eq] at h ⊢
            exact fun e=>h e.symm
        refine piece_ok mixed hc (p112b v x k) ?_ (ih (k+1) (by omega))
        repeat' (first | exact aN | apply aI)
        all_goals (first | exact aP _ _ | omega | rfl | (intros;first | assumption | exact trivial | rfl | exact fT ‹_› | ((repeat' (first | assumption | apply anda | apply notf));done)) | (exact he))
    refine piece_ok mixed hc (p112a v x) ?_ (lp v.1 0 (by omega))
    repeat' (first | exact aN | apply aI)
    all_goals (first | exact aP _ _ | omega | rfl | (intros;first | assumption | exact trivial | rfl | exact fT ‹_› | ((repeat' (first | assumption | apply anda | apply notf));done)))
theorem con_Contains (v:T_IntS) (x:Int) (hn:v.1≤1048576):Con Try.prog 108 0 [] [inL v,.p (.int .i64 x)] [] (.p (.bool (hasI v.2 x v.1))):=by
  obtain ⟨r,hr,hcon⟩:=con_Index v x hn
  rw [← hr]
  refine con_start Try.func108 rfl (by kernel_rfl) rfl (fun c hc=>?_)
  refine path_ok mixed Try.func108 hc (p90 v x r) ?_
  repeat' (first | exact aN | apply aI)
  all_goals (first | omega | rfl | (intros;first | assumption | exact trivial | rfl | exact fT ‹_› | ((repeat' (first | assumption | apply anda | apply notf));done)) | (exact hcon))
end Go.Proofs.Ytffnfeefjdmifaa.Mach
namespace Go.Proofs.Ytffnfeefjdmifaa.Mach
open Go
set_option linter.unusedVariables false
set_option linter.unusedSimpArgs false
def snocI (n:Nat) (f:Nat→Int) (p:Int) (s:Nat):Int:=if s<n then f s else p
def OkBars (N nb:Nat) (g:Nat→T_Bar):Prop:=∀ e,e<nb→0≤(g e).1∧(g e).1<(g e).2.1∧(g e).2.1<N
theorem goodB_in (N:Int) (g:Nat→T_Bar):∀ n,goodB N g n=true→∀ e,e<n→badB N g e=false
  | 0,_,e,he=>by omega
  | n+1,h,e,he=>by
    simp only [goodB,Bool.and_eq_true,Bool.not_eq_true'] at h
    by_cases h':e=n
    · subst h';exact h.2
    · exact goodB_in N g n h.1 e (by omega)
theorem graph_in {N nb:Nat} {g:Nat→T_Bar} (h:isGraphF ((N:Int),(nb,g),())=true):(1≤N∧N≤8)∧nb≤24∧OkBars N nb g:=by
  unfold isGraphF at h
  split at h
  case isFalse=>cases h
  rename_i hc
  obtain ⟨h1,h2⟩:=hc
  simp only [inB,Bool.and_eq_true,decide_eq_true_eq] at h1
  refine ⟨by omega,h2,fun e he=>?_⟩
  have hb:=goodB_in (N:Int) g nb h e he
  unfold badB at hb
  by_cases a1:(g e).1<0
  · simp [a1] at hb
  by_cases a2:(g e).1≥(g e).2.1
  · simp [a2] at hb
  by_cases a3:(g e).2.1≥(N:Int)
  · simp [a3] at hb
  omega
theorem graph_cases (v:T_Graph) (h:isGraphF v=true):∃ (N nb:Nat) (g:Nat→T_Bar),v=((N:Int),(nb,g),()):=by
  obtain ⟨v1,⟨nb,g⟩,⟨⟩⟩:=v
  have h1:0≤v1:=by
    unfold isGraphF at h
    split at h
    · rename_i hc
      have:=hc.1
      simp [inB] at this
      omega
    · cases h
  exact ⟨v1.toNat,nb,g,by rw [Int.toNat_of_nonneg h1]⟩
end Go.Proofs.Ytffnfeefjdmifaa.Mach
namespace Go.Proofs.Ytffnfeefjdmifaa.Mach
open Go
set_option linter.unusedVariables false
set_option linter.unusedSimpArgs false
def ST0 (N m:Nat) (F T Q:Nat→Int) (x:Int) (i:Nat):St :=
  ⟨[pebD N m F T Q,.p (.int .i64 x),.pt 3 0 0 0,.p .any,.p .any,.p (.int .i64 (tcI T i x)),.p (.int .i64 i)]++List.replicate 17 anyA,[(0,bxD N m F T Q)],1⟩
def SI0 (g:Nat→T_Bar) (nb N k m:Nat) (F T Q:Nat→Int) (i:Nat):St :=
  ⟨[grG g nb N,.p (.int .i64 k),pebD N m F T Q,.pt 2 0 0 0,.p .any,.pt 3 1 0 0,.p .any,.p (.int .i64 i)]++List.replicate 115 anyA,[(0,bxG g nb N),(1,bxD N m F T Q)],2⟩
def SI1 (g:Nat→T_Bar) (nb N k m:Nat) (F T Q:Nat→Int) (i:Nat):St :=
  ⟨[grG g nb N,.p (.int .i64 k),pebD N m F T Q,.pt 2 0 0 0,.p .any,.pt 3 1 0 0,.p .any,.p .any,.p .any,.p (.int .i64 i)]++List.replicate 113 anyA,[(0,bxG g nb N),(1,bxD N m F T Q)],2⟩
def SRu (g:Nat→T_Bar) (nb N k l m:Nat) (F T Q:Nat→Int) (i:Nat):St :=
  ⟨[grG g nb N,.p (.int .i64 k),.p (.int .i64 l),.pt 2 0 0 0,.p .any,.p .any,.pt 3 1 0 0,.p .any,.pt 3 2 0 0,.p .any,.p (.int .i64 i)]++List.replicate 32 anyA,
   [(0,bxG g nb N),(1,bx0),(2,bxP N m 3),(3,iOb N F),(4,iOb m T),(5,iOb m Q)],6⟩
def badI (g:Nat→T_Bar) (nb:Nat) (T Q:Nat→Int) (i:Nat):Bool :=
  bif bif bif decide (Q i<0) then true else decide (Q i≥(nb:Int)) then true else bif decide ((i:Int)>0) then decide (Q ((i:Int) - 1).toNat≥Q i) else false then true
    else bif T i != (g (Q i).toNat).1 then T i != (g (Q i).toNat).2.1 else false
theorem nRi (k l:Nat) :
    pathOb Try.prog Try.f122 0 [rg 1,rm [(1,oc [] (.p (.bool true))),(5,oc [] (.p (.bool true)))] 2] [.code (bodyOf Try.f122)] (start Try.f122 [] 0 [.p (.int .i64 k),.p (.int .i64 l)]) [] 1 [] (.p (.bool true)) =
    some [Con Try.prog 40 0 [] [.p (.int .i64 (↑k:Int)),.p (.int .i64 1),.p (.int .i64 3)] [] (.p (.bool true)),(AG true),((true=true)→(R0 (2*(↑k:Int)))),((true=true)→(R1 (2*(↑k:Int)))),(AG true),((true=true)→(R0 (2*(↑k:Int) - 1))),((true=true)→(R1 (2*(↑k:Int) - 1))),(AG true),(AG true),((true=true)→ Con Try.prog 40 0 [] [.p (.int .i64 (↑l:Int)),.p (.int .i64 0),.p (.int .i64 (2*(↑k:Int) - 1))] [] (.p (.bool true))),(AG true),((bif true then true else false)=true)]:=by kernel_rfl
theorem nRs (k l:Nat) :
    pathOb Try.prog Try.f119 0 [rg 1,rm [(1,oc [] (.p (.bool true)))] 11] [.code (bodyOf Try.f119)] (start Try.f119 [] 0 [.p (.int .i64 k),.p (.int .i64 l)]) [] 1 [] (.p (.bool true)) =
    some [Con Try.prog 37 0 [] [.p (.int .i64 (↑k:Int)),.p (.int .i64 1),.p (.int .i64 3)] [] (.p (.bool true)),(AG true),(AG true),(AG (bif true then decide ((↑l:Int)≥0) else false)),(((bif true then decide ((↑l:Int)≥0) else false)=true)→(R0 (2*(↑k:Int)))),(((bif true then decide ((↑l:Int)≥0) else false)=true)→(R1 (2*(↑k:Int)))),(AG (bif true then decide ((↑l:Int)≥0) else false)),(AG (bif true then decide ((↑l:Int)≥0) else false)),(AG (bif true then decide ((↑l:Int)≥0) else false)),((bif bif true then decide ((↑l:Int)≥0) else false then decide ((↑l:Int)<2*(↑k:Int)) else false)=true)]:=by kernel_rfl
theorem nUi (g:Nat→T_Bar) (nb N k l m:Nat) (F T Q:Nat→Int) :
    pathOb Try.prog Try.f120 0 [rg 3,rm [(1,oc [] (.p (.bool true))),(4,oc [] (.p (.bool true)))] 2,.dec false,rm [(6,oc (pebR N m F T Q) (pebO N m 0))] 2] [.code (bodyOf Try.f120)] (start Try.f120 [] 0 [grG g nb N,.p (.int .i64 k),.p (.int .i64 l)]) [576,577,578] 1 (pebR N m F T Q) (.tup [pebO N m 0,.p (.bool true)]) =
    some [(NT 0 1),Con Try.prog 101 0 [] [(zf47 N nb g)] [] (.p (.bool true)),(AG (!!true)),(AG (!!true)),(((!!true)=true)→ Con Try.prog 122 0 [] [.p (.int .i64 (↑k:Int)),.p (.int .i64 (↑l:Int))] [] (.p (.bool true))),(AG (!!true)),(((!true)=false)→ ((!!true)=true)),((bif !true then true else !true)=false),(NT 0 1),(NT 0 1),Con Try.prog 146 0 [] [.p (.int .i64 (↑N:Int)),.p (.seq true 2 nb (fun i=>[.int .i64 ((g i).1),.int .i64 ((g i).2.1)])),.p (.int .i64 (↑k:Int)),.p (.int .i64 (↑l:Int))] (zf15 N F m T Q) (.agg [.ar 1 0 0 N,.ar 1 1 0 m,.ar 1 2 0 m]),(NT 0 1),((true=true)→ (AN 1)),(NT 0 1),(AN 0),(AN N),(AN 0),(AN m),(AN 0),(AN m),(true=true),(AN 1),(NL N N),(AA N (fun i=>[.p (.int .i64 (F i))])),(AN 1),(NL m m),(AA m (fun i=>[.p (.int .i64 (T i))])),(AN 1),(NL m m),(AA m (fun i=>[.p (.int .i64 (Q i))])),(AE N),(AE m),(AE m)]:=by kernel_rfl
theorem nKi (g:Nat→T_Bar) (nb N k l m:Nat) (F T Q:Nat→Int) :
    pathOb Try.prog Try.f65 0 [rg 2,rm [(3,oc (pebR N m F T Q) (.tup [pebO N m 0,.p (.bool true)]))] 6,rg 2,.dec false,rg 4] [.code (bodyOf Try.f65)] (start Try.f65 [] 0 [grG g nb N,.p (.int .i64 k),.p (.int .i64 l)]) [] 1 [] (.p (.int .i64 m)) =
    some [(NT 0 1),Con Try.prog 120 0 [] [(zf47 N nb g),.p (.int .i64 (↑k:Int)),.p (.int .i64 (↑l:Int))] (zf15 N F m T Q) ((zf51 N m)),(NT 0 1),((true=true)→ (AN 1)),((!true)=false),(NT 0 1),(AI ((↑m:Int)))]:=by kernel_rfl
theorem nKs (g:Nat→T_Bar) (nb N k l m:Nat) (F T Q:Nat→Int) :
    pathOb Try.prog Try.f57 0 [rg 2,rm [(3,oc (pebR N m F T Q) (.tup [pebO N m 0,.p (.bool true)]))] 6,rg 2,.dec false,rg 4] [.code (bodyOf Try.f57)] (start Try.f57 [] 0 [grG g nb N,.p (.int .i64 k),.p (.int .i64 l)]) [] 1 [] (.p (.int .i64 m)) =
    some [(NT 0 1),Con Try.prog 118 0 [] [(zf47 N nb g),.p (.int .i64 (↑k:Int)),.p (.int .i64 (↑l:Int))] (zf15 N F m T Q) ((zf51 N m)),(NT 0 1),((true=true)→ (AN 1)),((!true)=false),(NT 0 1),(AI ((↑m:Int)))]:=by kernel_rfl
theorem nTz (N m:Nat) (F T Q:Nat→Int) (x:Int) :
    pieceOb Try.prog 0 [rg 2,rg 1,rg 1,.head] [.code (bodyOf Try.f179)] (start Try.f179 [] 0 [pebD N m F T Q,.p (.int .i64 x)]) [0] 1 (ST0 N m F T Q x 0) =
    some (zf29,[(AN N),(AP N (fun i=>[.int .i64 (F i)])),(AN m),(AP m (fun i=>[.int .i64 (T i)])),(AN m),(AP m (fun i=>[.int .i64 (Q i)])),(AI x),(AN 0),((0:Int)=(tcI T 0 x)),((0:Int)=(↑0:Int)),((([inD N F,inD m T,inD m Q].length):Nat)=3),(NL 1 1),(NL 1 1),(AN N),(AP N (fun i=>[.int .i64 (F i)])),(AN m),(AP m (fun i=>[.int .i64 (T i)])),(AN m),(AP m (fun i=>[.int .i64 (Q i)]))]):=by kernel_rfl
theorem nTt (N m:Nat) (F T Q:Nat→Int) (x:Int) (i:Nat) :
    pieceOb Try.prog 0 [rg 5,.dec true,rg 7,.dec true,rg 3,rg 3,.head] zf29 (ST0 N m F T Q x i) [0] 1 (ST0 N m F T Q x (i+1)) =
    some (zf29,[(NT 0 1),((decide ((↑i:Int)<(↑m:Int)))=true),(NT 0 1),(IL 0 (↑i:Int)),(IT (↑i:Int) (↑m:Int)),((T i==x)=true),(R0 (tcI T i x+1)),(R1 (tcI T i x+1)),(R0 ((↑i:Int)+1)),(R1 ((↑i:Int)+1)),(AN N),(AP N (fun i_1=>[.int .i64 (F i_1)])),(AN m),(AP m (fun i_1=>[.int .i64 (T i_1)])),(AN m),(AP m (fun i_1=>[.int .i64 (Q i_1)])),(AI x),(AN 0),(((tcI T i x+1):Int)=(tcI T (i+1) x)),((((↑i:Int)+1):Int)=(↑(i+1):Int)),(AN 3),(NL 1 1),(NL 1 1),(AN N),(AP N (fun i_1=>[.int .i64 (F i_1)])),(AN m),(AP m (fun i_1=>[.int .i64 (T i_1)])),(AN m),(AP m (fun i_1=>[.int .i64 (Q i_1)]))]):=by kernel_rfl
theorem nTf (N m:Nat) (F T Q:Nat→Int) (x:Int) (i:Nat) :
    pieceOb Try.prog 0 [rg 5,.dec true,rg 7,.dec false,rg 3,.head] zf29 (ST0 N m F T Q x i) [0] 1 (ST0 N m F T Q x (i+1)) =
    some (zf29,[(NT 0 1),((decide ((↑i:Int)<(↑m:Int)))=true),(NT 0 1),(IL 0 (↑i:Int)),(IT (↑i:Int) (↑m:Int)),((T i==x)=false),(R0 ((↑i:Int)+1)),(R1 ((↑i:Int)+1)),(AN N),(AP N (fun i_1=>[.int .i64 (F i_1)])),(AN m),(AP m (fun i_1=>[.int .i64 (T i_1)])),(AN m),(AP m (fun i_1=>[.int .i64 (Q i_1)])),(AI x),(AN 0),(((tcI T i x):Int)=(tcI T (i+1) x)),((((↑i:Int)+1):Int)=(↑(i+1):Int)),(AN 3),(NL 1 1),(NL 1 1),(AN N),(AP N (fun i_1=>[.int .i64 (F i_1)])),(AN m),(AP m (fun i_1=>[.int .i64 (T i_1)])),(AN m),(AP m (fun i_1=>[.int .i64 (Q i_1)]))]):=by kernel_rfl
theorem nTe (N m:Nat) (F T Q:Nat→Int) (x:Int) (i:Nat) :
    pathOb Try.prog Try.f179 0 [rg 5,.dec false,rg 2] zf29 (ST0 N m F T Q x i) [] 1 [] (.p (.int .i64 (tcI T i x))) =
    some [(NT 0 1),((decide ((↑i:Int)<(↑m:Int)))=false),(AI ((tcI T i x)))]:=by kernel_rfl
theorem nJz (g:Nat→T_Bar) (nb N k m:Nat) (F T Q:Nat→Int) :
    pieceOb Try.prog 0 [rg 3,rm [(1,oc [] (.p (.bool true))),(3,oc [] (.p (.bool true)))] 19,.dec false,rg 1,.head] [.code (bodyOf Try.f160)] (start Try.f160 [] 0 [grG g nb N,.p (.int .i64 k),pebD N m F T Q]) [0,32] 1 (SI0 g nb N k m F T Q 0) =
    some (zf30,[(NT 0 1),Con Try.prog 110 0 [] [(zf47 N nb g)] [] (.p (.bool true)),(AG (!!true)),(((!!true)=true)→ Con Try.prog 37 0 [] [.p (.int .i64 (↑k:Int)),.p (.int .i64 1),.p (.int .i64 3)] [] (.p (.bool true))),(AG (!!true)),(((!true)=false)→ ((!!true)=true)),(AG (!bif !true then true else !true)),(((!bif !true then true else !true)=true)→(NT 0 1)),(AG (!bif !true then true else !true)),(AG (!bif !true then true else !true)),(((!bif !true then true else !true)=true)→(NT 0 1)),(AG (!bif !true then true else !true)),(AG (!bif !true then true else !true)),(((bif !true then true else !true)=false)→ ((!bif !true then true else !true)=true)),(AG (!bif bif !true then true else !true then true else (↑N:Int) != (↑N:Int))),(((!bif bif !true then true else !true then true else (↑N:Int) != (↑N:Int))=true)→(NT 0 1)),(AG (!bif bif !true then true else !true then true else (↑N:Int) != (↑N:Int))),(AG (!bif bif !true then true else !true then true else (↑N:Int) != (↑N:Int))),(((!bif bif !true then true else !true then true else (↑N:Int) != (↑N:Int))=true)→(NT 0 1)),(AG (!bif bif !true then true else !true then true else (↑N:Int) != (↑N:Int))),(AG (!bif bif !true then true else !true then true else (↑N:Int) != (↑N:Int))),(AG (!bif bif !true then true else !true then true else (↑N:Int) != (↑N:Int))),(((bif bif !true then true else !true then true else (↑N:Int) != (↑N:Int))=false)→ ((!bif bif !true then true else !true then true else (↑N:Int) != (↑N:Int))=true)),((bif bif bif !true then true else !true then true else (↑N:Int) != (↑N:Int) then true else (↑m:Int) != (↑m:Int))=false),(AI ((↑N:Int))),(AN nb),(AP nb (fun i=>[.int .i64 ((g i).1),.int .i64 ((g i).2.1)])),(AI ((↑k:Int))),(AN N),(AP N (fun i=>[.int .i64 (F i)])),(AN m),(AP m (fun i=>[.int .i64 (T i)])),(AN m),(AP m (fun i=>[.int .i64 (Q i)])),(AN 0),(AN 0),((0:Int)=(↑0:Int)),((([AV.p (PV.int IntKind.i64 (↑N:Int)),brL g nb].length):Nat)=2),(NL 1 1),(NL 1 1),(AI ((↑N:Int))),(AN nb),(AP nb (fun i=>[.int .i64 ((g i).1),.int .i64 ((g i).2.1)])),((([inD N F,inD m T,inD m Q].length):Nat)=3),(NL 1 1),(NL 1 1),(AN N),(AP N (fun i=>[.int .i64 (F i)])),(AN m),(AP m (fun i=>[.int .i64 (T i)])),(AN m),(AP m (fun i=>[.int .i64 (Q i)]))]):=by kernel_rfl
theorem nI0 (g:Nat→T_Bar) (nb N k m:Nat) (F T Q:Nat→Int) (i:Nat) :
    pieceOb Try.prog 0 [rg 5,.dec true,rg 6,rg 51,.dec false,rg 3,.head] zf30 (SI0 g nb N k m F T Q i) [0,1] 1 (SI0 g nb N k m F T Q (i+1)) =
    some (zf30,[(NT 0 1),((decide ((↑i:Int)<(↑m:Int)))=true),(NT 0 1),(IL 0 (↑i:Int)),(IT (↑i:Int) (↑m:Int)),(AG (!decide (Q (↑i:Int).toNat<0))),(((!decide (Q (↑i:Int).toNat<0))=true)→(NT 0 1)),(AG (!decide (Q (↑i:Int).toNat<0))),(AG (!decide (Q (↑i:Int).toNat<0))),(AG (!decide (Q (↑i:Int).toNat<0))),(((decide (Q (↑i:Int).toNat<0))=false)→ ((!decide (Q (↑i:Int).toNat<0))=true)),(AG (!bif decide (Q (↑i:Int).toNat<0) then true else decide (Q (↑i:Int).toNat≥(↑nb:Int)))),(AG (!bif decide (Q (↑i:Int).toNat<0) then true else decide (Q (↑i:Int).toNat≥(↑nb:Int)))),(AG ((!bif decide (Q (↑i:Int).toNat<0) then true else decide (Q (↑i:Int).toNat≥(↑nb:Int)))&&decide ((↑i:Int)>0))),((((!bif decide (Q (↑i:Int).toNat<0) then true else decide (Q (↑i:Int).toNat≥(↑nb:Int)))&&decide ((↑i:Int)>0))=true)→(NT 0 1)),(AG ((!bif decide (Q (↑i:Int).toNat<0) then true else decide (Q (↑i:Int).toNat≥(↑nb:Int)))&&decide ((↑i:Int)>0))),((((!bif decide (Q (↑i:Int).toNat<0) then true else decide (Q (↑i:Int).toNat≥(↑nb:Int)))&&decide ((↑i:Int)>0))=true)→(R0 ((↑i:Int) - 1))),((((!bif decide (Q (↑i:Int).toNat<0) then true else decide (Q (↑i:Int).toNat≥(↑nb:Int)))&&decide ((↑i:Int)>0))=true)→(R1 ((↑i:Int) - 1))),(AG ((!bif decide (Q (↑i:Int).toNat<0) then true else decide (Q (↑i:Int).toNat≥(↑nb:Int)))&&decide ((↑i:Int)>0))),(AG ((!bif decide (Q (↑i:Int).toNat<0) then true else decide (Q (↑i:Int).toNat≥(↑nb:Int)))&&decide ((↑i:Int)>0))),((((!bif decide (Q (↑i:Int).toNat<0) then true else decide (Q (↑i:Int).toNat≥(↑nb:Int)))&&decide ((↑i:Int)>0))=true)→(IL 0 ((↑i:Int) - 1))),((((!bif decide (Q (↑i:Int).toNat<0) then true else decide (Q (↑i:Int).toNat≥(↑nb:Int)))&&decide ((↑i:Int)>0))=true)→(IT ((↑i:Int) - 1) (↑m:Int))),(AG ((!bif decide (Q (↑i:Int).toNat<0) then true else decide (Q (↑i:Int).toNat≥(↑nb:Int)))&&decide ((↑i:Int)>0))),(AG ((!bif decide (Q (↑i:Int).toNat<0) then true else decide (Q (↑i:Int).toNat≥(↑nb:Int)))&&decide ((↑i:Int)>0))),(AG ((!bif decide (Q (↑i:Int).toNat<0) then true else decide (Q (↑i:Int).toNat≥(↑nb:Int)))&&decide ((↑i:Int)>0))),(AG (!bif decide (Q (↑i:Int).toNat<0) then true else decide (Q (↑i:Int).toNat≥(↑nb:Int)))),(((!bif decide (Q (↑i:Int).toNat<0) then true else decide (Q (↑i:Int).toNat≥(↑nb:Int)))=true)→(((decide ((↑i:Int)>0))=true)→ (((!bif decide (Q (↑i:Int).toNat<0) then true else decide (Q (↑i:Int).toNat≥(↑nb:Int)))&&decide ((↑i:Int)>0))=true))),(((bif decide (Q (↑i:Int).toNat<0) then true else decide (Q (↑i:Int).toNat≥(↑nb:Int)))=false)→ ((!bif decide (Q (↑i:Int).toNat<0) then true else decide (Q (↑i:Int).toNat≥(↑nb:Int)))=true)),(AG (!bif bif decide (Q (↑i:Int).toNat<0) then true else decide (Q (↑i:Int).toNat≥(↑nb:Int)) then true else bif decide ((↑i:Int)>0) then decide (Q ((↑i:Int) - 1).toNat≥Q (↑i:Int).toNat) else false)),(((!bif bif decide (Q (↑i:Int).toNat<0) then true else decide (Q (↑i:Int).toNat≥(↑nb:Int)) then true else bif decide ((↑i:Int)>0) then decide (Q ((↑i:Int) - 1).toNat≥Q (↑i:Int).toNat) else false)=true)→(NT 0 1)),(AG (!bif bif decide (Q (↑i:Int).toNat<0) then true else decide (Q (↑i:Int).toNat≥(↑nb:Int)) then true else bif decide ((↑i:Int)>0) then decide (Q ((↑i:Int) - 1).toNat≥Q (↑i:Int).toNat) else false)),(AG (!bif bif decide (Q (↑i:Int).toNat<0) then true else decide (Q (↑i:Int).toNat≥(↑nb:Int)) then true else bif decide ((↑i:Int)>0) then decide (Q ((↑i:Int) - 1).toNat≥Q (↑i:Int).toNat) else false)),(((!bif bif decide (Q (↑i:Int).toNat<0) then true else decide (Q (↑i:Int).toNat≥(↑nb:Int)) then true else bif decide ((↑i:Int)>0) then decide (Q ((↑i:Int) - 1).toNat≥Q (↑i:Int).toNat) else false)=true)→(IL 0 (↑i:Int))),(((!bif bif decide (Q (↑i:Int).toNat<0) then true else decide (Q (↑i:Int).toNat≥(↑nb:Int)) then true else bif decide ((↑i:Int)>0) then decide (Q ((↑i:Int) - 1).toNat≥Q (↑i:Int).toNat) else false)=true)→(IT (↑i:Int) (↑m:Int))),(AG (!bif bif decide (Q (↑i:Int).toNat<0) then true else decide (Q (↑i:Int).toNat≥(↑nb:Int)) then true else bif decide ((↑i:Int)>0) then decide (Q ((↑i:Int) - 1).toNat≥Q (↑i:Int).toNat) else false)),(AG (!bif bif decide (Q (↑i:Int).toNat<0) then true else decide (Q (↑i:Int).toNat≥(↑nb:Int)) then true else bif decide ((↑i:Int)>0) then decide (Q ((↑i:Int) - 1).toNat≥Q (↑i:Int).toNat) else false)),(((!bif bif decide (Q (↑i:Int).toNat<0) then true else decide (Q (↑i:Int).toNat≥(↑nb:Int)) then true else bif decide ((↑i:Int)>0) then decide (Q ((↑i:Int) - 1).toNat≥Q (↑i:Int).toNat) else false)=true)→(NT 0 1)),(AG (!bif bif decide (Q (↑i:Int).toNat<0) then true else decide (Q (↑i:Int).toNat≥(↑nb:Int)) then true else bif decide ((↑i:Int)>0) then decide (Q ((↑i:Int) - 1).toNat≥Q (↑i:Int).toNat) else false)),(AG (!bif bif decide (Q (↑i:Int).toNat<0) then true else decide (Q (↑i:Int).toNat≥(↑nb:Int)) then true else bif decide ((↑i:Int)>0) then decide (Q ((↑i:Int) - 1).toNat≥Q (↑i:Int).toNat) else false)),(((!bif bif decide (Q (↑i:Int).toNat<0) then true else decide (Q (↑i:Int).toNat≥(↑nb:Int)) then true else bif decide ((↑i:Int)>0) then decide (Q ((↑i:Int) - 1).toNat≥Q (↑i:Int).toNat) else false)=true)→(IL 0 (Q i))),(((!bif bif decide (Q (↑i:Int).toNat<0) then true else decide (Q (↑i:Int).toNat≥(↑nb:Int)) then true else bif decide ((↑i:Int)>0) then decide (Q ((↑i:Int) - 1).toNat≥Q (↑i:Int).toNat) else false)=true)→(IT (Q i) (↑nb:Int))),(AG (!bif bif decide (Q (↑i:Int).toNat<0) then true else decide (Q (↑i:Int).toNat≥(↑nb:Int)) then true else bif decide ((↑i:Int)>0) then decide (Q ((↑i:Int) - 1).toNat≥Q (↑i:Int).toNat) else false)),(AG (!bif bif decide (Q (↑i:Int).toNat<0) then true else decide (Q (↑i:Int).toNat≥(↑nb:Int)) then true else bif decide ((↑i:Int)>0) then decide (Q ((↑i:Int) - 1).toNat≥Q (↑i:Int).toNat) else false)),(AG (!bif bif decide (Q (↑i:Int).toNat<0) then true else decide (Q (↑i:Int).toNat≥(↑nb:Int)) then true else bif decide ((↑i:Int)>0) then decide (Q ((↑i:Int) - 1).toNat≥Q (↑i:Int).toNat) else false)),(AG (!bif bif decide (Q (↑i:Int).toNat<0) then true else decide (Q (↑i:Int).toNat≥(↑nb:Int)) then true else bif decide ((↑i:Int)>0) then decide (Q ((↑i:Int) - 1).toNat≥Q (↑i:Int).toNat) else false)),(AG (!bif bif decide (Q (↑i:Int).toNat<0) then true else decide (Q (↑i:Int).toNat≥(↑nb:Int)) then true else bif decide ((↑i:Int)>0) then decide (Q ((↑i:Int) - 1).toNat≥Q (↑i:Int).toNat) else false)),(AG ((!bif bif decide (Q (↑i:Int).toNat<0) then true else decide (Q (↑i:Int).toNat≥(↑nb:Int)) then true else bif decide ((↑i:Int)>0) then decide (Q ((↑i:Int) - 1).toNat≥Q (↑i:Int).toNat) else false)&&T i != (g (Q i).toNat).1)),((((!bif bif decide (Q (↑i:Int).toNat<0) then true else decide (Q (↑i:Int).toNat≥(↑nb:Int)) then true else bif decide ((↑i:Int)>0) then decide (Q ((↑i:Int) - 1).toNat≥Q (↑i:Int).toNat) else false)&&T i != (g (Q i).toNat).1)=true)→(NT 0 1)),(AG ((!bif bif decide (Q (↑i:Int).toNat<0) then true else decide (Q (↑i:Int).toNat≥(↑nb:Int)) then true else bif decide ((↑i:Int)>0) then decide (Q ((↑i:Int) - 1).toNat≥Q (↑i:Int).toNat) else false)&&T i != (g (Q i).toNat).1)),(AG ((!bif bif decide (Q (↑i:Int).toNat<0) then true else decide (Q (↑i:Int).toNat≥(↑nb:Int)) then true else bif decide ((↑i:Int)>0) then decide (Q ((↑i:Int) - 1).toNat≥Q (↑i:Int).toNat) else false)&&T i != (g (Q i).toNat).1)),((((!bif bif decide (Q (↑i:Int).toNat<0) then true else decide (Q (↑i:Int).toNat≥(↑nb:Int)) then true else bif decide ((↑i:Int)>0) then decide (Q ((↑i:Int) - 1).toNat≥Q (↑i:Int).toNat) else false)&&T i != (g (Q i).toNat).1)=true)→(IL 0 (↑i:Int))),((((!bif bif decide (Q (↑i:Int).toNat<0) then true else decide (Q (↑i:Int).toNat≥(↑nb:Int)) then true else bif decide ((↑i:Int)>0) then decide (Q ((↑i:Int) - 1).toNat≥Q (↑i:Int).toNat) else false)&&T i != (g (Q i).toNat).1)=true)→(IT (↑i:Int) (↑m:Int))),(AG ((!bif bif decide (Q (↑i:Int).toNat<0) then true else decide (Q (↑i:Int).toNat≥(↑nb:Int)) then true else bif decide ((↑i:Int)>0) then decide (Q ((↑i:Int) - 1).toNat≥Q (↑i:Int).toNat) else false)&&T i != (g (Q i).toNat).1)),(AG ((!bif bif decide (Q (↑i:Int).toNat<0) then true else decide (Q (↑i:Int).toNat≥(↑nb:Int)) then true else bif decide ((↑i:Int)>0) then decide (Q ((↑i:Int) - 1).toNat≥Q (↑i:Int).toNat) else false)&&T i != (g (Q i).toNat).1)),((((!bif bif decide (Q (↑i:Int).toNat<0) then true else decide (Q (↑i:Int).toNat≥(↑nb:Int)) then true else bif decide ((↑i:Int)>0) then decide (Q ((↑i:Int) - 1).toNat≥Q (↑i:Int).toNat) else false)&&T i != (g (Q i).toNat).1)=true)→(NT 0 1)),(AG ((!bif bif decide (Q (↑i:Int).toNat<0) then true else decide (Q (↑i:Int).toNat≥(↑nb:Int)) then true else bif decide ((↑i:Int)>0) then decide (Q ((↑i:Int) - 1).toNat≥Q (↑i:Int).toNat) else false)&&T i != (g (Q i).toNat).1)),(AG ((!bif bif decide (Q (↑i:Int).toNat<0) then true else decide (Q (↑i:Int).toNat≥(↑nb:Int)) then true else bif decide ((↑i:Int)>0) then decide (Q ((↑i:Int) - 1).toNat≥Q (↑i:Int).toNat) else false)&&T i != (g (Q i).toNat).1)),((((!bif bif decide (Q (↑i:Int).toNat<0) then true else decide (Q (↑i:Int).toNat≥(↑nb:Int)) then true else bif decide ((↑i:Int)>0) then decide (Q ((↑i:Int) - 1).toNat≥Q (↑i:Int).toNat) else false)&&T i != (g (Q i).toNat).1)=true)→(IL 0 (Q i))),((((!bif bif decide (Q (↑i:Int).toNat<0) then true else decide (Q (↑i:Int).toNat≥(↑nb:Int)) then true else bif decide ((↑i:Int)>0) then decide (Q ((↑i:Int) - 1).toNat≥Q (↑i:Int).toNat) else false)&&T i != (g (Q i).toNat).1)=true)→(IT (Q i) (↑nb:Int))),(AG ((!bif bif decide (Q (↑i:Int).toNat<0) then true else decide (Q (↑i:Int).toNat≥(↑nb:Int)) then true else bif decide ((↑i:Int)>0) then decide (Q ((↑i:Int) - 1).toNat≥Q (↑i:Int).toNat) else false)&&T i != (g (Q i).toNat).1)),(AG ((!bif bif decide (Q (↑i:Int).toNat<0) then true else decide (Q (↑i:Int).toNat≥(↑nb:Int)) then true else bif decide ((↑i:Int)>0) then decide (Q ((↑i:Int) - 1).toNat≥Q (↑i:Int).toNat) else false)&&T i != (g (Q i).toNat).1)),(AG ((!bif bif decide (Q (↑i:Int).toNat<0) then true else decide (Q (↑i:Int).toNat≥(↑nb:Int)) then true else bif decide ((↑i:Int)>0) then decide (Q ((↑i:Int) - 1).toNat≥Q (↑i:Int).toNat) else false)&&T i != (g (Q i).toNat).1)),(AG ((!bif bif decide (Q (↑i:Int).toNat<0) then true else decide (Q (↑i:Int).toNat≥(↑nb:Int)) then true else bif decide ((↑i:Int)>0) then decide (Q ((↑i:Int) - 1).toNat≥Q (↑i:Int).toNat) else false)&&T i != (g (Q i).toNat).1)),(AG (!bif bif decide (Q (↑i:Int).toNat<0) then true else decide (Q (↑i:Int).toNat≥(↑nb:Int)) then true else bif decide ((↑i:Int)>0) then decide (Q ((↑i:Int) - 1).toNat≥Q (↑i:Int).toNat) else false)),(((!bif bif decide (Q (↑i:Int).toNat<0) then true else decide (Q (↑i:Int).toNat≥(↑nb:Int)) then true else bif decide ((↑i:Int)>0) then decide (Q ((↑i:Int) - 1).toNat≥Q (↑i:Int).toNat) else false)=true)→(((T i != (g (Q i).toNat).1)=true)→ (((!bif bif decide (Q (↑i:Int).toNat<0) then true else decide (Q (↑i:Int).toNat≥(↑nb:Int)) then true else bif decide ((↑i:Int)>0) then decide (Q ((↑i:Int) - 1).toNat≥Q (↑i:Int).toNat) else false)&&T i != (g (Q i).toNat).1)=true))),(((bif bif decide (Q (↑i:Int).toNat<0) then true else decide (Q (↑i:Int).toNat≥(↑nb:Int)) then true else bif decide ((↑i:Int)>0) then decide (Q ((↑i:Int) - 1).toNat≥Q (↑i:Int).toNat) else false)=false)→ ((!bif bif decide (Q (↑i:Int).toNat<0) then true else decide (Q (↑i:Int).toNat≥(↑nb:Int)) then true else bif decide ((↑i:Int)>0) then decide (Q ((↑i:Int) - 1).toNat≥Q (↑i:Int).toNat) else false)=true)),((bif bif bif decide (Q (↑i:Int).toNat<0) then true else decide (Q (↑i:Int).toNat≥(↑nb:Int)) then true else bif decide ((↑i:Int)>0) then decide (Q ((↑i:Int) - 1).toNat≥Q (↑i:Int).toNat) else false then true else bif T i != (g (Q i).toNat).1 then T i != (g (Q i).toNat).2.1 else false)=false),(R0 ((↑i:Int)+1)),(R1 ((↑i:Int)+1)),(AI ((↑N:Int))),(AN nb),(AP nb (fun i_1=>[.int .i64 ((g i_1).1),.int .i64 ((g i_1).2.1)])),(AI ((↑k:Int))),(AN N),(AP N (fun i_1=>[.int .i64 (F i_1)])),(AN m),(AP m (fun i_1=>[.int .i64 (T i_1)])),(AN m),(AP m (fun i_1=>[.int .i64 (Q i_1)])),(AN 0),(AN 0),((((↑i:Int)+1):Int)=(↑(i+1):Int)),(AN 2),(NL 1 1),(NL 1 1),(AI ((↑N:Int))),(AN nb),(AP nb (fun i_1=>[.int .i64 ((g i_1).1),.int .i64 ((g i_1).2.1)])),(AN 3),(NL 1 1),(NL 1 1),(AN N),(AP N (fun i_1=>[.int .i64 (F i_1)])),(AN m),(AP m (fun i_1=>[.int .i64 (T i_1)])),(AN m),(AP m (fun i_1=>[.int .i64 (Q i_1)]))]):=by kernel_rfl
theorem nI01 (g:Nat→T_Bar) (nb N k m:Nat) (F T Q:Nat→Int) (i:Nat) :
    pieceOb Try.prog 0 [rg 5,.dec false,rg 1,.head] zf30 (SI0 g nb N k m F T Q i) [0,1] 1 (SI1 g nb N k m F T Q 0) =
    some (zf20,[(NT 0 1),((decide ((↑i:Int)<(↑m:Int)))=false),(AI ((↑N:Int))),(AN nb),(AP nb (fun i_1=>[.int .i64 ((g i_1).1),.int .i64 ((g i_1).2.1)])),(AI ((↑k:Int))),(AN N),(AP N (fun i_1=>[.int .i64 (F i_1)])),(AN m),(AP m (fun i_1=>[.int .i64 (T i_1)])),(AN m),(AP m (fun i_1=>[.int .i64 (Q i_1)])),(AN 0),(AN 0),((0:Int)=(↑0:Int)),(AN 2),(NL 1 1),(NL 1 1),(AI ((↑N:Int))),(AN nb),(AP nb (fun i_1=>[.int .i64 ((g i_1).1),.int .i64 ((g i_1).2.1)])),(AN 3),(NL 1 1),(NL 1 1),(AN N),(AP N (fun i_1=>[.int .i64 (F i_1)])),(AN m),(AP m (fun i_1=>[.int .i64 (T i_1)])),(AN m),(AP m (fun i_1=>[.int .i64 (Q i_1)]))]):=by kernel_rfl
theorem nI1 (g:Nat→T_Bar) (nb N k m:Nat) (F T Q:Nat→Int) (i:Nat) :
    pieceOb Try.prog 0 [rg 4,.dec true,rm [(14,oc [] (.p (.int .i64 (tcI T m i))))] 4,.dec false,rg 3,.head] zf20 (SI1 g nb N k m F T Q i) [0,1] 1 (SI1 g nb N k m F T Q (i+1)) =
    some (zf20,[(NT 0 1),((decide ((↑i:Int)<(↑N:Int)))=true),(NT 0 1),(IL 0 (↑i:Int)),(IT (↑i:Int) (↑N:Int)),(AG (!decide (F (↑i:Int).toNat<0))),(((!decide (F (↑i:Int).toNat<0))=true)→(NT 0 1)),(AG (!decide (F (↑i:Int).toNat<0))),(AG (!decide (F (↑i:Int).toNat<0))),(((!decide (F (↑i:Int).toNat<0))=true)→(IL 0 (↑i:Int))),(((!decide (F (↑i:Int).toNat<0))=true)→(IT (↑i:Int) (↑N:Int))),(AG (!decide (F (↑i:Int).toNat<0))),(((!decide (F (↑i:Int).toNat<0))=true)→(NT 0 1)),(AG (!decide (F (↑i:Int).toNat<0))),(AG (!decide (F (↑i:Int).toNat<0))),(((!decide (F (↑i:Int).toNat<0))=true)→ Con Try.prog 179 0 [] [.agg [.p (.seq true 1 N (fun i_1=>[.int .i64 (F i_1)])),.p (.seq true 1 m (fun i_1=>[.int .i64 (T i_1)])),.p (.seq true 1 m (fun i_1=>[.int .i64 (Q i_1)]))],.p (.int .i64 (↑i:Int))] [] (.p (.int .i64 (tcI T m (↑i:Int))))),(AG (!decide (F (↑i:Int).toNat<0))),(AG (!decide (F (↑i:Int).toNat<0))),(((!decide (F (↑i:Int).toNat<0))=true)→(R0 (F i+tcI T m (↑i:Int)))),(((!decide (F (↑i:Int).toNat<0))=true)→(R1 (F i+tcI T m (↑i:Int)))),(AG (!decide (F (↑i:Int).toNat<0))),(AG (!decide (F (↑i:Int).toNat<0))),(((decide (F (↑i:Int).toNat<0))=false)→ ((!decide (F (↑i:Int).toNat<0))=true)),((bif decide (F (↑i:Int).toNat<0) then true else F i+tcI T m (↑i:Int) != (↑k:Int))=false),(R0 ((↑i:Int)+1)),(R1 ((↑i:Int)+1)),(AI ((↑N:Int))),(AN nb),(AP nb (fun i_1=>[.int .i64 ((g i_1).1),.int .i64 ((g i_1).2.1)])),(AI ((↑k:Int))),(AN N),(AP N (fun i_1=>[.int .i64 (F i_1)])),(AN m),(AP m (fun i_1=>[.int .i64 (T i_1)])),(AN m),(AP m (fun i_1=>[.int .i64 (Q i_1)])),(AN 0),(AN 0),((((↑i:Int)+1):Int)=(↑(i+1):Int)),(AN 2),(NL 1 1),(NL 1 1),(AI ((↑N:Int))),(AN nb),(AP nb (fun i_1=>[.int .i64 ((g i_1).1),.int .i64 ((g i_1).2.1)])),(AN 3),(NL 1 1),(NL 1 1),(AN N),(AP N (fun i_1=>[.int .i64 (F i_1)])),(AN m),(AP m (fun i_1=>[.int .i64 (T i_1)])),(AN m),(AP m (fun i_1=>[.int .i64 (Q i_1)]))]):=by kernel_rfl
theorem nJe (g:Nat→T_Bar) (nb N k m:Nat) (F T Q:Nat→Int) (i:Nat) :
    pathOb Try.prog Try.f160 0 [rg 4,.dec false,rg 1] zf20 (SI1 g nb N k m F T Q i) [] 1 [] (.p (.bool true)) =
    some [(NT 0 1),((decide ((↑i:Int)<(↑N:Int)))=false),(true=true)]:=by kernel_rfl
theorem nPf (g:Nat→T_Bar) (nb N k l m e:Nat) (F T Q F1 T1:Nat→Int) :
    pathOb Try.prog Try.f145 0 [rg 4,rm [(3,oc [] (.p (.bool true))),(4,oc [] (.p (.bool true)))] 31,.dec false,rg 7,rm [(8,oc (pebR N m F1 T1 Q) (.tup [pebO N m 0,.p (.bool false)]))] 6,rg 2,.dec true,rm [(1,oc (pebR N m F T Q) (pebO N m 0))] 2] [.code (bodyOf Try.f145)] (start Try.f145 [] 0 [grG g nb N,.p (.int .i64 k),.p (.int .i64 l),pebD N m F T Q,.p (.int .i64 e)]) [2208,2209,2210] 1 (pebR N m F T Q) (.tup [pebO N m 0,.p (.bool false)]) =
    some [(NT 0 1),(NT 0 1),Con Try.prog 160 0 [] [(zf47 N nb g),.p (.int .i64 (↑k:Int)),(zf24 N F m T Q)] [] (.p (.bool true)),(AG (!!true)),(AG (!!true)),(((!!true)=true)→ Con Try.prog 119 0 [] [.p (.int .i64 (↑k:Int)),.p (.int .i64 (↑l:Int))] [] (.p (.bool true))),(AG (!!true)),(((!true)=false)→ ((!!true)=true)),(AG (!bif !true then true else !true)),(((bif !true then true else !true)=false)→ ((!bif !true then true else !true)=true)),(AG (!bif bif !true then true else !true then true else decide ((↑e:Int)<0))),(((!bif bif !true then true else !true then true else decide ((↑e:Int)<0))=true)→(NT 0 1)),(AG (!bif bif !true then true else !true then true else decide ((↑e:Int)<0))),(AG (!bif bif !true then true else !true then true else decide ((↑e:Int)<0))),(AG (!bif bif !true then true else !true then true else decide ((↑e:Int)<0))),(((bif bif !true then true else !true then true else decide ((↑e:Int)<0))=false)→ ((!bif bif !true then true else !true then true else decide ((↑e:Int)<0))=true)),(AG (!bif bif bif !true then true else !true then true else decide ((↑e:Int)<0) then true else decide ((↑e:Int)≥(↑nb:Int)))),(((!bif bif bif !true then true else !true then true else decide ((↑e:Int)<0) then true else decide ((↑e:Int)≥(↑nb:Int)))=true)→(NT 0 1)),(AG (!bif bif bif !true then true else !true then true else decide ((↑e:Int)<0) then true else decide ((↑e:Int)≥(↑nb:Int)))),(AG (!bif bif bif !true then true else !true then true else decide ((↑e:Int)<0) then true else decide ((↑e:Int)≥(↑nb:Int)))),(AG (!bif bif bif !true then true else !true then true else decide ((↑e:Int)<0) then true else decide ((↑e:Int)≥(↑nb:Int)))),(AG ((!bif bif bif !true then true else !true then true else decide ((↑e:Int)<0) then true else decide ((↑e:Int)≥(↑nb:Int)))&&decide ((↑m:Int)>0))),((((!bif bif bif !true then true else !true then true else decide ((↑e:Int)<0) then true else decide ((↑e:Int)≥(↑nb:Int)))&&decide ((↑m:Int)>0))=true)→(NT 0 1)),(AG ((!bif bif bif !true then true else !true then true else decide ((↑e:Int)<0) then true else decide ((↑e:Int)≥(↑nb:Int)))&&decide ((↑m:Int)>0))),((((!bif bif bif !true then true else !true then true else decide ((↑e:Int)<0) then true else decide ((↑e:Int)≥(↑nb:Int)))&&decide ((↑m:Int)>0))=true)→(NT 0 1)),(AG ((!bif bif bif !true then true else !true then true else decide ((↑e:Int)<0) then true else decide ((↑e:Int)≥(↑nb:Int)))&&decide ((↑m:Int)>0))),(AG ((!bif bif bif !true then true else !true then true else decide ((↑e:Int)<0) then true else decide ((↑e:Int)≥(↑nb:Int)))&&decide ((↑m:Int)>0))),((((!bif bif bif !true then true else !true then true else decide ((↑e:Int)<0) then true else decide ((↑e:Int)≥(↑nb:Int)))&&decide ((↑m:Int)>0))=true)→(R0 ((↑m:Int) - 1))),((((!bif bif bif !true then true else !true then true else decide ((↑e:Int)<0) then true else decide ((↑e:Int)≥(↑nb:Int)))&&decide ((↑m:Int)>0))=true)→(R1 ((↑m:Int) - 1))),(AG ((!bif bif bif !true then true else !true then true else decide ((↑e:Int)<0) then true else decide ((↑e:Int)≥(↑nb:Int)))&&decide ((↑m:Int)>0))),(AG ((!bif bif bif !true then true else !true then true else decide ((↑e:Int)<0) then true else decide ((↑e:Int)≥(↑nb:Int)))&&decide ((↑m:Int)>0))),((((!bif bif bif !true then true else !true then true else decide ((↑e:Int)<0) then true else decide ((↑e:Int)≥(↑nb:Int)))&&decide ((↑m:Int)>0))=true)→(IL 0 ((↑m:Int) - 1))),((((!bif bif bif !true then true else !true then true else decide ((↑e:Int)<0) then true else decide ((↑e:Int)≥(↑nb:Int)))&&decide ((↑m:Int)>0))=true)→(IT ((↑m:Int) - 1) (↑m:Int))),(AG ((!bif bif bif !true then true else !true then true else decide ((↑e:Int)<0) then true else decide ((↑e:Int)≥(↑nb:Int)))&&decide ((↑m:Int)>0))),(AG ((!bif bif bif !true then true else !true then true else decide ((↑e:Int)<0) then true else decide ((↑e:Int)≥(↑nb:Int)))&&decide ((↑m:Int)>0))),(AG ((!bif bif bif !true then true else !true then true else decide ((↑e:Int)<0) then true else decide ((↑e:Int)≥(↑nb:Int)))&&decide ((↑m:Int)>0))),(AG (!bif bif bif !true then true else !true then true else decide ((↑e:Int)<0) then true else decide ((↑e:Int)≥(↑nb:Int)))),(((!bif bif bif !true then true else !true then true else decide ((↑e:Int)<0) then true else decide ((↑e:Int)≥(↑nb:Int)))=true)→(((decide ((↑m:Int)>0))=true)→ (((!bif bif bif !true then true else !true then true else decide ((↑e:Int)<0) then true else decide ((↑e:Int)≥(↑nb:Int)))&&decide ((↑m:Int)>0))=true))),(((bif bif bif !true then true else !true then true else decide ((↑e:Int)<0) then true else decide ((↑e:Int)≥(↑nb:Int)))=false)→ ((!bif bif bif !true then true else !true then true else decide ((↑e:Int)<0) then true else decide ((↑e:Int)≥(↑nb:Int)))=true)),((bif bif bif bif !true then true else !true then true else decide ((↑e:Int)<0) then true else decide ((↑e:Int)≥(↑nb:Int)) then true else bif decide ((↑m:Int)>0) then decide (Q ((↑m:Int) - 1).toNat≥(↑e:Int)) else false)=false),(NT 0 1),(IL 0 (↑e:Int)),(IT (↑e:Int) (↑nb:Int)),(NT 0 1),((true=true)→ (AN 1)),(NT 0 1),(NT 0 1),(NT 0 1),(NT 0 1),(R0 ((↑l:Int)+1)),(R1 ((↑l:Int)+1)),Con Try.prog 162 0 [] [(zf47 N nb g),(zf24 N F m T Q),.p (.int .i64 ((g e).1)),.p (.int .i64 ((g e).2.1)),.p (.int .i64 ((↑l:Int)+1))] (zf15 N F1 m T1 Q) ((zf50 N m)),(NT 0 1),((true=true)→ (AN 1)),((!false)=true),(NT 0 1),Con Try.prog 161 0 [] [(zf24 N F m T Q)] (zf15 N F m T Q) (.agg [.ar 1 0 0 N,.ar 1 1 0 m,.ar 1 2 0 m]),(NT 0 1),((true=true)→ (AN 1)),(NT 0 1),(AN 0),(AN N),(AN 0),(AN m),(AN 0),(AN m),(false=false),(AN 1),(NL N N),(AA N (fun i=>[.p (.int .i64 (F i))])),(AN 1),(NL m m),(AA m (fun i=>[.p (.int .i64 (T i))])),(AN 1),(NL m m),(AA m (fun i=>[.p (.int .i64 (Q i))])),(AE N),(AE m),(AE m)]:=by kernel_rfl
theorem nPa (g:Nat→T_Bar) (nb N k l m e:Nat) (F T Q F1 T1:Nat→Int) :
    pathOb Try.prog Try.f145 0 [rg 4,rm [(3,oc [] (.p (.bool true))),(4,oc [] (.p (.bool true)))] 31,.dec false,rg 7,rm [(8,oc (pebR N m F1 T1 Q) (.tup [pebO N m 0,.p (.bool true)]))] 6,rg 2,.dec false,rg 3,rg 7,.dec false,rg 11,rg 7,rg 7,rg 3] [.code (bodyOf Try.f145)] (start Try.f145 [] 0 [grG g nb N,.p (.int .i64 k),.p (.int .i64 l),pebD N m F T Q,.p (.int .i64 e)]) [1888,2976,3200] 1 (pebR N (m+1) (fun s=>if s=(g e).1.toNat then F1 s - 1 else F1 s) (fun s=>if s<m then T1 s else (g e).1) (fun s=>if s<m then Q s else e)) (.tup [pebO N (m+1) 0,.p (.bool true)]) =
    some [(NT 0 1),(NT 0 1),Con Try.prog 160 0 [] [(zf47 N nb g),.p (.int .i64 (↑k:Int)),(zf24 N F m T Q)] [] (.p (.bool true)),(AG (!!true)),(AG (!!true)),(((!!true)=true)→ Con Try.prog 119 0 [] [.p (.int .i64 (↑k:Int)),.p (.int .i64 (↑l:Int))] [] (.p (.bool true))),(AG (!!true)),(((!true)=false)→ ((!!true)=true)),(AG (!bif !true then true else !true)),(((bif !true then true else !true)=false)→ ((!bif !true then true else !true)=true)),(AG (!bif bif !true then true else !true then true else decide ((↑e:Int)<0))),(((!bif bif !true then true else !true then true else decide ((↑e:Int)<0))=true)→(NT 0 1)),(AG (!bif bif !true then true else !true then true else decide ((↑e:Int)<0))),(AG (!bif bif !true then true else !true then true else decide ((↑e:Int)<0))),(AG (!bif bif !true then true else !true then true else decide ((↑e:Int)<0))),(((bif bif !true then true else !true then true else decide ((↑e:Int)<0))=false)→ ((!bif bif !true then true else !true then true else decide ((↑e:Int)<0))=true)),(AG (!bif bif bif !true then true else !true then true else decide ((↑e:Int)<0) then true else decide ((↑e:Int)≥(↑nb:Int)))),(((!bif bif bif !true then true else !true then true else decide ((↑e:Int)<0) then true else decide ((↑e:Int)≥(↑nb:Int)))=true)→(NT 0 1)),(AG (!bif bif bif !true then true else !true then true else decide ((↑e:Int)<0) then true else decide ((↑e:Int)≥(↑nb:Int)))),(AG (!bif bif bif !true then true else !true then true else decide ((↑e:Int)<0) then true else decide ((↑e:Int)≥(↑nb:Int)))),(AG (!bif bif bif !true then true else !true then true else decide ((↑e:Int)<0) then true else decide ((↑e:Int)≥(↑nb:Int)))),(AG ((!bif bif bif !true then true else !true then true else decide ((↑e:Int)<0) then true else decide ((↑e:Int)≥(↑nb:Int)))&&decide ((↑m:Int)>0))),((((!bif bif bif !true then true else !true then true else decide ((↑e:Int)<0) then true else decide ((↑e:Int)≥(↑nb:Int)))&&decide ((↑m:Int)>0))=true)→(NT 0 1)),(AG ((!bif bif bif !true then true else !true then true else decide ((↑e:Int)<0) then true else decide ((↑e:Int)≥(↑nb:Int)))&&decide ((↑m:Int)>0))),((((!bif bif bif !true then true else !true then true else decide ((↑e:Int)<0) then true else decide ((↑e:Int)≥(↑nb:Int)))&&decide ((↑m:Int)>0))=true)→(NT 0 1)),(AG ((!bif bif bif !true then true else !true then true else decide ((↑e:Int)<0) then true else decide ((↑e:Int)≥(↑nb:Int)))&&decide ((↑m:Int)>0))),(AG ((!bif bif bif !true then true else !true then true else decide ((↑e:Int)<0) then true else decide ((↑e:Int)≥(↑nb:Int)))&&decide ((↑m:Int)>0))),((((!bif bif bif !true then true else !true then true else decide ((↑e:Int)<0) then true else decide ((↑e:Int)≥(↑nb:Int)))&&decide ((↑m:Int)>0))=true)→(R0 ((↑m:Int) - 1))),((((!bif bif bif !true then true else !true then true else decide ((↑e:Int)<0) then true else decide ((↑e:Int)≥(↑nb:Int)))&&decide ((↑m:Int)>0))=true)→(R1 ((↑m:Int) - 1))),(AG ((!bif bif bif !true then true else !true then true else decide ((↑e:Int)<0) then true else decide ((↑e:Int)≥(↑nb:Int)))&&decide ((↑m:Int)>0))),(AG ((!bif bif bif !true then true else !true then true else decide ((↑e:Int)<0) then true else decide ((↑e:Int)≥(↑nb:Int)))&&decide ((↑m:Int)>0))),((((!bif bif bif !true then true else !true then true else decide ((↑e:Int)<0) then true else decide ((↑e:Int)≥(↑nb:Int)))&&decide ((↑m:Int)>0))=true)→(IL 0 ((↑m:Int) - 1))),((((!bif bif bif !true then true else !true then true else decide ((↑e:Int)<0) then true else decide ((↑e:Int)≥(↑nb:Int)))&&decide ((↑m:Int)>0))=true)→(IT ((↑m:Int) - 1) (↑m:Int))),(AG ((!bif bif bif !true then true else !true then true else decide ((↑e:Int)<0) then true else decide ((↑e:Int)≥(↑nb:Int)))&&decide ((↑m:Int)>0))),(AG ((!bif bif bif !true then true else !true then true else decide ((↑e:Int)<0) then true else decide ((↑e:Int)≥(↑nb:Int)))&&decide ((↑m:Int)>0))),(AG ((!bif bif bif !true then true else !true then true else decide ((↑e:Int)<0) then true else decide ((↑e:Int)≥(↑nb:Int)))&&decide ((↑m:Int)>0))),(AG (!bif bif bif !true then true else !true then true else decide ((↑e:Int)<0) then true else decide ((↑e:Int)≥(↑nb:Int)))),(((!bif bif bif !true then true else !true then true else decide ((↑e:Int)<0) then true else decide ((↑e:Int)≥(↑nb:Int)))=true)→(((decide ((↑m:Int)>0))=true)→ (((!bif bif bif !true then true else !true then true else decide ((↑e:Int)<0) then true else decide ((↑e:Int)≥(↑nb:Int)))&&decide ((↑m:Int)>0))=true))),(((bif bif bif !true then true else !true then true else decide ((↑e:Int)<0) then true else decide ((↑e:Int)≥(↑nb:Int)))=false)→ ((!bif bif bif !true then true else !true then true else decide ((↑e:Int)<0) then true else decide ((↑e:Int)≥(↑nb:Int)))=true)),((bif bif bif bif !true then true else !true then true else decide ((↑e:Int)<0) then true else decide ((↑e:Int)≥(↑nb:Int)) then true else bif decide ((↑m:Int)>0) then decide (Q ((↑m:Int) - 1).toNat≥(↑e:Int)) else false)=false),(NT 0 1),(IL 0 (↑e:Int)),(IT (↑e:Int) (↑nb:Int)),(NT 0 1),((true=true)→ (AN 1)),(NT 0 1),(NT 0 1),(NT 0 1),(NT 0 1),(R0 ((↑l:Int)+1)),(R1 ((↑l:Int)+1)),Con Try.prog 162 0 [] [(zf47 N nb g),(zf24 N F m T Q),.p (.int .i64 ((g e).1)),.p (.int .i64 ((g e).2.1)),.p (.int .i64 ((↑l:Int)+1))] (zf15 N F1 m T1 Q) ((zf51 N m)),(NT 0 1),((true=true)→ (AN 1)),((!true)=false),(NT 0 1),(NT 0 1),(NT 0 1),(IL 0 ((g e).1)),(IT ((g e).1) (↑N:Int)),(NT ((g e).1.toNat) N),((F1 (g e).1.toNat==0)=false),(NT 0 1),(NT 0 1),(IL 0 ((g e).1)),(IT ((g e).1) (↑N:Int)),(NT ((g e).1.toNat) N),(R0 (F1 (g e).1.toNat - 1)),(R1 (F1 (g e).1.toNat - 1)),(IL 0 ((g e).1)),(IT ((g e).1) (↑N:Int)),(NT ((g e).1.toNat) N),((false=true)→ ((N:Nat)=1)),(NT 0 1),(NL 1 1),(NL m m),(NL ((m+1)*8) 140737488355328),(NL (m+1) 9223372036854775807),(NT 0 1),((true=true)→ (AN 1)),(NT 0 1),(NL 1 1),(NL m m),(NL ((m+1)*8) 140737488355328),(NL (m+1) 9223372036854775807),(NT 0 1),((true=true)→ (AN 1)),(NT 0 1),(NT 0 1),((true=true)→ (AN 1)),(NT 0 1),(AN 0),(AN N),(AN 0),(AN ((m+1))),(AN 0),(AN ((m+1))),(true=true),(AN 1),(NL N N),(CV [(64,⟨true,3,1,(fun i_1=>[.ar 1 1888 0 N,.ar 1 2976 0 (m+1),.ar 1 3200 0 (m+1)])⟩),(2016,⟨true,3,1,(fun i_1=>[.ar 1 1888 0 N,.ar 1 2976 0 (m+1),.ar 1 3200 0 (m+1)])⟩),(3200,⟨false,1,(m+1),(fun i_1=>(if (i_1<m) then [.p (.int .i64 (Q i_1))] else [.p (.int .i64 (↑e:Int))]))⟩),(3168,⟨false,1,1,(fun i_1=>[.p (.int .i64 (↑e:Int))])⟩),(2976,⟨false,1,(m+1),(fun i_1=>(if (i_1<m) then [.p (.int .i64 (T1 i_1))] else [.p (.int .i64 ((g e).1))]))⟩),(2944,⟨false,1,1,(fun i_1=>[.p (.int .i64 ((g e).1))])⟩),(1888,⟨false,1,N,(fun i_1=>(if (i_1=(g e).1.toNat) then [.p (.int .i64 (F1 (g e).1.toNat - 1))] else [.p (.int .i64 (F1 i_1))]))⟩),(1568,⟨true,2,1,(fun i_1=>[.p (.int .i64 ((g e).1)),.p (.int .i64 ((g e).2.1))])⟩),(32,⟨true,3,1,(fun i_1=>[.p (.seq true 1 N (fun i_2=>[.int .i64 (F i_2)])),.p (.seq true 1 m (fun i_2=>[.int .i64 (T i_2)])),.p (.seq true 1 m (fun i_2=>[.int .i64 (Q i_2)]))])⟩),(0,⟨true,2,1,(fun i_1=>[.p (.int .i64 (↑N:Int)),.p (.seq true 2 nb (fun i_2=>[.int .i64 ((g i_2).1),.int .i64 ((g i_2).2.1)]))])⟩)] [1888,2976,3200] 1 N (fun i=>if (i=(g e).1.toNat) then [.p (.int .i64 (F1 (g e).1.toNat - 1))] else [.p (.int .i64 (F1 i))]) (fun i=>[.p (.int .i64 (if i=(g e).1.toNat then F1 i - 1 else F1 i))])),(AN 1),(NL (m+1) (m+1)),(CV [(64,⟨true,3,1,(fun i_1=>[.ar 1 1888 0 N,.ar 1 2976 0 (m+1),.ar 1 3200 0 (m+1)])⟩),(2016,⟨true,3,1,(fun i_1=>[.ar 1 1888 0 N,.ar 1 2976 0 (m+1),.ar 1 3200 0 (m+1)])⟩),(3200,⟨false,1,(m+1),(fun i_1=>(if (i_1<m) then [.p (.int .i64 (Q i_1))] else [.p (.int .i64 (↑e:Int))]))⟩),(3168,⟨false,1,1,(fun i_1=>[.p (.int .i64 (↑e:Int))])⟩),(2976,⟨false,1,(m+1),(fun i_1=>(if (i_1<m) then [.p (.int .i64 (T1 i_1))] else [.p (.int .i64 ((g e).1))]))⟩),(2944,⟨false,1,1,(fun i_1=>[.p (.int .i64 ((g e).1))])⟩),(1888,⟨false,1,N,(fun i_1=>(if (i_1=(g e).1.toNat) then [.p (.int .i64 (F1 (g e).1.toNat - 1))] else [.p (.int .i64 (F1 i_1))]))⟩),(1568,⟨true,2,1,(fun i_1=>[.p (.int .i64 ((g e).1)),.p (.int .i64 ((g e).2.1))])⟩),(32,⟨true,3,1,(fun i_1=>[.p (.seq true 1 N (fun i_2=>[.int .i64 (F i_2)])),.p (.seq true 1 m (fun i_2=>[.int .i64 (T i_2)])),.p (.seq true 1 m (fun i_2=>[.int .i64 (Q i_2)]))])⟩),(0,⟨true,2,1,(fun i_1=>[.p (.int .i64 (↑N:Int)),.p (.seq true 2 nb (fun i_2=>[.int .i64 ((g i_2).1),.int .i64 ((g i_2).2.1)]))])⟩)] [1888,2976,3200] 1 (m+1) (fun i=>if (i<m) then [.p (.int .i64 (T1 i))] else [.p (.int .i64 ((g e).1))]) (fun i=>[.p (.int .i64 (if i<m then T1 i else (g e).1))])),(AN 1),(NL (m+1) (m+1)),(CV [(64,⟨true,3,1,(fun i_1=>[.ar 1 1888 0 N,.ar 1 2976 0 (m+1),.ar 1 3200 0 (m+1)])⟩),(2016,⟨true,3,1,(fun i_1=>[.ar 1 1888 0 N,.ar 1 2976 0 (m+1),.ar 1 3200 0 (m+1)])⟩),(3200,⟨false,1,(m+1),(fun i_1=>(if (i_1<m) then [.p (.int .i64 (Q i_1))] else [.p (.int .i64 (↑e:Int))]))⟩),(3168,⟨false,1,1,(fun i_1=>[.p (.int .i64 (↑e:Int))])⟩),(2976,⟨false,1,(m+1),(fun i_1=>(if (i_1<m) then [.p (.int .i64 (T1 i_1))] else [.p (.int .i64 ((g e).1))]))⟩),(2944,⟨false,1,1,(fun i_1=>[.p (.int .i64 ((g e).1))])⟩),(1888,⟨false,1,N,(fun i_1=>(if (i_1=(g e).1.toNat) then [.p (.int .i64 (F1 (g e).1.toNat - 1))] else [.p (.int .i64 (F1 i_1))]))⟩),(1568,⟨true,2,1,(fun i_1=>[.p (.int .i64 ((g e).1)),.p (.int .i64 ((g e).2.1))])⟩),(32,⟨true,3,1,(fun i_1=>[.p (.seq true 1 N (fun i_2=>[.int .i64 (F i_2)])),.p (.seq true 1 m (fun i_2=>[.int .i64 (T i_2)])),.p (.seq true 1 m (fun i_2=>[.int .i64 (Q i_2)]))])⟩),(0,⟨true,2,1,(fun i_1=>[.p (.int .i64 (↑N:Int)),.p (.seq true 2 nb (fun i_2=>[.int .i64 ((g i_2).1),.int .i64 ((g i_2).2.1)]))])⟩)] [1888,2976,3200] 1 (m+1) (fun i=>if (i<m) then [.p (.int .i64 (Q i))] else [.p (.int .i64 (↑e:Int))]) (fun i=>[.p (.int .i64 (if i<m then Q i else (↑e:Int)))])),(AE N),(AE ((m+1))),(AE ((m+1)))]:=by kernel_rfl
theorem nPb (g:Nat→T_Bar) (nb N k l m e:Nat) (F T Q F1 T1:Nat→Int) :
    pathOb Try.prog Try.f145 0 [rg 4,rm [(3,oc [] (.p (.bool true))),(4,oc [] (.p (.bool true)))] 31,.dec false,rg 7,rm [(8,oc (pebR N m F1 T1 Q) (.tup [pebO N m 0,.p (.bool true)]))] 6,rg 2,.dec false,rg 3,rg 7,.dec true,rg 3,rg 11,rg 7,rg 7,rg 3] [.code (bodyOf Try.f145)] (start Try.f145 [] 0 [grG g nb N,.p (.int .i64 k),.p (.int .i64 l),pebD N m F T Q,.p (.int .i64 e)]) [1888,3072,3296] 1 (pebR N (m+1) (fun s=>if s=(g e).2.1.toNat then F1 s - 1 else F1 s) (fun s=>if s<m then T1 s else (g e).2.1) (fun s=>if s<m then Q s else e)) (.tup [pebO N (m+1) 0,.p (.bool true)]) =
    some [(NT 0 1),(NT 0 1),Con Try.prog 160 0 [] [(zf47 N nb g),.p (.int .i64 (↑k:Int)),(zf24 N F m T Q)] [] (.p (.bool true)),(AG (!!true)),(AG (!!true)),(((!!true)=true)→ Con Try.prog 119 0 [] [.p (.int .i64 (↑k:Int)),.p (.int .i64 (↑l:Int))] [] (.p (.bool true))),(AG (!!true)),(((!true)=false)→ ((!!true)=true)),(AG (!bif !true then true else !true)),(((bif !true then true else !true)=false)→ ((!bif !true then true else !true)=true)),(AG (!bif bif !true then true else !true then true else decide ((↑e:Int)<0))),(((!bif bif !true then true else !true then true else decide ((↑e:Int)<0))=true)→(NT 0 1)),(AG (!bif bif !true then true else !true then true else decide ((↑e:Int)<0))),(AG (!bif bif !true then true else !true then true else decide ((↑e:Int)<0))),(AG (!bif bif !true then true else !true then true else decide ((↑e:Int)<0))),(((bif bif !true then true else !true then true else decide ((↑e:Int)<0))=false)→ ((!bif bif !true then true else !true then true else decide ((↑e:Int)<0))=true)),(AG (!bif bif bif !true then true else !true then true else decide ((↑e:Int)<0) then true else decide ((↑e:Int)≥(↑nb:Int)))),(((!bif bif bif !true then true else !true then true else decide ((↑e:Int)<0) then true else decide ((↑e:Int)≥(↑nb:Int)))=true)→(NT 0 1)),(AG (!bif bif bif !true then true else !true then true else decide ((↑e:Int)<0) then true else decide ((↑e:Int)≥(↑nb:Int)))),(AG (!bif bif bif !true then true else !true then true else decide ((↑e:Int)<0) then true else decide ((↑e:Int)≥(↑nb:Int)))),(AG (!bif bif bif !true then true else !true then true else decide ((↑e:Int)<0) then true else decide ((↑e:Int)≥(↑nb:Int)))),(AG ((!bif bif bif !true then true else !true then true else decide ((↑e:Int)<0) then true else decide ((↑e:Int)≥(↑nb:Int)))&&decide ((↑m:Int)>0))),((((!bif bif bif !true then true else !true then true else decide ((↑e:Int)<0) then true else decide ((↑e:Int)≥(↑nb:Int)))&&decide ((↑m:Int)>0))=true)→(NT 0 1)),(AG ((!bif bif bif !true then true else !true then true else decide ((↑e:Int)<0) then true else decide ((↑e:Int)≥(↑nb:Int)))&&decide ((↑m:Int)>0))),((((!bif bif bif !true then true else !true then true else decide ((↑e:Int)<0) then true else decide ((↑e:Int)≥(↑nb:Int)))&&decide ((↑m:Int)>0))=true)→(NT 0 1)),(AG ((!bif bif bif !true then true else !true then true else decide ((↑e:Int)<0) then true else decide ((↑e:Int)≥(↑nb:Int)))&&decide ((↑m:Int)>0))),(AG ((!bif bif bif !true then true else !true then true else decide ((↑e:Int)<0) then true else decide ((↑e:Int)≥(↑nb:Int)))&&decide ((↑m:Int)>0))),((((!bif bif bif !true then true else !true then true else decide ((↑e:Int)<0) then true else decide ((↑e:Int)≥(↑nb:Int)))&&decide ((↑m:Int)>0))=true)→(R0 ((↑m:Int) - 1))),((((!bif bif bif !true then true else !true then true else decide ((↑e:Int)<0) then true else decide ((↑e:Int)≥(↑nb:Int)))&&decide ((↑m:Int)>0))=true)→(R1 ((↑m:Int) - 1))),(AG ((!bif bif bif !true then true else !true then true else decide ((↑e:Int)<0) then true else decide ((↑e:Int)≥(↑nb:Int)))&&decide ((↑m:Int)>0))),(AG ((!bif bif bif !true then true else !true then true else decide ((↑e:Int)<0) then true else decide ((↑e:Int)≥(↑nb:Int)))&&decide ((↑m:Int)>0))),((((!bif bif bif !true then true else !true then true else decide ((↑e:Int)<0) then true else decide ((↑e:Int)≥(↑nb:Int)))&&decide ((↑m:Int)>0))=true)→(IL 0 ((↑m:Int) - 1))),((((!bif bif bif !true then true else !true then true else decide ((↑e:Int)<0) then true else decide ((↑e:Int)≥(↑nb:Int)))&&decide ((↑m:Int)>0))=true)→(IT ((↑m:Int) - 1) (↑m:Int))),(AG ((!bif bif bif !true then true else !true then true else decide ((↑e:Int)<0) then true else decide ((↑e:Int)≥(↑nb:Int)))&&decide ((↑m:Int)>0))),(AG ((!bif bif bif !true then true else !true then true else decide ((↑e:Int)<0) then true else decide ((↑e:Int)≥(↑nb:Int)))&&decide ((↑m:Int)>0))),(AG ((!bif bif bif !true then true else !true then true else decide ((↑e:Int)<0) then true else decide ((↑e:Int)≥(↑nb:Int)))&&decide ((↑m:Int)>0))),(AG (!bif bif bif !true then true else !true then true else decide ((↑e:Int)<0) then true else decide ((↑e:Int)≥(↑nb:Int)))),(((!bif bif bif !true then true else !true then true else decide ((↑e:Int)<0) then true else decide ((↑e:Int)≥(↑nb:Int)))=true)→(((decide ((↑m:Int)>0))=true)→ (((!bif bif bif !true then true else !true then true else decide ((↑e:Int)<0) then true else decide ((↑e:Int)≥(↑nb:Int)))&&decide ((↑m:Int)>0))=true))),(((bif bif bif !true then true else !true then true else decide ((↑e:Int)<0) then true else decide ((↑e:Int)≥(↑nb:Int)))=false)→ ((!bif bif bif !true then true else !true then true else decide ((↑e:Int)<0) then true else decide ((↑e:Int)≥(↑nb:Int)))=true)),((bif bif bif bif !true then true else !true then true else decide ((↑e:Int)<0) then true else decide ((↑e:Int)≥(↑nb:Int)) then true else bif decide ((↑m:Int)>0) then decide (Q ((↑m:Int) - 1).toNat≥(↑e:Int)) else false)=false),(NT 0 1),(IL 0 (↑e:Int)),(IT (↑e:Int) (↑nb:Int)),(NT 0 1),((true=true)→ (AN 1)),(NT 0 1),(NT 0 1),(NT 0 1),(NT 0 1),(R0 ((↑l:Int)+1)),(R1 ((↑l:Int)+1)),Con Try.prog 162 0 [] [(zf47 N nb g),(zf24 N F m T Q),.p (.int .i64 ((g e).1)),.p (.int .i64 ((g e).2.1)),.p (.int .i64 ((↑l:Int)+1))] (zf15 N F1 m T1 Q) ((zf51 N m)),(NT 0 1),((true=true)→ (AN 1)),((!true)=false),(NT 0 1),(NT 0 1),(NT 0 1),(IL 0 ((g e).1)),(IT ((g e).1) (↑N:Int)),(NT ((g e).1.toNat) N),((F1 (g e).1.toNat==0)=true),(NT 0 1),(NT 0 1),(NT 0 1),(IL 0 ((g e).2.1)),(IT ((g e).2.1) (↑N:Int)),(NT ((g e).2.1.toNat) N),(R0 (F1 (g e).2.1.toNat - 1)),(R1 (F1 (g e).2.1.toNat - 1)),(IL 0 ((g e).2.1)),(IT ((g e).2.1) (↑N:Int)),(NT ((g e).2.1.toNat) N),((false=true)→ ((N:Nat)=1)),(NT 0 1),(NL 1 1),(NL m m),(NL ((m+1)*8) 140737488355328),(NL (m+1) 9223372036854775807),(NT 0 1),((true=true)→ (AN 1)),(NT 0 1),(NL 1 1),(NL m m),(NL ((m+1)*8) 140737488355328),(NL (m+1) 9223372036854775807),(NT 0 1),((true=true)→ (AN 1)),(NT 0 1),(NT 0 1),((true=true)→ (AN 1)),(NT 0 1),(AN 0),(AN N),(AN 0),(AN ((m+1))),(AN 0),(AN ((m+1))),(true=true),(AN 1),(NL N N),(CV [(64,⟨true,3,1,(fun i_1=>[.ar 1 1888 0 N,.ar 1 3072 0 (m+1),.ar 1 3296 0 (m+1)])⟩),(2016,⟨true,3,1,(fun i_1=>[.ar 1 1888 0 N,.ar 1 3072 0 (m+1),.ar 1 3296 0 (m+1)])⟩),(3296,⟨false,1,(m+1),(fun i_1=>(if (i_1<m) then [.p (.int .i64 (Q i_1))] else [.p (.int .i64 (↑e:Int))]))⟩),(3264,⟨false,1,1,(fun i_1=>[.p (.int .i64 (↑e:Int))])⟩),(3072,⟨false,1,(m+1),(fun i_1=>(if (i_1<m) then [.p (.int .i64 (T1 i_1))] else [.p (.int .i64 ((g e).2.1))]))⟩),(3040,⟨false,1,1,(fun i_1=>[.p (.int .i64 ((g e).2.1))])⟩),(1888,⟨false,1,N,(fun i_1=>(if (i_1=(g e).2.1.toNat) then [.p (.int .i64 (F1 (g e).2.1.toNat - 1))] else [.p (.int .i64 (F1 i_1))]))⟩),(1568,⟨true,2,1,(fun i_1=>[.p (.int .i64 ((g e).1)),.p (.int .i64 ((g e).2.1))])⟩),(32,⟨true,3,1,(fun i_1=>[.p (.seq true 1 N (fun i_2=>[.int .i64 (F i_2)])),.p (.seq true 1 m (fun i_2=>[.int .i64 (T i_2)])),.p (.seq true 1 m (fun i_2=>[.int .i64 (Q i_2)]))])⟩),(0,⟨true,2,1,(fun i_1=>[.p (.int .i64 (↑N:Int)),.p (.seq true 2 nb (fun i_2=>[.int .i64 ((g i_2).1),.int .i64 ((g i_2).2.1)]))])⟩)] [1888,3072,3296] 1 N (fun i=>if (i=(g e).2.1.toNat) then [.p (.int .i64 (F1 (g e).2.1.toNat - 1))] else [.p (.int .i64 (F1 i))]) (fun i=>[.p (.int .i64 (if i=(g e).2.1.toNat then F1 i - 1 else F1 i))])),(AN 1),(NL (m+1) (m+1)),(CV [(64,⟨true,3,1,(fun i_1=>[.ar 1 1888 0 N,.ar 1 3072 0 (m+1),.ar 1 3296 0 (m+1)])⟩),(2016,⟨true,3,1,(fun i_1=>[.ar 1 1888 0 N,.ar 1 3072 0 (m+1),.ar 1 3296 0 (m+1)])⟩),(3296,⟨false,1,(m+1),(fun i_1=>(if (i_1<m) then [.p (.int .i64 (Q i_1))] else [.p (.int .i64 (↑e:Int))]))⟩),(3264,⟨false,1,1,(fun i_1=>[.p (.int .i64 (↑e:Int))])⟩),(3072,⟨false,1,(m+1),(fun i_1=>(if (i_1<m) then [.p (.int .i64 (T1 i_1))] else [.p (.int .i64 ((g e).2.1))]))⟩),(3040,⟨false,1,1,(fun i_1=>[.p (.int .i64 ((g e).2.1))])⟩),(1888,⟨false,1,N,(fun i_1=>(if (i_1=(g e).2.1.toNat) then [.p (.int .i64 (F1 (g e).2.1.toNat - 1))] else [.p (.int .i64 (F1 i_1))]))⟩),(1568,⟨true,2,1,(fun i_1=>[.p (.int .i64 ((g e).1)),.p (.int .i64 ((g e).2.1))])⟩),(32,⟨true,3,1,(fun i_1=>[.p (.seq true 1 N (fun i_2=>[.int .i64 (F i_2)])),.p (.seq true 1 m (fun i_2=>[.int .i64 (T i_2)])),.p (.seq true 1 m (fun i_2=>[.int .i64 (Q i_2)]))])⟩),(0,⟨true,2,1,(fun i_1=>[.p (.int .i64 (↑N:Int)),.p (.seq true 2 nb (fun i_2=>[.int .i64 ((g i_2).1),.int .i64 ((g i_2).2.1)]))])⟩)] [1888,3072,3296] 1 (m+1) (fun i=>if (i<m) then [.p (.int .i64 (T1 i))] else [.p (.int .i64 ((g e).2.1))]) (fun i=>[.p (.int .i64 (if i<m then T1 i else (g e).2.1))])),(AN 1),(NL (m+1) (m+1)),(CV [(64,⟨true,3,1,(fun i_1=>[.ar 1 1888 0 N,.ar 1 3072 0 (m+1),.ar 1 3296 0 (m+1)])⟩),(2016,⟨true,3,1,(fun i_1=>[.ar 1 1888 0 N,.ar 1 3072 0 (m+1),.ar 1 3296 0 (m+1)])⟩),(3296,⟨false,1,(m+1),(fun i_1=>(if (i_1<m) then [.p (.int .i64 (Q i_1))] else [.p (.int .i64 (↑e:Int))]))⟩),(3264,⟨false,1,1,(fun i_1=>[.p (.int .i64 (↑e:Int))])⟩),(3072,⟨false,1,(m+1),(fun i_1=>(if (i_1<m) then [.p (.int .i64 (T1 i_1))] else [.p (.int .i64 ((g e).2.1))]))⟩),(3040,⟨false,1,1,(fun i_1=>[.p (.int .i64 ((g e).2.1))])⟩),(1888,⟨false,1,N,(fun i_1=>(if (i_1=(g e).2.1.toNat) then [.p (.int .i64 (F1 (g e).2.1.toNat - 1))] else [.p (.int .i64 (F1 i_1))]))⟩),(1568,⟨true,2,1,(fun i_1=>[.p (.int .i64 ((g e).1)),.p (.int .i64 ((g e).2.1))])⟩),(32,⟨true,3,1,(fun i_1=>[.p (.seq true 1 N (fun i_2=>[.int .i64 (F i_2)])),.p (.seq true 1 m (fun i_2=>[.int .i64 (T i_2)])),.p (.seq true 1 m (fun i_2=>[.int .i64 (Q i_2)]))])⟩),(0,⟨true,2,1,(fun i_1=>[.p (.int .i64 (↑N:Int)),.p (.seq true 2 nb (fun i_2=>[.int .i64 ((g i_2).1),.int .i64 ((g i_2).2.1)]))])⟩)] [1888,3072,3296] 1 (m+1) (fun i=>if (i<m) then [.p (.int .i64 (Q i))] else [.p (.int .i64 (↑e:Int))]) (fun i=>[.p (.int .i64 (if i<m then Q i else (↑e:Int)))])),(AE N),(AE ((m+1))),(AE ((m+1)))]:=by kernel_rfl
theorem nUz (g:Nat→T_Bar) (nb N k l:Nat) :
    pieceOb Try.prog 0 [rg 3,rm [(2,oc (pebR N 0 (fun _=>k) (fun _=>0) (fun _=>0)) (.tup [pebO N 0 0,.p (.bool true)]))] 6,rm [(5,oc [] (.p (.bool true)))] 2,.dec false,rg 1,.head] [.code (bodyOf Try.f118)] (start Try.f118 [] 0 [grG g nb N,.p (.int .i64 k),.p (.int .i64 l)]) [0,32,288,160,161,162] 1 (SRu g nb N k l 0 (fun _=>k) (fun _=>0) (fun _=>0) 0) =
    some (zf21,[(NT 0 1),Con Try.prog 144 0 [] [(zf47 N nb g),.p (.int .i64 (↑k:Int))] [(0,⟨false,1,N,(fun i=>[.p (.int .i64 (↑k:Int))])⟩),(1,⟨false,1,0,(fun i=>[.p (.int .i64 0)])⟩),(2,⟨false,1,0,(fun i=>[.p (.int .i64 0)])⟩)] (.tup [.agg [.ar 1 0 0 N,.ar 1 1 0 0,.ar 1 2 0 0],.p (.bool true)]),(NT 0 1),((true=true)→ (AN 1)),(AG (!!true)),(AG (!!true)),(((!!true)=true)→ Con Try.prog 119 0 [] [.p (.int .i64 (↑k:Int)),.p (.int .i64 (↑l:Int))] [] (.p (.bool true))),(AG (!!true)),(((!true)=false)→ ((!!true)=true)),((bif !true then true else !true)=false),(AI ((↑N:Int))),(AN nb),(AP nb (fun i=>[.int .i64 ((g i).1),.int .i64 ((g i).2.1)])),(AI ((↑k:Int))),(AI ((↑l:Int))),(AN 0),(AN 0),(AN 0),((0:Int)=(↑0:Int)),((([AV.p (PV.int IntKind.i64 (↑N:Int)),brL g nb].length):Nat)=2),(NL 1 1),(NL 1 1),(AI ((↑N:Int))),(AN nb),(AP nb (fun i=>[.int .i64 ((g i).1),.int .i64 ((g i).2.1)])),((((List.map (fun v=>AV.p (absV v)) [Value.slice none 0 0,Value.slice none 0 0,Value.slice none 0 0]).length):Nat)=3),(NL 1 1),(NL 1 1),((((List.map (fun v=>AV.p (absV v)) [Value.slice none 0 0,Value.slice none 0 0,Value.slice none 0 0]).length):Nat)=3),(NL 1 1),(NL 1 1),(AN 0),(AN N),(AN 0),(AN 0),(AN 0),(AN 0),(AN 1),(NL N N),(AA N (fun i=>[.p (.int .i64 (↑k:Int))])),(AN 1),(NL 0 0),(AA 0 (fun i=>[.p (.int .i64 0)])),(AN 1),(NL 0 0),(AA 0 (fun i=>[.p (.int .i64 0)]))]):=by kernel_rfl
theorem nUl (g:Nat→T_Bar) (nb N k l m m':Nat) (F T Q F' T' Q':Nat→Int) (i:Nat) (r:Bool) :
    pieceOb Try.prog 0 [rg 5,.dec true,rm [(5,oc (pebR N m' F' T' Q') (.tup [pebO N m' 0,.p (.bool r)]))] 4,rg 3,.head] zf21 (SRu g nb N k l m F T Q i) [0,1,2,326,327,328] 1 (SRu g nb N k l m' F' T' Q' (i+1)) =
    some (zf21,[(NT 0 1),((decide ((↑i:Int)<(↑nb:Int)))=true),(NT 0 1),(NT 0 1),(AN 1),(NL N N),(AN 1),(NL m m),(AN 1),(NL m m),Con Try.prog 145 0 [] [(zf45 N nb g),.p (.int .i64 (↑k:Int)),.p (.int .i64 (↑l:Int)),.agg [.p (.seq true 1 N (fun i_1=>[.int .i64 (F i_1)])),.p (.seq true 1 m (fun i_1=>[.int .i64 (T i_1)])),.p (.seq true 1 m (fun i_1=>[.int .i64 (Q i_1)]))],.p (.int .i64 (↑i:Int))] [(0,⟨false,1,N,(fun i_1=>[.p (.int .i64 (F' i_1))])⟩),(1,⟨false,1,m',(fun i_1=>[.p (.int .i64 (T' i_1))])⟩),(2,⟨false,1,m',(fun i_1=>[.p (.int .i64 (Q' i_1))])⟩)] (.tup [.agg [.ar 1 0 0 N,.ar 1 1 0 m',.ar 1 2 0 m'],.p (.bool r)]),(NT 0 1),((true=true)→ (AN 1)),(R0 ((↑i:Int)+1)),(R1 ((↑i:Int)+1)),(AI ((↑N:Int))),(AN nb),(AP nb (fun i_1=>[.int .i64 ((g i_1).1),.int .i64 ((g i_1).2.1)])),(AI ((↑k:Int))),(AI ((↑l:Int))),(AN 0),(AN 0),(AN 0),((((↑i:Int)+1):Int)=(↑(i+1):Int)),(AN 2),(NL 1 1),(NL 1 1),(AI ((↑N:Int))),(AN nb),(AP nb (fun i_1=>[.int .i64 ((g i_1).1),.int .i64 ((g i_1).2.1)])),(AN 3),(NL 1 1),(NL 1 1),(AN 3),(NL 1 1),(NL 1 1),(AN 0),(AN N),(AN 0),(AN (m')),(AN 0),(AN (m')),(AN 1),(NL N N),(AA N (fun i_1=>[.p (.int .i64 (F' i_1))])),(AN 1),(NL (m') (m')),(AA (m') (fun i_1=>[.p (.int .i64 (T' i_1))])),(AN 1),(NL (m') (m')),(AA (m') (fun i_1=>[.p (.int .i64 (Q' i_1))]))]):=by kernel_rfl
theorem nUe (g:Nat→T_Bar) (nb N k l m:Nat) (F T Q:Nat→Int) (i:Nat) :
    pathOb Try.prog Try.f118 0 [rg 5,.dec false,rg 3] zf21 (SRu g nb N k l m F T Q i) [3,4,5] 1 (pebR N m F T Q) (.tup [pebO N m 0,.p (.bool true)]) =
    some [(NT 0 1),((decide ((↑i:Int)<(↑nb:Int)))=false),(NT 0 1),(NT 0 1),((true=true)→ (AN 1)),(NT 0 1),(AN 0),(AN N),(AN 0),(AN m),(AN 0),(AN m),(true=true),(AN 1),(NL N N),(AA N (fun i_1=>[.p (.int .i64 (F i_1))])),(AN 1),(NL m m),(AA m (fun i_1=>[.p (.int .i64 (T i_1))])),(AN 1),(NL m m),(AA m (fun i_1=>[.p (.int .i64 (Q i_1))])),(AE N),(AE m),(AE m)]:=by kernel_rfl
end Go.Proofs.Ytffnfeefjdmifaa.Mach
namespace Go.Proofs.Ytffnfeefjdmifaa.Mach
open Go
set_option linter.unusedVariables false
set_option linter.unusedSimpArgs false
theorem con_IsRange_i (k l:Nat) (hk:1≤k∧k≤3) (hl:l+1≤2*k):Con Try.prog 122 0 [] [.p (.int .i64 k),.p (.int .i64 l)] [] (.p (.bool true)):=by
  have h1:=con_within k 1 3
  rw [show inB k 1 3=true by simp [inB];omega] at h1
  have h2:=con_within l 0 (2*(k:Int) - 1)
  rw [show inB l 0 (2*(k:Int) - 1)=true by simp [inB];omega] at h2
  refine con_start Try.func122 rfl (by kernel_rfl) rfl (fun c hc=>?_)
  refine path_ok mixed Try.func122 hc (nRi k l) ?_
  repeat' (first | exact aN | apply aI)
  all_goals (first | exact aG _ | omega | rfl | (intros;first | assumption | exact trivial | rfl | exact fT ‹_› | ((repeat' (first | assumption | apply anda | apply notf));done)) | (exact h1) | (intros;exact h2) | (intros;omega) | (simp;done))
theorem con_IsRange_s (k l:Nat) (hk:1≤k∧k≤3) (hl:l+1≤2*k):Con Try.prog 119 0 [] [.p (.int .i64 k),.p (.int .i64 l)] [] (.p (.bool true)):=by
  have h1:=con_l1In k 1 3
  rw [show inB k 1 3=true by simp [inB];omega] at h1
  refine con_start Try.func119 rfl (by kernel_rfl) rfl (fun c hc=>?_)
  refine path_ok mixed Try.func119 hc (nRs k l) ?_
  repeat' (first | exact aN | apply aI)
  all_goals (first | exact aG _ | omega | rfl | (intros;first | assumption | exact trivial | rfl | exact fT ‹_› | ((repeat' (first | assumption | apply anda | apply notf));done)) | (exact h1) | (intros;omega) | (simp;omega))
def NonN (Q:Nat→Int) (m:Nat):Prop:=∀ j,j<m→0≤Q j
theorem con_RunPebbles_i {N nb:Nat} {g:Nat→T_Bar} (hg:isGraphF ((N:Int),(nb,g),())=true) (k l:Nat) (hk:1≤k∧k≤3) (hl:l+1≤2*k) :
    ∃ m F T Q,Con Try.prog 120 0 [] [grG g nb N,.p (.int .i64 k),.p (.int .i64 l)] (pebR N m F T Q) (.tup [pebO N m 0,.p (.bool true)])∧m≤24∧NonN Q m∧qL Q m=accI N k l g nb:=by
  obtain ⟨hN,hnb,hok⟩:=graph_in hg
  have hsm:smS s_Graph ((N:Int),(nb,g),()):=⟨by simp [smS,smL],⟨by show nb≤1048576;omega,fun i hi=>by simp [smS,smL]⟩,True.intro⟩
  have hcg:=con_IsGraph_i ((N:Int),(nb,g),()) hsm
  rw [hg] at hcg
  have hr:=con_IsRange_i k l hk hl
  obtain ⟨m,F,T,Q,hc1,hp,hq⟩:=con_play (N:=N) (k:=k) (l:=l) hok (by omega) (by omega) (by omega) (by omega)
  have hm:m≤24:=by
    have:=accI_len N k l g nb
    rw [← hq,qL_length] at this;omega
  refine ⟨m,F,T,Q,?_,hm,fun j hj=>(hp.q j hj).1,hq⟩
  refine con_start Try.func120 rfl (by kernel_rfl) rfl (fun c hc=>?_)
  refine path_ok mixed Try.func120 hc (nUi g nb N k l m F T Q) ?_
  repeat' (first | exact aN | apply aI)
  all_goals (first | exact aG _ | exact aA _ _ | exact aE _ | omega | rfl | (intros;first | assumption | exact trivial | rfl | exact fT ‹_› | ((repeat' (first | assumption | apply anda | apply notf));done)) | (exact hcg) | (intros;exact hr) | (exact hc1) | (simp;done) | (intro i hi;simp [All]))
theorem con_RankOf_i {N nb:Nat} {g:Nat→T_Bar} (hg:isGraphF ((N:Int),(nb,g),())=true) (k l:Nat) (hk:1≤k∧k≤3) (hl:l+1≤2*k) :
    Con Try.prog 65 0 [] [grG g nb N,.p (.int .i64 k),.p (.int .i64 l)] [] (.p (.int .i64 ((accI N k l g nb).length:Nat))):=by
  obtain ⟨m,F,T,Q,hrun,hm,hn,hq⟩:=con_RunPebbles_i hg k l hk hl
  rw [← hq,qL_length]
  refine con_start Try.func65 rfl (by kernel_rfl) rfl (fun c hc=>?_)
  refine path_ok mixed Try.func65 hc (nKi g nb N k l m F T Q) ?_
  repeat' (first | exact aN | apply aI)
  all_goals (first | omega | rfl | (intros;first | assumption | exact trivial | rfl | exact fT ‹_› | ((repeat' (first | assumption | apply anda | apply notf));done)) | (exact hrun) | (simp;done) | (intro i hi;simp [All]))
theorem con_l4Tail (N m:Nat) (F T Q:Nat→Int) (x:Int) (hm:m≤1048576):Con Try.prog 179 0 [] [pebD N m F T Q,.p (.int .i64 x)] [] (.p (.int .i64 (tcI T m x))):=by
  have hle:∀ i,0≤tcI T i x∧tcI T i x≤i:=by
    intro i
    induction i with
    | zero=>simp [tcI]
    | succ i ih=>simp only [tcI];split<;>omega
  refine con_start Try.func179 rfl (by kernel_rfl) rfl (fun c hc=>?_)
  have lp:∀ d i,i+d=m→Run Try.prog c 179 zf29 (ST0 N m F T Q x i) (Post c [] (.p (.int .i64 (tcI T m x)))):=by
    intro d
    induction d with
    | zero =>
      intro i hi
      have hi':i=m:=by omega
      have hd:decide ((i:Int)<(m:Int))=false:=by simp;omega
      rw [show tcI T m x=tcI T i x by rw [hi']]
      refine path_ok mixed Try.func179 hc (nTe N m F T Q x i) ?_
      repeat' (first | exact aN | apply aI)
      all_goals (first | omega | rfl | (intros;first | assumption | exact trivial | rfl | exact fT ‹_› | ((repeat' (first | assumption | apply anda | apply notf));done)) | (exact hd) | (simp;done))
    | succ d ih =>
      intro i hi
      have hd:decide ((i:Int)<(m:Int))=true:=by simp;omega
      have hl:=hle i
      by_cases h:T i=x
      · have hb:(T i==x)=true:=by simp [h]
        refine piece_ok mixed hc (nTt N m F T Q x i) ?_ (ih (i+1) (by omega))
        repeat' (first | exact aN | apply aI)
        all_goals (first | exact aP _ _ | omega | rfl | (intros;first | assumption | exact trivial | rfl | exact fT ‹_› | ((repeat' (first | assumption | apply anda | apply notf));done)) | (exact hb) | (simp only [tcI,h,if_true];done) | (simp only [tcI,h,if_true];omega) | (intro j hj;simp [All]))
      · have hb:(T i==x)=false:=by simp [h]
        refine piece_ok mixed hc (nTf N m F T Q x i) ?_ (ih (i+1) (by omega))
        repeat' (first | exact aN | apply aI)
        all_goals (first | exact aP _ _ | omega | rfl | (intros;first | assumption | exact trivial | rfl | exact fT ‹_› | ((repeat' (first | assumption | apply anda | apply notf));done)) | (exact hb) | (simp only [tcI,h,if_false];omega) | (intro j hj;simp [All]))
  refine piece_ok mixed hc (nTz N m F T Q x) ?_ (lp m 0 (by omega))
  repeat' (first | exact aN | apply aI)
  all_goals (first | exact aP _ _ | omega | rfl | (intros;first | assumption | exact trivial | rfl | exact fT ‹_› | ((repeat' (first | assumption | apply anda | apply notf));done)) | (intro j hj;simp [All]))
def Asc (Q:Nat→Int) (m:Nat):Prop:=∀ j,j+1<m→Q j<Q (j+1)
theorem badI_f {N k nb m:Nat} {g:Nat→T_Bar} {F T Q:Nat→Int} (hp:PInv N k nb m g F T Q) (ha:Asc Q m) (i:Nat) (hi:i<m):badI g nb T Q i=false:=by
  have h1:=hp.q i hi
  have h2:=hp.t i hi
  have a1:decide (Q i<0)=false:=by simp;omega
  have a2:decide (Q i≥(nb:Int))=false:=by simp;omega
  have a3:(bif decide ((i:Int)>0) then decide (Q ((i:Int) - 1).toNat≥Q i) else false)=false:=by
    by_cases h:i=0
    · subst h;rfl
    · have:=ha (i - 1) (by omega)
      have e:((i:Int) - 1).toNat=i - 1:=by omega
      rw [show i - 1+1=i by omega] at this
      rw [e]
      have h4:decide (Q (i - 1)≥Q i)=false:=by simp;omega
      rw [h4]
      cases decide ((i:Int)>0)<;>rfl
  have a4:(bif T i != (g (Q i).toNat).1 then T i != (g (Q i).toNat).2.1 else false)=false:=by
    rcases h2 with e | e
    · rw [show (T i != (g (Q i).toNat).1)=false by simp [e]];rfl
    · rw [show (T i != (g (Q i).toNat).2.1)=false by simp [e]]
      cases (T i != (g (Q i).toNat).1)<;>rfl
  unfold badI
  rw [a1,a2,a3,a4]
  rfl
theorem con_IsPebbles {N k nb m:Nat} {g:Nat→T_Bar} {F T Q:Nat→Int} (hp:PInv N k nb m g F T Q) (ha:Asc Q m) (hg:isGraphF ((N:Int),(nb,g),())=true) (hk:1≤k∧k≤3) (hm:m≤1048576) :
    Con Try.prog 160 0 [] [grG g nb N,.p (.int .i64 k),pebD N m F T Q] [] (.p (.bool true)):=by
  obtain ⟨hN,hnb,hok⟩:=graph_in hg
  have hsm:smS s_Graph ((N:Int),(nb,g),()):=⟨by simp [smS,smL],⟨by show nb≤1048576;omega,fun i hi=>by simp [smS,smL]⟩,True.intro⟩
  have hcg:=con_IsGraph_s ((N:Int),(nb,g),()) hsm
  rw [hg] at hcg
  have h1:=con_l1In k 1 3
  rw [show inB k 1 3=true by simp [inB];omega] at h1
  refine con_start Try.func160 rfl (by kernel_rfl) rfl (fun c hc=>?_)
  have lp1:∀ d i,i+d=N→Run Try.prog c 160 zf20 (SI1 g nb N k m F T Q i) (Post c [] (.p (.bool true))):=by
    intro d
    induction d with
    | zero =>
      intro i hi
      have hd:decide ((i:Int)<(N:Int))=false:=by simp;omega
      refine path_ok mixed Try.func160 hc (nJe g nb N k m F T Q i) ?_
      repeat' (first | exact aN | apply aI)
      all_goals (first | omega | rfl | (intros;first | assumption | exact trivial | rfl | exact fT ‹_› | ((repeat' (first | assumption | apply anda | apply notf));done)) | (exact hd) | (simp;done))
    | succ d ih =>
      intro i hi
      have hd:decide ((i:Int)<(N:Int))=true:=by simp;omega
      have ht:=con_l4Tail N m F T Q i hm
      have hf0:=hp.f0 i (by omega)
      have hsum:=hp.sum i (by omega)
      have htn:=tcI_nonneg T i m
      have hb:(bif decide (F i<0) then true else F i+tcI T m i != (k:Int))=false:=by
        have h4:decide (F i<0)=false:=by simp;omega
        rw [h4]
        simp [hsum]
      refine piece_ok mixed hc (nI1 g nb N k m F T Q i) ?_ (ih (i+1) (by omega))
      repeat' (first | exact aN | apply aI)
      all_goals (first | exact aG _ | exact aP _ _ | omega | rfl | (intros;first | assumption | exact trivial | rfl | exact fT ‹_› | ((repeat' (first | assumption | apply anda | apply notf));done)) | (intros;exact ht) | (exact hb) | (intros;omega) | (intro j hj;simp [All]))
  have lp0:∀ d i,i+d=m→Run Try.prog c 160 zf30 (SI0 g nb N k m F T Q i) (Post c [] (.p (.bool true))):=by
    intro d
    induction d with
    | zero =>
      intro i hi
      have hd:decide ((i:Int)<(m:Int))=false:=by simp;omega
      refine piece_ok mixed hc (nI01 g nb N k m F T Q i) ?_ (lp1 N 0 (by omega))
      repeat' (first | exact aN | apply aI)
      all_goals (first | exact aP _ _ | omega | rfl | (intros;first | assumption | exact trivial | rfl | exact fT ‹_› | ((repeat' (first | assumption | apply anda | apply notf));done)) | (exact hd) | (intro j hj;simp [All]))
    | succ d ih =>
      intro i hi
      have him:i<m:=by omega
      have hd:decide ((i:Int)<(m:Int))=true:=by simp;omega
      have hbad:=badI_f hp ha i him
      have hq:=hp.q i him
      refine piece_ok mixed hc (nI0 g nb N k m F T Q i) ?_ (ih (i+1) (by omega))
      repeat' (first | exact aN | apply aI)
      all_goals (first | exact aG _ | exact aP _ _ | omega | rfl | (intros;first | assumption | exact trivial | rfl | exact fT ‹_› | ((repeat' (first | assumption | apply anda | apply notf));done)) | (exact hbad) | (intros;omega) | (intro h;have:=idx_lt h him;omega) | (intro h;show (0:Int)≤Q i∧Q i<nb;omega) | (intro j hj;simp [All]))
  refine piece_ok mixed hc (nJz g nb N k m F T Q) ?_ (lp0 m 0 (by omega))
  repeat' (first | exact aN | apply aI)
  all_goals (first | exact aG _ | exact aP _ _ | omega | rfl | (intros;first | assumption | exact trivial | rfl | exact fT ‹_› | ((repeat' (first | assumption | apply anda | apply notf));done)) | (exact hcg) | (intros;exact h1) | (simp;done) | (intro j hj;simp [All]))
theorem con_PlaceBar {N k nb m l e:Nat} {g:Nat→T_Bar} {F T Q:Nat→Int} (hp:PInv N k nb m g F T Q) (ha:Asc Q m) (hlt:∀ j,j<m→Q j<e) (hg:isGraphF ((N:Int),(nb,g),())=true) (hk:1≤k∧k≤3) (hl:l+1≤2*k) (hm:m≤1000) (he:e<nb)
    (hsp:Mat.Sparse N k l (plL g Q m)) :
    (∃ F' T',Con Try.prog 145 0 [] [grG g nb N,.p (.int .i64 k),.p (.int .i64 l),pebD N m F T Q,.p (.int .i64 (e:Nat))] (pebR N (m+1) F' T' (fun s=>if s<m then Q s else e)) (.tup [pebO N (m+1) 0,.p (.bool true)]) ∧
      PInv N k nb (m+1) g F' T' (fun s=>if s<m then Q s else e)∧Mat.Sparse N k l (plL g Q m++[brN (g e)])) ∨
    (Con Try.prog 145 0 [] [grG g nb N,.p (.int .i64 k),.p (.int .i64 l),pebD N m F T Q,.p (.int .i64 (e:Nat))] (pebR N m F T Q) (.tup [pebO N m 0,.p (.bool false)])∧¬ Mat.Sparse N k l (plL g Q m++[brN (g e)])):=by
  obtain ⟨hN,hnb,hok⟩:=graph_in hg
  have hbar:=hok e he
  have hip:=con_IsPebbles hp ha hg hk (by omega)
  have hir:=con_IsRange_s k l hk hl
  have hcc:=con_l4Copy N m F T Q (by omega) (by omega)
  have hb:(bif bif bif bif !true then true else !true then true else decide ((e:Int)<0) then true else decide ((e:Int)≥(nb:Int)) then true else bif decide ((m:Int)>0) then decide (Q ((m:Int) - 1).toNat≥(e:Int)) else false)=false:=by
    have b1:decide ((e:Int)<0)=false:=decide_eq_false (by omega)
    have b2:decide ((e:Int)≥(nb:Int))=false:=by simp;omega
    have b3:(bif decide ((m:Int)>0) then decide (Q ((m:Int) - 1).toNat≥(e:Int)) else false)=false:=by
      by_cases h:m=0
      · subst h;rfl
      · have:=hlt ((m:Int) - 1).toNat (by omega)
        have h4:decide (Q ((m:Int) - 1).toNat≥(e:Int))=false:=decide_eq_false (by omega)
        rw [h4]
        cases decide ((m:Int)>0)<;>rfl
    rw [b1,b2,b3];rfl
  obtain ⟨F1,T1,r,hc1,h1,h2,h3⟩:=con_l4Gather (l:=l) (a:=(g e).1) (b:=(g e).2.1) hp (by omega) (by omega) (by omega) (by omega) (by omega) (by omega) (by omega)
  have hlA:=h1.le (v:=(g e).1.toNat) (by omega)
  have hlB:=h1.le (v:=(g e).2.1.toNat) (by omega)
  cases r with
  | false =>
    right
    refine ⟨?_,h3 rfl⟩
    refine con_start Try.func145 rfl (by kernel_rfl) rfl (fun c hc=>?_)
    refine path_ok mixed Try.func145 hc (nPf g nb N k l m e F T Q F1 T1) ?_
    repeat' (first | exact aN | apply aI)
    all_goals (first | exact aG _ | exact aA _ _ | exact aE _ | omega | rfl | (intros;first | assumption | exact trivial | rfl | exact fT ‹_› | ((repeat' (first | assumption | apply anda | apply notf));done)) | (exact hip) | (intros;exact hir) | (exact hb) | (exact hc1) | (exact hcc) | (simp;done) | (intro h;have:=idx_lt h (Nat.lt_succ_self m);omega) | (intro i hi;simp [All]))
  | true =>
    left
    have hw:=h2 rfl
    have hacc:Mat.Sparse N k l (plL g Q m++[brN (g e)]):=by
      have:=(h1.game l).accept (by rw [barsOf_gm];exact hsp) (g e).1.toNat (g e).2.1.toNat ⟨by show (g e).1.toNat≠(g e).2.1.toNat;omega,by show (g e).1.toNat<N;omega,by show (g e).2.1.toNat<N;omega⟩
        (by show l+1≤(F1 (g e).1.toNat).toNat+(F1 (g e).2.1.toNat).toNat;omega)
      rw [barsOf_gm] at this
      exact this
    by_cases hz:F1 (g e).1.toNat=0
    · have hzb:(F1 (g e).1.toNat==0)=true:=by simp [hz]
      refine ⟨_,_,?_,h1.placed e he (g e).2.1 (.inr rfl) (by omega),hacc⟩
      refine con_start Try.func145 rfl (by kernel_rfl) rfl (fun c hc=>?_)
      refine path_ok mixed Try.func145 hc (nPb g nb N k l m e F T Q F1 T1) ?_
      repeat' (first | exact aN | apply aI)
      all_goals (first | exact aG _ | exact aE _ | omega | rfl | (intros;first | assumption | exact trivial | rfl | exact fT ‹_› | ((repeat' (first | assumption | apply anda | apply notf));done)) | (exact hip) | (intros;exact hir) | (exact hb) | (exact hc1) | (exact hzb) | (simp;done) | (intro h;have:=idx_lt h (Nat.lt_succ_self m);omega) | (intro i hi;simp [All];done) | (intro i hi;by_cases h:i<m<;>simp [h,cvtL,cvt,tg,tru,All];done) | (intro i hi;by_cases h:i=(g e).2.1.toNat<;>simp [h,cvtL,cvt,tg,tru,All]))
    · have hzb:(F1 (g e).1.toNat==0)=false:=by simp [hz]
      refine ⟨_,_,?_,h1.placed e he (g e).1 (.inl rfl) (by omega),hacc⟩
      refine con_start Try.func145 rfl (by kernel_rfl) rfl (fun c hc=>?_)
      refine path_ok mixed Try.func145 hc (nPa g nb N k l m e F T Q F1 T1) ?_
      repeat' (first | exact aN | apply aI)
      all_goals (first | exact aG _ | exact aE _ | omega | rfl | (intros;first | assumption | exact trivial | rfl | exact fT ‹_› | ((repeat' (first | assumption | apply anda | apply notf));done)) | (exact hip) | (intros;exact hir) | (exact hb) | (exact hc1) | (exact hzb) | (simp;done) | (intro h;have:=idx_lt h (Nat.lt_succ_self m);omega) | (intro i hi;simp [All];done) | (intro i hi;by_cases h:i<m<;>simp [h,cvtL,cvt,tg,tru,All];done) | (intro i hi;by_cases h:i=(g e).1.toNat<;>simp [h,cvtL,cvt,tg,tru,All]))
theorem con_RunPebbles_s {N nb:Nat} {g:Nat→T_Bar} (hg:isGraphF ((N:Int),(nb,g),())=true) (k l:Nat) (hk:1≤k∧k≤3) (hl:l+1≤2*k) :
    ∃ m F T Q,Con Try.prog 118 0 [] [grG g nb N,.p (.int .i64 k),.p (.int .i64 l)] (pebR N m F T Q) (.tup [pebO N m 0,.p (.bool true)])∧m≤24∧NonN Q m∧qL Q m=accI N k l g nb:=by
  obtain ⟨hN,hnb,hok⟩:=graph_in hg
  have hr:=con_IsRange_s k l hk hl
  have hn:=con_NewPebbles (nb:=nb) (g:=g) (N:=N) (k:=k) (by omega) hk hg (by omega)
  have lp:∀ d i m F T Q,i+d=nb→PInv N k nb m g F T Q→Asc Q m→(∀ j,j<m→Q j<(i:Nat))→qL Q m=accI N k l g i →
      ∃ m' F' T' Q',(∀ c,c.n=0→Run Try.prog c 118 zf21 (SRu g nb N k l m F T Q i) (Post c (pebR N m' F' T' Q') (.tup [pebO N m' 0,.p (.bool true)])))∧NonN Q' m'∧qL Q' m'=accI N k l g nb:=by
    intro d
    induction d with
    | zero =>
      intro i m F T Q hi hp ha hlt hq
      have hi':i=nb:=by omega
      refine ⟨m,F,T,Q,fun c hc=>?_,fun j hj=>(hp.q j hj).1,by rw [hq,hi']⟩
      have hd:decide ((i:Int)<(nb:Int))=false:=by simp;omega
      refine path_ok mixed Try.func118 hc (nUe g nb N k l m F T Q i) ?_
      repeat' (first | exact aN | apply aI)
      all_goals (first | exact aA _ _ | exact aE _ | omega | rfl | (intros;first | assumption | exact trivial | rfl | exact fT ‹_› | ((repeat' (first | assumption | apply anda | apply notf));done)) | (exact hd) | (intro j hj;simp [All]))
    | succ d ih =>
      intro i m F T Q hi hp ha hlt hq
      have hd:decide ((i:Int)<(nb:Int))=true:=by simp;omega
      have hm:m≤24:=by
        have:=accI_len N k l g i
        rw [← hq,qL_length] at this;omega
      have hsp:Mat.Sparse N k l (plL g Q m):=by rw [plL_qL,hq];exact accI_sparse N k l g i
      rcases con_PlaceBar (e:=i) hp ha hlt hg hk hl (by omega) (by omega) hsp with ⟨F1,T1,hc1,hp1,hs1⟩ | ⟨hc1,hs1⟩
      · obtain ⟨m',F',T',Q',hrun,h2⟩:=ih (i+1) (m+1) F1 T1 _ (by omega) hp1 (fun j hj=>by
          show (if j<m then Q j else (i:Int))<(if j+1<m then Q (j+1) else (i:Int))
          rw [if_pos (show j<m by omega)]
          by_cases h:j+1<m
          · rw [if_pos h];exact ha j h
          · rw [if_neg h];exact hlt j (by omega)) (fun j hj=>by
          show (if j<m then Q j else (i:Int))<((i+1:Nat):Int)
          by_cases h:j<m
          · rw [if_pos h];have:=hlt j h;omega
          · rw [if_neg h];omega) (by
          simp only [accI]
          rw [← hq,← plL_qL,if_pos hs1]
          simp only [qL,Nat.lt_irrefl,if_false,Int.toNat_natCast]
          rw [qL_congr (Q':=Q) m (fun j hj=>by simp only [hj,if_true])])
        refine ⟨m',F',T',Q',fun c hc=>?_,h2⟩
        refine piece_ok mixed hc (nUl g nb N k l m (m+1) F T Q F1 T1 (fun s=>if s<m then Q s else i) i true) ?_ (hrun c hc)
        repeat' (first | exact aN | apply aI)
        all_goals (first | exact aP _ _ | exact aA _ _ | omega | rfl | (intros;first | assumption | exact trivial | rfl | exact fT ‹_› | ((repeat' (first | assumption | apply anda | apply notf));done)) | (exact hd) | (exact hc1) | (intro j hj;simp [All]))
      · obtain ⟨m',F',T',Q',hrun,h2⟩:=ih (i+1) m F T Q (by omega) hp ha (fun j hj=>by have:=hlt j hj;omega) (by
          simp only [accI]
          rw [← hq,← plL_qL,if_neg hs1])
        refine ⟨m',F',T',Q',fun c hc=>?_,h2⟩
        refine piece_ok mixed hc (nUl g nb N k l m m F T Q F T Q i false) ?_ (hrun c hc)
        repeat' (first | exact aN | apply aI)
        all_goals (first | exact aP _ _ | exact aA _ _ | omega | rfl | (intros;first | assumption | exact trivial | rfl | exact fT ‹_› | ((repeat' (first | assumption | apply anda | apply notf));done)) | (exact hd) | (exact hc1) | (intro j hj;simp [All]))
  obtain ⟨m,F,T,Q,hrun,hnn,hq⟩:=lp nb 0 0 _ _ _ (by omega) (PInv.start hok) (fun j hj=>by omega) (fun j hj=>absurd hj (Nat.not_lt_zero _)) rfl
  have hm:m≤24:=by
    have:=accI_len N k l g nb
    rw [← hq,qL_length] at this;omega
  refine ⟨m,F,T,Q,?_,hm,hnn,hq⟩
  refine con_start Try.func118 rfl (by kernel_rfl) rfl (fun c hc=>?_)
  refine piece_ok mixed hc (nUz g nb N k l) ?_ (hrun c hc)
  repeat' (first | exact aN | apply aI)
  all_goals (first | exact aG _ | exact aP _ _ | exact aA _ _ | omega | rfl | (intros;first | assumption | exact trivial | rfl | exact fT ‹_› | ((repeat' (first | assumption | apply anda | apply notf));done)) | (exact hn) | (intros;exact hr) | (simp;done) | (intro j hj;simp [All]))
theorem con_RankOf_s {N nb:Nat} {g:Nat→T_Bar} (hg:isGraphF ((N:Int),(nb,g),())=true) (k l:Nat) (hk:1≤k∧k≤3) (hl:l+1≤2*k) :
    Con Try.prog 57 0 [] [grG g nb N,.p (.int .i64 k),.p (.int .i64 l)] [] (.p (.int .i64 ((accI N k l g nb).length:Nat))):=by
  obtain ⟨m,F,T,Q,hrun,hm,hn,hq⟩:=con_RunPebbles_s hg k l hk hl
  rw [← hq,qL_length]
  refine con_start Try.func57 rfl (by kernel_rfl) rfl (fun c hc=>?_)
  refine path_ok mixed Try.func57 hc (nKs g nb N k l m F T Q) ?_
  repeat' (first | exact aN | apply aI)
  all_goals (first | omega | rfl | (intros;first | assumption | exact trivial | rfl | exact fT ‹_› | ((repeat' (first | assumption | apply anda | apply notf));done)) | (exact hrun) | (simp;done) | (intro i hi;simp [All]))
end Go.Proofs.Ytffnfeefjdmifaa.Mach
namespace Go.Proofs.Ytffnfeefjdmifaa.Mach
open Go
set_option linter.unusedVariables false
set_option linter.unusedSimpArgs false
def z2:Ob:=⟨true,2,1,fun _=>[.p (.int .i64 0),.p .nil]⟩
def gbx (n:Int) (j c:Nat):Ob:=⟨true,2,1,fun _=>[.p (.int .i64 n),.ar 2 j 0 c]⟩
def gsOb (n:Int) (c:Nat) (G:Nat→T_BarS):Ob:=⟨false,2,c,fun i=>[.p (.int .i64 n),.p (.seq false 2 (G i).1 (fun s=>[.int .i64 ((G i).2 s).1,.int .i64 ((G i).2 s).2.1]))]⟩
def snocB (c:Nat) (G:Nat→T_BarS) (x:T_BarS) (i:Nat):T_BarS:=(if i<c then (G i).1 else x.1,fun s=>(if i<c then ((G i).2 s).1 else (x.2 s).1,if i<c then ((G i).2 s).2.1 else (x.2 s).2.1,()))
def maxI (n:Int):Int:=if 2*n - 3>0 then 2*n - 3 else 0
def btE (w i:Int):Bool:=bitI .and .i64 (shrI .i64 w i) 1==1
def gaI (n:Int) (c:Nat) (h:Nat→T_Bar):AV:=.agg [.p (.int .i64 n),brL h c]
def SGs (n a c:Nat) (h:Nat→T_Bar):St:=⟨[.p (.int .i64 n),.p .any,.pt 2 0 0 0,.pt 2 1 0 0,.p (.int .i64 a)]++List.replicate 28 anyA,[(0,z2),(1,gbx n 2 c),(2,brOb c h)],3⟩
def SGs1 (n a b c:Nat) (h:Nat→T_Bar):St:=⟨[.p (.int .i64 n),.p .any,.pt 2 0 0 0,.pt 2 1 0 0,.p (.int .i64 a),.p (.int .i64 b)]++List.replicate 27 anyA,[(0,z2),(1,gbx n 2 c),(2,brOb c h)],3⟩
def SGi (n a c:Nat) (h:Nat→T_Bar):St:=⟨[.p (.int .i64 n),.p .any,.pt 2 0 0 0,.pt 2 1 0 0]++List.replicate 8 anyA++[.p (.int .i64 n),.p (.int .i64 a)]++List.replicate 19 anyA,[(0,z2),(1,gbx n 2 c),(2,brOb c h)],3⟩
def SGi1 (n a b c:Nat) (h:Nat→T_Bar):St:=⟨[.p (.int .i64 n),.p .any,.pt 2 0 0 0,.pt 2 1 0 0,.p (.int .i64 a),.p (.int .i64 b)]++List.replicate 6 anyA++[.p (.int .i64 n),.p (.int .i64 a)]++List.replicate 19 anyA,[(0,z2),(1,gbx n 2 c),(2,brOb c h)],3⟩
def SSo (w M i c:Nat) (f:Nat→Int):St:=⟨[.p (.int .i64 w),.p (.int .i64 M),.p .any,.p .any,.p .any,.ar 1 0 0 c,.p .any,.p .any,.p (.int .i64 M),.p (.int .i64 i)]++List.replicate 13 anyA,[(0,iOb c f)],1⟩
def SOb (n:Int) (M:Nat) (A:Nat→T_Bar) (S:T_IntS) (i c:Nat) (h:Nat→T_Bar):St :=
  ⟨[gaI n M A,inL S,.pt 2 0 0 0,.p .any,.pt 2 1 0 0,.pt 2 2 0 0]++List.replicate 6 anyA++[brL A M,.p (.int .i64 M),.p (.int .i64 i)]++List.replicate 15 anyA,[(0,⟨true,2,1,fun _=>[.p (.int .i64 n),brL A M]⟩),(1,z2),(2,gbx n 3 c),(3,brOb c h)],4⟩
def SRgs (n:Nat) (tg':Int) (M:Nat) (A:Nat→T_Bar) (w c:Nat) (G:Nat→T_BarS):St :=
  ⟨[brL A M,.p (.int .i64 n),.p (.int .i64 tg'),.p .any,.p .any,.p .any,.p .any,.ar 2 0 0 c,.p (.int .i64 w)]++List.replicate 47 anyA,[(0,gsOb n c G)],1⟩
def SRs1 (n:Nat) (tg':Int) (M:Nat) (A:Nat→T_Bar) (w c:Nat) (G:Nat→T_BarS) (i k:Nat) (h:Nat→T_Bar):St :=
  ⟨[brL A M,.p (.int .i64 n),.p (.int .i64 tg'),.p .any,.p .any,.p .any,.p .any,.ar 2 0 0 c,.p (.int .i64 w),.pt 2 1 0 0,.p (.int .i64 i)]++List.replicate 45 anyA,[(0,gsOb n c G),(1,gbx n 2 k),(2,brOb k h)],3⟩
theorem eFy_s (v:T_Graph) :
    pathOb Try.prog Try.f154 0 [rg 2,rm [(1,oc [] (.p (.bool false)))] 1,.dec true,rg 1] [.code (bodyOf Try.f154)] (start Try.f154 [] 0 [graphA v]) [] 1 [] (.p (.int .i64 (-1))) =
    some [(NT 0 1),Con Try.prog 110 0 [] [(zf44 v)] [] (.p (.bool false)),((!false)=true),(AI ((-1)))]:=by kernel_rfl
theorem eFz_s (g:Nat→T_Bar) (nb N r:Nat) :
    pathOb Try.prog Try.f154 0 [rg 2,rm [(1,oc [] (.p (.bool true)))] 1,.dec false,rm [(6,oc [] (.p (.int .i64 r)))] 2] [.code (bodyOf Try.f154)] (start Try.f154 [] 0 [grG g nb N]) [] 1 [] (.p (.int .i64 (maxI N - r))) =
    some [(NT 0 1),Con Try.prog 110 0 [] [(zf47 N nb g)] [] (.p (.bool true)),((!true)=false),(NT 0 1),(R0 (2*(↑N:Int))),(R1 (2*(↑N:Int))),(R0 (2*(↑N:Int) - 3)),(R1 (2*(↑N:Int) - 3)),(NT 0 1),Con Try.prog 57 0 [] [(zf47 N nb g),.p (.int .i64 2),.p (.int .i64 3)] [] (.p (.int .i64 (↑r:Int))),(R0 ((if true=true then if 2*(↑N:Int) - 3>0 then 2*(↑N:Int) - 3 else 0 else if 2*(↑N:Int) - 3<0 then 2*(↑N:Int) - 3 else 0) - (↑r:Int))),(R1 ((if true=true then if 2*(↑N:Int) - 3>0 then 2*(↑N:Int) - 3 else 0 else if 2*(↑N:Int) - 3<0 then 2*(↑N:Int) - 3 else 0) - (↑r:Int))),((((if true=true then if 2*(↑N:Int) - 3>0 then 2*(↑N:Int) - 3 else 0 else if 2*(↑N:Int) - 3<0 then 2*(↑N:Int) - 3 else 0) - (↑r:Int)):Int)=(maxI (↑N:Int) - (↑r:Int)))]:=by kernel_rfl
theorem eFy_i (v:T_Graph) :
    pathOb Try.prog Try.f140 0 [rg 2,rm [(1,oc [] (.p (.bool false)))] 1,.dec true,rg 1] [.code (bodyOf Try.f140)] (start Try.f140 [] 0 [graphA v]) [] 1 [] (.p (.int .i64 (-1))) =
    some [(NT 0 1),Con Try.prog 101 0 [] [(zf44 v)] [] (.p (.bool false)),((!false)=true),(AI ((-1)))]:=by kernel_rfl
theorem eFz_i (g:Nat→T_Bar) (nb N r:Nat) :
    pathOb Try.prog Try.f140 0 [rg 2,rm [(1,oc [] (.p (.bool true)))] 1,.dec false,rm [(6,oc [] (.p (.int .i64 r)))] 2] [.code (bodyOf Try.f140)] (start Try.f140 [] 0 [grG g nb N]) [] 1 [] (.p (.int .i64 (maxI N - r))) =
    some [(NT 0 1),Con Try.prog 101 0 [] [(zf47 N nb g)] [] (.p (.bool true)),((!true)=false),(NT 0 1),(R0 (2*(↑N:Int))),(R1 (2*(↑N:Int))),(R0 (2*(↑N:Int) - 3)),(R1 (2*(↑N:Int) - 3)),(NT 0 1),Con Try.prog 65 0 [] [(zf47 N nb g),.p (.int .i64 2),.p (.int .i64 3)] [] (.p (.int .i64 (↑r:Int))),(R0 ((if true=true then if 2*(↑N:Int) - 3>0 then 2*(↑N:Int) - 3 else 0 else if 2*(↑N:Int) - 3<0 then 2*(↑N:Int) - 3 else 0) - (↑r:Int))),(R1 ((if true=true then if 2*(↑N:Int) - 3>0 then 2*(↑N:Int) - 3 else 0 else if 2*(↑N:Int) - 3<0 then 2*(↑N:Int) - 3 else 0) - (↑r:Int))),((((if true=true then if 2*(↑N:Int) - 3>0 then 2*(↑N:Int) - 3 else 0 else if 2*(↑N:Int) - 3<0 then 2*(↑N:Int) - 3 else 0) - (↑r:Int)):Int)=(maxI (↑N:Int) - (↑r:Int)))]:=by kernel_rfl
theorem eR_s (v:T_Graph) (x:Int) :
    pathOb Try.prog Try.f138 0 [rg 2,rm [(1,oc [] (.p (.int .i64 x)))] 2] [.code (bodyOf Try.f138)] (start Try.f138 [] 0 [graphA v]) [] 1 [] (.p (.bool (x==0))) =
    some [(NT 0 1),Con Try.prog 154 0 [] [(zf44 v)] [] (.p (.int .i64 x)),((x==0)=(x==0))]:=by kernel_rfl
theorem eR_i (v:T_Graph) (x:Int) :
    pathOb Try.prog Try.f109 0 [rg 2,rm [(1,oc [] (.p (.int .i64 x)))] 2] [.code (bodyOf Try.f109)] (start Try.f109 [] 0 [graphA v]) [] 1 [] (.p (.bool (x==0))) =
    some [(NT 0 1),Con Try.prog 140 0 [] [(zf44 v)] [] (.p (.int .i64 x)),((x==0)=(x==0))]:=by kernel_rfl
theorem eM_s (v:T_Graph) (b:Bool) (r:Nat) :
    pathOb Try.prog Try.f107 0 [rg 2,rm [(1,oc [] (.p (.bool b))),(5,oc [] (.p (.int .i64 r)))] 3] [.code (bodyOf Try.f107)] (start Try.f107 [] 0 [graphA v]) [] 1 [] (.p (.bool (bif b then (v.2.1.1:Int)==(r:Int) else false))) =
    some [(NT 0 1),Con Try.prog 138 0 [] [(zf44 v)] [] (.p (.bool b)),(AG b),((b=true)→(NT 0 1)),(AG b),((b=true)→(NT 0 1)),(AG b),((b=true)→ Con Try.prog 57 0 [] [(zf44 v),.p (.int .i64 2),.p (.int .i64 3)] [] (.p (.int .i64 (↑r:Int)))),(AG b),(AG b),(AG b),((bif b then (↑v.2.1.1:Int)==(↑r:Int) else false)=(bif b then (↑v.2.1.1:Int)==(↑r:Int) else false))]:=by kernel_rfl
theorem eM_i (v:T_Graph) (b:Bool) (r:Nat) :
    pathOb Try.prog Try.f44 0 [rg 2,rm [(1,oc [] (.p (.bool b))),(2,oc [] (.p (.int .i64 r)))] 6] [.code (bodyOf Try.f44)] (start Try.f44 [] 0 [graphA v]) [] 1 [] (.p (.bool (bif b then (r:Int)==(v.2.1.1:Int) else false))) =
    some [(NT 0 1),Con Try.prog 109 0 [] [(zf44 v)] [] (.p (.bool b)),((b=true)→(NT 0 1)),(AG b),((b=true)→ Con Try.prog 65 0 [] [(zf44 v),.p (.int .i64 2),.p (.int .i64 3)] [] (.p (.int .i64 (↑r:Int)))),(AG b),((b=true)→(NT 0 1)),(AG b),(AG b),(AG b),(AG b),((bif b then (↑r:Int)==(↑v.2.1.1:Int) else false)=(bif b then (↑r:Int)==(↑v.2.1.1:Int) else false))]:=by kernel_rfl
theorem eGs0 (n:Nat) :
    pieceOb Try.prog 0 [rg 1,rg 4,rm [(1,oc [] (.p (.bool true)))] 1,.dec false,rg 1,.head] [.code (bodyOf Try.f39)] (start Try.f39 [] 0 [.p (.int .i64 n)]) [0,96] 1 (SGs n 0 0 (fun _=>(0,0,()))) =
    some (zf22,[(NT 0 1),((true=true)→ (AN 1)),Con Try.prog 37 0 [] [.p (.int .i64 (↑n:Int)),.p (.int .i64 1),.p (.int .i64 7)] [] (.p (.bool true)),((!true)=false),(AI ((↑n:Int))),(AN 0),(AN 0),((0:Int)=(↑0:Int)),((((List.map (fun v=>AV.p (absV v)) [Value.int IntKind.i64 0,Value.slice none 0 0]).length):Nat)=2),(NL 1 1),(NL 1 1),(AI 0),((((List.map (fun v=>AV.p (absV v)) [Value.int IntKind.i64 0,Value.slice none 0 0]).length):Nat)=2),(NL 1 1),(NL 1 1),(AI ((↑n:Int))),(AN 0),(AN 0)]):=by kernel_rfl
theorem eGs1 (n a c:Nat) (h:Nat→T_Bar) :
    pieceOb Try.prog 0 [rg 3,.dec true,rg 3,.head] zf22 (SGs n a c h) [0,1,2] 1 (SGs1 n a (a+1) c h) =
    some (zf9,[((decide ((↑a:Int)<(↑n:Int)))=true),(R0 ((↑a:Int)+1)),(R1 ((↑a:Int)+1)),(AI ((↑n:Int))),(AN 0),(AN 0),(AI ((↑a:Int))),((((↑a:Int)+1):Int)=(↑(a+1):Int)),(AN 2),(NL 1 1),(NL 1 1),(AI 0),(AN 2),(NL 1 1),(NL 1 1),(AI ((↑n:Int))),(AN 0),(AN c),(AN 2),(NL c c),(AA c (fun i=>[.p (.int .i64 ((h i).1)),.p (.int .i64 ((h i).2.1))]))]):=by kernel_rfl
theorem eGse (n a c:Nat) (h:Nat→T_Bar) :
    pathOb Try.prog Try.f39 0 [rg 3,.dec false,rg 2] zf22 (SGs n a c h) [2] 1 [(0,brOb c h)] (.agg [.p (.int .i64 n),.ar 2 0 0 c]) =
    some [((decide ((↑a:Int)<(↑n:Int)))=false),(NT 0 1),(NT 0 1),((true=true)→ (AN 1)),(NT 0 1),(AI ((↑n:Int))),(AN 0),(AN c),(AN 2),(NL c c),(AA c (fun i=>[.p (.int .i64 ((h i).1)),.p (.int .i64 ((h i).2.1))])),(AE c)]:=by kernel_rfl
theorem eGs2 (n a b c:Nat) (h:Nat→T_Bar) :
    pieceOb Try.prog 0 [rg 3,.dec true,rg 9,rg 3,.head] zf9 (SGs1 n a b c h) [0,1,291] 1 (SGs1 n a (b+1) (c+1) (snoc c h ((a:Int),(b:Int),()))) =
    some (zf9,[((decide ((↑b:Int)<(↑n:Int)))=true),(NT 0 1),(NL 1 1),(NL c c),(NL ((c+1)*16) 140737488355328),(NL (c+1) 9223372036854775807),(NT 0 1),((true=true)→ (AN 1)),(R0 ((↑b:Int)+1)),(R1 ((↑b:Int)+1)),(AI ((↑n:Int))),(AN 0),(AN 0),(AI ((↑a:Int))),((((↑b:Int)+1):Int)=(↑(b+1):Int)),(AN 2),(NL 1 1),(NL 1 1),(AI 0),(AN 2),(NL 1 1),(NL 1 1),(AI ((↑n:Int))),(AN 0),(AN ((c+1))),(AN 2),(NL (c+1) (c+1)),(CV [(1,⟨true,2,1,(fun i_1=>[.p (.int .i64 (↑n:Int)),.ar 2 291 0 (c+1)])⟩),(291,⟨false,2,(c+1),(fun i_1=>(if (i_1<c) then [.p (.int .i64 ((h i_1).1)),.p (.int .i64 ((h i_1).2.1))] else [.p (.int .i64 (↑a:Int)),.p (.int .i64 (↑b:Int))]))⟩),(259,⟨false,2,1,(fun i_1=>[.p (.int .i64 (↑a:Int)),.p (.int .i64 (↑b:Int))])⟩),(0,⟨true,2,1,(fun i_1=>[.p (.int .i64 0),.p (.nil)])⟩)] [0,1,291] 1 (c+1) (fun i=>if (i<c) then [.p (.int .i64 ((h i).1)),.p (.int .i64 ((h i).2.1))] else [.p (.int .i64 (↑a:Int)),.p (.int .i64 (↑b:Int))]) (fun i=>[.p (.int .i64 (if i<c then (h i).1 else (↑a:Int))),.p (.int .i64 (if i<c then (h i).2.1 else (↑b:Int)))]))]):=by kernel_rfl
theorem eGs3 (n a b c:Nat) (h:Nat→T_Bar) :
    pieceOb Try.prog 0 [rg 3,.dec false,rg 3,.head] zf9 (SGs1 n a b c h) [0,1,2] 1 (SGs n (a+1) c h) =
    some (zf22,[((decide ((↑b:Int)<(↑n:Int)))=false),(R0 ((↑a:Int)+1)),(R1 ((↑a:Int)+1)),(AI ((↑n:Int))),(AN 0),(AN 0),((((↑a:Int)+1):Int)=(↑(a+1):Int)),(AN 2),(NL 1 1),(NL 1 1),(AI 0),(AN 2),(NL 1 1),(NL 1 1),(AI ((↑n:Int))),(AN 0),(AN c),(AN 2),(NL c c),(AA c (fun i=>[.p (.int .i64 ((h i).1)),.p (.int .i64 ((h i).2.1))]))]):=by kernel_rfl
theorem eGi0 (n:Nat) :
    pieceOb Try.prog 0 [rg 1,rm [(1,oc [] (.p (.bool true)))] 1,.dec false,rg 4,rg 2,.head] [.code (bodyOf Try.f41)] (start Try.f41 [] 0 [.p (.int .i64 n)]) [0,192] 1 (SGi n 0 0 (fun _=>(0,0,()))) =
    some (zf23,[Con Try.prog 40 0 [] [.p (.int .i64 (↑n:Int)),.p (.int .i64 1),.p (.int .i64 7)] [] (.p (.bool true)),((!true)=false),(NT 0 1),((true=true)→ (AN 1)),(AI ((↑n:Int))),(AN 0),(AN 0),(AI ((↑n:Int))),((0:Int)=(↑0:Int)),((((List.map (fun v=>AV.p (absV v)) [Value.int IntKind.i64 0,Value.slice none 0 0]).length):Nat)=2),(NL 1 1),(NL 1 1),(AI 0),((((List.map (fun v=>AV.p (absV v)) [Value.int IntKind.i64 0,Value.slice none 0 0]).length):Nat)=2),(NL 1 1),(NL 1 1),(AI ((↑n:Int))),(AN 0),(AN 0)]):=by kernel_rfl
theorem eGi1 (n a c:Nat) (h:Nat→T_Bar) :
    pieceOb Try.prog 0 [rg 1,.dec true,rg 2,rg 3,.head] zf23 (SGi n a c h) [0,1,2] 1 (SGi1 n a (a+1) c h) =
    some (zf6,[((decide ((↑a:Int)<(↑n:Int)))=true),(R0 ((↑a:Int)+1)),(R1 ((↑a:Int)+1)),(AI ((↑n:Int))),(AN 0),(AN 0),(AI ((↑a:Int))),((((↑a:Int)+1):Int)=(↑(a+1):Int)),(AI ((↑n:Int))),(AI ((↑a:Int))),(AN 2),(NL 1 1),(NL 1 1),(AI 0),(AN 2),(NL 1 1),(NL 1 1),(AI ((↑n:Int))),(AN 0),(AN c),(AN 2),(NL c c),(AA c (fun i=>[.p (.int .i64 ((h i).1)),.p (.int .i64 ((h i).2.1))]))]):=by kernel_rfl
theorem eGie (n a c:Nat) (h:Nat→T_Bar) :
    pathOb Try.prog Try.f41 0 [rg 1,.dec false,rg 2] zf23 (SGi n a c h) [2] 1 [(0,brOb c h)] (.agg [.p (.int .i64 n),.ar 2 0 0 c]) =
    some [((decide ((↑a:Int)<(↑n:Int)))=false),(NT 0 1),(NT 0 1),((true=true)→ (AN 1)),(NT 0 1),(AI ((↑n:Int))),(AN 0),(AN c),(AN 2),(NL c c),(AA c (fun i=>[.p (.int .i64 ((h i).1)),.p (.int .i64 ((h i).2.1))])),(AE c)]:=by kernel_rfl
theorem eGi2 (n a b c:Nat) (h:Nat→T_Bar) :
    pieceOb Try.prog 0 [rg 3,.dec true,rg 9,rg 3,.head] zf6 (SGi1 n a b c h) [0,1,291] 1 (SGi1 n a (b+1) (c+1) (snoc c h ((a:Int),(b:Int),()))) =
    some (zf6,[((decide ((↑b:Int)<(↑n:Int)))=true),(NT 0 1),(NL 1 1),(NL c c),(NL ((c+1)*16) 140737488355328),(NL (c+1) 9223372036854775807),(NT 0 1),((true=true)→ (AN 1)),(R0 ((↑b:Int)+1)),(R1 ((↑b:Int)+1)),(AI ((↑n:Int))),(AN 0),(AN 0),(AI ((↑a:Int))),((((↑b:Int)+1):Int)=(↑(b+1):Int)),(AI ((↑n:Int))),(AI ((↑a:Int))),(AN 2),(NL 1 1),(NL 1 1),(AI 0),(AN 2),(NL 1 1),(NL 1 1),(AI ((↑n:Int))),(AN 0),(AN ((c+1))),(AN 2),(NL (c+1) (c+1)),(CV [(1,⟨true,2,1,(fun i_1=>[.p (.int .i64 (↑n:Int)),.ar 2 291 0 (c+1)])⟩),(291,⟨false,2,(c+1),(fun i_1=>(if (i_1<c) then [.p (.int .i64 ((h i_1).1)),.p (.int .i64 ((h i_1).2.1))] else [.p (.int .i64 (↑a:Int)),.p (.int .i64 (↑b:Int))]))⟩),(259,⟨false,2,1,(fun i_1=>[.p (.int .i64 (↑a:Int)),.p (.int .i64 (↑b:Int))])⟩),(0,⟨true,2,1,(fun i_1=>[.p (.int .i64 0),.p (.nil)])⟩)] [0,1,291] 1 (c+1) (fun i=>if (i<c) then [.p (.int .i64 ((h i).1)),.p (.int .i64 ((h i).2.1))] else [.p (.int .i64 (↑a:Int)),.p (.int .i64 (↑b:Int))]) (fun i=>[.p (.int .i64 (if i<c then (h i).1 else (↑a:Int))),.p (.int .i64 (if i<c then (h i).2.1 else (↑b:Int)))]))]):=by kernel_rfl
theorem eGi3 (n a b c:Nat) (h:Nat→T_Bar) :
    pieceOb Try.prog 0 [rg 3,.dec false,rg 2,.head] zf6 (SGi1 n a b c h) [0,1,2] 1 (SGi n (a+1) c h) =
    some (zf23,[((decide ((↑b:Int)<(↑n:Int)))=false),(R0 ((↑a:Int)+1)),(R1 ((↑a:Int)+1)),(AI ((↑n:Int))),(AN 0),(AN 0),(AI ((↑n:Int))),((((↑a:Int)+1):Int)=(↑(a+1):Int)),(AN 2),(NL 1 1),(NL 1 1),(AI 0),(AN 2),(NL 1 1),(NL 1 1),(AI ((↑n:Int))),(AN 0),(AN c),(AN 2),(NL c c),(AA c (fun i=>[.p (.int .i64 ((h i).1)),.p (.int .i64 ((h i).2.1))]))]):=by kernel_rfl
theorem eSz (w M:Nat) :
    pieceOb Try.prog 0 [rg 1,rg 2,rg 2,.head] [.code (bodyOf Try.f42)] (start Try.f42 [] 0 [.p (.int .i64 w),.p (.int .i64 M)]) [32] 1 (SSo w M 0 0 (fun _=>0)) =
    some (zf32,[(AI ((↑w:Int))),(AI ((↑M:Int))),(AN 0),(AN 0),(AI ((↑M:Int))),((0:Int)=(↑0:Int)),(AN 1),(NL 0 0),(AA 0 (fun i=>[.p (.int .i64 0)]))]):=by kernel_rfl
theorem eSt (w M i c:Nat) (f:Nat→Int) :
    pieceOb Try.prog 0 [rg 1,.dec true,rg 2,rg 5,.dec true,rg 5,rg 2,.head] zf32 (SSo w M i c f) [353] 1 (SSo w M (i+1) (c+1) (snocI c f i)) =
    some (zf32,[((decide ((↑i:Int)<(↑M:Int)))=true),(IL 0 (↑i:Int)),((bitI BinOp.and IntKind.i64 (shrI IntKind.i64 (↑w:Int) (↑i:Int)) 1==1)=true),(NL 1 1),(NL c c),(NL ((c+1)*8) 140737488355328),(NL (c+1) 9223372036854775807),(R0 ((↑i:Int)+1)),(R1 ((↑i:Int)+1)),(AI ((↑w:Int))),(AI ((↑M:Int))),(AN 0),(AN ((c+1))),(AI ((↑M:Int))),((((↑i:Int)+1):Int)=(↑(i+1):Int)),(AN 1),(NL (c+1) (c+1)),(CV [(353,⟨false,1,(c+1),(fun i_2=>(if (i_2<c) then [.p (.int .i64 (f i_2))] else [.p (.int .i64 (↑i:Int))]))⟩),(321,⟨false,1,1,(fun i_2=>[.p (.int .i64 (↑i:Int))])⟩)] [353] 1 (c+1) (fun i_1=>if (i_1<c) then [.p (.int .i64 (f i_1))] else [.p (.int .i64 (↑i:Int))]) (fun i_1=>[.p (.int .i64 (snocI c f (↑i:Int) i_1))]))]):=by kernel_rfl
theorem eSf (w M i c:Nat) (f:Nat→Int) :
    pieceOb Try.prog 0 [rg 1,.dec true,rg 2,rg 5,.dec false,rg 2,.head] zf32 (SSo w M i c f) [0] 1 (SSo w M (i+1) c f) =
    some (zf32,[((decide ((↑i:Int)<(↑M:Int)))=true),(IL 0 (↑i:Int)),((bitI BinOp.and IntKind.i64 (shrI IntKind.i64 (↑w:Int) (↑i:Int)) 1==1)=false),(R0 ((↑i:Int)+1)),(R1 ((↑i:Int)+1)),(AI ((↑w:Int))),(AI ((↑M:Int))),(AN 0),(AN c),(AI ((↑M:Int))),((((↑i:Int)+1):Int)=(↑(i+1):Int)),(AN 1),(NL c c),(AA c (fun i_1=>[.p (.int .i64 (f i_1))]))]):=by kernel_rfl
theorem eSe (w M i c:Nat) (f:Nat→Int) :
    pathOb Try.prog Try.f42 0 [rg 1,.dec false,rg 2] zf32 (SSo w M i c f) [0] 1 [(0,iOb c f)] (.ar 1 0 0 c) =
    some [((decide ((↑i:Int)<(↑M:Int)))=false),(AN 0),(AN c),(AN 1),(NL c c),(AA c (fun i_1=>[.p (.int .i64 (f i_1))])),(AE c)]:=by kernel_rfl
theorem eOz (n:Int) (M:Nat) (A:Nat→T_Bar) (S:T_IntS) :
    pieceOb Try.prog 0 [rg 2,rg 5,rg 4,.head] [.code (bodyOf Try.f43)] (start Try.f43 [] 0 [gaI n M A,inL S]) [0,32,160] 1 (SOb n M A S 0 0 (fun _=>(0,0,()))) =
    some (zf33,[(NT 0 1),(NT 0 1),((true=true)→ (AN 1)),(NT 0 1),(AI n),(AN M),(AP M (fun i=>[.int .i64 ((A i).1),.int .i64 ((A i).2.1)])),(AN S.1),(AP S.1 (fun i=>[.int .i64 (S.2 i)])),(AN 0),(AN 0),(AN 0),(AN M),(AP M (fun i=>[.int .i64 ((A i).1),.int .i64 ((A i).2.1)])),(AI ((↑M:Int))),((0:Int)=(↑0:Int)),((([AV.p (PV.int IntKind.i64 n),brL A M].length):Nat)=2),(NL 1 1),(NL 1 1),(AI n),(AN M),(AP M (fun i=>[.int .i64 ((A i).1),.int .i64 ((A i).2.1)])),((((List.map (fun v=>AV.p (absV v)) [Value.int IntKind.i64 0,Value.slice none 0 0]).length):Nat)=2),(NL 1 1),(NL 1 1),(AI 0),((((List.map (fun v=>AV.p (absV v)) [Value.int IntKind.i64 0,Value.slice none 0 0]).length):Nat)=2),(NL 1 1),(NL 1 1),(AI n),(AN 0),(AN 0)]):=by kernel_rfl
theorem eOt (n:Int) (M:Nat) (A:Nat→T_Bar) (S:T_IntS) (i c:Nat) (h:Nat→T_Bar) :
    pieceOb Try.prog 0 [rg 1,.dec true,rg 6,rm [(2,oc [] (.p (.bool true)))] 0,.dec true,rg 7,rg 2,.head] zf33 (SOb n M A S i c h) [0,1,2,452] 1 (SOb n M A S (i+1) (c+1) (snoc c h (A i))) =
    some (zf33,[((decide ((↑i:Int)<(↑M:Int)))=true),(IL 0 (↑i:Int)),(IT (↑i:Int) (↑M:Int)),(NT 0 1),((true=true)→ (AN 1)),Con Try.prog 108 0 [] [.p (.seq true 1 S.1 (fun i_1=>[.int .i64 (S.2 i_1)])),.p (.int .i64 (↑i:Int))] [] (.p (.bool true)),(true=true),(NT 0 1),(NT 0 1),(NL 1 1),(NL c c),(NL ((c+1)*16) 140737488355328),(NL (c+1) 9223372036854775807),(NT 0 1),((true=true)→ (AN 1)),(R0 ((↑i:Int)+1)),(R1 ((↑i:Int)+1)),(AI n),(AN M),(AP M (fun i_1=>[.int .i64 ((A i_1).1),.int .i64 ((A i_1).2.1)])),(AN S.1),(AP S.1 (fun i_1=>[.int .i64 (S.2 i_1)])),(AN 0),(AN 0),(AN 0),(AN M),(AP M (fun i_1=>[.int .i64 ((A i_1).1),.int .i64 ((A i_1).2.1)])),(AI ((↑M:Int))),((((↑i:Int)+1):Int)=(↑(i+1):Int)),(AN 2),(NL 1 1),(NL 1 1),(AI n),(AN M),(AP M (fun i_1=>[.int .i64 ((A i_1).1),.int .i64 ((A i_1).2.1)])),(AN 2),(NL 1 1),(NL 1 1),(AI 0),(AN 2),(NL 1 1),(NL 1 1),(AI n),(AN 0),(AN ((c+1))),(AN 2),(NL (c+1) (c+1)),(CV [(2,⟨true,2,1,(fun i_2=>[.p (.int .i64 n),.ar 2 452 0 (c+1)])⟩),(452,⟨false,2,(c+1),(fun i_2=>(if (i_2<c) then [.p (.int .i64 ((h i_2).1)),.p (.int .i64 ((h i_2).2.1))] else [.p (.int .i64 ((A i).1)),.p (.int .i64 ((A i).2.1))]))⟩),(420,⟨false,2,1,(fun i_2=>[.p (.int .i64 ((A i).1)),.p (.int .i64 ((A i).2.1))])⟩),(132,⟨true,2,1,(fun i_2=>[.p (.int .i64 ((A i).1)),.p (.int .i64 ((A i).2.1))])⟩),(0,⟨true,2,1,(fun i_2=>[.p (.int .i64 n),.p (.seq true 2 M (fun i_3=>[.int .i64 ((A i_3).1),.int .i64 ((A i_3).2.1)]))])⟩),(1,⟨true,2,1,(fun i_2=>[.p (.int .i64 0),.p (.nil)])⟩)] [0,1,2,452] 1 (c+1) (fun i_1=>if (i_1<c) then [.p (.int .i64 ((h i_1).1)),.p (.int .i64 ((h i_1).2.1))] else [.p (.int .i64 ((A i).1)),.p (.int .i64 ((A i).2.1))]) (fun i_1=>[.p (.int .i64 (if i_1<c then (h i_1).1 else (A i).1)),.p (.int .i64 (if i_1<c then (h i_1).2.1 else (A i).2.1))]))]):=by kernel_rfl
theorem eOf (n:Int) (M:Nat) (A:Nat→T_Bar) (S:T_IntS) (i c:Nat) (h:Nat→T_Bar) :
    pieceOb Try.prog 0 [rg 1,.dec true,rg 6,rm [(2,oc [] (.p (.bool false)))] 0,.dec false,rg 2,.head] zf33 (SOb n M A S i c h) [0,1,2,3] 1 (SOb n M A S (i+1) c h) =
    some (zf33,[((decide ((↑i:Int)<(↑M:Int)))=true),(IL 0 (↑i:Int)),(IT (↑i:Int) (↑M:Int)),(NT 0 1),((true=true)→ (AN 1)),Con Try.prog 108 0 [] [.p (.seq true 1 S.1 (fun i_1=>[.int .i64 (S.2 i_1)])),.p (.int .i64 (↑i:Int))] [] (.p (.bool false)),(false=false),(R0 ((↑i:Int)+1)),(R1 ((↑i:Int)+1)),(AI n),(AN M),(AP M (fun i_1=>[.int .i64 ((A i_1).1),.int .i64 ((A i_1).2.1)])),(AN S.1),(AP S.1 (fun i_1=>[.int .i64 (S.2 i_1)])),(AN 0),(AN 0),(AN 0),(AN M),(AP M (fun i_1=>[.int .i64 ((A i_1).1),.int .i64 ((A i_1).2.1)])),(AI ((↑M:Int))),((((↑i:Int)+1):Int)=(↑(i+1):Int)),(AN 2),(NL 1 1),(NL 1 1),(AI n),(AN M),(AP M (fun i_1=>[.int .i64 ((A i_1).1),.int .i64 ((A i_1).2.1)])),(AN 2),(NL 1 1),(NL 1 1),(AI 0),(AN 2),(NL 1 1),(NL 1 1),(AI n),(AN 0),(AN c),(AN 2),(NL c c),(AA c (fun i_1=>[.p (.int .i64 ((h i_1).1)),.p (.int .i64 ((h i_1).2.1))]))]):=by kernel_rfl
theorem eOe (n:Int) (M:Nat) (A:Nat→T_Bar) (S:T_IntS) (i c:Nat) (h:Nat→T_Bar) :
    pathOb Try.prog Try.f43 0 [rg 1,.dec false,rg 2] zf33 (SOb n M A S i c h) [3] 1 [(0,brOb c h)] (.agg [.p (.int .i64 n),.ar 2 0 0 c]) =
    some [((decide ((↑i:Int)<(↑M:Int)))=false),(NT 0 1),(NT 0 1),((true=true)→ (AN 1)),(NT 0 1),(AI n),(AN 0),(AN c),(AN 2),(NL c c),(AA c (fun i_1=>[.p (.int .i64 ((h i_1).1)),.p (.int .i64 ((h i_1).2.1))])),(AE c)]:=by kernel_rfl
theorem eCz (n:Nat) (tg':Int) (M:Nat) (A:Nat→T_Bar) :
    pieceOb Try.prog 0 [rg 1,rg 2,rg 1,.head] [.code (bodyOf Try.f38)] (start Try.f38 [] 0 [brL A M,.p (.int .i64 n),.p (.int .i64 tg')]) [32] 1 (SRgs n tg' M A 0 0 (fun _=>(0,fun _=>(0,0,())))) =
    some (zf34,[(AN M),(AP M (fun i=>[.int .i64 ((A i).1),.int .i64 ((A i).2.1)])),(AI ((↑n:Int))),(AI (tg')),(AN 0),(AN 0),((0:Int)=(↑0:Int)),(AN 2),(NL 0 0),(∀ i:Nat,(((i:Nat)<0)→(All []∧(([.p (.int .i64 0),.p (.nil)]:List AV)=[.p (.int .i64 (↑n:Int)),.p (.seq false 2 0 (fun i_1=>[.int .i64 0,.int .i64 0]))]))))]):=by kernel_rfl
theorem eC1 (n:Nat) (tg':Int) (M:Nat) (A:Nat→T_Bar) (w c:Nat) (G:Nat→T_BarS) :
    pieceOb Try.prog 0 [rg 5,.dec true,rg 5,rg 1,.head] zf34 (SRgs n tg' M A w c G) [0,257,193] 1 (SRs1 n tg' M A w c G 0 0 (fun _=>(0,0,()))) =
    some (zf4,[(IL 0 (↑M:Int)),((decide ((↑w:Int)<shlI IntKind.i64 1 (↑M:Int)))=true),(NT 0 1),((true=true)→ (AN 1)),(AN M),(AP M (fun i=>[.int .i64 ((A i).1),.int .i64 ((A i).2.1)])),(AI ((↑n:Int))),(AI (tg')),(AN 0),(AN c),(AI ((↑w:Int))),(AN 0),((0:Int)=(↑0:Int)),(AN 2),(NL c c),(AA c (fun i=>[.p (.int .i64 (↑n:Int)),.p (.seq false 2 ((G i).1) (fun i_1=>[.int .i64 (((G i).2 i_1).1),.int .i64 (((G i).2 i_1).2.1)]))])),((((List.map (fun v=>AV.p (absV v)) [Value.int IntKind.i64 0,Value.slice none 0 0]).length):Nat)=2),(NL 1 1),(NL 1 1),(AI ((↑n:Int))),(AN 0),(AN 0),(AN 2),(NL 0 0),(AA 0 (fun i=>[.p (.int .i64 0),.p (.int .i64 0)]))]):=by kernel_rfl
theorem eCe (n:Nat) (tg':Int) (M:Nat) (A:Nat→T_Bar) (w c:Nat) (G:Nat→T_BarS) :
    pathOb Try.prog Try.f38 0 [rg 5,.dec false,rg 2] zf34 (SRgs n tg' M A w c G) [0] 1 [(0,gsOb n c G)] (.ar 2 0 0 c) =
    some [(IL 0 (↑M:Int)),((decide ((↑w:Int)<shlI IntKind.i64 1 (↑M:Int)))=false),(AN 0),(AN c),(AN 2),(NL c c),(AA c (fun i=>[.p (.int .i64 (↑n:Int)),.p (.seq false 2 ((G i).1) (fun i_1=>[.int .i64 (((G i).2 i_1).1),.int .i64 (((G i).2 i_1).2.1)]))])),(∀ i:Nat,(((i:Nat)<c)→All [(false=false),(AE (((G i).1)))]))]:=by kernel_rfl
theorem eC2t (n:Nat) (tg':Int) (M:Nat) (A:Nat→T_Bar) (w c:Nat) (G:Nat→T_BarS) (i k:Nat) (h:Nat→T_Bar) :
    pieceOb Try.prog 0 [rg 4,.dec true,rg 5,.dec true,rg 10,rg 3,.head] zf4 (SRs1 n tg' M A w c G i k h) [0,1,515] 1 (SRs1 n tg' M A w c G (i+1) (k+1) (snoc k h (A i))) =
    some (zf4,[((decide ((↑i:Int)<(↑M:Int)))=true),(IL 0 (↑i:Int)),((bitI BinOp.and IntKind.i64 (shrI IntKind.i64 (↑w:Int) (↑i:Int)) 1==1)=true),(NT 0 1),(IL 0 (↑i:Int)),(IT (↑i:Int) (↑M:Int)),(NL 1 1),(NL k k),(NL ((k+1)*16) 140737488355328),(NL (k+1) 9223372036854775807),(NT 0 1),((true=true)→ (AN 1)),(R0 ((↑i:Int)+1)),(R1 ((↑i:Int)+1)),(AN M),(AP M (fun i_1=>[.int .i64 ((A i_1).1),.int .i64 ((A i_1).2.1)])),(AI ((↑n:Int))),(AI (tg')),(AN 0),(AN c),(AI ((↑w:Int))),(AN 0),((((↑i:Int)+1):Int)=(↑(i+1):Int)),(AN 2),(NL c c),(AA c (fun i_1=>[.p (.int .i64 (↑n:Int)),.p (.seq false 2 ((G i_1).1) (fun i_2=>[.int .i64 (((G i_1).2 i_2).1),.int .i64 (((G i_1).2 i_2).2.1)]))])),(AN 2),(NL 1 1),(NL 1 1),(AI ((↑n:Int))),(AN 0),(AN ((k+1))),(AN 2),(NL (k+1) (k+1)),(CV [(1,⟨true,2,1,(fun i_2=>[.p (.int .i64 (↑n:Int)),.ar 2 515 0 (k+1)])⟩),(515,⟨false,2,(k+1),(fun i_2=>(if (i_2<k) then [.p (.int .i64 ((h i_2).1)),.p (.int .i64 ((h i_2).2.1))] else [.p (.int .i64 ((A i).1)),.p (.int .i64 ((A i).2.1))]))⟩),(483,⟨false,2,1,(fun i_2=>[.p (.int .i64 ((A i).1)),.p (.int .i64 ((A i).2.1))])⟩),(0,⟨false,2,c,(fun i_2=>[.p (.int .i64 (↑n:Int)),.p (.seq false 2 ((G i_2).1) (fun i_3=>[.int .i64 (((G i_2).2 i_3).1),.int .i64 (((G i_2).2 i_3).2.1)]))])⟩)] [0,1,515] 1 (k+1) (fun i_1=>if (i_1<k) then [.p (.int .i64 ((h i_1).1)),.p (.int .i64 ((h i_1).2.1))] else [.p (.int .i64 ((A i).1)),.p (.int .i64 ((A i).2.1))]) (fun i_1=>[.p (.int .i64 (if i_1<k then (h i_1).1 else (A i).1)),.p (.int .i64 (if i_1<k then (h i_1).2.1 else (A i).2.1))]))]):=by kernel_rfl
theorem eC2f (n:Nat) (tg':Int) (M:Nat) (A:Nat→T_Bar) (w c:Nat) (G:Nat→T_BarS) (i k:Nat) (h:Nat→T_Bar) :
    pieceOb Try.prog 0 [rg 4,.dec true,rg 5,.dec false,rg 3,.head] zf4 (SRs1 n tg' M A w c G i k h) [0,1,2] 1 (SRs1 n tg' M A w c G (i+1) k h) =
    some (zf4,[((decide ((↑i:Int)<(↑M:Int)))=true),(IL 0 (↑i:Int)),((bitI BinOp.and IntKind.i64 (shrI IntKind.i64 (↑w:Int) (↑i:Int)) 1==1)=false),(R0 ((↑i:Int)+1)),(R1 ((↑i:Int)+1)),(AN M),(AP M (fun i_1=>[.int .i64 ((A i_1).1),.int .i64 ((A i_1).2.1)])),(AI ((↑n:Int))),(AI (tg')),(AN 0),(AN c),(AI ((↑w:Int))),(AN 0),((((↑i:Int)+1):Int)=(↑(i+1):Int)),(AN 2),(NL c c),(AA c (fun i_1=>[.p (.int .i64 (↑n:Int)),.p (.seq false 2 ((G i_1).1) (fun i_2=>[.int .i64 (((G i_1).2 i_2).1),.int .i64 (((G i_1).2 i_2).2.1)]))])),(AN 2),(NL 1 1),(NL 1 1),(AI ((↑n:Int))),(AN 0),(AN k),(AN 2),(NL k k),(AA k (fun i_1=>[.p (.int .i64 ((h i_1).1)),.p (.int .i64 ((h i_1).2.1))]))]):=by kernel_rfl
theorem eC3t (n:Nat) (tg':Int) (M:Nat) (A:Nat→T_Bar) (w c:Nat) (G:Nat→T_BarS) (i k:Nat) (h:Nat→T_Bar) (b:Bool) :
    pieceOb Try.prog 0 [rg 4,.dec false,rm [(7,oc [] (.p (.bool b)))] 1,.dec true,rg 5,rg 3,.head] zf4 (SRs1 n tg' M A w c G i k h) [515] 1 (SRgs n tg' M A (w+1) (c+1) (snocB c G (k,h))) =
    some (zf34,[((decide ((↑i:Int)<(↑M:Int)))=false),(NT 0 1),((((↑k:Int)==tg')=true)→(NT 0 1)),(AG ((↑k:Int)==tg')),((((↑k:Int)==tg')=true)→ (AN 2)),((((↑k:Int)==tg')=true)→(NL k k)),((((↑k:Int)==tg')=true)→ Con Try.prog 107 0 [] [(zf45 n k h)] [] (.p (.bool b))),(AG ((↑k:Int)==tg')),((bif (↑k:Int)==tg' then b else false)=true),(NT 0 1),(NL 1 1),(NL c c),(NL ((c+1)*32) 140737488355328),(NL (c+1) 9223372036854775807),(R0 ((↑w:Int)+1)),(R1 ((↑w:Int)+1)),(AN M),(AP M (fun i_1=>[.int .i64 ((A i_1).1),.int .i64 ((A i_1).2.1)])),(AI ((↑n:Int))),(AI (tg')),(AN 0),(AN ((c+1))),((((↑w:Int)+1):Int)=(↑(w+1):Int)),(AN 2),(NL (c+1) (c+1)),(CV [(515,⟨false,2,(c+1),(fun i_2=>(if (i_2<c) then [.p (.int .i64 (↑n:Int)),.p (.seq false 2 ((G i_2).1) (fun i_3=>[.int .i64 (((G i_2).2 i_3).1),.int .i64 (((G i_2).2 i_3).2.1)]))] else [.p (.int .i64 (↑n:Int)),.ar 2 2 0 k]))⟩),(483,⟨false,2,1,(fun i_2=>[.p (.int .i64 (↑n:Int)),.ar 2 2 0 k])⟩),(1,⟨true,2,1,(fun i_2=>[.p (.int .i64 (↑n:Int)),.ar 2 2 0 k])⟩),(2,⟨false,2,k,(fun i_2=>[.p (.int .i64 ((h i_2).1)),.p (.int .i64 ((h i_2).2.1))])⟩)] [515] 1 (c+1) (fun i_1=>if (i_1<c) then [.p (.int .i64 (↑n:Int)),.p (.seq false 2 ((G i_1).1) (fun i_2=>[.int .i64 (((G i_1).2 i_2).1),.int .i64 (((G i_1).2 i_2).2.1)]))] else [.p (.int .i64 (↑n:Int)),.ar 2 2 0 k]) (fun i_1=>[.p (.int .i64 (↑n:Int)),.p (.seq false 2 (if i_1<c then (G i_1).1 else k) (fun i_2=>[.int .i64 (if i_1<c then ((G i_1).2 i_2).1 else ((k,h).2 i_2).1),.int .i64 (if i_1<c then ((G i_1).2 i_2).2.1 else ((k,h).2 i_2).2.1)]))]))]):=by kernel_rfl
theorem eC3f (n:Nat) (tg':Int) (M:Nat) (A:Nat→T_Bar) (w c:Nat) (G:Nat→T_BarS) (i k:Nat) (h:Nat→T_Bar) (b:Bool) :
    pieceOb Try.prog 0 [rg 4,.dec false,rm [(7,oc [] (.p (.bool b)))] 1,.dec false,rg 3,.head] zf4 (SRs1 n tg' M A w c G i k h) [0] 1 (SRgs n tg' M A (w+1) c G) =
    some (zf34,[((decide ((↑i:Int)<(↑M:Int)))=false),(NT 0 1),((((↑k:Int)==tg')=true)→(NT 0 1)),(AG ((↑k:Int)==tg')),((((↑k:Int)==tg')=true)→ (AN 2)),((((↑k:Int)==tg')=true)→(NL k k)),((((↑k:Int)==tg')=true)→ Con Try.prog 107 0 [] [(zf45 n k h)] [] (.p (.bool b))),(AG ((↑k:Int)==tg')),((bif (↑k:Int)==tg' then b else false)=false),(R0 ((↑w:Int)+1)),(R1 ((↑w:Int)+1)),(AN M),(AP M (fun i_1=>[.int .i64 ((A i_1).1),.int .i64 ((A i_1).2.1)])),(AI ((↑n:Int))),(AI (tg')),(AN 0),(AN c),((((↑w:Int)+1):Int)=(↑(w+1):Int)),(AN 2),(NL c c),(AA c (fun i_1=>[.p (.int .i64 (↑n:Int)),.p (.seq false 2 ((G i_1).1) (fun i_2=>[.int .i64 (((G i_1).2 i_2).1),.int .i64 (((G i_1).2 i_2).2.1)]))]))]):=by kernel_rfl
theorem eDy (n:Int) :
    pathOb Try.prog Try.f9 0 [rg 2,rm [(1,oc [] (.p (.bool false)))] 1,.dec true,rg 3] [.code (bodyOf Try.f9)] (start Try.f9 [] 0 [.p (.int .i64 n)]) [160] 1 [(0,gsOb n 0 (fun _=>(0,fun _=>(0,0,()))))] (.tup [.ar 2 0 0 0,.p (.bool false)]) =
    some [Con Try.prog 37 0 [] [.p (.int .i64 n),.p (.int .i64 1),.p (.int .i64 5)] [] (.p (.bool false)),((!false)=true),(AN 0),(AN 0),(false=false),(AN 2),(NL 0 0),(∀ i:Nat,(((i:Nat)<0)→(All []∧(([.p (.int .i64 0),.p (.nil)]:List AV)=[.p (.int .i64 n),.p (.seq false 2 0 (fun i_1=>[.int .i64 0,.int .i64 0]))])))),(∀ i:Nat,(((i:Nat)<0)→All [(false=false),(AE 0)]))]:=by kernel_rfl
theorem eDz (n:Nat) (M:Nat) (A:Nat→T_Bar) (c:Nat) (G:Nat→T_BarS) :
    pathOb Try.prog Try.f9 0 [rg 2,rm [(1,oc [] (.p (.bool true)))] 1,.dec false,rm [(1,oc [(0,brOb M A)] (.agg [.p (.int .i64 n),.ar 2 0 0 M])),(6,oc [(0,gsOb n c G)] (.ar 2 0 0 c))] 2] [.code (bodyOf Try.f9)] (start Try.f9 [] 0 [.p (.int .i64 n)]) [416] 1 [(0,gsOb n c G)] (.tup [.ar 2 0 0 c,.p (.bool true)]) =
    some [Con Try.prog 37 0 [] [.p (.int .i64 (↑n:Int)),.p (.int .i64 1),.p (.int .i64 5)] [] (.p (.bool true)),((!true)=false),Con Try.prog 39 0 [] [.p (.int .i64 (↑n:Int))] [(0,⟨false,2,M,(fun i=>[.p (.int .i64 ((A i).1)),.p (.int .i64 ((A i).2.1))])⟩)] (.agg [.p (.int .i64 (↑n:Int)),.ar 2 0 0 M]),(R0 (2*(↑n:Int))),(R1 (2*(↑n:Int))),(R0 (2*(↑n:Int) - 3)),(R1 (2*(↑n:Int) - 3)),(AN 2),(NL M M),Con Try.prog 38 0 [] [.p (.seq true 2 M (fun i=>[.int .i64 ((A i).1),.int .i64 ((A i).2.1)])),.p (.int .i64 (↑n:Int)),.p (.int .i64 (if true=true then if 2*(↑n:Int) - 3>0 then 2*(↑n:Int) - 3 else 0 else if 2*(↑n:Int) - 3<0 then 2*(↑n:Int) - 3 else 0))] [(0,⟨false,2,c,(fun i=>[.p (.int .i64 (↑n:Int)),.p (.seq false 2 ((G i).1) (fun i_1=>[.int .i64 (((G i).2 i_1).1),.int .i64 (((G i).2 i_1).2.1)]))])⟩)] (.ar 2 0 0 c),(AN 0),(AN c),(true=true),(AN 2),(NL c c),(AA c (fun i=>[.p (.int .i64 (↑n:Int)),.p (.seq false 2 ((G i).1) (fun i_1=>[.int .i64 (((G i).2 i_1).1),.int .i64 (((G i).2 i_1).2.1)]))])),(∀ i:Nat,(((i:Nat)<c)→All [(false=false),(AE (((G i).1)))]))]:=by kernel_rfl
end Go.Proofs.Ytffnfeefjdmifaa.Mach
namespace Go.Proofs.Ytffnfeefjdmifaa.Mach
open Go
set_option linter.unusedVariables false
set_option linter.unusedSimpArgs false
noncomputable def rkG (v:T_Graph):Nat:=(accI v.1.toNat 2 3 v.2.1.2 v.2.1.1).length
noncomputable def frGr (v:T_Graph):Int:=if isGraphF v=true then maxI v.1 - (rkG v:Int) else -1
noncomputable def mrG (v:T_Graph):Bool:=bif frGr v==0 then (v.2.1.1:Int)==(rkG v:Int) else false
theorem maxI_b {n:Int} (h:n≤8):0≤maxI n∧maxI n≤13:=by
  unfold maxI;split<;>omega
theorem con_FreedomOf_s (v:T_Graph) (hs:smS s_Graph v):Con Try.prog 154 0 [] [graphA v] [] (.p (.int .i64 (frGr v))):=by
  have hcg:=con_IsGraph_s v hs
  cases hg:isGraphF v with
  | false =>
    rw [hg] at hcg
    rw [show frGr v = -1 by simp [frGr,hg]]
    refine con_start Try.func154 rfl (by kernel_rfl) rfl (fun c hc=>?_)
    refine path_ok mixed Try.func154 hc (eFy_s v) ?_
    repeat' (first | exact aN | apply aI)
    all_goals (first | omega | rfl | (intros;first | assumption | exact trivial | rfl | exact fT ‹_› | ((repeat' (first | assumption | apply anda | apply notf));done)) | (intros;exact hcg) | (simp;done))
  | true =>
    rw [hg] at hcg
    obtain ⟨N,nb,g,rfl⟩:=graph_cases v hg
    obtain ⟨hN,hnb,_⟩:=graph_in hg
    have hr:=con_RankOf_s hg 2 3 (by omega) (by omega)
    have hl:=accI_len N 2 3 g nb
    have hm:=maxI_b (n:=(N:Int)) (by omega)
    rw [show frGr ((N:Int),(nb,g),())=maxI N - ((accI N 2 3 g nb).length:Nat) by simp [frGr,hg,rkG]]
    refine con_start Try.func154 rfl (by kernel_rfl) rfl (fun c hc=>?_)
    refine path_ok mixed Try.func154 hc (eFz_s g nb N (accI N 2 3 g nb).length) ?_
    repeat' (first | exact aN | apply aI)
    all_goals (first | omega | rfl | (intros;first | assumption | exact trivial | rfl | exact fT ‹_› | ((repeat' (first | assumption | apply anda | apply notf));done)) | (intros;exact hcg) | (exact hr) | (simp only [if_true];show _≤maxI N - _;omega) | (simp only [if_true];show maxI N - _≤_;omega) | (simp;done) | (simp only [if_true];rfl))
theorem con_FreedomOf_i (v:T_Graph) (hs:smS s_Graph v):Con Try.prog 140 0 [] [graphA v] [] (.p (.int .i64 (frGr v))):=by
  have hcg:=con_IsGraph_i v hs
  cases hg:isGraphF v with
  | false =>
    rw [hg] at hcg
    rw [show frGr v = -1 by simp [frGr,hg]]
    refine con_start Try.func140 rfl (by kernel_rfl) rfl (fun c hc=>?_)
    refine path_ok mixed Try.func140 hc (eFy_i v) ?_
    repeat' (first | exact aN | apply aI)
    all_goals (first | omega | rfl | (intros;first | assumption | exact trivial | rfl | exact fT ‹_› | ((repeat' (first | assumption | apply anda | apply notf));done)) | (intros;exact hcg) | (simp;done))
  | true =>
    rw [hg] at hcg
    obtain ⟨N,nb,g,rfl⟩:=graph_cases v hg
    obtain ⟨hN,hnb,_⟩:=graph_in hg
    have hr:=con_RankOf_i hg 2 3 (by omega) (by omega)
    have hl:=accI_len N 2 3 g nb
    have hm:=maxI_b (n:=(N:Int)) (by omega)
    rw [show frGr ((N:Int),(nb,g),())=maxI N - ((accI N 2 3 g nb).length:Nat) by simp [frGr,hg,rkG]]
    refine con_start Try.func140 rfl (by kernel_rfl) rfl (fun c hc=>?_)
    refine path_ok mixed Try.func140 hc (eFz_i g nb N (accI N 2 3 g nb).length) ?_
    repeat' (first | exact aN | apply aI)
    all_goals (first | omega | rfl | (intros;first | assumption | exact trivial | rfl | exact fT ‹_› | ((repeat' (first | assumption | apply anda | apply notf));done)) | (intros;exact hcg) | (exact hr) | (simp only [if_true];show _≤maxI N - _;omega) | (simp only [if_true];show maxI N - _≤_;omega) | (simp;done) | (simp only [if_true];rfl))
theorem con_IsRigid_s (v:T_Graph) (hs:smS s_Graph v):Con Try.prog 138 0 [] [graphA v] [] (.p (.bool (frGr v==0))):=by
  have hf:=con_FreedomOf_s v hs
  refine con_start Try.func138 rfl (by kernel_rfl) rfl (fun c hc=>?_)
  refine path_ok mixed Try.func138 hc (eR_s v _) ?_
  repeat' (first | exact aN | apply aI)
  all_goals (first | omega | rfl | (intros;first | assumption | exact trivial | rfl | exact fT ‹_› | ((repeat' (first | assumption | apply anda | apply notf));done)) | (exact hf) | (simp;done))
theorem con_IsRigid_i (v:T_Graph) (hs:smS s_Graph v):Con Try.prog 109 0 [] [graphA v] [] (.p (.bool (frGr v==0))):=by
  have hf:=con_FreedomOf_i v hs
  refine con_start Try.func109 rfl (by kernel_rfl) rfl (fun c hc=>?_)
  refine path_ok mixed Try.func109 hc (eR_i v _) ?_
  repeat' (first | exact aN | apply aI)
  all_goals (first | omega | rfl | (intros;first | assumption | exact trivial | rfl | exact fT ‹_› | ((repeat' (first | assumption | apply anda | apply notf));done)) | (exact hf) | (simp;done))
theorem frG_graph {v:T_Graph} (h:(frGr v==0)=true):isGraphF v=true:=by
  cases hg:isGraphF v with
  | true=>rfl
  | false=>simp [frGr,hg] at h
theorem con_IsMin_s (v:T_Graph) (hs:smS s_Graph v):Con Try.prog 107 0 [] [graphA v] [] (.p (.bool (mrG v))):=by
  have hf:=con_IsRigid_s v hs
  have hr:(frGr v==0)=true→Con Try.prog 57 0 [] [graphA v,.p (.int .i64 2),.p (.int .i64 3)] [] (.p (.int .i64 (rkG v:Nat))):=by
    intro h
    have hg:=frG_graph h
    obtain ⟨N,nb,g,rfl⟩:=graph_cases v hg
    exact con_RankOf_s hg 2 3 (by omega) (by omega)
  refine con_start Try.func107 rfl (by kernel_rfl) rfl (fun c hc=>?_)
  refine path_ok mixed Try.func107 hc (eM_s v (frGr v==0) (rkG v)) ?_
  repeat' (first | exact aN | apply aI)
  all_goals (first | exact aG _ | omega | rfl | (intros;first | assumption | exact trivial | rfl | exact fT ‹_› | ((repeat' (first | assumption | apply anda | apply notf));done)) | (exact hf) | (intro h;exact hr h) | (intro h;exact h) | (simp;done) | rfl)
theorem con_IsMin_i (v:T_Graph) (hs:smS s_Graph v):Con Try.prog 44 0 [] [graphA v] [] (.p (.bool (mrG v))):=by
  have hf:=con_IsRigid_i v hs
  have hr:(frGr v==0)=true→Con Try.prog 65 0 [] [graphA v,.p (.int .i64 2),.p (.int .i64 3)] [] (.p (.int .i64 (rkG v:Nat))):=by
    intro h
    have hg:=frG_graph h
    obtain ⟨N,nb,g,rfl⟩:=graph_cases v hg
    exact con_RankOf_i hg 2 3 (by omega) (by omega)
  refine con_start Try.func44 rfl (by kernel_rfl) rfl (fun c hc=>?_)
  rw [show mrG v=(bif frGr v==0 then (rkG v:Int)==(v.2.1.1:Int) else false) by unfold mrG;rw [show ((v.2.1.1:Int)==(rkG v:Int))=((rkG v:Int)==(v.2.1.1:Int)) from by rw [Bool.eq_iff_iff];simp only [beq_iff_eq];exact eq_comm]]
  refine path_ok mixed Try.func44 hc (eM_i v (frGr v==0) (rkG v)) ?_
  repeat' (first | exact aN | apply aI)
  all_goals (first | exact aG _ | omega | rfl | (intros;first | assumption | exact trivial | rfl | exact fT ‹_› | ((repeat' (first | assumption | apply anda | apply notf));done)) | (exact hf) | (intro h;exact hr h) | (intro h;exact h) | (simp;done) | rfl)
def zB:T_BarS:=(0,fun _=>(0,0,()))
def cinF (a:Nat):Nat→Nat→T_BarS→T_BarS
  | _,0,x=>x
  | b,d+1,x=>cinF a (b+1) d (x.1+1,snoc x.1 x.2 ((a:Int),(b:Int),()))
def cgF (n:Nat):Nat→Nat→T_BarS→T_BarS
  | _,0,x=>x
  | a,d+1,x=>cgF n (a+1) d (cinF a (a+1) (n - (a+1)) x)
def cgD (n:Nat):T_BarS:=cgF n 0 n zB
theorem cinF_n (a:Nat):∀ d b x,(cinF a b d x).1=x.1+d:=by
  intro d
  induction d with
  | zero=>intro b x;rfl
  | succ d ih=>intro b x;rw [cinF,ih];simp only;omega
theorem con_Complete_s (n:Nat) (h1:1≤n) (h7:n≤7):Con Try.prog 39 0 [] [.p (.int .i64 n)] [(0,brOb (cgD n).1 (cgD n).2)] (.agg [.p (.int .i64 n),.ar 2 0 0 (cgD n).1]):=by
  have hin:=con_l1In n 1 7
  rw [show inB (n:Int) 1 7=true by simp [inB];omega] at hin
  refine con_start Try.func39 rfl (by kernel_rfl) rfl (fun c hc=>?_)
  have li:∀ a,a<n→∀ d b cc h,b+d=n→cc+d≤8*a+8→Run Try.prog c 39 zf22 (SGs n (a+1) (cinF a b d (cc,h)).1 (cinF a b d (cc,h)).2) (Post c [(0,brOb (cgD n).1 (cgD n).2)] (.agg [.p (.int .i64 n),.ar 2 0 0 (cgD n).1])) →
      Run Try.prog c 39 zf9 (SGs1 n a b cc h) (Post c [(0,brOb (cgD n).1 (cgD n).2)] (.agg [.p (.int .i64 n),.ar 2 0 0 (cgD n).1])):=by
    intro a ha d
    induction d with
    | zero =>
      intro b cc h hb hcc hk
      have hd:decide ((b:Int)<(n:Int))=false:=by simp;omega
      refine piece_ok mixed hc (eGs3 n a b cc h) ?_ hk
      repeat' (first | exact aN | apply aI)
      all_goals (first | exact aA _ _ | omega | rfl | (intros;first | assumption | exact trivial | rfl | exact fT ‹_› | ((repeat' (first | assumption | apply anda | apply notf));done)) | (exact hd) | (intro j hj;simp [All]))
    | succ d ih =>
      intro b cc h hb hcc hk
      have hd:decide ((b:Int)<(n:Int))=true:=by simp;omega
      refine piece_ok mixed hc (eGs2 n a b cc h) ?_ (ih (b+1) (cc+1) _ (by omega) (by omega) hk)
      repeat' (first | exact aN | apply aI)
      all_goals (first | omega | rfl | (intros;first | assumption | exact trivial | rfl | exact fT ‹_› | ((repeat' (first | assumption | apply anda | apply notf));done)) | (exact hd) | (intro j hj;by_cases h':j<cc<;>simp [h',snoc,cvtL,cvt,tg,tru,All]))
  have lo:∀ d a cc h,a+d=n→cc≤8*a→cgF n a d (cc,h)=cgD n→Run Try.prog c 39 zf22 (SGs n a cc h) (Post c [(0,brOb (cgD n).1 (cgD n).2)] (.agg [.p (.int .i64 n),.ar 2 0 0 (cgD n).1])):=by
    intro d
    induction d with
    | zero =>
      intro a cc h ha hcc he
      have hd:decide ((a:Int)<(n:Int))=false:=by simp;omega
      rw [← he]
      refine path_ok mixed Try.func39 hc (eGse n a cc h) ?_
      repeat' (first | exact aN | apply aI)
      all_goals (first | exact aA _ _ | exact aE _ | omega | rfl | (intros;first | assumption | exact trivial | rfl | exact fT ‹_› | ((repeat' (first | assumption | apply anda | apply notf));done)) | (exact hd) | (intro j hj;simp [All]))
    | succ d ih =>
      intro a cc h ha hcc he
      have hd:decide ((a:Int)<(n:Int))=true:=by simp;omega
      have hn:=cinF_n a (n - (a+1)) (a+1) (cc,h)
      refine piece_ok mixed hc (eGs1 n a cc h) ?_ (li a (by omega) (n - (a+1)) (a+1) cc h (by omega) (by omega) (ih (a+1) _ _ (by omega) (by rw [hn];simp only;omega) he))
      repeat' (first | exact aN | apply aI)
      all_goals (first | exact aA _ _ | omega | rfl | (intros;first | assumption | exact trivial | rfl | exact fT ‹_› | ((repeat' (first | assumption | apply anda | apply notf));done)) | (exact hd) | (intro j hj;simp [All]))
  refine piece_ok mixed hc (eGs0 n) ?_ (lo n 0 0 _ (by omega) (by omega) rfl)
  repeat' (first | exact aN | apply aI)
  all_goals (first | omega | rfl | (intros;first | assumption | exact trivial | rfl | exact fT ‹_› | ((repeat' (first | assumption | apply anda | apply notf));done)) | (exact hin) | rfl | (simp;done) | (intro j hj;simp [All]))
theorem con_Complete_i (n:Nat) (h1:1≤n) (h7:n≤7):Con Try.prog 41 0 [] [.p (.int .i64 n)] [(0,brOb (cgD n).1 (cgD n).2)] (.agg [.p (.int .i64 n),.ar 2 0 0 (cgD n).1]):=by
  have hin:=con_within n 1 7
  rw [show inB (n:Int) 1 7=true by simp [inB];omega] at hin
  refine con_start Try.func41 rfl (by kernel_rfl) rfl (fun c hc=>?_)
  have li:∀ a,a<n→∀ d b cc h,b+d=n→cc+d≤8*a+8→Run Try.prog c 41 zf23 (SGi n (a+1) (cinF a b d (cc,h)).1 (cinF a b d (cc,h)).2) (Post c [(0,brOb (cgD n).1 (cgD n).2)] (.agg [.p (.int .i64 n),.ar 2 0 0 (cgD n).1])) →
      Run Try.prog c 41 zf6 (SGi1 n a b cc h) (Post c [(0,brOb (cgD n).1 (cgD n).2)] (.agg [.p (.int .i64 n),.ar 2 0 0 (cgD n).1])):=by
    intro a ha d
    induction d with
    | zero =>
      intro b cc h hb hcc hk
      have hd:decide ((b:Int)<(n:Int))=false:=by simp;omega
      refine piece_ok mixed hc (eGi3 n a b cc h) ?_ hk
      repeat' (first | exact aN | apply aI)
      all_goals (first | exact aA _ _ | omega | rfl | (intros;first | assumption | exact trivial | rfl | exact fT ‹_› | ((repeat' (first | assumption | apply anda | apply notf));done)) | (exact hd) | (intro j hj;simp [All]))
    | succ d ih =>
      intro b cc h hb hcc hk
      have hd:decide ((b:Int)<(n:Int))=true:=by simp;omega
      refine piece_ok mixed hc (eGi2 n a b cc h) ?_ (ih (b+1) (cc+1) _ (by omega) (by omega) hk)
      repeat' (first | exact aN | apply aI)
      all_goals (first | omega | rfl | (intros;first | assumption | exact trivial | rfl | exact fT ‹_› | ((repeat' (first | assumption | apply anda | apply notf));done)) | (exact hd) | (intro j hj;by_cases h':j<cc<;>simp [h',snoc,cvtL,cvt,tg,tru,All]))
  have lo:∀ d a cc h,a+d=n→cc≤8*a→cgF n a d (cc,h)=cgD n→Run Try.prog c 41 zf23 (SGi n a cc h) (Post c [(0,brOb (cgD n).1 (cgD n).2)] (.agg [.p (.int .i64 n),.ar 2 0 0 (cgD n).1])):=by
    intro d
    induction d with
    | zero =>
      intro a cc h ha hcc he
      have hd:decide ((a:Int)<(n:Int))=false:=by simp;omega
      rw [← he]
      refine path_ok mixed Try.func41 hc (eGie n a cc h) ?_
      repeat' (first | exact aN | apply aI)
      all_goals (first | exact aA _ _ | exact aE _ | omega | rfl | (intros;first | assumption | exact trivial | rfl | exact fT ‹_› | ((repeat' (first | assumption | apply anda | apply notf));done)) | (exact hd) | (intro j hj;simp [All]))
    | succ d ih =>
      intro a cc h ha hcc he
      have hd:decide ((a:Int)<(n:Int))=true:=by simp;omega
      have hn:=cinF_n a (n - (a+1)) (a+1) (cc,h)
      refine piece_ok mixed hc (eGi1 n a cc h) ?_ (li a (by omega) (n - (a+1)) (a+1) cc h (by omega) (by omega) (ih (a+1) _ _ (by omega) (by rw [hn];simp only;omega) he))
      repeat' (first | exact aN | apply aI)
      all_goals (first | exact aA _ _ | omega | rfl | (intros;first | assumption | exact trivial | rfl | exact fT ‹_› | ((repeat' (first | assumption | apply anda | apply notf));done)) | (exact hd) | (intro j hj;simp [All]))
  refine piece_ok mixed hc (eGi0 n) ?_ (lo n 0 0 _ (by omega) (by omega) rfl)
  repeat' (first | exact aN | apply aI)
  all_goals (first | omega | rfl | (intros;first | assumption | exact trivial | rfl | exact fT ‹_› | ((repeat' (first | assumption | apply anda | apply notf));done)) | (exact hin) | rfl | (simp;done) | (intro j hj;simp [All]))
theorem cgD_le (n:Nat) (h:n≤5):(cgD n).1≤10:=by
  rcases n with _ | _ | _ | _ | _ | _ | n
  · decide
  · decide
  · decide
  · decide
  · decide
  · decide
  · omega
def sF (w:Int):Nat→Nat→T_IntS→T_IntS
  | _,0,x=>x
  | i,d+1,x=>sF w (i+1) d (bif btE w i then (x.1+1,snocI x.1 x.2 i) else x)
def obF (S:T_IntS) (A:Nat→T_Bar):Nat→Nat→T_BarS→T_BarS
  | _,0,x=>x
  | i,d+1,x=>obF S A (i+1) d (bif hasI S.2 i S.1 then (x.1+1,snoc x.1 x.2 (A i)) else x)
def bF (w:Int) (A:Nat→T_Bar):Nat→Nat→T_BarS→T_BarS
  | _,0,x=>x
  | i,d+1,x=>bF w A (i+1) d (bif btE w i then (x.1+1,snoc x.1 x.2 (A i)) else x)
theorem has_snocI (f:Nat→Int) (p y:Int) (c:Nat):hasI (snocI c f p) y (c+1)=(hasI f y c||p==y):=by
  have h1:∀ k,k≤c→hasI (snocI c f p) y k=hasI f y k:=by
    intro k
    induction k with
    | zero=>intro _;rfl
    | succ k ih=>intro hk;rw [hasI,hasI,ih (by omega)];simp [snocI,show k<c by omega]
  rw [hasI,h1 c (Nat.le_refl c)];simp [snocI]
theorem has_sF (w:Int):∀ d i x (y:Nat),hasI (sF w i d x).2 y (sF w i d x).1=(hasI x.2 y x.1||(decide (i≤y∧y<i+d)&&btE w y)):=by
  intro d
  induction d with
  | zero=>intro i x y;simp only [sF];rw [show decide (i≤y∧y<i+0)=false from decide_eq_false (by omega)];simp
  | succ d ih =>
    intro i x y
    rw [sF,ih]
    by_cases hy:y=i
    · subst hy
      rw [show decide (y+1≤y∧y<y+1+d)=false from decide_eq_false (by omega),show decide (y≤y∧y<y+(d+1))=true from decide_eq_true (by omega)]
      cases hb:btE w y with
      | true=>simp only [cond_true];rw [has_snocI];simp
      | false=>simp
    · rw [show decide (i+1≤y∧y<i+1+d)=decide (i≤y∧y<i+(d+1)) by rw [decide_eq_decide];omega]
      cases hb:btE w i with
      | true =>
        simp only [cond_true];rw [has_snocI,show (((i:Nat):Int)==(y:Int))=false by simp;omega];simp
      | false=>simp
theorem sF_n (w:Int) (A:Nat→T_Bar):∀ d i x y,x.1=y.1→(bF w A i d x).1=(sF w i d y).1:=by
  intro d
  induction d with
  | zero=>intro i x y h;exact h
  | succ d ih =>
    intro i x y h
    rw [bF,sF]
    exact ih _ _ _ (by cases btE w i<;>simp [h])
theorem sF_le (w:Int):∀ d i x,(sF w i d x).1≤x.1+d:=by
  intro d
  induction d with
  | zero=>intro i x;exact Nat.le_refl _
  | succ d ih =>
    intro i x
    rw [sF]
    have:=ih (i+1) (bif btE w i then (x.1+1,snocI x.1 x.2 i) else x)
    cases h:btE w i<;>simp only [h,cond_true,cond_false] at this ⊢<;>omega
theorem obF_bF (w:Int) (S:T_IntS) (A:Nat→T_Bar):∀ (d i:Nat) (x:T_BarS),(∀ j:Nat,i≤j→j<i+d→hasI S.2 (j:Int) S.1=btE w j)→obF S A i d x=bF w A i d x:=by
  intro d
  induction d with
  | zero=>intro i x h;rfl
  | succ d ih =>
    intro i x h
    rw [obF,bF,h i (by omega) (by omega)]
    exact ih _ _ (fun j h1 h2=>h j (by omega) (by omega))
theorem con_setOfE (w M:Nat) (hM:M≤100):Con Try.prog 42 0 [] [.p (.int .i64 w),.p (.int .i64 M)] [(0,iOb (sF w 0 M (0,fun _=>0)).1 (sF w 0 M (0,fun _=>0)).2)] (.ar 1 0 0 (sF w 0 M (0,fun _=>0)).1):=by
  refine con_start Try.func42 rfl (by kernel_rfl) rfl (fun c hc=>?_)
  generalize hR:sF w 0 M (0,fun _=>0)=R
  have lp:∀ d i cc f,i+d=M→cc≤i→sF w i d (cc,f)=R→Run Try.prog c 42 zf32 (SSo w M i cc f) (Post c [(0,iOb R.1 R.2)] (.ar 1 0 0 R.1)):=by
    intro d
    induction d with
    | zero =>
      intro i cc f hi hcc he
      have hd:decide ((i:Int)<(M:Int))=false:=by simp;omega
      rw [← he]
      refine path_ok mixed Try.func42 hc (eSe w M i cc f) ?_
      repeat' (first | exact aN | apply aI)
      all_goals (first | exact aA _ _ | exact aE _ | omega | rfl | (intros;first | assumption | exact trivial | rfl | exact fT ‹_› | ((repeat' (first | assumption | apply anda | apply notf));done)) | (exact hd) | (intro j hj;simp [All]))
    | succ d ih =>
      intro i cc f hi hcc he
      have hd:decide ((i:Int)<(M:Int))=true:=by simp;omega
      rw [sF] at he
      cases hb:btE w i with
      | true =>
        rw [hb] at he
        have hb':(bitI BinOp.and IntKind.i64 (shrI IntKind.i64 (w:Int) (i:Int)) 1==1)=true:=hb
        refine piece_ok mixed hc (eSt w M i cc f) ?_ (ih (i+1) (cc+1) _ (by omega) (by omega) he)
        repeat' (first | exact aN | apply aI)
        all_goals (first | omega | rfl | (intros;first | assumption | exact trivial | rfl | exact fT ‹_› | ((repeat' (first | assumption | apply anda | apply notf));done)) | (exact hd) | (exact hb') | (intro j hj;by_cases h':j<cc<;>simp [h',snocI,cvtL,cvt,tg,tru,All]))
      | false =>
        rw [hb] at he
        have hb':(bitI BinOp.and IntKind.i64 (shrI IntKind.i64 (w:Int) (i:Int)) 1==1)=false:=hb
        refine piece_ok mixed hc (eSf w M i cc f) ?_ (ih (i+1) cc _ (by omega) (by omega) he)
        repeat' (first | exact aN | apply aI)
        all_goals (first | exact aA _ _ | omega | rfl | (intros;first | assumption | exact trivial | rfl | exact fT ‹_› | ((repeat' (first | assumption | apply anda | apply notf));done)) | (exact hd) | (exact hb') | (intro j hj;simp [All]))
  refine piece_ok mixed hc (eSz w M) ?_ (lp M 0 0 _ (by omega) (by omega) hR)
  repeat' (first | exact aN | apply aI)
  all_goals (first | exact aA _ _ | omega | rfl | (intros;first | assumption | exact trivial | rfl | exact fT ‹_› | ((repeat' (first | assumption | apply anda | apply notf));done)) | (intro j hj;simp [All]))
theorem con_OnlyBars (n:Int) (M:Nat) (A:Nat→T_Bar) (S:T_IntS) (hM:M≤100) (hS:S.1≤1000) :
    Con Try.prog 43 0 [] [gaI n M A,inL S] [(0,brOb (obF S A 0 M zB).1 (obF S A 0 M zB).2)] (.agg [.p (.int .i64 n),.ar 2 0 0 (obF S A 0 M zB).1]):=by
  refine con_start Try.func43 rfl (by kernel_rfl) rfl (fun c hc=>?_)
  generalize hR:obF S A 0 M zB=R
  have lp:∀ d i cc f,i+d=M→cc≤i→obF S A i d (cc,f)=R→Run Try.prog c 43 zf33 (SOb n M A S i cc f) (Post c [(0,brOb R.1 R.2)] (.agg [.p (.int .i64 n),.ar 2 0 0 R.1])):=by
    intro d
    induction d with
    | zero =>
      intro i cc f hi hcc he
      have hd:decide ((i:Int)<(M:Int))=false:=by simp;omega
      rw [← he]
      refine path_ok mixed Try.func43 hc (eOe n M A S i cc f) ?_
      repeat' (first | exact aN | apply aI)
      all_goals (first | exact aA _ _ | exact aE _ | omega | rfl | (intros;first | assumption | exact trivial | rfl | exact fT ‹_› | ((repeat' (first | assumption | apply anda | apply notf));done)) | (exact hd) | (intro j hj;simp [All]))
    | succ d ih =>
      intro i cc f hi hcc he
      have hd:decide ((i:Int)<(M:Int))=true:=by simp;omega
      have hh:=con_Contains S (i:Int) (by omega)
      rw [obF] at he
      cases hb:hasI S.2 i S.1 with
      | true =>
        rw [hb] at he hh
        refine piece_ok mixed hc (eOt n M A S i cc f) ?_ (ih (i+1) (cc+1) _ (by omega) (by omega) he)
        repeat' (first | exact aN | apply aI)
        all_goals (first | exact aP _ _ | omega | rfl | (intros;first | assumption | exact trivial | rfl | exact fT ‹_› | ((repeat' (first | assumption | apply anda | apply notf));done)) | (exact hd) | (exact hh) | (intro j hj;by_cases h':j<cc<;>simp [h',snoc,cvtL,cvt,tg,tru,All]))
      | false =>
        rw [hb] at he hh
        refine piece_ok mixed hc (eOf n M A S i cc f) ?_ (ih (i+1) cc _ (by omega) (by omega) he)
        repeat' (first | exact aN | apply aI)
        all_goals (first | exact aP _ _ | exact aA _ _ | omega | rfl | (intros;first | assumption | exact trivial | rfl | exact fT ‹_› | ((repeat' (first | assumption | apply anda | apply notf));done)) | (exact hd) | (exact hh) | (intro j hj;simp [All]))
  refine piece_ok mixed hc (eOz n M A S) ?_ (lp M 0 0 _ (by omega) (by omega) hR)
  repeat' (first | exact aN | apply aI)
  all_goals (first | exact aP _ _ | omega | rfl | (intros;first | assumption | exact trivial | rfl | exact fT ‹_› | ((repeat' (first | assumption | apply anda | apply notf));done)) | (simp;done) | (intro j hj;simp [All]))
end Go.Proofs.Ytffnfeefjdmifaa.Mach
namespace Go.Proofs.Ytffnfeefjdmifaa.Mach
open Go
set_option linter.unusedVariables false
set_option linter.unusedSimpArgs false
noncomputable def gF (n:Nat) (M:Nat) (A:Nat→T_Bar):Nat→Nat→Nat×(Nat→T_BarS)→Nat×(Nat→T_BarS)
  | _,0,x=>x
  | w,d+1,x=>gF n M A (w+1) d (bif (bif ((bF w A 0 M zB).1:Int)==maxI n then mrG ((n:Int),bF w A 0 M zB,()) else false) then (x.1+1,snocB x.1 x.2 (bF w A 0 M zB)) else x)
def zG:Nat×(Nat→T_BarS):=(0,fun _=>(0,fun _=>(0,0,())))
noncomputable def gD (n:Nat):Nat×(Nat→T_BarS):=gF n (cgD n).1 (cgD n).2 0 (2 ^ (cgD n).1) zG
noncomputable def rgG (n:Int):Nat×(Nat→T_BarS):=bif inB n 1 5 then gD n.toNat else zG
theorem shl_pow (M:Nat) (h:M≤10):shlI .i64 1 (M:Int)=((2 ^ M:Nat):Int):=by
  rcases M with _ | _ | _ | _ | _ | _ | _ | _ | _ | _ | _ | M
  all_goals first | rfl | omega
theorem pow_le (M:Nat) (h:M≤10):2 ^ M≤1024:=Nat.pow_le_pow_right (by omega) h
theorem sm_bF (n:Nat) (w:Int) (A:Nat→T_Bar) (M:Nat) (hM:M≤10):smS s_Graph ((n:Int),bF w A 0 M zB,()):=by
  have h1:=sF_n w A M 0 zB (0,fun _=>0) rfl
  have h2:=sF_le w M 0 (0,fun _=>0)
  simp only at h2
  exact ⟨trivial,⟨by show (bF w A 0 M zB).1≤1048576;omega,fun i hi=>by simp [smS,smL]⟩,trivial⟩
theorem con_Choose (n:Nat) (tg':Int) (M:Nat) (A:Nat→T_Bar) (hM:M≤10) (ht:tg'=maxI n) :
    Con Try.prog 38 0 [] [brL A M,.p (.int .i64 n),.p (.int .i64 tg')] [(0,gsOb n (gF n M A 0 (2 ^ M) zG).1 (gF n M A 0 (2 ^ M) zG).2)] (.ar 2 0 0 (gF n M A 0 (2 ^ M) zG).1):=by
  refine con_start Try.func38 rfl (by kernel_rfl) rfl (fun c hc=>?_)
  have hsh:=shl_pow M hM
  have hpw:=pow_le M hM
  generalize hR:gF n M A 0 (2 ^ M) zG=R
  have li:∀ w:Nat,∀ d (i:Nat) k h cc G,i+d=M→k≤i→cc≤w→w<2 ^ M→bF w A i d (k,h)=bF w A 0 M zB →
      (∀ cc' G',(bif (bif ((bF w A 0 M zB).1:Int)==maxI n then mrG ((n:Int),bF w A 0 M zB,()) else false) then (cc+1,snocB cc G (bF w A 0 M zB)) else (cc,G))=(cc',G') →
        Run Try.prog c 38 zf34 (SRgs n tg' M A (w+1) cc' G') (Post c [(0,gsOb n R.1 R.2)] (.ar 2 0 0 R.1))) →
      Run Try.prog c 38 zf4 (SRs1 n tg' M A w cc G i k h) (Post c [(0,gsOb n R.1 R.2)] (.ar 2 0 0 R.1)):=by
    intro w d
    induction d with
    | zero =>
      intro i k h cc G hi hk hcc hw he hn
      have hd:decide ((i:Int)<(M:Int))=false:=by simp;omega
      rw [bF] at he
      have hmr:=con_IsMin_s ((n:Int),bF w A 0 M zB,()) (sm_bF n w A M hM)
      rw [← he] at hmr hn
      cases hb:(bif ((k:Int)==maxI n) then mrG ((n:Int),(k,h),()) else false) with
      | true =>
        have hb':(bif ((k:Int)==tg') then mrG ((n:Int),(k,h),()) else false)=true:=by rw [ht];exact hb
        rw [show (bif (((k,h):T_BarS).1:Int)==maxI n then mrG ((n:Int),(k,h),()) else false)=true from hb] at hn
        refine piece_ok mixed hc (eC3t n tg' M A w cc G i k h (mrG ((n:Int),(k,h),()))) ?_ (hn _ _ rfl)
        repeat' (first | exact aN | apply aI)
        all_goals (first | exact aG _ | exact aP _ _ | omega | rfl | (intros;first | assumption | exact trivial | rfl | exact fT ‹_› | ((repeat' (first | assumption | apply anda | apply notf));done)) | (exact hd) | (exact hb') | (intro _;exact hmr) | (intro h9;exact h9) | (simp;done) | (intro j hj;by_cases h':j<cc<;>simp [h',snocB,cvtL,cvt,lendP,cellP,tab,idx,idx1,lkk,idO,idM,Ob.isF,List.lookup,brOb,tg,tru,All]))
      | false =>
        have hb':(bif ((k:Int)==tg') then mrG ((n:Int),(k,h),()) else false)=false:=by rw [ht];exact hb
        rw [show (bif (((k,h):T_BarS).1:Int)==maxI n then mrG ((n:Int),(k,h),()) else false)=false from hb] at hn
        refine piece_ok mixed hc (eC3f n tg' M A w cc G i k h (mrG ((n:Int),(k,h),()))) ?_ (hn _ _ rfl)
        repeat' (first | exact aN | apply aI)
        all_goals (first | exact aG _ | exact aP _ _ | exact aA _ _ | omega | rfl | (intros;first | assumption | exact trivial | rfl | exact fT ‹_› | ((repeat' (first | assumption | apply anda | apply notf));done)) | (exact hd) | (exact hb') | (intro _;exact hmr) | (intro h9;exact h9) | (simp;done) | (intro j hj;simp [All]))
    | succ d ih =>
      intro i k h cc G hi hk hcc hw he hn
      have hd:decide ((i:Int)<(M:Int))=true:=by simp;omega
      rw [bF] at he
      cases hb:btE w i with
      | true =>
        rw [hb] at he
        have hb':(bitI BinOp.and IntKind.i64 (shrI IntKind.i64 (w:Int) (i:Int)) 1==1)=true:=hb
        refine piece_ok mixed hc (eC2t n tg' M A w cc G i k h) ?_ (ih (i+1) (k+1) _ cc G (by omega) (by omega) hcc hw he hn)
        repeat' (first | exact aN | apply aI)
        all_goals (first | exact aP _ _ | exact aA _ _ | omega | rfl | (intros;first | assumption | exact trivial | rfl | exact fT ‹_› | ((repeat' (first | assumption | apply anda | apply notf));done)) | (exact hd) | (exact hb') | (intro j hj;by_cases h':j<k<;>simp [h',snoc,cvtL,cvt,tg,tru,All]))
      | false =>
        rw [hb] at he
        have hb':(bitI BinOp.and IntKind.i64 (shrI IntKind.i64 (w:Int) (i:Int)) 1==1)=false:=hb
        refine piece_ok mixed hc (eC2f n tg' M A w cc G i k h) ?_ (ih (i+1) k _ cc G (by omega) (by omega) hcc hw he hn)
        repeat' (first | exact aN | apply aI)
        all_goals (first | exact aP _ _ | exact aA _ _ | omega | rfl | (intros;first | assumption | exact trivial | rfl | exact fT ‹_› | ((repeat' (first | assumption | apply anda | apply notf));done)) | (exact hd) | (exact hb') | (intro j hj;simp [All]))
  have hnx:∀ (w cc:Nat) (G:Nat→T_BarS) {d:Nat},w+(d+1)=2 ^ M→cc≤w→gF n M A (w+1) d (bif (bif ((bF w A 0 M zB).1:Int)==maxI n then mrG ((n:Int),bF w A 0 M zB,()) else false) then (cc+1,snocB cc G (bF w A 0 M zB)) else (cc,G))=R →
      (∀ w cc G,w+d=2 ^ M→cc≤w→gF n M A w d (cc,G)=R →
        Run Try.prog c 38 zf34 (SRgs n tg' M A w cc G) (Post c [(0,gsOb n R.1 R.2)] (.ar 2 0 0 R.1))) →
      ∀ cc' G',(bif (bif ((bF w A 0 M zB).1:Int)==maxI n then mrG ((n:Int),bF w A 0 M zB,()) else false) then (cc+1,snocB cc G (bF w A 0 M zB)) else (cc,G))=(cc',G') →
        Run Try.prog c 38 zf34 (SRgs n tg' M A (w+1) cc' G') (Post c [(0,gsOb n R.1 R.2)] (.ar 2 0 0 R.1)):=by
    intro w cc G d hw hcc he ih cc' G' h2
    refine ih (w+1) cc' G' (by omega) ?_ ?_
    · generalize (bif ((bF w A 0 M zB).1:Int)==maxI n then mrG ((n:Int),bF w A 0 M zB,()) else false)=b at h2
      cases b
      · cases h2;omega
      · cases h2;omega
    · rw [← h2];exact he
  have lo:∀ d w cc G,w+d=2 ^ M→cc≤w→gF n M A w d (cc,G)=R →
      Run Try.prog c 38 zf34 (SRgs n tg' M A w cc G) (Post c [(0,gsOb n R.1 R.2)] (.ar 2 0 0 R.1)):=by
    intro d
    induction d with
    | zero =>
      intro w cc G hw hcc he
      have hd:decide ((w:Int)<shlI .i64 1 (M:Int))=false:=by rw [hsh];exact decide_eq_false (by omega)
      rw [← he]
      refine path_ok mixed Try.func38 hc (eCe n tg' M A w cc G) ?_
      repeat' (first | exact aN | apply aI)
      all_goals (first | exact aA _ _ | exact aE _ | omega | rfl | (intros;first | assumption | exact trivial | rfl | exact fT ‹_› | ((repeat' (first | assumption | apply anda | apply notf));done)) | (exact hd) | (intro j hj;simp [All]))
    | succ d ih =>
      intro w cc G hw hcc he
      have hd:decide ((w:Int)<shlI .i64 1 (M:Int))=true:=by rw [hsh];exact decide_eq_true (by omega)
      rw [gF] at he
      refine piece_ok mixed hc (eC1 n tg' M A w cc G) ?_ (li w M 0 0 _ cc G (by omega) (by omega) hcc (by omega) rfl (hnx w cc G hw hcc he ih))
      repeat' (first | exact aN | apply aI)
      all_goals (first | exact aP _ _ | exact aA _ _ | omega | rfl | (intros;first | assumption | exact trivial | rfl | exact fT ‹_› | ((repeat' (first | assumption | apply anda | apply notf));done)) | (exact hd) | (intro j hj;simp [All];done) | (intro j hj;exact absurd hj (Nat.not_lt_zero _)))
  refine piece_ok mixed hc (eCz n tg' M A) ?_ (lo (2 ^ M) 0 0 _ (by omega) (by omega) hR)
  repeat' (first | exact aN | apply aI)
  all_goals (first | exact aP _ _ | omega | rfl | (intros;first | assumption | exact trivial | rfl | exact fT ‹_› | ((repeat' (first | assumption | apply anda | apply notf));done)) | (simp;done) | (intro j hj;exact absurd hj (Nat.not_lt_zero _)))
theorem con_RigidGraphs_s (n:Int):Con Try.prog 9 0 [] [.p (.int .i64 n)] [(0,gsOb n (rgG n).1 (rgG n).2)] (.tup [.ar 2 0 0 (rgG n).1,.p (.bool (inB n 1 5))]):=by
  have hin:=con_l1In n 1 5
  cases hb:inB n 1 5 with
  | false =>
    rw [hb] at hin
    rw [show rgG n=zG by rw [rgG,hb];rfl]
    refine con_start Try.func9 rfl (by kernel_rfl) rfl (fun c hc=>?_)
    refine path_ok mixed Try.func9 hc (eDy n) ?_
    repeat' (first | exact aN | apply aI)
    all_goals (first | exact aE _ | omega | rfl | (intros;first | assumption | exact trivial | rfl | exact fT ‹_› | ((repeat' (first | assumption | apply anda | apply notf));done)) | (exact hin) | (simp;done) | (intro j hj;exact absurd hj (Nat.not_lt_zero _)))
  | true =>
    rw [hb] at hin
    have h15:1≤n∧n≤5:=by simpa [inB] using hb
    obtain ⟨m,rfl⟩:∃ m:Nat,n=(m:Int):=⟨n.toNat,by omega⟩
    rw [show rgG (m:Int)=gD m by rw [rgG,hb];rfl]
    have hcg:=con_Complete_s m (by omega) (by omega)
    have hM:=cgD_le m (by omega)
    have hch:=con_Choose m (maxI m) (cgD m).1 (cgD m).2 hM rfl
    refine con_start Try.func9 rfl (by kernel_rfl) rfl (fun c hc=>?_)
    refine path_ok mixed Try.func9 hc (eDz m (cgD m).1 (cgD m).2 (gD m).1 (gD m).2) ?_
    repeat' (first | exact aN | apply aI)
    all_goals (first | exact aA _ _ | exact aE _ | omega | rfl | (intros;first | assumption | exact trivial | rfl | exact fT ‹_› | ((repeat' (first | assumption | apply anda | apply notf));done)) | (exact hin) | (exact hcg) | (exact hch) | (simp;done) | (intro j hj;simp [All]))
end Go.Proofs.Ytffnfeefjdmifaa.Mach
namespace Go.Proofs.Ytffnfeefjdmifaa.Mach
open Go
set_option linter.unusedVariables false
set_option linter.unusedSimpArgs false
def S_markBarS (v:T_BarS) (m:Int) (k:Nat):St :=
  ⟨[.ar 2 0 0 v.1,.p (.int .i64 (m+2*(k:Int))),.p .any,.p .any,.p .any,.p (.int .i64 k)]++List.replicate 21 anyA,[(0,⟨false,2,v.1,fun i=>[.p (.int .i64 (if i<k then m+2*(i:Int) else (v.2 i).1)),.p (.int .i64 (if i<k then m+2*(i:Int)+1 else (v.2 i).2.1))]⟩)],1⟩
def S_markBarS_1 (v:T_BarS) (m:Int) (k:Nat):St :=
  ⟨[.ar 2 0 0 v.1,.p (.int .i64 (m+2*(k:Int)+1)),.p .any,.p .any,.p .any,.p (.int .i64 k)]++List.replicate 21 anyA,[(0,⟨false,2,v.1,fun i=>[.p (.int .i64 (if i<k+1 then m+2*(i:Int) else (v.2 i).1)),.p (.int .i64 (if i<k then m+2*(i:Int)+1 else (v.2 i).2.1))]⟩)],1⟩
def S_heldBarS (n:Nat) (m:Int) (k:Nat):St :=
  ⟨[.p (.seq true 2 n (fun i=>[.int .i64 (m+2*(i:Int)),.int .i64 (m+2*(i:Int)+1)])),.p (.int .i64 (m+2*(k:Int))),.p .any,.p .any,.p .any,.p (.int .i64 k)]++List.replicate 25 anyA,[],0⟩
def s_GraphS:Sh:=(.sl (.st [(.int .i64),(.sl (.st [(.int .i64),(.int .i64)]))]))
abbrev T_GraphS:=Nat×(Nat→T_Graph)
def S_eqGraphS (v:T_GraphS) (k:Nat):St :=
  ⟨[.p (.seq true 2 v.1 (fun i=>[.int .i64 ((v.2 i).1),.seq true 2 ((v.2 i).2.1.1) (fun i1=>[.int .i64 (((v.2 i).2.1.2 i1).1),.int .i64 (((v.2 i).2.1.2 i1).2.1)])])),.p (.seq true 2 v.1 (fun i=>[.int .i64 ((v.2 i).1),.seq true 2 ((v.2 i).2.1.1) (fun i1=>[.int .i64 (((v.2 i).2.1.2 i1).1),.int .i64 (((v.2 i).2.1.2 i1).2.1)])])),.p .any,.p .any,.p .any,.p (.int .i64 k)]++List.replicate 21 anyA,[],0⟩
theorem p_markBarS_a (v:T_BarS) (m:Int) :
    pieceOb Try.prog 1 [rg 1,rg 1,.head] [.code (bodyOf Try.f45)] (start Try.f45 [(0,⟨false,2,v.1,fun i=>[.p (.int .i64 ((v.2 i).1)),.p (.int .i64 ((v.2 i).2.1))]⟩)] 1 [.ar 2 0 0 v.1,.p (.int .i64 m)]) [0] 1 (S_markBarS v m 0) =
    some (zf38,[(AN 0),(AN v.1),((m:Int)=(m+2*(↑0:Int))),((0:Int)=(↑0:Int)),(AN 2),(NL v.1 v.1),(∀ i:Nat,(((i:Nat)<v.1)→(All []∧(([.p (.int .i64 ((v.2 i).1)),.p (.int .i64 ((v.2 i).2.1))]:List AV)=[.p (.int .i64 (if i<0 then m+2*(↑i:Int) else (v.2 i).1)),.p (.int .i64 (if i<0 then m+2*(↑i:Int)+1 else (v.2 i).2.1))]))))]):=by kernel_rfl
theorem p_markBarS_b0 (v:T_BarS) (m:Int) (k:Nat) :
    pieceOb Try.prog 1 [rg 4,.dec true,rg 6,rg 3,.head] zf38 (S_markBarS v m k) [0] 1 (S_markBarS_1 v m k) =
    some (zf10,[((decide ((↑k:Int)<(↑v.1:Int)))=true),(IL 0 (↑k:Int)),(IT (↑k:Int) (↑v.1:Int)),(NT k v.1),((false=true)→ ((v.1:Nat)=1)),(R0 (m+2*(↑k:Int)+1)),(R1 (m+2*(↑k:Int)+1)),(AN 0),(AN v.1),(AI ((m+2*(↑k:Int)+1))),(AI ((↑k:Int))),(AN 2),(NL v.1 v.1),(CV [(0,⟨false,2,v.1,(fun i_1=>(if (i_1=k) then [.p (.int .i64 (m+2*(↑k:Int))),.p (.int .i64 (if (↑k:Int).toNat+0<k then m+2*(↑k:Int)+1 else (v.2 k).2.1))] else [.p (.int .i64 (if i_1<k then m+2*(↑i_1:Int) else (v.2 i_1).1)),.p (.int .i64 (if i_1<k then m+2*(↑i_1:Int)+1 else (v.2 i_1).2.1))]))⟩)] [0] 1 v.1 (fun i=>if (i=k) then [.p (.int .i64 (m+2*(↑k:Int))),.p (.int .i64 (if (↑k:Int).toNat+0<k then m+2*(↑k:Int)+1 else (v.2 k).2.1))] else [.p (.int .i64 (if i<k then m+2*(↑i:Int) else (v.2 i).1)),.p (.int .i64 (if i<k then m+2*(↑i:Int)+1 else (v.2 i).2.1))]) (fun i=>[.p (.int .i64 (if i<k+1 then m+2*(↑i:Int) else (v.2 i).1)),.p (.int .i64 (if i<k then m+2*(↑i:Int)+1 else (v.2 i).2.1))]))]):=by kernel_rfl
theorem p_markBarS_b1 (v:T_BarS) (m:Int) (k:Nat) :
    pieceOb Try.prog 1 [rg 6,rg 3,rg 3,.head] zf10 (S_markBarS_1 v m k) [0] 1 (S_markBarS v m (k+1)) =
    some (zf38,[(IL 0 (↑k:Int)),(IT (↑k:Int) (↑v.1:Int)),(NT k v.1),((false=true)→ ((v.1:Nat)=1)),(R0 (m+2*(↑k:Int)+1+1)),(R1 (m+2*(↑k:Int)+1+1)),(R0 ((↑k:Int)+1)),(R1 ((↑k:Int)+1)),(AN 0),(AN v.1),(((m+2*(↑k:Int)+1+1):Int)=(m+2*(↑(k+1):Int))),((((↑k:Int)+1):Int)=(↑(k+1):Int)),(AN 2),(NL v.1 v.1),(CV [(0,⟨false,2,v.1,(fun i_1=>(if (i_1=k) then [.p (.int .i64 (if (↑k:Int).toNat+0<k+1 then m+2*(↑k:Int) else (v.2 k).1)),.p (.int .i64 (m+2*(↑k:Int)+1))] else [.p (.int .i64 (if i_1<k+1 then m+2*(↑i_1:Int) else (v.2 i_1).1)),.p (.int .i64 (if i_1<k then m+2*(↑i_1:Int)+1 else (v.2 i_1).2.1))]))⟩)] [0] 1 v.1 (fun i=>if (i=k) then [.p (.int .i64 (if (↑k:Int).toNat+0<k+1 then m+2*(↑k:Int) else (v.2 k).1)),.p (.int .i64 (m+2*(↑k:Int)+1))] else [.p (.int .i64 (if i<k+1 then m+2*(↑i:Int) else (v.2 i).1)),.p (.int .i64 (if i<k then m+2*(↑i:Int)+1 else (v.2 i).2.1))]) (fun i=>[.p (.int .i64 (if i<k+1 then m+2*(↑i:Int) else (v.2 i).1)),.p (.int .i64 (if i<k+1 then m+2*(↑i:Int)+1 else (v.2 i).2.1))]))]):=by kernel_rfl
theorem p_markBarS_c (v:T_BarS) (m:Int) (k:Nat) :
    pathOb Try.prog Try.f45 1 [rg 4,.dec false,rg 2] zf38 (S_markBarS v m k) [0] 1 [(0,⟨false,2,v.1,fun i=>[.p (.int .i64 (m+2*(i:Int))),.p (.int .i64 (m+2*(i:Int)+1))]⟩)] (.p (.int .i64 (m+2*(v.1:Int)))) =
    some [((decide ((↑k:Int)<(↑v.1:Int)))=false),(((m+2*(↑k:Int)):Int)=(m+2*(↑v.1:Int))),(AN 2),(NL v.1 v.1),(∀ i:Nat,(((i:Nat)<v.1)→(All []∧(([.p (.int .i64 (if i<k then m+2*(↑i:Int) else (v.2 i).1)),.p (.int .i64 (if i<k then m+2*(↑i:Int)+1 else (v.2 i).2.1))]:List AV)=[.p (.int .i64 (m+2*(↑i:Int))),.p (.int .i64 (m+2*(↑i:Int)+1))])))),(AE v.1)]:=by kernel_rfl
theorem p_heldBarS_a (n:Nat) (m:Int) :
    pieceOb Try.prog 0 [rg 1,rg 1,.head] [.code (bodyOf Try.f46)] (start Try.f46 [] 0 [.p (.seq true 2 n (fun i=>[.int .i64 (m+2*(i:Int)),.int .i64 (m+2*(i:Int)+1)])),.p (.int .i64 m)]) [] 1 (S_heldBarS n m 0) =
    some (zf39,[(AN n),(AP n (fun i=>[.int .i64 (m+2*(↑i:Int)),.int .i64 (m+2*(↑i:Int)+1)])),((m:Int)=(m+2*(↑0:Int))),((0:Int)=(↑0:Int))]):=by kernel_rfl
theorem p_heldBarS_b (n:Nat) (m:Int) (k:Nat) :
    pieceOb Try.prog 0 [rg 4,.dec true,rg 7,.dec false,rg 3,rg 7,.dec false,rg 3,rg 3,.head] zf39 (S_heldBarS n m k) [] 1 (S_heldBarS n m (k+1)) =
    some (zf39,[((decide ((↑k:Int)<(↑n:Int)))=true),(IL 0 (↑k:Int)),(IT (↑k:Int) (↑n:Int)),((m+2*(↑k:Int) != m+2*(↑k:Int))=false),(R0 (m+2*(↑k:Int)+1)),(R1 (m+2*(↑k:Int)+1)),(IL 0 (↑k:Int)),(IT (↑k:Int) (↑n:Int)),((m+2*(↑k:Int)+1 != m+2*(↑k:Int)+1)=false),(R0 (m+2*(↑k:Int)+1+1)),(R1 (m+2*(↑k:Int)+1+1)),(R0 ((↑k:Int)+1)),(R1 ((↑k:Int)+1)),(AN n),(AP n (fun i=>[.int .i64 (m+2*(↑i:Int)),.int .i64 (m+2*(↑i:Int)+1)])),(((m+2*(↑k:Int)+1+1):Int)=(m+2*(↑(k+1):Int))),((((↑k:Int)+1):Int)=(↑(k+1):Int))]):=by kernel_rfl
theorem p_heldBarS_c (n:Nat) (m:Int) (k:Nat) :
    pathOb Try.prog Try.f46 0 [rg 4,.dec false,rg 2] zf39 (S_heldBarS n m k) [] 1 [] (.p (.int .i64 (m+2*(n:Int)))) =
    some [((decide ((↑k:Int)<(↑n:Int)))=false),(((m+2*(↑k:Int)):Int)=(m+2*(↑n:Int)))]:=by kernel_rfl
theorem p_eqGraphS_a (v:T_GraphS) :
    pieceOb Try.prog 0 [rg 1,rg 5,.dec false,rg 1,.head] [.code (bodyOf Try.f11)] (start Try.f11 [] 0 [.p (.seq true 2 v.1 (fun i=>[.int .i64 ((v.2 i).1),.seq true 2 ((v.2 i).2.1.1) (fun i1=>[.int .i64 (((v.2 i).2.1.2 i1).1),.int .i64 (((v.2 i).2.1.2 i1).2.1)])])),.p (.seq true 2 v.1 (fun i=>[.int .i64 ((v.2 i).1),.seq true 2 ((v.2 i).2.1.1) (fun i1=>[.int .i64 (((v.2 i).2.1.2 i1).1),.int .i64 (((v.2 i).2.1.2 i1).2.1)])]))]) [] 1 (S_eqGraphS v 0) =
    some (zf35,[(((↑v.1:Int) != (↑v.1:Int))=false),(AN v.1),(AP v.1 (fun i=>[.int .i64 ((v.2 i).1),.seq true 2 ((v.2 i).2.1.1) (fun i_1=>[.int .i64 (((v.2 i).2.1.2 i_1).1),.int .i64 (((v.2 i).2.1.2 i_1).2.1)])])),(AN v.1),(AP v.1 (fun i=>[.int .i64 ((v.2 i).1),.seq true 2 ((v.2 i).2.1.1) (fun i_1=>[.int .i64 (((v.2 i).2.1.2 i_1).1),.int .i64 (((v.2 i).2.1.2 i_1).2.1)])])),((0:Int)=(↑0:Int))]):=by kernel_rfl
theorem p_eqGraphS_b (v:T_GraphS) (k:Nat) :
    pieceOb Try.prog 0 [rg 4,.dec true,rm [(8,oc [] (.p (.bool true)))] 1,.dec false,rg 3,.head] zf35 (S_eqGraphS v k) [] 1 (S_eqGraphS v (k+1)) =
    some (zf35,[((decide ((↑k:Int)<(↑v.1:Int)))=true),(IL 0 (↑k:Int)),(IT (↑k:Int) (↑v.1:Int)),(IL 0 (↑k:Int)),(IT (↑k:Int) (↑v.1:Int)),Con Try.prog 19 0 [] [.agg [.p (.int .i64 ((v.2 k).1)),.p (.seq true 2 ((v.2 k).2.1.1) (fun i=>[.int .i64 (((v.2 k).2.1.2 i).1),.int .i64 (((v.2 k).2.1.2 i).2.1)]))],.agg [.p (.int .i64 ((v.2 k).1)),.p (.seq true 2 ((v.2 k).2.1.1) (fun i=>[.int .i64 (((v.2 k).2.1.2 i).1),.int .i64 (((v.2 k).2.1.2 i).2.1)]))]] [] (.p (.bool true)),((!true)=false),(R0 ((↑k:Int)+1)),(R1 ((↑k:Int)+1)),(AN v.1),(AP v.1 (fun i=>[.int .i64 ((v.2 i).1),.seq true 2 ((v.2 i).2.1.1) (fun i_1=>[.int .i64 (((v.2 i).2.1.2 i_1).1),.int .i64 (((v.2 i).2.1.2 i_1).2.1)])])),(AN v.1),(AP v.1 (fun i=>[.int .i64 ((v.2 i).1),.seq true 2 ((v.2 i).2.1.1) (fun i_1=>[.int .i64 (((v.2 i).2.1.2 i_1).1),.int .i64 (((v.2 i).2.1.2 i_1).2.1)])])),((((↑k:Int)+1):Int)=(↑(k+1):Int))]):=by kernel_rfl
theorem p_eqGraphS_c (v:T_GraphS) (k:Nat) :
    pathOb Try.prog Try.f11 0 [rg 4,.dec false,rg 1] zf35 (S_eqGraphS v k) [] 1 [] (.p (.bool true)) =
    some [((decide ((↑k:Int)<(↑v.1:Int)))=false),(true=true)]:=by kernel_rfl
theorem con_markBarS (v:T_BarS) (m:Int) (hn:v.1≤1048576) (h0:0≤m) (h1:m≤1099511627776):Con Try.prog 45 1 [(0,⟨false,2,v.1,fun i=>[.p (.int .i64 ((v.2 i).1)),.p (.int .i64 ((v.2 i).2.1))]⟩)] [.ar 2 0 0 v.1,.p (.int .i64 m)] [(0,⟨false,2,v.1,fun i=>[.p (.int .i64 (m+2*(i:Int))),.p (.int .i64 (m+2*(i:Int)+1))]⟩)] (.p (.int .i64 (m+2*(v.1:Int)))):=by
  refine con_start Try.func45 rfl (by kernel_rfl) rfl (fun c hc=>?_)
  have lp:∀ q j,j+q=v.1→Run Try.prog c 45 zf38 (S_markBarS v m j) (Post c [(0,⟨false,2,v.1,fun i=>[.p (.int .i64 (m+2*(i:Int))),.p (.int .i64 (m+2*(i:Int)+1))]⟩)] (.p (.int .i64 (m+2*(v.1:Int))))):=by
    intro q
    induction q with
    | zero =>
      intro j hj
      have e:j=v.1:=by omega
      have hd:decide ((j:Int)<(v.1:Int))=false:=by simp;omega
      refine path_ok mixed Try.func45 hc (p_markBarS_c v m j) ?_
      repeat' (first | exact aN | apply aI)
      all_goals (first | exact aE _ | omega | rfl | (intros;first | assumption | exact trivial | rfl | exact fT ‹_› | ((repeat' (first | assumption | apply anda | apply notf));done)) | (intro i hi;(have hik:i<j:=by omega);simp [hik,All]) | (simp;try omega))
    | succ q ih =>
      intro j hj
      have hlt:decide ((j:Int)<(v.1:Int))=true:=by simp;omega
      refine piece_ok mixed hc (p_markBarS_b0 v m j) ?_ ?_
      ·
        repeat' (first | exact aN | apply aI)
        all_goals (first | omega | rfl | (intros;first | assumption | exact trivial | rfl | exact fT ‹_› | ((repeat' (first | assumption | apply anda | apply notf));done)) | (intro i hi;by_cases h:i=j<;>simp [h,Nat.lt_succ_iff_lt_or_eq,cvtL,cvt,tg,tru,All]))
      refine piece_ok mixed hc (p_markBarS_b1 v m j) ?_ (ih (j+1) (by omega))
      ·
        repeat' (first | exact aN | apply aI)
        all_goals (first | omega | rfl | (intros;first | assumption | exact trivial | rfl | exact fT ‹_› | ((repeat' (first | assumption | apply anda | apply notf));done)) | (intro i hi;by_cases h:i=j<;>simp [h,Nat.lt_succ_iff_lt_or_eq,cvtL,cvt,tg,tru,All]))
  refine piece_ok mixed hc (p_markBarS_a v m) ?_ (lp v.1 0 (by omega))
  repeat' (first | exact aN | apply aI)
  all_goals (first | omega | rfl | (intros;first | assumption | exact trivial | rfl | exact fT ‹_› | ((repeat' (first | assumption | apply anda | apply notf));done)) | (intro i hi;simp [All]))
theorem con_heldBarS (n:Nat) (m:Int) (hn:n≤1048576) (h0:0≤m) (h1:m≤1099511627776):Con Try.prog 46 0 [] [.p (.seq true 2 n (fun i=>[.int .i64 (m+2*(i:Int)),.int .i64 (m+2*(i:Int)+1)])),.p (.int .i64 m)] [] (.p (.int .i64 (m+2*(n:Int)))):=by
  refine con_start Try.func46 rfl (by kernel_rfl) rfl (fun c hc=>?_)
  have lp:∀ q j,j+q=n→Run Try.prog c 46 zf39 (S_heldBarS n m j) (Post c [] (.p (.int .i64 (m+2*(n:Int))))):=by
    intro q
    induction q with
    | zero =>
      intro j hj
      have hd:decide ((j:Int)<(n:Int))=false:=by simp;omega
      refine path_ok mixed Try.func46 hc (p_heldBarS_c n m j) ?_
      repeat' (first | exact aN | apply aI)
      all_goals (first | omega | rfl | (intros;first | assumption | exact trivial | rfl | exact fT ‹_› | ((repeat' (first | assumption | apply anda | apply notf));done)) | (simp;try omega))
    | succ q ih =>
      intro j hj
      have hlt:decide ((j:Int)<(n:Int))=true:=by simp;omega
      refine piece_ok mixed hc (p_heldBarS_b n m j) ?_ (ih (j+1) (by omega))
      repeat' (first | exact aN | apply aI)
      all_goals (first | exact aP _ _ | omega | rfl | (intros;first | assumption | exact trivial | rfl | exact fT ‹_› | ((repeat' (first | assumption | apply anda | apply notf));done)) | (simp;done) | (simp;omega))
  refine piece_ok mixed hc (p_heldBarS_a n m) ?_ (lp n 0 (by omega))
  repeat' (first | exact aN | apply aI)
  all_goals (first | exact aP _ _ | omega | rfl | (intros;first | assumption | exact trivial | rfl | exact fT ‹_› | ((repeat' (first | assumption | apply anda | apply notf));done)) | simp)
theorem con_eqGraphS (v:T_GraphS) (hs:smS s_GraphS v):Con Try.prog 11 0 [] [.p (.seq true 2 v.1 (fun i=>[.int .i64 ((v.2 i).1),.seq true 2 ((v.2 i).2.1.1) (fun i1=>[.int .i64 (((v.2 i).2.1.2 i1).1),.int .i64 (((v.2 i).2.1.2 i1).2.1)])])),.p (.seq true 2 v.1 (fun i=>[.int .i64 ((v.2 i).1),.seq true 2 ((v.2 i).2.1.1) (fun i1=>[.int .i64 (((v.2 i).2.1.2 i1).1),.int .i64 (((v.2 i).2.1.2 i1).2.1)])]))] [] (.p (.bool true)):=by
  refine con_start Try.func11 rfl (by kernel_rfl) rfl (fun c hc=>?_)
  have hn:=hs.1
  have lp:∀ m k,k+m=v.1→Run Try.prog c 11 zf35 (S_eqGraphS v k) (Post c [] (.p (.bool true))):=by
    intro m
    induction m with
    | zero =>
      intro k hk
      refine path_ok mixed Try.func11 hc (p_eqGraphS_c v k) ?_
      repeat' (first | exact aN | apply aI)
      all_goals (first | omega | rfl | (intros;first | assumption | exact trivial | rfl | exact fT ‹_› | ((repeat' (first | assumption | apply anda | apply notf));done)) | (simp;try omega))
    | succ m ih =>
      intro k hk
      have hlt:decide ((k:Int)<(v.1:Int))=true:=by simp;omega
      refine piece_ok mixed hc (p_eqGraphS_b v k) ?_ (ih (k+1) (by omega))
      repeat' (first | exact aN | apply aI)
      all_goals (first | exact aP _ _ | omega | rfl | (intros;first | assumption | exact trivial | rfl | exact fT ‹_› | ((repeat' (first | assumption | apply anda | apply notf));done)) | (exact con_eqGraph (v.2 k) (hs.2 k (by omega))) | simp)
  refine piece_ok mixed hc (p_eqGraphS_a v) ?_ (lp v.1 0 (by omega))
  repeat' (first | exact aN | apply aI)
  all_goals (first | exact aP _ _ | omega | rfl | (intros;first | assumption | exact trivial | rfl | exact fT ‹_› | ((repeat' (first | assumption | apply anda | apply notf));done)) | simp)
end Go.Proofs.Ytffnfeefjdmifaa.Mach
namespace Go.Proofs.Ytffnfeefjdmifaa.Mach
open Go
set_option linter.unusedVariables false
set_option linter.unusedSimpArgs false
def goOb (F:Nat) (n:Int) (c:Nat) (G:Nat→T_BarS):Ob:=⟨false,2,c,fun i=>[.p (.int .i64 n),.ar 2 ⟨F,some i⟩ 0 (G i).1]⟩
def foOb (c:Nat) (G:Nat→T_BarS):Ob:=⟨true,0,c,fun i=>[.p (.seq false 2 (G i).1 (fun s=>[.int .i64 ((G i).2 s).1,.int .i64 ((G i).2 s).2.1]))]⟩
def fTb (c:Nat) (G:Nat→T_BarS):Ob:=⟨true,0,c,fun i=>[.p (.seq true 2 (G i).1 (fun s=>[.int .i64 ((G i).2 s).1,.int .i64 ((G i).2 s).2.1]))]⟩
def SRgo (n:Nat) (M:Nat) (A:Nat→T_Bar) (w c:Nat) (G:Nat→T_BarS):St :=
  ⟨[.p (.int .i64 n),.p .any,.p .any,.p .any,.ar 2 0 0 c,.pt 2 1 0 0]++List.replicate 13 anyA++[.p (.int .i64 (shlI .i64 1 M)),.p (.int .i64 w)]++List.replicate 25 anyA,[(0,goOb 3 n c G),(1,gbx n 2 M),(2,brOb M A),(3,foOb c G)],4⟩
def kG (L:Nat→Nat) (m:Int):Nat→Int
  | 0=>m
  | i+1=>kG L m i+1+2*(L i:Int)
def goM (n m:Int) (c:Nat) (G:Nat→T_BarS) (j:Nat):Ob:=⟨false,2,c,fun i=>[.p (.int .i64 (if i<j then kG (fun i=>(G i).1) m i else n)),.ar 2 ⟨1,some i⟩ 0 (G i).1]⟩
def foM (m:Int) (c:Nat) (G:Nat→T_BarS) (j:Nat):Ob:=⟨true,0,c,fun i=>[.p (.seq false 2 (G i).1 (fun s=>[.int .i64 (if i<j then kG (fun i=>(G i).1) m i+1+2*(s:Int) else ((G i).2 s).1),.int .i64 (if i<j then kG (fun i=>(G i).1) m i+1+2*(s:Int)+1 else ((G i).2 s).2.1)]))]⟩
def goK (m:Int) (c:Nat) (G:Nat→T_BarS):Ob:=⟨false,2,c,fun i=>[.p (.int .i64 (kG (fun i=>(G i).1) m i)),.ar 2 ⟨1,some i⟩ 0 (G i).1]⟩
def foK (m:Int) (c:Nat) (G:Nat→T_BarS):Ob:=⟨true,0,c,fun i=>[.p (.seq false 2 (G i).1 (fun s=>[.int .i64 (kG (fun i=>(G i).1) m i+1+2*(s:Int)),.int .i64 (kG (fun i=>(G i).1) m i+1+2*(s:Int)+1)]))]⟩
def SMk (n m:Int) (c:Nat) (G:Nat→T_BarS) (j:Nat):St :=
  ⟨[.ar 2 0 0 c,.p (.int .i64 (kG (fun i=>(G i).1) m j)),.p .any,.p .any,.p .any,.p (.int .i64 j)]++List.replicate 21 anyA,[(0,goM n m c G j),(1,foM m c G j)],2⟩
def SMk1 (n m:Int) (c:Nat) (G:Nat→T_BarS) (j:Nat):St :=
  ⟨[.ar 2 0 0 c,.p (.int .i64 (kG (fun i=>(G i).1) m j)),.p .any,.p .any,.p .any,.p (.int .i64 j)]++List.replicate 21 anyA,[(0,goM n m c G (j+1)),(1,foM m c G j)],2⟩
def SHd (L:Nat→Nat) (m:Int) (c j:Nat):St :=
  ⟨[.p (.seq true 2 c (fun i=>[.int .i64 (kG L m i),.seq true 2 (L i) (fun s=>[.int .i64 (kG L m i+1+2*(s:Int)),.int .i64 (kG L m i+1+2*(s:Int)+1)])])),.p (.int .i64 (kG L m j)),.p .any,.p .any,.p .any,.p (.int .i64 j)]++List.replicate 25 anyA,[],0⟩
theorem rIy (n:Int) :
    pathOb Try.prog Try.f10 0 [rg 2,rg 2,rm [(1,oc [] (.p (.bool false)))] 1,.dec true,rg 3] [.code (bodyOf Try.f10)] (start Try.f10 [] 0 [.p (.int .i64 n)]) [64] 1 [(0,goOb 1 n 0 (fun _=>(0,fun _=>(0,0,())))),(1,foOb 0 (fun _=>(0,fun _=>(0,0,()))))] (.tup [.ar 2 0 0 0,.p (.bool false)]) =
    some [Con Try.prog 40 0 [] [.p (.int .i64 n),.p (.int .i64 1),.p (.int .i64 5)] [] (.p (.bool false)),((!false)=true),(AN 0),(AN 0),(false=false),(AN 2),(NL 0 0),(∀ i:Nat,(((i:Nat)<0)→(All []∧(([.p (.int .i64 0),.p (.nil)]:List AV)=[.p (.int .i64 n),.ar 2 ⟨1,some i⟩ 0 0])))),(AN 0),(AE 0),(∀ i:Nat,(((i:Nat)<0)→All [(false=false),(AE 0)]))]:=by kernel_rfl
theorem rIz (n:Nat) (M:Nat) (A:Nat→T_Bar) :
    pieceOb Try.prog 0 [rg 2,rg 2,rm [(1,oc [] (.p (.bool true)))] 1,.dec false,rm [(1,oc [(0,brOb M A)] (.agg [.p (.int .i64 n),.ar 2 0 0 M]))] 2,rg 5,.head] [.code (bodyOf Try.f10)] (start Try.f10 [] 0 [.p (.int .i64 n)]) [64,288,256] 1 (SRgo n M A 0 0 (fun _=>(0,fun _=>(0,0,())))) =
    some (zf16,[Con Try.prog 40 0 [] [.p (.int .i64 (↑n:Int)),.p (.int .i64 1),.p (.int .i64 5)] [] (.p (.bool true)),((!true)=false),Con Try.prog 41 0 [] [.p (.int .i64 (↑n:Int))] [(0,⟨false,2,M,(fun i=>[.p (.int .i64 ((A i).1)),.p (.int .i64 ((A i).2.1))])⟩)] (.agg [.p (.int .i64 (↑n:Int)),.ar 2 0 0 M]),(NT 0 1),((true=true)→ (AN 1)),(NT 0 1),(IL 0 (↑M:Int)),(AI ((↑n:Int))),(AN 0),(AN 0),(AN 0),(AI ((shlI IntKind.i64 1 (↑M:Int)))),((0:Int)=(↑0:Int)),(AN 2),(NL 0 0),(∀ i:Nat,(((i:Nat)<0)→(All []∧(([.p (.int .i64 0),.p (.nil)]:List AV)=[.p (.int .i64 (↑n:Int)),.ar 2 ⟨3,some i⟩ 0 0])))),((((List.map (fun v=>AV.p (absV v)) [Value.int IntKind.i64 0,Value.slice none 0 0]).length):Nat)=2),(NL 1 1),(NL 1 1),(AI ((↑n:Int))),(AN 0),(AN M),(AN 2),(NL M M),(AA M (fun i=>[.p (.int .i64 ((A i).1)),.p (.int .i64 ((A i).2.1))])),(AN 0)]):=by kernel_rfl
theorem rI1 (n:Nat) (M:Nat) (A:Nat→T_Bar) (w c:Nat) (G:Nat→T_BarS) (S:T_IntS) :
    pieceOb Try.prog 0 [rg 1,.dec true,rg 2,rm [(4,oc [(0,iOb S.1 S.2)] (.ar 1 0 0 S.1))] 1,rg 7,.dec true,rg 2,.head] zf16 (SRgo n M A w c G) [0,1,2,3] 1 (SRgo n M A (w+1) c G) =
    some (zf16,[((decide ((↑w:Int)<shlI IntKind.i64 1 (↑M:Int)))=true),(NT 0 1),Con Try.prog 42 0 [] [.p (.int .i64 (↑w:Int)),.p (.int .i64 (↑M:Int))] [(0,⟨false,1,S.1,(fun i=>[.p (.int .i64 (S.2 i))])⟩)] (.ar 1 0 0 S.1),(R0 (2*(↑n:Int))),(R1 (2*(↑n:Int))),(R0 (2*(↑n:Int) - 3)),(R1 (2*(↑n:Int) - 3)),(((↑S.1:Int) != if true=true then if 2*(↑n:Int) - 3>0 then 2*(↑n:Int) - 3 else 0 else if 2*(↑n:Int) - 3<0 then 2*(↑n:Int) - 3 else 0)=true),(R0 ((↑w:Int)+1)),(R1 ((↑w:Int)+1)),(AI ((↑n:Int))),(AN 0),(AN c),(AN 0),(AI ((shlI IntKind.i64 1 (↑M:Int)))),((((↑w:Int)+1):Int)=(↑(w+1):Int)),(AN 2),(NL c c),(AA c (fun i=>[.p (.int .i64 (↑n:Int)),.ar 2 ⟨3,some i⟩ 0 ((G i).1)])),(AN 2),(NL 1 1),(NL 1 1),(AI ((↑n:Int))),(AN 0),(AN M),(AN 2),(NL M M),(AA M (fun i=>[.p (.int .i64 ((A i).1)),.p (.int .i64 ((A i).2.1))])),(NL c c),(∀ i:Nat,(((i:Nat)<c)→All [(AN 2),((((G i).1):Nat)≤((G i).1)),(AP (((G i).1)) (fun r=>[.int .i64 (((G i).2 r).1),.int .i64 (((G i).2 r).2.1)]))]))]):=by kernel_rfl
theorem rI2 (n:Nat) (M:Nat) (A:Nat→T_Bar) (w c:Nat) (G:Nat→T_BarS) (S:T_IntS) (x:T_BarS) :
    pieceOb Try.prog 0 [rg 1,.dec true,rg 2,rm [(4,oc [(0,iOb S.1 S.2)] (.ar 1 0 0 S.1))] 1,rg 7,.dec false,rm [(2,oc [(0,brOb x.1 x.2)] (.agg [.p (.int .i64 n),.ar 2 0 0 x.1]))] 2,rm [(1,oc [] (.p (.bool true)))] 0,.dec true,rg 5,rg 2,.head] zf16 (SRgo n M A w c G) [836,1,2,.ins 3 c 580] 1 (SRgo n M A (w+1) (c+1) (snocB c G x)) =
    some (zf16,[((decide ((↑w:Int)<shlI IntKind.i64 1 (↑M:Int)))=true),(NT 0 1),Con Try.prog 42 0 [] [.p (.int .i64 (↑w:Int)),.p (.int .i64 (↑M:Int))] [(0,⟨false,1,S.1,(fun i=>[.p (.int .i64 (S.2 i))])⟩)] (.ar 1 0 0 S.1),(R0 (2*(↑n:Int))),(R1 (2*(↑n:Int))),(R0 (2*(↑n:Int) - 3)),(R1 (2*(↑n:Int) - 3)),(((↑S.1:Int) != if true=true then if 2*(↑n:Int) - 3>0 then 2*(↑n:Int) - 3 else 0 else if 2*(↑n:Int) - 3<0 then 2*(↑n:Int) - 3 else 0)=false),(NT 0 1),(AN 2),(NL M M),(AN 1),(NL S.1 S.1),Con Try.prog 43 0 [] [(zf47 n M A),.p (.seq true 1 S.1 (fun i=>[.int .i64 (S.2 i)]))] [(0,⟨false,2,x.1,(fun i=>[.p (.int .i64 ((x.2 i).1)),.p (.int .i64 ((x.2 i).2.1))])⟩)] (.agg [.p (.int .i64 (↑n:Int)),.ar 2 0 0 x.1]),(NT 0 1),((true=true)→ (AN 1)),(NT 0 1),(AN 2),(NL x.1 x.1),Con Try.prog 44 0 [] [.agg [.p (.int .i64 (↑n:Int)),.p (.seq true 2 x.1 (fun i=>[.int .i64 ((x.2 i).1),.int .i64 ((x.2 i).2.1)]))]] [] (.p (.bool true)),(true=true),(NT 0 1),(NL 1 1),(NL c c),(NL ((c+1)*32) 140737488355328),(NL (c+1) 9223372036854775807),(R0 ((↑w:Int)+1)),(R1 ((↑w:Int)+1)),(AI ((↑n:Int))),(AN 0),(AN ((c+1))),(AN 0),(AI ((shlI IntKind.i64 1 (↑M:Int)))),((((↑w:Int)+1):Int)=(↑(w+1):Int)),(AN 2),(NL (c+1) (c+1)),(CV [(836,⟨false,2,(c+1),(fun i_1=>(if (i_1<c) then [.p (.int .i64 (↑n:Int)),.ar 2 ⟨3,some i_1⟩ 0 ((G i_1).1)] else [.p (.int .i64 (↑n:Int)),.ar 2 580 0 x.1]))⟩),(804,⟨false,2,1,(fun i_1=>[.p (.int .i64 (↑n:Int)),.ar 2 580 0 x.1])⟩),(612,⟨true,2,1,(fun i_1=>[.p (.int .i64 (↑n:Int)),.ar 2 580 0 x.1])⟩),(580,⟨false,2,x.1,(fun i_1=>[.p (.int .i64 ((x.2 i_1).1)),.p (.int .i64 ((x.2 i_1).2.1))])⟩),(228,⟨false,1,S.1,(fun i_1=>[.p (.int .i64 (S.2 i_1))])⟩),(1,⟨true,2,1,(fun i_1=>[.p (.int .i64 (↑n:Int)),.ar 2 2 0 M])⟩),(2,⟨false,2,M,(fun i_1=>[.p (.int .i64 ((A i_1).1)),.p (.int .i64 ((A i_1).2.1))])⟩),(3,⟨true,0,c,(fun i_1=>[.p (.seq false 2 ((G i_1).1) (fun i_2=>[.int .i64 (((G i_1).2 i_2).1),.int .i64 (((G i_1).2 i_2).2.1)]))])⟩)] [836,1,2,.ins 3 c 580] 1 (c+1) (fun i=>if (i<c) then [.p (.int .i64 (↑n:Int)),.ar 2 ⟨3,some i⟩ 0 ((G i).1)] else [.p (.int .i64 (↑n:Int)),.ar 2 580 0 x.1]) (fun i=>[.p (.int .i64 (↑n:Int)),.ar 2 ⟨3,some i⟩ 0 (if i<c then (G i).1 else x.1)])),(AN 2),(NL 1 1),(NL 1 1),(AI ((↑n:Int))),(AN 0),(AN M),(AN 2),(NL M M),(AA M (fun i=>[.p (.int .i64 ((A i).1)),.p (.int .i64 ((A i).2.1))])),(∀ i:Nat,(((i:Nat)<(c+1))→(((i:Nat)≠c)→(((i:Nat)<c)∧All [(AN 2),(((if i<c then (G i).1 else x.1):Nat)≤((G i).1)),(∀ r:Nat,(((r:Nat)<(if i<c then (G i).1 else x.1))→(([.int .i64 (((G i).2 r).1),.int .i64 (((G i).2 r).2.1)]:List PV)=[.int .i64 (if i<c then ((G i).2 r).1 else (x.2 r).1),.int .i64 (if i<c then ((G i).2 r).2.1 else (x.2 r).2.1)])))])))),(((c:Nat)<(c+1))→ All [(AN 2),(((if c<c then (G c).1 else x.1):Nat)≤x.1),(∀ r:Nat,(((r:Nat)<(if c<c then (G c).1 else x.1))→(([.int .i64 ((x.2 r).1),.int .i64 ((x.2 r).2.1)]:List PV)=[.int .i64 (if c<c then ((G c).2 r).1 else (x.2 r).1),.int .i64 (if c<c then ((G c).2 r).2.1 else (x.2 r).2.1)])))])]):=by kernel_rfl
theorem rI3 (n:Nat) (M:Nat) (A:Nat→T_Bar) (w c:Nat) (G:Nat→T_BarS) (S:T_IntS) (x:T_BarS) :
    pieceOb Try.prog 0 [rg 1,.dec true,rg 2,rm [(4,oc [(0,iOb S.1 S.2)] (.ar 1 0 0 S.1))] 1,rg 7,.dec false,rm [(2,oc [(0,brOb x.1 x.2)] (.agg [.p (.int .i64 n),.ar 2 0 0 x.1]))] 2,rm [(1,oc [] (.p (.bool false)))] 0,.dec false,rg 2,.head] zf16 (SRgo n M A w c G) [0,1,2,3] 1 (SRgo n M A (w+1) c G) =
    some (zf16,[((decide ((↑w:Int)<shlI IntKind.i64 1 (↑M:Int)))=true),(NT 0 1),Con Try.prog 42 0 [] [.p (.int .i64 (↑w:Int)),.p (.int .i64 (↑M:Int))] [(0,⟨false,1,S.1,(fun i=>[.p (.int .i64 (S.2 i))])⟩)] (.ar 1 0 0 S.1),(R0 (2*(↑n:Int))),(R1 (2*(↑n:Int))),(R0 (2*(↑n:Int) - 3)),(R1 (2*(↑n:Int) - 3)),(((↑S.1:Int) != if true=true then if 2*(↑n:Int) - 3>0 then 2*(↑n:Int) - 3 else 0 else if 2*(↑n:Int) - 3<0 then 2*(↑n:Int) - 3 else 0)=false),(NT 0 1),(AN 2),(NL M M),(AN 1),(NL S.1 S.1),Con Try.prog 43 0 [] [(zf47 n M A),.p (.seq true 1 S.1 (fun i=>[.int .i64 (S.2 i)]))] [(0,⟨false,2,x.1,(fun i=>[.p (.int .i64 ((x.2 i).1)),.p (.int .i64 ((x.2 i).2.1))])⟩)] (.agg [.p (.int .i64 (↑n:Int)),.ar 2 0 0 x.1]),(NT 0 1),((true=true)→ (AN 1)),(NT 0 1),(AN 2),(NL x.1 x.1),Con Try.prog 44 0 [] [.agg [.p (.int .i64 (↑n:Int)),.p (.seq true 2 x.1 (fun i=>[.int .i64 ((x.2 i).1),.int .i64 ((x.2 i).2.1)]))]] [] (.p (.bool false)),(false=false),(R0 ((↑w:Int)+1)),(R1 ((↑w:Int)+1)),(AI ((↑n:Int))),(AN 0),(AN c),(AN 0),(AI ((shlI IntKind.i64 1 (↑M:Int)))),((((↑w:Int)+1):Int)=(↑(w+1):Int)),(AN 2),(NL c c),(AA c (fun i=>[.p (.int .i64 (↑n:Int)),.ar 2 ⟨3,some i⟩ 0 ((G i).1)])),(AN 2),(NL 1 1),(NL 1 1),(AI ((↑n:Int))),(AN 0),(AN M),(AN 2),(NL M M),(AA M (fun i=>[.p (.int .i64 ((A i).1)),.p (.int .i64 ((A i).2.1))])),(NL c c),(∀ i:Nat,(((i:Nat)<c)→All [(AN 2),((((G i).1):Nat)≤((G i).1)),(AP (((G i).1)) (fun r=>[.int .i64 (((G i).2 r).1),.int .i64 (((G i).2 r).2.1)]))]))]):=by kernel_rfl
theorem rIe (n:Nat) (M:Nat) (A:Nat→T_Bar) (w c:Nat) (G:Nat→T_BarS) :
    pathOb Try.prog Try.f10 0 [rg 1,.dec false,rg 3] zf16 (SRgo n M A w c G) [0,3] 1 [(0,goOb 1 n c G),(1,foOb c G)] (.tup [.ar 2 0 0 c,.p (.bool true)]) =
    some [((decide ((↑w:Int)<shlI IntKind.i64 1 (↑M:Int)))=false),(AN 0),(AN c),(true=true),(AN 2),(NL c c),(AA c (fun i=>[.p (.int .i64 (↑n:Int)),.ar 2 ⟨1,some i⟩ 0 ((G i).1)])),(NL c c),(∀ i:Nat,(((i:Nat)<c)→All [(AN 2),((((G i).1):Nat)≤((G i).1)),(AP (((G i).1)) (fun r=>[.int .i64 (((G i).2 r).1),.int .i64 (((G i).2 r).2.1)]))])),(AE c),(∀ i:Nat,(((i:Nat)<c)→All [(false=false),(AE (((G i).1)))]))]:=by kernel_rfl
theorem kMa (n m:Int) (c:Nat) (G:Nat→T_BarS) :
    pieceOb Try.prog 2 [rg 1,rg 1,.head] [.code (bodyOf Try.f12)] (start Try.f12 [(0,goOb 1 n c G),(1,fTb c G)] 2 [.ar 2 0 0 c,.p (.int .i64 m)]) [0,1] 1 (SMk n m c G 0) =
    some (zf40,[(AN 0),(AN c),((m:Int)=(kG (fun i=>(G i).1) m 0)),((0:Int)=(↑0:Int)),(AN 2),(NL c c),(∀ i:Nat,(((i:Nat)<c)→(All []∧(([.p (.int .i64 n),.ar 2 ⟨1,some i⟩ 0 ((G i).1)]:List AV)=[.p (.int .i64 (if i<0 then kG (fun i=>(G i).1) m i else n)),.ar 2 ⟨1,some i⟩ 0 ((G i).1)])))),(NL c c),(∀ i:Nat,(((i:Nat)<c)→All [(AN 2),((((G i).1):Nat)≤((G i).1)),(∀ r:Nat,(((r:Nat)<((G i).1))→(([.int .i64 (((G i).2 r).1),.int .i64 (((G i).2 r).2.1)]:List PV)=[.int .i64 (if i<0 then kG (fun i=>(G i).1) m i+1+2*(↑r:Int) else ((G i).2 r).1),.int .i64 (if i<0 then kG (fun i=>(G i).1) m i+1+2*(↑r:Int)+1 else ((G i).2 r).2.1)])))]))]):=by kernel_rfl
theorem kMb (n m:Int) (c:Nat) (G:Nat→T_BarS) (j:Nat) :
    pieceOb Try.prog 2 [rg 4,.dec true,rg 6,.head] zf40 (SMk n m c G j) [0,1] 1 (SMk1 n m c G j) =
    some (zf11,[((decide ((↑j:Int)<(↑c:Int)))=true),(IL 0 (↑j:Int)),(IT (↑j:Int) (↑c:Int)),(NT j c),((false=true)→ ((c:Nat)=1)),(AN 0),(AN c),(((kG (fun i=>(G i).1) m j):Int)=(kG (fun i=>(G i).1) m j)),(AI ((↑j:Int))),(AN 2),(NL c c),(CV [(0,⟨false,2,c,(fun i_1=>(if (i_1=j) then [.p (.int .i64 (kG (fun i=>(G i).1) m j)),.ar 2 ⟨1,some j⟩ 0 ((G j).1)] else [.p (.int .i64 (if i_1<j then kG (fun i=>(G i).1) m i_1 else n)),.ar 2 ⟨1,some i_1⟩ 0 ((G i_1).1)]))⟩),(1,⟨true,0,c,(fun i_1=>[.p (.seq false 2 ((G i_1).1) (fun i_2=>[.int .i64 (if i_1<j then kG (fun i=>(G i).1) m i_1+1+2*(↑i_2:Int) else ((G i_1).2 i_2).1),.int .i64 (if i_1<j then kG (fun i=>(G i).1) m i_1+1+2*(↑i_2:Int)+1 else ((G i_1).2 i_2).2.1)]))])⟩)] [0,1] 1 c (fun i=>if (i=j) then [.p (.int .i64 (kG (fun i=>(G i).1) m j)),.ar 2 ⟨1,some j⟩ 0 ((G j).1)] else [.p (.int .i64 (if i<j then kG (fun i=>(G i).1) m i else n)),.ar 2 ⟨1,some i⟩ 0 ((G i).1)]) (fun i=>[.p (.int .i64 (if i<j+1 then kG (fun i=>(G i).1) m i else n)),.ar 2 ⟨1,some i⟩ 0 ((G i).1)])),(NL c c),(∀ i:Nat,(((i:Nat)<c)→All [(AN 2),((((G i).1):Nat)≤((G i).1)),(AP (((G i).1)) (fun r=>[.int .i64 (if i<j then kG (fun i=>(G i).1) m i+1+2*(↑r:Int) else ((G i).2 r).1),.int .i64 (if i<j then kG (fun i=>(G i).1) m i+1+2*(↑r:Int)+1 else ((G i).2 r).2.1)]))]))]):=by kernel_rfl
theorem kMc (n m:Int) (c:Nat) (G:Nat→T_BarS) (j:Nat) :
    pieceOb Try.prog 2 [rg 3,rm [(6,oq [⟨1,some j⟩] [(0,⟨false,2,(G j).1,fun i=>[.p (.int .i64 (kG (fun i=>(G i).1) m j+1+2*(i:Int))),.p (.int .i64 (kG (fun i=>(G i).1) m j+1+2*(i:Int)+1))]⟩)] (.p (.int .i64 (kG (fun i=>(G i).1) m j+1+2*((G j).1:Int)))))] 1,rg 3,.head] zf11 (SMk1 n m c G j) [0,1] 1 (SMk n m c G (j+1)) =
    some (zf40,[(R0 (kG (fun i=>(G i).1) m j+1)),(R1 (kG (fun i=>(G i).1) m j+1)),(IL 0 (↑j:Int)),(IT (↑j:Int) (↑c:Int)),(NT j c),(NT j c),(AE (((G j).1))),(AN j),Con Try.prog 45 1 [(0,⟨false,2,((G j).1),(fun i=>[.p (.int .i64 (if j<j then kG (fun i=>(G i).1) m j+1+2*(↑i:Int) else ((G j).2 i).1)),.p (.int .i64 (if j<j then kG (fun i=>(G i).1) m j+1+2*(↑i:Int)+1 else ((G j).2 i).2.1))])⟩)] [.ar 2 0 0 ((G j).1),.p (.int .i64 (kG (fun i=>(G i).1) m j+1))] [(0,⟨false,2,((G j).1),(fun i=>[.p (.int .i64 (kG (fun i=>(G i).1) m j+1+2*(↑i:Int))),.p (.int .i64 (kG (fun i=>(G i).1) m j+1+2*(↑i:Int)+1))])⟩)] (.p (.int .i64 (kG (fun i=>(G i).1) m j+1+2*(↑(G j).1:Int)))),(R0 ((↑j:Int)+1)),(R1 ((↑j:Int)+1)),(AN 0),(AN c),(((kG (fun i=>(G i).1) m j+1+2*(↑(G j).1:Int)):Int)=(kG (fun i=>(G i).1) m (j+1))),((((↑j:Int)+1):Int)=(↑(j+1):Int)),(AN 2),(NL c c),(AA c (fun i=>[.p (.int .i64 (if i<j+1 then kG (fun i=>(G i).1) m i else n)),.ar 2 ⟨1,some i⟩ 0 ((G i).1)])),(NL c c),(∀ i:Nat,(((i:Nat)<c)→All (famE (if (i=j) then [.p (.seq false 2 ((G j).1) (fun i_1=>[.int .i64 (kG (fun i=>(G i).1) m j+1+2*(↑i_1:Int)),.int .i64 (kG (fun i=>(G i).1) m j+1+2*(↑i_1:Int)+1)]))] else [.p (.seq false 2 ((G i).1) (fun i_1=>[.int .i64 (if i<j then kG (fun i=>(G i).1) m i+1+2*(↑i_1:Int) else ((G i).2 i_1).1),.int .i64 (if i<j then kG (fun i=>(G i).1) m i+1+2*(↑i_1:Int)+1 else ((G i).2 i_1).2.1)]))]) [.p (.seq false 2 ((G i).1) (fun i_1=>[.int .i64 (if i<j+1 then kG (fun i=>(G i).1) m i+1+2*(↑i_1:Int) else ((G i).2 i_1).1),.int .i64 (if i<j+1 then kG (fun i=>(G i).1) m i+1+2*(↑i_1:Int)+1 else ((G i).2 i_1).2.1)]))])))]):=by kernel_rfl
theorem kMd (n m:Int) (c:Nat) (G:Nat→T_BarS) (j:Nat) :
    pathOb Try.prog Try.f12 2 [rg 4,.dec false,rg 2] zf40 (SMk n m c G j) [0,1] 1 [(0,goK m c G),(1,foK m c G)] (.p (.int .i64 (kG (fun i=>(G i).1) m c))) =
    some [((decide ((↑j:Int)<(↑c:Int)))=false),(((kG (fun i=>(G i).1) m j):Int)=(kG (fun i=>(G i).1) m c)),(AN 2),(NL c c),(∀ i:Nat,(((i:Nat)<c)→(All []∧(([.p (.int .i64 (if i<j then kG (fun i=>(G i).1) m i else n)),.ar 2 ⟨1,some i⟩ 0 ((G i).1)]:List AV)=[.p (.int .i64 (kG (fun i=>(G i).1) m i)),.ar 2 ⟨1,some i⟩ 0 ((G i).1)])))),(NL c c),(∀ i:Nat,(((i:Nat)<c)→All [(AN 2),((((G i).1):Nat)≤((G i).1)),(∀ r:Nat,(((r:Nat)<((G i).1))→(([.int .i64 (if i<j then kG (fun i=>(G i).1) m i+1+2*(↑r:Int) else ((G i).2 r).1),.int .i64 (if i<j then kG (fun i=>(G i).1) m i+1+2*(↑r:Int)+1 else ((G i).2 r).2.1)]:List PV)=[.int .i64 (kG (fun i=>(G i).1) m i+1+2*(↑r:Int)),.int .i64 (kG (fun i=>(G i).1) m i+1+2*(↑r:Int)+1)])))])),(AE c),(∀ i:Nat,(((i:Nat)<c)→All [(false=false),(AE (((G i).1)))]))]:=by kernel_rfl
theorem kHa (L:Nat→Nat) (m:Int) (c:Nat) :
    pieceOb Try.prog 0 [rg 1,rg 1,.head] [.code (bodyOf Try.f13)] (start Try.f13 [] 0 [.p (.seq true 2 c (fun i=>[.int .i64 (kG L m i),.seq true 2 (L i) (fun s=>[.int .i64 (kG L m i+1+2*(s:Int)),.int .i64 (kG L m i+1+2*(s:Int)+1)])])),.p (.int .i64 m)]) [] 1 (SHd L m c 0) =
    some (zf41,[(AN c),(AP c (fun i=>[.int .i64 (kG L m i),.seq true 2 (L i) (fun i_1=>[.int .i64 (kG L m i+1+2*(↑i_1:Int)),.int .i64 (kG L m i+1+2*(↑i_1:Int)+1)])])),((m:Int)=(kG L m 0)),((0:Int)=(↑0:Int))]):=by kernel_rfl
theorem kHb (L:Nat→Nat) (m:Int) (c j:Nat) :
    pieceOb Try.prog 0 [rg 4,.dec true,rg 7,.dec false,rg 3,rm [(6,oc [] (.p (.int .i64 (kG L m j+1+2*(L j:Int)))))] 1,rg 2,.dec false,rg 3,.head] zf41 (SHd L m c j) [] 1 (SHd L m c (j+1)) =
    some (zf41,[((decide ((↑j:Int)<(↑c:Int)))=true),(IL 0 (↑j:Int)),(IT (↑j:Int) (↑c:Int)),((kG L m j != kG L m j)=false),(R0 (kG L m j+1)),(R1 (kG L m j+1)),(IL 0 (↑j:Int)),(IT (↑j:Int) (↑c:Int)),Con Try.prog 46 0 [] [.p (.seq true 2 (L j) (fun i=>[.int .i64 (kG L m j+1+2*(↑i:Int)),.int .i64 (kG L m j+1+2*(↑i:Int)+1)])),.p (.int .i64 (kG L m j+1))] [] (.p (.int .i64 (kG L m j+1+2*(↑(L j):Int)))),((decide (kG L m j+1+2*(↑(L j):Int)<0))=false),(R0 ((↑j:Int)+1)),(R1 ((↑j:Int)+1)),(AN c),(AP c (fun i=>[.int .i64 (kG L m i),.seq true 2 (L i) (fun i_1=>[.int .i64 (kG L m i+1+2*(↑i_1:Int)),.int .i64 (kG L m i+1+2*(↑i_1:Int)+1)])])),(((kG L m j+1+2*(↑(L j):Int)):Int)=(kG L m (j+1))),((((↑j:Int)+1):Int)=(↑(j+1):Int))]):=by kernel_rfl
theorem kHc (L:Nat→Nat) (m:Int) (c j:Nat) :
    pathOb Try.prog Try.f13 0 [rg 4,.dec false,rg 2] zf41 (SHd L m c j) [] 1 [] (.p (.int .i64 (kG L m j))) =
    some [((decide ((↑j:Int)<(↑c:Int)))=false),(AI ((kG L m j)))]:=by kernel_rfl
theorem kG_b (L:Nat→Nat) (m:Int) (c:Nat) (hL:∀ i,i<c→L i≤1048576) (h0:0≤m):∀ j,j≤c→m≤kG L m j∧kG L m j≤m+2097153*(j:Int)
  | 0,_=>by simp [kG]
  | j+1,h=>by
    obtain ⟨h1,h2⟩:=kG_b L m c hL h0 j (by omega)
    have:=hL j (by omega)
    simp only [kG]
    omega
theorem con_RigidGraphs_o (n:Int):Con Try.prog 10 0 [] [.p (.int .i64 n)] [(0,goOb 1 n (rgG n).1 (rgG n).2),(1,foOb (rgG n).1 (rgG n).2)] (.tup [.ar 2 0 0 (rgG n).1,.p (.bool (inB n 1 5))]):=by
  have hin:=con_within n 1 5
  cases hb:inB n 1 5 with
  | false =>
    rw [hb] at hin
    rw [show rgG n=zG by rw [rgG,hb];rfl]
    refine con_start Try.func10 rfl (by kernel_rfl) rfl (fun c hc=>?_)
    refine path_ok mixed Try.func10 hc (rIy n) ?_
    repeat' (first | exact aN | apply aI)
    all_goals (first | exact aE _ | omega | rfl | (intros;first | assumption | exact trivial | rfl | exact fT ‹_› | ((repeat' (first | assumption | apply anda | apply notf));done)) | (exact hin) | (simp;done) | (intro j hj;exact absurd hj (Nat.not_lt_zero _)))
  | true =>
    rw [hb] at hin
    have h15:1≤n∧n≤5:=by simpa [inB] using hb
    obtain ⟨m,rfl⟩:∃ m:Nat,n=(m:Int):=⟨n.toNat,by omega⟩
    rw [show rgG (m:Int)=gD m by rw [rgG,hb];rfl]
    have hcg:=con_Complete_i m (by omega) (by omega)
    have hM:=cgD_le m (by omega)
    unfold gD
    generalize (cgD m).1=M at hcg hM ⊢
    generalize (cgD m).2=A at hcg ⊢
    have hsh:=shl_pow M hM
    have hpw:=pow_le M hM
    refine con_start Try.func10 rfl (by kernel_rfl) rfl (fun c hc=>?_)
    generalize hR:gF m M A 0 (2 ^ M) zG=R
    have lo:∀ d w cc G,w+d=2 ^ M→cc≤w→gF m M A w d (cc,G)=R →
        Run Try.prog c 10 zf16 (SRgo m M A w cc G) (Post c [(0,goOb 1 m R.1 R.2),(1,foOb R.1 R.2)] (.tup [.ar 2 0 0 R.1,.p (.bool true)])):=by
      intro d
      induction d with
      | zero =>
        intro w cc G hw hcc he
        have hd:decide ((w:Int)<shlI .i64 1 (M:Int))=false:=by rw [hsh];exact decide_eq_false (by omega)
        rw [← he]
        refine path_ok mixed Try.func10 hc (rIe m M A w cc G) ?_
        repeat' (first | exact aN | apply aI)
        all_goals (first | exact aP _ _ | exact aA _ _ | exact aE _ | omega | rfl | (intros;first | assumption | exact trivial | rfl | exact fT ‹_› | ((repeat' (first | assumption | apply anda | apply notf));done)) | (exact hd) | (intro j hj;simp [All]))
      | succ d ih =>
        intro w cc G hw hcc he
        have hd:decide ((w:Int)<shlI .i64 1 (M:Int))=true:=by rw [hsh];exact decide_eq_true (by omega)
        rw [gF] at he
        have hset:=con_setOfE w M (by omega)
        have hSn:=sF_n w A M 0 zB (0,fun _=>0) rfl
        have hSl:=sF_le w M 0 (0,fun _=>0)
        have hSh:=fun y=>has_sF w M 0 (0,fun _=>0) y
        generalize sF w 0 M (0,fun _=>0)=S at hset hSn hSl hSh
        have hob:=con_OnlyBars m M A S (by omega) (by simp only at hSl;omega)
        rw [obF_bF w S A M 0 zB (fun j h1 h2=>by rw [hSh j,decide_eq_true (by omega)];simp [hasI])] at hob
        have hmr:=con_IsMin_i ((m:Int),bF w A 0 M zB,()) (sm_bF m w A M hM)
        generalize bF w A 0 M zB=x at hob hmr he hSn
        rw [hSn] at he
        cases h1:((S.1:Int)==maxI m) with
        | false =>
          rw [h1] at he
          have h1':((S.1:Int) != maxI m)=true:=by rw [bne,h1];rfl
          refine piece_ok mixed hc (rI1 m M A w cc G S) ?_ (ih (w+1) cc G (by omega) (by omega) he)
          repeat' (first | exact aN | apply aI)
          all_goals (first | exact aP _ _ | exact aA _ _ | omega | rfl | (intros;first | assumption | exact trivial | rfl | exact fT ‹_› | ((repeat' (first | assumption | apply anda | apply notf));done)) | (exact hd) | (exact hset) | (exact h1') | (simp;done) | (intro j hj;simp [All]))
        | true =>
          rw [h1] at he
          have h1':((S.1:Int) != maxI m)=false:=by rw [bne,h1];rfl
          cases h2:mrG ((m:Int),x,()) with
          | true =>
            rw [h2] at he hmr
            refine piece_ok mixed hc (rI2 m M A w cc G S x) ?_ (ih (w+1) (cc+1) _ (by omega) (by omega) he)
            repeat' (first | exact aN | apply aI)
            all_goals (first | exact aA _ _ | omega | rfl | (intros;first | assumption | exact trivial | rfl | exact fT ‹_› | ((repeat' (first | assumption | apply anda | apply notf));done)) | (exact hd) | (exact hset) | (exact h1') | (exact hob) | (exact hmr) | (simp;done) | (intro j hj;by_cases h':j<cc<;>simp [h',snocB,cvtL,cvt,idx,idx1,idO,idM,tg,All]<;>omega) | (intro j hj hne;(have h':j<cc:=by omega);simp [h',snocB,famE,All];done) | (intro hj;simp [snocB,memE,tab,toP,All];done) | (intro j hj;simp [All]))
          | false =>
            rw [h2] at he hmr
            refine piece_ok mixed hc (rI3 m M A w cc G S x) ?_ (ih (w+1) cc G (by omega) (by omega) he)
            repeat' (first | exact aN | apply aI)
            all_goals (first | exact aP _ _ | exact aA _ _ | omega | rfl | (intros;first | assumption | exact trivial | rfl | exact fT ‹_› | ((repeat' (first | assumption | apply anda | apply notf));done)) | (exact hd) | (exact hset) | (exact h1') | (exact hob) | (exact hmr) | (simp;done) | (intro j hj;simp [All]))
    refine piece_ok mixed hc (rIz m M A) ?_ (lo (2 ^ M) 0 0 _ (by omega) (by omega) hR)
    repeat' (first | exact aN | apply aI)
    all_goals (first | exact aA _ _ | omega | rfl | (intros;first | assumption | exact trivial | rfl | exact fT ‹_› | ((repeat' (first | assumption | apply anda | apply notf));done)) | (exact hin) | (exact hcg) | rfl | (simp;done) | (intro j hj;exact absurd hj (Nat.not_lt_zero _)) | (intro j hj;simp [All]))
theorem gF_le (n M:Nat) (A:Nat→T_Bar) (hM:M≤10):∀ d w c G,(∀ i,i<c→(G i).1≤1048576) →
    (gF n M A w d (c,G)).1≤c+d∧∀ i,i<(gF n M A w d (c,G)).1→((gF n M A w d (c,G)).2 i).1≤1048576
  | 0,w,c,G,h=>⟨Nat.le_refl _,h⟩
  | d+1,w,c,G,h=>by
    rw [gF]
    have hb:=(sm_bF n w A M hM).2.1.1
    generalize (bif ((bF w A 0 M zB).1:Int)==maxI n then mrG ((n:Int),bF w A 0 M zB,()) else false)=b
    cases b with
    | false =>
      obtain ⟨h1,h2⟩:=gF_le n M A hM d (w+1) c G h
      exact ⟨by simp only [cond_false];omega,h2⟩
    | true =>
      obtain ⟨h1,h2⟩:=gF_le n M A hM d (w+1) (c+1) (snocB c G (bF w A 0 M zB)) (fun i hi=>by
        unfold snocB
        by_cases hic:i<c
        · simp only [hic,if_true];exact h i hic
        · simp only [hic,if_false];exact hb)
      exact ⟨by simp only [cond_true];omega,h2⟩
theorem rgG_le (n:Int):(rgG n).1≤1024∧∀ i,i<(rgG n).1→((rgG n).2 i).1≤1048576:=by
  unfold rgG
  cases hb:inB n 1 5 with
  | false=>exact ⟨by show 0≤1024;omega,fun i hi=>absurd hi (Nat.not_lt_zero _)⟩
  | true =>
    have h15:1≤n∧n≤5:=by simpa [inB] using hb
    have hM:=cgD_le n.toNat (by omega)
    have hp:=pow_le (cgD n.toNat).1 hM
    obtain ⟨h1,h2⟩:=gF_le n.toNat (cgD n.toNat).1 (cgD n.toNat).2 hM (2 ^ (cgD n.toNat).1) 0 0 _ (fun i hi=>absurd hi (Nat.not_lt_zero _))
    exact ⟨by show (gD n.toNat).1≤1024;unfold gD zG;omega,h2⟩
theorem con_markGs (n m:Int) (c:Nat) (G:Nat→T_BarS) (hc0:c≤1048576) (hL:∀ i,i<c→(G i).1≤1048576) (h0:0≤m) (h1:m≤1048576) (hc1:c≤1024) :
    Con Try.prog 12 2 [(0,goOb 1 n c G),(1,fTb c G)] [.ar 2 0 0 c,.p (.int .i64 m)] [(0,goK m c G),(1,foK m c G)] (.p (.int .i64 (kG (fun i=>(G i).1) m c))):=by
  refine con_start Try.func12 rfl (by kernel_rfl) rfl (fun c' hc=>?_)
  have hk:=kG_b (fun i=>(G i).1) m c hL h0
  have lo:∀ d j,j+d=c→Run Try.prog c' 12 zf40 (SMk n m c G j) (Post c' [(0,goK m c G),(1,foK m c G)] (.p (.int .i64 (kG (fun i=>(G i).1) m c)))):=by
    intro d
    induction d with
    | zero =>
      intro j hj
      obtain rfl:j=c:=by omega
      have hd:decide ((j:Int)<(j:Int))=false:=by simp
      refine path_ok mixed Try.func12 hc (kMd n m j G j) ?_
      repeat' (first | exact aN | apply aI)
      all_goals (first | exact aE _ | omega | rfl | (intros;first | assumption | exact trivial | rfl | exact fT ‹_› | ((repeat' (first | assumption | apply anda | apply notf));done)) | (exact hd) | (intro i hi;simp [hi,famE,All]))
    | succ d ih =>
      intro j hj
      have hd:decide ((j:Int)<(c:Int))=true:=by simp;omega
      obtain ⟨b1,b2⟩:=hk j (by omega)
      have hj1:=hL j (by omega)
      have hm:=con_markBarS ((G j).1,fun s=>(if j<j then kG (fun i=>(G i).1) m j+1+2*(s:Int) else ((G j).2 s).1,if j<j then kG (fun i=>(G i).1) m j+1+2*(s:Int)+1 else ((G j).2 s).2.1,())) (kG (fun i=>(G i).1) m j+1) hj1 (by omega) (by omega)
      refine piece_ok mixed hc (kMb n m c G j) ?_ ?_
      ·
        repeat' (first | exact aN | apply aI)
        all_goals (first | exact aP _ _ | omega | rfl | (intros;first | assumption | exact trivial | rfl | exact fT ‹_› | ((repeat' (first | assumption | apply anda | apply notf));done)) | (exact hd) | (intro i hi;by_cases h:i=j<;>simp [h,Nat.lt_succ_iff_lt_or_eq,cvtL,cvt,idx,idx1,tg,tru,All];done))
      · refine piece_ok mixed hc (kMc n m c G j) ?_ (ih (j+1) (by omega))
        repeat' (first | exact aN | apply aI)
        all_goals (first | exact aA _ _ | exact aE _ | omega | rfl | (intros;first | assumption | exact trivial | rfl | exact fT ‹_› | ((repeat' (first | assumption | apply anda | apply notf));done)) | (exact hm) | (intro i hi;simp [All];done) | (intro i hi;by_cases h:i=j<;>simp [h,Nat.lt_succ_iff_lt_or_eq,famE,tab,toP,All];done))
  refine piece_ok mixed hc (kMa n m c G) ?_ (lo c 0 (by omega))
  repeat' (first | exact aN | apply aI)
  all_goals (first | omega | rfl | (intros;first | assumption | exact trivial | rfl | exact fT ‹_› | ((repeat' (first | assumption | apply anda | apply notf));done)) | (intro i hi;simp [All]))
theorem con_heldGs (L:Nat→Nat) (m:Int) (c:Nat) (hL:∀ i,i<c→L i≤1048576) (h0:0≤m) (h1:m≤1048576) (hc1:c≤1024) :
    Con Try.prog 13 0 [] [.p (.seq true 2 c (fun i=>[.int .i64 (kG L m i),.seq true 2 (L i) (fun s=>[.int .i64 (kG L m i+1+2*(s:Int)),.int .i64 (kG L m i+1+2*(s:Int)+1)])])),.p (.int .i64 m)] [] (.p (.int .i64 (kG L m c))):=by
  refine con_start Try.func13 rfl (by kernel_rfl) rfl (fun c' hc=>?_)
  have hk:=kG_b L m c hL h0
  have lo:∀ d j,j+d=c→Run Try.prog c' 13 zf41 (SHd L m c j) (Post c' [] (.p (.int .i64 (kG L m c)))):=by
    intro d
    induction d with
    | zero =>
      intro j hj
      obtain rfl:j=c:=by omega
      have hd:decide ((j:Int)<(j:Int))=false:=by simp
      refine path_ok mixed Try.func13 hc (kHc L m j j) ?_
      repeat' (first | exact aN | apply aI)
      all_goals (first | omega | rfl | (intros;first | assumption | exact trivial | rfl | exact fT ‹_› | ((repeat' (first | assumption | apply anda | apply notf));done)) | (exact hd))
    | succ d ih =>
      intro j hj
      have hd:decide ((j:Int)<(c:Int))=true:=by simp;omega
      obtain ⟨b1,b2⟩:=hk j (by omega)
      have hj1:=hL j (by omega)
      have hm:=con_heldBarS (L j) (kG L m j+1) hj1 (by omega) (by omega)
      have hneg:decide (kG L m j+1+2*(L j:Int)<0)=false:=by simp;omega
      refine piece_ok mixed hc (kHb L m c j) ?_ (ih (j+1) (by omega))
      repeat' (first | exact aN | apply aI)
      all_goals (first | exact aP _ _ | omega | rfl | (intros;first | assumption | exact trivial | rfl | exact fT ‹_› | ((repeat' (first | assumption | apply anda | apply notf));done)) | (exact hd) | (exact hm) | (simp;done) | (exact hneg))
  refine piece_ok mixed hc (kHa L m c) ?_ (lo c 0 (by omega))
  repeat' (first | exact aN | apply aI)
  all_goals (first | exact aP _ _ | omega | rfl | (intros;first | assumption | exact trivial | rfl | exact fT ‹_› | ((repeat' (first | assumption | apply anda | apply notf));done)))
end Go.Proofs.Ytffnfeefjdmifaa.Mach
namespace Go.Proofs.Ytffnfeefjdmifaa.Mach
open Go
set_option linter.unusedVariables false
set_option linter.unusedSimpArgs false
theorem lRg (n:Int) (b:Bool) (c:Nat) (G:Nat→T_BarS) :
    pathOb Try.prog Try.f3 0 [rg 1,rm [(1,oc [(0,gsOb n c G)] (.tup [.ar 2 0 0 c,.p (.bool b)]))] 5,rm [(1,oc [(0,goOb 1 n c G),(1,foOb c G)] (.tup [.ar 2 0 0 c,.p (.bool b)]))] 5,rm [(2,⟨true,(some ⟨[],[],[289],2,[],.p (.bool true)⟩),none⟩)] 6,.dec false,rg 1,rm [(2,oq [288,289] [(0,goK 1 c G),(1,foK 1 c G)] (.p (.int .i64 (kG (fun i=>(G i).1) 1 c))))] 1,rg 1,rm [(2,⟨true,(some ⟨[],[],[289],2,[],.p (.int .i64 (kG (fun i=>(G i).1) 1 c))⟩),none⟩)] 1,rg 2,.dec false,rg 3,.dec false,rm [(1,oc [(0,goOb 1 n c G),(1,foOb c G)] (.tup [.ar 2 0 0 c,.p (.bool b)]))] 5,rm [(2,⟨true,(some ⟨[],[],[1281],2,[],.p (.bool true)⟩),none⟩)] 6,.dec false,rg 1,rm [(2,⟨true,(some ⟨[],[],[289],2,[],.p (.int .i64 (kG (fun i=>(G i).1) 1 c))⟩),none⟩)] 1,rg 2,.dec false,rg 3,.dec false,rg 1] [.code (bodyOf Try.f3)] (start Try.f3 [] 0 [.p (.int .i64 n)]) [] 1 [] (.p (.bool true)) =
    some [Con Try.prog 9 0 [] [.p (.int .i64 n)] [(0,⟨false,2,c,(fun i=>[.p (.int .i64 n),.p (.seq false 2 ((G i).1) (fun i_1=>[.int .i64 (((G i).2 i_1).1),.int .i64 (((G i).2 i_1).2.1)]))])⟩)] (.tup [.ar 2 0 0 c,.p (.bool b)]),Con Try.prog 10 0 [] [.p (.int .i64 n)] [(0,⟨false,2,c,(fun i=>[.p (.int .i64 n),.ar 2 ⟨1,some i⟩ 0 ((G i).1)])⟩),(1,⟨true,0,c,(fun i=>[.p (.seq false 2 ((G i).1) (fun i_1=>[.int .i64 (((G i).2 i_1).1),.int .i64 (((G i).2 i_1).2.1)]))])⟩)] (.tup [.ar 2 0 0 c,.p (.bool b)]),(AN 2),(NL c c),(∀ i:Nat,(((i:Nat)<c)→All [((i:Nat)<c),(AN 2),((((G i).1):Nat)≤((G i).1))])),(AN 2),(NL c c),(AE c),Con Try.prog 11 0 [] [.p (.seq true 2 c (fun i=>[.int .i64 n,.seq true 2 ((G i).1) (fun i_1=>[.int .i64 (((G i).2 i_1).1),.int .i64 (((G i).2 i_1).2.1)])])),.p (.seq true 2 c (fun i=>[.int .i64 n,.seq true 2 ((G i).1) (fun i_1=>[.int .i64 (((G i).2 i_1).1),.int .i64 (((G i).2 i_1).2.1)])]))] [] (.p (.bool true)),(AG (!!true)),(AG (!!true)),(((!true)=false)→ ((!!true)=true)),((bif !true then true else !b==b)=false),(AE c),Con Try.prog 12 2 [(0,⟨false,2,c,(fun i=>[.p (.int .i64 n),.ar 2 ⟨1,some i⟩ 0 ((G i).1)])⟩),(1,⟨true,0,c,(fun i=>[.p (.seq true 2 ((G i).1) (fun i_1=>[.int .i64 (((G i).2 i_1).1),.int .i64 (((G i).2 i_1).2.1)]))])⟩)] [.ar 2 0 0 c,.p (.int .i64 1)] [(0,⟨false,2,c,(fun i=>[.p (.int .i64 (kG (fun i=>(G i).1) 1 i)),.ar 2 ⟨1,some i⟩ 0 ((G i).1)])⟩),(1,⟨true,0,c,(fun i=>[.p (.seq false 2 ((G i).1) (fun i_1=>[.int .i64 (kG (fun i=>(G i).1) 1 i+1+2*(↑i_1:Int)),.int .i64 (kG (fun i=>(G i).1) 1 i+1+2*(↑i_1:Int)+1)]))])⟩)] (.p (.int .i64 (kG (fun i=>(G i).1) 1 c))),(AN 2),(NL c c),(∀ i:Nat,(((i:Nat)<c)→All [((i:Nat)<c),(AN 2),((((G i).1):Nat)≤((G i).1))])),Con Try.prog 13 0 [] [.p (.seq true 2 c (fun i=>[.int .i64 (kG (fun i=>(G i).1) 1 i),.seq true 2 ((G i).1) (fun i_1=>[.int .i64 (kG (fun i=>(G i).1) 1 i+1+2*(↑i_1:Int)),.int .i64 (kG (fun i=>(G i).1) 1 i+1+2*(↑i_1:Int)+1)])])),.p (.int .i64 1)] [] (.p (.int .i64 (kG (fun i=>(G i).1) 1 c))),((decide (kG (fun i=>(G i).1) 1 c<0))=false),((kG (fun i=>(G i).1) 1 c != kG (fun i=>(G i).1) 1 c)=false),Con Try.prog 10 0 [] [.p (.int .i64 n)] [(0,⟨false,2,c,(fun i=>[.p (.int .i64 n),.ar 2 ⟨1,some i⟩ 0 ((G i).1)])⟩),(1,⟨true,0,c,(fun i=>[.p (.seq false 2 ((G i).1) (fun i_1=>[.int .i64 (((G i).2 i_1).1),.int .i64 (((G i).2 i_1).2.1)]))])⟩)] (.tup [.ar 2 0 0 c,.p (.bool b)]),(AN 2),(NL c c),(∀ i:Nat,(((i:Nat)<c)→All [((i:Nat)<c),(AN 2),((((G i).1):Nat)≤((G i).1))])),(AN 2),(NL c c),(AE c),Con Try.prog 11 0 [] [.p (.seq true 2 c (fun i=>[.int .i64 n,.seq true 2 ((G i).1) (fun i_1=>[.int .i64 (((G i).2 i_1).1),.int .i64 (((G i).2 i_1).2.1)])])),.p (.seq true 2 c (fun i=>[.int .i64 n,.seq true 2 ((G i).1) (fun i_1=>[.int .i64 (((G i).2 i_1).1),.int .i64 (((G i).2 i_1).2.1)])]))] [] (.p (.bool true)),(AG (!!true)),(AG (!!true)),(((!true)=false)→ ((!!true)=true)),((bif !true then true else !b==b)=false),(AN 2),(NL c c),(∀ i:Nat,(((i:Nat)<c)→All [((i:Nat)<c),(AN 2),((((G i).1):Nat)≤((G i).1))])),Con Try.prog 13 0 [] [.p (.seq true 2 c (fun i=>[.int .i64 (kG (fun i=>(G i).1) 1 i),.seq true 2 ((G i).1) (fun i_1=>[.int .i64 (kG (fun i=>(G i).1) 1 i+1+2*(↑i_1:Int)),.int .i64 (kG (fun i=>(G i).1) 1 i+1+2*(↑i_1:Int)+1)])])),.p (.int .i64 1)] [] (.p (.int .i64 (kG (fun i=>(G i).1) 1 c))),((decide (kG (fun i=>(G i).1) 1 c<0))=false),((kG (fun i=>(G i).1) 1 c != kG (fun i=>(G i).1) 1 c)=false),(true=true)]:=by kernel_rfl
theorem con_law_FnExactRigidGraphs (n:Int) (k0:okS (.int .i64) n):Con Try.prog 3 0 [] [.p (.int .i64 n)] [] (.p (.bool true)):=by
  refine con_start Try.func3 rfl (by kernel_rfl) rfl (fun c hc=>?_)
  obtain ⟨h1,h2⟩:=rgG_le n
  have hs:=con_RigidGraphs_s n
  have hi:=con_RigidGraphs_o n
  generalize (rgG n).1=cc at h1 h2 hs hi
  generalize (rgG n).2=G at h2 hs hi
  have he:=con_eqGraphS (cc,fun i=>(n,G i,())) ⟨by show cc≤1048576;omega,fun i hi=>⟨trivial,⟨h2 i hi,fun s hs=>by simp [smS,smL]⟩,trivial⟩⟩
  have hm:=con_markGs n 1 cc G (by omega) h2 (by omega) (by omega) h1
  have hh:=con_heldGs (fun i=>(G i).1) 1 cc h2 (by omega) (by omega) h1
  obtain ⟨b1,b2⟩:=kG_b (fun i=>(G i).1) 1 cc h2 (by omega) cc (Nat.le_refl _)
  have hneg:decide (kG (fun i=>(G i).1) 1 cc<0)=false:=by simp;omega
  refine path_ok mixed Try.func3 hc (lRg n (inB n 1 5) cc G) ?_
  repeat' (first | exact aN | apply aI)
  all_goals (first | exact aG _ | exact aE _ | omega | rfl | (intros;first | assumption | exact trivial | rfl | exact fT ‹_› | ((repeat' (first | assumption | apply anda | apply notf));done)) | (exact hs) | (exact hi) | (exact he) | (exact hm) | (exact hneg) | (intro i hi;simp [hi,All];done) | (simp;done))
end Go.Proofs.Ytffnfeefjdmifaa.Mach
