/- What the law Ck needs, part 6 of 6: the abstract machine and the contracts of the functions. Conditions: as each theorem says. -/
import Derived.Test.YtkkjoghiigiokaaGreatCkP5
namespace Go.Proofs.YtkkjoghiigiokaaGreat.Mach
open Go
set_option linter.unusedVariables false
set_option linter.unusedSimpArgs false
def stpA (s:T_Step):AV:=.agg [.p (.int .i64 s.1),.p (.int .i64 s.2.1),.p (.int .i64 s.2.2.1),.p (.int .i64 s.2.2.2.1),.p (.int .i64 s.2.2.2.2.1)]
def apB (n:Nat) (h f:Nat→T_Bar) (s:Nat):T_Bar:=(if s<n then (h s).1 else (f (s - n)).1,if s<n then (h s).2.1 else (f (s - n)).2.1,())
theorem api_x (g:Nat→T_Bar) (nb N:Nat) (s:T_Step) :
    pathOb Tryz.prog Tryz.f201 0 [rg 4,rm [(1,oc [] (.p (.bool true)))] 7,.dec true,rm [(1,oc [(0,brOb nb g)] (.agg [.p (.int .i64 N),.ar 2 0 0 nb]))] 2] [.code (bodyOf Tryz.f201)] (start Tryz.f201 [] 0 [grG g nb N,stpA s]) [448] 1 [(0,brOb nb g)] ((zf127 N nb)) =
    some [(NT 0 1),Con Tryz.prog 62 0 [] [(zf113 N nb g)] [] (.p (.bool true)),(AG (!!true)),(((!!true)=true)→(NT 0 1)),(AG (!!true)),(AG (!!true)),(((!true)=false)→ ((!!true)=true)),((bif !true then true else decide ((↑nb:Int)>21))=true),(NT 0 1),Con Tryz.prog 63 0 [] [(zf113 N nb g)] (zf122 nb g) (.agg [.p (.int .i64 (↑N:Int)),.ar 2 0 0 nb]),(NT 0 1),((true=true)→ (AN 1)),(NT 0 1),(AI ((↑N:Int))),(AN 0),(AN nb),(false=false),(AN 2),(NL nb nb),(AA nb (fun i=>[.p (.int .i64 ((g i).1)),.p (.int .i64 ((g i).2.1))])),(AE nb)]:=by kernel_rfl
theorem api_0a (g:Nat→T_Bar) (nb N:Nat) (s:T_Step) :
    pathOb Tryz.prog Tryz.f201 0 [rg 4,rm [(1,oc [] (.p (.bool true)))] 7,.dec false,rg 2,rg 2,.dec true,rm [(15,gF),(0,gF),(0,gF),(0,gF),(0,gF),(0,gF),(0,gF),(0,gF)] 0,.dec false,rm [(1,oc [(0,brOb nb g)] (.agg [.p (.int .i64 N),.ar 2 0 0 nb]))] 2] [.code (bodyOf Tryz.f201)] (start Tryz.f201 [] 0 [grG g nb N,stpA s]) [1312] 1 [(0,brOb nb g)] ((zf127 N nb)) =
    some [(NT 0 1),Con Tryz.prog 62 0 [] [(zf113 N nb g)] [] (.p (.bool true)),(AG (!!true)),(((!!true)=true)→(NT 0 1)),(AG (!!true)),(AG (!!true)),(((!true)=false)→ ((!!true)=true)),((bif !true then true else decide ((↑nb:Int)>21))=false),(NT 0 1),((s.1==0)=true),(NT 0 1),(AG ((↑nb:Int)==0)),((((↑nb:Int)==0)=true)→(NT 0 1)),(AG ((↑nb:Int)==0)),(AG ((↑nb:Int)==0)),(AG (bif (↑nb:Int)==0 then s.2.1==0 else false)),(((bif (↑nb:Int)==0 then s.2.1==0 else false)=true)→(NT 0 1)),(AG (bif (↑nb:Int)==0 then s.2.1==0 else false)),(AG (bif (↑nb:Int)==0 then s.2.1==0 else false)),((bif bif (↑nb:Int)==0 then s.2.1==0 else false then s.2.2.2.2.1==0 else false)=false),((bif bif (↑nb:Int)==0 then s.2.1==0 else false then s.2.2.2.2.1==0 else false)=false),((bif bif (↑nb:Int)==0 then s.2.1==0 else false then s.2.2.2.2.1==0 else false)=false),((bif bif (↑nb:Int)==0 then s.2.1==0 else false then s.2.2.2.2.1==0 else false)=false),((bif bif (↑nb:Int)==0 then s.2.1==0 else false then s.2.2.2.2.1==0 else false)=false),((bif bif (↑nb:Int)==0 then s.2.1==0 else false then s.2.2.2.2.1==0 else false)=false),((bif bif (↑nb:Int)==0 then s.2.1==0 else false then s.2.2.2.2.1==0 else false)=false),((bif bif (↑nb:Int)==0 then s.2.1==0 else false then s.2.2.2.2.1==0 else false)=false),(false=false),(NT 0 1),Con Tryz.prog 63 0 [] [(zf113 N nb g)] (zf122 nb g) (.agg [.p (.int .i64 (↑N:Int)),.ar 2 0 0 nb]),(NT 0 1),((true=true)→ (AN 1)),(NT 0 1),(AI ((↑N:Int))),(AN 0),(AN nb),(false=false),(AN 2),(NL nb nb),(AA nb (fun i=>[.p (.int .i64 ((g i).1)),.p (.int .i64 ((g i).2.1))])),(AE nb)]:=by kernel_rfl
theorem api_0b (g:Nat→T_Bar) (nb N:Nat) (s:T_Step) (d:Bool) :
    pathOb Tryz.prog Tryz.f201 0 [rg 4,rm [(1,oc [] (.p (.bool true)))] 7,.dec false,rg 2,rg 2,.dec true,rm [(15,gT),(0,gT),(0,gT),(0,gT),(0,gT),(0,gT),(0,⟨true,(some ⟨[],[],[],1,[],.p (.bool d)⟩),some true⟩),(0,gT)] 0,.dec false,rm [(1,oc [(0,brOb nb g)] (.agg [.p (.int .i64 N),.ar 2 0 0 nb]))] 2] [.code (bodyOf Tryz.f201)] (start Tryz.f201 [] 0 [grG g nb N,stpA s]) [1312] 1 [(0,brOb nb g)] ((zf127 N nb)) =
    some [(NT 0 1),Con Tryz.prog 62 0 [] [(zf113 N nb g)] [] (.p (.bool true)),(AG (!!true)),(((!!true)=true)→(NT 0 1)),(AG (!!true)),(AG (!!true)),(((!true)=false)→ ((!!true)=true)),((bif !true then true else decide ((↑nb:Int)>21))=false),(NT 0 1),((s.1==0)=true),(NT 0 1),(AG ((↑nb:Int)==0)),((((↑nb:Int)==0)=true)→(NT 0 1)),(AG ((↑nb:Int)==0)),(AG ((↑nb:Int)==0)),(AG (bif (↑nb:Int)==0 then s.2.1==0 else false)),(((bif (↑nb:Int)==0 then s.2.1==0 else false)=true)→(NT 0 1)),(AG (bif (↑nb:Int)==0 then s.2.1==0 else false)),(AG (bif (↑nb:Int)==0 then s.2.1==0 else false)),((bif bif (↑nb:Int)==0 then s.2.1==0 else false then s.2.2.2.2.1==0 else false)=true),(NT 0 1),((bif bif (↑nb:Int)==0 then s.2.1==0 else false then s.2.2.2.2.1==0 else false)=true),((bif bif (↑nb:Int)==0 then s.2.1==0 else false then s.2.2.2.2.1==0 else false)=true),(NT 0 1),((bif bif (↑nb:Int)==0 then s.2.1==0 else false then s.2.2.2.2.1==0 else false)=true),((bif bif (↑nb:Int)==0 then s.2.1==0 else false then s.2.2.2.2.1==0 else false)=true),(NT 0 1),((bif bif (↑nb:Int)==0 then s.2.1==0 else false then s.2.2.2.2.1==0 else false)=true),((bif bif (↑nb:Int)==0 then s.2.1==0 else false then s.2.2.2.2.1==0 else false)=true),(AN 1),(NL 2 2),Con Tryz.prog 97 0 [] [(zf113 N nb g),.p (.seq true 1 2 (fun i=>[(cellP true [(List.getD ([.p (.int .i64 s.2.2.1),.p (.int .i64 s.2.2.2.1)]:List AV) (rowIx 2 i*1) (.p .any))] 0)]))] [] (.p (.bool d)),((bif bif (↑nb:Int)==0 then s.2.1==0 else false then s.2.2.2.2.1==0 else false)=true),(d=false),(NT 0 1),Con Tryz.prog 63 0 [] [(zf113 N nb g)] (zf122 nb g) (.agg [.p (.int .i64 (↑N:Int)),.ar 2 0 0 nb]),(NT 0 1),((true=true)→ (AN 1)),(NT 0 1),(AI ((↑N:Int))),(AN 0),(AN nb),(false=false),(AN 2),(NL nb nb),(AA nb (fun i=>[.p (.int .i64 ((g i).1)),.p (.int .i64 ((g i).2.1))])),(AE nb)]:=by kernel_rfl
theorem api_0y (g:Nat→T_Bar) (nb N:Nat) (s:T_Step) (d:Bool) (r:Nat→T_Bar) :
    pathOb Tryz.prog Tryz.f201 0 [rg 4,rm [(1,oc [] (.p (.bool true)))] 7,.dec false,rg 2,rg 2,.dec true,rm [(5,gT),(0,gT),(0,gT),(0,gT),(1,gT),(0,gT),(0,gT),(0,gT),(1,gT),(0,gT),(0,gT),(0,gT),(0,gT),(0,gT),(0,⟨true,(some ⟨[],[],[],1,[],.p (.bool d)⟩),some true⟩),(0,gT)] 0,.dec true,rm [(5,oc [] (.agg [.p (.int .i64 (brX s.2.2.1 s.2.2.2.1).1),.p (.int .i64 (brX s.2.2.1 s.2.2.2.1).2.1)])),(1,oc [(0,brOb (nb+1) r)] (.agg [.p (.int .i64 N),.ar 2 0 0 (nb+1)]))] 2] [.code (bodyOf Tryz.f201)] (start Tryz.f201 [] 0 [grG g nb N,stpA s]) [1504] 1 [(0,brOb (nb+1) r)] (.tup [.agg [.p (.int .i64 N),.ar 2 0 0 (nb+1)],.p (.bool true)]) =
    some [(NT 0 1),Con Tryz.prog 62 0 [] [(zf113 N nb g)] [] (.p (.bool true)),(AG (!!true)),(((!!true)=true)→(NT 0 1)),(AG (!!true)),(AG (!!true)),(((!true)=false)→ ((!!true)=true)),((bif !true then true else decide ((↑nb:Int)>21))=false),(NT 0 1),((s.1==0)=true),(NT 0 1),(((↑nb:Int)==0)=true),(((↑nb:Int)==0)=true),(NT 0 1),(((↑nb:Int)==0)=true),(((↑nb:Int)==0)=true),((s.2.1==0)=true),((s.2.1==0)=true),(NT 0 1),((s.2.1==0)=true),((s.2.1==0)=true),((s.2.2.2.2.1==0)=true),(NT 0 1),((s.2.2.2.2.1==0)=true),((s.2.2.2.2.1==0)=true),(NT 0 1),((s.2.2.2.2.1==0)=true),((s.2.2.2.2.1==0)=true),(NT 0 1),((s.2.2.2.2.1==0)=true),((s.2.2.2.2.1==0)=true),(AN 1),(NL 2 2),Con Tryz.prog 97 0 [] [(zf113 N nb g),.p (.seq true 1 2 (fun i=>[(cellP true [(List.getD ([.p (.int .i64 s.2.2.1),.p (.int .i64 s.2.2.2.1)]:List AV) (rowIx 2 i*1) (.p .any))] 0)]))] [] (.p (.bool d)),((s.2.2.2.2.1==0)=true),(d=true),(NT 0 1),(NT 0 1),(NT 0 1),Con Tryz.prog 290 0 [] [.p (.int .i64 s.2.2.1),.p (.int .i64 s.2.2.2.1)] [] ((zf88 s)),(AN 2),(NL 1 1),Con Tryz.prog 225 0 [] [(zf113 N nb g),.p (.seq true 2 1 (fun i=>[.int .i64 (if s.2.2.2.1<s.2.2.1 then s.2.2.2.1 else s.2.2.1),.int .i64 (if s.2.2.2.1>s.2.2.1 then s.2.2.2.1 else s.2.2.1)]))] (zf117 nb r) (.agg [.p (.int .i64 (↑N:Int)),.ar 2 0 0 (nb+1)]),(NT 0 1),((true=true)→ (AN 1)),(NT 0 1),(AI ((↑N:Int))),(AN 0),(AN ((nb+1))),(true=true),(AN 2),(NL (nb+1) (nb+1)),(AA ((nb+1)) (fun i=>[.p (.int .i64 ((r i).1)),.p (.int .i64 ((r i).2.1))])),(AE ((nb+1)))]:=by kernel_rfl
theorem api_1a (g:Nat→T_Bar) (nb N:Nat) (s:T_Step) :
    pathOb Tryz.prog Tryz.f201 0 [rg 4,rm [(1,oc [] (.p (.bool true)))] 7,.dec false,rg 2,rg 2,.dec false,rg 2,.dec true,rm [(4,gF),(0,gF),(0,gF),(0,gF),(0,gF),(0,gF),(0,gF),(0,gF),(0,gF),(0,gF),(1,gF),(0,gF),(0,gF),(0,gF),(0,gF),(0,gF),(1,gF),(0,gF),(0,gF),(0,gF),(0,gF),(0,gF),(1,gF),(0,gF),(0,gF),(0,gF),(0,gF),(0,gF)] 0,.dec false,rm [(1,oc [(0,brOb nb g)] (.agg [.p (.int .i64 N),.ar 2 0 0 nb]))] 2] [.code (bodyOf Tryz.f201)] (start Tryz.f201 [] 0 [grG g nb N,stpA s]) [1760] 1 [(0,brOb nb g)] ((zf127 N nb)) =
    some [(NT 0 1),Con Tryz.prog 62 0 [] [(zf113 N nb g)] [] (.p (.bool true)),(AG (!!true)),(((!!true)=true)→(NT 0 1)),(AG (!!true)),(AG (!!true)),(((!true)=false)→ ((!!true)=true)),((bif !true then true else decide ((↑nb:Int)>21))=false),(NT 0 1),((s.1==0)=false),((s.1==1)=true),(NT 0 1),((s.2.2.2.2.1==0)=false),((s.2.2.2.2.1==0)=false),((s.2.2.2.2.1==0)=false),((s.2.2.2.2.1==0)=false),((s.2.2.2.2.1==0)=false),((s.2.2.2.2.1==0)=false),((s.2.2.2.2.1==0)=false),((s.2.2.2.2.1==0)=false),((s.2.2.2.2.1==0)=false),((s.2.2.2.2.1==0)=false),(false=false),(false=false),(false=false),(false=false),(false=false),(false=false),(false=false),(false=false),(false=false),(false=false),(false=false),(false=false),(false=false),(false=false),(false=false),(false=false),(false=false),(false=false),(false=false),(NT 0 1),Con Tryz.prog 63 0 [] [(zf113 N nb g)] (zf122 nb g) (.agg [.p (.int .i64 (↑N:Int)),.ar 2 0 0 nb]),(NT 0 1),((true=true)→ (AN 1)),(NT 0 1),(AI ((↑N:Int))),(AN 0),(AN nb),(false=false),(AN 2),(NL nb nb),(AA nb (fun i=>[.p (.int .i64 ((g i).1)),.p (.int .i64 ((g i).2.1))])),(AE nb)]:=by kernel_rfl
theorem api_1b (g:Nat→T_Bar) (nb N:Nat) (s:T_Step) (d:Bool) (x y z:Int) :
    pathOb Tryz.prog Tryz.f201 0 [rg 4,rm [(1,oc [] (.p (.bool true)))] 7,.dec false,rg 2,rg 2,.dec false,rg 2,.dec true,rm [(4,gT),(0,gT),(0,gT),(0,gT),(0,gT),(0,gT),(0,gT),(0,gT),(0,⟨true,(some ⟨[],[],[],1,[],.p (.bool d)⟩),some true⟩),(0,gT),(4,oc [] (.p (.int .i64 x))),(6,oc [] (.p (.int .i64 y))),(6,oc [] (.p (.int .i64 z)))] 2,.dec false,rm [(1,oc [(0,brOb nb g)] (.agg [.p (.int .i64 N),.ar 2 0 0 nb]))] 2] [.code (bodyOf Tryz.f201)] (start Tryz.f201 [] 0 [grG g nb N,stpA s]) [1760] 1 [(0,brOb nb g)] ((zf127 N nb)) =
    some [(NT 0 1),Con Tryz.prog 62 0 [] [(zf113 N nb g)] [] (.p (.bool true)),(AG (!!true)),(((!!true)=true)→(NT 0 1)),(AG (!!true)),(AG (!!true)),(((!true)=false)→ ((!!true)=true)),((bif !true then true else decide ((↑nb:Int)>21))=false),(NT 0 1),((s.1==0)=false),((s.1==1)=true),(NT 0 1),((s.2.2.2.2.1==0)=true),(NT 0 1),((s.2.2.2.2.1==0)=true),((s.2.2.2.2.1==0)=true),(NT 0 1),((s.2.2.2.2.1==0)=true),((s.2.2.2.2.1==0)=true),(NT 0 1),((s.2.2.2.2.1==0)=true),((s.2.2.2.2.1==0)=true),(NT 0 1),((s.2.2.2.2.1==0)=true),((s.2.2.2.2.1==0)=true),(AN 1),(NL 3 3),Con Tryz.prog 97 0 [] [(zf113 N nb g),.p (.seq true 1 3 (fun i=>[(cellP true [(List.getD ([.p (.int .i64 s.2.1),.p (.int .i64 s.2.2.1),.p (.int .i64 s.2.2.2.1)]:List AV) (rowIx 3 i*1) (.p .any))] 0)]))] [] (.p (.bool d)),((s.2.2.2.2.1==0)=true),((d=true)→(NT 0 1)),(AG d),((d=true)→(NT 0 1)),(AG d),(AG d),((d=true)→ Con Tryz.prog 302 0 [] [(zf113 N nb g),.p (.int .i64 s.2.1)] [] (.p (.int .i64 x))),(AG d),(AG d),(((bif d then x==0 else false)=true)→(NT 0 1)),(AG (bif d then x==0 else false)),(((bif d then x==0 else false)=true)→(NT 0 1)),(AG (bif d then x==0 else false)),(AG (bif d then x==0 else false)),(((bif d then x==0 else false)=true)→ Con Tryz.prog 302 0 [] [(zf113 N nb g),.p (.int .i64 s.2.2.1)] [] (.p (.int .i64 y))),(AG (bif d then x==0 else false)),(AG (bif d then x==0 else false)),(((bif bif d then x==0 else false then decide (y>0) else false)=true)→(NT 0 1)),(AG (bif bif d then x==0 else false then decide (y>0) else false)),(((bif bif d then x==0 else false then decide (y>0) else false)=true)→(NT 0 1)),(AG (bif bif d then x==0 else false then decide (y>0) else false)),(AG (bif bif d then x==0 else false then decide (y>0) else false)),(((bif bif d then x==0 else false then decide (y>0) else false)=true)→ Con Tryz.prog 302 0 [] [(zf113 N nb g),.p (.int .i64 s.2.2.2.1)] [] (.p (.int .i64 z))),(AG (bif bif d then x==0 else false then decide (y>0) else false)),(AG (bif bif d then x==0 else false then decide (y>0) else false)),((bif bif bif d then x==0 else false then decide (y>0) else false then decide (z>0) else false)=false),(NT 0 1),Con Tryz.prog 63 0 [] [(zf113 N nb g)] (zf122 nb g) (.agg [.p (.int .i64 (↑N:Int)),.ar 2 0 0 nb]),(NT 0 1),((true=true)→ (AN 1)),(NT 0 1),(AI ((↑N:Int))),(AN 0),(AN nb),(false=false),(AN 2),(NL nb nb),(AA nb (fun i=>[.p (.int .i64 ((g i).1)),.p (.int .i64 ((g i).2.1))])),(AE nb)]:=by kernel_rfl
theorem api_1y (g:Nat→T_Bar) (nb N:Nat) (s:T_Step) (d:Bool) (x y z:Int) (r:Nat→T_Bar) :
    pathOb Tryz.prog Tryz.f201 0 [rg 4,rm [(1,oc [] (.p (.bool true)))] 7,.dec false,rg 2,rg 2,.dec false,rg 2,.dec true,rm [(4,gT),(0,gT),(0,gT),(0,gT),(0,gT),(0,gT),(0,gT),(0,gT),(0,⟨true,(some ⟨[],[],[],1,[],.p (.bool d)⟩),some true⟩),(0,gT),(1,gT),(0,gT),(0,gT),(0,⟨true,(some ⟨[],[],[],1,[],.p (.int .i64 x)⟩),some true⟩),(0,gT),(0,gT),(1,gT),(0,gT),(0,gT),(0,⟨true,(some ⟨[],[],[],1,[],.p (.int .i64 y)⟩),some true⟩),(0,gT),(0,gT),(1,gT),(0,gT),(0,gT),(0,⟨true,(some ⟨[],[],[],1,[],.p (.int .i64 z)⟩),some true⟩),(0,gT),(0,gT)] 0,.dec true,rm [(5,oc [] (.agg [.p (.int .i64 (brX s.2.1 s.2.2.1).1),.p (.int .i64 (brX s.2.1 s.2.2.1).2.1)])),(4,oc [] (.agg [.p (.int .i64 (brX s.2.1 s.2.2.2.1).1),.p (.int .i64 (brX s.2.1 s.2.2.2.1).2.1)])),(1,oc [(0,brOb (nb+2) r)] (.agg [.p (.int .i64 N),.ar 2 0 0 (nb+2)]))] 2] [.code (bodyOf Tryz.f201)] (start Tryz.f201 [] 0 [grG g nb N,stpA s]) [2112] 1 [(0,brOb (nb+2) r)] (.tup [.agg [.p (.int .i64 N),.ar 2 0 0 (nb+2)],.p (.bool true)]) =
    some [(NT 0 1),Con Tryz.prog 62 0 [] [(zf113 N nb g)] [] (.p (.bool true)),(AG (!!true)),(((!!true)=true)→(NT 0 1)),(AG (!!true)),(AG (!!true)),(((!true)=false)→ ((!!true)=true)),((bif !true then true else decide ((↑nb:Int)>21))=false),(NT 0 1),((s.1==0)=false),((s.1==1)=true),(NT 0 1),((s.2.2.2.2.1==0)=true),(NT 0 1),((s.2.2.2.2.1==0)=true),((s.2.2.2.2.1==0)=true),(NT 0 1),((s.2.2.2.2.1==0)=true),((s.2.2.2.2.1==0)=true),(NT 0 1),((s.2.2.2.2.1==0)=true),((s.2.2.2.2.1==0)=true),(NT 0 1),((s.2.2.2.2.1==0)=true),((s.2.2.2.2.1==0)=true),(AN 1),(NL 3 3),Con Tryz.prog 97 0 [] [(zf113 N nb g),.p (.seq true 1 3 (fun i=>[(cellP true [(List.getD ([.p (.int .i64 s.2.1),.p (.int .i64 s.2.2.1),.p (.int .i64 s.2.2.2.1)]:List AV) (rowIx 3 i*1) (.p .any))] 0)]))] [] (.p (.bool d)),((s.2.2.2.2.1==0)=true),(d=true),(NT 0 1),(d=true),(d=true),(NT 0 1),(d=true),Con Tryz.prog 302 0 [] [(zf113 N nb g),.p (.int .i64 s.2.1)] [] (.p (.int .i64 x)),(d=true),(d=true),((x==0)=true),(NT 0 1),((x==0)=true),((x==0)=true),(NT 0 1),((x==0)=true),Con Tryz.prog 302 0 [] [(zf113 N nb g),.p (.int .i64 s.2.2.1)] [] (.p (.int .i64 y)),((x==0)=true),((x==0)=true),((decide (y>0))=true),(NT 0 1),((decide (y>0))=true),((decide (y>0))=true),(NT 0 1),((decide (y>0))=true),Con Tryz.prog 302 0 [] [(zf113 N nb g),.p (.int .i64 s.2.2.2.1)] [] (.p (.int .i64 z)),((decide (y>0))=true),((decide (y>0))=true),((decide (z>0))=true),(NT 0 1),(NT 0 1),(NT 0 1),Con Tryz.prog 290 0 [] [.p (.int .i64 s.2.1),.p (.int .i64 s.2.2.1)] [] (.agg [.p (.int .i64 (if s.2.2.1<s.2.1 then s.2.2.1 else s.2.1)),.p (.int .i64 (if s.2.2.1>s.2.1 then s.2.2.1 else s.2.1))]),(NT 0 1),(NT 0 1),Con Tryz.prog 290 0 [] [.p (.int .i64 s.2.1),.p (.int .i64 s.2.2.2.1)] [] (.agg [.p (.int .i64 (if s.2.2.2.1<s.2.1 then s.2.2.2.1 else s.2.1)),.p (.int .i64 (if s.2.2.2.1>s.2.1 then s.2.2.2.1 else s.2.1))]),(AN 2),(NL 2 2),Con Tryz.prog 225 0 [] [(zf113 N nb g),.p (.seq true 2 2 (fun i=>[(cellP true [(List.getD ([.p (.int .i64 (if s.2.2.1<s.2.1 then s.2.2.1 else s.2.1)),.p (.int .i64 (if s.2.2.1>s.2.1 then s.2.2.1 else s.2.1)),.p (.int .i64 (if s.2.2.2.1<s.2.1 then s.2.2.2.1 else s.2.1)),.p (.int .i64 (if s.2.2.2.1>s.2.1 then s.2.2.2.1 else s.2.1))]:List AV) (rowIx 2 i*2) (.p .any)),(List.getD ([.p (.int .i64 (if s.2.2.1<s.2.1 then s.2.2.1 else s.2.1)),.p (.int .i64 (if s.2.2.1>s.2.1 then s.2.2.1 else s.2.1)),.p (.int .i64 (if s.2.2.2.1<s.2.1 then s.2.2.2.1 else s.2.1)),.p (.int .i64 (if s.2.2.2.1>s.2.1 then s.2.2.2.1 else s.2.1))]:List AV) (rowIx 2 i*2+1) (.p .any))] 0),(cellP true [(List.getD ([.p (.int .i64 (if s.2.2.1<s.2.1 then s.2.2.1 else s.2.1)),.p (.int .i64 (if s.2.2.1>s.2.1 then s.2.2.1 else s.2.1)),.p (.int .i64 (if s.2.2.2.1<s.2.1 then s.2.2.2.1 else s.2.1)),.p (.int .i64 (if s.2.2.2.1>s.2.1 then s.2.2.2.1 else s.2.1))]:List AV) (rowIx 2 i*2) (.p .any)),(List.getD ([.p (.int .i64 (if s.2.2.1<s.2.1 then s.2.2.1 else s.2.1)),.p (.int .i64 (if s.2.2.1>s.2.1 then s.2.2.1 else s.2.1)),.p (.int .i64 (if s.2.2.2.1<s.2.1 then s.2.2.2.1 else s.2.1)),.p (.int .i64 (if s.2.2.2.1>s.2.1 then s.2.2.2.1 else s.2.1))]:List AV) (rowIx 2 i*2+1) (.p .any))] 1)]))] (zf118 nb r) (.agg [.p (.int .i64 (↑N:Int)),.ar 2 0 0 (nb+2)]),(NT 0 1),((true=true)→ (AN 1)),(NT 0 1),(AI ((↑N:Int))),(AN 0),(AN ((nb+2))),(true=true),(AN 2),(NL (nb+2) (nb+2)),(AA ((nb+2)) (fun i=>[.p (.int .i64 ((r i).1)),.p (.int .i64 ((r i).2.1))])),(AE ((nb+2)))]:=by kernel_rfl
theorem api_2a (g:Nat→T_Bar) (nb N:Nat) (s:T_Step) (k:Int) :
    pathOb Tryz.prog Tryz.f201 0 [rg 4,rm [(1,oc [] (.p (.bool true)))] 7,.dec false,rg 2,rg 2,.dec false,rg 2,.dec false,rg 2,.dec true,rm [(6,oc [] (.agg [.p (.int .i64 (brX s.2.2.1 s.2.2.2.1).1),.p (.int .i64 (brX s.2.2.1 s.2.2.2.1).2.1)])),(0,oc [] (.p (.int .i64 k)))] 1,rm [(3,gF),(0,gF),(0,gF),(0,gF),(0,gF),(0,gF),(0,gF),(0,gF),(0,gF),(0,gF),(0,gF),(0,gF),(1,gF),(0,gF),(0,gF),(0,gF),(0,gF),(0,gF),(1,gF),(0,gF),(0,gF),(0,gF),(0,gF),(0,gF)] 0,.dec false,rm [(1,oc [(0,brOb nb g)] (.agg [.p (.int .i64 N),.ar 2 0 0 nb]))] 2] [.code (bodyOf Tryz.f201)] (start Tryz.f201 [] 0 [grG g nb N,stpA s]) [1920] 1 [(0,brOb nb g)] ((zf127 N nb)) =
    some [(NT 0 1),Con Tryz.prog 62 0 [] [(zf113 N nb g)] [] (.p (.bool true)),(AG (!!true)),(((!!true)=true)→(NT 0 1)),(AG (!!true)),(AG (!!true)),(((!true)=false)→ ((!!true)=true)),((bif !true then true else decide ((↑nb:Int)>21))=false),(NT 0 1),((s.1==0)=false),((s.1==1)=false),((s.1==2)=true),(NT 0 1),(NT 0 1),(NT 0 1),Con Tryz.prog 290 0 [] [.p (.int .i64 s.2.2.1),.p (.int .i64 s.2.2.2.1)] [] ((zf88 s)),Con Tryz.prog 203 0 [] [.p (.seq true 2 nb (fun i=>[.int .i64 ((g i).1),.int .i64 ((g i).2.1)])),(zf88 s)] [] (.p (.int .i64 k)),((decide (k≥0))=false),((decide (k≥0))=false),((decide (k≥0))=false),((decide (k≥0))=false),((decide (k≥0))=false),((decide (k≥0))=false),((decide (k≥0))=false),((decide (k≥0))=false),((decide (k≥0))=false),((decide (k≥0))=false),((decide (k≥0))=false),((decide (k≥0))=false),(false=false),(false=false),(false=false),(false=false),(false=false),(false=false),(false=false),(false=false),(false=false),(false=false),(false=false),(false=false),(false=false),(NT 0 1),Con Tryz.prog 63 0 [] [(zf113 N nb g)] (zf122 nb g) (.agg [.p (.int .i64 (↑N:Int)),.ar 2 0 0 nb]),(NT 0 1),((true=true)→ (AN 1)),(NT 0 1),(AI ((↑N:Int))),(AN 0),(AN nb),(false=false),(AN 2),(NL nb nb),(AA nb (fun i=>[.p (.int .i64 ((g i).1)),.p (.int .i64 ((g i).2.1))])),(AE nb)]:=by kernel_rfl
theorem api_2b (g:Nat→T_Bar) (nb N:Nat) (s:T_Step) (k:Int) (d:Bool) (x y:Int) :
    pathOb Tryz.prog Tryz.f201 0 [rg 4,rm [(1,oc [] (.p (.bool true)))] 7,.dec false,rg 2,rg 2,.dec false,rg 2,.dec false,rg 2,.dec true,rm [(6,oc [] (.agg [.p (.int .i64 (brX s.2.2.1 s.2.2.2.1).1),.p (.int .i64 (brX s.2.2.1 s.2.2.2.1).2.1)])),(0,oc [] (.p (.int .i64 k)))] 1,rm [(3,gT),(0,gT),(0,gT),(0,gT),(0,gT),(0,gT),(0,gT),(0,gT),(0,gT),(0,gT),(0,⟨true,(some ⟨[],[],[],1,[],.p (.bool d)⟩),some true⟩),(0,gT),(4,oc [] (.p (.int .i64 x))),(6,oc [] (.p (.int .i64 y)))] 2,.dec false,rm [(1,oc [(0,brOb nb g)] (.agg [.p (.int .i64 N),.ar 2 0 0 nb]))] 2] [.code (bodyOf Tryz.f201)] (start Tryz.f201 [] 0 [grG g nb N,stpA s]) [1920] 1 [(0,brOb nb g)] ((zf127 N nb)) =
    some [(NT 0 1),Con Tryz.prog 62 0 [] [(zf113 N nb g)] [] (.p (.bool true)),(AG (!!true)),(((!!true)=true)→(NT 0 1)),(AG (!!true)),(AG (!!true)),(((!true)=false)→ ((!!true)=true)),((bif !true then true else decide ((↑nb:Int)>21))=false),(NT 0 1),((s.1==0)=false),((s.1==1)=false),((s.1==2)=true),(NT 0 1),(NT 0 1),(NT 0 1),Con Tryz.prog 290 0 [] [.p (.int .i64 s.2.2.1),.p (.int .i64 s.2.2.2.1)] [] ((zf88 s)),Con Tryz.prog 203 0 [] [.p (.seq true 2 nb (fun i=>[.int .i64 ((g i).1),.int .i64 ((g i).2.1)])),(zf88 s)] [] (.p (.int .i64 k)),((decide (k≥0))=true),(NT 0 1),((decide (k≥0))=true),((decide (k≥0))=true),(NT 0 1),((decide (k≥0))=true),((decide (k≥0))=true),(NT 0 1),((decide (k≥0))=true),((decide (k≥0))=true),(NT 0 1),((decide (k≥0))=true),((decide (k≥0))=true),(NT 0 1),((decide (k≥0))=true),((decide (k≥0))=true),(AN 1),(NL 4 4),Con Tryz.prog 97 0 [] [(zf113 N nb g),.p (.seq true 1 4 (fun i=>[(cellP true [(List.getD ([.p (.int .i64 s.2.1),.p (.int .i64 s.2.2.1),.p (.int .i64 s.2.2.2.1),.p (.int .i64 s.2.2.2.2.1)]:List AV) (rowIx 4 i*1) (.p .any))] 0)]))] [] (.p (.bool d)),((decide (k≥0))=true),((d=true)→(NT 0 1)),(AG d),((d=true)→(NT 0 1)),(AG d),(AG d),((d=true)→ Con Tryz.prog 302 0 [] [(zf113 N nb g),.p (.int .i64 s.2.1)] [] (.p (.int .i64 x))),(AG d),(AG d),(((bif d then x==0 else false)=true)→(NT 0 1)),(AG (bif d then x==0 else false)),(((bif d then x==0 else false)=true)→(NT 0 1)),(AG (bif d then x==0 else false)),(AG (bif d then x==0 else false)),(((bif d then x==0 else false)=true)→ Con Tryz.prog 302 0 [] [(zf113 N nb g),.p (.int .i64 s.2.2.2.2.1)] [] (.p (.int .i64 y))),(AG (bif d then x==0 else false)),(AG (bif d then x==0 else false)),((bif bif d then x==0 else false then decide (y>0) else false)=false),(NT 0 1),Con Tryz.prog 63 0 [] [(zf113 N nb g)] (zf122 nb g) (.agg [.p (.int .i64 (↑N:Int)),.ar 2 0 0 nb]),(NT 0 1),((true=true)→ (AN 1)),(NT 0 1),(AI ((↑N:Int))),(AN 0),(AN nb),(false=false),(AN 2),(NL nb nb),(AA nb (fun i=>[.p (.int .i64 ((g i).1)),.p (.int .i64 ((g i).2.1))])),(AE nb)]:=by kernel_rfl
theorem api_2y (g:Nat→T_Bar) (nb N:Nat) (s:T_Step) (k:Int) (d:Bool) (x y:Int) (m:Nat) (h r:Nat→T_Bar) :
    pathOb Tryz.prog Tryz.f201 0 [rg 4,rm [(1,oc [] (.p (.bool true)))] 7,.dec false,rg 2,rg 2,.dec false,rg 2,.dec false,rg 2,.dec true,rm [(6,oc [] (.agg [.p (.int .i64 (brX s.2.2.1 s.2.2.2.1).1),.p (.int .i64 (brX s.2.2.1 s.2.2.2.1).2.1)])),(0,oc [] (.p (.int .i64 k)))] 1,rm [(3,gT),(0,gT),(0,gT),(0,gT),(0,gT),(0,gT),(0,gT),(0,gT),(0,gT),(0,gT),(0,⟨true,(some ⟨[],[],[],1,[],.p (.bool d)⟩),some true⟩),(0,gT),(1,gT),(0,gT),(0,gT),(0,⟨true,(some ⟨[],[],[],1,[],.p (.int .i64 x)⟩),some true⟩),(0,gT),(0,gT),(1,gT),(0,gT),(0,gT),(0,⟨true,(some ⟨[],[],[],1,[],.p (.int .i64 y)⟩),some true⟩),(0,gT),(0,gT)] 0,.dec true,rm [(2,oc [(0,brOb m h)] (zf128 N m))] 6,rm [(5,oc [] (.agg [.p (.int .i64 (brX s.2.1 s.2.2.1).1),.p (.int .i64 (brX s.2.1 s.2.2.1).2.1)])),(4,oc [] (.agg [.p (.int .i64 (brX s.2.1 s.2.2.2.1).1),.p (.int .i64 (brX s.2.1 s.2.2.2.1).2.1)])),(4,oc [] (.agg [.p (.int .i64 (brX s.2.1 s.2.2.2.2.1).1),.p (.int .i64 (brX s.2.1 s.2.2.2.2.1).2.1)])),(1,oc [(0,brOb (m+3) r)] (.agg [.p (.int .i64 N),.ar 2 0 0 (m+3)]))] 2] [.code (bodyOf Tryz.f201)] (start Tryz.f201 [] 0 [grG g nb N,stpA s]) [2720] 1 [(0,brOb (m+3) r)] (.tup [.agg [.p (.int .i64 N),.ar 2 0 0 (m+3)],.p (.bool true)]) =
    some [(NT 0 1),Con Tryz.prog 62 0 [] [(zf113 N nb g)] [] (.p (.bool true)),(AG (!!true)),(((!!true)=true)→(NT 0 1)),(AG (!!true)),(AG (!!true)),(((!true)=false)→ ((!!true)=true)),((bif !true then true else decide ((↑nb:Int)>21))=false),(NT 0 1),((s.1==0)=false),((s.1==1)=false),((s.1==2)=true),(NT 0 1),(NT 0 1),(NT 0 1),Con Tryz.prog 290 0 [] [.p (.int .i64 s.2.2.1),.p (.int .i64 s.2.2.2.1)] [] ((zf88 s)),Con Tryz.prog 203 0 [] [.p (.seq true 2 nb (fun i=>[.int .i64 ((g i).1),.int .i64 ((g i).2.1)])),(zf88 s)] [] (.p (.int .i64 k)),((decide (k≥0))=true),(NT 0 1),((decide (k≥0))=true),((decide (k≥0))=true),(NT 0 1),((decide (k≥0))=true),((decide (k≥0))=true),(NT 0 1),((decide (k≥0))=true),((decide (k≥0))=true),(NT 0 1),((decide (k≥0))=true),((decide (k≥0))=true),(NT 0 1),((decide (k≥0))=true),((decide (k≥0))=true),(AN 1),(NL 4 4),Con Tryz.prog 97 0 [] [(zf113 N nb g),.p (.seq true 1 4 (fun i=>[(cellP true [(List.getD ([.p (.int .i64 s.2.1),.p (.int .i64 s.2.2.1),.p (.int .i64 s.2.2.2.1),.p (.int .i64 s.2.2.2.2.1)]:List AV) (rowIx 4 i*1) (.p .any))] 0)]))] [] (.p (.bool d)),((decide (k≥0))=true),(d=true),(NT 0 1),(d=true),(d=true),(NT 0 1),(d=true),Con Tryz.prog 302 0 [] [(zf113 N nb g),.p (.int .i64 s.2.1)] [] (.p (.int .i64 x)),(d=true),(d=true),((x==0)=true),(NT 0 1),((x==0)=true),((x==0)=true),(NT 0 1),((x==0)=true),Con Tryz.prog 302 0 [] [(zf113 N nb g),.p (.int .i64 s.2.2.2.2.1)] [] (.p (.int .i64 y)),((x==0)=true),((x==0)=true),((decide (y>0))=true),(NT 0 1),Con Tryz.prog 303 0 [] [(zf113 N nb g),.p (.int .i64 k)] (zf122 m h) ((zf124 N m)),(NT 0 1),((true=true)→ (AN 1)),(NT 0 1),(NT 0 1),(NT 0 1),Con Tryz.prog 290 0 [] [.p (.int .i64 s.2.1),.p (.int .i64 s.2.2.1)] [] (.agg [.p (.int .i64 (if s.2.2.1<s.2.1 then s.2.2.1 else s.2.1)),.p (.int .i64 (if s.2.2.1>s.2.1 then s.2.2.1 else s.2.1))]),(NT 0 1),(NT 0 1),Con Tryz.prog 290 0 [] [.p (.int .i64 s.2.1),.p (.int .i64 s.2.2.2.1)] [] (.agg [.p (.int .i64 (if s.2.2.2.1<s.2.1 then s.2.2.2.1 else s.2.1)),.p (.int .i64 (if s.2.2.2.1>s.2.1 then s.2.2.2.1 else s.2.1))]),(NT 0 1),(NT 0 1),Con Tryz.prog 290 0 [] [.p (.int .i64 s.2.1),.p (.int .i64 s.2.2.2.2.1)] [] (.agg [.p (.int .i64 (if s.2.2.2.2.1<s.2.1 then s.2.2.2.2.1 else s.2.1)),.p (.int .i64 (if s.2.2.2.2.1>s.2.1 then s.2.2.2.2.1 else s.2.1))]),(AN 2),(NL m m),(AN 2),(NL 3 3),Con Tryz.prog 225 0 [] [(zf113 N m h),.p (.seq true 2 3 (fun i=>[(cellP true [(List.getD ([.p (.int .i64 (if s.2.2.1<s.2.1 then s.2.2.1 else s.2.1)),.p (.int .i64 (if s.2.2.1>s.2.1 then s.2.2.1 else s.2.1)),.p (.int .i64 (if s.2.2.2.1<s.2.1 then s.2.2.2.1 else s.2.1)),.p (.int .i64 (if s.2.2.2.1>s.2.1 then s.2.2.2.1 else s.2.1)),.p (.int .i64 (if s.2.2.2.2.1<s.2.1 then s.2.2.2.2.1 else s.2.1)),.p (.int .i64 (if s.2.2.2.2.1>s.2.1 then s.2.2.2.2.1 else s.2.1))]:List AV) (rowIx 3 i*2) (.p .any)),(List.getD ([.p (.int .i64 (if s.2.2.1<s.2.1 then s.2.2.1 else s.2.1)),.p (.int .i64 (if s.2.2.1>s.2.1 then s.2.2.1 else s.2.1)),.p (.int .i64 (if s.2.2.2.1<s.2.1 then s.2.2.2.1 else s.2.1)),.p (.int .i64 (if s.2.2.2.1>s.2.1 then s.2.2.2.1 else s.2.1)),.p (.int .i64 (if s.2.2.2.2.1<s.2.1 then s.2.2.2.2.1 else s.2.1)),.p (.int .i64 (if s.2.2.2.2.1>s.2.1 then s.2.2.2.2.1 else s.2.1))]:List AV) (rowIx 3 i*2+1) (.p .any))] 0),(cellP true [(List.getD ([.p (.int .i64 (if s.2.2.1<s.2.1 then s.2.2.1 else s.2.1)),.p (.int .i64 (if s.2.2.1>s.2.1 then s.2.2.1 else s.2.1)),.p (.int .i64 (if s.2.2.2.1<s.2.1 then s.2.2.2.1 else s.2.1)),.p (.int .i64 (if s.2.2.2.1>s.2.1 then s.2.2.2.1 else s.2.1)),.p (.int .i64 (if s.2.2.2.2.1<s.2.1 then s.2.2.2.2.1 else s.2.1)),.p (.int .i64 (if s.2.2.2.2.1>s.2.1 then s.2.2.2.2.1 else s.2.1))]:List AV) (rowIx 3 i*2) (.p .any)),(List.getD ([.p (.int .i64 (if s.2.2.1<s.2.1 then s.2.2.1 else s.2.1)),.p (.int .i64 (if s.2.2.1>s.2.1 then s.2.2.1 else s.2.1)),.p (.int .i64 (if s.2.2.2.1<s.2.1 then s.2.2.2.1 else s.2.1)),.p (.int .i64 (if s.2.2.2.1>s.2.1 then s.2.2.2.1 else s.2.1)),.p (.int .i64 (if s.2.2.2.2.1<s.2.1 then s.2.2.2.2.1 else s.2.1)),.p (.int .i64 (if s.2.2.2.2.1>s.2.1 then s.2.2.2.2.1 else s.2.1))]:List AV) (rowIx 3 i*2+1) (.p .any))] 1)]))] [(0,⟨false,2,(m+3),(fun i=>[.p (.int .i64 ((r i).1)),.p (.int .i64 ((r i).2.1))])⟩)] (.agg [.p (.int .i64 (↑N:Int)),.ar 2 0 0 (m+3)]),(NT 0 1),((true=true)→ (AN 1)),(NT 0 1),(AI ((↑N:Int))),(AN 0),(AN ((m+3))),(true=true),(AN 2),(NL (m+3) (m+3)),(AA ((m+3)) (fun i=>[.p (.int .i64 ((r i).1)),.p (.int .i64 ((r i).2.1))])),(AE ((m+3)))]:=by kernel_rfl
theorem api_z (g:Nat→T_Bar) (nb N:Nat) (s:T_Step) :
    pathOb Tryz.prog Tryz.f201 0 [rg 4,rm [(1,oc [] (.p (.bool true)))] 7,.dec false,rg 2,rg 2,.dec false,rg 2,.dec false,rg 2,.dec false,rm [(1,oc [(0,brOb nb g)] (.agg [.p (.int .i64 N),.ar 2 0 0 nb]))] 2] [.code (bodyOf Tryz.f201)] (start Tryz.f201 [] 0 [grG g nb N,stpA s]) [704] 1 [(0,brOb nb g)] ((zf127 N nb)) =
    some [(NT 0 1),Con Tryz.prog 62 0 [] [(zf113 N nb g)] [] (.p (.bool true)),(AG (!!true)),(((!!true)=true)→(NT 0 1)),(AG (!!true)),(AG (!!true)),(((!true)=false)→ ((!!true)=true)),((bif !true then true else decide ((↑nb:Int)>21))=false),(NT 0 1),((s.1==0)=false),((s.1==1)=false),((s.1==2)=false),(NT 0 1),Con Tryz.prog 63 0 [] [(zf113 N nb g)] (zf122 nb g) (.agg [.p (.int .i64 (↑N:Int)),.ar 2 0 0 nb]),(NT 0 1),((true=true)→ (AN 1)),(NT 0 1),(AI ((↑N:Int))),(AN 0),(AN nb),(false=false),(AN 2),(NL nb nb),(AA nb (fun i=>[.p (.int .i64 ((g i).1)),.p (.int .i64 ((g i).2.1))])),(AE nb)]:=by kernel_rfl
theorem wbk (N n k:Nat) (h f:Nat→T_Bar) :
    pieceOb Tryz.prog 0 [rg 2,rm [(1,oc [(0,brOb n h)] (.agg [.p (.int .i64 N),.ar 2 0 0 n]))] 2,rg 6,.head] [.code (bodyOf Tryz.f225)] (start Tryz.f225 [] 0 [grG h n N,.p (.seq true 2 k (fun i=>[.int .i64 (f i).1,.int .i64 (f i).2.1]))]) [32,128,288] 1 (WBs N (n+k) (apB n h f)) =
    some ([.code (cAt (bodyOf Tryz.f225) [1,1,1,0]),.code (cAt (bodyOf Tryz.f225) [1,1,1,1])],[(NT 0 1),Con Tryz.prog 63 0 [] [(zf113 N n h)] (zf122 n h) (.agg [.p (.int .i64 (↑N:Int)),.ar 2 0 0 n]),(NT 0 1),((true=true)→ (AN 1)),(NT 0 1),(NL n n),(NL ((n+k)*16) 140737488355328),(NL (n+k) 9223372036854775807),(NT 0 1),((true=true)→ (AN 1)),(AN 0),(AN 0),((((List.map (fun v=>AV.p (absV v)) [Value.int IntKind.i64 0,Value.slice none 0 0]).length):Nat)=2),(NL 1 1),(NL 1 1),(AI 0),((((List.map (fun v=>AV.p (absV v)) [Value.int IntKind.i64 0,Value.slice none 0 0]).length):Nat)=2),(NL 1 1),(NL 1 1),(AI ((↑N:Int))),(AN 0),(AN ((n+k))),(AN 2),(NL (n+k) (n+k)),(CV [(128,⟨true,2,1,(fun i_1=>[.p (.int .i64 (↑N:Int)),.ar 2 288 0 (n+k)])⟩),(288,⟨false,2,(n+k),(fun i_1=>(if (i_1<n) then [.p (.int .i64 ((h i_1).1)),.p (.int .i64 ((h i_1).2.1))] else [.p (.int .i64 ((f (i_1 - n)).1)),.p (.int .i64 ((f (i_1 - n)).2.1))]))⟩),(32,⟨true,2,1,(fun i_1=>[.p (.int .i64 0),.p (.nil)])⟩),(0,⟨true,2,1,(fun i_1=>[.p (.int .i64 (↑N:Int)),.p (.seq true 2 n (fun i_2=>[.int .i64 ((h i_2).1),.int .i64 ((h i_2).2.1)]))])⟩)] [32,128,288] 1 (n+k) (fun i=>if (i<n) then [.p (.int .i64 ((h i).1)),.p (.int .i64 ((h i).2.1))] else [.p (.int .i64 ((f (i - n)).1)),.p (.int .i64 ((f (i - n)).2.1))]) (fun i=>[.p (.int .i64 (if i<n then (h i).1 else (f (i - n)).1)),.p (.int .i64 (if i<n then (h i).2.1 else (f (i - n)).2.1))]))]):=by kernel_rfl
end Go.Proofs.YtkkjoghiigiokaaGreat.Mach
namespace Go.Proofs.YtkkjoghiigiokaaGreat.Mach
open Go
set_option linter.unusedVariables false
set_option linter.unusedSimpArgs false
theorem aps_x (g:Nat→T_Bar) (nb N:Nat) (s:T_Step) :
    pathOb Tryz.prog Tryz.f195 0 [rg 4,rm [(1,oc [] (.p (.bool true)))] 7,.dec true,rm [(1,oc [(0,brOb nb g)] (.agg [.p (.int .i64 N),.ar 2 0 0 nb]))] 2] [.code (bodyOf Tryz.f195)] (start Tryz.f195 [] 0 [grG g nb N,stpA s]) [448] 1 [(0,brOb nb g)] ((zf127 N nb)) =
    some [(NT 0 1),Con Tryz.prog 53 0 [] [(zf113 N nb g)] [] (.p (.bool true)),(AG (!!true)),(((!!true)=true)→(NT 0 1)),(AG (!!true)),(AG (!!true)),(((!true)=false)→ ((!!true)=true)),((bif !true then true else decide ((↑nb:Int)>21))=true),(NT 0 1),Con Tryz.prog 52 0 [] [(zf113 N nb g)] (zf122 nb g) (.agg [.p (.int .i64 (↑N:Int)),.ar 2 0 0 nb]),(NT 0 1),((true=true)→ (AN 1)),(NT 0 1),(AI ((↑N:Int))),(AN 0),(AN nb),(false=false),(AN 2),(NL nb nb),(AA nb (fun i=>[.p (.int .i64 ((g i).1)),.p (.int .i64 ((g i).2.1))])),(AE nb)]:=by kernel_rfl
theorem aps_0y (g:Nat→T_Bar) (nb N:Nat) (s:T_Step) (d:Bool) (r R:Nat→T_Bar) :
    pathOb Tryz.prog Tryz.f195 0 [rg 4,rm [(1,oc [] (.p (.bool true)))] 7,.dec false,rm [(4,gT),(0,gT),(0,gT),(0,gT),(1,gT),(0,gT),(0,gT),(0,gT),(1,gT),(0,gT),(0,gT),(0,gT),(0,gT),(1,gT),(0,gT),(0,gT),(0,gT),(0,gT),(0,gT),(0,⟨true,(some ⟨[],[],[],1,[],.p (.bool d)⟩),some true⟩),(0,gT)] 1,.dec true,rm [(12,oc [(0,brOb (nb+1) r)] (.agg [.p (.int .i64 N),.ar 2 0 0 (nb+1)]))] 2] [.code (bodyOf Tryz.f195)] (start Tryz.f195 [] 0 [grG g nb N,stpA s]) [1728] 1 [(0,brOb (nb+1) R)] (.tup [.agg [.p (.int .i64 N),.ar 2 0 0 (nb+1)],.p (.bool true)]) =
    some [(NT 0 1),Con Tryz.prog 53 0 [] [(zf113 N nb g)] [] (.p (.bool true)),(AG (!!true)),(((!!true)=true)→(NT 0 1)),(AG (!!true)),(AG (!!true)),(((!true)=false)→ ((!!true)=true)),((bif !true then true else decide ((↑nb:Int)>21))=false),(NT 0 1),((s.1==0)=true),((s.1==0)=true),(NT 0 1),((s.1==0)=true),((s.1==0)=true),((s.2.1==0)=true),((s.2.1==0)=true),(NT 0 1),((s.2.1==0)=true),((s.2.1==0)=true),((s.2.2.2.2.1==0)=true),((s.2.2.2.2.1==0)=true),(NT 0 1),((s.2.2.2.2.1==0)=true),((s.2.2.2.2.1==0)=true),((s.2.2.2.2.1==0)=true),(((↑nb:Int)==0)=true),(NT 0 1),(((↑nb:Int)==0)=true),(((↑nb:Int)==0)=true),(NT 0 1),(((↑nb:Int)==0)=true),(((↑nb:Int)==0)=true),(NT 0 1),(((↑nb:Int)==0)=true),(((↑nb:Int)==0)=true),(AN 1),(NL 2 2),Con Tryz.prog 86 0 [] [(zf113 N nb g),.p (.seq true 1 2 (fun i=>[(cellP true [(List.getD ([.p (.int .i64 s.2.2.1),.p (.int .i64 s.2.2.2.1)]:List AV) (rowIx 2 i*1) (.p .any))] 0)]))] [] (.p (.bool d)),(((↑nb:Int)==0)=true),(d=true),(NT 0 1),(NT 0 1),(NT 0 1),(NT 0 1),(NT 0 1),Con Tryz.prog 216 0 [] [(zf113 N nb g),.agg [.p (.int .i64 (if false=true then if s.2.2.2.1>s.2.2.1 then s.2.2.2.1 else s.2.2.1 else if s.2.2.2.1<s.2.2.1 then s.2.2.2.1 else s.2.2.1)),.p (.int .i64 (if true=true then if s.2.2.2.1>s.2.2.1 then s.2.2.2.1 else s.2.2.1 else if s.2.2.2.1<s.2.2.1 then s.2.2.2.1 else s.2.2.1))]] (zf117 nb r) (.agg [.p (.int .i64 (↑N:Int)),.ar 2 0 0 (nb+1)]),(NT 0 1),((true=true)→ (AN 1)),(NT 0 1),(AI ((↑N:Int))),(AN 0),(AN ((nb+1))),(true=true),(AN 2),(NL (nb+1) (nb+1)),(∀ i:Nat,(((i:Nat)<(nb+1))→(All []∧(([.p (.int .i64 ((r i).1)),.p (.int .i64 ((r i).2.1))]:List AV)=[.p (.int .i64 ((R i).1)),.p (.int .i64 ((R i).2.1))])))),(AE ((nb+1)))]:=by kernel_rfl
theorem aps_0n (g:Nat→T_Bar) (nb N:Nat) (s:T_Step) (d:Bool) :
    pathOb Tryz.prog Tryz.f195 0 [rg 4,rm [(1,oc [] (.p (.bool true)))] 7,.dec false,rm [(20,gT),(0,gT),(0,gT),(0,gT),(0,gT),(0,gT),(0,⟨true,(some ⟨[],[],[],1,[],.p (.bool d)⟩),some true⟩),(0,gT)] 1,.dec false,rm [(9,gF),(0,gF),(0,gF),(0,gF),(0,gF),(0,gF),(0,gF),(0,gF),(0,gF),(0,gF),(1,gF),(0,gF),(0,gF),(0,gF),(0,gF),(0,gF),(0,gF),(0,gF),(0,gF),(0,gF),(0,gF),(0,gF),(0,gF),(0,gF),(0,gF),(0,gF),(0,gF),(0,gF)] 1,.dec false,rm [(4,gF),(0,gF),(0,gF),(0,gF),(0,gF),(0,gF),(0,gF),(0,gF),(0,gF),(0,gF),(0,gF),(0,gF),(1,gF),(0,gF),(0,gF),(0,gF),(0,gF),(0,gF),(0,gF),(0,gF),(0,gF),(0,gF),(0,gF),(0,gF),(0,gF),(0,gF),(0,gF),(0,gF),(0,gF),(0,gF),(0,gF),(0,gF),(0,gF),(0,gF)] 0,.dec false,rm [(1,oc [(0,brOb nb g)] (.agg [.p (.int .i64 N),.ar 2 0 0 nb]))] 2] [.code (bodyOf Tryz.f195)] (start Tryz.f195 [] 0 [grG g nb N,stpA s]) [3872] 1 [(0,brOb nb g)] ((zf127 N nb)) =
    some [(NT 0 1),Con Tryz.prog 53 0 [] [(zf113 N nb g)] [] (.p (.bool true)),(AG (!!true)),(((!!true)=true)→(NT 0 1)),(AG (!!true)),(AG (!!true)),(((!true)=false)→ ((!!true)=true)),((bif !true then true else decide ((↑nb:Int)>21))=false),(NT 0 1),(AG (s.1==0)),(((s.1==0)=true)→(NT 0 1)),(AG (s.1==0)),(AG (s.1==0)),(AG (bif s.1==0 then s.2.1==0 else false)),(((bif s.1==0 then s.2.1==0 else false)=true)→(NT 0 1)),(AG (bif s.1==0 then s.2.1==0 else false)),(AG (bif s.1==0 then s.2.1==0 else false)),(AG (bif bif s.1==0 then s.2.1==0 else false then s.2.2.2.2.1==0 else false)),(((bif bif s.1==0 then s.2.1==0 else false then s.2.2.2.2.1==0 else false)=true)→(NT 0 1)),(AG (bif bif s.1==0 then s.2.1==0 else false then s.2.2.2.2.1==0 else false)),(AG (bif bif s.1==0 then s.2.1==0 else false then s.2.2.2.2.1==0 else false)),(AG (bif bif s.1==0 then s.2.1==0 else false then s.2.2.2.2.1==0 else false)),((bif bif bif s.1==0 then s.2.1==0 else false then s.2.2.2.2.1==0 else false then (↑nb:Int)==0 else false)=true),(NT 0 1),((bif bif bif s.1==0 then s.2.1==0 else false then s.2.2.2.2.1==0 else false then (↑nb:Int)==0 else false)=true),((bif bif bif s.1==0 then s.2.1==0 else false then s.2.2.2.2.1==0 else false then (↑nb:Int)==0 else false)=true),(NT 0 1),((bif bif bif s.1==0 then s.2.1==0 else false then s.2.2.2.2.1==0 else false then (↑nb:Int)==0 else false)=true),((bif bif bif s.1==0 then s.2.1==0 else false then s.2.2.2.2.1==0 else false then (↑nb:Int)==0 else false)=true),(NT 0 1),((bif bif bif s.1==0 then s.2.1==0 else false then s.2.2.2.2.1==0 else false then (↑nb:Int)==0 else false)=true),((bif bif bif s.1==0 then s.2.1==0 else false then s.2.2.2.2.1==0 else false then (↑nb:Int)==0 else false)=true),(AN 1),(NL 2 2),Con Tryz.prog 86 0 [] [(zf113 N nb g),.p (.seq true 1 2 (fun i=>[(cellP true [(List.getD ([.p (.int .i64 s.2.2.1),.p (.int .i64 s.2.2.2.1)]:List AV) (rowIx 2 i*1) (.p .any))] 0)]))] [] (.p (.bool d)),((bif bif bif s.1==0 then s.2.1==0 else false then s.2.2.2.2.1==0 else false then (↑nb:Int)==0 else false)=true),(d=false),(NT 0 1),(AG (s.1==1)),(((s.1==1)=true)→(NT 0 1)),(AG (s.1==1)),(AG (s.1==1)),((bif s.1==1 then s.2.2.2.2.1==0 else false)=false),((bif s.1==1 then s.2.2.2.2.1==0 else false)=false),((bif s.1==1 then s.2.2.2.2.1==0 else false)=false),((bif s.1==1 then s.2.2.2.2.1==0 else false)=false),((bif s.1==1 then s.2.2.2.2.1==0 else false)=false),((bif s.1==1 then s.2.2.2.2.1==0 else false)=false),((bif s.1==1 then s.2.2.2.2.1==0 else false)=false),((bif s.1==1 then s.2.2.2.2.1==0 else false)=false),((bif s.1==1 then s.2.2.2.2.1==0 else false)=false),((bif s.1==1 then s.2.2.2.2.1==0 else false)=false),(false=false),(false=false),(false=false),(false=false),(false=false),(false=false),(false=false),(false=false),(false=false),(false=false),(false=false),(false=false),(false=false),(false=false),(false=false),(false=false),(false=false),(NT 0 1),((s.1==2)=false),((s.1==2)=false),((s.1==2)=false),((s.1==2)=false),((s.1==2)=false),((s.1==2)=false),((s.1==2)=false),((s.1==2)=false),((s.1==2)=false),((s.1==2)=false),((s.1==2)=false),((s.1==2)=false),(false=false),(false=false),(false=false),(false=false),(false=false),(false=false),(false=false),(false=false),(false=false),(false=false),(false=false),(false=false),(false=false),(false=false),(false=false),(false=false),(false=false),(false=false),(false=false),(false=false),(NT 0 1),Con Tryz.prog 52 0 [] [(zf113 N nb g)] (zf122 nb g) (.agg [.p (.int .i64 (↑N:Int)),.ar 2 0 0 nb]),(NT 0 1),((true=true)→ (AN 1)),(NT 0 1),(AI ((↑N:Int))),(AN 0),(AN nb),(false=false),(AN 2),(NL nb nb),(AA nb (fun i=>[.p (.int .i64 ((g i).1)),.p (.int .i64 ((g i).2.1))])),(AE nb)]:=by kernel_rfl
theorem aps_1y (g:Nat→T_Bar) (nb N:Nat) (s:T_Step) (d x y z:Bool) (r1 r R:Nat→T_Bar) :
    pathOb Tryz.prog Tryz.f195 0 [rg 4,rm [(1,oc [] (.p (.bool true)))] 7,.dec false,rm [(20,gF),(0,gF),(0,gF),(0,gF),(0,gF),(0,gF),(0,gF),(0,gF)] 1,.dec false,rm [(4,gT),(0,gT),(0,gT),(0,gT),(1,gT),(0,gT),(0,gT),(0,gT),(0,gT),(0,gT),(0,gT),(0,gT),(0,⟨true,(some ⟨[],[],[],1,[],.p (.bool d)⟩),some true⟩),(0,gT),(1,gT),(0,gT),(0,gT),(0,⟨true,(some ⟨[],[],[],1,[],.p (.bool x)⟩),some true⟩),(0,gT),(0,gT),(1,gT),(0,gT),(0,gT),(0,⟨true,(some ⟨[],[],[],1,[],.p (.bool y)⟩),some true⟩),(0,gT),(1,gT),(0,gT),(0,gT),(0,⟨true,(some ⟨[],[],[],1,[],.p (.bool z)⟩),some true⟩),(0,gT)] 1,.dec true,rm [(12,oc [(0,brOb (nb+1) r1)] (.agg [.p (.int .i64 N),.ar 2 0 0 (nb+1)]))] 2,rm [(12,oc [(0,brOb (nb+2) r)] (.agg [.p (.int .i64 N),.ar 2 0 0 (nb+2)]))] 2] [.code (bodyOf Tryz.f195)] (start Tryz.f195 [] 0 [grG g nb N,stpA s]) [3456] 1 [(0,brOb (nb+2) R)] (.tup [.agg [.p (.int .i64 N),.ar 2 0 0 (nb+2)],.p (.bool true)]) =
    some [(NT 0 1),Con Tryz.prog 53 0 [] [(zf113 N nb g)] [] (.p (.bool true)),(AG (!!true)),(((!!true)=true)→(NT 0 1)),(AG (!!true)),(AG (!!true)),(((!true)=false)→ ((!!true)=true)),((bif !true then true else decide ((↑nb:Int)>21))=false),(NT 0 1),(AG (s.1==0)),(((s.1==0)=true)→(NT 0 1)),(AG (s.1==0)),(AG (s.1==0)),(AG (bif s.1==0 then s.2.1==0 else false)),(((bif s.1==0 then s.2.1==0 else false)=true)→(NT 0 1)),(AG (bif s.1==0 then s.2.1==0 else false)),(AG (bif s.1==0 then s.2.1==0 else false)),(AG (bif bif s.1==0 then s.2.1==0 else false then s.2.2.2.2.1==0 else false)),(((bif bif s.1==0 then s.2.1==0 else false then s.2.2.2.2.1==0 else false)=true)→(NT 0 1)),(AG (bif bif s.1==0 then s.2.1==0 else false then s.2.2.2.2.1==0 else false)),(AG (bif bif s.1==0 then s.2.1==0 else false then s.2.2.2.2.1==0 else false)),(AG (bif bif s.1==0 then s.2.1==0 else false then s.2.2.2.2.1==0 else false)),((bif bif bif s.1==0 then s.2.1==0 else false then s.2.2.2.2.1==0 else false then (↑nb:Int)==0 else false)=false),((bif bif bif s.1==0 then s.2.1==0 else false then s.2.2.2.2.1==0 else false then (↑nb:Int)==0 else false)=false),((bif bif bif s.1==0 then s.2.1==0 else false then s.2.2.2.2.1==0 else false then (↑nb:Int)==0 else false)=false),((bif bif bif s.1==0 then s.2.1==0 else false then s.2.2.2.2.1==0 else false then (↑nb:Int)==0 else false)=false),((bif bif bif s.1==0 then s.2.1==0 else false then s.2.2.2.2.1==0 else false then (↑nb:Int)==0 else false)=false),((bif bif bif s.1==0 then s.2.1==0 else false then s.2.2.2.2.1==0 else false then (↑nb:Int)==0 else false)=false),((bif bif bif s.1==0 then s.2.1==0 else false then s.2.2.2.2.1==0 else false then (↑nb:Int)==0 else false)=false),((bif bif bif s.1==0 then s.2.1==0 else false then s.2.2.2.2.1==0 else false then (↑nb:Int)==0 else false)=false),(false=false),(NT 0 1),((s.1==1)=true),((s.1==1)=true),(NT 0 1),((s.1==1)=true),((s.1==1)=true),((s.2.2.2.2.1==0)=true),(NT 0 1),((s.2.2.2.2.1==0)=true),((s.2.2.2.2.1==0)=true),(NT 0 1),((s.2.2.2.2.1==0)=true),((s.2.2.2.2.1==0)=true),(NT 0 1),((s.2.2.2.2.1==0)=true),((s.2.2.2.2.1==0)=true),(NT 0 1),((s.2.2.2.2.1==0)=true),((s.2.2.2.2.1==0)=true),(AN 1),(NL 3 3),Con Tryz.prog 86 0 [] [(zf113 N nb g),.p (.seq true 1 3 (fun i=>[(cellP true [(List.getD ([.p (.int .i64 s.2.1),.p (.int .i64 s.2.2.1),.p (.int .i64 s.2.2.2.1)]:List AV) (rowIx 3 i*1) (.p .any))] 0)]))] [] (.p (.bool d)),((s.2.2.2.2.1==0)=true),(d=true),(NT 0 1),(d=true),(d=true),(NT 0 1),(d=true),Con Tryz.prog 296 0 [] [(zf113 N nb g),.p (.int .i64 s.2.1)] [] (.p (.bool x)),(d=true),(d=true),((!x)=true),(NT 0 1),((!x)=true),((!x)=true),(NT 0 1),((!x)=true),Con Tryz.prog 296 0 [] [(zf113 N nb g),.p (.int .i64 s.2.2.1)] [] (.p (.bool y)),((!x)=true),(y=true),(NT 0 1),(y=true),(y=true),(NT 0 1),(y=true),Con Tryz.prog 296 0 [] [(zf113 N nb g),.p (.int .i64 s.2.2.2.1)] [] (.p (.bool z)),(y=true),(z=true),(NT 0 1),(NT 0 1),(NT 0 1),(NT 0 1),(NT 0 1),Con Tryz.prog 216 0 [] [(zf113 N nb g),(zf21 s)] (zf117 nb r1) (.agg [.p (.int .i64 (↑N:Int)),.ar 2 0 0 (nb+1)]),(NT 0 1),((true=true)→ (AN 1)),(NT 0 1),(NT 0 1),(NT 0 1),(NT 0 1),(NT 0 1),(AN 2),(NL (nb+1) (nb+1)),Con Tryz.prog 216 0 [] [.agg [.p (.int .i64 (↑N:Int)),.p (.seq true 2 (nb+1) (fun i=>[.int .i64 ((r1 i).1),.int .i64 ((r1 i).2.1)]))],(zf19 s)] (zf118 nb r) (.agg [.p (.int .i64 (↑N:Int)),.ar 2 0 0 (nb+2)]),(NT 0 1),((true=true)→ (AN 1)),(NT 0 1),(AI ((↑N:Int))),(AN 0),(AN ((nb+2))),(true=true),(AN 2),(NL (nb+2) (nb+2)),(∀ i:Nat,(((i:Nat)<(nb+2))→(All []∧(([.p (.int .i64 ((r i).1)),.p (.int .i64 ((r i).2.1))]:List AV)=[.p (.int .i64 ((R i).1)),.p (.int .i64 ((R i).2.1))])))),(AE ((nb+2)))]:=by kernel_rfl
theorem aps_1n (g:Nat→T_Bar) (nb N:Nat) (s:T_Step) (d x y z:Bool) :
    pathOb Tryz.prog Tryz.f195 0 [rg 4,rm [(1,oc [] (.p (.bool true)))] 7,.dec false,rm [(20,gF),(0,gF),(0,gF),(0,gF),(0,gF),(0,gF),(0,gF),(0,gF)] 1,.dec false,rm [(4,gT),(0,gT),(0,gT),(0,gT),(0,gT),(0,gT),(0,gT),(0,gT),(0,gT),(0,gT),(0,gT),(0,gT),(0,gT),(0,⟨true,(some ⟨[],[],[],1,[],.p (.bool d)⟩),some true⟩),(0,gT),(4,oc [] (.p (.bool x))),(6,oc [] (.p (.bool y))),(5,oc [] (.p (.bool z)))] 2,.dec false,rm [(4,gF),(0,gF),(0,gF),(0,gF),(0,gF),(0,gF),(0,gF),(0,gF),(0,gF),(0,gF),(0,gF),(0,gF),(1,gF),(0,gF),(0,gF),(0,gF),(0,gF),(0,gF),(0,gF),(0,gF),(0,gF),(0,gF),(0,gF),(0,gF),(0,gF),(0,gF),(0,gF),(0,gF),(0,gF),(0,gF),(0,gF),(0,gF),(0,gF),(0,gF)] 0,.dec false,rm [(1,oc [(0,brOb nb g)] (.agg [.p (.int .i64 N),.ar 2 0 0 nb]))] 2] [.code (bodyOf Tryz.f195)] (start Tryz.f195 [] 0 [grG g nb N,stpA s]) [3872] 1 [(0,brOb nb g)] ((zf127 N nb)) =
    some [(NT 0 1),Con Tryz.prog 53 0 [] [(zf113 N nb g)] [] (.p (.bool true)),(AG (!!true)),(((!!true)=true)→(NT 0 1)),(AG (!!true)),(AG (!!true)),(((!true)=false)→ ((!!true)=true)),((bif !true then true else decide ((↑nb:Int)>21))=false),(NT 0 1),(AG (s.1==0)),(((s.1==0)=true)→(NT 0 1)),(AG (s.1==0)),(AG (s.1==0)),(AG (bif s.1==0 then s.2.1==0 else false)),(((bif s.1==0 then s.2.1==0 else false)=true)→(NT 0 1)),(AG (bif s.1==0 then s.2.1==0 else false)),(AG (bif s.1==0 then s.2.1==0 else false)),(AG (bif bif s.1==0 then s.2.1==0 else false then s.2.2.2.2.1==0 else false)),(((bif bif s.1==0 then s.2.1==0 else false then s.2.2.2.2.1==0 else false)=true)→(NT 0 1)),(AG (bif bif s.1==0 then s.2.1==0 else false then s.2.2.2.2.1==0 else false)),(AG (bif bif s.1==0 then s.2.1==0 else false then s.2.2.2.2.1==0 else false)),(AG (bif bif s.1==0 then s.2.1==0 else false then s.2.2.2.2.1==0 else false)),((bif bif bif s.1==0 then s.2.1==0 else false then s.2.2.2.2.1==0 else false then (↑nb:Int)==0 else false)=false),((bif bif bif s.1==0 then s.2.1==0 else false then s.2.2.2.2.1==0 else false then (↑nb:Int)==0 else false)=false),((bif bif bif s.1==0 then s.2.1==0 else false then s.2.2.2.2.1==0 else false then (↑nb:Int)==0 else false)=false),((bif bif bif s.1==0 then s.2.1==0 else false then s.2.2.2.2.1==0 else false then (↑nb:Int)==0 else false)=false),((bif bif bif s.1==0 then s.2.1==0 else false then s.2.2.2.2.1==0 else false then (↑nb:Int)==0 else false)=false),((bif bif bif s.1==0 then s.2.1==0 else false then s.2.2.2.2.1==0 else false then (↑nb:Int)==0 else false)=false),((bif bif bif s.1==0 then s.2.1==0 else false then s.2.2.2.2.1==0 else false then (↑nb:Int)==0 else false)=false),((bif bif bif s.1==0 then s.2.1==0 else false then s.2.2.2.2.1==0 else false then (↑nb:Int)==0 else false)=false),(false=false),(NT 0 1),((s.1==1)=true),((s.1==1)=true),(NT 0 1),((s.1==1)=true),((s.1==1)=true),((s.2.2.2.2.1==0)=true),(NT 0 1),((s.2.2.2.2.1==0)=true),((s.2.2.2.2.1==0)=true),(NT 0 1),((s.2.2.2.2.1==0)=true),((s.2.2.2.2.1==0)=true),(NT 0 1),((s.2.2.2.2.1==0)=true),((s.2.2.2.2.1==0)=true),(NT 0 1),((s.2.2.2.2.1==0)=true),((s.2.2.2.2.1==0)=true),(AN 1),(NL 3 3),Con Tryz.prog 86 0 [] [(zf113 N nb g),.p (.seq true 1 3 (fun i=>[(cellP true [(List.getD ([.p (.int .i64 s.2.1),.p (.int .i64 s.2.2.1),.p (.int .i64 s.2.2.2.1)]:List AV) (rowIx 3 i*1) (.p .any))] 0)]))] [] (.p (.bool d)),((s.2.2.2.2.1==0)=true),((d=true)→(NT 0 1)),(AG d),((d=true)→(NT 0 1)),(AG d),(AG d),((d=true)→ Con Tryz.prog 296 0 [] [(zf113 N nb g),.p (.int .i64 s.2.1)] [] (.p (.bool x))),(AG d),(AG d),(((bif d then !x else false)=true)→(NT 0 1)),(AG (bif d then !x else false)),(((bif d then !x else false)=true)→(NT 0 1)),(AG (bif d then !x else false)),(AG (bif d then !x else false)),(((bif d then !x else false)=true)→ Con Tryz.prog 296 0 [] [(zf113 N nb g),.p (.int .i64 s.2.2.1)] [] (.p (.bool y))),(AG (bif d then !x else false)),(((bif bif d then !x else false then y else false)=true)→(NT 0 1)),(AG (bif bif d then !x else false then y else false)),(((bif bif d then !x else false then y else false)=true)→(NT 0 1)),(AG (bif bif d then !x else false then y else false)),(AG (bif bif d then !x else false then y else false)),(((bif bif d then !x else false then y else false)=true)→ Con Tryz.prog 296 0 [] [(zf113 N nb g),.p (.int .i64 s.2.2.2.1)] [] (.p (.bool z))),(AG (bif bif d then !x else false then y else false)),((bif bif bif d then !x else false then y else false then z else false)=false),(NT 0 1),((s.1==2)=false),((s.1==2)=false),((s.1==2)=false),((s.1==2)=false),((s.1==2)=false),((s.1==2)=false),((s.1==2)=false),((s.1==2)=false),((s.1==2)=false),((s.1==2)=false),((s.1==2)=false),((s.1==2)=false),(false=false),(false=false),(false=false),(false=false),(false=false),(false=false),(false=false),(false=false),(false=false),(false=false),(false=false),(false=false),(false=false),(false=false),(false=false),(false=false),(false=false),(false=false),(false=false),(false=false),(NT 0 1),Con Tryz.prog 52 0 [] [(zf113 N nb g)] (zf122 nb g) (.agg [.p (.int .i64 (↑N:Int)),.ar 2 0 0 nb]),(NT 0 1),((true=true)→ (AN 1)),(NT 0 1),(AI ((↑N:Int))),(AN 0),(AN nb),(false=false),(AN 2),(NL nb nb),(AA nb (fun i=>[.p (.int .i64 ((g i).1)),.p (.int .i64 ((g i).2.1))])),(AE nb)]:=by kernel_rfl
theorem aps_2y (g:Nat→T_Bar) (nb N:Nat) (s:T_Step) (d x y:Bool) (k:Int) (m:Nat) (h r1 r2 r R:Nat→T_Bar) :
    pathOb Tryz.prog Tryz.f195 0 [rg 4,rm [(1,oc [] (.p (.bool true)))] 7,.dec false,rm [(20,gF),(0,gF),(0,gF),(0,gF),(0,gF),(0,gF),(0,gF),(0,gF)] 1,.dec false,rm [(9,gF),(0,gF),(0,gF),(0,gF),(0,gF),(0,gF),(0,gF),(0,gF),(0,gF),(0,gF),(1,gF),(0,gF),(0,gF),(0,gF),(0,gF),(0,gF),(0,gF),(0,gF),(0,gF),(0,gF),(0,gF),(0,gF),(0,gF),(0,gF),(0,gF),(0,gF),(0,gF),(0,gF)] 1,.dec false,rm [(4,gT),(0,gT),(0,gT),(0,gT),(0,gT),(0,gT),(0,gT),(0,gT),(0,gT),(0,gT),(0,⟨true,(some ⟨[],[],[],1,[],.p (.bool d)⟩),some true⟩),(0,gT),(1,gT),(0,gT),(0,gT),(0,⟨true,(some ⟨[],[],[],1,[],.p (.bool x)⟩),some true⟩),(0,gT),(0,gT),(1,gT),(0,gT),(0,gT),(0,⟨true,(some ⟨[],[],[],1,[],.p (.bool y)⟩),some true⟩),(0,gT),(1,gT),(0,gT),(0,gT),(0,gT),(0,gT),(0,⟨true,(some ⟨[],[],[],1,[],.p (.int .i64 k)⟩),some true⟩),(0,gT),(0,gT)] 1,.dec true,rm [(6,oc [] (.p (.int .i64 k))),(0,oc [(0,brOb m h)] (zf128 N m))] 6,rm [(12,oc [(0,brOb (m+1) r1)] (.agg [.p (.int .i64 N),.ar 2 0 0 (m+1)]))] 1,rm [(12,oc [(0,brOb (m+2) r2)] (.agg [.p (.int .i64 N),.ar 2 0 0 (m+2)]))] 1,rm [(12,oc [(0,brOb (m+3) r)] (.agg [.p (.int .i64 N),.ar 2 0 0 (m+3)]))] 2] [.code (bodyOf Tryz.f195)] (start Tryz.f195 [] 0 [grG g nb N,stpA s]) [5568] 1 [(0,brOb (m+3) R)] (.tup [.agg [.p (.int .i64 N),.ar 2 0 0 (m+3)],.p (.bool true)]) =
    some [(NT 0 1),Con Tryz.prog 53 0 [] [(zf113 N nb g)] [] (.p (.bool true)),(AG (!!true)),(((!!true)=true)→(NT 0 1)),(AG (!!true)),(AG (!!true)),(((!true)=false)→ ((!!true)=true)),((bif !true then true else decide ((↑nb:Int)>21))=false),(NT 0 1),(AG (s.1==0)),(((s.1==0)=true)→(NT 0 1)),(AG (s.1==0)),(AG (s.1==0)),(AG (bif s.1==0 then s.2.1==0 else false)),(((bif s.1==0 then s.2.1==0 else false)=true)→(NT 0 1)),(AG (bif s.1==0 then s.2.1==0 else false)),(AG (bif s.1==0 then s.2.1==0 else false)),(AG (bif bif s.1==0 then s.2.1==0 else false then s.2.2.2.2.1==0 else false)),(((bif bif s.1==0 then s.2.1==0 else false then s.2.2.2.2.1==0 else false)=true)→(NT 0 1)),(AG (bif bif s.1==0 then s.2.1==0 else false then s.2.2.2.2.1==0 else false)),(AG (bif bif s.1==0 then s.2.1==0 else false then s.2.2.2.2.1==0 else false)),(AG (bif bif s.1==0 then s.2.1==0 else false then s.2.2.2.2.1==0 else false)),((bif bif bif s.1==0 then s.2.1==0 else false then s.2.2.2.2.1==0 else false then (↑nb:Int)==0 else false)=false),((bif bif bif s.1==0 then s.2.1==0 else false then s.2.2.2.2.1==0 else false then (↑nb:Int)==0 else false)=false),((bif bif bif s.1==0 then s.2.1==0 else false then s.2.2.2.2.1==0 else false then (↑nb:Int)==0 else false)=false),((bif bif bif s.1==0 then s.2.1==0 else false then s.2.2.2.2.1==0 else false then (↑nb:Int)==0 else false)=false),((bif bif bif s.1==0 then s.2.1==0 else false then s.2.2.2.2.1==0 else false then (↑nb:Int)==0 else false)=false),((bif bif bif s.1==0 then s.2.1==0 else false then s.2.2.2.2.1==0 else false then (↑nb:Int)==0 else false)=false),((bif bif bif s.1==0 then s.2.1==0 else false then s.2.2.2.2.1==0 else false then (↑nb:Int)==0 else false)=false),((bif bif bif s.1==0 then s.2.1==0 else false then s.2.2.2.2.1==0 else false then (↑nb:Int)==0 else false)=false),(false=false),(NT 0 1),(AG (s.1==1)),(((s.1==1)=true)→(NT 0 1)),(AG (s.1==1)),(AG (s.1==1)),((bif s.1==1 then s.2.2.2.2.1==0 else false)=false),((bif s.1==1 then s.2.2.2.2.1==0 else false)=false),((bif s.1==1 then s.2.2.2.2.1==0 else false)=false),((bif s.1==1 then s.2.2.2.2.1==0 else false)=false),((bif s.1==1 then s.2.2.2.2.1==0 else false)=false),((bif s.1==1 then s.2.2.2.2.1==0 else false)=false),((bif s.1==1 then s.2.2.2.2.1==0 else false)=false),((bif s.1==1 then s.2.2.2.2.1==0 else false)=false),((bif s.1==1 then s.2.2.2.2.1==0 else false)=false),((bif s.1==1 then s.2.2.2.2.1==0 else false)=false),(false=false),(false=false),(false=false),(false=false),(false=false),(false=false),(false=false),(false=false),(false=false),(false=false),(false=false),(false=false),(false=false),(false=false),(false=false),(false=false),(false=false),(NT 0 1),((s.1==2)=true),(NT 0 1),((s.1==2)=true),((s.1==2)=true),(NT 0 1),((s.1==2)=true),((s.1==2)=true),(NT 0 1),((s.1==2)=true),((s.1==2)=true),(NT 0 1),((s.1==2)=true),((s.1==2)=true),(NT 0 1),((s.1==2)=true),((s.1==2)=true),(AN 1),(NL 4 4),Con Tryz.prog 86 0 [] [(zf113 N nb g),.p (.seq true 1 4 (fun i=>[(cellP true [(List.getD ([.p (.int .i64 s.2.1),.p (.int .i64 s.2.2.1),.p (.int .i64 s.2.2.2.1),.p (.int .i64 s.2.2.2.2.1)]:List AV) (rowIx 4 i*1) (.p .any))] 0)]))] [] (.p (.bool d)),((s.1==2)=true),(d=true),(NT 0 1),(d=true),(d=true),(NT 0 1),(d=true),Con Tryz.prog 296 0 [] [(zf113 N nb g),.p (.int .i64 s.2.1)] [] (.p (.bool x)),(d=true),(d=true),((!x)=true),(NT 0 1),((!x)=true),((!x)=true),(NT 0 1),((!x)=true),Con Tryz.prog 296 0 [] [(zf113 N nb g),.p (.int .i64 s.2.2.2.2.1)] [] (.p (.bool y)),((!x)=true),(y=true),(NT 0 1),(y=true),(y=true),(NT 0 1),(y=true),(y=true),(NT 0 1),(y=true),Con Tryz.prog 297 0 [] [(zf113 N nb g),.p (.int .i64 s.2.2.1),.p (.int .i64 s.2.2.2.1)] [] (.p (.int .i64 k)),(y=true),(y=true),((decide (k≥0))=true),(NT 0 1),(NT 0 1),(NT 0 1),(NT 0 1),Con Tryz.prog 297 0 [] [(zf113 N nb g),.p (.int .i64 s.2.2.1),.p (.int .i64 s.2.2.2.1)] [] (.p (.int .i64 k)),Con Tryz.prog 259 0 [] [(zf113 N nb g),.p (.int .i64 k)] (zf122 m h) ((zf124 N m)),(NT 0 1),((true=true)→ (AN 1)),(NT 0 1),(NT 0 1),(NT 0 1),(NT 0 1),(NT 0 1),(AN 2),(NL m m),Con Tryz.prog 216 0 [] [(zf113 N m h),(zf21 s)] (zf117 m r1) (.agg [.p (.int .i64 (↑N:Int)),.ar 2 0 0 (m+1)]),(NT 0 1),((true=true)→ (AN 1)),(NT 0 1),(NT 0 1),(NT 0 1),(NT 0 1),(NT 0 1),(AN 2),(NL (m+1) (m+1)),Con Tryz.prog 216 0 [] [.agg [.p (.int .i64 (↑N:Int)),.p (.seq true 2 (m+1) (fun i=>[.int .i64 ((r1 i).1),.int .i64 ((r1 i).2.1)]))],(zf19 s)] (zf118 m r2) (.agg [.p (.int .i64 (↑N:Int)),.ar 2 0 0 (m+2)]),(NT 0 1),((true=true)→ (AN 1)),(NT 0 1),(NT 0 1),(NT 0 1),(NT 0 1),(NT 0 1),(AN 2),(NL (m+2) (m+2)),Con Tryz.prog 216 0 [] [.agg [.p (.int .i64 (↑N:Int)),.p (.seq true 2 (m+2) (fun i=>[.int .i64 ((r2 i).1),.int .i64 ((r2 i).2.1)]))],.agg [.p (.int .i64 (if false=true then if s.2.2.2.2.1>s.2.1 then s.2.2.2.2.1 else s.2.1 else if s.2.2.2.2.1<s.2.1 then s.2.2.2.2.1 else s.2.1)),.p (.int .i64 (if true=true then if s.2.2.2.2.1>s.2.1 then s.2.2.2.2.1 else s.2.1 else if s.2.2.2.2.1<s.2.1 then s.2.2.2.2.1 else s.2.1))]] [(0,⟨false,2,(m+3),(fun i=>[.p (.int .i64 ((r i).1)),.p (.int .i64 ((r i).2.1))])⟩)] (.agg [.p (.int .i64 (↑N:Int)),.ar 2 0 0 (m+3)]),(NT 0 1),((true=true)→ (AN 1)),(NT 0 1),(AI ((↑N:Int))),(AN 0),(AN ((m+3))),(true=true),(AN 2),(NL (m+3) (m+3)),(∀ i:Nat,(((i:Nat)<(m+3))→(All []∧(([.p (.int .i64 ((r i).1)),.p (.int .i64 ((r i).2.1))]:List AV)=[.p (.int .i64 ((R i).1)),.p (.int .i64 ((R i).2.1))])))),(AE ((m+3)))]:=by kernel_rfl
theorem aps_2n (g:Nat→T_Bar) (nb N:Nat) (s:T_Step) (d x y:Bool) (k:Int) :
    pathOb Tryz.prog Tryz.f195 0 [rg 4,rm [(1,oc [] (.p (.bool true)))] 7,.dec false,rm [(20,gF),(0,gF),(0,gF),(0,gF),(0,gF),(0,gF),(0,gF),(0,gF)] 1,.dec false,rm [(9,gF),(0,gF),(0,gF),(0,gF),(0,gF),(0,gF),(0,gF),(0,gF),(0,gF),(0,gF),(1,gF),(0,gF),(0,gF),(0,gF),(0,gF),(0,gF),(0,gF),(0,gF),(0,gF),(0,gF),(0,gF),(0,gF),(0,gF),(0,gF),(0,gF),(0,gF),(0,gF),(0,gF)] 1,.dec false,rm [(4,gT),(0,gT),(0,gT),(0,gT),(0,gT),(0,gT),(0,gT),(0,gT),(0,gT),(0,gT),(0,⟨true,(some ⟨[],[],[],1,[],.p (.bool d)⟩),some true⟩),(0,gT),(4,oc [] (.p (.bool x))),(6,oc [] (.p (.bool y))),(7,oc [] (.p (.int .i64 k)))] 3,.dec false,rm [(1,oc [(0,brOb nb g)] (.agg [.p (.int .i64 N),.ar 2 0 0 nb]))] 2] [.code (bodyOf Tryz.f195)] (start Tryz.f195 [] 0 [grG g nb N,stpA s]) [3872] 1 [(0,brOb nb g)] ((zf127 N nb)) =
    some [(NT 0 1),Con Tryz.prog 53 0 [] [(zf113 N nb g)] [] (.p (.bool true)),(AG (!!true)),(((!!true)=true)→(NT 0 1)),(AG (!!true)),(AG (!!true)),(((!true)=false)→ ((!!true)=true)),((bif !true then true else decide ((↑nb:Int)>21))=false),(NT 0 1),(AG (s.1==0)),(((s.1==0)=true)→(NT 0 1)),(AG (s.1==0)),(AG (s.1==0)),(AG (bif s.1==0 then s.2.1==0 else false)),(((bif s.1==0 then s.2.1==0 else false)=true)→(NT 0 1)),(AG (bif s.1==0 then s.2.1==0 else false)),(AG (bif s.1==0 then s.2.1==0 else false)),(AG (bif bif s.1==0 then s.2.1==0 else false then s.2.2.2.2.1==0 else false)),(((bif bif s.1==0 then s.2.1==0 else false then s.2.2.2.2.1==0 else false)=true)→(NT 0 1)),(AG (bif bif s.1==0 then s.2.1==0 else false then s.2.2.2.2.1==0 else false)),(AG (bif bif s.1==0 then s.2.1==0 else false then s.2.2.2.2.1==0 else false)),(AG (bif bif s.1==0 then s.2.1==0 else false then s.2.2.2.2.1==0 else false)),((bif bif bif s.1==0 then s.2.1==0 else false then s.2.2.2.2.1==0 else false then (↑nb:Int)==0 else false)=false),((bif bif bif s.1==0 then s.2.1==0 else false then s.2.2.2.2.1==0 else false then (↑nb:Int)==0 else false)=false),((bif bif bif s.1==0 then s.2.1==0 else false then s.2.2.2.2.1==0 else false then (↑nb:Int)==0 else false)=false),((bif bif bif s.1==0 then s.2.1==0 else false then s.2.2.2.2.1==0 else false then (↑nb:Int)==0 else false)=false),((bif bif bif s.1==0 then s.2.1==0 else false then s.2.2.2.2.1==0 else false then (↑nb:Int)==0 else false)=false),((bif bif bif s.1==0 then s.2.1==0 else false then s.2.2.2.2.1==0 else false then (↑nb:Int)==0 else false)=false),((bif bif bif s.1==0 then s.2.1==0 else false then s.2.2.2.2.1==0 else false then (↑nb:Int)==0 else false)=false),((bif bif bif s.1==0 then s.2.1==0 else false then s.2.2.2.2.1==0 else false then (↑nb:Int)==0 else false)=false),(false=false),(NT 0 1),(AG (s.1==1)),(((s.1==1)=true)→(NT 0 1)),(AG (s.1==1)),(AG (s.1==1)),((bif s.1==1 then s.2.2.2.2.1==0 else false)=false),((bif s.1==1 then s.2.2.2.2.1==0 else false)=false),((bif s.1==1 then s.2.2.2.2.1==0 else false)=false),((bif s.1==1 then s.2.2.2.2.1==0 else false)=false),((bif s.1==1 then s.2.2.2.2.1==0 else false)=false),((bif s.1==1 then s.2.2.2.2.1==0 else false)=false),((bif s.1==1 then s.2.2.2.2.1==0 else false)=false),((bif s.1==1 then s.2.2.2.2.1==0 else false)=false),((bif s.1==1 then s.2.2.2.2.1==0 else false)=false),((bif s.1==1 then s.2.2.2.2.1==0 else false)=false),(false=false),(false=false),(false=false),(false=false),(false=false),(false=false),(false=false),(false=false),(false=false),(false=false),(false=false),(false=false),(false=false),(false=false),(false=false),(false=false),(false=false),(NT 0 1),((s.1==2)=true),(NT 0 1),((s.1==2)=true),((s.1==2)=true),(NT 0 1),((s.1==2)=true),((s.1==2)=true),(NT 0 1),((s.1==2)=true),((s.1==2)=true),(NT 0 1),((s.1==2)=true),((s.1==2)=true),(NT 0 1),((s.1==2)=true),((s.1==2)=true),(AN 1),(NL 4 4),Con Tryz.prog 86 0 [] [(zf113 N nb g),.p (.seq true 1 4 (fun i=>[(cellP true [(List.getD ([.p (.int .i64 s.2.1),.p (.int .i64 s.2.2.1),.p (.int .i64 s.2.2.2.1),.p (.int .i64 s.2.2.2.2.1)]:List AV) (rowIx 4 i*1) (.p .any))] 0)]))] [] (.p (.bool d)),((s.1==2)=true),((d=true)→(NT 0 1)),(AG d),((d=true)→(NT 0 1)),(AG d),(AG d),((d=true)→ Con Tryz.prog 296 0 [] [(zf113 N nb g),.p (.int .i64 s.2.1)] [] (.p (.bool x))),(AG d),(AG d),(((bif d then !x else false)=true)→(NT 0 1)),(AG (bif d then !x else false)),(((bif d then !x else false)=true)→(NT 0 1)),(AG (bif d then !x else false)),(AG (bif d then !x else false)),(((bif d then !x else false)=true)→ Con Tryz.prog 296 0 [] [(zf113 N nb g),.p (.int .i64 s.2.2.2.2.1)] [] (.p (.bool y))),(AG (bif d then !x else false)),(((bif bif d then !x else false then y else false)=true)→(NT 0 1)),(AG (bif bif d then !x else false then y else false)),(((bif bif d then !x else false then y else false)=true)→(NT 0 1)),(AG (bif bif d then !x else false then y else false)),(((bif bif d then !x else false then y else false)=true)→(NT 0 1)),(AG (bif bif d then !x else false then y else false)),(AG (bif bif d then !x else false then y else false)),(AG (bif bif d then !x else false then y else false)),(((bif bif d then !x else false then y else false)=true)→ Con Tryz.prog 297 0 [] [(zf113 N nb g),.p (.int .i64 s.2.2.1),.p (.int .i64 s.2.2.2.1)] [] (.p (.int .i64 k))),(AG (bif bif d then !x else false then y else false)),(AG (bif bif d then !x else false then y else false)),((bif bif bif d then !x else false then y else false then decide (k≥0) else false)=false),(NT 0 1),Con Tryz.prog 52 0 [] [(zf113 N nb g)] (zf122 nb g) (.agg [.p (.int .i64 (↑N:Int)),.ar 2 0 0 nb]),(NT 0 1),((true=true)→ (AN 1)),(NT 0 1),(AI ((↑N:Int))),(AN 0),(AN nb),(false=false),(AN 2),(NL nb nb),(AA nb (fun i=>[.p (.int .i64 ((g i).1)),.p (.int .i64 ((g i).2.1))])),(AE nb)]:=by kernel_rfl
theorem aps_z (g:Nat→T_Bar) (nb N:Nat) (s:T_Step) :
    pathOb Tryz.prog Tryz.f195 0 [rg 4,rm [(1,oc [] (.p (.bool true)))] 7,.dec false,rm [(20,gF),(0,gF),(0,gF),(0,gF),(0,gF),(0,gF),(0,gF),(0,gF)] 1,.dec false,rm [(9,gF),(0,gF),(0,gF),(0,gF),(0,gF),(0,gF),(0,gF),(0,gF),(0,gF),(0,gF),(1,gF),(0,gF),(0,gF),(0,gF),(0,gF),(0,gF),(0,gF),(0,gF),(0,gF),(0,gF),(0,gF),(0,gF),(0,gF),(0,gF),(0,gF),(0,gF),(0,gF),(0,gF)] 1,.dec false,rm [(4,gF),(0,gF),(0,gF),(0,gF),(0,gF),(0,gF),(0,gF),(0,gF),(0,gF),(0,gF),(0,gF),(0,gF),(1,gF),(0,gF),(0,gF),(0,gF),(0,gF),(0,gF),(0,gF),(0,gF),(0,gF),(0,gF),(0,gF),(0,gF),(0,gF),(0,gF),(0,gF),(0,gF),(0,gF),(0,gF),(0,gF),(0,gF),(0,gF),(0,gF)] 0,.dec false,rm [(1,oc [(0,brOb nb g)] (.agg [.p (.int .i64 N),.ar 2 0 0 nb]))] 2] [.code (bodyOf Tryz.f195)] (start Tryz.f195 [] 0 [grG g nb N,stpA s]) [3872] 1 [(0,brOb nb g)] ((zf127 N nb)) =
    some [(NT 0 1),Con Tryz.prog 53 0 [] [(zf113 N nb g)] [] (.p (.bool true)),(AG (!!true)),(((!!true)=true)→(NT 0 1)),(AG (!!true)),(AG (!!true)),(((!true)=false)→ ((!!true)=true)),((bif !true then true else decide ((↑nb:Int)>21))=false),(NT 0 1),(AG (s.1==0)),(((s.1==0)=true)→(NT 0 1)),(AG (s.1==0)),(AG (s.1==0)),(AG (bif s.1==0 then s.2.1==0 else false)),(((bif s.1==0 then s.2.1==0 else false)=true)→(NT 0 1)),(AG (bif s.1==0 then s.2.1==0 else false)),(AG (bif s.1==0 then s.2.1==0 else false)),(AG (bif bif s.1==0 then s.2.1==0 else false then s.2.2.2.2.1==0 else false)),(((bif bif s.1==0 then s.2.1==0 else false then s.2.2.2.2.1==0 else false)=true)→(NT 0 1)),(AG (bif bif s.1==0 then s.2.1==0 else false then s.2.2.2.2.1==0 else false)),(AG (bif bif s.1==0 then s.2.1==0 else false then s.2.2.2.2.1==0 else false)),(AG (bif bif s.1==0 then s.2.1==0 else false then s.2.2.2.2.1==0 else false)),((bif bif bif s.1==0 then s.2.1==0 else false then s.2.2.2.2.1==0 else false then (↑nb:Int)==0 else false)=false),((bif bif bif s.1==0 then s.2.1==0 else false then s.2.2.2.2.1==0 else false then (↑nb:Int)==0 else false)=false),((bif bif bif s.1==0 then s.2.1==0 else false then s.2.2.2.2.1==0 else false then (↑nb:Int)==0 else false)=false),((bif bif bif s.1==0 then s.2.1==0 else false then s.2.2.2.2.1==0 else false then (↑nb:Int)==0 else false)=false),((bif bif bif s.1==0 then s.2.1==0 else false then s.2.2.2.2.1==0 else false then (↑nb:Int)==0 else false)=false),((bif bif bif s.1==0 then s.2.1==0 else false then s.2.2.2.2.1==0 else false then (↑nb:Int)==0 else false)=false),((bif bif bif s.1==0 then s.2.1==0 else false then s.2.2.2.2.1==0 else false then (↑nb:Int)==0 else false)=false),((bif bif bif s.1==0 then s.2.1==0 else false then s.2.2.2.2.1==0 else false then (↑nb:Int)==0 else false)=false),(false=false),(NT 0 1),(AG (s.1==1)),(((s.1==1)=true)→(NT 0 1)),(AG (s.1==1)),(AG (s.1==1)),((bif s.1==1 then s.2.2.2.2.1==0 else false)=false),((bif s.1==1 then s.2.2.2.2.1==0 else false)=false),((bif s.1==1 then s.2.2.2.2.1==0 else false)=false),((bif s.1==1 then s.2.2.2.2.1==0 else false)=false),((bif s.1==1 then s.2.2.2.2.1==0 else false)=false),((bif s.1==1 then s.2.2.2.2.1==0 else false)=false),((bif s.1==1 then s.2.2.2.2.1==0 else false)=false),((bif s.1==1 then s.2.2.2.2.1==0 else false)=false),((bif s.1==1 then s.2.2.2.2.1==0 else false)=false),((bif s.1==1 then s.2.2.2.2.1==0 else false)=false),(false=false),(false=false),(false=false),(false=false),(false=false),(false=false),(false=false),(false=false),(false=false),(false=false),(false=false),(false=false),(false=false),(false=false),(false=false),(false=false),(false=false),(NT 0 1),((s.1==2)=false),((s.1==2)=false),((s.1==2)=false),((s.1==2)=false),((s.1==2)=false),((s.1==2)=false),((s.1==2)=false),((s.1==2)=false),((s.1==2)=false),((s.1==2)=false),((s.1==2)=false),((s.1==2)=false),(false=false),(false=false),(false=false),(false=false),(false=false),(false=false),(false=false),(false=false),(false=false),(false=false),(false=false),(false=false),(false=false),(false=false),(false=false),(false=false),(false=false),(false=false),(false=false),(false=false),(NT 0 1),Con Tryz.prog 52 0 [] [(zf113 N nb g)] (zf122 nb g) (.agg [.p (.int .i64 (↑N:Int)),.ar 2 0 0 nb]),(NT 0 1),((true=true)→ (AN 1)),(NT 0 1),(AI ((↑N:Int))),(AN 0),(AN nb),(false=false),(AN 2),(NL nb nb),(AA nb (fun i=>[.p (.int .i64 ((g i).1)),.p (.int .i64 ((g i).2.1))])),(AE nb)]:=by kernel_rfl
end Go.Proofs.YtkkjoghiigiokaaGreat.Mach
namespace Go.Proofs.YtkkjoghiigiokaaGreat.Mach
open Go
set_option linter.unusedVariables false
set_option linter.unusedSimpArgs false
def iA (x:Int):AV:=.p (.int .i64 x)
def liP (n:Nat) (l:List Int):AV:=.p (.seq true 1 n (fun i=>[(cellP true [(List.getD (l.map iA) (rowIx n i*1) (.p .any))] 0)]))
def liV (l:List Int):T_IntS:=(l.length,fun i=>l.getD i 0)
theorem cell_li (l:List Int) (n i:Nat) (h:rowIx n i*1<l.length) (hi:rowIx n i=i):cellP true [(List.getD (l.map iA) (rowIx n i*1) (.p .any))] 0=.int .i64 (l.getD i 0):=by
  rw [Nat.mul_one] at h ⊢
  rw [hi] at h ⊢
  simp [List.getD_eq_getElem?_getD,List.getElem?_eq_getElem h,iA,cellP,tg,tru]
theorem li_ext {P:Program} {f:FuncId} {v:T_Graph} {l:List Int} {n:Nat} {res:AV} (h:Con P f 0 [] [graphA v,inL (liV l)] [] res) (hl:l.length=n):Con P f 0 [] [graphA v,liP n l] [] res:=by
  refine h.arg_ext ?_
  subst hl
  have hcell:∀ i,i<l.length→cellP true [(List.getD (l.map iA) (rowIx l.length i*1) (.p .any))] 0=.int .i64 (l.getD i 0):=fun i hi=>cell_li l _ i (by rw [rowIx_lt hi];omega) (rowIx_lt hi)
  simp only [graphA,liP,liV,inL,wkL,wk,wkP,beq_self_eq_true,Bool.and_self,if_true,ikEq,List.append_nil,List.cons_append,List.nil_append,All]
  and_intros<;>first | trivial | omega | (intro i hi;rw [hcell i hi]) | (intro i hi;rfl)
theorem srtL_app (l m:List T_Bar):srtL (srtL l++m)=srtL (l++m) :=
  srtL_eq ((srtL_perm _).trans ((srtL_perm l).append_right m)) (srtL_sorted _)
theorem con_putS {N n:Nat} {h:Nat→T_Bar} (hs:(lstB n h).Pairwise leB) (x:T_Bar) (hn:n≤1000) :
    ∃ r:Nat→T_Bar,lstB (n+1) r=srtL (lstB n h++[x])∧Con Tryz.prog 216 0 [] [grG h n N,brA x] [(0,brOb (n+1) r)] (.agg [.p (.int .i64 N),.ar 2 0 0 (n+1)]):=by
  have cp:=con_l2Put h n N x (by omega)
  have hl:=insR_list h n x hs
  have hn':=insR_n h n x
  rw [hn'] at cp hl
  exact ⟨_,hl,cp⟩
theorem con_withK (N n k:Nat) (h f:Nat→T_Bar) (hn:n≤1000) (hk:k≤1000) :
    Con Tryz.prog 225 0 [] [grG h n N,.p (.seq true 2 k (fun i=>[.int .i64 (f i).1,.int .i64 (f i).2.1]))]
      [(0,brOb (n+k) (srtB (n+k) (apB n h f)))] (.agg [.p (.int .i64 N),.ar 2 0 0 (n+k)]):=by
  have h1:=con_copyG N n h (by omega)
  have h2:=con_sortBars (n+k) (apB n h f) (by omega)
  generalize srtB (n+k) (apB n h f)=r at h2 ⊢
  refine csZ Tryz.func225 (fun c hc=>?_)
  refine pcZ hc (wbk N n k h f) ?_ (pkZ Tryz.func225 hc (wbb N (n+k) (apB n h f) r) ?_)
  ·
    repeat' (first | exact aN | apply aI)
    all_goals (first | omega | rfl | (intros;first | assumption | exact trivial | rfl | exact fT ‹_›) | (exact h1) | (intro j hj;by_cases h':j<n<;>(simp [h',apB,cvtL,cvt,tg,tru,All];done)) | (intro j hj;simp [All];done) | (simp;try omega))
  ·
    repeat' (first | exact aN | apply aI)
    all_goals (first | exact aG _ | exact aP _ _ | exact aA _ _ | exact aE _ | omega | rfl | (intros;first | assumption | exact trivial | rfl | exact fT ‹_› | ((repeat' (first | assumption | apply anda | apply notf));done)) | (exact h2) | (intro j hj;simp [All];done) | (simp;try omega))
theorem lstB_app (n:Nat) (h f:Nat→T_Bar):∀ k,lstB (n+k) (apB n h f)=lstB n h++lstB k f
  | 0=>by
    rw [show lstB 0 f=[] from rfl,List.append_nil]
    exact lstB_congr (fun i hi=>by simp [apB,show i<n by omega])
  | k+1=>by
    rw [show n+(k+1)=(n+k)+1 by omega,lstB_succ,lstB_app n h f k,lstB_succ,List.append_assoc]
    simp [apB,show ¬ (n+k<n) by omega,show n+k - n=k by omega]
def brCl (l:List T_Bar):List AV:=l.flatMap (fun x=>[.p (.int .i64 x.1),.p (.int .i64 x.2.1)])
def bLs (k:Nat) (l:List AV):AV :=
  .p (.seq true 2 k (fun i=>[(cellP true [(List.getD l (rowIx k i*2) (.p .any)),(List.getD l (rowIx k i*2+1) (.p .any))] 0),(cellP true [(List.getD l (rowIx k i*2) (.p .any)),(List.getD l (rowIx k i*2+1) (.p .any))] 1)]))
theorem brCl_get:∀ (l:List T_Bar) (i:Nat),i<l.length→(brCl l).getD (i*2) (.p .any)=.p (.int .i64 (l.getD i (0,0,())).1)∧(brCl l).getD (i*2+1) (.p .any)=.p (.int .i64 (l.getD i (0,0,())).2.1)
  | [],i,h=>absurd h (Nat.not_lt_zero _)
  | x::l,0,_=>⟨rfl,rfl⟩
  | x::l,i+1,h=>by
    have:=brCl_get l i (by simpa using h)
    rw [show (i+1)*2=i*2+2 by omega]
    exact this
def nbL (l:List T_Bar):NB:=(l.length,fun i=>l.getD i (0,0,()))
theorem con_withL (N n k:Nat) (h:Nat→T_Bar) (l:List T_Bar) (hl:l.length=k) (hn:n≤1000) (hk:k≤1000) :
    Con Tryz.prog 225 0 [] [grG h n N,bLs k (brCl l)] [(0,brOb (n+k) (nbL (srtL (lstB n h++l))).2)] (.agg [.p (.int .i64 N),.ar 2 0 0 (n+k)]):=by
  subst hl
  have hlst:lstB l.length (fun i=>l.getD i (0,0,()))=l:=by
    refine List.ext_getElem? (fun i=>?_)
    rcases Nat.lt_or_ge i l.length with hi | hi
    · simp [lstB,hi,List.getD_eq_getElem?_getD]
    · simp [lstB,hi]
  have e:(nbL (srtL (lstB n h++l))).2=srtB (n+l.length) (apB n h (fun i=>l.getD i (0,0,()))):=by
    funext i
    simp only [srtB,nbL,lstB_app,hlst]
  rw [e]
  refine (con_withK N n l.length h (fun i=>l.getD i (0,0,())) hn hk).arg_ext ?_
  simp only [grG,bLs,wkL,wk,wkP,beq_self_eq_true,Bool.and_self,if_true,ikEq,List.append_nil,List.cons_append,List.nil_append,All]
  and_intros<;>first | trivial | omega | (intro i hi;rfl) | (intro i hi;rw [rowIx_lt hi,(brCl_get l i hi).1,(brCl_get l i hi).2];rfl)
theorem lstB_nbL (l:List T_Bar):lstB l.length (nbL l).2=l:=by
  refine List.ext_getElem? (fun i=>?_)
  rcases Nat.lt_or_ge i l.length with hi | hi
  · simp [lstB,nbL,hi,List.getD_eq_getElem?_getD]
  · simp [lstB,nbL,hi]
theorem isG_list {N nb n:Nat} {g R:Nat→T_Bar} {l:List T_Bar} (hN:1≤N∧N≤8) (hn:n≤24) (hR:lstB n R=srtL l)
    (hx:∀ x∈l,0≤x.1∧x.1<x.2.1∧x.2.1<N):isGraphF ((N:Int),(n,R),())=true:=by
  have hmem:∀ e,e<n→R e∈lstB n R:=fun e he=>List.mem_map.2 ⟨e,List.mem_range.2 he,rfl⟩
  refine isG_of hN hn (fun e he=>?_) (fun s hs=>?_)
  · have:=hmem e he
    rw [hR] at this
    exact hx _ ((srtL_perm l).mem_iff.1 this)
  · have hp:=srtL_sorted l
    rw [← hR] at hp
    have:=List.pairwise_iff_getElem.1 hp s (s+1) (by rw [lstB_len];omega) (by rw [lstB_len];omega) (by omega)
    rw [aft_iff]
    simpa [lstB] using this
end Go.Proofs.YtkkjoghiigiokaaGreat.Mach
namespace Go.Proofs.YtkkjoghiigiokaaGreat.Mach
open Go
set_option linter.unusedVariables false
set_option linter.unusedSimpArgs false
noncomputable def apL (N nb:Nat) (g:Nat→T_Bar) (s:T_Step):Option (List T_Bar) :=
  if s.1=0 then
    if ((nb:Int)=0∧s.2.1=0∧s.2.2.2.2.1=0)∧okD N (liV [s.2.2.1,s.2.2.2.1]).2 2=true then some (srtL (lstB nb g++[brX s.2.2.1 s.2.2.2.1])) else none
  else if s.1=1 then
    if s.2.2.2.2.1=0∧okD N (liV [s.2.1,s.2.2.1,s.2.2.2.1]).2 3=true∧degF g s.2.1 nb=0∧degF g s.2.2.1 nb>0∧degF g s.2.2.2.1 nb>0 then
      some (srtL (lstB nb g++[brX s.2.1 s.2.2.1,brX s.2.1 s.2.2.2.1])) else none
  else if s.1=2 then
    if ixI g (brX s.2.2.1 s.2.2.2.1) nb 0≥0∧okD N (liV [s.2.1,s.2.2.1,s.2.2.2.1,s.2.2.2.2.1]).2 4=true∧degF g s.2.1 nb=0∧degF g s.2.2.2.2.1 nb>0 then
      some (srtL (lstB (nb - 1) (dlB g (ixI g (brX s.2.2.1 s.2.2.2.1) nb 0).toNat)++[brX s.2.1 s.2.2.1,brX s.2.1 s.2.2.2.1,brX s.2.1 s.2.2.2.2.1])) else none
  else none
noncomputable def apD (N nb:Nat) (g:Nat→T_Bar) (s:T_Step):NB×Bool :=
  if nb≤21 then (match apL N nb g s with | some l=>(nbL l,true) | none=>((nb,g),false)) else ((nb,g),false)
def apR (N:Nat) (D:NB×Bool):AV:=.tup [.agg [.p (.int .i64 N),.ar 2 0 0 D.1.1],.p (.bool D.2)]
theorem con_Apply_i {N nb:Nat} {g:Nat→T_Bar} (hg:isGraphF ((N:Int),(nb,g),())=true) (s:T_Step) :
    Con Tryz.prog 201 0 [] [grG g nb N,stpA s] [(0,brOb (apD N nb g s).1.1 (apD N nb g s).1.2)] (apR N (apD N nb g s)):=by
  obtain ⟨hN,hnb,hok⟩:=graph_in hg
  have cg:=con_IsGraph_i ((N:Int),(nb,g),()) (sm_graph (by show nb≤_;omega))
  rw [hg] at cg
  have cc:=con_copyG N nb g (by omega)
  have hsm:smS s_Graph ((N:Int),(nb,g),()):=sm_graph (by show nb≤_;omega)
  have cd:=fun p=>con_DegreeOf_i ((N:Int),(nb,g),()) p hsm
  have hdb:=fun p=>degF_bd g p nb
  unfold apD
  by_cases h21:nb≤21
  case neg =>
    rw [if_neg h21]
    have hd:(bif !true then true else decide ((nb:Int)>21))=true:=by simp;omega
    refine csZ Tryz.func201 (fun c hc=>?_)
    refine pkZ Tryz.func201 hc (api_x g nb N s) ?_
    repeat' (first | exact aN | apply aI)
    all_goals (first | exact aG _ | exact aA _ _ | exact aE _ | omega | rfl | (intros;first | assumption | exact trivial | rfl | exact fT ‹_› | ((repeat' (first | assumption | apply anda | apply notf));done)) | (exact cg) | (exact cc) | (exact hd) | (intro j hj;simp [All];done) | (simp;done))
  rw [if_pos h21]
  have hd:(bif !true then true else decide ((nb:Int)>21))=false:=by simp;omega
  unfold apL
  by_cases k0:s.1=0
  case pos =>
    have e0:(s.1==0)=true:=by simpa using k0
    rw [if_pos k0]
    have ck:=li_ext (con_areDifferent ((N:Int),(nb,g),()) (liV [s.2.2.1,s.2.2.2.1]) (by show (1:Int)≤N;omega) (by show (N:Int)≤8;omega) (by show 2≤_;omega)) (n:=2) rfl
    have cb:=con_barX s.2.2.1 s.2.2.2.1
    have cw:=con_withL N nb 1 g [brX s.2.2.1 s.2.2.2.1] rfl (by omega) (by omega)
    by_cases hp:(nb:Int)=0∧s.2.1=0∧s.2.2.2.2.1=0
    case neg =>
      have hpf:(bif bif (nb:Int)==0 then s.2.1==0 else false then s.2.2.2.2.1==0 else false)=false:=by
        cases a:((nb:Int)==0) with
        | false=>rfl
        | true =>
          cases b:(s.2.1==0) with
          | false=>rfl
          | true=>exact beq_eq_false_iff_ne.2 (fun c=>hp ⟨beq_iff_eq.1 a,beq_iff_eq.1 b,c⟩)
      rw [if_neg (fun h=>hp h.1)]
      refine csZ Tryz.func201 (fun c hc=>?_)
      refine pkZ Tryz.func201 hc (api_0a g nb N s) ?_
      repeat' (first | exact aN | apply aI)
      all_goals (first | exact aG _ | exact aA _ _ | exact aE _ | omega | rfl | (intros;first | assumption | exact trivial | rfl | exact fT ‹_› | ((repeat' (first | assumption | apply anda | apply notf));done)) | (exact cg) | (exact cc) | (exact hd) | (exact e0) | (exact hpf) | (intro h;exact h) | (intro j hj;simp [All];done) | (simp;done))
    have hpt:(bif bif (nb:Int)==0 then s.2.1==0 else false then s.2.2.2.2.1==0 else false)=true:=by
      rw [beq_iff_eq.2 hp.1,beq_iff_eq.2 hp.2.1,beq_iff_eq.2 hp.2.2];rfl
    have n0:((nb:Int)==0)=true:=beq_iff_eq.2 hp.1
    have p0:(s.2.1==0)=true:=beq_iff_eq.2 hp.2.1
    have c0:(s.2.2.2.2.1==0)=true:=beq_iff_eq.2 hp.2.2
    cases hok2:okD N (liV [s.2.2.1,s.2.2.2.1]).2 2 with
    | false =>
      rw [show okD ((N:Int),(nb,g),()).1 (liV [s.2.2.1,s.2.2.2.1]).2 (liV [s.2.2.1,s.2.2.2.1]).1=false from hok2] at ck
      rw [if_neg (fun h=>Bool.false_ne_true h.2)]
      refine csZ Tryz.func201 (fun c hc=>?_)
      refine pkZ Tryz.func201 hc (api_0b g nb N s false) ?_
      repeat' (first | exact aN | apply aI)
      all_goals (first | exact aG _ | exact aA _ _ | exact aE _ | omega | rfl | (intros;first | assumption | exact trivial | rfl | exact fT ‹_› | ((repeat' (first | assumption | apply anda | apply notf));done)) | (exact cg) | (exact cc) | (exact ck) | (exact hd) | (exact e0) | (exact hpt) | (intro h;exact h) | (intro j hj;simp [All];done) | (simp;done))
    | true =>
      rw [show okD ((N:Int),(nb,g),()).1 (liV [s.2.2.1,s.2.2.2.1]).2 (liV [s.2.2.1,s.2.2.2.1]).1=true from hok2] at ck
      rw [if_pos ⟨hp,rfl⟩]
      have hlen:(srtL (lstB nb g++[brX s.2.2.1 s.2.2.2.1])).length=nb+1:=by rw [srtL_len,List.length_append,lstB_len];rfl
      show Con _ _ _ _ _ [(0,brOb (srtL (lstB nb g++[brX s.2.2.1 s.2.2.2.1])).length _)] (.tup [.agg [_,.ar 2 0 0 (srtL (lstB nb g++[brX s.2.2.1 s.2.2.2.1])).length],_])
      rw [hlen]
      generalize (nbL (srtL (lstB nb g++[brX s.2.2.1 s.2.2.2.1]))).2=r at cw ⊢
      refine csZ Tryz.func201 (fun c hc=>?_)
      refine pkZ Tryz.func201 hc (api_0y g nb N s true r) ?_
      repeat' (first | exact aN | apply aI)
      all_goals (first | exact aG _ | exact aA _ _ | exact aE _ | omega | rfl | (intros;first | assumption | exact trivial | rfl | exact fT ‹_› | ((repeat' (first | assumption | apply anda | apply notf));done)) | (exact cg) | (exact ck) | (exact cb) | (exact cw) | (exact hd) | (exact e0) | (exact n0) | (exact p0) | (exact c0) | (intro j hj;simp [All];done) | (simp;done))
  have e0:(s.1==0)=false:=beq_eq_false_iff_ne.2 k0
  rw [if_neg k0]
  by_cases k1:s.1=1
  case pos =>
    have e1:(s.1==1)=true:=beq_iff_eq.2 k1
    rw [if_pos k1]
    have ck:=li_ext (con_areDifferent ((N:Int),(nb,g),()) (liV [s.2.1,s.2.2.1,s.2.2.2.1]) (by show (1:Int)≤N;omega) (by show (N:Int)≤8;omega) (by show 3≤_;omega)) (n:=3) rfl
    have cb1:=con_barX s.2.1 s.2.2.1
    have cb2:=con_barX s.2.1 s.2.2.2.1
    have cw:=con_withL N nb 2 g [brX s.2.1 s.2.2.1,brX s.2.1 s.2.2.2.1] rfl (by omega) (by omega)
    have cx:=cd s.2.1
    have cy:=cd s.2.2.1
    have cz:=cd s.2.2.2.1
    change Con _ _ _ _ _ _ (.p (.bool (okD N (liV [s.2.1,s.2.2.1,s.2.2.2.1]).2 3))) at ck
    change Con _ _ _ _ _ _ (.p (.int .i64 (degF g s.2.1 nb))) at cx
    change Con _ _ _ _ _ _ (.p (.int .i64 (degF g s.2.2.1 nb))) at cy
    change Con _ _ _ _ _ _ (.p (.int .i64 (degF g s.2.2.2.1 nb))) at cz
    generalize okD N (liV [s.2.1,s.2.2.1,s.2.2.2.1]).2 3=d at ck ⊢
    generalize degF g s.2.1 nb=x at cx ⊢
    generalize degF g s.2.2.1 nb=y at cy ⊢
    generalize degF g s.2.2.2.1 nb=z at cz ⊢
    cases c0:(s.2.2.2.2.1==0) with
    | false =>
      rw [if_neg (fun h=>Bool.false_ne_true (c0.symm.trans (beq_iff_eq.2 h.1)))]
      refine csZ Tryz.func201 (fun c hc=>?_)
      refine pkZ Tryz.func201 hc (api_1a g nb N s) ?_
      repeat' (first | exact aN | apply aI)
      all_goals (first | exact aG _ | exact aA _ _ | exact aE _ | omega | rfl | (intros;first | assumption | exact trivial | rfl | exact fT ‹_› | ((repeat' (first | assumption | apply anda | apply notf));done)) | (exact cg) | (exact cc) | (exact hd) | (exact e0) | (exact e1) | (exact c0) | (intro h;exact h) | (intro j hj;simp [All];done) | (simp;done))
    | true =>
      by_cases hq:d=true∧x=0∧y>0∧z>0
      case neg =>
        rw [if_neg (fun h=>hq h.2)]
        have hqf:(bif bif bif d then x==0 else false then decide (y>0) else false then decide (z>0) else false)=false:=by
          cases a:d with
          | false=>rfl
          | true =>
            cases b:(x==0) with
            | false=>rfl
            | true =>
              by_cases y0:y>0
              · rw [decide_eq_true y0]
                exact decide_eq_false (fun z0=>hq ⟨a,beq_iff_eq.1 b,y0,z0⟩)
              · rw [decide_eq_false y0];rfl
        refine csZ Tryz.func201 (fun c hc=>?_)
        refine pkZ Tryz.func201 hc (api_1b g nb N s d x y z) ?_
        repeat' (first | exact aN | apply aI)
        all_goals (first | exact aG _ | exact aA _ _ | exact aE _ | omega | rfl | (intros;first | assumption | exact trivial | rfl | exact fT ‹_› | ((repeat' (first | assumption | apply anda | apply notf));done)) | (exact cg) | (exact cc) | (exact ck) | (intros;exact cx) | (intros;exact cy) | (intros;exact cz) | (exact hd) | (exact e0) | (exact e1) | (exact c0) | (exact hqf) | (intro h;exact h) | (intro j hj;simp [All];done) | (simp;done))
      case pos =>
        obtain ⟨rfl,rfl,y0,z0⟩:=hq
        rw [if_pos ⟨beq_iff_eq.1 c0,rfl,rfl,y0,z0⟩]
        have y1:decide (y>0)=true:=decide_eq_true y0
        have z1:decide (z>0)=true:=decide_eq_true z0
        have hlen:(srtL (lstB nb g++[brX s.2.1 s.2.2.1,brX s.2.1 s.2.2.2.1])).length=nb+2:=by rw [srtL_len,List.length_append,lstB_len];rfl
        show Con _ _ _ _ _ [(0,brOb (srtL (lstB nb g++[brX s.2.1 s.2.2.1,brX s.2.1 s.2.2.2.1])).length _)] (.tup [.agg [_,.ar 2 0 0 (srtL (lstB nb g++[brX s.2.1 s.2.2.1,brX s.2.1 s.2.2.2.1])).length],_])
        rw [hlen]
        generalize (nbL (srtL (lstB nb g++[brX s.2.1 s.2.2.1,brX s.2.1 s.2.2.2.1]))).2=r at cw ⊢
        refine csZ Tryz.func201 (fun c hc=>?_)
        refine pkZ Tryz.func201 hc (api_1y g nb N s true 0 y z r) ?_
        repeat' (first | exact aN | apply aI)
        all_goals (first | exact aG _ | exact aA _ _ | exact aE _ | omega | rfl | (intros;first | assumption | exact trivial | rfl | exact fT ‹_› | ((repeat' (first | assumption | apply anda | apply notf));done)) | (exact cg) | (exact ck) | (exact cx) | (exact cy) | (exact cz) | (exact cb1) | (exact cb2) | (exact cw) | (exact hd) | (exact e0) | (exact e1) | (exact c0) | (exact y1) | (exact z1) | (intro j hj;simp [All];done) | (simp;done))
  have e1:(s.1==1)=false:=beq_eq_false_iff_ne.2 k1
  rw [if_neg k1]
  by_cases k2:s.1=2
  case neg =>
    have e2:(s.1==2)=false:=beq_eq_false_iff_ne.2 k2
    rw [if_neg k2]
    refine csZ Tryz.func201 (fun c hc=>?_)
    refine pkZ Tryz.func201 hc (api_z g nb N s) ?_
    repeat' (first | exact aN | apply aI)
    all_goals (first | exact aG _ | exact aA _ _ | exact aE _ | omega | rfl | (intros;first | assumption | exact trivial | rfl | exact fT ‹_› | ((repeat' (first | assumption | apply anda | apply notf));done)) | (exact cg) | (exact cc) | (exact hd) | (exact e0) | (exact e1) | (exact e2) | (intro j hj;simp [All];done) | (simp;done))
  have e2:(s.1==2)=true:=beq_iff_eq.2 k2
  rw [if_pos k2]
  have ck:=li_ext (con_areDifferent ((N:Int),(nb,g),()) (liV [s.2.1,s.2.2.1,s.2.2.2.1,s.2.2.2.2.1]) (by show (1:Int)≤N;omega) (by show (N:Int)≤8;omega) (by show 4≤_;omega)) (n:=4) rfl
  have cb0:=con_barX s.2.2.1 s.2.2.2.1
  have cb1:=con_barX s.2.1 s.2.2.1
  have cb2:=con_barX s.2.1 s.2.2.2.1
  have cb3:=con_barX s.2.1 s.2.2.2.2.1
  have ci:=con_IndexB ((N:Int),(nb,g),()) (brX s.2.2.1 s.2.2.2.1) (by show nb≤_;omega)
  have hin:=ixI_in g (brX s.2.2.1 s.2.2.2.1) nb 0
  have cx:=cd s.2.1
  have cy:=cd s.2.2.2.2.1
  change Con _ _ _ _ _ _ (.p (.bool (okD N (liV [s.2.1,s.2.2.1,s.2.2.2.1,s.2.2.2.2.1]).2 4))) at ck
  change Con _ _ _ _ _ _ (.p (.int .i64 (degF g s.2.1 nb))) at cx
  change Con _ _ _ _ _ _ (.p (.int .i64 (degF g s.2.2.2.2.1 nb))) at cy
  change Con _ _ _ _ _ _ (.p (.int .i64 (ixI g (brX s.2.2.1 s.2.2.2.1) nb 0))) at ci
  generalize okD N (liV [s.2.1,s.2.2.1,s.2.2.2.1,s.2.2.2.2.1]).2 4=d at ck ⊢
  generalize degF g s.2.1 nb=x at cx ⊢
  generalize degF g s.2.2.2.2.1 nb=y at cy ⊢
  generalize ixI g (brX s.2.2.1 s.2.2.2.1) nb 0=k at ci hin ⊢
  by_cases hk:k≥0
  case neg =>
    have hkf:decide (k≥0)=false:=decide_eq_false hk
    rw [if_neg (fun h=>hk h.1)]
    refine csZ Tryz.func201 (fun c hc=>?_)
    refine pkZ Tryz.func201 hc (api_2a g nb N s k) ?_
    repeat' (first | exact aN | apply aI)
    all_goals (first | exact aG _ | exact aA _ _ | exact aE _ | omega | rfl | (intros;first | assumption | exact trivial | rfl | exact fT ‹_› | ((repeat' (first | assumption | apply anda | apply notf));done)) | (exact cg) | (exact cc) | (exact cb0) | (exact ci) | (exact hd) | (exact e0) | (exact e1) | (exact e2) | (exact hkf) | (intro h;exact h) | (intro j hj;simp [All];done) | (simp;done))
  have hkt:decide (k≥0)=true:=decide_eq_true hk
  obtain ⟨e,rfl⟩:=Int.eq_ofNat_of_zero_le hk
  have he:e<nb:=by
    rcases hin with h | ⟨h1,h2,h3⟩
    · exact absurd hk (by rw [h];decide)
    · omega
  by_cases hq:d=true∧x=0∧y>0
  case neg =>
    rw [if_neg (fun h=>hq h.2)]
    have hqf:(bif bif d then x==0 else false then decide (y>0) else false)=false:=by
      cases a:d with
      | false=>rfl
      | true =>
        cases b:(x==0) with
        | false=>rfl
        | true=>exact decide_eq_false (fun y0=>hq ⟨a,beq_iff_eq.1 b,y0⟩)
    refine csZ Tryz.func201 (fun c hc=>?_)
    refine pkZ Tryz.func201 hc (api_2b g nb N s (e:Int) d x y) ?_
    repeat' (first | exact aN | apply aI)
    all_goals (first | exact aG _ | exact aA _ _ | exact aE _ | omega | rfl | (intros;first | assumption | exact trivial | rfl | exact fT ‹_› | ((repeat' (first | assumption | apply anda | apply notf));done)) | (exact cg) | (exact cc) | (exact cb0) | (exact ci) | (exact ck) | (intros;exact cx) | (intros;exact cy) | (exact hd) | (exact e0) | (exact e1) | (exact e2) | (exact hkt) | (exact hqf) | (intro h;exact h) | (intro j hj;simp [All];done) | (simp;done))
  obtain ⟨rfl,rfl,y0⟩:=hq
  have cr:=con_gRemove_i hg e he
  have cw:=con_withL N (nb - 1) 3 (dlB g e) [brX s.2.1 s.2.2.1,brX s.2.1 s.2.2.2.1,brX s.2.1 s.2.2.2.2.1] rfl (by omega) (by omega)
  rw [if_pos ⟨hk,rfl,rfl,y0⟩]
  have y1:decide (y>0)=true:=decide_eq_true y0
  rw [Int.toNat_natCast]
  have hlen:(srtL (lstB (nb - 1) (dlB g e)++[brX s.2.1 s.2.2.1,brX s.2.1 s.2.2.2.1,brX s.2.1 s.2.2.2.2.1])).length=(nb - 1)+3:=by rw [srtL_len,List.length_append,lstB_len];rfl
  show Con _ _ _ _ _ [(0,brOb (srtL (lstB (nb - 1) (dlB g e)++[brX s.2.1 s.2.2.1,brX s.2.1 s.2.2.2.1,brX s.2.1 s.2.2.2.2.1])).length _)] (.tup [.agg [_,.ar 2 0 0 (srtL (lstB (nb - 1) (dlB g e)++[brX s.2.1 s.2.2.1,brX s.2.1 s.2.2.2.1,brX s.2.1 s.2.2.2.2.1])).length],_])
  rw [hlen]
  generalize (nbL (srtL (lstB (nb - 1) (dlB g e)++[brX s.2.1 s.2.2.1,brX s.2.1 s.2.2.2.1,brX s.2.1 s.2.2.2.2.1]))).2=r at cw ⊢
  refine csZ Tryz.func201 (fun c hc=>?_)
  refine pkZ Tryz.func201 hc (api_2y g nb N s (e:Int) true 0 y (nb - 1) (dlB g e) r) ?_
  repeat' (first | exact aN | apply aI)
  all_goals (first | exact aG _ | exact aA _ _ | exact aE _ | omega | rfl | (intros;first | assumption | exact trivial | rfl | exact fT ‹_› | ((repeat' (first | assumption | apply anda | apply notf));done)) | (exact cg) | (exact cb0) | (exact ci) | (exact ck) | (exact cx) | (exact cy) | (exact cr) | (exact cb1) | (exact cb2) | (exact cb3) | (exact cw) | (exact hd) | (exact e0) | (exact e1) | (exact e2) | (exact hkt) | (exact y1) | (intro j hj;simp [All];done) | (simp;done))
end Go.Proofs.YtkkjoghiigiokaaGreat.Mach
namespace Go.Proofs.YtkkjoghiigiokaaGreat.Mach
open Go
set_option linter.unusedVariables false
set_option linter.unusedSimpArgs false
theorem l7uR (v:T_Graph) (p x:Int) :
    pathOb Tryz.prog Tryz.f296 0 [rg 2,rm [(2,oc [] (.p (.int .i64 x)))] 2] [.code (bodyOf Tryz.f296)] (start Tryz.f296 [] 0 [graphA v,.p (.int .i64 p)]) [] 1 [] (.p (.bool (decide (x>0)))) =
    some [(NT 0 1),Con Tryz.prog 345 0 [] [(zf110 v),.p (.int .i64 p)] [] (.p (.int .i64 x)),((decide (x>0))=(decide (x>0)))]:=by kernel_rfl
theorem con_l7Used (v:T_Graph) (p:Int) (hs:smS s_Graph v):Con Tryz.prog 296 0 [] [graphA v,.p (.int .i64 p)] [] (.p (.bool (decide (degF v.2.1.2 p v.2.1.1>0)))):=by
  have c1:=con_DegreeOf_s v p hs
  refine csZ Tryz.func296 (fun c hc=>?_)
  refine pkZ Tryz.func296 hc (l7uR v p _) ?_
  repeat' (first | exact aN | apply aI)
  all_goals (first | omega | rfl | (intros;first | assumption | exact trivial | rfl) | (exact c1) | (simp;done))
theorem nbL_row {l:List T_Bar} {n:Nat} {r:Nat→T_Bar} (hn:l.length=n) (hr:lstB n r=l):∀ j,j<n→r j=(nbL l).2 j:=by
  subst hn
  exact lstB_inj (hr.trans (lstB_nbL l).symm)
theorem sortL (n:Nat) (r:Nat→T_Bar) {l:List T_Bar} (h:lstB n r=srtL l):(lstB n r).Pairwise leB:=by rw [h];exact srtL_sorted l
theorem con_Apply_s {N nb:Nat} {g:Nat→T_Bar} (hg:isGraphF ((N:Int),(nb,g),())=true) (s:T_Step) :
    Con Tryz.prog 195 0 [] [grG g nb N,stpA s] [(0,brOb (apD N nb g s).1.1 (apD N nb g s).1.2)] (apR N (apD N nb g s)):=by
  obtain ⟨hN,hnb,hok⟩:=graph_in hg
  have hsm:smS s_Graph ((N:Int),(nb,g),()):=sm_graph (by show nb≤_;omega)
  have cg:=con_IsGraph_s ((N:Int),(nb,g),()) hsm
  rw [hg] at cg
  have cc:=con_l2Copy ((N:Int),(nb,g),()) (by show nb≤_;omega)
  have cu:∀ p,Con Tryz.prog 296 0 [] [grG g nb N,.p (.int .i64 p)] [] (.p (.bool (decide (degF g p nb>0)))):=fun p=>con_l7Used ((N:Int),(nb,g),()) p hsm
  have hdb:=fun p=>degF_bd g p nb
  have hsrt:(lstB nb g).Pairwise leB:=goodB_sorted (graph_inR hg).2.2.2
  unfold apD
  by_cases h21:nb≤21
  case neg =>
    rw [if_neg h21]
    have hd:(bif !true then true else decide ((nb:Int)>21))=true:=by simp;omega
    refine csZ Tryz.func195 (fun c hc=>?_)
    refine pkZ Tryz.func195 hc (aps_x g nb N s) ?_
    repeat' (first | exact aN | apply aI)
    all_goals (first | exact aG _ | exact aA _ _ | exact aE _ | omega | rfl | (intros;first | assumption | exact trivial | rfl | exact fT ‹_› | ((repeat' (first | assumption | apply anda | apply notf));done)) | (exact cg) | (exact cc) | (exact hd) | (intro j hj;simp [All];done) | (simp;done))
  rw [if_pos h21]
  have hd:(bif !true then true else decide ((nb:Int)>21))=false:=by simp;omega
  unfold apL
  by_cases k0:s.1=0
  case pos =>
    have e0:(s.1==0)=true:=beq_iff_eq.2 k0
    have e2:(s.1==2)=false:=beq_eq_false_iff_ne.2 (by omega)
    have e1:(s.1==1)=false:=beq_eq_false_iff_ne.2 (by omega)
    have f1:(bif s.1==1 then s.2.2.2.2.1==0 else false)=false:=by rw [e1];rfl
    rw [if_pos k0]
    have ck:=li_ext (con_l7Points ((N:Int),(nb,g),()) (liV [s.2.2.1,s.2.2.2.1]) (by show 2≤_;omega)) (n:=2) rfl
    change Con _ _ _ _ _ _ (.p (.bool (okD N (liV [s.2.2.1,s.2.2.2.1]).2 2))) at ck
    generalize okD N (liV [s.2.2.1,s.2.2.2.1]).2 2=d at ck ⊢
    by_cases hp:(nb:Int)=0∧s.2.1=0∧s.2.2.2.2.1=0
    case neg =>
      have hpf:(bif bif bif s.1==0 then s.2.1==0 else false then s.2.2.2.2.1==0 else false then (nb:Int)==0 else false)=false:=by
        rw [e0]
        cases b:(s.2.1==0) with
        | false=>rfl
        | true =>
          cases c:(s.2.2.2.2.1==0) with
          | false=>rfl
          | true=>exact beq_eq_false_iff_ne.2 (fun a=>hp ⟨a,beq_iff_eq.1 b,beq_iff_eq.1 c⟩)
      rw [if_neg (fun h=>hp h.1)]
      refine csZ Tryz.func195 (fun c hc=>?_)
      refine pkZ Tryz.func195 hc (aps_z g nb N s) ?_
      repeat' (first | exact aN | apply aI)
      all_goals (first | exact aG _ | exact aA _ _ | exact aE _ | omega | rfl | (intros;first | assumption | exact trivial | rfl | exact fT ‹_› | ((repeat' (first | assumption | apply anda | apply notf));done)) | (exact cg) | (exact cc) | (exact hd) | (exact hpf) | (exact f1) | (exact e2) | (intro h;exact h) | (intro j hj;simp [All];done) | (simp;done))
    have n0:((nb:Int)==0)=true:=beq_iff_eq.2 hp.1
    have p0:(s.2.1==0)=true:=beq_iff_eq.2 hp.2.1
    have c0:(s.2.2.2.2.1==0)=true:=beq_iff_eq.2 hp.2.2
    have hpt:(bif bif bif s.1==0 then s.2.1==0 else false then s.2.2.2.2.1==0 else false then (nb:Int)==0 else false)=true:=by rw [e0,p0,c0,n0];rfl
    cases d with
    | false =>
      rw [if_neg (fun h=>Bool.false_ne_true h.2)]
      refine csZ Tryz.func195 (fun c hc=>?_)
      refine pkZ Tryz.func195 hc (aps_0n g nb N s false) ?_
      repeat' (first | exact aN | apply aI)
      all_goals (first | exact aG _ | exact aA _ _ | exact aE _ | omega | rfl | (intros;first | assumption | exact trivial | rfl | exact fT ‹_› | ((repeat' (first | assumption | apply anda | apply notf));done)) | (exact cg) | (exact cc) | (exact ck) | (exact hd) | (exact hpt) | (exact f1) | (exact e2) | (intro h;exact h) | (intro j hj;simp [All];done) | (simp;done))
    | true =>
      rw [if_pos ⟨hp,rfl⟩]
      have hlen:(srtL (lstB nb g++[brX s.2.2.1 s.2.2.2.1])).length=nb+1:=by rw [srtL_len,List.length_append,lstB_len];rfl
      obtain ⟨r,hr,cp⟩:=con_putS (N:=N) hsrt (brX s.2.2.1 s.2.2.2.1) (by omega)
      have hR:=nbL_row hlen hr
      show Con _ _ _ _ _ [(0,brOb (srtL (lstB nb g++[brX s.2.2.1 s.2.2.2.1])).length _)] (.tup [.agg [_,.ar 2 0 0 (srtL (lstB nb g++[brX s.2.2.1 s.2.2.2.1])).length],_])
      rw [hlen]
      generalize (nbL (srtL (lstB nb g++[brX s.2.2.1 s.2.2.2.1]))).2=R at hR ⊢
      refine csZ Tryz.func195 (fun c hc=>?_)
      refine pkZ Tryz.func195 hc (aps_0y g nb N s true r R) ?_
      repeat' (first | exact aN | apply aI)
      all_goals (first | exact aG _ | exact aE _ | omega | rfl | (intros;first | assumption | exact trivial | rfl | exact fT ‹_› | ((repeat' (first | assumption | apply anda | apply notf));done)) | (exact cg) | (exact ck) | (exact cp) | (exact hd) | (exact e0) | (exact n0) | (exact p0) | (exact c0) | (intro j hj;rw [hR j hj];exact ⟨trivial,rfl⟩) | (intro j hj;simp [All];done) | (simp;done) | (simp only [All];first | exact aG _ | exact aE _ | omega | rfl | (intros;first | assumption | exact trivial | rfl | exact fT ‹_› | ((repeat' (first | assumption | apply anda | apply notf));done)) | (exact cg) | (exact ck) | (exact cp) | (exact hd) | (exact e0) | (exact n0) | (exact p0) | (exact c0) | (intro j hj;rw [hR j hj];exact ⟨trivial,rfl⟩) | (intro j hj;simp [All];done) | (simp;done)))
  have e0:(s.1==0)=false:=beq_eq_false_iff_ne.2 k0
  have f0:(bif bif bif s.1==0 then s.2.1==0 else false then s.2.2.2.2.1==0 else false then (nb:Int)==0 else false)=false:=by rw [e0];rfl
  rw [if_neg k0]
  by_cases k1:s.1=1
  case pos =>
    have e1:(s.1==1)=true:=beq_iff_eq.2 k1
    have e2:(s.1==2)=false:=beq_eq_false_iff_ne.2 (by omega)
    rw [if_pos k1]
    have ck:=li_ext (con_l7Points ((N:Int),(nb,g),()) (liV [s.2.1,s.2.2.1,s.2.2.2.1]) (by show 3≤_;omega)) (n:=3) rfl
    have cx:=cu s.2.1
    have cy:=cu s.2.2.1
    have cz:=cu s.2.2.2.1
    have hx:=(hdb s.2.1).1
    change Con _ _ _ _ _ _ (.p (.bool (okD N (liV [s.2.1,s.2.2.1,s.2.2.2.1]).2 3))) at ck
    generalize okD N (liV [s.2.1,s.2.2.1,s.2.2.2.1]).2 3=d at ck ⊢
    generalize degF g s.2.1 nb=x at cx hx ⊢
    generalize degF g s.2.2.1 nb=y at cy ⊢
    generalize degF g s.2.2.2.1 nb=z at cz ⊢
    cases c0:(s.2.2.2.2.1==0) with
    | false =>
      have f1:(bif s.1==1 then s.2.2.2.2.1==0 else false)=false:=by rw [e1,c0];rfl
      rw [if_neg (fun h=>Bool.false_ne_true (c0.symm.trans (beq_iff_eq.2 h.1)))]
      refine csZ Tryz.func195 (fun c hc=>?_)
      refine pkZ Tryz.func195 hc (aps_z g nb N s) ?_
      repeat' (first | exact aN | apply aI)
      all_goals (first | exact aG _ | exact aA _ _ | exact aE _ | omega | rfl | (intros;first | assumption | exact trivial | rfl | exact fT ‹_› | ((repeat' (first | assumption | apply anda | apply notf));done)) | (exact cg) | (exact cc) | (exact hd) | (exact f0) | (exact f1) | (exact e2) | (intro h;exact h) | (intro j hj;simp [All];done) | (simp;done))
    | true =>
      by_cases hq:d=true∧x=0∧y>0∧z>0
      case neg =>
        rw [if_neg (fun h=>hq h.2)]
        have hqf:(bif bif bif d then !(decide (x>0)) else false then decide (y>0) else false then decide (z>0) else false)=false:=by
          cases a:d with
          | false=>rfl
          | true =>
            by_cases x0:x>0
            · rw [decide_eq_true x0];rfl
            · rw [decide_eq_false x0]
              by_cases y0:y>0
              · rw [decide_eq_true y0]
                exact decide_eq_false (fun z0=>hq ⟨a,by omega,y0,z0⟩)
              · rw [decide_eq_false y0];rfl
        refine csZ Tryz.func195 (fun c hc=>?_)
        refine pkZ Tryz.func195 hc (aps_1n g nb N s d (decide (x>0)) (decide (y>0)) (decide (z>0))) ?_
        repeat' (first | exact aN | apply aI)
        all_goals (first | exact aG _ | exact aA _ _ | exact aE _ | omega | rfl | (intros;first | assumption | exact trivial | rfl | exact fT ‹_› | ((repeat' (first | assumption | apply anda | apply notf));done)) | (exact cg) | (exact cc) | (exact ck) | (intros;exact cx) | (intros;exact cy) | (intros;exact cz) | (exact hd) | (exact f0) | (exact e1) | (exact e2) | (exact c0) | (exact hqf) | (intro h;exact h) | (intro j hj;simp [All];done) | (simp;done))
      case pos =>
        obtain ⟨rfl,rfl,y0,z0⟩:=hq
        rw [if_pos ⟨beq_iff_eq.1 c0,rfl,rfl,y0,z0⟩]
        rw [decide_eq_true y0] at cy
        rw [decide_eq_true z0] at cz
        rw [show decide ((0:Int)>0)=false from rfl] at cx
        have hlen:(srtL (lstB nb g++[brX s.2.1 s.2.2.1,brX s.2.1 s.2.2.2.1])).length=nb+2:=by rw [srtL_len,List.length_append,lstB_len];rfl
        obtain ⟨r1,hr1,cp1⟩:=con_putS (N:=N) hsrt (brX s.2.1 s.2.2.1) (by omega)
        obtain ⟨r,hr,cp2⟩:=con_putS (N:=N) (sortL _ _ hr1) (brX s.2.1 s.2.2.2.1) (by omega)
        rw [hr1,srtL_app,List.append_assoc] at hr
        have hR:=nbL_row hlen hr
        show Con _ _ _ _ _ [(0,brOb (srtL (lstB nb g++[brX s.2.1 s.2.2.1,brX s.2.1 s.2.2.2.1])).length _)] (.tup [.agg [_,.ar 2 0 0 (srtL (lstB nb g++[brX s.2.1 s.2.2.1,brX s.2.1 s.2.2.2.1])).length],_])
        rw [hlen]
        generalize (nbL (srtL (lstB nb g++[brX s.2.1 s.2.2.1,brX s.2.1 s.2.2.2.1]))).2=R at hR ⊢
        refine csZ Tryz.func195 (fun c hc=>?_)
        refine pkZ Tryz.func195 hc (aps_1y g nb N s true false true true r1 r R) ?_
        repeat' (first | exact aN | apply aI)
        all_goals (first | exact aG _ | exact aE _ | omega | rfl | (intros;first | assumption | exact trivial | rfl | exact fT ‹_› | ((repeat' (first | assumption | apply anda | apply notf));done)) | (exact cg) | (exact ck) | (exact cx) | (exact cy) | (exact cz) | (exact cp1) | (exact cp2) | (exact hd) | (exact f0) | (exact e1) | (exact c0) | (intro h;exact h) | (intro j hj;rw [hR j hj];exact ⟨trivial,rfl⟩) | (intro j hj;simp [All];done) | (simp;done) | (simp only [All];first | exact aG _ | exact aE _ | omega | rfl | (intros;first | assumption | exact trivial | rfl | exact fT ‹_› | ((repeat' (first | assumption | apply anda | apply notf));done)) | (exact cg) | (exact ck) | (exact cx) | (exact cy) | (exact cz) | (exact cp1) | (exact cp2) | (exact hd) | (exact f0) | (exact e1) | (exact c0) | (intro h;exact h) | (intro j hj;rw [hR j hj];exact ⟨trivial,rfl⟩) | (intro j hj;simp [All];done) | (simp;done)))
  have e1:(s.1==1)=false:=beq_eq_false_iff_ne.2 k1
  have f1:(bif s.1==1 then s.2.2.2.2.1==0 else false)=false:=by rw [e1];rfl
  rw [if_neg k1]
  by_cases k2:s.1=2
  case neg =>
    have e2:(s.1==2)=false:=beq_eq_false_iff_ne.2 k2
    rw [if_neg k2]
    refine csZ Tryz.func195 (fun c hc=>?_)
    refine pkZ Tryz.func195 hc (aps_z g nb N s) ?_
    repeat' (first | exact aN | apply aI)
    all_goals (first | exact aG _ | exact aA _ _ | exact aE _ | omega | rfl | (intros;first | assumption | exact trivial | rfl | exact fT ‹_› | ((repeat' (first | assumption | apply anda | apply notf));done)) | (exact cg) | (exact cc) | (exact hd) | (exact f0) | (exact f1) | (exact e2) | (intro h;exact h) | (intro j hj;simp [All];done) | (simp;done))
  have e2:(s.1==2)=true:=beq_iff_eq.2 k2
  rw [if_pos k2]
  have ck:=li_ext (con_l7Points ((N:Int),(nb,g),()) (liV [s.2.1,s.2.2.1,s.2.2.2.1,s.2.2.2.2.1]) (by show 4≤_;omega)) (n:=4) rfl
  have ci:=con_l7At ((N:Int),(nb,g),()) s.2.2.1 s.2.2.2.1 (by show nb≤_;omega)
  have hin:=ixI_in g (brX s.2.2.1 s.2.2.2.1) nb 0
  have cx:=cu s.2.1
  have cy:=cu s.2.2.2.2.1
  have hx:=(hdb s.2.1).1
  change Con _ _ _ _ _ _ (.p (.bool (okD N (liV [s.2.1,s.2.2.1,s.2.2.2.1,s.2.2.2.2.1]).2 4))) at ck
  change Con _ _ _ _ _ _ (.p (.int .i64 (ixI g (brX s.2.2.1 s.2.2.2.1) nb 0))) at ci
  generalize okD N (liV [s.2.1,s.2.2.1,s.2.2.2.1,s.2.2.2.2.1]).2 4=d at ck ⊢
  generalize degF g s.2.1 nb=x at cx hx ⊢
  generalize degF g s.2.2.2.2.1 nb=y at cy ⊢
  generalize ixI g (brX s.2.2.1 s.2.2.2.1) nb 0=k at ci hin ⊢
  by_cases hq:k≥0∧d=true∧x=0∧y>0
  case neg =>
    rw [if_neg hq]
    have hqf:(bif bif bif d then !(decide (x>0)) else false then decide (y>0) else false then decide (k≥0) else false)=false:=by
      cases a:d with
      | false=>rfl
      | true =>
        by_cases x0:x>0
        · rw [decide_eq_true x0];rfl
        · rw [decide_eq_false x0]
          by_cases y0:y>0
          · rw [decide_eq_true y0]
            exact decide_eq_false (fun z0=>hq ⟨z0,a,by omega,y0⟩)
          · rw [decide_eq_false y0];rfl
    refine csZ Tryz.func195 (fun c hc=>?_)
    refine pkZ Tryz.func195 hc (aps_2n g nb N s d (decide (x>0)) (decide (y>0)) k) ?_
    repeat' (first | exact aN | apply aI)
    all_goals (first | exact aG _ | exact aA _ _ | exact aE _ | omega | rfl | (intros;first | assumption | exact trivial | rfl | exact fT ‹_› | ((repeat' (first | assumption | apply anda | apply notf));done)) | (exact cg) | (exact cc) | (exact ck) | (intros;exact cx) | (intros;exact cy) | (intros;exact ci) | (exact hd) | (exact f0) | (exact f1) | (exact e2) | (exact hqf) | (intro h;exact h) | (intro j hj;simp [All];done) | (simp;done))
  obtain ⟨hk,rfl,rfl,y0⟩:=hq
  obtain ⟨e,rfl⟩:=Int.eq_ofNat_of_zero_le hk
  have hkt:decide ((e:Int)≥0)=true:=decide_eq_true hk
  have he:e<nb:=by
    rcases hin with h | ⟨h1,h2,h3⟩
    · exact absurd hk (by rw [h];decide)
    · omega
  rw [if_pos ⟨hk,rfl,rfl,y0⟩,Int.toNat_natCast]
  rw [decide_eq_true y0] at cy
  rw [show decide ((0:Int)>0)=false from rfl] at cx
  have cr:=con_gRemove_s hg e he
  have hdl:(lstB (nb - 1) (dlB g e)).Pairwise leB:=goodB_sorted (graph_inR (dl_graph hg he)).2.2.2
  have hlen:(srtL (lstB (nb - 1) (dlB g e)++[brX s.2.1 s.2.2.1,brX s.2.1 s.2.2.2.1,brX s.2.1 s.2.2.2.2.1])).length=(nb - 1)+3:=by rw [srtL_len,List.length_append,lstB_len];rfl
  obtain ⟨r1,hr1,cp1⟩:=con_putS (N:=N) hdl (brX s.2.1 s.2.2.1) (by omega)
  obtain ⟨r2,hr2,cp2⟩:=con_putS (N:=N) (sortL _ _ hr1) (brX s.2.1 s.2.2.2.1) (by omega)
  obtain ⟨r,hr,cp3⟩:=con_putS (N:=N) (sortL _ _ hr2) (brX s.2.1 s.2.2.2.2.1) (by omega)
  rw [hr2,srtL_app,hr1,List.append_assoc,srtL_app,List.append_assoc] at hr
  have hR:=nbL_row hlen hr
  show Con _ _ _ _ _ [(0,brOb (srtL (lstB (nb - 1) (dlB g e)++[brX s.2.1 s.2.2.1,brX s.2.1 s.2.2.2.1,brX s.2.1 s.2.2.2.2.1])).length _)] (.tup [.agg [_,.ar 2 0 0 (srtL (lstB (nb - 1) (dlB g e)++[brX s.2.1 s.2.2.1,brX s.2.1 s.2.2.2.1,brX s.2.1 s.2.2.2.2.1])).length],_])
  rw [hlen]
  generalize (nbL (srtL (lstB (nb - 1) (dlB g e)++[brX s.2.1 s.2.2.1,brX s.2.1 s.2.2.2.1,brX s.2.1 s.2.2.2.2.1]))).2=R at hR ⊢
  refine csZ Tryz.func195 (fun c hc=>?_)
  refine pkZ Tryz.func195 hc (aps_2y g nb N s true false true (e:Int) (nb - 1) (dlB g e) r1 r2 r R) ?_
  repeat' (first | exact aN | apply aI)
  all_goals (first | exact aG _ | exact aE _ | omega | rfl | (intros;first | assumption | exact trivial | rfl | exact fT ‹_› | ((repeat' (first | assumption | apply anda | apply notf));done)) | (exact cg) | (exact ck) | (exact cx) | (exact cy) | (exact ci) | (exact cr) | (exact cp1) | (exact cp2) | (exact cp3) | (exact hd) | (exact f0) | (exact f1) | (exact e2) | (exact hkt) | (intro h;exact h) | (intro j hj;rw [hR j hj];exact ⟨trivial,rfl⟩) | (intro j hj;simp [All];done) | (simp;done) | (simp only [All];first | exact aG _ | exact aE _ | omega | rfl | (intros;first | assumption | exact trivial | rfl | exact fT ‹_› | ((repeat' (first | assumption | apply anda | apply notf));done)) | (exact cg) | (exact ck) | (exact cx) | (exact cy) | (exact ci) | (exact cr) | (exact cp1) | (exact cp2) | (exact cp3) | (exact hd) | (exact f0) | (exact f1) | (exact e2) | (exact hkt) | (intro h;exact h) | (intro j hj;rw [hR j hj];exact ⟨trivial,rfl⟩) | (intro j hj;simp [All];done) | (simp;done)))
end Go.Proofs.YtkkjoghiigiokaaGreat.Mach
namespace Go.Proofs.YtkkjoghiigiokaaGreat.Mach
open Go
set_option linter.unusedVariables false
set_option linter.unusedSimpArgs false
def stpL (n:Nat) (S:Nat→T_Step):AV:=.p (.seq true 5 n (fun i=>[.int .i64 (S i).1,.int .i64 (S i).2.1,.int .i64 (S i).2.2.1,.int .i64 (S i).2.2.2.1,.int .i64 (S i).2.2.2.2.1]))
def bugx (N:Nat) (k nb:Nat):Ob:=⟨true,2,1,fun _=>[.p (.int .i64 N),.ar 2 k 0 nb]⟩
def BuI (n:Nat) (S:Nat→T_Step) (N nb:Nat) (g:Nat→T_Bar) (i:Nat):St :=
  ⟨[.p .any,.p .any,.p .any,.p .any,.pt 2 0 0 0,.p .any,.pt 2 1 0 0]++List.replicate 10 anyA++[stpL n S,.p (.int .i64 n),.p (.int .i64 i)]++List.replicate 15 anyA,[(0,z2),(1,bugx N 2 nb),(2,brOb nb g)],3⟩
def BuS (n:Nat) (S:Nat→T_Step) (N nb:Nat) (g:Nat→T_Bar) (i:Nat):St :=
  ⟨[.p .any,stpL n S,.p .any,.p .any,.pt 2 0 0 0,.p .any,.pt 2 1 0 0,.p (.int .i64 i)]++List.replicate 29 anyA,[(0,z2),(1,bugx N 2 nb),(2,brOb nb g)],3⟩
theorem buiN (M:Int) (n:Nat) (S:Nat→T_Step) :
    pathOb Tryz.prog Tryz.f91 0 [rg 2,rm [(1,oc [] (.p (.bool false)))] 1,.dec true,rg 3] [.code (bodyOf Tryz.f91)] (start Tryz.f91 [] 0 [.p (.int .i64 M),stpL n S]) [] 1 [] (zf129) =
    some [Con Tryz.prog 179 0 [] [.p (.int .i64 M),.p (.int .i64 1),.p (.int .i64 8)] [] (.p (.bool false)),((!false)=true),(NT 0 1),((true=true)→ (AN 1)),(NT 0 1),(AI 0),(AN 0),(false=false)]:=by kernel_rfl
theorem buiZ (N n:Nat) (S:Nat→T_Step) (g:Nat→T_Bar) :
    pieceOb Tryz.prog 0 [rg 2,rm [(1,oc [] (.p (.bool true)))] 1,.dec false,rg 4,rg 3,.head] [.code (bodyOf Tryz.f91)] (start Tryz.f91 [] 0 [.p (.int .i64 N),stpL n S]) [0,224] 1 (BuI n S N 0 g 0) =
    some (zf56,[Con Tryz.prog 179 0 [] [.p (.int .i64 (↑N:Int)),.p (.int .i64 1),.p (.int .i64 8)] [] (.p (.bool true)),((!true)=false),(NT 0 1),((true=true)→ (AN 1)),(AN 0),(AN 0),(AN n),(AP n (fun i=>[.int .i64 ((S i).1),.int .i64 ((S i).2.1),.int .i64 ((S i).2.2.1),.int .i64 ((S i).2.2.2.1),.int .i64 ((S i).2.2.2.2.1)])),(AI ((↑n:Int))),((0:Int)=(↑0:Int)),((((List.map (fun v=>AV.p (absV v)) [Value.int IntKind.i64 0,Value.slice none 0 0]).length):Nat)=2),(NL 1 1),(NL 1 1),(AI 0),((((List.map (fun v=>AV.p (absV v)) [Value.int IntKind.i64 0,Value.slice none 0 0]).length):Nat)=2),(NL 1 1),(NL 1 1),(AI ((↑N:Int))),(AN 0),(AN 0)]):=by kernel_rfl
theorem buiF (n:Nat) (S:Nat→T_Step) (N nb:Nat) (g:Nat→T_Bar) (i m:Nat) (h:Nat→T_Bar) :
    pathOb Tryz.prog Tryz.f91 0 [rg 1,.dec true,rg 4,rm [(2,oc [(0,brOb m h)] (zf127 N m))] 6,rg 2,.dec true,rg 3] zf56 (BuI n S N nb g i) [] 1 [] (zf129) =
    some [((decide ((↑i:Int)<(↑n:Int)))=true),(IL 0 (↑i:Int)),(IT (↑i:Int) (↑n:Int)),(NT 0 1),((true=true)→ (AN 1)),(NT 0 1),(NT 0 1),(AN 2),(NL nb nb),Con Tryz.prog 201 0 [] [(zf111 N nb g),(zf52 S i)] (zf119 m h) (.tup [.agg [.p (.int .i64 (↑N:Int)),.ar 2 0 0 m],.p (.bool false)]),(NT 0 1),((true=true)→ (AN 1)),((!false)=true),(NT 0 1),((true=true)→ (AN 1)),(NT 0 1),(AI 0),(AN 0),(false=false)]:=by kernel_rfl
theorem buiT (n:Nat) (S:Nat→T_Step) (N nb:Nat) (g:Nat→T_Bar) (i m:Nat) (h:Nat→T_Bar) :
    pieceOb Tryz.prog 0 [rg 1,.dec true,rg 4,rm [(2,oc [(0,brOb m h)] (zf128 N m))] 6,rg 2,.dec false,rg 2,rg 2,.head] zf56 (BuI n S N nb g i) [0,1,227] 1 (BuI n S N m h (i+1)) =
    some (zf56,[((decide ((↑i:Int)<(↑n:Int)))=true),(IL 0 (↑i:Int)),(IT (↑i:Int) (↑n:Int)),(NT 0 1),((true=true)→ (AN 1)),(NT 0 1),(NT 0 1),(AN 2),(NL nb nb),Con Tryz.prog 201 0 [] [(zf111 N nb g),(zf52 S i)] (zf119 m h) ((zf124 N m)),(NT 0 1),((true=true)→ (AN 1)),((!true)=false),(NT 0 1),(NT 0 1),((true=true)→ (AN 1)),(ZLo ((↑i:Int)+1)),(ZHi ((↑i:Int)+1)),(AN 0),(AN 0),(AN n),(AP n (fun i_1=>[.int .i64 ((S i_1).1),.int .i64 ((S i_1).2.1),.int .i64 ((S i_1).2.2.1),.int .i64 ((S i_1).2.2.2.1),.int .i64 ((S i_1).2.2.2.2.1)])),(AI ((↑n:Int))),((((↑i:Int)+1):Int)=(↑(i+1):Int)),(AN 2),(NL 1 1),(NL 1 1),(AI 0),(AN 2),(NL 1 1),(NL 1 1),(AI ((↑N:Int))),(AN 0),(AN m),(AN 2),(NL m m),(AA m (fun i_1=>[.p (.int .i64 ((h i_1).1)),.p (.int .i64 ((h i_1).2.1))]))]):=by kernel_rfl
theorem buiE (n:Nat) (S:Nat→T_Step) (N nb:Nat) (g:Nat→T_Bar) (i:Nat) :
    pathOb Tryz.prog Tryz.f91 0 [rg 1,.dec false,rg 3] zf56 (BuI n S N nb g i) [2] 1 [(0,brOb nb g)] ((zf128 N nb)) =
    some [((decide ((↑i:Int)<(↑n:Int)))=false),(NT 0 1),(NT 0 1),((true=true)→ (AN 1)),(NT 0 1),(AI ((↑N:Int))),(AN 0),(AN nb),(true=true),(AN 2),(NL nb nb),(AA nb (fun i_1=>[.p (.int .i64 ((g i_1).1)),.p (.int .i64 ((g i_1).2.1))])),(AE nb)]:=by kernel_rfl
theorem busN (M:Int) (n:Nat) (S:Nat→T_Step) :
    pathOb Tryz.prog Tryz.f81 0 [rg 2,rg 5,rm [(1,oc [] (.p (.bool false)))] 1,.dec true,rg 3] [.code (bodyOf Tryz.f81)] (start Tryz.f81 [] 0 [.p (.int .i64 M),stpL n S]) [] 1 [] (zf129) =
    some [(NT 0 1),((true=true)→ (AN 1)),(NT 0 1),(AN 2),(NL 0 0),Con Tryz.prog 53 0 [] [.agg [.p (.int .i64 M),.p (.seq true 2 0 (fun i=>[.int .i64 0,.int .i64 0]))]] [] (.p (.bool false)),((!false)=true),(NT 0 1),((true=true)→ (AN 1)),(NT 0 1),(AI 0),(AN 0),(false=false)]:=by kernel_rfl
theorem busZ (N n:Nat) (S:Nat→T_Step) (g:Nat→T_Bar) :
    pieceOb Tryz.prog 0 [rg 2,rg 5,rm [(1,oc [] (.p (.bool true)))] 1,.dec false,rg 1,.head] [.code (bodyOf Tryz.f81)] (start Tryz.f81 [] 0 [.p (.int .i64 N),stpL n S]) [0,160,96] 1 (BuS n S N 0 g 0) =
    some (zf57,[(NT 0 1),((true=true)→ (AN 1)),(NT 0 1),(AN 2),(NL 0 0),Con Tryz.prog 53 0 [] [.agg [.p (.int .i64 (↑N:Int)),.p (.seq true 2 0 (fun i=>[.int .i64 0,.int .i64 0]))]] [] (.p (.bool true)),((!true)=false),(AN n),(AP n (fun i=>[.int .i64 ((S i).1),.int .i64 ((S i).2.1),.int .i64 ((S i).2.2.1),.int .i64 ((S i).2.2.2.1),.int .i64 ((S i).2.2.2.2.1)])),(AN 0),(AN 0),((0:Int)=(↑0:Int)),((((List.map (fun v=>AV.p (absV v)) [Value.int IntKind.i64 0,Value.slice none 0 0]).length):Nat)=2),(NL 1 1),(NL 1 1),(AI 0),((((List.map (fun v=>AV.p (absV v)) [Value.int IntKind.i64 0,Value.slice none 0 0]).length):Nat)=2),(NL 1 1),(NL 1 1),(AI ((↑N:Int))),(AN 0),(AN 0),(AN 2),(NL 0 0),(∀ i:Nat,(((i:Nat)<0)→(All []∧(([.p (.int .i64 0),.p (.int .i64 0)]:List AV)=[.p (.int .i64 ((g i).1)),.p (.int .i64 ((g i).2.1))]))))]):=by kernel_rfl
theorem busF (n:Nat) (S:Nat→T_Step) (N nb:Nat) (g:Nat→T_Bar) (i m:Nat) (h:Nat→T_Bar) :
    pathOb Tryz.prog Tryz.f81 0 [rg 4,.dec true,rm [(5,oc [(0,brOb m h)] (zf127 N m))] 6,rg 2,.dec true,rg 3] zf57 (BuS n S N nb g i) [] 1 [] (zf129) =
    some [((decide ((↑i:Int)<(↑n:Int)))=true),(NT 0 1),(IL 0 (↑i:Int)),(IT (↑i:Int) (↑n:Int)),(AN 2),(NL nb nb),Con Tryz.prog 195 0 [] [(zf111 N nb g),(zf52 S i)] (zf119 m h) (.tup [.agg [.p (.int .i64 (↑N:Int)),.ar 2 0 0 m],.p (.bool false)]),(NT 0 1),((true=true)→ (AN 1)),((!false)=true),(NT 0 1),((true=true)→ (AN 1)),(NT 0 1),(AI 0),(AN 0),(false=false)]:=by kernel_rfl
theorem busT (n:Nat) (S:Nat→T_Step) (N nb:Nat) (g:Nat→T_Bar) (i m:Nat) (h:Nat→T_Bar) :
    pieceOb Tryz.prog 0 [rg 4,.dec true,rm [(5,oc [(0,brOb m h)] (zf128 N m))] 6,rg 2,.dec false,rg 2,rg 3,.head] zf57 (BuS n S N nb g i) [0,1,291] 1 (BuS n S N m h (i+1)) =
    some (zf57,[((decide ((↑i:Int)<(↑n:Int)))=true),(NT 0 1),(IL 0 (↑i:Int)),(IT (↑i:Int) (↑n:Int)),(AN 2),(NL nb nb),Con Tryz.prog 195 0 [] [(zf111 N nb g),(zf52 S i)] (zf119 m h) ((zf124 N m)),(NT 0 1),((true=true)→ (AN 1)),((!true)=false),(NT 0 1),(NT 0 1),((true=true)→ (AN 1)),(ZLo ((↑i:Int)+1)),(ZHi ((↑i:Int)+1)),(AN n),(AP n (fun i_1=>[.int .i64 ((S i_1).1),.int .i64 ((S i_1).2.1),.int .i64 ((S i_1).2.2.1),.int .i64 ((S i_1).2.2.2.1),.int .i64 ((S i_1).2.2.2.2.1)])),(AN 0),(AN 0),((((↑i:Int)+1):Int)=(↑(i+1):Int)),(AN 2),(NL 1 1),(NL 1 1),(AI 0),(AN 2),(NL 1 1),(NL 1 1),(AI ((↑N:Int))),(AN 0),(AN m),(AN 2),(NL m m),(AA m (fun i_1=>[.p (.int .i64 ((h i_1).1)),.p (.int .i64 ((h i_1).2.1))]))]):=by kernel_rfl
theorem busE (n:Nat) (S:Nat→T_Step) (N nb:Nat) (g:Nat→T_Bar) (i:Nat) :
    pathOb Tryz.prog Tryz.f81 0 [rg 4,.dec false,rg 3] zf57 (BuS n S N nb g i) [2] 1 [(0,brOb nb g)] ((zf128 N nb)) =
    some [((decide ((↑i:Int)<(↑n:Int)))=false),(NT 0 1),(NT 0 1),((true=true)→ (AN 1)),(NT 0 1),(AI ((↑N:Int))),(AN 0),(AN nb),(true=true),(AN 2),(NL nb nb),(AA nb (fun i_1=>[.p (.int .i64 ((g i_1).1)),.p (.int .i64 ((g i_1).2.1))])),(AE nb)]:=by kernel_rfl
end Go.Proofs.YtkkjoghiigiokaaGreat.Mach
namespace Go.Proofs.YtkkjoghiigiokaaGreat.Mach
open Go
set_option linter.unusedVariables false
set_option linter.unusedSimpArgs false
theorem mem_lstB {n:Nat} {h:Nat→T_Bar} {x:T_Bar} (hx:x∈lstB n h):∃ i,i<n∧h i=x:=by
  obtain ⟨i,hi,e⟩:=List.mem_map.1 hx
  exact ⟨i,List.mem_range.1 hi,e⟩
theorem brX_in {a b N:Int} (ha:0≤a∧a<N) (hb:0≤b∧b<N) (hne:a≠b):0≤(brX a b).1∧(brX a b).1<(brX a b).2.1∧(brX a b).2.1<N:=by
  unfold brX
  by_cases h:b<a
  · simp only [if_pos h,if_neg (show ¬ b>a by omega)];omega
  · simp only [if_neg h,if_pos (show b>a by omega)];omega
theorem nbL_graph {N:Nat} {l:List T_Bar} (hN:1≤N∧N≤8) (hl:l.length≤24) (hx:∀ x∈l,0≤x.1∧x.1<x.2.1∧x.2.1<N):isGraphF ((N:Int),nbL (srtL l),())=true :=
  isG_list (nb:=0) (g:=fun _=>(0,0,())) hN (by rw [srtL_len];exact hl) (lstB_nbL (srtL l)) hx
theorem apD_ok {N nb:Nat} {g:Nat→T_Bar} (hg:isGraphF ((N:Int),(nb,g),())=true) (s:T_Step) (h:(apD N nb g s).2=true):isGraphF ((N:Int),(apD N nb g s).1,())=true:=by
  obtain ⟨hN,hnb,hok⟩:=graph_in hg
  unfold apD at h ⊢
  by_cases h21:nb≤21
  case neg=>rw [if_neg h21] at h;cases h
  rw [if_pos h21] at h ⊢
  cases hl:apL N nb g s with
  | none=>rw [hl] at h;cases h
  | some l =>
    show isGraphF ((N:Int),nbL l,())=true
    have hold:∀ x∈lstB nb g,0≤x.1∧x.1<x.2.1∧x.2.1<(N:Int):=by
      intro x hx
      obtain ⟨i,hi,rfl⟩:=mem_lstB hx
      exact hok i hi
    unfold apL at hl
    split at hl
    · split at hl
      · rename_i hc
        obtain rfl:=Option.some.inj hl
        have d0:=okD_in hc.2 0 (by omega)
        have d1:=okD_in hc.2 1 (by omega)
        refine nbL_graph hN (by rw [List.length_append,lstB_len];show nb+1≤_;omega) (fun x hx=>?_)
        rcases List.mem_append.1 hx with hx | hx
        · exact hold x hx
        · simp only [List.mem_cons,List.not_mem_nil,or_false] at hx
          subst hx
          exact brX_in ⟨d0.1,d0.2.1⟩ ⟨d1.1,d1.2.1⟩ (d1.2.2 0 (by omega))
      · cases hl
    · split at hl
      · split at hl
        · rename_i hc
          obtain rfl:=Option.some.inj hl
          have d0:=okD_in hc.2.1 0 (by omega)
          have d1:=okD_in hc.2.1 1 (by omega)
          have d2:=okD_in hc.2.1 2 (by omega)
          refine nbL_graph hN (by rw [List.length_append,lstB_len];show nb+2≤_;omega) (fun x hx=>?_)
          rcases List.mem_append.1 hx with hx | hx
          · exact hold x hx
          · simp only [List.mem_cons,List.not_mem_nil,or_false] at hx
            rcases hx with rfl | rfl
            · exact brX_in ⟨d0.1,d0.2.1⟩ ⟨d1.1,d1.2.1⟩ (d1.2.2 0 (by omega))
            · exact brX_in ⟨d0.1,d0.2.1⟩ ⟨d2.1,d2.2.1⟩ (d2.2.2 0 (by omega))
        · cases hl
      · split at hl
        · split at hl
          · rename_i hc
            obtain rfl:=Option.some.inj hl
            have d0:=okD_in hc.2.1 0 (by omega)
            have d1:=okD_in hc.2.1 1 (by omega)
            have d2:=okD_in hc.2.1 2 (by omega)
            have d3:=okD_in hc.2.1 3 (by omega)
            refine nbL_graph hN (by rw [List.length_append,lstB_len];show nb - 1+3≤_;omega) (fun x hx=>?_)
            rcases List.mem_append.1 hx with hx | hx
            · obtain ⟨i,hi,rfl⟩:=mem_lstB hx
              unfold dlB
              split
              · exact hok i (by omega)
              · exact hok (i+1) (by omega)
            · simp only [List.mem_cons,List.not_mem_nil,or_false] at hx
              rcases hx with rfl | rfl | rfl
              · exact brX_in ⟨d0.1,d0.2.1⟩ ⟨d1.1,d1.2.1⟩ (d1.2.2 0 (by omega))
              · exact brX_in ⟨d0.1,d0.2.1⟩ ⟨d2.1,d2.2.1⟩ (d2.2.2 0 (by omega))
              · exact brX_in ⟨d0.1,d0.2.1⟩ ⟨d3.1,d3.2.1⟩ (d3.2.2 0 (by omega))
          · cases hl
        · cases hl
noncomputable def buL (N:Nat) (S:Nat→T_Step):Nat→Nat→NB→Option NB
  | 0,_,D=>some D
  | d+1,i,D=>if (apD N D.1 D.2 (S i)).2=true then buL N S d (i+1) (apD N D.1 D.2 (S i)).1 else none
def buH:Option NB→Hp
  | some D=>[(0,brOb D.1 D.2)]
  | none=>[]
def buR (N:Nat):Option NB→AV
  | some D=>.tup [.agg [.p (.int .i64 N),.ar 2 0 0 D.1],.p (.bool true)]
  | none=>.tup [.agg [.p (.int .i64 0),.ar 2 0 0 0],.p (.bool false)]
noncomputable def buF (M:Int) (n:Nat) (S:Nat→T_Step):Option NB:=if inB M 1 8=true then buL M.toNat S n 0 (0,fun _=>(0,0,())) else none
theorem isG_zero {N:Nat} (hN:1≤N∧N≤8):isGraphF ((N:Int),((0:Nat),(fun _=>(0,0,()):Nat→T_Bar)),())=true :=
  isG_of hN (by omega) (fun e he=>absurd he (Nat.not_lt_zero _)) (fun s hs=>absurd hs (by omega))
theorem buL_ok {N:Nat} {S:Nat→T_Step}:∀ d i (D R:NB),isGraphF ((N:Int),D,())=true→buL N S d i D=some R→isGraphF ((N:Int),R,())=true
  | 0,_,D,R,hD,h=>by rw [← Option.some.inj h];exact hD
  | d+1,i,D,R,hD,h=>by
    rw [buL] at h
    split at h
    · rename_i hk
      exact buL_ok d (i+1) _ R (apD_ok hD (S i) hk) h
    · cases h
theorem con_Build_i (M:Int) (n:Nat) (S:Nat→T_Step) (hn:n≤1048576) :
    Con Tryz.prog 91 0 [] [.p (.int .i64 M),stpL n S] (buH (buF M n S)) (buR M.toNat (buF M n S)):=by
  have cw:=con_within M 1 8
  unfold buF
  cases hb:inB M 1 8 with
  | false =>
    rw [hb] at cw
    rw [if_neg Bool.false_ne_true]
    refine csZ Tryz.func91 (fun c hc=>?_)
    refine pkZ Tryz.func91 hc (buiN M n S) ?_
    repeat' (first | exact aN | apply aI)
    all_goals (first | omega | rfl | (intros;first | assumption | exact trivial | rfl | exact fT ‹_›) | (exact cw) | (simp;done))
  | true =>
    rw [hb] at cw
    rw [if_pos rfl]
    simp only [inB,Bool.and_eq_true,decide_eq_true_eq] at hb
    obtain ⟨N,rfl⟩:=Int.eq_ofNat_of_zero_le (show 0≤M by omega)
    have hN:1≤N∧N≤8:=by omega
    rw [Int.toNat_natCast]
    generalize hR:buL N S n 0 (0,fun _=>(0,0,()))=R
    refine csZ Tryz.func91 (fun c hc=>?_)
    have lo:∀ d i (D:NB),i+d=n→isGraphF ((N:Int),D,())=true→buL N S d i D=R→Run Tryz.prog c 91 zf56 (BuI n S N D.1 D.2 i) (Post c (buH R) (buR N R)):=by
      intro d
      induction d with
      | zero =>
        intro i D hi hD hL
        obtain rfl:i=n:=by omega
        have hd:decide ((i:Int)<(i:Int))=false:=by simp
        rw [← hL]
        refine pkZ Tryz.func91 hc (buiE i S N D.1 D.2 i) ?_
        repeat' (first | exact aN | apply aI)
        all_goals (first | exact aA _ _ | exact aE _ | omega | rfl | (intros;first | assumption | exact trivial | rfl | exact fT ‹_›) | (exact hd) | (intro j hj;simp [All];done) | (simp;done))
      | succ d ih =>
        intro i D hi hD hL
        have hd:decide ((i:Int)<(n:Int))=true:=decide_eq_true (by omega)
        have ca:=con_Apply_i (N:=N) (nb:=D.1) (g:=D.2) hD (S i)
        rw [buL] at hL
        unfold apR at ca
        cases hk:(apD N D.1 D.2 (S i)).2 with
        | false =>
          rw [hk] at ca
          rw [hk,if_neg Bool.false_ne_true] at hL
          rw [← hL]
          generalize (apD N D.1 D.2 (S i)).1=E at ca
          refine pkZ Tryz.func91 hc (buiF n S N D.1 D.2 i E.1 E.2) ?_
          repeat' (first | exact aN | apply aI)
          all_goals (first | omega | rfl | (intros;first | assumption | exact trivial | rfl | exact fT ‹_›) | (exact hd) | (exact ca) | (intro j hj;simp [All];done) | (simp;done))
        | true =>
          have hE:=apD_ok (N:=N) (nb:=D.1) (g:=D.2) hD (S i) hk
          rw [hk] at ca
          rw [hk,if_pos rfl] at hL
          generalize (apD N D.1 D.2 (S i)).1=E at ca hL hE
          refine pcZ hc (buiT n S N D.1 D.2 i E.1 E.2) ?_ (ih (i+1) E (by omega) hE hL)
          repeat' (first | exact aN | apply aI)
          all_goals (first | exact aP _ _ | exact aA _ _ | omega | rfl | (intros;first | assumption | exact trivial | rfl | exact fT ‹_›) | (exact hd) | (exact ca) | (intro j hj;simp [All];done) | (simp;done))
    refine pcZ hc (buiZ N n S (fun _=>(0,0,()))) ?_ (lo n 0 (0,fun _=>(0,0,())) (by omega) (isG_zero hN) hR)
    repeat' (first | exact aN | apply aI)
    all_goals (first | exact aP _ _ | omega | rfl | (intros;first | assumption | exact trivial | rfl | exact fT ‹_›) | (exact cw) | (intro j hj;exact absurd hj (Nat.not_lt_zero _)) | (intro j hj;simp [All];done) | (simp;done))
theorem isG_z (M:Int):isGraphF (M,((0:Nat),(fun _=>(0,0,()):Nat→T_Bar)),())=inB M 1 8:=by
  by_cases hb:inB M 1 8=true
  · rw [isGraphF,if_pos ⟨hb,Nat.zero_le _⟩,hb];rfl
  · rw [isGraphF,if_neg (fun h=>hb h.1)];exact (Bool.eq_false_iff.2 hb).symm
theorem con_Build_s (M:Int) (n:Nat) (S:Nat→T_Step) (hn:n≤1048576) :
    Con Tryz.prog 81 0 [] [.p (.int .i64 M),stpL n S] (buH (buF M n S)) (buR M.toNat (buF M n S)):=by
  have cw:=con_IsGraph_s (M,((0:Nat),(fun _=>(0,0,()):Nat→T_Bar)),()) (sm_graph (by show 0≤_;omega))
  rw [isG_z] at cw
  unfold buF
  cases hb:inB M 1 8 with
  | false =>
    rw [hb] at cw
    rw [if_neg Bool.false_ne_true]
    refine csZ Tryz.func81 (fun c hc=>?_)
    refine pkZ Tryz.func81 hc (busN M n S) ?_
    repeat' (first | exact aN | apply aI)
    all_goals (first | omega | rfl | (intros;first | assumption | exact trivial | rfl | exact fT ‹_›) | (exact cw) | (simp;done))
  | true =>
    rw [hb] at cw
    rw [if_pos rfl]
    simp only [inB,Bool.and_eq_true,decide_eq_true_eq] at hb
    obtain ⟨N,rfl⟩:=Int.eq_ofNat_of_zero_le (show 0≤M by omega)
    have hN:1≤N∧N≤8:=by omega
    rw [Int.toNat_natCast]
    generalize hR:buL N S n 0 (0,fun _=>(0,0,()))=R
    refine csZ Tryz.func81 (fun c hc=>?_)
    have lo:∀ d i (D:NB),i+d=n→isGraphF ((N:Int),D,())=true→buL N S d i D=R→Run Tryz.prog c 81 zf57 (BuS n S N D.1 D.2 i) (Post c (buH R) (buR N R)):=by
      intro d
      induction d with
      | zero =>
        intro i D hi hD hL
        obtain rfl:i=n:=by omega
        have hd:decide ((i:Int)<(i:Int))=false:=by simp
        rw [← hL]
        refine pkZ Tryz.func81 hc (busE i S N D.1 D.2 i) ?_
        repeat' (first | exact aN | apply aI)
        all_goals (first | exact aA _ _ | exact aE _ | omega | rfl | (intros;first | assumption | exact trivial | rfl | exact fT ‹_›) | (exact hd) | (intro j hj;simp [All];done) | (simp;done))
      | succ d ih =>
        intro i D hi hD hL
        have hd:decide ((i:Int)<(n:Int))=true:=decide_eq_true (by omega)
        have ca:=con_Apply_s (N:=N) (nb:=D.1) (g:=D.2) hD (S i)
        rw [buL] at hL
        unfold apR at ca
        cases hk:(apD N D.1 D.2 (S i)).2 with
        | false =>
          rw [hk] at ca
          rw [hk,if_neg Bool.false_ne_true] at hL
          rw [← hL]
          generalize (apD N D.1 D.2 (S i)).1=E at ca
          refine pkZ Tryz.func81 hc (busF n S N D.1 D.2 i E.1 E.2) ?_
          repeat' (first | exact aN | apply aI)
          all_goals (first | omega | rfl | (intros;first | assumption | exact trivial | rfl | exact fT ‹_›) | (exact hd) | (exact ca) | (intro j hj;simp [All];done) | (simp;done))
        | true =>
          have hE:=apD_ok (N:=N) (nb:=D.1) (g:=D.2) hD (S i) hk
          rw [hk] at ca
          rw [hk,if_pos rfl] at hL
          generalize (apD N D.1 D.2 (S i)).1=E at ca hL hE
          refine pcZ hc (busT n S N D.1 D.2 i E.1 E.2) ?_ (ih (i+1) E (by omega) hE hL)
          repeat' (first | exact aN | apply aI)
          all_goals (first | exact aP _ _ | exact aA _ _ | omega | rfl | (intros;first | assumption | exact trivial | rfl | exact fT ‹_›) | (exact hd) | (exact ca) | (intro j hj;simp [All];done) | (simp;done))
    refine pcZ hc (busZ N n S (fun _=>(0,0,()))) ?_ (lo n 0 (0,fun _=>(0,0,())) (by omega) (isG_zero hN) hR)
    repeat' (first | exact aN | apply aI)
    all_goals (first | exact aP _ _ | omega | rfl | (intros;first | assumption | exact trivial | rfl | exact fT ‹_›) | (exact cw) | (intro j hj;exact absurd hj (Nat.not_lt_zero _)) | (intro j hj;simp [All];done) | (simp;done) | (simp only [All];first | exact aP _ _ | omega | rfl | (intros;first | assumption | exact trivial | rfl | exact fT ‹_›) | (exact cw) | (intro j hj;exact absurd hj (Nat.not_lt_zero _)) | (intro j hj;simp [All];done) | (simp;done)))
end Go.Proofs.YtkkjoghiigiokaaGreat.Mach
namespace Go.Proofs.YtkkjoghiigiokaaGreat.Mach
open Go
set_option linter.unusedVariables false
set_option linter.unusedSimpArgs false
def eqGr (v u:T_Graph):Bool:=bif v.1==u.1 then q_BarS v.2.1 u.2.1 else false
def SEg9 (v u:T_Graph) (k:Nat):St :=
  ⟨[graphA v,graphA u,.pt 2 0 0 0,.pt 2 1 0 0,.p .any,.p (.int .i64 k)]++List.replicate 32 anyA,[(0,boxG v),(1,boxG u)],2⟩
theorem eg9z (v u:T_Graph) :
    pathOb Tryz.prog Tryz.f83 0 [rg 3,rg 14,.dec true,rg 1] [.code (bodyOf Tryz.f83)] (start Tryz.f83 [] 0 [graphA v,graphA u]) [] 1 [] (.p (.bool false)) =
    some [(NT 0 1),(NT 0 1),(AG (!v.1 != u.1)),(((!v.1 != u.1)=true)→(NT 0 1)),(AG (!v.1 != u.1)),(AG (!v.1 != u.1)),(((!v.1 != u.1)=true)→(NT 0 1)),(AG (!v.1 != u.1)),(AG (!v.1 != u.1)),(AG (!v.1 != u.1)),(((v.1 != u.1)=false)→ ((!v.1 != u.1)=true)),((bif v.1 != u.1 then true else (↑v.2.1.1:Int) != (↑u.2.1.1:Int))=true),(false=false)]:=by kernel_rfl
theorem eg9a (v u:T_Graph) :
    pieceOb Tryz.prog 0 [rg 3,rg 14,.dec false,rg 1,.head] [.code (bodyOf Tryz.f83)] (start Tryz.f83 [] 0 [graphA v,graphA u]) [0,32] 1 (SEg9 v u 0) =
    some (zf87,[(NT 0 1),(NT 0 1),(AG (!v.1 != u.1)),(((!v.1 != u.1)=true)→(NT 0 1)),(AG (!v.1 != u.1)),(AG (!v.1 != u.1)),(((!v.1 != u.1)=true)→(NT 0 1)),(AG (!v.1 != u.1)),(AG (!v.1 != u.1)),(AG (!v.1 != u.1)),(((v.1 != u.1)=false)→ ((!v.1 != u.1)=true)),((bif v.1 != u.1 then true else (↑v.2.1.1:Int) != (↑u.2.1.1:Int))=false),(AI v.1),(AN v.2.1.1),(AP v.2.1.1 (fun i=>[.int .i64 ((v.2.1.2 i).1),.int .i64 ((v.2.1.2 i).2.1)])),(AI u.1),(AN u.2.1.1),(AP u.2.1.1 (fun i=>[.int .i64 ((u.2.1.2 i).1),.int .i64 ((u.2.1.2 i).2.1)])),(AN 0),(AN 0),((0:Int)=(↑0:Int)),((([AV.p (PV.int IntKind.i64 v.1),graphL v.2.1].length):Nat)=2),(NL 1 1),(NL 1 1),(AI v.1),(AN v.2.1.1),(AP v.2.1.1 (fun i=>[.int .i64 ((v.2.1.2 i).1),.int .i64 ((v.2.1.2 i).2.1)])),((([AV.p (PV.int IntKind.i64 u.1),graphL u.2.1].length):Nat)=2),(NL 1 1),(NL 1 1),(AI u.1),(AN u.2.1.1),(AP u.2.1.1 (fun i=>[.int .i64 ((u.2.1.2 i).1),.int .i64 ((u.2.1.2 i).2.1)]))]):=by kernel_rfl
theorem eg9b (v u:T_Graph) (k:Nat) :
    pieceOb Tryz.prog 0 [rg 5,.dec true,rg 11,.dec false,rg 3,.head] zf87 (SEg9 v u k) [0,1] 1 (SEg9 v u (k+1)) =
    some (zf87,[(NT 0 1),((decide ((↑k:Int)<(↑v.2.1.1:Int)))=true),(NT 0 1),(IL 0 (↑k:Int)),(IT (↑k:Int) (↑v.2.1.1:Int)),(NT 0 1),(IL 0 (↑k:Int)),(IT (↑k:Int) (↑u.2.1.1:Int)),((!((v.2.1.2 k).1==(u.2.1.2 k).1&&((v.2.1.2 k).2.1==(u.2.1.2 k).2.1&&true)))=false),(ZLo ((↑k:Int)+1)),(ZHi ((↑k:Int)+1)),(AI v.1),(AN v.2.1.1),(AP v.2.1.1 (fun i=>[.int .i64 ((v.2.1.2 i).1),.int .i64 ((v.2.1.2 i).2.1)])),(AI u.1),(AN u.2.1.1),(AP u.2.1.1 (fun i=>[.int .i64 ((u.2.1.2 i).1),.int .i64 ((u.2.1.2 i).2.1)])),(AN 0),(AN 0),((((↑k:Int)+1):Int)=(↑(k+1):Int)),(AN 2),(NL 1 1),(NL 1 1),(AI v.1),(AN v.2.1.1),(AP v.2.1.1 (fun i=>[.int .i64 ((v.2.1.2 i).1),.int .i64 ((v.2.1.2 i).2.1)])),(AN 2),(NL 1 1),(NL 1 1),(AI u.1),(AN u.2.1.1),(AP u.2.1.1 (fun i=>[.int .i64 ((u.2.1.2 i).1),.int .i64 ((u.2.1.2 i).2.1)]))]):=by kernel_rfl
theorem eg9c (v u:T_Graph) (k:Nat) :
    pathOb Tryz.prog Tryz.f83 0 [rg 5,.dec true,rg 11,.dec true,rg 1] zf87 (SEg9 v u k) [] 1 [] (.p (.bool false)) =
    some [(NT 0 1),((decide ((↑k:Int)<(↑v.2.1.1:Int)))=true),(NT 0 1),(IL 0 (↑k:Int)),(IT (↑k:Int) (↑v.2.1.1:Int)),(NT 0 1),(IL 0 (↑k:Int)),(IT (↑k:Int) (↑u.2.1.1:Int)),((!((v.2.1.2 k).1==(u.2.1.2 k).1&&((v.2.1.2 k).2.1==(u.2.1.2 k).2.1&&true)))=true),(false=false)]:=by kernel_rfl
theorem eg9d (v u:T_Graph) (k:Nat) :
    pathOb Tryz.prog Tryz.f83 0 [rg 5,.dec false,rg 1] zf87 (SEg9 v u k) [] 1 [] (.p (.bool true)) =
    some [(NT 0 1),((decide ((↑k:Int)<(↑v.2.1.1:Int)))=false),(true=true)]:=by kernel_rfl
theorem eg52 (v u:T_Graph) :
    pathOb Tryz.prog Tryz.f92 0 [rg 3,rm [(10,oc [] (.p (.bool (q_BarS v.2.1 u.2.1))))] 2] [.code (bodyOf Tryz.f92)] (start Tryz.f92 [] 0 [graphA v,graphA u]) [] 1 [] (.p (.bool (eqGr v u))) =
    some [(NT 0 1),(NT 0 1),(AG (v.1==u.1)),(((v.1==u.1)=true)→(NT 0 1)),(AG (v.1==u.1)),(((v.1==u.1)=true)→(NT 0 1)),(AG (v.1==u.1)),(AG (v.1==u.1)),(((v.1==u.1)=true)→ Con Tryz.prog 202 0 [] [.p (.seq true 2 v.2.1.1 (fun i=>[.int .i64 ((v.2.1.2 i).1),.int .i64 ((v.2.1.2 i).2.1)])),.p (.seq true 2 u.2.1.1 (fun i=>[.int .i64 ((u.2.1.2 i).1),.int .i64 ((u.2.1.2 i).2.1)]))] [] (.p (.bool (q_BarS v.2.1 u.2.1)))),(AG (v.1==u.1)),((bif v.1==u.1 then q_BarS v.2.1 u.2.1 else false)=(eqGr v u))]:=by kernel_rfl
theorem con_EqualGraphs_s (v u:T_Graph) (hn:v.2.1.1≤1048576):Con Tryz.prog 83 0 [] [graphA v,graphA u] [] (.p (.bool (eqGr v u))):=by
  refine csZ Tryz.func83 (fun c hc=>?_)
  by_cases hz:v.1=u.1∧v.2.1.1=u.2.1.1
  · rw [show eqGr v u=qT_BarS v.2.1.2 u.2.1.2 v.2.1.1 by simp [eqGr,q_BarS,hz.1,hz.2]]
    have lp:∀ m k,k+m=v.2.1.1→qT_BarS v.2.1.2 u.2.1.2 k=true→Run Tryz.prog c 83 zf87 (SEg9 v u k) (Post c [] (.p (.bool (qT_BarS v.2.1.2 u.2.1.2 v.2.1.1)))):=by
      intro m
      induction m with
      | zero =>
        intro k hk hg
        rw [show qT_BarS v.2.1.2 u.2.1.2 v.2.1.1=true by rw [show v.2.1.1=k by omega];exact hg]
        have hd:decide ((k:Int)<(v.2.1.1:Int))=false:=by simp;omega
        refine pkZ Tryz.func83 hc (eg9d v u k) ?_
        repeat' (first | exact aN | apply aI)
        all_goals (first | omega | rfl | (intros;first | assumption | exact trivial | rfl))
      | succ m ih =>
        intro k hk hg
        have hd:decide ((k:Int)<(v.2.1.1:Int))=true:=by simp;omega
        cases he:q1_BarS (v.2.1.2 k) (u.2.1.2 k) with
        | false =>
          rw [qT_BarS_bad _ _ k he v.2.1.1 (by omega)]
          have he':(!q1_BarS (v.2.1.2 k) (u.2.1.2 k))=true:=notf he
          refine pkZ Tryz.func83 hc (eg9c v u k) ?_
          repeat' (first | exact aN | apply aI)
          all_goals (first | omega | rfl | (intros;first | assumption | exact trivial | rfl) | exact he')
        | true =>
          have he':(!q1_BarS (v.2.1.2 k) (u.2.1.2 k))=false:=nott he
          refine pcZ hc (eg9b v u k) ?_ (ih (k+1) (by omega) (by simp [qT_BarS,hg,he]))
          repeat' (first | exact aN | apply aI)
          all_goals (first | exact aP _ _ | omega | rfl | (intros;first | assumption | exact trivial | rfl) | exact he' | (simp [All]))
    refine pcZ hc (eg9a v u) ?_ (lp v.2.1.1 0 (by omega) rfl)
    repeat' (first | exact aN | apply aI)
    all_goals (first | exact aG _ | exact aP _ _ | omega | rfl | (intros;first | assumption | exact trivial | rfl | exact fT ‹_› | ((repeat' (first | assumption | apply anda | apply notf));done)) | (intro h;simp [h]) | (simp [hz.1,hz.2]) | (simp [All]))
  · have hr:eqGr v u=false:=by
      simp only [eqGr,q_BarS]
      by_cases h1:v.1=u.1
      · have h2:¬ v.2.1.1=u.2.1.1:=fun h=>hz ⟨h1,h⟩
        simp [h1,h2]
      · have:(v.1==u.1)=false:=by simpa using h1
        rw [this];rfl
    rw [hr]
    have hb:(bif v.1 != u.1 then true else (v.2.1.1:Int) != (u.2.1.1:Int))=true:=by
      by_cases h1:v.1=u.1
      · have h2:¬ v.2.1.1=u.2.1.1:=fun h=>hz ⟨h1,h⟩
        simp [h1];omega
      · simp [h1]
    refine pkZ Tryz.func83 hc (eg9z v u) ?_
    repeat' (first | exact aN | apply aI)
    all_goals (first | exact aG _ | omega | rfl | (intros;first | assumption | exact trivial | rfl | exact fT ‹_› | ((repeat' (first | assumption | apply anda | apply notf));done)))
theorem con_EqualGraphs_i (v u:T_Graph) (hn:v.2.1.1≤1048576):Con Tryz.prog 92 0 [] [graphA v,graphA u] [] (.p (.bool (eqGr v u))):=by
  refine csZ Tryz.func92 (fun c hc=>?_)
  refine pkZ Tryz.func92 hc (eg52 v u) ?_
  repeat' (first | exact aN | apply aI)
  all_goals (first | exact aG _ | omega | rfl | (intros;first | assumption | exact trivial | rfl | exact fT ‹_›) | (intros;exact con_seBarS v.2.1 u.2.1 hn))
end Go.Proofs.YtkkjoghiigiokaaGreat.Mach
namespace Go.Proofs.YtkkjoghiigiokaaGreat.Mach
open Go
set_option linter.unusedVariables false
set_option linter.unusedSimpArgs false
def mkO (n:Nat) (m:Nat→Bool):Ob:=⟨false,1,n,fun i=>[.p (.bool (m i))]⟩
def g1B (g1:Nat→T_Bar) (nb1:Nat) (N1:Int):Ob:=⟨true,2,1,fun _=>[.p (.int .i64 N1),brL g1 nb1]⟩
def CkA (g1:Nat→T_Bar) (nb1:Nat) (N1:Int) (D:NB) (i:Nat):St :=
  ⟨[.p .any,.p .any,.p .any,.pt 2 0 0 0]++List.replicate 49 anyA++[.ar 2 1 0 D.1,.p (.int .i64 D.1),.p (.int .i64 i)]++List.replicate 107 anyA,[(0,g1B g1 nb1 N1),(1,brOb D.1 D.2)],2⟩
def CkB (g1:Nat→T_Bar) (nb1:Nat) (N1:Int) (s:Int) (m:Nat→Bool) (cn:Nat) (C:Nat→T_IntS) (i:Nat):St :=
  ⟨[.p .any,.p .any,.p .any,.pt 2 0 0 0,.p .any,.p .any,.p .any,.p .any,.p .any,.p .any,.p (.int .i64 s),.ar 1 1 0 nb1]++List.replicate 71 anyA++[.ar 1 2 0 cn,.p (.int .i64 cn),.p (.int .i64 i)]++List.replicate 77 anyA,[(0,g1B g1 nb1 N1),(1,mkO nb1 m),(2,ssOb cn C)],3⟩
def CkC (g1:Nat→T_Bar) (nb1:Nat) (N1:Int) (s:Int) (m:Nat→Bool) (cn:Nat) (C:Nat→T_IntS) (i:Nat) (T:T_IntS) (t:Nat):St :=
  ⟨[.p .any,.p .any,.p .any,.pt 2 0 0 0,.p .any,.p .any,.p .any,.p .any,.p .any,.p .any,.p (.int .i64 s),.ar 1 1 0 nb1]++List.replicate 71 anyA++[.ar 1 2 0 cn,.p (.int .i64 cn),.p (.int .i64 i)]++List.replicate 11 anyA++[.ar 1 3 0 T.1,.p (.int .i64 T.1),.p (.int .i64 t)]++List.replicate 63 anyA,[(0,g1B g1 nb1 N1),(1,mkO nb1 m),(2,ssOb cn C),(3,iOb T.1 T.2)],4⟩
theorem ck1g (K:Int) (g1:Nat→T_Bar) (nb1:Nat) (N1:Int) (g:Nat→T_Bar) (nb:Nat) (N:Int) (pl:Nat→T_Place) (np:Nat) (w:T_IntS) (v:T_StepS) (u:T_IntS) :
    pathOb Tryz.prog Tryz.f23 0 [rg 2,rg 4,rg 2,rg 2,.dec true,.dec true,rm [(1,oc [] (.p (.bool false)))] 1,.dec true,rg 1] [.code (bodyOf Tryz.f23)] (start Tryz.f23 [] 0 [clA K g1 nb1 N1 g nb N pl np w v u]) [] 1 [] (.p (.bool false)) =
    some [(NT 0 1),(NT 0 1),((true=true)→ (AN 1)),(NT 0 1),((K==1)=true),((K==1)=true),(NT 0 1),Con Tryz.prog 62 0 [] [(zf116 N1 nb1 g1)] [] (.p (.bool false)),((!false)=true),(false=false)]:=by kernel_rfl
theorem ck1b (K:Int) (g1:Nat→T_Bar) (nb1:Nat) (N1:Int) (g:Nat→T_Bar) (nb:Nat) (N:Int) (pl:Nat→T_Place) (np:Nat) (w:T_IntS) (v:T_StepS) (u:T_IntS) :
    pathOb Tryz.prog Tryz.f23 0 [rg 2,rg 4,rg 2,rg 2,.dec true,.dec true,rm [(1,oc [] (.p (.bool true)))] 1,.dec false,rm [(4,oc [] zf129)] 6,rm [(3,gF),(0,gF),(0,gF),(0,gF),(0,gF),(0,gF),(0,gF),(0,gF),(0,gT)] 0,.dec true,rg 1] [.code (bodyOf Tryz.f23)] (start Tryz.f23 [] 0 [clA K g1 nb1 N1 g nb N pl np w v u]) [] 1 [] (.p (.bool false)) =
    some [(NT 0 1),(NT 0 1),((true=true)→ (AN 1)),(NT 0 1),((K==1)=true),((K==1)=true),(NT 0 1),Con Tryz.prog 62 0 [] [(zf116 N1 nb1 g1)] [] (.p (.bool true)),((!true)=false),(NT 0 1),(NT 0 1),Con Tryz.prog 91 0 [] [.p (.int .i64 N1),.p (.seq true 5 v.1 (fun i=>[.int .i64 ((v.2 i).1),.int .i64 ((v.2 i).2.1),.int .i64 ((v.2 i).2.2.1),.int .i64 ((v.2 i).2.2.2.1),.int .i64 ((v.2 i).2.2.2.2.1)]))] [] (zf129),(NT 0 1),((true=true)→ (AN 1)),((!!false)=false),((!!false)=false),((!!false)=false),((!!false)=false),((!!false)=false),((!!false)=false),((!!false)=false),((!!false)=false),((!false)=true),(true=true),(false=false)]:=by kernel_rfl
theorem ck1c (K:Int) (g1:Nat→T_Bar) (nb1:Nat) (N1:Int) (g:Nat→T_Bar) (nb:Nat) (N:Int) (pl:Nat→T_Place) (np:Nat) (w:T_IntS) (v:T_StepS) (u:T_IntS) (D:NB) :
    pathOb Tryz.prog Tryz.f23 0 [rg 2,rg 4,rg 2,rg 2,.dec true,.dec true,rm [(1,oc [] (.p (.bool true)))] 1,.dec false,rm [(4,oc [(0,brOb D.1 D.2)] (zf126 N1 D))] 6,rm [(3,gT),(0,gT),(0,gT),(0,gT),(0,gT),(0,gT),(0,gT),(0,gT),(0,gF)] 0,.dec true,rg 1] [.code (bodyOf Tryz.f23)] (start Tryz.f23 [] 0 [clA K g1 nb1 N1 g nb N pl np w v u]) [] 1 [] (.p (.bool false)) =
    some [(NT 0 1),(NT 0 1),((true=true)→ (AN 1)),(NT 0 1),((K==1)=true),((K==1)=true),(NT 0 1),Con Tryz.prog 62 0 [] [(zf116 N1 nb1 g1)] [] (.p (.bool true)),((!true)=false),(NT 0 1),(NT 0 1),Con Tryz.prog 91 0 [] [.p (.int .i64 N1),.p (.seq true 5 v.1 (fun i=>[.int .i64 ((v.2 i).1),.int .i64 ((v.2 i).2.1),.int .i64 ((v.2 i).2.2.1),.int .i64 ((v.2 i).2.2.2.1),.int .i64 ((v.2 i).2.2.2.2.1)]))] (zf120 D) ((zf126 N1 D)),(NT 0 1),((true=true)→ (AN 1)),((!!true)=true),((!!true)=true),(NT 0 1),((!!true)=true),((!!true)=true),((!!true)=true),(NT 0 1),((!!true)=true),(ZLo (2*N1)),(ZHi (2*N1)),((!!true)=true),(ZLo (2*N1 - 3)),(ZHi (2*N1 - 3)),((!!true)=true),((!true)=false),(((↑D.1:Int) != 2*N1 - 3)=true),(false=false)]:=by kernel_rfl
theorem ck6g (K:Int) (g1:Nat→T_Bar) (nb1:Nat) (N1:Int) (g:Nat→T_Bar) (nb:Nat) (N:Int) (pl:Nat→T_Place) (np:Nat) (w:T_IntS) (v:T_StepS) (u:T_IntS) :
    pathOb Tryz.prog Tryz.f23 0 [rg 2,rg 4,rg 2,rg 2,.dec false,rg 2,.dec true,rm [(1,oc [] (.p (.bool false)))] 1,.dec true,rg 1] [.code (bodyOf Tryz.f23)] (start Tryz.f23 [] 0 [clA K g1 nb1 N1 g nb N pl np w v u]) [] 1 [] (.p (.bool false)) =
    some [(NT 0 1),(NT 0 1),((true=true)→ (AN 1)),(NT 0 1),((K==1)=false),((K==6)=true),(NT 0 1),Con Tryz.prog 62 0 [] [(zf116 N1 nb1 g1)] [] (.p (.bool false)),((!false)=true),(false=false)]:=by kernel_rfl
theorem ck6b (K:Int) (g1:Nat→T_Bar) (nb1:Nat) (N1:Int) (g:Nat→T_Bar) (nb:Nat) (N:Int) (pl:Nat→T_Place) (np:Nat) (w:T_IntS) (v:T_StepS) (u:T_IntS) :
    pathOb Tryz.prog Tryz.f23 0 [rg 2,rg 4,rg 2,rg 2,.dec false,rg 2,.dec true,rm [(1,oc [] (.p (.bool true)))] 1,.dec false,rm [(4,oc [] zf129)] 6,rm [(3,gF),(0,gF),(0,gF),(0,gF),(0,gF),(0,gF),(0,gF),(0,gF),(0,gT)] 0,.dec true,rg 1] [.code (bodyOf Tryz.f23)] (start Tryz.f23 [] 0 [clA K g1 nb1 N1 g nb N pl np w v u]) [] 1 [] (.p (.bool false)) =
    some [(NT 0 1),(NT 0 1),((true=true)→ (AN 1)),(NT 0 1),((K==1)=false),((K==6)=true),(NT 0 1),Con Tryz.prog 62 0 [] [(zf116 N1 nb1 g1)] [] (.p (.bool true)),((!true)=false),(NT 0 1),(NT 0 1),Con Tryz.prog 91 0 [] [.p (.int .i64 N1),.p (.seq true 5 v.1 (fun i=>[.int .i64 ((v.2 i).1),.int .i64 ((v.2 i).2.1),.int .i64 ((v.2 i).2.2.1),.int .i64 ((v.2 i).2.2.2.1),.int .i64 ((v.2 i).2.2.2.2.1)]))] [] (zf129),(NT 0 1),((true=true)→ (AN 1)),((!!false)=false),((!!false)=false),((!!false)=false),((!!false)=false),((!!false)=false),((!!false)=false),((!!false)=false),((!!false)=false),((!false)=true),(true=true),(false=false)]:=by kernel_rfl
theorem ck6c (K:Int) (g1:Nat→T_Bar) (nb1:Nat) (N1:Int) (g:Nat→T_Bar) (nb:Nat) (N:Int) (pl:Nat→T_Place) (np:Nat) (w:T_IntS) (v:T_StepS) (u:T_IntS) (D:NB) :
    pathOb Tryz.prog Tryz.f23 0 [rg 2,rg 4,rg 2,rg 2,.dec false,rg 2,.dec true,rm [(1,oc [] (.p (.bool true)))] 1,.dec false,rm [(4,oc [(0,brOb D.1 D.2)] (zf126 N1 D))] 6,rm [(3,gT),(0,gT),(0,gT),(0,gT),(0,gT),(0,gT),(0,gT),(0,gT),(0,gF)] 0,.dec true,rg 1] [.code (bodyOf Tryz.f23)] (start Tryz.f23 [] 0 [clA K g1 nb1 N1 g nb N pl np w v u]) [] 1 [] (.p (.bool false)) =
    some [(NT 0 1),(NT 0 1),((true=true)→ (AN 1)),(NT 0 1),((K==1)=false),((K==6)=true),(NT 0 1),Con Tryz.prog 62 0 [] [(zf116 N1 nb1 g1)] [] (.p (.bool true)),((!true)=false),(NT 0 1),(NT 0 1),Con Tryz.prog 91 0 [] [.p (.int .i64 N1),.p (.seq true 5 v.1 (fun i=>[.int .i64 ((v.2 i).1),.int .i64 ((v.2 i).2.1),.int .i64 ((v.2 i).2.2.1),.int .i64 ((v.2 i).2.2.2.1),.int .i64 ((v.2 i).2.2.2.2.1)]))] (zf120 D) ((zf126 N1 D)),(NT 0 1),((true=true)→ (AN 1)),((!!true)=true),((!!true)=true),(NT 0 1),((!!true)=true),((!!true)=true),((!!true)=true),(NT 0 1),((!!true)=true),(ZLo (2*N1)),(ZHi (2*N1)),((!!true)=true),(ZLo (2*N1 - 3)),(ZHi (2*N1 - 3)),((!!true)=true),((!true)=false),(((↑D.1:Int) != 2*N1 - 3)=true),(false=false)]:=by kernel_rfl
theorem ck6e (K:Int) (g1:Nat→T_Bar) (nb1:Nat) (N1:Int) (g:Nat→T_Bar) (nb:Nat) (N:Int) (pl:Nat→T_Place) (np:Nat) (w:T_IntS) (v:T_StepS) (u:T_IntS) (D:NB) (q:Bool) :
    pathOb Tryz.prog Tryz.f23 0 [rg 2,rg 4,rg 2,rg 2,.dec false,rg 2,.dec true,rm [(1,oc [] (.p (.bool true)))] 1,.dec false,rm [(4,oc [(0,brOb D.1 D.2)] (zf126 N1 D))] 6,rm [(3,gT),(0,gT),(0,gT),(0,gT),(0,gT),(0,gT),(0,gT),(0,gT),(0,gF)] 0,.dec false,rg 3,.dec true,rm [(2,oc [] (.p (.bool q)))] 1] [.code (bodyOf Tryz.f23)] (start Tryz.f23 [] 0 [clA K g1 nb1 N1 g nb N pl np w v u]) [] 1 [] (.p (.bool q)) =
    some [(NT 0 1),(NT 0 1),((true=true)→ (AN 1)),(NT 0 1),((K==1)=false),((K==6)=true),(NT 0 1),Con Tryz.prog 62 0 [] [(zf116 N1 nb1 g1)] [] (.p (.bool true)),((!true)=false),(NT 0 1),(NT 0 1),Con Tryz.prog 91 0 [] [.p (.int .i64 N1),.p (.seq true 5 v.1 (fun i=>[.int .i64 ((v.2 i).1),.int .i64 ((v.2 i).2.1),.int .i64 ((v.2 i).2.2.1),.int .i64 ((v.2 i).2.2.2.1),.int .i64 ((v.2 i).2.2.2.2.1)]))] (zf120 D) ((zf126 N1 D)),(NT 0 1),((true=true)→ (AN 1)),((!!true)=true),((!!true)=true),(NT 0 1),((!!true)=true),((!!true)=true),((!!true)=true),(NT 0 1),((!!true)=true),(ZLo (2*N1)),(ZHi (2*N1)),((!!true)=true),(ZLo (2*N1 - 3)),(ZHi (2*N1 - 3)),((!!true)=true),((!true)=false),(((↑D.1:Int) != 2*N1 - 3)=false),(NT 0 1),((K==6)=true),(NT 0 1),(NT 0 1),(AN 2),(NL D.1 D.1),Con Tryz.prog 92 0 [] [(zf116 N1 nb1 g1),(zf114 N1 D)] [] (.p (.bool q)),(q=q)]:=by kernel_rfl
theorem ck1z (K:Int) (g1:Nat→T_Bar) (nb1:Nat) (N1:Int) (g:Nat→T_Bar) (nb:Nat) (N:Int) (pl:Nat→T_Place) (np:Nat) (w:T_IntS) (v:T_StepS) (u:T_IntS) (D:NB) :
    pieceOb Tryz.prog 0 [rg 2,rg 4,rg 2,rg 2,.dec true,.dec true,rm [(1,oc [] (.p (.bool true)))] 1,.dec false,rm [(4,oc [(0,brOb D.1 D.2)] (zf126 N1 D))] 6,rm [(3,gT),(0,gT),(0,gT),(0,gT),(0,gT),(0,gT),(0,gT),(0,gT),(0,gF)] 0,.dec false,rg 3,.dec false,rg 4,.head] [.code (bodyOf Tryz.f23)] (start Tryz.f23 [] 0 [clA K g1 nb1 N1 g nb N pl np w v u]) [128,544] 1 (CkA g1 nb1 N1 D 0) =
    some (zf20,[(NT 0 1),(NT 0 1),((true=true)→ (AN 1)),(NT 0 1),((K==1)=true),((K==1)=true),(NT 0 1),Con Tryz.prog 62 0 [] [(zf116 N1 nb1 g1)] [] (.p (.bool true)),((!true)=false),(NT 0 1),(NT 0 1),Con Tryz.prog 91 0 [] [.p (.int .i64 N1),.p (.seq true 5 v.1 (fun i=>[.int .i64 ((v.2 i).1),.int .i64 ((v.2 i).2.1),.int .i64 ((v.2 i).2.2.1),.int .i64 ((v.2 i).2.2.2.1),.int .i64 ((v.2 i).2.2.2.2.1)]))] (zf120 D) ((zf126 N1 D)),(NT 0 1),((true=true)→ (AN 1)),((!!true)=true),((!!true)=true),(NT 0 1),((!!true)=true),((!!true)=true),((!!true)=true),(NT 0 1),((!!true)=true),(ZLo (2*N1)),(ZHi (2*N1)),((!!true)=true),(ZLo (2*N1 - 3)),(ZHi (2*N1 - 3)),((!!true)=true),((!true)=false),(((↑D.1:Int) != 2*N1 - 3)=false),(NT 0 1),((K==6)=false),(NT 0 1),(AN 0),(AN 0),(AN D.1),(AI ((↑D.1:Int))),((0:Int)=(↑0:Int)),((((List.map (fun v=>AV.p (absV v)) [Value.int IntKind.i64 0,Value.slice none 0 0]).length):Nat)=2),(NL 1 1),(NL 1 1),(AI N1),(AN nb1),(AP nb1 (fun i=>[.int .i64 ((g1 i).1),.int .i64 ((g1 i).2.1)])),(AN 2),(NL D.1 D.1),(AA D.1 (fun i=>[.p (.int .i64 ((D.2 i).1)),.p (.int .i64 ((D.2 i).2.1))]))]):=by kernel_rfl
theorem ck2g (K:Int) (g1:Nat→T_Bar) (nb1:Nat) (N1:Int) (g:Nat→T_Bar) (nb:Nat) (N:Int) (pl:Nat→T_Place) (np:Nat) (w:T_IntS) (v:T_StepS) (u:T_IntS) :
    pathOb Tryz.prog Tryz.f23 0 [rg 2,rg 4,rg 2,rg 2,.dec false,rg 2,.dec false,rg 2,.dec true,rm [(1,oc [] (.p (.bool false)))] 1,.dec true,rg 1] [.code (bodyOf Tryz.f23)] (start Tryz.f23 [] 0 [clA K g1 nb1 N1 g nb N pl np w v u]) [] 1 [] (.p (.bool false)) =
    some [(NT 0 1),(NT 0 1),((true=true)→ (AN 1)),(NT 0 1),((K==1)=false),((K==6)=false),((K==2)=true),(NT 0 1),Con Tryz.prog 62 0 [] [(zf116 N1 nb1 g1)] [] (.p (.bool false)),((!false)=true),(false=false)]:=by kernel_rfl
theorem ck2b (K:Int) (g1:Nat→T_Bar) (nb1:Nat) (N1:Int) (g:Nat→T_Bar) (nb:Nat) (N:Int) (pl:Nat→T_Place) (np:Nat) (w:T_IntS) (v:T_StepS) (u:T_IntS) :
    pathOb Tryz.prog Tryz.f23 0 [rg 2,rg 4,rg 2,rg 2,.dec false,rg 2,.dec false,rg 2,.dec true,rm [(1,oc [] (.p (.bool true)))] 1,.dec false,rm [(3,oc [] (.tup [.p .nil,.p (.bool false)]))] 5,rg 2,.dec true,rg 1] [.code (bodyOf Tryz.f23)] (start Tryz.f23 [] 0 [clA K g1 nb1 N1 g nb N pl np w v u]) [] 1 [] (.p (.bool false)) =
    some [(NT 0 1),(NT 0 1),((true=true)→ (AN 1)),(NT 0 1),((K==1)=false),((K==6)=false),((K==2)=true),(NT 0 1),Con Tryz.prog 62 0 [] [(zf116 N1 nb1 g1)] [] (.p (.bool true)),((!true)=false),(NT 0 1),(NT 0 1),Con Tryz.prog 94 0 [] [(zf116 N1 nb1 g1),.p (.seq true 1 u.1 (fun i=>[.int .i64 (u.2 i)]))] [] (.tup [.p (.nil),.p (.bool false)]),((!false)=true),(false=false)]:=by kernel_rfl
theorem ck2z (K:Int) (g1:Nat→T_Bar) (nb1:Nat) (N1:Int) (g:Nat→T_Bar) (nb:Nat) (N:Int) (pl:Nat→T_Place) (np:Nat) (w:T_IntS) (v:T_StepS) (u:T_IntS) (cn:Nat) (C:Nat→T_IntS) :
    pieceOb Tryz.prog 0 [rg 2,rg 4,rg 2,rg 2,.dec false,rg 2,.dec false,rg 2,.dec true,rm [(1,oc [] (.p (.bool true)))] 1,.dec false,rm [(3,oc [(0,ssOb cn C)] (.tup [.ar 1 0 0 cn,.p (.bool true)]))] 5,rg 2,.dec false,rg 1,rg 5,rg 3,.head] [.code (bodyOf Tryz.f23)] (start Tryz.f23 [] 0 [clA K g1 nb1 N1 g nb N pl np w v u]) [128,1024,640] 1 (CkB g1 nb1 N1 0 (fun _=>false) cn C 0) =
    some (zf14,[(NT 0 1),(NT 0 1),((true=true)→ (AN 1)),(NT 0 1),((K==1)=false),((K==6)=false),((K==2)=true),(NT 0 1),Con Tryz.prog 62 0 [] [(zf116 N1 nb1 g1)] [] (.p (.bool true)),((!true)=false),(NT 0 1),(NT 0 1),Con Tryz.prog 94 0 [] [(zf116 N1 nb1 g1),.p (.seq true 1 u.1 (fun i=>[.int .i64 (u.2 i)]))] [(0,⟨false,1,cn,(fun i=>[.p (.seq false 1 ((C i).1) (fun i_1=>[.int .i64 ((C i).2 i_1)]))])⟩)] (.tup [.ar 1 0 0 cn,.p (.bool true)]),((!true)=false),(NT 0 1),(IL 0 (↑nb1:Int)),(IL (↑nb1:Int) (↑nb1:Int)),(IL ((↑nb1:Int)*(↑1:Int)) 281474976710656),(ZHi (↑nb1:Int)),(AN 0),(AI 0),(AN 0),(AN nb1),(AN 0),(AN cn),(AI ((↑cn:Int))),((0:Int)=(↑0:Int)),((((List.map (fun v=>AV.p (absV v)) [Value.int IntKind.i64 0,Value.slice none 0 0]).length):Nat)=2),(NL 1 1),(NL 1 1),(AI N1),(AN nb1),(AP nb1 (fun i=>[.int .i64 ((g1 i).1),.int .i64 ((g1 i).2.1)])),(AN 1),(NL nb1 nb1),(AA nb1 (fun i=>[.p (.bool false)])),(AN 1),(NL cn cn),(AA cn (fun i=>[.p (.seq false 1 ((C i).1) (fun i_1=>[.int .i64 ((C i).2 i_1)]))]))]):=by kernel_rfl
theorem ck3n (K:Int) (g1:Nat→T_Bar) (nb1:Nat) (N1:Int) (g:Nat→T_Bar) (nb:Nat) (N:Int) (pl:Nat→T_Place) (np:Nat) (w:T_IntS) (v:T_StepS) (u:T_IntS) (b1 b2:Bool) :
    pathOb Tryz.prog Tryz.f23 0 [rg 2,rg 4,rg 2,rg 2,.dec false,rg 2,.dec false,rg 2,.dec false,rg 2,.dec true,rm [(1,oc [] (.p (.bool b1))),(10,oc [] (.p (.bool b2))),(2,gF),(0,gF),(0,gF),(0,gF),(0,gF),(0,gF),(0,gF),(0,gF),(0,gF),(0,gF),(0,gF),(0,gF)] 1] [.code (bodyOf Tryz.f23)] (start Tryz.f23 [] 0 [clA K g1 nb1 N1 g nb N pl np w v u]) [] 1 [] (.p (.bool false)) =
    some [(NT 0 1),(NT 0 1),((true=true)→ (AN 1)),(NT 0 1),((K==1)=false),((K==6)=false),((K==2)=false),((K==3)=true),(NT 0 1),Con Tryz.prog 62 0 [] [(zf116 N1 nb1 g1)] [] (.p (.bool b1)),(AG b1),((b1=true)→(NT 0 1)),(AG b1),(AG b1),(AG b1),(((bif b1 then decide ((↑u.1:Int)≥2) else false)=true)→(NT 0 1)),(AG (bif b1 then decide ((↑u.1:Int)≥2) else false)),(((bif b1 then decide ((↑u.1:Int)≥2) else false)=true)→(NT 0 1)),(AG (bif b1 then decide ((↑u.1:Int)≥2) else false)),(AG (bif b1 then decide ((↑u.1:Int)≥2) else false)),(((bif b1 then decide ((↑u.1:Int)≥2) else false)=true)→ Con Tryz.prog 97 0 [] [(zf116 N1 nb1 g1),.p (.seq true 1 u.1 (fun i=>[.int .i64 (u.2 i)]))] [] (.p (.bool b2))),(AG (bif b1 then decide ((↑u.1:Int)≥2) else false)),((bif bif b1 then decide ((↑u.1:Int)≥2) else false then b2 else false)=false),((bif bif b1 then decide ((↑u.1:Int)≥2) else false then b2 else false)=false),((bif bif b1 then decide ((↑u.1:Int)≥2) else false then b2 else false)=false),((bif bif b1 then decide ((↑u.1:Int)≥2) else false then b2 else false)=false),((bif bif b1 then decide ((↑u.1:Int)≥2) else false then b2 else false)=false),((bif bif b1 then decide ((↑u.1:Int)≥2) else false then b2 else false)=false),((bif bif b1 then decide ((↑u.1:Int)≥2) else false then b2 else false)=false),((bif bif b1 then decide ((↑u.1:Int)≥2) else false then b2 else false)=false),((bif bif b1 then decide ((↑u.1:Int)≥2) else false then b2 else false)=false),((bif bif b1 then decide ((↑u.1:Int)≥2) else false then b2 else false)=false),((bif bif b1 then decide ((↑u.1:Int)≥2) else false then b2 else false)=false),((bif bif b1 then decide ((↑u.1:Int)≥2) else false then b2 else false)=false),(false=false)]:=by kernel_rfl
theorem ck3y (K:Int) (g1:Nat→T_Bar) (nb1:Nat) (N1:Int) (g:Nat→T_Bar) (nb:Nat) (N:Int) (pl:Nat→T_Place) (np:Nat) (w:T_IntS) (v:T_StepS) (u:T_IntS) (R:T_IntS) :
    pathOb Tryz.prog Tryz.f23 0 [rg 2,rg 4,rg 2,rg 2,.dec false,rg 2,.dec false,rg 2,.dec false,rg 2,.dec true,rm [(1,oc [] (.p (.bool true))),(1,gT),(0,gT),(0,gT),(0,gT),(0,gT),(1,gT),(0,gT),(0,gT),(0,⟨true,(some ⟨[],[],[],1,[],.p (.bool true)⟩),some true⟩),(0,gT),(1,gT),(0,gT),(0,gT),(0,⟨true,(some ⟨[],[],[],1,[(0,iOb R.1 R.2)],.ar 1 0 0 R.1⟩),some true⟩),(0,gT),(0,gT),(0,gT),(0,gT),(0,gT),(0,gT),(0,gT),(0,gT)] 1] [.code (bodyOf Tryz.f23)] (start Tryz.f23 [] 0 [clA K g1 nb1 N1 g nb N pl np w v u]) [] 1 [] (.p (.bool (decide ((R.1:Int)>2*(u.1:Int) - 3)))) =
    some [(NT 0 1),(NT 0 1),((true=true)→ (AN 1)),(NT 0 1),((K==1)=false),((K==6)=false),((K==2)=false),((K==3)=true),(NT 0 1),Con Tryz.prog 62 0 [] [(zf116 N1 nb1 g1)] [] (.p (.bool true)),(true=true),(true=true),(NT 0 1),(true=true),(true=true),(true=true),((decide ((↑u.1:Int)≥2))=true),(NT 0 1),((decide ((↑u.1:Int)≥2))=true),((decide ((↑u.1:Int)≥2))=true),(NT 0 1),((decide ((↑u.1:Int)≥2))=true),Con Tryz.prog 97 0 [] [(zf116 N1 nb1 g1),.p (.seq true 1 u.1 (fun i=>[.int .i64 (u.2 i)]))] [] (.p (.bool true)),((decide ((↑u.1:Int)≥2))=true),(true=true),(NT 0 1),(true=true),(true=true),(NT 0 1),(true=true),Con Tryz.prog 95 0 [] [(zf116 N1 nb1 g1),.p (.seq true 1 u.1 (fun i=>[.int .i64 (u.2 i)]))] [(0,⟨false,1,R.1,(fun i=>[.p (.int .i64 (R.2 i))])⟩)] (.ar 1 0 0 R.1),(true=true),(true=true),(true=true),(NT 0 1),(true=true),(true=true),(ZLo (2*(↑u.1:Int))),(ZHi (2*(↑u.1:Int))),(true=true),(ZLo (2*(↑u.1:Int) - 3)),(ZHi (2*(↑u.1:Int) - 3)),(true=true),(true=true),((decide ((↑R.1:Int)>2*(↑u.1:Int) - 3))=(decide ((↑R.1:Int)>2*(↑u.1:Int) - 3)))]:=by kernel_rfl
theorem ck4 (K:Int) (g1:Nat→T_Bar) (nb1:Nat) (N1:Int) (g:Nat→T_Bar) (nb:Nat) (N:Int) (pl:Nat→T_Place) (np:Nat) (w:T_IntS) (v:T_StepS) (u:T_IntS) (q:Bool) :
    pathOb Tryz.prog Tryz.f23 0 [rg 2,rg 4,rg 2,rg 2,.dec false,rg 2,.dec false,rg 2,.dec false,rg 2,.dec false,rg 2,.dec true,rm [(4,oc [] (.p (.bool q)))] 1] [.code (bodyOf Tryz.f23)] (start Tryz.f23 [] 0 [clA K g1 nb1 N1 g nb N pl np w v u]) [] 1 [] (.p (.bool q)) =
    some [(NT 0 1),(NT 0 1),((true=true)→ (AN 1)),(NT 0 1),((K==1)=false),((K==6)=false),((K==2)=false),((K==3)=false),((K==4)=true),(NT 0 1),(NT 0 1),Con Tryz.prog 98 0 [] [(zf24 N nb g np pl w),.p (.seq true 1 u.1 (fun i=>[.int .i64 (u.2 i)]))] [] (.p (.bool q)),(q=q)]:=by kernel_rfl
theorem ck5 (K:Int) (g1:Nat→T_Bar) (nb1:Nat) (N1:Int) (g:Nat→T_Bar) (nb:Nat) (N:Int) (pl:Nat→T_Place) (np:Nat) (w:T_IntS) (v:T_StepS) (u:T_IntS) (q:Bool) :
    pathOb Tryz.prog Tryz.f23 0 [rg 2,rg 4,rg 2,rg 2,.dec false,rg 2,.dec false,rg 2,.dec false,rg 2,.dec false,rg 2,.dec false,rg 2,.dec true,rm [(4,oc [] (.p (.bool q)))] 1] [.code (bodyOf Tryz.f23)] (start Tryz.f23 [] 0 [clA K g1 nb1 N1 g nb N pl np w v u]) [] 1 [] (.p (.bool q)) =
    some [(NT 0 1),(NT 0 1),((true=true)→ (AN 1)),(NT 0 1),((K==1)=false),((K==6)=false),((K==2)=false),((K==3)=false),((K==4)=false),((K==5)=true),(NT 0 1),(NT 0 1),Con Tryz.prog 99 0 [] [(zf24 N nb g np pl w),.p (.seq true 1 u.1 (fun i=>[.int .i64 (u.2 i)]))] [] (.p (.bool q)),(q=q)]:=by kernel_rfl
theorem ck0 (K:Int) (g1:Nat→T_Bar) (nb1:Nat) (N1:Int) (g:Nat→T_Bar) (nb:Nat) (N:Int) (pl:Nat→T_Place) (np:Nat) (w:T_IntS) (v:T_StepS) (u:T_IntS) :
    pathOb Tryz.prog Tryz.f23 0 [rg 2,rg 4,rg 2,rg 2,.dec false,rg 2,.dec false,rg 2,.dec false,rg 2,.dec false,rg 2,.dec false,rg 2,.dec false,rg 1] [.code (bodyOf Tryz.f23)] (start Tryz.f23 [] 0 [clA K g1 nb1 N1 g nb N pl np w v u]) [] 1 [] (.p (.bool false)) =
    some [(NT 0 1),(NT 0 1),((true=true)→ (AN 1)),(NT 0 1),((K==1)=false),((K==6)=false),((K==2)=false),((K==3)=false),((K==4)=false),((K==5)=false),(false=false)]:=by kernel_rfl
theorem ckat (g1:Nat→T_Bar) (nb1:Nat) (N1:Int) (D:NB) (i:Nat) :
    pieceOb Tryz.prog 0 [rg 1,.dec true,rg 4,rm [(3,oc [] (.p (.bool true)))] 1,.dec false,rg 2,.head] zf20 (CkA g1 nb1 N1 D i) [0,1] 1 (CkA g1 nb1 N1 D (i+1)) =
    some (zf20,[((decide ((↑i:Int)<(↑D.1:Int)))=true),(IL 0 (↑i:Int)),(IT (↑i:Int) (↑D.1:Int)),(NT i D.1),(NT 0 1),((true=true)→ (AN 1)),(NT 0 1),(NT 0 1),Con Tryz.prog 93 0 [] [.p (.seq true 2 nb1 (fun i_1=>[.int .i64 ((g1 i_1).1),.int .i64 ((g1 i_1).2.1)])),(zf125 D i)] [] (.p (.bool true)),((!true)=false),(ZLo ((↑i:Int)+1)),(ZHi ((↑i:Int)+1)),(AN 0),(AN 0),(AN D.1),(AI ((↑D.1:Int))),((((↑i:Int)+1):Int)=(↑(i+1):Int)),(AN 2),(NL 1 1),(NL 1 1),(AI N1),(AN nb1),(AP nb1 (fun i_1=>[.int .i64 ((g1 i_1).1),.int .i64 ((g1 i_1).2.1)])),(AN 2),(NL D.1 D.1),(AA D.1 (fun i_1=>[.p (.int .i64 ((D.2 i_1).1)),.p (.int .i64 ((D.2 i_1).2.1))]))]):=by kernel_rfl
theorem ckaf (g1:Nat→T_Bar) (nb1:Nat) (N1:Int) (D:NB) (i:Nat) :
    pathOb Tryz.prog Tryz.f23 0 [rg 1,.dec true,rg 4,rm [(3,oc [] (.p (.bool false)))] 1,.dec true,rg 1] zf20 (CkA g1 nb1 N1 D i) [] 1 [] (.p (.bool false)) =
    some [((decide ((↑i:Int)<(↑D.1:Int)))=true),(IL 0 (↑i:Int)),(IT (↑i:Int) (↑D.1:Int)),(NT i D.1),(NT 0 1),((true=true)→ (AN 1)),(NT 0 1),(NT 0 1),Con Tryz.prog 93 0 [] [.p (.seq true 2 nb1 (fun i_1=>[.int .i64 ((g1 i_1).1),.int .i64 ((g1 i_1).2.1)])),(zf125 D i)] [] (.p (.bool false)),((!false)=true),(false=false)]:=by kernel_rfl
theorem ckae (g1:Nat→T_Bar) (nb1:Nat) (N1:Int) (D:NB) (i:Nat) :
    pathOb Tryz.prog Tryz.f23 0 [rg 1,.dec false,rg 1] zf20 (CkA g1 nb1 N1 D i) [] 1 [] (.p (.bool true)) =
    some [((decide ((↑i:Int)<(↑D.1:Int)))=false),(true=true)]:=by kernel_rfl
theorem ckbt (g1:Nat→T_Bar) (nb1:Nat) (N1:Int) (s:Int) (m:Nat→Bool) (cn:Nat) (C:Nat→T_IntS) (i:Nat) (T:T_IntS) :
    pieceOb Tryz.prog 0 [rg 1,.dec true,rg 3,rg 7,rm [(2,oc [(0,iOb T.1 T.2)] (.ar 1 0 0 T.1))] 2,.head] zf14 (CkB g1 nb1 N1 s m cn C i) [0,1,2,419] 1 (CkC g1 nb1 N1 (s+2*((C i).1:Int) - 3) m cn C i T 0) =
    some (zf5,[((decide ((↑i:Int)<(↑cn:Int)))=true),(IL 0 (↑i:Int)),(IT (↑i:Int) (↑cn:Int)),(NT i cn),(ZLo (2*(↑(C i).1:Int))),(ZHi (2*(↑(C i).1:Int))),(ZLo (s+2*(↑(C i).1:Int))),(ZHi (s+2*(↑(C i).1:Int))),(ZLo (s+2*(↑(C i).1:Int) - 3)),(ZHi (s+2*(↑(C i).1:Int) - 3)),(NT 0 1),Con Tryz.prog 95 0 [] [.agg [.p (.int .i64 N1),.p (.seq true 2 nb1 (fun i_1=>[.int .i64 ((g1 i_1).1),.int .i64 ((g1 i_1).2.1)]))],.p (.seq true 1 ((C i).1) (fun i_1=>[.int .i64 ((C i).2 i_1)]))] [(0,⟨false,1,T.1,(fun i_1=>[.p (.int .i64 (T.2 i_1))])⟩)] (.ar 1 0 0 T.1),(AN 0),(AI ((s+2*(↑(C i).1:Int) - 3))),(AN 0),(AN nb1),(AN 0),(AN cn),(AI ((↑cn:Int))),(AI ((↑i:Int))),(AN 0),(AN T.1),(AI ((↑T.1:Int))),((0:Int)=(↑0:Int)),(AN 2),(NL 1 1),(NL 1 1),(AI N1),(AN nb1),(AP nb1 (fun i_1=>[.int .i64 ((g1 i_1).1),.int .i64 ((g1 i_1).2.1)])),(AN 1),(NL nb1 nb1),(AA nb1 (fun i_1=>[.p (.bool (m i_1))])),(AN 1),(NL cn cn),(AA cn (fun i_1=>[.p (.seq false 1 ((C i_1).1) (fun i_2=>[.int .i64 ((C i_1).2 i_2)]))])),(AN 1),(NL T.1 T.1),(AA T.1 (fun i_1=>[.p (.int .i64 (T.2 i_1))]))]):=by kernel_rfl
theorem ckct (g1:Nat→T_Bar) (nb1:Nat) (N1:Int) (s:Int) (m:Nat→Bool) (cn:Nat) (C:Nat→T_IntS) (i:Nat) (T:T_IntS) (t:Nat) :
    pieceOb Tryz.prog 0 [rg 1,.dec true,rg 3,rg 4,rg 2,.head] zf5 (CkC g1 nb1 N1 s m cn C i T t) [0,1,2,3] 1 (CkC g1 nb1 N1 s (fun e=>if e=(T.2 t).toNat then true else m e) cn C i T (t+1)) =
    some (zf5,[((decide ((↑t:Int)<(↑T.1:Int)))=true),(IL 0 (↑t:Int)),(IT (↑t:Int) (↑T.1:Int)),(NT t T.1),(IL 0 (T.2 t)),(IT (T.2 t) (↑nb1:Int)),(NT ((T.2 t).toNat) nb1),((false=true)→ ((nb1:Nat)=1)),(ZLo ((↑t:Int)+1)),(ZHi ((↑t:Int)+1)),(AN 0),(AI s),(AN 0),(AN nb1),(AN 0),(AN cn),(AI ((↑cn:Int))),(AI ((↑i:Int))),(AN 0),(AN T.1),(AI ((↑T.1:Int))),((((↑t:Int)+1):Int)=(↑(t+1):Int)),(AN 2),(NL 1 1),(NL 1 1),(AI N1),(AN nb1),(AP nb1 (fun i_1=>[.int .i64 ((g1 i_1).1),.int .i64 ((g1 i_1).2.1)])),(AN 1),(NL nb1 nb1),(CV [(1,⟨false,1,nb1,(fun i_2=>(if (i_2=(T.2 t).toNat) then [.p (.bool true)] else [.p (.bool (m i_2))]))⟩),(0,⟨true,2,1,(fun i_2=>[.p (.int .i64 N1),.p (.seq true 2 nb1 (fun i_3=>[.int .i64 ((g1 i_3).1),.int .i64 ((g1 i_3).2.1)]))])⟩),(2,⟨false,1,cn,(fun i_2=>[.p (.seq false 1 ((C i_2).1) (fun i_3=>[.int .i64 ((C i_2).2 i_3)]))])⟩),(3,⟨false,1,T.1,(fun i_2=>[.p (.int .i64 (T.2 i_2))])⟩)] [0,1,2,3] 1 nb1 (fun i_1=>if (i_1=(T.2 t).toNat) then [.p (.bool true)] else [.p (.bool (m i_1))]) (fun i_1=>[.p (.bool (if i_1=(T.2 t).toNat then true else m i_1))])),(AN 1),(NL cn cn),(AA cn (fun i_1=>[.p (.seq false 1 ((C i_1).1) (fun i_2=>[.int .i64 ((C i_1).2 i_2)]))])),(AN 1),(NL T.1 T.1),(AA T.1 (fun i_1=>[.p (.int .i64 (T.2 i_1))]))]):=by kernel_rfl
theorem ckce (g1:Nat→T_Bar) (nb1:Nat) (N1:Int) (s:Int) (m:Nat→Bool) (cn:Nat) (C:Nat→T_IntS) (i:Nat) (T:T_IntS) (t:Nat) :
    pieceOb Tryz.prog 0 [rg 1,.dec false,rg 2,.head] zf5 (CkC g1 nb1 N1 s m cn C i T t) [0,1,2] 1 (CkB g1 nb1 N1 s m cn C (i+1)) =
    some (zf14,[((decide ((↑t:Int)<(↑T.1:Int)))=false),(ZLo ((↑i:Int)+1)),(ZHi ((↑i:Int)+1)),(AN 0),(AI s),(AN 0),(AN nb1),(AN 0),(AN cn),(AI ((↑cn:Int))),((((↑i:Int)+1):Int)=(↑(i+1):Int)),(AN 2),(NL 1 1),(NL 1 1),(AI N1),(AN nb1),(AP nb1 (fun i_1=>[.int .i64 ((g1 i_1).1),.int .i64 ((g1 i_1).2.1)])),(AN 1),(NL nb1 nb1),(AA nb1 (fun i_1=>[.p (.bool (m i_1))])),(AN 1),(NL cn cn),(AA cn (fun i_1=>[.p (.seq false 1 ((C i_1).1) (fun i_2=>[.int .i64 ((C i_1).2 i_2)]))]))]):=by kernel_rfl
theorem ckbe (g1:Nat→T_Bar) (nb1:Nat) (N1:Int) (s:Int) (m:Nat→Bool) (cn:Nat) (C:Nat→T_IntS) (i:Nat) (q:Bool) :
    pathOb Tryz.prog Tryz.f23 0 [rg 1,.dec false,rm [(1,oc [] (.p (.bool q)))] 11] zf14 (CkB g1 nb1 N1 s m cn C i) [] 1 [] (.p (.bool (bif !q then decide (s<max 0 (2*N1 - 3)) else false))) =
    some [((decide ((↑i:Int)<(↑cn:Int)))=false),(AN 1),(NL nb1 nb1),Con Tryz.prog 96 0 [] [.p (.seq true 1 nb1 (fun i_1=>[.bool (m i_1)])),.p (.bool false)] [] (.p (.bool q)),(AG (!q)),(((!q)=true)→(NT 0 1)),(AG (!q)),(((!q)=true)→(ZLo (2*N1))),(((!q)=true)→(ZHi (2*N1))),(AG (!q)),(((!q)=true)→(ZLo (2*N1 - 3))),(((!q)=true)→(ZHi (2*N1 - 3))),(AG (!q)),(AG (!q)),(AG (!q)),(AG (!q)),((bif !q then decide (s<if true=true then if 2*N1 - 3>0 then 2*N1 - 3 else 0 else if 2*N1 - 3<0 then 2*N1 - 3 else 0) else false)=(bif !q then decide (s<max 0 (2*N1 - 3)) else false))]:=by kernel_rfl
theorem ds1b (K:Int) (g1:Nat→T_Bar) (nb1:Nat) (N1:Int) (g:Nat→T_Bar) (nb:Nat) (N:Int) (pl:Nat→T_Place) (np:Nat) (w:T_IntS) (v:T_StepS) (u:T_IntS) (b1:Bool) :
    pathOb Tryz.prog Tryz.f21 0 [rg 2,rg 2,rg 2,.dec true,rm [(5,oc [] zf129)] 6,rm [(2,oc [] (.p (.bool b1))),(4,gF),(0,gF),(0,gF),(0,gF),(0,gF),(0,gF),(0,gF),(0,gF),(0,gF),(1,gF),(0,gF),(0,gF),(0,gF),(0,gF)] 1] [.code (bodyOf Tryz.f21)] (start Tryz.f21 [] 0 [clA K g1 nb1 N1 g nb N pl np w v u]) [] 1 [] (.p (.bool false)) =
    some [(NT 0 1),((K==1)=true),(NT 0 1),(NT 0 1),Con Tryz.prog 81 0 [] [.p (.int .i64 N1),.p (.seq true 5 v.1 (fun i=>[.int .i64 ((v.2 i).1),.int .i64 ((v.2 i).2.1),.int .i64 ((v.2 i).2.2.1),.int .i64 ((v.2 i).2.2.2.1),.int .i64 ((v.2 i).2.2.2.2.1)]))] [] (zf129),(NT 0 1),((true=true)→ (AN 1)),(NT 0 1),Con Tryz.prog 53 0 [] [(zf116 N1 nb1 g1)] [] (.p (.bool b1)),(AG b1),((bif b1 then false else false)=false),((bif b1 then false else false)=false),((bif b1 then false else false)=false),((bif b1 then false else false)=false),((bif b1 then false else false)=false),((bif b1 then false else false)=false),((bif b1 then false else false)=false),((bif b1 then false else false)=false),((bif b1 then false else false)=false),(false=false),(false=false),(false=false),(false=false),(false=false),(false=false)]:=by kernel_rfl
theorem ds1s (K:Int) (g1:Nat→T_Bar) (nb1:Nat) (N1:Int) (g:Nat→T_Bar) (nb:Nat) (N:Int) (pl:Nat→T_Place) (np:Nat) (w:T_IntS) (v:T_StepS) (u:T_IntS) (D:NB) (b1 b2:Bool) :
    pathOb Tryz.prog Tryz.f21 0 [rg 2,rg 2,rg 2,.dec true,rm [(5,oc [(0,brOb D.1 D.2)] (zf126 N1 D))] 6,rm [(2,oc [] (.p (.bool b1))),(17,oc [] (.p (.bool b2)))] 2] [.code (bodyOf Tryz.f21)] (start Tryz.f21 [] 0 [clA K g1 nb1 N1 g nb N pl np w v u]) [] 1 [] (.p (.bool (bif (bif (bif b1 then true else false) then (D.1:Int)==2*N1 - 3 else false) then b2 else false))) =
    some [(NT 0 1),((K==1)=true),(NT 0 1),(NT 0 1),Con Tryz.prog 81 0 [] [.p (.int .i64 N1),.p (.seq true 5 v.1 (fun i=>[.int .i64 ((v.2 i).1),.int .i64 ((v.2 i).2.1),.int .i64 ((v.2 i).2.2.1),.int .i64 ((v.2 i).2.2.2.1),.int .i64 ((v.2 i).2.2.2.2.1)]))] (zf120 D) ((zf126 N1 D)),(NT 0 1),((true=true)→ (AN 1)),(NT 0 1),Con Tryz.prog 53 0 [] [(zf116 N1 nb1 g1)] [] (.p (.bool b1)),(AG b1),(AG (bif b1 then true else false)),(((bif b1 then true else false)=true)→(NT 0 1)),(AG (bif b1 then true else false)),(AG (bif b1 then true else false)),(((bif b1 then true else false)=true)→(NT 0 1)),(AG (bif b1 then true else false)),(((bif b1 then true else false)=true)→(ZLo (2*N1))),(((bif b1 then true else false)=true)→(ZHi (2*N1))),(AG (bif b1 then true else false)),(((bif b1 then true else false)=true)→(ZLo (2*N1 - 3))),(((bif b1 then true else false)=true)→(ZHi (2*N1 - 3))),(AG (bif b1 then true else false)),(AG (bif b1 then true else false)),(AG (bif b1 then true else false)),(((bif bif b1 then true else false then (↑D.1:Int)==2*N1 - 3 else false)=true)→(NT 0 1)),(AG (bif bif b1 then true else false then (↑D.1:Int)==2*N1 - 3 else false)),(((bif bif b1 then true else false then (↑D.1:Int)==2*N1 - 3 else false)=true)→(NT 0 1)),(AG (bif bif b1 then true else false then (↑D.1:Int)==2*N1 - 3 else false)),(AG (bif bif b1 then true else false then (↑D.1:Int)==2*N1 - 3 else false)),(((bif bif b1 then true else false then (↑D.1:Int)==2*N1 - 3 else false)=true)→ (AN 2)),(((bif bif b1 then true else false then (↑D.1:Int)==2*N1 - 3 else false)=true)→(NL D.1 D.1)),(((bif bif b1 then true else false then (↑D.1:Int)==2*N1 - 3 else false)=true)→ Con Tryz.prog 82 0 [] [(zf114 N1 D),(zf116 N1 nb1 g1)] [] (.p (.bool b2))),(AG (bif bif b1 then true else false then (↑D.1:Int)==2*N1 - 3 else false)),((bif bif bif b1 then true else false then (↑D.1:Int)==2*N1 - 3 else false then b2 else false)=(bif bif bif b1 then true else false then (↑D.1:Int)==2*N1 - 3 else false then b2 else false))]:=by kernel_rfl
theorem ds6b (K:Int) (g1:Nat→T_Bar) (nb1:Nat) (N1:Int) (g:Nat→T_Bar) (nb:Nat) (N:Int) (pl:Nat→T_Place) (np:Nat) (w:T_IntS) (v:T_StepS) (u:T_IntS) :
    pathOb Tryz.prog Tryz.f21 0 [rg 2,rg 2,rg 2,.dec false,rg 2,.dec true,rm [(5,oc [] zf129)] 6,rm [(2,gF),(0,gF),(0,gF),(0,gF),(0,gF),(0,gF),(0,gF),(0,gF),(0,gF),(1,gF),(0,gF),(0,gF),(0,gF),(0,gF)] 1] [.code (bodyOf Tryz.f21)] (start Tryz.f21 [] 0 [clA K g1 nb1 N1 g nb N pl np w v u]) [] 1 [] (.p (.bool false)) =
    some [(NT 0 1),((K==1)=false),((K==6)=true),(NT 0 1),(NT 0 1),Con Tryz.prog 81 0 [] [.p (.int .i64 N1),.p (.seq true 5 v.1 (fun i=>[.int .i64 ((v.2 i).1),.int .i64 ((v.2 i).2.1),.int .i64 ((v.2 i).2.2.1),.int .i64 ((v.2 i).2.2.2.1),.int .i64 ((v.2 i).2.2.2.2.1)]))] [] (zf129),(NT 0 1),((true=true)→ (AN 1)),(false=false),(false=false),(false=false),(false=false),(false=false),(false=false),(false=false),(false=false),(false=false),(false=false),(false=false),(false=false),(false=false),(false=false),(false=false)]:=by kernel_rfl
theorem ds6s (K:Int) (g1:Nat→T_Bar) (nb1:Nat) (N1:Int) (g:Nat→T_Bar) (nb:Nat) (N:Int) (pl:Nat→T_Place) (np:Nat) (w:T_IntS) (v:T_StepS) (u:T_IntS) (D:NB) (q:Bool) :
    pathOb Tryz.prog Tryz.f21 0 [rg 2,rg 2,rg 2,.dec false,rg 2,.dec true,rm [(5,oc [(0,brOb D.1 D.2)] (zf126 N1 D))] 6,rm [(15,oc [] (.p (.bool q)))] 2] [.code (bodyOf Tryz.f21)] (start Tryz.f21 [] 0 [clA K g1 nb1 N1 g nb N pl np w v u]) [] 1 [] (.p (.bool (bif (bif true then (D.1:Int)==2*N1 - 3 else false) then q else false))) =
    some [(NT 0 1),((K==1)=false),((K==6)=true),(NT 0 1),(NT 0 1),Con Tryz.prog 81 0 [] [.p (.int .i64 N1),.p (.seq true 5 v.1 (fun i=>[.int .i64 ((v.2 i).1),.int .i64 ((v.2 i).2.1),.int .i64 ((v.2 i).2.2.1),.int .i64 ((v.2 i).2.2.2.1),.int .i64 ((v.2 i).2.2.2.2.1)]))] (zf120 D) ((zf126 N1 D)),(NT 0 1),((true=true)→ (AN 1)),(AG true),((true=true)→(NT 0 1)),(AG true),(AG true),((true=true)→(NT 0 1)),(AG true),((true=true)→(ZLo (2*N1))),((true=true)→(ZHi (2*N1))),(AG true),((true=true)→(ZLo (2*N1 - 3))),((true=true)→(ZHi (2*N1 - 3))),(AG true),(AG true),(AG true),(((bif true then (↑D.1:Int)==2*N1 - 3 else false)=true)→(NT 0 1)),(AG (bif true then (↑D.1:Int)==2*N1 - 3 else false)),(((bif true then (↑D.1:Int)==2*N1 - 3 else false)=true)→(NT 0 1)),(AG (bif true then (↑D.1:Int)==2*N1 - 3 else false)),(AG (bif true then (↑D.1:Int)==2*N1 - 3 else false)),(((bif true then (↑D.1:Int)==2*N1 - 3 else false)=true)→ (AN 2)),(((bif true then (↑D.1:Int)==2*N1 - 3 else false)=true)→(NL D.1 D.1)),(((bif true then (↑D.1:Int)==2*N1 - 3 else false)=true)→ Con Tryz.prog 83 0 [] [(zf114 N1 D),(zf116 N1 nb1 g1)] [] (.p (.bool q))),(AG (bif true then (↑D.1:Int)==2*N1 - 3 else false)),((bif bif true then (↑D.1:Int)==2*N1 - 3 else false then q else false)=(bif bif true then (↑D.1:Int)==2*N1 - 3 else false then q else false))]:=by kernel_rfl
theorem ds2n (K:Int) (g1:Nat→T_Bar) (nb1:Nat) (N1:Int) (g:Nat→T_Bar) (nb:Nat) (N:Int) (pl:Nat→T_Place) (np:Nat) (w:T_IntS) (v:T_StepS) (u:T_IntS) :
    pathOb Tryz.prog Tryz.f21 0 [rg 2,rg 2,rg 2,.dec false,rg 2,.dec false,rg 2,.dec true,rm [(2,oc [] (.p (.bool false))),(1,gF),(0,gF),(0,gF),(0,gF),(0,gF),(0,gF),(0,gF)] 1] [.code (bodyOf Tryz.f21)] (start Tryz.f21 [] 0 [clA K g1 nb1 N1 g nb N pl np w v u]) [] 1 [] (.p (.bool false)) =
    some [(NT 0 1),((K==1)=false),((K==6)=false),((K==2)=true),(NT 0 1),Con Tryz.prog 53 0 [] [(zf116 N1 nb1 g1)] [] (.p (.bool false)),(false=false),(false=false),(false=false),(false=false),(false=false),(false=false),(false=false),(false=false)]:=by kernel_rfl
theorem ds2y (K:Int) (g1:Nat→T_Bar) (nb1:Nat) (N1:Int) (g:Nat→T_Bar) (nb:Nat) (N:Int) (pl:Nat→T_Place) (np:Nat) (w:T_IntS) (v:T_StepS) (u:T_IntS) (cn:Nat) (C:Nat→T_IntS) (q:Bool) :
    pathOb Tryz.prog Tryz.f21 0 [rg 2,rg 2,rg 2,.dec false,rg 2,.dec false,rg 2,.dec true,rm [(2,oc [] (.p (.bool true))),(1,gT),(0,gT),(0,gT),(0,gT),(0,⟨true,(some ⟨[],[],[],1,[(0,ssOb cn C)],.ar 1 0 0 cn⟩),some true⟩),(0,⟨true,(some ⟨[],[],[],1,[],.p (.bool q)⟩),some true⟩),(0,gT)] 1] [.code (bodyOf Tryz.f21)] (start Tryz.f21 [] 0 [clA K g1 nb1 N1 g nb N pl np w v u]) [] 1 [] (.p (.bool q)) =
    some [(NT 0 1),((K==1)=false),((K==6)=false),((K==2)=true),(NT 0 1),Con Tryz.prog 53 0 [] [(zf116 N1 nb1 g1)] [] (.p (.bool true)),(true=true),(true=true),(NT 0 1),(true=true),(true=true),(NT 0 1),(true=true),Con Tryz.prog 85 0 [] [.p (.seq true 1 u.1 (fun i=>[.int .i64 (u.2 i)]))] [(0,⟨false,1,cn,(fun i=>[.p (.seq false 1 ((C i).1) (fun i_1=>[.int .i64 ((C i).2 i_1)]))])⟩)] (.ar 1 0 0 cn),(true=true),(AN 1),(NL cn cn),Con Tryz.prog 84 0 [] [(zf116 N1 nb1 g1),.p (.seq true 1 cn (fun i=>[.seq true 1 ((C i).1) (fun i_1=>[.int .i64 ((C i).2 i_1)])]))] [] (.p (.bool q)),(true=true),(q=q)]:=by kernel_rfl
theorem ds3n (K:Int) (g1:Nat→T_Bar) (nb1:Nat) (N1:Int) (g:Nat→T_Bar) (nb:Nat) (N:Int) (pl:Nat→T_Place) (np:Nat) (w:T_IntS) (v:T_StepS) (u:T_IntS) (b1 b2:Bool) :
    pathOb Tryz.prog Tryz.f21 0 [rg 2,rg 2,rg 2,.dec false,rg 2,.dec false,rg 2,.dec false,rg 2,.dec true,rm [(2,oc [] (.p (.bool b1))),(5,oc [] (.p (.bool b2))),(8,gF),(0,gF),(0,gF),(0,gF),(0,gF),(0,gF),(0,gF),(0,gF),(0,gF),(0,gF),(0,gF),(0,gF),(0,gF)] 1] [.code (bodyOf Tryz.f21)] (start Tryz.f21 [] 0 [clA K g1 nb1 N1 g nb N pl np w v u]) [] 1 [] (.p (.bool false)) =
    some [(NT 0 1),((K==1)=false),((K==6)=false),((K==2)=false),((K==3)=true),(NT 0 1),Con Tryz.prog 53 0 [] [(zf116 N1 nb1 g1)] [] (.p (.bool b1)),(AG b1),((b1=true)→(NT 0 1)),(AG b1),((b1=true)→(NT 0 1)),(AG b1),(AG b1),((b1=true)→ Con Tryz.prog 86 0 [] [(zf116 N1 nb1 g1),.p (.seq true 1 u.1 (fun i=>[.int .i64 (u.2 i)]))] [] (.p (.bool b2))),(AG b1),(AG (bif b1 then b2 else false)),(((bif b1 then b2 else false)=true)→(NT 0 1)),(AG (bif b1 then b2 else false)),(AG (bif b1 then b2 else false)),(AG (bif b1 then b2 else false)),((bif bif b1 then b2 else false then decide ((↑u.1:Int)≥2) else false)=false),((bif bif b1 then b2 else false then decide ((↑u.1:Int)≥2) else false)=false),((bif bif b1 then b2 else false then decide ((↑u.1:Int)≥2) else false)=false),((bif bif b1 then b2 else false then decide ((↑u.1:Int)≥2) else false)=false),((bif bif b1 then b2 else false then decide ((↑u.1:Int)≥2) else false)=false),((bif bif b1 then b2 else false then decide ((↑u.1:Int)≥2) else false)=false),((bif bif b1 then b2 else false then decide ((↑u.1:Int)≥2) else false)=false),((bif bif b1 then b2 else false then decide ((↑u.1:Int)≥2) else false)=false),((bif bif b1 then b2 else false then decide ((↑u.1:Int)≥2) else false)=false),((bif bif b1 then b2 else false then decide ((↑u.1:Int)≥2) else false)=false),((bif bif b1 then b2 else false then decide ((↑u.1:Int)≥2) else false)=false),((bif bif b1 then b2 else false then decide ((↑u.1:Int)≥2) else false)=false),((bif bif b1 then b2 else false then decide ((↑u.1:Int)≥2) else false)=false),(false=false)]:=by kernel_rfl
theorem ds3y (K:Int) (g1:Nat→T_Bar) (nb1:Nat) (N1:Int) (g:Nat→T_Bar) (nb:Nat) (N:Int) (pl:Nat→T_Place) (np:Nat) (w:T_IntS) (v:T_StepS) (u:T_IntS) (R:T_IntS) :
    pathOb Tryz.prog Tryz.f21 0 [rg 2,rg 2,rg 2,.dec false,rg 2,.dec false,rg 2,.dec false,rg 2,.dec true,rm [(2,oc [] (.p (.bool true))),(1,gT),(0,gT),(0,gT),(0,gT),(0,⟨true,(some ⟨[],[],[],1,[],.p (.bool true)⟩),some true⟩),(0,gT),(1,gT),(0,gT),(0,gT),(0,gT),(0,gT),(1,gT),(0,gT),(0,gT),(0,gT),(0,⟨true,(some ⟨[],[],[],1,[(0,iOb R.1 R.2)],.ar 1 0 0 R.1⟩),some true⟩),(0,gT),(0,gT),(0,gT),(0,gT),(0,gT),(0,gT),(0,gT),(0,gT)] 1] [.code (bodyOf Tryz.f21)] (start Tryz.f21 [] 0 [clA K g1 nb1 N1 g nb N pl np w v u]) [] 1 [] (.p (.bool (decide ((R.1:Int)>2*(u.1:Int) - 3)))) =
    some [(NT 0 1),((K==1)=false),((K==6)=false),((K==2)=false),((K==3)=true),(NT 0 1),Con Tryz.prog 53 0 [] [(zf116 N1 nb1 g1)] [] (.p (.bool true)),(true=true),(true=true),(NT 0 1),(true=true),(true=true),(NT 0 1),(true=true),Con Tryz.prog 86 0 [] [(zf116 N1 nb1 g1),.p (.seq true 1 u.1 (fun i=>[.int .i64 (u.2 i)]))] [] (.p (.bool true)),(true=true),(true=true),(true=true),(NT 0 1),(true=true),(true=true),(true=true),((decide ((↑u.1:Int)≥2))=true),((decide ((↑u.1:Int)≥2))=true),(NT 0 1),((decide ((↑u.1:Int)≥2))=true),((decide ((↑u.1:Int)≥2))=true),(NT 0 1),((decide ((↑u.1:Int)≥2))=true),Con Tryz.prog 87 0 [] [(zf116 N1 nb1 g1),.p (.seq true 1 u.1 (fun i=>[.int .i64 (u.2 i)]))] [(0,⟨false,1,R.1,(fun i=>[.p (.int .i64 (R.2 i))])⟩)] (.ar 1 0 0 R.1),((decide ((↑u.1:Int)≥2))=true),((decide ((↑u.1:Int)≥2))=true),((decide ((↑u.1:Int)≥2))=true),(NT 0 1),((decide ((↑u.1:Int)≥2))=true),((decide ((↑u.1:Int)≥2))=true),(ZLo (2*(↑u.1:Int))),(ZHi (2*(↑u.1:Int))),((decide ((↑u.1:Int)≥2))=true),(ZLo (2*(↑u.1:Int) - 3)),(ZHi (2*(↑u.1:Int) - 3)),((decide ((↑u.1:Int)≥2))=true),((decide ((↑u.1:Int)≥2))=true),((decide ((↑R.1:Int)>2*(↑u.1:Int) - 3))=(decide ((↑R.1:Int)>2*(↑u.1:Int) - 3)))]:=by kernel_rfl
theorem ds4 (K:Int) (g1:Nat→T_Bar) (nb1:Nat) (N1:Int) (g:Nat→T_Bar) (nb:Nat) (N:Int) (pl:Nat→T_Place) (np:Nat) (w:T_IntS) (v:T_StepS) (u:T_IntS) (q:Bool) :
    pathOb Tryz.prog Tryz.f21 0 [rg 2,rg 2,rg 2,.dec false,rg 2,.dec false,rg 2,.dec false,rg 2,.dec false,rg 2,.dec true,rm [(4,oc [] (.p (.bool q)))] 1] [.code (bodyOf Tryz.f21)] (start Tryz.f21 [] 0 [clA K g1 nb1 N1 g nb N pl np w v u]) [] 1 [] (.p (.bool q)) =
    some [(NT 0 1),((K==1)=false),((K==6)=false),((K==2)=false),((K==3)=false),((K==4)=true),(NT 0 1),(NT 0 1),Con Tryz.prog 88 0 [] [(zf24 N nb g np pl w),.p (.seq true 1 u.1 (fun i=>[.int .i64 (u.2 i)]))] [] (.p (.bool q)),(q=q)]:=by kernel_rfl
theorem ds5 (K:Int) (g1:Nat→T_Bar) (nb1:Nat) (N1:Int) (g:Nat→T_Bar) (nb:Nat) (N:Int) (pl:Nat→T_Place) (np:Nat) (w:T_IntS) (v:T_StepS) (u:T_IntS) (q:Bool) :
    pathOb Tryz.prog Tryz.f21 0 [rg 2,rg 2,rg 2,.dec false,rg 2,.dec false,rg 2,.dec false,rg 2,.dec false,rg 2,.dec false,rg 2,.dec true,rm [(4,oc [] (.p (.bool q)))] 1] [.code (bodyOf Tryz.f21)] (start Tryz.f21 [] 0 [clA K g1 nb1 N1 g nb N pl np w v u]) [] 1 [] (.p (.bool q)) =
    some [(NT 0 1),((K==1)=false),((K==6)=false),((K==2)=false),((K==3)=false),((K==4)=false),((K==5)=true),(NT 0 1),(NT 0 1),Con Tryz.prog 89 0 [] [(zf24 N nb g np pl w),.p (.seq true 1 u.1 (fun i=>[.int .i64 (u.2 i)]))] [] (.p (.bool q)),(q=q)]:=by kernel_rfl
theorem ds0 (K:Int) (g1:Nat→T_Bar) (nb1:Nat) (N1:Int) (g:Nat→T_Bar) (nb:Nat) (N:Int) (pl:Nat→T_Place) (np:Nat) (w:T_IntS) (v:T_StepS) (u:T_IntS) :
    pathOb Tryz.prog Tryz.f21 0 [rg 2,rg 2,rg 2,.dec false,rg 2,.dec false,rg 2,.dec false,rg 2,.dec false,rg 2,.dec false,rg 2,.dec false,rg 1] [.code (bodyOf Tryz.f21)] (start Tryz.f21 [] 0 [clA K g1 nb1 N1 g nb N pl np w v u]) [] 1 [] (.p (.bool false)) =
    some [(NT 0 1),((K==1)=false),((K==6)=false),((K==2)=false),((K==3)=false),((K==4)=false),((K==5)=false),(false=false)]:=by kernel_rfl
end Go.Proofs.YtkkjoghiigiokaaGreat.Mach
namespace Go.Proofs.YtkkjoghiigiokaaGreat.Mach
open Go
set_option linter.unusedVariables false
set_option linter.unusedSimpArgs false
theorem qT_iff (g h:Nat→T_Bar):∀ n,qT_BarS g h n=true↔∀ i,i<n→g i=h i
  | 0=>⟨fun _ i hi=>absurd hi (Nat.not_lt_zero _),fun _=>rfl⟩
  | n+1=>by
    rw [qT_BarS,Bool.and_eq_true,qT_iff g h n]
    constructor
    · rintro ⟨h1,h2⟩ i hi
      by_cases e:i=n
      · rw [e];exact beqB_eq h2
      · exact h1 i (by omega)
    · intro H
      refine ⟨fun i hi=>H i (by omega),?_⟩
      rw [H n (by omega)]
      unfold q1_BarS
      simp
theorem eqGr_iff (N:Int) (D E:NB):eqGr (N,D,()) (N,E,())=true↔D.1=E.1∧∀ i,i<D.1→D.2 i=E.2 i:=by
  unfold eqGr
  show (bif N==N then q_BarS D E else false)=true↔_
  rw [show (N==N)=true by simp]
  show q_BarS D E=true↔_
  unfold q_BarS
  by_cases h:D.1=E.1
  · rw [if_pos h,qT_iff];exact ⟨fun x=>⟨h,x⟩,fun x=>x.2⟩
  · rw [if_neg h];exact ⟨fun x=>Bool.noConfusion x,fun x=>absurd x.1 h⟩
theorem eqGr_sym (N:Int) (D E:NB):eqGr (N,D,()) (N,E,())=eqGr (N,E,()) (N,D,()):=by
  rw [Bool.eq_iff_iff,eqGr_iff,eqGr_iff]
  constructor
  · rintro ⟨h1,h2⟩;exact ⟨h1.symm,fun i hi=>(h2 i (by omega)).symm⟩
  · rintro ⟨h1,h2⟩;exact ⟨h1.symm,fun i hi=>(h2 i (by omega)).symm⟩
theorem good_cong {N:Int} {g h:Nat→T_Bar}:∀ {n:Nat},(∀ i,i<n→g i=h i)→goodB N g n=goodB N h n
  | 0,_=>rfl
  | n+1,H=>by
    have e1:=H n (by omega)
    have e2:badB N g n=badB N h n:=by
      unfold badB
      by_cases h0:n=0
      · subst h0;simp [e1]
      · have e3:=H (n - 1) (by omega)
        have e4:((n:Int) - 1).toNat=n - 1:=by omega
        simp [e1,e3,e4]
    rw [goodB,goodB,good_cong (fun i hi=>H i (by omega)),e2]
theorem eqGr_isG {N:Int} {D E:NB} (h:eqGr (N,D,()) (N,E,())=true) (hD:isGraphF (N,D,())=true):isGraphF (N,E,())=true:=by
  obtain ⟨h1,h2⟩:=(eqGr_iff N D E).1 h
  unfold isGraphF at hD ⊢
  have hD:(if inB N 1 8=true∧D.1≤24 then goodB N D.2 D.1 else false)=true:=hD
  show (if inB N 1 8=true∧E.1≤24 then goodB N E.2 E.1 else false)=true
  rw [← h1,← good_cong h2];exact hD
theorem buF_ok {M:Int} {n:Nat} {S:Nat→T_Step} {D:NB} (h:buF M n S=some D):∃ N:Nat,M=N∧1≤N∧N≤8∧isGraphF ((N:Int),D,())=true:=by
  unfold buF at h
  cases hb:inB M 1 8 with
  | false=>rw [hb,if_neg Bool.false_ne_true] at h;cases h
  | true =>
    rw [hb,if_pos rfl] at h
    have hb:=inB_iff.1 hb
    obtain ⟨N,rfl⟩:=Int.eq_ofNat_of_zero_le (show 0≤M by omega)
    rw [Int.toNat_natCast] at h
    exact ⟨N,rfl,by omega,by omega,buL_ok n 0 _ D (isG_zero (by omega)) h⟩
noncomputable def ck1R (g1:Nat→T_Bar) (nb1:Nat) (N1:Int) (v:T_StepS):Bool :=
  match buF N1 v.1 v.2 with
  | none=>false
  | some D=>isG g1 nb1 N1&&((D.1:Int)==2*N1 - 3&&allB (fun i=>hsB g1 nb1 (D.2 i)) D.1)
noncomputable def ck6R (g1:Nat→T_Bar) (nb1:Nat) (N1:Int) (v:T_StepS):Bool :=
  match buF N1 v.1 v.2 with
  | none=>false
  | some D=>isG g1 nb1 N1&&((D.1:Int)==2*N1 - 3&&eqGr (N1,(nb1,g1),()) (N1,D,()))
def ck2R (g1:Nat→T_Bar) (nb1:Nat) (N1:Int) (u:T_IntS):Bool:=isG g1 nb1 N1&&cvrR (N1,(nb1,g1),()) (pcN u.2 u.1) (pcC u.2 u.1)
def ck3R (g1:Nat→T_Bar) (nb1:Nat) (N1:Int) (u:T_IntS):Bool :=
  isG g1 nb1 N1&&(okD N1 u.2 u.1&&(decide ((u.1:Int)≥2)&&decide (((flt (spS g1 u) nb1).1:Int)>2*(u.1:Int) - 3)))
noncomputable def ckR (K:Int) (g1:Nat→T_Bar) (nb1:Nat) (N1:Int) (g:Nat→T_Bar) (nb:Nat) (N:Int) (pl:Nat→T_Place) (np:Nat) (w:T_IntS) (v:T_StepS) (u:T_IntS):Bool :=
  if K=1 then ck1R g1 nb1 N1 v else if K=6 then ck6R g1 nb1 N1 v else if K=2 then ck2R g1 nb1 N1 u else if K=3 then ck3R g1 nb1 N1 u
  else if K=4 then (bif strcB g nb N pl np w u then ffF g nb N pl np==0 else false) else if K=5 then (bif alwB g nb N pl np w u then !tmB g nb N pl np u else false) else false
section
variable (K:Int) (g1:Nat→T_Bar) (nb1:Nat) (N1:Int) (g:Nat→T_Bar) (nb:Nat) (N:Int) (pl:Nat→T_Place) (np:Nat) (w:T_IntS) (v:T_StepS) (u:T_IntS)
theorem con_ck1_i (hK:K=1) (h1:nb1≤1048576) (hv:v.1≤1048576) :
    Con Tryz.prog 23 0 [] [clA K g1 nb1 N1 g nb N pl np w v u] [] (.p (.bool (ck1R g1 nb1 N1 v))):=by
  have e1:(K==1)=true:=by rw [hK];rfl
  have e6:(K==6)=false:=by rw [hK];rfl
  have c1:=con_IsGraph_i (N1,(nb1,g1),()) (smG g1 nb1 N1 h1)
  change Con Tryz.prog 62 0 [] [gzA g1 nb1 N1] [] (.p (.bool (isG g1 nb1 N1))) at c1
  have c2:=con_Build_i N1 v.1 v.2 hv
  unfold ck1R
  refine csZ Tryz.func23 (fun c hc=>?_)
  cases hg:isG g1 nb1 N1 with
  | false =>
    rw [hg] at c1
    rw [show (match buF N1 v.1 v.2 with | none=>false | some D=>false&&((D.1:Int)==2*N1 - 3&&allB (fun i=>hsB g1 nb1 (D.2 i)) D.1))=false by cases buF N1 v.1 v.2<;>rfl]
    refine pkZ Tryz.func23 hc (ck1g K g1 nb1 N1 g nb N pl np w v u) ?_
    repeat' (first | exact aN | apply aI)
    all_goals (first | omega | rfl | (intros;first | assumption | exact trivial | rfl | exact fT ‹_›) | (exact c1) | (exact e1) | (exact e6))
  | true =>
    rw [hg] at c1
    obtain ⟨hN,hnb,hok⟩:=graph_inR hg
    cases hb:buF N1 v.1 v.2 with
    | none =>
      rw [hb] at c2
      refine pkZ Tryz.func23 hc (ck1b K g1 nb1 N1 g nb N pl np w v u) ?_
      repeat' (first | exact aN | apply aI)
      all_goals (first | omega | rfl | (intros;first | assumption | exact trivial | rfl | exact fT ‹_›) | (exact c1) | (exact c2) | (exact e1) | (exact e6))
    | some D =>
      rw [hb] at c2
      obtain ⟨n,hn,n1,n2,hD⟩:=buF_ok hb
      subst hn
      rw [Int.toNat_natCast] at c2
      show Run _ _ _ _ _ (Post c [] (.p (.bool (true&&((D.1:Int)==2*(n:Int) - 3&&allB (fun i=>hsB g1 nb1 (D.2 i)) D.1)))))
      cases hl:((D.1:Int)==2*(n:Int) - 3) with
      | false =>
        have hl':(!((D.1:Int)==2*(n:Int) - 3))=true:=by rw [hl];rfl
        refine pkZ Tryz.func23 hc (ck1c K g1 nb1 n g nb N pl np w v u D) ?_
        repeat' (first | exact aN | apply aI)
        all_goals (first | omega | rfl | (intros;first | assumption | exact trivial | rfl | exact fT ‹_›) | (exact c1) | (exact c2) | (exact e1) | (exact e6) | (exact hl'))
      | true =>
        have hl':(!((D.1:Int)==2*(n:Int) - 3))=false:=by rw [hl];rfl
        rw [Bool.true_and,Bool.true_and]
        have hdn:D.1≤24:=(graph_in hD).2.1
        have lo:∀ d i,i+d=D.1→allB (fun i=>hsB g1 nb1 (D.2 i)) i=true→Run Tryz.prog c 23 zf20 (CkA g1 nb1 n D i) (Post c [] (.p (.bool (allB (fun i=>hsB g1 nb1 (D.2 i)) D.1)))):=by
          intro d
          induction d with
          | zero =>
            intro i hi ha
            obtain rfl:i=D.1:=by omega
            have hd:decide ((D.1:Int)<(D.1:Int))=false:=decide_eq_false (by omega)
            rw [ha]
            refine pkZ Tryz.func23 hc (ckae g1 nb1 n D D.1) ?_
            repeat' (first | exact aN | apply aI)
            all_goals (first | omega | rfl | (intros;first | assumption | exact trivial | rfl) | (exact hd))
          | succ d ih =>
            intro i hi ha
            have hd:decide ((i:Int)<(D.1:Int))=true:=decide_eq_true (by omega)
            have cb:=con_ContB (n,(nb1,g1),()) (D.2 i) h1
            cases hq:hsB g1 nb1 (D.2 i) with
            | true =>
              change Con _ _ _ _ _ _ (.p (.bool (hsB g1 nb1 (D.2 i)))) at cb
              rw [hq] at cb
              refine pcZ hc (ckat g1 nb1 n D i) ?_ (ih (i+1) (by omega) (by rw [allB,ha];show (true&&hsB g1 nb1 (D.2 i))=true;rw [hq];rfl))
              repeat' (first | exact aN | apply aI)
              all_goals (first | exact aP _ _ | exact aA _ _ | omega | rfl | (intros;first | assumption | exact trivial | rfl | exact fT ‹_›) | (exact hd) | (exact cb) | (intros;simp [All];done))
            | false =>
              change Con _ _ _ _ _ _ (.p (.bool (hsB g1 nb1 (D.2 i)))) at cb
              rw [hq] at cb
              rw [all_no (p:=fun i=>hsB g1 nb1 (D.2 i)) (i:=i) (by omega) hq]
              refine pkZ Tryz.func23 hc (ckaf g1 nb1 n D i) ?_
              repeat' (first | exact aN | apply aI)
              all_goals (first | omega | rfl | (intros;first | assumption | exact trivial | rfl | exact fT ‹_›) | (exact hd) | (exact cb))
        refine pcZ hc (ck1z K g1 nb1 n g nb N pl np w v u D) ?_ (lo D.1 0 (by omega) rfl)
        repeat' (first | exact aN | apply aI)
        all_goals (first | exact aP _ _ | exact aA _ _ | omega | rfl | (intros;first | assumption | exact trivial | rfl | exact fT ‹_›) | (exact c1) | (exact c2) | (exact e1) | (exact e6) | (exact hl') | (intros;simp [All];done))
theorem con_ck6_i (hK:K=6) (h1:nb1≤1048576) (hv:v.1≤1048576) :
    Con Tryz.prog 23 0 [] [clA K g1 nb1 N1 g nb N pl np w v u] [] (.p (.bool (ck6R g1 nb1 N1 v))):=by
  have e1:(K==1)=false:=by rw [hK];rfl
  have e6:(K==6)=true:=by rw [hK];rfl
  have c1:=con_IsGraph_i (N1,(nb1,g1),()) (smG g1 nb1 N1 h1)
  change Con Tryz.prog 62 0 [] [gzA g1 nb1 N1] [] (.p (.bool (isG g1 nb1 N1))) at c1
  have c2:=con_Build_i N1 v.1 v.2 hv
  unfold ck6R
  refine csZ Tryz.func23 (fun c hc=>?_)
  cases hg:isG g1 nb1 N1 with
  | false =>
    rw [hg] at c1
    rw [show (match buF N1 v.1 v.2 with | none=>false | some D=>false&&((D.1:Int)==2*N1 - 3&&eqGr (N1,(nb1,g1),()) (N1,D,())))=false by cases buF N1 v.1 v.2<;>rfl]
    refine pkZ Tryz.func23 hc (ck6g K g1 nb1 N1 g nb N pl np w v u) ?_
    repeat' (first | exact aN | apply aI)
    all_goals (first | omega | rfl | (intros;first | assumption | exact trivial | rfl | exact fT ‹_›) | (exact c1) | (exact e1) | (exact e6))
  | true =>
    rw [hg] at c1
    cases hb:buF N1 v.1 v.2 with
    | none =>
      rw [hb] at c2
      refine pkZ Tryz.func23 hc (ck6b K g1 nb1 N1 g nb N pl np w v u) ?_
      repeat' (first | exact aN | apply aI)
      all_goals (first | omega | rfl | (intros;first | assumption | exact trivial | rfl | exact fT ‹_›) | (exact c1) | (exact c2) | (exact e1) | (exact e6))
    | some D =>
      rw [hb] at c2
      obtain ⟨n,hn,n1,n2,hD⟩:=buF_ok hb
      subst hn
      rw [Int.toNat_natCast] at c2
      show Run _ _ _ _ _ (Post c [] (.p (.bool (true&&((D.1:Int)==2*(n:Int) - 3&&eqGr ((n:Int),(nb1,g1),()) ((n:Int),D,()))))))
      have ce:=con_EqualGraphs_i ((n:Int),(nb1,g1),()) ((n:Int),D,()) h1
      cases hl:((D.1:Int)==2*(n:Int) - 3) with
      | false =>
        have hl':(!((D.1:Int)==2*(n:Int) - 3))=true:=by rw [hl];rfl
        refine pkZ Tryz.func23 hc (ck6c K g1 nb1 n g nb N pl np w v u D) ?_
        repeat' (first | exact aN | apply aI)
        all_goals (first | omega | rfl | (intros;first | assumption | exact trivial | rfl | exact fT ‹_›) | (exact c1) | (exact c2) | (exact e1) | (exact e6) | (exact hl'))
      | true =>
        have hl':(!((D.1:Int)==2*(n:Int) - 3))=false:=by rw [hl];rfl
        rw [Bool.true_and,Bool.true_and]
        refine pkZ Tryz.func23 hc (ck6e K g1 nb1 n g nb N pl np w v u D (eqGr ((n:Int),(nb1,g1),()) ((n:Int),D,()))) ?_
        repeat' (first | exact aN | apply aI)
        all_goals (first | omega | rfl | (intros;first | assumption | exact trivial | rfl | exact fT ‹_›) | (exact c1) | (exact c2) | (exact ce) | (exact e1) | (exact e6) | (exact hl'))
theorem con_ck1_s (hK:K=1) (h1:nb1≤1048576) (hv:v.1≤1048576) :
    Con Tryz.prog 21 0 [] [clA K g1 nb1 N1 g nb N pl np w v u] [] (.p (.bool (ck1R g1 nb1 N1 v))):=by
  have e1:(K==1)=true:=by rw [hK];rfl
  have c1:=con_IsGraph_s (N1,(nb1,g1),()) (smG g1 nb1 N1 h1)
  change Con Tryz.prog 53 0 [] [gzA g1 nb1 N1] [] (.p (.bool (isG g1 nb1 N1))) at c1
  have c2:=con_Build_s N1 v.1 v.2 hv
  unfold ck1R
  refine csZ Tryz.func21 (fun c hc=>?_)
  cases hb:buF N1 v.1 v.2 with
  | none =>
    rw [hb] at c2
    have hx:(bif isG g1 nb1 N1 then false else false)=false:=by cases isG g1 nb1 N1<;>rfl
    refine pkZ Tryz.func21 hc (ds1b K g1 nb1 N1 g nb N pl np w v u (isG g1 nb1 N1)) ?_
    repeat' (first | exact aN | apply aI)
    all_goals (first | exact aG _ | omega | rfl | (intros;first | assumption | exact trivial | rfl | exact fT ‹_›) | (exact c1) | (exact c2) | (exact e1) | (exact hx))
  | some D =>
    rw [hb] at c2
    obtain ⟨n,hn,n1,n2,hD⟩:=buF_ok hb
    subst hn
    rw [Int.toNat_natCast] at c2
    obtain ⟨_,hdn,hdo⟩:=graph_in hD
    have ci:=con_Inside ((n:Int),D,()) ((n:Int),(nb1,g1),()) (smG g1 nb1 n h1) (by show D.1≤1048576;omega)
    have hr:(bif (bif (bif isG g1 nb1 n then true else false) then (D.1:Int)==2*(n:Int) - 3 else false) then inB2 ((n:Int),D,()) ((n:Int),(nb1,g1),()) else false)
        = (isG g1 nb1 n&&((D.1:Int)==2*(n:Int) - 3&&allB (fun i=>hsB g1 nb1 (D.2 i)) D.1)):=by
      cases hg:isG g1 nb1 n with
      | false=>rfl
      | true =>
        cases ((D.1:Int)==2*(n:Int) - 3) with
        | false=>rfl
        | true =>
          show inB2 ((n:Int),D,()) ((n:Int),(nb1,g1),())=allB (fun i=>hsB g1 nb1 (D.2 i)) D.1
          obtain ⟨_,_,hok⟩:=graph_in (N:=n) (nb:=nb1) (g:=g1) hg
          unfold inB2
          have key:∀ k,k≤D.1→allB (fun i=>!((cbN g1 (D.2 i).1 (D.2 i).2.1 nb1:Int)==0)) k=allB (fun i=>hsB g1 nb1 (D.2 i)) k:=by
            intro k
            induction k with
            | zero=>intro _;rfl
            | succ k ih =>
              intro hk
              have hk1:=hdo k (by omega)
              rw [allB,allB,ih (by omega),cb_has hok (x:=D.2 k) (by omega),Bool.not_not]
          show (bif allB (fun i=>!((cbN g1 (D.2 i).1 (D.2 i).2.1 nb1:Int)==0)) D.1 then (n:Int)==(n:Int) else false)=_
          rw [key D.1 (Nat.le_refl _),show ((n:Int)==(n:Int))=true by simp]
          cases allB (fun i=>hsB g1 nb1 (D.2 i)) D.1<;>rfl
    show Run _ _ _ _ _ (Post c [] (.p (.bool (isG g1 nb1 n&&((D.1:Int)==2*(n:Int) - 3&&allB (fun i=>hsB g1 nb1 (D.2 i)) D.1)))))
    rw [← hr]
    refine pkZ Tryz.func21 hc (ds1s K g1 nb1 n g nb N pl np w v u D (isG g1 nb1 n) (inB2 ((n:Int),D,()) ((n:Int),(nb1,g1),()))) ?_
    repeat' (first | exact aN | apply aI)
    all_goals (first | exact aG _ | omega | rfl | (intros;first | assumption | exact trivial | rfl | exact fT ‹_›) | (exact c1) | (exact c2) | (exact e1) | (intros;exact ci) | (intro h;exact h))
theorem con_ck6_s (hK:K=6) (h1:nb1≤1048576) (hv:v.1≤1048576) :
    Con Tryz.prog 21 0 [] [clA K g1 nb1 N1 g nb N pl np w v u] [] (.p (.bool (ck6R g1 nb1 N1 v))):=by
  have e1:(K==1)=false:=by rw [hK];rfl
  have e6:(K==6)=true:=by rw [hK];rfl
  have c2:=con_Build_s N1 v.1 v.2 hv
  unfold ck6R
  refine csZ Tryz.func21 (fun c hc=>?_)
  cases hb:buF N1 v.1 v.2 with
  | none =>
    rw [hb] at c2
    refine pkZ Tryz.func21 hc (ds6b K g1 nb1 N1 g nb N pl np w v u) ?_
    repeat' (first | exact aN | apply aI)
    all_goals (first | omega | rfl | (intros;first | assumption | exact trivial | rfl | exact fT ‹_›) | (exact c2) | (exact e1) | (exact e6))
  | some D =>
    rw [hb] at c2
    obtain ⟨n,hn,n1,n2,hD⟩:=buF_ok hb
    subst hn
    rw [Int.toNat_natCast] at c2
    obtain ⟨_,hdn,hdo⟩:=graph_in hD
    have ce:=con_EqualGraphs_s ((n:Int),D,()) ((n:Int),(nb1,g1),()) (by show D.1≤1048576;omega)
    have hr:(bif (bif true then (D.1:Int)==2*(n:Int) - 3 else false) then eqGr ((n:Int),D,()) ((n:Int),(nb1,g1),()) else false)
        = (isG g1 nb1 n&&((D.1:Int)==2*(n:Int) - 3&&eqGr ((n:Int),(nb1,g1),()) ((n:Int),D,()))):=by
      rw [eqGr_sym (n:Int) (nb1,g1) D]
      cases he:eqGr ((n:Int),D,()) ((n:Int),(nb1,g1),()) with
      | false=>cases isG g1 nb1 n<;>cases ((D.1:Int)==2*(n:Int) - 3)<;>rfl
      | true =>
        rw [show isG g1 nb1 n=true from eqGr_isG he hD]
        cases ((D.1:Int)==2*(n:Int) - 3)<;>rfl
    show Run _ _ _ _ _ (Post c [] (.p (.bool (isG g1 nb1 n&&((D.1:Int)==2*(n:Int) - 3&&eqGr ((n:Int),(nb1,g1),()) ((n:Int),D,()))))))
    rw [← hr]
    refine pkZ Tryz.func21 hc (ds6s K g1 nb1 n g nb N pl np w v u D (eqGr ((n:Int),D,()) ((n:Int),(nb1,g1),()))) ?_
    repeat' (first | exact aN | apply aI)
    all_goals (first | exact aG _ | omega | rfl | (intros;first | assumption | exact trivial | rfl | exact fT ‹_›) | (exact c2) | (exact e1) | (exact e6) | (intros;exact ce) | (intro h;exact h))
end
end Go.Proofs.YtkkjoghiigiokaaGreat.Mach
namespace Go.Proofs.YtkkjoghiigiokaaGreat.Mach
open Go
set_option linter.unusedVariables false
set_option linter.unusedSimpArgs false
theorem cvM_step (g:Nat→T_Bar) (nb:Nat) (C:Nat→T_IntS) (i e:Nat) (he:e<nb) :
    (if hasI (flt (spS g (C i)) nb).2 (e:Int) (flt (spS g (C i)) nb).1=true then true else cvM g C i e)=cvM g C (i+1) e:=by
  rw [flt_has,decide_eq_true he,Bool.true_and]
  show _=(anF (fun j=>spS g (C j) e) i||spS g (C i) e)
  unfold cvM
  cases spS g (C i) e<;>simp
section
variable (K:Int) (g1:Nat→T_Bar) (nb1:Nat) (N1:Int) (g:Nat→T_Bar) (nb:Nat) (N:Int) (pl:Nat→T_Place) (np:Nat) (w:T_IntS) (v:T_StepS) (u:T_IntS)
theorem con_ck2_i (hK:K=2) (h1:nb1≤1048576) (hu:u.1≤1048576) :
    Con Tryz.prog 23 0 [] [clA K g1 nb1 N1 g nb N pl np w v u] [] (.p (.bool (ck2R g1 nb1 N1 u))):=by
  have e1:(K==1)=false:=by rw [hK];rfl
  have e6:(K==6)=false:=by rw [hK];rfl
  have e2:(K==2)=true:=by rw [hK];rfl
  have c1:=con_IsGraph_i (N1,(nb1,g1),()) (smG g1 nb1 N1 h1)
  change Con Tryz.prog 62 0 [] [gzA g1 nb1 N1] [] (.p (.bool (isG g1 nb1 N1))) at c1
  unfold ck2R
  refine csZ Tryz.func23 (fun c hc=>?_)
  cases hg:isG g1 nb1 N1 with
  | false =>
    rw [hg] at c1
    refine pkZ Tryz.func23 hc (ck2g K g1 nb1 N1 g nb N pl np w v u) ?_
    repeat' (first | exact aN | apply aI)
    all_goals (first | omega | rfl | (intros;first | assumption | exact trivial | rfl | exact fT ‹_›) | (exact c1) | (exact e1) | (exact e6) | (exact e2))
  | true =>
    rw [hg] at c1
    obtain ⟨n1,n2,hnb,hgood⟩:=graph_inR hg
    have n1:1≤N1:=n1
    have n2:N1≤8:=n2
    have hnb:nb1≤24:=hnb
    have c2:=con_pieces (N1,(nb1,g1),()) u n1 n2 hu
    rw [Bool.true_and]
    cases hp:pcB N1 u.2 u.1 with
    | false =>
      unfold pcH pcR at c2
      rw [if_neg (by rw [hp];exact Bool.false_ne_true),if_neg (by rw [hp];exact Bool.false_ne_true)] at c2
      rw [show cvrR (N1,(nb1,g1),()) (pcN u.2 u.1) (pcC u.2 u.1)=false by
        unfold cvrR
        rw [show allB (fun i=>qsB (N1,(nb1,g1),()).1 (pcC u.2 u.1 i)) (pcN u.2 u.1)=false from hp];rfl]
      refine pkZ Tryz.func23 hc (ck2b K g1 nb1 N1 g nb N pl np w v u) ?_
      repeat' (first | exact aN | apply aI)
      all_goals (first | omega | rfl | (intros;first | assumption | exact trivial | rfl | exact fT ‹_›) | (exact c1) | (exact c2) | (exact e1) | (exact e6) | (exact e2))
    | true =>
      unfold pcH pcR at c2
      rw [if_pos hp,if_pos hp] at c2
      have hcl:=pcC_le u.2 u.1
      have hnl:=pcN_le u.2 u.1
      rw [show cvrR (N1,(nb1,g1),()) (pcN u.2 u.1) (pcC u.2 u.1)=(cvrB g1 nb1 (pcN u.2 u.1) (pcC u.2 u.1)&&decide (cvrS (pcC u.2 u.1) (pcN u.2 u.1)<max 0 (2*N1 - 3))) by
        unfold cvrR
        rw [show allB (fun i=>qsB (N1,(nb1,g1),()).1 (pcC u.2 u.1 i)) (pcN u.2 u.1)=true from hp];rfl]
      generalize pcC u.2 u.1=C at *
      generalize pcN u.2 u.1=cn at *
      have hC:∀ i,(C i).1≤1048576:=fun i=>by have:=hcl i;omega
      have sb:=fun k=>cvrS_b (C:=C) hC k
      have lo:∀ d i (m:Nat→Bool),i+d=cn→(∀ e,e<nb1→m e=cvM g1 C i e)→Run Tryz.prog c 23 zf14 (CkB g1 nb1 N1 (cvrS C i) m cn C i) (Post c [] (.p (.bool (cvrB g1 nb1 cn C&&decide (cvrS C cn<max 0 (2*N1 - 3)))))):=by
        intro d
        induction d with
        | zero =>
          intro i m hi hm
          obtain rfl:i=cn:=by omega
          have hd:decide ((i:Int)<(i:Int))=false:=decide_eq_false (by omega)
          have cf:=con_ContF nb1 m (by omega)
          have ea:allB m nb1=cvrB g1 nb1 i C:=by
            unfold cvrB
            rw [Bool.eq_iff_iff,all_iff,all_iff]
            exact ⟨fun h e he=>by rw [← hm e he];exact h e he,fun h e he=>by rw [hm e he];exact h e he⟩
          rw [ea] at cf
          rw [show (cvrB g1 nb1 i C&&decide (cvrS C i<max 0 (2*N1 - 3)))=(bif !(!cvrB g1 nb1 i C) then decide (cvrS C i<max 0 (2*N1 - 3)) else false) by rw [Bool.not_not];cases cvrB g1 nb1 i C<;>rfl]
          refine pkZ Tryz.func23 hc (ckbe g1 nb1 N1 (cvrS C i) m i C i (!cvrB g1 nb1 i C)) ?_
          repeat' (first | exact aN | apply aI)
          all_goals (first | exact aG _ | omega | rfl | (intros;first | assumption | exact trivial | rfl | exact fT ‹_›) | (exact hd) | (exact cf) | (rw [← mx0];done) | (rw [← mx1];done))
        | succ d ih =>
          intro i m hi hm
          have hd:decide ((i:Int)<(cn:Int))=true:=decide_eq_true (by omega)
          have cs:=con_SpannedV_i (N1,(nb1,g1),()) (C i) (smG g1 nb1 N1 h1) (hC i)
          change Con _ _ _ _ _ [(0,iOb (flt (spS g1 (C i)) nb1).1 (flt (spS g1 (C i)) nb1).2)] (.ar 1 0 0 (flt (spS g1 (C i)) nb1).1) at cs
          have hb:=sb i
          have hCi:=hC i
          have hst:=cvM_step g1 nb1 C i
          have hin:=flt_in (spS g1 (C i)) nb1
          have hfn:=flt_n (spS g1 (C i)) nb1
          generalize flt (spS g1 (C i)) nb1=T at *
          have li:∀ d t (m:Nat→Bool),t+d=T.1→(∀ e,e<nb1→m e=if hasI T.2 (e:Int) t=true then true else cvM g1 C i e)→Run Tryz.prog c 23 zf5 (CkC g1 nb1 N1 (cvrS C i+2*((C i).1:Int) - 3) m cn C i T t) (Post c [] (.p (.bool (cvrB g1 nb1 cn C&&decide (cvrS C cn<max 0 (2*N1 - 3)))))):=by
            intro d
            induction d with
            | zero =>
              intro t m ht hm
              obtain rfl:t=T.1:=by omega
              have hd:decide ((T.1:Int)<(T.1:Int))=false:=decide_eq_false (by omega)
              have hr:=ih (i+1) m (by omega) (fun e he=>by rw [hm e he,hst e he])
              rw [show cvrS C (i+1)=cvrS C i+2*((C i).1:Int) - 3 from rfl] at hr
              refine pcZ hc (ckce g1 nb1 N1 (cvrS C i+2*((C i).1:Int) - 3) m cn C i T T.1) ?_ hr
              repeat' (first | exact aN | apply aI)
              all_goals (first | exact aP _ _ | exact aA _ _ | omega | rfl | (intros;first | assumption | exact trivial | rfl) | (exact hd) | (intros;simp [All];done))
            | succ d ih2 =>
              intro t m ht hm
              have hd:decide ((t:Int)<(T.1:Int))=true:=decide_eq_true (by omega)
              obtain ⟨x,x1,x2⟩:=hin t (by omega)
              have hr:=ih2 (t+1) (fun e=>if e=(T.2 t).toNat then true else m e) (by omega) (fun e he=>by
                rw [hasI,x2,Int.toNat_natCast]
                by_cases hex:e=x
                · rw [if_pos hex,hex];simp
                · rw [if_neg hex,hm e he,show ((x:Int)==(e:Int))=false from beq_eq_false_iff_ne.2 (by omega),Bool.or_false])
              refine pcZ hc (ckct g1 nb1 N1 (cvrS C i+2*((C i).1:Int) - 3) m cn C i T t) ?_ hr
              repeat' (first | exact aN | apply aI)
              all_goals (first | exact aP _ _ | exact aA _ _ | omega | rfl | (intros;first | assumption | exact trivial | rfl | exact fT ‹_›) | (exact hd) | (rw [x2];omega) | (intro a ha;by_cases q:a=(T.2 t).toNat<;>(simp [q,cvtL,cvt,tg,tru,All];done)) | (intros;simp [All];done))
          refine pcZ hc (ckbt g1 nb1 N1 (cvrS C i) m cn C i T) ?_ (li T.1 0 m (by omega) (fun e he=>by rw [hm e he,hasI,if_neg Bool.false_ne_true]))
          repeat' (first | exact aN | apply aI)
          all_goals (first | exact aP _ _ | exact aA _ _ | omega | rfl | (intros;first | assumption | exact trivial | rfl) | (exact hd) | (exact cs) | (intros;simp [All];done))
      refine pcZ hc (ck2z K g1 nb1 N1 g nb N pl np w v u cn C) ?_ (lo cn 0 (fun _=>false) (by omega) (fun e he=>rfl))
      repeat' (first | exact aN | apply aI)
      all_goals (first | exact aP _ _ | exact aA _ _ | omega | rfl | (intros;first | assumption | exact trivial | rfl | exact fT ‹_›) | (exact c1) | (exact c2) | (exact e1) | (exact e6) | (exact e2) | (intros;simp [All];done))
theorem con_ck2_s (hK:K=2) (h1:nb1≤1048576) (hu:u.1≤1048576) :
    Con Tryz.prog 21 0 [] [clA K g1 nb1 N1 g nb N pl np w v u] [] (.p (.bool (ck2R g1 nb1 N1 u))):=by
  have e1:(K==1)=false:=by rw [hK];rfl
  have e6:(K==6)=false:=by rw [hK];rfl
  have e2:(K==2)=true:=by rw [hK];rfl
  have c1:=con_IsGraph_s (N1,(nb1,g1),()) (smG g1 nb1 N1 h1)
  change Con Tryz.prog 53 0 [] [gzA g1 nb1 N1] [] (.p (.bool (isG g1 nb1 N1))) at c1
  have c2:=con_l33Sets u hu
  unfold ck2R
  refine csZ Tryz.func21 (fun c hc=>?_)
  cases hg:isG g1 nb1 N1 with
  | false =>
    rw [hg] at c1
    refine pkZ Tryz.func21 hc (ds2n K g1 nb1 N1 g nb N pl np w v u) ?_
    repeat' (first | exact aN | apply aI)
    all_goals (first | omega | rfl | (intros;first | assumption | exact trivial | rfl) | (exact c1) | (exact e1) | (exact e6) | (exact e2))
  | true =>
    rw [hg] at c1
    obtain ⟨n1,n2,hnb,hgood⟩:=graph_inR hg
    have n1:1≤N1:=n1
    have n2:N1≤8:=n2
    have hcl:=pcC_le u.2 u.1
    have hnl:=pcN_le u.2 u.1
    rw [Bool.true_and]
    generalize pcC u.2 u.1=C at *
    generalize pcN u.2 u.1=cn at *
    have cv:=con_Covers (N1,(nb1,g1),()) cn C n1 n2 h1 (by omega) (fun i=>by have:=hcl i;omega)
    refine pkZ Tryz.func21 hc (ds2y K g1 nb1 N1 g nb N pl np w v u cn C (cvrR (N1,(nb1,g1),()) cn C)) ?_
    repeat' (first | exact aN | apply aI)
    all_goals (first | omega | rfl | (intros;first | assumption | exact trivial | rfl) | (exact c1) | (exact c2) | (exact cv) | (exact e1) | (exact e6) | (exact e2))
theorem con_ck3_i (hK:K=3) (h1:nb1≤1048576) (hu:u.1≤1048576) :
    Con Tryz.prog 23 0 [] [clA K g1 nb1 N1 g nb N pl np w v u] [] (.p (.bool (ck3R g1 nb1 N1 u))):=by
  have e1:(K==1)=false:=by rw [hK];rfl
  have e6:(K==6)=false:=by rw [hK];rfl
  have e2:(K==2)=false:=by rw [hK];rfl
  have e3:(K==3)=true:=by rw [hK];rfl
  have c1:=con_IsGraph_i (N1,(nb1,g1),()) (smG g1 nb1 N1 h1)
  change Con Tryz.prog 62 0 [] [gzA g1 nb1 N1] [] (.p (.bool (isG g1 nb1 N1))) at c1
  have cs:=con_SpannedV_i (N1,(nb1,g1),()) u (smG g1 nb1 N1 h1) hu
  change Con _ _ _ _ _ [(0,iOb (flt (spS g1 u) nb1).1 (flt (spS g1 u) nb1).2)] (.ar 1 0 0 (flt (spS g1 u) nb1).1) at cs
  have cd:isG g1 nb1 N1=true→Con Tryz.prog 97 0 [] [graphA (N1,(nb1,g1),()),inL u] [] (.p (.bool (okD N1 u.2 u.1))):=fun hg=>by
    obtain ⟨n1,n2,_,_⟩:=graph_inR hg
    exact con_areDifferent (N1,(nb1,g1),()) u n1 n2 hu
  refine csZ Tryz.func23 (fun c hc=>?_)
  cases hx:(isG g1 nb1 N1&&(okD N1 u.2 u.1&&decide ((u.1:Int)≥2))) with
  | true =>
    obtain ⟨hg,hx⟩:=Bool.and_eq_true_iff.1 hx
    obtain ⟨ho,hx⟩:=Bool.and_eq_true_iff.1 hx
    have cd:=cd hg
    rw [hg] at c1
    rw [ho] at cd
    rw [show ck3R g1 nb1 N1 u=decide (((flt (spS g1 u) nb1).1:Int)>2*(u.1:Int) - 3) by unfold ck3R;rw [hg,ho,hx];rfl]
    generalize flt (spS g1 u) nb1=R at *
    refine pkZ Tryz.func23 hc (ck3y K g1 nb1 N1 g nb N pl np w v u R) ?_
    repeat' (first | exact aN | apply aI)
    all_goals (first | omega | rfl | (intros;first | assumption | exact trivial | rfl | exact fT ‹_›) | (exact c1) | (exact cd) | (exact cs) | (exact hx) | (exact e1) | (exact e6) | (exact e2) | (exact e3))
  | false =>
    rw [show ck3R g1 nb1 N1 u=false by
      unfold ck3R;revert hx
      cases isG g1 nb1 N1<;>cases okD N1 u.2 u.1<;>cases decide ((u.1:Int)≥2)<;>intro hx<;>first | rfl | cases hx]
    have hn:(bif (bif isG g1 nb1 N1 then decide ((u.1:Int)≥2) else false) then okD N1 u.2 u.1 else false)=false:=by
      revert hx
      cases isG g1 nb1 N1<;>cases okD N1 u.2 u.1<;>cases decide ((u.1:Int)≥2)<;>intro hx<;>first | rfl | cases hx
    refine pkZ Tryz.func23 hc (ck3n K g1 nb1 N1 g nb N pl np w v u (isG g1 nb1 N1) (okD N1 u.2 u.1)) ?_
    repeat' (first | exact aN | apply aI)
    all_goals (first | exact aG _ | omega | rfl | (intros;first | assumption | exact trivial | rfl | exact fT ‹_›) | (exact c1) | (exact hn) | (intro h;exact cd (by revert h;cases isG g1 nb1 N1<;>intro h<;>first | rfl | cases h)) | (exact e1) | (exact e6) | (exact e2) | (exact e3) | (intro h;exact h))
theorem con_Check_i (h1:nb1≤1048576) (hn:nb≤1048576∧np≤1048576) (hw:w.1≤1048576) (hv:v.1≤1048576) (hu:u.1≤1048576) :
    Con Tryz.prog 23 0 [] [clA K g1 nb1 N1 g nb N pl np w v u] [] (.p (.bool (ckR K g1 nb1 N1 g nb N pl np w v u))):=by
  unfold ckR
  by_cases k1:K=1
  · rw [if_pos k1];exact con_ck1_i K g1 nb1 N1 g nb N pl np w v u k1 h1 hv
  rw [if_neg k1]
  by_cases k6:K=6
  · rw [if_pos k6];exact con_ck6_i K g1 nb1 N1 g nb N pl np w v u k6 h1 hv
  rw [if_neg k6]
  by_cases k2:K=2
  · rw [if_pos k2];exact con_ck2_i K g1 nb1 N1 g nb N pl np w v u k2 h1 hu
  rw [if_neg k2]
  by_cases k3:K=3
  · rw [if_pos k3];exact con_ck3_i K g1 nb1 N1 g nb N pl np w v u k3 h1 hu
  rw [if_neg k3]
  have e1:(K==1)=false:=beq_eq_false_iff_ne.2 k1
  have e6:(K==6)=false:=beq_eq_false_iff_ne.2 k6
  have e2:(K==2)=false:=beq_eq_false_iff_ne.2 k2
  have e3:(K==3)=false:=beq_eq_false_iff_ne.2 k3
  have c4:=con_PStiff_i g nb N pl np w u hn hw hu
  have c5:=con_PLoose_i g nb N pl np w u hn hw hu
  refine csZ Tryz.func23 (fun c hc=>?_)
  by_cases k4:K=4
  · rw [if_pos k4]
    have e4:(K==4)=true:=by rw [k4];rfl
    refine pkZ Tryz.func23 hc (ck4 K g1 nb1 N1 g nb N pl np w v u _) ?_
    repeat' (first | exact aN | apply aI)
    all_goals (first | omega | rfl | (intros;first | assumption | exact trivial | rfl | exact fT ‹_›) | (exact c4) | (exact e1) | (exact e6) | (exact e2) | (exact e3) | (exact e4))
  rw [if_neg k4]
  have e4:(K==4)=false:=beq_eq_false_iff_ne.2 k4
  by_cases k5:K=5
  · rw [if_pos k5]
    have e5:(K==5)=true:=by rw [k5];rfl
    refine pkZ Tryz.func23 hc (ck5 K g1 nb1 N1 g nb N pl np w v u _) ?_
    repeat' (first | exact aN | apply aI)
    all_goals (first | omega | rfl | (intros;first | assumption | exact trivial | rfl | exact fT ‹_›) | (exact c5) | (exact e1) | (exact e6) | (exact e2) | (exact e3) | (exact e4) | (exact e5))
  rw [if_neg k5]
  have e5:(K==5)=false:=beq_eq_false_iff_ne.2 k5
  refine pkZ Tryz.func23 hc (ck0 K g1 nb1 N1 g nb N pl np w v u) ?_
  repeat' (first | exact aN | apply aI)
  all_goals (first | omega | rfl | (intros;first | assumption | exact trivial | rfl | exact fT ‹_›) | (exact e1) | (exact e6) | (exact e2) | (exact e3) | (exact e4) | (exact e5))
theorem con_ck3_s (hK:K=3) (h1:nb1≤1048576) (hu:u.1≤1048576) :
    Con Tryz.prog 21 0 [] [clA K g1 nb1 N1 g nb N pl np w v u] [] (.p (.bool (ck3R g1 nb1 N1 u))):=by
  have e1:(K==1)=false:=by rw [hK];rfl
  have e6:(K==6)=false:=by rw [hK];rfl
  have e2:(K==2)=false:=by rw [hK];rfl
  have e3:(K==3)=true:=by rw [hK];rfl
  have c1:=con_IsGraph_s (N1,(nb1,g1),()) (smG g1 nb1 N1 h1)
  change Con Tryz.prog 53 0 [] [gzA g1 nb1 N1] [] (.p (.bool (isG g1 nb1 N1))) at c1
  have cs:=con_SpannedV_s (N1,(nb1,g1),()) u (smG g1 nb1 N1 h1) hu
  change Con _ _ _ _ _ [(0,iOb (flt (spS g1 u) nb1).1 (flt (spS g1 u) nb1).2)] (.ar 1 0 0 (flt (spS g1 u) nb1).1) at cs
  have cd:isG g1 nb1 N1=true→Con Tryz.prog 86 0 [] [graphA (N1,(nb1,g1),()),inL u] [] (.p (.bool (okD N1 u.2 u.1))):=fun hg=>by
    obtain ⟨n1,n2,_,_⟩:=graph_inR hg
    exact con_l7Points (N1,(nb1,g1),()) u hu
  refine csZ Tryz.func21 (fun c hc=>?_)
  cases hx:(isG g1 nb1 N1&&(okD N1 u.2 u.1&&decide ((u.1:Int)≥2))) with
  | true =>
    obtain ⟨hg,hx⟩:=Bool.and_eq_true_iff.1 hx
    obtain ⟨ho,hx⟩:=Bool.and_eq_true_iff.1 hx
    have cd:=cd hg
    rw [hg] at c1
    rw [ho] at cd
    rw [show ck3R g1 nb1 N1 u=decide (((flt (spS g1 u) nb1).1:Int)>2*(u.1:Int) - 3) by unfold ck3R;rw [hg,ho,hx];rfl]
    generalize flt (spS g1 u) nb1=R at *
    refine pkZ Tryz.func21 hc (ds3y K g1 nb1 N1 g nb N pl np w v u R) ?_
    repeat' (first | exact aN | apply aI)
    all_goals (first | omega | rfl | (intros;first | assumption | exact trivial | rfl) | (exact c1) | (exact cd) | (exact cs) | (exact hx) | (exact e1) | (exact e6) | (exact e2) | (exact e3))
  | false =>
    rw [show ck3R g1 nb1 N1 u=false by
      unfold ck3R;revert hx
      cases isG g1 nb1 N1<;>cases okD N1 u.2 u.1<;>cases decide ((u.1:Int)≥2)<;>intro hx<;>first | rfl | cases hx]
    have hn:(bif (bif isG g1 nb1 N1 then okD N1 u.2 u.1 else false) then decide ((u.1:Int)≥2) else false)=false:=by
      revert hx
      cases isG g1 nb1 N1<;>cases okD N1 u.2 u.1<;>cases decide ((u.1:Int)≥2)<;>intro hx<;>first | rfl | cases hx
    refine pkZ Tryz.func21 hc (ds3n K g1 nb1 N1 g nb N pl np w v u (isG g1 nb1 N1) (okD N1 u.2 u.1)) ?_
    repeat' (first | exact aN | apply aI)
    all_goals (first | exact aG _ | omega | rfl | (intros;first | assumption | exact trivial | rfl | exact fT ‹_›) | (exact c1) | (exact hn) | (intro h;exact cd (by revert h;cases isG g1 nb1 N1<;>intro h<;>first | rfl | cases h)) | (exact e1) | (exact e6) | (exact e2) | (exact e3) | (intro h;exact h))
theorem con_Check_s (h1:nb1≤1048576) (hn:nb≤1048576∧np≤1048576) (hw:w.1≤1048576) (hv:v.1≤1048576) (hu:u.1≤1048576) :
    Con Tryz.prog 21 0 [] [clA K g1 nb1 N1 g nb N pl np w v u] [] (.p (.bool (ckR K g1 nb1 N1 g nb N pl np w v u))):=by
  unfold ckR
  by_cases k1:K=1
  · rw [if_pos k1];exact con_ck1_s K g1 nb1 N1 g nb N pl np w v u k1 h1 hv
  rw [if_neg k1]
  by_cases k6:K=6
  · rw [if_pos k6];exact con_ck6_s K g1 nb1 N1 g nb N pl np w v u k6 h1 hv
  rw [if_neg k6]
  by_cases k2:K=2
  · rw [if_pos k2];exact con_ck2_s K g1 nb1 N1 g nb N pl np w v u k2 h1 hu
  rw [if_neg k2]
  by_cases k3:K=3
  · rw [if_pos k3];exact con_ck3_s K g1 nb1 N1 g nb N pl np w v u k3 h1 hu
  rw [if_neg k3]
  have e1:(K==1)=false:=beq_eq_false_iff_ne.2 k1
  have e6:(K==6)=false:=beq_eq_false_iff_ne.2 k6
  have e2:(K==2)=false:=beq_eq_false_iff_ne.2 k2
  have e3:(K==3)=false:=beq_eq_false_iff_ne.2 k3
  have c4:=con_PStiff_s g nb N pl np w u hn hw hu
  have c5:=con_PLoose_s g nb N pl np w u hn hw hu
  refine csZ Tryz.func21 (fun c hc=>?_)
  by_cases k4:K=4
  · rw [if_pos k4]
    have e4:(K==4)=true:=by rw [k4];rfl
    refine pkZ Tryz.func21 hc (ds4 K g1 nb1 N1 g nb N pl np w v u _) ?_
    repeat' (first | exact aN | apply aI)
    all_goals (first | omega | rfl | (intros;first | assumption | exact trivial | rfl) | (exact c4) | (exact e1) | (exact e6) | (exact e2) | (exact e3) | (exact e4))
  rw [if_neg k4]
  have e4:(K==4)=false:=beq_eq_false_iff_ne.2 k4
  by_cases k5:K=5
  · rw [if_pos k5]
    have e5:(K==5)=true:=by rw [k5];rfl
    refine pkZ Tryz.func21 hc (ds5 K g1 nb1 N1 g nb N pl np w v u _) ?_
    repeat' (first | exact aN | apply aI)
    all_goals (first | omega | rfl | (intros;first | assumption | exact trivial | rfl) | (exact c5) | (exact e1) | (exact e6) | (exact e2) | (exact e3) | (exact e4) | (exact e5))
  rw [if_neg k5]
  have e5:(K==5)=false:=beq_eq_false_iff_ne.2 k5
  refine pkZ Tryz.func21 hc (ds0 K g1 nb1 N1 g nb N pl np w v u) ?_
  repeat' (first | exact aN | apply aI)
  all_goals (first | omega | rfl | (intros;first | assumption | exact trivial | rfl) | (exact e1) | (exact e6) | (exact e2) | (exact e3) | (exact e4) | (exact e5))
end
noncomputable def ckF (v:T_Claim):Bool:=ckR v.1 v.2.1.2.1.2 v.2.1.2.1.1 v.2.1.1 v.2.2.1.1.1.2.1.2 v.2.2.1.1.1.2.1.1 v.2.2.1.1.1.1 v.2.2.1.1.2.1.2 v.2.2.1.1.2.1.1 v.2.2.1.2.1 v.2.2.2.1 v.2.2.2.2.1
theorem cl_sm2 {v:T_Claim} (hs:smS s_Claim v):v.2.1.2.1.1≤1048576∧(v.2.2.1.1.1.2.1.1≤1048576∧v.2.2.1.1.2.1.1≤1048576)∧v.2.2.1.2.1.1≤1048576∧v.2.2.2.1.1≤1048576∧v.2.2.2.2.1.1≤1048576:=by
  obtain ⟨_,⟨_,⟨h1,_⟩,_⟩,⟨⟨⟨_,⟨h2,_⟩,_⟩,⟨h3,_⟩,_⟩,⟨h4,_⟩,_⟩,⟨h5,_⟩,⟨h6,_⟩,_⟩:=hs
  exact ⟨h1,⟨h2,h3⟩,h4,h5,h6⟩
theorem con_CheckC_i (v:T_Claim) (hs:smS s_Claim v):Con Tryz.prog 23 0 [] [clA v.1 v.2.1.2.1.2 v.2.1.2.1.1 v.2.1.1 v.2.2.1.1.1.2.1.2 v.2.2.1.1.1.2.1.1 v.2.2.1.1.1.1 v.2.2.1.1.2.1.2 v.2.2.1.1.2.1.1 v.2.2.1.2.1 v.2.2.2.1 v.2.2.2.2.1] [] (.p (.bool (ckF v))):=by
  obtain ⟨h1,h2,h3,h4,h5⟩:=cl_sm2 hs
  exact con_Check_i _ _ _ _ _ _ _ _ _ _ _ _ h1 h2 h3 h4 h5
theorem con_CheckC_s (v:T_Claim) (hs:smS s_Claim v):Con Tryz.prog 21 0 [] [clA v.1 v.2.1.2.1.2 v.2.1.2.1.1 v.2.1.1 v.2.2.1.1.1.2.1.2 v.2.2.1.1.1.2.1.1 v.2.2.1.1.1.1 v.2.2.1.1.2.1.2 v.2.2.1.1.2.1.1 v.2.2.1.2.1 v.2.2.2.1 v.2.2.2.2.1] [] (.p (.bool (ckF v))):=by
  obtain ⟨h1,h2,h3,h4,h5⟩:=cl_sm2 hs
  exact con_Check_s _ _ _ _ _ _ _ _ _ _ _ _ h1 h2 h3 h4 h5
end Go.Proofs.YtkkjoghiigiokaaGreat.Mach
namespace Go.Proofs.YtkkjoghiigiokaaGreat.Mach
open Go
set_option linter.unusedVariables false
set_option linter.unusedSimpArgs false
theorem p_FnExactCheckClaim_0 (v0:T_Claim) :
    pathOb Tryz.prog Tryz.f4 0 [rg 2,rg 1,rm [(2,oc [] (.p (.int .i64 (f_szClaim v0 1048576))))] 1,rg 2,.dec true,rg 1] [.code (bodyOf Tryz.f4)] (start Tryz.f4 [] 0 [(zf1 v0)]) [] 1 [] (.p (.bool true)) =
    some [(NT 0 1),Con Tryz.prog 20 0 [] [(zf1 v0),.p (.int .i64 1048576)] [] (.p (.int .i64 (f_szClaim v0 1048576))),((decide (f_szClaim v0 1048576<0))=true),(true=true)]:=by kernel_rfl
theorem p_FnExactCheckClaim_e (v0:T_Claim) :
    pathOb Tryz.prog Tryz.f4 0 [rg 2,rg 1,rm [(2,oc [] (.p (.int .i64 (f_szClaim v0 1048576))))] 1,rg 2,.dec false,rm [(1,oc (zf3 v0) (zf23 v0)),(0,oc [] (.p (.bool (ckF v0))))] 1,rm [(1,oc (zf3 v0) (zf23 v0))] 2,rm [(1,oc [] (.p (.bool (ckF v0))))] 1,rg 3,.dec false,rm [(2,oc (zf3 v0) (zf23 v0)),(0,oc [] (.p (.bool true)))] 1,.dec false,rg 1] [.code (bodyOf Tryz.f4)] (start Tryz.f4 [] 0 [(zf1 v0)]) [] 1 [] (.p (.bool true)) =
    some [(NT 0 1),Con Tryz.prog 20 0 [] [(zf1 v0),.p (.int .i64 1048576)] [] (.p (.int .i64 (f_szClaim v0 1048576))),((decide (f_szClaim v0 1048576<0))=false),(NT 0 1),Con Tryz.prog 22 0 [] [(zf1 v0)] (zf2 v0) ((zf23 v0)),(AN 2),(NL v0.2.1.2.1.1 v0.2.1.2.1.1),(AN 2),(NL v0.2.2.1.1.1.2.1.1 v0.2.2.1.1.1.2.1.1),(AN 2),(NL v0.2.2.1.1.2.1.1 v0.2.2.1.1.2.1.1),(AN 1),(NL v0.2.2.1.2.1.1 v0.2.2.1.2.1.1),(AN 5),(NL v0.2.2.2.1.1 v0.2.2.2.1.1),(AN 1),(NL v0.2.2.2.2.1.1 v0.2.2.2.2.1.1),Con Tryz.prog 21 0 [] [(zf1 v0)] [] (.p (.bool (ckF v0))),(NT 0 1),Con Tryz.prog 22 0 [] [(zf1 v0)] (zf2 v0) ((zf23 v0)),(NT 0 1),((true=true)→ (AN 1)),(NT 0 1),(AN 2),(NL v0.2.1.2.1.1 v0.2.1.2.1.1),(AN 2),(NL v0.2.2.1.1.1.2.1.1 v0.2.2.1.1.1.2.1.1),(AN 2),(NL v0.2.2.1.1.2.1.1 v0.2.2.1.1.2.1.1),(AN 1),(NL v0.2.2.1.2.1.1 v0.2.2.1.2.1.1),(AN 5),(NL v0.2.2.2.1.1 v0.2.2.2.1.1),(AN 1),(NL v0.2.2.2.2.1.1 v0.2.2.2.2.1.1),Con Tryz.prog 23 0 [] [(zf1 v0)] [] (.p (.bool (ckF v0))),((!ckF v0==ckF v0)=false),(NT 0 1),(NT 0 1),Con Tryz.prog 22 0 [] [(zf1 v0)] (zf2 v0) ((zf23 v0)),(AN 2),(NL v0.2.1.2.1.1 v0.2.1.2.1.1),(AN 2),(NL v0.2.2.1.1.1.2.1.1 v0.2.2.1.1.1.2.1.1),(AN 2),(NL v0.2.2.1.1.2.1.1 v0.2.2.1.1.2.1.1),(AN 1),(NL v0.2.2.1.2.1.1 v0.2.2.1.2.1.1),(AN 5),(NL v0.2.2.2.1.1 v0.2.2.2.1.1),(AN 1),(NL v0.2.2.2.2.1.1 v0.2.2.2.2.1.1),(AN 2),(NL v0.2.1.2.1.1 v0.2.1.2.1.1),(AN 2),(NL v0.2.2.1.1.1.2.1.1 v0.2.2.1.1.1.2.1.1),(AN 2),(NL v0.2.2.1.1.2.1.1 v0.2.2.1.1.2.1.1),(AN 1),(NL v0.2.2.1.2.1.1 v0.2.2.1.2.1.1),(AN 5),(NL v0.2.2.2.1.1 v0.2.2.2.1.1),(AN 1),(NL v0.2.2.2.2.1.1 v0.2.2.2.2.1.1),Con Tryz.prog 15 0 [] [(zf1 v0),(zf1 v0)] [] (.p (.bool true)),((!true)=false),(true=true)]:=by kernel_rfl
theorem con_law_FnExactCheckClaim (v0:T_Claim) (k0:okS s_Claim v0):Con Tryz.prog 4 0 [] [(zf1 v0)] [] (.p (.bool true)):=by
  refine csZ Tryz.func4 (fun c hc=>?_)
  have l0:=le_szClaim v0 1048576 (by omega)
  by_cases g0:(f_szClaim v0 1048576)<0
  · refine pkZ Tryz.func4 hc (p_FnExactCheckClaim_0 v0) ?_
    repeat' (first | exact aN | apply aI)
    all_goals (first | omega | rfl | (intros;first | assumption | exact trivial | rfl) | (exact con_szClaim v0 k0 _ (by omega) (by omega)) | (simp;omega))
  have hs0:=sm_szClaim v0 1048576 (by omega) (by omega) g0
  refine pkZ Tryz.func4 hc (p_FnExactCheckClaim_e v0) ?_
  repeat' (first | exact aN | apply aI)
  all_goals (first | omega | rfl | (intros;first | assumption | exact trivial | rfl | exact fT ‹_›) | (exact con_szClaim v0 k0 _ (by omega) (by omega)) | (exact con_toClaim v0 hs0) | (exact con_CheckC_s v0 hs0) | (exact con_CheckC_i v0 hs0) | (exact con_eqClaim v0 hs0) | (simp;try omega))
end Go.Proofs.YtkkjoghiigiokaaGreat.Mach
