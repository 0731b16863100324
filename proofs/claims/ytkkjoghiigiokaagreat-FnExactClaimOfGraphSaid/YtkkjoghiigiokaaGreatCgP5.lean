/- What the law Cg needs, part 5 of 5: the abstract machine and the contracts of the functions. Conditions: as each theorem says. -/
import Derived.Test.YtkkjoghiigiokaaGreatCgP4
namespace Go.Proofs.YtkkjoghiigiokaaGreat.Mach
open Go
set_option linter.unusedVariables false
set_option linter.unusedSimpArgs false
def z5:Ob:=⟨true,5,1,fun _=>[.p (.int .i64 0),.p (.int .i64 0),.p (.int .i64 0),.p (.int .i64 0),.p (.int .i64 0)]⟩
def SB0 (g:Nat→T_Bar) (nb N v:Nat):St :=
  ⟨[grG g nb N,.pt 2 0 0 0,.pt 2 1 0 0,.pt 5 2 0 0,.p (.bool false)]++List.replicate 10 anyA++[.p (.int .i64 N),.p (.int .i64 v)]++List.replicate 100 anyA,[(0,bxG g nb N),(1,z2),(2,z5)],3⟩
def SB1 (g:Nat→T_Bar) (nb N v:Nat):St :=
  ⟨[grG g nb N,.pt 2 0 0 0,.pt 2 1 0 0,.pt 5 2 0 0,.p (.bool false)]++List.replicate 34 anyA++[.p (.int .i64 N),.p (.int .i64 v)]++List.replicate 76 anyA,[(0,bxG g nb N),(1,z2),(2,z5)],3⟩
def SU0' (g:Nat→T_Bar) (nb N v:Nat):St :=
  ⟨[grG g nb N,.pt 2 0 0 0,.pt 2 1 0 0,.pt 5 2 0 0,.p (.bool false),.p (.int .i64 v)]++List.replicate 88 anyA,[(0,bxG g nb N),(1,z2),(2,z5)],3⟩
def SU1' (g:Nat→T_Bar) (nb N v:Nat):St :=
  ⟨[grG g nb N,.pt 2 0 0 0,.pt 2 1 0 0,.pt 5 2 0 0,.p (.bool false),.p .any,.p .any,.p (.int .i64 v)]++List.replicate 86 anyA,[(0,bxG g nb N),(1,z2),(2,z5)],3⟩
def noU:AV:=.tup [.agg [.p .any,.p .any],.agg [.p .any,.p .any,.p .any,.p .any,.p .any],.p (.bool false)]
theorem vSi (g:Nat→T_Bar) (nb N k l:Nat) :
    pathOb Tryz.prog Tryz.f291 0 [rg 2,rm [(3,oc [(0,iOb 0 (fun _=>0))] (.tup [.ar 1 0 0 0,.p (.bool false)]))] 5,rm [(1,oc [] (.p (.bool false))),(3,oc [] (.p (.bool true)))] 6] [.code (bodyOf Tryz.f291)] (start Tryz.f291 [] 0 [grG g nb N,.p (.int .i64 k),.p (.int .i64 l)]) [] 1 [] (.p (.bool false)) =
    some [(NT 0 1),Con Tryz.prog 69 0 [] [(zf110 N nb g),.p (.int .i64 (↑k:Int)),.p (.int .i64 (↑l:Int))] [(0,⟨false,1,0,(fun i=>[.p (.int .i64 0)])⟩)] (.tup [.ar 1 0 0 0,.p (.bool false)]),(NT 0 1),Con Tryz.prog 62 0 [] [(zf110 N nb g)] [] (.p (.bool false)),(AG false),(AG false),((false=true)→ Con Tryz.prog 189 0 [] [.p (.int .i64 (↑k:Int)),.p (.int .i64 (↑l:Int))] [] (.p (.bool true))),(AG false),(AG (bif false then true else false)),(AG (bif false then true else false)),((bif bif false then true else false then !false else false)=false)]:=by kernel_rfl
theorem vSs (g:Nat→T_Bar) (nb N k l:Nat) :
    pathOb Tryz.prog Tryz.f285 0 [rg 2,rm [(3,oc [(0,iOb 0 (fun _=>0))] (.tup [.ar 1 0 0 0,.p (.bool false)]))] 5,rm [(1,oc [] (.p (.bool false))),(3,oc [] (.p (.bool true)))] 6] [.code (bodyOf Tryz.f285)] (start Tryz.f285 [] 0 [grG g nb N,.p (.int .i64 k),.p (.int .i64 l)]) [] 1 [] (.p (.bool false)) =
    some [(NT 0 1),Con Tryz.prog 60 0 [] [(zf110 N nb g),.p (.int .i64 (↑k:Int)),.p (.int .i64 (↑l:Int))] [(0,⟨false,1,0,(fun i=>[.p (.int .i64 0)])⟩)] (.tup [.ar 1 0 0 0,.p (.bool false)]),(NT 0 1),Con Tryz.prog 53 0 [] [(zf110 N nb g)] [] (.p (.bool false)),(AG false),(AG false),((false=true)→ Con Tryz.prog 176 0 [] [.p (.int .i64 (↑k:Int)),.p (.int .i64 (↑l:Int))] [] (.p (.bool true))),(AG false),(AG (bif false then true else false)),(AG (bif false then true else false)),((bif bif false then true else false then !false else false)=false)]:=by kernel_rfl
theorem sbz (g:Nat→T_Bar) (nb N:Nat) :
    pieceOb Tryz.prog 0 [rg 4,rg 3,.head] [.code (bodyOf Tryz.f182)] (start Tryz.f182 [] 0 [grG g nb N]) [0,32,64] 1 (SB0 g nb N 0) =
    some (zf92,[(NT 0 1),(AI ((↑N:Int))),(AN nb),(AP nb (fun i=>[.int .i64 ((g i).1),.int .i64 ((g i).2.1)])),(AN 0),(AN 0),(AN 0),(false=false),(AI ((↑N:Int))),((0:Int)=(↑0:Int)),((([AV.p (PV.int IntKind.i64 (↑N:Int)),brL g nb].length):Nat)=2),(NL 1 1),(NL 1 1),(AI ((↑N:Int))),(AN nb),(AP nb (fun i=>[.int .i64 ((g i).1),.int .i64 ((g i).2.1)])),((((List.map (fun v=>AV.p (absV v)) [Value.int IntKind.i64 0,Value.slice none 0 0]).length):Nat)=2),(NL 1 1),(NL 1 1),(AI 0),((((List.map (fun v=>AV.p (absV v)) [Value.int IntKind.i64 0,Value.int IntKind.i64 0,Value.int IntKind.i64 0,Value.int IntKind.i64 0,Value.int IntKind.i64 0]).length):Nat)=5),(NL 1 1),(NL 1 1),(AI 0),(AI 0),(AI 0),(AI 0),(AI 0)]):=by kernel_rfl
theorem sbA (g:Nat→T_Bar) (nb N v:Nat) (d:Nat) (h:Nat→T_Bar) (e:Nat) (f:Nat→Int) :
    pathOb Tryz.prog Tryz.f182 0 [rg 1,.dec true,rg 2,rm [(2,oc [(0,brOb d h),(1,iOb e f)] (.tup [.agg [.p (.int .i64 N),.ar 2 0 0 d],.ar 1 1 0 e]))] 6,rg 3,.dec true,rg 12] zf92 (SB0 g nb N v) [163] 1 [(0,brOb d h)] ((zf47 N d v f)) =
    some [((decide ((↑v:Int)<(↑N:Int)))=true),(NT 0 1),Con Tryz.prog 289 0 [] [(zf110 N nb g),.p (.int .i64 (↑v:Int))] (zf94 d h e f) (.tup [.agg [.p (.int .i64 (↑N:Int)),.ar 2 0 0 d],.ar 1 1 0 e]),(NT 0 1),((true=true)→ (AN 1)),(((↑e:Int)==2)=true),(NT 0 1),(IL 0 0),(IT 0 (↑e:Int)),(NT 0 e),(IL 0 1),(IT 1 (↑e:Int)),(NT 1 e),(NT 0 1),((true=true)→ (AN 1)),(NT 0 1),((true=true)→ (AN 1)),(NT 0 1),(NT 0 1),(AI ((↑N:Int))),(AN 0),(AN d),(AI 1),(AI ((↑v:Int))),(AI ((f 0))),(AI ((f 1))),(AI 0),(true=true),(AN 2),(NL d d),(AA d (fun i=>[.p (.int .i64 ((h i).1)),.p (.int .i64 ((h i).2.1))])),(AE d)]:=by kernel_rfl
theorem sbB (g:Nat→T_Bar) (nb N v:Nat) (d:Nat) (h:Nat→T_Bar) (e:Nat) (f:Nat→Int) :
    pieceOb Tryz.prog 0 [rg 1,.dec true,rg 2,rm [(2,oc [(0,brOb d h),(1,iOb e f)] (.tup [.agg [.p (.int .i64 N),.ar 2 0 0 d],.ar 1 1 0 e]))] 6,rg 3,.dec false,rg 2,.head] zf92 (SB0 g nb N v) [0,1,2] 1 (SB0 g nb N (v+1)) =
    some (zf92,[((decide ((↑v:Int)<(↑N:Int)))=true),(NT 0 1),Con Tryz.prog 289 0 [] [(zf110 N nb g),.p (.int .i64 (↑v:Int))] (zf94 d h e f) (.tup [.agg [.p (.int .i64 (↑N:Int)),.ar 2 0 0 d],.ar 1 1 0 e]),(NT 0 1),((true=true)→ (AN 1)),(((↑e:Int)==2)=false),(R0 ((↑v:Int)+1)),(R1 ((↑v:Int)+1)),(AI ((↑N:Int))),(AN nb),(AP nb (fun i=>[.int .i64 ((g i).1),.int .i64 ((g i).2.1)])),(AN 0),(AN 0),(AN 0),(false=false),(AI ((↑N:Int))),((((↑v:Int)+1):Int)=(↑(v+1):Int)),(AN 2),(NL 1 1),(NL 1 1),(AI ((↑N:Int))),(AN nb),(AP nb (fun i=>[.int .i64 ((g i).1),.int .i64 ((g i).2.1)])),(AN 2),(NL 1 1),(NL 1 1),(AI 0),(AN 5),(NL 1 1),(NL 1 1),(AI 0),(AI 0),(AI 0),(AI 0),(AI 0)]):=by kernel_rfl
theorem sbC (g:Nat→T_Bar) (nb N v:Nat) :
    pieceOb Tryz.prog 0 [rg 1,.dec false,rg 3,.head] zf92 (SB0 g nb N v) [0,1,2] 1 (SB1 g nb N 0) =
    some (zf70,[((decide ((↑v:Int)<(↑N:Int)))=false),(NT 0 1),(AI ((↑N:Int))),(AN nb),(AP nb (fun i=>[.int .i64 ((g i).1),.int .i64 ((g i).2.1)])),(AN 0),(AN 0),(AN 0),(false=false),(AI ((↑N:Int))),((0:Int)=(↑0:Int)),(AN 2),(NL 1 1),(NL 1 1),(AI ((↑N:Int))),(AN nb),(AP nb (fun i=>[.int .i64 ((g i).1),.int .i64 ((g i).2.1)])),(AN 2),(NL 1 1),(NL 1 1),(AI 0),(AN 5),(NL 1 1),(NL 1 1),(AI 0),(AI 0),(AI 0),(AI 0),(AI 0)]):=by kernel_rfl
theorem sbD (g:Nat→T_Bar) (nb N v:Nat) (d:Nat) (h:Nat→T_Bar) (e:Nat) (f:Nat→Int) :
    pieceOb Tryz.prog 0 [rg 1,.dec true,rg 2,rm [(2,oc [(0,brOb d h),(1,iOb e f)] (.tup [.agg [.p (.int .i64 N),.ar 2 0 0 d],.ar 1 1 0 e]))] 6,rg 3,.dec true,rg 2,.head] zf70 (SB1 g nb N v) [0,1,2] 1 (SB1 g nb N (v+1)) =
    some (zf70,[((decide ((↑v:Int)<(↑N:Int)))=true),(NT 0 1),Con Tryz.prog 289 0 [] [(zf110 N nb g),.p (.int .i64 (↑v:Int))] (zf94 d h e f) (.tup [.agg [.p (.int .i64 (↑N:Int)),.ar 2 0 0 d],.ar 1 1 0 e]),(NT 0 1),((true=true)→ (AN 1)),(((↑e:Int) != 3)=true),(R0 ((↑v:Int)+1)),(R1 ((↑v:Int)+1)),(AI ((↑N:Int))),(AN nb),(AP nb (fun i=>[.int .i64 ((g i).1),.int .i64 ((g i).2.1)])),(AN 0),(AN 0),(AN 0),(false=false),(AI ((↑N:Int))),((((↑v:Int)+1):Int)=(↑(v+1):Int)),(AN 2),(NL 1 1),(NL 1 1),(AI ((↑N:Int))),(AN nb),(AP nb (fun i=>[.int .i64 ((g i).1),.int .i64 ((g i).2.1)])),(AN 2),(NL 1 1),(NL 1 1),(AI 0),(AN 5),(NL 1 1),(NL 1 1),(AI 0),(AI 0),(AI 0),(AI 0),(AI 0)]):=by kernel_rfl
theorem sbX (g:Nat→T_Bar) (nb N v:Nat) :
    pathOb Tryz.prog Tryz.f182 0 [rg 1,.dec false,rg 5] zf70 (SB1 g nb N v) [] 1 [] noU =
    some [((decide ((↑v:Int)<(↑N:Int)))=false),(NT 0 1),((true=true)→ (AN 1)),(NT 0 1),((true=true)→ (AN 1)),(NT 0 1),(NT 0 1),(false=false)]:=by kernel_rfl
theorem suz (g:Nat→T_Bar) (nb N:Nat) :
    pieceOb Tryz.prog 0 [rg 4,rg 1,.head] [.code (bodyOf Tryz.f171)] (start Tryz.f171 [] 0 [grG g nb N]) [0,32,64] 1 (SU0' g nb N 0) =
    some (zf93,[(AI ((↑N:Int))),(AN nb),(AP nb (fun i=>[.int .i64 ((g i).1),.int .i64 ((g i).2.1)])),(AN 0),(AN 0),(AN 0),(false=false),((0:Int)=(↑0:Int)),((([AV.p (PV.int IntKind.i64 (↑N:Int)),brL g nb].length):Nat)=2),(NL 1 1),(NL 1 1),(AI ((↑N:Int))),(AN nb),(AP nb (fun i=>[.int .i64 ((g i).1),.int .i64 ((g i).2.1)])),((((List.map (fun v=>AV.p (absV v)) [Value.int IntKind.i64 0,Value.slice none 0 0]).length):Nat)=2),(NL 1 1),(NL 1 1),(AI 0),((((List.map (fun v=>AV.p (absV v)) [Value.int IntKind.i64 0,Value.int IntKind.i64 0,Value.int IntKind.i64 0,Value.int IntKind.i64 0,Value.int IntKind.i64 0]).length):Nat)=5),(NL 1 1),(NL 1 1),(AI 0),(AI 0),(AI 0),(AI 0),(AI 0)]):=by kernel_rfl
theorem suA (g:Nat→T_Bar) (nb N v:Nat) (d:Nat) (h:Nat→T_Bar) (e:Nat) (f:Nat→Int) :
    pathOb Tryz.prog Tryz.f171 0 [rg 4,.dec true,rm [(2,oc [(0,iOb e f)] (.ar 1 0 0 e))] 1,rg 3,.dec true,rm [(2,oc [(0,brOb d h)] (.agg [.p (.int .i64 N),.ar 2 0 0 d]))] 11] zf93 (SU0' g nb N v) [419] 1 [(0,brOb d h)] ((zf47 N d v f)) =
    some [(NT 0 1),((decide ((↑v:Int)<(↑N:Int)))=true),(NT 0 1),Con Tryz.prog 283 0 [] [(zf110 N nb g),.p (.int .i64 (↑v:Int))] [(0,⟨false,1,e,(fun i=>[.p (.int .i64 (f i))])⟩)] (.ar 1 0 0 e),(((↑e:Int)==2)=true),(NT 0 1),Con Tryz.prog 284 0 [] [(zf110 N nb g),.p (.int .i64 (↑v:Int))] (zf119 d h) (.agg [.p (.int .i64 (↑N:Int)),.ar 2 0 0 d]),(IL 0 0),(IT 0 (↑e:Int)),(NT 0 e),(IL 0 1),(IT 1 (↑e:Int)),(NT 1 e),(NT 0 1),((true=true)→ (AN 1)),(NT 0 1),((true=true)→ (AN 1)),(NT 0 1),(NT 0 1),(AI ((↑N:Int))),(AN 0),(AN d),(AI 1),(AI ((↑v:Int))),(AI ((f 0))),(AI ((f 1))),(AI 0),(true=true),(AN 2),(NL d d),(AA d (fun i=>[.p (.int .i64 ((h i).1)),.p (.int .i64 ((h i).2.1))])),(AE d)]:=by kernel_rfl
theorem suB (g:Nat→T_Bar) (nb N v:Nat) (e:Nat) (f:Nat→Int) :
    pieceOb Tryz.prog 0 [rg 4,.dec true,rm [(2,oc [(0,iOb e f)] (.ar 1 0 0 e))] 1,rg 3,.dec false,rg 3,.head] zf93 (SU0' g nb N v) [0,1,2] 1 (SU0' g nb N (v+1)) =
    some (zf93,[(NT 0 1),((decide ((↑v:Int)<(↑N:Int)))=true),(NT 0 1),Con Tryz.prog 283 0 [] [(zf110 N nb g),.p (.int .i64 (↑v:Int))] [(0,⟨false,1,e,(fun i=>[.p (.int .i64 (f i))])⟩)] (.ar 1 0 0 e),(((↑e:Int)==2)=false),(R0 ((↑v:Int)+1)),(R1 ((↑v:Int)+1)),(AI ((↑N:Int))),(AN nb),(AP nb (fun i=>[.int .i64 ((g i).1),.int .i64 ((g i).2.1)])),(AN 0),(AN 0),(AN 0),(false=false),((((↑v:Int)+1):Int)=(↑(v+1):Int)),(AN 2),(NL 1 1),(NL 1 1),(AI ((↑N:Int))),(AN nb),(AP nb (fun i=>[.int .i64 ((g i).1),.int .i64 ((g i).2.1)])),(AN 2),(NL 1 1),(NL 1 1),(AI 0),(AN 5),(NL 1 1),(NL 1 1),(AI 0),(AI 0),(AI 0),(AI 0),(AI 0)]):=by kernel_rfl
theorem suC (g:Nat→T_Bar) (nb N v:Nat) :
    pieceOb Tryz.prog 0 [rg 4,.dec false,rg 1,.head] zf93 (SU0' g nb N v) [0,1,2] 1 (SU1' g nb N 0) =
    some (zf71,[(NT 0 1),((decide ((↑v:Int)<(↑N:Int)))=false),(AI ((↑N:Int))),(AN nb),(AP nb (fun i=>[.int .i64 ((g i).1),.int .i64 ((g i).2.1)])),(AN 0),(AN 0),(AN 0),(false=false),((0:Int)=(↑0:Int)),(AN 2),(NL 1 1),(NL 1 1),(AI ((↑N:Int))),(AN nb),(AP nb (fun i=>[.int .i64 ((g i).1),.int .i64 ((g i).2.1)])),(AN 2),(NL 1 1),(NL 1 1),(AI 0),(AN 5),(NL 1 1),(NL 1 1),(AI 0),(AI 0),(AI 0),(AI 0),(AI 0)]):=by kernel_rfl
theorem suD (g:Nat→T_Bar) (nb N v:Nat) (e:Nat) (f:Nat→Int) :
    pieceOb Tryz.prog 0 [rg 4,.dec true,rm [(2,oc [(0,iOb e f)] (.ar 1 0 0 e))] 1,rg 3,.dec true,rg 3,.head] zf71 (SU1' g nb N v) [0,1,2] 1 (SU1' g nb N (v+1)) =
    some (zf71,[(NT 0 1),((decide ((↑v:Int)<(↑N:Int)))=true),(NT 0 1),Con Tryz.prog 283 0 [] [(zf110 N nb g),.p (.int .i64 (↑v:Int))] [(0,⟨false,1,e,(fun i=>[.p (.int .i64 (f i))])⟩)] (.ar 1 0 0 e),(((↑e:Int) != 3)=true),(R0 ((↑v:Int)+1)),(R1 ((↑v:Int)+1)),(AI ((↑N:Int))),(AN nb),(AP nb (fun i=>[.int .i64 ((g i).1),.int .i64 ((g i).2.1)])),(AN 0),(AN 0),(AN 0),(false=false),((((↑v:Int)+1):Int)=(↑(v+1):Int)),(AN 2),(NL 1 1),(NL 1 1),(AI ((↑N:Int))),(AN nb),(AP nb (fun i=>[.int .i64 ((g i).1),.int .i64 ((g i).2.1)])),(AN 2),(NL 1 1),(NL 1 1),(AI 0),(AN 5),(NL 1 1),(NL 1 1),(AI 0),(AI 0),(AI 0),(AI 0),(AI 0)]):=by kernel_rfl
theorem suX (g:Nat→T_Bar) (nb N v:Nat) :
    pathOb Tryz.prog Tryz.f171 0 [rg 4,.dec false,rg 5] zf71 (SU1' g nb N v) [] 1 [] noU =
    some [(NT 0 1),((decide ((↑v:Int)<(↑N:Int)))=false),(NT 0 1),(NT 0 1),((true=true)→ (AN 1)),(NT 0 1),((true=true)→ (AN 1)),(NT 0 1),(NT 0 1),(false=false)]:=by kernel_rfl
theorem sbF0 (g:Nat→T_Bar) (nb N v:Nat) (d:Nat) (h:Nat→T_Bar) (f:Nat→Int) (r0:Nat→T_Bar) :
    pathOb Tryz.prog Tryz.f182 0 [rg 1,.dec true,rg 2,rm [(2,oc [(0,brOb d h),(1,iOb 3 f)] (.tup [.agg [.p (.int .i64 N),.ar 2 0 0 d],.ar 1 1 0 3]))] 6,rg 3,.dec false,rg 33,.loop,rg 1,.dec true,rg 4,rm [(5,oc [] (brA (brX (f 0) (f 1)))),(1,oc [(0,brOb (d+1) r0)] (.agg [.p (.int .i64 N),.ar 2 0 0 (d+1)]))] 2,rm [(1,oc [] (.p (.bool true)))] 0,.dec true,rg 18] zf70 (SB1 g nb N v) [1923] 1 [(0,brOb (d+1) r0)] (.tup [.agg [.p (.int .i64 N),.ar 2 0 0 (d+1)],.agg [.p (.int .i64 2),.p (.int .i64 v),.p (.int .i64 (brX (f 0) (f 1)).1),.p (.int .i64 (brX (f 0) (f 1)).2.1),.p (.int .i64 (f 2))],.p (.bool true)]) =
    some [((decide ((↑v:Int)<(↑N:Int)))=true),(NT 0 1),Con Tryz.prog 289 0 [] [(zf110 N nb g),.p (.int .i64 (↑v:Int))] (zf100 d h f) ((zf125 N d)),(NT 0 1),((true=true)→ (AN 1)),(((↑3:Int) != 3)=false),(IL 0 0),(IT 0 (↑3:Int)),(NT 0 3),(IL 0 1),(IT 1 (↑3:Int)),(NT 1 3),(IL 0 2),(IT 2 (↑3:Int)),(NT 2 3),(IL 0 1),(IT 1 (↑3:Int)),(NT 1 3),(IL 0 2),(IT 2 (↑3:Int)),(NT 2 3),(IL 0 0),(IT 0 (↑3:Int)),(NT 0 3),(IL 0 2),(IT 2 (↑3:Int)),(NT 2 3),(IL 0 0),(IT 0 (↑3:Int)),(NT 0 3),(IL 0 1),(IT 1 (↑3:Int)),(NT 1 3),((decide (0<(↑3:Int)))=true),(IL 0 0),(IT 0 (↑3:Int)),(NT 0 3),(NT 0 1),((true=true)→ (AN 1)),(NT 0 1),(IL 0 0),(IT 0 (↑3:Int)),(NT 0 1),(IL 0 1),(IT 1 (↑3:Int)),(NT 0 1),Con Tryz.prog 290 0 [] [.p (.int .i64 (f 0)),.p (.int .i64 (f 1))] [] ((zf111 f)),(AN 2),(NL d d),(AN 2),(NL 1 1),Con Tryz.prog 225 0 [] [(zf110 N d h),.p (.seq true 2 1 (fun i=>[.int .i64 (if f 1<f 0 then f 1 else f 0),.int .i64 (if f 1>f 0 then f 1 else f 0)]))] (zf116 d r0) (.agg [.p (.int .i64 (↑N:Int)),.ar 2 0 0 (d+1)]),(NT 0 1),((true=true)→ (AN 1)),(NT 0 1),(AN 2),(NL (d+1) (d+1)),Con Tryz.prog 291 0 [] [(zf106 N d r0),.p (.int .i64 2),.p (.int .i64 3)] [] (.p (.bool true)),(true=true),(NT 0 1),(IL 0 0),(IT 0 (↑3:Int)),(NT 0 1),(IL 0 1),(IT 1 (↑3:Int)),(NT 0 1),(IL 0 0),(IT 0 (↑3:Int)),(NT 0 1),(IL 0 1),(IT 1 (↑3:Int)),(NT 0 1),(IL 0 2),(IT 2 (↑3:Int)),(NT 0 1),(NT 0 1),((true=true)→ (AN 1)),(NT 0 1),((true=true)→ (AN 1)),(NT 0 1),(NT 0 1),(AI ((↑N:Int))),(AN 0),(AN ((d+1))),(AI 2),(AI ((↑v:Int))),(((if false=true then if f 1>f 0 then f 1 else f 0 else if f 1<f 0 then f 1 else f 0):Int)=(if f 1<f 0 then f 1 else f 0)),(((if true=true then if f 1>f 0 then f 1 else f 0 else if f 1<f 0 then f 1 else f 0):Int)=(if f 1>f 0 then f 1 else f 0)),(AI ((f 2))),(true=true),(AN 2),(NL (d+1) (d+1)),(AA ((d+1)) (fun i=>[.p (.int .i64 ((r0 i).1)),.p (.int .i64 ((r0 i).2.1))])),(AE ((d+1)))]:=by kernel_rfl
theorem sbF1 (g:Nat→T_Bar) (nb N v:Nat) (d:Nat) (h:Nat→T_Bar) (f:Nat→Int) (r0 r1:Nat→T_Bar) :
    pathOb Tryz.prog Tryz.f182 0 [rg 1,.dec true,rg 2,rm [(2,oc [(0,brOb d h),(1,iOb 3 f)] (.tup [.agg [.p (.int .i64 N),.ar 2 0 0 d],.ar 1 1 0 3]))] 6,rg 3,.dec false,rg 33,.loop,rg 1,.dec true,rg 4,rm [(5,oc [] (brA (brX (f 0) (f 1)))),(1,oc [(0,brOb (d+1) r0)] (.agg [.p (.int .i64 N),.ar 2 0 0 (d+1)]))] 2,rm [(1,oc [] (.p (.bool false)))] 0,.dec false,rg 2,.loop,rg 1,.dec true,rg 4,rm [(5,oc [] (brA (brX (f 1) (f 2)))),(1,oc [(0,brOb (d+1) r1)] (.agg [.p (.int .i64 N),.ar 2 0 0 (d+1)]))] 2,rm [(1,oc [] (.p (.bool true)))] 0,.dec true,rg 18] zf70 (SB1 g nb N v) [2531] 1 [(0,brOb (d+1) r1)] (.tup [.agg [.p (.int .i64 N),.ar 2 0 0 (d+1)],.agg [.p (.int .i64 2),.p (.int .i64 v),.p (.int .i64 (brX (f 1) (f 2)).1),.p (.int .i64 (brX (f 1) (f 2)).2.1),.p (.int .i64 (f 0))],.p (.bool true)]) =
    some [((decide ((↑v:Int)<(↑N:Int)))=true),(NT 0 1),Con Tryz.prog 289 0 [] [(zf110 N nb g),.p (.int .i64 (↑v:Int))] (zf100 d h f) ((zf125 N d)),(NT 0 1),((true=true)→ (AN 1)),(((↑3:Int) != 3)=false),(IL 0 0),(IT 0 (↑3:Int)),(NT 0 3),(IL 0 1),(IT 1 (↑3:Int)),(NT 1 3),(IL 0 2),(IT 2 (↑3:Int)),(NT 2 3),(IL 0 1),(IT 1 (↑3:Int)),(NT 1 3),(IL 0 2),(IT 2 (↑3:Int)),(NT 2 3),(IL 0 0),(IT 0 (↑3:Int)),(NT 0 3),(IL 0 2),(IT 2 (↑3:Int)),(NT 2 3),(IL 0 0),(IT 0 (↑3:Int)),(NT 0 3),(IL 0 1),(IT 1 (↑3:Int)),(NT 1 3),((decide (0<(↑3:Int)))=true),(IL 0 0),(IT 0 (↑3:Int)),(NT 0 3),(NT 0 1),((true=true)→ (AN 1)),(NT 0 1),(IL 0 0),(IT 0 (↑3:Int)),(NT 0 1),(IL 0 1),(IT 1 (↑3:Int)),(NT 0 1),Con Tryz.prog 290 0 [] [.p (.int .i64 (f 0)),.p (.int .i64 (f 1))] [] ((zf111 f)),(AN 2),(NL d d),(AN 2),(NL 1 1),Con Tryz.prog 225 0 [] [(zf110 N d h),.p (.seq true 2 1 (fun i=>[.int .i64 (if f 1<f 0 then f 1 else f 0),.int .i64 (if f 1>f 0 then f 1 else f 0)]))] (zf116 d r0) (.agg [.p (.int .i64 (↑N:Int)),.ar 2 0 0 (d+1)]),(NT 0 1),((true=true)→ (AN 1)),(NT 0 1),(AN 2),(NL (d+1) (d+1)),Con Tryz.prog 291 0 [] [(zf106 N d r0),.p (.int .i64 2),.p (.int .i64 3)] [] (.p (.bool false)),(false=false),(R0 (0+1)),(R1 (0+1)),((decide (0+1<(↑3:Int)))=true),(IL 0 (0+1)),(IT (0+1) (↑3:Int)),(NT 1 3),(NT 0 1),((true=true)→ (AN 1)),(NT 0 1),(IL 0 0),(IT 0 (↑3:Int)),(NT 0 1),(IL 0 1),(IT 1 (↑3:Int)),(NT 0 1),Con Tryz.prog 290 0 [] [.p (.int .i64 (f 1)),.p (.int .i64 (f 2))] [] ((zf112 f)),(AN 2),(NL d d),(AN 2),(NL 1 1),Con Tryz.prog 225 0 [] [(zf110 N d h),.p (.seq true 2 1 (fun i=>[.int .i64 (if f 2<f 1 then f 2 else f 1),.int .i64 (if f 2>f 1 then f 2 else f 1)]))] (zf116 d r1) (.agg [.p (.int .i64 (↑N:Int)),.ar 2 0 0 (d+1)]),(NT 0 1),((true=true)→ (AN 1)),(NT 0 1),(AN 2),(NL (d+1) (d+1)),Con Tryz.prog 291 0 [] [(zf106 N d r1),.p (.int .i64 2),.p (.int .i64 3)] [] (.p (.bool true)),(true=true),(NT 0 1),(IL 0 0),(IT 0 (↑3:Int)),(NT 0 1),(IL 0 1),(IT 1 (↑3:Int)),(NT 0 1),(IL 0 0),(IT 0 (↑3:Int)),(NT 0 1),(IL 0 1),(IT 1 (↑3:Int)),(NT 0 1),(IL 0 2),(IT 2 (↑3:Int)),(NT 0 1),(NT 0 1),((true=true)→ (AN 1)),(NT 0 1),((true=true)→ (AN 1)),(NT 0 1),(NT 0 1),(AI ((↑N:Int))),(AN 0),(AN ((d+1))),(AI 2),(AI ((↑v:Int))),(((if false=true then if f 2>f 1 then f 2 else f 1 else if f 2<f 1 then f 2 else f 1):Int)=(if f 2<f 1 then f 2 else f 1)),(((if true=true then if f 2>f 1 then f 2 else f 1 else if f 2<f 1 then f 2 else f 1):Int)=(if f 2>f 1 then f 2 else f 1)),(AI ((f 0))),(true=true),(AN 2),(NL (d+1) (d+1)),(AA ((d+1)) (fun i=>[.p (.int .i64 ((r1 i).1)),.p (.int .i64 ((r1 i).2.1))])),(AE ((d+1)))]:=by kernel_rfl
theorem sbF2 (g:Nat→T_Bar) (nb N v:Nat) (d:Nat) (h:Nat→T_Bar) (f:Nat→Int) (r0 r1 r2:Nat→T_Bar) :
    pathOb Tryz.prog Tryz.f182 0 [rg 1,.dec true,rg 2,rm [(2,oc [(0,brOb d h),(1,iOb 3 f)] (.tup [.agg [.p (.int .i64 N),.ar 2 0 0 d],.ar 1 1 0 3]))] 6,rg 3,.dec false,rg 33,.loop,rg 1,.dec true,rg 4,rm [(5,oc [] (brA (brX (f 0) (f 1)))),(1,oc [(0,brOb (d+1) r0)] (.agg [.p (.int .i64 N),.ar 2 0 0 (d+1)]))] 2,rm [(1,oc [] (.p (.bool false)))] 0,.dec false,rg 2,.loop,rg 1,.dec true,rg 4,rm [(5,oc [] (brA (brX (f 1) (f 2)))),(1,oc [(0,brOb (d+1) r1)] (.agg [.p (.int .i64 N),.ar 2 0 0 (d+1)]))] 2,rm [(1,oc [] (.p (.bool false)))] 0,.dec false,rg 2,.loop,rg 1,.dec true,rg 4,rm [(5,oc [] (brA (brX (f 2) (f 0)))),(1,oc [(0,brOb (d+1) r2)] (.agg [.p (.int .i64 N),.ar 2 0 0 (d+1)]))] 2,rm [(1,oc [] (.p (.bool true)))] 0,.dec true,rg 18] zf70 (SB1 g nb N v) [3139] 1 [(0,brOb (d+1) r2)] (.tup [.agg [.p (.int .i64 N),.ar 2 0 0 (d+1)],.agg [.p (.int .i64 2),.p (.int .i64 v),.p (.int .i64 (brX (f 2) (f 0)).1),.p (.int .i64 (brX (f 2) (f 0)).2.1),.p (.int .i64 (f 1))],.p (.bool true)]) =
    some [((decide ((↑v:Int)<(↑N:Int)))=true),(NT 0 1),Con Tryz.prog 289 0 [] [(zf110 N nb g),.p (.int .i64 (↑v:Int))] (zf100 d h f) ((zf125 N d)),(NT 0 1),((true=true)→ (AN 1)),(((↑3:Int) != 3)=false),(IL 0 0),(IT 0 (↑3:Int)),(NT 0 3),(IL 0 1),(IT 1 (↑3:Int)),(NT 1 3),(IL 0 2),(IT 2 (↑3:Int)),(NT 2 3),(IL 0 1),(IT 1 (↑3:Int)),(NT 1 3),(IL 0 2),(IT 2 (↑3:Int)),(NT 2 3),(IL 0 0),(IT 0 (↑3:Int)),(NT 0 3),(IL 0 2),(IT 2 (↑3:Int)),(NT 2 3),(IL 0 0),(IT 0 (↑3:Int)),(NT 0 3),(IL 0 1),(IT 1 (↑3:Int)),(NT 1 3),((decide (0<(↑3:Int)))=true),(IL 0 0),(IT 0 (↑3:Int)),(NT 0 3),(NT 0 1),((true=true)→ (AN 1)),(NT 0 1),(IL 0 0),(IT 0 (↑3:Int)),(NT 0 1),(IL 0 1),(IT 1 (↑3:Int)),(NT 0 1),Con Tryz.prog 290 0 [] [.p (.int .i64 (f 0)),.p (.int .i64 (f 1))] [] ((zf111 f)),(AN 2),(NL d d),(AN 2),(NL 1 1),Con Tryz.prog 225 0 [] [(zf110 N d h),.p (.seq true 2 1 (fun i=>[.int .i64 (if f 1<f 0 then f 1 else f 0),.int .i64 (if f 1>f 0 then f 1 else f 0)]))] (zf116 d r0) (.agg [.p (.int .i64 (↑N:Int)),.ar 2 0 0 (d+1)]),(NT 0 1),((true=true)→ (AN 1)),(NT 0 1),(AN 2),(NL (d+1) (d+1)),Con Tryz.prog 291 0 [] [(zf106 N d r0),.p (.int .i64 2),.p (.int .i64 3)] [] (.p (.bool false)),(false=false),(R0 (0+1)),(R1 (0+1)),((decide (0+1<(↑3:Int)))=true),(IL 0 (0+1)),(IT (0+1) (↑3:Int)),(NT 1 3),(NT 0 1),((true=true)→ (AN 1)),(NT 0 1),(IL 0 0),(IT 0 (↑3:Int)),(NT 0 1),(IL 0 1),(IT 1 (↑3:Int)),(NT 0 1),Con Tryz.prog 290 0 [] [.p (.int .i64 (f 1)),.p (.int .i64 (f 2))] [] ((zf112 f)),(AN 2),(NL d d),(AN 2),(NL 1 1),Con Tryz.prog 225 0 [] [(zf110 N d h),.p (.seq true 2 1 (fun i=>[.int .i64 (if f 2<f 1 then f 2 else f 1),.int .i64 (if f 2>f 1 then f 2 else f 1)]))] (zf116 d r1) (.agg [.p (.int .i64 (↑N:Int)),.ar 2 0 0 (d+1)]),(NT 0 1),((true=true)→ (AN 1)),(NT 0 1),(AN 2),(NL (d+1) (d+1)),Con Tryz.prog 291 0 [] [(zf106 N d r1),.p (.int .i64 2),.p (.int .i64 3)] [] (.p (.bool false)),(false=false),(R0 (0+1+1)),(R1 (0+1+1)),((decide (0+1+1<(↑3:Int)))=true),(IL 0 (0+1+1)),(IT (0+1+1) (↑3:Int)),(NT 2 3),(NT 0 1),((true=true)→ (AN 1)),(NT 0 1),(IL 0 0),(IT 0 (↑3:Int)),(NT 0 1),(IL 0 1),(IT 1 (↑3:Int)),(NT 0 1),Con Tryz.prog 290 0 [] [.p (.int .i64 (f 2)),.p (.int .i64 (f 0))] [] (.agg [.p (.int .i64 (if f 0<f 2 then f 0 else f 2)),.p (.int .i64 (if f 0>f 2 then f 0 else f 2))]),(AN 2),(NL d d),(AN 2),(NL 1 1),Con Tryz.prog 225 0 [] [(zf110 N d h),.p (.seq true 2 1 (fun i=>[.int .i64 (if f 0<f 2 then f 0 else f 2),.int .i64 (if f 0>f 2 then f 0 else f 2)]))] (zf116 d r2) (.agg [.p (.int .i64 (↑N:Int)),.ar 2 0 0 (d+1)]),(NT 0 1),((true=true)→ (AN 1)),(NT 0 1),(AN 2),(NL (d+1) (d+1)),Con Tryz.prog 291 0 [] [(zf106 N d r2),.p (.int .i64 2),.p (.int .i64 3)] [] (.p (.bool true)),(true=true),(NT 0 1),(IL 0 0),(IT 0 (↑3:Int)),(NT 0 1),(IL 0 1),(IT 1 (↑3:Int)),(NT 0 1),(IL 0 0),(IT 0 (↑3:Int)),(NT 0 1),(IL 0 1),(IT 1 (↑3:Int)),(NT 0 1),(IL 0 2),(IT 2 (↑3:Int)),(NT 0 1),(NT 0 1),((true=true)→ (AN 1)),(NT 0 1),((true=true)→ (AN 1)),(NT 0 1),(NT 0 1),(AI ((↑N:Int))),(AN 0),(AN ((d+1))),(AI 2),(AI ((↑v:Int))),(((if false=true then if f 0>f 2 then f 0 else f 2 else if f 0<f 2 then f 0 else f 2):Int)=(if f 0<f 2 then f 0 else f 2)),(((if true=true then if f 0>f 2 then f 0 else f 2 else if f 0<f 2 then f 0 else f 2):Int)=(if f 0>f 2 then f 0 else f 2)),(AI ((f 1))),(true=true),(AN 2),(NL (d+1) (d+1)),(AA ((d+1)) (fun i=>[.p (.int .i64 ((r2 i).1)),.p (.int .i64 ((r2 i).2.1))])),(AE ((d+1)))]:=by kernel_rfl
theorem sbG (g:Nat→T_Bar) (nb N v:Nat) (d:Nat) (h:Nat→T_Bar) (f:Nat→Int) (r0 r1 r2:Nat→T_Bar) :
    pieceOb Tryz.prog 0 [rg 1,.dec true,rg 2,rm [(2,oc [(0,brOb d h),(1,iOb 3 f)] (.tup [.agg [.p (.int .i64 N),.ar 2 0 0 d],.ar 1 1 0 3]))] 6,rg 3,.dec false,rg 33,.loop,rg 1,.dec true,rg 4,rm [(5,oc [] (brA (brX (f 0) (f 1)))),(1,oc [(0,brOb (d+1) r0)] (.agg [.p (.int .i64 N),.ar 2 0 0 (d+1)]))] 2,rm [(1,oc [] (.p (.bool false)))] 0,.dec false,rg 2,.loop,rg 1,.dec true,rg 4,rm [(5,oc [] (brA (brX (f 1) (f 2)))),(1,oc [(0,brOb (d+1) r1)] (.agg [.p (.int .i64 N),.ar 2 0 0 (d+1)]))] 2,rm [(1,oc [] (.p (.bool false)))] 0,.dec false,rg 2,.loop,rg 1,.dec true,rg 4,rm [(5,oc [] (brA (brX (f 2) (f 0)))),(1,oc [(0,brOb (d+1) r2)] (.agg [.p (.int .i64 N),.ar 2 0 0 (d+1)]))] 2,rm [(1,oc [] (.p (.bool false)))] 0,.dec false,rg 2,.loop,rg 1,.dec false,rg 2,.head] zf70 (SB1 g nb N v) [0,1,2] 1 (SB1 g nb N (v+1)) =
    some (zf70,[((decide ((↑v:Int)<(↑N:Int)))=true),(NT 0 1),Con Tryz.prog 289 0 [] [(zf110 N nb g),.p (.int .i64 (↑v:Int))] (zf100 d h f) ((zf125 N d)),(NT 0 1),((true=true)→ (AN 1)),(((↑3:Int) != 3)=false),(IL 0 0),(IT 0 (↑3:Int)),(NT 0 3),(IL 0 1),(IT 1 (↑3:Int)),(NT 1 3),(IL 0 2),(IT 2 (↑3:Int)),(NT 2 3),(IL 0 1),(IT 1 (↑3:Int)),(NT 1 3),(IL 0 2),(IT 2 (↑3:Int)),(NT 2 3),(IL 0 0),(IT 0 (↑3:Int)),(NT 0 3),(IL 0 2),(IT 2 (↑3:Int)),(NT 2 3),(IL 0 0),(IT 0 (↑3:Int)),(NT 0 3),(IL 0 1),(IT 1 (↑3:Int)),(NT 1 3),((decide (0<(↑3:Int)))=true),(IL 0 0),(IT 0 (↑3:Int)),(NT 0 3),(NT 0 1),((true=true)→ (AN 1)),(NT 0 1),(IL 0 0),(IT 0 (↑3:Int)),(NT 0 1),(IL 0 1),(IT 1 (↑3:Int)),(NT 0 1),Con Tryz.prog 290 0 [] [.p (.int .i64 (f 0)),.p (.int .i64 (f 1))] [] ((zf111 f)),(AN 2),(NL d d),(AN 2),(NL 1 1),Con Tryz.prog 225 0 [] [(zf110 N d h),.p (.seq true 2 1 (fun i=>[.int .i64 (if f 1<f 0 then f 1 else f 0),.int .i64 (if f 1>f 0 then f 1 else f 0)]))] (zf116 d r0) (.agg [.p (.int .i64 (↑N:Int)),.ar 2 0 0 (d+1)]),(NT 0 1),((true=true)→ (AN 1)),(NT 0 1),(AN 2),(NL (d+1) (d+1)),Con Tryz.prog 291 0 [] [(zf106 N d r0),.p (.int .i64 2),.p (.int .i64 3)] [] (.p (.bool false)),(false=false),(R0 (0+1)),(R1 (0+1)),((decide (0+1<(↑3:Int)))=true),(IL 0 (0+1)),(IT (0+1) (↑3:Int)),(NT 1 3),(NT 0 1),((true=true)→ (AN 1)),(NT 0 1),(IL 0 0),(IT 0 (↑3:Int)),(NT 0 1),(IL 0 1),(IT 1 (↑3:Int)),(NT 0 1),Con Tryz.prog 290 0 [] [.p (.int .i64 (f 1)),.p (.int .i64 (f 2))] [] ((zf112 f)),(AN 2),(NL d d),(AN 2),(NL 1 1),Con Tryz.prog 225 0 [] [(zf110 N d h),.p (.seq true 2 1 (fun i=>[.int .i64 (if f 2<f 1 then f 2 else f 1),.int .i64 (if f 2>f 1 then f 2 else f 1)]))] (zf116 d r1) (.agg [.p (.int .i64 (↑N:Int)),.ar 2 0 0 (d+1)]),(NT 0 1),((true=true)→ (AN 1)),(NT 0 1),(AN 2),(NL (d+1) (d+1)),Con Tryz.prog 291 0 [] [(zf106 N d r1),.p (.int .i64 2),.p (.int .i64 3)] [] (.p (.bool false)),(false=false),(R0 (0+1+1)),(R1 (0+1+1)),((decide (0+1+1<(↑3:Int)))=true),(IL 0 (0+1+1)),(IT (0+1+1) (↑3:Int)),(NT 2 3),(NT 0 1),((true=true)→ (AN 1)),(NT 0 1),(IL 0 0),(IT 0 (↑3:Int)),(NT 0 1),(IL 0 1),(IT 1 (↑3:Int)),(NT 0 1),Con Tryz.prog 290 0 [] [.p (.int .i64 (f 2)),.p (.int .i64 (f 0))] [] (.agg [.p (.int .i64 (if f 0<f 2 then f 0 else f 2)),.p (.int .i64 (if f 0>f 2 then f 0 else f 2))]),(AN 2),(NL d d),(AN 2),(NL 1 1),Con Tryz.prog 225 0 [] [(zf110 N d h),.p (.seq true 2 1 (fun i=>[.int .i64 (if f 0<f 2 then f 0 else f 2),.int .i64 (if f 0>f 2 then f 0 else f 2)]))] (zf116 d r2) (.agg [.p (.int .i64 (↑N:Int)),.ar 2 0 0 (d+1)]),(NT 0 1),((true=true)→ (AN 1)),(NT 0 1),(AN 2),(NL (d+1) (d+1)),Con Tryz.prog 291 0 [] [(zf106 N d r2),.p (.int .i64 2),.p (.int .i64 3)] [] (.p (.bool false)),(false=false),(R0 (0+1+1+1)),(R1 (0+1+1+1)),((decide (0+1+1+1<(↑3:Int)))=false),(R0 ((↑v:Int)+1)),(R1 ((↑v:Int)+1)),(AI ((↑N:Int))),(AN nb),(AP nb (fun i=>[.int .i64 ((g i).1),.int .i64 ((g i).2.1)])),(AN 0),(AN 0),(AN 0),(false=false),(AI ((↑N:Int))),((((↑v:Int)+1):Int)=(↑(v+1):Int)),(AN 2),(NL 1 1),(NL 1 1),(AI ((↑N:Int))),(AN nb),(AP nb (fun i=>[.int .i64 ((g i).1),.int .i64 ((g i).2.1)])),(AN 2),(NL 1 1),(NL 1 1),(AI 0),(AN 5),(NL 1 1),(NL 1 1),(AI 0),(AI 0),(AI 0),(AI 0),(AI 0)]):=by kernel_rfl
theorem suF0 (g:Nat→T_Bar) (nb N v:Nat) (d:Nat) (h:Nat→T_Bar) (f:Nat→Int) (r0 q:Nat→T_Bar) :
    pathOb Tryz.prog Tryz.f171 0 [rg 4,.dec true,rm [(2,oc [(0,iOb 3 f)] (.ar 1 0 0 3))] 1,rg 3,.dec false,rm [(2,oc [(0,brOb d h)] (.agg [.p (.int .i64 N),.ar 2 0 0 d]))] 2,rg 1,.loop,rg 2,.dec true,rg 5,rg 7,rm [(8,oc [(0,brOb (d+1) r0)] (.agg [.p (.int .i64 N),.ar 2 0 0 (d+1)]))] 2,rm [(1,oc [] (.p (.bool true)))] 0,.dec true,rg 18] zf71 (SU1' g nb N v) [1251] 1 [(0,brOb (d+1) q)] (.tup [.agg [.p (.int .i64 N),.ar 2 0 0 (d+1)],.agg [.p (.int .i64 2),.p (.int .i64 v),.p (.int .i64 (brX (f 0) (f 1)).1),.p (.int .i64 (brX (f 0) (f 1)).2.1),.p (.int .i64 (f 2))],.p (.bool true)]) =
    some [(NT 0 1),((decide ((↑v:Int)<(↑N:Int)))=true),(NT 0 1),Con Tryz.prog 283 0 [] [(zf110 N nb g),.p (.int .i64 (↑v:Int))] [(0,⟨false,1,3,(fun i=>[.p (.int .i64 (f i))])⟩)] (.ar 1 0 0 3),(((↑3:Int) != 3)=false),(NT 0 1),Con Tryz.prog 284 0 [] [(zf110 N nb g),.p (.int .i64 (↑v:Int))] (zf119 d h) (.agg [.p (.int .i64 (↑N:Int)),.ar 2 0 0 d]),(NT 0 1),((true=true)→ (AN 1)),((decide (0<3))=true),(IL 0 0),(IT 0 (↑3:Int)),(NT 0 3),(R0 (0+1)),(R1 (0+1)),(IL 0 (0+1)),(IT 0 3),(IL 0 ((0+1) % 3)),(IT ((0+1) % 3) (↑3:Int)),(NT 1 3),(NT 0 1),(AN 2),(NL d d),Con Tryz.prog 216 0 [] [(zf110 N d h),(zf30 f)] (zf116 d r0) (.agg [.p (.int .i64 (↑N:Int)),.ar 2 0 0 (d+1)]),(NT 0 1),((true=true)→ (AN 1)),(NT 0 1),(AN 2),(NL (d+1) (d+1)),Con Tryz.prog 285 0 [] [(zf106 N d r0),.p (.int .i64 2),.p (.int .i64 3)] [] (.p (.bool true)),(true=true),(NT 0 1),(R0 (0+2)),(R1 (0+2)),(IL 0 (0+2)),(IT 0 3),(IL 0 ((0+2) % 3)),(IT ((0+2) % 3) (↑3:Int)),(NT 2 3),(NT 0 1),((true=true)→ (AN 1)),(NT 0 1),((true=true)→ (AN 1)),(NT 0 1),(NT 0 1),(AI ((↑N:Int))),(AN 0),(AN ((d+1))),(AI 2),(AI ((↑v:Int))),(((if false=true then if f 1>f 0 then f 1 else f 0 else if f 1<f 0 then f 1 else f 0):Int)=(if f 1<f 0 then f 1 else f 0)),(((if true=true then if f 1>f 0 then f 1 else f 0 else if f 1<f 0 then f 1 else f 0):Int)=(if f 1>f 0 then f 1 else f 0)),(AI ((f 2))),(true=true),(AN 2),(NL (d+1) (d+1)),(∀ i:Nat,(((i:Nat)<(d+1))→(All []∧(([.p (.int .i64 ((r0 i).1)),.p (.int .i64 ((r0 i).2.1))]:List AV)=[.p (.int .i64 ((q i).1)),.p (.int .i64 ((q i).2.1))])))),(AE ((d+1)))]:=by kernel_rfl
theorem suF1 (g:Nat→T_Bar) (nb N v:Nat) (d:Nat) (h:Nat→T_Bar) (f:Nat→Int) (r0 r1 q:Nat→T_Bar) :
    pathOb Tryz.prog Tryz.f171 0 [rg 4,.dec true,rm [(2,oc [(0,iOb 3 f)] (.ar 1 0 0 3))] 1,rg 3,.dec false,rm [(2,oc [(0,brOb d h)] (.agg [.p (.int .i64 N),.ar 2 0 0 d]))] 2,rg 1,.loop,rg 2,.dec true,rg 5,rg 7,rm [(8,oc [(0,brOb (d+1) r0)] (.agg [.p (.int .i64 N),.ar 2 0 0 (d+1)]))] 2,rm [(1,oc [] (.p (.bool false)))] 0,.dec false,rg 3,.loop,rg 2,.dec true,rg 5,rg 7,rm [(8,oc [(0,brOb (d+1) r1)] (.agg [.p (.int .i64 N),.ar 2 0 0 (d+1)]))] 2,rm [(1,oc [] (.p (.bool true)))] 0,.dec true,rg 18] zf71 (SU1' g nb N v) [2211] 1 [(0,brOb (d+1) q)] (.tup [.agg [.p (.int .i64 N),.ar 2 0 0 (d+1)],.agg [.p (.int .i64 2),.p (.int .i64 v),.p (.int .i64 (brX (f 1) (f 2)).1),.p (.int .i64 (brX (f 1) (f 2)).2.1),.p (.int .i64 (f 0))],.p (.bool true)]) =
    some [(NT 0 1),((decide ((↑v:Int)<(↑N:Int)))=true),(NT 0 1),Con Tryz.prog 283 0 [] [(zf110 N nb g),.p (.int .i64 (↑v:Int))] [(0,⟨false,1,3,(fun i=>[.p (.int .i64 (f i))])⟩)] (.ar 1 0 0 3),(((↑3:Int) != 3)=false),(NT 0 1),Con Tryz.prog 284 0 [] [(zf110 N nb g),.p (.int .i64 (↑v:Int))] (zf119 d h) (.agg [.p (.int .i64 (↑N:Int)),.ar 2 0 0 d]),(NT 0 1),((true=true)→ (AN 1)),((decide (0<3))=true),(IL 0 0),(IT 0 (↑3:Int)),(NT 0 3),(R0 (0+1)),(R1 (0+1)),(IL 0 (0+1)),(IT 0 3),(IL 0 ((0+1) % 3)),(IT ((0+1) % 3) (↑3:Int)),(NT 1 3),(NT 0 1),(AN 2),(NL d d),Con Tryz.prog 216 0 [] [(zf110 N d h),(zf30 f)] (zf116 d r0) (.agg [.p (.int .i64 (↑N:Int)),.ar 2 0 0 (d+1)]),(NT 0 1),((true=true)→ (AN 1)),(NT 0 1),(AN 2),(NL (d+1) (d+1)),Con Tryz.prog 285 0 [] [(zf106 N d r0),.p (.int .i64 2),.p (.int .i64 3)] [] (.p (.bool false)),(false=false),(R0 (0+1)),(R1 (0+1)),((decide (0+1<3))=true),(IL 0 (0+1)),(IT (0+1) (↑3:Int)),(NT 1 3),(R0 (0+1+1)),(R1 (0+1+1)),(IL 0 (0+1+1)),(IT 0 3),(IL 0 ((0+1+1) % 3)),(IT ((0+1+1) % 3) (↑3:Int)),(NT 2 3),(NT 0 1),(AN 2),(NL d d),Con Tryz.prog 216 0 [] [(zf110 N d h),(zf31 f)] (zf116 d r1) (.agg [.p (.int .i64 (↑N:Int)),.ar 2 0 0 (d+1)]),(NT 0 1),((true=true)→ (AN 1)),(NT 0 1),(AN 2),(NL (d+1) (d+1)),Con Tryz.prog 285 0 [] [(zf106 N d r1),.p (.int .i64 2),.p (.int .i64 3)] [] (.p (.bool true)),(true=true),(NT 0 1),(R0 (0+1+2)),(R1 (0+1+2)),(IL 0 (0+1+2)),(IT 0 3),(IL 0 ((0+1+2) % 3)),(IT ((0+1+2) % 3) (↑3:Int)),(NT 0 3),(NT 0 1),((true=true)→ (AN 1)),(NT 0 1),((true=true)→ (AN 1)),(NT 0 1),(NT 0 1),(AI ((↑N:Int))),(AN 0),(AN ((d+1))),(AI 2),(AI ((↑v:Int))),(((if false=true then if f 2>f 1 then f 2 else f 1 else if f 2<f 1 then f 2 else f 1):Int)=(if f 2<f 1 then f 2 else f 1)),(((if true=true then if f 2>f 1 then f 2 else f 1 else if f 2<f 1 then f 2 else f 1):Int)=(if f 2>f 1 then f 2 else f 1)),(AI ((f 0))),(true=true),(AN 2),(NL (d+1) (d+1)),(∀ i:Nat,(((i:Nat)<(d+1))→(All []∧(([.p (.int .i64 ((r1 i).1)),.p (.int .i64 ((r1 i).2.1))]:List AV)=[.p (.int .i64 ((q i).1)),.p (.int .i64 ((q i).2.1))])))),(AE ((d+1)))]:=by kernel_rfl
theorem suF2 (g:Nat→T_Bar) (nb N v:Nat) (d:Nat) (h:Nat→T_Bar) (f:Nat→Int) (r0 r1 r2 q:Nat→T_Bar) :
    pathOb Tryz.prog Tryz.f171 0 [rg 4,.dec true,rm [(2,oc [(0,iOb 3 f)] (.ar 1 0 0 3))] 1,rg 3,.dec false,rm [(2,oc [(0,brOb d h)] (.agg [.p (.int .i64 N),.ar 2 0 0 d]))] 2,rg 1,.loop,rg 2,.dec true,rg 5,rg 7,rm [(8,oc [(0,brOb (d+1) r0)] (.agg [.p (.int .i64 N),.ar 2 0 0 (d+1)]))] 2,rm [(1,oc [] (.p (.bool false)))] 0,.dec false,rg 3,.loop,rg 2,.dec true,rg 5,rg 7,rm [(8,oc [(0,brOb (d+1) r1)] (.agg [.p (.int .i64 N),.ar 2 0 0 (d+1)]))] 2,rm [(1,oc [] (.p (.bool false)))] 0,.dec false,rg 3,.loop,rg 2,.dec true,rg 5,rg 7,rm [(8,oc [(0,brOb (d+1) r2)] (.agg [.p (.int .i64 N),.ar 2 0 0 (d+1)]))] 2,rm [(1,oc [] (.p (.bool true)))] 0,.dec true,rg 18] zf71 (SU1' g nb N v) [3171] 1 [(0,brOb (d+1) q)] (.tup [.agg [.p (.int .i64 N),.ar 2 0 0 (d+1)],.agg [.p (.int .i64 2),.p (.int .i64 v),.p (.int .i64 (brX (f 2) (f 0)).1),.p (.int .i64 (brX (f 2) (f 0)).2.1),.p (.int .i64 (f 1))],.p (.bool true)]) =
    some [(NT 0 1),((decide ((↑v:Int)<(↑N:Int)))=true),(NT 0 1),Con Tryz.prog 283 0 [] [(zf110 N nb g),.p (.int .i64 (↑v:Int))] [(0,⟨false,1,3,(fun i=>[.p (.int .i64 (f i))])⟩)] (.ar 1 0 0 3),(((↑3:Int) != 3)=false),(NT 0 1),Con Tryz.prog 284 0 [] [(zf110 N nb g),.p (.int .i64 (↑v:Int))] (zf119 d h) (.agg [.p (.int .i64 (↑N:Int)),.ar 2 0 0 d]),(NT 0 1),((true=true)→ (AN 1)),((decide (0<3))=true),(IL 0 0),(IT 0 (↑3:Int)),(NT 0 3),(R0 (0+1)),(R1 (0+1)),(IL 0 (0+1)),(IT 0 3),(IL 0 ((0+1) % 3)),(IT ((0+1) % 3) (↑3:Int)),(NT 1 3),(NT 0 1),(AN 2),(NL d d),Con Tryz.prog 216 0 [] [(zf110 N d h),(zf30 f)] (zf116 d r0) (.agg [.p (.int .i64 (↑N:Int)),.ar 2 0 0 (d+1)]),(NT 0 1),((true=true)→ (AN 1)),(NT 0 1),(AN 2),(NL (d+1) (d+1)),Con Tryz.prog 285 0 [] [(zf106 N d r0),.p (.int .i64 2),.p (.int .i64 3)] [] (.p (.bool false)),(false=false),(R0 (0+1)),(R1 (0+1)),((decide (0+1<3))=true),(IL 0 (0+1)),(IT (0+1) (↑3:Int)),(NT 1 3),(R0 (0+1+1)),(R1 (0+1+1)),(IL 0 (0+1+1)),(IT 0 3),(IL 0 ((0+1+1) % 3)),(IT ((0+1+1) % 3) (↑3:Int)),(NT 2 3),(NT 0 1),(AN 2),(NL d d),Con Tryz.prog 216 0 [] [(zf110 N d h),(zf31 f)] (zf116 d r1) (.agg [.p (.int .i64 (↑N:Int)),.ar 2 0 0 (d+1)]),(NT 0 1),((true=true)→ (AN 1)),(NT 0 1),(AN 2),(NL (d+1) (d+1)),Con Tryz.prog 285 0 [] [(zf106 N d r1),.p (.int .i64 2),.p (.int .i64 3)] [] (.p (.bool false)),(false=false),(R0 (0+1+1)),(R1 (0+1+1)),((decide (0+1+1<3))=true),(IL 0 (0+1+1)),(IT (0+1+1) (↑3:Int)),(NT 2 3),(R0 (0+1+1+1)),(R1 (0+1+1+1)),(IL 0 (0+1+1+1)),(IT 0 3),(IL 0 ((0+1+1+1) % 3)),(IT ((0+1+1+1) % 3) (↑3:Int)),(NT 0 3),(NT 0 1),(AN 2),(NL d d),Con Tryz.prog 216 0 [] [(zf110 N d h),(zf32 f)] (zf116 d r2) (.agg [.p (.int .i64 (↑N:Int)),.ar 2 0 0 (d+1)]),(NT 0 1),((true=true)→ (AN 1)),(NT 0 1),(AN 2),(NL (d+1) (d+1)),Con Tryz.prog 285 0 [] [(zf106 N d r2),.p (.int .i64 2),.p (.int .i64 3)] [] (.p (.bool true)),(true=true),(NT 0 1),(R0 (0+1+1+2)),(R1 (0+1+1+2)),(IL 0 (0+1+1+2)),(IT 0 3),(IL 0 ((0+1+1+2) % 3)),(IT ((0+1+1+2) % 3) (↑3:Int)),(NT 1 3),(NT 0 1),((true=true)→ (AN 1)),(NT 0 1),((true=true)→ (AN 1)),(NT 0 1),(NT 0 1),(AI ((↑N:Int))),(AN 0),(AN ((d+1))),(AI 2),(AI ((↑v:Int))),(((if false=true then if f 0>f 2 then f 0 else f 2 else if f 0<f 2 then f 0 else f 2):Int)=(if f 0<f 2 then f 0 else f 2)),(((if true=true then if f 0>f 2 then f 0 else f 2 else if f 0<f 2 then f 0 else f 2):Int)=(if f 0>f 2 then f 0 else f 2)),(AI ((f 1))),(true=true),(AN 2),(NL (d+1) (d+1)),(∀ i:Nat,(((i:Nat)<(d+1))→(All []∧(([.p (.int .i64 ((r2 i).1)),.p (.int .i64 ((r2 i).2.1))]:List AV)=[.p (.int .i64 ((q i).1)),.p (.int .i64 ((q i).2.1))])))),(AE ((d+1)))]:=by kernel_rfl
theorem suG (g:Nat→T_Bar) (nb N v:Nat) (d:Nat) (h:Nat→T_Bar) (f:Nat→Int) (r0 r1 r2:Nat→T_Bar) :
    pieceOb Tryz.prog 0 [rg 4,.dec true,rm [(2,oc [(0,iOb 3 f)] (.ar 1 0 0 3))] 1,rg 3,.dec false,rm [(2,oc [(0,brOb d h)] (.agg [.p (.int .i64 N),.ar 2 0 0 d]))] 2,rg 1,.loop,rg 2,.dec true,rg 5,rg 7,rm [(8,oc [(0,brOb (d+1) r0)] (.agg [.p (.int .i64 N),.ar 2 0 0 (d+1)]))] 2,rm [(1,oc [] (.p (.bool false)))] 0,.dec false,rg 3,.loop,rg 2,.dec true,rg 5,rg 7,rm [(8,oc [(0,brOb (d+1) r1)] (.agg [.p (.int .i64 N),.ar 2 0 0 (d+1)]))] 2,rm [(1,oc [] (.p (.bool false)))] 0,.dec false,rg 3,.loop,rg 2,.dec true,rg 5,rg 7,rm [(8,oc [(0,brOb (d+1) r2)] (.agg [.p (.int .i64 N),.ar 2 0 0 (d+1)]))] 2,rm [(1,oc [] (.p (.bool false)))] 0,.dec false,rg 3,.loop,rg 2,.dec false,rg 3,.head] zf71 (SU1' g nb N v) [0,1,2] 1 (SU1' g nb N (v+1)) =
    some (zf71,[(NT 0 1),((decide ((↑v:Int)<(↑N:Int)))=true),(NT 0 1),Con Tryz.prog 283 0 [] [(zf110 N nb g),.p (.int .i64 (↑v:Int))] [(0,⟨false,1,3,(fun i=>[.p (.int .i64 (f i))])⟩)] (.ar 1 0 0 3),(((↑3:Int) != 3)=false),(NT 0 1),Con Tryz.prog 284 0 [] [(zf110 N nb g),.p (.int .i64 (↑v:Int))] (zf119 d h) (.agg [.p (.int .i64 (↑N:Int)),.ar 2 0 0 d]),(NT 0 1),((true=true)→ (AN 1)),((decide (0<3))=true),(IL 0 0),(IT 0 (↑3:Int)),(NT 0 3),(R0 (0+1)),(R1 (0+1)),(IL 0 (0+1)),(IT 0 3),(IL 0 ((0+1) % 3)),(IT ((0+1) % 3) (↑3:Int)),(NT 1 3),(NT 0 1),(AN 2),(NL d d),Con Tryz.prog 216 0 [] [(zf110 N d h),(zf30 f)] (zf116 d r0) (.agg [.p (.int .i64 (↑N:Int)),.ar 2 0 0 (d+1)]),(NT 0 1),((true=true)→ (AN 1)),(NT 0 1),(AN 2),(NL (d+1) (d+1)),Con Tryz.prog 285 0 [] [(zf106 N d r0),.p (.int .i64 2),.p (.int .i64 3)] [] (.p (.bool false)),(false=false),(R0 (0+1)),(R1 (0+1)),((decide (0+1<3))=true),(IL 0 (0+1)),(IT (0+1) (↑3:Int)),(NT 1 3),(R0 (0+1+1)),(R1 (0+1+1)),(IL 0 (0+1+1)),(IT 0 3),(IL 0 ((0+1+1) % 3)),(IT ((0+1+1) % 3) (↑3:Int)),(NT 2 3),(NT 0 1),(AN 2),(NL d d),Con Tryz.prog 216 0 [] [(zf110 N d h),(zf31 f)] (zf116 d r1) (.agg [.p (.int .i64 (↑N:Int)),.ar 2 0 0 (d+1)]),(NT 0 1),((true=true)→ (AN 1)),(NT 0 1),(AN 2),(NL (d+1) (d+1)),Con Tryz.prog 285 0 [] [(zf106 N d r1),.p (.int .i64 2),.p (.int .i64 3)] [] (.p (.bool false)),(false=false),(R0 (0+1+1)),(R1 (0+1+1)),((decide (0+1+1<3))=true),(IL 0 (0+1+1)),(IT (0+1+1) (↑3:Int)),(NT 2 3),(R0 (0+1+1+1)),(R1 (0+1+1+1)),(IL 0 (0+1+1+1)),(IT 0 3),(IL 0 ((0+1+1+1) % 3)),(IT ((0+1+1+1) % 3) (↑3:Int)),(NT 0 3),(NT 0 1),(AN 2),(NL d d),Con Tryz.prog 216 0 [] [(zf110 N d h),(zf32 f)] (zf116 d r2) (.agg [.p (.int .i64 (↑N:Int)),.ar 2 0 0 (d+1)]),(NT 0 1),((true=true)→ (AN 1)),(NT 0 1),(AN 2),(NL (d+1) (d+1)),Con Tryz.prog 285 0 [] [(zf106 N d r2),.p (.int .i64 2),.p (.int .i64 3)] [] (.p (.bool false)),(false=false),(R0 (0+1+1+1)),(R1 (0+1+1+1)),((decide (0+1+1+1<3))=false),(R0 ((↑v:Int)+1)),(R1 ((↑v:Int)+1)),(AI ((↑N:Int))),(AN nb),(AP nb (fun i=>[.int .i64 ((g i).1),.int .i64 ((g i).2.1)])),(AN 0),(AN 0),(AN 0),(false=false),((((↑v:Int)+1):Int)=(↑(v+1):Int)),(AN 2),(NL 1 1),(NL 1 1),(AI ((↑N:Int))),(AN nb),(AP nb (fun i=>[.int .i64 ((g i).1),.int .i64 ((g i).2.1)])),(AN 2),(NL 1 1),(NL 1 1),(AI 0),(AN 5),(NL 1 1),(NL 1 1),(AI 0),(AI 0),(AI 0),(AI 0),(AI 0)]):=by kernel_rfl
end Go.Proofs.YtkkjoghiigiokaaGreat.Mach
namespace Go.Proofs.YtkkjoghiigiokaaGreat.Mach
open Go
set_option linter.unusedVariables false
set_option linter.unusedSimpArgs false
theorem vPi (g:Nat→T_Bar) (nb N k l:Nat) :
    pathOb Tryz.prog Tryz.f69 0 [rg 3,rm [(1,oc [] (.p (.bool false))),(4,oc [] (.p (.bool true)))] 2,.dec true,rg 3] [.code (bodyOf Tryz.f69)] (start Tryz.f69 [] 0 [grG g nb N,.p (.int .i64 k),.p (.int .i64 l)]) [384] 1 [(0,iOb 0 (fun _=>0))] (.tup [.ar 1 0 0 0,.p (.bool false)]) =
    some [(NT 0 1),Con Tryz.prog 62 0 [] [(zf110 N nb g)] [] (.p (.bool false)),(AG (!!false)),(AG (!!false)),(((!!false)=true)→ Con Tryz.prog 189 0 [] [.p (.int .i64 (↑k:Int)),.p (.int .i64 (↑l:Int))] [] (.p (.bool true))),(AG (!!false)),(((!false)=false)→ ((!!false)=true)),((bif !false then true else !true)=true),(AN 0),(AN 0),(false=false),(AN 1),(NL 0 0),(AA 0 (fun i=>[.p (.int .i64 0)])),(AE 0)]:=by kernel_rfl
theorem vPs (g:Nat→T_Bar) (nb N k l:Nat) :
    pathOb Tryz.prog Tryz.f60 0 [rg 3,rm [(1,oc [] (.p (.bool false))),(4,oc [] (.p (.bool true)))] 2,.dec true,rg 3] [.code (bodyOf Tryz.f60)] (start Tryz.f60 [] 0 [grG g nb N,.p (.int .i64 k),.p (.int .i64 l)]) [384] 1 [(0,iOb 0 (fun _=>0))] (.tup [.ar 1 0 0 0,.p (.bool false)]) =
    some [(NT 0 1),Con Tryz.prog 53 0 [] [(zf110 N nb g)] [] (.p (.bool false)),(AG (!!false)),(AG (!!false)),(((!!false)=true)→ Con Tryz.prog 176 0 [] [.p (.int .i64 (↑k:Int)),.p (.int .i64 (↑l:Int))] [] (.p (.bool true))),(AG (!!false)),(((!false)=false)→ ((!!false)=true)),((bif !false then true else !true)=true),(AN 0),(AN 0),(false=false),(AN 1),(NL 0 0),(AA 0 (fun i=>[.p (.int .i64 0)])),(AE 0)]:=by kernel_rfl
noncomputable def spB (N:Nat) (D:NB):Bool:=bif isGraphF ((N:Int),(D.1,D.2),()) then !(ovS D.2 D.1 N 2 3 (2 ^ N - 1) 1).2 else false
theorem con_spB (N:Nat) (D:NB) (hn:D.1≤1000) :
    Con Tryz.prog 291 0 [] [grG D.2 D.1 N,.p (.int .i64 2),.p (.int .i64 3)] [] (.p (.bool (spB N D))) ∧
    Con Tryz.prog 285 0 [] [grG D.2 D.1 N,.p (.int .i64 2),.p (.int .i64 3)] [] (.p (.bool (spB N D))):=by
  cases hg:isGraphF ((N:Int),(D.1,D.2),()) with
  | true =>
    rw [show spB N D=!(ovS D.2 D.1 N 2 3 (2 ^ N - 1) 1).2 by unfold spB;rw [hg];rfl]
    exact con_Sparse hg 2 3 (by omega) (by omega) rfl
  | false =>
    rw [show spB N D=false by unfold spB;rw [hg];rfl]
    obtain ⟨n,h⟩:=D
    have hsm:smS s_Graph ((N:Int),(n,h),()):=⟨by simp [smS,smL],⟨by show n≤1048576;exact Nat.le_trans hn (by omega),fun i hi=>by simp [smS,smL]⟩,True.intro⟩
    have h1:=con_IsGraph_i ((N:Int),(n,h),()) hsm
    have h2:=con_IsGraph_s ((N:Int),(n,h),()) hsm
    have h3:=con_IsRange_i 2 3 (by omega) (by omega)
    have h4:=con_IsRange_s 2 3 (by omega) (by omega)
    rw [show isGraphF ((N:Int),(n,h),())=false from hg] at h1 h2
    have h5:Con Tryz.prog 69 0 [] [grG h n N,.p (.int .i64 (2:Nat)),.p (.int .i64 (3:Nat))] [(0,iOb 0 (fun _=>0))] (.tup [.ar 1 0 0 0,.p (.bool false)]):=by
      refine con_start Tryz.func69 rfl (by kernel_rfl) rfl (fun c hc=>?_)
      refine path_ok mixed Tryz.func69 hc (vPi h n N 2 3) ?_
      repeat' (first | exact aN | apply aI)
      all_goals (first | exact aG _ | exact aA _ _ | exact aE _ | omega | rfl | (intros;first | assumption | exact trivial | rfl | exact fT ‹_› | ((repeat' (first | assumption | apply anda | apply notf));done)) | (exact h1) | (intros;exact h3) | (simp;done))
    have h6:Con Tryz.prog 60 0 [] [grG h n N,.p (.int .i64 (2:Nat)),.p (.int .i64 (3:Nat))] [(0,iOb 0 (fun _=>0))] (.tup [.ar 1 0 0 0,.p (.bool false)]):=by
      refine con_start Tryz.func60 rfl (by kernel_rfl) rfl (fun c hc=>?_)
      refine path_ok mixed Tryz.func60 hc (vPs h n N 2 3) ?_
      repeat' (first | exact aN | apply aI)
      all_goals (first | exact aG _ | exact aA _ _ | exact aE _ | omega | rfl | (intros;first | assumption | exact trivial | rfl | exact fT ‹_› | ((repeat' (first | assumption | apply anda | apply notf));done)) | (exact h2) | (intros;exact h4) | (simp;done))
    constructor
    · refine con_start Tryz.func291 rfl (by kernel_rfl) rfl (fun c hc=>?_)
      refine path_ok mixed Tryz.func291 hc (vSi h n N 2 3) ?_
      repeat' (first | exact aN | apply aI)
      all_goals (first | exact aG _ | omega | rfl | (intros;first | assumption | exact trivial | rfl | exact fT ‹_› | ((repeat' (first | assumption | apply anda | apply notf));done)) | (exact h5) | (exact h1) | (intros;exact h3) | (simp;done))
    · refine con_start Tryz.func285 rfl (by kernel_rfl) rfl (fun c hc=>?_)
      refine path_ok mixed Tryz.func285 hc (vSs h n N 2 3) ?_
      repeat' (first | exact aN | apply aI)
      all_goals (first | exact aG _ | omega | rfl | (intros;first | assumption | exact trivial | rfl | exact fT ‹_› | ((repeat' (first | assumption | apply anda | apply notf));done)) | (exact h6) | (exact h2) | (intros;exact h4) | (simp;done))
noncomputable def uP (D:NB) (x:T_Bar):NB:=(D.1+1,srtB (D.1+1) (snoc D.1 D.2 x))
noncomputable def uTry (N:Nat) (D:NB) (v:Nat) (a b c:Int):Option (NB×T_Step) :=
  bif spB N (uP D (brX a b)) then some (uP D (brX a b),(2,v,(brX a b).1,(brX a b).2.1,c,())) else none
noncomputable def uTri (N:Nat) (D:NB) (F:T_IntS) (v:Nat):Option (NB×T_Step) :=
  if F.1=3 then (uTry N D v (F.2 0) (F.2 1) (F.2 2)).or ((uTry N D v (F.2 1) (F.2 2) (F.2 0)).or (uTry N D v (F.2 2) (F.2 0) (F.2 1))) else none
def uTwo (D:NB) (F:T_IntS) (v:Nat):Option (NB×T_Step) :=
  if F.1=2 then some (D,(1,v,F.2 0,F.2 1,0,())) else none
def uFind {α:Type} (F:Nat→Option α):Nat→Nat→Option α
  | 0,_=>none
  | d+1,v=>(F v).or (uFind F d (v+1))
noncomputable def undo (N:Nat) (g:Nat→T_Bar) (nb:Nat):Option (NB×T_Step) :=
  (uFind (fun v=>uTwo (drD g v nb) (nrD g v nb) v) N 0).or (uFind (fun v=>uTri N (drD g v nb) (nrD g v nb) v) N 0)
def uH:Option (NB×T_Step)→Hp
  | none=>[]
  | some u=>[(0,brOb u.1.1 u.1.2)]
def uR (N:Nat):Option (NB×T_Step)→AV
  | none=>noU
  | some u=>.tup [.agg [.p (.int .i64 N),.ar 2 0 0 u.1.1],.agg [.p (.int .i64 u.2.1),.p (.int .i64 u.2.2.1),.p (.int .i64 u.2.2.2.1),.p (.int .i64 u.2.2.2.2.1),.p (.int .i64 u.2.2.2.2.2.1)],.p (.bool true)]
theorem uTri_n {N v:Nat} {D:NB} {F:T_IntS} (h:F.1≠3):uTri N D F v=none:=by unfold uTri;rw [if_neg h]
theorem uTri_0 {N v:Nat} {D:NB} {f:Nat→Int} (h:spB N (uP D (brX (f 0) (f 1)))=true):uTri N D (3,f) v=some (uP D (brX (f 0) (f 1)),(2,(v:Int),(brX (f 0) (f 1)).1,(brX (f 0) (f 1)).2.1,f 2,())):=by
  unfold uTri uTry;rw [if_pos rfl];simp only [h,cond_true,Option.some_or]
theorem uTri_1 {N v:Nat} {D:NB} {f:Nat→Int} (h0:spB N (uP D (brX (f 0) (f 1)))=false) (h:spB N (uP D (brX (f 1) (f 2)))=true):uTri N D (3,f) v=some (uP D (brX (f 1) (f 2)),(2,(v:Int),(brX (f 1) (f 2)).1,(brX (f 1) (f 2)).2.1,f 0,())):=by
  unfold uTri uTry;rw [if_pos rfl];simp only [h0,h,cond_true,cond_false,Option.some_or,Option.none_or]
theorem uTri_2 {N v:Nat} {D:NB} {f:Nat→Int} (h0:spB N (uP D (brX (f 0) (f 1)))=false) (h1:spB N (uP D (brX (f 1) (f 2)))=false) (h:spB N (uP D (brX (f 2) (f 0)))=true):uTri N D (3,f) v=some (uP D (brX (f 2) (f 0)),(2,(v:Int),(brX (f 2) (f 0)).1,(brX (f 2) (f 0)).2.1,f 1,())):=by
  unfold uTri uTry;rw [if_pos rfl];simp only [h0,h1,h,cond_true,cond_false,Option.none_or]
theorem uTri_3 {N v:Nat} {D:NB} {f:Nat→Int} (h0:spB N (uP D (brX (f 0) (f 1)))=false) (h1:spB N (uP D (brX (f 1) (f 2)))=false) (h:spB N (uP D (brX (f 2) (f 0)))=false):uTri N D (3,f) v=none:=by
  unfold uTri uTry;rw [if_pos rfl];simp only [h0,h1,h,cond_false,Option.none_or]
theorem con_stepBack {N nb:Nat} {g:Nat→T_Bar} (hg:isGraphF ((N:Int),(nb,g),())=true) :
    Con Tryz.prog 182 0 [] [grG g nb N] (uH (undo N g nb)) (uR N (undo N g nb)):=by
  obtain ⟨hN,hnb,hok⟩:=graph_in hg
  have hw:∀ v:Nat,v<N→Con Tryz.prog 289 0 [] [grG g nb N,.p (.int .i64 v)] [(0,brOb (drD g v nb).1 (drD g v nb).2),(1,iOb (nrD g v nb).1 (nrD g v nb).2)] (.tup [.agg [.p (.int .i64 N),.ar 2 0 0 (drD g v nb).1],.ar 1 1 0 (nrD g v nb).1]):=fun v hv=>con_without hok (asc_of hg) hN.2 hnb v (by omega)
  have hn:∀ v:Nat,(nrD g v nb).1+(drD g v nb).1=nb:=fun v=>nrD_n g v nb
  refine con_start Tryz.func182 rfl (by kernel_rfl) rfl (fun c hc=>?_)
  have l1:∀ d v,v+d=N→Run Tryz.prog c 182 zf70 (SB1 g nb N v) (Post c (uH (uFind (fun v=>uTri N (drD g v nb) (nrD g v nb) v) d v)) (uR N (uFind (fun v=>uTri N (drD g v nb) (nrD g v nb) v) d v))):=by
    intro d
    induction d with
    | zero =>
      intro v hv
      have hd:decide ((v:Int)<(N:Int))=false:=decide_eq_false (by omega)
      refine path_ok mixed Tryz.func182 hc (sbX g nb N v) ?_
      repeat' (first | exact aN | apply aI)
      all_goals (first | omega | rfl | (intros;first | assumption | exact trivial | rfl | exact fT ‹_› | ((repeat' (first | assumption | apply anda | apply notf));done)) | (exact hd))
    | succ d ih =>
      intro v hv
      have hd:decide ((v:Int)<(N:Int))=true:=decide_eq_true (by omega)
      have hr:=ih (v+1) (by omega)
      have h1:=hw v (by omega)
      have h2:=hn v
      rw [show uFind (fun v=>uTri N (drD g v nb) (nrD g v nb) v) (d+1) v=(uTri N (drD g v nb) (nrD g v nb) v).or (uFind (fun v=>uTri N (drD g v nb) (nrD g v nb) v) d (v+1)) from rfl]
      generalize uFind (fun v=>uTri N (drD g v nb) (nrD g v nb) v) d (v+1)=Q at hr ⊢
      generalize drD g v nb=D at h1 h2 ⊢
      generalize nrD g v nb=F at h1 h2 ⊢
      obtain ⟨e,f⟩:=F
      by_cases he:e=3
      · subst he
        have hdn:D.1≤24:=by simp at h2;omega
        have b0:=con_bar (f 0) (f 1)
        have b1:=con_bar (f 1) (f 2)
        have b2:=con_bar (f 2) (f 0)
        have w0:=con_withOne N D.1 D.2 (brX (f 0) (f 1)) (by omega)
        have w1:=con_withOne N D.1 D.2 (brX (f 1) (f 2)) (by omega)
        have w2:=con_withOne N D.1 D.2 (brX (f 2) (f 0)) (by omega)
        have s0:=(con_spB N (uP D (brX (f 0) (f 1))) (by show D.1+1≤1000;omega)).1
        have s1:=(con_spB N (uP D (brX (f 1) (f 2))) (by show D.1+1≤1000;omega)).1
        have s2:=(con_spB N (uP D (brX (f 2) (f 0))) (by show D.1+1≤1000;omega)).1
        cases h0:spB N (uP D (brX (f 0) (f 1))) with
        | true =>
          rw [h0] at s0
          rw [uTri_0 h0,Option.some_or]
          refine path_ok mixed Tryz.func182 hc (sbF0 g nb N v D.1 D.2 f (uP D (brX (f 0) (f 1))).2) ?_
          repeat' (first | exact aN | apply aI)
          all_goals (first | exact aA _ _ | exact aE _ | omega | rfl | (intros;first | assumption | exact trivial | rfl | exact fT ‹_› | ((repeat' (first | assumption | apply anda | apply notf));done)) | (exact hd) | (exact h1) | (exact b0) | (exact w0) | (exact s0) | (simp;done) | (intro t ht;simp [All];done))
        | false =>
          rw [h0] at s0
          cases h3:spB N (uP D (brX (f 1) (f 2))) with
          | true =>
            rw [h3] at s1
            rw [uTri_1 h0 h3,Option.some_or]
            refine path_ok mixed Tryz.func182 hc (sbF1 g nb N v D.1 D.2 f (uP D (brX (f 0) (f 1))).2 (uP D (brX (f 1) (f 2))).2) ?_
            repeat' (first | exact aN | apply aI)
            all_goals (first | exact aA _ _ | exact aE _ | omega | rfl | (intros;first | assumption | exact trivial | rfl | exact fT ‹_› | ((repeat' (first | assumption | apply anda | apply notf));done)) | (exact hd) | (exact h1) | (exact b0) | (exact w0) | (exact s0) | (exact b1) | (exact w1) | (exact s1) | (simp;done) | (intro t ht;simp [All];done))
          | false =>
            rw [h3] at s1
            cases h4:spB N (uP D (brX (f 2) (f 0))) with
            | true =>
              rw [h4] at s2
              rw [uTri_2 h0 h3 h4,Option.some_or]
              refine path_ok mixed Tryz.func182 hc (sbF2 g nb N v D.1 D.2 f (uP D (brX (f 0) (f 1))).2 (uP D (brX (f 1) (f 2))).2 (uP D (brX (f 2) (f 0))).2) ?_
              repeat' (first | exact aN | apply aI)
              all_goals (first | exact aA _ _ | exact aE _ | omega | rfl | (intros;first | assumption | exact trivial | rfl | exact fT ‹_› | ((repeat' (first | assumption | apply anda | apply notf));done)) | (exact hd) | (exact h1) | (exact b0) | (exact w0) | (exact s0) | (exact b1) | (exact w1) | (exact s1) | (exact b2) | (exact w2) | (exact s2) | (simp;done) | (intro t ht;simp [All];done))
            | false =>
              rw [h4] at s2
              rw [uTri_3 h0 h3 h4,Option.none_or]
              refine piece_ok mixed hc (sbG g nb N v D.1 D.2 f (uP D (brX (f 0) (f 1))).2 (uP D (brX (f 1) (f 2))).2 (uP D (brX (f 2) (f 0))).2) ?_ hr
              repeat' (first | exact aN | apply aI)
              all_goals (first | exact aP _ _ | omega | rfl | (intros;first | assumption | exact trivial | rfl | exact fT ‹_› | ((repeat' (first | assumption | apply anda | apply notf));done)) | (exact hd) | (exact h1) | (exact b0) | (exact w0) | (exact s0) | (exact b1) | (exact w1) | (exact s1) | (exact b2) | (exact w2) | (exact s2) | (simp;done) | (intro t ht;simp [All];done))
      · rw [uTri_n (show (e,f).1≠3 from he),Option.none_or]
        have hx:(!((e:Int)==3))=true:=by simp;omega
        refine piece_ok mixed hc (sbD g nb N v D.1 D.2 e f) ?_ hr
        repeat' (first | exact aN | apply aI)
        all_goals (first | exact aP _ _ | omega | rfl | (intros;first | assumption | exact trivial | rfl | exact fT ‹_› | ((repeat' (first | assumption | apply anda | apply notf));done)) | (exact hd) | (exact h1) | (exact hx) | (simp;omega) | (simp;done) | (intro t ht;simp [All];done))
  have hr1:=l1 N 0 (by omega)
  unfold undo
  generalize uFind (fun v=>uTri N (drD g v nb) (nrD g v nb) v) N 0=Q at hr1 ⊢
  have l0:∀ d v,v+d=N→Run Tryz.prog c 182 zf92 (SB0 g nb N v) (Post c (uH ((uFind (fun v=>uTwo (drD g v nb) (nrD g v nb) v) d v).or Q)) (uR N ((uFind (fun v=>uTwo (drD g v nb) (nrD g v nb) v) d v).or Q))):=by
    intro d
    induction d with
    | zero =>
      intro v hv
      have hd:decide ((v:Int)<(N:Int))=false:=decide_eq_false (by omega)
      refine piece_ok mixed hc (sbC g nb N v) ?_ hr1
      repeat' (first | exact aN | apply aI)
      all_goals (first | exact aP _ _ | omega | rfl | (intros;first | assumption | exact trivial | rfl | exact fT ‹_› | ((repeat' (first | assumption | apply anda | apply notf));done)) | (exact hd) | (simp;done) | (intro t ht;simp [All];done))
    | succ d ih =>
      intro v hv
      have hd:decide ((v:Int)<(N:Int))=true:=decide_eq_true (by omega)
      have hr:=ih (v+1) (by omega)
      have h1:=hw v (by omega)
      have h2:=hn v
      rw [show uFind (fun v=>uTwo (drD g v nb) (nrD g v nb) v) (d+1) v=(uTwo (drD g v nb) (nrD g v nb) v).or (uFind (fun v=>uTwo (drD g v nb) (nrD g v nb) v) d (v+1)) from rfl,Option.or_assoc]
      generalize (uFind (fun v=>uTwo (drD g v nb) (nrD g v nb) v) d (v+1)).or Q=Q2 at hr ⊢
      generalize drD g v nb=D at h1 h2 ⊢
      generalize nrD g v nb=F at h1 h2 ⊢
      obtain ⟨e,f⟩:=F
      by_cases he:e=2
      · subst he
        rw [show uTwo D (2,f) v=some (D,(1,(v:Int),f 0,f 1,0,())) from rfl,Option.some_or]
        refine path_ok mixed Tryz.func182 hc (sbA g nb N v D.1 D.2 2 f) ?_
        repeat' (first | exact aN | apply aI)
        all_goals (first | exact aA _ _ | exact aE _ | omega | rfl | (intros;first | assumption | exact trivial | rfl | exact fT ‹_› | ((repeat' (first | assumption | apply anda | apply notf));done)) | (exact hd) | (exact h1) | (simp;done) | (intro t ht;simp [All];done))
      · rw [show uTwo D (e,f) v=none by unfold uTwo;rw [if_neg he],Option.none_or]
        have hx:((e:Int)==2)=false:=by simp;omega
        refine piece_ok mixed hc (sbB g nb N v D.1 D.2 e f) ?_ hr
        repeat' (first | exact aN | apply aI)
        all_goals (first | exact aP _ _ | omega | rfl | (intros;first | assumption | exact trivial | rfl | exact fT ‹_› | ((repeat' (first | assumption | apply anda | apply notf));done)) | (exact hd) | (exact h1) | (exact hx) | (simp;omega) | (simp;done) | (intro t ht;simp [All];done))
  refine piece_ok mixed hc (sbz g nb N) ?_ (l0 N 0 (by omega))
  repeat' (first | exact aN | apply aI)
  all_goals (first | exact aP _ _ | omega | rfl | (intros;first | assumption | exact trivial | rfl | exact fT ‹_› | ((repeat' (first | assumption | apply anda | apply notf));done)) | (simp;done) | (intro t ht;simp [All];done))
end Go.Proofs.YtkkjoghiigiokaaGreat.Mach
namespace Go.Proofs.YtkkjoghiigiokaaGreat.Mach
open Go
set_option linter.unusedVariables false
set_option linter.unusedSimpArgs false
theorem con_spR (N:Nat) {n:Nat} {q r:Nat→T_Bar} {o:Bool} (hc:Con Tryz.prog 285 0 [] [grG q n N,.p (.int .i64 2),.p (.int .i64 3)] [] (.p (.bool o))) (hr:∀ j,j<n→r j=q j) :
    Con Tryz.prog 285 0 [] [grG r n N,.p (.int .i64 2),.p (.int .i64 3)] [] (.p (.bool o)):=by
  refine hc.arg_ext ?_
  simp only [grG,wkL,wk,wkP,beq_self_eq_true,Bool.and_self,if_true,ikEq,List.append_nil,List.cons_append,List.nil_append,All]
  and_intros<;>first | trivial | omega | (intro i hi;show [PV.int IntKind.i64 (r i).1,PV.int IntKind.i64 (r i).2.1]=_;rw [hr i hi])
theorem con_l7Undo {N nb:Nat} {g:Nat→T_Bar} (hg:isGraphF ((N:Int),(nb,g),())=true) :
    Con Tryz.prog 171 0 [] [grG g nb N] (uH (undo N g nb)) (uR N (undo N g nb)):=by
  obtain ⟨hN,hnb,hok⟩:=graph_in hg
  have hw:∀ v:Nat,v<N→Con Tryz.prog 283 0 [] [grG g nb N,.p (.int .i64 v)] [(0,iOb (nrD g v nb).1 (nrD g v nb).2)] (.ar 1 0 0 (nrD g v nb).1):=fun v hv=>con_Near hok hN.2 hnb v (by omega)
  have hw2:∀ v:Nat,v<N→Con Tryz.prog 284 0 [] [grG g nb N,.p (.int .i64 v)] [(0,brOb (drD g v nb).1 (drD g v nb).2)] (.agg [.p (.int .i64 N),.ar 2 0 0 (drD g v nb).1]):=fun v hv=>con_Drop hN.2 hnb v (by omega)
  have hg2:∀ v:Nat,isGraphF ((N:Int),((drD g v nb).1,(drD g v nb).2),())=true:=fun v=>drD_graph hg v
  have hn:∀ v:Nat,(nrD g v nb).1+(drD g v nb).1=nb:=fun v=>nrD_n g v nb
  refine con_start Tryz.func171 rfl (by kernel_rfl) rfl (fun c hc=>?_)
  have l1:∀ d v,v+d=N→Run Tryz.prog c 171 zf71 (SU1' g nb N v) (Post c (uH (uFind (fun v=>uTri N (drD g v nb) (nrD g v nb) v) d v)) (uR N (uFind (fun v=>uTri N (drD g v nb) (nrD g v nb) v) d v))):=by
    intro d
    induction d with
    | zero =>
      intro v hv
      have hd:decide ((v:Int)<(N:Int))=false:=decide_eq_false (by omega)
      refine path_ok mixed Tryz.func171 hc (suX g nb N v) ?_
      repeat' (first | exact aN | apply aI)
      all_goals (first | omega | rfl | (intros;first | assumption | exact trivial | rfl | exact fT ‹_› | ((repeat' (first | assumption | apply anda | apply notf));done)) | (exact hd))
    | succ d ih =>
      intro v hv
      have hd:decide ((v:Int)<(N:Int))=true:=decide_eq_true (by omega)
      have hr:=ih (v+1) (by omega)
      have h1:=hw v (by omega)
      have hz:=hw2 v (by omega)
      have hq:=hg2 v
      have h2:=hn v
      rw [show uFind (fun v=>uTri N (drD g v nb) (nrD g v nb) v) (d+1) v=(uTri N (drD g v nb) (nrD g v nb) v).or (uFind (fun v=>uTri N (drD g v nb) (nrD g v nb) v) d (v+1)) from rfl]
      generalize uFind (fun v=>uTri N (drD g v nb) (nrD g v nb) v) d (v+1)=Q at hr ⊢
      generalize drD g v nb=D at hz hq h2 ⊢
      generalize nrD g v nb=F at h1 h2 ⊢
      obtain ⟨e,f⟩:=F
      by_cases he:e=3
      · subst he
        have hdn:D.1≤24:=by simp at h2;omega
        obtain ⟨r0,a0,w0⟩:=con_putOne hq (brX (f 0) (f 1)) (by omega)
        obtain ⟨r1,a1,w1⟩:=con_putOne hq (brX (f 1) (f 2)) (by omega)
        obtain ⟨r2,a2,w2⟩:=con_putOne hq (brX (f 2) (f 0)) (by omega)
        have s0:=con_spR N (r:=r0) (con_spB N (uP D (brX (f 0) (f 1))) (by show D.1+1≤1000;omega)).2 a0
        have s1:=con_spR N (r:=r1) (con_spB N (uP D (brX (f 1) (f 2))) (by show D.1+1≤1000;omega)).2 a1
        have s2:=con_spR N (r:=r2) (con_spB N (uP D (brX (f 2) (f 0))) (by show D.1+1≤1000;omega)).2 a2
        cases h0:spB N (uP D (brX (f 0) (f 1))) with
        | true =>
          rw [h0] at s0
          rw [uTri_0 h0,Option.some_or]
          refine path_ok mixed Tryz.func171 hc (suF0 g nb N v D.1 D.2 f r0 (uP D (brX (f 0) (f 1))).2) ?_
          repeat' (first | exact aN | apply aI)
          all_goals (first | exact aE _ | omega | rfl | (intros;first | assumption | exact trivial | rfl | exact fT ‹_› | ((repeat' (first | assumption | apply anda | apply notf));done)) | (exact hd) | (exact h1) | (exact hz) | (exact w0) | (exact s0) | (simp;done) | (intro t ht;rw [show (uP D (brX (f 0) (f 1))).2 t=r0 t from (a0 t ht).symm];exact ⟨True.intro,rfl⟩) | (intro t ht;simp [All];done))
        | false =>
          rw [h0] at s0
          cases h3:spB N (uP D (brX (f 1) (f 2))) with
          | true =>
            rw [h3] at s1
            rw [uTri_1 h0 h3,Option.some_or]
            refine path_ok mixed Tryz.func171 hc (suF1 g nb N v D.1 D.2 f r0 r1 (uP D (brX (f 1) (f 2))).2) ?_
            repeat' (first | exact aN | apply aI)
            all_goals (first | exact aE _ | omega | rfl | (intros;first | assumption | exact trivial | rfl | exact fT ‹_› | ((repeat' (first | assumption | apply anda | apply notf));done)) | (exact hd) | (exact h1) | (exact hz) | (exact w0) | (exact s0) | (exact w1) | (exact s1) | (simp;done) | (intro t ht;rw [show (uP D (brX (f 1) (f 2))).2 t=r1 t from (a1 t ht).symm];exact ⟨True.intro,rfl⟩) | (intro t ht;simp [All];done))
          | false =>
            rw [h3] at s1
            cases h4:spB N (uP D (brX (f 2) (f 0))) with
            | true =>
              rw [h4] at s2
              rw [uTri_2 h0 h3 h4,Option.some_or]
              refine path_ok mixed Tryz.func171 hc (suF2 g nb N v D.1 D.2 f r0 r1 r2 (uP D (brX (f 2) (f 0))).2) ?_
              repeat' (first | exact aN | apply aI)
              all_goals (first | exact aE _ | omega | rfl | (intros;first | assumption | exact trivial | rfl | exact fT ‹_› | ((repeat' (first | assumption | apply anda | apply notf));done)) | (exact hd) | (exact h1) | (exact hz) | (exact w0) | (exact s0) | (exact w1) | (exact s1) | (exact w2) | (exact s2) | (simp;done) | (intro t ht;rw [show (uP D (brX (f 2) (f 0))).2 t=r2 t from (a2 t ht).symm];exact ⟨True.intro,rfl⟩) | (intro t ht;simp [All];done))
            | false =>
              rw [h4] at s2
              rw [uTri_3 h0 h3 h4,Option.none_or]
              refine piece_ok mixed hc (suG g nb N v D.1 D.2 f r0 r1 r2) ?_ hr
              repeat' (first | exact aN | apply aI)
              all_goals (first | exact aP _ _ | omega | rfl | (intros;first | assumption | exact trivial | rfl | exact fT ‹_› | ((repeat' (first | assumption | apply anda | apply notf));done)) | (exact hd) | (exact h1) | (exact hz) | (exact w0) | (exact s0) | (exact w1) | (exact s1) | (exact w2) | (exact s2) | (simp;done) | (intro t ht;simp [All];done))
      · rw [uTri_n (show (e,f).1≠3 from he),Option.none_or]
        have hx:(!((e:Int)==3))=true:=by simp;omega
        refine piece_ok mixed hc (suD g nb N v e f) ?_ hr
        repeat' (first | exact aN | apply aI)
        all_goals (first | exact aP _ _ | omega | rfl | (intros;first | assumption | exact trivial | rfl | exact fT ‹_› | ((repeat' (first | assumption | apply anda | apply notf));done)) | (exact hd) | (exact h1) | (exact hz) | (exact hx) | (simp;omega) | (simp;done) | (intro t ht;simp [All];done))
  have hr1:=l1 N 0 (by omega)
  unfold undo
  generalize uFind (fun v=>uTri N (drD g v nb) (nrD g v nb) v) N 0=Q at hr1 ⊢
  have l0:∀ d v,v+d=N→Run Tryz.prog c 171 zf93 (SU0' g nb N v) (Post c (uH ((uFind (fun v=>uTwo (drD g v nb) (nrD g v nb) v) d v).or Q)) (uR N ((uFind (fun v=>uTwo (drD g v nb) (nrD g v nb) v) d v).or Q))):=by
    intro d
    induction d with
    | zero =>
      intro v hv
      have hd:decide ((v:Int)<(N:Int))=false:=decide_eq_false (by omega)
      refine piece_ok mixed hc (suC g nb N v) ?_ hr1
      repeat' (first | exact aN | apply aI)
      all_goals (first | exact aP _ _ | omega | rfl | (intros;first | assumption | exact trivial | rfl | exact fT ‹_› | ((repeat' (first | assumption | apply anda | apply notf));done)) | (exact hd) | (simp;done) | (intro t ht;simp [All];done))
    | succ d ih =>
      intro v hv
      have hd:decide ((v:Int)<(N:Int))=true:=decide_eq_true (by omega)
      have hr:=ih (v+1) (by omega)
      have h1:=hw v (by omega)
      have hz:=hw2 v (by omega)
      have hq:=hg2 v
      have h2:=hn v
      rw [show uFind (fun v=>uTwo (drD g v nb) (nrD g v nb) v) (d+1) v=(uTwo (drD g v nb) (nrD g v nb) v).or (uFind (fun v=>uTwo (drD g v nb) (nrD g v nb) v) d (v+1)) from rfl,Option.or_assoc]
      generalize (uFind (fun v=>uTwo (drD g v nb) (nrD g v nb) v) d (v+1)).or Q=Q2 at hr ⊢
      generalize drD g v nb=D at hz hq h2 ⊢
      generalize nrD g v nb=F at h1 h2 ⊢
      obtain ⟨e,f⟩:=F
      by_cases he:e=2
      · subst he
        rw [show uTwo D (2,f) v=some (D,(1,(v:Int),f 0,f 1,0,())) from rfl,Option.some_or]
        refine path_ok mixed Tryz.func171 hc (suA g nb N v D.1 D.2 2 f) ?_
        repeat' (first | exact aN | apply aI)
        all_goals (first | exact aA _ _ | exact aE _ | omega | rfl | (intros;first | assumption | exact trivial | rfl | exact fT ‹_› | ((repeat' (first | assumption | apply anda | apply notf));done)) | (exact hd) | (exact h1) | (exact hz) | (simp;done) | (intro t ht;simp [All];done))
      · rw [show uTwo D (e,f) v=none by unfold uTwo;rw [if_neg he],Option.none_or]
        have hx:((e:Int)==2)=false:=by simp;omega
        refine piece_ok mixed hc (suB g nb N v e f) ?_ hr
        repeat' (first | exact aN | apply aI)
        all_goals (first | exact aP _ _ | omega | rfl | (intros;first | assumption | exact trivial | rfl | exact fT ‹_› | ((repeat' (first | assumption | apply anda | apply notf));done)) | (exact hd) | (exact h1) | (exact hz) | (exact hx) | (simp;omega) | (simp;done) | (intro t ht;simp [All];done))
  refine piece_ok mixed hc (suz g nb N) ?_ (l0 N 0 (by omega))
  repeat' (first | exact aN | apply aI)
  all_goals (first | exact aP _ _ | omega | rfl | (intros;first | assumption | exact trivial | rfl | exact fT ‹_› | ((repeat' (first | assumption | apply anda | apply notf));done)) | (simp;done) | (intro t ht;simp [All];done))
end Go.Proofs.YtkkjoghiigiokaaGreat.Mach
namespace Go.Proofs.YtkkjoghiigiokaaGreat.Mach
open Go
set_option linter.unusedVariables false
set_option linter.unusedSimpArgs false
def sqOb (n:Nat) (f:Nat→T_Step):Ob:=⟨false,5,n,fun i=>[.p (.int .i64 (f i).1),.p (.int .i64 (f i).2.1),.p (.int .i64 (f i).2.2.1),.p (.int .i64 (f i).2.2.2.1),.p (.int .i64 (f i).2.2.2.2.1)]⟩
def bxT (t:Bool) (h:Nat→T_Bar) (n N:Nat):Ob:=⟨true,2,1,fun _=>[.p (.int .i64 N),.p (.seq t 2 n (fun i=>[.int .i64 (h i).1,.int .i64 (h i).2.1]))]⟩
def stZ:T_Step:=(0,0,0,0,0,())
def snS (c:Nat) (S:Nat→T_Step) (x:T_Step) (i:Nat):T_Step:=(if i<c then (S i).1 else x.1,if i<c then (S i).2.1 else x.2.1,if i<c then (S i).2.2.1 else x.2.2.1,if i<c then (S i).2.2.2.1 else x.2.2.2.1,if i<c then (S i).2.2.2.2.1 else x.2.2.2.2.1,())
def cnS (S:Nat→T_Step) (x:T_Step) (i:Nat):T_Step:=(if i<1 then x.1 else (S (i - 1)).1,if i<1 then x.2.1 else (S (i - 1)).2.1,if i<1 then x.2.2.1 else (S (i - 1)).2.2.1,if i<1 then x.2.2.2.1 else (S (i - 1)).2.2.2.1,if i<1 then x.2.2.2.2.1 else (S (i - 1)).2.2.2.2.1,())
def swS (f:Nat→T_Step) (i j:Int) (s:Nat):T_Step:=if s=j.toNat then f i.toNat else if s=i.toNat then f j.toNat else f s
def RVs (n:Nat) (f:Nat→T_Step) (i j:Int):St:=⟨[.ar 5 0 0 n,.p .any,.p (.int .i64 i),.p (.int .i64 j)]++List.replicate 24 anyA,[(0,sqOb n f)],1⟩
def FIs (t:Bool) (N n:Nat) (h:Nat→T_Bar) (c:Nat) (S:Nat→T_Step):St:=⟨[.p .any,.pt 2 0 0 0,.p .any,.p .any,.ar 5 1 0 c]++List.replicate 49 anyA,[(0,bxT t h n N),(1,sqOb c S)],2⟩
def FIe (c:Nat) (S:Nat→T_Step):St:=⟨[.p .any,.p .any,.p .any,.p .any,.ar 5 0 0 c]++List.replicate 49 anyA,[(0,sqOb c S)],1⟩
def FQs (t:Bool) (N n:Nat) (h:Nat→T_Bar) (c:Nat) (S:Nat→T_Step):St:=⟨[.p .any,.p .any,.p .any,.p .any,.ar 5 1 0 c,.pt 2 0 0 0]++List.replicate 48 anyA,[(0,bxT t h n N),(1,sqOb c S)],2⟩
def sqA (x:T_Step):AV:=.agg [.p (.int .i64 x.1),.p (.int .i64 x.2.1),.p (.int .i64 x.2.2.1),.p (.int .i64 x.2.2.2.1),.p (.int .i64 x.2.2.2.2.1)]
def lastS (h:Nat→T_Bar):T_Step:=(0,0,(h 0).1,(h 0).2.1,0,())
theorem rvz (n:Nat) (f:Nat→T_Step) :
    pieceOb Tryz.prog 1 [rg 5,.head] [.code (bodyOf Tryz.f183)] (start Tryz.f183 [(0,sqOb n f)] 1 [.ar 5 0 0 n]) [0] 1 (RVs n f 0 ((n:Int) - 1)) =
    some (zf115,[(R0 ((↑n:Int) - 1)),(R1 ((↑n:Int) - 1)),(AN 0),(AN n),(AI 0),(AI (((↑n:Int) - 1))),(AN 5),(NL n n),(AA n (fun i=>[.p (.int .i64 ((f i).1)),.p (.int .i64 ((f i).2.1)),.p (.int .i64 ((f i).2.2.1)),.p (.int .i64 ((f i).2.2.2.1)),.p (.int .i64 ((f i).2.2.2.2.1))]))]):=by kernel_rfl
theorem rvt (n:Nat) (f:Nat→T_Step) (i j:Int) :
    pieceOb Tryz.prog 1 [rg 3,.dec true,rg 16,rg 6,.head] zf115 (RVs n f i j) [0] 1 (RVs n (swS f i j) (i+1) (j - 1)) =
    some (zf115,[((decide (i<j))=true),(IL 0 j),(IT j (↑n:Int)),(NT j.toNat n),(IL 0 i),(IT i (↑n:Int)),(NT i.toNat n),(IL 0 i),(IT i (↑n:Int)),(NT i.toNat n),((false=true)→ ((n:Nat)=1)),(IL 0 j),(IT j (↑n:Int)),(NT j.toNat n),((false=true)→ ((n:Nat)=1)),(R0 (i+1)),(R1 (i+1)),(R0 (j - 1)),(R1 (j - 1)),(AN 0),(AN n),(AI ((i+1))),(AI ((j - 1))),(AN 5),(NL n n),(CV [(0,⟨false,5,n,(fun i_2=>(if (i_2=j.toNat) then [.p (.int .i64 ((f i.toNat).1)),.p (.int .i64 ((f i.toNat).2.1)),.p (.int .i64 ((f i.toNat).2.2.1)),.p (.int .i64 ((f i.toNat).2.2.2.1)),.p (.int .i64 ((f i.toNat).2.2.2.2.1))] else (if (i_2=i.toNat) then [.p (.int .i64 ((f j.toNat).1)),.p (.int .i64 ((f j.toNat).2.1)),.p (.int .i64 ((f j.toNat).2.2.1)),.p (.int .i64 ((f j.toNat).2.2.2.1)),.p (.int .i64 ((f j.toNat).2.2.2.2.1))] else [.p (.int .i64 ((f i_2).1)),.p (.int .i64 ((f i_2).2.1)),.p (.int .i64 ((f i_2).2.2.1)),.p (.int .i64 ((f i_2).2.2.2.1)),.p (.int .i64 ((f i_2).2.2.2.2.1))])))⟩)] [0] 1 n (fun i_1=>if (i_1=j.toNat) then [.p (.int .i64 ((f i.toNat).1)),.p (.int .i64 ((f i.toNat).2.1)),.p (.int .i64 ((f i.toNat).2.2.1)),.p (.int .i64 ((f i.toNat).2.2.2.1)),.p (.int .i64 ((f i.toNat).2.2.2.2.1))] else (if (i_1=i.toNat) then [.p (.int .i64 ((f j.toNat).1)),.p (.int .i64 ((f j.toNat).2.1)),.p (.int .i64 ((f j.toNat).2.2.1)),.p (.int .i64 ((f j.toNat).2.2.2.1)),.p (.int .i64 ((f j.toNat).2.2.2.2.1))] else [.p (.int .i64 ((f i_1).1)),.p (.int .i64 ((f i_1).2.1)),.p (.int .i64 ((f i_1).2.2.1)),.p (.int .i64 ((f i_1).2.2.2.1)),.p (.int .i64 ((f i_1).2.2.2.2.1))])) (fun i_1=>[.p (.int .i64 ((swS f i j i_1).1)),.p (.int .i64 ((swS f i j i_1).2.1)),.p (.int .i64 ((swS f i j i_1).2.2.1)),.p (.int .i64 ((swS f i j i_1).2.2.2.1)),.p (.int .i64 ((swS f i j i_1).2.2.2.2.1))]))]):=by kernel_rfl
theorem rve (n:Nat) (f r:Nat→T_Step) (i j:Int) :
    pathOb Tryz.prog Tryz.f183 1 [rg 3,.dec false] zf115 (RVs n f i j) [0] 1 [(0,sqOb n r)] (.tup []) =
    some [((decide (i<j))=false),(AN 5),(NL n n),(∀ i_1:Nat,(((i_1:Nat)<n)→(All []∧(([.p (.int .i64 ((f i_1).1)),.p (.int .i64 ((f i_1).2.1)),.p (.int .i64 ((f i_1).2.2.1)),.p (.int .i64 ((f i_1).2.2.2.1)),.p (.int .i64 ((f i_1).2.2.2.2.1))]:List AV)=[.p (.int .i64 ((r i_1).1)),.p (.int .i64 ((r i_1).2.1)),.p (.int .i64 ((r i_1).2.2.1)),.p (.int .i64 ((r i_1).2.2.2.1)),.p (.int .i64 ((r i_1).2.2.2.2.1))])))),(AE n)]:=by kernel_rfl
theorem fiN (g:Nat→T_Bar) (nb N:Nat) (b:Bool) :
    pathOb Tryz.prog Tryz.f64 0 [rg 3,rm [(1,oc [] (.p (.bool b)))] 7,.dec true,rg 3] [.code (bodyOf Tryz.f64)] (start Tryz.f64 [] 0 [grG g nb N]) [384] 1 [(0,sqOb 0 (fun _=>stZ))] (.tup [.ar 5 0 0 0,.p (.bool false)]) =
    some [(NT 0 1),Con Tryz.prog 181 0 [] [(zf110 N nb g)] [] (.p (.bool b)),(AG (!!b)),(((!!b)=true)→(NT 0 1)),(AG (!!b)),(AG (!!b)),(((!b)=false)→ ((!!b)=true)),((bif !b then true else (↑nb:Int)==0)=true),(AN 0),(AN 0),(false=false),(AN 5),(NL 0 0),(AA 0 (fun i=>[.p (.int .i64 0),.p (.int .i64 0),.p (.int .i64 0),.p (.int .i64 0),.p (.int .i64 0)])),(AE 0)]:=by kernel_rfl
theorem fiZ (g:Nat→T_Bar) (nb N:Nat) (b:Bool) :
    pieceOb Tryz.prog 0 [rg 3,rm [(1,oc [] (.p (.bool b)))] 7,.dec false,rg 2,.head] [.code (bodyOf Tryz.f64)] (start Tryz.f64 [] 0 [grG g nb N]) [0,384] 1 (FIs true N nb g 0 (fun _=>stZ)) =
    some (zf72,[(NT 0 1),Con Tryz.prog 181 0 [] [(zf110 N nb g)] [] (.p (.bool b)),(AG (!!b)),(((!!b)=true)→(NT 0 1)),(AG (!!b)),(AG (!!b)),(((!b)=false)→ ((!!b)=true)),((bif !b then true else (↑nb:Int)==0)=false),(AN 0),(AN 0),(AN 0),((([AV.p (PV.int IntKind.i64 (↑N:Int)),brL g nb].length):Nat)=2),(NL 1 1),(NL 1 1),(AI ((↑N:Int))),(AN nb),(AP nb (fun i=>[.int .i64 ((g i).1),.int .i64 ((g i).2.1)])),(AN 5),(NL 0 0),(AA 0 (fun i=>[.p (.int .i64 0),.p (.int .i64 0),.p (.int .i64 0),.p (.int .i64 0),.p (.int .i64 0)]))]):=by kernel_rfl
theorem fiF (t:Bool) (N n:Nat) (h:Nat→T_Bar) (c:Nat) (S:Nat→T_Step) :
    pathOb Tryz.prog Tryz.f64 0 [rg 4,.dec true,rm [(1,oc [] noU)] 9,rg 2,.dec true,rg 3] zf72 (FIs t N n h c S) [546] 1 [(0,sqOb 0 (fun _=>stZ))] (.tup [.ar 5 0 0 0,.p (.bool false)]) =
    some [(NT 0 1),((decide ((↑n:Int)>1))=true),(NT 0 1),Con Tryz.prog 182 0 [] [(zf110 N n h)] [] (.tup [.agg [.p .any,.p .any],.agg [.p .any,.p .any,.p .any,.p .any,.p .any],.p (.bool false)]),(NT 0 1),((true=true)→ (AN 1)),(NT 0 1),((true=true)→ (AN 1)),((!false)=true),(AN 0),(AN 0),(false=false),(AN 5),(NL 0 0),(AA 0 (fun i=>[.p (.int .i64 0),.p (.int .i64 0),.p (.int .i64 0),.p (.int .i64 0),.p (.int .i64 0)])),(AE 0)]:=by kernel_rfl
theorem fiT (t:Bool) (N n:Nat) (h:Nat→T_Bar) (c:Nat) (S:Nat→T_Step) (d:Nat) (r:Nat→T_Bar) (x:T_Step) :
    pieceOb Tryz.prog 0 [rg 4,.dec true,rm [(1,oc [(0,brOb d r)] (.tup [.agg [.p (.int .i64 N),.ar 2 0 0 d],sqA x,.p (.bool true)]))] 9,rg 2,.dec false,rg 5,rg 2,.head] zf72 (FIs t N n h c S) [0,642] 1 (FIs false N d r (c+1) (snS c S x)) =
    some (zf72,[(NT 0 1),((decide ((↑n:Int)>1))=true),(NT 0 1),Con Tryz.prog 182 0 [] [(zf110 N n h)] (zf119 d r) ((zf36 N d x)),(NT 0 1),((true=true)→ (AN 1)),(NT 0 1),((true=true)→ (AN 1)),((!true)=false),(NT 0 1),(NL 1 1),(NL c c),(NL ((c+1)*40) 140737488355328),(NL (c+1) 9223372036854775807),(NT 0 1),(NT 0 1),((true=true)→ (AN 1)),(AN 0),(AN 0),(AN ((c+1))),(AN 2),(NL 1 1),(NL 1 1),(AN 2),(NL d d),(AI ((↑N:Int))),(AN d),(AP d (fun i=>[.int .i64 ((r i).1),.int .i64 ((r i).2.1)])),(AN 5),(NL (c+1) (c+1)),(CV [(0,⟨true,2,1,(fun i_1=>[.p (.int .i64 (↑N:Int)),.ar 2 162 0 d])⟩),(642,⟨false,5,(c+1),(fun i_1=>(if (i_1<c) then [.p (.int .i64 ((S i_1).1)),.p (.int .i64 ((S i_1).2.1)),.p (.int .i64 ((S i_1).2.2.1)),.p (.int .i64 ((S i_1).2.2.2.1)),.p (.int .i64 ((S i_1).2.2.2.2.1))] else [.p (.int .i64 x.1),.p (.int .i64 x.2.1),.p (.int .i64 x.2.2.1),.p (.int .i64 x.2.2.2.1),.p (.int .i64 x.2.2.2.2.1)]))⟩),(610,⟨false,5,1,(fun i_1=>[.p (.int .i64 x.1),.p (.int .i64 x.2.1),.p (.int .i64 x.2.2.1),.p (.int .i64 x.2.2.2.1),.p (.int .i64 x.2.2.2.2.1)])⟩),(354,⟨true,5,1,(fun i_1=>[.p (.int .i64 x.1),.p (.int .i64 x.2.1),.p (.int .i64 x.2.2.1),.p (.int .i64 x.2.2.2.1),.p (.int .i64 x.2.2.2.2.1)])⟩),(322,⟨true,2,1,(fun i_1=>[.p (.int .i64 (↑N:Int)),.ar 2 162 0 d])⟩),(162,⟨false,2,d,(fun i_1=>[.p (.int .i64 ((r i_1).1)),.p (.int .i64 ((r i_1).2.1))])⟩)] [0,642] 1 (c+1) (fun i=>if (i<c) then [.p (.int .i64 ((S i).1)),.p (.int .i64 ((S i).2.1)),.p (.int .i64 ((S i).2.2.1)),.p (.int .i64 ((S i).2.2.2.1)),.p (.int .i64 ((S i).2.2.2.2.1))] else [.p (.int .i64 x.1),.p (.int .i64 x.2.1),.p (.int .i64 x.2.2.1),.p (.int .i64 x.2.2.2.1),.p (.int .i64 x.2.2.2.2.1)]) (fun i=>[.p (.int .i64 (if i<c then (S i).1 else x.1)),.p (.int .i64 (if i<c then (S i).2.1 else x.2.1)),.p (.int .i64 (if i<c then (S i).2.2.1 else x.2.2.1)),.p (.int .i64 (if i<c then (S i).2.2.2.1 else x.2.2.2.1)),.p (.int .i64 (if i<c then (S i).2.2.2.2.1 else x.2.2.2.2.1))]))]):=by kernel_rfl
theorem fiE (t:Bool) (N:Nat) (h:Nat→T_Bar) (c:Nat) (S:Nat→T_Step) :
    pieceOb Tryz.prog 0 [rg 4,.dec false,rg 15,.head] zf72 (FIs t N 1 h c S) [546] 1 (FIe (c+1) (snS c S (lastS h))) =
    some ([.code (cAt (bodyOf Tryz.f64) [1,1,1,1,1,0]),.code (cAt (bodyOf Tryz.f64) [1,1,1,1,1,1])],[(NT 0 1),((decide ((↑1:Int)>1))=false),(NT 0 1),(IL 0 0),(IT 0 (↑1:Int)),(NT 0 1),(IL 0 0),(IT 0 (↑1:Int)),(NL 1 1),(NL c c),(NL ((c+1)*40) 140737488355328),(NL (c+1) 9223372036854775807),(AN 0),(AN ((c+1))),(AN 5),(NL (c+1) (c+1)),(CV [(546,⟨false,5,(c+1),(fun i_1=>(if (i_1<c) then [.p (.int .i64 ((S i_1).1)),.p (.int .i64 ((S i_1).2.1)),.p (.int .i64 ((S i_1).2.2.1)),.p (.int .i64 ((S i_1).2.2.2.1)),.p (.int .i64 ((S i_1).2.2.2.2.1))] else [.p (.int .i64 0),.p (.int .i64 0),.p (.int .i64 ((h 0).1)),.p (.int .i64 ((h 0).2.1)),.p (.int .i64 0)]))⟩),(514,⟨false,5,1,(fun i_1=>[.p (.int .i64 0),.p (.int .i64 0),.p (.int .i64 ((h 0).1)),.p (.int .i64 ((h 0).2.1)),.p (.int .i64 0)])⟩),(0,⟨true,2,1,(fun i_1=>[.p (.int .i64 (↑N:Int)),.p (.seq t 2 1 (fun i_2=>[.int .i64 ((h i_2).1),.int .i64 ((h i_2).2.1)]))])⟩)] [546] 1 (c+1) (fun i=>if (i<c) then [.p (.int .i64 ((S i).1)),.p (.int .i64 ((S i).2.1)),.p (.int .i64 ((S i).2.2.1)),.p (.int .i64 ((S i).2.2.2.1)),.p (.int .i64 ((S i).2.2.2.2.1))] else [.p (.int .i64 0),.p (.int .i64 0),.p (.int .i64 ((h 0).1)),.p (.int .i64 ((h 0).2.1)),.p (.int .i64 0)]) (fun i=>[.p (.int .i64 (if i<c then (S i).1 else 0)),.p (.int .i64 (if i<c then (S i).2.1 else 0)),.p (.int .i64 (if i<c then (S i).2.2.1 else (h 0).1)),.p (.int .i64 (if i<c then (S i).2.2.2.1 else (h 0).2.1)),.p (.int .i64 (if i<c then (S i).2.2.2.2.1 else 0))]))]):=by kernel_rfl
theorem fiR (c:Nat) (S r:Nat→T_Step) :
    pathOb Tryz.prog Tryz.f64 0 [rm [(1,oq [0] [(0,sqOb c r)] (.tup []))] 0,rg 3] [.code (cAt (bodyOf Tryz.f64) [1,1,1,1,1,0]),.code (cAt (bodyOf Tryz.f64) [1,1,1,1,1,1])] (FIe c S) [0] 1 [(0,sqOb c r)] (.tup [.ar 5 0 0 c,.p (.bool true)]) =
    some [(AE c),Con Tryz.prog 183 1 (zf39 c S) [.ar 5 0 0 c] (zf39 c r) (.tup []),(AN 0),(AN c),(true=true),(AN 5),(NL c c),(AA c (fun i=>[.p (.int .i64 ((r i).1)),.p (.int .i64 ((r i).2.1)),.p (.int .i64 ((r i).2.2.1)),.p (.int .i64 ((r i).2.2.2.1)),.p (.int .i64 ((r i).2.2.2.2.1))])),(AE c)]:=by kernel_rfl
theorem fsN (g:Nat→T_Bar) (nb N:Nat) (b:Bool) :
    pathOb Tryz.prog Tryz.f55 0 [rg 3,rg 2,rm [(1,oc [] (.p (.bool b)))] 7,.dec true,rg 3] [.code (bodyOf Tryz.f55)] (start Tryz.f55 [] 0 [grG g nb N]) [96] 1 [(0,sqOb 0 (fun _=>stZ))] (.tup [.ar 5 0 0 0,.p (.bool false)]) =
    some [(NT 0 1),Con Tryz.prog 170 0 [] [(zf110 N nb g)] [] (.p (.bool b)),(AG (!!b)),(((!!b)=true)→(NT 0 1)),(AG (!!b)),(AG (!!b)),(((!b)=false)→ ((!!b)=true)),((bif !b then true else (↑nb:Int)==0)=true),(AN 0),(AN 0),(false=false),(AN 5),(NL 0 0),(AA 0 (fun i=>[.p (.int .i64 0),.p (.int .i64 0),.p (.int .i64 0),.p (.int .i64 0),.p (.int .i64 0)])),(AE 0)]:=by kernel_rfl
theorem fsZ (g:Nat→T_Bar) (nb N:Nat) (b:Bool) :
    pieceOb Tryz.prog 0 [rg 3,rg 2,rm [(1,oc [] (.p (.bool b)))] 7,.dec false,rm [(1,oc [(0,brOb nb g)] (.agg [.p (.int .i64 N),.ar 2 0 0 nb]))] 2,.head] [.code (bodyOf Tryz.f55)] (start Tryz.f55 [] 0 [grG g nb N]) [512,96] 1 (FQs false N nb g 0 (fun _=>stZ)) =
    some (zf56,[(NT 0 1),Con Tryz.prog 170 0 [] [(zf110 N nb g)] [] (.p (.bool b)),(AG (!!b)),(((!!b)=true)→(NT 0 1)),(AG (!!b)),(AG (!!b)),(((!b)=false)→ ((!!b)=true)),((bif !b then true else (↑nb:Int)==0)=false),(NT 0 1),Con Tryz.prog 52 0 [] [(zf110 N nb g)] (zf119 nb g) (.agg [.p (.int .i64 (↑N:Int)),.ar 2 0 0 nb]),(NT 0 1),((true=true)→ (AN 1)),(AN 0),(AN 0),(AN 0),((((List.map (fun v=>AV.p (absV v)) [Value.int IntKind.i64 0,Value.slice none 0 0]).length):Nat)=2),(NL 1 1),(NL 1 1),(AN 2),(NL nb nb),(AI ((↑N:Int))),(AN nb),(AP nb (fun i=>[.int .i64 ((g i).1),.int .i64 ((g i).2.1)])),(AN 5),(NL 0 0),(AA 0 (fun i=>[.p (.int .i64 0),.p (.int .i64 0),.p (.int .i64 0),.p (.int .i64 0),.p (.int .i64 0)]))]):=by kernel_rfl
theorem fsF (t:Bool) (N n:Nat) (h:Nat→T_Bar) (c:Nat) (S:Nat→T_Step) :
    pathOb Tryz.prog Tryz.f55 0 [rg 4,.dec true,rm [(1,oc [] noU)] 9,rg 2,.dec true,rg 3] zf56 (FQs t N n h c S) [546] 1 [(0,sqOb 0 (fun _=>stZ))] (.tup [.ar 5 0 0 0,.p (.bool false)]) =
    some [(NT 0 1),((decide ((↑n:Int)>1))=true),(NT 0 1),Con Tryz.prog 171 0 [] [(zf110 N n h)] [] (.tup [.agg [.p .any,.p .any],.agg [.p .any,.p .any,.p .any,.p .any,.p .any],.p (.bool false)]),(NT 0 1),((true=true)→ (AN 1)),(NT 0 1),((true=true)→ (AN 1)),((!false)=true),(AN 0),(AN 0),(false=false),(AN 5),(NL 0 0),(AA 0 (fun i=>[.p (.int .i64 0),.p (.int .i64 0),.p (.int .i64 0),.p (.int .i64 0),.p (.int .i64 0)])),(AE 0)]:=by kernel_rfl
theorem fsT (t:Bool) (N n:Nat) (h:Nat→T_Bar) (c:Nat) (S:Nat→T_Step) (d:Nat) (r:Nat→T_Bar) (x:T_Step) :
    pieceOb Tryz.prog 0 [rg 4,.dec true,rm [(1,oc [(0,brOb d r)] (.tup [.agg [.p (.int .i64 N),.ar 2 0 0 d],sqA x,.p (.bool true)]))] 9,rg 2,.dec false,rg 5,rg 2,.head] zf56 (FQs t N n h c S) [0,642] 1 (FQs false N d r (c+1) (cnS S x)) =
    some (zf56,[(NT 0 1),((decide ((↑n:Int)>1))=true),(NT 0 1),Con Tryz.prog 171 0 [] [(zf110 N n h)] (zf119 d r) ((zf36 N d x)),(NT 0 1),((true=true)→ (AN 1)),(NT 0 1),((true=true)→ (AN 1)),((!true)=false),(NT 0 1),(NL c c),(NL 1 1),(NL ((1+c)*40) 140737488355328),(NL (1+c) 9223372036854775807),(NT 0 1),(NT 0 1),((true=true)→ (AN 1)),(AN 0),(((1+c):Nat)=(c+1)),(AN 0),(AN 2),(NL 1 1),(NL 1 1),(AN 2),(NL d d),(AI ((↑N:Int))),(AN d),(AP d (fun i=>[.int .i64 ((r i).1),.int .i64 ((r i).2.1)])),(AN 5),(NL (c+1) (1+c)),(CV [(0,⟨true,2,1,(fun i_1=>[.p (.int .i64 (↑N:Int)),.ar 2 162 0 d])⟩),(642,⟨false,5,(1+c),(fun i_1=>(if (i_1<1) then [.p (.int .i64 x.1),.p (.int .i64 x.2.1),.p (.int .i64 x.2.2.1),.p (.int .i64 x.2.2.2.1),.p (.int .i64 x.2.2.2.2.1)] else [.p (.int .i64 ((S (i_1 - 1)).1)),.p (.int .i64 ((S (i_1 - 1)).2.1)),.p (.int .i64 ((S (i_1 - 1)).2.2.1)),.p (.int .i64 ((S (i_1 - 1)).2.2.2.1)),.p (.int .i64 ((S (i_1 - 1)).2.2.2.2.1))]))⟩),(354,⟨true,5,1,(fun i_1=>[.p (.int .i64 x.1),.p (.int .i64 x.2.1),.p (.int .i64 x.2.2.1),.p (.int .i64 x.2.2.2.1),.p (.int .i64 x.2.2.2.2.1)])⟩),(322,⟨true,2,1,(fun i_1=>[.p (.int .i64 (↑N:Int)),.ar 2 162 0 d])⟩),(162,⟨false,2,d,(fun i_1=>[.p (.int .i64 ((r i_1).1)),.p (.int .i64 ((r i_1).2.1))])⟩),(1,⟨false,5,c,(fun i_1=>[.p (.int .i64 ((S i_1).1)),.p (.int .i64 ((S i_1).2.1)),.p (.int .i64 ((S i_1).2.2.1)),.p (.int .i64 ((S i_1).2.2.2.1)),.p (.int .i64 ((S i_1).2.2.2.2.1))])⟩)] [0,642] 1 (c+1) (fun i=>if (i<1) then [.p (.int .i64 x.1),.p (.int .i64 x.2.1),.p (.int .i64 x.2.2.1),.p (.int .i64 x.2.2.2.1),.p (.int .i64 x.2.2.2.2.1)] else [.p (.int .i64 ((S (i - 1)).1)),.p (.int .i64 ((S (i - 1)).2.1)),.p (.int .i64 ((S (i - 1)).2.2.1)),.p (.int .i64 ((S (i - 1)).2.2.2.1)),.p (.int .i64 ((S (i - 1)).2.2.2.2.1))]) (fun i=>[.p (.int .i64 (if i<1 then x.1 else (S (i - 1)).1)),.p (.int .i64 (if i<1 then x.2.1 else (S (i - 1)).2.1)),.p (.int .i64 (if i<1 then x.2.2.1 else (S (i - 1)).2.2.1)),.p (.int .i64 (if i<1 then x.2.2.2.1 else (S (i - 1)).2.2.2.1)),.p (.int .i64 (if i<1 then x.2.2.2.2.1 else (S (i - 1)).2.2.2.2.1))]))]):=by kernel_rfl
theorem fsE (t:Bool) (N:Nat) (h:Nat→T_Bar) (c:Nat) (S:Nat→T_Step) :
    pathOb Tryz.prog Tryz.f55 0 [rg 4,.dec false,rg 16] zf56 (FQs t N 1 h c S) [546] 1 [(0,sqOb (c+1) (cnS S (lastS h)))] (.tup [.ar 5 0 0 (c+1),.p (.bool true)]) =
    some [(NT 0 1),((decide ((↑1:Int)>1))=false),(NT 0 1),(IL 0 0),(IT 0 (↑1:Int)),(NT 0 1),(IL 0 0),(IT 0 (↑1:Int)),(NL c c),(NL 1 1),(NL ((1+c)*40) 140737488355328),(NL (1+c) 9223372036854775807),(AN 0),(((1+c):Nat)=(c+1)),(true=true),(AN 5),(NL (c+1) (1+c)),(CV [(546,⟨false,5,(1+c),(fun i_1=>(if (i_1<1) then [.p (.int .i64 0),.p (.int .i64 0),.p (.int .i64 ((h 0).1)),.p (.int .i64 ((h 0).2.1)),.p (.int .i64 0)] else [.p (.int .i64 ((S (i_1 - 1)).1)),.p (.int .i64 ((S (i_1 - 1)).2.1)),.p (.int .i64 ((S (i_1 - 1)).2.2.1)),.p (.int .i64 ((S (i_1 - 1)).2.2.2.1)),.p (.int .i64 ((S (i_1 - 1)).2.2.2.2.1))]))⟩),(0,⟨true,2,1,(fun i_1=>[.p (.int .i64 (↑N:Int)),.p (.seq t 2 1 (fun i_2=>[.int .i64 ((h i_2).1),.int .i64 ((h i_2).2.1)]))])⟩),(1,⟨false,5,c,(fun i_1=>[.p (.int .i64 ((S i_1).1)),.p (.int .i64 ((S i_1).2.1)),.p (.int .i64 ((S i_1).2.2.1)),.p (.int .i64 ((S i_1).2.2.2.1)),.p (.int .i64 ((S i_1).2.2.2.2.1))])⟩)] [546] 1 (c+1) (fun i=>if (i<1) then [.p (.int .i64 0),.p (.int .i64 0),.p (.int .i64 ((h 0).1)),.p (.int .i64 ((h 0).2.1)),.p (.int .i64 0)] else [.p (.int .i64 ((S (i - 1)).1)),.p (.int .i64 ((S (i - 1)).2.1)),.p (.int .i64 ((S (i - 1)).2.2.1)),.p (.int .i64 ((S (i - 1)).2.2.2.1)),.p (.int .i64 ((S (i - 1)).2.2.2.2.1))]) (fun i=>[.p (.int .i64 (if i<1 then 0 else (S (i - 1)).1)),.p (.int .i64 (if i<1 then 0 else (S (i - 1)).2.1)),.p (.int .i64 (if i<1 then (h 0).1 else (S (i - 1)).2.2.1)),.p (.int .i64 (if i<1 then (h 0).2.1 else (S (i - 1)).2.2.2.1)),.p (.int .i64 (if i<1 then 0 else (S (i - 1)).2.2.2.2.1))])),(AE ((c+1)))]:=by kernel_rfl
end Go.Proofs.YtkkjoghiigiokaaGreat.Mach
namespace Go.Proofs.YtkkjoghiigiokaaGreat.Mach
open Go Go.Sort
set_option linter.unusedVariables false
set_option linter.unusedSimpArgs false
theorem bCs (v:T_Graph) :
    pathOb Tryz.prog Tryz.f52 0 [rg 2,rg 8] [.code (bodyOf Tryz.f52)] (start Tryz.f52 [] 0 [graphA v]) [224] 1 [(0,brOb v.2.1.1 v.2.1.2)] (.agg [.p (.int .i64 v.1),.ar 2 0 0 v.2.1.1]) =
    some [(NT 0 1),(NT 0 1),(NL 0 0),(NL ((0+v.2.1.1)*16) 140737488355328),(NL (0+v.2.1.1) 9223372036854775807),(NT 0 1),((true=true)→ (AN 1)),(NT 0 1),(AI v.1),(AN 0),(((0+v.2.1.1):Nat)=v.2.1.1),(AN 2),(NL v.2.1.1 (0+v.2.1.1)),(AA v.2.1.1 (fun i=>[.p (.int .i64 ((v.2.1.2 i).1)),.p (.int .i64 ((v.2.1.2 i).2.1))])),(AE v.2.1.1)]:=by kernel_rfl
theorem con_l2Copy (v:T_Graph) (hn:v.2.1.1≤1048576):Con Tryz.prog 52 0 [] [graphA v] [(0,brOb v.2.1.1 v.2.1.2)] (.agg [.p (.int .i64 v.1),.ar 2 0 0 v.2.1.1]):=by
  refine con_start Tryz.func52 rfl (by kernel_rfl) rfl (fun c hc=>?_)
  refine path_ok mixed Tryz.func52 hc (bCs v) ?_
  repeat' (first | exact aN | apply aI)
  all_goals (first | exact aA _ _ | exact aE _ | omega | rfl | (intros;first | assumption | exact trivial | rfl | exact fT ‹_› | ((repeat' (first | assumption | apply anda | apply notf));done)) | (intro j hj;simp [All];done) | (simp;try omega))
end Go.Proofs.YtkkjoghiigiokaaGreat.Mach
namespace Go.Proofs.YtkkjoghiigiokaaGreat.Mach
open Go
set_option linter.unusedVariables false
set_option linter.unusedSimpArgs false
theorem con_RevS (n:Nat) (f R:Nat→T_Step) (hn:n≤1000) (hR:∀ s,s<n→R s=f (n - 1 - s)) :
    Con Tryz.prog 183 1 [(0,sqOb n f)] [.ar 5 0 0 n] [(0,sqOb n R)] (.tup []):=by
  refine con_start Tryz.func183 rfl (by kernel_rfl) rfl (fun c hc=>?_)
  have lo:∀ d k (h:Nat→T_Step),k+d=n→(∀ s,s<n→h s=if s<k∨n≤s+k then f (n - 1 - s) else f s) →
      Run Tryz.prog c 183 zf115 (RVs n h k ((n:Int) - 1 - k)) (Post c [(0,sqOb n R)] (.tup [])):=by
    intro d
    induction d with
    | zero =>
      intro k h hk hh
      have hd:decide ((k:Int)<(n:Int) - 1 - k)=false:=decide_eq_false (by omega)
      have he:∀ s,s<n→h s=R s:=fun s hs=>by rw [hh s hs,hR s hs,if_pos (Or.inl (by omega))]
      refine path_ok mixed Tryz.func183 hc (rve n h R k ((n:Int) - 1 - k)) ?_
      repeat' (first | exact aN | apply aI)
      all_goals (first | exact aE _ | omega | rfl | (intros;first | assumption | exact trivial | rfl | exact fT ‹_› | ((repeat' (first | assumption | apply anda | apply notf));done)) | (exact hd) | (simp;done) | (intro t ht;rw [he t ht];simp [All];done))
    | succ d ih =>
      intro k h hk hh
      by_cases hlt:(k:Int)<(n:Int) - 1 - k
      · have hd:decide ((k:Int)<(n:Int) - 1 - k)=true:=decide_eq_true hlt
        have e1:((n:Int) - 1 - k).toNat=n - 1 - k:=by omega
        have hr:=ih (k+1) (swS h k ((n:Int) - 1 - k)) (by omega) (fun s hs=>by
          unfold swS
          rw [e1,show (k:Int).toNat=k from rfl]
          by_cases h1:s=n - 1 - k
          · rw [if_pos h1,hh k (by omega),if_neg (by omega),if_pos (Or.inr (by omega)),show n - 1 - s=k by omega]
          · rw [if_neg h1]
            by_cases h2:s=k
            · rw [if_pos h2,hh _ (by omega),if_neg (by omega),if_pos (Or.inl (by omega)),h2]
            · rw [if_neg h2,hh s hs]
              by_cases h3:s<k∨n≤s+k
              · rw [if_pos h3,if_pos (by omega)]
              · rw [if_neg h3,if_neg (by omega)])
        rw [show ((n:Int) - 1 - ((k+1:Nat):Int))=(n:Int) - 1 - k - 1 by omega,show ((k+1:Nat):Int)=(k:Int)+1 by omega] at hr
        refine piece_ok mixed hc (rvt n h k ((n:Int) - 1 - k)) ?_ hr
        repeat' (first | exact aN | apply aI)
        all_goals (first | omega | rfl | (intros;first | assumption | exact trivial | rfl | exact fT ‹_› | ((repeat' (first | assumption | apply anda | apply notf));done)) | (exact hd) | (simp;omega) | (simp;done) | (intro t ht;by_cases h':t=((n:Int) - 1 - k).toNat<;>by_cases h2:t=(k:Int).toNat<;>first | (simp only [swS,if_pos h'];exact ⟨True.intro,rfl⟩) | (simp only [swS,if_neg h',if_pos h2];exact ⟨True.intro,rfl⟩) | (simp only [swS,if_neg h',if_neg h2];exact ⟨True.intro,rfl⟩)) | (intro t ht;simp [All];done))
      · have hd:decide ((k:Int)<(n:Int) - 1 - k)=false:=decide_eq_false hlt
        have he:∀ s,s<n→h s=R s:=fun s hs=>by
          rw [hh s hs,hR s hs]
          by_cases h3:s<k∨n≤s+k
          · rw [if_pos h3]
          · rw [if_neg h3,show n - 1 - s=s by omega]
        refine path_ok mixed Tryz.func183 hc (rve n h R k ((n:Int) - 1 - k)) ?_
        repeat' (first | exact aN | apply aI)
        all_goals (first | exact aE _ | omega | rfl | (intros;first | assumption | exact trivial | rfl | exact fT ‹_› | ((repeat' (first | assumption | apply anda | apply notf));done)) | (exact hd) | (simp;done) | (intro t ht;rw [he t ht];simp [All];done))
  have hr:=lo n 0 f (by omega) (fun s hs=>by rw [if_neg (by omega)])
  rw [show ((n:Int) - 1 - ((0:Nat):Int))=(n:Int) - 1 by omega] at hr
  refine piece_ok mixed hc (rvz n f) ?_ hr
  repeat' (first | exact aN | apply aI)
  all_goals (first | exact aA _ _ | omega | rfl | (intros;first | assumption | exact trivial | rfl | exact fT ‹_› | ((repeat' (first | assumption | apply anda | apply notf));done)) | (simp;done) | (simp;omega) | (intro t ht;simp [All];done))
theorem uFind_some {α:Type} {F:Nat→Option α} {u:α}:∀ d v,uFind F d v=some u→∃ w,F w=some u
  | 0,v,h=>by cases h
  | d+1,v,h=>by
    rw [show uFind F (d+1) v=(F v).or (uFind F d (v+1)) from rfl] at h
    cases hv:F v with
    | some x=>rw [hv,Option.some_or] at h;exact ⟨v,by rw [hv,h]⟩
    | none=>rw [hv,Option.none_or] at h;exact uFind_some d (v+1) h
theorem uTry_some {N:Nat} {D:NB} {v:Nat} {a b c:Int} {u:NB×T_Step} (h:uTry N D v a b c=some u):isGraphF ((N:Int),(u.1.1,u.1.2),())=true∧u.1.1=D.1+1:=by
  unfold uTry at h
  cases hs:spB N (uP D (brX a b)) with
  | false=>rw [hs] at h;cases h
  | true =>
    rw [hs] at h
    simp only [cond_true,Option.some.injEq] at h
    subst h
    refine ⟨?_,rfl⟩
    cases hg:isGraphF ((N:Int),((uP D (brX a b)).1,(uP D (brX a b)).2),()) with
    | true=>rfl
    | false=>unfold spB at hs;rw [hg] at hs;cases hs
theorem undo_ok {N nb:Nat} {g:Nat→T_Bar} (hg:isGraphF ((N:Int),(nb,g),())=true) {u:NB×T_Step} (h:undo N g nb=some u) :
    isGraphF ((N:Int),(u.1.1,u.1.2),())=true∧u.1.1+2=nb:=by
  unfold undo at h
  cases h2:uFind (fun v=>uTwo (drD g v nb) (nrD g v nb) v) N 0 with
  | some x =>
    rw [h2,Option.some_or] at h
    cases h
    obtain ⟨w,hw⟩:=uFind_some _ _ h2
    have hn:=nrD_n g w nb
    unfold uTwo at hw
    by_cases he:(nrD g w nb).1=2
    · rw [if_pos he] at hw
      cases hw
      exact ⟨drD_graph hg w,by show (drD g w nb).1+2=nb;omega⟩
    · rw [if_neg he] at hw;cases hw
  | none =>
    rw [h2,Option.none_or] at h
    obtain ⟨w,hw⟩:=uFind_some _ _ h
    have hn:=nrD_n g w nb
    unfold uTri at hw
    by_cases he:(nrD g w nb).1=3
    · rw [if_pos he] at hw
      have hx:isGraphF ((N:Int),(u.1.1,u.1.2),())=true∧u.1.1=(drD g w nb).1+1:=by
        cases h0:uTry N (drD g w nb) w ((nrD g w nb).2 0) ((nrD g w nb).2 1) ((nrD g w nb).2 2) with
        | some x=>rw [h0,Option.some_or] at hw;cases hw;exact uTry_some h0
        | none =>
          rw [h0,Option.none_or] at hw
          cases h1:uTry N (drD g w nb) w ((nrD g w nb).2 1) ((nrD g w nb).2 2) ((nrD g w nb).2 0) with
          | some x=>rw [h1,Option.some_or] at hw;cases hw;exact uTry_some h1
          | none=>rw [h1,Option.none_or] at hw;exact uTry_some hw
      exact ⟨hx.1,by rw [hx.2];omega⟩
    · rw [if_neg he] at hw;cases hw
noncomputable def fsW (N:Nat):Nat→NB→T_StepS→T_StepS×Bool
  | 0,D,S=>((S.1+1,cnS S.2 (lastS D.2)),true)
  | m+1,D,S=>if 1<D.1 then (match undo N D.2 D.1 with
      | none=>((0,fun _=>stZ),false)
      | some u=>fsW N m u.1 (S.1+1,cnS S.2 u.2)) else ((S.1+1,cnS S.2 (lastS D.2)),true)
noncomputable def fsA (N nb:Nat) (g:Nat→T_Bar):T_StepS×Bool :=
  bif (bif !mrG ((N:Int),(nb,g),()) then true else (nb:Int)==0) then ((0,fun _=>stZ),false) else fsW N nb (nb,g) (0,fun _=>stZ)
theorem fsW_1 (N m:Nat) (D:NB) (S:T_StepS) (h:D.1=1):fsW N m D S=((S.1+1,cnS S.2 (lastS D.2)),true):=by
  cases m with
  | zero=>rfl
  | succ m=>rw [fsW,if_neg (by omega)]
theorem fsW_n {N m:Nat} {D:NB} {S:T_StepS} (h:1<D.1) (hu:undo N D.2 D.1=none):fsW N (m+1) D S=((0,fun _=>stZ),false):=by
  rw [fsW,if_pos h,hu]
theorem fsW_s {N m:Nat} {D:NB} {S:T_StepS} {u:NB×T_Step} (h:1<D.1) (hu:undo N D.2 D.1=some u):fsW N (m+1) D S=fsW N m u.1 (S.1+1,cnS S.2 u.2):=by
  rw [fsW,if_pos h,hu]
theorem mr_odd {N nb:Nat} {g:Nat→T_Bar} (h:(bif !mrG ((N:Int),(nb,g),()) then true else (nb:Int)==0)=false):isGraphF ((N:Int),(nb,g),())=true∧nb % 2=1:=by
  cases hm:mrG ((N:Int),(nb,g),()) with
  | false=>rw [hm] at h;cases h
  | true =>
    rw [hm] at h
    have hz:¬ nb=0:=by intro hz;subst hz;simp at h
    unfold mrG at hm
    cases hf:(frGr ((N:Int),(nb,g),())==0) with
    | false=>rw [hf] at hm;cases hm
    | true =>
      rw [hf] at hm
      have hg:=frG_graph hf
      refine ⟨hg,?_⟩
      have h1:(nb:Int)=(rkG ((N:Int),(nb,g),()):Int):=by simpa using hm
      have h2:maxI (N:Int) - (rkG ((N:Int),(nb,g),()):Int)=0:=by
        have h3:frGr ((N:Int),(nb,g),())=maxI (N:Int) - (rkG ((N:Int),(nb,g),()):Int):=by unfold frGr;rw [if_pos hg]
        rw [← h3];simpa using hf
      unfold maxI at h2
      split at h2<;>omega
theorem cn_row {c:Nat} {S:Nat→T_Step} {x:T_Step} (t:Nat):cnS S x t=if t<1 then x else S (t - 1):=by
  unfold cnS;split<;>rfl
theorem sn_row {c:Nat} {S:Nat→T_Step} {x:T_Step} (t:Nat):snS c S x t=if t<c then S t else x:=by
  unfold snS;split<;>rfl
theorem con_FindSteps_s {N nb:Nat} {g:Nat→T_Bar} (hsm:nb≤1048576) :
    Con Tryz.prog 55 0 [] [grG g nb N] [(0,sqOb (fsA N nb g).1.1 (fsA N nb g).1.2)] (.tup [.ar 5 0 0 (fsA N nb g).1.1,.p (.bool (fsA N nb g).2)]):=by
  have hs:smS s_Graph ((N:Int),(nb,g),()):=⟨by simp [smS,smL],⟨hsm,fun i hi=>by simp [smS,smL]⟩,True.intro⟩
  have cm:=con_IsMin_s ((N:Int),(nb,g),()) hs
  have cc:=con_l2Copy ((N:Int),(nb,g),()) hsm
  refine con_start Tryz.func55 rfl (by kernel_rfl) rfl (fun c hc=>?_)
  cases hb:(bif !mrG ((N:Int),(nb,g),()) then true else (nb:Int)==0) with
  | true =>
    rw [show fsA N nb g=((0,fun _=>stZ),false) by unfold fsA;rw [hb];rfl]
    refine path_ok mixed Tryz.func55 hc (fsN g nb N (mrG ((N:Int),(nb,g),()))) ?_
    repeat' (first | exact aN | apply aI)
    all_goals (first | exact aG _ | exact aA _ _ | exact aE _ | omega | rfl | (intros;first | assumption | exact trivial | rfl | exact fT ‹_› | ((repeat' (first | assumption | apply anda | apply notf));done)) | (exact cm) | (exact hb) | (intro h;simpa using h) | (simp;done))
  | false =>
    rw [show fsA N nb g=fsW N nb (nb,g) (0,fun _=>stZ) by unfold fsA;rw [hb];rfl]
    obtain ⟨hg,ho⟩:=mr_odd hb
    generalize hR:fsW N nb (nb,g) (0,fun _=>stZ)=R
    have lo:∀ m (D:NB) (S:T_StepS),D.1≤2*m+1→D.1 % 2=1→S.1+D.1≤nb→isGraphF ((N:Int),(D.1,D.2),())=true→fsW N m D S=R →
        Run Tryz.prog c 55 zf56 (FQs false N D.1 D.2 S.1 S.2) (Post c [(0,sqOb R.1.1 R.1.2)] (.tup [.ar 5 0 0 R.1.1,.p (.bool R.2)])):=by
      intro m
      induction m with
      | zero =>
        intro D S hD ho hb hg hR
        obtain ⟨n,h⟩:=D
        have hn:n=1:=by simp at hD ho;omega
        subst hn
        have hd:decide (((1:Nat):Int)>1)=false:=by decide
        rw [← hR,fsW_1 N 0 _ S rfl]
        refine path_ok mixed Tryz.func55 hc (fsE false N h S.1 S.2) ?_
        repeat' (first | exact aN | apply aI)
        all_goals (first | exact aE _ | omega | rfl | (intros;first | assumption | exact trivial | rfl | exact fT ‹_› | ((repeat' (first | assumption | apply anda | apply notf));done)) | (exact hd) | (simp;done) | (simp;omega) | (intro t ht;by_cases h':t<1<;>(simp [h',cnS,lastS,cvtL,cvt,tg,tru,All];done)) | (intro t ht;simp [All];done))
      | succ m ih =>
        intro D S hD ho hb hg hR
        obtain ⟨n,h⟩:=D
        by_cases h1:1<n
        · have hd:decide ((n:Int)>1)=true:=decide_eq_true (by omega)
          have cu:=con_l7Undo hg
          cases hu:undo N h n with
          | none =>
            rw [show undo N (n,h).2 (n,h).1=none from hu] at cu
            rw [← hR,fsW_n (D:=(n,h)) h1 hu]
            refine path_ok mixed Tryz.func55 hc (fsF false N n h S.1 S.2) ?_
            repeat' (first | exact aN | apply aI)
            all_goals (first | exact aA _ _ | exact aE _ | omega | rfl | (intros;first | assumption | exact trivial | rfl | exact fT ‹_› | ((repeat' (first | assumption | apply anda | apply notf));done)) | (exact hd) | (exact cu) | (simp;done) | (intro t ht;simp [All];done))
          | some u =>
            rw [show undo N (n,h).2 (n,h).1=some u from hu] at cu
            obtain ⟨hg',hn'⟩:=undo_ok hg hu
            have hr:=ih u.1 (S.1+1,cnS S.2 u.2) (by simp at hD hn';omega) (by simp at ho hn';omega) (by simp at hb hn' ⊢;omega) hg' (by rw [← hR,fsW_s (D:=(n,h)) h1 hu])
            refine piece_ok mixed hc (fsT false N n h S.1 S.2 u.1.1 u.1.2 u.2) ?_ hr
            repeat' (first | exact aN | apply aI)
            all_goals (first | exact aP _ _ | omega | rfl | (intros;first | assumption | exact trivial | rfl | exact fT ‹_› | ((repeat' (first | assumption | apply anda | apply notf));done)) | (exact hd) | (exact cu) | (simp;done) | (simp;omega) | (intro t ht;by_cases h':t<1<;>(simp [h',cnS,cvtL,cvt,tg,tru,All];done)) | (intro t ht;simp [All];done))
        · have hn:n=1:=by simp at ho;omega
          subst hn
          have hd:decide (((1:Nat):Int)>1)=false:=by decide
          rw [← hR,fsW_1 N (m+1) _ S rfl]
          refine path_ok mixed Tryz.func55 hc (fsE false N h S.1 S.2) ?_
          repeat' (first | exact aN | apply aI)
          all_goals (first | exact aE _ | omega | rfl | (intros;first | assumption | exact trivial | rfl | exact fT ‹_› | ((repeat' (first | assumption | apply anda | apply notf));done)) | (exact hd) | (simp;done) | (simp;omega) | (intro t ht;by_cases h':t<1<;>(simp [h',cnS,lastS,cvtL,cvt,tg,tru,All];done)) | (intro t ht;simp [All];done))
    have hr:=lo nb (nb,g) (0,fun _=>stZ) (by simp;omega) ho (by simp) hg hR
    refine piece_ok mixed hc (fsZ g nb N (mrG ((N:Int),(nb,g),()))) ?_ hr
    repeat' (first | exact aN | apply aI)
    all_goals (first | exact aG _ | exact aP _ _ | exact aA _ _ | omega | rfl | (intros;first | assumption | exact trivial | rfl | exact fT ‹_› | ((repeat' (first | assumption | apply anda | apply notf));done)) | (exact cm) | (exact cc) | (exact hb) | (intro h;simpa using h) | (simp;done) | (intro t ht;simp [All];done))
end Go.Proofs.YtkkjoghiigiokaaGreat.Mach
namespace Go.Proofs.YtkkjoghiigiokaaGreat.Mach
open Go
set_option linter.unusedVariables false
set_option linter.unusedSimpArgs false
theorem rev_cn {c:Nat} {S S':Nat→T_Step} (h:∀ i,i<c→S i=S' (c - 1 - i)) (x:T_Step):∀ i,i<c+1→cnS S x i=snS c S' x (c+1 - 1 - i):=by
  intro i hi
  rw [cn_row (c:=0),sn_row]
  by_cases h0:i<1
  · rw [if_pos h0,if_neg (by omega)]
  · rw [if_neg h0,if_pos (by omega),h (i - 1) (by omega),show c - 1 - (i - 1)=c+1 - 1 - i by omega]
theorem con_FindSteps_i {N nb:Nat} {g:Nat→T_Bar} (hsm:nb≤1048576) :
    Con Tryz.prog 64 0 [] [grG g nb N] [(0,sqOb (fsA N nb g).1.1 (fsA N nb g).1.2)] (.tup [.ar 5 0 0 (fsA N nb g).1.1,.p (.bool (fsA N nb g).2)]):=by
  have hs:smS s_Graph ((N:Int),(nb,g),()):=⟨by simp [smS,smL],⟨hsm,fun i hi=>by simp [smS,smL]⟩,True.intro⟩
  have cm:=con_IsMin_i ((N:Int),(nb,g),()) hs
  refine con_start Tryz.func64 rfl (by kernel_rfl) rfl (fun c hc=>?_)
  cases hb:(bif !mrG ((N:Int),(nb,g),()) then true else (nb:Int)==0) with
  | true =>
    rw [show fsA N nb g=((0,fun _=>stZ),false) by unfold fsA;rw [hb];rfl]
    refine path_ok mixed Tryz.func64 hc (fiN g nb N (mrG ((N:Int),(nb,g),()))) ?_
    repeat' (first | exact aN | apply aI)
    all_goals (first | exact aG _ | exact aA _ _ | exact aE _ | omega | rfl | (intros;first | assumption | exact trivial | rfl | exact fT ‹_› | ((repeat' (first | assumption | apply anda | apply notf));done)) | (exact cm) | (exact hb) | (intro h;simpa using h) | (simp;done))
  | false =>
    rw [show fsA N nb g=fsW N nb (nb,g) (0,fun _=>stZ) by unfold fsA;rw [hb];rfl]
    obtain ⟨hg,ho⟩:=mr_odd hb
    have hnb:=(graph_in hg).2.1
    generalize hR:fsW N nb (nb,g) (0,fun _=>stZ)=R
    have le:∀ (t:Bool) (h:Nat→T_Bar) (e:Nat) (S S':Nat→T_Step),e≤nb→(∀ i,i<e→S i=S' (e - 1 - i)) →
        Run Tryz.prog c 64 zf72 (FIs t N 1 h e S') (Post c [(0,sqOb (e+1) (cnS S (lastS h)))] (.tup [.ar 5 0 0 (e+1),.p (.bool true)])):=by
      intro t h e S S' he hrel
      have hd:decide (((1:Nat):Int)>1)=false:=by decide
      have cr:=con_RevS (e+1) (snS e S' (lastS h)) (cnS S (lastS h)) (by omega) (rev_cn hrel (lastS h))
      refine piece_ok mixed hc (fiE t N h e S') ?_ (path_ok mixed Tryz.func64 hc (fiR (e+1) (snS e S' (lastS h)) (cnS S (lastS h))) ?_)
      ·
        repeat' (first | exact aN | apply aI)
        all_goals (first | omega | rfl | (intros;first | assumption | exact trivial | rfl | exact fT ‹_› | ((repeat' (first | assumption | apply anda | apply notf));done)) | (exact hd) | (simp;done) | (simp;omega) | (intro t ht;by_cases h':t<e<;>(simp [h',snS,lastS,cvtL,cvt,tg,tru,All];done)) | (intro t ht;simp [All];done))
      ·
        repeat' (first | exact aN | apply aI)
        all_goals (first | exact aG _ | exact aP _ _ | exact aA _ _ | exact aE _ | omega | rfl | (intros;first | assumption | exact trivial | rfl | exact fT ‹_› | ((repeat' (first | assumption | apply anda | apply notf));done)) | (exact cr) | (simp;done) | (simp;omega) | (intro t ht;simp [All];done))
    have lo:∀ m (t:Bool) (D:NB) (S S':T_StepS),D.1≤2*m+1→D.1 % 2=1→S.1+D.1≤nb→S'.1=S.1→(∀ i,i<S.1→S.2 i=S'.2 (S.1 - 1 - i))→isGraphF ((N:Int),(D.1,D.2),())=true→fsW N m D S=R →
        Run Tryz.prog c 64 zf72 (FIs t N D.1 D.2 S'.1 S'.2) (Post c [(0,sqOb R.1.1 R.1.2)] (.tup [.ar 5 0 0 R.1.1,.p (.bool R.2)])):=by
      intro m
      induction m with
      | zero =>
        intro t D S S' hD ho hb hl hrel hg hR
        obtain ⟨n,h⟩:=D
        obtain ⟨e,S⟩:=S
        obtain ⟨e',S'⟩:=S'
        obtain rfl:e'=e:=hl
        have hn:n=1:=by simp at hD ho;omega
        subst hn
        rw [← hR,fsW_1 N 0 _ _ rfl]
        exact le t h e' S S' (by simp at hb;omega) hrel
      | succ m ih =>
        intro t D S S' hD ho hb hl hrel hg hR
        obtain ⟨n,h⟩:=D
        obtain ⟨e,S⟩:=S
        obtain ⟨e',S'⟩:=S'
        obtain rfl:e'=e:=hl
        by_cases h1:1<n
        · have hd:decide ((n:Int)>1)=true:=decide_eq_true (by omega)
          have cu:=con_stepBack hg
          cases hu:undo N h n with
          | none =>
            rw [show undo N (n,h).2 (n,h).1=none from hu] at cu
            rw [← hR,fsW_n (D:=(n,h)) h1 hu]
            refine path_ok mixed Tryz.func64 hc (fiF t N n h e' S') ?_
            repeat' (first | exact aN | apply aI)
            all_goals (first | exact aA _ _ | exact aE _ | omega | rfl | (intros;first | assumption | exact trivial | rfl | exact fT ‹_› | ((repeat' (first | assumption | apply anda | apply notf));done)) | (exact hd) | (exact cu) | (simp;done) | (intro t ht;simp [All];done))
          | some u =>
            rw [show undo N (n,h).2 (n,h).1=some u from hu] at cu
            obtain ⟨hg',hn'⟩:=undo_ok hg hu
            have hr:=ih false u.1 (e'+1,cnS S u.2) (e'+1,snS e' S' u.2) (by simp at hD hn';omega) (by simp at ho hn';omega) (by simp at hb hn' ⊢;omega) rfl (rev_cn hrel u.2) hg' (by rw [← hR,fsW_s (D:=(n,h)) h1 hu])
            refine piece_ok mixed hc (fiT t N n h e' S' u.1.1 u.1.2 u.2) ?_ hr
            repeat' (first | exact aN | apply aI)
            all_goals (first | exact aP _ _ | omega | rfl | (intros;first | assumption | exact trivial | rfl | exact fT ‹_› | ((repeat' (first | assumption | apply anda | apply notf));done)) | (exact hd) | (exact cu) | (simp;done) | (simp;omega) | (intro t ht;by_cases h':t<e'<;>(simp [h',snS,cvtL,cvt,tg,tru,All];done)) | (intro t ht;simp [All];done))
        · have hn:n=1:=by simp at ho;omega
          subst hn
          rw [← hR,fsW_1 N (m+1) _ _ rfl]
          exact le t h e' S S' (by simp at hb;omega) hrel
    have hr:=lo nb true (nb,g) (0,fun _=>stZ) (0,fun _=>stZ) (by simp;omega) ho (by simp) rfl (fun i hi=>absurd hi (Nat.not_lt_zero _)) hg hR
    refine piece_ok mixed hc (fiZ g nb N (mrG ((N:Int),(nb,g),()))) ?_ hr
    repeat' (first | exact aN | apply aI)
    all_goals (first | exact aG _ | exact aP _ _ | exact aA _ _ | omega | rfl | (intros;first | assumption | exact trivial | rfl | exact fT ‹_› | ((repeat' (first | assumption | apply anda | apply notf));done)) | (exact cm) | (exact hb) | (intro h;simpa using h) | (simp;done) | (intro t ht;simp [All];done))
end Go.Proofs.YtkkjoghiigiokaaGreat.Mach
namespace Go.Proofs.YtkkjoghiigiokaaGreat.Mach
open Go
set_option linter.unusedVariables false
set_option linter.unusedSimpArgs false
theorem Con.add {P:Program} {f:FuncId} {args:List AV} {H' H'':Hp} {cs cs':List AV} {b:Bool} (S:Nat→Bool) (h:Con P f 0 [] args H' (.tup [.agg cs,.p (.bool b)]))
    (h1:∀ o ob,lk H'' o=some ob→(lk H' o=some ob∧S o.o=false)∨(S o.o=true∧ob.n=0)) (h2:∀ o ob,lk H' o=some ob→S o.o=false∧lk H'' o=some ob)
    (h3:∀ o ob,lk H' o=some ob→∀ i j,i<ob.n→j<ob.z→∃ v,(ob.f i).getD j anyA=.p v) (hlen:cs'.length=cs.length)
    (h4:∀ j,j<cs.length→(cs'.getD j anyA=cs.getD j anyA∧((∃ v,cs.getD j anyA=.p v)∨∃ z o off n,cs.getD j anyA=.ar z o off n∧S o.o=false)) ∨
      (cs.getD j anyA=.p .nil∧∃ z o off,cs'.getD j anyA=.ar z o off 0)):Con P f 0 [] args H'' (.tup [.agg cs',.p (.bool b)]):=by
  refine ⟨h.en,fun w β X vals hX hH hs hβ hl hv=>?_⟩
  refine (h.go w β X vals hX hH hs hβ hl hv).mono ?_
  rintro e w' ⟨v,β',rfl,g1,g2,g3,g4,g5,g6,g7⟩
  have hb:∀ k:Id,β k=none:=fun k=>by
    cases hk:β k with
    | none=>rfl
    | some a=>exact absurd (hβ k (by rw [hk];simp)) (Nat.not_lt_zero _)
  let β2:Id→Option Addr:=fun k=>bif S k.o then none else β' k
  have e1:∀ k:Id,S k.o=false→β2 k=β' k:=fun k hk=>by show (bif S k.o then none else β' k)=_;rw [hk];rfl
  have e2:∀ k:Id,S k.o=true→β2 k=none:=fun k hk=>by show (bif S k.o then none else β' k)=_;rw [hk];rfl
  have ho:∀ x,ownOf β2 H'' x↔ownOf β' H' x:=by
    intro x
    constructor
    · rintro ⟨o,ob,a,k1,k2,k3⟩
      rcases h1 o ob k1 with ⟨k4,k5⟩ | ⟨k4,_⟩
      · rw [e1 o k5] at k2;exact ⟨o,ob,a,k4,k2,k3⟩
      · rw [e2 o k4] at k2;cases k2
    · rintro ⟨o,ob,a,k1,k2,k3⟩
      obtain ⟨k4,k5⟩:=h2 o ob k1
      exact ⟨o,ob,a,k5,by rw [e1 o k4];exact k2,k3⟩
  have hw:ow X β2 H''=ow X β' H':=by
    funext t x
    exact propext ⟨fun k=>k.imp (ho x).1 id,fun k=>k.imp (ho x).2 id⟩
  have hf:fr X β2 H''=fr X β' H':=by
    funext t x
    unfold fr
    rw [hw]
  refine ⟨v,β2,rfl,?_,?_,?_,?_,fun o a k=>(by rw [hb o] at k;cases k),fun x k=>g6 x ((ho x).1 k),fun k hk=>g7 k (fun hn=>hk ?_)⟩
  · rw [hf]
    intro o ob k1
    rcases h1 o ob k1 with ⟨k4,k5⟩ | ⟨k4,k5⟩
    · rcases g1 o ob k4 with ⟨k6,k7⟩ | ⟨bb,base,cells,elem,k6,k7,k8⟩ | k6
      · exact .inl ⟨by rw [e1 o k5];exact k6,k7⟩
      · refine .inr (.inl ⟨bb,base,cells,elem,by rw [e1 o k5];exact k6,k7,fun i hi j hj=>?_⟩)
        obtain ⟨x,m1,m2,m3⟩:=k8 i hi j hj
        refine ⟨x,m1,m2,?_⟩
        obtain ⟨y,hy⟩:=h3 o ob k4 i j hi hj
        rw [hy] at m3 ⊢
        cases m3 with
        | p _ _ q=>exact .p y x q
      · obtain ⟨m1,m2,m3,bx,es,ck,m4,m5⟩:=k6
        exact .inr (.inr ⟨m1,m2,m3,bx,es,ck,by rw [e1 o k5];exact m4,m5⟩)
    · exact .inl ⟨e2 o k4,k5⟩
  · intro o o' ob ob' a a' k1 k2 k3 k4 k5
    rcases h1 o ob k1 with ⟨m1,m2⟩ | ⟨m1,_⟩
    · rcases h1 o' ob' k2 with ⟨m3,m4⟩ | ⟨m3,_⟩
      · rw [e1 o m2] at k3
        rw [e1 o' m4] at k4
        exact g2 o o' ob ob' a a' m1 m3 k3 k4 k5
      · rw [e2 o' m3] at k4;cases k4
    · rw [e2 o m1] at k3;cases k3
  · rw [hf]
    cases g3 with
    | tup _ vs hl' hj =>
      refine .tup _ vs hl' (fun j hjl=>?_)
      have hx:=hj j hjl
      match j,hjl,hx with
      | 0,_,hx =>
        change VR _ _ _ (.agg cs) _ at hx
        show VR _ _ _ (.agg cs') _
        generalize vs.getD 0 undef=q at hx ⊢
        cases hx with
        | agg _ us l1 l2 l3 =>
          refine .agg cs' us (by rw [hlen];exact l1) (fun i hi=>l2 i (by rw [← hlen];exact hi)) (fun i hi=>?_)
          have hi:i<cs.length:=by rw [← hlen];exact hi
          have hy:=l3 i hi
          rcases h4 i hi with ⟨hc,⟨u,hu⟩ | ⟨z,o,off,n,hu,hn⟩⟩ | ⟨hu,z,o,off,hc⟩
          · rw [hc,hu];rw [hu] at hy
            cases hy with
            | p _ _ q=>exact .p _ _ q
          · rw [hc,hu];rw [hu] at hy
            generalize us.getD i undef=y at hy ⊢
            cases hy with
            | ar0 _ _ _ a=>exact .ar0 z o off a
            | ar _ _ _ _ bb base c cells elem fr' q1 q2 q3 q4=>exact .ar z o off n bb base c cells elem fr' (by rw [e1 o hn];exact q1) q2 q3 q4
          · rw [hc];rw [hu] at hy
            generalize us.getD i undef=y at hy ⊢
            cases hy with
            | p _ _ q=>cases q;exact .ar0 z o off none
      | 1,_,hx =>
        change VR _ _ _ (.p (.bool b)) _ at hx
        show VR _ _ _ (.p (.bool b)) _
        cases hx with
        | p _ _ q=>exact .p _ _ q
      | j+2,hjl,_=>exact absurd hjl (by simp)
  · rw [hw];exact g4
  · cases hS:S k.o with
    | true=>exact e2 k hS
    | false=>rw [e1 k hS];exact hn
end Go.Proofs.YtkkjoghiigiokaaGreat.Mach
namespace Go.Proofs.YtkkjoghiigiokaaGreat.Mach
open Go
set_option linter.unusedVariables false
set_option linter.unusedSimpArgs false
def ssOb (n:Nat) (C:Nat→T_IntS):Ob:=⟨false,1,n,fun i=>[.p (.seq false 1 (C i).1 (fun s=>[.int .i64 ((C i).2 s)]))]⟩
def snocC (n:Nat) (C:Nat→T_IntS) (c:T_IntS) (i:Nat):T_IntS:=(if i<n then (C i).1 else c.1,fun s=>if i<n then (C i).2 s else c.2 s)
def SBs (g:Nat→T_Bar) (nb N e:Nat) (n p:Nat) (f:Nat→Int):St :=
  ⟨[grG g nb N,.p (.int .i64 e),.pt 2 0 0 0,.p .any,.p .any,.ar 1 1 0 n,.p (.int .i64 (g e).1),.p (.int .i64 (g e).2.1),.p (.int .i64 p)]++List.replicate 49 anyA,[(0,bxG g nb N),(1,iOb n f)],2⟩
def SBi (g:Nat→T_Bar) (nb N e:Nat) (n p:Nat) (f:Nat→Int):St :=
  ⟨[grG g nb N,.p (.int .i64 e),.pt 2 0 0 0,.p .any,.p .any,.ar 1 1 0 n,.pt 2 2 0 0]++List.replicate 21 anyA++[.p (.int .i64 N),.p (.int .i64 p)]++List.replicate 20 anyA,[(0,bxG g nb N),(1,iOb n f),(2,bxB (g e))],3⟩
def SCs (g:Nat→T_Bar) (nb N e cn:Nat) (C:Nat→T_IntS):St :=
  ⟨[grG g nb N,.pt 2 0 0 0,.p .any,.ar 1 1 0 cn,.p (.int .i64 e)]++List.replicate 40 anyA,[(0,bxG g nb N),(1,ssOb cn C)],2⟩
def SCs1 (g:Nat→T_Bar) (nb N e cn:Nat) (C:Nat→T_IntS) (c:T_IntS) (kn:Bool) (k:Nat):St :=
  ⟨[grG g nb N,.pt 2 0 0 0,.p .any,.ar 1 1 0 cn,.p (.int .i64 e),.ar 1 2 0 c.1,.p (.bool kn),.p (.int .i64 k)]++List.replicate 37 anyA,[(0,bxG g nb N),(1,ssOb cn C),(2,iOb c.1 c.2)],3⟩
def SCi (g:Nat→T_Bar) (nb N e cn:Nat) (C:Nat→T_IntS):St :=
  ⟨[grG g nb N,.pt 2 0 0 0,.p .any,.ar 1 1 0 cn]++List.replicate 12 anyA++[.p (.int .i64 nb),.p (.int .i64 e)]++List.replicate 26 anyA,[(0,bxG g nb N),(1,ssOb cn C)],2⟩
def SCi1 (g:Nat→T_Bar) (nb N e cn:Nat) (C:Nat→T_IntS) (c:T_IntS) (kn:Bool) (k:Nat):St :=
  ⟨[grG g nb N,.pt 2 0 0 0,.p .any,.ar 1 1 0 cn,.p .any,.ar 1 2 0 c.1,.p (.bool kn)]++List.replicate 9 anyA++[.p (.int .i64 nb),.p (.int .i64 e)]++List.replicate 5 anyA++[.ar 1 1 0 cn,.p (.int .i64 cn),.p (.int .i64 k)]++List.replicate 18 anyA,[(0,bxG g nb N),(1,ssOb cn C),(2,iOb c.1 c.2)],3⟩
theorem cBsz (g:Nat→T_Bar) (nb N e:Nat) :
    pieceOb Tryz.prog 0 [rg 2,rg 2,rm [(1,oc [] (.p (.bool true)))] 12,.dec false,rg 7,rg 7,rg 1,.head] [.code (bodyOf Tryz.f174)] (start Tryz.f174 [] 0 [grG g nb N,.p (.int .i64 e)]) [0,64] 1 (SBs g nb N e 0 0 (fun _=>0)) =
    some (zf40,[(NT 0 1),Con Tryz.prog 53 0 [] [(zf110 N nb g)] [] (.p (.bool true)),(AG (!!true)),(((!true)=false)→ ((!!true)=true)),(AG (!bif !true then true else decide ((↑e:Int)<0))),(((!bif !true then true else decide ((↑e:Int)<0))=true)→(NT 0 1)),(AG (!bif !true then true else decide ((↑e:Int)<0))),(AG (!bif !true then true else decide ((↑e:Int)<0))),(AG (!bif !true then true else decide ((↑e:Int)<0))),(((bif !true then true else decide ((↑e:Int)<0))=false)→ ((!bif !true then true else decide ((↑e:Int)<0))=true)),((bif bif !true then true else decide ((↑e:Int)<0) then true else decide ((↑e:Int)≥(↑nb:Int)))=false),(NT 0 1),(IL 0 (↑e:Int)),(IT (↑e:Int) (↑nb:Int)),(NT 0 1),(IL 0 (↑e:Int)),(IT (↑e:Int) (↑nb:Int)),(AI ((↑N:Int))),(AN nb),(AP nb (fun i=>[.int .i64 ((g i).1),.int .i64 ((g i).2.1)])),(AI ((↑e:Int))),(AN 0),(AN 0),(AN 0),(AI (((g e).1))),(AI (((g e).2.1))),((0:Int)=(↑0:Int)),((([AV.p (PV.int IntKind.i64 (↑N:Int)),brL g nb].length):Nat)=2),(NL 1 1),(NL 1 1),(AI ((↑N:Int))),(AN nb),(AP nb (fun i=>[.int .i64 ((g i).1),.int .i64 ((g i).2.1)])),(AN 1),(NL 0 0),(AA 0 (fun i=>[.p (.int .i64 0)]))]):=by kernel_rfl
theorem cBst (g:Nat→T_Bar) (nb N e n p:Nat) (f:Nat→Int) (r1 r2:Bool) :
    pieceOb Tryz.prog 0 [rg 4,.dec true,rm [(3,oc [] (.p (.bool r1))),(4,oc [] (.p (.bool r2)))] 1,.dec true,rg 5,rg 3,.head] zf40 (SBs g nb N e n p f) [0,546] 1 (SBs g nb N e (n+1) (p+1) (snocI n f p)) =
    some (zf40,[(NT 0 1),((decide ((↑p:Int)<(↑N:Int)))=true),(NT 0 1),Con Tryz.prog 286 0 [] [(zf110 N nb g),.p (.int .i64 ((g e).1)),.p (.int .i64 (↑p:Int))] [] (.p (.bool r1)),((r1=true)→(NT 0 1)),(AG r1),(AG r1),(AG r1),((r1=true)→ Con Tryz.prog 286 0 [] [(zf110 N nb g),.p (.int .i64 ((g e).2.1)),.p (.int .i64 (↑p:Int))] [] (.p (.bool r2))),(AG r1),((bif r1 then r2 else false)=true),(NL 1 1),(NL n n),(NL ((n+1)*8) 140737488355328),(NL (n+1) 9223372036854775807),(R0 ((↑p:Int)+1)),(R1 ((↑p:Int)+1)),(AI ((↑N:Int))),(AN nb),(AP nb (fun i=>[.int .i64 ((g i).1),.int .i64 ((g i).2.1)])),(AI ((↑e:Int))),(AN 0),(AN 0),(AN ((n+1))),(AI (((g e).1))),(AI (((g e).2.1))),((((↑p:Int)+1):Int)=(↑(p+1):Int)),(AN 2),(NL 1 1),(NL 1 1),(AI ((↑N:Int))),(AN nb),(AP nb (fun i=>[.int .i64 ((g i).1),.int .i64 ((g i).2.1)])),(AN 1),(NL (n+1) (n+1)),(CV [(546,⟨false,1,(n+1),(fun i_1=>(if (i_1<n) then [.p (.int .i64 (f i_1))] else [.p (.int .i64 (↑p:Int))]))⟩),(514,⟨false,1,1,(fun i_1=>[.p (.int .i64 (↑p:Int))])⟩),(0,⟨true,2,1,(fun i_1=>[.p (.int .i64 (↑N:Int)),.p (.seq true 2 nb (fun i_2=>[.int .i64 ((g i_2).1),.int .i64 ((g i_2).2.1)]))])⟩)] [0,546] 1 (n+1) (fun i=>if (i<n) then [.p (.int .i64 (f i))] else [.p (.int .i64 (↑p:Int))]) (fun i=>[.p (.int .i64 (snocI n f (↑p:Int) i))]))]):=by kernel_rfl
theorem cBsf (g:Nat→T_Bar) (nb N e n p:Nat) (f:Nat→Int) (r1 r2:Bool) :
    pieceOb Tryz.prog 0 [rg 4,.dec true,rm [(3,oc [] (.p (.bool r1))),(4,oc [] (.p (.bool r2)))] 1,.dec false,rg 3,.head] zf40 (SBs g nb N e n p f) [0,1] 1 (SBs g nb N e n (p+1) f) =
    some (zf40,[(NT 0 1),((decide ((↑p:Int)<(↑N:Int)))=true),(NT 0 1),Con Tryz.prog 286 0 [] [(zf110 N nb g),.p (.int .i64 ((g e).1)),.p (.int .i64 (↑p:Int))] [] (.p (.bool r1)),((r1=true)→(NT 0 1)),(AG r1),(AG r1),(AG r1),((r1=true)→ Con Tryz.prog 286 0 [] [(zf110 N nb g),.p (.int .i64 ((g e).2.1)),.p (.int .i64 (↑p:Int))] [] (.p (.bool r2))),(AG r1),((bif r1 then r2 else false)=false),(R0 ((↑p:Int)+1)),(R1 ((↑p:Int)+1)),(AI ((↑N:Int))),(AN nb),(AP nb (fun i=>[.int .i64 ((g i).1),.int .i64 ((g i).2.1)])),(AI ((↑e:Int))),(AN 0),(AN 0),(AN n),(AI (((g e).1))),(AI (((g e).2.1))),((((↑p:Int)+1):Int)=(↑(p+1):Int)),(AN 2),(NL 1 1),(NL 1 1),(AI ((↑N:Int))),(AN nb),(AP nb (fun i=>[.int .i64 ((g i).1),.int .i64 ((g i).2.1)])),(AN 1),(NL n n),(AA n (fun i=>[.p (.int .i64 (f i))]))]):=by kernel_rfl
theorem cBse (g:Nat→T_Bar) (nb N e n p:Nat) (f:Nat→Int) :
    pathOb Tryz.prog Tryz.f174 0 [rg 4,.dec false,rg 2] zf40 (SBs g nb N e n p f) [1] 1 [(0,iOb n f)] (.ar 1 0 0 n) =
    some [(NT 0 1),((decide ((↑p:Int)<(↑N:Int)))=false),(AN 0),(AN n),(AN 1),(NL n n),(AA n (fun i=>[.p (.int .i64 (f i))])),(AE n)]:=by kernel_rfl
theorem cBiz (g:Nat→T_Bar) (nb N e:Nat) :
    pieceOb Tryz.prog 0 [rg 2,rg 2,rm [(1,oc [] (.p (.bool true))),(7,oc [] (.p (.bool true)))] 2,.dec false,rg 7,rg 3,.head] [.code (bodyOf Tryz.f187)] (start Tryz.f187 [] 0 [grG g nb N,.p (.int .i64 e)]) [0,64,672] 1 (SBi g nb N e 0 0 (fun _=>0)) =
    some (zf43,[(NT 0 1),Con Tryz.prog 62 0 [] [(zf110 N nb g)] [] (.p (.bool true)),(AG (!!true)),(((!!true)=true)→(NT 0 1)),(AG (!!true)),(AG (!!true)),(((!!true)=true)→(R0 ((↑nb:Int) - 1))),(((!!true)=true)→(R1 ((↑nb:Int) - 1))),(AG (!!true)),(AG (!!true)),(((!!true)=true)→ Con Tryz.prog 179 0 [] [.p (.int .i64 (↑e:Int)),.p (.int .i64 0),.p (.int .i64 ((↑nb:Int) - 1))] [] (.p (.bool true))),(AG (!!true)),(((!true)=false)→ ((!!true)=true)),((bif !true then true else !true)=false),(NT 0 1),(IL 0 (↑e:Int)),(IT (↑e:Int) (↑nb:Int)),(NT 0 1),((true=true)→ (AN 1)),(NT 0 1),(AI ((↑N:Int))),(AN nb),(AP nb (fun i=>[.int .i64 ((g i).1),.int .i64 ((g i).2.1)])),(AI ((↑e:Int))),(AN 0),(AN 0),(AN 0),(AN 0),(AI ((↑N:Int))),((0:Int)=(↑0:Int)),((([AV.p (PV.int IntKind.i64 (↑N:Int)),brL g nb].length):Nat)=2),(NL 1 1),(NL 1 1),(AI ((↑N:Int))),(AN nb),(AP nb (fun i=>[.int .i64 ((g i).1),.int .i64 ((g i).2.1)])),(AN 1),(NL 0 0),(AA 0 (fun i=>[.p (.int .i64 0)])),((((List.map (fun v=>AV.p (absV v)) [Value.int IntKind.i64 0,Value.int IntKind.i64 0]).length):Nat)=2),(NL 1 1),(NL 1 1),(AI (((g e).1))),(AI (((g e).2.1)))]):=by kernel_rfl
theorem cBit (g:Nat→T_Bar) (nb N e n p:Nat) (f:Nat→Int) (r1 r2:Bool) :
    pieceOb Tryz.prog 0 [rg 1,.dec true,rg 2,rm [(4,oc [] (.p (.bool r1))),(5,oc [] (.p (.bool r2)))] 1,.dec true,rg 5,rg 2,.head] zf43 (SBi g nb N e n p f) [0,579,2] 1 (SBi g nb N e (n+1) (p+1) (snocI n f p)) =
    some (zf43,[((decide ((↑p:Int)<(↑N:Int)))=true),(NT 0 1),(NT 0 1),Con Tryz.prog 294 0 [] [(zf110 N nb g),.p (.int .i64 ((g e).1)),.p (.int .i64 (↑p:Int))] [] (.p (.bool r1)),((r1=true)→(NT 0 1)),(AG r1),((r1=true)→(NT 0 1)),(AG r1),(AG r1),(AG r1),((r1=true)→ Con Tryz.prog 294 0 [] [(zf110 N nb g),.p (.int .i64 ((g e).2.1)),.p (.int .i64 (↑p:Int))] [] (.p (.bool r2))),(AG r1),((bif r1 then r2 else false)=true),(NL 1 1),(NL n n),(NL ((n+1)*8) 140737488355328),(NL (n+1) 9223372036854775807),(R0 ((↑p:Int)+1)),(R1 ((↑p:Int)+1)),(AI ((↑N:Int))),(AN nb),(AP nb (fun i=>[.int .i64 ((g i).1),.int .i64 ((g i).2.1)])),(AI ((↑e:Int))),(AN 0),(AN 0),(AN ((n+1))),(AN 0),(AI ((↑N:Int))),((((↑p:Int)+1):Int)=(↑(p+1):Int)),(AN 2),(NL 1 1),(NL 1 1),(AI ((↑N:Int))),(AN nb),(AP nb (fun i=>[.int .i64 ((g i).1),.int .i64 ((g i).2.1)])),(AN 1),(NL (n+1) (n+1)),(CV [(579,⟨false,1,(n+1),(fun i_1=>(if (i_1<n) then [.p (.int .i64 (f i_1))] else [.p (.int .i64 (↑p:Int))]))⟩),(547,⟨false,1,1,(fun i_1=>[.p (.int .i64 (↑p:Int))])⟩),(0,⟨true,2,1,(fun i_1=>[.p (.int .i64 (↑N:Int)),.p (.seq true 2 nb (fun i_2=>[.int .i64 ((g i_2).1),.int .i64 ((g i_2).2.1)]))])⟩),(2,⟨true,2,1,(fun i_1=>[.p (.int .i64 ((g e).1)),.p (.int .i64 ((g e).2.1))])⟩)] [0,579,2] 1 (n+1) (fun i=>if (i<n) then [.p (.int .i64 (f i))] else [.p (.int .i64 (↑p:Int))]) (fun i=>[.p (.int .i64 (snocI n f (↑p:Int) i))])),(AN 2),(NL 1 1),(NL 1 1),(AI (((g e).1))),(AI (((g e).2.1)))]):=by kernel_rfl
theorem cBif (g:Nat→T_Bar) (nb N e n p:Nat) (f:Nat→Int) (r1 r2:Bool) :
    pieceOb Tryz.prog 0 [rg 1,.dec true,rg 2,rm [(4,oc [] (.p (.bool r1))),(5,oc [] (.p (.bool r2)))] 1,.dec false,rg 2,.head] zf43 (SBi g nb N e n p f) [0,1,2] 1 (SBi g nb N e n (p+1) f) =
    some (zf43,[((decide ((↑p:Int)<(↑N:Int)))=true),(NT 0 1),(NT 0 1),Con Tryz.prog 294 0 [] [(zf110 N nb g),.p (.int .i64 ((g e).1)),.p (.int .i64 (↑p:Int))] [] (.p (.bool r1)),((r1=true)→(NT 0 1)),(AG r1),((r1=true)→(NT 0 1)),(AG r1),(AG r1),(AG r1),((r1=true)→ Con Tryz.prog 294 0 [] [(zf110 N nb g),.p (.int .i64 ((g e).2.1)),.p (.int .i64 (↑p:Int))] [] (.p (.bool r2))),(AG r1),((bif r1 then r2 else false)=false),(R0 ((↑p:Int)+1)),(R1 ((↑p:Int)+1)),(AI ((↑N:Int))),(AN nb),(AP nb (fun i=>[.int .i64 ((g i).1),.int .i64 ((g i).2.1)])),(AI ((↑e:Int))),(AN 0),(AN 0),(AN n),(AN 0),(AI ((↑N:Int))),((((↑p:Int)+1):Int)=(↑(p+1):Int)),(AN 2),(NL 1 1),(NL 1 1),(AI ((↑N:Int))),(AN nb),(AP nb (fun i=>[.int .i64 ((g i).1),.int .i64 ((g i).2.1)])),(AN 1),(NL n n),(AA n (fun i=>[.p (.int .i64 (f i))])),(AN 2),(NL 1 1),(NL 1 1),(AI (((g e).1))),(AI (((g e).2.1)))]):=by kernel_rfl
theorem cBie (g:Nat→T_Bar) (nb N e n p:Nat) (f:Nat→Int) :
    pathOb Tryz.prog Tryz.f187 0 [rg 1,.dec false,rg 2] zf43 (SBi g nb N e n p f) [1] 1 [(0,iOb n f)] (.ar 1 0 0 n) =
    some [((decide ((↑p:Int)<(↑N:Int)))=false),(AN 0),(AN n),(AN 1),(NL n n),(AA n (fun i=>[.p (.int .i64 (f i))])),(AE n)]:=by kernel_rfl
theorem cCsz (g:Nat→T_Bar) (nb N:Nat) :
    pieceOb Tryz.prog 0 [rg 2,rg 2,rg 1,.head] [.code (bodyOf Tryz.f59)] (start Tryz.f59 [] 0 [grG g nb N]) [0,64] 1 (SCs g nb N 0 0 (fun _=>(0,fun _=>0))) =
    some (zf83,[(AI ((↑N:Int))),(AN nb),(AP nb (fun i=>[.int .i64 ((g i).1),.int .i64 ((g i).2.1)])),(AN 0),(AN 0),(AN 0),((0:Int)=(↑0:Int)),((([AV.p (PV.int IntKind.i64 (↑N:Int)),brL g nb].length):Nat)=2),(NL 1 1),(NL 1 1),(AI ((↑N:Int))),(AN nb),(AP nb (fun i=>[.int .i64 ((g i).1),.int .i64 ((g i).2.1)])),(AN 1),(NL 0 0),(∀ i:Nat,(((i:Nat)<0)→(All []∧(([.p (.nil)]:List AV)=[.p (.seq false 1 0 (fun i_1=>[.int .i64 ((0,fun x=>0).2 i_1)]))]))))]):=by kernel_rfl
theorem cCs1 (g:Nat→T_Bar) (nb N e cn:Nat) (C:Nat→T_IntS) (c:T_IntS) :
    pieceOb Tryz.prog 0 [rm [(7,oc [] (.p (.bool true)))] 1,.dec true,rm [(2,oc [(0,iOb c.1 c.2)] (.ar 1 0 0 c.1))] 1,rg 1,rg 1,.head] zf83 (SCs g nb N e cn C) [0,1,354] 1 (SCs1 g nb N e cn C c false 0) =
    some (zf12,[(NT 0 1),(((decide ((↑e:Int)<(↑nb:Int)))=true)→(NT 0 1)),(AG (decide ((↑e:Int)<(↑nb:Int)))),(((decide ((↑e:Int)<(↑nb:Int)))=true)→ Con Tryz.prog 53 0 [] [(zf110 N nb g)] [] (.p (.bool true))),(AG (decide ((↑e:Int)<(↑nb:Int)))),((bif decide ((↑e:Int)<(↑nb:Int)) then true else false)=true),(NT 0 1),Con Tryz.prog 174 0 [] [(zf110 N nb g),.p (.int .i64 (↑e:Int))] [(0,⟨false,1,c.1,(fun i=>[.p (.int .i64 (c.2 i))])⟩)] (.ar 1 0 0 c.1),(AI ((↑N:Int))),(AN nb),(AP nb (fun i=>[.int .i64 ((g i).1),.int .i64 ((g i).2.1)])),(AN 0),(AN 0),(AN cn),(AI ((↑e:Int))),(AN 0),(AN c.1),(false=false),((0:Int)=(↑0:Int)),(AN 2),(NL 1 1),(NL 1 1),(AI ((↑N:Int))),(AN nb),(AP nb (fun i=>[.int .i64 ((g i).1),.int .i64 ((g i).2.1)])),(AN 1),(NL cn cn),(AA cn (fun i=>[.p (.seq false 1 ((C i).1) (fun i_1=>[.int .i64 ((C i).2 i_1)]))])),(AN 1),(NL c.1 c.1),(AA c.1 (fun i=>[.p (.int .i64 (c.2 i))]))]):=by kernel_rfl
theorem cCse (g:Nat→T_Bar) (nb N e cn:Nat) (C:Nat→T_IntS) (b:Bool) :
    pathOb Tryz.prog Tryz.f59 0 [rm [(7,oc [] (.p (.bool b)))] 1,.dec false,rg 2] zf83 (SCs g nb N e cn C) [1] 1 [(0,ssOb cn C)] (.ar 1 0 0 cn) =
    some [(NT 0 1),(((decide ((↑e:Int)<(↑nb:Int)))=true)→(NT 0 1)),(AG (decide ((↑e:Int)<(↑nb:Int)))),(((decide ((↑e:Int)<(↑nb:Int)))=true)→ Con Tryz.prog 53 0 [] [(zf110 N nb g)] [] (.p (.bool b))),(AG (decide ((↑e:Int)<(↑nb:Int)))),((bif decide ((↑e:Int)<(↑nb:Int)) then b else false)=false),(AN 0),(AN cn),(AN 1),(NL cn cn),(AA cn (fun i=>[.p (.seq false 1 ((C i).1) (fun i_1=>[.int .i64 ((C i).2 i_1)]))])),(∀ i:Nat,(((i:Nat)<cn)→All [(false=false),(AE (((C i).1)))]))]:=by kernel_rfl
theorem cCs2 (g:Nat→T_Bar) (nb N e cn:Nat) (C:Nat→T_IntS) (c:T_IntS) (kn:Bool) (k:Nat) (q:Bool) :
    pieceOb Tryz.prog 0 [rg 4,.dec true,rm [(7,oc [] (.p (.bool q)))] 2,rg 3,.head] zf12 (SCs1 g nb N e cn C c kn k) [0,1,2] 1 (SCs1 g nb N e cn C c (bif kn then true else q) (k+1)) =
    some (zf12,[((decide ((↑k:Int)<(↑cn:Int)))=true),(AG (!kn)),(AG (!kn)),(((!kn)=true)→(IL 0 (↑k:Int))),(((!kn)=true)→(IT (↑k:Int) (↑cn:Int))),(AG (!kn)),(((!kn)=true)→(NT k cn)),(AG (!kn)),(AG (!kn)),(((!kn)=true)→ (AN 1)),(((!kn)=true)→(NL c.1 c.1)),(((!kn)=true)→ Con Tryz.prog 175 0 [] [.p (.seq true 1 ((C k).1) (fun i=>[.int .i64 ((C k).2 i)])),.p (.seq true 1 c.1 (fun i=>[.int .i64 (c.2 i)]))] [] (.p (.bool q))),((kn=false)→ ((!kn)=true)),(R0 ((↑k:Int)+1)),(R1 ((↑k:Int)+1)),(AI ((↑N:Int))),(AN nb),(AP nb (fun i=>[.int .i64 ((g i).1),.int .i64 ((g i).2.1)])),(AN 0),(AN 0),(AN cn),(AI ((↑e:Int))),(AN 0),(AN c.1),((bif kn then true else q)=(bif kn then true else q)),((((↑k:Int)+1):Int)=(↑(k+1):Int)),(AN 2),(NL 1 1),(NL 1 1),(AI ((↑N:Int))),(AN nb),(AP nb (fun i=>[.int .i64 ((g i).1),.int .i64 ((g i).2.1)])),(AN 1),(NL cn cn),(AA cn (fun i=>[.p (.seq false 1 ((C i).1) (fun i_1=>[.int .i64 ((C i).2 i_1)]))])),(AN 1),(NL c.1 c.1),(AA c.1 (fun i=>[.p (.int .i64 (c.2 i))]))]):=by kernel_rfl
theorem cCs3 (g:Nat→T_Bar) (nb N e cn:Nat) (C:Nat→T_IntS) (c:T_IntS) (kn:Bool) (k:Nat) :
    pieceOb Tryz.prog 0 [rg 4,.dec false,rg 2,.dec true,rg 5,rg 3,.head] zf12 (SCs1 g nb N e cn C c kn k) [0,291] 1 (SCs g nb N (e+1) (cn+1) (snocC cn C c)) =
    some (zf83,[((decide ((↑k:Int)<(↑cn:Int)))=false),((!kn)=true),(NL 1 1),(NL cn cn),(NL ((cn+1)*24) 140737488355328),(NL (cn+1) 9223372036854775807),(R0 ((↑e:Int)+1)),(R1 ((↑e:Int)+1)),(AI ((↑N:Int))),(AN nb),(AP nb (fun i=>[.int .i64 ((g i).1),.int .i64 ((g i).2.1)])),(AN 0),(AN 0),(AN ((cn+1))),((((↑e:Int)+1):Int)=(↑(e+1):Int)),(AN 2),(NL 1 1),(NL 1 1),(AI ((↑N:Int))),(AN nb),(AP nb (fun i=>[.int .i64 ((g i).1),.int .i64 ((g i).2.1)])),(AN 1),(NL (cn+1) (cn+1)),(CV [(291,⟨false,1,(cn+1),(fun i_1=>(if (i_1<cn) then [.p (.seq false 1 ((C i_1).1) (fun i_2=>[.int .i64 ((C i_1).2 i_2)]))] else [.ar 1 2 0 c.1]))⟩),(259,⟨false,1,1,(fun i_1=>[.ar 1 2 0 c.1])⟩),(0,⟨true,2,1,(fun i_1=>[.p (.int .i64 (↑N:Int)),.p (.seq true 2 nb (fun i_2=>[.int .i64 ((g i_2).1),.int .i64 ((g i_2).2.1)]))])⟩),(2,⟨false,1,c.1,(fun i_1=>[.p (.int .i64 (c.2 i_1))])⟩)] [0,291] 1 (cn+1) (fun i=>if (i<cn) then [.p (.seq false 1 ((C i).1) (fun i_1=>[.int .i64 ((C i).2 i_1)]))] else [.ar 1 2 0 c.1]) (fun i=>[.p (.seq false 1 (if i<cn then (C i).1 else c.1) (fun i_1=>[.int .i64 ((snocC cn C c i).2 i_1)]))]))]):=by kernel_rfl
theorem cCs4 (g:Nat→T_Bar) (nb N e cn:Nat) (C:Nat→T_IntS) (c:T_IntS) (kn:Bool) (k:Nat) :
    pieceOb Tryz.prog 0 [rg 4,.dec false,rg 2,.dec false,rg 3,.head] zf12 (SCs1 g nb N e cn C c kn k) [0,1] 1 (SCs g nb N (e+1) cn C) =
    some (zf83,[((decide ((↑k:Int)<(↑cn:Int)))=false),((!kn)=false),(R0 ((↑e:Int)+1)),(R1 ((↑e:Int)+1)),(AI ((↑N:Int))),(AN nb),(AP nb (fun i=>[.int .i64 ((g i).1),.int .i64 ((g i).2.1)])),(AN 0),(AN 0),(AN cn),((((↑e:Int)+1):Int)=(↑(e+1):Int)),(AN 2),(NL 1 1),(NL 1 1),(AI ((↑N:Int))),(AN nb),(AP nb (fun i=>[.int .i64 ((g i).1),.int .i64 ((g i).2.1)])),(AN 1),(NL cn cn),(AA cn (fun i=>[.p (.seq false 1 ((C i).1) (fun i_1=>[.int .i64 ((C i).2 i_1)]))]))]):=by kernel_rfl
theorem cCiz (g:Nat→T_Bar) (nb N:Nat) :
    pieceOb Tryz.prog 0 [rg 2,rg 2,rm [(1,oc [] (.p (.bool true)))] 1,.dec false,rg 4,.head] [.code (bodyOf Tryz.f68)] (start Tryz.f68 [] 0 [grG g nb N]) [0,64] 1 (SCi g nb N 0 0 (fun _=>(0,fun _=>0))) =
    some (zf57,[(NT 0 1),Con Tryz.prog 62 0 [] [(zf110 N nb g)] [] (.p (.bool true)),((!true)=false),(NT 0 1),(AI ((↑N:Int))),(AN nb),(AP nb (fun i=>[.int .i64 ((g i).1),.int .i64 ((g i).2.1)])),(AN 0),(AN 0),(AN 0),(AI ((↑nb:Int))),((0:Int)=(↑0:Int)),((([AV.p (PV.int IntKind.i64 (↑N:Int)),brL g nb].length):Nat)=2),(NL 1 1),(NL 1 1),(AI ((↑N:Int))),(AN nb),(AP nb (fun i=>[.int .i64 ((g i).1),.int .i64 ((g i).2.1)])),(AN 1),(NL 0 0),(∀ i:Nat,(((i:Nat)<0)→(All []∧(([.p (.nil)]:List AV)=[.p (.seq false 1 0 (fun i_1=>[.int .i64 ((0,fun x=>0).2 i_1)]))]))))]):=by kernel_rfl
theorem cCi1 (g:Nat→T_Bar) (nb N e cn:Nat) (C:Nat→T_IntS) (c:T_IntS) :
    pieceOb Tryz.prog 0 [rg 1,.dec true,rg 2,rm [(2,oc [(0,iOb c.1 c.2)] (.ar 1 0 0 c.1))] 1,rg 1,rg 3,.head] zf57 (SCi g nb N e cn C) [0,1,162] 1 (SCi1 g nb N e cn C c false 0) =
    some (zf8,[((decide ((↑e:Int)<(↑nb:Int)))=true),(NT 0 1),Con Tryz.prog 187 0 [] [(zf110 N nb g),.p (.int .i64 (↑e:Int))] [(0,⟨false,1,c.1,(fun i=>[.p (.int .i64 (c.2 i))])⟩)] (.ar 1 0 0 c.1),(AI ((↑N:Int))),(AN nb),(AP nb (fun i=>[.int .i64 ((g i).1),.int .i64 ((g i).2.1)])),(AN 0),(AN 0),(AN cn),(AN 0),(AN c.1),(false=false),(AI ((↑nb:Int))),(AI ((↑e:Int))),(AN 0),(AN cn),(AI ((↑cn:Int))),((0:Int)=(↑0:Int)),(AN 2),(NL 1 1),(NL 1 1),(AI ((↑N:Int))),(AN nb),(AP nb (fun i=>[.int .i64 ((g i).1),.int .i64 ((g i).2.1)])),(AN 1),(NL cn cn),(AA cn (fun i=>[.p (.seq false 1 ((C i).1) (fun i_1=>[.int .i64 ((C i).2 i_1)]))])),(AN 1),(NL c.1 c.1),(AA c.1 (fun i=>[.p (.int .i64 (c.2 i))]))]):=by kernel_rfl
theorem cCie (g:Nat→T_Bar) (nb N e cn:Nat) (C:Nat→T_IntS) :
    pathOb Tryz.prog Tryz.f68 0 [rg 1,.dec false,rg 2] zf57 (SCi g nb N e cn C) [1] 1 [(0,ssOb cn C)] (.ar 1 0 0 cn) =
    some [((decide ((↑e:Int)<(↑nb:Int)))=false),(AN 0),(AN cn),(AN 1),(NL cn cn),(AA cn (fun i=>[.p (.seq false 1 ((C i).1) (fun i_1=>[.int .i64 ((C i).2 i_1)]))])),(∀ i:Nat,(((i:Nat)<cn)→All [(false=false),(AE (((C i).1)))]))]:=by kernel_rfl
theorem cCi2 (g:Nat→T_Bar) (nb N e cn:Nat) (C:Nat→T_IntS) (c:T_IntS) (kn:Bool) (k:Nat) (q:Bool) :
    pieceOb Tryz.prog 0 [rg 1,.dec true,rg 3,rm [(4,oc [] (.p (.bool q)))] 2,rg 2,.head] zf8 (SCi1 g nb N e cn C c kn k) [0,1,2] 1 (SCi1 g nb N e cn C c (bif kn then true else q) (k+1)) =
    some (zf8,[((decide ((↑k:Int)<(↑cn:Int)))=true),(IL 0 (↑k:Int)),(IT (↑k:Int) (↑cn:Int)),(NT k cn),(AG (!kn)),(AG (!kn)),(((!kn)=true)→ (AN 1)),(((!kn)=true)→(NL c.1 c.1)),(((!kn)=true)→ Con Tryz.prog 188 0 [] [.p (.seq true 1 ((C k).1) (fun i=>[.int .i64 ((C k).2 i)])),.p (.seq true 1 c.1 (fun i=>[.int .i64 (c.2 i)]))] [] (.p (.bool q))),((kn=false)→ ((!kn)=true)),(R0 ((↑k:Int)+1)),(R1 ((↑k:Int)+1)),(AI ((↑N:Int))),(AN nb),(AP nb (fun i=>[.int .i64 ((g i).1),.int .i64 ((g i).2.1)])),(AN 0),(AN 0),(AN cn),(AN 0),(AN c.1),((bif kn then true else q)=(bif kn then true else q)),(AI ((↑nb:Int))),(AI ((↑e:Int))),(AN 0),(AN cn),(AI ((↑cn:Int))),((((↑k:Int)+1):Int)=(↑(k+1):Int)),(AN 2),(NL 1 1),(NL 1 1),(AI ((↑N:Int))),(AN nb),(AP nb (fun i=>[.int .i64 ((g i).1),.int .i64 ((g i).2.1)])),(AN 1),(NL cn cn),(AA cn (fun i=>[.p (.seq false 1 ((C i).1) (fun i_1=>[.int .i64 ((C i).2 i_1)]))])),(AN 1),(NL c.1 c.1),(AA c.1 (fun i=>[.p (.int .i64 (c.2 i))]))]):=by kernel_rfl
theorem cCi3 (g:Nat→T_Bar) (nb N e cn:Nat) (C:Nat→T_IntS) (c:T_IntS) (kn:Bool) (k:Nat) :
    pieceOb Tryz.prog 0 [rg 1,.dec false,rg 2,.dec true,rg 5,rg 2,.head] zf8 (SCi1 g nb N e cn C c kn k) [0,195] 1 (SCi g nb N (e+1) (cn+1) (snocC cn C c)) =
    some (zf57,[((decide ((↑k:Int)<(↑cn:Int)))=false),((!kn)=true),(NL 1 1),(NL cn cn),(NL ((cn+1)*24) 140737488355328),(NL (cn+1) 9223372036854775807),(R0 ((↑e:Int)+1)),(R1 ((↑e:Int)+1)),(AI ((↑N:Int))),(AN nb),(AP nb (fun i=>[.int .i64 ((g i).1),.int .i64 ((g i).2.1)])),(AN 0),(AN 0),(AN ((cn+1))),(AI ((↑nb:Int))),((((↑e:Int)+1):Int)=(↑(e+1):Int)),(AN 2),(NL 1 1),(NL 1 1),(AI ((↑N:Int))),(AN nb),(AP nb (fun i=>[.int .i64 ((g i).1),.int .i64 ((g i).2.1)])),(AN 1),(NL (cn+1) (cn+1)),(CV [(195,⟨false,1,(cn+1),(fun i_1=>(if (i_1<cn) then [.p (.seq false 1 ((C i_1).1) (fun i_2=>[.int .i64 ((C i_1).2 i_2)]))] else [.ar 1 2 0 c.1]))⟩),(163,⟨false,1,1,(fun i_1=>[.ar 1 2 0 c.1])⟩),(0,⟨true,2,1,(fun i_1=>[.p (.int .i64 (↑N:Int)),.p (.seq true 2 nb (fun i_2=>[.int .i64 ((g i_2).1),.int .i64 ((g i_2).2.1)]))])⟩),(2,⟨false,1,c.1,(fun i_1=>[.p (.int .i64 (c.2 i_1))])⟩)] [0,195] 1 (cn+1) (fun i=>if (i<cn) then [.p (.seq false 1 ((C i).1) (fun i_1=>[.int .i64 ((C i).2 i_1)]))] else [.ar 1 2 0 c.1]) (fun i=>[.p (.seq false 1 (if i<cn then (C i).1 else c.1) (fun i_1=>[.int .i64 ((snocC cn C c i).2 i_1)]))]))]):=by kernel_rfl
theorem cCi4 (g:Nat→T_Bar) (nb N e cn:Nat) (C:Nat→T_IntS) (c:T_IntS) (kn:Bool) (k:Nat) :
    pieceOb Tryz.prog 0 [rg 1,.dec false,rg 2,.dec false,rg 2,.head] zf8 (SCi1 g nb N e cn C c kn k) [0,1] 1 (SCi g nb N (e+1) cn C) =
    some (zf57,[((decide ((↑k:Int)<(↑cn:Int)))=false),((!kn)=false),(R0 ((↑e:Int)+1)),(R1 ((↑e:Int)+1)),(AI ((↑N:Int))),(AN nb),(AP nb (fun i=>[.int .i64 ((g i).1),.int .i64 ((g i).2.1)])),(AN 0),(AN 0),(AN cn),(AI ((↑nb:Int))),((((↑e:Int)+1):Int)=(↑(e+1):Int)),(AN 2),(NL 1 1),(NL 1 1),(AI ((↑N:Int))),(AN nb),(AP nb (fun i=>[.int .i64 ((g i).1),.int .i64 ((g i).2.1)])),(AN 1),(NL cn cn),(AA cn (fun i=>[.p (.seq false 1 ((C i).1) (fun i_1=>[.int .i64 ((C i).2 i_1)]))]))]):=by kernel_rfl
noncomputable def compD (N nb:Nat) (g:Nat→T_Bar) (e:Nat):Nat→T_IntS
  | 0=>(0,fun _=>0)
  | p+1 =>
    if (bif impB N nb g (g e).1 p then impB N nb g (g e).2.1 p else false)=true then ((compD N nb g e p).1+1,snocI (compD N nb g e p).1 (compD N nb g e p).2 p)
    else compD N nb g e p
theorem compD_le (N nb:Nat) (g:Nat→T_Bar) (e:Nat):∀ p,(compD N nb g e p).1≤p
  | 0=>Nat.le_refl _
  | p+1=>by
    have:=compD_le N nb g e p
    simp only [compD]
    split
    · show (compD N nb g e p).1+1≤p+1;omega
    · omega
def knF (C:Nat→T_IntS) (c:T_IntS):Nat→Bool
  | 0=>false
  | k+1=>bif knF C c k then true else q_IntS (C k) c
noncomputable def compsD (N nb:Nat) (g:Nat→T_Bar):Nat→Nat×(Nat→T_IntS)
  | 0=>(0,fun _=>(0,fun _=>0))
  | e+1 =>
    if knF (compsD N nb g e).2 (compD N nb g e N) (compsD N nb g e).1=true then compsD N nb g e
    else ((compsD N nb g e).1+1,snocC (compsD N nb g e).1 (compsD N nb g e).2 (compD N nb g e N))
theorem compsD_le (N nb:Nat) (g:Nat→T_Bar):∀ e,(compsD N nb g e).1≤e∧∀ j,j<(compsD N nb g e).1→((compsD N nb g e).2 j).1≤N
  | 0=>⟨Nat.le_refl _,fun j hj=>absurd hj (Nat.not_lt_zero _)⟩
  | e+1=>by
    obtain ⟨h1,h2⟩:=compsD_le N nb g e
    simp only [compsD]
    split
    · exact ⟨by omega,h2⟩
    · refine ⟨by show (compsD N nb g e).1+1≤e+1;omega,fun j hj=>?_⟩
      show (if j<(compsD N nb g e).1 then ((compsD N nb g e).2 j).1 else (compD N nb g e N).1)≤N
      split
      · exact h2 j (by assumption)
      · exact compD_le N nb g e N
theorem con_ComponentOfBar_s {N nb:Nat} {g:Nat→T_Bar} (hg:isGraphF ((N:Int),(nb,g),())=true) (e:Nat) (he:e<nb) :
    Con Tryz.prog 174 0 [] [grG g nb N,.p (.int .i64 e)] [(0,iOb (compD N nb g e N).1 (compD N nb g e N).2)] (.ar 1 0 0 (compD N nb g e N).1):=by
  obtain ⟨hN,hnb,hok⟩:=graph_in hg
  have hsm:smS s_Graph ((N:Int),(nb,g),()):=⟨by simp [smS,smL],⟨by show nb≤1048576;omega,fun i hi=>by simp [smS,smL]⟩,True.intro⟩
  have hcg:=con_IsGraph_s ((N:Int),(nb,g),()) hsm
  rw [hg] at hcg
  have hbar:=hok e he
  have hcond:(bif bif !true then true else decide ((e:Int)<0) then true else decide ((e:Int)≥(nb:Int)))=false:=by
    have h1:¬ (e:Int)<0:=by omega
    have h2:¬ (nb:Int)≤(e:Int):=by omega
    simp [h1];omega
  have hcw:=True.intro
  refine con_start Tryz.func174 rfl (by kernel_rfl) rfl (fun c hc=>?_)
  have lp:∀ d p,p+d=N→Run Tryz.prog c 174 zf40 (SBs g nb N e (compD N nb g e p).1 p (compD N nb g e p).2) (Post c [(0,iOb (compD N nb g e N).1 (compD N nb g e N).2)] (.ar 1 0 0 (compD N nb g e N).1)):=by
    intro d
    induction d with
    | zero =>
      intro p hp
      obtain rfl:p=N:=by omega
      have hd:decide ((p:Int)<(p:Int))=false:=by simp
      refine path_ok mixed Tryz.func174 hc (cBse g nb p e (compD p nb g e p).1 p (compD p nb g e p).2) ?_
      repeat' (first | exact aN | apply aI)
      all_goals (first | exact aA _ _ | exact aE _ | omega | rfl | (intros;first | assumption | exact trivial | rfl | exact fT ‹_› | ((repeat' (first | assumption | apply anda | apply notf));done)) | (intro i hi;simp [All]))
    | succ d ih =>
      intro p hp
      have hd:decide ((p:Int)<(N:Int))=true:=by simp;omega
      have hle:=compD_le N nb g e p
      have c1:=con_IsImplied_s hg hok hN hnb (a:=(g e).1) (b:=p) (by omega) (by omega)
      have c2:=con_IsImplied_s hg hok hN hnb (a:=(g e).2.1) (b:=p) (by omega) (by omega)
      have hih:=ih (p+1) (by omega)
      cases ht:(bif impB N nb g (g e).1 p then impB N nb g (g e).2.1 p else false) with
      | true =>
        rw [show compD N nb g e (p+1)=((compD N nb g e p).1+1,snocI (compD N nb g e p).1 (compD N nb g e p).2 p) by simp only [compD];rw [if_pos ht]] at hih
        refine piece_ok mixed hc (cBst g nb N e (compD N nb g e p).1 p (compD N nb g e p).2 (impB N nb g (g e).1 p) (impB N nb g (g e).2.1 p)) ?_ hih
        repeat' (first | exact aN | apply aI)
        all_goals (first | exact aG _ | exact aP _ _ | omega | rfl | (intros;first | assumption | exact trivial | rfl | exact fT ‹_› | ((repeat' (first | assumption | apply anda | apply notf));done)) | (exact c1) | (intros;exact c2) | (exact ht) | (intro j hj;simp [All];done) | (intro j hj;by_cases h:j<(compD N nb g e p).1<;>simp [h,snocI,cvtL,cvt,tg,tru,All]))
      | false =>
        rw [show compD N nb g e (p+1)=compD N nb g e p by simp only [compD];rw [if_neg (by rw [ht];simp)]] at hih
        refine piece_ok mixed hc (cBsf g nb N e (compD N nb g e p).1 p (compD N nb g e p).2 (impB N nb g (g e).1 p) (impB N nb g (g e).2.1 p)) ?_ hih
        repeat' (first | exact aN | apply aI)
        all_goals (first | exact aG _ | exact aP _ _ | exact aA _ _ | omega | rfl | (intros;first | assumption | exact trivial | rfl | exact fT ‹_› | ((repeat' (first | assumption | apply anda | apply notf));done)) | (exact c1) | (intros;exact c2) | (exact ht) | (intro j hj;simp [All]))
  refine piece_ok mixed hc (cBsz g nb N e) ?_ (lp N 0 (by omega))
  repeat' (first | exact aN | apply aI)
  all_goals (first | exact aG _ | exact aP _ _ | exact aA _ _ | omega | rfl | (intros;first | assumption | exact trivial | rfl | exact fT ‹_› | ((repeat' (first | assumption | apply anda | apply notf));done)) | (exact hcg) | (intros;exact hcw) | (exact hcond) | (intro h;simp at h ⊢;done) | (intro j hj;simp [All]))
theorem con_ComponentOfBar_i {N nb:Nat} {g:Nat→T_Bar} (hg:isGraphF ((N:Int),(nb,g),())=true) (e:Nat) (he:e<nb) :
    Con Tryz.prog 187 0 [] [grG g nb N,.p (.int .i64 e)] [(0,iOb (compD N nb g e N).1 (compD N nb g e N).2)] (.ar 1 0 0 (compD N nb g e N).1):=by
  obtain ⟨hN,hnb,hok⟩:=graph_in hg
  have hsm:smS s_Graph ((N:Int),(nb,g),()):=⟨by simp [smS,smL],⟨by show nb≤1048576;omega,fun i hi=>by simp [smS,smL]⟩,True.intro⟩
  have hcg:=con_IsGraph_i ((N:Int),(nb,g),()) hsm
  rw [hg] at hcg
  have hbar:=hok e he
  have hcw:=con_within (e:Int) 0 ((nb:Int) - 1)
  rw [show inB (e:Int) 0 ((nb:Int) - 1)=true by simp [inB];omega] at hcw
  have hcond:=True.intro
  refine con_start Tryz.func187 rfl (by kernel_rfl) rfl (fun c hc=>?_)
  have lp:∀ d p,p+d=N→Run Tryz.prog c 187 zf43 (SBi g nb N e (compD N nb g e p).1 p (compD N nb g e p).2) (Post c [(0,iOb (compD N nb g e N).1 (compD N nb g e N).2)] (.ar 1 0 0 (compD N nb g e N).1)):=by
    intro d
    induction d with
    | zero =>
      intro p hp
      obtain rfl:p=N:=by omega
      have hd:decide ((p:Int)<(p:Int))=false:=by simp
      refine path_ok mixed Tryz.func187 hc (cBie g nb p e (compD p nb g e p).1 p (compD p nb g e p).2) ?_
      repeat' (first | exact aN | apply aI)
      all_goals (first | exact aA _ _ | exact aE _ | omega | rfl | (intros;first | assumption | exact trivial | rfl | exact fT ‹_› | ((repeat' (first | assumption | apply anda | apply notf));done)) | (intro i hi;simp [All]))
    | succ d ih =>
      intro p hp
      have hd:decide ((p:Int)<(N:Int))=true:=by simp;omega
      have hle:=compD_le N nb g e p
      have c1:=con_IsImplied_i hg hok hN hnb (a:=(g e).1) (b:=p) (by omega) (by omega)
      have c2:=con_IsImplied_i hg hok hN hnb (a:=(g e).2.1) (b:=p) (by omega) (by omega)
      have hih:=ih (p+1) (by omega)
      cases ht:(bif impB N nb g (g e).1 p then impB N nb g (g e).2.1 p else false) with
      | true =>
        rw [show compD N nb g e (p+1)=((compD N nb g e p).1+1,snocI (compD N nb g e p).1 (compD N nb g e p).2 p) by simp only [compD];rw [if_pos ht]] at hih
        refine piece_ok mixed hc (cBit g nb N e (compD N nb g e p).1 p (compD N nb g e p).2 (impB N nb g (g e).1 p) (impB N nb g (g e).2.1 p)) ?_ hih
        repeat' (first | exact aN | apply aI)
        all_goals (first | exact aG _ | exact aP _ _ | omega | rfl | (intros;first | assumption | exact trivial | rfl | exact fT ‹_› | ((repeat' (first | assumption | apply anda | apply notf));done)) | (exact c1) | (intros;exact c2) | (exact ht) | (intro j hj;simp [All];done) | (intro j hj;by_cases h:j<(compD N nb g e p).1<;>simp [h,snocI,cvtL,cvt,tg,tru,All]))
      | false =>
        rw [show compD N nb g e (p+1)=compD N nb g e p by simp only [compD];rw [if_neg (by rw [ht];simp)]] at hih
        refine piece_ok mixed hc (cBif g nb N e (compD N nb g e p).1 p (compD N nb g e p).2 (impB N nb g (g e).1 p) (impB N nb g (g e).2.1 p)) ?_ hih
        repeat' (first | exact aN | apply aI)
        all_goals (first | exact aG _ | exact aP _ _ | exact aA _ _ | omega | rfl | (intros;first | assumption | exact trivial | rfl | exact fT ‹_› | ((repeat' (first | assumption | apply anda | apply notf));done)) | (exact c1) | (intros;exact c2) | (exact ht) | (intro j hj;simp [All]))
  refine piece_ok mixed hc (cBiz g nb N e) ?_ (lp N 0 (by omega))
  repeat' (first | exact aN | apply aI)
  all_goals (first | exact aG _ | exact aP _ _ | exact aA _ _ | omega | rfl | (intros;first | assumption | exact trivial | rfl | exact fT ‹_› | ((repeat' (first | assumption | apply anda | apply notf));done)) | (exact hcg) | (intros;exact hcw) | (exact hcond) | (intro h;simp at h ⊢;done) | (intro j hj;simp [All]))
theorem inner_s {N nb:Nat} {g:Nat→T_Bar} {e cn:Nat} {C:Nat→T_IntS} {cc:T_IntS} (hcn:cn≤1048576) (hC:∀ j,j<cn→(C j).1≤1048576) (c:Cx) (hc:c.n=0) {R:Ending→World→Prop}
    (h:Run Tryz.prog c 59 zf12 (SCs1 g nb N e cn C cc (knF C cc cn) cn) R) :
    ∀ d k,k+d=cn→Run Tryz.prog c 59 zf12 (SCs1 g nb N e cn C cc (knF C cc k) k) R:=by
  intro d
  induction d with
  | zero =>
    intro k hk
    have hkc:k=cn:=by omega
    rw [hkc]
    exact h
  | succ d ih =>
    intro k hk
    have hd:decide ((k:Int)<(cn:Int))=true:=by simp;omega
    have hq:=con_ls_l6Same_IntS (C k) cc (hC k (by omega))
    refine piece_ok mixed hc (cCs2 g nb N e cn C cc (knF C cc k) k (q_IntS (C k) cc)) ?_ (ih (k+1) (by omega))
    repeat' (first | exact aN | apply aI)
    all_goals (first | exact aG _ | exact aP _ _ | exact aA _ _ | omega | rfl | (intros;first | assumption | exact trivial | rfl | exact fT ‹_› | ((repeat' (first | assumption | apply anda | apply notf));done)) | (intros;exact hq) | (intro j hj;simp [All]))
theorem con_ComponentsOf_s {N nb:Nat} {g:Nat→T_Bar} (hg:isGraphF ((N:Int),(nb,g),())=true) :
    Con Tryz.prog 59 0 [] [grG g nb N] [(0,ssOb (compsD N nb g nb).1 (compsD N nb g nb).2)] (.ar 1 0 0 (compsD N nb g nb).1):=by
  obtain ⟨hN,hnb,hok⟩:=graph_in hg
  have hsm:smS s_Graph ((N:Int),(nb,g),()):=⟨by simp [smS,smL],⟨by show nb≤1048576;omega,fun i hi=>by simp [smS,smL]⟩,True.intro⟩
  have hcg:=con_IsGraph_s ((N:Int),(nb,g),()) hsm
  rw [hg] at hcg
  refine con_start Tryz.func59 rfl (by kernel_rfl) rfl (fun c hc=>?_)
  have lp:∀ d e,e+d=nb→Run Tryz.prog c 59 zf83 (SCs g nb N e (compsD N nb g e).1 (compsD N nb g e).2) (Post c [(0,ssOb (compsD N nb g nb).1 (compsD N nb g nb).2)] (.ar 1 0 0 (compsD N nb g nb).1)):=by
    intro d
    induction d with
    | zero =>
      intro e he
      obtain rfl:e=nb:=by omega
      have hd:decide ((e:Int)<(e:Int))=false:=by simp
      refine path_ok mixed Tryz.func59 hc (cCse g e N e (compsD N e g e).1 (compsD N e g e).2 true) ?_
      repeat' (first | exact aN | apply aI)
      all_goals (first | exact aG _ | exact aA _ _ | exact aE _ | omega | rfl | (intros;first | assumption | exact trivial | rfl | exact fT ‹_› | ((repeat' (first | assumption | apply anda | apply notf));done)) | (exact hcg) | (intros;exact hcg) | (intro h;rw [hd] at h;cases h) | (simp;done) | (intro i hi;simp [All]))
    | succ d ih =>
      intro e he
      have hd:decide ((e:Int)<(nb:Int))=true:=by simp;omega
      obtain ⟨hle,hC⟩:=compsD_le N nb g e
      have hcomp:=con_ComponentOfBar_s hg e (by omega)
      have hcl:=compD_le N nb g e N
      have hih:=ih (e+1) (by omega)
      have hin:Run Tryz.prog c 59 zf12 (SCs1 g nb N e (compsD N nb g e).1 (compsD N nb g e).2 (compD N nb g e N) (knF (compsD N nb g e).2 (compD N nb g e N) (compsD N nb g e).1) (compsD N nb g e).1) (Post c [(0,ssOb (compsD N nb g nb).1 (compsD N nb g nb).2)] (.ar 1 0 0 (compsD N nb g nb).1)):=by
        have hd':decide (((compsD N nb g e).1:Int)<((compsD N nb g e).1:Int))=false:=by simp
        cases hk:knF (compsD N nb g e).2 (compD N nb g e N) (compsD N nb g e).1 with
        | false =>
          rw [show compsD N nb g (e+1)=((compsD N nb g e).1+1,snocC (compsD N nb g e).1 (compsD N nb g e).2 (compD N nb g e N)) by simp only [compsD];rw [if_neg (by rw [hk];simp)]] at hih
          refine piece_ok mixed hc (cCs3 g nb N e (compsD N nb g e).1 (compsD N nb g e).2 (compD N nb g e N) false (compsD N nb g e).1) ?_ hih
          repeat' (first | exact aN | apply aI)
          all_goals (first | exact aP _ _ | omega | rfl | (intros;first | assumption | exact trivial | rfl | exact fT ‹_› | ((repeat' (first | assumption | apply anda | apply notf));done)) | (intro j hj;simp [All];done) | (intro j hj;by_cases h:j<(compsD N nb g e).1<;>simp [h,snocC,cvtL,cvt,lendP,cellP,tab,idx,idx1,lkk,idO,idM,Ob.isF,List.lookup,iOb,tg,tru,All]))
        | true =>
          rw [show compsD N nb g (e+1)=compsD N nb g e by simp only [compsD];rw [if_pos hk]] at hih
          refine piece_ok mixed hc (cCs4 g nb N e (compsD N nb g e).1 (compsD N nb g e).2 (compD N nb g e N) true (compsD N nb g e).1) ?_ hih
          repeat' (first | exact aN | apply aI)
          all_goals (first | exact aP _ _ | exact aA _ _ | omega | rfl | (intros;first | assumption | exact trivial | rfl | exact fT ‹_› | ((repeat' (first | assumption | apply anda | apply notf));done)) | (intro j hj;simp [All]))
      refine piece_ok mixed hc (cCs1 g nb N e (compsD N nb g e).1 (compsD N nb g e).2 (compD N nb g e N)) ?_ (inner_s (by omega) (fun j hj=>by have:=hC j hj;omega) c hc hin (compsD N nb g e).1 0 (by omega))
      repeat' (first | exact aN | apply aI)
      all_goals (first | exact aG _ | exact aP _ _ | exact aA _ _ | omega | rfl | (intros;first | assumption | exact trivial | rfl | exact fT ‹_› | ((repeat' (first | assumption | apply anda | apply notf));done)) | (exact hcg) | (intros;exact hcg) | (exact hcomp) | (rw [hd];rfl) | (intro j hj;simp [All]))
  refine piece_ok mixed hc (cCsz g nb N) ?_ (lp nb 0 (by omega))
  repeat' (first | exact aN | apply aI)
  all_goals (first | exact aP _ _ | omega | rfl | (intros;first | assumption | exact trivial | rfl | exact fT ‹_› | ((repeat' (first | assumption | apply anda | apply notf));done)) | (exact hcg) | (intro j hj;simp [All]))
theorem inner_i {N nb:Nat} {g:Nat→T_Bar} {e cn:Nat} {C:Nat→T_IntS} {cc:T_IntS} (hcn:cn≤1048576) (hC:∀ j,j<cn→(C j).1≤1048576) (c:Cx) (hc:c.n=0) {R:Ending→World→Prop}
    (h:Run Tryz.prog c 68 zf8 (SCi1 g nb N e cn C cc (knF C cc cn) cn) R) :
    ∀ d k,k+d=cn→Run Tryz.prog c 68 zf8 (SCi1 g nb N e cn C cc (knF C cc k) k) R:=by
  intro d
  induction d with
  | zero =>
    intro k hk
    have hkc:k=cn:=by omega
    rw [hkc]
    exact h
  | succ d ih =>
    intro k hk
    have hd:decide ((k:Int)<(cn:Int))=true:=by simp;omega
    have hq:=con_seIntS (C k) cc (hC k (by omega))
    refine piece_ok mixed hc (cCi2 g nb N e cn C cc (knF C cc k) k (q_IntS (C k) cc)) ?_ (ih (k+1) (by omega))
    repeat' (first | exact aN | apply aI)
    all_goals (first | exact aG _ | exact aP _ _ | exact aA _ _ | omega | rfl | (intros;first | assumption | exact trivial | rfl | exact fT ‹_› | ((repeat' (first | assumption | apply anda | apply notf));done)) | (intros;exact hq) | (intro j hj;simp [All]))
theorem con_ComponentsOf_i {N nb:Nat} {g:Nat→T_Bar} (hg:isGraphF ((N:Int),(nb,g),())=true) :
    Con Tryz.prog 68 0 [] [grG g nb N] [(0,ssOb (compsD N nb g nb).1 (compsD N nb g nb).2)] (.ar 1 0 0 (compsD N nb g nb).1):=by
  obtain ⟨hN,hnb,hok⟩:=graph_in hg
  have hsm:smS s_Graph ((N:Int),(nb,g),()):=⟨by simp [smS,smL],⟨by show nb≤1048576;omega,fun i hi=>by simp [smS,smL]⟩,True.intro⟩
  have hcg:=con_IsGraph_i ((N:Int),(nb,g),()) hsm
  rw [hg] at hcg
  refine con_start Tryz.func68 rfl (by kernel_rfl) rfl (fun c hc=>?_)
  have lp:∀ d e,e+d=nb→Run Tryz.prog c 68 zf57 (SCi g nb N e (compsD N nb g e).1 (compsD N nb g e).2) (Post c [(0,ssOb (compsD N nb g nb).1 (compsD N nb g nb).2)] (.ar 1 0 0 (compsD N nb g nb).1)):=by
    intro d
    induction d with
    | zero =>
      intro e he
      obtain rfl:e=nb:=by omega
      have hd:decide ((e:Int)<(e:Int))=false:=by simp
      refine path_ok mixed Tryz.func68 hc (cCie g e N e (compsD N e g e).1 (compsD N e g e).2) ?_
      repeat' (first | exact aN | apply aI)
      all_goals (first | exact aA _ _ | exact aE _ | omega | rfl | (intros;first | assumption | exact trivial | rfl | exact fT ‹_› | ((repeat' (first | assumption | apply anda | apply notf));done)) | (exact hcg) | (intros;exact hcg) | (intro h;rw [hd] at h;cases h) | (simp;done) | (intro i hi;simp [All]))
    | succ d ih =>
      intro e he
      have hd:decide ((e:Int)<(nb:Int))=true:=by simp;omega
      obtain ⟨hle,hC⟩:=compsD_le N nb g e
      have hcomp:=con_ComponentOfBar_i hg e (by omega)
      have hcl:=compD_le N nb g e N
      have hih:=ih (e+1) (by omega)
      have hin:Run Tryz.prog c 68 zf8 (SCi1 g nb N e (compsD N nb g e).1 (compsD N nb g e).2 (compD N nb g e N) (knF (compsD N nb g e).2 (compD N nb g e N) (compsD N nb g e).1) (compsD N nb g e).1) (Post c [(0,ssOb (compsD N nb g nb).1 (compsD N nb g nb).2)] (.ar 1 0 0 (compsD N nb g nb).1)):=by
        have hd':decide (((compsD N nb g e).1:Int)<((compsD N nb g e).1:Int))=false:=by simp
        cases hk:knF (compsD N nb g e).2 (compD N nb g e N) (compsD N nb g e).1 with
        | false =>
          rw [show compsD N nb g (e+1)=((compsD N nb g e).1+1,snocC (compsD N nb g e).1 (compsD N nb g e).2 (compD N nb g e N)) by simp only [compsD];rw [if_neg (by rw [hk];simp)]] at hih
          refine piece_ok mixed hc (cCi3 g nb N e (compsD N nb g e).1 (compsD N nb g e).2 (compD N nb g e N) false (compsD N nb g e).1) ?_ hih
          repeat' (first | exact aN | apply aI)
          all_goals (first | exact aP _ _ | omega | rfl | (intros;first | assumption | exact trivial | rfl | exact fT ‹_› | ((repeat' (first | assumption | apply anda | apply notf));done)) | (intro j hj;simp [All];done) | (intro j hj;by_cases h:j<(compsD N nb g e).1<;>simp [h,snocC,cvtL,cvt,lendP,cellP,tab,idx,idx1,lkk,idO,idM,Ob.isF,List.lookup,iOb,tg,tru,All]))
        | true =>
          rw [show compsD N nb g (e+1)=compsD N nb g e by simp only [compsD];rw [if_pos hk]] at hih
          refine piece_ok mixed hc (cCi4 g nb N e (compsD N nb g e).1 (compsD N nb g e).2 (compD N nb g e N) true (compsD N nb g e).1) ?_ hih
          repeat' (first | exact aN | apply aI)
          all_goals (first | exact aP _ _ | exact aA _ _ | omega | rfl | (intros;first | assumption | exact trivial | rfl | exact fT ‹_› | ((repeat' (first | assumption | apply anda | apply notf));done)) | (intro j hj;simp [All]))
      refine piece_ok mixed hc (cCi1 g nb N e (compsD N nb g e).1 (compsD N nb g e).2 (compD N nb g e N)) ?_ (inner_i (by omega) (fun j hj=>by have:=hC j hj;omega) c hc hin (compsD N nb g e).1 0 (by omega))
      repeat' (first | exact aN | apply aI)
      all_goals (first | exact aP _ _ | exact aA _ _ | omega | rfl | (intros;first | assumption | exact trivial | rfl | exact fT ‹_› | ((repeat' (first | assumption | apply anda | apply notf));done)) | (exact hcg) | (intros;exact hcg) | (exact hcomp) | (rw [hd];rfl) | (intro j hj;simp [All]))
  refine piece_ok mixed hc (cCiz g nb N) ?_ (lp nb 0 (by omega))
  repeat' (first | exact aN | apply aI)
  all_goals (first | exact aP _ _ | omega | rfl | (intros;first | assumption | exact trivial | rfl | exact fT ‹_› | ((repeat' (first | assumption | apply anda | apply notf));done)) | (exact hcg) | (intro j hj;simp [All]))
noncomputable def compsG (v:T_Graph):Nat×(Nat→T_IntS):=if isGraphF v=true then compsD v.1.toNat v.2.1.1 v.2.1.2 v.2.1.1 else (0,fun _=>(0,fun _=>0))
end Go.Proofs.YtkkjoghiigiokaaGreat.Mach
namespace Go.Proofs.YtkkjoghiigiokaaGreat.Mach
open Go
set_option linter.unusedVariables false
set_option linter.unusedSimpArgs false
theorem mSy (v:T_Graph) :
    pathOb Tryz.prog Tryz.f59 0 [rg 2,rg 2,rg 1,.loop,rm [(7,oc [] (.p (.bool false)))] 1,.dec false,rg 2] [.code (bodyOf Tryz.f59)] (start Tryz.f59 [] 0 [graphA v]) [64] 1 [(0,ssOb 0 (fun _=>(0,fun _=>0)))] (.ar 1 0 0 0) =
    some [(NT 0 1),(((decide (0<(↑v.2.1.1:Int)))=true)→(NT 0 1)),(AG (decide (0<(↑v.2.1.1:Int)))),(((decide (0<(↑v.2.1.1:Int)))=true)→ Con Tryz.prog 53 0 [] [(zf104 v)] [] (.p (.bool false))),(AG (decide (0<(↑v.2.1.1:Int)))),((bif decide (0<(↑v.2.1.1:Int)) then false else false)=false),(AN 0),(AN 0),(AN 1),(NL 0 0),(∀ i:Nat,(((i:Nat)<0)→(All []∧(([.p (.nil)]:List AV)=[.p (.seq false 1 0 (fun i_1=>[.int .i64 ((0,fun x=>0).2 i_1)]))])))),(∀ i:Nat,(((i:Nat)<0)→All [(false=false),(AE 0)]))]:=by kernel_rfl
theorem mIy (v:T_Graph) :
    pathOb Tryz.prog Tryz.f68 0 [rg 2,rg 2,rm [(1,oc [] (.p (.bool false)))] 1,.dec true,rg 2] [.code (bodyOf Tryz.f68)] (start Tryz.f68 [] 0 [graphA v]) [64] 1 [(0,ssOb 0 (fun _=>(0,fun _=>0)))] (.ar 1 0 0 0) =
    some [(NT 0 1),Con Tryz.prog 62 0 [] [(zf104 v)] [] (.p (.bool false)),((!false)=true),(AN 0),(AN 0),(AN 1),(NL 0 0),(∀ i:Nat,(((i:Nat)<0)→(All []∧(([.p (.nil)]:List AV)=[.p (.seq false 1 0 (fun i_1=>[.int .i64 ((0,fun x=>0).2 i_1)]))])))),(∀ i:Nat,(((i:Nat)<0)→All [(false=false),(AE 0)]))]:=by kernel_rfl
theorem con_Comps_s (v:T_Graph) (hs:smS s_Graph v):Con Tryz.prog 59 0 [] [graphA v] [(0,ssOb (compsG v).1 (compsG v).2)] (.ar 1 0 0 (compsG v).1):=by
  cases hg:isGraphF v with
  | false =>
    have hcg:=con_IsGraph_s v hs
    rw [hg] at hcg
    rw [show compsG v=(0,fun _=>(0,fun _=>0)) by simp [compsG,hg]]
    refine con_start Tryz.func59 rfl (by kernel_rfl) rfl (fun c hc=>?_)
    refine path_ok mixed Tryz.func59 hc (mSy v) ?_
    repeat' (first | exact aN | apply aI)
    all_goals (first | exact aG _ | exact aE _ | omega | rfl | (intros;first | assumption | exact trivial | rfl | exact fT ‹_› | ((repeat' (first | assumption | apply anda | apply notf));done)) | (intros;exact hcg) | (simp;done) | (intro i hi;simp [All]))
  | true =>
    obtain ⟨N,nb,g,rfl⟩:=graph_cases v hg
    rw [show compsG ((N:Int),(nb,g),())=compsD N nb g nb by simp [compsG,hg]]
    exact con_ComponentsOf_s hg
theorem con_Comps_i (v:T_Graph) (hs:smS s_Graph v):Con Tryz.prog 68 0 [] [graphA v] [(0,ssOb (compsG v).1 (compsG v).2)] (.ar 1 0 0 (compsG v).1):=by
  cases hg:isGraphF v with
  | false =>
    have hcg:=con_IsGraph_i v hs
    rw [hg] at hcg
    rw [show compsG v=(0,fun _=>(0,fun _=>0)) by simp [compsG,hg]]
    refine con_start Tryz.func68 rfl (by kernel_rfl) rfl (fun c hc=>?_)
    refine path_ok mixed Tryz.func68 hc (mIy v) ?_
    repeat' (first | exact aN | apply aI)
    all_goals (first | exact aE _ | omega | rfl | (intros;first | assumption | exact trivial | rfl | exact fT ‹_› | ((repeat' (first | assumption | apply anda | apply notf));done)) | (intros;exact hcg) | (simp;done) | (intro i hi;simp [All]))
  | true =>
    obtain ⟨N,nb,g,rfl⟩:=graph_cases v hg
    rw [show compsG ((N:Int),(nb,g),())=compsD N nb g nb by simp [compsG,hg]]
    exact con_ComponentsOf_i hg
theorem compsG_le (v:T_Graph):(compsG v).1≤24∧∀ j,j<(compsG v).1→((compsG v).2 j).1≤8:=by
  unfold compsG
  split
  · rename_i hg
    obtain ⟨N,nb,g,rfl⟩:=graph_cases v hg
    obtain ⟨hN,hnb,_⟩:=graph_in hg
    obtain ⟨h1,h2⟩:=compsD_le N nb g nb
    simp only [Int.toNat_natCast]
    exact ⟨by omega,fun j hj=>by have:=h2 j hj;omega⟩
  · exact ⟨by show 0≤24;omega,fun j hj=>absurd hj (Nat.not_lt_zero _)⟩
end Go.Proofs.YtkkjoghiigiokaaGreat.Mach
namespace Go.Proofs.YtkkjoghiigiokaaGreat.Mach
open Go
set_option linter.unusedVariables false
set_option linter.unusedSimpArgs false
def catM (c:Nat) (f:Nat→Int) (m:Nat) (h:Nat→Int) (t:Nat):Int:=if t<c then f t else if t<c+m then h (t - c) else -1
def flS (C:Nat→T_IntS):Nat→T_IntS
  | 0=>(0,fun _=>0)
  | i+1=>((flS C i).1+(C i).1+1,catM (flS C i).1 (flS C i).2 (C i).1 (C i).2)
def ssA (n:Nat) (C:Nat→T_IntS):AV:=.p (.seq true 1 n (fun i=>[.seq true 1 (C i).1 (fun s=>[.int .i64 ((C i).2 s)])]))
def LFs (n:Nat) (C:Nat→T_IntS) (i c:Nat) (f:Nat→Int):St:=⟨[ssA n C,.p .any,.p .any,.ar 1 0 0 c,.p (.int .i64 i)]++List.replicate 16 anyA,[(0,iOb c f)],1⟩
def nilP:AV:=.p .nil
def zrP:AV:=.p (.int .i64 0)
def clZ:AV:=.agg [zrP,zrP,nilP,zrP,nilP,nilP,nilP,nilP,nilP]
def clN (K:Int) (N nb n:Nat):AV:=.agg [.p (.int .i64 K),.p (.int .i64 N),.ar 2 0 0 nb,zrP,nilP,nilP,nilP,nilP,.ar 1 5 0 n]
def clS (K:Int) (N nb n:Nat):AV:=.agg [.p (.int .i64 K),.p (.int .i64 N),.ar 2 0 0 nb,zrP,nilP,nilP,nilP,.ar 5 4 0 n,nilP]
def bxZ:Ob:=⟨true,9,1,fun _=>[zrP,zrP,nilP,zrP,nilP,nilP,nilP,nilP,nilP]⟩
def bxC (K:Int) (N nb n:Nat):Ob:=⟨true,9,1,fun _=>[.p (.int .i64 K),.p (.int .i64 N),.ar 2 2 0 nb,zrP,nilP,nilP,nilP,nilP,.ar 1 4 0 n]⟩
def CIs (K:Int) (g:Nat→T_Bar) (nb N:Nat) (ok:Bool) (n:Nat) (C:Nat→T_IntS) (i c:Nat) (f:Nat→Int):St :=
  ⟨[.p .any,.p .any,.p .any,.p .any,.pt 9 0 0 0,.p .any,.pt 9 1 0 0,.p (.bool ok)]++List.replicate 28 anyA++[.ar 1 3 0 n,.p (.int .i64 n),.p (.int .i64 i)]++List.replicate 31 anyA,
   [(0,bxZ),(1,bxC K N nb c),(2,brOb nb g),(3,ssOb n C),(4,iOb c f)],5⟩
def OBs (n:Int) (M:Nat) (A:Nat→T_Bar) (S:T_IntS) (i c:Nat) (h:Nat→T_Bar):St:=⟨[.p .any,inL S,.pt 2 0 0 0,.p .any,.pt 2 1 0 0,.pt 2 2 0 0,.p (.int .i64 i)]++List.replicate 25 anyA,[(0,⟨true,2,1,fun _=>[.p (.int .i64 n),brL A M]⟩),(1,z2),(2,gbx n 3 c),(3,brOb c h)],4⟩
theorem acI (g:Nat→T_Bar) (nb N k l m:Nat) (F T Q q:Nat→Int) :
    pathOb Tryz.prog Tryz.f66 0 [rg 2,rm [(3,oc (pebR N m F T Q) (.tup [pebO N m 0,.p (.bool true)]))] 6,rm [(2,oc [(0,iOb m Q)] (.ar 1 0 0 m))] 1] [.code (bodyOf Tryz.f66)] (start Tryz.f66 [] 0 [grG g nb N,.p (.int .i64 k),.p (.int .i64 l)]) [448] 1 [(0,iOb m q)] (.ar 1 0 0 m) =
    some [(NT 0 1),Con Tryz.prog 185 0 [] [(zf110 N nb g),.p (.int .i64 (↑k:Int)),.p (.int .i64 (↑l:Int))] (zf45 N F m T Q) ((zf123 N m)),(NT 0 1),((true=true)→ (AN 1)),(NT 0 1),(AN 1),(NL m m),Con Tryz.prog 165 0 [] [.p (.seq true 1 m (fun i=>[.int .i64 (Q i)]))] [(0,⟨false,1,m,(fun i=>[.p (.int .i64 (Q i))])⟩)] (.ar 1 0 0 m),(AN 0),(AN m),(AN 1),(NL m m),(∀ i:Nat,(((i:Nat)<m)→(All []∧(([.p (.int .i64 (Q i))]:List AV)=[.p (.int .i64 (q i))])))),(AE m)]:=by kernel_rfl
theorem acS (g:Nat→T_Bar) (nb N k l m:Nat) (F T Q q:Nat→Int) :
    pathOb Tryz.prog Tryz.f54 0 [rg 2,rm [(3,oc (pebR N m F T Q) (.tup [pebO N m 0,.p (.bool true)]))] 6,rg 5] [.code (bodyOf Tryz.f54)] (start Tryz.f54 [] 0 [grG g nb N,.p (.int .i64 k),.p (.int .i64 l)]) [480] 1 [(0,iOb m q)] (.ar 1 0 0 m) =
    some [(NT 0 1),Con Tryz.prog 169 0 [] [(zf110 N nb g),.p (.int .i64 (↑k:Int)),.p (.int .i64 (↑l:Int))] (zf45 N F m T Q) ((zf123 N m)),(NT 0 1),((true=true)→ (AN 1)),(NT 0 1),(NL m m),(NL 0 0),(NL ((0+m)*8) 140737488355328),(NL (0+m) 9223372036854775807),(AN 0),(((0+m):Nat)=m),(AN 1),(NL m (0+m)),(∀ i:Nat,(((i:Nat)<m)→(All []∧(([.p (.int .i64 (Q i))]:List AV)=[.p (.int .i64 (q i))])))),(AE m)]:=by kernel_rfl
theorem lfz (n:Nat) (C:Nat→T_IntS) :
    pieceOb Tryz.prog 0 [rg 1,rg 2,rg 1,.head] [.code (bodyOf Tryz.f58)] (start Tryz.f58 [] 0 [ssA n C]) [32] 1 (LFs n C 0 0 (fun _=>0)) =
    some (zf84,[(AN n),(AP n (fun i=>[.seq true 1 ((C i).1) (fun i_1=>[.int .i64 ((C i).2 i_1)])])),(AN 0),(AN 0),((0:Int)=(↑0:Int)),(AN 1),(NL 0 0),(AA 0 (fun i=>[.p (.int .i64 0)]))]):=by kernel_rfl
theorem lft (n:Nat) (C:Nat→T_IntS) (i c:Nat) (f:Nat→Int) :
    pieceOb Tryz.prog 0 [rg 4,.dec true,rg 9,rg 3,.head] zf84 (LFs n C i c f) [353] 1 (LFs n C (i+1) (c+(C i).1+1) (catM c f (C i).1 (C i).2)) =
    some (zf84,[((decide ((↑i:Int)<(↑n:Int)))=true),(IL 0 (↑i:Int)),(IT (↑i:Int) (↑n:Int)),(NL c c),(NL ((c+(C i).1)*8) 140737488355328),(NL (c+(C i).1) 9223372036854775807),(NL 1 1),(NL (c+(C i).1) (c+(C i).1)),(NL ((c+(C i).1+1)*8) 140737488355328),(NL (c+(C i).1+1) 9223372036854775807),(R0 ((↑i:Int)+1)),(R1 ((↑i:Int)+1)),(AN n),(AP n (fun i_1=>[.seq true 1 ((C i_1).1) (fun i_2=>[.int .i64 ((C i_1).2 i_2)])])),(AN 0),(AN ((c+(C i).1+1))),((((↑i:Int)+1):Int)=(↑(i+1):Int)),(AN 1),(NL (c+(C i).1+1) (c+(C i).1+1)),(CV [(353,⟨false,1,(c+(C i).1+1),(fun i_2=>(if (i_2<c+(C i).1) then (if (i_2<c) then [.p (.int .i64 (f i_2))] else [.p (.int .i64 ((C i).2 (i_2 - c)))]) else [.p (.int .i64 (-1))]))⟩),(321,⟨false,1,1,(fun i_2=>[.p (.int .i64 (-1))])⟩)] [353] 1 (c+(C i).1+1) (fun i_1=>if (i_1<c+(C i).1) then (if (i_1<c) then [.p (.int .i64 (f i_1))] else [.p (.int .i64 ((C i).2 (i_1 - c)))]) else [.p (.int .i64 (-1))]) (fun i_1=>[.p (.int .i64 (catM c f (C i).1 (C i).2 i_1))]))]):=by kernel_rfl
theorem lfe (n:Nat) (C:Nat→T_IntS) (i c:Nat) (f:Nat→Int) :
    pathOb Tryz.prog Tryz.f58 0 [rg 4,.dec false,rg 2] zf84 (LFs n C i c f) [0] 1 [(0,iOb c f)] (.ar 1 0 0 c) =
    some [((decide ((↑i:Int)<(↑n:Int)))=false),(AN 0),(AN c),(AN 1),(NL c c),(AA c (fun i_1=>[.p (.int .i64 (f i_1))])),(AE c)]:=by kernel_rfl
theorem obz (n:Int) (M:Nat) (A:Nat→T_Bar) (S:T_IntS) :
    pieceOb Tryz.prog 0 [rg 2,rg 6,rg 1,.head] [.code (bodyOf Tryz.f56)] (start Tryz.f56 [] 0 [gaI n M A,inL S]) [0,32,192,128] 1 (OBs n M A S 0 0 (fun _=>(0,0,()))) =
    some (zf85,[(NT 0 1),(NT 0 1),((true=true)→ (AN 1)),(AN S.1),(AP S.1 (fun i=>[.int .i64 (S.2 i)])),(AN 0),(AN 0),(AN 0),((0:Int)=(↑0:Int)),((([AV.p (PV.int IntKind.i64 n),brL A M].length):Nat)=2),(NL 1 1),(NL 1 1),(AI n),(AN M),(AP M (fun i=>[.int .i64 ((A i).1),.int .i64 ((A i).2.1)])),((((List.map (fun v=>AV.p (absV v)) [Value.int IntKind.i64 0,Value.slice none 0 0]).length):Nat)=2),(NL 1 1),(NL 1 1),(AI 0),((((List.map (fun v=>AV.p (absV v)) [Value.int IntKind.i64 0,Value.slice none 0 0]).length):Nat)=2),(NL 1 1),(NL 1 1),(AI n),(AN 0),(AN 0),(AN 2),(NL 0 0),(AA 0 (fun i=>[.p (.int .i64 0),.p (.int .i64 0)]))]):=by kernel_rfl
theorem obt (n:Int) (M:Nat) (A:Nat→T_Bar) (S:T_IntS) (i c:Nat) (h:Nat→T_Bar) :
    pieceOb Tryz.prog 0 [rg 5,.dec true,rm [(2,oc [] (.p (.bool true)))] 0,.dec true,rg 11,rg 3,.head] zf85 (OBs n M A S i c h) [0,1,2,516] 1 (OBs n M A S (i+1) (c+1) (snoc c h (A i))) =
    some (zf85,[(NT 0 1),((decide ((↑i:Int)<(↑M:Int)))=true),Con Tryz.prog 172 0 [] [.p (.seq true 1 S.1 (fun i_1=>[.int .i64 (S.2 i_1)])),.p (.int .i64 (↑i:Int))] [] (.p (.bool true)),(true=true),(NT 0 1),(NT 0 1),(IL 0 (↑i:Int)),(IT (↑i:Int) (↑M:Int)),(NL 1 1),(NL c c),(NL ((c+1)*16) 140737488355328),(NL (c+1) 9223372036854775807),(NT 0 1),((true=true)→ (AN 1)),(R0 ((↑i:Int)+1)),(R1 ((↑i:Int)+1)),(AN S.1),(AP S.1 (fun i_1=>[.int .i64 (S.2 i_1)])),(AN 0),(AN 0),(AN 0),((((↑i:Int)+1):Int)=(↑(i+1):Int)),(AN 2),(NL 1 1),(NL 1 1),(AI n),(AN M),(AP M (fun i_1=>[.int .i64 ((A i_1).1),.int .i64 ((A i_1).2.1)])),(AN 2),(NL 1 1),(NL 1 1),(AI 0),(AN 2),(NL 1 1),(NL 1 1),(AI n),(AN 0),(AN ((c+1))),(AN 2),(NL (c+1) (c+1)),(CV [(2,⟨true,2,1,(fun i_2=>[.p (.int .i64 n),.ar 2 516 0 (c+1)])⟩),(516,⟨false,2,(c+1),(fun i_2=>(if (i_2<c) then [.p (.int .i64 ((h i_2).1)),.p (.int .i64 ((h i_2).2.1))] else [.p (.int .i64 ((A i).1)),.p (.int .i64 ((A i).2.1))]))⟩),(484,⟨false,2,1,(fun i_2=>[.p (.int .i64 ((A i).1)),.p (.int .i64 ((A i).2.1))])⟩),(0,⟨true,2,1,(fun i_2=>[.p (.int .i64 n),.p (.seq true 2 M (fun i_3=>[.int .i64 ((A i_3).1),.int .i64 ((A i_3).2.1)]))])⟩),(1,⟨true,2,1,(fun i_2=>[.p (.int .i64 0),.p (.nil)])⟩)] [0,1,2,516] 1 (c+1) (fun i_1=>if (i_1<c) then [.p (.int .i64 ((h i_1).1)),.p (.int .i64 ((h i_1).2.1))] else [.p (.int .i64 ((A i).1)),.p (.int .i64 ((A i).2.1))]) (fun i_1=>[.p (.int .i64 (if i_1<c then (h i_1).1 else (A i).1)),.p (.int .i64 (if i_1<c then (h i_1).2.1 else (A i).2.1))]))]):=by kernel_rfl
theorem obf (n:Int) (M:Nat) (A:Nat→T_Bar) (S:T_IntS) (i c:Nat) (h:Nat→T_Bar) :
    pieceOb Tryz.prog 0 [rg 5,.dec true,rm [(2,oc [] (.p (.bool false)))] 0,.dec false,rg 3,.head] zf85 (OBs n M A S i c h) [0,1,2,3] 1 (OBs n M A S (i+1) c h) =
    some (zf85,[(NT 0 1),((decide ((↑i:Int)<(↑M:Int)))=true),Con Tryz.prog 172 0 [] [.p (.seq true 1 S.1 (fun i_1=>[.int .i64 (S.2 i_1)])),.p (.int .i64 (↑i:Int))] [] (.p (.bool false)),(false=false),(R0 ((↑i:Int)+1)),(R1 ((↑i:Int)+1)),(AN S.1),(AP S.1 (fun i_1=>[.int .i64 (S.2 i_1)])),(AN 0),(AN 0),(AN 0),((((↑i:Int)+1):Int)=(↑(i+1):Int)),(AN 2),(NL 1 1),(NL 1 1),(AI n),(AN M),(AP M (fun i_1=>[.int .i64 ((A i_1).1),.int .i64 ((A i_1).2.1)])),(AN 2),(NL 1 1),(NL 1 1),(AI 0),(AN 2),(NL 1 1),(NL 1 1),(AI n),(AN 0),(AN c),(AN 2),(NL c c),(AA c (fun i_1=>[.p (.int .i64 ((h i_1).1)),.p (.int .i64 ((h i_1).2.1))]))]):=by kernel_rfl
theorem obe (n:Int) (M:Nat) (A:Nat→T_Bar) (S:T_IntS) (i c:Nat) (h:Nat→T_Bar) :
    pathOb Tryz.prog Tryz.f56 0 [rg 5,.dec false,rg 2] zf85 (OBs n M A S i c h) [3] 1 [(0,brOb c h)] (.agg [.p (.int .i64 n),.ar 2 0 0 c]) =
    some [(NT 0 1),((decide ((↑i:Int)<(↑M:Int)))=false),(NT 0 1),(NT 0 1),((true=true)→ (AN 1)),(NT 0 1),(AI n),(AN 0),(AN c),(AN 2),(NL c c),(AA c (fun i_1=>[.p (.int .i64 ((h i_1).1)),.p (.int .i64 ((h i_1).2.1))])),(AE c)]:=by kernel_rfl
theorem ciN (K:Int) (v:T_Graph) :
    pathOb Tryz.prog Tryz.f14 0 [rg 3,rm [(1,oc [] (.p (.bool false)))] 1,.dec true,rg 3] [.code (bodyOf Tryz.f14)] (start Tryz.f14 [] 0 [.p (.int .i64 K),graphA v]) [] 1 [] (.tup [clZ,.p (.bool false)]) =
    some [(NT 0 1),Con Tryz.prog 62 0 [] [(zf104 v)] [] (.p (.bool false)),((!false)=true),(NT 0 1),((true=true)→ (AN 1)),(NT 0 1),(AI 0),(AI 0),(AI 0),(false=false)]:=by kernel_rfl
theorem ci1t (K:Int) (g:Nat→T_Bar) (nb N:Nat) (m:Nat) (Q:Nat→Int) (d:Nat) (h:Nat→T_Bar) (n:Nat) (S:Nat→T_Step) :
    pathOb Tryz.prog Tryz.f14 0 [rg 3,rm [(1,oc [] (.p (.bool true)))] 1,.dec false,rm [(2,oc [(0,brOb nb g)] (.agg [.p (.int .i64 N),.ar 2 0 0 nb]))] 3,rg 1,rg 1,rg 2,.dec true,rm [(2,oc [(0,iOb m Q)] (.ar 1 0 0 m)),(0,oc [(0,brOb d h)] (.agg [.p (.int .i64 N),.ar 2 0 0 d])),(0,oc [(0,sqOb n S)] (.tup [.ar 5 0 0 n,.p (.bool true)]))] 6,rg 2,.dec false,rg 3] [.code (bodyOf Tryz.f14)] (start Tryz.f14 [] 0 [.p (.int .i64 K),grG g nb N]) [256,9001,9002,9003,640] 1 [(0,brOb nb g),(4,sqOb n S)] (.tup [clS K N nb n,.p (.bool true)]) =
    some [(NT 0 1),Con Tryz.prog 62 0 [] [(zf110 N nb g)] [] (.p (.bool true)),((!true)=false),(NT 0 1),Con Tryz.prog 63 0 [] [(zf110 N nb g)] (zf119 nb g) (.agg [.p (.int .i64 (↑N:Int)),.ar 2 0 0 nb]),(NT 0 1),((true=true)→ (AN 1)),((K==1)=true),(NT 0 1),(NT 0 1),Con Tryz.prog 66 0 [] [(zf110 N nb g),.p (.int .i64 2),.p (.int .i64 3)] [(0,⟨false,1,m,(fun i=>[.p (.int .i64 (Q i))])⟩)] (.ar 1 0 0 m),(AN 1),(NL m m),Con Tryz.prog 65 0 [] [(zf110 N nb g),.p (.seq true 1 m (fun i=>[.int .i64 (Q i)]))] (zf119 d h) (.agg [.p (.int .i64 (↑N:Int)),.ar 2 0 0 d]),(AN 2),(NL d d),Con Tryz.prog 64 0 [] [(zf110 N d h)] (zf39 n S) (.tup [.ar 5 0 0 n,.p (.bool true)]),(NT 0 1),((true=true)→ (AN 1)),((!true)=false),(NT 0 1),(NT 0 1),((true=true)→ (AN 1)),(NT 0 1),(AI K),(AI ((↑N:Int))),(AN 0),(AN nb),(AI 0),(AN 0),(AN n),(true=true),(AN 2),(NL nb nb),(AA nb (fun i=>[.p (.int .i64 ((g i).1)),.p (.int .i64 ((g i).2.1))])),(AN 5),(NL n n),(AA n (fun i=>[.p (.int .i64 ((S i).1)),.p (.int .i64 ((S i).2.1)),.p (.int .i64 ((S i).2.2.1)),.p (.int .i64 ((S i).2.2.2.1)),.p (.int .i64 ((S i).2.2.2.2.1))])),(AE nb),(AE n)]:=by kernel_rfl
theorem ci1f (K:Int) (g:Nat→T_Bar) (nb N:Nat) (m:Nat) (Q:Nat→Int) (d:Nat) (h:Nat→T_Bar) (n:Nat) (S:Nat→T_Step) :
    pathOb Tryz.prog Tryz.f14 0 [rg 3,rm [(1,oc [] (.p (.bool true)))] 1,.dec false,rm [(2,oc [(0,brOb nb g)] (.agg [.p (.int .i64 N),.ar 2 0 0 nb]))] 3,rg 1,rg 1,rg 2,.dec true,rm [(2,oc [(0,iOb m Q)] (.ar 1 0 0 m)),(0,oc [(0,brOb d h)] (.agg [.p (.int .i64 N),.ar 2 0 0 d])),(0,oc [(0,sqOb n S)] (.tup [.ar 5 0 0 n,.p (.bool false)]))] 6,rg 2,.dec true,rg 3] [.code (bodyOf Tryz.f14)] (start Tryz.f14 [] 0 [.p (.int .i64 K),grG g nb N]) [] 1 [] (.tup [clZ,.p (.bool false)]) =
    some [(NT 0 1),Con Tryz.prog 62 0 [] [(zf110 N nb g)] [] (.p (.bool true)),((!true)=false),(NT 0 1),Con Tryz.prog 63 0 [] [(zf110 N nb g)] (zf119 nb g) (.agg [.p (.int .i64 (↑N:Int)),.ar 2 0 0 nb]),(NT 0 1),((true=true)→ (AN 1)),((K==1)=true),(NT 0 1),(NT 0 1),Con Tryz.prog 66 0 [] [(zf110 N nb g),.p (.int .i64 2),.p (.int .i64 3)] [(0,⟨false,1,m,(fun i=>[.p (.int .i64 (Q i))])⟩)] (.ar 1 0 0 m),(AN 1),(NL m m),Con Tryz.prog 65 0 [] [(zf110 N nb g),.p (.seq true 1 m (fun i=>[.int .i64 (Q i)]))] (zf119 d h) (.agg [.p (.int .i64 (↑N:Int)),.ar 2 0 0 d]),(AN 2),(NL d d),Con Tryz.prog 64 0 [] [(zf110 N d h)] (zf39 n S) (.tup [.ar 5 0 0 n,.p (.bool false)]),(NT 0 1),((true=true)→ (AN 1)),((!false)=true),(NT 0 1),((true=true)→ (AN 1)),(NT 0 1),(AI 0),(AI 0),(AI 0),(false=false)]:=by kernel_rfl
theorem ci2z (K:Int) (g:Nat→T_Bar) (nb N:Nat) (b:Bool) (n:Nat) (C:Nat→T_IntS) :
    pieceOb Tryz.prog 0 [rg 3,rm [(1,oc [] (.p (.bool true)))] 1,.dec false,rm [(2,oc [(0,brOb nb g)] (.agg [.p (.int .i64 N),.ar 2 0 0 nb]))] 3,rg 1,rg 1,rg 2,.dec false,rg 2,.dec true,rm [(1,oc [] (.p (.bool b)))] 2,rm [(1,oc [(0,ssOb n C)] (.ar 1 0 0 n))] 2,.head] [.code (bodyOf Tryz.f14)] (start Tryz.f14 [] 0 [.p (.int .i64 K),grG g nb N]) [32,320,256,736] 1 (CIs K g nb N (!b) n C 0 0 (fun _=>0)) =
    some (zf34,[(NT 0 1),Con Tryz.prog 62 0 [] [(zf110 N nb g)] [] (.p (.bool true)),((!true)=false),(NT 0 1),Con Tryz.prog 63 0 [] [(zf110 N nb g)] (zf119 nb g) (.agg [.p (.int .i64 (↑N:Int)),.ar 2 0 0 nb]),(NT 0 1),((true=true)→ (AN 1)),((K==1)=false),((K==2)=true),(NT 0 1),Con Tryz.prog 67 0 [] [(zf110 N nb g)] [] (.p (.bool b)),(NT 0 1),Con Tryz.prog 68 0 [] [(zf110 N nb g)] [(0,⟨false,1,n,(fun i=>[.p (.seq false 1 ((C i).1) (fun i_1=>[.int .i64 ((C i).2 i_1)]))])⟩)] (.ar 1 0 0 n),(AN 0),(AN 0),((!b)=(!b)),(AN 0),(AN n),(AI ((↑n:Int))),((0:Int)=(↑0:Int)),((((List.map (fun v=>AV.p (absV v)) [Value.int IntKind.i64 0,Value.int IntKind.i64 0,Value.slice none 0 0,Value.int IntKind.i64 0,Value.slice none 0 0,Value.slice none 0 0,Value.slice none 0 0,Value.slice none 0 0,Value.slice none 0 0]).length):Nat)=9),(NL 1 1),(NL 1 1),(AI 0),(AI 0),(AI 0),((((List.map (fun v=>AV.p (absV v)) [Value.int IntKind.i64 0,Value.int IntKind.i64 0,Value.slice none 0 0,Value.int IntKind.i64 0,Value.slice none 0 0,Value.slice none 0 0,Value.slice none 0 0,Value.slice none 0 0,Value.slice none 0 0]).length):Nat)=9),(NL 1 1),(NL 1 1),(AI K),(AI ((↑N:Int))),(AN 0),(AN nb),(AI 0),(AN 0),(AN 2),(NL nb nb),(AA nb (fun i=>[.p (.int .i64 ((g i).1)),.p (.int .i64 ((g i).2.1))])),(AN 1),(NL n n),(AA n (fun i=>[.p (.seq false 1 ((C i).1) (fun i_1=>[.int .i64 ((C i).2 i_1)]))])),(AN 0)]):=by kernel_rfl
theorem ci2l (K:Int) (g:Nat→T_Bar) (nb N:Nat) (ok:Bool) (n:Nat) (C:Nat→T_IntS) (i c:Nat) (f:Nat→Int) :
    pieceOb Tryz.prog 0 [rg 1,.dec true,rg 3,rg 8,rg 2,.head] zf34 (CIs K g nb N ok n C i c f) [0,1,2,3,293] 1 (CIs K g nb N ok n C (i+1) (c+(C i).1+1) (catM c f (C i).1 (C i).2)) =
    some (zf34,[((decide ((↑i:Int)<(↑n:Int)))=true),(IL 0 (↑i:Int)),(IT (↑i:Int) (↑n:Int)),(NT i n),(NT 0 1),(NL c c),(NL ((c+(C i).1)*8) 140737488355328),(NL (c+(C i).1) 9223372036854775807),(NL 1 1),(NL (c+(C i).1) (c+(C i).1)),(NL ((c+(C i).1+1)*8) 140737488355328),(NL (c+(C i).1+1) 9223372036854775807),(NT 0 1),((true=true)→ (AN 1)),(R0 ((↑i:Int)+1)),(R1 ((↑i:Int)+1)),(AN 0),(AN 0),(ok=ok),(AN 0),(AN n),(AI ((↑n:Int))),((((↑i:Int)+1):Int)=(↑(i+1):Int)),(AN 9),(NL 1 1),(NL 1 1),(AI 0),(AI 0),(AI 0),(AN 9),(NL 1 1),(NL 1 1),(AI K),(AI ((↑N:Int))),(AN 0),(AN nb),(AI 0),(AN 0),(AN ((c+(C i).1+1))),(AN 2),(NL nb nb),(AA nb (fun i_1=>[.p (.int .i64 ((g i_1).1)),.p (.int .i64 ((g i_1).2.1))])),(AN 1),(NL n n),(AA n (fun i_1=>[.p (.seq false 1 ((C i_1).1) (fun i_2=>[.int .i64 ((C i_1).2 i_2)]))])),(AN 1),(NL (c+(C i).1+1) (c+(C i).1+1)),(CV [(1,⟨true,9,1,(fun i_2=>[.p (.int .i64 K),.p (.int .i64 (↑N:Int)),.ar 2 2 0 nb,.p (.int .i64 0),.p (.nil),.p (.nil),.p (.nil),.p (.nil),.ar 1 293 0 (c+(C i).1+1)])⟩),(293,⟨false,1,(c+(C i).1+1),(fun i_2=>(if (i_2<c+(C i).1) then (if (i_2<c) then [.p (.int .i64 (f i_2))] else [.p (.int .i64 ((C i).2 (i_2 - c)))]) else [.p (.int .i64 (-1))]))⟩),(261,⟨false,1,1,(fun i_2=>[.p (.int .i64 (-1))])⟩),(0,⟨true,9,1,(fun i_2=>[.p (.int .i64 0),.p (.int .i64 0),.p (.nil),.p (.int .i64 0),.p (.nil),.p (.nil),.p (.nil),.p (.nil),.p (.nil)])⟩),(2,⟨false,2,nb,(fun i_2=>[.p (.int .i64 ((g i_2).1)),.p (.int .i64 ((g i_2).2.1))])⟩),(3,⟨false,1,n,(fun i_2=>[.p (.seq false 1 ((C i_2).1) (fun i_3=>[.int .i64 ((C i_2).2 i_3)]))])⟩)] [0,1,2,3,293] 1 (c+(C i).1+1) (fun i_1=>if (i_1<c+(C i).1) then (if (i_1<c) then [.p (.int .i64 (f i_1))] else [.p (.int .i64 ((C i).2 (i_1 - c)))]) else [.p (.int .i64 (-1))]) (fun i_1=>[.p (.int .i64 (catM c f (C i).1 (C i).2 i_1))]))]):=by kernel_rfl
theorem ci2t (K:Int) (g:Nat→T_Bar) (nb N:Nat) (n:Nat) (C:Nat→T_IntS) (i c:Nat) (f:Nat→Int) :
    pathOb Tryz.prog Tryz.f14 0 [rg 1,.dec false,rg 2,.dec false,rg 3] zf34 (CIs K g nb N true n C i c f) [2,9001,9002,9003,9004,4] 1 [(0,brOb nb g),(5,iOb c f)] (.tup [clN K N nb c,.p (.bool true)]) =
    some [((decide ((↑i:Int)<(↑n:Int)))=false),((!true)=false),(NT 0 1),(NT 0 1),((true=true)→ (AN 1)),(NT 0 1),(AI K),(AI ((↑N:Int))),(AN 0),(AN nb),(AI 0),(AN 0),(AN c),(true=true),(AN 2),(NL nb nb),(AA nb (fun i_1=>[.p (.int .i64 ((g i_1).1)),.p (.int .i64 ((g i_1).2.1))])),(AN 1),(NL c c),(AA c (fun i_1=>[.p (.int .i64 (f i_1))])),(AE nb),(AE c)]:=by kernel_rfl
theorem ci2f (K:Int) (g:Nat→T_Bar) (nb N:Nat) (n:Nat) (C:Nat→T_IntS) (i c:Nat) (f:Nat→Int) :
    pathOb Tryz.prog Tryz.f14 0 [rg 1,.dec false,rg 2,.dec true,rg 3] zf34 (CIs K g nb N false n C i c f) [] 1 [] (.tup [clZ,.p (.bool false)]) =
    some [((decide ((↑i:Int)<(↑n:Int)))=false),((!false)=true),(NT 0 1),((true=true)→ (AN 1)),(NT 0 1),(AI 0),(AI 0),(AI 0),(false=false)]:=by kernel_rfl
theorem ci3t (K:Int) (g:Nat→T_Bar) (nb N:Nat) (m:Nat) (Q:Nat→Int) :
    pathOb Tryz.prog Tryz.f14 0 [rg 3,rm [(1,oc [] (.p (.bool true)))] 1,.dec false,rm [(2,oc [(0,brOb nb g)] (.agg [.p (.int .i64 N),.ar 2 0 0 nb]))] 3,rg 1,rg 1,rg 2,.dec false,rg 2,.dec false,rg 2,.dec true,rm [(1,oc [(0,iOb m Q)] (.tup [.ar 1 0 0 m,.p (.bool true)]))] 6,rg 2,.dec false,rg 3] [.code (bodyOf Tryz.f14)] (start Tryz.f14 [] 0 [.p (.int .i64 K),grG g nb N]) [256,9001,9002,9003,9004,672] 1 [(0,brOb nb g),(5,iOb m Q)] (.tup [clN K N nb m,.p (.bool true)]) =
    some [(NT 0 1),Con Tryz.prog 62 0 [] [(zf110 N nb g)] [] (.p (.bool true)),((!true)=false),(NT 0 1),Con Tryz.prog 63 0 [] [(zf110 N nb g)] (zf119 nb g) (.agg [.p (.int .i64 (↑N:Int)),.ar 2 0 0 nb]),(NT 0 1),((true=true)→ (AN 1)),((K==1)=false),((K==2)=false),((K==3)=true),(NT 0 1),Con Tryz.prog 69 0 [] [(zf110 N nb g),.p (.int .i64 2),.p (.int .i64 3)] [(0,⟨false,1,m,(fun i=>[.p (.int .i64 (Q i))])⟩)] (.tup [.ar 1 0 0 m,.p (.bool true)]),(NT 0 1),((true=true)→ (AN 1)),((!true)=false),(NT 0 1),(NT 0 1),((true=true)→ (AN 1)),(NT 0 1),(AI K),(AI ((↑N:Int))),(AN 0),(AN nb),(AI 0),(AN 0),(AN m),(true=true),(AN 2),(NL nb nb),(AA nb (fun i=>[.p (.int .i64 ((g i).1)),.p (.int .i64 ((g i).2.1))])),(AN 1),(NL m m),(AA m (fun i=>[.p (.int .i64 (Q i))])),(AE nb),(AE m)]:=by kernel_rfl
theorem ci3f (K:Int) (g:Nat→T_Bar) (nb N:Nat) (m:Nat) (Q:Nat→Int) :
    pathOb Tryz.prog Tryz.f14 0 [rg 3,rm [(1,oc [] (.p (.bool true)))] 1,.dec false,rm [(2,oc [(0,brOb nb g)] (.agg [.p (.int .i64 N),.ar 2 0 0 nb]))] 3,rg 1,rg 1,rg 2,.dec false,rg 2,.dec false,rg 2,.dec true,rm [(1,oc [(0,iOb m Q)] (.tup [.ar 1 0 0 m,.p (.bool false)]))] 6,rg 2,.dec true,rg 3] [.code (bodyOf Tryz.f14)] (start Tryz.f14 [] 0 [.p (.int .i64 K),grG g nb N]) [] 1 [] (.tup [clZ,.p (.bool false)]) =
    some [(NT 0 1),Con Tryz.prog 62 0 [] [(zf110 N nb g)] [] (.p (.bool true)),((!true)=false),(NT 0 1),Con Tryz.prog 63 0 [] [(zf110 N nb g)] (zf119 nb g) (.agg [.p (.int .i64 (↑N:Int)),.ar 2 0 0 nb]),(NT 0 1),((true=true)→ (AN 1)),((K==1)=false),((K==2)=false),((K==3)=true),(NT 0 1),Con Tryz.prog 69 0 [] [(zf110 N nb g),.p (.int .i64 2),.p (.int .i64 3)] [(0,⟨false,1,m,(fun i=>[.p (.int .i64 (Q i))])⟩)] (.tup [.ar 1 0 0 m,.p (.bool false)]),(NT 0 1),((true=true)→ (AN 1)),((!false)=true),(NT 0 1),((true=true)→ (AN 1)),(NT 0 1),(AI 0),(AI 0),(AI 0),(false=false)]:=by kernel_rfl
theorem ci6t (K:Int) (g:Nat→T_Bar) (nb N:Nat) (n:Nat) (S:Nat→T_Step) :
    pathOb Tryz.prog Tryz.f14 0 [rg 3,rm [(1,oc [] (.p (.bool true)))] 1,.dec false,rm [(2,oc [(0,brOb nb g)] (.agg [.p (.int .i64 N),.ar 2 0 0 nb]))] 3,rg 1,rg 1,rg 2,.dec false,rg 2,.dec false,rg 2,.dec false,rg 2,.dec true,rm [(1,oc [(0,sqOb n S)] (.tup [.ar 5 0 0 n,.p (.bool true)]))] 6,rg 2,.dec false,rg 3] [.code (bodyOf Tryz.f14)] (start Tryz.f14 [] 0 [.p (.int .i64 K),grG g nb N]) [256,9001,9002,9003,736] 1 [(0,brOb nb g),(4,sqOb n S)] (.tup [clS K N nb n,.p (.bool true)]) =
    some [(NT 0 1),Con Tryz.prog 62 0 [] [(zf110 N nb g)] [] (.p (.bool true)),((!true)=false),(NT 0 1),Con Tryz.prog 63 0 [] [(zf110 N nb g)] (zf119 nb g) (.agg [.p (.int .i64 (↑N:Int)),.ar 2 0 0 nb]),(NT 0 1),((true=true)→ (AN 1)),((K==1)=false),((K==2)=false),((K==3)=false),((K==6)=true),(NT 0 1),Con Tryz.prog 64 0 [] [(zf110 N nb g)] (zf39 n S) (.tup [.ar 5 0 0 n,.p (.bool true)]),(NT 0 1),((true=true)→ (AN 1)),((!true)=false),(NT 0 1),(NT 0 1),((true=true)→ (AN 1)),(NT 0 1),(AI K),(AI ((↑N:Int))),(AN 0),(AN nb),(AI 0),(AN 0),(AN n),(true=true),(AN 2),(NL nb nb),(AA nb (fun i=>[.p (.int .i64 ((g i).1)),.p (.int .i64 ((g i).2.1))])),(AN 5),(NL n n),(AA n (fun i=>[.p (.int .i64 ((S i).1)),.p (.int .i64 ((S i).2.1)),.p (.int .i64 ((S i).2.2.1)),.p (.int .i64 ((S i).2.2.2.1)),.p (.int .i64 ((S i).2.2.2.2.1))])),(AE nb),(AE n)]:=by kernel_rfl
theorem ci6f (K:Int) (g:Nat→T_Bar) (nb N:Nat) (n:Nat) (S:Nat→T_Step) :
    pathOb Tryz.prog Tryz.f14 0 [rg 3,rm [(1,oc [] (.p (.bool true)))] 1,.dec false,rm [(2,oc [(0,brOb nb g)] (.agg [.p (.int .i64 N),.ar 2 0 0 nb]))] 3,rg 1,rg 1,rg 2,.dec false,rg 2,.dec false,rg 2,.dec false,rg 2,.dec true,rm [(1,oc [(0,sqOb n S)] (.tup [.ar 5 0 0 n,.p (.bool false)]))] 6,rg 2,.dec true,rg 3] [.code (bodyOf Tryz.f14)] (start Tryz.f14 [] 0 [.p (.int .i64 K),grG g nb N]) [] 1 [] (.tup [clZ,.p (.bool false)]) =
    some [(NT 0 1),Con Tryz.prog 62 0 [] [(zf110 N nb g)] [] (.p (.bool true)),((!true)=false),(NT 0 1),Con Tryz.prog 63 0 [] [(zf110 N nb g)] (zf119 nb g) (.agg [.p (.int .i64 (↑N:Int)),.ar 2 0 0 nb]),(NT 0 1),((true=true)→ (AN 1)),((K==1)=false),((K==2)=false),((K==3)=false),((K==6)=true),(NT 0 1),Con Tryz.prog 64 0 [] [(zf110 N nb g)] (zf39 n S) (.tup [.ar 5 0 0 n,.p (.bool false)]),(NT 0 1),((true=true)→ (AN 1)),((!false)=true),(NT 0 1),((true=true)→ (AN 1)),(NT 0 1),(AI 0),(AI 0),(AI 0),(false=false)]:=by kernel_rfl
theorem ciX (K:Int) (g:Nat→T_Bar) (nb N:Nat) :
    pathOb Tryz.prog Tryz.f14 0 [rg 3,rm [(1,oc [] (.p (.bool true)))] 1,.dec false,rm [(2,oc [(0,brOb nb g)] (.agg [.p (.int .i64 N),.ar 2 0 0 nb]))] 3,rg 1,rg 1,rg 2,.dec false,rg 2,.dec false,rg 2,.dec false,rg 2,.dec false,rg 2,.dec true,rg 3] [.code (bodyOf Tryz.f14)] (start Tryz.f14 [] 0 [.p (.int .i64 K),grG g nb N]) [] 1 [] (.tup [clZ,.p (.bool false)]) =
    some [(NT 0 1),Con Tryz.prog 62 0 [] [(zf110 N nb g)] [] (.p (.bool true)),((!true)=false),(NT 0 1),Con Tryz.prog 63 0 [] [(zf110 N nb g)] (zf119 nb g) (.agg [.p (.int .i64 (↑N:Int)),.ar 2 0 0 nb]),(NT 0 1),((true=true)→ (AN 1)),((K==1)=false),((K==2)=false),((K==3)=false),((K==6)=false),((!false)=true),(NT 0 1),((true=true)→ (AN 1)),(NT 0 1),(AI 0),(AI 0),(AI 0),(false=false)]:=by kernel_rfl
theorem csN (K:Int) (v:T_Graph) :
    pathOb Tryz.prog Tryz.f12 0 [rg 3,rm [(2,oc [(0,brOb v.2.1.1 v.2.1.2)] (.agg [.p (.int .i64 v.1),.ar 2 0 0 v.2.1.1]))] 3,rm [(1,oc [] (.p (.bool false)))] 1,.dec true,rg 3] [.code (bodyOf Tryz.f12)] (start Tryz.f12 [] 0 [.p (.int .i64 K),graphA v]) [] 1 [] (.tup [clZ,.p (.bool false)]) =
    some [(NT 0 1),Con Tryz.prog 52 0 [] [(zf104 v)] (zf113 v) (.agg [.p (.int .i64 v.1),.ar 2 0 0 v.2.1.1]),(NT 0 1),((true=true)→ (AN 1)),(NT 0 1),Con Tryz.prog 53 0 [] [(zf104 v)] [] (.p (.bool false)),((!false)=true),(NT 0 1),((true=true)→ (AN 1)),(NT 0 1),(AI 0),(AI 0),(AI 0),(false=false)]:=by kernel_rfl
theorem cs1t (K:Int) (g:Nat→T_Bar) (nb N:Nat) (m:Nat) (Q:Nat→Int) (d:Nat) (h:Nat→T_Bar) (n:Nat) (S:Nat→T_Step) :
    pathOb Tryz.prog Tryz.f12 0 [rg 3,rm [(2,oc [(0,brOb nb g)] (.agg [.p (.int .i64 N),.ar 2 0 0 nb]))] 3,rm [(1,oc [] (.p (.bool true)))] 1,.dec false,rg 1,rg 2,.dec true,rm [(1,oc [(0,iOb m Q)] (.ar 1 0 0 m))] 1,rm [(2,oc [(0,brOb d h)] (.agg [.p (.int .i64 N),.ar 2 0 0 d])),(0,oc [(0,sqOb n S)] (.tup [.ar 5 0 0 n,.p (.bool true)]))] 5,rg 1,.dec true,rg 3,rg 3] [.code (bodyOf Tryz.f12)] (start Tryz.f12 [] 0 [.p (.int .i64 K),grG g nb N]) [160,9001,9002,9003,672] 1 [(0,brOb nb g),(4,sqOb n S)] (.tup [clS K N nb n,.p (.bool true)]) =
    some [(NT 0 1),Con Tryz.prog 52 0 [] [(zf110 N nb g)] (zf119 nb g) (.agg [.p (.int .i64 (↑N:Int)),.ar 2 0 0 nb]),(NT 0 1),((true=true)→ (AN 1)),(NT 0 1),Con Tryz.prog 53 0 [] [(zf110 N nb g)] [] (.p (.bool true)),((!true)=false),((K==1)=true),(NT 0 1),Con Tryz.prog 54 0 [] [(zf110 N nb g),.p (.int .i64 2),.p (.int .i64 3)] [(0,⟨false,1,m,(fun i=>[.p (.int .i64 (Q i))])⟩)] (.ar 1 0 0 m),(NT 0 1),(AN 1),(NL m m),Con Tryz.prog 56 0 [] [(zf110 N nb g),.p (.seq true 1 m (fun i=>[.int .i64 (Q i)]))] (zf119 d h) (.agg [.p (.int .i64 (↑N:Int)),.ar 2 0 0 d]),(AN 2),(NL d d),Con Tryz.prog 55 0 [] [(zf110 N d h)] (zf39 n S) (.tup [.ar 5 0 0 n,.p (.bool true)]),(true=true),(NT 0 1),((true=true)→ (AN 1)),(NT 0 1),(NT 0 1),((true=true)→ (AN 1)),(NT 0 1),(AI K),(AI ((↑N:Int))),(AN 0),(AN nb),(AI 0),(AN 0),(AN n),(true=true),(AN 2),(NL nb nb),(AA nb (fun i=>[.p (.int .i64 ((g i).1)),.p (.int .i64 ((g i).2.1))])),(AN 5),(NL n n),(AA n (fun i=>[.p (.int .i64 ((S i).1)),.p (.int .i64 ((S i).2.1)),.p (.int .i64 ((S i).2.2.1)),.p (.int .i64 ((S i).2.2.2.1)),.p (.int .i64 ((S i).2.2.2.2.1))])),(AE nb),(AE n)]:=by kernel_rfl
theorem cs1f (K:Int) (g:Nat→T_Bar) (nb N:Nat) (m:Nat) (Q:Nat→Int) (d:Nat) (h:Nat→T_Bar) (n:Nat) (S:Nat→T_Step) :
    pathOb Tryz.prog Tryz.f12 0 [rg 3,rm [(2,oc [(0,brOb nb g)] (.agg [.p (.int .i64 N),.ar 2 0 0 nb]))] 3,rm [(1,oc [] (.p (.bool true)))] 1,.dec false,rg 1,rg 2,.dec true,rm [(1,oc [(0,iOb m Q)] (.ar 1 0 0 m))] 1,rm [(2,oc [(0,brOb d h)] (.agg [.p (.int .i64 N),.ar 2 0 0 d])),(0,oc [(0,sqOb n S)] (.tup [.ar 5 0 0 n,.p (.bool false)]))] 5,rg 1,.dec false,rg 3] [.code (bodyOf Tryz.f12)] (start Tryz.f12 [] 0 [.p (.int .i64 K),grG g nb N]) [] 1 [] (.tup [clZ,.p (.bool false)]) =
    some [(NT 0 1),Con Tryz.prog 52 0 [] [(zf110 N nb g)] (zf119 nb g) (.agg [.p (.int .i64 (↑N:Int)),.ar 2 0 0 nb]),(NT 0 1),((true=true)→ (AN 1)),(NT 0 1),Con Tryz.prog 53 0 [] [(zf110 N nb g)] [] (.p (.bool true)),((!true)=false),((K==1)=true),(NT 0 1),Con Tryz.prog 54 0 [] [(zf110 N nb g),.p (.int .i64 2),.p (.int .i64 3)] [(0,⟨false,1,m,(fun i=>[.p (.int .i64 (Q i))])⟩)] (.ar 1 0 0 m),(NT 0 1),(AN 1),(NL m m),Con Tryz.prog 56 0 [] [(zf110 N nb g),.p (.seq true 1 m (fun i=>[.int .i64 (Q i)]))] (zf119 d h) (.agg [.p (.int .i64 (↑N:Int)),.ar 2 0 0 d]),(AN 2),(NL d d),Con Tryz.prog 55 0 [] [(zf110 N d h)] (zf39 n S) (.tup [.ar 5 0 0 n,.p (.bool false)]),(false=false),(NT 0 1),((true=true)→ (AN 1)),(NT 0 1),(AI 0),(AI 0),(AI 0),(false=false)]:=by kernel_rfl
theorem cs2t (K:Int) (g:Nat→T_Bar) (nb N:Nat) (n:Nat) (C:Nat→T_IntS) (m:Nat) (Q:Nat→Int) :
    pathOb Tryz.prog Tryz.f12 0 [rg 3,rm [(2,oc [(0,brOb nb g)] (.agg [.p (.int .i64 N),.ar 2 0 0 nb]))] 3,rm [(1,oc [] (.p (.bool true)))] 1,.dec false,rg 1,rg 2,.dec false,rg 2,.dec true,rm [(1,oc [] (.p (.bool false)))] 1,.dec true,rm [(1,oc [(0,ssOb n C)] (.ar 1 0 0 n)),(0,oc [(0,iOb m Q)] (.ar 1 0 0 m))] 2,rg 3] [.code (bodyOf Tryz.f12)] (start Tryz.f12 [] 0 [.p (.int .i64 K),grG g nb N]) [160,9001,9002,9003,9004,704] 1 [(0,brOb nb g),(5,iOb m Q)] (.tup [clN K N nb m,.p (.bool true)]) =
    some [(NT 0 1),Con Tryz.prog 52 0 [] [(zf110 N nb g)] (zf119 nb g) (.agg [.p (.int .i64 (↑N:Int)),.ar 2 0 0 nb]),(NT 0 1),((true=true)→ (AN 1)),(NT 0 1),Con Tryz.prog 53 0 [] [(zf110 N nb g)] [] (.p (.bool true)),((!true)=false),((K==1)=false),((K==2)=true),(NT 0 1),Con Tryz.prog 57 0 [] [(zf110 N nb g)] [] (.p (.bool false)),((!false)=true),(NT 0 1),Con Tryz.prog 59 0 [] [(zf110 N nb g)] [(0,⟨false,1,n,(fun i=>[.p (.seq false 1 ((C i).1) (fun i_1=>[.int .i64 ((C i).2 i_1)]))])⟩)] (.ar 1 0 0 n),(AN 1),(NL n n),Con Tryz.prog 58 0 [] [.p (.seq true 1 n (fun i=>[.seq true 1 ((C i).1) (fun i_1=>[.int .i64 ((C i).2 i_1)])]))] [(0,⟨false,1,m,(fun i=>[.p (.int .i64 (Q i))])⟩)] (.ar 1 0 0 m),(NT 0 1),((true=true)→ (AN 1)),(NT 0 1),(NT 0 1),((true=true)→ (AN 1)),(NT 0 1),(AI K),(AI ((↑N:Int))),(AN 0),(AN nb),(AI 0),(AN 0),(AN m),(true=true),(AN 2),(NL nb nb),(AA nb (fun i=>[.p (.int .i64 ((g i).1)),.p (.int .i64 ((g i).2.1))])),(AN 1),(NL m m),(AA m (fun i=>[.p (.int .i64 (Q i))])),(AE nb),(AE m)]:=by kernel_rfl
theorem cs2f (K:Int) (g:Nat→T_Bar) (nb N:Nat) :
    pathOb Tryz.prog Tryz.f12 0 [rg 3,rm [(2,oc [(0,brOb nb g)] (.agg [.p (.int .i64 N),.ar 2 0 0 nb]))] 3,rm [(1,oc [] (.p (.bool true)))] 1,.dec false,rg 1,rg 2,.dec false,rg 2,.dec true,rm [(1,oc [] (.p (.bool true)))] 1,.dec false,rg 3] [.code (bodyOf Tryz.f12)] (start Tryz.f12 [] 0 [.p (.int .i64 K),grG g nb N]) [] 1 [] (.tup [clZ,.p (.bool false)]) =
    some [(NT 0 1),Con Tryz.prog 52 0 [] [(zf110 N nb g)] (zf119 nb g) (.agg [.p (.int .i64 (↑N:Int)),.ar 2 0 0 nb]),(NT 0 1),((true=true)→ (AN 1)),(NT 0 1),Con Tryz.prog 53 0 [] [(zf110 N nb g)] [] (.p (.bool true)),((!true)=false),((K==1)=false),((K==2)=true),(NT 0 1),Con Tryz.prog 57 0 [] [(zf110 N nb g)] [] (.p (.bool true)),((!true)=false),(NT 0 1),((true=true)→ (AN 1)),(NT 0 1),(AI 0),(AI 0),(AI 0),(false=false)]:=by kernel_rfl
theorem cs3t (K:Int) (g:Nat→T_Bar) (nb N:Nat) (m:Nat) (Q:Nat→Int) :
    pathOb Tryz.prog Tryz.f12 0 [rg 3,rm [(2,oc [(0,brOb nb g)] (.agg [.p (.int .i64 N),.ar 2 0 0 nb]))] 3,rm [(1,oc [] (.p (.bool true)))] 1,.dec false,rg 1,rg 2,.dec false,rg 2,.dec false,rg 2,.dec true,rm [(1,oc [(0,iOb m Q)] (.tup [.ar 1 0 0 m,.p (.bool true)]))] 5,rg 1,.dec true,rg 3,rg 3] [.code (bodyOf Tryz.f12)] (start Tryz.f12 [] 0 [.p (.int .i64 K),grG g nb N]) [160,9001,9002,9003,9004,640] 1 [(0,brOb nb g),(5,iOb m Q)] (.tup [clN K N nb m,.p (.bool true)]) =
    some [(NT 0 1),Con Tryz.prog 52 0 [] [(zf110 N nb g)] (zf119 nb g) (.agg [.p (.int .i64 (↑N:Int)),.ar 2 0 0 nb]),(NT 0 1),((true=true)→ (AN 1)),(NT 0 1),Con Tryz.prog 53 0 [] [(zf110 N nb g)] [] (.p (.bool true)),((!true)=false),((K==1)=false),((K==2)=false),((K==3)=true),(NT 0 1),Con Tryz.prog 60 0 [] [(zf110 N nb g),.p (.int .i64 2),.p (.int .i64 3)] [(0,⟨false,1,m,(fun i=>[.p (.int .i64 (Q i))])⟩)] (.tup [.ar 1 0 0 m,.p (.bool true)]),(true=true),(NT 0 1),((true=true)→ (AN 1)),(NT 0 1),(NT 0 1),((true=true)→ (AN 1)),(NT 0 1),(AI K),(AI ((↑N:Int))),(AN 0),(AN nb),(AI 0),(AN 0),(AN m),(true=true),(AN 2),(NL nb nb),(AA nb (fun i=>[.p (.int .i64 ((g i).1)),.p (.int .i64 ((g i).2.1))])),(AN 1),(NL m m),(AA m (fun i=>[.p (.int .i64 (Q i))])),(AE nb),(AE m)]:=by kernel_rfl
theorem cs3f (K:Int) (g:Nat→T_Bar) (nb N:Nat) (m:Nat) (Q:Nat→Int) :
    pathOb Tryz.prog Tryz.f12 0 [rg 3,rm [(2,oc [(0,brOb nb g)] (.agg [.p (.int .i64 N),.ar 2 0 0 nb]))] 3,rm [(1,oc [] (.p (.bool true)))] 1,.dec false,rg 1,rg 2,.dec false,rg 2,.dec false,rg 2,.dec true,rm [(1,oc [(0,iOb m Q)] (.tup [.ar 1 0 0 m,.p (.bool false)]))] 5,rg 1,.dec false,rg 3] [.code (bodyOf Tryz.f12)] (start Tryz.f12 [] 0 [.p (.int .i64 K),grG g nb N]) [] 1 [] (.tup [clZ,.p (.bool false)]) =
    some [(NT 0 1),Con Tryz.prog 52 0 [] [(zf110 N nb g)] (zf119 nb g) (.agg [.p (.int .i64 (↑N:Int)),.ar 2 0 0 nb]),(NT 0 1),((true=true)→ (AN 1)),(NT 0 1),Con Tryz.prog 53 0 [] [(zf110 N nb g)] [] (.p (.bool true)),((!true)=false),((K==1)=false),((K==2)=false),((K==3)=true),(NT 0 1),Con Tryz.prog 60 0 [] [(zf110 N nb g),.p (.int .i64 2),.p (.int .i64 3)] [(0,⟨false,1,m,(fun i=>[.p (.int .i64 (Q i))])⟩)] (.tup [.ar 1 0 0 m,.p (.bool false)]),(false=false),(NT 0 1),((true=true)→ (AN 1)),(NT 0 1),(AI 0),(AI 0),(AI 0),(false=false)]:=by kernel_rfl
theorem cs6t (K:Int) (g:Nat→T_Bar) (nb N:Nat) (n:Nat) (S:Nat→T_Step) :
    pathOb Tryz.prog Tryz.f12 0 [rg 3,rm [(2,oc [(0,brOb nb g)] (.agg [.p (.int .i64 N),.ar 2 0 0 nb]))] 3,rm [(1,oc [] (.p (.bool true)))] 1,.dec false,rg 1,rg 2,.dec false,rg 2,.dec false,rg 2,.dec false,rg 2,.dec true,rm [(1,oc [(0,sqOb n S)] (.tup [.ar 5 0 0 n,.p (.bool true)]))] 5,rg 1,.dec true,rg 3,rg 3] [.code (bodyOf Tryz.f12)] (start Tryz.f12 [] 0 [.p (.int .i64 K),grG g nb N]) [160,9001,9002,9003,704] 1 [(0,brOb nb g),(4,sqOb n S)] (.tup [clS K N nb n,.p (.bool true)]) =
    some [(NT 0 1),Con Tryz.prog 52 0 [] [(zf110 N nb g)] (zf119 nb g) (.agg [.p (.int .i64 (↑N:Int)),.ar 2 0 0 nb]),(NT 0 1),((true=true)→ (AN 1)),(NT 0 1),Con Tryz.prog 53 0 [] [(zf110 N nb g)] [] (.p (.bool true)),((!true)=false),((K==1)=false),((K==2)=false),((K==3)=false),((K==6)=true),(NT 0 1),Con Tryz.prog 55 0 [] [(zf110 N nb g)] (zf39 n S) (.tup [.ar 5 0 0 n,.p (.bool true)]),(true=true),(NT 0 1),((true=true)→ (AN 1)),(NT 0 1),(NT 0 1),((true=true)→ (AN 1)),(NT 0 1),(AI K),(AI ((↑N:Int))),(AN 0),(AN nb),(AI 0),(AN 0),(AN n),(true=true),(AN 2),(NL nb nb),(AA nb (fun i=>[.p (.int .i64 ((g i).1)),.p (.int .i64 ((g i).2.1))])),(AN 5),(NL n n),(AA n (fun i=>[.p (.int .i64 ((S i).1)),.p (.int .i64 ((S i).2.1)),.p (.int .i64 ((S i).2.2.1)),.p (.int .i64 ((S i).2.2.2.1)),.p (.int .i64 ((S i).2.2.2.2.1))])),(AE nb),(AE n)]:=by kernel_rfl
theorem cs6f (K:Int) (g:Nat→T_Bar) (nb N:Nat) (n:Nat) (S:Nat→T_Step) :
    pathOb Tryz.prog Tryz.f12 0 [rg 3,rm [(2,oc [(0,brOb nb g)] (.agg [.p (.int .i64 N),.ar 2 0 0 nb]))] 3,rm [(1,oc [] (.p (.bool true)))] 1,.dec false,rg 1,rg 2,.dec false,rg 2,.dec false,rg 2,.dec false,rg 2,.dec true,rm [(1,oc [(0,sqOb n S)] (.tup [.ar 5 0 0 n,.p (.bool false)]))] 5,rg 1,.dec false,rg 3] [.code (bodyOf Tryz.f12)] (start Tryz.f12 [] 0 [.p (.int .i64 K),grG g nb N]) [] 1 [] (.tup [clZ,.p (.bool false)]) =
    some [(NT 0 1),Con Tryz.prog 52 0 [] [(zf110 N nb g)] (zf119 nb g) (.agg [.p (.int .i64 (↑N:Int)),.ar 2 0 0 nb]),(NT 0 1),((true=true)→ (AN 1)),(NT 0 1),Con Tryz.prog 53 0 [] [(zf110 N nb g)] [] (.p (.bool true)),((!true)=false),((K==1)=false),((K==2)=false),((K==3)=false),((K==6)=true),(NT 0 1),Con Tryz.prog 55 0 [] [(zf110 N nb g)] (zf39 n S) (.tup [.ar 5 0 0 n,.p (.bool false)]),(false=false),(NT 0 1),((true=true)→ (AN 1)),(NT 0 1),(AI 0),(AI 0),(AI 0),(false=false)]:=by kernel_rfl
theorem csX (K:Int) (g:Nat→T_Bar) (nb N:Nat) :
    pathOb Tryz.prog Tryz.f12 0 [rg 3,rm [(2,oc [(0,brOb nb g)] (.agg [.p (.int .i64 N),.ar 2 0 0 nb]))] 3,rm [(1,oc [] (.p (.bool true)))] 1,.dec false,rg 1,rg 2,.dec false,rg 2,.dec false,rg 2,.dec false,rg 2,.dec false,rg 3] [.code (bodyOf Tryz.f12)] (start Tryz.f12 [] 0 [.p (.int .i64 K),grG g nb N]) [] 1 [] (.tup [clZ,.p (.bool false)]) =
    some [(NT 0 1),Con Tryz.prog 52 0 [] [(zf110 N nb g)] (zf119 nb g) (.agg [.p (.int .i64 (↑N:Int)),.ar 2 0 0 nb]),(NT 0 1),((true=true)→ (AN 1)),(NT 0 1),Con Tryz.prog 53 0 [] [(zf110 N nb g)] [] (.p (.bool true)),((!true)=false),((K==1)=false),((K==2)=false),((K==3)=false),((K==6)=false),(NT 0 1),((true=true)→ (AN 1)),(NT 0 1),(AI 0),(AI 0),(AI 0),(false=false)]:=by kernel_rfl
end Go.Proofs.YtkkjoghiigiokaaGreat.Mach
namespace Go.Proofs.YtkkjoghiigiokaaGreat.Mach
open Go
set_option linter.unusedVariables false
set_option linter.unusedSimpArgs false
noncomputable def acF (N nb:Nat) (g:Nat→T_Bar):T_IntS:=((accI N 2 3 g nb).length,fun t=>(((accI N 2 3 g nb).getD t 0:Nat):Int))
theorem qL_at {Q:Nat→Int}:∀ m t,t<m→(qL Q m).getD t 0=(Q t).toNat
  | 0,t,h=>absurd h (Nat.not_lt_zero _)
  | m+1,t,h=>by
    rw [qL]
    by_cases ht:t<m
    · have:=qL_at (Q:=Q) m t ht
      simp only [List.getD_eq_getElem?_getD] at this ⊢
      rw [List.getElem?_append_left (by rw [qL_length];exact ht)]
      exact this
    · have e:t=m:=by omega
      subst e
      simp only [List.getD_eq_getElem?_getD]
      rw [List.getElem?_append_right (by rw [qL_length];omega),qL_length]
      simp
theorem con_Accepted_i {N nb:Nat} {g:Nat→T_Bar} (hg:isGraphF ((N:Int),(nb,g),())=true) :
    Con Tryz.prog 66 0 [] [grG g nb N,.p (.int .i64 2),.p (.int .i64 3)] [(0,iOb (acF N nb g).1 (acF N nb g).2)] (.ar 1 0 0 (acF N nb g).1):=by
  obtain ⟨m,F,T,Q,hrun,hm,hn,hq⟩:=con_RunPebbles_i hg 2 3 (by omega) (by omega)
  have e1:(acF N nb g).1=m:=by show (accI N 2 3 g nb).length=m;rw [← hq,qL_length]
  have e2:∀ t,t<m→(acF N nb g).2 t=Q t:=fun t ht=>by
    show (((accI N 2 3 g nb).getD t 0:Nat):Int)=Q t
    rw [← hq,qL_at m t ht]
    have:=hn t ht
    omega
  have cc:=con_copyInts m Q (by omega)
  rw [e1]
  generalize (acF N nb g).2=q at e2 ⊢
  refine con_start Tryz.func66 rfl (by kernel_rfl) rfl (fun c hc=>?_)
  refine path_ok mixed Tryz.func66 hc (acI g nb N (2:Nat) (3:Nat) m F T Q q) ?_
  repeat' (first | exact aN | apply aI)
  all_goals (first | exact aE _ | omega | rfl | (intros;first | assumption | exact trivial | rfl | exact fT ‹_› | ((repeat' (first | assumption | apply anda | apply notf));done)) | (exact hrun) | (exact cc) | (intro t ht;refine ⟨True.intro,?_⟩;rw [e2 t ht]) | (intro t ht;simp [All];done))
theorem con_Accepted_s {N nb:Nat} {g:Nat→T_Bar} (hg:isGraphF ((N:Int),(nb,g),())=true) :
    Con Tryz.prog 54 0 [] [grG g nb N,.p (.int .i64 2),.p (.int .i64 3)] [(0,iOb (acF N nb g).1 (acF N nb g).2)] (.ar 1 0 0 (acF N nb g).1):=by
  obtain ⟨m,F,T,Q,hrun,hm,hn,hq⟩:=con_RunPebbles_s hg 2 3 (by omega) (by omega)
  have e1:(acF N nb g).1=m:=by show (accI N 2 3 g nb).length=m;rw [← hq,qL_length]
  have e2:∀ t,t<m→(acF N nb g).2 t=Q t:=fun t ht=>by
    show (((accI N 2 3 g nb).getD t 0:Nat):Int)=Q t
    rw [← hq,qL_at m t ht]
    have:=hn t ht
    omega
  rw [e1]
  generalize (acF N nb g).2=q at e2 ⊢
  refine con_start Tryz.func54 rfl (by kernel_rfl) rfl (fun c hc=>?_)
  refine path_ok mixed Tryz.func54 hc (acS g nb N (2:Nat) (3:Nat) m F T Q q) ?_
  repeat' (first | exact aN | apply aI)
  all_goals (first | exact aE _ | omega | rfl | (intros;first | assumption | exact trivial | rfl | exact fT ‹_› | ((repeat' (first | assumption | apply anda | apply notf));done)) | (exact hrun) | (simp;omega) | (intro t ht;refine ⟨True.intro,?_⟩;rw [e2 t ht]) | (intro t ht;simp [All];done))
theorem acF_le (N nb:Nat) (g:Nat→T_Bar):(acF N nb g).1≤nb:=accI_len N 2 3 g nb
theorem con_OnlyBars_s (n:Int) (M:Nat) (A:Nat→T_Bar) (S:T_IntS) (hM:M≤100) (hS:S.1≤1000) :
    Con Tryz.prog 56 0 [] [gaI n M A,inL S] [(0,brOb (obF S A 0 M zB).1 (obF S A 0 M zB).2)] (.agg [.p (.int .i64 n),.ar 2 0 0 (obF S A 0 M zB).1]):=by
  refine con_start Tryz.func56 rfl (by kernel_rfl) rfl (fun c hc=>?_)
  generalize hR:obF S A 0 M zB=R
  have lp:∀ d i cc f,i+d=M→cc≤i→obF S A i d (cc,f)=R→Run Tryz.prog c 56 zf85 (OBs n M A S i cc f) (Post c [(0,brOb R.1 R.2)] (.agg [.p (.int .i64 n),.ar 2 0 0 R.1])):=by
    intro d
    induction d with
    | zero =>
      intro i cc f hi hcc he
      have hd:decide ((i:Int)<(M:Int))=false:=by simp;omega
      rw [← he]
      refine path_ok mixed Tryz.func56 hc (obe n M A S i cc f) ?_
      repeat' (first | exact aN | apply aI)
      all_goals (first | exact aA _ _ | exact aE _ | omega | rfl | (intros;first | assumption | exact trivial | rfl | exact fT ‹_› | ((repeat' (first | assumption | apply anda | apply notf));done)) | (exact hd) | (intro j hj;simp [All]))
    | succ d ih =>
      intro i cc f hi hcc he
      have hd:decide ((i:Int)<(M:Int))=true:=by simp;omega
      have hh:=con_l2Has S (i:Int) (by omega)
      rw [obF] at he
      cases hb:hasI S.2 i S.1 with
      | true =>
        rw [hb] at he hh
        refine piece_ok mixed hc (obt n M A S i cc f) ?_ (ih (i+1) (cc+1) _ (by omega) (by omega) he)
        repeat' (first | exact aN | apply aI)
        all_goals (first | exact aP _ _ | omega | rfl | (intros;first | assumption | exact trivial | rfl | exact fT ‹_› | ((repeat' (first | assumption | apply anda | apply notf));done)) | (exact hd) | (exact hh) | (intro j hj;by_cases h':j<cc<;>simp [h',snoc,cvtL,cvt,tg,tru,All]))
      | false =>
        rw [hb] at he hh
        refine piece_ok mixed hc (obf n M A S i cc f) ?_ (ih (i+1) cc _ (by omega) (by omega) he)
        repeat' (first | exact aN | apply aI)
        all_goals (first | exact aP _ _ | exact aA _ _ | omega | rfl | (intros;first | assumption | exact trivial | rfl | exact fT ‹_› | ((repeat' (first | assumption | apply anda | apply notf));done)) | (exact hd) | (exact hh) | (intro j hj;simp [All]))
  refine piece_ok mixed hc (obz n M A S) ?_ (lp M 0 0 _ (by omega) (by omega) hR)
  repeat' (first | exact aN | apply aI)
  all_goals (first | exact aP _ _ | exact aA _ _ | omega | rfl | (intros;first | assumption | exact trivial | rfl | exact fT ‹_› | ((repeat' (first | assumption | apply anda | apply notf));done)) | (simp;done) | (intro j hj;simp [All]))
theorem flS_le {C:Nat→T_IntS} {N:Nat} (hN:N≤8):∀ i,(∀ j,j<i→(C j).1≤N)→(flS C i).1≤9*i
  | 0,_=>Nat.le_refl _
  | i+1,h=>by
    have h1:=flS_le hN i (fun j hj=>h j (by omega))
    have h2:=h i (by omega)
    show (flS C i).1+(C i).1+1≤_
    omega
theorem con_Flat {N n:Nat} {C:Nat→T_IntS} (hN:N≤8) (hn:n≤100) (hC:∀ i,i<n→(C i).1≤N) :
    Con Tryz.prog 58 0 [] [ssA n C] [(0,iOb (flS C n).1 (flS C n).2)] (.ar 1 0 0 (flS C n).1):=by
  refine con_start Tryz.func58 rfl (by kernel_rfl) rfl (fun c hc=>?_)
  have lo:∀ d i,i+d=n→Run Tryz.prog c 58 zf84 (LFs n C i (flS C i).1 (flS C i).2) (Post c [(0,iOb (flS C n).1 (flS C n).2)] (.ar 1 0 0 (flS C n).1)):=by
    intro d
    induction d with
    | zero =>
      intro i hi
      obtain rfl:i=n:=by omega
      have hd:decide ((i:Int)<(i:Int))=false:=by simp
      generalize flS C i=R
      refine path_ok mixed Tryz.func58 hc (lfe i C i R.1 R.2) ?_
      repeat' (first | exact aN | apply aI)
      all_goals (first | exact aA _ _ | exact aE _ | omega | rfl | (intros;first | assumption | exact trivial | rfl | exact fT ‹_› | ((repeat' (first | assumption | apply anda | apply notf));done)) | (exact hd) | (intro t ht;simp [All];done))
    | succ d ih =>
      intro i hi
      have hd:decide ((i:Int)<(n:Int))=true:=decide_eq_true (by omega)
      have h1:=flS_le hN i (fun j hj=>hC j (by omega))
      have h2:=hC i (by omega)
      have hr:=ih (i+1) (by omega)
      rw [show flS C (i+1)=((flS C i).1+(C i).1+1,catM (flS C i).1 (flS C i).2 (C i).1 (C i).2) from rfl] at hr
      generalize flS C i=R at hr h1 ⊢
      refine piece_ok mixed hc (lft n C i R.1 R.2) ?_ hr
      repeat' (first | exact aN | apply aI)
      all_goals (first | exact aP _ _ | omega | rfl | (intros;first | assumption | exact trivial | rfl | exact fT ‹_› | ((repeat' (first | assumption | apply anda | apply notf));done)) | (exact hd) | (intro t ht;by_cases h':t<R.1+(C i).1<;>by_cases h'':t<R.1<;>simp [h',h'',catM,cvtL,cvt,tg,tru,All]<;>omega) | (simp;omega) | (intro t ht;simp [All];done))
  refine piece_ok mixed hc (lfz n C) ?_ (lo n 0 (by omega))
  repeat' (first | exact aN | apply aI)
  all_goals (first | exact aP _ _ | exact aA _ _ | omega | rfl | (intros;first | assumption | exact trivial | rfl | exact fT ‹_› | ((repeat' (first | assumption | apply anda | apply notf));done)) | (intro t ht;exact absurd ht (Nat.not_lt_zero _)) | (intro t ht;simp [All];done))
end Go.Proofs.YtkkjoghiigiokaaGreat.Mach
namespace Go.Proofs.YtkkjoghiigiokaaGreat.Mach
open Go
set_option linter.unusedVariables false
set_option linter.unusedSimpArgs false
theorem lk_c (k:Nat) (ob:Ob) (H:Hp) (x:Id):lk ((k,ob)::H) x=if x.o=k then vw ob x.m else lk H x:=by
  unfold lk
  rw [List.lookup_cons]
  by_cases h:x.o=k
  · simp [h]
  · have:(x.o==k)=false:=by simpa using h
    rw [this,if_neg h]
theorem lk_n (x:Id):lk [] x=none:=rfl
def plOb (n:Nat) (f:Nat→T_Place):Ob:=⟨false,2,n,fun i=>[.p (.int .i64 (f i).1),.p (.int .i64 (f i).2.1)]⟩
def clV (w:T_Claim):AV:=.agg [.p (.int .i64 w.1),.p (.int .i64 w.2.1.1),.ar 2 0 0 w.2.1.2.1.1,.p (.int .i64 w.2.2.1.1.1.1),.ar 2 1 0 w.2.2.1.1.1.2.1.1,.ar 2 2 0 w.2.2.1.1.2.1.1,.ar 1 3 0 w.2.2.1.2.1.1,.ar 5 4 0 w.2.2.2.1.1,.ar 1 5 0 w.2.2.2.2.1.1]
def clH (w:T_Claim):Hp:=[(0,brOb w.2.1.2.1.1 w.2.1.2.1.2),(1,brOb w.2.2.1.1.1.2.1.1 w.2.2.1.1.1.2.1.2),(2,plOb w.2.2.1.1.2.1.1 w.2.2.1.1.2.1.2),(3,iOb w.2.2.1.2.1.1 w.2.2.1.2.1.2),(4,sqOb w.2.2.2.1.1 w.2.2.2.1.2),(5,iOb w.2.2.2.2.1.1 w.2.2.2.2.1.2)]
def zBs:T_BarS:=(0,fun _=>(0,0,()))
def zIs:T_IntS:=(0,fun _=>0)
def zSs:T_StepS:=(0,fun _=>stZ)
def zTs:T_Tensegrity:=(((0,zBs,()),(0,fun _=>(0,0,())),()),zIs,())
def clW (K N:Int) (G:T_BarS) (S:T_StepS) (I:T_IntS):T_Claim:=(K,(N,G,()),zTs,S,I,())
def clW0:T_Claim:=clW 0 0 zBs zSs zIs
theorem add_z {f:FuncId} {a:List AV} {b:Bool} (h:Con Tryz.prog f 0 [] a [] (.tup [clZ,.p (.bool b)])):Con Tryz.prog f 0 [] a (clH clW0) (.tup [clV clW0,.p (.bool b)]):=by
  refine Con.add (fun k=>true) h (fun o ob ho=>?_) (fun o ob ho=>?_) (fun o ob ho=>?_) rfl (fun j hj=>?_)
  · simp only [clH,lk_c,lk_n] at ho ⊢
    by_cases h0:o.o=0
    · rw [if_pos h0] at ho;obtain ⟨_,rfl⟩:=vw_plain rfl ho;exact .inr ⟨by simp [h0],rfl⟩
    rw [if_neg h0] at ho
    by_cases h1:o.o=1
    · rw [if_pos h1] at ho;obtain ⟨_,rfl⟩:=vw_plain rfl ho;exact .inr ⟨by simp [h1],rfl⟩
    rw [if_neg h1] at ho
    by_cases h2:o.o=2
    · rw [if_pos h2] at ho;obtain ⟨_,rfl⟩:=vw_plain rfl ho;exact .inr ⟨by simp [h2],rfl⟩
    rw [if_neg h2] at ho
    by_cases h3:o.o=3
    · rw [if_pos h3] at ho;obtain ⟨_,rfl⟩:=vw_plain rfl ho;exact .inr ⟨by simp [h3],rfl⟩
    rw [if_neg h3] at ho
    by_cases h4:o.o=4
    · rw [if_pos h4] at ho;obtain ⟨_,rfl⟩:=vw_plain rfl ho;exact .inr ⟨by simp [h4],rfl⟩
    rw [if_neg h4] at ho
    by_cases h5:o.o=5
    · rw [if_pos h5] at ho;obtain ⟨_,rfl⟩:=vw_plain rfl ho;exact .inr ⟨by simp [h5],rfl⟩
    rw [if_neg h5] at ho
    cases ho
  · simp only [clH,lk_c,lk_n] at ho ⊢
    cases ho
  · simp only [lk_c,lk_n] at ho
    cases ho
  · have hj:j<9:=hj
    have:j=0∨j=1∨j=2∨j=3∨j=4∨j=5∨j=6∨j=7∨j=8:=by omega
    rcases this with rfl | rfl | rfl | rfl | rfl | rfl | rfl | rfl | rfl
    · exact .inl ⟨rfl,.inl ⟨_,rfl⟩⟩
    · exact .inl ⟨rfl,.inl ⟨_,rfl⟩⟩
    · exact .inr ⟨rfl,_,_,_,rfl⟩
    · exact .inl ⟨rfl,.inl ⟨_,rfl⟩⟩
    · exact .inr ⟨rfl,_,_,_,rfl⟩
    · exact .inr ⟨rfl,_,_,_,rfl⟩
    · exact .inr ⟨rfl,_,_,_,rfl⟩
    · exact .inr ⟨rfl,_,_,_,rfl⟩
    · exact .inr ⟨rfl,_,_,_,rfl⟩
theorem add_s {f:FuncId} {a:List AV} {b:Bool} {K:Int} {N nb n:Nat} {g:Nat→T_Bar} {S:Nat→T_Step} (h:Con Tryz.prog f 0 [] a [(0,brOb nb g),(4,sqOb n S)] (.tup [clS K N nb n,.p (.bool b)])):Con Tryz.prog f 0 [] a (clH (clW K N (nb,g) (n,S) zIs)) (.tup [clV (clW K N (nb,g) (n,S) zIs),.p (.bool b)]):=by
  refine Con.add (fun k=>!((k==0)||(k==4))) h (fun o ob ho=>?_) (fun o ob ho=>?_) (fun o ob ho=>?_) rfl (fun j hj=>?_)
  · simp only [clH,lk_c,lk_n] at ho ⊢
    by_cases h0:o.o=0
    · rw [if_pos h0] at ho;exact .inl ⟨by simp only [h0];exact ho,by simp [h0]⟩
    rw [if_neg h0] at ho
    by_cases h1:o.o=1
    · rw [if_pos h1] at ho;obtain ⟨_,rfl⟩:=vw_plain rfl ho;exact .inr ⟨by simp [h1],rfl⟩
    rw [if_neg h1] at ho
    by_cases h2:o.o=2
    · rw [if_pos h2] at ho;obtain ⟨_,rfl⟩:=vw_plain rfl ho;exact .inr ⟨by simp [h2],rfl⟩
    rw [if_neg h2] at ho
    by_cases h3:o.o=3
    · rw [if_pos h3] at ho;obtain ⟨_,rfl⟩:=vw_plain rfl ho;exact .inr ⟨by simp [h3],rfl⟩
    rw [if_neg h3] at ho
    by_cases h4:o.o=4
    · rw [if_pos h4] at ho;exact .inl ⟨by simp only [h4];exact ho,by simp [h4]⟩
    rw [if_neg h4] at ho
    by_cases h5:o.o=5
    · rw [if_pos h5] at ho;obtain ⟨_,rfl⟩:=vw_plain rfl ho;exact .inr ⟨by simp [h5],rfl⟩
    rw [if_neg h5] at ho
    cases ho
  · simp only [clH,lk_c,lk_n] at ho ⊢
    by_cases h0:o.o=0
    · rw [if_pos h0] at ho;exact ⟨by simp [h0],by simp only [h0];exact ho⟩
    rw [if_neg h0] at ho
    by_cases h4:o.o=4
    · rw [if_pos h4] at ho;exact ⟨by simp [h4],by simp only [h4];exact ho⟩
    rw [if_neg h4] at ho
    cases ho
  · simp only [lk_c,lk_n] at ho
    by_cases h0:o.o=0
    · rw [if_pos h0] at ho;obtain ⟨_,rfl⟩:=vw_plain rfl ho;intro i j _ hj
      have hj:j<2:=hj
      have:j=0∨j=1:=by omega
      rcases this with rfl | rfl<;>exact ⟨_,rfl⟩
    rw [if_neg h0] at ho
    by_cases h4:o.o=4
    · rw [if_pos h4] at ho;obtain ⟨_,rfl⟩:=vw_plain rfl ho;intro i j _ hj
      have hj:j<5:=hj
      have:j=0∨j=1∨j=2∨j=3∨j=4:=by omega
      rcases this with rfl | rfl | rfl | rfl | rfl<;>exact ⟨_,rfl⟩
    rw [if_neg h4] at ho
    cases ho
  · have hj:j<9:=hj
    have:j=0∨j=1∨j=2∨j=3∨j=4∨j=5∨j=6∨j=7∨j=8:=by omega
    rcases this with rfl | rfl | rfl | rfl | rfl | rfl | rfl | rfl | rfl
    · exact .inl ⟨rfl,.inl ⟨_,rfl⟩⟩
    · exact .inl ⟨rfl,.inl ⟨_,rfl⟩⟩
    · exact .inl ⟨rfl,.inr ⟨_,_,_,_,rfl,rfl⟩⟩
    · exact .inl ⟨rfl,.inl ⟨_,rfl⟩⟩
    · exact .inr ⟨rfl,_,_,_,rfl⟩
    · exact .inr ⟨rfl,_,_,_,rfl⟩
    · exact .inr ⟨rfl,_,_,_,rfl⟩
    · exact .inl ⟨rfl,.inr ⟨_,_,_,_,rfl,rfl⟩⟩
    · exact .inr ⟨rfl,_,_,_,rfl⟩
theorem add_n {f:FuncId} {a:List AV} {b:Bool} {K:Int} {N nb n:Nat} {g:Nat→T_Bar} {F:Nat→Int} (h:Con Tryz.prog f 0 [] a [(0,brOb nb g),(5,iOb n F)] (.tup [clN K N nb n,.p (.bool b)])):Con Tryz.prog f 0 [] a (clH (clW K N (nb,g) zSs (n,F))) (.tup [clV (clW K N (nb,g) zSs (n,F)),.p (.bool b)]):=by
  refine Con.add (fun k=>!((k==0)||(k==5))) h (fun o ob ho=>?_) (fun o ob ho=>?_) (fun o ob ho=>?_) rfl (fun j hj=>?_)
  · simp only [clH,lk_c,lk_n] at ho ⊢
    by_cases h0:o.o=0
    · rw [if_pos h0] at ho;exact .inl ⟨by simp only [h0];exact ho,by simp [h0]⟩
    rw [if_neg h0] at ho
    by_cases h1:o.o=1
    · rw [if_pos h1] at ho;obtain ⟨_,rfl⟩:=vw_plain rfl ho;exact .inr ⟨by simp [h1],rfl⟩
    rw [if_neg h1] at ho
    by_cases h2:o.o=2
    · rw [if_pos h2] at ho;obtain ⟨_,rfl⟩:=vw_plain rfl ho;exact .inr ⟨by simp [h2],rfl⟩
    rw [if_neg h2] at ho
    by_cases h3:o.o=3
    · rw [if_pos h3] at ho;obtain ⟨_,rfl⟩:=vw_plain rfl ho;exact .inr ⟨by simp [h3],rfl⟩
    rw [if_neg h3] at ho
    by_cases h4:o.o=4
    · rw [if_pos h4] at ho;obtain ⟨_,rfl⟩:=vw_plain rfl ho;exact .inr ⟨by simp [h4],rfl⟩
    rw [if_neg h4] at ho
    by_cases h5:o.o=5
    · rw [if_pos h5] at ho;exact .inl ⟨by simp only [h5];exact ho,by simp [h5]⟩
    rw [if_neg h5] at ho
    cases ho
  · simp only [clH,lk_c,lk_n] at ho ⊢
    by_cases h0:o.o=0
    · rw [if_pos h0] at ho;exact ⟨by simp [h0],by simp only [h0];exact ho⟩
    rw [if_neg h0] at ho
    by_cases h5:o.o=5
    · rw [if_pos h5] at ho;exact ⟨by simp [h5],by simp only [h5];exact ho⟩
    rw [if_neg h5] at ho
    cases ho
  · simp only [lk_c,lk_n] at ho
    by_cases h0:o.o=0
    · rw [if_pos h0] at ho;obtain ⟨_,rfl⟩:=vw_plain rfl ho;intro i j _ hj
      have hj:j<2:=hj
      have:j=0∨j=1:=by omega
      rcases this with rfl | rfl<;>exact ⟨_,rfl⟩
    rw [if_neg h0] at ho
    by_cases h5:o.o=5
    · rw [if_pos h5] at ho;obtain ⟨_,rfl⟩:=vw_plain rfl ho;intro i j _ hj
      have hj:j<1:=hj
      have:j=0:=by omega
      subst this;exact ⟨_,rfl⟩
    rw [if_neg h5] at ho
    cases ho
  · have hj:j<9:=hj
    have:j=0∨j=1∨j=2∨j=3∨j=4∨j=5∨j=6∨j=7∨j=8:=by omega
    rcases this with rfl | rfl | rfl | rfl | rfl | rfl | rfl | rfl | rfl
    · exact .inl ⟨rfl,.inl ⟨_,rfl⟩⟩
    · exact .inl ⟨rfl,.inl ⟨_,rfl⟩⟩
    · exact .inl ⟨rfl,.inr ⟨_,_,_,_,rfl,rfl⟩⟩
    · exact .inl ⟨rfl,.inl ⟨_,rfl⟩⟩
    · exact .inr ⟨rfl,_,_,_,rfl⟩
    · exact .inr ⟨rfl,_,_,_,rfl⟩
    · exact .inr ⟨rfl,_,_,_,rfl⟩
    · exact .inr ⟨rfl,_,_,_,rfl⟩
    · exact .inl ⟨rfl,.inr ⟨_,_,_,_,rfl,rfl⟩⟩
theorem obF_le (S:T_IntS) (A:Nat→T_Bar):∀ d i (x:T_BarS),(obF S A i d x).1≤x.1+d
  | 0,_,_=>Nat.le_refl _
  | d+1,i,x=>by
    rw [obF]
    have:=obF_le S A d (i+1) (bif hasI S.2 i S.1 then (x.1+1,snoc x.1 x.2 (A i)) else x)
    revert this
    cases hasI S.2 i S.1<;>intro this<;>simp only [cond_true,cond_false] at this ⊢<;>omega
def coS (K:Int) (N:Nat) (G:T_BarS) (R:T_StepS×Bool):T_Claim×Bool:=if R.2=true then (clW K N G R.1 zIs,true) else (clW0,false)
def coI (K:Int) (N:Nat) (G:T_BarS) (R:T_IntS×Bool):T_Claim×Bool:=if R.2=true then (clW K N G zSs R.1,true) else (clW0,false)
theorem coS_t {K:Int} {N:Nat} {G:T_BarS} {R:T_StepS×Bool} (h:R.2=true):coS K N G R=(clW K N G R.1 zIs,true):=by rw [coS,if_pos h]
theorem coS_f {K:Int} {N:Nat} {G:T_BarS} {R:T_StepS×Bool} (h:R.2=false):coS K N G R=(clW0,false):=by rw [coS,h];rfl
theorem coI_t {K:Int} {N:Nat} {G:T_BarS} {R:T_IntS×Bool} (h:R.2=true):coI K N G R=(clW K N G zSs R.1,true):=by rw [coI,if_pos h]
theorem coI_f {K:Int} {N:Nat} {G:T_BarS} {R:T_IntS×Bool} (h:R.2=false):coI K N G R=(clW0,false):=by rw [coI,h];rfl
noncomputable def coA (K:Int) (N nb:Nat) (g:Nat→T_Bar):T_Claim×Bool :=
  if K=1 then coS K N (nb,g) (fsA N (obF (acF N nb g) g 0 nb zB).1 (obF (acF N nb g) g 0 nb zB).2)
  else if K=2 then (if frGr ((N:Int),(nb,g),())=0 then (clW0,false) else (clW K N (nb,g) zSs (flS (compsG ((N:Int),(nb,g),())).2 (compsG ((N:Int),(nb,g),())).1),true))
  else if K=3 then coI K N (nb,g) (ovS g nb N 2 3 (2 ^ N - 1) 1)
  else if K=6 then coS K N (nb,g) (fsA N nb g)
  else (clW0,false)
noncomputable def coG (K:Int) (v:T_Graph):T_Claim×Bool:=if isGraphF v=true then coA K v.1.toNat v.2.1.1 v.2.1.2 else (clW0,false)
theorem con_ClaimG_i (K:Int) (v:T_Graph) (hs:smS s_Graph v):Con Tryz.prog 14 0 [] [.p (.int .i64 K),graphA v] (clH (coG K v).1) (.tup [clV (coG K v).1,.p (.bool (coG K v).2)]):=by
  have hcg:=con_IsGraph_i v hs
  cases hg:isGraphF v with
  | false =>
    rw [hg] at hcg
    rw [show coG K v=(clW0,false) by unfold coG;rw [hg];rfl]
    refine add_z (con_start Tryz.func14 rfl (by kernel_rfl) rfl (fun c hc=>?_))
    refine path_ok mixed Tryz.func14 hc (ciN K v) ?_
    repeat' (first | exact aN | apply aI)
    all_goals (first | omega | rfl | (intros;first | assumption | exact trivial | rfl | exact fT ‹_› | ((repeat' (first | assumption | apply anda | apply notf));done)) | (exact hcg) | rfl)
  | true =>
    rw [hg] at hcg
    obtain ⟨N,nb,g,rfl⟩:=graph_cases v hg
    obtain ⟨hN,hnb,hok⟩:=graph_in hg
    rw [show coG K ((N:Int),(nb,g),())=coA K N nb g by unfold coG;rw [hg];rfl]
    have cc:=con_copyG N nb g (by omega)
    unfold coA
    by_cases k1:K=1
    · rw [if_pos k1]
      have ca:=con_Accepted_i hg
      have hal:=acF_le N nb g
      have co:=con_OnlyBars (N:Int) nb g (acF N nb g) (by omega) (by omega)
      have hol:=obF_le (acF N nb g) g nb 0 zB
      have cf:=con_FindSteps_i (N:=N) (nb:=(obF (acF N nb g) g 0 nb zB).1) (g:=(obF (acF N nb g) g 0 nb zB).2) (by have:zB.1=0:=rfl;omega)
      generalize acF N nb g=q at *
      generalize obF q g 0 nb zB=G at *
      generalize fsA N G.1 G.2=R at *
      subst k1
      cases hb:R.2 with
      | true =>
        rw [hb] at cf
        rw [coS_t hb]
        refine add_s (con_start Tryz.func14 rfl (by kernel_rfl) rfl (fun c hc=>?_))
        refine path_ok mixed Tryz.func14 hc (ci1t 1 g nb N q.1 q.2 G.1 G.2 R.1.1 R.1.2) ?_
        repeat' (first | exact aN | apply aI)
        all_goals (first | exact aA _ _ | exact aE _ | omega | rfl | (intros;first | assumption | exact trivial | rfl | exact fT ‹_› | ((repeat' (first | assumption | apply anda | apply notf));done)) | (exact hcg) | (exact cc) | (exact ca) | (exact co) | (exact cf) | rfl | (intro t ht;simp [All];done))
      | false =>
        rw [hb] at cf
        rw [coS_f hb]
        refine add_z (con_start Tryz.func14 rfl (by kernel_rfl) rfl (fun c hc=>?_))
        refine path_ok mixed Tryz.func14 hc (ci1f 1 g nb N q.1 q.2 G.1 G.2 R.1.1 R.1.2) ?_
        repeat' (first | exact aN | apply aI)
        all_goals (first | omega | rfl | (intros;first | assumption | exact trivial | rfl | exact fT ‹_› | ((repeat' (first | assumption | apply anda | apply notf));done)) | (exact hcg) | (exact cc) | (exact ca) | (exact co) | (exact cf) | rfl | (intro t ht;simp [All];done))
    rw [if_neg k1]
    have b1:(K==1)=false:=by simp [k1]
    by_cases k2:K=2
    · rw [if_pos k2]
      have cr:=con_IsRigid_i ((N:Int),(nb,g),()) hs
      have cp:=con_Comps_i ((N:Int),(nb,g),()) hs
      obtain ⟨p1,p2⟩:=compsG_le ((N:Int),(nb,g),())
      generalize compsG ((N:Int),(nb,g),())=C at *
      have lo:∀ (ok:Bool) (c:Cx) (H:Hp) (r:AV),c.n=0→Run Tryz.prog c 14 zf34 (CIs K g nb N ok C.1 C.2 C.1 (flS C.2 C.1).1 (flS C.2 C.1).2) (Post c H r) →
          ∀ d i,i+d=C.1→Run Tryz.prog c 14 zf34 (CIs K g nb N ok C.1 C.2 i (flS C.2 i).1 (flS C.2 i).2) (Post c H r):=by
        intro ok c H r hc hend d
        induction d with
        | zero =>
          intro i hi
          obtain rfl:i=C.1:=by omega
          exact hend
        | succ d ih =>
          intro i hi
          have hd:decide ((i:Int)<(C.1:Int))=true:=decide_eq_true (by omega)
          have h1:=flS_le (Nat.le_refl 8) i (fun j hj=>p2 j (by omega))
          have h2:=p2 i (by omega)
          have hr:=ih (i+1) (by omega)
          rw [show flS C.2 (i+1)=((flS C.2 i).1+(C.2 i).1+1,catM (flS C.2 i).1 (flS C.2 i).2 (C.2 i).1 (C.2 i).2) from rfl] at hr
          generalize flS C.2 i=R at hr h1 ⊢
          refine piece_ok mixed hc (ci2l K g nb N ok C.1 C.2 i R.1 R.2) ?_ hr
          repeat' (first | exact aN | apply aI)
          all_goals (first | exact aA _ _ | omega | rfl | (intros;first | assumption | exact trivial | rfl | exact fT ‹_› | ((repeat' (first | assumption | apply anda | apply notf));done)) | (exact hd) | (intro t ht;by_cases h':t<R.1+(C.2 i).1<;>by_cases h'':t<R.1<;>simp [h',h'',catM,cvtL,cvt,tg,tru,All]<;>omega) | (simp;omega) | (intro t ht;simp [All];done))
      have hd:decide ((C.1:Int)<(C.1:Int))=false:=by simp
      by_cases hf:frGr ((N:Int),(nb,g),())=0
      · rw [if_pos hf]
        rw [show (frGr ((N:Int),(nb,g),())==0)=true by simp [hf]] at cr
        refine add_z (con_start Tryz.func14 rfl (by kernel_rfl) rfl (fun c hc=>?_))
        have hend:Run Tryz.prog c 14 zf34 (CIs K g nb N false C.1 C.2 C.1 (flS C.2 C.1).1 (flS C.2 C.1).2) (Post c [] (.tup [clZ,.p (.bool false)])):=by
          generalize flS C.2 C.1=R
          refine path_ok mixed Tryz.func14 hc (ci2f K g nb N C.1 C.2 C.1 R.1 R.2) ?_
          repeat' (first | exact aN | apply aI)
          all_goals (first | omega | rfl | (intros;first | assumption | exact trivial | rfl | exact fT ‹_› | ((repeat' (first | assumption | apply anda | apply notf));done)) | (exact hd) | rfl | (intro t ht;simp [All];done))
        have hr:=lo false c [] (.tup [clZ,.p (.bool false)]) hc hend C.1 0 (by omega)
        have b2:(K==2)=true:=by simp [k2]
        refine piece_ok mixed hc (ci2z K g nb N true C.1 C.2) ?_ hr
        repeat' (first | exact aN | apply aI)
        all_goals (first | exact aA _ _ | omega | rfl | (intros;first | assumption | exact trivial | rfl | exact fT ‹_› | ((repeat' (first | assumption | apply anda | apply notf));done)) | (exact hcg) | (exact cc) | (exact cr) | (exact cp) | (exact b1) | (exact b2) | rfl | (intro t ht;exact absurd ht (Nat.not_lt_zero _)) | (intro t ht;simp [All];done))
      · rw [if_neg hf]
        rw [show (frGr ((N:Int),(nb,g),())==0)=false by simp [hf]] at cr
        refine add_n (con_start Tryz.func14 rfl (by kernel_rfl) rfl (fun c hc=>?_))
        have hend:Run Tryz.prog c 14 zf34 (CIs K g nb N true C.1 C.2 C.1 (flS C.2 C.1).1 (flS C.2 C.1).2) (Post c [(0,brOb nb g),(5,iOb (flS C.2 C.1).1 (flS C.2 C.1).2)] (.tup [clN K N nb (flS C.2 C.1).1,.p (.bool true)])):=by
          generalize flS C.2 C.1=R
          refine path_ok mixed Tryz.func14 hc (ci2t K g nb N C.1 C.2 C.1 R.1 R.2) ?_
          repeat' (first | exact aN | apply aI)
          all_goals (first | exact aA _ _ | exact aE _ | omega | rfl | (intros;first | assumption | exact trivial | rfl | exact fT ‹_› | ((repeat' (first | assumption | apply anda | apply notf));done)) | (exact hd) | rfl | (intro t ht;simp [All];done))
        have hr:=lo true c [(0,brOb nb g),(5,iOb (flS C.2 C.1).1 (flS C.2 C.1).2)] (.tup [clN K N nb (flS C.2 C.1).1,.p (.bool true)]) hc hend C.1 0 (by omega)
        have b2:(K==2)=true:=by simp [k2]
        refine piece_ok mixed hc (ci2z K g nb N false C.1 C.2) ?_ hr
        repeat' (first | exact aN | apply aI)
        all_goals (first | exact aA _ _ | omega | rfl | (intros;first | assumption | exact trivial | rfl | exact fT ‹_› | ((repeat' (first | assumption | apply anda | apply notf));done)) | (exact hcg) | (exact cc) | (exact cr) | (exact cp) | (exact b1) | (exact b2) | rfl | (intro t ht;exact absurd ht (Nat.not_lt_zero _)) | (intro t ht;simp [All];done))
    rw [if_neg k2]
    have b2:(K==2)=false:=by simp [k2]
    by_cases k3:K=3
    · rw [if_pos k3]
      have b3:(K==3)=true:=by simp [k3]
      have cv:=con_Over_i hg 2 3 (by omega) (by omega) (R:=ovS g nb N 2 3 (2 ^ N - 1) 1) rfl
      generalize ovS g nb N 2 3 (2 ^ N - 1) 1=R at *
      cases hb:R.2 with
      | true =>
        rw [hb] at cv
        rw [coI_t hb]
        refine add_n (con_start Tryz.func14 rfl (by kernel_rfl) rfl (fun c hc=>?_))
        refine path_ok mixed Tryz.func14 hc (ci3t K g nb N R.1.1 R.1.2) ?_
        repeat' (first | exact aN | apply aI)
        all_goals (first | exact aA _ _ | exact aE _ | omega | rfl | (intros;first | assumption | exact trivial | rfl | exact fT ‹_› | ((repeat' (first | assumption | apply anda | apply notf));done)) | (exact hcg) | (exact cc) | (exact cv) | (exact b1) | (exact b2) | (exact b3) | rfl | (intro t ht;simp [All];done))
      | false =>
        rw [hb] at cv
        rw [coI_f hb]
        refine add_z (con_start Tryz.func14 rfl (by kernel_rfl) rfl (fun c hc=>?_))
        refine path_ok mixed Tryz.func14 hc (ci3f K g nb N R.1.1 R.1.2) ?_
        repeat' (first | exact aN | apply aI)
        all_goals (first | omega | rfl | (intros;first | assumption | exact trivial | rfl | exact fT ‹_› | ((repeat' (first | assumption | apply anda | apply notf));done)) | (exact hcg) | (exact cc) | (exact cv) | (exact b1) | (exact b2) | (exact b3) | rfl | (intro t ht;simp [All];done))
    rw [if_neg k3]
    have b3:(K==3)=false:=by simp [k3]
    by_cases k6:K=6
    · rw [if_pos k6]
      have b6:(K==6)=true:=by simp [k6]
      have cf:=con_FindSteps_i (N:=N) (nb:=nb) (g:=g) (by omega)
      generalize fsA N nb g=R at *
      cases hb:R.2 with
      | true =>
        rw [hb] at cf
        rw [coS_t hb]
        refine add_s (con_start Tryz.func14 rfl (by kernel_rfl) rfl (fun c hc=>?_))
        refine path_ok mixed Tryz.func14 hc (ci6t K g nb N R.1.1 R.1.2) ?_
        repeat' (first | exact aN | apply aI)
        all_goals (first | exact aA _ _ | exact aE _ | omega | rfl | (intros;first | assumption | exact trivial | rfl | exact fT ‹_› | ((repeat' (first | assumption | apply anda | apply notf));done)) | (exact hcg) | (exact cc) | (exact cf) | (exact b1) | (exact b2) | (exact b3) | (exact b6) | rfl | (intro t ht;simp [All];done))
      | false =>
        rw [hb] at cf
        rw [coS_f hb]
        refine add_z (con_start Tryz.func14 rfl (by kernel_rfl) rfl (fun c hc=>?_))
        refine path_ok mixed Tryz.func14 hc (ci6f K g nb N R.1.1 R.1.2) ?_
        repeat' (first | exact aN | apply aI)
        all_goals (first | omega | rfl | (intros;first | assumption | exact trivial | rfl | exact fT ‹_› | ((repeat' (first | assumption | apply anda | apply notf));done)) | (exact hcg) | (exact cc) | (exact cf) | (exact b1) | (exact b2) | (exact b3) | (exact b6) | rfl | (intro t ht;simp [All];done))
    rw [if_neg k6]
    have b6:(K==6)=false:=by simp [k6]
    refine add_z (con_start Tryz.func14 rfl (by kernel_rfl) rfl (fun c hc=>?_))
    refine path_ok mixed Tryz.func14 hc (ciX K g nb N) ?_
    repeat' (first | exact aN | apply aI)
    all_goals (first | omega | rfl | (intros;first | assumption | exact trivial | rfl | exact fT ‹_› | ((repeat' (first | assumption | apply anda | apply notf));done)) | (exact hcg) | (exact cc) | (exact b1) | (exact b2) | (exact b3) | (exact b6) | rfl | (intro t ht;simp [All];done))
theorem con_ClaimG_s (K:Int) (v:T_Graph) (hs:smS s_Graph v):Con Tryz.prog 12 0 [] [.p (.int .i64 K),graphA v] (clH (coG K v).1) (.tup [clV (coG K v).1,.p (.bool (coG K v).2)]):=by
  have hcg:=con_IsGraph_s v hs
  have hcl:=con_l2Copy v hs.2.1.1
  cases hg:isGraphF v with
  | false =>
    rw [hg] at hcg
    rw [show coG K v=(clW0,false) by unfold coG;rw [hg];rfl]
    refine add_z (con_start Tryz.func12 rfl (by kernel_rfl) rfl (fun c hc=>?_))
    refine path_ok mixed Tryz.func12 hc (csN K v) ?_
    repeat' (first | exact aN | apply aI)
    all_goals (first | omega | rfl | (intros;first | assumption | exact trivial | rfl | exact fT ‹_› | ((repeat' (first | assumption | apply anda | apply notf));done)) | (exact hcg) | (exact hcl) | rfl | (intro t ht;simp [All];done))
  | true =>
    rw [hg] at hcg
    obtain ⟨N,nb,g,rfl⟩:=graph_cases v hg
    obtain ⟨hN,hnb,hok⟩:=graph_in hg
    rw [show coG K ((N:Int),(nb,g),())=coA K N nb g by unfold coG;rw [hg];rfl]
    unfold coA
    by_cases k1:K=1
    · rw [if_pos k1]
      have ca:=con_Accepted_s hg
      have hal:=acF_le N nb g
      have co:=con_OnlyBars_s (N:Int) nb g (acF N nb g) (by omega) (by omega)
      have hol:=obF_le (acF N nb g) g nb 0 zB
      have cf:=con_FindSteps_s (N:=N) (nb:=(obF (acF N nb g) g 0 nb zB).1) (g:=(obF (acF N nb g) g 0 nb zB).2) (by have:zB.1=0:=rfl;omega)
      generalize acF N nb g=q at *
      generalize obF q g 0 nb zB=G at *
      generalize fsA N G.1 G.2=R at *
      subst k1
      cases hb:R.2 with
      | true =>
        rw [hb] at cf
        rw [coS_t hb]
        refine add_s (con_start Tryz.func12 rfl (by kernel_rfl) rfl (fun c hc=>?_))
        refine path_ok mixed Tryz.func12 hc (cs1t 1 g nb N q.1 q.2 G.1 G.2 R.1.1 R.1.2) ?_
        repeat' (first | exact aN | apply aI)
        all_goals (first | exact aA _ _ | exact aE _ | omega | rfl | (intros;first | assumption | exact trivial | rfl | exact fT ‹_› | ((repeat' (first | assumption | apply anda | apply notf));done)) | (exact hcg) | (exact hcl) | (exact ca) | (exact co) | (exact cf) | rfl | (intro t ht;simp [All];done))
      | false =>
        rw [hb] at cf
        rw [coS_f hb]
        refine add_z (con_start Tryz.func12 rfl (by kernel_rfl) rfl (fun c hc=>?_))
        refine path_ok mixed Tryz.func12 hc (cs1f 1 g nb N q.1 q.2 G.1 G.2 R.1.1 R.1.2) ?_
        repeat' (first | exact aN | apply aI)
        all_goals (first | omega | rfl | (intros;first | assumption | exact trivial | rfl | exact fT ‹_› | ((repeat' (first | assumption | apply anda | apply notf));done)) | (exact hcg) | (exact hcl) | (exact ca) | (exact co) | (exact cf) | rfl | (intro t ht;simp [All];done))
    rw [if_neg k1]
    have b1:(K==1)=false:=by simp [k1]
    by_cases k2:K=2
    · rw [if_pos k2]
      have b2:(K==2)=true:=by simp [k2]
      have cr:=con_IsRigid_s ((N:Int),(nb,g),()) hs
      have cp:=con_Comps_s ((N:Int),(nb,g),()) hs
      obtain ⟨p1,p2⟩:=compsG_le ((N:Int),(nb,g),())
      generalize compsG ((N:Int),(nb,g),())=C at *
      have cl:=con_Flat (Nat.le_refl 8) (show C.1≤100 by omega) p2
      by_cases hf:frGr ((N:Int),(nb,g),())=0
      · rw [if_pos hf]
        rw [show (frGr ((N:Int),(nb,g),())==0)=true by simp [hf]] at cr
        refine add_z (con_start Tryz.func12 rfl (by kernel_rfl) rfl (fun c hc=>?_))
        refine path_ok mixed Tryz.func12 hc (cs2f K g nb N) ?_
        repeat' (first | exact aN | apply aI)
        all_goals (first | omega | rfl | (intros;first | assumption | exact trivial | rfl | exact fT ‹_› | ((repeat' (first | assumption | apply anda | apply notf));done)) | (exact hcg) | (exact hcl) | (exact cr) | (exact b1) | (exact b2) | rfl | (intro t ht;simp [All];done))
      · rw [if_neg hf]
        rw [show (frGr ((N:Int),(nb,g),())==0)=false by simp [hf]] at cr
        generalize flS C.2 C.1=R at *
        refine add_n (con_start Tryz.func12 rfl (by kernel_rfl) rfl (fun c hc=>?_))
        refine path_ok mixed Tryz.func12 hc (cs2t K g nb N C.1 C.2 R.1 R.2) ?_
        repeat' (first | exact aN | apply aI)
        all_goals (first | exact aA _ _ | exact aE _ | omega | rfl | (intros;first | assumption | exact trivial | rfl | exact fT ‹_› | ((repeat' (first | assumption | apply anda | apply notf));done)) | (exact hcg) | (exact hcl) | (exact cr) | (exact cp) | (exact cl) | (exact b1) | (exact b2) | rfl | (intro t ht;simp [All];done))
    rw [if_neg k2]
    have b2:(K==2)=false:=by simp [k2]
    by_cases k3:K=3
    · rw [if_pos k3]
      have b3:(K==3)=true:=by simp [k3]
      have cv:=con_Over_s hg 2 3 (by omega) (by omega) (R:=ovS g nb N 2 3 (2 ^ N - 1) 1) rfl
      generalize ovS g nb N 2 3 (2 ^ N - 1) 1=R at *
      cases hb:R.2 with
      | true =>
        rw [hb] at cv
        rw [coI_t hb]
        refine add_n (con_start Tryz.func12 rfl (by kernel_rfl) rfl (fun c hc=>?_))
        refine path_ok mixed Tryz.func12 hc (cs3t K g nb N R.1.1 R.1.2) ?_
        repeat' (first | exact aN | apply aI)
        all_goals (first | exact aA _ _ | exact aE _ | omega | rfl | (intros;first | assumption | exact trivial | rfl | exact fT ‹_› | ((repeat' (first | assumption | apply anda | apply notf));done)) | (exact hcg) | (exact hcl) | (exact cv) | (exact b1) | (exact b2) | (exact b3) | rfl | (intro t ht;simp [All];done))
      | false =>
        rw [hb] at cv
        rw [coI_f hb]
        refine add_z (con_start Tryz.func12 rfl (by kernel_rfl) rfl (fun c hc=>?_))
        refine path_ok mixed Tryz.func12 hc (cs3f K g nb N R.1.1 R.1.2) ?_
        repeat' (first | exact aN | apply aI)
        all_goals (first | omega | rfl | (intros;first | assumption | exact trivial | rfl | exact fT ‹_› | ((repeat' (first | assumption | apply anda | apply notf));done)) | (exact hcg) | (exact hcl) | (exact cv) | (exact b1) | (exact b2) | (exact b3) | rfl | (intro t ht;simp [All];done))
    rw [if_neg k3]
    have b3:(K==3)=false:=by simp [k3]
    by_cases k6:K=6
    · rw [if_pos k6]
      have b6:(K==6)=true:=by simp [k6]
      have cf:=con_FindSteps_s (N:=N) (nb:=nb) (g:=g) (by omega)
      generalize fsA N nb g=R at *
      cases hb:R.2 with
      | true =>
        rw [hb] at cf
        rw [coS_t hb]
        refine add_s (con_start Tryz.func12 rfl (by kernel_rfl) rfl (fun c hc=>?_))
        refine path_ok mixed Tryz.func12 hc (cs6t K g nb N R.1.1 R.1.2) ?_
        repeat' (first | exact aN | apply aI)
        all_goals (first | exact aA _ _ | exact aE _ | omega | rfl | (intros;first | assumption | exact trivial | rfl | exact fT ‹_› | ((repeat' (first | assumption | apply anda | apply notf));done)) | (exact hcg) | (exact hcl) | (exact cf) | (exact b1) | (exact b2) | (exact b3) | (exact b6) | rfl | (intro t ht;simp [All];done))
      | false =>
        rw [hb] at cf
        rw [coS_f hb]
        refine add_z (con_start Tryz.func12 rfl (by kernel_rfl) rfl (fun c hc=>?_))
        refine path_ok mixed Tryz.func12 hc (cs6f K g nb N R.1.1 R.1.2) ?_
        repeat' (first | exact aN | apply aI)
        all_goals (first | omega | rfl | (intros;first | assumption | exact trivial | rfl | exact fT ‹_› | ((repeat' (first | assumption | apply anda | apply notf));done)) | (exact hcg) | (exact hcl) | (exact cf) | (exact b1) | (exact b2) | (exact b3) | (exact b6) | rfl | (intro t ht;simp [All];done))
    rw [if_neg k6]
    have b6:(K==6)=false:=by simp [k6]
    refine add_z (con_start Tryz.func12 rfl (by kernel_rfl) rfl (fun c hc=>?_))
    refine path_ok mixed Tryz.func12 hc (csX K g nb N) ?_
    repeat' (first | exact aN | apply aI)
    all_goals (first | omega | rfl | (intros;first | assumption | exact trivial | rfl | exact fT ‹_› | ((repeat' (first | assumption | apply anda | apply notf));done)) | (exact hcg) | (exact hcl) | (exact b1) | (exact b2) | (exact b3) | (exact b6) | rfl | (intro t ht;simp [All];done))
end Go.Proofs.YtkkjoghiigiokaaGreat.Mach
namespace Go.Proofs.YtkkjoghiigiokaaGreat.Mach
open Go
set_option linter.unusedVariables false
set_option linter.unusedSimpArgs false
theorem fsW_le (N:Nat):∀ m (D:NB) (S:T_StepS),(fsW N m D S).1.1≤S.1+m+1
  | 0,D,S=>by rw [fsW];exact Nat.le_refl _
  | m+1,D,S=>by
    rw [fsW]
    split
    · split
      · exact Nat.zero_le _
      · rename_i u _
        have:=fsW_le N m u.1 (S.1+1,cnS S.2 u.2)
        have e:((S.1+1,cnS S.2 u.2):T_StepS).1=S.1+1:=rfl
        omega
    · show S.1+1≤_
      omega
theorem fsA_le (N nb:Nat) (g:Nat→T_Bar):(fsA N nb g).1.1≤nb+1:=by
  unfold fsA
  cases (bif !mrG ((N:Int),(nb,g),()) then true else (nb:Int)==0) with
  | true=>exact Nat.zero_le _
  | false =>
    have:=fsW_le N nb (nb,g) (0,fun _=>stZ)
    simp only [cond_false]
    have e:((0,fun _=>stZ):T_StepS).1=0:=rfl
    omega
theorem ovS_le (g:Nat→T_Bar) (nb N k l:Nat):∀ d w,(ovS g nb N k l d w).1.1≤N
  | 0,w=>Nat.zero_le _
  | d+1,w=>by
    rw [ovS]
    split
    · exact stD_n w N
    · exact ovS_le g nb N k l d (w+1)
theorem sm_clW (K N:Int) {G:T_BarS} {S:T_StepS} {I:T_IntS} (hG:G.1≤1048576) (hS:S.1≤1048576) (hI:I.1≤1048576):smS s_Claim (clW K N G S I):=by
  simp only [clW,smS,smL,s_Claim,zTs,zBs,zIs]
  refine ⟨trivial,⟨trivial,⟨hG,fun i hi=>?_⟩,trivial⟩,⟨⟨⟨trivial,⟨Nat.zero_le _,fun i hi=>?_⟩,trivial⟩,⟨Nat.zero_le _,fun i hi=>?_⟩,trivial⟩,⟨Nat.zero_le _,fun i hi=>?_⟩,trivial⟩,⟨hS,fun i hi=>?_⟩,⟨hI,fun i hi=>?_⟩,trivial⟩<;>simp [smS,smL]
theorem sm_coG (K:Int) {v:T_Graph} (hs:smS s_Graph v):smS s_Claim (coG K v).1:=by
  have z:smS s_Claim clW0:=sm_clW 0 0 (Nat.zero_le _) (Nat.zero_le _) (Nat.zero_le _)
  unfold coG
  cases hg:isGraphF v with
  | false=>exact z
  | true =>
    obtain ⟨N,nb,g,rfl⟩:=graph_cases v hg
    obtain ⟨hN,hnb,hok⟩:=graph_in hg
    have hnb':nb≤1048576:=by omega
    show smS s_Claim (coA K N nb g).1
    have hS:∀ (R:T_StepS×Bool),R.1.1≤1048576→smS s_Claim (coS K N (nb,g) R).1:=fun R h=>by
      unfold coS;split
      · exact sm_clW K N hnb' h (Nat.zero_le _)
      · exact z
    have hI:∀ (R:T_IntS×Bool),R.1.1≤1048576→smS s_Claim (coI K N (nb,g) R).1:=fun R h=>by
      unfold coI;split
      · exact sm_clW K N hnb' (Nat.zero_le _) h
      · exact z
    unfold coA
    split
    · refine hS _ ?_
      have h1:=fsA_le N (obF (acF N nb g) g 0 nb zB).1 (obF (acF N nb g) g 0 nb zB).2
      have h2:=obF_le (acF N nb g) g nb 0 zB
      have:zB.1=0:=rfl
      omega
    · split
      · split
        · exact z
        · refine sm_clW K N hnb' (Nat.zero_le _) ?_
          obtain ⟨p1,p2⟩:=compsG_le ((N:Int),(nb,g),())
          have:=flS_le (Nat.le_refl 8) _ p2
          omega
      · split
        · refine hI _ ?_
          have:=ovS_le g nb N 2 3 (2 ^ N - 1) 1
          omega
        · split
          · refine hS _ ?_
            have:=fsA_le N nb g
            omega
          · exact z
end Go.Proofs.YtkkjoghiigiokaaGreat.Mach
namespace Go.Proofs.YtkkjoghiigiokaaGreat.Mach
open Go
set_option linter.unusedVariables false
set_option linter.unusedSimpArgs false
theorem p_FnExactClaimOfGraph_0 (v0:Int) (v1:T_Graph) :
    pathOb Tryz.prog Tryz.f3 0 [rg 2,rg 1,rm [(2,oc [] (.p (.int .i64 (f_szGraph v1 1048576))))] 1,rg 2,.dec true,rg 1] [.code (bodyOf Tryz.f3)] (start Tryz.f3 [] 0 [.p (.int .i64 v0),(zf104 v1)]) [] 1 [] (.p (.bool true)) =
    some [(NT 0 1),Con Tryz.prog 11 0 [] [(zf104 v1),.p (.int .i64 1048576)] [] (.p (.int .i64 (f_szGraph v1 1048576))),((decide (f_szGraph v1 1048576<0))=true),(true=true)]:=by kernel_rfl
theorem p_FnExactClaimOfGraph_e (v0:Int) (v1:T_Graph) :
    pathOb Tryz.prog Tryz.f3 0 [rg 2,rg 1,rm [(2,oc [] (.p (.int .i64 (f_szGraph v1 1048576))))] 1,rg 2,.dec false,rm [(2,oc (zf114 v1) (.agg [.p (.int .i64 v1.1),.ar 2 0 0 v1.2.1.1])),(0,oc [(0,⟨false,2,(coG v0 v1).1.2.1.2.1.1,fun i=>[.p (.int .i64 (((coG v0 v1).1.2.1.2.1.2 i).1)),.p (.int .i64 (((coG v0 v1).1.2.1.2.1.2 i).2.1))]⟩),(1,⟨false,2,(coG v0 v1).1.2.2.1.1.1.2.1.1,fun i=>[.p (.int .i64 (((coG v0 v1).1.2.2.1.1.1.2.1.2 i).1)),.p (.int .i64 (((coG v0 v1).1.2.2.1.1.1.2.1.2 i).2.1))]⟩),(2,⟨false,2,(coG v0 v1).1.2.2.1.1.2.1.1,fun i=>[.p (.int .i64 (((coG v0 v1).1.2.2.1.1.2.1.2 i).1)),.p (.int .i64 (((coG v0 v1).1.2.2.1.1.2.1.2 i).2.1))]⟩),(3,⟨false,1,(coG v0 v1).1.2.2.1.2.1.1,fun i=>[.p (.int .i64 ((coG v0 v1).1.2.2.1.2.1.2 i))]⟩),(4,⟨false,5,(coG v0 v1).1.2.2.2.1.1,fun i=>[.p (.int .i64 (((coG v0 v1).1.2.2.2.1.2 i).1)),.p (.int .i64 (((coG v0 v1).1.2.2.2.1.2 i).2.1)),.p (.int .i64 (((coG v0 v1).1.2.2.2.1.2 i).2.2.1)),.p (.int .i64 (((coG v0 v1).1.2.2.2.1.2 i).2.2.2.1)),.p (.int .i64 (((coG v0 v1).1.2.2.2.1.2 i).2.2.2.2.1))]⟩),(5,⟨false,1,(coG v0 v1).1.2.2.2.2.1.1,fun i=>[.p (.int .i64 ((coG v0 v1).1.2.2.2.2.1.2 i))]⟩)] (.tup [.agg [.p (.int .i64 ((coG v0 v1).1.1)),.p (.int .i64 ((coG v0 v1).1.2.1.1)),.ar 2 0 0 ((coG v0 v1).1.2.1.2.1.1),.p (.int .i64 ((coG v0 v1).1.2.2.1.1.1.1)),.ar 2 1 0 ((coG v0 v1).1.2.2.1.1.1.2.1.1),.ar 2 2 0 ((coG v0 v1).1.2.2.1.1.2.1.1),.ar 1 3 0 ((coG v0 v1).1.2.2.1.2.1.1),.ar 5 4 0 ((coG v0 v1).1.2.2.2.1.1),.ar 1 5 0 ((coG v0 v1).1.2.2.2.2.1.1)],.p (.bool ((coG v0 v1).2))]))] 6,rm [(1,oc (zf114 v1) (.agg [.p (.int .i64 v1.1),.ar 2 0 0 v1.2.1.1]))] 2,rm [(2,oc [(0,⟨false,2,(coG v0 v1).1.2.1.2.1.1,fun i=>[.p (.int .i64 (((coG v0 v1).1.2.1.2.1.2 i).1)),.p (.int .i64 (((coG v0 v1).1.2.1.2.1.2 i).2.1))]⟩),(1,⟨false,2,(coG v0 v1).1.2.2.1.1.1.2.1.1,fun i=>[.p (.int .i64 (((coG v0 v1).1.2.2.1.1.1.2.1.2 i).1)),.p (.int .i64 (((coG v0 v1).1.2.2.1.1.1.2.1.2 i).2.1))]⟩),(2,⟨false,2,(coG v0 v1).1.2.2.1.1.2.1.1,fun i=>[.p (.int .i64 (((coG v0 v1).1.2.2.1.1.2.1.2 i).1)),.p (.int .i64 (((coG v0 v1).1.2.2.1.1.2.1.2 i).2.1))]⟩),(3,⟨false,1,(coG v0 v1).1.2.2.1.2.1.1,fun i=>[.p (.int .i64 ((coG v0 v1).1.2.2.1.2.1.2 i))]⟩),(4,⟨false,5,(coG v0 v1).1.2.2.2.1.1,fun i=>[.p (.int .i64 (((coG v0 v1).1.2.2.2.1.2 i).1)),.p (.int .i64 (((coG v0 v1).1.2.2.2.1.2 i).2.1)),.p (.int .i64 (((coG v0 v1).1.2.2.2.1.2 i).2.2.1)),.p (.int .i64 (((coG v0 v1).1.2.2.2.1.2 i).2.2.2.1)),.p (.int .i64 (((coG v0 v1).1.2.2.2.1.2 i).2.2.2.2.1))]⟩),(5,⟨false,1,(coG v0 v1).1.2.2.2.2.1.1,fun i=>[.p (.int .i64 ((coG v0 v1).1.2.2.2.2.1.2 i))]⟩)] (.tup [.agg [.p (.int .i64 ((coG v0 v1).1.1)),.p (.int .i64 ((coG v0 v1).1.2.1.1)),.ar 2 0 0 ((coG v0 v1).1.2.1.2.1.1),.p (.int .i64 ((coG v0 v1).1.2.2.1.1.1.1)),.ar 2 1 0 ((coG v0 v1).1.2.2.1.1.1.2.1.1),.ar 2 2 0 ((coG v0 v1).1.2.2.1.1.2.1.1),.ar 1 3 0 ((coG v0 v1).1.2.2.1.2.1.1),.ar 5 4 0 ((coG v0 v1).1.2.2.2.1.1),.ar 1 5 0 ((coG v0 v1).1.2.2.2.2.1.1)],.p (.bool ((coG v0 v1).2))]))] 6,rm [(2,oc [] (.p (.bool true)))] 6,.dec false,rm [(2,oc (zf114 v1) (.agg [.p (.int .i64 v1.1),.ar 2 0 0 v1.2.1.1])),(0,oc [] (.p (.bool true)))] 1,.dec false,rg 1,rm [(2,oq [640] [(0,⟨false,2,v1.2.1.1,fun i=>[.p (.int .i64 (1+2*(i:Int))),.p (.int .i64 (1+2*(i:Int)+1))]⟩)] (.p (.int .i64 (1+2*(v1.2.1.1:Int)))))] 1,rm [(5,oc [] (.p (.bool true)))] 7,.dec false,rg 1,rm [(2,oq [800,801,802,803,804,805] [(0,⟨false,2,(coG v0 v1).1.2.1.2.1.1,fun i=>[.p (.int .i64 (1+2*(i:Int))),.p (.int .i64 (1+2*(i:Int)+1))]⟩),(1,⟨false,2,(coG v0 v1).1.2.2.1.1.1.2.1.1,fun i=>[.p (.int .i64 (1+2*((coG v0 v1).1.2.1.2.1.1:Int)+2*(i:Int))),.p (.int .i64 (1+2*((coG v0 v1).1.2.1.2.1.1:Int)+2*(i:Int)+1))]⟩),(2,⟨false,2,(coG v0 v1).1.2.2.1.1.2.1.1,fun i=>[.p (.int .i64 (1+2*((coG v0 v1).1.2.1.2.1.1:Int)+2*((coG v0 v1).1.2.2.1.1.1.2.1.1:Int)+2*(i:Int))),.p (.int .i64 (1+2*((coG v0 v1).1.2.1.2.1.1:Int)+2*((coG v0 v1).1.2.2.1.1.1.2.1.1:Int)+2*(i:Int)+1))]⟩),(3,⟨false,1,(coG v0 v1).1.2.2.1.2.1.1,fun i=>[.p (.int .i64 (1+2*((coG v0 v1).1.2.1.2.1.1:Int)+2*((coG v0 v1).1.2.2.1.1.1.2.1.1:Int)+2*((coG v0 v1).1.2.2.1.1.2.1.1:Int)+(i:Int)))]⟩),(4,⟨false,5,(coG v0 v1).1.2.2.2.1.1,fun i=>[.p (.int .i64 (1+2*((coG v0 v1).1.2.1.2.1.1:Int)+2*((coG v0 v1).1.2.2.1.1.1.2.1.1:Int)+2*((coG v0 v1).1.2.2.1.1.2.1.1:Int)+((coG v0 v1).1.2.2.1.2.1.1:Int)+5*(i:Int))),.p (.int .i64 (1+2*((coG v0 v1).1.2.1.2.1.1:Int)+2*((coG v0 v1).1.2.2.1.1.1.2.1.1:Int)+2*((coG v0 v1).1.2.2.1.1.2.1.1:Int)+((coG v0 v1).1.2.2.1.2.1.1:Int)+5*(i:Int)+1)),.p (.int .i64 (1+2*((coG v0 v1).1.2.1.2.1.1:Int)+2*((coG v0 v1).1.2.2.1.1.1.2.1.1:Int)+2*((coG v0 v1).1.2.2.1.1.2.1.1:Int)+((coG v0 v1).1.2.2.1.2.1.1:Int)+5*(i:Int)+2)),.p (.int .i64 (1+2*((coG v0 v1).1.2.1.2.1.1:Int)+2*((coG v0 v1).1.2.2.1.1.1.2.1.1:Int)+2*((coG v0 v1).1.2.2.1.1.2.1.1:Int)+((coG v0 v1).1.2.2.1.2.1.1:Int)+5*(i:Int)+3)),.p (.int .i64 (1+2*((coG v0 v1).1.2.1.2.1.1:Int)+2*((coG v0 v1).1.2.2.1.1.1.2.1.1:Int)+2*((coG v0 v1).1.2.2.1.1.2.1.1:Int)+((coG v0 v1).1.2.2.1.2.1.1:Int)+5*(i:Int)+4))]⟩),(5,⟨false,1,(coG v0 v1).1.2.2.2.2.1.1,fun i=>[.p (.int .i64 (1+2*((coG v0 v1).1.2.1.2.1.1:Int)+2*((coG v0 v1).1.2.2.1.1.1.2.1.1:Int)+2*((coG v0 v1).1.2.2.1.1.2.1.1:Int)+((coG v0 v1).1.2.2.1.2.1.1:Int)+5*((coG v0 v1).1.2.2.2.1.1:Int)+(i:Int)))]⟩)] (.p (.int .i64 (1+2*((coG v0 v1).1.2.1.2.1.1:Int)+2*((coG v0 v1).1.2.2.1.1.1.2.1.1:Int)+2*((coG v0 v1).1.2.2.1.1.2.1.1:Int)+((coG v0 v1).1.2.2.1.2.1.1:Int)+5*((coG v0 v1).1.2.2.2.1.1:Int)+((coG v0 v1).1.2.2.2.2.1.1:Int)))))] 1,rg 1,rm [(2,oc [] (.p (.int .i64 (1+2*((coG v0 v1).1.2.1.2.1.1:Int)+2*((coG v0 v1).1.2.2.1.1.1.2.1.1:Int)+2*((coG v0 v1).1.2.2.1.1.2.1.1:Int)+((coG v0 v1).1.2.2.1.2.1.1:Int)+5*((coG v0 v1).1.2.2.2.1.1:Int)+((coG v0 v1).1.2.2.2.2.1.1:Int)))))] 1,rg 2,.dec false,rg 3,.dec false,rm [(2,oc (zf114 v1) (.agg [.p (.int .i64 v1.1),.ar 2 0 0 v1.2.1.1])),(0,oc [(0,⟨false,2,(coG v0 v1).1.2.1.2.1.1,fun i=>[.p (.int .i64 (((coG v0 v1).1.2.1.2.1.2 i).1)),.p (.int .i64 (((coG v0 v1).1.2.1.2.1.2 i).2.1))]⟩),(1,⟨false,2,(coG v0 v1).1.2.2.1.1.1.2.1.1,fun i=>[.p (.int .i64 (((coG v0 v1).1.2.2.1.1.1.2.1.2 i).1)),.p (.int .i64 (((coG v0 v1).1.2.2.1.1.1.2.1.2 i).2.1))]⟩),(2,⟨false,2,(coG v0 v1).1.2.2.1.1.2.1.1,fun i=>[.p (.int .i64 (((coG v0 v1).1.2.2.1.1.2.1.2 i).1)),.p (.int .i64 (((coG v0 v1).1.2.2.1.1.2.1.2 i).2.1))]⟩),(3,⟨false,1,(coG v0 v1).1.2.2.1.2.1.1,fun i=>[.p (.int .i64 ((coG v0 v1).1.2.2.1.2.1.2 i))]⟩),(4,⟨false,5,(coG v0 v1).1.2.2.2.1.1,fun i=>[.p (.int .i64 (((coG v0 v1).1.2.2.2.1.2 i).1)),.p (.int .i64 (((coG v0 v1).1.2.2.2.1.2 i).2.1)),.p (.int .i64 (((coG v0 v1).1.2.2.2.1.2 i).2.2.1)),.p (.int .i64 (((coG v0 v1).1.2.2.2.1.2 i).2.2.2.1)),.p (.int .i64 (((coG v0 v1).1.2.2.2.1.2 i).2.2.2.2.1))]⟩),(5,⟨false,1,(coG v0 v1).1.2.2.2.2.1.1,fun i=>[.p (.int .i64 ((coG v0 v1).1.2.2.2.2.1.2 i))]⟩)] (.tup [.agg [.p (.int .i64 ((coG v0 v1).1.1)),.p (.int .i64 ((coG v0 v1).1.2.1.1)),.ar 2 0 0 ((coG v0 v1).1.2.1.2.1.1),.p (.int .i64 ((coG v0 v1).1.2.2.1.1.1.1)),.ar 2 1 0 ((coG v0 v1).1.2.2.1.1.1.2.1.1),.ar 2 2 0 ((coG v0 v1).1.2.2.1.1.2.1.1),.ar 1 3 0 ((coG v0 v1).1.2.2.1.2.1.1),.ar 5 4 0 ((coG v0 v1).1.2.2.2.1.1),.ar 1 5 0 ((coG v0 v1).1.2.2.2.2.1.1)],.p (.bool ((coG v0 v1).2))]))] 6,rm [(2,oc [] (.p (.bool true)))] 6,.dec false,rg 1,rm [(2,oc [] (.p (.int .i64 (1+2*((coG v0 v1).1.2.1.2.1.1:Int)+2*((coG v0 v1).1.2.2.1.1.1.2.1.1:Int)+2*((coG v0 v1).1.2.2.1.1.2.1.1:Int)+((coG v0 v1).1.2.2.1.2.1.1:Int)+5*((coG v0 v1).1.2.2.2.1.1:Int)+((coG v0 v1).1.2.2.2.2.1.1:Int)))))] 1,rg 2,.dec false,rg 3,.dec false,rg 1] [.code (bodyOf Tryz.f3)] (start Tryz.f3 [] 0 [.p (.int .i64 v0),(zf104 v1)]) [] 1 [] (.p (.bool true)) =
    some [(NT 0 1),Con Tryz.prog 11 0 [] [(zf104 v1),.p (.int .i64 1048576)] [] (.p (.int .i64 (f_szGraph v1 1048576))),((decide (f_szGraph v1 1048576<0))=false),(NT 0 1),Con Tryz.prog 13 0 [] [(zf104 v1)] (zf113 v1) (.agg [.p (.int .i64 v1.1),.ar 2 0 0 v1.2.1.1]),(AN 2),(NL v1.2.1.1 v1.2.1.1),Con Tryz.prog 12 0 [] [.p (.int .i64 v0),(zf104 v1)] [(0,⟨false,2,((coG v0 v1).1.2.1.2.1.1),(fun i=>[.p (.int .i64 (((coG v0 v1).1.2.1.2.1.2 i).1)),.p (.int .i64 (((coG v0 v1).1.2.1.2.1.2 i).2.1))])⟩),(1,⟨false,2,((coG v0 v1).1.2.2.1.1.1.2.1.1),(fun i=>[.p (.int .i64 (((coG v0 v1).1.2.2.1.1.1.2.1.2 i).1)),.p (.int .i64 (((coG v0 v1).1.2.2.1.1.1.2.1.2 i).2.1))])⟩),(2,⟨false,2,((coG v0 v1).1.2.2.1.1.2.1.1),(fun i=>[.p (.int .i64 (((coG v0 v1).1.2.2.1.1.2.1.2 i).1)),.p (.int .i64 (((coG v0 v1).1.2.2.1.1.2.1.2 i).2.1))])⟩),(3,⟨false,1,((coG v0 v1).1.2.2.1.2.1.1),(fun i=>[.p (.int .i64 ((coG v0 v1).1.2.2.1.2.1.2 i))])⟩),(4,⟨false,5,((coG v0 v1).1.2.2.2.1.1),(fun i=>[.p (.int .i64 (((coG v0 v1).1.2.2.2.1.2 i).1)),.p (.int .i64 (((coG v0 v1).1.2.2.2.1.2 i).2.1)),.p (.int .i64 (((coG v0 v1).1.2.2.2.1.2 i).2.2.1)),.p (.int .i64 (((coG v0 v1).1.2.2.2.1.2 i).2.2.2.1)),.p (.int .i64 (((coG v0 v1).1.2.2.2.1.2 i).2.2.2.2.1))])⟩),(5,⟨false,1,((coG v0 v1).1.2.2.2.2.1.1),(fun i=>[.p (.int .i64 ((coG v0 v1).1.2.2.2.2.1.2 i))])⟩)] (.tup [.agg [.p (.int .i64 ((coG v0 v1).1.1)),.p (.int .i64 ((coG v0 v1).1.2.1.1)),.ar 2 0 0 ((coG v0 v1).1.2.1.2.1.1),.p (.int .i64 ((coG v0 v1).1.2.2.1.1.1.1)),.ar 2 1 0 ((coG v0 v1).1.2.2.1.1.1.2.1.1),.ar 2 2 0 ((coG v0 v1).1.2.2.1.1.2.1.1),.ar 1 3 0 ((coG v0 v1).1.2.2.1.2.1.1),.ar 5 4 0 ((coG v0 v1).1.2.2.2.1.1),.ar 1 5 0 ((coG v0 v1).1.2.2.2.2.1.1)],.p (.bool ((coG v0 v1).2))]),(NT 0 1),((true=true)→ (AN 1)),(NT 0 1),Con Tryz.prog 13 0 [] [(zf104 v1)] (zf113 v1) (.agg [.p (.int .i64 v1.1),.ar 2 0 0 v1.2.1.1]),(NT 0 1),((true=true)→ (AN 1)),(NT 0 1),(AN 2),(NL v1.2.1.1 v1.2.1.1),Con Tryz.prog 14 0 [] [.p (.int .i64 v0),(zf104 v1)] [(0,⟨false,2,((coG v0 v1).1.2.1.2.1.1),(fun i=>[.p (.int .i64 (((coG v0 v1).1.2.1.2.1.2 i).1)),.p (.int .i64 (((coG v0 v1).1.2.1.2.1.2 i).2.1))])⟩),(1,⟨false,2,((coG v0 v1).1.2.2.1.1.1.2.1.1),(fun i=>[.p (.int .i64 (((coG v0 v1).1.2.2.1.1.1.2.1.2 i).1)),.p (.int .i64 (((coG v0 v1).1.2.2.1.1.1.2.1.2 i).2.1))])⟩),(2,⟨false,2,((coG v0 v1).1.2.2.1.1.2.1.1),(fun i=>[.p (.int .i64 (((coG v0 v1).1.2.2.1.1.2.1.2 i).1)),.p (.int .i64 (((coG v0 v1).1.2.2.1.1.2.1.2 i).2.1))])⟩),(3,⟨false,1,((coG v0 v1).1.2.2.1.2.1.1),(fun i=>[.p (.int .i64 ((coG v0 v1).1.2.2.1.2.1.2 i))])⟩),(4,⟨false,5,((coG v0 v1).1.2.2.2.1.1),(fun i=>[.p (.int .i64 (((coG v0 v1).1.2.2.2.1.2 i).1)),.p (.int .i64 (((coG v0 v1).1.2.2.2.1.2 i).2.1)),.p (.int .i64 (((coG v0 v1).1.2.2.2.1.2 i).2.2.1)),.p (.int .i64 (((coG v0 v1).1.2.2.2.1.2 i).2.2.2.1)),.p (.int .i64 (((coG v0 v1).1.2.2.2.1.2 i).2.2.2.2.1))])⟩),(5,⟨false,1,((coG v0 v1).1.2.2.2.2.1.1),(fun i=>[.p (.int .i64 ((coG v0 v1).1.2.2.2.2.1.2 i))])⟩)] (.tup [.agg [.p (.int .i64 ((coG v0 v1).1.1)),.p (.int .i64 ((coG v0 v1).1.2.1.1)),.ar 2 0 0 ((coG v0 v1).1.2.1.2.1.1),.p (.int .i64 ((coG v0 v1).1.2.2.1.1.1.1)),.ar 2 1 0 ((coG v0 v1).1.2.2.1.1.1.2.1.1),.ar 2 2 0 ((coG v0 v1).1.2.2.1.1.2.1.1),.ar 1 3 0 ((coG v0 v1).1.2.2.1.2.1.1),.ar 5 4 0 ((coG v0 v1).1.2.2.2.1.1),.ar 1 5 0 ((coG v0 v1).1.2.2.2.2.1.1)],.p (.bool ((coG v0 v1).2))]),(NT 0 1),((true=true)→ (AN 1)),(NT 0 1),(NT 0 1),(AN 2),(NL ((coG v0 v1).1.2.1.2.1.1) ((coG v0 v1).1.2.1.2.1.1)),(AN 2),(NL ((coG v0 v1).1.2.2.1.1.1.2.1.1) ((coG v0 v1).1.2.2.1.1.1.2.1.1)),(AN 2),(NL ((coG v0 v1).1.2.2.1.1.2.1.1) ((coG v0 v1).1.2.2.1.1.2.1.1)),(AN 1),(NL ((coG v0 v1).1.2.2.1.2.1.1) ((coG v0 v1).1.2.2.1.2.1.1)),(AN 5),(NL ((coG v0 v1).1.2.2.2.1.1) ((coG v0 v1).1.2.2.2.1.1)),(AN 1),(NL ((coG v0 v1).1.2.2.2.2.1.1) ((coG v0 v1).1.2.2.2.2.1.1)),(AN 2),(NL ((coG v0 v1).1.2.1.2.1.1) ((coG v0 v1).1.2.1.2.1.1)),(AN 2),(NL ((coG v0 v1).1.2.2.1.1.1.2.1.1) ((coG v0 v1).1.2.2.1.1.1.2.1.1)),(AN 2),(NL ((coG v0 v1).1.2.2.1.1.2.1.1) ((coG v0 v1).1.2.2.1.1.2.1.1)),(AN 1),(NL ((coG v0 v1).1.2.2.1.2.1.1) ((coG v0 v1).1.2.2.1.2.1.1)),(AN 5),(NL ((coG v0 v1).1.2.2.2.1.1) ((coG v0 v1).1.2.2.2.1.1)),(AN 1),(NL ((coG v0 v1).1.2.2.2.2.1.1) ((coG v0 v1).1.2.2.2.2.1.1)),Con Tryz.prog 15 0 [] [.agg [.p (.int .i64 ((coG v0 v1).1.1)),.p (.int .i64 ((coG v0 v1).1.2.1.1)),.p (.seq true 2 ((coG v0 v1).1.2.1.2.1.1) (fun i=>[.int .i64 (((coG v0 v1).1.2.1.2.1.2 i).1),.int .i64 (((coG v0 v1).1.2.1.2.1.2 i).2.1)])),.p (.int .i64 ((coG v0 v1).1.2.2.1.1.1.1)),.p (.seq true 2 ((coG v0 v1).1.2.2.1.1.1.2.1.1) (fun i=>[.int .i64 (((coG v0 v1).1.2.2.1.1.1.2.1.2 i).1),.int .i64 (((coG v0 v1).1.2.2.1.1.1.2.1.2 i).2.1)])),.p (.seq true 2 ((coG v0 v1).1.2.2.1.1.2.1.1) (fun i=>[.int .i64 (((coG v0 v1).1.2.2.1.1.2.1.2 i).1),.int .i64 (((coG v0 v1).1.2.2.1.1.2.1.2 i).2.1)])),.p (.seq true 1 ((coG v0 v1).1.2.2.1.2.1.1) (fun i=>[.int .i64 ((coG v0 v1).1.2.2.1.2.1.2 i)])),.p (.seq true 5 ((coG v0 v1).1.2.2.2.1.1) (fun i=>[.int .i64 (((coG v0 v1).1.2.2.2.1.2 i).1),.int .i64 (((coG v0 v1).1.2.2.2.1.2 i).2.1),.int .i64 (((coG v0 v1).1.2.2.2.1.2 i).2.2.1),.int .i64 (((coG v0 v1).1.2.2.2.1.2 i).2.2.2.1),.int .i64 (((coG v0 v1).1.2.2.2.1.2 i).2.2.2.2.1)])),.p (.seq true 1 ((coG v0 v1).1.2.2.2.2.1.1) (fun i=>[.int .i64 ((coG v0 v1).1.2.2.2.2.1.2 i)]))],.agg [.p (.int .i64 ((coG v0 v1).1.1)),.p (.int .i64 ((coG v0 v1).1.2.1.1)),.p (.seq true 2 ((coG v0 v1).1.2.1.2.1.1) (fun i=>[.int .i64 (((coG v0 v1).1.2.1.2.1.2 i).1),.int .i64 (((coG v0 v1).1.2.1.2.1.2 i).2.1)])),.p (.int .i64 ((coG v0 v1).1.2.2.1.1.1.1)),.p (.seq true 2 ((coG v0 v1).1.2.2.1.1.1.2.1.1) (fun i=>[.int .i64 (((coG v0 v1).1.2.2.1.1.1.2.1.2 i).1),.int .i64 (((coG v0 v1).1.2.2.1.1.1.2.1.2 i).2.1)])),.p (.seq true 2 ((coG v0 v1).1.2.2.1.1.2.1.1) (fun i=>[.int .i64 (((coG v0 v1).1.2.2.1.1.2.1.2 i).1),.int .i64 (((coG v0 v1).1.2.2.1.1.2.1.2 i).2.1)])),.p (.seq true 1 ((coG v0 v1).1.2.2.1.2.1.1) (fun i=>[.int .i64 ((coG v0 v1).1.2.2.1.2.1.2 i)])),.p (.seq true 5 ((coG v0 v1).1.2.2.2.1.1) (fun i=>[.int .i64 (((coG v0 v1).1.2.2.2.1.2 i).1),.int .i64 (((coG v0 v1).1.2.2.2.1.2 i).2.1),.int .i64 (((coG v0 v1).1.2.2.2.1.2 i).2.2.1),.int .i64 (((coG v0 v1).1.2.2.2.1.2 i).2.2.2.1),.int .i64 (((coG v0 v1).1.2.2.2.1.2 i).2.2.2.2.1)])),.p (.seq true 1 ((coG v0 v1).1.2.2.2.2.1.1) (fun i=>[.int .i64 ((coG v0 v1).1.2.2.2.2.1.2 i)]))]] [] (.p (.bool true)),(AG (!!true)),(AG (!!true)),(((!true)=false)→ ((!!true)=true)),((bif !true then true else !(coG v0 v1).2==(coG v0 v1).2)=false),(NT 0 1),(NT 0 1),Con Tryz.prog 13 0 [] [(zf104 v1)] (zf113 v1) (.agg [.p (.int .i64 v1.1),.ar 2 0 0 v1.2.1.1]),(AN 2),(NL v1.2.1.1 v1.2.1.1),(AN 2),(NL v1.2.1.1 v1.2.1.1),Con Tryz.prog 16 0 [] [(zf104 v1),(zf104 v1)] [] (.p (.bool true)),((!true)=false),(NT 0 1),(AE v1.2.1.1),Con Tryz.prog 17 1 (zf113 v1) [.agg [.p (.int .i64 v1.1),.ar 2 0 0 v1.2.1.1],.p (.int .i64 1)] [(0,⟨false,2,v1.2.1.1,(fun i=>[.p (.int .i64 (1+2*(↑i:Int))),.p (.int .i64 (1+2*(↑i:Int)+1))])⟩)] (.p (.int .i64 (1+2*(↑v1.2.1.1:Int)))),(((!decide (1+2*(↑v1.2.1.1:Int)<0))=true)→(NT 0 1)),(((!decide (1+2*(↑v1.2.1.1:Int)<0))=true)→(NT 0 1)),(AG (!decide (1+2*(↑v1.2.1.1:Int)<0))),(AG (!decide (1+2*(↑v1.2.1.1:Int)<0))),(((!decide (1+2*(↑v1.2.1.1:Int)<0))=true)→ (AN 2)),(((!decide (1+2*(↑v1.2.1.1:Int)<0))=true)→(NL ((coG v0 v1).1.2.1.2.1.1) ((coG v0 v1).1.2.1.2.1.1))),(((!decide (1+2*(↑v1.2.1.1:Int)<0))=true)→ (AN 2)),(((!decide (1+2*(↑v1.2.1.1:Int)<0))=true)→(NL ((coG v0 v1).1.2.2.1.1.1.2.1.1) ((coG v0 v1).1.2.2.1.1.1.2.1.1))),(((!decide (1+2*(↑v1.2.1.1:Int)<0))=true)→ (AN 2)),(((!decide (1+2*(↑v1.2.1.1:Int)<0))=true)→(NL ((coG v0 v1).1.2.2.1.1.2.1.1) ((coG v0 v1).1.2.2.1.1.2.1.1))),(((!decide (1+2*(↑v1.2.1.1:Int)<0))=true)→ (AN 1)),(((!decide (1+2*(↑v1.2.1.1:Int)<0))=true)→(NL ((coG v0 v1).1.2.2.1.2.1.1) ((coG v0 v1).1.2.2.1.2.1.1))),(((!decide (1+2*(↑v1.2.1.1:Int)<0))=true)→ (AN 5)),(((!decide (1+2*(↑v1.2.1.1:Int)<0))=true)→(NL ((coG v0 v1).1.2.2.2.1.1) ((coG v0 v1).1.2.2.2.1.1))),(((!decide (1+2*(↑v1.2.1.1:Int)<0))=true)→ (AN 1)),(((!decide (1+2*(↑v1.2.1.1:Int)<0))=true)→(NL ((coG v0 v1).1.2.2.2.2.1.1) ((coG v0 v1).1.2.2.2.2.1.1))),(((!decide (1+2*(↑v1.2.1.1:Int)<0))=true)→ (AN 2)),(((!decide (1+2*(↑v1.2.1.1:Int)<0))=true)→(NL ((coG v0 v1).1.2.1.2.1.1) ((coG v0 v1).1.2.1.2.1.1))),(((!decide (1+2*(↑v1.2.1.1:Int)<0))=true)→ (AN 2)),(((!decide (1+2*(↑v1.2.1.1:Int)<0))=true)→(NL ((coG v0 v1).1.2.2.1.1.1.2.1.1) ((coG v0 v1).1.2.2.1.1.1.2.1.1))),(((!decide (1+2*(↑v1.2.1.1:Int)<0))=true)→ (AN 2)),(((!decide (1+2*(↑v1.2.1.1:Int)<0))=true)→(NL ((coG v0 v1).1.2.2.1.1.2.1.1) ((coG v0 v1).1.2.2.1.1.2.1.1))),(((!decide (1+2*(↑v1.2.1.1:Int)<0))=true)→ (AN 1)),(((!decide (1+2*(↑v1.2.1.1:Int)<0))=true)→(NL ((coG v0 v1).1.2.2.1.2.1.1) ((coG v0 v1).1.2.2.1.2.1.1))),(((!decide (1+2*(↑v1.2.1.1:Int)<0))=true)→ (AN 5)),(((!decide (1+2*(↑v1.2.1.1:Int)<0))=true)→(NL ((coG v0 v1).1.2.2.2.1.1) ((coG v0 v1).1.2.2.2.1.1))),(((!decide (1+2*(↑v1.2.1.1:Int)<0))=true)→ (AN 1)),(((!decide (1+2*(↑v1.2.1.1:Int)<0))=true)→(NL ((coG v0 v1).1.2.2.2.2.1.1) ((coG v0 v1).1.2.2.2.2.1.1))),(((!decide (1+2*(↑v1.2.1.1:Int)<0))=true)→ Con Tryz.prog 15 0 [] [.agg [.p (.int .i64 ((coG v0 v1).1.1)),.p (.int .i64 ((coG v0 v1).1.2.1.1)),.p (.seq true 2 ((coG v0 v1).1.2.1.2.1.1) (fun i=>[.int .i64 (((coG v0 v1).1.2.1.2.1.2 i).1),.int .i64 (((coG v0 v1).1.2.1.2.1.2 i).2.1)])),.p (.int .i64 ((coG v0 v1).1.2.2.1.1.1.1)),.p (.seq true 2 ((coG v0 v1).1.2.2.1.1.1.2.1.1) (fun i=>[.int .i64 (((coG v0 v1).1.2.2.1.1.1.2.1.2 i).1),.int .i64 (((coG v0 v1).1.2.2.1.1.1.2.1.2 i).2.1)])),.p (.seq true 2 ((coG v0 v1).1.2.2.1.1.2.1.1) (fun i=>[.int .i64 (((coG v0 v1).1.2.2.1.1.2.1.2 i).1),.int .i64 (((coG v0 v1).1.2.2.1.1.2.1.2 i).2.1)])),.p (.seq true 1 ((coG v0 v1).1.2.2.1.2.1.1) (fun i=>[.int .i64 ((coG v0 v1).1.2.2.1.2.1.2 i)])),.p (.seq true 5 ((coG v0 v1).1.2.2.2.1.1) (fun i=>[.int .i64 (((coG v0 v1).1.2.2.2.1.2 i).1),.int .i64 (((coG v0 v1).1.2.2.2.1.2 i).2.1),.int .i64 (((coG v0 v1).1.2.2.2.1.2 i).2.2.1),.int .i64 (((coG v0 v1).1.2.2.2.1.2 i).2.2.2.1),.int .i64 (((coG v0 v1).1.2.2.2.1.2 i).2.2.2.2.1)])),.p (.seq true 1 ((coG v0 v1).1.2.2.2.2.1.1) (fun i=>[.int .i64 ((coG v0 v1).1.2.2.2.2.1.2 i)]))],.agg [.p (.int .i64 ((coG v0 v1).1.1)),.p (.int .i64 ((coG v0 v1).1.2.1.1)),.p (.seq true 2 ((coG v0 v1).1.2.1.2.1.1) (fun i=>[.int .i64 (((coG v0 v1).1.2.1.2.1.2 i).1),.int .i64 (((coG v0 v1).1.2.1.2.1.2 i).2.1)])),.p (.int .i64 ((coG v0 v1).1.2.2.1.1.1.1)),.p (.seq true 2 ((coG v0 v1).1.2.2.1.1.1.2.1.1) (fun i=>[.int .i64 (((coG v0 v1).1.2.2.1.1.1.2.1.2 i).1),.int .i64 (((coG v0 v1).1.2.2.1.1.1.2.1.2 i).2.1)])),.p (.seq true 2 ((coG v0 v1).1.2.2.1.1.2.1.1) (fun i=>[.int .i64 (((coG v0 v1).1.2.2.1.1.2.1.2 i).1),.int .i64 (((coG v0 v1).1.2.2.1.1.2.1.2 i).2.1)])),.p (.seq true 1 ((coG v0 v1).1.2.2.1.2.1.1) (fun i=>[.int .i64 ((coG v0 v1).1.2.2.1.2.1.2 i)])),.p (.seq true 5 ((coG v0 v1).1.2.2.2.1.1) (fun i=>[.int .i64 (((coG v0 v1).1.2.2.2.1.2 i).1),.int .i64 (((coG v0 v1).1.2.2.2.1.2 i).2.1),.int .i64 (((coG v0 v1).1.2.2.2.1.2 i).2.2.1),.int .i64 (((coG v0 v1).1.2.2.2.1.2 i).2.2.2.1),.int .i64 (((coG v0 v1).1.2.2.2.1.2 i).2.2.2.2.1)])),.p (.seq true 1 ((coG v0 v1).1.2.2.2.2.1.1) (fun i=>[.int .i64 ((coG v0 v1).1.2.2.2.2.1.2 i)]))]] [] (.p (.bool true))),(AG (!decide (1+2*(↑v1.2.1.1:Int)<0))),(((decide (1+2*(↑v1.2.1.1:Int)<0))=false)→ ((!decide (1+2*(↑v1.2.1.1:Int)<0))=true)),(AG (!bif decide (1+2*(↑v1.2.1.1:Int)<0) then true else !true)),(AG (!bif decide (1+2*(↑v1.2.1.1:Int)<0) then true else !true)),(((bif decide (1+2*(↑v1.2.1.1:Int)<0) then true else !true)=false)→ ((!bif decide (1+2*(↑v1.2.1.1:Int)<0) then true else !true)=true)),((bif bif decide (1+2*(↑v1.2.1.1:Int)<0) then true else !true then true else !(coG v0 v1).2==(coG v0 v1).2)=false),(NT 0 1),(AE (((coG v0 v1).1.2.1.2.1.1))),(AE (((coG v0 v1).1.2.2.1.1.1.2.1.1))),(AE (((coG v0 v1).1.2.2.1.1.2.1.1))),(AE (((coG v0 v1).1.2.2.1.2.1.1))),(AE (((coG v0 v1).1.2.2.2.1.1))),(AE (((coG v0 v1).1.2.2.2.2.1.1))),Con Tryz.prog 18 6 [(0,⟨false,2,((coG v0 v1).1.2.1.2.1.1),(fun i=>[.p (.int .i64 (((coG v0 v1).1.2.1.2.1.2 i).1)),.p (.int .i64 (((coG v0 v1).1.2.1.2.1.2 i).2.1))])⟩),(1,⟨false,2,((coG v0 v1).1.2.2.1.1.1.2.1.1),(fun i=>[.p (.int .i64 (((coG v0 v1).1.2.2.1.1.1.2.1.2 i).1)),.p (.int .i64 (((coG v0 v1).1.2.2.1.1.1.2.1.2 i).2.1))])⟩),(2,⟨false,2,((coG v0 v1).1.2.2.1.1.2.1.1),(fun i=>[.p (.int .i64 (((coG v0 v1).1.2.2.1.1.2.1.2 i).1)),.p (.int .i64 (((coG v0 v1).1.2.2.1.1.2.1.2 i).2.1))])⟩),(3,⟨false,1,((coG v0 v1).1.2.2.1.2.1.1),(fun i=>[.p (.int .i64 ((coG v0 v1).1.2.2.1.2.1.2 i))])⟩),(4,⟨false,5,((coG v0 v1).1.2.2.2.1.1),(fun i=>[.p (.int .i64 (((coG v0 v1).1.2.2.2.1.2 i).1)),.p (.int .i64 (((coG v0 v1).1.2.2.2.1.2 i).2.1)),.p (.int .i64 (((coG v0 v1).1.2.2.2.1.2 i).2.2.1)),.p (.int .i64 (((coG v0 v1).1.2.2.2.1.2 i).2.2.2.1)),.p (.int .i64 (((coG v0 v1).1.2.2.2.1.2 i).2.2.2.2.1))])⟩),(5,⟨false,1,((coG v0 v1).1.2.2.2.2.1.1),(fun i=>[.p (.int .i64 ((coG v0 v1).1.2.2.2.2.1.2 i))])⟩)] [.agg [.p (.int .i64 ((coG v0 v1).1.1)),.p (.int .i64 ((coG v0 v1).1.2.1.1)),.ar 2 0 0 ((coG v0 v1).1.2.1.2.1.1),.p (.int .i64 ((coG v0 v1).1.2.2.1.1.1.1)),.ar 2 1 0 ((coG v0 v1).1.2.2.1.1.1.2.1.1),.ar 2 2 0 ((coG v0 v1).1.2.2.1.1.2.1.1),.ar 1 3 0 ((coG v0 v1).1.2.2.1.2.1.1),.ar 5 4 0 ((coG v0 v1).1.2.2.2.1.1),.ar 1 5 0 ((coG v0 v1).1.2.2.2.2.1.1)],.p (.int .i64 1)] [(0,⟨false,2,((coG v0 v1).1.2.1.2.1.1),(fun i=>[.p (.int .i64 (1+2*(↑i:Int))),.p (.int .i64 (1+2*(↑i:Int)+1))])⟩),(1,⟨false,2,((coG v0 v1).1.2.2.1.1.1.2.1.1),(fun i=>[.p (.int .i64 (1+2*(↑(coG v0 v1).1.2.1.2.1.1:Int)+2*(↑i:Int))),.p (.int .i64 (1+2*(↑(coG v0 v1).1.2.1.2.1.1:Int)+2*(↑i:Int)+1))])⟩),(2,⟨false,2,((coG v0 v1).1.2.2.1.1.2.1.1),(fun i=>[.p (.int .i64 (1+2*(↑(coG v0 v1).1.2.1.2.1.1:Int)+2*(↑(coG v0 v1).1.2.2.1.1.1.2.1.1:Int)+2*(↑i:Int))),.p (.int .i64 (1+2*(↑(coG v0 v1).1.2.1.2.1.1:Int)+2*(↑(coG v0 v1).1.2.2.1.1.1.2.1.1:Int)+2*(↑i:Int)+1))])⟩),(3,⟨false,1,((coG v0 v1).1.2.2.1.2.1.1),(fun i=>[.p (.int .i64 (1+2*(↑(coG v0 v1).1.2.1.2.1.1:Int)+2*(↑(coG v0 v1).1.2.2.1.1.1.2.1.1:Int)+2*(↑(coG v0 v1).1.2.2.1.1.2.1.1:Int)+(↑i:Int)))])⟩),(4,⟨false,5,((coG v0 v1).1.2.2.2.1.1),(fun i=>[.p (.int .i64 (1+2*(↑(coG v0 v1).1.2.1.2.1.1:Int)+2*(↑(coG v0 v1).1.2.2.1.1.1.2.1.1:Int)+2*(↑(coG v0 v1).1.2.2.1.1.2.1.1:Int)+(↑(coG v0 v1).1.2.2.1.2.1.1:Int)+5*(↑i:Int))),.p (.int .i64 (1+2*(↑(coG v0 v1).1.2.1.2.1.1:Int)+2*(↑(coG v0 v1).1.2.2.1.1.1.2.1.1:Int)+2*(↑(coG v0 v1).1.2.2.1.1.2.1.1:Int)+(↑(coG v0 v1).1.2.2.1.2.1.1:Int)+5*(↑i:Int)+1)),.p (.int .i64 (1+2*(↑(coG v0 v1).1.2.1.2.1.1:Int)+2*(↑(coG v0 v1).1.2.2.1.1.1.2.1.1:Int)+2*(↑(coG v0 v1).1.2.2.1.1.2.1.1:Int)+(↑(coG v0 v1).1.2.2.1.2.1.1:Int)+5*(↑i:Int)+2)),.p (.int .i64 (1+2*(↑(coG v0 v1).1.2.1.2.1.1:Int)+2*(↑(coG v0 v1).1.2.2.1.1.1.2.1.1:Int)+2*(↑(coG v0 v1).1.2.2.1.1.2.1.1:Int)+(↑(coG v0 v1).1.2.2.1.2.1.1:Int)+5*(↑i:Int)+3)),.p (.int .i64 (1+2*(↑(coG v0 v1).1.2.1.2.1.1:Int)+2*(↑(coG v0 v1).1.2.2.1.1.1.2.1.1:Int)+2*(↑(coG v0 v1).1.2.2.1.1.2.1.1:Int)+(↑(coG v0 v1).1.2.2.1.2.1.1:Int)+5*(↑i:Int)+4))])⟩),(5,⟨false,1,((coG v0 v1).1.2.2.2.2.1.1),(fun i=>[.p (.int .i64 (1+2*(↑(coG v0 v1).1.2.1.2.1.1:Int)+2*(↑(coG v0 v1).1.2.2.1.1.1.2.1.1:Int)+2*(↑(coG v0 v1).1.2.2.1.1.2.1.1:Int)+(↑(coG v0 v1).1.2.2.1.2.1.1:Int)+5*(↑(coG v0 v1).1.2.2.2.1.1:Int)+(↑i:Int)))])⟩)] (.p (.int .i64 (1+2*(↑(coG v0 v1).1.2.1.2.1.1:Int)+2*(↑(coG v0 v1).1.2.2.1.1.1.2.1.1:Int)+2*(↑(coG v0 v1).1.2.2.1.1.2.1.1:Int)+(↑(coG v0 v1).1.2.2.1.2.1.1:Int)+5*(↑(coG v0 v1).1.2.2.2.1.1:Int)+(↑(coG v0 v1).1.2.2.2.2.1.1:Int)))),(NT 0 1),(AN 2),(NL ((coG v0 v1).1.2.1.2.1.1) ((coG v0 v1).1.2.1.2.1.1)),(AN 2),(NL ((coG v0 v1).1.2.2.1.1.1.2.1.1) ((coG v0 v1).1.2.2.1.1.1.2.1.1)),(AN 2),(NL ((coG v0 v1).1.2.2.1.1.2.1.1) ((coG v0 v1).1.2.2.1.1.2.1.1)),(AN 1),(NL ((coG v0 v1).1.2.2.1.2.1.1) ((coG v0 v1).1.2.2.1.2.1.1)),(AN 5),(NL ((coG v0 v1).1.2.2.2.1.1) ((coG v0 v1).1.2.2.2.1.1)),(AN 1),(NL ((coG v0 v1).1.2.2.2.2.1.1) ((coG v0 v1).1.2.2.2.2.1.1)),Con Tryz.prog 19 0 [] [.agg [.p (.int .i64 ((coG v0 v1).1.1)),.p (.int .i64 ((coG v0 v1).1.2.1.1)),.p (.seq true 2 ((coG v0 v1).1.2.1.2.1.1) (fun i=>[.int .i64 (1+2*(↑i:Int)),.int .i64 (1+2*(↑i:Int)+1)])),.p (.int .i64 ((coG v0 v1).1.2.2.1.1.1.1)),.p (.seq true 2 ((coG v0 v1).1.2.2.1.1.1.2.1.1) (fun i=>[.int .i64 (1+2*(↑(coG v0 v1).1.2.1.2.1.1:Int)+2*(↑i:Int)),.int .i64 (1+2*(↑(coG v0 v1).1.2.1.2.1.1:Int)+2*(↑i:Int)+1)])),.p (.seq true 2 ((coG v0 v1).1.2.2.1.1.2.1.1) (fun i=>[.int .i64 (1+2*(↑(coG v0 v1).1.2.1.2.1.1:Int)+2*(↑(coG v0 v1).1.2.2.1.1.1.2.1.1:Int)+2*(↑i:Int)),.int .i64 (1+2*(↑(coG v0 v1).1.2.1.2.1.1:Int)+2*(↑(coG v0 v1).1.2.2.1.1.1.2.1.1:Int)+2*(↑i:Int)+1)])),.p (.seq true 1 ((coG v0 v1).1.2.2.1.2.1.1) (fun i=>[.int .i64 (1+2*(↑(coG v0 v1).1.2.1.2.1.1:Int)+2*(↑(coG v0 v1).1.2.2.1.1.1.2.1.1:Int)+2*(↑(coG v0 v1).1.2.2.1.1.2.1.1:Int)+(↑i:Int))])),.p (.seq true 5 ((coG v0 v1).1.2.2.2.1.1) (fun i=>[.int .i64 (1+2*(↑(coG v0 v1).1.2.1.2.1.1:Int)+2*(↑(coG v0 v1).1.2.2.1.1.1.2.1.1:Int)+2*(↑(coG v0 v1).1.2.2.1.1.2.1.1:Int)+(↑(coG v0 v1).1.2.2.1.2.1.1:Int)+5*(↑i:Int)),.int .i64 (1+2*(↑(coG v0 v1).1.2.1.2.1.1:Int)+2*(↑(coG v0 v1).1.2.2.1.1.1.2.1.1:Int)+2*(↑(coG v0 v1).1.2.2.1.1.2.1.1:Int)+(↑(coG v0 v1).1.2.2.1.2.1.1:Int)+5*(↑i:Int)+1),.int .i64 (1+2*(↑(coG v0 v1).1.2.1.2.1.1:Int)+2*(↑(coG v0 v1).1.2.2.1.1.1.2.1.1:Int)+2*(↑(coG v0 v1).1.2.2.1.1.2.1.1:Int)+(↑(coG v0 v1).1.2.2.1.2.1.1:Int)+5*(↑i:Int)+2),.int .i64 (1+2*(↑(coG v0 v1).1.2.1.2.1.1:Int)+2*(↑(coG v0 v1).1.2.2.1.1.1.2.1.1:Int)+2*(↑(coG v0 v1).1.2.2.1.1.2.1.1:Int)+(↑(coG v0 v1).1.2.2.1.2.1.1:Int)+5*(↑i:Int)+3),.int .i64 (1+2*(↑(coG v0 v1).1.2.1.2.1.1:Int)+2*(↑(coG v0 v1).1.2.2.1.1.1.2.1.1:Int)+2*(↑(coG v0 v1).1.2.2.1.1.2.1.1:Int)+(↑(coG v0 v1).1.2.2.1.2.1.1:Int)+5*(↑i:Int)+4)])),.p (.seq true 1 ((coG v0 v1).1.2.2.2.2.1.1) (fun i=>[.int .i64 (1+2*(↑(coG v0 v1).1.2.1.2.1.1:Int)+2*(↑(coG v0 v1).1.2.2.1.1.1.2.1.1:Int)+2*(↑(coG v0 v1).1.2.2.1.1.2.1.1:Int)+(↑(coG v0 v1).1.2.2.1.2.1.1:Int)+5*(↑(coG v0 v1).1.2.2.2.1.1:Int)+(↑i:Int))]))],.p (.int .i64 1)] [] (.p (.int .i64 (1+2*(↑(coG v0 v1).1.2.1.2.1.1:Int)+2*(↑(coG v0 v1).1.2.2.1.1.1.2.1.1:Int)+2*(↑(coG v0 v1).1.2.2.1.1.2.1.1:Int)+(↑(coG v0 v1).1.2.2.1.2.1.1:Int)+5*(↑(coG v0 v1).1.2.2.2.1.1:Int)+(↑(coG v0 v1).1.2.2.2.2.1.1:Int)))),((decide (1+2*(↑(coG v0 v1).1.2.1.2.1.1:Int)+2*(↑(coG v0 v1).1.2.2.1.1.1.2.1.1:Int)+2*(↑(coG v0 v1).1.2.2.1.1.2.1.1:Int)+(↑(coG v0 v1).1.2.2.1.2.1.1:Int)+5*(↑(coG v0 v1).1.2.2.2.1.1:Int)+(↑(coG v0 v1).1.2.2.2.2.1.1:Int)<0))=false),((1+2*(↑(coG v0 v1).1.2.1.2.1.1:Int)+2*(↑(coG v0 v1).1.2.2.1.1.1.2.1.1:Int)+2*(↑(coG v0 v1).1.2.2.1.1.2.1.1:Int)+(↑(coG v0 v1).1.2.2.1.2.1.1:Int)+5*(↑(coG v0 v1).1.2.2.2.1.1:Int)+(↑(coG v0 v1).1.2.2.2.2.1.1:Int) != 1+2*(↑(coG v0 v1).1.2.1.2.1.1:Int)+2*(↑(coG v0 v1).1.2.2.1.1.1.2.1.1:Int)+2*(↑(coG v0 v1).1.2.2.1.1.2.1.1:Int)+(↑(coG v0 v1).1.2.2.1.2.1.1:Int)+5*(↑(coG v0 v1).1.2.2.2.1.1:Int)+(↑(coG v0 v1).1.2.2.2.2.1.1:Int))=false),(NT 0 1),Con Tryz.prog 13 0 [] [(zf104 v1)] (zf113 v1) (.agg [.p (.int .i64 v1.1),.ar 2 0 0 v1.2.1.1]),(AN 2),(NL v1.2.1.1 v1.2.1.1),Con Tryz.prog 14 0 [] [.p (.int .i64 v0),(zf104 v1)] [(0,⟨false,2,((coG v0 v1).1.2.1.2.1.1),(fun i=>[.p (.int .i64 (((coG v0 v1).1.2.1.2.1.2 i).1)),.p (.int .i64 (((coG v0 v1).1.2.1.2.1.2 i).2.1))])⟩),(1,⟨false,2,((coG v0 v1).1.2.2.1.1.1.2.1.1),(fun i=>[.p (.int .i64 (((coG v0 v1).1.2.2.1.1.1.2.1.2 i).1)),.p (.int .i64 (((coG v0 v1).1.2.2.1.1.1.2.1.2 i).2.1))])⟩),(2,⟨false,2,((coG v0 v1).1.2.2.1.1.2.1.1),(fun i=>[.p (.int .i64 (((coG v0 v1).1.2.2.1.1.2.1.2 i).1)),.p (.int .i64 (((coG v0 v1).1.2.2.1.1.2.1.2 i).2.1))])⟩),(3,⟨false,1,((coG v0 v1).1.2.2.1.2.1.1),(fun i=>[.p (.int .i64 ((coG v0 v1).1.2.2.1.2.1.2 i))])⟩),(4,⟨false,5,((coG v0 v1).1.2.2.2.1.1),(fun i=>[.p (.int .i64 (((coG v0 v1).1.2.2.2.1.2 i).1)),.p (.int .i64 (((coG v0 v1).1.2.2.2.1.2 i).2.1)),.p (.int .i64 (((coG v0 v1).1.2.2.2.1.2 i).2.2.1)),.p (.int .i64 (((coG v0 v1).1.2.2.2.1.2 i).2.2.2.1)),.p (.int .i64 (((coG v0 v1).1.2.2.2.1.2 i).2.2.2.2.1))])⟩),(5,⟨false,1,((coG v0 v1).1.2.2.2.2.1.1),(fun i=>[.p (.int .i64 ((coG v0 v1).1.2.2.2.2.1.2 i))])⟩)] (.tup [.agg [.p (.int .i64 ((coG v0 v1).1.1)),.p (.int .i64 ((coG v0 v1).1.2.1.1)),.ar 2 0 0 ((coG v0 v1).1.2.1.2.1.1),.p (.int .i64 ((coG v0 v1).1.2.2.1.1.1.1)),.ar 2 1 0 ((coG v0 v1).1.2.2.1.1.1.2.1.1),.ar 2 2 0 ((coG v0 v1).1.2.2.1.1.2.1.1),.ar 1 3 0 ((coG v0 v1).1.2.2.1.2.1.1),.ar 5 4 0 ((coG v0 v1).1.2.2.2.1.1),.ar 1 5 0 ((coG v0 v1).1.2.2.2.2.1.1)],.p (.bool ((coG v0 v1).2))]),(NT 0 1),((true=true)→ (AN 1)),(NT 0 1),(NT 0 1),(AN 2),(NL ((coG v0 v1).1.2.1.2.1.1) ((coG v0 v1).1.2.1.2.1.1)),(AN 2),(NL ((coG v0 v1).1.2.2.1.1.1.2.1.1) ((coG v0 v1).1.2.2.1.1.1.2.1.1)),(AN 2),(NL ((coG v0 v1).1.2.2.1.1.2.1.1) ((coG v0 v1).1.2.2.1.1.2.1.1)),(AN 1),(NL ((coG v0 v1).1.2.2.1.2.1.1) ((coG v0 v1).1.2.2.1.2.1.1)),(AN 5),(NL ((coG v0 v1).1.2.2.2.1.1) ((coG v0 v1).1.2.2.2.1.1)),(AN 1),(NL ((coG v0 v1).1.2.2.2.2.1.1) ((coG v0 v1).1.2.2.2.2.1.1)),(AN 2),(NL ((coG v0 v1).1.2.1.2.1.1) ((coG v0 v1).1.2.1.2.1.1)),(AN 2),(NL ((coG v0 v1).1.2.2.1.1.1.2.1.1) ((coG v0 v1).1.2.2.1.1.1.2.1.1)),(AN 2),(NL ((coG v0 v1).1.2.2.1.1.2.1.1) ((coG v0 v1).1.2.2.1.1.2.1.1)),(AN 1),(NL ((coG v0 v1).1.2.2.1.2.1.1) ((coG v0 v1).1.2.2.1.2.1.1)),(AN 5),(NL ((coG v0 v1).1.2.2.2.1.1) ((coG v0 v1).1.2.2.2.1.1)),(AN 1),(NL ((coG v0 v1).1.2.2.2.2.1.1) ((coG v0 v1).1.2.2.2.2.1.1)),Con Tryz.prog 15 0 [] [.agg [.p (.int .i64 ((coG v0 v1).1.1)),.p (.int .i64 ((coG v0 v1).1.2.1.1)),.p (.seq true 2 ((coG v0 v1).1.2.1.2.1.1) (fun i=>[.int .i64 (((coG v0 v1).1.2.1.2.1.2 i).1),.int .i64 (((coG v0 v1).1.2.1.2.1.2 i).2.1)])),.p (.int .i64 ((coG v0 v1).1.2.2.1.1.1.1)),.p (.seq true 2 ((coG v0 v1).1.2.2.1.1.1.2.1.1) (fun i=>[.int .i64 (((coG v0 v1).1.2.2.1.1.1.2.1.2 i).1),.int .i64 (((coG v0 v1).1.2.2.1.1.1.2.1.2 i).2.1)])),.p (.seq true 2 ((coG v0 v1).1.2.2.1.1.2.1.1) (fun i=>[.int .i64 (((coG v0 v1).1.2.2.1.1.2.1.2 i).1),.int .i64 (((coG v0 v1).1.2.2.1.1.2.1.2 i).2.1)])),.p (.seq true 1 ((coG v0 v1).1.2.2.1.2.1.1) (fun i=>[.int .i64 ((coG v0 v1).1.2.2.1.2.1.2 i)])),.p (.seq true 5 ((coG v0 v1).1.2.2.2.1.1) (fun i=>[.int .i64 (((coG v0 v1).1.2.2.2.1.2 i).1),.int .i64 (((coG v0 v1).1.2.2.2.1.2 i).2.1),.int .i64 (((coG v0 v1).1.2.2.2.1.2 i).2.2.1),.int .i64 (((coG v0 v1).1.2.2.2.1.2 i).2.2.2.1),.int .i64 (((coG v0 v1).1.2.2.2.1.2 i).2.2.2.2.1)])),.p (.seq true 1 ((coG v0 v1).1.2.2.2.2.1.1) (fun i=>[.int .i64 ((coG v0 v1).1.2.2.2.2.1.2 i)]))],.agg [.p (.int .i64 ((coG v0 v1).1.1)),.p (.int .i64 ((coG v0 v1).1.2.1.1)),.p (.seq true 2 ((coG v0 v1).1.2.1.2.1.1) (fun i=>[.int .i64 (((coG v0 v1).1.2.1.2.1.2 i).1),.int .i64 (((coG v0 v1).1.2.1.2.1.2 i).2.1)])),.p (.int .i64 ((coG v0 v1).1.2.2.1.1.1.1)),.p (.seq true 2 ((coG v0 v1).1.2.2.1.1.1.2.1.1) (fun i=>[.int .i64 (((coG v0 v1).1.2.2.1.1.1.2.1.2 i).1),.int .i64 (((coG v0 v1).1.2.2.1.1.1.2.1.2 i).2.1)])),.p (.seq true 2 ((coG v0 v1).1.2.2.1.1.2.1.1) (fun i=>[.int .i64 (((coG v0 v1).1.2.2.1.1.2.1.2 i).1),.int .i64 (((coG v0 v1).1.2.2.1.1.2.1.2 i).2.1)])),.p (.seq true 1 ((coG v0 v1).1.2.2.1.2.1.1) (fun i=>[.int .i64 ((coG v0 v1).1.2.2.1.2.1.2 i)])),.p (.seq true 5 ((coG v0 v1).1.2.2.2.1.1) (fun i=>[.int .i64 (((coG v0 v1).1.2.2.2.1.2 i).1),.int .i64 (((coG v0 v1).1.2.2.2.1.2 i).2.1),.int .i64 (((coG v0 v1).1.2.2.2.1.2 i).2.2.1),.int .i64 (((coG v0 v1).1.2.2.2.1.2 i).2.2.2.1),.int .i64 (((coG v0 v1).1.2.2.2.1.2 i).2.2.2.2.1)])),.p (.seq true 1 ((coG v0 v1).1.2.2.2.2.1.1) (fun i=>[.int .i64 ((coG v0 v1).1.2.2.2.2.1.2 i)]))]] [] (.p (.bool true)),(AG (!!true)),(AG (!!true)),(((!true)=false)→ ((!!true)=true)),((bif !true then true else !(coG v0 v1).2==(coG v0 v1).2)=false),(NT 0 1),(AN 2),(NL ((coG v0 v1).1.2.1.2.1.1) ((coG v0 v1).1.2.1.2.1.1)),(AN 2),(NL ((coG v0 v1).1.2.2.1.1.1.2.1.1) ((coG v0 v1).1.2.2.1.1.1.2.1.1)),(AN 2),(NL ((coG v0 v1).1.2.2.1.1.2.1.1) ((coG v0 v1).1.2.2.1.1.2.1.1)),(AN 1),(NL ((coG v0 v1).1.2.2.1.2.1.1) ((coG v0 v1).1.2.2.1.2.1.1)),(AN 5),(NL ((coG v0 v1).1.2.2.2.1.1) ((coG v0 v1).1.2.2.2.1.1)),(AN 1),(NL ((coG v0 v1).1.2.2.2.2.1.1) ((coG v0 v1).1.2.2.2.2.1.1)),Con Tryz.prog 19 0 [] [.agg [.p (.int .i64 ((coG v0 v1).1.1)),.p (.int .i64 ((coG v0 v1).1.2.1.1)),.p (.seq true 2 ((coG v0 v1).1.2.1.2.1.1) (fun i=>[.int .i64 (1+2*(↑i:Int)),.int .i64 (1+2*(↑i:Int)+1)])),.p (.int .i64 ((coG v0 v1).1.2.2.1.1.1.1)),.p (.seq true 2 ((coG v0 v1).1.2.2.1.1.1.2.1.1) (fun i=>[.int .i64 (1+2*(↑(coG v0 v1).1.2.1.2.1.1:Int)+2*(↑i:Int)),.int .i64 (1+2*(↑(coG v0 v1).1.2.1.2.1.1:Int)+2*(↑i:Int)+1)])),.p (.seq true 2 ((coG v0 v1).1.2.2.1.1.2.1.1) (fun i=>[.int .i64 (1+2*(↑(coG v0 v1).1.2.1.2.1.1:Int)+2*(↑(coG v0 v1).1.2.2.1.1.1.2.1.1:Int)+2*(↑i:Int)),.int .i64 (1+2*(↑(coG v0 v1).1.2.1.2.1.1:Int)+2*(↑(coG v0 v1).1.2.2.1.1.1.2.1.1:Int)+2*(↑i:Int)+1)])),.p (.seq true 1 ((coG v0 v1).1.2.2.1.2.1.1) (fun i=>[.int .i64 (1+2*(↑(coG v0 v1).1.2.1.2.1.1:Int)+2*(↑(coG v0 v1).1.2.2.1.1.1.2.1.1:Int)+2*(↑(coG v0 v1).1.2.2.1.1.2.1.1:Int)+(↑i:Int))])),.p (.seq true 5 ((coG v0 v1).1.2.2.2.1.1) (fun i=>[.int .i64 (1+2*(↑(coG v0 v1).1.2.1.2.1.1:Int)+2*(↑(coG v0 v1).1.2.2.1.1.1.2.1.1:Int)+2*(↑(coG v0 v1).1.2.2.1.1.2.1.1:Int)+(↑(coG v0 v1).1.2.2.1.2.1.1:Int)+5*(↑i:Int)),.int .i64 (1+2*(↑(coG v0 v1).1.2.1.2.1.1:Int)+2*(↑(coG v0 v1).1.2.2.1.1.1.2.1.1:Int)+2*(↑(coG v0 v1).1.2.2.1.1.2.1.1:Int)+(↑(coG v0 v1).1.2.2.1.2.1.1:Int)+5*(↑i:Int)+1),.int .i64 (1+2*(↑(coG v0 v1).1.2.1.2.1.1:Int)+2*(↑(coG v0 v1).1.2.2.1.1.1.2.1.1:Int)+2*(↑(coG v0 v1).1.2.2.1.1.2.1.1:Int)+(↑(coG v0 v1).1.2.2.1.2.1.1:Int)+5*(↑i:Int)+2),.int .i64 (1+2*(↑(coG v0 v1).1.2.1.2.1.1:Int)+2*(↑(coG v0 v1).1.2.2.1.1.1.2.1.1:Int)+2*(↑(coG v0 v1).1.2.2.1.1.2.1.1:Int)+(↑(coG v0 v1).1.2.2.1.2.1.1:Int)+5*(↑i:Int)+3),.int .i64 (1+2*(↑(coG v0 v1).1.2.1.2.1.1:Int)+2*(↑(coG v0 v1).1.2.2.1.1.1.2.1.1:Int)+2*(↑(coG v0 v1).1.2.2.1.1.2.1.1:Int)+(↑(coG v0 v1).1.2.2.1.2.1.1:Int)+5*(↑i:Int)+4)])),.p (.seq true 1 ((coG v0 v1).1.2.2.2.2.1.1) (fun i=>[.int .i64 (1+2*(↑(coG v0 v1).1.2.1.2.1.1:Int)+2*(↑(coG v0 v1).1.2.2.1.1.1.2.1.1:Int)+2*(↑(coG v0 v1).1.2.2.1.1.2.1.1:Int)+(↑(coG v0 v1).1.2.2.1.2.1.1:Int)+5*(↑(coG v0 v1).1.2.2.2.1.1:Int)+(↑i:Int))]))],.p (.int .i64 1)] [] (.p (.int .i64 (1+2*(↑(coG v0 v1).1.2.1.2.1.1:Int)+2*(↑(coG v0 v1).1.2.2.1.1.1.2.1.1:Int)+2*(↑(coG v0 v1).1.2.2.1.1.2.1.1:Int)+(↑(coG v0 v1).1.2.2.1.2.1.1:Int)+5*(↑(coG v0 v1).1.2.2.2.1.1:Int)+(↑(coG v0 v1).1.2.2.2.2.1.1:Int)))),((decide (1+2*(↑(coG v0 v1).1.2.1.2.1.1:Int)+2*(↑(coG v0 v1).1.2.2.1.1.1.2.1.1:Int)+2*(↑(coG v0 v1).1.2.2.1.1.2.1.1:Int)+(↑(coG v0 v1).1.2.2.1.2.1.1:Int)+5*(↑(coG v0 v1).1.2.2.2.1.1:Int)+(↑(coG v0 v1).1.2.2.2.2.1.1:Int)<0))=false),((1+2*(↑(coG v0 v1).1.2.1.2.1.1:Int)+2*(↑(coG v0 v1).1.2.2.1.1.1.2.1.1:Int)+2*(↑(coG v0 v1).1.2.2.1.1.2.1.1:Int)+(↑(coG v0 v1).1.2.2.1.2.1.1:Int)+5*(↑(coG v0 v1).1.2.2.2.1.1:Int)+(↑(coG v0 v1).1.2.2.2.2.1.1:Int) != 1+2*(↑(coG v0 v1).1.2.1.2.1.1:Int)+2*(↑(coG v0 v1).1.2.2.1.1.1.2.1.1:Int)+2*(↑(coG v0 v1).1.2.2.1.1.2.1.1:Int)+(↑(coG v0 v1).1.2.2.1.2.1.1:Int)+5*(↑(coG v0 v1).1.2.2.2.1.1:Int)+(↑(coG v0 v1).1.2.2.2.2.1.1:Int))=false),(true=true)]:=by kernel_rfl
set_option maxRecDepth 8000 in
theorem con_law_FnExactClaimOfGraph (v0:Int) (v1:T_Graph) (k0:okS (.int .i64) v0) (k1:okS s_Graph v1):Con Tryz.prog 3 0 [] [.p (.int .i64 v0),(zf104 v1)] [] (.p (.bool true)):=by
  refine con_start Tryz.func3 rfl (by kernel_rfl) rfl (fun c hc=>?_)
  simp only [okS,imin,imax] at k0
  have l0:=le_szGraph v1 1048576 (by omega)
  by_cases g0:(f_szGraph v1 1048576)<0
  · refine path_ok mixed Tryz.func3 hc (p_FnExactClaimOfGraph_0 v0 v1) ?_
    repeat' (first | exact aN | apply aI)
    all_goals (first | omega | rfl | (intros;first | assumption | exact trivial | rfl | exact fT ‹_› | ((repeat' (first | assumption | apply anda | apply notf));done)) | (exact con_szGraph v1 k1 _ (by omega) (by omega)) | (simp;omega))
  have hs1:=sm_szGraph v1 1048576 (by omega) (by omega) g0
  have hr0:=sm_coG v0 hs1
  have n_0:v1.2.1.1≤1048576:=hs1.2.1.1
  have n_1:(coG v0 v1).1.2.1.2.1.1≤1048576:=hr0.2.1.2.1.1
  have n_2:(coG v0 v1).1.2.2.1.1.1.2.1.1≤1048576:=hr0.2.2.1.1.1.2.1.1
  have n_3:(coG v0 v1).1.2.2.1.1.2.1.1≤1048576:=hr0.2.2.1.1.2.1.1
  have n_4:(coG v0 v1).1.2.2.1.2.1.1≤1048576:=hr0.2.2.1.2.1.1
  have n_5:(coG v0 v1).1.2.2.2.1.1≤1048576:=hr0.2.2.2.1.1
  have n_6:(coG v0 v1).1.2.2.2.2.1.1≤1048576:=hr0.2.2.2.2.1.1
  refine path_ok mixed Tryz.func3 hc (p_FnExactClaimOfGraph_e v0 v1) ?_
  repeat' (first | exact aN | apply aI)
  all_goals (first | exact aG _ | exact aE _ | omega | rfl | (intros;first | assumption | exact trivial | rfl | exact fT ‹_› | ((repeat' (first | assumption | apply anda | apply notf));done)) | (exact con_szGraph v1 k1 _ (by omega) (by omega)) | (exact con_toGraph v1 hs1) | (exact con_ClaimG_s v0 v1 hs1) | (exact con_ClaimG_i v0 v1 hs1) | (intros;exact con_eqClaim (coG v0 v1).1 hr0) | (intros;exact con_eqGraph v1 hs1) | (intros;exact con_markGraph v1 _ hs1.2.1.1 (by omega) (by omega)) | (intros;exact con_markClaim (coG v0 v1).1 _ hr0.2.1.2.1.1 hr0.2.2.1.1.1.2.1.1 hr0.2.2.1.1.2.1.1 hr0.2.2.1.2.1.1 hr0.2.2.2.1.1 hr0.2.2.2.2.1.1 (by omega) (by omega)) | (intros;exact con_heldClaim (coG v0 v1).1 _ hr0.2.1.2.1.1 hr0.2.2.1.1.1.2.1.1 hr0.2.2.1.1.2.1.1 hr0.2.2.1.2.1.1 hr0.2.2.2.1.1 hr0.2.2.2.2.1.1 (by omega) (by omega)) | (simp;try omega))
end Go.Proofs.YtkkjoghiigiokaaGreat.Mach
