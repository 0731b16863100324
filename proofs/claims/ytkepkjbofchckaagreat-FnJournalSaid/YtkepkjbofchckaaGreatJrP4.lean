/- What the law Jr needs, part 4 of 6: the abstract machine and the contracts of the functions. Conditions: as each theorem says. -/
import Derived.Shelf.RegionOpenPlain
import Derived.Deep.LoopGhost
import Derived.Deep.RegionLaw
import Derived.Lib.Walk
import Derived.Lib.SliceRun
import Derived.Lib.SlicesDelete
import Derived.Test.YtkepkjbofchckaaGreatJrP3
namespace Go.Proofs.YtkepkjbofchckaaGreat.Mach
open Go Go.Sort
set_option linter.unusedVariables false
set_option linter.unusedSimpArgs false
def zP3:Ob:=⟨true,3,1,fun _=>[.p (.int .i64 0),.p .nil,.p .nil]⟩
def pgO (N:Int) (n m:Nat):Ob:=⟨true,3,1,fun _=>[.p (.int .i64 N),.ar 2 3 0 n,.ar 1 4 0 m]⟩
def SQi (p:T_Pinned) (l:T_BarS) (k:Nat) (N:Int) (n:Nat) (h:Nat→T_Bar):St :=
  ⟨[pinA p,graphL l,.pt 3 0 0 0,.p .any,.pt 3 1 0 0,.p (.bool false),.pt 3 2 0 0]++List.replicate 10 anyA++[graphL l,.p (.int .i64 l.1),.p (.int .i64 k)]++List.replicate 24 anyA,
   [(0,boxP p),(1,zP3),(2,pgO N n p.2.1.1),(3,brOb n h),(4,iOb p.2.1.1 p.2.1.2)],5⟩
def SQs (p:T_Pinned) (l:T_BarS) (k:Nat) (N:Int) (n:Nat) (h:Nat→T_Bar):St :=
  ⟨[pinA p,graphL l,.pt 3 0 0 0,.p .any,.pt 3 1 0 0,.p (.bool false),.pt 3 2 0 0,.p (.int .i64 k)]++List.replicate 47 anyA,
   [(0,boxP p),(1,zP3),(2,pgO N n p.2.1.1),(3,brOb n h),(4,iOb p.2.1.1 p.2.1.2)],5⟩
theorem rCp (p:T_Pinned) :
    zS Tryz.f83 [rg 2,rm [(2,oc [(0,brOb p.1.2.1.1 p.1.2.1.2)] (.agg [.p (.int .i64 p.1.1),.ar 2 0 0 p.1.2.1.1])),(2,oc [(0,iOb p.2.1.1 p.2.1.2)] (.ar 1 0 0 p.2.1.1))] 2] [pinA p] [128,224] [(0,brOb p.1.2.1.1 p.1.2.1.2),(1,iOb p.2.1.1 p.2.1.2)] ((zf120 p)) =
    some [(NT 0 1),zE 141 [(zf98 p)] (zf103 p) (.agg [.p (.int .i64 p.1.1),.ar 2 0 0 p.1.2.1.1]),(NT 0 1),zE 91 [.p (.seq true 1 p.2.1.1 (fun i=>[.int .i64 (p.2.1.2 i)]))] [(0,⟨false,1,p.2.1.1,(fun i=>[.p (.int .i64 (p.2.1.2 i))])⟩)] (.ar 1 0 0 p.2.1.1),(NT 0 1),((true=true)→ (AN 1)),(NT 0 1),(AI p.1.1),(AN 0),(AN p.1.2.1.1),(AN 0),(AN p.2.1.1),(AN 2),(NL p.1.2.1.1 p.1.2.1.1),(AA p.1.2.1.1 (fun i=>[.p (.int .i64 ((p.1.2.1.2 i).1)),.p (.int .i64 ((p.1.2.1.2 i).2.1))])),(AN 1),(NL p.2.1.1 p.2.1.1),(AA p.2.1.1 (fun i=>[.p (.int .i64 (p.2.1.2 i))])),(AE p.1.2.1.1),(AE p.2.1.1)]:=by kernel_rfl
theorem rQy (p:T_Pinned) (l:T_BarS) :
    zS Tryz.f18 [rg 3,rm [(1,oc [] (.p (.bool false)))] 1,.dec true,rg 3] [pinA p,graphL l] [] [(0,brOb 0 (fun _=>(0,0,()))),(1,iOb 0 (fun _=>0))] (zf117) =
    some (zD [(NT 0 1),zE 73 [(zf25 p)] [] (.p (.bool false)),((!false)=true),((true=true)→ (AN 1)),(AI 0),(AN 0),(false=false),(AE 0)] [0,1,2,0,3,0,4,5,5,6,5,5,7,7]):=by kernel_rfl
theorem rQz (p:T_Pinned) (l:T_BarS) :
    zT Tryz.f18 [rg 3,rm [(1,oc [] (.p (.bool true)))] 1,.dec false,rm [(1,oc [(0,brOb p.1.2.1.1 p.1.2.1.2),(1,iOb p.2.1.1 p.2.1.2)] (zf120 p))] 2,rg 3,.head] [pinA p,graphL l] [0,32,256,224,225] (SQi p l 0 p.1.1 p.1.2.1.1 p.1.2.1.2) =
    some (zf50,zD [(NT 0 1),zE 73 [(zf25 p)] [] (.p (.bool true)),((!true)=false),zE 83 [(zf25 p)] (zf31 p) ((zf120 p)),((true=true)→ (AN 1)),(AI p.1.1),(AN p.1.2.1.1),(AP p.1.2.1.1 (fun i=>[.int .i64 ((p.1.2.1.2 i).1),.int .i64 ((p.1.2.1.2 i).2.1)])),(AN p.2.1.1),(AP p.2.1.1 (fun i=>[.int .i64 (p.2.1.2 i)])),(AN l.1),(AP l.1 (fun i=>[.int .i64 ((l.2 i).1),.int .i64 ((l.2 i).2.1)])),(AN 0),(false=false),(AI ((↑l.1:Int))),((0:Int)=(↑0:Int)),((([AV.p (PV.int IntKind.i64 p.1.1),graphL p.1.2.1,inL p.2.1].length):Nat)=3),(NL 1 1),((((List.map (fun v=>AV.p (absV v)) [Value.int IntKind.i64 0,Value.slice none 0 0,Value.slice none 0 0]).length):Nat)=3),(AI 0),(AN 2),(NL p.1.2.1.1 p.1.2.1.1),(AA p.1.2.1.1 (fun i=>[.p (.int .i64 ((p.1.2.1.2 i).1)),.p (.int .i64 ((p.1.2.1.2 i).2.1))])),(AN 1),(NL p.2.1.1 p.2.1.1),(AA p.2.1.1 (fun i=>[.p (.int .i64 (p.2.1.2 i))]))] [0,1,2,0,3,0,4,5,6,7,8,9,10,11,12,12,13,12,10,11,14,15,16,17,17,5,6,7,8,9,18,17,17,19,18,17,17,5,12,6,12,8,20,21,22,23,24,25]):=by kernel_rfl
theorem rQa (p:T_Pinned) (l:T_BarS) (k:Nat) (N N2:Int) (n n2:Nat) (h h2:Nat→T_Bar) :
    zM 0 [rg 1,.dec true,rg 4,rm [(6,oc [(0,brOb n2 h2)] (zf125 N2 n2))] 6,rg 2,.dec false,rg 3,rg 2,.head] zf50 (SQi p l k N n h) [0,1,2,357,4] 1 (SQi p l (k+1) N2 n2 h2) =
    some (zf50,zD [((decide ((↑k:Int)<(↑l.1:Int)))=true),(IL 0 (↑k:Int)),(IT (↑k:Int) (↑l.1:Int)),(NT 0 1),((true=true)→ (AN 1)),(AN 2),(NL n n),zE 84 [(zf108 N n h),.p (.int .i64 ((l.2 k).1)),.p (.int .i64 ((l.2 k).2.1))] (zf113 n2 h2) ((zf125 N2 n2)),((!true)=false),(ZLo ((↑k:Int)+1)),(ZHi ((↑k:Int)+1)),(AI p.1.1),(AN p.1.2.1.1),(AP p.1.2.1.1 (fun i=>[.int .i64 ((p.1.2.1.2 i).1),.int .i64 ((p.1.2.1.2 i).2.1)])),(AN p.2.1.1),(AP p.2.1.1 (fun i=>[.int .i64 (p.2.1.2 i)])),(AN l.1),(AP l.1 (fun i=>[.int .i64 ((l.2 i).1),.int .i64 ((l.2 i).2.1)])),(AN 0),(false=false),(AI ((↑l.1:Int))),((((↑k:Int)+1):Int)=(↑(k+1):Int)),(AN 3),(NL 1 1),(AI 0),(AI N2),(AN n2),(NL n2 n2),(AA n2 (fun i=>[.p (.int .i64 ((h2 i).1)),.p (.int .i64 ((h2 i).2.1))])),(AN 1),(NL p.2.1.1 p.2.1.1),(AA p.2.1.1 (fun i=>[.p (.int .i64 (p.2.1.2 i))]))] [0,1,2,3,4,3,3,3,5,6,7,3,4,8,3,3,4,9,10,11,12,13,14,15,16,17,18,18,19,18,16,17,20,21,22,23,23,11,12,13,14,15,22,23,23,24,22,23,23,25,18,26,18,14,5,27,28,29,30,31]):=by kernel_rfl
theorem rQb (p:T_Pinned) (l:T_BarS) (k:Nat) (N N2:Int) (n n2:Nat) (h h2:Nat→T_Bar) :
    zP Tryz.f18 0 [rg 1,.dec true,rg 4,rm [(6,oc [(0,brOb n2 h2)] (zf123 N2 n2))] 6,rg 2,.dec true,rg 3] zf50 (SQi p l k N n h) [] 1 [(0,brOb 0 (fun _=>(0,0,()))),(1,iOb 0 (fun _=>0))] (zf117) =
    some (zD [((decide ((↑k:Int)<(↑l.1:Int)))=true),(IL 0 (↑k:Int)),(IT (↑k:Int) (↑l.1:Int)),(NT 0 1),((true=true)→ (AN 1)),(AN 2),(NL n n),zE 84 [(zf108 N n h),.p (.int .i64 ((l.2 k).1)),.p (.int .i64 ((l.2 k).2.1))] (zf113 n2 h2) ((zf123 N2 n2)),((!false)=true),(AI 0),(AN 0),(false=false),(AE 0)] [0,1,2,3,4,3,3,3,5,6,7,3,4,8,3,4,3,9,10,10,11,10,10,12,12]):=by kernel_rfl
theorem rQc (p:T_Pinned) (l:T_BarS) (k:Nat) (N:Int) (n:Nat) (h:Nat→T_Bar) :
    zP Tryz.f18 0 [rg 1,.dec false,rm [(1,oc [] (.p (.bool false)))] 1,.dec true,rg 3] zf50 (SQi p l k N n h) [] 1 [(0,brOb 0 (fun _=>(0,0,()))),(1,iOb 0 (fun _=>0))] (zf117) =
    some [((decide ((↑k:Int)<(↑l.1:Int)))=false),(NT 0 1),(AN 2),(NL n n),(AN 1),(NL p.2.1.1 p.2.1.1),zE 73 [(zf48 N n h p)] [] (.p (.bool false)),((!false)=true),(NT 0 1),((true=true)→ (AN 1)),(NT 0 1),(AI 0),(AN 0),(AN 0),(false=false),(AN 0),(AN 0),(AE 0),(AE 0)]:=by kernel_rfl
theorem rQd (p:T_Pinned) (l:T_BarS) (k:Nat) (N:Int) (n:Nat) (h:Nat→T_Bar) :
    zP Tryz.f18 0 [rg 1,.dec false,rm [(1,oc [] (.p (.bool true)))] 1,.dec false,rg 3] zf50 (SQi p l k N n h) [3,4] 1 [(0,brOb n h),(1,iOb p.2.1.1 p.2.1.2)] (.tup [.agg [.p (.int .i64 N),.ar 2 0 0 n,.ar 1 1 0 p.2.1.1],.p (.bool true)]) =
    some (zD [((decide ((↑k:Int)<(↑l.1:Int)))=false),(NT 0 1),(AN 2),(NL n n),(AN 1),(NL p.2.1.1 p.2.1.1),zE 73 [(zf48 N n h p)] [] (.p (.bool true)),((!true)=false),((true=true)→ (AN 1)),(AI N),(AN 0),(AN n),(AN p.2.1.1),(true=true),(AA n (fun i=>[.p (.int .i64 ((h i).1)),.p (.int .i64 ((h i).2.1))])),(AA p.2.1.1 (fun i=>[.p (.int .i64 (p.2.1.2 i))])),(AE n),(AE p.2.1.1)] [0,1,2,3,4,5,6,7,1,1,8,1,9,10,11,10,12,13,2,3,14,4,5,15,16,17]):=by kernel_rfl
theorem rWz (p:T_Pinned) (l:T_BarS) :
    zT Tryz.f19 [rg 3,rm [(2,oc [(0,brOb p.1.2.1.1 p.1.2.1.2)] (.agg [.p (.int .i64 p.1.1),.ar 2 0 0 p.1.2.1.1]))] 7,rg 1,.head] [pinA p,graphL l] [0,32,352,160,288] (SQs p l 0 p.1.1 p.1.2.1.1 p.1.2.1.2) =
    some (zf72,zD [(NT 0 1),zE 85 [(zf98 p)] (zf103 p) (.agg [.p (.int .i64 p.1.1),.ar 2 0 0 p.1.2.1.1]),(NL 0 0),(NL ((0+p.2.1.1)*8) 140737488355328),(NL (0+p.2.1.1) 9223372036854775807),((true=true)→ (AN 1)),(AI p.1.1),(AN p.1.2.1.1),(AP p.1.2.1.1 (fun i=>[.int .i64 ((p.1.2.1.2 i).1),.int .i64 ((p.1.2.1.2 i).2.1)])),(AN p.2.1.1),(AP p.2.1.1 (fun i=>[.int .i64 (p.2.1.2 i)])),(AN l.1),(AP l.1 (fun i=>[.int .i64 ((l.2 i).1),.int .i64 ((l.2 i).2.1)])),(AN 0),(false=false),((0:Int)=(↑0:Int)),((([AV.p (PV.int IntKind.i64 p.1.1),graphL p.1.2.1,inL p.2.1].length):Nat)=3),(NL 1 1),((((List.map (fun v=>AV.p (absV v)) [Value.int IntKind.i64 0,Value.slice none 0 0,Value.slice none 0 0]).length):Nat)=3),(AI 0),(((0+p.2.1.1):Nat)=p.2.1.1),(AN 2),(NL p.1.2.1.1 p.1.2.1.1),(AA p.1.2.1.1 (fun i=>[.p (.int .i64 ((p.1.2.1.2 i).1)),.p (.int .i64 ((p.1.2.1.2 i).2.1))])),(AN 1),(NL p.2.1.1 (0+p.2.1.1)),(AA p.2.1.1 (fun i=>[.p (.int .i64 (p.2.1.2 i))]))] [0,1,0,2,3,4,0,5,6,7,8,9,10,11,12,13,13,14,13,15,16,17,17,6,7,8,9,10,18,17,17,19,18,17,17,6,13,7,13,20,21,22,23,24,25,26]):=by kernel_rfl
theorem rWa (p:T_Pinned) (l:T_BarS) (k:Nat) (N N2:Int) (n n2:Nat) (h h2:Nat→T_Bar) :
    zM 0 [rg 4,.dec true,rm [(12,oc [(0,brOb n2 h2)] (zf125 N2 n2))] 6,rg 2,.dec false,rg 3,rg 3,.head] zf72 (SQs p l k N n h) [0,1,2,517,4] 1 (SQs p l (k+1) N2 n2 h2) =
    some (zf72,zD [((decide ((↑k:Int)<(↑l.1:Int)))=true),(NT 0 1),(IL 0 (↑k:Int)),(IT (↑k:Int) (↑l.1:Int)),(AN 2),(NL n n),zE 86 [(zf108 N n h),.p (.int .i64 ((l.2 k).1)),.p (.int .i64 ((l.2 k).2.1))] (zf113 n2 h2) ((zf125 N2 n2)),((true=true)→ (AN 1)),((!true)=false),(ZLo ((↑k:Int)+1)),(ZHi ((↑k:Int)+1)),(AI p.1.1),(AN p.1.2.1.1),(AP p.1.2.1.1 (fun i=>[.int .i64 ((p.1.2.1.2 i).1),.int .i64 ((p.1.2.1.2 i).2.1)])),(AN p.2.1.1),(AP p.2.1.1 (fun i=>[.int .i64 (p.2.1.2 i)])),(AN l.1),(AP l.1 (fun i=>[.int .i64 ((l.2 i).1),.int .i64 ((l.2 i).2.1)])),(AN 0),(false=false),((((↑k:Int)+1):Int)=(↑(k+1):Int)),(AN 3),(NL 1 1),(AI 0),(AI N2),(AN n2),(NL n2 n2),(AA n2 (fun i=>[.p (.int .i64 ((h2 i).1)),.p (.int .i64 ((h2 i).2.1))])),(AN 1),(NL p.2.1.1 p.2.1.1),(AA p.2.1.1 (fun i=>[.p (.int .i64 (p.2.1.2 i))]))] [0,1,2,3,2,3,4,5,6,1,7,8,1,1,7,9,10,11,12,13,14,15,16,17,18,18,19,18,20,21,22,22,11,12,13,14,15,21,22,22,23,21,22,22,24,18,25,18,14,4,26,27,28,29,30]):=by kernel_rfl
theorem rWb (p:T_Pinned) (l:T_BarS) (k:Nat) (N N2:Int) (n n2:Nat) (h h2:Nat→T_Bar) :
    zP Tryz.f19 0 [rg 4,.dec true,rm [(12,oc [(0,brOb n2 h2)] (zf123 N2 n2))] 6,rg 2,.dec true,rg 3] zf72 (SQs p l k N n h) [] 1 [(0,brOb 0 (fun _=>(0,0,()))),(1,iOb 0 (fun _=>0))] (zf117) =
    some (zD [((decide ((↑k:Int)<(↑l.1:Int)))=true),(NT 0 1),(IL 0 (↑k:Int)),(IT (↑k:Int) (↑l.1:Int)),(AN 2),(NL n n),zE 86 [(zf108 N n h),.p (.int .i64 ((l.2 k).1)),.p (.int .i64 ((l.2 k).2.1))] (zf113 n2 h2) ((zf123 N2 n2)),((true=true)→ (AN 1)),((!false)=true),(AI 0),(AN 0),(false=false),(AE 0)] [0,1,2,3,2,3,4,5,6,1,7,8,1,7,1,9,10,10,11,10,10,12,12]):=by kernel_rfl
theorem rWc (p:T_Pinned) (l:T_BarS) (k:Nat) (N:Int) (n:Nat) (h:Nat→T_Bar) (b1 b2:Bool) :
    zP Tryz.f19 0 [rg 4,.dec false,rm [(1,oc [] (.p (.bool b1))),(3,oc [] (.p (.bool b2)))] 2,.dec true,rg 3] zf72 (SQs p l k N n h) [] 1 [(0,brOb 0 (fun _=>(0,0,()))),(1,iOb 0 (fun _=>0))] (zf117) =
    some [((decide ((↑k:Int)<(↑l.1:Int)))=false),(NT 0 1),zE 77 [(zf25 p)] [] (.p (.bool b1)),(((!!b1)=true)→(NT 0 1)),(AG (!!b1)),(((!!b1)=true)→ (AN 2)),(((!!b1)=true)→(NL n n)),(((!!b1)=true)→ (AN 1)),(((!!b1)=true)→(NL p.2.1.1 p.2.1.1)),(((!!b1)=true)→ zE 77 [(zf48 N n h p)] [] (.p (.bool b2))),(AG (!!b1)),(((!b1)=false)→ ((!!b1)=true)),((bif !b1 then true else !b2)=true),(NT 0 1),((true=true)→ (AN 1)),(NT 0 1),(AI 0),(AN 0),(AN 0),(false=false),(AN 0),(AN 0),(AE 0),(AE 0)]:=by kernel_rfl
theorem rWd (p:T_Pinned) (l:T_BarS) (k:Nat) (N:Int) (n:Nat) (h:Nat→T_Bar) (b1 b2:Bool) :
    zP Tryz.f19 0 [rg 4,.dec false,rm [(1,oc [] (.p (.bool b1))),(3,oc [] (.p (.bool b2)))] 2,.dec false,rg 3] zf72 (SQs p l k N n h) [3,4] 1 [(0,brOb n h),(1,iOb p.2.1.1 p.2.1.2)] (.tup [.agg [.p (.int .i64 N),.ar 2 0 0 n,.ar 1 1 0 p.2.1.1],.p (.bool true)]) =
    some [((decide ((↑k:Int)<(↑l.1:Int)))=false),(NT 0 1),zE 77 [(zf25 p)] [] (.p (.bool b1)),(((!!b1)=true)→(NT 0 1)),(AG (!!b1)),(((!!b1)=true)→ (AN 2)),(((!!b1)=true)→(NL n n)),(((!!b1)=true)→ (AN 1)),(((!!b1)=true)→(NL p.2.1.1 p.2.1.1)),(((!!b1)=true)→ zE 77 [(zf48 N n h p)] [] (.p (.bool b2))),(AG (!!b1)),(((!b1)=false)→ ((!!b1)=true)),((bif !b1 then true else !b2)=false),(NT 0 1),(NT 0 1),((true=true)→ (AN 1)),(NT 0 1),(AI N),(AN 0),(AN n),(AN 0),(AN p.2.1.1),(true=true),(AN 2),(NL n n),(AA n (fun i=>[.p (.int .i64 ((h i).1)),.p (.int .i64 ((h i).2.1))])),(AN 1),(NL p.2.1.1 p.2.1.1),(AA p.2.1.1 (fun i=>[.p (.int .i64 (p.2.1.2 i))])),(AE n),(AE p.2.1.1)]:=by kernel_rfl
theorem con_copyPinned (p:T_Pinned) (hs:smS s_Pinned p):zE 83 [pinA p] [(0,brOb p.1.2.1.1 p.1.2.1.2),(1,iOb p.2.1.1 p.2.1.2)] ((zf120 p)):=by
  have h1:p.1.2.1.1≤1048576:=hs.1.2.1.1
  have h2:p.2.1.1≤1048576:=hs.2.1.1
  have c1:=con_copyGraph p.1 h1
  have c2:=con_copyInts p.2.1.1 p.2.1.2 h2
  refine csZ Tryz.func83 (fun c hc=>?_)
  refine pkZ Tryz.func83 hc (rCp p) ?_
  and_intros
  all_goals (first | exact zI | (exact c1) | (exact c2) | (intro j hj;simp [All];done) | (simp;try omega))
def arI (v:T_Graph) (l:T_BarS):Nat→Bool×T_Graph
  | 0=>(true,v)
  | k+1=>((arI v l k).1&&abB (arI v l k).2 (l.2 k).1 (l.2 k).2.1,abG (arI v l k).2 (l.2 k).1 (l.2 k).2.1)
theorem arI_false (v:T_Graph) (l:T_BarS) (k:Nat) (h:(arI v l k).1=false):∀ n,k≤n→(arI v l n).1=false
  | 0,h'=>by
    obtain rfl:k=0:=by omega
    exact h
  | n+1,h'=>by
    by_cases e:k=n+1
    · subst e;exact h
    · simp [arI,arI_false v l k h n (by omega)]
def arB (p:T_Pinned) (l:T_BarS):Bool:=pinnedF p&&((arI p.1 l l.1).1&&pinnedF ((arI p.1 l l.1).2,p.2))
def zPin:T_Pinned:=((0,(0,fun _=>(0,0,())),()),(0,fun _=>0),())
def arP (p:T_Pinned) (l:T_BarS):T_Pinned:=if arB p l=true then ((arI p.1 l l.1).2,p.2) else zPin
theorem arI_n (v:T_Graph) (l:T_BarS):∀ k,(arI v l k).2.2.1.1≤v.2.1.1∨(arI v l k).2.2.1.1≤24
  | 0=>.inl (Nat.le_refl _)
  | k+1=>by
    have h:=arI_n v l k
    have h2:=abG_n (arI v l k).2 (l.2 k).1 (l.2 k).2.1
    simp only [arI]
    omega
theorem sm_pin {p:T_Pinned} (h1:p.1.2.1.1≤1048576) (h2:p.2.1.1≤1048576):smS s_Pinned p :=
  ⟨⟨trivial,⟨h1,fun i hi=>by simp [smS,smL]⟩,trivial⟩,⟨h2,fun i hi=>by simp [smS]⟩,trivial⟩
theorem con_ApplyRepair_i (p:T_Pinned) (hs:smS s_Pinned p) (l:T_BarS) (hl:l.1≤1048576) :
    zE 18 [pinA p,graphL l] [(0,brOb (arP p l).1.2.1.1 (arP p l).1.2.1.2),(1,iOb (arP p l).2.1.1 (arP p l).2.1.2)]
      (.tup [.agg [.p (.int .i64 (arP p l).1.1),.ar 2 0 0 (arP p l).1.2.1.1,.ar 1 1 0 (arP p l).2.1.1],.p (.bool (arB p l))]):=by
  have hn1:p.1.2.1.1≤1048576:=hs.1.2.1.1
  have hn2:p.2.1.1≤1048576:=hs.2.1.1
  have c1:=con_IsPinned_i p hs
  have cc:=con_copyPinned p hs
  refine csZ Tryz.func18 (fun c hc=>?_)
  cases hp:pinnedF p with
  | false =>
    rw [hp] at c1
    have hb:arB p l=false:=by simp [arB,hp]
    rw [show arP p l=zPin by simp [arP,hb],hb]
    refine pkD Tryz.func18 hc (rQy p l) ?_
    and_intros
    all_goals (first | exact zI | (exact c1) | (intro j hj;exact absurd hj (Nat.not_lt_zero _)) | (simp;done))
  | true =>
    rw [hp] at c1
    have lp:∀ d k,k+d=l.1→(arI p.1 l k).1=true →
        zR c 18 zf50 (SQi p l k (arI p.1 l k).2.1 (arI p.1 l k).2.2.1.1 (arI p.1 l k).2.2.1.2)
          (Post c [(0,brOb (arP p l).1.2.1.1 (arP p l).1.2.1.2),(1,iOb (arP p l).2.1.1 (arP p l).2.1.2)] (.tup [.agg [.p (.int .i64 (arP p l).1.1),.ar 2 0 0 (arP p l).1.2.1.1,.ar 1 1 0 (arP p l).2.1.1],.p (.bool (arB p l))])):=by
      intro d
      induction d with
      | zero =>
        intro k hk ht
        obtain rfl:k=l.1:=by omega
        have hd:decide ((l.1:Int)<(l.1:Int))=false:=by simp
        have hgn:=arI_n p.1 l l.1
        have c2:=con_IsPinned_i ((arI p.1 l l.1).2,p.2) (sm_pin (by show (arI p.1 l l.1).2.2.1.1≤1048576;omega) hn2)
        cases hq:pinnedF ((arI p.1 l l.1).2,p.2) with
        | false =>
          rw [hq] at c2
          have hb:arB p l=false:=by simp [arB,hq]
          rw [show arP p l=zPin by simp [arP,hb],hb]
          refine pkZ Tryz.func18 hc (rQc p l l.1 (arI p.1 l l.1).2.1 (arI p.1 l l.1).2.2.1.1 (arI p.1 l l.1).2.2.1.2) ?_
          and_intros
          all_goals (first | exact zI | (exact hd) | (exact c2) | (intro j hj;exact absurd hj (Nat.not_lt_zero _)) | (intro j hj;simp [All];done) | (simp;done))
        | true =>
          rw [hq] at c2
          have hb:arB p l=true:=by simp [arB,hq,hp,ht]
          rw [show arP p l=((arI p.1 l l.1).2,p.2) by simp [arP,hb],hb]
          refine pkD Tryz.func18 hc (rQd p l l.1 (arI p.1 l l.1).2.1 (arI p.1 l l.1).2.2.1.1 (arI p.1 l l.1).2.2.1.2) ?_
          and_intros
          all_goals (first | exact zI | (exact hd) | (exact c2) | (intro j hj;simp [All];done) | (simp;done))
      | succ d ih =>
        intro k hk ht
        have hd:decide ((k:Int)<(l.1:Int))=true:=by simp;omega
        have hgn:=arI_n p.1 l k
        have ca:=con_AddBar_i (arI p.1 l k).2 (sm_graph (by omega)) (l.2 k).1 (l.2 k).2.1
        cases ho:abB (arI p.1 l k).2 (l.2 k).1 (l.2 k).2.1 with
        | false =>
          rw [ho] at ca
          have hb:arB p l=false:=by
            have:=arI_false p.1 l (k+1) (by simp [arI,ho]) l.1 (by omega)
            simp [arB,this]
          rw [show arP p l=zPin by simp [arP,hb],hb]
          refine pkD Tryz.func18 hc (rQb p l k (arI p.1 l k).2.1 (abG (arI p.1 l k).2 (l.2 k).1 (l.2 k).2.1).1 (arI p.1 l k).2.2.1.1 (abG (arI p.1 l k).2 (l.2 k).1 (l.2 k).2.1).2.1.1 (arI p.1 l k).2.2.1.2 (abG (arI p.1 l k).2 (l.2 k).1 (l.2 k).2.1).2.1.2) ?_
          and_intros
          all_goals (first | exact zI | (exact hd) | (exact ca) | (intro j hj;exact absurd hj (Nat.not_lt_zero _)) | (intro j hj;simp [All];done) | (simp;done))
        | true =>
          rw [ho] at ca
          refine pcD hc (rQa p l k (arI p.1 l k).2.1 _ (arI p.1 l k).2.2.1.1 _ (arI p.1 l k).2.2.1.2 _) ?_ (ih (k+1) (by omega) (by simp [arI,ht,ho]))
          and_intros
          all_goals (first | exact zI | (exact hd) | (exact ca) | (intro j hj;simp [All];done) | (simp;done))
    refine pcD hc (rQz p l) ?_ (lp l.1 0 (by omega) rfl)
    and_intros
    all_goals (first | exact zI | (exact c1) | (exact cc) | (intro j hj;simp [All];done) | (simp;done))
theorem con_ApplyRepair_s (p:T_Pinned) (hs:smS s_Pinned p) (l:T_BarS) (hl:l.1≤1048576) :
    zE 19 [pinA p,graphL l] [(0,brOb (arP p l).1.2.1.1 (arP p l).1.2.1.2),(1,iOb (arP p l).2.1.1 (arP p l).2.1.2)]
      (.tup [.agg [.p (.int .i64 (arP p l).1.1),.ar 2 0 0 (arP p l).1.2.1.1,.ar 1 1 0 (arP p l).2.1.1],.p (.bool (arB p l))]):=by
  have hn1:p.1.2.1.1≤1048576:=hs.1.2.1.1
  have hn2:p.2.1.1≤1048576:=hs.2.1.1
  have c1:=con_IsPinned_s p hs
  have cc:=con_l2Copy p.1 hn1
  refine csZ Tryz.func19 (fun c hc=>?_)
  have lp:∀ d k,k+d=l.1→(arI p.1 l k).1=true →
      zR c 19 zf72 (SQs p l k (arI p.1 l k).2.1 (arI p.1 l k).2.2.1.1 (arI p.1 l k).2.2.1.2)
        (Post c [(0,brOb (arP p l).1.2.1.1 (arP p l).1.2.1.2),(1,iOb (arP p l).2.1.1 (arP p l).2.1.2)] (.tup [.agg [.p (.int .i64 (arP p l).1.1),.ar 2 0 0 (arP p l).1.2.1.1,.ar 1 1 0 (arP p l).2.1.1],.p (.bool (arB p l))])):=by
    intro d
    induction d with
    | zero =>
      intro k hk ht
      obtain rfl:k=l.1:=by omega
      have hd:decide ((l.1:Int)<(l.1:Int))=false:=by simp
      have hgn:=arI_n p.1 l l.1
      have c2:=con_IsPinned_s ((arI p.1 l l.1).2,p.2) (sm_pin (by show (arI p.1 l l.1).2.2.1.1≤1048576;omega) hn2)
      have hcd:(bif !pinnedF p then true else !pinnedF ((arI p.1 l l.1).2,p.2))=!arB p l:=by
        unfold arB
        rw [ht]
        cases pinnedF p<;>cases pinnedF ((arI p.1 l l.1).2,p.2)<;>rfl
      cases hb:arB p l with
      | false =>
        rw [hb] at hcd
        have hcd':(bif !pinnedF p then true else !pinnedF ((arI p.1 l l.1).2,p.2))=true:=hcd
        rw [show arP p l=zPin by simp [arP,hb]]
        refine pkZ Tryz.func19 hc (rWc p l l.1 (arI p.1 l l.1).2.1 (arI p.1 l l.1).2.2.1.1 (arI p.1 l l.1).2.2.1.2 (pinnedF p) (pinnedF ((arI p.1 l l.1).2,p.2))) ?_
        and_intros
        all_goals (first | exact zH | (exact hd) | (exact c1) | (intro _;exact c2) | (exact hcd') | (intro j hj;exact absurd hj (Nat.not_lt_zero _)) | (intro j hj;simp [All];done) | (simp;done))
      | true =>
        rw [hb] at hcd
        have hcd':(bif !pinnedF p then true else !pinnedF ((arI p.1 l l.1).2,p.2))=false:=hcd
        rw [show arP p l=((arI p.1 l l.1).2,p.2) by simp [arP,hb]]
        refine pkZ Tryz.func19 hc (rWd p l l.1 (arI p.1 l l.1).2.1 (arI p.1 l l.1).2.2.1.1 (arI p.1 l l.1).2.2.1.2 (pinnedF p) (pinnedF ((arI p.1 l l.1).2,p.2))) ?_
        and_intros
        all_goals (first | exact zH | (exact hd) | (exact c1) | (intro _;exact c2) | (exact hcd') | (intro j hj;simp [All];done) | (simp;done))
    | succ d ih =>
      intro k hk ht
      have hd:decide ((k:Int)<(l.1:Int))=true:=by simp;omega
      have hgn:=arI_n p.1 l k
      have ca:=con_AddBar_s (arI p.1 l k).2 (sm_graph (by omega)) (l.2 k).1 (l.2 k).2.1
      cases ho:abB (arI p.1 l k).2 (l.2 k).1 (l.2 k).2.1 with
      | false =>
        rw [ho] at ca
        have hb:arB p l=false:=by
          have:=arI_false p.1 l (k+1) (by simp [arI,ho]) l.1 (by omega)
          simp [arB,this]
        rw [show arP p l=zPin by simp [arP,hb],hb]
        refine pkD Tryz.func19 hc (rWb p l k (arI p.1 l k).2.1 (abG (arI p.1 l k).2 (l.2 k).1 (l.2 k).2.1).1 (arI p.1 l k).2.2.1.1 (abG (arI p.1 l k).2 (l.2 k).1 (l.2 k).2.1).2.1.1 (arI p.1 l k).2.2.1.2 (abG (arI p.1 l k).2 (l.2 k).1 (l.2 k).2.1).2.1.2) ?_
        and_intros
        all_goals (first | exact zI | (exact hd) | (exact ca) | (intro j hj;exact absurd hj (Nat.not_lt_zero _)) | (intro j hj;simp [All];done) | (simp;done))
      | true =>
        rw [ho] at ca
        refine pcD hc (rWa p l k (arI p.1 l k).2.1 _ (arI p.1 l k).2.2.1.1 _ (arI p.1 l k).2.2.1.2 _) ?_ (ih (k+1) (by omega) (by simp [arI,ht,ho]))
        and_intros
        all_goals (first | exact zI | (exact hd) | (exact ca) | (intro j hj;simp [All];done) | (simp;done))
  refine pcD hc (rWz p l) ?_ (lp l.1 0 (by omega) rfl)
  and_intros
  all_goals (first | exact zI | (exact cc) | (intro j hj;simp [All];done) | (simp;done) | (simp;omega))
theorem goodP_at {N:Int} {g:Nat→Int}:∀ {n:Nat},goodP N g n=true→∀ k,k<n→0≤g k∧g k<N∧(0<k→g (k - 1)<g k)
  | 0,_,k,hk=>absurd hk (Nat.not_lt_zero _)
  | n+1,h,k,hk=>by
    simp only [goodP,Bool.and_eq_true,Bool.not_eq_true'] at h
    by_cases e:k=n
    · subst e
      have h2:=h.2
      unfold badP at h2
      by_cases c1:g k<0
      · simp [c1] at h2
      by_cases c2:g k≥N
      · simp [c1,c2] at h2
      refine ⟨by omega,by omega,fun h0=>?_⟩
      simp only [c1,c2,decide_false,cond_false] at h2
      rw [decide_eq_true (show (k:Int)>0 by omega)] at h2
      simp only [cond_true,decide_eq_false_iff_not] at h2
      rw [show ((k:Int) - 1).toNat=k - 1 by omega] at h2
      omega
    · exact goodP_at h.1 k (by omega)
theorem goodP_asc {N:Int} {g:Nat→Int} {n:Nat} (h:goodP N g n=true):∀ j i,i<j→j<n→g i<g j:=by
  intro j
  induction j with
  | zero=>intro i hi;omega
  | succ j ih =>
    intro i hi hj
    have h1:=(goodP_at h (j+1) hj).2.2 (by omega)
    rw [show j+1 - 1=j by omega] at h1
    by_cases e:i=j
    · rw [e];exact h1
    · have:=ih i (by omega) (by omega);omega
theorem goodP_ge {N:Int} {g:Nat→Int} {n:Nat} (h:goodP N g n=true):∀ k,k<n→(k:Int)≤g k:=by
  intro k
  induction k with
  | zero=>intro hk;exact (goodP_at h 0 hk).1
  | succ k ih =>
    intro hk
    have h1:=ih (by omega)
    have h2:=goodP_asc h (k+1) k (by omega) hk
    omega
theorem pinned_in {p:T_Pinned} (h:pinnedF p=true):isGraphF p.1=true∧2≤p.2.1.1∧p.2.1.1≤8∧p.1.2.1.1≤15∧p.1.2.1.1+2*p.2.1.1≤27:=by
  simp only [pinnedF,Bool.and_eq_true] at h
  obtain ⟨h1,h2,h3⟩:=h
  unfold tailP at h3
  cases hs:simpleF p.1 with
  | false=>rw [hs] at h3;simp at h3
  | true =>
    rw [hs] at h3
    simp only [simpleF,Bool.and_eq_true] at hs
    have hg:=graph_inR hs.2
    by_cases c1:(p.2.1.1:Int)≥2
    · by_cases c2:(p.1.2.1.1:Int)≤15
      · by_cases c3:(p.1.2.1.1:Int)+2*(p.2.1.1:Int) - 3≤24
        · refine ⟨hs.2,by omega,?_,by omega,by omega⟩
          have:=goodP_ge h1 (p.2.1.1 - 1) (by omega)
          have:=goodP_at h1 (p.2.1.1 - 1) (by omega)
          omega
        · simp [c1,c2,c3] at h3
      · simp [c1,c2] at h3
    · simp [c1] at h3
theorem arP_le (p:T_Pinned) (l:T_BarS):(arP p l).1.2.1.1≤24∧(arP p l).2.1.1≤8:=by
  unfold arP
  split
  · rename_i h
    simp only [arB,Bool.and_eq_true] at h
    have:=pinned_in h.2.2
    exact ⟨(graph_inR this.1).2.2.1,this.2.2.1⟩
  · exact ⟨Nat.zero_le _,Nat.zero_le _⟩
def SHo (p:T_Pinned) (i n:Nat) (h:Nat→T_Bar):St :=
  ⟨[pinA p,.pt 3 0 0 0,.p .any,.ar 2 1 0 n]++List.replicate 6 anyA++[inL p.2.1,.p (.int .i64 p.2.1.1),.p (.int .i64 i)]++List.replicate 23 anyA,[(0,boxP p),(1,brOb n h)],2⟩
def SHi (p:T_Pinned) (i j n:Nat) (h:Nat→T_Bar):St :=
  ⟨[pinA p,.pt 3 0 0 0,.p .any,.ar 2 1 0 n,.p .any,.p (.int .i64 (p.2.1.2 i))]++List.replicate 4 anyA++[inL p.2.1,.p (.int .i64 p.2.1.1),.p (.int .i64 i)]++List.replicate 8 anyA ++
    [.p (.seq true 1 (p.2.1.1 - (i+1)) (fun s=>[.int .i64 (p.2.1.2 (s+(i+1)))])),.p (.int .i64 ((p.2.1.1 - (i+1):Nat):Int)),.p (.int .i64 j)]++List.replicate 12 anyA,[(0,boxP p),(1,brOb n h)],2⟩
def SKl (p:T_Pinned) (k n:Nat) (h:Nat→T_Bar):St :=
  ⟨[pinA p,.pt 3 0 0 0,.pt 2 1 0 0,.pt 2 2 0 0,.p (.int .i64 k)]++List.replicate 39 anyA,[(0,boxP p),(1,zG2),(2,⟨true,2,1,fun _=>[.p (.int .i64 p.1.1),.ar 2 3 0 n]⟩),(3,brOb n h)],4⟩
def SKa (p:T_Pinned) (k n:Nat) (h:Nat→T_Bar):St :=
  ⟨[pinA p,.pt 3 0 0 0,.pt 2 1 0 0,.pt 2 2 0 0,.p (.int .i64 k)]++List.replicate 19 anyA,[(0,boxP p),(1,zG2),(2,⟨true,2,1,fun _=>[.p (.int .i64 p.1.1),.ar 2 3 0 n]⟩),(3,brOb n h)],4⟩
theorem hAz (p:T_Pinned) :
    zT Tryz.f162 [rg 2,rg 2,rg 4,.head] [pinA p] [0,64] (SHo p 0 0 (fun _=>(0,0,()))) =
    some (zf58,zD [(NT 0 1),(AI p.1.1),(AN p.1.2.1.1),(AP p.1.2.1.1 (fun i=>[.int .i64 ((p.1.2.1.2 i).1),.int .i64 ((p.1.2.1.2 i).2.1)])),(AN p.2.1.1),(AP p.2.1.1 (fun i=>[.int .i64 (p.2.1.2 i)])),(AN 0),(AI ((↑p.2.1.1:Int))),((0:Int)=(↑0:Int)),((([AV.p (PV.int IntKind.i64 p.1.1),graphL p.1.2.1,inL p.2.1].length):Nat)=3),(NL 1 1),(AN 2),(NL 0 0),(AA 0 (fun i=>[.p (.int .i64 0),.p (.int .i64 0)]))] [0,1,2,3,4,5,6,6,6,4,5,7,8,9,10,10,1,2,3,4,5,11,12,13]):=by kernel_rfl
theorem hAo (p:T_Pinned) (i n:Nat) (h:Nat→T_Bar) :
    zM 0 [rg 1,.dec true,rg 5,rg 7,.head] zf58 (SHo p i n h) [0,1] 1 (SHi p i 0 n h) =
    some (zf9,zD [((decide ((↑i:Int)<(↑p.2.1.1:Int)))=true),(IL 0 (↑i:Int)),(IT (↑i:Int) (↑p.2.1.1:Int)),(NT 0 1),(ZLo ((↑i:Int)+1)),(ZHi ((↑i:Int)+1)),(IL 0 ((↑i:Int)+1)),(IL ((↑i:Int)+1) (↑p.2.1.1:Int)),(IL (↑p.2.1.1:Int) (↑p.2.1.1:Int)),(AI p.1.1),(AN p.1.2.1.1),(AP p.1.2.1.1 (fun i_1=>[.int .i64 ((p.1.2.1.2 i_1).1),.int .i64 ((p.1.2.1.2 i_1).2.1)])),(AN p.2.1.1),(AP p.2.1.1 (fun i_1=>[.int .i64 (p.2.1.2 i_1)])),(AN 0),(AN n),(AI ((p.2.1.2 i))),(AI ((↑p.2.1.1:Int))),(AI ((↑i:Int))),(AN ((p.2.1.1 - (i+1)))),(AP ((p.2.1.1 - (i+1))) (fun i_1=>[.int .i64 (p.2.1.2 (i_1+(i+1)))])),(AI ((↑(p.2.1.1 - (i+1)):Int))),((0:Int)=(↑0:Int)),(AN 3),(NL 1 1),(AN 2),(NL n n),(AA n (fun i_1=>[.p (.int .i64 ((h i_1).1)),.p (.int .i64 ((h i_1).2.1))]))] [0,1,2,3,4,5,6,7,8,9,10,11,12,13,14,14,15,16,12,13,17,18,19,20,21,22,23,24,24,9,10,11,12,13,25,26,27]):=by kernel_rfl
theorem hAi (p:T_Pinned) (i j n:Nat) (h:Nat→T_Bar) (x:T_Bar) :
    zM 0 [rg 1,.dec true,rg 3,rm [(3,oc [] (.agg [.p (.int .i64 x.1),.p (.int .i64 x.2.1)]))] 3,rg 2,.head] zf9 (SHi p i j n h) [0,290] 1 (SHi p i (j+1) (n+1) (snoc n h x)) =
    some (zf9,zD [((decide ((↑j:Int)<(↑(p.2.1.1 - (i+1)):Int)))=true),(IL 0 (↑j:Int)),(IT (↑j:Int) (↑(p.2.1.1 - (i+1)):Int)),zE 106 [.p (.int .i64 (p.2.1.2 i)),.p (.int .i64 (p.2.1.2 (j+(i+1))))] [] (.agg [.p (.int .i64 x.1),.p (.int .i64 x.2.1)]),(NL 1 1),(NL n n),(NL ((n+1)*16) 140737488355328),(NL (n+1) 9223372036854775807),(ZLo ((↑j:Int)+1)),(ZHi ((↑j:Int)+1)),(AI p.1.1),(AN p.1.2.1.1),(AP p.1.2.1.1 (fun i_1=>[.int .i64 ((p.1.2.1.2 i_1).1),.int .i64 ((p.1.2.1.2 i_1).2.1)])),(AN p.2.1.1),(AP p.2.1.1 (fun i_1=>[.int .i64 (p.2.1.2 i_1)])),(AN 0),(AN ((n+1))),(AI ((p.2.1.2 i))),(AI ((↑p.2.1.1:Int))),(AI ((↑i:Int))),(AN ((p.2.1.1 - (i+1)))),(AP ((p.2.1.1 - (i+1))) (fun i_1=>[.int .i64 (p.2.1.2 (i_1+(i+1)))])),(AI ((↑(p.2.1.1 - (i+1)):Int))),((((↑j:Int)+1):Int)=(↑(j+1):Int)),(AN 3),(AN 2),(NL (n+1) (n+1)),(CV [(290,⟨false,2,(n+1),(fun i_2=>(if (i_2<n) then [.p (.int .i64 ((h i_2).1)),.p (.int .i64 ((h i_2).2.1))] else [.p (.int .i64 x.1),.p (.int .i64 x.2.1)]))⟩),(258,⟨false,2,1,(fun i_2=>[.p (.int .i64 x.1),.p (.int .i64 x.2.1)])⟩),(0,⟨true,3,1,(fun i_2=>[.p (.int .i64 p.1.1),.p (.seq true 2 p.1.2.1.1 (fun i_3=>[.int .i64 ((p.1.2.1.2 i_3).1),.int .i64 ((p.1.2.1.2 i_3).2.1)])),.p (.seq true 1 p.2.1.1 (fun i_3=>[.int .i64 (p.2.1.2 i_3)]))])⟩)] [0,290] 1 (n+1) (fun i_1=>if (i_1<n) then [.p (.int .i64 ((h i_1).1)),.p (.int .i64 ((h i_1).2.1))] else [.p (.int .i64 x.1),.p (.int .i64 x.2.1)]) (fun i_1=>[.p (.int .i64 (if i_1<n then (h i_1).1 else x.1)),.p (.int .i64 (if i_1<n then (h i_1).2.1 else x.2.1))]))] [0,1,2,3,4,5,6,7,8,9,10,11,12,13,14,15,15,16,17,13,14,18,19,20,21,22,23,24,4,4,10,11,12,13,14,25,26,27]):=by kernel_rfl
theorem hAx (p:T_Pinned) (i j n:Nat) (h:Nat→T_Bar) :
    zM 0 [rg 1,.dec false,rg 2,.head] zf9 (SHi p i j n h) [0,1] 1 (SHo p (i+1) n h) =
    some (zf58,zD [((decide ((↑j:Int)<(↑(p.2.1.1 - (i+1)):Int)))=false),(ZLo ((↑i:Int)+1)),(ZHi ((↑i:Int)+1)),(AI p.1.1),(AN p.1.2.1.1),(AP p.1.2.1.1 (fun i_1=>[.int .i64 ((p.1.2.1.2 i_1).1),.int .i64 ((p.1.2.1.2 i_1).2.1)])),(AN p.2.1.1),(AP p.2.1.1 (fun i_1=>[.int .i64 (p.2.1.2 i_1)])),(AN 0),(AN n),(AI ((↑p.2.1.1:Int))),((((↑i:Int)+1):Int)=(↑(i+1):Int)),(AN 3),(NL 1 1),(AN 2),(NL n n),(AA n (fun i_1=>[.p (.int .i64 ((h i_1).1)),.p (.int .i64 ((h i_1).2.1))]))] [0,1,2,3,4,5,6,7,8,8,9,6,7,10,11,12,13,13,3,4,5,6,7,14,15,16]):=by kernel_rfl
theorem hAe (p:T_Pinned) (i n:Nat) (h:Nat→T_Bar) :
    zP Tryz.f162 0 [rg 1,.dec false,rg 2] zf58 (SHo p i n h) [1] 1 [(0,brOb n h)] (.ar 2 0 0 n) =
    some [((decide ((↑i:Int)<(↑p.2.1.1:Int)))=false),(AN 0),(AN n),(AN 2),(NL n n),(AA n (fun i_1=>[.p (.int .i64 ((h i_1).1)),.p (.int .i64 ((h i_1).2.1))])),(AE n)]:=by kernel_rfl
theorem hKz (p:T_Pinned) :
    zT Tryz.f190 [rg 2,rg 7,rg 1,.head] [pinA p] [0,32,224,160] (SKl p 1 0 (fun _=>(0,0,()))) =
    some (zf59,zD [(NT 0 1),((true=true)→ (AN 1)),(AI p.1.1),(AN p.1.2.1.1),(AP p.1.2.1.1 (fun i=>[.int .i64 ((p.1.2.1.2 i).1),.int .i64 ((p.1.2.1.2 i).2.1)])),(AN p.2.1.1),(AP p.2.1.1 (fun i=>[.int .i64 (p.2.1.2 i)])),(AN 0),((1:Int)=(↑1:Int)),((([AV.p (PV.int IntKind.i64 p.1.1),graphL p.1.2.1,inL p.2.1].length):Nat)=3),(NL 1 1),((((List.map (fun v=>AV.p (absV v)) [Value.int IntKind.i64 0,Value.slice none 0 0]).length):Nat)=2),(AI 0),(AN 2),(NL 0 0),(AA 0 (fun i=>[.p (.int .i64 0),.p (.int .i64 0)]))] [0,0,1,2,3,4,5,6,7,7,7,8,9,10,10,2,3,4,5,6,11,10,10,12,11,10,10,2,7,7,13,14,15]):=by kernel_rfl
theorem hKa (p:T_Pinned) (k n m:Nat) (h r:Nat→T_Bar) :
    zM 0 [rg 5,.dec true,rm [(11,oc [(0,brOb m r)] (.agg [.p (.int .i64 p.1.1),.ar 2 0 0 m]))] 1,rg 2,.dec false,rg 3,.head] zf59 (SKl p k n h) [0,1,2,516] 1 (SKl p (k+1) m r) =
    some (zf59,zD [(NT 0 1),((decide ((↑k:Int)<(↑p.2.1.1:Int)))=true),(IL 0 0),(IT 0 (↑p.2.1.1:Int)),(IL 0 (↑k:Int)),(IT (↑k:Int) (↑p.2.1.1:Int)),(AN 2),(NL n n),zE 136 [(zf106 p n h),.agg [.p (.int .i64 (p.2.1.2 0)),.p (.int .i64 (p.2.1.2 k))]] (zf113 m r) (.agg [.p (.int .i64 p.1.1),.ar 2 0 0 m]),((true=true)→ (AN 1)),((decide ((↑k:Int)>1))=false),(ZLo ((↑k:Int)+1)),(ZHi ((↑k:Int)+1)),(AI p.1.1),(AN p.1.2.1.1),(AP p.1.2.1.1 (fun i=>[.int .i64 ((p.1.2.1.2 i).1),.int .i64 ((p.1.2.1.2 i).2.1)])),(AN p.2.1.1),(AP p.2.1.1 (fun i=>[.int .i64 (p.2.1.2 i)])),(AN 0),((((↑k:Int)+1):Int)=(↑(k+1):Int)),(AN 3),(NL 1 1),(AI 0),(AN m),(NL m m),(AA m (fun i=>[.p (.int .i64 ((r i).1)),.p (.int .i64 ((r i).2.1))]))] [0,1,0,0,2,3,0,4,5,6,7,8,0,9,10,11,12,13,14,15,16,17,18,18,18,19,20,21,21,13,14,15,16,17,6,21,21,22,6,21,21,13,18,23,6,24,25]):=by kernel_rfl
theorem hKb (p:T_Pinned) (k n m m2:Nat) (h r r2:Nat→T_Bar) :
    zM 0 [rg 5,.dec true,rm [(11,oc [(0,brOb m r)] (.agg [.p (.int .i64 p.1.1),.ar 2 0 0 m]))] 1,rg 2,.dec true,rm [(11,oc [(0,brOb m2 r2)] (.agg [.p (.int .i64 p.1.1),.ar 2 0 0 m2]))] 1,rg 3,.head] zf59 (SKl p k n h) [0,1,2,996] 1 (SKl p (k+1) m2 r2) =
    some (zf59,zD [(NT 0 1),((decide ((↑k:Int)<(↑p.2.1.1:Int)))=true),(IL 0 0),(IT 0 (↑p.2.1.1:Int)),(IL 0 (↑k:Int)),(IT (↑k:Int) (↑p.2.1.1:Int)),(AN 2),(NL n n),zE 136 [(zf106 p n h),.agg [.p (.int .i64 (p.2.1.2 0)),.p (.int .i64 (p.2.1.2 k))]] (zf113 m r) (.agg [.p (.int .i64 p.1.1),.ar 2 0 0 m]),((true=true)→ (AN 1)),((decide ((↑k:Int)>1))=true),(IL 0 1),(IT 1 (↑p.2.1.1:Int)),(NL m m),zE 136 [(zf106 p m r),.agg [.p (.int .i64 (p.2.1.2 1)),.p (.int .i64 (p.2.1.2 k))]] (zf113 m2 r2) (.agg [.p (.int .i64 p.1.1),.ar 2 0 0 m2]),(ZLo ((↑k:Int)+1)),(ZHi ((↑k:Int)+1)),(AI p.1.1),(AN p.1.2.1.1),(AP p.1.2.1.1 (fun i=>[.int .i64 ((p.1.2.1.2 i).1),.int .i64 ((p.1.2.1.2 i).2.1)])),(AN p.2.1.1),(AP p.2.1.1 (fun i=>[.int .i64 (p.2.1.2 i)])),(AN 0),((((↑k:Int)+1):Int)=(↑(k+1):Int)),(AN 3),(NL 1 1),(AI 0),(AN m2),(NL m2 m2),(AA m2 (fun i=>[.p (.int .i64 ((r2 i).1)),.p (.int .i64 ((r2 i).2.1))]))] [0,1,0,0,2,3,0,4,5,6,7,8,0,9,10,0,0,11,12,0,4,5,6,13,14,0,9,15,16,17,18,19,20,21,22,22,22,23,24,25,25,17,18,19,20,21,6,25,25,26,6,25,25,17,22,27,6,28,29]):=by kernel_rfl
theorem hKe (p:T_Pinned) (k n:Nat) (h:Nat→T_Bar) :
    zP Tryz.f190 0 [rg 5,.dec false,rg 2] zf59 (SKl p k n h) [3] 1 [(0,brOb n h)] (.agg [.p (.int .i64 p.1.1),.ar 2 0 0 n]) =
    some [(NT 0 1),((decide ((↑k:Int)<(↑p.2.1.1:Int)))=false),(NT 0 1),(NT 0 1),((true=true)→ (AN 1)),(NT 0 1),(AI p.1.1),(AN 0),(AN n),(AN 2),(NL n n),(AA n (fun i=>[.p (.int .i64 ((h i).1)),.p (.int .i64 ((h i).2.1))])),(AE n)]:=by kernel_rfl
theorem hLz (p:T_Pinned) (n:Nat) (h:Nat→T_Bar) :
    zT Tryz.f165 [rg 2,rm [(1,oc [(0,brOb n h)] (.agg [.p (.int .i64 p.1.1),.ar 2 0 0 n]))] 2,rg 1,.head] [pinA p] [0,32,128,96] (SKa p 0 n h) =
    some (zf60,zD [(NT 0 1),zE 190 [(zf25 p)] (zf113 n h) (.agg [.p (.int .i64 p.1.1),.ar 2 0 0 n]),((true=true)→ (AN 1)),(AI p.1.1),(AN p.1.2.1.1),(AP p.1.2.1.1 (fun i=>[.int .i64 ((p.1.2.1.2 i).1),.int .i64 ((p.1.2.1.2 i).2.1)])),(AN p.2.1.1),(AP p.2.1.1 (fun i=>[.int .i64 (p.2.1.2 i)])),(AN 0),((0:Int)=(↑0:Int)),((([AV.p (PV.int IntKind.i64 p.1.1),graphL p.1.2.1,inL p.2.1].length):Nat)=3),(NL 1 1),((((List.map (fun v=>AV.p (absV v)) [Value.int IntKind.i64 0,Value.slice none 0 0]).length):Nat)=2),(AI 0),(AN n),(AN 2),(NL n n),(AA n (fun i=>[.p (.int .i64 ((h i).1)),.p (.int .i64 ((h i).2.1))]))] [0,1,0,2,3,4,5,6,7,8,8,8,9,10,11,11,3,4,5,6,7,12,11,11,13,12,11,11,3,8,14,15,16,17]):=by kernel_rfl
theorem hLa (p:T_Pinned) (k n m:Nat) (h r:Nat→T_Bar) :
    zM 0 [rg 6,.dec true,rm [(7,oc [(0,brOb m r)] (.agg [.p (.int .i64 p.1.1),.ar 2 0 0 m]))] 1,rg 3,.head] zf60 (SKa p k n h) [0,1,2,420] 1 (SKa p (k+1) m r) =
    some (zf60,zD [(NT 0 1),((decide ((↑k:Int)<(↑p.1.2.1.1:Int)))=true),(IL 0 (↑k:Int)),(IT (↑k:Int) (↑p.1.2.1.1:Int)),(AN 2),(NL n n),zE 136 [(zf106 p n h),.agg [.p (.int .i64 ((p.1.2.1.2 k).1)),.p (.int .i64 ((p.1.2.1.2 k).2.1))]] (zf113 m r) (.agg [.p (.int .i64 p.1.1),.ar 2 0 0 m]),((true=true)→ (AN 1)),(ZLo ((↑k:Int)+1)),(ZHi ((↑k:Int)+1)),(AI p.1.1),(AN p.1.2.1.1),(AP p.1.2.1.1 (fun i=>[.int .i64 ((p.1.2.1.2 i).1),.int .i64 ((p.1.2.1.2 i).2.1)])),(AN p.2.1.1),(AP p.2.1.1 (fun i=>[.int .i64 (p.2.1.2 i)])),(AN 0),((((↑k:Int)+1):Int)=(↑(k+1):Int)),(AN 3),(NL 1 1),(AI 0),(AN m),(NL m m),(AA m (fun i=>[.p (.int .i64 ((r i).1)),.p (.int .i64 ((r i).2.1))]))] [0,1,0,0,2,3,4,5,6,0,7,8,9,10,11,12,13,14,15,15,15,16,17,18,18,10,11,12,13,14,4,18,18,19,4,18,18,10,15,20,4,21,22]):=by kernel_rfl
theorem hLe (p:T_Pinned) (k n:Nat) (h:Nat→T_Bar) :
    zP Tryz.f165 0 [rg 6,.dec false,rg 2] zf60 (SKa p k n h) [3] 1 [(0,brOb n h)] (.agg [.p (.int .i64 p.1.1),.ar 2 0 0 n]) =
    some [(NT 0 1),((decide ((↑k:Int)<(↑p.1.2.1.1:Int)))=false),(NT 0 1),(NT 0 1),((true=true)→ (AN 1)),(NT 0 1),(AI p.1.1),(AN 0),(AN n),(AN 2),(NL n n),(AA n (fun i=>[.p (.int .i64 ((h i).1)),.p (.int .i64 ((h i).2.1))])),(AE n)]:=by kernel_rfl
theorem hPn (p:T_Pinned) :
    zS Tryz.f149 [rg 2,rm [(1,oc [] (.p (.bool false)))] 1,.dec true,rg 1] [pinA p] [] [] (.p (.int .i64 (-1))) =
    some [(NT 0 1),zE 73 [(zf25 p)] [] (.p (.bool false)),((!false)=true),(AI ((-1)))]:=by kernel_rfl
theorem hPy (p:T_Pinned) (n:Nat) (h:Nat→T_Bar) (r1 r0:Nat) :
    zS Tryz.f149 [rg 2,rm [(1,oc [] (.p (.bool true)))] 1,.dec false,rg 4,rm [(2,oc [(0,brOb n h)] (.ar 2 0 0 n)),(4,oc [] (.p (.int .i64 r1))),(2,oc [(0,brOb n h)] (.ar 2 0 0 n)),(0,oc [] (.p (.int .i64 r0)))] 2] [pinA p] [] [] (.p (.int .i64 ((r1:Int) - (r0:Int)))) =
    some (zD [(NT 0 1),zE 73 [(zf25 p)] [] (.p (.bool true)),((!true)=false),zE 162 [(zf25 p)] (zf113 n h) (.ar 2 0 0 n),(NL n n),(NL ((n+p.1.2.1.1)*16) 140737488355328),(NL (n+p.1.2.1.1) 9223372036854775807),(AN 2),(NL (n+p.1.2.1.1) (n+p.1.2.1.1)),zE 188 [.p (.int .i64 p.1.1),.p (.seq true 2 (n+p.1.2.1.1) (fun i=>[(cellP true (if (i<n) then [.p (.int .i64 ((h i).1)),.p (.int .i64 ((h i).2.1))] else [.p (.int .i64 ((p.1.2.1.2 (i - n)).1)),.p (.int .i64 ((p.1.2.1.2 (i - n)).2.1))]) 0),(cellP true (if (i<n) then [.p (.int .i64 ((h i).1)),.p (.int .i64 ((h i).2.1))] else [.p (.int .i64 ((p.1.2.1.2 (i - n)).1)),.p (.int .i64 ((p.1.2.1.2 (i - n)).2.1))]) 1)]))] [] (.p (.int .i64 (↑r1:Int))),zE 188 [.p (.int .i64 p.1.1),.p (.seq true 2 n (bRw h))] [] (.p (.int .i64 (↑r0:Int))),(ZLo ((↑r1:Int) - (↑r0:Int))),(ZHi ((↑r1:Int) - (↑r0:Int))),(AI (((↑r1:Int) - (↑r0:Int))))] [0,1,2,0,0,3,0,4,5,6,7,8,9,0,3,7,4,10,11,12,13]):=by kernel_rfl
theorem hQn (p:T_Pinned) :
    zS Tryz.f152 [rg 2,rm [(1,oc [] (.p (.bool false)))] 1,.dec true,rg 1] [pinA p] [] [] (.p (.int .i64 (-1))) =
    some [(NT 0 1),zE 77 [(zf25 p)] [] (.p (.bool false)),((!false)=true),(AI ((-1)))]:=by kernel_rfl
theorem hQy (p:T_Pinned) (n m:Nat) (h k:Nat→T_Bar) (r1 r0:Nat) :
    zS Tryz.f152 [rg 2,rm [(1,oc [] (.p (.bool true)))] 1,.dec false,rm [(1,oc [(0,brOb n h)] (.agg [.p (.int .i64 p.1.1),.ar 2 0 0 n])),(0,oc [] (.p (.int .i64 r1))),(1,oc [(0,brOb m k)] (.agg [.p (.int .i64 p.1.1),.ar 2 0 0 m])),(0,oc [] (.p (.int .i64 r0)))] 2] [pinA p] [] [] (.p (.int .i64 ((r1:Int) - (r0:Int)))) =
    some [(NT 0 1),zE 77 [(zf25 p)] [] (.p (.bool true)),((!true)=false),(NT 0 1),zE 165 [(zf25 p)] (zf113 n h) (.agg [.p (.int .i64 p.1.1),.ar 2 0 0 n]),(AN 2),(NL n n),zE 189 [(zf106 p n h)] [] (.p (.int .i64 (↑r1:Int))),(NT 0 1),zE 190 [(zf25 p)] (zf113 m k) (.agg [.p (.int .i64 p.1.1),.ar 2 0 0 m]),(AN 2),(NL m m),zE 189 [(zf106 p m k)] [] (.p (.int .i64 (↑r0:Int))),(ZLo ((↑r1:Int) - (↑r0:Int))),(ZHi ((↑r1:Int) - (↑r0:Int))),(AI (((↑r1:Int) - (↑r0:Int))))]:=by kernel_rfl
def hIn (s:Nat→Int) (i:Nat) (r:NB):Nat→NB
  | 0=>r
  | j+1=>sn (hIn s i r j) (brX (s i) (s (j+(i+1))))
def hC (s:Nat→Int) (m:Nat):Nat→NB
  | 0=>zNB
  | i+1=>hIn s i (hC s m i) (m - (i+1))
def hS (s:Nat→Int):Nat→NB
  | 0=>zNB
  | k+1=>if 1≤k then insR (insR (hS s k).2 (hS s k).1 (s 0,s (k+1),())).2 (insR (hS s k).2 (hS s k).1 (s 0,s (k+1),())).1 (s 1,s (k+1),()) else insR (hS s k).2 (hS s k).1 (s 0,s (k+1),())
def aS (g:Nat→T_Bar) (r:NB):Nat→NB
  | 0=>r
  | k+1=>insR (aS g r k).2 (aS g r k).1 (g k)
def aC (r:NB) (g:Nat→T_Bar) (i:Nat):T_Bar:=(if i<r.1 then (r.2 i).1 else (g (i - r.1)).1,if i<r.1 then (r.2 i).2.1 else (g (i - r.1)).2.1,())
def mem (r:NB) (y:T_Bar):Prop:=∃ s,s<r.1∧r.2 s=y
theorem hIn_n (s:Nat→Int) (i:Nat) (r:NB):∀ j,(hIn s i r j).1=r.1+j
  | 0=>rfl
  | j+1=>by simp only [hIn,sn,hIn_n s i r j];omega
theorem hC_n (s:Nat→Int) (m:Nat):∀ i,(hC s m i).1≤i*m
  | 0=>by simp [hC,zNB]
  | i+1=>by
    have:=hC_n s m i
    simp only [hC,hIn_n]
    rw [Nat.add_mul];omega
theorem hIn_mem (s:Nat→Int) (i:Nat) (r:NB) (y:T_Bar):∀ j,mem (hIn s i r j) y↔mem r y∨∃ q,q<j∧brX (s i) (s (q+(i+1)))=y
  | 0=>by
    constructor
    · intro h;exact .inl h
    · rintro (h | ⟨q,h,_⟩)
      · exact h
      · exact absurd h (Nat.not_lt_zero _)
  | j+1=>by
    have ih:=hIn_mem s i r y j
    show (∃ t,t<(hIn s i r j).1+1∧snoc (hIn s i r j).1 (hIn s i r j).2 _ t=y)↔_
    rw [snoc_mem]
    rw [show (∃ t,t<(hIn s i r j).1∧(hIn s i r j).2 t=y)↔_ from ih]
    constructor
    · rintro ((h | ⟨q,h1,h2⟩) | h)
      · exact .inl h
      · exact .inr ⟨q,by omega,h2⟩
      · exact .inr ⟨j,by omega,h⟩
    · rintro (h | ⟨q,h1,h2⟩)
      · exact .inl (.inl h)
      · by_cases e:q=j
        · subst e;exact .inr h2
        · exact .inl (.inr ⟨q,by omega,h2⟩)
theorem hC_mem (s:Nat→Int) (m:Nat) (y:T_Bar):∀ i,i≤m→(mem (hC s m i) y↔∃ a b,a<i∧a<b∧b<m∧brX (s a) (s b)=y)
  | 0,_=>by
    constructor
    · rintro ⟨t,h,_⟩;exact absurd h (Nat.not_lt_zero _)
    · rintro ⟨a,b,h,_⟩;exact absurd h (Nat.not_lt_zero _)
  | i+1,hi=>by
    have ih:=hC_mem s m y i (by omega)
    simp only [hC]
    rw [hIn_mem,ih]
    constructor
    · rintro (⟨a,b,h1,h2,h3,h4⟩ | ⟨q,h1,h2⟩)
      · exact ⟨a,b,by omega,h2,h3,h4⟩
      · exact ⟨i,q+(i+1),by omega,by omega,by omega,h2⟩
    · rintro ⟨a,b,h1,h2,h3,h4⟩
      by_cases e:a=i
      · subst e;exact .inr ⟨b - (a+1),by omega,by rw [show b - (a+1)+(a+1)=b by omega];exact h4⟩
      · exact .inl ⟨a,b,by omega,h2,h3,h4⟩
theorem mem_ins (r:NB) (x y:T_Bar):mem (insR r.2 r.1 x) y↔mem r y∨x=y:=insR_mem r.2 r.1 x y
theorem hS_mem (s:Nat→Int) (y:T_Bar):∀ k,mem (hS s k) y↔∃ b,1≤b∧b≤k∧((s 0,s b,())=y∨(2≤b∧(s 1,s b,())=y))
  | 0=>by
    constructor
    · rintro ⟨t,h,_⟩;exact absurd h (Nat.not_lt_zero _)
    · rintro ⟨b,h1,h2,_⟩;omega
  | k+1=>by
    have ih:=hS_mem s y k
    simp only [hS]
    split
    · rename_i h1
      rw [mem_ins,mem_ins,ih]
      constructor
      · rintro ((⟨b,h2,h3,h4⟩ | h) | h)
        · exact ⟨b,h2,by omega,h4⟩
        · exact ⟨k+1,by omega,Nat.le_refl _,.inl h⟩
        · exact ⟨k+1,by omega,Nat.le_refl _,.inr ⟨by omega,h⟩⟩
      · rintro ⟨b,h2,h3,h4⟩
        by_cases e:b=k+1
        · subst e
          rcases h4 with h4 | h4
          · exact .inl (.inr h4)
          · exact .inr h4.2
        · exact .inl (.inl ⟨b,h2,by omega,h4⟩)
    · rename_i h1
      rw [mem_ins,ih]
      constructor
      · rintro (⟨b,h2,h3,h4⟩ | h)
        · exact ⟨b,h2,by omega,h4⟩
        · exact ⟨k+1,by omega,Nat.le_refl _,.inl h⟩
      · rintro ⟨b,h2,h3,h4⟩
        by_cases e:b=k+1
        · subst e
          rcases h4 with h4 | h4
          · exact .inr h4
          · omega
        · exact .inl ⟨b,h2,by omega,h4⟩
theorem hS_n (s:Nat→Int):∀ k,(hS s k).1≤2*k∧(1≤k→(hS s k).1+1≤2*k)
  | 0=>by simp [hS,zNB]
  | k+1=>by
    have ih:=hS_n s k
    simp only [hS]
    split
    · rw [insR_n,insR_n];omega
    · rw [insR_n];omega
theorem aS_mem (g:Nat→T_Bar) (r:NB) (y:T_Bar):∀ k,mem (aS g r k) y↔mem r y∨∃ i,i<k∧g i=y
  | 0=>by
    constructor
    · intro h;exact .inl h
    · rintro (h | ⟨q,h,_⟩)
      · exact h
      · exact absurd h (Nat.not_lt_zero _)
  | k+1=>by
    have ih:=aS_mem g r y k
    simp only [aS]
    rw [mem_ins,ih]
    constructor
    · rintro ((h | ⟨q,h1,h2⟩) | h)
      · exact .inl h
      · exact .inr ⟨q,by omega,h2⟩
      · exact .inr ⟨k,by omega,h⟩
    · rintro (h | ⟨q,h1,h2⟩)
      · exact .inl (.inl h)
      · by_cases e:q=k
        · subst e;exact .inr h2
        · exact .inl (.inr ⟨q,by omega,h2⟩)
theorem aS_n (g:Nat→T_Bar) (r:NB):∀ k,(aS g r k).1=r.1+k
  | 0=>rfl
  | k+1=>by simp only [aS,insR_n,aS_n g r k];omega
theorem aC_lt {r:NB} {g:Nat→T_Bar} {i:Nat} (h:i<r.1):aC r g i=r.2 i:=by simp only [aC,h,if_true]
theorem aC_ge {r:NB} {g:Nat→T_Bar} {i:Nat} (h:¬ i<r.1):aC r g i=g (i - r.1):=by simp only [aC,h,if_false]
theorem aC_mem (r:NB) (g:Nat→T_Bar) (nb:Nat) (y:T_Bar):mem (r.1+nb,aC r g) y↔mem r y∨∃ i,i<nb∧g i=y:=by
  constructor
  · rintro ⟨t,h1,h2⟩
    by_cases e:t<r.1
    · exact .inl ⟨t,e,by rw [← h2];exact (aC_lt e).symm⟩
    · exact .inr ⟨t - r.1,by have:t<r.1+nb:=h1;omega,by rw [← h2];exact (aC_ge e).symm⟩
  · rintro (⟨t,h1,h2⟩ | ⟨i,h1,h2⟩)
    · exact ⟨t,by show t<r.1+nb;omega,by show aC r g t=y;rw [aC_lt h1];exact h2⟩
    · exact ⟨r.1+i,by show r.1+i<r.1+nb;omega,by show aC r g (r.1+i)=y;rw [aC_ge (by omega),show r.1+i - r.1=i by omega];exact h2⟩
theorem con_held (p:T_Pinned) (hm:p.2.1.1≤8):zE 162 [pinA p] [(0,brOb (hC p.2.1.2 p.2.1.1 p.2.1.1).1 (hC p.2.1.2 p.2.1.1 p.2.1.1).2)] (.ar 2 0 0 (hC p.2.1.2 p.2.1.1 p.2.1.1).1):=by
  refine csZ Tryz.func162 (fun c hc=>?_)
  generalize hR:hC p.2.1.2 p.2.1.1 p.2.1.1=R
  have li:∀ i,i<p.2.1.1→(zR c 162 zf58 (SHo p (i+1) (hC p.2.1.2 p.2.1.1 (i+1)).1 (hC p.2.1.2 p.2.1.1 (i+1)).2) (Post c [(0,brOb R.1 R.2)] (.ar 2 0 0 R.1))) →
      ∀ d j,j+d=p.2.1.1 - (i+1)→zR c 162 zf9 (SHi p i j (hIn p.2.1.2 i (hC p.2.1.2 p.2.1.1 i) j).1 (hIn p.2.1.2 i (hC p.2.1.2 p.2.1.1 i) j).2) (Post c [(0,brOb R.1 R.2)] (.ar 2 0 0 R.1)):=by
    intro i hi hk d
    induction d with
    | zero =>
      intro j hj
      obtain rfl:j=p.2.1.1 - (i+1):=by omega
      have hd:decide (((p.2.1.1 - (i+1):Nat):Int)<((p.2.1.1 - (i+1):Nat):Int))=false:=by simp
      refine pcD hc (hAx p i (p.2.1.1 - (i+1)) _ _) ?_ hk
      and_intros
      all_goals (first | exact zN | (exact hd) | (intro t ht;simp [All]))
    | succ d ih =>
      intro j hj
      have hd:decide ((j:Int)<((p.2.1.1 - (i+1):Nat):Int))=true:=decide_eq_true (by omega)
      have cb:=con_barX (p.2.1.2 i) (p.2.1.2 (j+(i+1)))
      have hn:=hIn_n p.2.1.2 i (hC p.2.1.2 p.2.1.1 i) j
      have hn2:=hC_n p.2.1.2 p.2.1.1 i
      have hn3:i*p.2.1.1≤64:=Nat.le_trans (Nat.mul_le_mul (show i≤8 by omega) hm) (by omega)
      have hrec:=ih (j+1) (by omega)
      generalize hq:hIn p.2.1.2 i (hC p.2.1.2 p.2.1.1 i) j=q at hn ⊢
      rw [show hIn p.2.1.2 i (hC p.2.1.2 p.2.1.1 i) (j+1)=sn q (brX (p.2.1.2 i) (p.2.1.2 (j+(i+1)))) by rw [hIn,hq]] at hrec
      refine pcD hc (hAi p i j q.1 q.2 (brX (p.2.1.2 i) (p.2.1.2 (j+(i+1))))) ?_ hrec
      and_intros
      all_goals (first | exact zN | (exact hd) | (exact cb) | (intro t ht;by_cases h':t<q.1<;>simp [h',snoc,cvtL,cvt,tg,tru,All]))
  have lo:∀ d i,i+d=p.2.1.1→zR c 162 zf58 (SHo p i (hC p.2.1.2 p.2.1.1 i).1 (hC p.2.1.2 p.2.1.1 i).2) (Post c [(0,brOb R.1 R.2)] (.ar 2 0 0 R.1)):=by
    intro d
    induction d with
    | zero =>
      intro i hi
      obtain rfl:i=p.2.1.1:=by omega
      have hd:decide ((p.2.1.1:Int)<(p.2.1.1:Int))=false:=by simp
      rw [hR]
      refine pkZ Tryz.func162 hc (hAe p p.2.1.1 R.1 R.2) ?_
      and_intros
      all_goals (first | exact zN | (exact hd) | (intro t ht;simp [All]))
    | succ d ih =>
      intro i hi
      have hd:decide ((i:Int)<(p.2.1.1:Int))=true:=decide_eq_true (by omega)
      refine pcD hc (hAo p i _ _) ?_ (li i (by omega) (ih (i+1) (by omega)) (p.2.1.1 - (i+1)) 0 (by omega))
      and_intros
      all_goals (first | exact zN | (exact hd) | (intro t ht;simp [All]))
  refine pcD hc (hAz p) ?_ (lo p.2.1.1 0 (by omega))
  and_intros
  all_goals (first | exact zN | (intro t ht;exact absurd ht (Nat.not_lt_zero _)) | (intro t ht;simp [All]))
theorem con_l20Held (p:T_Pinned) (h1:0≤p.1.1) (hm:1≤p.2.1.1∧p.2.1.1≤8):zE 190 [pinA p] [(0,brOb (hS p.2.1.2 (p.2.1.1 - 1)).1 (hS p.2.1.2 (p.2.1.1 - 1)).2)] (.agg [.p (.int .i64 p.1.1),.ar 2 0 0 (hS p.2.1.2 (p.2.1.1 - 1)).1]):=by
  refine csZ Tryz.func190 (fun c hc=>?_)
  have hN:((p.1.1.toNat:Nat):Int)=p.1.1:=by omega
  generalize hR:hS p.2.1.2 (p.2.1.1 - 1)=R
  have lo:∀ d k,k+1+d=p.2.1.1→zR c 190 zf59 (SKl p (k+1) (hS p.2.1.2 k).1 (hS p.2.1.2 k).2) (Post c [(0,brOb R.1 R.2)] (.agg [.p (.int .i64 p.1.1),.ar 2 0 0 R.1])):=by
    intro d
    induction d with
    | zero =>
      intro k hk
      have hd:decide (((k+1:Nat):Int)<(p.2.1.1:Int))=false:=decide_eq_false (by omega)
      rw [show k=p.2.1.1 - 1 by omega,hR]
      rw [show k=p.2.1.1 - 1 by omega] at hd
      refine pkZ Tryz.func190 hc (hKe p (p.2.1.1 - 1+1) R.1 R.2) ?_
      and_intros
      all_goals (first | exact zI | (exact hd) | (intro t ht;simp [All]))
    | succ d ih =>
      intro k hk
      have hd:decide (((k+1:Nat):Int)<(p.2.1.1:Int))=true:=decide_eq_true (by omega)
      have hrec:=ih (k+1) (by omega)
      have hn:=hS_n p.2.1.2 k
      have hs:hS p.2.1.2 (k+1)=if 1≤k then insR (insR (hS p.2.1.2 k).2 (hS p.2.1.2 k).1 (p.2.1.2 0,p.2.1.2 (k+1),())).2 (insR (hS p.2.1.2 k).2 (hS p.2.1.2 k).1 (p.2.1.2 0,p.2.1.2 (k+1),())).1 (p.2.1.2 1,p.2.1.2 (k+1),()) else insR (hS p.2.1.2 k).2 (hS p.2.1.2 k).1 (p.2.1.2 0,p.2.1.2 (k+1),()):=rfl
      generalize hS p.2.1.2 k=q at hn hs ⊢
      have c1:=con_l2Put q.2 q.1 p.1.1.toNat (p.2.1.2 0,p.2.1.2 (k+1),()) (by omega)
      have n1:=insR_n q.2 q.1 (p.2.1.2 0,p.2.1.2 (k+1),())
      rw [grG,hN] at c1
      generalize insR q.2 q.1 (p.2.1.2 0,p.2.1.2 (k+1),())=q1 at c1 n1 hs
      by_cases h1k:1≤k
      · have hg:decide (((k+1:Nat):Int)>1)=true:=decide_eq_true (by omega)
        rw [if_pos h1k] at hs
        have c2:=con_l2Put q1.2 q1.1 p.1.1.toNat (p.2.1.2 1,p.2.1.2 (k+1),()) (by omega)
        rw [grG,hN] at c2
        rw [hs] at hrec
        generalize insR q1.2 q1.1 (p.2.1.2 1,p.2.1.2 (k+1),())=q2 at c2 hrec
        refine pcD hc (hKb p (k+1) q.1 q1.1 q2.1 q.2 q1.2 q2.2) ?_ hrec
        and_intros
        all_goals (first | exact zI | (exact hd) | (exact hg) | (exact c1) | (exact c2) | (intro t ht;simp [All]))
      · have hg:decide (((k+1:Nat):Int)>1)=false:=decide_eq_false (by omega)
        rw [if_neg h1k] at hs
        rw [hs] at hrec
        refine pcD hc (hKa p (k+1) q.1 q1.1 q.2 q1.2) ?_ hrec
        and_intros
        all_goals (first | exact zI | (exact hd) | (exact hg) | (exact c1) | (intro t ht;simp [All]))
  refine pcD hc (hKz p) ?_ (lo (p.2.1.1 - 1) 0 (by omega))
  and_intros
  all_goals (first | exact zI | (intro t ht;exact absurd ht (Nat.not_lt_zero _)) | (intro t ht;simp [All]))
def alS (p:T_Pinned):NB:=aS p.1.2.1.2 (hS p.2.1.2 (p.2.1.1 - 1)) p.1.2.1.1
theorem con_l20All (p:T_Pinned) (h1:0≤p.1.1) (hm:1≤p.2.1.1∧p.2.1.1≤8) (hn:p.1.2.1.1≤1000):zE 165 [pinA p] [(0,brOb (alS p).1 (alS p).2)] (.agg [.p (.int .i64 p.1.1),.ar 2 0 0 (alS p).1]):=by
  have c0:=con_l20Held p h1 hm
  have hn0:=hS_n p.2.1.2 (p.2.1.1 - 1)
  unfold alS
  refine csZ Tryz.func165 (fun c hc=>?_)
  have hN:((p.1.1.toNat:Nat):Int)=p.1.1:=by omega
  generalize hS p.2.1.2 (p.2.1.1 - 1)=r0 at c0 hn0 ⊢
  generalize hR:aS p.1.2.1.2 r0 p.1.2.1.1=R
  have lo:∀ d k,k+d=p.1.2.1.1→zR c 165 zf60 (SKa p k (aS p.1.2.1.2 r0 k).1 (aS p.1.2.1.2 r0 k).2) (Post c [(0,brOb R.1 R.2)] (.agg [.p (.int .i64 p.1.1),.ar 2 0 0 R.1])):=by
    intro d
    induction d with
    | zero =>
      intro k hk
      obtain rfl:k=p.1.2.1.1:=by omega
      have hd:decide ((p.1.2.1.1:Int)<(p.1.2.1.1:Int))=false:=by simp
      rw [hR]
      refine pkZ Tryz.func165 hc (hLe p p.1.2.1.1 R.1 R.2) ?_
      and_intros
      all_goals (first | exact zI | (exact hd) | (intro t ht;simp [All]))
    | succ d ih =>
      intro k hk
      have hd:decide ((k:Int)<(p.1.2.1.1:Int))=true:=decide_eq_true (by omega)
      have hrec:=ih (k+1) (by omega)
      have hnk:=aS_n p.1.2.1.2 r0 k
      rw [show aS p.1.2.1.2 r0 (k+1)=insR (aS p.1.2.1.2 r0 k).2 (aS p.1.2.1.2 r0 k).1 (p.1.2.1.2 k) from rfl] at hrec
      generalize aS p.1.2.1.2 r0 k=q at hnk hrec ⊢
      have c1:=con_l2Put q.2 q.1 p.1.1.toNat (p.1.2.1.2 k) (by omega)
      rw [grG,hN] at c1
      generalize insR q.2 q.1 (p.1.2.1.2 k)=q1 at c1 hrec
      refine pcD hc (hLa p k q.1 q1.1 q.2 q1.2) ?_ hrec
      and_intros
      all_goals (first | exact zI | (exact hd) | (exact c1) | (intro t ht;simp [All]))
  refine pcD hc (hLz p r0.1 r0.2) ?_ (lo p.1.2.1.1 0 (by omega))
  and_intros
  all_goals (first | exact zI | (exact c0) | (intro t ht;simp [All]))
def hlC (p:T_Pinned):NB:=hC p.2.1.2 p.2.1.1 p.2.1.1
def alC (p:T_Pinned):NB:=((hlC p).1+p.1.2.1.1,aC (hlC p) p.1.2.1.2)
def hlS (p:T_Pinned):NB:=hS p.2.1.2 (p.2.1.1 - 1)
noncomputable def rkN (N:Nat) (r:NB):Nat:=(accI N 2 3 r.2 r.1).length
def OkN (N:Nat) (r:NB):Prop:=OkBars N r.1 r.2
theorem okN_mem {N:Nat} {r:NB} (h:∀ y,mem r y→0≤y.1∧y.1<y.2.1∧y.2.1<N):OkN N r:=fun e he=>h _ ⟨e,he,rfl⟩
theorem okN_at {N:Nat} {r:NB} (h:OkN N r) {y:T_Bar} (hy:mem r y):0≤y.1∧y.1<y.2.1∧y.2.1<N:=by
  obtain ⟨e,he,rfl⟩:=hy
  exact h e he
structure PinOk (p:T_Pinned):Prop where
  N:1≤p.1.1∧p.1.1≤8
  m:2≤p.2.1.1∧p.2.1.1≤8
  nb:p.1.2.1.1≤15∧p.1.2.1.1+2*p.2.1.1≤27
  gr:∀ i,i<p.2.1.1→0≤p.2.1.2 i∧p.2.1.2 i<p.1.1
  asc:∀ i j,i<j→j<p.2.1.1→p.2.1.2 i<p.2.1.2 j
  bars:∀ i,i<p.1.2.1.1→0≤(p.1.2.1.2 i).1∧(p.1.2.1.2 i).1<(p.1.2.1.2 i).2.1∧(p.1.2.1.2 i).2.1<p.1.1
theorem pin_ok {p:T_Pinned} (h:pinnedF p=true):PinOk p:=by
  have h1:=pinned_in h
  have h2:=graph_inR h1.1
  simp only [pinnedF,Bool.and_eq_true] at h
  exact ⟨⟨h2.1,h2.2.1⟩,⟨h1.2.1,h1.2.2.1⟩,h1.2.2.2,fun i hi=>⟨(goodP_at h.1 i hi).1,(goodP_at h.1 i hi).2.1⟩,fun i j hij hj=>goodP_asc h.1 j i hij hj,
    fun i hi=>by have:=goodB_at h2.2.2.2 i hi;exact ⟨this.1,this.2.1,this.2.2.1⟩⟩
theorem PinOk.brx {p:T_Pinned} (h:PinOk p) {a b:Nat} (h1:a<b) (h2:b<p.2.1.1):brX (p.2.1.2 a) (p.2.1.2 b)=(p.2.1.2 a,p.2.1.2 b,()):=by
  have:=h.asc a b h1 h2
  simp only [brX]
  rw [if_neg (by omega),if_pos (by omega)]
theorem PinOk.okHS {p:T_Pinned} (h:PinOk p):OkN p.1.1.toNat (hlS p):=by
  refine okN_mem (fun y hy=>?_)
  have hN:=h.N;have hm:=h.m
  rw [hlS,hS_mem] at hy
  obtain ⟨b,h1,h2,h3⟩:=hy
  have gb:=h.gr b (by omega)
  rcases h3 with rfl | ⟨h3,rfl⟩
  · have g0:=h.gr 0 (by omega)
    have:=h.asc 0 b (by omega) (by omega)
    simp only;omega
  · have g1:=h.gr 1 (by omega)
    have:=h.asc 1 b (by omega) (by omega)
    simp only;omega
theorem PinOk.okHC {p:T_Pinned} (h:PinOk p):OkN p.1.1.toNat (hlC p):=by
  refine okN_mem (fun y hy=>?_)
  have hN:=h.N
  rw [hlC,hC_mem _ _ _ _ (Nat.le_refl _)] at hy
  obtain ⟨a,b,h1,h2,h3,rfl⟩:=hy
  have ga:=h.gr a (by omega);have gb:=h.gr b h3
  have:=h.asc a b h2 h3
  rw [h.brx h2 h3]
  simp only;omega
theorem PinOk.okAS {p:T_Pinned} (h:PinOk p):OkN p.1.1.toNat (alS p):=by
  refine okN_mem (fun y hy=>?_)
  have hN:=h.N
  rw [alS,aS_mem] at hy
  rcases hy with hy | ⟨i,h1,rfl⟩
  · exact okN_at h.okHS hy
  · have:=h.bars i h1;omega
theorem PinOk.okAC {p:T_Pinned} (h:PinOk p):OkN p.1.1.toNat (alC p):=by
  refine okN_mem (fun y hy=>?_)
  have hN:=h.N
  rw [alC,aC_mem] at hy
  rcases hy with hy | ⟨i,h1,rfl⟩
  · exact okN_at h.okHC hy
  · have:=h.bars i h1;omega
theorem rkN_rk (N:Nat) (r:NB):rkN N r=Mat.rk N (bL r.2 r.1):=acc_len N 2 3 r.2 r.1
theorem bL_in (r:NB) (x:Nat×Nat):x∈bL r.2 r.1↔∃ y,mem r y∧brN y=x:=by
  rw [bL_mem]
  constructor
  · rintro ⟨s,h1,h2⟩;exact ⟨_,⟨s,h1,rfl⟩,h2⟩
  · rintro ⟨y,⟨s,h1,rfl⟩,h2⟩;exact ⟨s,h1,h2⟩
theorem PinOk.grd {p:T_Pinned} (h:PinOk p):Mat.Grd p.1.1.toNat p.2.1.1 (fun i=>(p.2.1.2 i).toNat) (bL (hlS p).2 (hlS p).1) where
  two:=h.m.1
  lt i hi:=by have:=h.gr i hi;show (p.2.1.2 i).toNat<_;omega
  ne i j hij hj:=by have:=h.asc i j hij hj;have:=h.gr i (by omega);show (p.2.1.2 i).toNat≠(p.2.1.2 j).toNat;omega
  b0 i h1 h2:=by
    rw [bL_in]
    refine ⟨(p.2.1.2 0,p.2.1.2 i,()),?_,rfl⟩
    rw [hlS,hS_mem]
    exact ⟨i,h1,by omega,.inl rfl⟩
  b1 i h1 h2:=by
    rw [bL_in]
    refine ⟨(p.2.1.2 1,p.2.1.2 i,()),?_,rfl⟩
    rw [hlS,hS_mem]
    exact ⟨i,by omega,by omega,.inr ⟨h1,rfl⟩⟩
theorem PinOk.same {p:T_Pinned} (h:PinOk p) {r q:NB} (hr:OkN p.1.1.toNat r) (hq:OkN p.1.1.toNat q) (hs:∀ y,mem (hlS p) y→mem r y) (h1:∀ y,mem r y→mem q y)
    (h2:∀ y,mem q y→mem r y∨mem (hlC p) y):rkN p.1.1.toNat q=rkN p.1.1.toNat r:=by
  rw [rkN_rk,rkN_rk]
  refine h.grd.same (bL_good hr) (bL_good hq) (fun x hx=>?_) (fun x hx=>?_) (fun x hx=>?_)
  · rw [bL_in] at hx ⊢
    obtain ⟨y,h3,h4⟩:=hx
    exact ⟨y,hs y h3,h4⟩
  · rw [bL_in] at hx ⊢
    obtain ⟨y,h3,h4⟩:=hx
    exact ⟨y,h1 y h3,h4⟩
  · rw [bL_in] at hx
    obtain ⟨y,h3,h4⟩:=hx
    rcases h2 y h3 with h5 | h5
    · exact .inl ((bL_in _ _).2 ⟨y,h5,h4⟩)
    · rw [hlC,hC_mem _ _ _ _ (Nat.le_refl _)] at h5
      obtain ⟨a,b,h6,h7,h8,rfl⟩:=h5
      rw [h.brx h7 h8] at h4
      exact .inr ⟨a,b,h6,h8,h4.symm⟩
theorem PinOk.few {p:T_Pinned} (h:PinOk p) (y:T_Bar) (hy:mem (hlS p) y):mem (hlC p) y:=by
  have hm:=h.m
  rw [hlS,hS_mem] at hy
  rw [hlC,hC_mem _ _ _ _ (Nat.le_refl _)]
  obtain ⟨b,h1,h2,h3⟩:=hy
  rcases h3 with rfl | ⟨h3,rfl⟩
  · exact ⟨0,b,by omega,by omega,by omega,h.brx (by omega) (by omega)⟩
  · exact ⟨1,b,by omega,by omega,by omega,h.brx (by omega) (by omega)⟩
theorem PinOk.rkH {p:T_Pinned} (h:PinOk p):rkN p.1.1.toNat (hlC p)=rkN p.1.1.toNat (hlS p) :=
  h.same h.okHS h.okHC (fun y hy=>hy) h.few (fun y hy=>.inr hy)
theorem PinOk.rkA {p:T_Pinned} (h:PinOk p):rkN p.1.1.toNat (alC p)=rkN p.1.1.toNat (alS p):=by
  refine h.same h.okAS h.okAC (fun y hy=>?_) (fun y hy=>?_) (fun y hy=>?_)
  · rw [alS,aS_mem];exact .inl hy
  · rw [alS,aS_mem] at hy
    rw [alC,aC_mem]
    rcases hy with hy | hy
    · exact .inl (h.few y hy)
    · exact .inr hy
  · rw [alC,aC_mem] at hy
    rw [alS,aS_mem]
    rcases hy with hy | hy
    · exact .inr hy
    · exact .inl (.inr hy)
noncomputable def prG (p:T_Pinned):Int:=if pinnedF p=true then (rkN p.1.1.toNat (alS p):Int) - (rkN p.1.1.toNat (hlS p):Int) else -1
theorem accI_le (N k l:Nat) (g:Nat→T_Bar):∀ n,(accI N k l g n).length≤n
  | 0=>Nat.le_refl _
  | n+1=>by
    have:=accI_le N k l g n
    simp only [accI]
    split
    · simp;omega
    · omega
theorem PinOk.nC {p:T_Pinned} (h:PinOk p):(hlC p).1≤64:=by
  have:=hC_n p.2.1.2 p.2.1.1 p.2.1.1
  exact Nat.le_trans this (Nat.mul_le_mul h.m.2 h.m.2)
theorem PinOk.nS {p:T_Pinned} (h:PinOk p):(hlS p).1+p.1.2.1.1≤24:=by
  have:=(hS_n p.2.1.2 (p.2.1.1 - 1)).2 (by have:=h.m;omega)
  have:=h.m;have:=h.nb
  unfold hlS;omega
theorem alS_n (p:T_Pinned):(alS p).1=(hlS p).1+p.1.2.1.1:=aS_n _ _ _
theorem con_PinnedRank_i (p:T_Pinned) (hs:smS s_Pinned p):zE 149 [pinA p] [] (.p (.int .i64 (prG p))):=by
  have c1:=con_IsPinned_i p hs
  cases hp:pinnedF p with
  | false =>
    rw [hp] at c1
    rw [show prG p = -1 by simp [prG,hp]]
    refine csZ Tryz.func149 (fun c hc=>?_)
    refine pkZ Tryz.func149 hc (hPn p) ?_
    and_intros
    all_goals (first | exact zN | (exact c1) | (simp;done))
  | true =>
    rw [hp] at c1
    have ok:=pin_ok hp
    have hN:=ok.N;have hm:=ok.m;have hnb:=ok.nb;have hnC:=ok.nC
    have ch:=con_held p hm.2
    have cr1:=con_planeRank ok.okAC (by omega) (by show (hlC p).1+p.1.2.1.1≤1048576;omega)
    have cr0:=con_planeRank ok.okHC (by omega) (by omega)
    have hNz:((p.1.1.toNat:Nat):Int)=p.1.1:=by omega
    rw [hNz] at cr1 cr0
    have hr1:(accI p.1.1.toNat 2 3 (alC p).2 (alC p).1).length=rkN p.1.1.toNat (alS p):=ok.rkA
    have hr0:(accI p.1.1.toNat 2 3 (hlC p).2 (hlC p).1).length=rkN p.1.1.toNat (hlS p):=ok.rkH
    have hb1:rkN p.1.1.toNat (alS p)≤24:=by
      have:=accI_le p.1.1.toNat 2 3 (alS p).2 (alS p).1
      have:=alS_n p;have:=ok.nS
      unfold rkN;omega
    have hb0:rkN p.1.1.toNat (hlS p)≤24:=by
      have:=accI_le p.1.1.toNat 2 3 (hlS p).2 (hlS p).1
      have:=ok.nS
      unfold rkN;omega
    rw [hr1] at cr1
    rw [hr0] at cr0
    rw [show prG p=(rkN p.1.1.toNat (alS p):Int) - (rkN p.1.1.toNat (hlS p):Int) by simp [prG,hp]]
    rw [show hC p.2.1.2 p.2.1.1 p.2.1.1=hlC p from rfl] at ch
    refine csZ Tryz.func149 (fun c hc=>?_)
    refine pkD Tryz.func149 hc (hPy p (hlC p).1 (hlC p).2 (rkN p.1.1.toNat (alS p)) (rkN p.1.1.toNat (hlS p))) ?_
    repeat' (first | exact aN | apply aI)
    all_goals (first | exact zN | (exact c1) | (exact ch) | (exact cr0) | (refine Con.arg_ext cr1 ?_;simp only [brL,wkL,wk,wkP,beq_self_eq_true,Bool.and_self,if_true,ikEq,List.append_nil,List.cons_append,List.nil_append,All];refine ⟨trivial,rfl,fun i hi=>?_,trivial⟩;by_cases h:i<(hlC p).1<;>simp [h,cellP,tg,tru,alC,aC]))
theorem con_PinnedRank_s (p:T_Pinned) (hs:smS s_Pinned p):zE 152 [pinA p] [] (.p (.int .i64 (prG p))):=by
  have c1:=con_IsPinned_s p hs
  cases hp:pinnedF p with
  | false =>
    rw [hp] at c1
    rw [show prG p = -1 by simp [prG,hp]]
    refine csZ Tryz.func152 (fun c hc=>?_)
    refine pkZ Tryz.func152 hc (hQn p) ?_
    and_intros
    all_goals (first | exact zN | (exact c1) | (simp;done))
  | true =>
    rw [hp] at c1
    have ok:=pin_ok hp
    have hN:=ok.N;have hm:=ok.m;have hnb:=ok.nb;have hnS:=ok.nS;have haS:=alS_n p
    have ch:=con_l20Held p (by omega) (by omega)
    have ca:=con_l20All p (by omega) (by omega) (by omega)
    have cr1:=con_l6Rank ok.okAS (by omega) (by omega)
    have cr0:=con_l6Rank ok.okHS (by omega) (by omega)
    have hNz:((p.1.1.toNat:Nat):Int)=p.1.1:=by omega
    rw [grG,hNz] at cr1 cr0
    have hb1:rkN p.1.1.toNat (alS p)≤24:=by
      have:=accI_le p.1.1.toNat 2 3 (alS p).2 (alS p).1
      unfold rkN;omega
    have hb0:rkN p.1.1.toNat (hlS p)≤24:=by
      have:=accI_le p.1.1.toNat 2 3 (hlS p).2 (hlS p).1
      unfold rkN;omega
    rw [show prG p=(rkN p.1.1.toNat (alS p):Int) - (rkN p.1.1.toNat (hlS p):Int) by simp [prG,hp]]
    rw [show hS p.2.1.2 (p.2.1.1 - 1)=hlS p from rfl] at ch
    refine csZ Tryz.func152 (fun c hc=>?_)
    refine pkZ Tryz.func152 hc (hQy p (alS p).1 (hlS p).1 (alS p).2 (hlS p).2 (rkN p.1.1.toNat (alS p)) (rkN p.1.1.toNat (hlS p))) ?_
    and_intros
    all_goals (first | exact zN | (exact c1) | (exact ch) | (exact ca) | (exact cr0) | (exact cr1))
def SNs (p:T_Pinned) (v n:Nat) (h:Nat→Int):St :=
  ⟨[pinA p,.pt 3 0 0 0,.p .any,.ar 1 1 0 n,.p (.int .i64 v)]++List.replicate 22 anyA,[(0,boxP p),(1,iOb n h)],2⟩
def SNi (p:T_Pinned) (v n:Nat) (h:Nat→Int):St :=
  ⟨[pinA p,.pt 3 0 0 0,.p .any,.ar 1 1 0 n]++List.replicate 8 anyA++[.p (.int .i64 p.1.1),.p (.int .i64 v)]++List.replicate 13 anyA,[(0,boxP p),(1,iOb n h)],2⟩
def snI (n:Nat) (h:Nat→Int) (x:Int) (s:Nat):Int:=if s<n then h s else x
theorem nSz (p:T_Pinned) :
    zT Tryz.f155 [rg 2,rg 2,rg 1,.head] [pinA p] [0,64] (SNs p 0 0 (fun _=>0)) =
    some (zf61,zD [(AI p.1.1),(AN p.1.2.1.1),(AP p.1.2.1.1 (fun i=>[.int .i64 ((p.1.2.1.2 i).1),.int .i64 ((p.1.2.1.2 i).2.1)])),(AN p.2.1.1),(AP p.2.1.1 (fun i=>[.int .i64 (p.2.1.2 i)])),(AN 0),((0:Int)=(↑0:Int)),((([AV.p (PV.int IntKind.i64 p.1.1),graphL p.1.2.1,inL p.2.1].length):Nat)=3),(NL 1 1),(AN 1),(NL 0 0),(AA 0 (fun i=>[.p (.int .i64 0)]))] [0,1,2,3,4,5,5,5,6,7,8,8,0,1,2,3,4,9,10,11]):=by kernel_rfl
theorem nSa (p:T_Pinned) (v n:Nat) (h:Nat→Int) (b:Bool) :
    zM 0 [rm [(7,oc [] (.p (.bool b)))] 1,.dec true,rm [(3,oc [] (.p (.bool false)))] 1,.dec true,rg 5,rg 3,.head] zf61 (SNs p v n h) [0,546] 1 (SNs p (v+1) (n+1) (snI n h v)) =
    some (zf61,zD [(NT 0 1),(((decide ((↑v:Int)<p.1.1))=true)→(NT 0 1)),(AG (decide ((↑v:Int)<p.1.1))),(((decide ((↑v:Int)<p.1.1))=true)→ zE 77 [(zf25 p)] [] (.p (.bool b))),((bif decide ((↑v:Int)<p.1.1) then b else false)=true),zE 92 [.p (.seq true 1 p.2.1.1 (fun i=>[.int .i64 (p.2.1.2 i)])),.p (.int .i64 (↑v:Int))] [] (.p (.bool false)),((!false)=true),(NL 1 1),(NL n n),(NL ((n+1)*8) 140737488355328),(NL (n+1) 9223372036854775807),(ZLo ((↑v:Int)+1)),(ZHi ((↑v:Int)+1)),(AI p.1.1),(AN p.1.2.1.1),(AP p.1.2.1.1 (fun i=>[.int .i64 ((p.1.2.1.2 i).1),.int .i64 ((p.1.2.1.2 i).2.1)])),(AN p.2.1.1),(AP p.2.1.1 (fun i=>[.int .i64 (p.2.1.2 i)])),(AN 0),(AN ((n+1))),((((↑v:Int)+1):Int)=(↑(v+1):Int)),(AN 3),(AN 1),(NL (n+1) (n+1)),(CV [(546,⟨false,1,(n+1),(fun i_1=>(if (i_1<n) then [.p (.int .i64 (h i_1))] else [.p (.int .i64 (↑v:Int))]))⟩),(514,⟨false,1,1,(fun i_1=>[.p (.int .i64 (↑v:Int))])⟩),(0,⟨true,3,1,(fun i_1=>[.p (.int .i64 p.1.1),.p (.seq true 2 p.1.2.1.1 (fun i_2=>[.int .i64 ((p.1.2.1.2 i_2).1),.int .i64 ((p.1.2.1.2 i_2).2.1)])),.p (.seq true 1 p.2.1.1 (fun i_2=>[.int .i64 (p.2.1.2 i_2)]))])⟩)] [0,546] 1 (n+1) (fun i=>if (i<n) then [.p (.int .i64 (h i))] else [.p (.int .i64 (↑v:Int))]) (fun i=>[.p (.int .i64 (snI n h (↑v:Int) i))]))] [0,1,2,3,2,4,0,5,6,7,8,9,10,11,12,13,14,15,16,17,18,18,19,20,21,7,7,13,14,15,16,17,22,23,24]):=by kernel_rfl
theorem nSb (p:T_Pinned) (v n:Nat) (h:Nat→Int) (b:Bool) :
    zM 0 [rm [(7,oc [] (.p (.bool b)))] 1,.dec true,rm [(3,oc [] (.p (.bool true)))] 1,.dec false,rg 3,.head] zf61 (SNs p v n h) [0,1] 1 (SNs p (v+1) n h) =
    some (zf61,zD [(NT 0 1),(((decide ((↑v:Int)<p.1.1))=true)→(NT 0 1)),(AG (decide ((↑v:Int)<p.1.1))),(((decide ((↑v:Int)<p.1.1))=true)→ zE 77 [(zf25 p)] [] (.p (.bool b))),((bif decide ((↑v:Int)<p.1.1) then b else false)=true),zE 92 [.p (.seq true 1 p.2.1.1 (fun i=>[.int .i64 (p.2.1.2 i)])),.p (.int .i64 (↑v:Int))] [] (.p (.bool true)),((!true)=false),(ZLo ((↑v:Int)+1)),(ZHi ((↑v:Int)+1)),(AI p.1.1),(AN p.1.2.1.1),(AP p.1.2.1.1 (fun i=>[.int .i64 ((p.1.2.1.2 i).1),.int .i64 ((p.1.2.1.2 i).2.1)])),(AN p.2.1.1),(AP p.2.1.1 (fun i=>[.int .i64 (p.2.1.2 i)])),(AN 0),(AN n),((((↑v:Int)+1):Int)=(↑(v+1):Int)),(AN 3),(NL 1 1),(AN 1),(NL n n),(AA n (fun i=>[.p (.int .i64 (h i))]))] [0,1,2,3,2,4,0,5,6,7,8,9,10,11,12,13,14,14,15,16,17,18,18,9,10,11,12,13,19,20,21]):=by kernel_rfl
theorem nSe (p:T_Pinned) (v n:Nat) (h:Nat→Int) (b:Bool) :
    zP Tryz.f155 0 [rm [(7,oc [] (.p (.bool b)))] 1,.dec false,rg 2] zf61 (SNs p v n h) [1] 1 [(0,iOb n h)] (.ar 1 0 0 n) =
    some [(NT 0 1),(((decide ((↑v:Int)<p.1.1))=true)→(NT 0 1)),(AG (decide ((↑v:Int)<p.1.1))),(((decide ((↑v:Int)<p.1.1))=true)→ zE 77 [(zf25 p)] [] (.p (.bool b))),(AG (decide ((↑v:Int)<p.1.1))),((bif decide ((↑v:Int)<p.1.1) then b else false)=false),(AN 0),(AN n),(AN 1),(NL n n),(AA n (fun i=>[.p (.int .i64 (h i))])),(AE n)]:=by kernel_rfl
theorem nIn (p:T_Pinned) :
    zS Tryz.f154 [rg 2,rg 2,rm [(1,oc [] (.p (.bool false)))] 1,.dec true,rg 2] [pinA p] [64] [(0,iOb 0 (fun _=>0))] (.ar 1 0 0 0) =
    some [(NT 0 1),zE 73 [(zf25 p)] [] (.p (.bool false)),((!false)=true),(AN 0),(AN 0),(AN 1),(NL 0 0),(AA 0 (fun i=>[.p (.int .i64 0)])),(AE 0)]:=by kernel_rfl
theorem nIz (p:T_Pinned) :
    zT Tryz.f154 [rg 2,rg 2,rm [(1,oc [] (.p (.bool true)))] 1,.dec false,rg 4,.head] [pinA p] [0,64] (SNi p 0 0 (fun _=>0)) =
    some (zf46,zD [(NT 0 1),zE 73 [(zf25 p)] [] (.p (.bool true)),((!true)=false),(AI p.1.1),(AN p.1.2.1.1),(AP p.1.2.1.1 (fun i=>[.int .i64 ((p.1.2.1.2 i).1),.int .i64 ((p.1.2.1.2 i).2.1)])),(AN p.2.1.1),(AP p.2.1.1 (fun i=>[.int .i64 (p.2.1.2 i)])),(AN 0),((0:Int)=(↑0:Int)),((([AV.p (PV.int IntKind.i64 p.1.1),graphL p.1.2.1,inL p.2.1].length):Nat)=3),(NL 1 1),(AN 1),(NL 0 0),(AA 0 (fun i=>[.p (.int .i64 0)]))] [0,1,2,0,3,4,5,6,7,8,8,8,3,9,10,11,11,3,4,5,6,7,12,13,14]):=by kernel_rfl
theorem nIa (p:T_Pinned) (v n:Nat) (h:Nat→Int) :
    zM 0 [rg 1,.dec true,rg 2,rm [(3,oc [] (.p (.bool false)))] 1,.dec true,rg 5,rg 2,.head] zf46 (SNi p v n h) [0,354] 1 (SNi p (v+1) (n+1) (snI n h v)) =
    some (zf46,zD [((decide ((↑v:Int)<p.1.1))=true),(NT 0 1),zE 144 [.p (.seq true 1 p.2.1.1 (fun i=>[.int .i64 (p.2.1.2 i)])),.p (.int .i64 (↑v:Int))] [] (.p (.bool false)),((!false)=true),(NL 1 1),(NL n n),(NL ((n+1)*8) 140737488355328),(NL (n+1) 9223372036854775807),(ZLo ((↑v:Int)+1)),(ZHi ((↑v:Int)+1)),(AI p.1.1),(AN p.1.2.1.1),(AP p.1.2.1.1 (fun i=>[.int .i64 ((p.1.2.1.2 i).1),.int .i64 ((p.1.2.1.2 i).2.1)])),(AN p.2.1.1),(AP p.2.1.1 (fun i=>[.int .i64 (p.2.1.2 i)])),(AN 0),(AN ((n+1))),((((↑v:Int)+1):Int)=(↑(v+1):Int)),(AN 3),(AN 1),(NL (n+1) (n+1)),(CV [(354,⟨false,1,(n+1),(fun i_1=>(if (i_1<n) then [.p (.int .i64 (h i_1))] else [.p (.int .i64 (↑v:Int))]))⟩),(322,⟨false,1,1,(fun i_1=>[.p (.int .i64 (↑v:Int))])⟩),(0,⟨true,3,1,(fun i_1=>[.p (.int .i64 p.1.1),.p (.seq true 2 p.1.2.1.1 (fun i_2=>[.int .i64 ((p.1.2.1.2 i_2).1),.int .i64 ((p.1.2.1.2 i_2).2.1)])),.p (.seq true 1 p.2.1.1 (fun i_2=>[.int .i64 (p.2.1.2 i_2)]))])⟩)] [0,354] 1 (n+1) (fun i=>if (i<n) then [.p (.int .i64 (h i))] else [.p (.int .i64 (↑v:Int))]) (fun i=>[.p (.int .i64 (snI n h (↑v:Int) i))]))] [0,1,2,3,4,5,6,7,8,9,10,11,12,13,14,15,15,16,10,17,18,4,4,10,11,12,13,14,19,20,21]):=by kernel_rfl
theorem nIb (p:T_Pinned) (v n:Nat) (h:Nat→Int) :
    zM 0 [rg 1,.dec true,rg 2,rm [(3,oc [] (.p (.bool true)))] 1,.dec false,rg 2,.head] zf46 (SNi p v n h) [0,1] 1 (SNi p (v+1) n h) =
    some (zf46,zD [((decide ((↑v:Int)<p.1.1))=true),(NT 0 1),zE 144 [.p (.seq true 1 p.2.1.1 (fun i=>[.int .i64 (p.2.1.2 i)])),.p (.int .i64 (↑v:Int))] [] (.p (.bool true)),((!true)=false),(ZLo ((↑v:Int)+1)),(ZHi ((↑v:Int)+1)),(AI p.1.1),(AN p.1.2.1.1),(AP p.1.2.1.1 (fun i=>[.int .i64 ((p.1.2.1.2 i).1),.int .i64 ((p.1.2.1.2 i).2.1)])),(AN p.2.1.1),(AP p.2.1.1 (fun i=>[.int .i64 (p.2.1.2 i)])),(AN 0),(AN n),((((↑v:Int)+1):Int)=(↑(v+1):Int)),(AN 3),(NL 1 1),(AN 1),(NL n n),(AA n (fun i=>[.p (.int .i64 (h i))]))] [0,1,2,3,4,5,6,7,8,9,10,11,11,12,6,13,14,15,15,6,7,8,9,10,16,17,18]):=by kernel_rfl
theorem nIe (p:T_Pinned) (v n:Nat) (h:Nat→Int) :
    zP Tryz.f154 0 [rg 1,.dec false,rg 2] zf46 (SNi p v n h) [1] 1 [(0,iOb n h)] (.ar 1 0 0 n) =
    some [((decide ((↑v:Int)<p.1.1))=false),(AN 0),(AN n),(AN 1),(NL n n),(AA n (fun i=>[.p (.int .i64 (h i))])),(AE n)]:=by kernel_rfl
theorem fFn (p:T_Pinned) :
    zS Tryz.f80 [rg 2,rm [(1,oc [] (.p (.bool false)))] 1,.dec true,rg 1] [pinA p] [] [] (.p (.int .i64 (-1))) =
    some [(NT 0 1),zE 73 [(zf25 p)] [] (.p (.bool false)),((!false)=true),(AI ((-1)))]:=by kernel_rfl
theorem fFy (p:T_Pinned) (n:Nat) (h:Nat→Int) (r:Int) :
    zS Tryz.f80 [rg 2,rm [(1,oc [] (.p (.bool true)))] 1,.dec false,rm [(1,oc [(0,iOb n h)] (.ar 1 0 0 n)),(3,oc [] (.p (.int .i64 r)))] 2] [pinA p] [] [] (.p (.int .i64 (2*(n:Int) - r))) =
    some [(NT 0 1),zE 73 [(zf25 p)] [] (.p (.bool true)),((!true)=false),(NT 0 1),zE 154 [(zf25 p)] [(0,⟨false,1,n,(fun i=>[.p (.int .i64 (h i))])⟩)] (.ar 1 0 0 n),(ZLo (2*(↑n:Int))),(ZHi (2*(↑n:Int))),(NT 0 1),zE 149 [(zf25 p)] [] (.p (.int .i64 r)),(ZLo (2*(↑n:Int) - r)),(ZHi (2*(↑n:Int) - r)),(AI ((2*(↑n:Int) - r)))]:=by kernel_rfl
theorem fGn (p:T_Pinned) :
    zS Tryz.f81 [rg 2,rm [(1,oc [] (.p (.bool false)))] 1,.dec true,rg 1] [pinA p] [] [] (.p (.int .i64 (-1))) =
    some [(NT 0 1),zE 77 [(zf25 p)] [] (.p (.bool false)),((!false)=true),(AI ((-1)))]:=by kernel_rfl
theorem fGy (p:T_Pinned) (n:Nat) (h:Nat→Int) (r:Int) :
    zS Tryz.f81 [rg 2,rm [(1,oc [] (.p (.bool true)))] 1,.dec false,rm [(1,oc [(0,iOb n h)] (.ar 1 0 0 n)),(3,oc [] (.p (.int .i64 r)))] 2] [pinA p] [] [] (.p (.int .i64 (2*(n:Int) - r))) =
    some [(NT 0 1),zE 77 [(zf25 p)] [] (.p (.bool true)),((!true)=false),(NT 0 1),zE 155 [(zf25 p)] [(0,⟨false,1,n,(fun i=>[.p (.int .i64 (h i))])⟩)] (.ar 1 0 0 n),(ZLo (2*(↑n:Int))),(ZHi (2*(↑n:Int))),(NT 0 1),zE 152 [(zf25 p)] [] (.p (.int .i64 r)),(ZLo (2*(↑n:Int) - r)),(ZHi (2*(↑n:Int) - r)),(AI ((2*(↑n:Int) - r)))]:=by kernel_rfl
theorem fRi (p:T_Pinned) (r:Int) :
    zS Tryz.f76 [rg 2,rm [(1,oc [] (.p (.int .i64 r)))] 2] [pinA p] [] [] (.p (.bool (r==0))) =
    some [(NT 0 1),zE 80 [(zf25 p)] [] (.p (.int .i64 r)),((r==0)=(r==0))]:=by kernel_rfl
theorem fRs (p:T_Pinned) (r:Int) :
    zS Tryz.f37 [rg 2,rm [(1,oc [] (.p (.int .i64 r)))] 2] [pinA p] [] [] (.p (.bool (r==0))) =
    some [(NT 0 1),zE 81 [(zf25 p)] [] (.p (.int .i64 r)),((r==0)=(r==0))]:=by kernel_rfl
theorem fIsR (p:T_Pinned) (l:T_BarS) (q:T_Pinned) (b1 b2:Bool) :
    zS Tryz.f16 [rg 2,rm [(2,oc [(0,brOb q.1.2.1.1 q.1.2.1.2),(1,iOb q.2.1.1 q.2.1.2)] (zf112 q b1))] 6,rm [(3,oc [] (.p (.bool b2)))] 2] [pinA p,graphL l] [] [] (.p (.bool (bif b1 then b2 else false))) =
    some [(NT 0 1),zE 19 [(zf25 p),.p (.seq true 2 l.1 (fun i=>[.int .i64 ((l.2 i).1),.int .i64 ((l.2 i).2.1)]))] (zf31 q) ((zf112 q b1)),(NT 0 1),((true=true)→ (AN 1)),((b1=true)→(NT 0 1)),(AG b1),((b1=true)→ (AN 2)),((b1=true)→(NL q.1.2.1.1 q.1.2.1.1)),((b1=true)→ (AN 1)),((b1=true)→(NL q.2.1.1 q.2.1.1)),((b1=true)→ zE 37 [(zf25 q)] [] (.p (.bool b2))),(AG b1),((bif b1 then b2 else false)=(bif b1 then b2 else false))]:=by kernel_rfl
abbrev NI:=Nat×(Nat→Int)
def zNI:NI:=(0,fun _=>0)
def snN (r:NI) (x:Int):NI:=(r.1+1,snI r.1 r.2 x)
def inrD (p:T_Pinned):Nat→NI
  | 0=>zNI
  | v+1=>if hasI p.2.1.2 v p.2.1.1=true then inrD p v else snN (inrD p v) v
def inrP (p:T_Pinned):NI:=if pinnedF p=true then inrD p p.1.1.toNat else zNI
theorem inrD_n (p:T_Pinned):∀ v,(inrD p v).1≤v
  | 0=>Nat.le_refl _
  | v+1=>by
    have:=inrD_n p v
    simp only [inrD]
    split
    · omega
    · simp only [snN];omega
theorem inrP_n (p:T_Pinned):(inrP p).1≤8:=by
  unfold inrP
  split
  · rename_i h
    have:=(pin_ok h).N
    have:=inrD_n p p.1.1.toNat
    omega
  · exact Nat.zero_le _
theorem con_InnerPoints_s (p:T_Pinned) (hs:smS s_Pinned p):zE 155 [pinA p] [(0,iOb (inrP p).1 (inrP p).2)] (.ar 1 0 0 (inrP p).1):=by
  have hg:p.2.1.1≤1048576:=hs.2.1.1
  have c1:=con_IsPinned_s p hs
  refine csZ Tryz.func155 (fun c hc=>?_)
  cases hp:pinnedF p with
  | false =>
    rw [hp] at c1
    rw [show inrP p=zNI by simp [inrP,hp]]
    have hd:(bif decide (((0:Nat):Int)<p.1.1) then false else false)=false:=by cases decide (((0:Nat):Int)<p.1.1)<;>rfl
    have he:zR c 155 zf61 (SNs p 0 0 (fun _=>0)) (Post c [(0,iOb zNI.1 zNI.2)] (.ar 1 0 0 zNI.1)):=by
      refine pkZ Tryz.func155 hc (nSe p 0 0 (fun _=>0) false) ?_
      and_intros
      all_goals (first | exact zI | (intros;exact c1) | (exact hd) | (intro t ht;exact absurd ht (Nat.not_lt_zero _)) | (intro t ht;simp [All]))
    refine pcD hc (nSz p) ?_ he
    and_intros
    all_goals (first | exact zN | (intro t ht;exact absurd ht (Nat.not_lt_zero _)) | (intro t ht;simp [All]))
  | true =>
    have ok:=pin_ok hp
    have hN:=ok.N
    rw [hp] at c1
    rw [show inrP p=inrD p p.1.1.toNat by simp [inrP,hp]]
    generalize hR:inrD p p.1.1.toNat=R
    have lo:∀ d v,v+d=p.1.1.toNat→zR c 155 zf61 (SNs p v (inrD p v).1 (inrD p v).2) (Post c [(0,iOb R.1 R.2)] (.ar 1 0 0 R.1)):=by
      intro d
      induction d with
      | zero =>
        intro v hv
        obtain rfl:v=p.1.1.toNat:=by omega
        have hd:(bif decide (((p.1.1.toNat:Nat):Int)<p.1.1) then true else false)=false:=by
          rw [show decide (((p.1.1.toNat:Nat):Int)<p.1.1)=false from decide_eq_false (by omega)];rfl
        rw [hR]
        refine pkZ Tryz.func155 hc (nSe p p.1.1.toNat R.1 R.2 true) ?_
        and_intros
        all_goals (first | exact zI | (exact hd) | (intros;exact c1) | (intro t ht;simp [All]))
      | succ d ih =>
        intro v hv
        have hrec:=ih (v+1) (by omega)
        have hd:(bif decide ((v:Int)<p.1.1) then true else false)=true:=by
          rw [show decide ((v:Int)<p.1.1)=true from decide_eq_true (by omega)];rfl
        have ch:=con_l2Has p.2.1 v hg
        have hn:=inrD_n p v
        by_cases hh:hasI p.2.1.2 v p.2.1.1=true
        · rw [hh] at ch
          rw [show inrD p (v+1)=inrD p v by simp only [inrD,hh,if_true]] at hrec
          generalize inrD p v=q at hn hrec ⊢
          refine pcD hc (nSb p v q.1 q.2 true) ?_ hrec
          and_intros
          all_goals (first | exact zI | (exact hd) | (intros;exact c1) | (exact ch) | (intro t ht;simp [All]))
        · rw [Bool.not_eq_true] at hh
          rw [hh] at ch
          rw [show inrD p (v+1)=snN (inrD p v) v by simp [inrD,hh]] at hrec
          generalize inrD p v=q at hn hrec ⊢
          refine pcD hc (nSa p v q.1 q.2 true) ?_ hrec
          and_intros
          all_goals (first | exact zI | (exact hd) | (intros;exact c1) | (exact ch) | (intro t ht;by_cases h':t<q.1<;>simp [h',snI,cvtL,cvt,tg,tru,All]))
    refine pcD hc (nSz p) ?_ (lo p.1.1.toNat 0 (by omega))
    and_intros
    all_goals (first | exact zN | (intro t ht;exact absurd ht (Nat.not_lt_zero _)) | (intro t ht;simp [All]))
theorem con_InnerPoints_i (p:T_Pinned) (hs:smS s_Pinned p):zE 154 [pinA p] [(0,iOb (inrP p).1 (inrP p).2)] (.ar 1 0 0 (inrP p).1):=by
  have hg:p.2.1.1≤1048576:=hs.2.1.1
  have c1:=con_IsPinned_i p hs
  refine csZ Tryz.func154 (fun c hc=>?_)
  cases hp:pinnedF p with
  | false =>
    rw [hp] at c1
    rw [show inrP p=zNI by simp [inrP,hp]]
    refine pkZ Tryz.func154 hc (nIn p) ?_
    and_intros
    all_goals (first | exact zN | (exact c1) | (intro t ht;exact absurd ht (Nat.not_lt_zero _)) | (intro t ht;simp [All]))
  | true =>
    have ok:=pin_ok hp
    have hN:=ok.N
    rw [hp] at c1
    rw [show inrP p=inrD p p.1.1.toNat by simp [inrP,hp]]
    generalize hR:inrD p p.1.1.toNat=R
    have lo:∀ d v,v+d=p.1.1.toNat→zR c 154 zf46 (SNi p v (inrD p v).1 (inrD p v).2) (Post c [(0,iOb R.1 R.2)] (.ar 1 0 0 R.1)):=by
      intro d
      induction d with
      | zero =>
        intro v hv
        obtain rfl:v=p.1.1.toNat:=by omega
        have hd:decide (((p.1.1.toNat:Nat):Int)<p.1.1)=false:=decide_eq_false (by omega)
        rw [hR]
        refine pkZ Tryz.func154 hc (nIe p p.1.1.toNat R.1 R.2) ?_
        and_intros
        all_goals (first | exact zN | (exact hd) | (intro t ht;simp [All]))
      | succ d ih =>
        intro v hv
        have hrec:=ih (v+1) (by omega)
        have hd:decide ((v:Int)<p.1.1)=true:=decide_eq_true (by omega)
        have ch:=con_Contains p.2.1 v hg
        have hn:=inrD_n p v
        by_cases hh:hasI p.2.1.2 v p.2.1.1=true
        · rw [hh] at ch
          rw [show inrD p (v+1)=inrD p v by simp only [inrD,hh,if_true]] at hrec
          generalize inrD p v=q at hn hrec ⊢
          refine pcD hc (nIb p v q.1 q.2) ?_ hrec
          and_intros
          all_goals (first | exact zN | (exact hd) | (exact ch) | (intro t ht;simp [All]))
        · rw [Bool.not_eq_true] at hh
          rw [hh] at ch
          rw [show inrD p (v+1)=snN (inrD p v) v by simp [inrD,hh]] at hrec
          generalize inrD p v=q at hn hrec ⊢
          refine pcD hc (nIa p v q.1 q.2) ?_ hrec
          and_intros
          all_goals (first | exact zN | (exact hd) | (exact ch) | (intro t ht;by_cases h':t<q.1<;>simp [h',snI,cvtL,cvt,tg,tru,All]))
    refine pcD hc (nIz p) ?_ (lo p.1.1.toNat 0 (by omega))
    and_intros
    all_goals (first | exact zN | (exact c1) | (intro t ht;exact absurd ht (Nat.not_lt_zero _)) | (intro t ht;simp [All]))
noncomputable def frG (p:T_Pinned):Int:=if pinnedF p=true then 2*((inrP p).1:Int) - prG p else -1
theorem prG_in (p:T_Pinned):-24≤prG p∧prG p≤24:=by
  unfold prG
  split
  · rename_i h
    have ok:=pin_ok h
    have h1:=accI_le p.1.1.toNat 2 3 (alS p).2 (alS p).1
    have h2:=accI_le p.1.1.toNat 2 3 (hlS p).2 (hlS p).1
    have:=alS_n p;have:=ok.nS
    unfold rkN;omega
  · omega
theorem con_PinnedFreedom_i (p:T_Pinned) (hs:smS s_Pinned p):zE 80 [pinA p] [] (.p (.int .i64 (frG p))):=by
  have c1:=con_IsPinned_i p hs
  have c2:=con_InnerPoints_i p hs
  have c3:=con_PinnedRank_i p hs
  have hn:=inrP_n p
  have hr:=prG_in p
  refine csZ Tryz.func80 (fun c hc=>?_)
  cases hp:pinnedF p with
  | false =>
    rw [hp] at c1
    rw [show frG p = -1 by simp [frG,hp]]
    refine pkZ Tryz.func80 hc (fFn p) ?_
    and_intros
    all_goals (first | exact zN | (exact c1) | (simp;done))
  | true =>
    rw [hp] at c1
    rw [show frG p=2*((inrP p).1:Int) - prG p by simp [frG,hp]]
    refine pkZ Tryz.func80 hc (fFy p (inrP p).1 (inrP p).2 (prG p)) ?_
    and_intros
    all_goals (first | exact zN | (exact c1) | (exact c2) | (exact c3))
theorem con_PinnedFreedom_s (p:T_Pinned) (hs:smS s_Pinned p):zE 81 [pinA p] [] (.p (.int .i64 (frG p))):=by
  have c1:=con_IsPinned_s p hs
  have c2:=con_InnerPoints_s p hs
  have c3:=con_PinnedRank_s p hs
  have hn:=inrP_n p
  have hr:=prG_in p
  refine csZ Tryz.func81 (fun c hc=>?_)
  cases hp:pinnedF p with
  | false =>
    rw [hp] at c1
    rw [show frG p = -1 by simp [frG,hp]]
    refine pkZ Tryz.func81 hc (fGn p) ?_
    and_intros
    all_goals (first | exact zN | (exact c1) | (simp;done))
  | true =>
    rw [hp] at c1
    rw [show frG p=2*((inrP p).1:Int) - prG p by simp [frG,hp]]
    refine pkZ Tryz.func81 hc (fGy p (inrP p).1 (inrP p).2 (prG p)) ?_
    and_intros
    all_goals (first | exact zN | (exact c1) | (exact c2) | (exact c3))
noncomputable def rgB (p:T_Pinned):Bool:=frG p==0
theorem con_IsPinnedRigid_i (p:T_Pinned) (hs:smS s_Pinned p):zE 76 [pinA p] [] (.p (.bool (rgB p))):=by
  have c1:=con_PinnedFreedom_i p hs
  refine csZ Tryz.func76 (fun c hc=>?_)
  refine pkZ Tryz.func76 hc (fRi p (frG p)) ?_
  and_intros
  all_goals (first | exact zN | (exact c1))
theorem con_IsPinnedRigid_s (p:T_Pinned) (hs:smS s_Pinned p):zE 37 [pinA p] [] (.p (.bool (rgB p))):=by
  have c1:=con_PinnedFreedom_s p hs
  refine csZ Tryz.func37 (fun c hc=>?_)
  refine pkZ Tryz.func37 hc (fRs p (frG p)) ?_
  and_intros
  all_goals (first | exact zN | (exact c1))
noncomputable def irB (p:T_Pinned) (l:T_BarS):Bool:=bif arB p l then rgB (arP p l) else false
theorem sm_arP (p:T_Pinned) (l:T_BarS):smS s_Pinned (arP p l):=sm_pin (by have:=arP_le p l;omega) (by have:=arP_le p l;omega)
theorem con_IsRepair_s (p:T_Pinned) (hs:smS s_Pinned p) (l:T_BarS) (hl:l.1≤1048576):zE 16 [pinA p,graphL l] [] (.p (.bool (irB p l))):=by
  have c1:=con_ApplyRepair_s p hs l hl
  have c2:=con_IsPinnedRigid_s (arP p l) (sm_arP p l)
  refine csZ Tryz.func16 (fun c hc=>?_)
  refine pkZ Tryz.func16 hc (fIsR p l (arP p l) (arB p l) (rgB (arP p l))) ?_
  and_intros
  all_goals (first | exact zI | (exact c1) | (intro _;exact c2))
open Go Go.Shelf Go.RowKit Go.Lib Go.Sort
theorem run_clear2 {P:Program} (w:World) (t e ty:TypeId) (z c0:Value) (ht:P.underlying t=some (.slice e)) (hv:∀ w,(zeroValue e).run P w=.ok z w) (hz:z.cells = #[c0,c0]) (h1:c0.oneCell'=true) (b o n c:Nat) (hn:0<n)
    (hc:∀ j,j<n*2→(w.cell? ⟨b,o+j,none⟩).isSome=true) (hf:∀ j,j<n*2→w.frozen? ⟨b,o+j,none⟩=false) :
    (Builtin.clear_ #[t] ty #[.slice (some ⟨b,o,none⟩) n c]).run P w=.ok (.tuple #[]) (w.setCells b o (List.replicate (n*2) c0)):=by
  have hzc:(Builtin.zeroCells z.cells n).toList=List.replicate (n*2) c0:=by
    rw [hz]
    simp [Builtin.zeroCells]
    apply List.ext_getElem
    · simp
    · intro i h1 h2
      have:i % 2=0∨i % 2=1:=by omega
      rcases this with h | h<;>simp [h]
  have hst:=run_storeCells_cells (P:=P) b o (List.replicate (n*2) c0) 0 w (by simpa using hc) (by simpa using hf) (by intro v hv';rw [List.eq_of_mem_replicate hv'];exact h1)
  simp only [Nat.add_zero] at hst
  obtain ⟨m,rfl⟩:∃ m,n=m+1:=⟨n - 1,by omega⟩
  simp [Builtin.clear_,run_underlying ht,hv,hzc,hst]
set_option maxHeartbeats 4000000 in
set_option maxRecDepth 1000000 in
theorem delete_walk (blk off cap n i j:Nat) (d:Array Value) (w:World) (hn:d.size=n*2) (hH:Holds id w blk off d) (hcap:n≤cap) (hlt:i<j) (hj:j≤n) (h1c:∀ v∈d.toList,v.oneCell'=true) :
    Calls Tryz.prog 160 #[.slice (some ⟨blk,off,none⟩) n cap,.int .i64 i,.int .i64 j] w fun e w'=>e=.returned (.slice (some ⟨blk,off,none⟩) (n - (j - i)) cap)∧∃ q,w'=putRow id (Sort.ahead w q) blk off (d.toList.take (i*2)++d.toList.drop (j*2)++List.replicate ((j - i)*2) (Value.int .i64 0)).toArray:=by
  have mx:Tryz.prog.follows .mixedOrders=true:=mixed
  have t0:=Tryz.underlying0
  have t3:=Tryz.underlying3
  have t4:=Tryz.underlying4
  have vBS:=Tryz.zeroValue24
  have tBS:=Tryz.underlying24
  have zBS:=Tryz.sizeOf24
  have zBR:=Tryz.sizeOf91
  have vBR:=Tryz.zeroValue91
  obtain ⟨i0,hi0⟩:∃ i0,Tryz.prog.info? 91=some i0:=by
    cases h:Tryz.prog.info? 91 with
    | some i=>exact ⟨i,rfl⟩
    | none =>
      have:(Tryz.prog.info? 91).isSome=true:=by kernel_rfl
      rw [h] at this;cases this
  have hz1:i0.size=2:=by
    have:(Tryz.prog.info? 91).map (·.size)=some 2:=by kernel_rfl
    rw [hi0] at this;simpa using this
  obtain ⟨news,hnews⟩:∃ news,news=d.toList.drop (j*2):=⟨_,rfl⟩
  have hlen:news.length=(n - j)*2:=by rw [hnews,List.length_drop,Array.length_toList];omega
  have hget:∀ t,t<(n - j)*2→news[t]? = some d[j*2+t]!:=by
    intro t ht
    rw [hnews,List.getElem?_drop,Array.getElem?_toList,getElem!_pos d (j*2+t) (by omega),Array.getElem?_eq_getElem (by omega)]
  obtain ⟨A,hA,hsrc⟩:∃ A:Addr,(if cap=j then some (⟨blk,off,none⟩:Addr) else some ⟨blk,off+j*2,none⟩)=some A∧Hid (∀ t u,news[t]? = some u→w.drew.cell? (A.add t)=some u):=by
    by_cases h:cap=j
    · refine ⟨⟨blk,off,none⟩,by simp [h],fun t u hu=>?_⟩
      have h0:news.length=0:=by rw [hlen];omega
      rw [List.length_eq_zero_iff.1 h0] at hu
      simp at hu
    · refine ⟨⟨blk,off+j*2,none⟩,by simp [h],fun t u hu=>?_⟩
      have ht:t<(n - j)*2:=by
        have:=(List.getElem?_eq_some_iff.1 hu).1
        rwa [hlen] at this
      rw [hget t ht] at hu
      rw [Addr.add_lit,show off+j*2+t=off+(j*2+t) by omega]
      exact (hH (j*2+t) (by omega)).1.trans hu
  have s1:Hid (news.length=(n - j)*2):=hlen
  have s2:Hid (∀ u∈news,u.oneCell'=true):=by
    intro u hu
    rw [hnews] at hu
    exact h1c u (List.mem_of_mem_drop hu)
  have s3:Hid (∀ t,t<news.length→(w.drew.cell? ⟨blk,off+i*2+t,none⟩).isSome=true∧w.drew.frozen? ⟨blk,off+i*2+t,none⟩=false):=by
    intro t ht
    rw [hlen] at ht
    rw [Nat.add_assoc]
    exact ⟨by show (w.cell? _).isSome=true;rw [(hH (i*2+t) (by omega)).1];rfl,(hH (i*2+t) (by omega)).2⟩
  obtain ⟨W1,hW1⟩:∃ W1,W1=w.drew.setCells blk (off+i*2) news:=⟨_,rfl⟩
  have hW1':W1=putRow id (Sort.ahead w 1) blk off (lay d (i*2) (d.toList.drop (j*2))):=by
    have e:=putRow_setCells id (Sort.ahead w 1) blk off (d.toList.drop (j*2)) d (i*2) (by simp;omega)
    rw [putRow_self id (Sort.ahead w 1) blk off d (holds_ahead id w 1 blk off d hH),List.map_id] at e
    rw [hW1,hnews]
    exact e
  have hH1:Holds id W1 blk off (lay d (i*2) (d.toList.drop (j*2))):=by rw [hW1'];exact holds_putRow id _ blk off d _ (holds_ahead id w 1 blk off d hH) (lay_size _ _ _)
  have hcl:∀ ty,(Builtin.clear_ #[24] ty #[.slice (some ⟨blk,off+(i+(n - j))*2,none⟩) (n - (i+(n - j))) (cap - (i+(n - j)))]).run Tryz.prog W1=.ok (.tuple #[]) (W1.setCells blk (off+(i+(n - j))*2) (List.replicate ((n - (i+(n - j)))*2) (.int .i64 0))) :=
    fun ty=>run_clear2 W1 24 91 ty _ (.int .i64 0) tBS vBR (by rfl) rfl blk (off+(i+(n - j))*2) _ _ (by omega)
      (fun t ht=>by rw [show off+(i+(n - j))*2+t=off+((i+(n - j))*2+t) by omega,(hH1 _ (by rw [lay_size];omega)).1];rfl)
      (fun t ht=>by rw [show off+(i+(n - j))*2+t=off+((i+(n - j))*2+t) by omega];exact (hH1 _ (by rw [lay_size];omega)).2)
  have X:Aside (W1=putRow id (Sort.ahead w 1) blk off (lay d (i*2) (d.toList.drop (j*2)))):=hW1'
  have hW:Hid (W1=w.drew.setCells blk (off+i*2) news):=hW1
  have hic:i≤cap:=by omega
  have hjc:j≤cap:=by omega
  have hin:i≤n:=by omega
  clear hW1 hW1' hH1 hH hget hnews hlen h1c
  go_enter Tryz.func160,Tryz.ntmps160
  go_wp2_with fail
  go_region_law_o (refine step_append_room rfl (.tmp 22) (.tmp 25) 24 rfl 91 i0 2 tBS hi0 hz1 blk off i cap (by simp [Act.eval,Act.put]) A (n - j) (cap - j) news (by simp [Act.eval,Act.put]) s1.out hsrc.out s2.out (by omega) s3.out ?_;rw [← hW.out])
  go_wp2
  go_ret
  refine ⟨by rw [show n - (j - i)=i+(n - j) by omega];rfl,1,?_⟩
  have e:=putRow_setCells id (Sort.ahead w 1) blk off (List.replicate ((n - (i+(n - j)))*2) (Value.int .i64 0)) (lay d (i*2) (d.toList.drop (j*2))) (i*2+(d.size - j*2)) (by rw [lay_size];simp;omega)
  rw [← X.out,List.map_id] at e
  rw [show (j - i)*2=j*2 - i*2 by omega,← delete_arr d (i*2) (j*2) _ (by omega) (by omega),show j*2 - i*2=(n - (i+(n - j)))*2 by omega,← e,show off+(i+(n - j))*2=off+(i*2+(d.size - j*2)) by omega]
open Go Go.Shelf Go.RowKit Go.Lib Go.Sort
def delB (n:Nat) (h:Nat→T_Bar) (e i:Nat):T_Bar:=if i<e then h i else if i+1<n then h (i+1) else (0,0,())
def cB (h:Nat→T_Bar) (t:Nat):Value:=if t % 2=0 then .int .i64 (h (t / 2)).1 else .int .i64 (h (t / 2)).2.1
def rowB (n:Nat) (h:Nat→T_Bar):Array Value:=((List.range (n*2)).map (cB h)).toArray
theorem rowB_size (n:Nat) (h:Nat→T_Bar):(rowB n h).size=n*2:=by simp [rowB]
theorem rowB_get (n:Nat) (h:Nat→T_Bar) (t:Nat) (ht:t<n*2):(rowB n h)[t]! = cB h t:=by
  rw [getElem!_pos _ t (by rw [rowB_size];exact ht)]
  simp [rowB]
def delF (n:Nat) (h:Nat→T_Bar) (e:Nat):Array Value:=((rowB n h).toList.take (e*2)++(rowB n h).toList.drop ((e+1)*2)++List.replicate ((e+1 - e)*2) (Value.int .i64 0)).toArray
theorem delF_size (n:Nat) (h:Nat→T_Bar) (e:Nat) (he:e<n):(delF n h e).size=n*2:=by
  have:=rowB_size n h
  simp only [delF,List.size_toArray,List.length_append,List.length_take,List.length_drop,List.length_replicate,Array.length_toList,this]
  omega
theorem delF_get (n:Nat) (h:Nat→T_Bar) (e:Nat) (he:e<n) (t:Nat) (ht:t<n*2):(delF n h e)[t]! = cB (delB n h e) t:=by
  have hs:=rowB_size n h
  have hz:=delF_size n h e he
  have l1:((rowB n h).toList.take (e*2)).length=e*2:=by simp [hs];omega
  have l2:((rowB n h).toList.drop ((e+1)*2)).length=n*2 - (e+1)*2:=by simp [hs]
  have key:(delF n h e)[t]? = some (cB (delB n h e) t):=by
    show ((rowB n h).toList.take (e*2)++(rowB n h).toList.drop ((e+1)*2)++List.replicate ((e+1 - e)*2) (Value.int .i64 0)).toArray[t]? = _
    rw [List.getElem?_toArray]
    by_cases c1:t<e*2
    · rw [List.getElem?_append_left (by simp only [List.length_append];omega),List.getElem?_append_left (by omega),List.getElem?_take,if_pos c1,Array.getElem?_toList,Array.getElem?_eq_getElem (by omega)]
      have:=rowB_get n h t ht
      rw [getElem!_pos _ t (by omega)] at this
      rw [this]
      simp only [cB,delB,show t / 2<e by omega,if_true]
    · by_cases c2:t<n*2 - 2
      · rw [List.getElem?_append_left (by simp only [List.length_append];omega),List.getElem?_append_right (by omega),List.getElem?_drop,Array.getElem?_toList,l1,show (e+1)*2+(t - e*2)=t+2 by omega,Array.getElem?_eq_getElem (by omega)]
        have:=rowB_get n h (t+2) (by omega)
        rw [getElem!_pos _ (t+2) (by omega)] at this
        rw [this]
        simp only [cB,delB,show ¬ t / 2<e by omega,show t / 2+1<n by omega,show (t+2) % 2=t % 2 by omega,show (t+2) / 2=t / 2+1 by omega,if_true,if_false]
      · rw [List.getElem?_append_right (by simp only [List.length_append];omega),List.getElem?_replicate]
        simp only [List.length_append,l1,l2]
        rw [if_pos (by omega)]
        simp only [cB,delB,show ¬ t / 2<e by omega,show ¬ t / 2+1<n by omega,if_false]
        split<;>rfl
  rw [getElem!_pos _ t (by omega)]
  rw [Array.getElem?_eq_getElem (by omega)] at key
  exact Option.some.inj key
theorem con_DelBar (n e:Nat) (h:Nat→T_Bar) (he:e<n) (hn:n≤1048576) :
    Con Tryz.prog 160 1 [(0,brOb n h)] [.ar 2 0 0 n,.p (.int .i64 e),.p (.int .i64 ((e:Int)+1))] [(0,brOb n (delB n h e))] (.ar 2 0 0 (n - 1)):=by
  refine ⟨by kernel_rfl,fun w β X vals hX hH hS hd hl ha=>?_⟩
  obtain ⟨v0,v1,v2,rfl⟩:∃ v0 v1 v2,vals = #[v0,v1,v2]:=by
    rcases vals with ⟨l⟩
    match l,hl with
    | [a,b,c],_=>exact ⟨a,b,c,rfl⟩
  have h0:VR w β (ow X β [(0,brOb n h)]) (.ar 2 0 0 n) v0:=ha 0 (by simp)
  have e1:=vr_int (ha 1 (by simp))
  have e2:=vr_int (ha 2 (by simp))
  change v1=_ at e1
  change v2=_ at e2
  subst e1
  subst e2
  cases h0 with
  | ar0=>exact absurd he (Nat.not_lt_zero _)
  | ar _ _ _ _ b base c cells elem fr' hβ hh hsz hc =>
    rcases hH 0 _ (lk_one _) with ⟨hb,_⟩ | ⟨b',base',cells',el',hβ',hh',hrw⟩ | hm
    · rw [hb] at hβ;cases hβ
    · rw [hβ] at hβ'
      injection hβ' with hβ'
      injection hβ' with i1 i2 _
      subst i1;subst i2
      rw [hh] at hh'
      injection hh' with hh'
      injection hh' with i1 i2 i3
      subst i1;subst i2;subst i3
      have hcell:∀ t,t<n*2→cells[base+t]? = some (cB h t):=by
        intro t ht
        have hm2:=Nat.mod_lt t (show 0<2 by omega)
        obtain ⟨u,hu1,hu2,hu3⟩:=hrw (t / 2) (by show t / 2<n;omega) (t % 2) (by show t % 2<2;omega)
        have ee:base+(t / 2*2+t % 2)=base+t:=by omega
        change cells[base+(t / 2*2+t % 2)]? = some u at hu1
        rw [ee] at hu1
        rcases Nat.mod_two_eq_zero_or_one t with h2 | h2
        · rw [h2] at hu3
          have:=vr_int (k:=.i64) (x:=(h (t / 2)).1) hu3
          rw [hu1,this];simp [cB,h2]
        · rw [h2] at hu3
          have:=vr_int (k:=.i64) (x:=(h (t / 2)).2.1) hu3
          rw [hu1,this];simp [cB,h2]
      have hend:base+n*2≤cells.size:=by
        have:=hcell (n*2 - 1) (by omega)
        rcases Nat.lt_or_ge (base+(n*2 - 1)) cells.size with h' | h'
        · omega
        · rw [Array.getElem?_eq_none h'] at this;cases this
      have hd2:Holds id w b base (rowB n h):=by
        intro t ht
        rw [rowB_size] at ht
        refine ⟨?_,by simp [World.frozen?,hh]⟩
        simp only [World.cell?,hh]
        rw [hcell t ht,rowB_get n h t ht]
        rfl
      refine (delete_walk b base c n e (e+1) (rowB n h) w (rowB_size n h) hd2 (by omega) (by omega) (by omega) (fun v hv=>?_)).mono ?_
      · simp only [rowB,List.mem_map,List.mem_range] at hv
        obtain ⟨t,_,rfl⟩:=hv
        unfold cB
        split<;>rfl
      · rintro e' w' ⟨rfl,q,rfl⟩
        have eg:∀ w:World,w=grow w #[]:=fun w=>by simp [grow]
        have hw:putRow id (Sort.ahead w q) b base ((rowB n h).toList.take (e*2)++(rowB n h).toList.drop ((e+1)*2)++List.replicate ((e+1 - e)*2) (Value.int .i64 0)).toArray=sW w b base q (delF n h e) #[]:=eg _
        rw [hw,show n - (e+1 - e)=n - 1 by omega]
        refine sW_post (z:=2) (os:=#[]) hβ hh hS hend (delF_size n h e he) (fun i hi j hj=>?_) (fun own=>?_)
        · rw [delF_get n h e he _ (by omega)]
          unfold cB
          have:j=0∨j=1:=by omega
          rcases this with rfl | rfl
          · rw [if_pos (by omega),show (i*2+0) / 2=i by omega]
            exact ⟨rfl,fun w own=>.p _ _ (.int _ _)⟩
          · rw [if_neg (by omega),show (i*2+1) / 2=i by omega]
            exact ⟨rfl,fun w own=>.p _ _ (.int _ _)⟩
        · have hv:VR (sW w b base q (delF n h e) #[]) β own (.ar 2 0 0 (n - 1)) (.slice (some ⟨b,base+0*2,none⟩) (n - 1) c):=.ar 2 0 0 (n - 1) b base c (putCells id base (delF n h e) cells) elem (0,0) hβ (sW_at hh) (by rw [putCells_size];exact hsz) (by omega)
          rw [show base+0*2=base by omega] at hv
          exact hv
    · exact absurd hm.2.1 (by simp [brOb])
open Go
theorem aft_or (a b:T_Bar):aft a b=true↔a.1<b.1∨(a.1=b.1∧a.2.1≤b.2.1):=by
  unfold aft
  by_cases h1:a.1<b.1
  · simp [h1]
  · by_cases h2:a.1=b.1
    · simp [h2]
    · have:(a.1==b.1)=false:=beq_eq_false_iff_ne.2 h2
      simp [h1,h2]
def AscB (n:Nat) (h:Nat→T_Bar):Prop:=∀ s,s+1<n→aft (h s) (h (s+1))=true
theorem ascB_snoc {n:Nat} {h:Nat→T_Bar} {x:T_Bar} (ha:AscB n h) (hx:0<n→aft (h (n - 1)) x=true):AscB (n+1) (snoc n h x):=by
  intro s hs
  rw [snoc_lt (show s<n by omega)]
  by_cases h1:s+1<n
  · rw [snoc_lt h1];exact ha s h1
  · obtain rfl:n=s+1:=by omega
    rw [snoc_ge (Nat.lt_irrefl _)]
    exact hx (by omega)
theorem isG_of {N nb:Nat} {g:Nat→T_Bar} (hN:1≤N∧N≤8) (hnb:nb≤24) (hok:OkBars N nb g) (ha:AscB nb g):isGraphF ((N:Int),(nb,g),())=true:=by
  have hgood:∀ k,k≤nb→goodB (N:Int) g k=true:=by
    intro k
    induction k with
    | zero=>intro _;rfl
    | succ k ih =>
      intro hk
      rw [goodB,ih (by omega),Bool.true_and,Bool.not_eq_true']
      have hb:=hok k (by omega)
      have a1:decide ((g k).1<0)=false:=decide_eq_false (by omega)
      have a2:decide ((g k).1≥(g k).2.1)=false:=decide_eq_false (by omega)
      have a3:decide ((g k).2.1≥(N:Int))=false:=decide_eq_false (by omega)
      unfold badB
      rw [a1,a2,a3]
      simp only [cond_false]
      by_cases h0:k=0
      · subst h0;rfl
      · have:=ha (k - 1) (by omega)
        rw [show k - 1+1=k by omega] at this
        rw [show ((k:Int) - 1).toNat=k - 1 by omega,this]
        cases decide ((k:Int)>0)<;>rfl
  have hin:inB (N:Int) 1 8=true:=by simp [inB];omega
  rw [isGraphF,if_pos ⟨hin,hnb⟩]
  exact hgood nb (Nat.le_refl _)
theorem ins_asc (g:Nat→T_Bar) (x:T_Bar) (nb:Nat) (hg:AscB nb g):∀ i,i≤nb→AscB (insD g x i).2.1 (insD g x i).2.2∧(0<i→0<(insD g x i).2.1∧(insD g x i).2.2 ((insD g x i).2.1 - 1)=g (i - 1))∧((insD g x i).1=false→(insD g x i).2.1=i∧(0<i→aft (g (i - 1)) x=true))
  | 0,_=>⟨fun s hs=>absurd hs (Nat.not_lt_zero _),fun h=>absurd h (Nat.lt_irrefl 0),fun _=>⟨rfl,fun h=>absurd h (Nat.lt_irrefl 0)⟩⟩
  | i+1,hi=>by
    obtain ⟨h1,h2,h3⟩:=ins_asc g x nb hg i (by omega)
    have hgi:0<i→aft (g (i - 1)) (g i)=true:=by
      intro h
      have:=hg (i - 1) (by omega)
      rw [show i - 1+1=i by omega] at this
      exact this
    have hlast:0<(insD g x i).2.1→(0<i→(insD g x i).2.2 ((insD g x i).2.1 - 1)=g (i - 1)):=fun _ h=>(h2 h).2
    have hpos:(insD g x i).2.1=i+(if (insD g x i).1=true then 1 else 0):=insD_n g x i
    simp only [insD]
    split
    · rename_i h
      have hf:(insD g x i).1=false:=by
        cases e:(insD g x i).1 with
        | false=>rfl
        | true=>rw [e] at h;simp at h
      obtain ⟨h4,h5⟩:=h3 hf
      rw [hf] at h
      have hxg:aft x (g i)=true:=by
        have hn:¬ (aft (g i) x=true):=by simpa using h
        rw [aft_or] at hn ⊢
        omega
      refine ⟨ascB_snoc (ascB_snoc h1 (fun h0=>?_)) (fun _=>?_),fun _=>⟨by show 0<(insD g x i).2.1+1+1;omega,?_⟩,fun h'=>by cases h'⟩
      · rw [hlast h0 (by omega)];exact h5 (by omega)
      · rw [show (insD g x i).2.1+1 - 1=(insD g x i).2.1 by omega,snoc_ge (Nat.lt_irrefl _)];exact hxg
      · show snoc ((insD g x i).2.1+1) _ (g i) ((insD g x i).2.1+1+1 - 1)=g (i+1 - 1)
        rw [show (insD g x i).2.1+1+1 - 1=(insD g x i).2.1+1 by omega,snoc_ge (Nat.lt_irrefl _)]
        rfl
    · rename_i h
      refine ⟨ascB_snoc h1 (fun h0=>?_),fun _=>⟨by show 0<(insD g x i).2.1+1;omega,?_⟩,fun h'=>?_⟩
      · by_cases h6:0<i
        · rw [hlast h0 h6];exact hgi h6
        · exfalso
          obtain rfl:i=0:=by omega
          exact absurd h0 (Nat.lt_irrefl 0)
      · show snoc (insD g x i).2.1 _ (g i) ((insD g x i).2.1+1 - 1)=g (i+1 - 1)
        rw [show (insD g x i).2.1+1 - 1=(insD g x i).2.1 by omega,snoc_ge (Nat.lt_irrefl _)]
        rfl
      · have h7:(insD g x i).1=false:=h'
        obtain ⟨h4,h5⟩:=h3 h7
        refine ⟨by show (insD g x i).2.1+1=i+1;omega,fun _=>?_⟩
        rw [h7] at h
        show aft (g i) x=true
        simpa using h
theorem insR_asc {g:Nat→T_Bar} {nb:Nat} (x:T_Bar) (hg:AscB nb g):AscB (insR g nb x).1 (insR g nb x).2:=by
  obtain ⟨h1,h2,h3⟩:=ins_asc g x nb hg nb (Nat.le_refl _)
  unfold insR
  split
  · exact h1
  · rename_i h
    have hf:(insD g x nb).1=false:=by simpa using h
    obtain ⟨h4,h5⟩:=h3 hf
    refine ascB_snoc h1 (fun h0=>?_)
    rw [(h2 (by omega)).2]
    exact h5 (by omega)
theorem hS_asc (s:Nat→Int):∀ k,AscB (hS s k).1 (hS s k).2
  | 0=>fun t ht=>absurd ht (Nat.not_lt_zero _)
  | k+1=>by
    have ih:=hS_asc s k
    simp only [hS]
    split
    · exact insR_asc _ (insR_asc _ ih)
    · exact insR_asc _ ih
theorem aS_asc (g:Nat→T_Bar) {r:NB} (hr:AscB r.1 r.2):∀ k,AscB (aS g r k).1 (aS g r k).2
  | 0=>hr
  | k+1=>by
    have ih:=aS_asc g hr k
    simp only [aS]
    exact insR_asc _ ih
theorem alS_asc (p:T_Pinned):AscB (alS p).1 (alS p).2:=aS_asc _ (hS_asc _ _) _
def SYs (p:T_Pinned) (v n:Nat) (h:Nat→Int):St :=
  ⟨[pinA p,.pt 3 0 0 0,.p .any,.ar 1 1 0 n,.p (.int .i64 v)]++List.replicate 36 anyA,[(0,boxP p),(1,iOb n h)],2⟩
def SYi (p:T_Pinned) (v n m:Nat) (h:Nat→Int) (r:Nat→T_Bar):St :=
  ⟨[pinA p,.pt 3 0 0 0,.p .any,.ar 1 1 0 n,.ar 2 2 0 m]++List.replicate 17 anyA++[.p (.int .i64 p.1.1),.p (.int .i64 v)]++List.replicate 34 anyA,[(0,boxP p),(1,iOb n h),(2,brOb m r)],3⟩
def SYj (p:T_Pinned) (v j n m:Nat) (h:Nat→Int) (r:Nat→T_Bar) (b:Bool):St :=
  ⟨[pinA p,.pt 3 0 0 0,.p .any,.ar 1 1 0 n,.ar 2 2 0 m,.p (.int .i64 v),.p (.bool b)]++List.replicate 15 anyA++[.p (.int .i64 p.1.1),.p (.int .i64 v)]++List.replicate 3 anyA ++
    [inL p.2.1,.p (.int .i64 p.2.1.1),.p (.int .i64 j)]++List.replicate 28 anyA,[(0,boxP p),(1,iOb n h),(2,brOb m r)],3⟩
def SYf (p:T_Pinned) (e k n a b:Nat) (h r s:Nat→Int):St :=
  ⟨[pinA p,.p (.int .i64 e),.pt 3 0 0 0,.p .any,.p .any,.ar 1 1 0 n,.ar 1 2 0 a,.p .any,.p .any]++List.replicate 20 anyA++[.ar 1 3 0 b,.p (.int .i64 b),.p (.int .i64 k)]++List.replicate 13 anyA,
   [(0,boxP p),(1,iOb n h),(2,iOb a r),(3,iOb b s)],4⟩
def SYg (p:T_Pinned) (e k n a b:Nat) (h r s:Nat→Int):St :=
  ⟨[pinA p,.p (.int .i64 e),.pt 3 0 0 0,.p .any,.p .any,.ar 1 1 0 n,.ar 1 3 0 b,.ar 1 2 0 a,.p (.int .i64 k)]++List.replicate 44 anyA,
   [(0,boxP p),(1,iOb n h),(2,iOb a r),(3,iOb b s)],4⟩
def SYw (p:T_Pinned) (k:Nat) (w m:Int):St :=
  ⟨[pinA p,.pt 3 0 0 0,.p .any,.p .any,.p (.int .i64 w),.p (.int .i64 m)]++List.replicate 5 anyA++[.p (.int .i64 p.1.2.1.1),.p (.int .i64 k)]++List.replicate 14 anyA,[(0,boxP p)],1⟩
def SYv (p:T_Pinned) (k:Nat) (w m:Int):St :=
  ⟨[pinA p,.pt 3 0 0 0,.p .any,.p .any,.p (.int .i64 w),.p (.int .i64 m),.p (.int .i64 k)]++List.replicate 20 anyA,[(0,boxP p)],1⟩
theorem zqRb (v:T_Graph) (e:Nat) :
    zS Tryz.f161 [rg 3,rm [(1,oc [] (.p (.bool true)))] 12,.dec false,rg 17] [graphA v,.p (.int .i64 e)] [960] [(0,brOb (v.2.1.1 - 1) (delB v.2.1.1 v.2.1.2 e))] (.tup [.agg [.p (.int .i64 v.1),.ar 2 0 0 (v.2.1.1 - 1)],.p (.bool true)]) =
    some (zD [(NT 0 1),zE 134 [(zf100 v)] [] (.p (.bool true)),(AG (!!true)),(((!true)=false)→ ((!!true)=true)),(AG (!bif !true then true else decide ((↑e:Int)<0))),(((!bif !true then true else decide ((↑e:Int)<0))=true)→(NT 0 1)),(((bif !true then true else decide ((↑e:Int)<0))=false)→ ((!bif !true then true else decide ((↑e:Int)<0))=true)),((bif bif !true then true else decide ((↑e:Int)<0) then true else decide ((↑e:Int)≥(↑v.2.1.1:Int)))=false),(IL 0 0),(IL 0 (↑e:Int)),(IL (↑e:Int) (↑v.2.1.1:Int)),(NL 0 0),(NL ((0+e)*16) 140737488355328),(NL (0+e) 9223372036854775807),(ZLo ((↑e:Int)+1)),(ZHi ((↑e:Int)+1)),(IL 0 ((↑e:Int)+1)),(IL ((↑e:Int)+1) (↑v.2.1.1:Int)),(IL (↑v.2.1.1:Int) (↑v.2.1.1:Int)),(NL (0+e) (0+e)),(NL ((0+e+(v.2.1.1 - (e+1)))*16) 140737488355328),(NL (0+e+(v.2.1.1 - (e+1))) 9223372036854775807),((true=true)→ (AN 1)),(AI v.1),(AN 0),(((0+e+(v.2.1.1 - (e+1))):Nat)=(v.2.1.1 - 1)),(true=true),(AN 2),(NL (v.2.1.1 - 1) (0+e+(v.2.1.1 - (e+1)))),(∀ i:Nat,(((i:Nat)<(v.2.1.1 - 1))→(All (cvtL false [(32,⟨true,2,1,(fun i_1=>[.p (.int .i64 v.1),.ar 2 960 0 (0+e+(v.2.1.1 - (e+1)))])⟩),(960,⟨false,2,(0+e+(v.2.1.1 - (e+1))),(fun i_1=>(if (i_1<0+e) then [.p (.int .i64 ((v.2.1.2 i_1).1)),.p (.int .i64 ((v.2.1.2 i_1).2.1))] else [.p (.int .i64 ((v.2.1.2 (i_1 - (0+e)+(e+1))).1)),.p (.int .i64 ((v.2.1.2 (i_1 - (0+e)+(e+1))).2.1))]))⟩),(0,⟨true,2,1,(fun i_1=>[.p (.int .i64 v.1),.p (.seq true 2 v.2.1.1 (bRw v.2.1.2))])⟩)] [960] 1 (if (i<0+e) then [.p (.int .i64 ((v.2.1.2 i).1)),.p (.int .i64 ((v.2.1.2 i).2.1))] else [.p (.int .i64 ((v.2.1.2 (i - (0+e)+(e+1))).1)),.p (.int .i64 ((v.2.1.2 (i - (0+e)+(e+1))).2.1))])).2∧(((cvtL false [(32,⟨true,2,1,(fun i_1=>[.p (.int .i64 v.1),.ar 2 960 0 (0+e+(v.2.1.1 - (e+1)))])⟩),(960,⟨false,2,(0+e+(v.2.1.1 - (e+1))),(fun i_1=>(if (i_1<0+e) then [.p (.int .i64 ((v.2.1.2 i_1).1)),.p (.int .i64 ((v.2.1.2 i_1).2.1))] else [.p (.int .i64 ((v.2.1.2 (i_1 - (0+e)+(e+1))).1)),.p (.int .i64 ((v.2.1.2 (i_1 - (0+e)+(e+1))).2.1))]))⟩),(0,⟨true,2,1,(fun i_1=>[.p (.int .i64 v.1),.p (.seq true 2 v.2.1.1 (bRw v.2.1.2))])⟩)] [960] 1 (if (i<0+e) then [.p (.int .i64 ((v.2.1.2 i).1)),.p (.int .i64 ((v.2.1.2 i).2.1))] else [.p (.int .i64 ((v.2.1.2 (i - (0+e)+(e+1))).1)),.p (.int .i64 ((v.2.1.2 (i - (0+e)+(e+1))).2.1))])).1:List AV)=[.p (.int .i64 ((delB v.2.1.1 v.2.1.2 e i).1)),.p (.int .i64 ((delB v.2.1.1 v.2.1.2 e i).2.1))])))),(AE ((v.2.1.1 - 1)))] [0,1,2,3,4,5,4,4,4,6,7,0,0,8,9,10,11,12,13,0,14,15,16,17,18,19,20,21,0,22,0,23,24,25,26,27,28,29,30]):=by kernel_rfl
theorem zqLl (p:T_Pinned) (e n:Nat) (h:Nat→T_Bar) :
    zS Tryz.f110 [rg 2,rm [(3,oc [(0,brOb n h)] (.tup [.agg [.p (.int .i64 p.1.1),.ar 2 0 0 n],.p (.bool true)]))] 6,rg 7] [pinA p,.p (.int .i64 e)] [160,512] [(0,brOb n h),(1,iOb p.2.1.1 p.2.1.2)] (.agg [.p (.int .i64 p.1.1),.ar 2 0 0 n,.ar 1 1 0 p.2.1.1]) =
    some (zD [(NT 0 1),zE 161 [(zf98 p),.p (.int .i64 (↑e:Int))] (zf113 n h) (.tup [.agg [.p (.int .i64 p.1.1),.ar 2 0 0 n],.p (.bool true)]),((true=true)→ (AN 1)),(NL 0 0),(NL ((0+p.2.1.1)*8) 140737488355328),(NL (0+p.2.1.1) 9223372036854775807),(AI p.1.1),(AN 0),(AN n),(((0+p.2.1.1):Nat)=p.2.1.1),(AN 2),(NL n n),(AA n (fun i=>[.p (.int .i64 ((h i).1)),.p (.int .i64 ((h i).2.1))])),(AN 1),(NL p.2.1.1 (0+p.2.1.1)),(AA p.2.1.1 (fun i=>[.p (.int .i64 (p.2.1.2 i))])),(AE n),(AE p.2.1.1)] [0,1,0,2,0,0,3,4,5,0,2,0,6,7,8,7,9,10,11,12,13,14,15,16,17]):=by kernel_rfl
theorem zqWo (p:T_Pinned) (e n:Nat) (h:Nat→T_Bar) :
    zS Tryz.f107 [rg 2,rm [(1,oc [(0,brOb p.1.2.1.1 p.1.2.1.2),(1,iOb p.2.1.1 p.2.1.2)] (zf120 p))] 2,rm [(6,oq [96] [(0,brOb p.1.2.1.1 h)] (.ar 2 0 0 n))] 3,rg 2] [pinA p,.p (.int .i64 e)] [96,97] [(0,brOb n h),(1,iOb p.2.1.1 p.2.1.2)] (.agg [.p (.int .i64 p.1.1),.ar 2 0 0 n,.ar 1 1 0 p.2.1.1]) =
    some (zD [(NT 0 1),zE 83 [(zf25 p)] (zf31 p) ((zf120 p)),((true=true)→ (AN 1)),(ZLo ((↑e:Int)+1)),(ZHi ((↑e:Int)+1)),(AE p.1.2.1.1),Con Tryz.prog 160 1 (zf103 p) [.ar 2 0 0 p.1.2.1.1,.p (.int .i64 (↑e:Int)),.p (.int .i64 ((↑e:Int)+1))] [(0,⟨false,2,p.1.2.1.1,(fun i=>[.p (.int .i64 ((h i).1)),.p (.int .i64 ((h i).2.1))])⟩)] (.ar 2 0 0 n),(AI p.1.1),(AN 0),(AN n),(AN p.2.1.1),(AN 2),(NL n p.1.2.1.1),(AA n (fun i=>[.p (.int .i64 ((h i).1)),.p (.int .i64 ((h i).2.1))])),(AN 1),(NL p.2.1.1 p.2.1.1),(AA p.2.1.1 (fun i=>[.p (.int .i64 (p.2.1.2 i))])),(AE n),(AE p.2.1.1)] [0,1,0,2,0,3,4,5,6,0,2,0,0,2,0,7,8,9,8,10,11,12,13,14,15,16,17,18]):=by kernel_rfl
theorem zqSz (p:T_Pinned) :
    zT Tryz.f116 [rg 2,rg 2,rg 1,.head] [pinA p] [0,64] (SYs p 0 0 (fun _=>0)) =
    some (zf62,zD [(AI p.1.1),(AN p.1.2.1.1),(AP p.1.2.1.1 (fun i=>[.int .i64 ((p.1.2.1.2 i).1),.int .i64 ((p.1.2.1.2 i).2.1)])),(AN p.2.1.1),(AP p.2.1.1 (fun i=>[.int .i64 (p.2.1.2 i)])),(AN 0),((0:Int)=(↑0:Int)),((([AV.p (PV.int IntKind.i64 p.1.1),graphL p.1.2.1,inL p.2.1].length):Nat)=3),(NL 1 1),(AN 1),(NL 0 0),(AA 0 (fun i=>[.p (.int .i64 0)]))] [0,1,2,3,4,5,5,5,6,7,8,8,0,1,2,3,4,9,10,11]):=by kernel_rfl
theorem zqSa (p:T_Pinned) (v n m:Nat) (h:Nat→Int) (r:Nat→T_Bar) (b1 b2:Bool) :
    zM 0 [rm [(7,oc [] (.p (.bool true)))] 1,.dec true,rm [(1,oc [(0,brOb m r)] (.agg [.p (.int .i64 p.1.1),.ar 2 0 0 m]))] 2,rm [(6,oc [] (.p (.bool b1))),(7,oc [] (.p (.bool b2)))] 1,.dec true,rg 5,rg 3,.head] zf62 (SYs p v n h) [0,1026] 1 (SYs p (v+1) (n+1) (snI n h v)) =
    some (zf62,zD [(NT 0 1),(((decide ((↑v:Int)<p.1.1))=true)→(NT 0 1)),(AG (decide ((↑v:Int)<p.1.1))),(((decide ((↑v:Int)<p.1.1))=true)→ zE 77 [(zf25 p)] [] (.p (.bool true))),((bif decide ((↑v:Int)<p.1.1) then true else false)=true),zE 165 [(zf25 p)] (zf113 m r) (.agg [.p (.int .i64 p.1.1),.ar 2 0 0 m]),((true=true)→ (AN 1)),(IL 0 0),(IT 0 (↑p.2.1.1:Int)),(AN 2),(NL m m),zE 166 [(zf106 p m r),.p (.int .i64 (p.2.1.2 0)),.p (.int .i64 (↑v:Int))] [] (.p (.bool b1)),((b1=true)→(NT 0 1)),(AG b1),((b1=true)→(IL 0 1)),((b1=true)→(IT 1 (↑p.2.1.1:Int))),((b1=true)→ (AN 2)),((b1=true)→(NL m m)),((b1=true)→ zE 166 [(zf106 p m r),.p (.int .i64 (p.2.1.2 1)),.p (.int .i64 (↑v:Int))] [] (.p (.bool b2))),((bif b1 then b2 else false)=true),(NL 1 1),(NL n n),(NL ((n+1)*8) 140737488355328),(NL (n+1) 9223372036854775807),(ZLo ((↑v:Int)+1)),(ZHi ((↑v:Int)+1)),(AI p.1.1),(AN p.1.2.1.1),(AP p.1.2.1.1 (fun i=>[.int .i64 ((p.1.2.1.2 i).1),.int .i64 ((p.1.2.1.2 i).2.1)])),(AN p.2.1.1),(AP p.2.1.1 (fun i=>[.int .i64 (p.2.1.2 i)])),(AN 0),(AN ((n+1))),((((↑v:Int)+1):Int)=(↑(v+1):Int)),(AN 3),(AN 1),(NL (n+1) (n+1)),(CV [(1026,⟨false,1,(n+1),(fun i_1=>(if (i_1<n) then [.p (.int .i64 (h i_1))] else [.p (.int .i64 (↑v:Int))]))⟩),(994,⟨false,1,1,(fun i_1=>[.p (.int .i64 (↑v:Int))])⟩),(354,⟨true,2,1,(fun i_1=>[.p (.int .i64 p.1.1),.ar 2 322 0 m])⟩),(322,⟨false,2,m,(fun i_1=>[.p (.int .i64 ((r i_1).1)),.p (.int .i64 ((r i_1).2.1))])⟩),(0,⟨true,3,1,(fun i_1=>[.p (.int .i64 p.1.1),.p (.seq true 2 p.1.2.1.1 (fun i_2=>[.int .i64 ((p.1.2.1.2 i_2).1),.int .i64 ((p.1.2.1.2 i_2).2.1)])),.p (.seq true 1 p.2.1.1 (fun i_2=>[.int .i64 (p.2.1.2 i_2)]))])⟩)] [0,1026] 1 (n+1) (fun i=>if (i<n) then [.p (.int .i64 (h i))] else [.p (.int .i64 (↑v:Int))]) (fun i=>[.p (.int .i64 (snI n h (↑v:Int) i))]))] [0,1,2,3,2,4,0,5,0,6,0,0,7,8,9,10,11,12,13,12,13,14,15,13,13,13,13,16,17,18,13,19,20,21,22,23,24,25,26,27,28,29,30,31,31,32,33,34,20,20,26,27,28,29,30,35,36,37]):=by kernel_rfl
theorem zqSb (p:T_Pinned) (v n m:Nat) (h:Nat→Int) (r:Nat→T_Bar) (b1 b2:Bool) :
    zM 0 [rm [(7,oc [] (.p (.bool true)))] 1,.dec true,rm [(1,oc [(0,brOb m r)] (.agg [.p (.int .i64 p.1.1),.ar 2 0 0 m]))] 2,rm [(6,oc [] (.p (.bool b1))),(7,oc [] (.p (.bool b2)))] 1,.dec false,rg 3,.head] zf62 (SYs p v n h) [0,1] 1 (SYs p (v+1) n h) =
    some (zf62,zD [(NT 0 1),(((decide ((↑v:Int)<p.1.1))=true)→(NT 0 1)),(AG (decide ((↑v:Int)<p.1.1))),(((decide ((↑v:Int)<p.1.1))=true)→ zE 77 [(zf25 p)] [] (.p (.bool true))),((bif decide ((↑v:Int)<p.1.1) then true else false)=true),zE 165 [(zf25 p)] (zf113 m r) (.agg [.p (.int .i64 p.1.1),.ar 2 0 0 m]),((true=true)→ (AN 1)),(IL 0 0),(IT 0 (↑p.2.1.1:Int)),(AN 2),(NL m m),zE 166 [(zf106 p m r),.p (.int .i64 (p.2.1.2 0)),.p (.int .i64 (↑v:Int))] [] (.p (.bool b1)),((b1=true)→(NT 0 1)),(AG b1),((b1=true)→(IL 0 1)),((b1=true)→(IT 1 (↑p.2.1.1:Int))),((b1=true)→ (AN 2)),((b1=true)→(NL m m)),((b1=true)→ zE 166 [(zf106 p m r),.p (.int .i64 (p.2.1.2 1)),.p (.int .i64 (↑v:Int))] [] (.p (.bool b2))),((bif b1 then b2 else false)=false),(ZLo ((↑v:Int)+1)),(ZHi ((↑v:Int)+1)),(AI p.1.1),(AN p.1.2.1.1),(AP p.1.2.1.1 (fun i=>[.int .i64 ((p.1.2.1.2 i).1),.int .i64 ((p.1.2.1.2 i).2.1)])),(AN p.2.1.1),(AP p.2.1.1 (fun i=>[.int .i64 (p.2.1.2 i)])),(AN 0),(AN n),((((↑v:Int)+1):Int)=(↑(v+1):Int)),(AN 3),(NL 1 1),(AN 1),(NL n n),(AA n (fun i=>[.p (.int .i64 (h i))]))] [0,1,2,3,2,4,0,5,0,6,0,0,7,8,9,10,11,12,13,12,13,14,15,13,13,13,13,16,17,18,13,19,20,21,22,23,24,25,26,27,27,28,29,30,31,31,22,23,24,25,26,32,33,34]):=by kernel_rfl
theorem zqSe (p:T_Pinned) (v n:Nat) (h:Nat→Int) (b:Bool) :
    zP Tryz.f116 0 [rm [(7,oc [] (.p (.bool b)))] 1,.dec false,rg 2] zf62 (SYs p v n h) [1] 1 [(0,iOb n h)] (.ar 1 0 0 n) =
    some [(NT 0 1),(((decide ((↑v:Int)<p.1.1))=true)→(NT 0 1)),(AG (decide ((↑v:Int)<p.1.1))),(((decide ((↑v:Int)<p.1.1))=true)→ zE 77 [(zf25 p)] [] (.p (.bool b))),(AG (decide ((↑v:Int)<p.1.1))),((bif decide ((↑v:Int)<p.1.1) then b else false)=false),(AN 0),(AN n),(AN 1),(NL n n),(AA n (fun i=>[.p (.int .i64 (h i))])),(AE n)]:=by kernel_rfl
theorem zqIn (p:T_Pinned) :
    zS Tryz.f112 [rg 2,rg 2,rm [(1,oc [] (.p (.bool false)))] 1,.dec true,rg 2] [pinA p] [64] [(0,iOb 0 (fun _=>0))] (.ar 1 0 0 0) =
    some [(NT 0 1),zE 73 [(zf25 p)] [] (.p (.bool false)),((!false)=true),(AN 0),(AN 0),(AN 1),(NL 0 0),(AA 0 (fun i=>[.p (.int .i64 0)])),(AE 0)]:=by kernel_rfl
theorem zqIz (p:T_Pinned) (n m:Nat) (h r:Nat→T_Bar) :
    zT Tryz.f112 [rg 2,rg 2,rm [(1,oc [] (.p (.bool true)))] 1,.dec false,rm [(1,oc [(0,brOb n h)] (.ar 2 0 0 n))] 5,rg 4,.head] [pinA p] [0,64,384] (SYi p 0 0 m (fun _=>0) r) =
    some (zf33,zD [(NT 0 1),zE 73 [(zf25 p)] [] (.p (.bool true)),((!true)=false),zE 162 [(zf25 p)] (zf113 n h) (.ar 2 0 0 n),(NL n n),(NL ((n+p.1.2.1.1)*16) 140737488355328),(NL (n+p.1.2.1.1) 9223372036854775807),(AI p.1.1),(AN p.1.2.1.1),(AP p.1.2.1.1 (fun i=>[.int .i64 ((p.1.2.1.2 i).1),.int .i64 ((p.1.2.1.2 i).2.1)])),(AN p.2.1.1),(AP p.2.1.1 (fun i=>[.int .i64 (p.2.1.2 i)])),(AN 0),(((n+p.1.2.1.1):Nat)=m),((0:Int)=(↑0:Int)),((([AV.p (PV.int IntKind.i64 p.1.1),graphL p.1.2.1,inL p.2.1].length):Nat)=3),(NL 1 1),(AN 1),(NL 0 0),(AA 0 (fun i=>[.p (.int .i64 0)])),(AN 2),(NL m (n+p.1.2.1.1)),(CV [(384,⟨false,2,(n+p.1.2.1.1),(fun i_1=>(if (i_1<n) then [.p (.int .i64 ((h i_1).1)),.p (.int .i64 ((h i_1).2.1))] else [.p (.int .i64 ((p.1.2.1.2 (i_1 - n)).1)),.p (.int .i64 ((p.1.2.1.2 (i_1 - n)).2.1))]))⟩),(64,⟨false,1,0,(fun i_1=>[.p (.int .i64 0)])⟩),(0,⟨true,3,1,(fun i_1=>[.p (.int .i64 p.1.1),.p (.seq true 2 p.1.2.1.1 (fun i_2=>[.int .i64 ((p.1.2.1.2 i_2).1),.int .i64 ((p.1.2.1.2 i_2).2.1)])),.p (.seq true 1 p.2.1.1 (fun i_2=>[.int .i64 (p.2.1.2 i_2)]))])⟩)] [0,64,384] 1 m (fun i=>if (i<n) then [.p (.int .i64 ((h i).1)),.p (.int .i64 ((h i).2.1))] else [.p (.int .i64 ((p.1.2.1.2 (i - n)).1)),.p (.int .i64 ((p.1.2.1.2 (i - n)).2.1))]) (fun i=>[.p (.int .i64 ((r i).1)),.p (.int .i64 ((r i).2.1))]))] [0,1,2,0,3,0,4,5,6,0,7,8,9,10,11,12,12,12,12,13,7,14,15,16,16,7,8,9,10,11,17,18,19,20,21,22]):=by kernel_rfl
theorem zqIo (p:T_Pinned) (v n m:Nat) (h:Nat→Int) (r:Nat→T_Bar) :
    zM 0 [rg 1,.dec true,rg 2,rg 1,rg 4,.head] zf33 (SYi p v n m h r) [0,1,2] 1 (SYj p v 0 n m h r true) =
    some (zf5,zD [((decide ((↑v:Int)<p.1.1))=true),(NT 0 1),(AI p.1.1),(AN p.1.2.1.1),(AP p.1.2.1.1 (fun i=>[.int .i64 ((p.1.2.1.2 i).1),.int .i64 ((p.1.2.1.2 i).2.1)])),(AN p.2.1.1),(AP p.2.1.1 (fun i=>[.int .i64 (p.2.1.2 i)])),(AN 0),(AN n),(AN m),(AI ((↑v:Int))),(true=true),(AI ((↑p.2.1.1:Int))),((0:Int)=(↑0:Int)),(AN 3),(NL 1 1),(AN 1),(NL n n),(AA n (fun i=>[.p (.int .i64 (h i))])),(AN 2),(NL m m),(AA m (fun i=>[.p (.int .i64 ((r i).1)),.p (.int .i64 ((r i).2.1))]))] [0,1,2,3,4,5,6,7,7,8,7,9,10,11,2,10,5,6,12,13,14,15,15,2,3,4,5,6,16,17,18,19,20,21]):=by kernel_rfl
theorem zqIi (p:T_Pinned) (v j n m:Nat) (h:Nat→Int) (r:Nat→T_Bar) (b q:Bool) (x:T_Bar) :
    zM 0 [rg 1,.dec true,rg 3,rm [(12,oc [] (.agg [.p (.int .i64 x.1),.p (.int .i64 x.2.1)])),(0,oc [] (.p (.bool q)))] 4,rg 2,.head] zf5 (SYj p v j n m h r b) [0,1,2] 1 (SYj p v (j+1) n m h r (bif b then (bif p.2.1.2 j==(v:Int) then true else !q) else false)) =
    some (zf5,zD [((decide ((↑j:Int)<(↑p.2.1.1:Int)))=true),(IL 0 (↑j:Int)),(IT (↑j:Int) (↑p.2.1.1:Int)),(AG b),(AG (b&&!p.2.1.2 j==(↑v:Int))),(((b&&!p.2.1.2 j==(↑v:Int))=true)→(NT 0 1)),(((b&&!p.2.1.2 j==(↑v:Int))=true)→ zE 106 [.p (.int .i64 (p.2.1.2 j)),.p (.int .i64 (↑v:Int))] [] (.agg [.p (.int .i64 x.1),.p (.int .i64 x.2.1)])),(((b&&!p.2.1.2 j==(↑v:Int))=true)→ (AN 2)),(((b&&!p.2.1.2 j==(↑v:Int))=true)→(NL m m)),(((b&&!p.2.1.2 j==(↑v:Int))=true)→ zE 163 [.p (.int .i64 p.1.1),.p (.seq true 2 m (bRw r)),.agg [.p (.int .i64 x.1),.p (.int .i64 x.2.1)]] [] (.p (.bool q))),((b=true)→(((p.2.1.2 j==(↑v:Int))=false)→ ((b&&!p.2.1.2 j==(↑v:Int))=true))),(ZLo ((↑j:Int)+1)),(ZHi ((↑j:Int)+1)),(AI p.1.1),(AN p.1.2.1.1),(AP p.1.2.1.1 (fun i=>[.int .i64 ((p.1.2.1.2 i).1),.int .i64 ((p.1.2.1.2 i).2.1)])),(AN p.2.1.1),(AP p.2.1.1 (fun i=>[.int .i64 (p.2.1.2 i)])),(AN 0),(AN n),(AN m),(AI ((↑v:Int))),((bif b then bif p.2.1.2 j==(↑v:Int) then true else !q else false)=(bif b then bif p.2.1.2 j==(↑v:Int) then true else !q else false)),(AI ((↑p.2.1.1:Int))),((((↑j:Int)+1):Int)=(↑(j+1):Int)),(AN 3),(NL 1 1),(AN 1),(NL n n),(AA n (fun i=>[.p (.int .i64 (h i))])),(AN 2),(NL m m),(AA m (fun i=>[.p (.int .i64 ((r i).1)),.p (.int .i64 ((r i).2.1))]))] [0,1,2,3,3,3,4,4,5,4,4,6,4,4,4,7,8,9,4,3,10,3,11,12,13,14,15,16,17,18,18,19,18,20,21,22,13,21,16,17,23,24,25,26,26,13,14,15,16,17,27,28,29,30,31,32]):=by kernel_rfl
theorem zqIt (p:T_Pinned) (v j n m:Nat) (h:Nat→Int) (r:Nat→T_Bar) (b:Bool) :
    zM 0 [rg 1,.dec false,rg 1,.dec true,rg 5,rg 2,.head] zf5 (SYj p v j n m h r b) [0,163,2] 1 (SYi p (v+1) (n+1) m (snI n h v) r) =
    some (zf33,zD [((decide ((↑j:Int)<(↑p.2.1.1:Int)))=false),(b=true),(NL 1 1),(NL n n),(NL ((n+1)*8) 140737488355328),(NL (n+1) 9223372036854775807),(ZLo ((↑v:Int)+1)),(ZHi ((↑v:Int)+1)),(AI p.1.1),(AN p.1.2.1.1),(AP p.1.2.1.1 (fun i=>[.int .i64 ((p.1.2.1.2 i).1),.int .i64 ((p.1.2.1.2 i).2.1)])),(AN p.2.1.1),(AP p.2.1.1 (fun i=>[.int .i64 (p.2.1.2 i)])),(AN 0),(AN ((n+1))),(AN m),((((↑v:Int)+1):Int)=(↑(v+1):Int)),(AN 3),(AN 1),(NL (n+1) (n+1)),(CV [(163,⟨false,1,(n+1),(fun i_1=>(if (i_1<n) then [.p (.int .i64 (h i_1))] else [.p (.int .i64 (↑v:Int))]))⟩),(131,⟨false,1,1,(fun i_1=>[.p (.int .i64 (↑v:Int))])⟩),(0,⟨true,3,1,(fun i_1=>[.p (.int .i64 p.1.1),.p (.seq true 2 p.1.2.1.1 (fun i_2=>[.int .i64 ((p.1.2.1.2 i_2).1),.int .i64 ((p.1.2.1.2 i_2).2.1)])),.p (.seq true 1 p.2.1.1 (fun i_2=>[.int .i64 (p.2.1.2 i_2)]))])⟩),(2,⟨false,2,m,(fun i_1=>[.p (.int .i64 ((r i_1).1)),.p (.int .i64 ((r i_1).2.1))])⟩)] [0,163,2] 1 (n+1) (fun i=>if (i<n) then [.p (.int .i64 (h i))] else [.p (.int .i64 (↑v:Int))]) (fun i=>[.p (.int .i64 (snI n h (↑v:Int) i))])),(AN 2),(NL m m),(AA m (fun i=>[.p (.int .i64 ((r i).1)),.p (.int .i64 ((r i).2.1))]))] [0,1,2,3,4,5,6,7,8,9,10,11,12,13,13,14,13,15,8,16,17,2,2,8,9,10,11,12,18,19,20,21,22,23]):=by kernel_rfl
theorem zqIf (p:T_Pinned) (v j n m:Nat) (h:Nat→Int) (r:Nat→T_Bar) (b:Bool) :
    zM 0 [rg 1,.dec false,rg 1,.dec false,rg 2,.head] zf5 (SYj p v j n m h r b) [0,1,2] 1 (SYi p (v+1) n m h r) =
    some (zf33,zD [((decide ((↑j:Int)<(↑p.2.1.1:Int)))=false),(b=false),(ZLo ((↑v:Int)+1)),(ZHi ((↑v:Int)+1)),(AI p.1.1),(AN p.1.2.1.1),(AP p.1.2.1.1 (fun i=>[.int .i64 ((p.1.2.1.2 i).1),.int .i64 ((p.1.2.1.2 i).2.1)])),(AN p.2.1.1),(AP p.2.1.1 (fun i=>[.int .i64 (p.2.1.2 i)])),(AN 0),(AN n),(AN m),((((↑v:Int)+1):Int)=(↑(v+1):Int)),(AN 3),(NL 1 1),(AN 1),(NL n n),(AA n (fun i=>[.p (.int .i64 (h i))])),(AN 2),(NL m m),(AA m (fun i=>[.p (.int .i64 ((r i).1)),.p (.int .i64 ((r i).2.1))]))] [0,1,2,3,4,5,6,7,8,9,9,10,9,11,4,12,13,14,14,4,5,6,7,8,15,16,17,18,19,20]):=by kernel_rfl
theorem zqIe (p:T_Pinned) (v n m:Nat) (h:Nat→Int) (r:Nat→T_Bar) :
    zP Tryz.f112 0 [rg 1,.dec false,rg 2] zf33 (SYi p v n m h r) [1] 1 [(0,iOb n h)] (.ar 1 0 0 n) =
    some [((decide ((↑v:Int)<p.1.1))=false),(AN 0),(AN n),(AN 1),(NL n n),(AA n (fun i=>[.p (.int .i64 (h i))])),(AE n)]:=by kernel_rfl
theorem zqFz (p:T_Pinned) (e a b nb:Nat) (r s:Nat→Int) (g:Nat→T_Bar) :
    zT Tryz.f164 [rg 2,rg 2,rm [(1,oc [] (.p (.bool true))),(8,oc [] (.p (.bool true)))] 2,.dec false,rm [(2,oc [(0,brOb nb g),(1,iOb p.2.1.1 p.2.1.2)] (.agg [.p (.int .i64 p.1.1),.ar 2 0 0 nb,.ar 1 1 0 p.2.1.1])),(0,oc [(0,iOb a r)] (.ar 1 0 0 a))] 1,rm [(1,oc [(0,iOb b s)] (.ar 1 0 0 b))] 2,.head] [pinA p,.p (.int .i64 e)] [0,64,640,736] (SYf p e 0 0 a b (fun _=>0) r s) =
    some (zf34,zD [(NT 0 1),zE 73 [(zf25 p)] [] (.p (.bool true)),(AG (!!true)),(((!!true)=true)→(NT 0 1)),(((!!true)=true)→(ZLo ((↑p.1.2.1.1:Int) - 1))),(((!!true)=true)→(ZHi ((↑p.1.2.1.1:Int) - 1))),(((!!true)=true)→ zE 90 [.p (.int .i64 (↑e:Int)),.p (.int .i64 0),.p (.int .i64 ((↑p.1.2.1.1:Int) - 1))] [] (.p (.bool true))),(((!true)=false)→ ((!!true)=true)),((bif !true then true else !true)=false),zE 107 [(zf25 p),.p (.int .i64 (↑e:Int))] [(0,⟨false,2,nb,(fun i=>[.p (.int .i64 ((g i).1)),.p (.int .i64 ((g i).2.1))])⟩),(1,⟨false,1,p.2.1.1,(fun i=>[.p (.int .i64 (p.2.1.2 i))])⟩)] (.agg [.p (.int .i64 p.1.1),.ar 2 0 0 nb,.ar 1 1 0 p.2.1.1]),(AN 2),(NL nb nb),(AN 1),(NL p.2.1.1 p.2.1.1),zE 112 [.agg [.p (.int .i64 p.1.1),.p (.seq true 2 nb (bRw g)),.p (.seq true 1 p.2.1.1 (fun i=>[.int .i64 (p.2.1.2 i)]))]] [(0,⟨false,1,a,(fun i=>[.p (.int .i64 (r i))])⟩)] (.ar 1 0 0 a),zE 112 [(zf25 p)] [(0,⟨false,1,b,(fun i=>[.p (.int .i64 (s i))])⟩)] (.ar 1 0 0 b),(AI p.1.1),(AN p.1.2.1.1),(AP p.1.2.1.1 (fun i=>[.int .i64 ((p.1.2.1.2 i).1),.int .i64 ((p.1.2.1.2 i).2.1)])),(AN p.2.1.1),(AP p.2.1.1 (fun i=>[.int .i64 (p.2.1.2 i)])),(AI ((↑e:Int))),(AN 0),(AN a),(AN b),(AI ((↑b:Int))),((0:Int)=(↑0:Int)),((([AV.p (PV.int IntKind.i64 p.1.1),graphL p.1.2.1,inL p.2.1].length):Nat)=3),(NL 1 1),(NL 0 0),(AA 0 (fun i=>[.p (.int .i64 0)])),(NL a a),(AA a (fun i=>[.p (.int .i64 (r i))])),(NL b b),(AA b (fun i=>[.p (.int .i64 (s i))]))] [0,1,2,2,3,2,2,4,5,2,2,6,2,7,8,0,9,10,11,12,13,14,0,15,16,17,18,19,20,21,22,22,22,22,23,22,24,25,26,27,28,28,16,17,18,19,20,12,29,30,12,31,32,12,33,34]):=by kernel_rfl
theorem zqFa (p:T_Pinned) (e k n a b:Nat) (h r s:Nat→Int) :
    zM 0 [rg 1,.dec true,rg 3,rm [(2,oc [] (.p (.bool false)))] 1,.dec true,rg 5,rg 2,.head] zf34 (SYf p e k n a b h r s) [0,356,2,3] 1 (SYf p e (k+1) (n+1) a b (snI n h (s k)) r s) =
    some (zf34,zD [((decide ((↑k:Int)<(↑b:Int)))=true),(IL 0 (↑k:Int)),(IT (↑k:Int) (↑b:Int)),(NT k b),(AN 1),(NL a a),zE 144 [.p (.seq true 1 a (fun i=>[.int .i64 (r i)])),.p (.int .i64 (s k))] [] (.p (.bool false)),((!false)=true),(NL 1 1),(NL n n),(NL ((n+1)*8) 140737488355328),(NL (n+1) 9223372036854775807),(ZLo ((↑k:Int)+1)),(ZHi ((↑k:Int)+1)),(AI p.1.1),(AN p.1.2.1.1),(AP p.1.2.1.1 (fun i=>[.int .i64 ((p.1.2.1.2 i).1),.int .i64 ((p.1.2.1.2 i).2.1)])),(AN p.2.1.1),(AP p.2.1.1 (fun i=>[.int .i64 (p.2.1.2 i)])),(AI ((↑e:Int))),(AN 0),(AN ((n+1))),(AN a),(AN b),(AI ((↑b:Int))),((((↑k:Int)+1):Int)=(↑(k+1):Int)),(AN 3),(NL (n+1) (n+1)),(CV [(356,⟨false,1,(n+1),(fun i_1=>(if (i_1<n) then [.p (.int .i64 (h i_1))] else [.p (.int .i64 (s k))]))⟩),(324,⟨false,1,1,(fun i_1=>[.p (.int .i64 (s k))])⟩),(0,⟨true,3,1,(fun i_1=>[.p (.int .i64 p.1.1),.p (.seq true 2 p.1.2.1.1 (fun i_2=>[.int .i64 ((p.1.2.1.2 i_2).1),.int .i64 ((p.1.2.1.2 i_2).2.1)])),.p (.seq true 1 p.2.1.1 (fun i_2=>[.int .i64 (p.2.1.2 i_2)]))])⟩),(2,⟨false,1,a,(fun i_1=>[.p (.int .i64 (r i_1))])⟩),(3,⟨false,1,b,(fun i_1=>[.p (.int .i64 (s i_1))])⟩)] [0,356,2,3] 1 (n+1) (fun i=>if (i<n) then [.p (.int .i64 (h i))] else [.p (.int .i64 (s k))]) (fun i=>[.p (.int .i64 (snI n h (s k) i))])),(AA a (fun i=>[.p (.int .i64 (r i))])),(NL b b),(AA b (fun i=>[.p (.int .i64 (s i))]))] [0,1,2,3,4,5,6,7,8,9,10,11,12,13,14,15,16,17,18,19,20,20,21,20,22,20,23,24,25,26,8,8,14,15,16,17,18,4,27,28,4,5,29,4,30,31]):=by kernel_rfl
theorem zqFb (p:T_Pinned) (e k n a b:Nat) (h r s:Nat→Int) :
    zM 0 [rg 1,.dec true,rg 3,rm [(2,oc [] (.p (.bool true)))] 1,.dec false,rg 2,.head] zf34 (SYf p e k n a b h r s) [0,1,2,3] 1 (SYf p e (k+1) n a b h r s) =
    some (zf34,zD [((decide ((↑k:Int)<(↑b:Int)))=true),(IL 0 (↑k:Int)),(IT (↑k:Int) (↑b:Int)),(NT k b),(AN 1),(NL a a),zE 144 [.p (.seq true 1 a (fun i=>[.int .i64 (r i)])),.p (.int .i64 (s k))] [] (.p (.bool true)),((!true)=false),(ZLo ((↑k:Int)+1)),(ZHi ((↑k:Int)+1)),(AI p.1.1),(AN p.1.2.1.1),(AP p.1.2.1.1 (fun i=>[.int .i64 ((p.1.2.1.2 i).1),.int .i64 ((p.1.2.1.2 i).2.1)])),(AN p.2.1.1),(AP p.2.1.1 (fun i=>[.int .i64 (p.2.1.2 i)])),(AI ((↑e:Int))),(AN 0),(AN n),(AN a),(AN b),(AI ((↑b:Int))),((((↑k:Int)+1):Int)=(↑(k+1):Int)),(AN 3),(NL 1 1),(NL n n),(AA n (fun i=>[.p (.int .i64 (h i))])),(AA a (fun i=>[.p (.int .i64 (r i))])),(NL b b),(AA b (fun i=>[.p (.int .i64 (s i))]))] [0,1,2,3,4,5,6,7,8,9,10,11,12,13,14,15,16,16,17,16,18,16,19,20,21,22,23,23,10,11,12,13,14,4,24,25,4,5,26,4,27,28]):=by kernel_rfl
theorem zqFe (p:T_Pinned) (e k n a b:Nat) (h r s:Nat→Int) :
    zP Tryz.f164 0 [rg 1,.dec false,rg 2] zf34 (SYf p e k n a b h r s) [1] 1 [(0,iOb n h)] (.ar 1 0 0 n) =
    some [((decide ((↑k:Int)<(↑b:Int)))=false),(AN 0),(AN n),(AN 1),(NL n n),(AA n (fun i=>[.p (.int .i64 (h i))])),(AE n)]:=by kernel_rfl
theorem zqGz (p:T_Pinned) (e a b nb:Nat) (r s:Nat→Int) (g:Nat→T_Bar) :
    zT Tryz.f167 [rg 2,rg 2,rm [(1,oc [] (.p (.bool true)))] 13,.dec false,rm [(1,oc [(0,iOb b s)] (.ar 1 0 0 b))] 1,rm [(2,oc [(0,brOb nb g),(1,iOb p.2.1.1 p.2.1.2)] (.agg [.p (.int .i64 p.1.1),.ar 2 0 0 nb,.ar 1 1 0 p.2.1.1])),(0,oc [(0,iOb a r)] (.ar 1 0 0 a))] 1,rg 1,.head] [pinA p,.p (.int .i64 e)] [0,64,800,640] (SYg p e 0 0 a b (fun _=>0) r s) =
    some (zf29,zD [(NT 0 1),zE 77 [(zf25 p)] [] (.p (.bool true)),(AG (!!true)),(((!true)=false)→ ((!!true)=true)),(AG (!bif !true then true else decide ((↑e:Int)<0))),(((!bif !true then true else decide ((↑e:Int)<0))=true)→(NT 0 1)),(((bif !true then true else decide ((↑e:Int)<0))=false)→ ((!bif !true then true else decide ((↑e:Int)<0))=true)),((bif bif !true then true else decide ((↑e:Int)<0) then true else decide ((↑e:Int)≥(↑p.1.2.1.1:Int)))=false),zE 116 [(zf25 p)] [(0,⟨false,1,b,(fun i=>[.p (.int .i64 (s i))])⟩)] (.ar 1 0 0 b),zE 110 [(zf25 p),.p (.int .i64 (↑e:Int))] [(0,⟨false,2,nb,(fun i=>[.p (.int .i64 ((g i).1)),.p (.int .i64 ((g i).2.1))])⟩),(1,⟨false,1,p.2.1.1,(fun i=>[.p (.int .i64 (p.2.1.2 i))])⟩)] (.agg [.p (.int .i64 p.1.1),.ar 2 0 0 nb,.ar 1 1 0 p.2.1.1]),(AN 2),(NL nb nb),(AN 1),(NL p.2.1.1 p.2.1.1),zE 116 [.agg [.p (.int .i64 p.1.1),.p (.seq true 2 nb (bRw g)),.p (.seq true 1 p.2.1.1 (fun i=>[.int .i64 (p.2.1.2 i)]))]] [(0,⟨false,1,a,(fun i=>[.p (.int .i64 (r i))])⟩)] (.ar 1 0 0 a),(AI p.1.1),(AN p.1.2.1.1),(AP p.1.2.1.1 (fun i=>[.int .i64 ((p.1.2.1.2 i).1),.int .i64 ((p.1.2.1.2 i).2.1)])),(AN p.2.1.1),(AP p.2.1.1 (fun i=>[.int .i64 (p.2.1.2 i)])),(AI ((↑e:Int))),(AN 0),(AN b),(AN a),((0:Int)=(↑0:Int)),((([AV.p (PV.int IntKind.i64 p.1.1),graphL p.1.2.1,inL p.2.1].length):Nat)=3),(NL 1 1),(NL 0 0),(AA 0 (fun i=>[.p (.int .i64 0)])),(NL a a),(AA a (fun i=>[.p (.int .i64 (r i))])),(NL b b),(AA b (fun i=>[.p (.int .i64 (s i))]))] [0,1,2,3,4,4,5,4,4,4,6,7,0,8,0,9,10,11,12,13,14,15,16,17,18,19,20,21,21,21,21,22,21,23,24,25,26,26,15,16,17,18,19,12,27,28,12,29,30,12,31,32]):=by kernel_rfl
theorem zqGa (p:T_Pinned) (e k n a b:Nat) (h r s:Nat→Int) :
    zM 0 [rg 4,.dec true,rm [(5,oc [] (.p (.bool false)))] 1,.dec true,rg 8,rg 3,.head] zf29 (SYg p e k n a b h r s) [0,548,2,3] 1 (SYg p e (k+1) (n+1) a b (snI n h (s k)) r s) =
    some (zf29,zD [((decide ((↑k:Int)<(↑b:Int)))=true),(IL 0 (↑k:Int)),(IT (↑k:Int) (↑b:Int)),(NT k b),(AN 1),(NL a a),zE 92 [.p (.seq true 1 a (fun i=>[.int .i64 (r i)])),.p (.int .i64 (s k))] [] (.p (.bool false)),((!false)=true),(NL 1 1),(NL n n),(NL ((n+1)*8) 140737488355328),(NL (n+1) 9223372036854775807),(ZLo ((↑k:Int)+1)),(ZHi ((↑k:Int)+1)),(AI p.1.1),(AN p.1.2.1.1),(AP p.1.2.1.1 (fun i=>[.int .i64 ((p.1.2.1.2 i).1),.int .i64 ((p.1.2.1.2 i).2.1)])),(AN p.2.1.1),(AP p.2.1.1 (fun i=>[.int .i64 (p.2.1.2 i)])),(AI ((↑e:Int))),(AN 0),(AN ((n+1))),(AN b),(AN a),((((↑k:Int)+1):Int)=(↑(k+1):Int)),(AN 3),(NL (n+1) (n+1)),(CV [(548,⟨false,1,(n+1),(fun i_1=>(if (i_1<n) then [.p (.int .i64 (h i_1))] else [.p (.int .i64 (s k))]))⟩),(516,⟨false,1,1,(fun i_1=>[.p (.int .i64 (s k))])⟩),(0,⟨true,3,1,(fun i_1=>[.p (.int .i64 p.1.1),.p (.seq true 2 p.1.2.1.1 (fun i_2=>[.int .i64 ((p.1.2.1.2 i_2).1),.int .i64 ((p.1.2.1.2 i_2).2.1)])),.p (.seq true 1 p.2.1.1 (fun i_2=>[.int .i64 (p.2.1.2 i_2)]))])⟩),(2,⟨false,1,a,(fun i_1=>[.p (.int .i64 (r i_1))])⟩),(3,⟨false,1,b,(fun i_1=>[.p (.int .i64 (s i_1))])⟩)] [0,548,2,3] 1 (n+1) (fun i=>if (i<n) then [.p (.int .i64 (h i))] else [.p (.int .i64 (s k))]) (fun i=>[.p (.int .i64 (snI n h (s k) i))])),(AA a (fun i=>[.p (.int .i64 (r i))])),(NL b b),(AA b (fun i=>[.p (.int .i64 (s i))]))] [0,1,2,3,4,5,6,7,1,2,3,8,9,10,11,12,13,14,15,16,17,18,19,20,20,21,20,22,20,23,24,25,8,8,14,15,16,17,18,4,26,27,4,5,28,4,29,30]):=by kernel_rfl
theorem zqGb (p:T_Pinned) (e k n a b:Nat) (h r s:Nat→Int) :
    zM 0 [rg 4,.dec true,rm [(5,oc [] (.p (.bool true)))] 1,.dec false,rg 3,.head] zf29 (SYg p e k n a b h r s) [0,1,2,3] 1 (SYg p e (k+1) n a b h r s) =
    some (zf29,zD [((decide ((↑k:Int)<(↑b:Int)))=true),(IL 0 (↑k:Int)),(IT (↑k:Int) (↑b:Int)),(NT k b),(AN 1),(NL a a),zE 92 [.p (.seq true 1 a (fun i=>[.int .i64 (r i)])),.p (.int .i64 (s k))] [] (.p (.bool true)),((!true)=false),(ZLo ((↑k:Int)+1)),(ZHi ((↑k:Int)+1)),(AI p.1.1),(AN p.1.2.1.1),(AP p.1.2.1.1 (fun i=>[.int .i64 ((p.1.2.1.2 i).1),.int .i64 ((p.1.2.1.2 i).2.1)])),(AN p.2.1.1),(AP p.2.1.1 (fun i=>[.int .i64 (p.2.1.2 i)])),(AI ((↑e:Int))),(AN 0),(AN n),(AN b),(AN a),((((↑k:Int)+1):Int)=(↑(k+1):Int)),(AN 3),(NL 1 1),(NL n n),(AA n (fun i=>[.p (.int .i64 (h i))])),(AA a (fun i=>[.p (.int .i64 (r i))])),(NL b b),(AA b (fun i=>[.p (.int .i64 (s i))]))] [0,1,2,3,4,5,6,7,8,9,10,11,12,13,14,15,16,16,17,16,18,16,19,20,21,22,22,10,11,12,13,14,4,23,24,4,5,25,4,26,27]):=by kernel_rfl
theorem zqGe (p:T_Pinned) (e k n a b:Nat) (h r s:Nat→Int) :
    zP Tryz.f167 0 [rg 4,.dec false,rg 2] zf29 (SYg p e k n a b h r s) [1] 1 [(0,iOb n h)] (.ar 1 0 0 n) =
    some [((decide ((↑k:Int)<(↑b:Int)))=false),(AN 0),(AN n),(AN 1),(NL n n),(AA n (fun i=>[.p (.int .i64 (h i))])),(AE n)]:=by kernel_rfl
theorem zqWz (p:T_Pinned) :
    zT Tryz.f113 [rg 3,rg 2,rg 5,.head] [pinA p] [0] (SYw p 0 (-1) 0) =
    some (zf63,zD [(NT 0 1),(AI p.1.1),(AN p.1.2.1.1),(AP p.1.2.1.1 (fun i=>[.int .i64 ((p.1.2.1.2 i).1),.int .i64 ((p.1.2.1.2 i).2.1)])),(AN p.2.1.1),(AP p.2.1.1 (fun i=>[.int .i64 (p.2.1.2 i)])),(AN 0),(AI ((-1))),(AI 0),(AI ((↑p.1.2.1.1:Int))),((0:Int)=(↑0:Int)),((([AV.p (PV.int IntKind.i64 p.1.1),graphL p.1.2.1,inL p.2.1].length):Nat)=3),(NL 1 1)] [0,1,2,3,4,5,6,7,8,9,10,11,12,12,1,2,3,4,5]):=by kernel_rfl
theorem zqWa (p:T_Pinned) (k n:Nat) (w m:Int) (h:Nat→Int) :
    zM 0 [rg 1,.dec true,rg 2,rm [(2,oc [(0,iOb n h)] (.ar 1 0 0 n))] 2,rg 3,.dec true,rg 4,rg 2,.head] zf63 (SYw p k w m) [0] 1 (SYw p (k+1) k n) =
    some (zf63,zD [((decide ((↑k:Int)<(↑p.1.2.1.1:Int)))=true),(NT 0 1),zE 164 [(zf25 p),.p (.int .i64 (↑k:Int))] [(0,⟨false,1,n,(fun i=>[.p (.int .i64 (h i))])⟩)] (.ar 1 0 0 n),((decide ((↑n:Int)>m))=true),(ZLo ((↑k:Int)+1)),(ZHi ((↑k:Int)+1)),(AI p.1.1),(AN p.1.2.1.1),(AP p.1.2.1.1 (fun i=>[.int .i64 ((p.1.2.1.2 i).1),.int .i64 ((p.1.2.1.2 i).2.1)])),(AN p.2.1.1),(AP p.2.1.1 (fun i=>[.int .i64 (p.2.1.2 i)])),(AN 0),(AI ((↑k:Int))),(AI ((↑n:Int))),(AI ((↑p.1.2.1.1:Int))),((((↑k:Int)+1):Int)=(↑(k+1):Int)),(AN 3),(NL 1 1)] [0,1,2,3,4,5,6,7,8,9,10,11,12,13,14,15,16,17,17,6,7,8,9,10]):=by kernel_rfl
theorem zqWb (p:T_Pinned) (k n:Nat) (w m:Int) (h:Nat→Int) :
    zM 0 [rg 1,.dec true,rg 2,rm [(2,oc [(0,iOb n h)] (.ar 1 0 0 n))] 2,rg 3,.dec false,rg 2,.head] zf63 (SYw p k w m) [0] 1 (SYw p (k+1) w m) =
    some (zf63,zD [((decide ((↑k:Int)<(↑p.1.2.1.1:Int)))=true),(NT 0 1),zE 164 [(zf25 p),.p (.int .i64 (↑k:Int))] [(0,⟨false,1,n,(fun i=>[.p (.int .i64 (h i))])⟩)] (.ar 1 0 0 n),((decide ((↑n:Int)>m))=false),(ZLo ((↑k:Int)+1)),(ZHi ((↑k:Int)+1)),(AI p.1.1),(AN p.1.2.1.1),(AP p.1.2.1.1 (fun i=>[.int .i64 ((p.1.2.1.2 i).1),.int .i64 ((p.1.2.1.2 i).2.1)])),(AN p.2.1.1),(AP p.2.1.1 (fun i=>[.int .i64 (p.2.1.2 i)])),(AN 0),(AI w),(AI m),(AI ((↑p.1.2.1.1:Int))),((((↑k:Int)+1):Int)=(↑(k+1):Int)),(AN 3),(NL 1 1)] [0,1,2,3,4,5,6,7,8,9,10,11,12,13,14,15,16,17,17,6,7,8,9,10]):=by kernel_rfl
theorem zqWe (p:T_Pinned) (k:Nat) (w m:Int) :
    zP Tryz.f113 0 [rg 1,.dec false,rg 4] zf63 (SYw p k w m) [] 1 [] (.tup [.p (.int .i64 w),.p (.int .i64 m)]) =
    some [((decide ((↑k:Int)<(↑p.1.2.1.1:Int)))=false),(AI w),(AI m)]:=by kernel_rfl
theorem zqVz (p:T_Pinned) :
    zT Tryz.f117 [rg 3,rg 1,rg 1,rg 1,.head] [pinA p] [0] (SYv p 0 (-1) 0) =
    some (zf47,zD [(AI p.1.1),(AN p.1.2.1.1),(AP p.1.2.1.1 (fun i=>[.int .i64 ((p.1.2.1.2 i).1),.int .i64 ((p.1.2.1.2 i).2.1)])),(AN p.2.1.1),(AP p.2.1.1 (fun i=>[.int .i64 (p.2.1.2 i)])),(AN 0),(AI ((-1))),(AI 0),((0:Int)=(↑0:Int)),((([AV.p (PV.int IntKind.i64 p.1.1),graphL p.1.2.1,inL p.2.1].length):Nat)=3),(NL 1 1)] [0,1,2,3,4,5,6,7,8,9,10,10,0,1,2,3,4]):=by kernel_rfl
theorem zqVa (p:T_Pinned) (k n:Nat) (w m:Int) (h:Nat→Int) :
    zM 0 [rg 6,.dec true,rm [(2,oc [(0,iOb n h)] (.ar 1 0 0 n))] 2,rg 3,.dec true,rg 2,rg 2,rg 3,.head] zf47 (SYv p k w m) [0] 1 (SYv p (k+1) k n) =
    some (zf47,zD [(NT 0 1),((decide ((↑k:Int)<(↑p.1.2.1.1:Int)))=true),zE 167 [(zf25 p),.p (.int .i64 (↑k:Int))] [(0,⟨false,1,n,(fun i=>[.p (.int .i64 (h i))])⟩)] (.ar 1 0 0 n),((decide ((↑n:Int)>m))=true),(ZLo ((↑k:Int)+1)),(ZHi ((↑k:Int)+1)),(AI p.1.1),(AN p.1.2.1.1),(AP p.1.2.1.1 (fun i=>[.int .i64 ((p.1.2.1.2 i).1),.int .i64 ((p.1.2.1.2 i).2.1)])),(AN p.2.1.1),(AP p.2.1.1 (fun i=>[.int .i64 (p.2.1.2 i)])),(AN 0),(AI ((↑k:Int))),(AI ((↑n:Int))),((((↑k:Int)+1):Int)=(↑(k+1):Int)),(AN 3),(NL 1 1)] [0,1,0,2,3,4,5,6,7,8,9,10,11,12,13,14,15,16,16,6,7,8,9,10]):=by kernel_rfl
theorem zqVb (p:T_Pinned) (k n:Nat) (w m:Int) (h:Nat→Int) :
    zM 0 [rg 6,.dec true,rm [(2,oc [(0,iOb n h)] (.ar 1 0 0 n))] 2,rg 3,.dec false,rg 3,.head] zf47 (SYv p k w m) [0] 1 (SYv p (k+1) w m) =
    some (zf47,zD [(NT 0 1),((decide ((↑k:Int)<(↑p.1.2.1.1:Int)))=true),zE 167 [(zf25 p),.p (.int .i64 (↑k:Int))] [(0,⟨false,1,n,(fun i=>[.p (.int .i64 (h i))])⟩)] (.ar 1 0 0 n),((decide ((↑n:Int)>m))=false),(ZLo ((↑k:Int)+1)),(ZHi ((↑k:Int)+1)),(AI p.1.1),(AN p.1.2.1.1),(AP p.1.2.1.1 (fun i=>[.int .i64 ((p.1.2.1.2 i).1),.int .i64 ((p.1.2.1.2 i).2.1)])),(AN p.2.1.1),(AP p.2.1.1 (fun i=>[.int .i64 (p.2.1.2 i)])),(AN 0),(AI w),(AI m),((((↑k:Int)+1):Int)=(↑(k+1):Int)),(AN 3),(NL 1 1)] [0,1,0,2,3,4,5,6,7,8,9,10,11,12,13,14,15,16,16,6,7,8,9,10]):=by kernel_rfl
theorem zqVe (p:T_Pinned) (k:Nat) (w m:Int) :
    zP Tryz.f117 0 [rg 6,.dec false,rg 4] zf47 (SYv p k w m) [] 1 [] (.tup [.p (.int .i64 w),.p (.int .i64 m)]) =
    some [(NT 0 1),((decide ((↑k:Int)<(↑p.1.2.1.1:Int)))=false),(AI w),(AI m)]:=by kernel_rfl
noncomputable def sdB (p:T_Pinned) (v:Nat):Bool:=bif impB p.1.1.toNat (alS p).1 (alS p).2 (p.2.1.2 0) v then impB p.1.1.toNat (alS p).1 (alS p).2 (p.2.1.2 1) v else false
noncomputable def rsB (p:T_Pinned) (x:T_Bar):Bool:=decide (((accI p.1.1.toNat 2 3 (snoc (alC p).1 (alC p).2 x) ((alC p).1+1)).length:Int)>((accI p.1.1.toNat 2 3 (alC p).2 (alC p).1).length:Int))
noncomputable def sdI (p:T_Pinned) (v:Nat):Nat→Bool
  | 0=>true
  | j+1=>bif sdI p v j then (bif p.2.1.2 j==(v:Int) then true else !(rsB p (brX (p.2.1.2 j) v))) else false
theorem PinOk.raise {p:T_Pinned} (h:PinOk p) {u:Int} {v:Nat} (hu:0≤u∧u<p.1.1) (hv:(v:Int)<p.1.1) (hne:u≠v) :
    rsB p (brX u v)=false↔Mat.rk p.1.1.toNat (bL (alS p).2 (alS p).1++[(u.toNat,v)])=Mat.rk p.1.1.toNat (bL (alS p).2 (alS p).1):=by
  have hN:=h.N
  have hx:=brX_ok (N:=p.1.1.toNat) (a:=u) (b:=v) (by omega) (by omega) hne
  have e1:rkN p.1.1.toNat ((alC p).1+1,snoc (alC p).1 (alC p).2 (brX u v))=rkN p.1.1.toNat ((alS p).1+1,snoc (alS p).1 (alS p).2 (brX u v)):=by
    refine h.same (ok_snoc h.okAS hx) (ok_snoc h.okAC hx) (fun y hy=>?_) (fun y hy=>?_) (fun y hy=>?_)
    · show ∃ s,s<(alS p).1+1∧snoc (alS p).1 (alS p).2 (brX u v) s=y
      rw [snoc_mem]
      refine .inl ?_
      show mem (alS p) y
      rw [alS,aS_mem];exact .inl hy
    · show ∃ s,s<(alC p).1+1∧snoc (alC p).1 (alC p).2 (brX u v) s=y
      have hy':∃ s,s<(alS p).1+1∧snoc (alS p).1 (alS p).2 (brX u v) s=y:=hy
      rw [snoc_mem] at hy' ⊢
      rcases hy' with hy' | hy'
      · left
        have hm:mem (alS p) y:=hy'
        show mem (alC p) y
        rw [alS,aS_mem] at hm
        rw [alC,aC_mem]
        exact hm.imp (h.few y) id
      · exact .inr hy'
    · have hy':∃ s,s<(alC p).1+1∧snoc (alC p).1 (alC p).2 (brX u v) s=y:=hy
      show (∃ s,s<(alS p).1+1∧snoc (alS p).1 (alS p).2 (brX u v) s=y)∨_
      rw [snoc_mem] at hy' ⊢
      rcases hy' with hy' | hy'
      · have hm:mem (alC p) y:=hy'
        rw [alC,aC_mem] at hm
        rcases hm with hm | hm
        · exact .inr hm
        · refine .inl (.inl ?_)
          show mem (alS p) y
          rw [alS,aS_mem];exact .inr hm
      · exact .inl (.inr hy')
  have e2:=h.rkA
  have e3:=rk_brX (bL_good h.okAS) hne (show 0≤u∧u<(p.1.1.toNat:Nat) by omega) (show (0:Int)≤v∧(v:Int)<(p.1.1.toNat:Nat) by omega)
  rw [Int.toNat_natCast] at e3
  rw [← e3]
  have e4:=rkN_rk p.1.1.toNat (alS p)
  have e5:rkN p.1.1.toNat ((alS p).1+1,snoc (alS p).1 (alS p).2 (brX u v))=Mat.rk p.1.1.toNat (bL (alS p).2 (alS p).1++[brN (brX u v)]):=by
    rw [rkN_rk];show Mat.rk _ (bL (snoc _ _ _) _)=_;rw [bL_snoc]
  have e6:=Mat.rk_le_succ (N:=p.1.1.toNat) (L:=bL (alS p).2 (alS p).1) (brN (brX u v))
  have e7:rsB p (brX u v)=decide ((rkN p.1.1.toNat ((alC p).1+1,snoc (alC p).1 (alC p).2 (brX u v)):Int)>(rkN p.1.1.toNat (alC p):Int)):=rfl
  rw [e7,e1,e2,e4,e5,decide_eq_false_iff_not]
  omega
theorem PinOk.steady {p:T_Pinned} (h:PinOk p) {v:Nat} (hv:(v:Int)<p.1.1):sdI p v p.2.1.1=sdB p v:=by
  have hN:=h.N;have hm:=h.m
  have key:∀ j,j≤p.2.1.1→(sdI p v j=true↔∀ i,i<j→(p.2.1.2 i).toNat=v∨Mat.rk p.1.1.toNat (bL (alS p).2 (alS p).1++[((p.2.1.2 i).toNat,v)])=Mat.rk p.1.1.toNat (bL (alS p).2 (alS p).1)):=by
    intro j
    induction j with
    | zero=>intro _;simp [sdI]
    | succ j ih =>
      intro hj
      have ih:=ih (by omega)
      have hg:=h.gr j (by omega)
      have step:(bif p.2.1.2 j==(v:Int) then true else !(rsB p (brX (p.2.1.2 j) v)))=true↔((p.2.1.2 j).toNat=v∨Mat.rk p.1.1.toNat (bL (alS p).2 (alS p).1++[((p.2.1.2 j).toNat,v)])=Mat.rk p.1.1.toNat (bL (alS p).2 (alS p).1)):=by
        by_cases e:p.2.1.2 j=(v:Int)
        · have e':(p.2.1.2 j==(v:Int))=true:=beq_iff_eq.2 e
          rw [e',cond_true]
          exact ⟨fun _=>.inl (by omega),fun _=>rfl⟩
        · have e':(p.2.1.2 j==(v:Int))=false:=beq_eq_false_iff_ne.2 e
          rw [e',cond_false,Bool.not_eq_true',h.raise hg hv e]
          constructor
          · intro h';exact .inr h'
          · rintro (h' | h')
            · omega
            · exact h'
      rw [sdI]
      constructor
      · intro hh i hi
        cases hs:sdI p v j with
        | false=>rw [hs,cond_false] at hh;cases hh
        | true =>
          rw [hs,cond_true] at hh
          by_cases e:i=j
          · subst e;exact step.1 hh
          · exact (ih.1 hs) i (by omega)
      · intro hh
        rw [ih.2 (fun i hi=>hh i (by omega)),cond_true]
        exact step.2 (hh j (by omega))
  have g0:=h.gr 0 (by omega)
  have g1:=h.gr 1 (by omega)
  have k0:=impB_iff h.okAS (a:=p.2.1.2 0) (b:=(v:Int)) (by omega) (by omega)
  have k1:=impB_iff h.okAS (a:=p.2.1.2 1) (b:=(v:Int)) (by omega) (by omega)
  rw [Int.toNat_natCast] at k0 k1
  have hst:=h.grd.steady (L:=bL (alS p).2 (alS p).1) (bL_good h.okAS) (fun x hx=>by
    rw [bL_in] at hx ⊢
    obtain ⟨y,h1,h2⟩:=hx
    exact ⟨y,by rw [alS,aS_mem];exact .inl h1,h2⟩) (v:=v) (by omega)
  have kk:=key p.2.1.1 (Nat.le_refl _)
  have e0:((p.2.1.2 0).toNat=v)↔p.2.1.2 0=(v:Int):=by omega
  have e1:((p.2.1.2 1).toNat=v)↔p.2.1.2 1=(v:Int):=by omega
  have hb:sdB p v=true↔sdI p v p.2.1.1=true:=by
    rw [kk,← hst]
    unfold sdB
    show _↔((p.2.1.2 0).toNat=v∨_)∧((p.2.1.2 1).toNat=v∨_)
    rw [e0,e1,← k0,← k1]
    cases impB p.1.1.toNat (alS p).1 (alS p).2 (p.2.1.2 0) v<;>simp
  cases h1:sdB p v<;>cases h2:sdI p v p.2.1.1<;>simp_all
noncomputable def sdD (p:T_Pinned):Nat→NI
  | 0=>zNI
  | v+1=>if sdB p v=true then snN (sdD p v) v else sdD p v
noncomputable def sdR (p:T_Pinned):NI:=if pinnedF p=true then sdD p p.1.1.toNat else zNI
theorem sdD_n (p:T_Pinned):∀ v,(sdD p v).1≤v
  | 0=>Nat.le_refl _
  | v+1=>by
    have:=sdD_n p v
    simp only [sdD]
    split
    · simp only [snN];omega
    · omega
theorem sdR_n (p:T_Pinned):(sdR p).1≤8:=by
  unfold sdR
  split
  · rename_i h
    have:=(pin_ok h).N
    have:=sdD_n p p.1.1.toNat
    omega
  · exact Nat.zero_le _
theorem PinOk.isG {p:T_Pinned} (h:PinOk p):isGraphF ((p.1.1.toNat:Int),((alS p).1,(alS p).2),())=true:=by
  have hN:=h.N;have hn:=h.nS;have ha:=alS_n p
  exact isG_of (by omega) (by omega) h.okAS (alS_asc p)
theorem con_Steady_s (p:T_Pinned) (hs:smS s_Pinned p):zE 116 [pinA p] [(0,iOb (sdR p).1 (sdR p).2)] (.ar 1 0 0 (sdR p).1):=by
  have c1:=con_IsPinned_s p hs
  refine csZ Tryz.func116 (fun c hc=>?_)
  cases hp:pinnedF p with
  | false =>
    rw [hp] at c1
    rw [show sdR p=zNI by simp [sdR,hp]]
    have hd:(bif decide (((0:Nat):Int)<p.1.1) then false else false)=false:=by cases decide (((0:Nat):Int)<p.1.1)<;>rfl
    have he:zR c 116 zf62 (SYs p 0 0 (fun _=>0)) (Post c [(0,iOb zNI.1 zNI.2)] (.ar 1 0 0 zNI.1)):=by
      refine pkZ Tryz.func116 hc (zqSe p 0 0 (fun _=>0) false) ?_
      and_intros
      all_goals (first | exact zI | (intros;exact c1) | (exact hd) | (intro t ht;exact absurd ht (Nat.not_lt_zero _)) | (intro t ht;simp [All]))
    refine pcD hc (zqSz p) ?_ he
    and_intros
    all_goals (first | exact zN | (intro t ht;exact absurd ht (Nat.not_lt_zero _)) | (intro t ht;simp [All]))
  | true =>
    have ok:=pin_ok hp
    have hN:=ok.N;have hm:=ok.m;have hnb:=ok.nb
    have hNz:((p.1.1.toNat:Nat):Int)=p.1.1:=by omega
    have hG:=ok.isG
    have ca:=con_l20All p (by omega) (by omega) (by omega)
    rw [hp] at c1
    rw [show sdR p=sdD p p.1.1.toNat by simp [sdR,hp]]
    generalize hR:sdD p p.1.1.toNat=R
    have lo:∀ d v,v+d=p.1.1.toNat→zR c 116 zf62 (SYs p v (sdD p v).1 (sdD p v).2) (Post c [(0,iOb R.1 R.2)] (.ar 1 0 0 R.1)):=by
      intro d
      induction d with
      | zero =>
        intro v hv
        obtain rfl:v=p.1.1.toNat:=by omega
        have hd:(bif decide (((p.1.1.toNat:Nat):Int)<p.1.1) then true else false)=false:=by
          rw [show decide (((p.1.1.toNat:Nat):Int)<p.1.1)=false from decide_eq_false (by omega)];rfl
        rw [hR]
        refine pkZ Tryz.func116 hc (zqSe p p.1.1.toNat R.1 R.2 true) ?_
        and_intros
        all_goals (first | exact zI | (exact hd) | (intros;exact c1) | (intro t ht;simp [All]))
      | succ d ih =>
        intro v hv
        have hrec:=ih (v+1) (by omega)
        have hd:(bif decide ((v:Int)<p.1.1) then true else false)=true:=by
          rw [show decide ((v:Int)<p.1.1)=true from decide_eq_true (by omega)];rfl
        have hn:=sdD_n p v
        have g0:=ok.gr 0 (by omega)
        have g1:=ok.gr 1 (by omega)
        have i0:=con_IsImplied_s hG ok.okAS (by omega) (by have:=ok.nS;have:=alS_n p;omega) (a:=p.2.1.2 0) (b:=(v:Int)) (by omega) (by omega)
        have i1:=con_IsImplied_s hG ok.okAS (by omega) (by have:=ok.nS;have:=alS_n p;omega) (a:=p.2.1.2 1) (b:=(v:Int)) (by omega) (by omega)
        rw [grG,hNz] at i0 i1
        have hst:sdB p v=bif impB p.1.1.toNat (alS p).1 (alS p).2 (p.2.1.2 0) v then impB p.1.1.toNat (alS p).1 (alS p).2 (p.2.1.2 1) v else false:=rfl
        generalize impB p.1.1.toNat (alS p).1 (alS p).2 (p.2.1.2 0) v=b1 at i0 hst
        generalize impB p.1.1.toNat (alS p).1 (alS p).2 (p.2.1.2 1) v=b2 at i1 hst
        cases hh:sdB p v with
        | false =>
          rw [hh] at hst
          rw [show sdD p (v+1)=sdD p v by simp [sdD,hh]] at hrec
          generalize sdD p v=q at hn hrec ⊢
          refine pcD hc (zqSb p v q.1 (alS p).1 q.2 (alS p).2 b1 b2) ?_ hrec
          and_intros
          all_goals (first | exact zI | (exact hd) | (intros;exact c1) | (exact ca) | (exact i0) | (intros;exact i1) | (exact hst.symm) | (intro t ht;simp [All]))
        | true =>
          rw [hh] at hst
          rw [show sdD p (v+1)=snN (sdD p v) v by simp [sdD,hh]] at hrec
          generalize sdD p v=q at hn hrec ⊢
          refine pcD hc (zqSa p v q.1 (alS p).1 q.2 (alS p).2 b1 b2) ?_ hrec
          and_intros
          all_goals (first | exact zI | (exact hd) | (intros;exact c1) | (exact ca) | (exact i0) | (intros;exact i1) | (exact hst.symm) | (intro t ht;by_cases h':t<q.1<;>simp [h',snI,cvtL,cvt,tg,tru,All]))
    refine pcD hc (zqSz p) ?_ (lo p.1.1.toNat 0 (by omega))
    and_intros
    all_goals (first | exact zN | (intro t ht;exact absurd ht (Nat.not_lt_zero _)) | (intro t ht;simp [All]))
theorem con_Steady_i (p:T_Pinned) (hs:smS s_Pinned p):zE 112 [pinA p] [(0,iOb (sdR p).1 (sdR p).2)] (.ar 1 0 0 (sdR p).1):=by
  have c1:=con_IsPinned_i p hs
  refine csZ Tryz.func112 (fun c hc=>?_)
  cases hp:pinnedF p with
  | false =>
    rw [hp] at c1
    rw [show sdR p=zNI by simp [sdR,hp]]
    refine pkZ Tryz.func112 hc (zqIn p) ?_
    and_intros
    all_goals (first | exact zN | (exact c1) | (intro t ht;exact absurd ht (Nat.not_lt_zero _)) | (simp;done))
  | true =>
    have ok:=pin_ok hp
    have hN:=ok.N;have hm:=ok.m;have hnb:=ok.nb;have hnC:=ok.nC
    have hNz:((p.1.1.toNat:Nat):Int)=p.1.1:=by omega
    have ch:=con_held p hm.2
    rw [show hC p.2.1.2 p.2.1.1 p.2.1.1=hlC p from rfl] at ch
    rw [hp] at c1
    rw [show sdR p=sdD p p.1.1.toNat by simp [sdR,hp]]
    generalize hR:sdD p p.1.1.toNat=R
    have nC:(alC p).1=(hlC p).1+p.1.2.1.1:=rfl
    have li:∀ v:Nat,(v:Int)<p.1.1→∀ q:NI,q.1≤8→(zR c 112 zf33 (SYi p (v+1) (if sdB p v=true then snN q v else q).1 (alC p).1 (if sdB p v=true then snN q v else q).2 (alC p).2) (Post c [(0,iOb R.1 R.2)] (.ar 1 0 0 R.1))) →
        ∀ d j,j+d=p.2.1.1→zR c 112 zf5 (SYj p v j q.1 (alC p).1 q.2 (alC p).2 (sdI p v j)) (Post c [(0,iOb R.1 R.2)] (.ar 1 0 0 R.1)):=by
      intro v hv q hq hk d
      induction d with
      | zero =>
        intro j hj
        obtain rfl:j=p.2.1.1:=by omega
        have hd:decide ((p.2.1.1:Int)<(p.2.1.1:Int))=false:=by simp
        rw [ok.steady hv]
        cases hh:sdB p v with
        | false =>
          rw [hh,if_neg (by simp)] at hk
          refine pcD hc (zqIf p v p.2.1.1 q.1 (alC p).1 q.2 (alC p).2 false) ?_ hk
          and_intros
          all_goals (first | exact zN | (exact hd) | (intro t ht;simp [All]))
        | true =>
          rw [hh,if_pos rfl] at hk
          refine pcD hc (zqIt p v p.2.1.1 q.1 (alC p).1 q.2 (alC p).2 true) ?_ hk
          and_intros
          all_goals (first | exact zN | (exact hd) | (intro t ht;by_cases h':t<q.1<;>simp [h',snI,cvtL,cvt,tg,tru,All]) | (intro t ht;simp [All]))
      | succ d ih =>
        intro j hj
        have hd:decide ((j:Int)<(p.2.1.1:Int))=true:=decide_eq_true (by omega)
        have hg:=ok.gr j (by omega)
        have cb:=con_barX (p.2.1.2 j) v
        have hrec:=ih (j+1) (by omega)
        rw [show sdI p v (j+1)=bif sdI p v j then (bif p.2.1.2 j==(v:Int) then true else !(rsB p (brX (p.2.1.2 j) v))) else false from rfl] at hrec
        have cr:p.2.1.2 j≠(v:Int)→zE 163 [.p (.int .i64 p.1.1),brL (alC p).2 (alC p).1,brA (brX (p.2.1.2 j) v)] [] (.p (.bool (rsB p (brX (p.2.1.2 j) v)))):=by
          intro hne
          have hx:=brX_ok (N:=p.1.1.toNat) (a:=p.2.1.2 j) (b:=v) (by omega) (by omega) hne
          have:=con_raises ok.okAC hx (by omega) (by omega)
          rw [hNz] at this
          exact this
        refine pcD hc (zqIi p v j q.1 (alC p).1 q.2 (alC p).2 (sdI p v j) (rsB p (brX (p.2.1.2 j) v)) (brX (p.2.1.2 j) v)) ?_ hrec
        and_intros
        all_goals (first | exact zH | (exact hd) | (intros;exact cb) | (intro h3;refine cr ?_;simp only [Bool.and_eq_true,Bool.not_eq_true',beq_eq_false_iff_ne] at h3;exact h3.2) | (intro t ht;simp [All]))
    have lo:∀ d v,v+d=p.1.1.toNat→zR c 112 zf33 (SYi p v (sdD p v).1 (alC p).1 (sdD p v).2 (alC p).2) (Post c [(0,iOb R.1 R.2)] (.ar 1 0 0 R.1)):=by
      intro d
      induction d with
      | zero =>
        intro v hv
        obtain rfl:v=p.1.1.toNat:=by omega
        have hd:decide (((p.1.1.toNat:Nat):Int)<p.1.1)=false:=decide_eq_false (by omega)
        rw [hR]
        refine pkZ Tryz.func112 hc (zqIe p p.1.1.toNat R.1 (alC p).1 R.2 (alC p).2) ?_
        and_intros
        all_goals (first | exact zN | (exact hd) | (intro t ht;simp [All]))
      | succ d ih =>
        intro v hv
        have hrec:=ih (v+1) (by omega)
        have hd:decide ((v:Int)<p.1.1)=true:=decide_eq_true (by omega)
        have hn:=sdD_n p v
        refine pcD hc (zqIo p v (sdD p v).1 (alC p).1 (sdD p v).2 (alC p).2) ?_ (li v (by omega) (sdD p v) (by omega) hrec p.2.1.1 0 (by omega))
        and_intros
        all_goals (first | exact zN | (exact hd) | (intro t ht;simp [All]))
    refine pcD hc (zqIz p (hlC p).1 (alC p).1 (hlC p).2 (alC p).2) ?_ (lo p.1.1.toNat 0 (by omega))
    and_intros
    all_goals (first | exact zN | (exact c1) | (exact ch) | (intro t ht;exact absurd ht (Nat.not_lt_zero _)) | (intro t ht;by_cases h:t<(hlC p).1<;>simp [h,cvtL,cvt,tg,tru,All,alC,aC]))
def kBars:ByteArray:=⟨#[98,97,114,115,32]⟩
def kFree:ByteArray:=⟨#[32,102,114,101,101,100,111,109,32]⟩
def kSteady:ByteArray:=⟨#[32,115,116,101,97,100,121,32]⟩
def kWorst:ByteArray:=⟨#[32,119,111,114,115,116,32]⟩
def kDrops:ByteArray:=⟨#[32,100,114,111,112,115,32]⟩
theorem kBars_z:(ByteArray.mk #[98,97,114,115,32]).size=5:=rfl
theorem kFree_z:(ByteArray.mk #[32,102,114,101,101,100,111,109,32]).size=9:=rfl
theorem kSteady_z:(ByteArray.mk #[32,115,116,101,97,100,121,32]).size=8:=rfl
theorem kWorst_z:(ByteArray.mk #[32,119,111,114,115,116,32]).size=7:=rfl
theorem kDrops_z:(ByteArray.mk #[32,100,114,111,112,115,32]).size=7:=rfl
theorem lIn (p:T_Pinned) :
    zS Tryz.f45 [rg 2,rm [(1,oc [] (.p (.bool false)))] 1,.dec true,rg 1] [pinA p] [] [] (.p (.str ⟨#[]⟩)) =
    some [(NT 0 1),zE 73 [(zf25 p)] [] (.p (.bool false)),((!false)=true),(ByteArray.mk #[]=ByteArray.mk #[])]:=by kernel_rfl
theorem lIa (p:T_Pinned) (fr w m:Int) (n:Nat) (h:Nat→Int) (f1 f2 f3 f4 f5:ByteArray) :
    zS Tryz.f45 [rg 2,rm [(1,oc [] (.p (.bool true)))] 1,.dec false,rm [(4,oc [] (.p (.str f1))),(3,oc [] (.p (.int .i64 fr))),(0,oc [] (.p (.str f2))),(3,oc [(0,iOb n h)] (.ar 1 0 0 n)),(1,oc [] (.p (.str f3)))] 2,rm [(1,oc [] (.tup [.p (.int .i64 w),.p (.int .i64 m)]))] 5,rg 2,.dec true,rm [(8,oc [] (.p (.str f4))),(3,oc [] (.p (.str f5)))] 2,rg 2] [pinA p] [] [] (.p (.str (((((((((kBars++f1)++kFree)++f2)++kSteady)++f3)++kWorst)++f4)++kDrops)++f5))) =
    some [(NT 0 1),zE 73 [(zf25 p)] [] (.p (.bool true)),((!true)=false),(NT 0 1),zE 111 [.p (.int .i64 (↑p.1.2.1.1:Int))] [] (.p (.str f1)),(NL ((ByteArray.mk #[98,97,114,115,32]).size+f1.size) 9223372036854775807),(NL ((ByteArray.mk #[98,97,114,115,32]++f1).size+(ByteArray.mk #[32,102,114,101,101,100,111,109,32]).size) 9223372036854775807),(NT 0 1),zE 80 [(zf25 p)] [] (.p (.int .i64 fr)),zE 111 [.p (.int .i64 fr)] [] (.p (.str f2)),(NL ((ByteArray.mk #[98,97,114,115,32]++f1++ByteArray.mk #[32,102,114,101,101,100,111,109,32]).size+f2.size) 9223372036854775807),(NL ((ByteArray.mk #[98,97,114,115,32]++f1++ByteArray.mk #[32,102,114,101,101,100,111,109,32]++f2).size+(ByteArray.mk #[32,115,116,101,97,100,121,32]).size) 9223372036854775807),(NT 0 1),zE 112 [(zf25 p)] [(0,⟨false,1,n,(fun i=>[.p (.int .i64 (h i))])⟩)] (.ar 1 0 0 n),zE 111 [.p (.int .i64 (↑n:Int))] [] (.p (.str f3)),(NL ((ByteArray.mk #[98,97,114,115,32]++f1++ByteArray.mk #[32,102,114,101,101,100,111,109,32]++f2++ByteArray.mk #[32,115,116,101,97,100,121,32]).size+f3.size) 9223372036854775807),(NT 0 1),zE 113 [(zf25 p)] [] (.tup [.p (.int .i64 w),.p (.int .i64 m)]),((decide (w≥0))=true),(NL ((ByteArray.mk #[98,97,114,115,32]++f1++ByteArray.mk #[32,102,114,101,101,100,111,109,32]++f2++ByteArray.mk #[32,115,116,101,97,100,121,32]++f3).size+(ByteArray.mk #[32,119,111,114,115,116,32]).size) 9223372036854775807),(NT 0 1),(IL 0 w),(IT w (↑p.1.2.1.1:Int)),zE 114 [.agg [.p (.int .i64 ((p.1.2.1.2 w.toNat).1)),.p (.int .i64 ((p.1.2.1.2 w.toNat).2.1))]] [] (.p (.str f4)),(NL ((ByteArray.mk #[98,97,114,115,32]++f1++ByteArray.mk #[32,102,114,101,101,100,111,109,32]++f2++ByteArray.mk #[32,115,116,101,97,100,121,32]++f3++ByteArray.mk #[32,119,111,114,115,116,32]).size+f4.size) 9223372036854775807),(NL ((ByteArray.mk #[98,97,114,115,32]++f1++ByteArray.mk #[32,102,114,101,101,100,111,109,32]++f2++ByteArray.mk #[32,115,116,101,97,100,121,32]++f3++ByteArray.mk #[32,119,111,114,115,116,32]++f4).size+(ByteArray.mk #[32,100,114,111,112,115,32]).size) 9223372036854775807),zE 111 [.p (.int .i64 m)] [] (.p (.str f5)),(NL ((ByteArray.mk #[98,97,114,115,32]++f1++ByteArray.mk #[32,102,114,101,101,100,111,109,32]++f2++ByteArray.mk #[32,115,116,101,97,100,121,32]++f3++ByteArray.mk #[32,119,111,114,115,116,32]++f4++ByteArray.mk #[32,100,114,111,112,115,32]).size+f5.size) 9223372036854775807),(ByteArray.mk #[98,97,114,115,32]++f1++ByteArray.mk #[32,102,114,101,101,100,111,109,32]++f2++ByteArray.mk #[32,115,116,101,97,100,121,32]++f3++ByteArray.mk #[32,119,111,114,115,116,32]++f4++ByteArray.mk #[32,100,114,111,112,115,32]++f5=kBars++f1++kFree++f2++kSteady++f3++kWorst++f4++kDrops++f5)]:=by kernel_rfl
theorem lIb (p:T_Pinned) (fr w m:Int) (n:Nat) (h:Nat→Int) (f1 f2 f3:ByteArray) :
    zS Tryz.f45 [rg 2,rm [(1,oc [] (.p (.bool true)))] 1,.dec false,rm [(4,oc [] (.p (.str f1))),(3,oc [] (.p (.int .i64 fr))),(0,oc [] (.p (.str f2))),(3,oc [(0,iOb n h)] (.ar 1 0 0 n)),(1,oc [] (.p (.str f3)))] 2,rm [(1,oc [] (.tup [.p (.int .i64 w),.p (.int .i64 m)]))] 5,rg 2,.dec false,rg 2] [pinA p] [] [] (.p (.str (((((kBars++f1)++kFree)++f2)++kSteady)++f3))) =
    some [(NT 0 1),zE 73 [(zf25 p)] [] (.p (.bool true)),((!true)=false),(NT 0 1),zE 111 [.p (.int .i64 (↑p.1.2.1.1:Int))] [] (.p (.str f1)),(NL ((ByteArray.mk #[98,97,114,115,32]).size+f1.size) 9223372036854775807),(NL ((ByteArray.mk #[98,97,114,115,32]++f1).size+(ByteArray.mk #[32,102,114,101,101,100,111,109,32]).size) 9223372036854775807),(NT 0 1),zE 80 [(zf25 p)] [] (.p (.int .i64 fr)),zE 111 [.p (.int .i64 fr)] [] (.p (.str f2)),(NL ((ByteArray.mk #[98,97,114,115,32]++f1++ByteArray.mk #[32,102,114,101,101,100,111,109,32]).size+f2.size) 9223372036854775807),(NL ((ByteArray.mk #[98,97,114,115,32]++f1++ByteArray.mk #[32,102,114,101,101,100,111,109,32]++f2).size+(ByteArray.mk #[32,115,116,101,97,100,121,32]).size) 9223372036854775807),(NT 0 1),zE 112 [(zf25 p)] [(0,⟨false,1,n,(fun i=>[.p (.int .i64 (h i))])⟩)] (.ar 1 0 0 n),zE 111 [.p (.int .i64 (↑n:Int))] [] (.p (.str f3)),(NL ((ByteArray.mk #[98,97,114,115,32]++f1++ByteArray.mk #[32,102,114,101,101,100,111,109,32]++f2++ByteArray.mk #[32,115,116,101,97,100,121,32]).size+f3.size) 9223372036854775807),(NT 0 1),zE 113 [(zf25 p)] [] (.tup [.p (.int .i64 w),.p (.int .i64 m)]),((decide (w≥0))=false),(ByteArray.mk #[98,97,114,115,32]++f1++ByteArray.mk #[32,102,114,101,101,100,111,109,32]++f2++ByteArray.mk #[32,115,116,101,97,100,121,32]++f3=kBars++f1++kFree++f2++kSteady++f3)]:=by kernel_rfl
theorem lSn (p:T_Pinned) :
    zS Tryz.f46 [rg 2,rm [(1,oc [] (.p (.bool false)))] 1,.dec true,rg 1] [pinA p] [] [] (.p (.str ⟨#[]⟩)) =
    some [(NT 0 1),zE 77 [(zf25 p)] [] (.p (.bool false)),((!false)=true),(ByteArray.mk #[]=ByteArray.mk #[])]:=by kernel_rfl
theorem lSa (p:T_Pinned) (fr w m:Int) (n:Nat) (h:Nat→Int) (f1 f2 f3 f4 f5 f6:ByteArray) :
    zS Tryz.f46 [rg 2,rm [(1,oc [] (.p (.bool true)))] 1,.dec false,rm [(4,oc [] (.p (.str f1))),(3,oc [] (.p (.int .i64 fr))),(0,oc [] (.p (.str f2))),(3,oc [(0,iOb n h)] (.ar 1 0 0 n)),(1,oc [] (.p (.str f3)))] 2,rm [(1,oc [] (.tup [.p (.int .i64 w),.p (.int .i64 m)]))] 5,rg 2,.dec true,rm [(9,oc [] (.p (.str f4))),(9,oc [] (.p (.str f5))),(3,oc [] (.p (.str f6)))] 2,rg 2] [pinA p] [] [] (.p (.str (((((((((((kBars++f1)++kFree)++f2)++kSteady)++f3)++kWorst)++f4)++kDash)++f5)++kDrops)++f6))) =
    some [(NT 0 1),zE 77 [(zf25 p)] [] (.p (.bool true)),((!true)=false),(NT 0 1),zE 115 [.p (.int .i64 (↑p.1.2.1.1:Int))] [] (.p (.str f1)),(NL ((ByteArray.mk #[98,97,114,115,32]).size+f1.size) 9223372036854775807),(NL ((ByteArray.mk #[98,97,114,115,32]++f1).size+(ByteArray.mk #[32,102,114,101,101,100,111,109,32]).size) 9223372036854775807),(NT 0 1),zE 81 [(zf25 p)] [] (.p (.int .i64 fr)),zE 115 [.p (.int .i64 fr)] [] (.p (.str f2)),(NL ((ByteArray.mk #[98,97,114,115,32]++f1++ByteArray.mk #[32,102,114,101,101,100,111,109,32]).size+f2.size) 9223372036854775807),(NL ((ByteArray.mk #[98,97,114,115,32]++f1++ByteArray.mk #[32,102,114,101,101,100,111,109,32]++f2).size+(ByteArray.mk #[32,115,116,101,97,100,121,32]).size) 9223372036854775807),(NT 0 1),zE 116 [(zf25 p)] [(0,⟨false,1,n,(fun i=>[.p (.int .i64 (h i))])⟩)] (.ar 1 0 0 n),zE 115 [.p (.int .i64 (↑n:Int))] [] (.p (.str f3)),(NL ((ByteArray.mk #[98,97,114,115,32]++f1++ByteArray.mk #[32,102,114,101,101,100,111,109,32]++f2++ByteArray.mk #[32,115,116,101,97,100,121,32]).size+f3.size) 9223372036854775807),(NT 0 1),zE 117 [(zf25 p)] [] (.tup [.p (.int .i64 w),.p (.int .i64 m)]),((decide (w≥0))=true),(NL ((ByteArray.mk #[98,97,114,115,32]++f1++ByteArray.mk #[32,102,114,101,101,100,111,109,32]++f2++ByteArray.mk #[32,115,116,101,97,100,121,32]++f3).size+(ByteArray.mk #[32,119,111,114,115,116,32]).size) 9223372036854775807),(NT 0 1),(IL 0 w),(IT w (↑p.1.2.1.1:Int)),zE 115 [.p (.int .i64 ((p.1.2.1.2 w.toNat).1))] [] (.p (.str f4)),(NL ((ByteArray.mk #[98,97,114,115,32]++f1++ByteArray.mk #[32,102,114,101,101,100,111,109,32]++f2++ByteArray.mk #[32,115,116,101,97,100,121,32]++f3++ByteArray.mk #[32,119,111,114,115,116,32]).size+f4.size) 9223372036854775807),(NL ((ByteArray.mk #[98,97,114,115,32]++f1++ByteArray.mk #[32,102,114,101,101,100,111,109,32]++f2++ByteArray.mk #[32,115,116,101,97,100,121,32]++f3++ByteArray.mk #[32,119,111,114,115,116,32]++f4).size+(ByteArray.mk #[45]).size) 9223372036854775807),(NT 0 1),(IL 0 w),(IT w (↑p.1.2.1.1:Int)),zE 115 [.p (.int .i64 ((p.1.2.1.2 w.toNat).2.1))] [] (.p (.str f5)),(NL ((ByteArray.mk #[98,97,114,115,32]++f1++ByteArray.mk #[32,102,114,101,101,100,111,109,32]++f2++ByteArray.mk #[32,115,116,101,97,100,121,32]++f3++ByteArray.mk #[32,119,111,114,115,116,32]++f4++ByteArray.mk #[45]).size+f5.size) 9223372036854775807),(NL ((ByteArray.mk #[98,97,114,115,32]++f1++ByteArray.mk #[32,102,114,101,101,100,111,109,32]++f2++ByteArray.mk #[32,115,116,101,97,100,121,32]++f3++ByteArray.mk #[32,119,111,114,115,116,32]++f4++ByteArray.mk #[45]++f5).size+(ByteArray.mk #[32,100,114,111,112,115,32]).size) 9223372036854775807),zE 115 [.p (.int .i64 m)] [] (.p (.str f6)),(NL ((ByteArray.mk #[98,97,114,115,32]++f1++ByteArray.mk #[32,102,114,101,101,100,111,109,32]++f2++ByteArray.mk #[32,115,116,101,97,100,121,32]++f3++ByteArray.mk #[32,119,111,114,115,116,32]++f4++ByteArray.mk #[45]++f5++ByteArray.mk #[32,100,114,111,112,115,32]).size+f6.size) 9223372036854775807),(ByteArray.mk #[98,97,114,115,32]++f1++ByteArray.mk #[32,102,114,101,101,100,111,109,32]++f2++ByteArray.mk #[32,115,116,101,97,100,121,32]++f3++ByteArray.mk #[32,119,111,114,115,116,32]++f4++ByteArray.mk #[45]++f5++ByteArray.mk #[32,100,114,111,112,115,32]++f6=kBars++f1++kFree++f2++kSteady++f3++kWorst++f4++kDash++f5++kDrops++f6)]:=by kernel_rfl
theorem lSb (p:T_Pinned) (fr w m:Int) (n:Nat) (h:Nat→Int) (f1 f2 f3:ByteArray) :
    zS Tryz.f46 [rg 2,rm [(1,oc [] (.p (.bool true)))] 1,.dec false,rm [(4,oc [] (.p (.str f1))),(3,oc [] (.p (.int .i64 fr))),(0,oc [] (.p (.str f2))),(3,oc [(0,iOb n h)] (.ar 1 0 0 n)),(1,oc [] (.p (.str f3)))] 2,rm [(1,oc [] (.tup [.p (.int .i64 w),.p (.int .i64 m)]))] 5,rg 2,.dec false,rg 2] [pinA p] [] [] (.p (.str (((((kBars++f1)++kFree)++f2)++kSteady)++f3))) =
    some [(NT 0 1),zE 77 [(zf25 p)] [] (.p (.bool true)),((!true)=false),(NT 0 1),zE 115 [.p (.int .i64 (↑p.1.2.1.1:Int))] [] (.p (.str f1)),(NL ((ByteArray.mk #[98,97,114,115,32]).size+f1.size) 9223372036854775807),(NL ((ByteArray.mk #[98,97,114,115,32]++f1).size+(ByteArray.mk #[32,102,114,101,101,100,111,109,32]).size) 9223372036854775807),(NT 0 1),zE 81 [(zf25 p)] [] (.p (.int .i64 fr)),zE 115 [.p (.int .i64 fr)] [] (.p (.str f2)),(NL ((ByteArray.mk #[98,97,114,115,32]++f1++ByteArray.mk #[32,102,114,101,101,100,111,109,32]).size+f2.size) 9223372036854775807),(NL ((ByteArray.mk #[98,97,114,115,32]++f1++ByteArray.mk #[32,102,114,101,101,100,111,109,32]++f2).size+(ByteArray.mk #[32,115,116,101,97,100,121,32]).size) 9223372036854775807),(NT 0 1),zE 116 [(zf25 p)] [(0,⟨false,1,n,(fun i=>[.p (.int .i64 (h i))])⟩)] (.ar 1 0 0 n),zE 115 [.p (.int .i64 (↑n:Int))] [] (.p (.str f3)),(NL ((ByteArray.mk #[98,97,114,115,32]++f1++ByteArray.mk #[32,102,114,101,101,100,111,109,32]++f2++ByteArray.mk #[32,115,116,101,97,100,121,32]).size+f3.size) 9223372036854775807),(NT 0 1),zE 117 [(zf25 p)] [] (.tup [.p (.int .i64 w),.p (.int .i64 m)]),((decide (w≥0))=false),(ByteArray.mk #[98,97,114,115,32]++f1++ByteArray.mk #[32,102,114,101,101,100,111,109,32]++f2++ByteArray.mk #[32,115,116,101,97,100,121,32]++f3=kBars++f1++kFree++f2++kSteady++f3)]:=by kernel_rfl
theorem sm_pinnedD {p:T_Pinned} (h:pinnedF p=true):smS s_Pinned p:=by
  have:=pinned_in h
  have:=(graph_inR this.1).2.2.1
  exact sm_pin (by omega) (by omega)
def woP (p:T_Pinned) (e:Nat):T_Pinned:=((p.1.1,(p.1.2.1.1 - 1,delB p.1.2.1.1 p.1.2.1.2 e),()),p.2)
theorem con_RemoveBar_s (v:T_Graph) (hg:isGraphF v=true) (e:Nat) (he:e<v.2.1.1):zE 161 [graphA v,.p (.int .i64 e)] [(0,brOb (v.2.1.1 - 1) (delB v.2.1.1 v.2.1.2 e))] (.tup [.agg [.p (.int .i64 v.1),.ar 2 0 0 (v.2.1.1 - 1)],.p (.bool true)]):=by
  obtain ⟨g1,g2,g3,g4⟩:=graph_inR hg
  have c1:=con_IsGraph_s v (sm_graph (by omega))
  rw [hg] at c1
  have hd:(bif bif !true then true else decide ((e:Int)<0) then true else decide ((e:Int)≥(v.2.1.1:Int)))=false:=by
    rw [decide_eq_false (show ¬ ((e:Int)<0) by omega),decide_eq_false (show ¬ ((e:Int)≥(v.2.1.1:Int)) by omega)];rfl
  refine csZ Tryz.func161 (fun c hc=>?_)
  refine pkD Tryz.func161 hc (zqRb v e) ?_
  and_intros
  all_goals (first | exact zH | (exact c1) | (exact hd) | (intro t ht;rcases Nat.lt_or_ge t e with h1 | h1;(simp [h1,delB,cvtL,cvt,tg,tru,All]);((try dsimp only);rw [if_neg (show ¬ t<0+e by omega),show t - (0+e)+(e+1)=t+1 by omega];simp [show ¬ t<e by omega,delB,show t+1<v.2.1.1 by omega,cvtL,cvt,tg,tru,All])))
theorem con_l27Less (p:T_Pinned) (hp:pinnedF p=true) (e:Nat) (he:e<p.1.2.1.1):zE 110 [pinA p,.p (.int .i64 e)] [(0,brOb (woP p e).1.2.1.1 (woP p e).1.2.1.2),(1,iOb p.2.1.1 p.2.1.2)] (.agg [.p (.int .i64 p.1.1),.ar 2 0 0 (woP p e).1.2.1.1,.ar 1 1 0 p.2.1.1]):=by
  have hp1:=pinned_in hp
  have ok:=pin_ok hp
  have hm:=ok.m
  have c1:=con_RemoveBar_s p.1 hp1.1 e he
  refine csZ Tryz.func110 (fun c hc=>?_)
  refine pkD Tryz.func110 hc (zqLl p e (woP p e).1.2.1.1 (woP p e).1.2.1.2) ?_
  and_intros
  all_goals (first | exact zI | (exact c1) | (intro t ht;simp [cvtL,cvt,tg,tru,All]))
theorem con_withoutBar (p:T_Pinned) (hp:pinnedF p=true) (e:Nat) (he:e<p.1.2.1.1):zE 107 [pinA p,.p (.int .i64 e)] [(0,brOb (woP p e).1.2.1.1 (woP p e).1.2.1.2),(1,iOb p.2.1.1 p.2.1.2)] (.agg [.p (.int .i64 p.1.1),.ar 2 0 0 (woP p e).1.2.1.1,.ar 1 1 0 p.2.1.1]):=by
  have ok:=pin_ok hp
  have hm:=ok.m;have hnb:=ok.nb
  have c1:=con_copyPinned p (sm_pinnedD hp)
  have c2:=con_DelBar p.1.2.1.1 e p.1.2.1.2 he (by omega)
  refine csZ Tryz.func107 (fun c hc=>?_)
  refine pkD Tryz.func107 hc (zqWo p e (p.1.2.1.1 - 1) (delB p.1.2.1.1 p.1.2.1.2 e)) ?_
  and_intros
  all_goals (first | exact zI | (exact c1) | (exact c2) | (intro t ht;simp [cvtL,cvt,tg,tru,All]))
def fwD (b a:NI):Nat→NI
  | 0=>zNI
  | k+1=>if hasI a.2 (b.2 k) a.1=true then fwD b a k else snN (fwD b a k) (b.2 k)
noncomputable def fwR (p:T_Pinned) (e:Nat):NI:=fwD (sdR p) (sdR (woP p e)) (sdR p).1
theorem fwD_n (b a:NI):∀ k,(fwD b a k).1≤k
  | 0=>Nat.le_refl _
  | k+1=>by
    have:=fwD_n b a k
    simp only [fwD]
    split
    · omega
    · simp only [snN];omega
theorem fwR_n (p:T_Pinned) (e:Nat):(fwR p e).1≤8:=by
  have:=fwD_n (sdR p) (sdR (woP p e)) (sdR p).1
  have:=sdR_n p
  unfold fwR
  omega
theorem sm_wo {p:T_Pinned} (hp:pinnedF p=true) (e:Nat):smS s_Pinned (woP p e):=by
  have ok:=pin_ok hp
  have hm:=ok.m;have hnb:=ok.nb
  exact sm_pin (by show p.1.2.1.1 - 1≤1048576;omega) (by show p.2.1.1≤1048576;omega)
theorem con_Falls_i (p:T_Pinned) (hp:pinnedF p=true) (e:Nat) (he:e<p.1.2.1.1):zE 164 [pinA p,.p (.int .i64 e)] [(0,iOb (fwR p e).1 (fwR p e).2)] (.ar 1 0 0 (fwR p e).1):=by
  have hnb:=(pin_ok hp).nb
  have c1:=con_IsPinned_i p (sm_pinnedD hp)
  rw [hp] at c1
  have cw:=con_within e 0 ((p.1.2.1.1:Int) - 1)
  rw [show inB (e:Int) 0 ((p.1.2.1.1:Int) - 1)=true by simp [inB];omega] at cw
  have co:=con_withoutBar p hp e he
  have ca:=con_Steady_i (woP p e) (sm_wo hp e)
  have cb:=con_Steady_i p (sm_pinnedD hp)
  have na:=sdR_n (woP p e)
  have nb:=sdR_n p
  unfold fwR
  generalize sdR (woP p e)=A at *
  generalize sdR p=B at *
  refine csZ Tryz.func164 (fun c hc=>?_)
  generalize hR:fwD B A B.1=R
  have lo:∀ d k,k+d=B.1→zR c 164 zf34 (SYf p e k (fwD B A k).1 A.1 B.1 (fwD B A k).2 A.2 B.2) (Post c [(0,iOb R.1 R.2)] (.ar 1 0 0 R.1)):=by
    intro d
    induction d with
    | zero =>
      intro k hk
      obtain rfl:k=B.1:=by omega
      have hd:decide ((B.1:Int)<(B.1:Int))=false:=by simp
      rw [hR]
      refine pkZ Tryz.func164 hc (zqFe p e B.1 R.1 A.1 B.1 R.2 A.2 B.2) ?_
      and_intros
      all_goals (first | exact zN | (exact hd) | (intro t ht;simp [cvtL,cvt,tg,tru,All]))
    | succ d ih =>
      intro k hk
      have hrec:=ih (k+1) (by omega)
      have hd:decide ((k:Int)<(B.1:Int))=true:=decide_eq_true (by omega)
      have ch:=con_Contains A (B.2 k) (by omega)
      have hn:=fwD_n B A k
      cases hh:hasI A.2 (B.2 k) A.1 with
      | true =>
        rw [hh] at ch
        rw [show fwD B A (k+1)=fwD B A k by simp [fwD,hh]] at hrec
        generalize fwD B A k=q at hn hrec ⊢
        refine pcD hc (zqFb p e k q.1 A.1 B.1 q.2 A.2 B.2) ?_ hrec
        and_intros
        all_goals (first | exact zN | (exact hd) | (exact ch) | (intro t ht;simp [cvtL,cvt,tg,tru,All]))
      | false =>
        rw [hh] at ch
        rw [show fwD B A (k+1)=snN (fwD B A k) (B.2 k) by simp [fwD,hh]] at hrec
        generalize fwD B A k=q at hn hrec ⊢
        refine pcD hc (zqFa p e k q.1 A.1 B.1 q.2 A.2 B.2) ?_ hrec
        and_intros
        all_goals (first | exact zN | (exact hd) | (exact ch) | (intro t ht;by_cases h':t<q.1<;>simp [h',snI,cvtL,cvt,tg,tru,All]))
  refine pcD hc (zqFz p e A.1 B.1 (woP p e).1.2.1.1 A.2 B.2 (woP p e).1.2.1.2) ?_ (lo B.1 0 (by omega))
  and_intros
  all_goals (first | exact zH | (intros;omega) | (exact c1) | (exact cw) | (intros;exact cw) | (exact co) | (exact ca) | (exact cb) | (intro t ht;exact absurd ht (Nat.not_lt_zero _)) | (intro t ht;simp [cvtL,cvt,tg,tru,All]))
theorem con_Falls_s (p:T_Pinned) (hp:pinnedF p=true) (e:Nat) (he:e<p.1.2.1.1):zE 167 [pinA p,.p (.int .i64 e)] [(0,iOb (fwR p e).1 (fwR p e).2)] (.ar 1 0 0 (fwR p e).1):=by
  have c1:=con_IsPinned_s p (sm_pinnedD hp)
  rw [hp] at c1
  have hd0:(bif bif !true then true else decide ((e:Int)<0) then true else decide ((e:Int)≥(p.1.2.1.1:Int)))=false:=by
    rw [decide_eq_false (show ¬ ((e:Int)<0) by omega),decide_eq_false (show ¬ ((e:Int)≥(p.1.2.1.1:Int)) by omega)];rfl
  have co:=con_l27Less p hp e he
  have ca:=con_Steady_s (woP p e) (sm_wo hp e)
  have cb:=con_Steady_s p (sm_pinnedD hp)
  have na:=sdR_n (woP p e)
  have nb:=sdR_n p
  unfold fwR
  generalize sdR (woP p e)=A at *
  generalize sdR p=B at *
  refine csZ Tryz.func167 (fun c hc=>?_)
  generalize hR:fwD B A B.1=R
  have lo:∀ d k,k+d=B.1→zR c 167 zf29 (SYg p e k (fwD B A k).1 A.1 B.1 (fwD B A k).2 A.2 B.2) (Post c [(0,iOb R.1 R.2)] (.ar 1 0 0 R.1)):=by
    intro d
    induction d with
    | zero =>
      intro k hk
      obtain rfl:k=B.1:=by omega
      have hd:decide ((B.1:Int)<(B.1:Int))=false:=by simp
      rw [hR]
      refine pkZ Tryz.func167 hc (zqGe p e B.1 R.1 A.1 B.1 R.2 A.2 B.2) ?_
      and_intros
      all_goals (first | exact zN | (exact hd) | (intro t ht;simp [cvtL,cvt,tg,tru,All]))
    | succ d ih =>
      intro k hk
      have hrec:=ih (k+1) (by omega)
      have hd:decide ((k:Int)<(B.1:Int))=true:=decide_eq_true (by omega)
      have ch:=con_l2Has A (B.2 k) (by omega)
      have hn:=fwD_n B A k
      cases hh:hasI A.2 (B.2 k) A.1 with
      | true =>
        rw [hh] at ch
        rw [show fwD B A (k+1)=fwD B A k by simp [fwD,hh]] at hrec
        generalize fwD B A k=q at hn hrec ⊢
        refine pcD hc (zqGb p e k q.1 A.1 B.1 q.2 A.2 B.2) ?_ hrec
        and_intros
        all_goals (first | exact zN | (exact hd) | (exact ch) | (intro t ht;simp [cvtL,cvt,tg,tru,All]))
      | false =>
        rw [hh] at ch
        rw [show fwD B A (k+1)=snN (fwD B A k) (B.2 k) by simp [fwD,hh]] at hrec
        generalize fwD B A k=q at hn hrec ⊢
        refine pcD hc (zqGa p e k q.1 A.1 B.1 q.2 A.2 B.2) ?_ hrec
        and_intros
        all_goals (first | exact zN | (exact hd) | (exact ch) | (intro t ht;by_cases h':t<q.1<;>simp [h',snI,cvtL,cvt,tg,tru,All]))
  refine pcD hc (zqGz p e A.1 B.1 (woP p e).1.2.1.1 A.2 B.2 (woP p e).1.2.1.2) ?_ (lo B.1 0 (by omega))
  and_intros
  all_goals (first | exact zH | (exact c1) | (exact hd0) | (exact co) | (exact ca) | (exact cb) | (intro t ht;exact absurd ht (Nat.not_lt_zero _)) | (intro t ht;simp [cvtL,cvt,tg,tru,All]))
noncomputable def wbD (p:T_Pinned):Nat→Int×Int
  | 0=>(-1,0)
  | k+1=>if ((fwR p k).1:Int)>(wbD p k).2 then ((k:Int),((fwR p k).1:Int)) else wbD p k
theorem wbD_in (p:T_Pinned):∀ k,-1≤(wbD p k).1∧(wbD p k).1<k∧0≤(wbD p k).2∧(wbD p k).2≤8
  | 0=>by simp [wbD]
  | k+1=>by
    have h1:=wbD_in p k
    have h2:=fwR_n p k
    simp only [wbD]
    split
    · simp only;omega
    · omega
theorem con_Worst_i (p:T_Pinned) (hp:pinnedF p=true):zE 113 [pinA p] [] (.tup [.p (.int .i64 (wbD p p.1.2.1.1).1),.p (.int .i64 (wbD p p.1.2.1.1).2)]):=by
  have ok:=pin_ok hp
  have hnb:=ok.nb
  refine csZ Tryz.func113 (fun c hc=>?_)
  generalize hR:wbD p p.1.2.1.1=R
  have lo:∀ d k,k+d=p.1.2.1.1→zR c 113 zf63 (SYw p k (wbD p k).1 (wbD p k).2) (Post c [] (.tup [.p (.int .i64 R.1),.p (.int .i64 R.2)])):=by
    intro d
    induction d with
    | zero =>
      intro k hk
      obtain rfl:k=p.1.2.1.1:=by omega
      have hd:decide ((p.1.2.1.1:Int)<(p.1.2.1.1:Int))=false:=by simp
      rw [hR]
      refine pkZ Tryz.func113 hc (zqWe p p.1.2.1.1 R.1 R.2) ?_
      and_intros
      all_goals (first | exact zN | (exact hd) | (intro t ht;simp [cvtL,cvt,tg,tru,All]))
    | succ d ih =>
      intro k hk
      have hrec:=ih (k+1) (by omega)
      have hd:decide ((k:Int)<(p.1.2.1.1:Int))=true:=decide_eq_true (by omega)
      have cf:=con_Falls_i p hp k (by omega)
      have hf:=fwR_n p k
      have e:wbD p (k+1)=if ((fwR p k).1:Int)>(wbD p k).2 then ((k:Int),((fwR p k).1:Int)) else wbD p k:=rfl
      generalize fwR p k=F at *
      by_cases hh:(F.1:Int)>(wbD p k).2
      · rw [e,if_pos hh] at hrec
        have hg:decide ((F.1:Int)>(wbD p k).2)=true:=decide_eq_true hh
        generalize wbD p k=q at hg hrec ⊢
        refine pcD hc (zqWa p k F.1 q.1 q.2 F.2) ?_ hrec
        and_intros
        all_goals (first | exact zN | (exact hd) | (exact cf) | (exact hg) | (intro t ht;simp [cvtL,cvt,tg,tru,All]))
      · rw [e,if_neg hh] at hrec
        have hg:decide ((F.1:Int)>(wbD p k).2)=false:=decide_eq_false hh
        generalize wbD p k=q at hg hrec ⊢
        refine pcD hc (zqWb p k F.1 q.1 q.2 F.2) ?_ hrec
        and_intros
        all_goals (first | exact zN | (exact hd) | (exact cf) | (exact hg) | (intro t ht;simp [cvtL,cvt,tg,tru,All]))
  refine pcD hc (zqWz p) ?_ (lo p.1.2.1.1 0 (by omega))
  and_intros
  all_goals (first | exact zN | (intro t ht;simp [cvtL,cvt,tg,tru,All]))
theorem con_Worst_s (p:T_Pinned) (hp:pinnedF p=true):zE 117 [pinA p] [] (.tup [.p (.int .i64 (wbD p p.1.2.1.1).1),.p (.int .i64 (wbD p p.1.2.1.1).2)]):=by
  have ok:=pin_ok hp
  have hnb:=ok.nb
  refine csZ Tryz.func117 (fun c hc=>?_)
  generalize hR:wbD p p.1.2.1.1=R
  have lo:∀ d k,k+d=p.1.2.1.1→zR c 117 zf47 (SYv p k (wbD p k).1 (wbD p k).2) (Post c [] (.tup [.p (.int .i64 R.1),.p (.int .i64 R.2)])):=by
    intro d
    induction d with
    | zero =>
      intro k hk
      obtain rfl:k=p.1.2.1.1:=by omega
      have hd:decide ((p.1.2.1.1:Int)<(p.1.2.1.1:Int))=false:=by simp
      rw [hR]
      refine pkZ Tryz.func117 hc (zqVe p p.1.2.1.1 R.1 R.2) ?_
      and_intros
      all_goals (first | exact zN | (exact hd) | (intro t ht;simp [cvtL,cvt,tg,tru,All]))
    | succ d ih =>
      intro k hk
      have hrec:=ih (k+1) (by omega)
      have hd:decide ((k:Int)<(p.1.2.1.1:Int))=true:=decide_eq_true (by omega)
      have cf:=con_Falls_s p hp k (by omega)
      have hf:=fwR_n p k
      have e:wbD p (k+1)=if ((fwR p k).1:Int)>(wbD p k).2 then ((k:Int),((fwR p k).1:Int)) else wbD p k:=rfl
      generalize fwR p k=F at *
      by_cases hh:(F.1:Int)>(wbD p k).2
      · rw [e,if_pos hh] at hrec
        have hg:decide ((F.1:Int)>(wbD p k).2)=true:=decide_eq_true hh
        generalize wbD p k=q at hg hrec ⊢
        refine pcD hc (zqVa p k F.1 q.1 q.2 F.2) ?_ hrec
        and_intros
        all_goals (first | exact zN | (exact hd) | (exact cf) | (exact hg) | (intro t ht;simp [cvtL,cvt,tg,tru,All]))
      · rw [e,if_neg hh] at hrec
        have hg:decide ((F.1:Int)>(wbD p k).2)=false:=decide_eq_false hh
        generalize wbD p k=q at hg hrec ⊢
        refine pcD hc (zqVb p k F.1 q.1 q.2 F.2) ?_ hrec
        and_intros
        all_goals (first | exact zN | (exact hd) | (exact cf) | (exact hg) | (intro t ht;simp [cvtL,cvt,tg,tru,All]))
  refine pcD hc (zqVz p) ?_ (lo p.1.2.1.1 0 (by omega))
  and_intros
  all_goals (first | exact zN | (intro t ht;simp [cvtL,cvt,tg,tru,All]))
noncomputable def ilB (p:T_Pinned):ByteArray :=
  if pinnedF p=true then
    (if (wbD p p.1.2.1.1).1<0 then ((((kBars++fmtI p.1.2.1.1)++kFree)++fmtI (frG p))++kSteady)++fmtI (sdR p).1
    else ((((((((kBars++fmtI p.1.2.1.1)++kFree)++fmtI (frG p))++kSteady)++fmtI (sdR p).1)++kWorst)++enB (p.1.2.1.2 (wbD p p.1.2.1.1).1.toNat))++kDrops)++fmtI (wbD p p.1.2.1.1).2)
  else ⟨#[]⟩
theorem frG_in (p:T_Pinned):-100≤frG p∧frG p≤100:=by
  have h1:=prG_in p
  have h2:=inrP_n p
  unfold frG
  split<;>omega
theorem con_Inspect_i (p:T_Pinned) (hs:smS s_Pinned p):zE 45 [pinA p] [] (.p (.str (ilB p))):=by
  have c1:=con_IsPinned_i p hs
  refine csZ Tryz.func45 (fun c hc=>?_)
  cases hp:pinnedF p with
  | false =>
    rw [hp] at c1
    rw [show ilB p=⟨#[]⟩ by simp [ilB,hp]]
    refine pkZ Tryz.func45 hc (lIn p) ?_
    and_intros
    all_goals (first | exact zN | (exact c1))
  | true =>
    rw [hp] at c1
    have ok:=pin_ok hp
    have hnb:=ok.nb
    have hfr:=frG_in p
    have hst:=sdR_n p
    have hw:=wbD_in p p.1.2.1.1
    have c2:=con_FormatInt_i p.1.2.1.1 (by omega) (by omega)
    have c3:=con_PinnedFreedom_i p hs
    have c4:=con_FormatInt_i (frG p) (by omega) (by omega)
    have c5:=con_Steady_i p hs
    have c6:=con_FormatInt_i (sdR p).1 (by omega) (by omega)
    have c7:=con_Worst_i p hp
    have c8:=con_FormatInt_i (wbD p p.1.2.1.1).2 (by omega) (by omega)
    have s1:=fmt_size p.1.2.1.1
    have s2:=fmt_size (frG p)
    have s3:=fmt_size (sdR p).1
    have s5:=fmt_size (wbD p p.1.2.1.1).2
    by_cases hw0:(wbD p p.1.2.1.1).1<0
    · rw [show ilB p=((((kBars++fmtI p.1.2.1.1)++kFree)++fmtI (frG p))++kSteady)++fmtI (sdR p).1 by simp [ilB,hp,hw0]]
      have hd:decide ((wbD p p.1.2.1.1).1≥0)=false:=decide_eq_false (by omega)
      generalize wbD p p.1.2.1.1=w at *
      generalize sdR p=S at *
      generalize frG p=fr at *
      generalize fmtI p.1.2.1.1=f1 at *
      generalize fmtI fr=f2 at *
      generalize fmtI S.1=f3 at *
      refine pkZ Tryz.func45 hc (lIb p fr w.1 w.2 S.1 S.2 f1 f2 f3) ?_
      and_intros
      all_goals (first | exact zN | (exact c1) | (exact c2) | (exact c3) | (exact c4) | (exact c5) | (exact c6) | (exact c7) | (exact hd) | (simp only [ByteArray.size_append,kBars_z,kFree_z,kSteady_z,kWorst_z,kDrops_z,kDash_z];omega))
    · rw [show ilB p=((((((((kBars++fmtI p.1.2.1.1)++kFree)++fmtI (frG p))++kSteady)++fmtI (sdR p).1)++kWorst)++enB (p.1.2.1.2 (wbD p p.1.2.1.1).1.toNat))++kDrops)++fmtI (wbD p p.1.2.1.1).2 by simp [ilB,hp,hw0]]
      have hd:decide ((wbD p p.1.2.1.1).1≥0)=true:=decide_eq_true (by omega)
      have hb:=ok.bars (wbD p p.1.2.1.1).1.toNat (by omega)
      have hN:=ok.N
      have c9:=con_ends (p.1.2.1.2 (wbD p p.1.2.1.1).1.toNat) (by omega) (by omega)
      have s4:=enB_size (p.1.2.1.2 (wbD p p.1.2.1.1).1.toNat)
      generalize enB (p.1.2.1.2 (wbD p p.1.2.1.1).1.toNat)=f4 at *
      generalize wbD p p.1.2.1.1=w at *
      generalize sdR p=S at *
      generalize frG p=fr at *
      generalize fmtI p.1.2.1.1=f1 at *
      generalize fmtI fr=f2 at *
      generalize fmtI S.1=f3 at *
      generalize fmtI w.2=f5 at *
      refine pkZ Tryz.func45 hc (lIa p fr w.1 w.2 S.1 S.2 f1 f2 f3 f4 f5) ?_
      and_intros
      all_goals (first | exact zN | (exact c1) | (exact c2) | (exact c3) | (exact c4) | (exact c5) | (exact c6) | (exact c7) | (exact c8) | (exact c9) | (exact hd) | (simp only [ByteArray.size_append,kBars_z,kFree_z,kSteady_z,kWorst_z,kDrops_z,kDash_z];omega))
theorem con_Inspect_s (p:T_Pinned) (hs:smS s_Pinned p):zE 46 [pinA p] [] (.p (.str (ilB p))):=by
  have c1:=con_IsPinned_s p hs
  refine csZ Tryz.func46 (fun c hc=>?_)
  cases hp:pinnedF p with
  | false =>
    rw [hp] at c1
    rw [show ilB p=⟨#[]⟩ by simp [ilB,hp]]
    refine pkZ Tryz.func46 hc (lSn p) ?_
    and_intros
    all_goals (first | exact zN | (exact c1))
  | true =>
    rw [hp] at c1
    have ok:=pin_ok hp
    have hnb:=ok.nb
    have hfr:=frG_in p
    have hst:=sdR_n p
    have hw:=wbD_in p p.1.2.1.1
    have c2:=con_FormatInt_s p.1.2.1.1 (by omega) (by omega)
    have c3:=con_PinnedFreedom_s p hs
    have c4:=con_FormatInt_s (frG p) (by omega) (by omega)
    have c5:=con_Steady_s p hs
    have c6:=con_FormatInt_s (sdR p).1 (by omega) (by omega)
    have c7:=con_Worst_s p hp
    have c8:=con_FormatInt_s (wbD p p.1.2.1.1).2 (by omega) (by omega)
    have s1:=fmt_size p.1.2.1.1
    have s2:=fmt_size (frG p)
    have s3:=fmt_size (sdR p).1
    have s5:=fmt_size (wbD p p.1.2.1.1).2
    by_cases hw0:(wbD p p.1.2.1.1).1<0
    · rw [show ilB p=((((kBars++fmtI p.1.2.1.1)++kFree)++fmtI (frG p))++kSteady)++fmtI (sdR p).1 by simp [ilB,hp,hw0]]
      have hd:decide ((wbD p p.1.2.1.1).1≥0)=false:=decide_eq_false (by omega)
      generalize wbD p p.1.2.1.1=w at *
      generalize sdR p=S at *
      generalize frG p=fr at *
      generalize fmtI p.1.2.1.1=f1 at *
      generalize fmtI fr=f2 at *
      generalize fmtI S.1=f3 at *
      refine pkZ Tryz.func46 hc (lSb p fr w.1 w.2 S.1 S.2 f1 f2 f3) ?_
      and_intros
      all_goals (first | exact zN | (exact c1) | (exact c2) | (exact c3) | (exact c4) | (exact c5) | (exact c6) | (exact c7) | (exact hd) | (simp only [ByteArray.size_append,kBars_z,kFree_z,kSteady_z,kWorst_z,kDrops_z,kDash_z];omega))
    · have hb:=ok.bars (wbD p p.1.2.1.1).1.toNat (by omega)
      have hN:=ok.N
      have he:ilB p=(((((((((((kBars++fmtI p.1.2.1.1)++kFree)++fmtI (frG p))++kSteady)++fmtI (sdR p).1)++kWorst)++fmtI (p.1.2.1.2 (wbD p p.1.2.1.1).1.toNat).1)++kDash)++fmtI (p.1.2.1.2 (wbD p p.1.2.1.1).1.toNat).2.1)++kDrops)++fmtI (wbD p p.1.2.1.1).2):=by
        unfold ilB
        rw [if_pos hp,if_neg hw0,enB,if_neg (by omega),if_pos (by omega)]
        simp only [ByteArray.append_assoc]
      rw [he]
      have hd:decide ((wbD p p.1.2.1.1).1≥0)=true:=decide_eq_true (by omega)
      have c9:=con_FormatInt_s (p.1.2.1.2 (wbD p p.1.2.1.1).1.toNat).1 (by omega) (by omega)
      have c10:=con_FormatInt_s (p.1.2.1.2 (wbD p p.1.2.1.1).1.toNat).2.1 (by omega) (by omega)
      have s4:=fmt_size (p.1.2.1.2 (wbD p p.1.2.1.1).1.toNat).1
      have s6:=fmt_size (p.1.2.1.2 (wbD p p.1.2.1.1).1.toNat).2.1
      generalize fmtI (p.1.2.1.2 (wbD p p.1.2.1.1).1.toNat).1=f4 at *
      generalize fmtI (p.1.2.1.2 (wbD p p.1.2.1.1).1.toNat).2.1=f6 at *
      generalize wbD p p.1.2.1.1=w at *
      generalize sdR p=S at *
      generalize frG p=fr at *
      generalize fmtI p.1.2.1.1=f1 at *
      generalize fmtI fr=f2 at *
      generalize fmtI S.1=f3 at *
      generalize fmtI w.2=f5 at *
      refine pkZ Tryz.func46 hc (lSa p fr w.1 w.2 S.1 S.2 f1 f2 f3 f4 f6 f5) ?_
      and_intros
      all_goals (first | exact zN | (exact c1) | (exact c2) | (exact c3) | (exact c4) | (exact c5) | (exact c6) | (exact c7) | (exact c8) | (exact c9) | (exact c10) | (exact hd) | (simp only [ByteArray.size_append,kBars_z,kFree_z,kSteady_z,kWorst_z,kDrops_z,kDash_z];omega))
def hitB (x:T_Bar) (a b:Int):Bool:=bif bif x.1==a then x.2.1==b else false then true else bif x.1==b then x.2.1==a else false
def SOs (v:T_Graph) (a b:Int) (k n:Nat):St :=
  ⟨[graphA v,.p (.int .i64 a),.p (.int .i64 b),.pt 2 0 0 0,.p .any,.p .any,.p .any,.p (.int .i64 n),.p (.int .i64 k)]++List.replicate 48 anyA,[(0,boxG v)],1⟩
def SOi (v:T_Graph) (a b:Int) (k n:Nat):St :=
  ⟨[graphA v,.p (.int .i64 a),.p (.int .i64 b),.pt 2 0 0 0,.p .any,.p .any,.p .any,.p (.int .i64 n),.p .any,.p .any,.p .any,graphL v.2.1,.p (.int .i64 v.2.1.1),.p (.int .i64 k)]++List.replicate 29 anyA,[(0,boxG v)],1⟩
def SMso (v:T_Graph) (a n:Nat) (h:Nat→T_Bar):St :=
  ⟨[graphA v,.pt 2 0 0 0,.p .any,.ar 2 1 0 n,.p (.int .i64 a)]++List.replicate 32 anyA,[(0,boxG v),(1,brOb n h)],2⟩
def SMsi (v:T_Graph) (a b n:Nat) (h:Nat→T_Bar):St :=
  ⟨[graphA v,.pt 2 0 0 0,.p .any,.ar 2 1 0 n,.p (.int .i64 a),.p (.int .i64 b)]++List.replicate 31 anyA,[(0,boxG v),(1,brOb n h)],2⟩
def SMio (v:T_Graph) (a n:Nat) (h:Nat→T_Bar):St :=
  ⟨[graphA v,.pt 2 0 0 0,.p .any,.ar 2 1 0 n]++List.replicate 8 anyA++[.p (.int .i64 v.1),.p (.int .i64 a)]++List.replicate 23 anyA,[(0,boxG v),(1,brOb n h)],2⟩
def SMii (v:T_Graph) (a b n:Nat) (h:Nat→T_Bar):St :=
  ⟨[graphA v,.pt 2 0 0 0,.p .any,.ar 2 1 0 n,.p (.int .i64 a),.p (.int .i64 b)]++List.replicate 6 anyA++[.p (.int .i64 v.1),.p (.int .i64 a)]++List.replicate 23 anyA,[(0,boxG v),(1,brOb n h)],2⟩
theorem oSz (v:T_Graph) (a b:Int) :
    zT Tryz.f153 [rg 2,rg 1,rg 1,.head] [graphA v,.p (.int .i64 a),.p (.int .i64 b)] [0] (SOs v a b 0 0) =
    some (zf64,zD [(AI v.1),(AN v.2.1.1),(AP v.2.1.1 (bRw v.2.1.2)),(AI a),(AI b),(AN 0),((0:Int)=(↑0:Int)),((([AV.p (PV.int IntKind.i64 v.1),graphL v.2.1].length):Nat)=2),(NL 1 1)] [0,1,2,3,4,5,6,6,7,8,8,0,1,2]):=by kernel_rfl
theorem oSt (v:T_Graph) (a b:Int) (k n:Nat) :
    zM 0 [rg 5,.dec true,rg 38,.dec true,rg 3,rg 3,.head] zf64 (SOs v a b k n) [0] 1 (SOs v a b (k+1) (n+1)) =
    some (zf64,zD [(NT 0 1),((decide ((↑k:Int)<(↑v.2.1.1:Int)))=true),(IL 0 (↑k:Int)),(IT (↑k:Int) (↑v.2.1.1:Int)),(AG ((v.2.1.2 k).1==a)),((((v.2.1.2 k).1==a)=true)→(NT 0 1)),((((v.2.1.2 k).1==a)=true)→(IL 0 (↑k:Int))),((((v.2.1.2 k).1==a)=true)→(IT (↑k:Int) (↑v.2.1.1:Int))),(AG (!bif (v.2.1.2 k).1==a then (v.2.1.2 k).2.1==b else false)),(((!bif (v.2.1.2 k).1==a then (v.2.1.2 k).2.1==b else false)=true)→(NT 0 1)),(((!bif (v.2.1.2 k).1==a then (v.2.1.2 k).2.1==b else false)=true)→(IL 0 (↑k:Int))),(((!bif (v.2.1.2 k).1==a then (v.2.1.2 k).2.1==b else false)=true)→(IT (↑k:Int) (↑v.2.1.1:Int))),(AG ((!bif (v.2.1.2 k).1==a then (v.2.1.2 k).2.1==b else false)&&(v.2.1.2 k).1==b)),((((!bif (v.2.1.2 k).1==a then (v.2.1.2 k).2.1==b else false)&&(v.2.1.2 k).1==b)=true)→(NT 0 1)),((((!bif (v.2.1.2 k).1==a then (v.2.1.2 k).2.1==b else false)&&(v.2.1.2 k).1==b)=true)→(IL 0 (↑k:Int))),((((!bif (v.2.1.2 k).1==a then (v.2.1.2 k).2.1==b else false)&&(v.2.1.2 k).1==b)=true)→(IT (↑k:Int) (↑v.2.1.1:Int))),(((!bif (v.2.1.2 k).1==a then (v.2.1.2 k).2.1==b else false)=true)→((((v.2.1.2 k).1==b)=true)→ (((!bif (v.2.1.2 k).1==a then (v.2.1.2 k).2.1==b else false)&&(v.2.1.2 k).1==b)=true))),(((bif (v.2.1.2 k).1==a then (v.2.1.2 k).2.1==b else false)=false)→ ((!bif (v.2.1.2 k).1==a then (v.2.1.2 k).2.1==b else false)=true)),((bif bif (v.2.1.2 k).1==a then (v.2.1.2 k).2.1==b else false then true else bif (v.2.1.2 k).1==b then (v.2.1.2 k).2.1==a else false)=true),(ZLo ((↑n:Int)+1)),(ZHi ((↑n:Int)+1)),(ZLo ((↑k:Int)+1)),(ZHi ((↑k:Int)+1)),(AI v.1),(AN v.2.1.1),(AP v.2.1.1 (bRw v.2.1.2)),(AI a),(AI b),(AN 0),((((↑n:Int)+1):Int)=(↑(n+1):Int)),((((↑k:Int)+1):Int)=(↑(k+1):Int)),(AN 2),(NL 1 1)] [0,1,0,2,3,4,5,4,4,6,7,4,4,4,4,4,8,9,8,8,10,11,8,8,8,8,8,12,13,12,12,14,15,12,12,12,12,8,16,17,18,19,20,21,22,23,24,25,26,27,28,29,30,31,32,32,23,24,25]):=by kernel_rfl
theorem oSf (v:T_Graph) (a b:Int) (k n:Nat) :
    zM 0 [rg 5,.dec true,rg 38,.dec false,rg 3,.head] zf64 (SOs v a b k n) [0] 1 (SOs v a b (k+1) n) =
    some (zf64,zD [(NT 0 1),((decide ((↑k:Int)<(↑v.2.1.1:Int)))=true),(IL 0 (↑k:Int)),(IT (↑k:Int) (↑v.2.1.1:Int)),(AG ((v.2.1.2 k).1==a)),((((v.2.1.2 k).1==a)=true)→(NT 0 1)),((((v.2.1.2 k).1==a)=true)→(IL 0 (↑k:Int))),((((v.2.1.2 k).1==a)=true)→(IT (↑k:Int) (↑v.2.1.1:Int))),(AG (!bif (v.2.1.2 k).1==a then (v.2.1.2 k).2.1==b else false)),(((!bif (v.2.1.2 k).1==a then (v.2.1.2 k).2.1==b else false)=true)→(NT 0 1)),(((!bif (v.2.1.2 k).1==a then (v.2.1.2 k).2.1==b else false)=true)→(IL 0 (↑k:Int))),(((!bif (v.2.1.2 k).1==a then (v.2.1.2 k).2.1==b else false)=true)→(IT (↑k:Int) (↑v.2.1.1:Int))),(AG ((!bif (v.2.1.2 k).1==a then (v.2.1.2 k).2.1==b else false)&&(v.2.1.2 k).1==b)),((((!bif (v.2.1.2 k).1==a then (v.2.1.2 k).2.1==b else false)&&(v.2.1.2 k).1==b)=true)→(NT 0 1)),((((!bif (v.2.1.2 k).1==a then (v.2.1.2 k).2.1==b else false)&&(v.2.1.2 k).1==b)=true)→(IL 0 (↑k:Int))),((((!bif (v.2.1.2 k).1==a then (v.2.1.2 k).2.1==b else false)&&(v.2.1.2 k).1==b)=true)→(IT (↑k:Int) (↑v.2.1.1:Int))),(((!bif (v.2.1.2 k).1==a then (v.2.1.2 k).2.1==b else false)=true)→((((v.2.1.2 k).1==b)=true)→ (((!bif (v.2.1.2 k).1==a then (v.2.1.2 k).2.1==b else false)&&(v.2.1.2 k).1==b)=true))),(((bif (v.2.1.2 k).1==a then (v.2.1.2 k).2.1==b else false)=false)→ ((!bif (v.2.1.2 k).1==a then (v.2.1.2 k).2.1==b else false)=true)),((bif bif (v.2.1.2 k).1==a then (v.2.1.2 k).2.1==b else false then true else bif (v.2.1.2 k).1==b then (v.2.1.2 k).2.1==a else false)=false),(ZLo ((↑k:Int)+1)),(ZHi ((↑k:Int)+1)),(AI v.1),(AN v.2.1.1),(AP v.2.1.1 (bRw v.2.1.2)),(AI a),(AI b),(AN 0),(AI ((↑n:Int))),((((↑k:Int)+1):Int)=(↑(k+1):Int)),(AN 2),(NL 1 1)] [0,1,0,2,3,4,5,4,4,6,7,4,4,4,4,4,8,9,8,8,10,11,8,8,8,8,8,12,13,12,12,14,15,12,12,12,12,8,16,17,18,19,20,21,22,23,24,25,26,27,28,29,30,30,21,22,23]):=by kernel_rfl
theorem oSe (v:T_Graph) (a b:Int) (k n:Nat) :
    zP Tryz.f153 0 [rg 5,.dec false,rg 2] zf64 (SOs v a b k n) [] 1 [] (.p (.int .i64 n)) =
    some [(NT 0 1),((decide ((↑k:Int)<(↑v.2.1.1:Int)))=false),(AI ((↑n:Int)))]:=by kernel_rfl
theorem oIz (v:T_Graph) (a b:Int) :
    zT Tryz.f150 [rg 2,rg 1,rg 4,.head] [graphA v,.p (.int .i64 a),.p (.int .i64 b)] [0] (SOi v a b 0 0) =
    some (zf65,zD [(NT 0 1),(AI v.1),(AN v.2.1.1),(AP v.2.1.1 (bRw v.2.1.2)),(AI a),(AI b),(AN 0),((0:Int)=(↑0:Int)),(AI ((↑v.2.1.1:Int))),((([AV.p (PV.int IntKind.i64 v.1),graphL v.2.1].length):Nat)=2),(NL 1 1)] [0,1,2,3,4,5,6,7,2,3,8,7,9,10,10,1,2,3]):=by kernel_rfl
theorem oIt (v:T_Graph) (a b:Int) (k n:Nat) :
    zM 0 [rg 1,.dec true,rg 4,rg 22,.dec true,rg 3,rg 2,.head] zf65 (SOi v a b k n) [0] 1 (SOi v a b (k+1) (n+1)) =
    some (zf65,zD [((decide ((↑k:Int)<(↑v.2.1.1:Int)))=true),(IL 0 (↑k:Int)),(IT (↑k:Int) (↑v.2.1.1:Int)),(NT 0 1),((true=true)→ (AN 1)),(AG ((v.2.1.2 k).1==a)),((((v.2.1.2 k).1==a)=true)→(NT 0 1)),(AG (!bif (v.2.1.2 k).1==a then (v.2.1.2 k).2.1==b else false)),(((!bif (v.2.1.2 k).1==a then (v.2.1.2 k).2.1==b else false)=true)→(NT 0 1)),(AG ((!bif (v.2.1.2 k).1==a then (v.2.1.2 k).2.1==b else false)&&(v.2.1.2 k).1==b)),((((!bif (v.2.1.2 k).1==a then (v.2.1.2 k).2.1==b else false)&&(v.2.1.2 k).1==b)=true)→(NT 0 1)),(((!bif (v.2.1.2 k).1==a then (v.2.1.2 k).2.1==b else false)=true)→((((v.2.1.2 k).1==b)=true)→ (((!bif (v.2.1.2 k).1==a then (v.2.1.2 k).2.1==b else false)&&(v.2.1.2 k).1==b)=true))),(((bif (v.2.1.2 k).1==a then (v.2.1.2 k).2.1==b else false)=false)→ ((!bif (v.2.1.2 k).1==a then (v.2.1.2 k).2.1==b else false)=true)),((bif bif (v.2.1.2 k).1==a then (v.2.1.2 k).2.1==b else false then true else bif (v.2.1.2 k).1==b then (v.2.1.2 k).2.1==a else false)=true),(ZLo ((↑n:Int)+1)),(ZHi ((↑n:Int)+1)),(ZLo ((↑k:Int)+1)),(ZHi ((↑k:Int)+1)),(AI v.1),(AN v.2.1.1),(AP v.2.1.1 (bRw v.2.1.2)),(AI a),(AI b),(AN 0),((((↑n:Int)+1):Int)=(↑(n+1):Int)),(AI ((↑v.2.1.1:Int))),((((↑k:Int)+1):Int)=(↑(k+1):Int)),(AN 2),(NL 1 1)] [0,1,2,3,4,3,5,6,5,5,5,7,8,7,7,7,9,10,9,9,7,11,12,13,14,15,16,17,18,19,20,21,22,23,24,19,20,25,26,27,28,28,18,19,20]):=by kernel_rfl
theorem oIf (v:T_Graph) (a b:Int) (k n:Nat) :
    zM 0 [rg 1,.dec true,rg 4,rg 22,.dec false,rg 2,.head] zf65 (SOi v a b k n) [0] 1 (SOi v a b (k+1) n) =
    some (zf65,zD [((decide ((↑k:Int)<(↑v.2.1.1:Int)))=true),(IL 0 (↑k:Int)),(IT (↑k:Int) (↑v.2.1.1:Int)),(NT 0 1),((true=true)→ (AN 1)),(AG ((v.2.1.2 k).1==a)),((((v.2.1.2 k).1==a)=true)→(NT 0 1)),(AG (!bif (v.2.1.2 k).1==a then (v.2.1.2 k).2.1==b else false)),(((!bif (v.2.1.2 k).1==a then (v.2.1.2 k).2.1==b else false)=true)→(NT 0 1)),(AG ((!bif (v.2.1.2 k).1==a then (v.2.1.2 k).2.1==b else false)&&(v.2.1.2 k).1==b)),((((!bif (v.2.1.2 k).1==a then (v.2.1.2 k).2.1==b else false)&&(v.2.1.2 k).1==b)=true)→(NT 0 1)),(((!bif (v.2.1.2 k).1==a then (v.2.1.2 k).2.1==b else false)=true)→((((v.2.1.2 k).1==b)=true)→ (((!bif (v.2.1.2 k).1==a then (v.2.1.2 k).2.1==b else false)&&(v.2.1.2 k).1==b)=true))),(((bif (v.2.1.2 k).1==a then (v.2.1.2 k).2.1==b else false)=false)→ ((!bif (v.2.1.2 k).1==a then (v.2.1.2 k).2.1==b else false)=true)),((bif bif (v.2.1.2 k).1==a then (v.2.1.2 k).2.1==b else false then true else bif (v.2.1.2 k).1==b then (v.2.1.2 k).2.1==a else false)=false),(ZLo ((↑k:Int)+1)),(ZHi ((↑k:Int)+1)),(AI v.1),(AN v.2.1.1),(AP v.2.1.1 (bRw v.2.1.2)),(AI a),(AI b),(AN 0),(AI ((↑n:Int))),(AI ((↑v.2.1.1:Int))),((((↑k:Int)+1):Int)=(↑(k+1):Int)),(AN 2),(NL 1 1)] [0,1,2,3,4,3,5,6,5,5,5,7,8,7,7,7,9,10,9,9,7,11,12,13,14,15,16,17,18,19,20,21,22,17,18,23,24,25,26,26,16,17,18]):=by kernel_rfl
theorem oIe (v:T_Graph) (a b:Int) (k n:Nat) :
    zP Tryz.f150 0 [rg 1,.dec false,rg 2] zf65 (SOi v a b k n) [] 1 [] (.p (.int .i64 n)) =
    some [((decide ((↑k:Int)<(↑v.2.1.1:Int)))=false),(AI ((↑n:Int)))]:=by kernel_rfl
theorem mSz (v:T_Graph) :
    zT Tryz.f79 [rg 2,rg 2,rg 1,.head] [graphA v] [0,64] (SMso v 0 0 (fun _=>(0,0,()))) =
    some (zf73,zD [(AI v.1),(AN v.2.1.1),(AP v.2.1.1 (bRw v.2.1.2)),(AN 0),((0:Int)=(↑0:Int)),((([AV.p (PV.int IntKind.i64 v.1),graphL v.2.1].length):Nat)=2),(NL 1 1),(AN 2),(NL 0 0),(AA 0 (fun i=>[.p (.int .i64 0),.p (.int .i64 0)]))] [0,1,2,3,3,3,4,5,6,6,0,1,2,7,8,9]):=by kernel_rfl
theorem mSo (v:T_Graph) (a n:Nat) (h:Nat→T_Bar) (b:Bool) :
    zM 0 [rm [(6,oc [] (.p (.bool b)))] 1,.dec true,rg 3,.head] zf73 (SMso v a n h) [0,1] 1 (SMsi v a (a+1) n h) =
    some (zf11,zD [(NT 0 1),(((decide ((↑a:Int)<v.1))=true)→(NT 0 1)),(AG (decide ((↑a:Int)<v.1))),(((decide ((↑a:Int)<v.1))=true)→ zE 134 [(zf100 v)] [] (.p (.bool b))),((bif decide ((↑a:Int)<v.1) then b else false)=true),(ZLo ((↑a:Int)+1)),(ZHi ((↑a:Int)+1)),(AI v.1),(AN v.2.1.1),(AP v.2.1.1 (bRw v.2.1.2)),(AN 0),(AN n),(AI ((↑a:Int))),((((↑a:Int)+1):Int)=(↑(a+1):Int)),(AN 2),(NL 1 1),(NL n n),(AA n (fun i=>[.p (.int .i64 ((h i).1)),.p (.int .i64 ((h i).2.1))]))] [0,1,2,3,2,4,5,6,7,8,9,10,10,11,12,13,14,15,15,7,8,9,14,16,17]):=by kernel_rfl
theorem mSt (v:T_Graph) (a b n c:Nat) (h:Nat→T_Bar) :
    zM 0 [rg 4,.dec true,rm [(3,oc [] (.p (.int .i64 c)))] 1,.dec true,rg 7,rg 3,.head] zf11 (SMsi v a b n h) [0,450] 1 (SMsi v a (b+1) (n+1) (snoc n h (a,b,()))) =
    some (zf11,zD [(NT 0 1),((decide ((↑b:Int)<v.1))=true),zE 153 [(zf100 v),.p (.int .i64 (↑a:Int)),.p (.int .i64 (↑b:Int))] [] (.p (.int .i64 (↑c:Int))),(((↑c:Int)==0)=true),(NL 1 1),(NL n n),(NL ((n+1)*16) 140737488355328),(NL (n+1) 9223372036854775807),(ZLo ((↑b:Int)+1)),(ZHi ((↑b:Int)+1)),(AI v.1),(AN v.2.1.1),(AP v.2.1.1 (bRw v.2.1.2)),(AN 0),(AN ((n+1))),(AI ((↑a:Int))),((((↑b:Int)+1):Int)=(↑(b+1):Int)),(AN 2),(NL (n+1) (n+1)),(CV [(450,⟨false,2,(n+1),(fun i_1=>(if (i_1<n) then [.p (.int .i64 ((h i_1).1)),.p (.int .i64 ((h i_1).2.1))] else [.p (.int .i64 (↑a:Int)),.p (.int .i64 (↑b:Int))]))⟩),(418,⟨false,2,1,(fun i_1=>[.p (.int .i64 (↑a:Int)),.p (.int .i64 (↑b:Int))])⟩),(0,⟨true,2,1,(fun i_1=>[.p (.int .i64 v.1),.p (.seq true 2 v.2.1.1 (bRw v.2.1.2))])⟩)] [0,450] 1 (n+1) (fun i=>if (i<n) then [.p (.int .i64 ((h i).1)),.p (.int .i64 ((h i).2.1))] else [.p (.int .i64 (↑a:Int)),.p (.int .i64 (↑b:Int))]) (fun i=>[.p (.int .i64 (if i<n then (h i).1 else (↑a:Int))),.p (.int .i64 (if i<n then (h i).2.1 else (↑b:Int)))]))] [0,1,0,2,3,4,5,6,7,8,9,10,11,12,13,13,14,15,16,17,4,4,10,11,12,17,18,19]):=by kernel_rfl
theorem mSf (v:T_Graph) (a b n c:Nat) (h:Nat→T_Bar) :
    zM 0 [rg 4,.dec true,rm [(3,oc [] (.p (.int .i64 c)))] 1,.dec false,rg 3,.head] zf11 (SMsi v a b n h) [0,1] 1 (SMsi v a (b+1) n h) =
    some (zf11,zD [(NT 0 1),((decide ((↑b:Int)<v.1))=true),zE 153 [(zf100 v),.p (.int .i64 (↑a:Int)),.p (.int .i64 (↑b:Int))] [] (.p (.int .i64 (↑c:Int))),(((↑c:Int)==0)=false),(ZLo ((↑b:Int)+1)),(ZHi ((↑b:Int)+1)),(AI v.1),(AN v.2.1.1),(AP v.2.1.1 (bRw v.2.1.2)),(AN 0),(AN n),(AI ((↑a:Int))),((((↑b:Int)+1):Int)=(↑(b+1):Int)),(AN 2),(NL 1 1),(NL n n),(AA n (fun i=>[.p (.int .i64 ((h i).1)),.p (.int .i64 ((h i).2.1))]))] [0,1,0,2,3,4,5,6,7,8,9,9,10,11,12,13,14,14,6,7,8,13,15,16]):=by kernel_rfl
theorem mSx (v:T_Graph) (a b n:Nat) (h:Nat→T_Bar) :
    zM 0 [rg 4,.dec false,rg 3,.head] zf11 (SMsi v a b n h) [0,1] 1 (SMso v (a+1) n h) =
    some (zf73,zD [(NT 0 1),((decide ((↑b:Int)<v.1))=false),(ZLo ((↑a:Int)+1)),(ZHi ((↑a:Int)+1)),(AI v.1),(AN v.2.1.1),(AP v.2.1.1 (bRw v.2.1.2)),(AN 0),(AN n),((((↑a:Int)+1):Int)=(↑(a+1):Int)),(AN 2),(NL 1 1),(NL n n),(AA n (fun i=>[.p (.int .i64 ((h i).1)),.p (.int .i64 ((h i).2.1))]))] [0,1,2,3,4,5,6,7,7,8,9,10,11,11,4,5,6,10,12,13]):=by kernel_rfl
theorem mSe (v:T_Graph) (a n:Nat) (h:Nat→T_Bar) (b:Bool) :
    zP Tryz.f79 0 [rm [(6,oc [] (.p (.bool b)))] 1,.dec false,rg 2] zf73 (SMso v a n h) [1] 1 [(0,brOb n h)] (.ar 2 0 0 n) =
    some [(NT 0 1),(((decide ((↑a:Int)<v.1))=true)→(NT 0 1)),(AG (decide ((↑a:Int)<v.1))),(((decide ((↑a:Int)<v.1))=true)→ zE 134 [(zf100 v)] [] (.p (.bool b))),(AG (decide ((↑a:Int)<v.1))),((bif decide ((↑a:Int)<v.1) then b else false)=false),(AN 0),(AN n),(AN 2),(NL n n),(AA n (fun i=>[.p (.int .i64 ((h i).1)),.p (.int .i64 ((h i).2.1))])),(AE n)]:=by kernel_rfl
theorem mIn (v:T_Graph) :
    zS Tryz.f75 [rg 2,rg 2,rm [(1,oc [] (.p (.bool false)))] 1,.dec true,rg 2] [graphA v] [64] [(0,brOb 0 (fun _=>(0,0,())))] (.ar 2 0 0 0) =
    some [(NT 0 1),zE 130 [(zf100 v)] [] (.p (.bool false)),((!false)=true),(AN 0),(AN 0),(AN 2),(NL 0 0),(AA 0 (fun i=>[.p (.int .i64 0),.p (.int .i64 0)])),(AE 0)]:=by kernel_rfl
theorem mIz (v:T_Graph) :
    zT Tryz.f75 [rg 2,rg 2,rm [(1,oc [] (.p (.bool true)))] 1,.dec false,rg 3,.head] [graphA v] [0,64] (SMio v 0 0 (fun _=>(0,0,()))) =
    some (zf51,zD [(NT 0 1),zE 130 [(zf100 v)] [] (.p (.bool true)),((!true)=false),(AI v.1),(AN v.2.1.1),(AP v.2.1.1 (bRw v.2.1.2)),(AN 0),((0:Int)=(↑0:Int)),((([AV.p (PV.int IntKind.i64 v.1),graphL v.2.1].length):Nat)=2),(NL 1 1),(AN 2),(NL 0 0),(AA 0 (fun i=>[.p (.int .i64 0),.p (.int .i64 0)]))] [0,1,2,0,3,4,5,6,6,6,3,7,8,9,9,3,4,5,10,11,12]):=by kernel_rfl
theorem mIo (v:T_Graph) (a n:Nat) (h:Nat→T_Bar) :
    zM 0 [rg 1,.dec true,rg 2,rg 3,.head] zf51 (SMio v a n h) [0,1] 1 (SMii v a (a+1) n h) =
    some (zf7,zD [((decide ((↑a:Int)<v.1))=true),(ZLo ((↑a:Int)+1)),(ZHi ((↑a:Int)+1)),(AI v.1),(AN v.2.1.1),(AP v.2.1.1 (bRw v.2.1.2)),(AN 0),(AN n),(AI ((↑a:Int))),((((↑a:Int)+1):Int)=(↑(a+1):Int)),(AN 2),(NL 1 1),(NL n n),(AA n (fun i=>[.p (.int .i64 ((h i).1)),.p (.int .i64 ((h i).2.1))]))] [0,1,2,3,4,5,6,6,7,8,9,3,8,10,11,11,3,4,5,10,12,13]):=by kernel_rfl
theorem mIt (v:T_Graph) (a b n c:Nat) (h:Nat→T_Bar) :
    zM 0 [rg 4,.dec true,rm [(3,oc [] (.p (.int .i64 c)))] 1,.dec true,rg 7,rg 3,.head] zf7 (SMii v a b n h) [0,450] 1 (SMii v a (b+1) (n+1) (snoc n h (a,b,()))) =
    some (zf7,zD [(NT 0 1),((decide ((↑b:Int)<v.1))=true),zE 150 [(zf100 v),.p (.int .i64 (↑a:Int)),.p (.int .i64 (↑b:Int))] [] (.p (.int .i64 (↑c:Int))),(((↑c:Int)==0)=true),(NL 1 1),(NL n n),(NL ((n+1)*16) 140737488355328),(NL (n+1) 9223372036854775807),(ZLo ((↑b:Int)+1)),(ZHi ((↑b:Int)+1)),(AI v.1),(AN v.2.1.1),(AP v.2.1.1 (bRw v.2.1.2)),(AN 0),(AN ((n+1))),(AI ((↑a:Int))),((((↑b:Int)+1):Int)=(↑(b+1):Int)),(AN 2),(NL (n+1) (n+1)),(CV [(450,⟨false,2,(n+1),(fun i_1=>(if (i_1<n) then [.p (.int .i64 ((h i_1).1)),.p (.int .i64 ((h i_1).2.1))] else [.p (.int .i64 (↑a:Int)),.p (.int .i64 (↑b:Int))]))⟩),(418,⟨false,2,1,(fun i_1=>[.p (.int .i64 (↑a:Int)),.p (.int .i64 (↑b:Int))])⟩),(0,⟨true,2,1,(fun i_1=>[.p (.int .i64 v.1),.p (.seq true 2 v.2.1.1 (bRw v.2.1.2))])⟩)] [0,450] 1 (n+1) (fun i=>if (i<n) then [.p (.int .i64 ((h i).1)),.p (.int .i64 ((h i).2.1))] else [.p (.int .i64 (↑a:Int)),.p (.int .i64 (↑b:Int))]) (fun i=>[.p (.int .i64 (if i<n then (h i).1 else (↑a:Int))),.p (.int .i64 (if i<n then (h i).2.1 else (↑b:Int)))]))] [0,1,0,2,3,4,5,6,7,8,9,10,11,12,13,13,14,15,16,10,15,17,4,4,10,11,12,17,18,19]):=by kernel_rfl
theorem mIf (v:T_Graph) (a b n c:Nat) (h:Nat→T_Bar) :
    zM 0 [rg 4,.dec true,rm [(3,oc [] (.p (.int .i64 c)))] 1,.dec false,rg 3,.head] zf7 (SMii v a b n h) [0,1] 1 (SMii v a (b+1) n h) =
    some (zf7,zD [(NT 0 1),((decide ((↑b:Int)<v.1))=true),zE 150 [(zf100 v),.p (.int .i64 (↑a:Int)),.p (.int .i64 (↑b:Int))] [] (.p (.int .i64 (↑c:Int))),(((↑c:Int)==0)=false),(ZLo ((↑b:Int)+1)),(ZHi ((↑b:Int)+1)),(AI v.1),(AN v.2.1.1),(AP v.2.1.1 (bRw v.2.1.2)),(AN 0),(AN n),(AI ((↑a:Int))),((((↑b:Int)+1):Int)=(↑(b+1):Int)),(AN 2),(NL 1 1),(NL n n),(AA n (fun i=>[.p (.int .i64 ((h i).1)),.p (.int .i64 ((h i).2.1))]))] [0,1,0,2,3,4,5,6,7,8,9,9,10,11,12,6,11,13,14,14,6,7,8,13,15,16]):=by kernel_rfl
theorem mIx (v:T_Graph) (a b n:Nat) (h:Nat→T_Bar) :
    zM 0 [rg 4,.dec false,rg 2,.head] zf7 (SMii v a b n h) [0,1] 1 (SMio v (a+1) n h) =
    some (zf51,zD [(NT 0 1),((decide ((↑b:Int)<v.1))=false),(ZLo ((↑a:Int)+1)),(ZHi ((↑a:Int)+1)),(AI v.1),(AN v.2.1.1),(AP v.2.1.1 (bRw v.2.1.2)),(AN 0),(AN n),((((↑a:Int)+1):Int)=(↑(a+1):Int)),(AN 2),(NL 1 1),(NL n n),(AA n (fun i=>[.p (.int .i64 ((h i).1)),.p (.int .i64 ((h i).2.1))]))] [0,1,2,3,4,5,6,7,7,8,4,9,10,11,11,4,5,6,10,12,13]):=by kernel_rfl
theorem mIe (v:T_Graph) (a n:Nat) (h:Nat→T_Bar) :
    zP Tryz.f75 0 [rg 1,.dec false,rg 2] zf51 (SMio v a n h) [1] 1 [(0,brOb n h)] (.ar 2 0 0 n) =
    some [((decide ((↑a:Int)<v.1))=false),(AN 0),(AN n),(AN 2),(NL n n),(AA n (fun i=>[.p (.int .i64 ((h i).1)),.p (.int .i64 ((h i).2.1))])),(AE n)]:=by kernel_rfl
def cbN (g:Nat→T_Bar) (a b:Int):Nat→Nat
  | 0=>0
  | k+1=>if hitB (g k) a b=true then cbN g a b k+1 else cbN g a b k
theorem cbN_le (g:Nat→T_Bar) (a b:Int):∀ k,cbN g a b k≤k
  | 0=>Nat.le_refl _
  | k+1=>by
    have:=cbN_le g a b k
    simp only [cbN]
    split<;>omega
theorem con_CountBar_s (v:T_Graph) (hs:smS s_Graph v) (a b:Int):zE 153 [graphA v,.p (.int .i64 a),.p (.int .i64 b)] [] (.p (.int .i64 (cbN v.2.1.2 a b v.2.1.1))):=by
  have hn:v.2.1.1≤1048576:=hs.2.1.1
  refine csZ Tryz.func153 (fun c hc=>?_)
  have lo:∀ d k,k+d=v.2.1.1→zR c 153 zf64 (SOs v a b k (cbN v.2.1.2 a b k)) (Post c [] (.p (.int .i64 (cbN v.2.1.2 a b v.2.1.1)))):=by
    intro d
    induction d with
    | zero =>
      intro k hk
      obtain rfl:k=v.2.1.1:=by omega
      have hd:decide ((v.2.1.1:Int)<(v.2.1.1:Int))=false:=by simp
      refine pkZ Tryz.func153 hc (oSe v a b v.2.1.1 _) ?_
      and_intros
      all_goals (first | exact zN | (exact hd))
    | succ d ih =>
      intro k hk
      have hd:decide ((k:Int)<(v.2.1.1:Int))=true:=decide_eq_true (by omega)
      have hrec:=ih (k+1) (by omega)
      have hl:=cbN_le v.2.1.2 a b k
      cases hh:hitB (v.2.1.2 k) a b with
      | true =>
        rw [show cbN v.2.1.2 a b (k+1)=cbN v.2.1.2 a b k+1 by simp [cbN,hh]] at hrec
        refine pcD hc (oSt v a b k _) ?_ hrec
        and_intros
        all_goals (first | exact zH | (exact hd) | (exact hh) | (simp;omega))
      | false =>
        rw [show cbN v.2.1.2 a b (k+1)=cbN v.2.1.2 a b k by simp [cbN,hh]] at hrec
        refine pcD hc (oSf v a b k _) ?_ hrec
        and_intros
        all_goals (first | exact zH | (exact hd) | (exact hh) | (simp;omega))
  refine pcD hc (oSz v a b) ?_ (lo v.2.1.1 0 (by omega))
  and_intros
  all_goals (first | exact zN | (simp;omega))
theorem con_CountBar_i (v:T_Graph) (hs:smS s_Graph v) (a b:Int):zE 150 [graphA v,.p (.int .i64 a),.p (.int .i64 b)] [] (.p (.int .i64 (cbN v.2.1.2 a b v.2.1.1))):=by
  have hn:v.2.1.1≤1048576:=hs.2.1.1
  refine csZ Tryz.func150 (fun c hc=>?_)
  have lo:∀ d k,k+d=v.2.1.1→zR c 150 zf65 (SOi v a b k (cbN v.2.1.2 a b k)) (Post c [] (.p (.int .i64 (cbN v.2.1.2 a b v.2.1.1)))):=by
    intro d
    induction d with
    | zero =>
      intro k hk
      obtain rfl:k=v.2.1.1:=by omega
      have hd:decide ((v.2.1.1:Int)<(v.2.1.1:Int))=false:=by simp
      refine pkZ Tryz.func150 hc (oIe v a b v.2.1.1 _) ?_
      and_intros
      all_goals (first | exact zN | (exact hd))
    | succ d ih =>
      intro k hk
      have hd:decide ((k:Int)<(v.2.1.1:Int))=true:=decide_eq_true (by omega)
      have hrec:=ih (k+1) (by omega)
      have hl:=cbN_le v.2.1.2 a b k
      cases hh:hitB (v.2.1.2 k) a b with
      | true =>
        rw [show cbN v.2.1.2 a b (k+1)=cbN v.2.1.2 a b k+1 by simp [cbN,hh]] at hrec
        refine pcD hc (oIt v a b k _) ?_ hrec
        and_intros
        all_goals (first | exact zH | (exact hd) | (exact hh) | (simp;omega))
      | false =>
        rw [show cbN v.2.1.2 a b (k+1)=cbN v.2.1.2 a b k by simp [cbN,hh]] at hrec
        refine pcD hc (oIf v a b k _) ?_ hrec
        and_intros
        all_goals (first | exact zH | (exact hd) | (exact hh) | (simp;omega))
  refine pcD hc (oIz v a b) ?_ (lo v.2.1.1 0 (by omega))
  and_intros
  all_goals (first | exact zN | (simp;omega))
def msI (v:T_Graph) (a:Nat) (r:NB):Nat→NB
  | 0=>r
  | j+1=>if cbN v.2.1.2 a ((a+1+j:Nat):Int) v.2.1.1=0 then sn (msI v a r j) (a,((a+1+j:Nat):Int),()) else msI v a r j
def msO (v:T_Graph):Nat→NB
  | 0=>zNB
  | a+1=>msI v a (msO v a) (v.1.toNat - (a+1))
def msP (v:T_Graph):NB:=if isGraphF v=true then msO v v.1.toNat else zNB
theorem msI_n (v:T_Graph) (a:Nat) (r:NB):∀ j,(msI v a r j).1≤r.1+j
  | 0=>Nat.le_refl _
  | j+1=>by
    have:=msI_n v a r j
    simp only [msI]
    split
    · simp only [sn];omega
    · omega
theorem msO_n (v:T_Graph) (h:v.1.toNat≤8):∀ a,(msO v a).1≤8*a
  | 0=>Nat.le_refl _
  | a+1=>by
    have:=msO_n v h a
    have:=msI_n v a (msO v a) (v.1.toNat - (a+1))
    simp only [msO]
    omega
theorem msP_n (v:T_Graph):(msP v).1≤64:=by
  unfold msP
  split
  · rename_i h
    have hg:=graph_inR h
    have:=msO_n v (by omega) v.1.toNat
    omega
  · exact Nat.zero_le _
theorem con_Missing_s (v:T_Graph) (hs:smS s_Graph v):zE 79 [graphA v] [(0,brOb (msP v).1 (msP v).2)] (.ar 2 0 0 (msP v).1):=by
  have c1:=con_IsGraph_s v hs
  refine csZ Tryz.func79 (fun c hc=>?_)
  cases hp:isGraphF v with
  | false =>
    rw [hp] at c1
    rw [show msP v=zNB by simp [msP,hp]]
    have hd:(bif decide (((0:Nat):Int)<v.1) then false else false)=false:=by cases decide (((0:Nat):Int)<v.1)<;>rfl
    have he:zR c 79 zf73 (SMso v 0 0 (fun _=>(0,0,()))) (Post c [(0,brOb zNB.1 zNB.2)] (.ar 2 0 0 zNB.1)):=by
      refine pkZ Tryz.func79 hc (mSe v 0 0 (fun _=>(0,0,())) false) ?_
      and_intros
      all_goals (first | exact zI | (intros;exact c1) | (exact hd) | (intro t ht;exact absurd ht (Nat.not_lt_zero _)) | (intro t ht;simp [All]))
    refine pcD hc (mSz v) ?_ he
    and_intros
    all_goals (first | exact zN | (intro t ht;exact absurd ht (Nat.not_lt_zero _)) | (intro t ht;simp [All]))
  | true =>
    have hg:=graph_inR hp
    rw [hp] at c1
    rw [show msP v=msO v v.1.toNat by simp [msP,hp]]
    generalize hR:msO v v.1.toNat=R
    have li:∀ a,a<v.1.toNat→(zR c 79 zf73 (SMso v (a+1) (msO v (a+1)).1 (msO v (a+1)).2) (Post c [(0,brOb R.1 R.2)] (.ar 2 0 0 R.1))) →
        ∀ d j,j+d=v.1.toNat - (a+1)→zR c 79 zf11 (SMsi v a (a+1+j) (msI v a (msO v a) j).1 (msI v a (msO v a) j).2) (Post c [(0,brOb R.1 R.2)] (.ar 2 0 0 R.1)):=by
      intro a ha hk d
      induction d with
      | zero =>
        intro j hj
        obtain rfl:j=v.1.toNat - (a+1):=by omega
        have hd:decide (((a+1+(v.1.toNat - (a+1)):Nat):Int)<v.1)=false:=decide_eq_false (by omega)
        refine pcD hc (mSx v a (a+1+(v.1.toNat - (a+1))) _ _) ?_ hk
        and_intros
        all_goals (first | exact zN | (exact hd) | (intro t ht;simp [All]))
      | succ d ih =>
        intro j hj
        have hd:decide (((a+1+j:Nat):Int)<v.1)=true:=decide_eq_true (by omega)
        have hrec:=ih (j+1) (by omega)
        have hn:=msI_n v a (msO v a) j
        have hn2:=msO_n v (by omega) a
        have cc:=con_CountBar_s v hs a ((a+1+j:Nat):Int)
        by_cases hh:cbN v.2.1.2 a ((a+1+j:Nat):Int) v.2.1.1=0
        · have hq:((cbN v.2.1.2 a ((a+1+j:Nat):Int) v.2.1.1:Int)==0)=true:=by rw [hh];rfl
          rw [show msI v a (msO v a) (j+1)=sn (msI v a (msO v a) j) (a,((a+1+j:Nat):Int),()) by simp only [msI,hh,if_true]] at hrec
          generalize msI v a (msO v a) j=q at hn hrec ⊢
          refine pcD hc (mSt v a (a+1+j) q.1 (cbN v.2.1.2 a ((a+1+j:Nat):Int) v.2.1.1) q.2) ?_ hrec
          and_intros
          all_goals (first | exact zN | (exact hd) | (exact cc) | (exact hq) | (intro t ht;by_cases h':t<q.1<;>simp [h',snoc,cvtL,cvt,tg,tru,All]) | (simp;omega))
        · have hq:((cbN v.2.1.2 a ((a+1+j:Nat):Int) v.2.1.1:Int)==0)=false:=beq_eq_false_iff_ne.2 (fun h=>hh (Int.ofNat_eq_zero.1 h))
          rw [show msI v a (msO v a) (j+1)=msI v a (msO v a) j by simp only [msI,hh,if_false]] at hrec
          generalize msI v a (msO v a) j=q at hn hrec ⊢
          refine pcD hc (mSf v a (a+1+j) q.1 (cbN v.2.1.2 a ((a+1+j:Nat):Int) v.2.1.1) q.2) ?_ hrec
          and_intros
          all_goals (first | exact zN | (exact hd) | (exact cc) | (exact hq) | (intro t ht;simp [All]) | (simp;omega))
    have lo:∀ d a,a+d=v.1.toNat→zR c 79 zf73 (SMso v a (msO v a).1 (msO v a).2) (Post c [(0,brOb R.1 R.2)] (.ar 2 0 0 R.1)):=by
      intro d
      induction d with
      | zero =>
        intro a ha
        obtain rfl:a=v.1.toNat:=by omega
        have hd:(bif decide (((v.1.toNat:Nat):Int)<v.1) then true else false)=false:=by
          rw [show decide (((v.1.toNat:Nat):Int)<v.1)=false from decide_eq_false (by omega)];rfl
        rw [hR]
        refine pkZ Tryz.func79 hc (mSe v v.1.toNat R.1 R.2 true) ?_
        and_intros
        all_goals (first | exact zI | (exact hd) | (intros;exact c1) | (intro t ht;simp [All]))
      | succ d ih =>
        intro a ha
        have hd:(bif decide ((a:Int)<v.1) then true else false)=true:=by
          rw [show decide ((a:Int)<v.1)=true from decide_eq_true (by omega)];rfl
        refine pcD hc (mSo v a _ _ true) ?_ (li a (by omega) (ih (a+1) (by omega)) (v.1.toNat - (a+1)) 0 (by omega))
        and_intros
        all_goals (first | exact zI | (exact hd) | (intros;exact c1) | (intro t ht;simp [All]))
    refine pcD hc (mSz v) ?_ (lo v.1.toNat 0 (by omega))
    and_intros
    all_goals (first | exact zN | (intro t ht;exact absurd ht (Nat.not_lt_zero _)) | (intro t ht;simp [All]))
theorem con_Missing_i (v:T_Graph) (hs:smS s_Graph v):zE 75 [graphA v] [(0,brOb (msP v).1 (msP v).2)] (.ar 2 0 0 (msP v).1):=by
  have c1:=con_IsGraph_i v hs
  refine csZ Tryz.func75 (fun c hc=>?_)
  cases hp:isGraphF v with
  | false =>
    rw [hp] at c1
    rw [show msP v=zNB by simp [msP,hp]]
    refine pkZ Tryz.func75 hc (mIn v) ?_
    and_intros
    all_goals (first | exact zN | (intros;exact c1) | (intro t ht;exact absurd ht (Nat.not_lt_zero _)) | (intro t ht;simp [All]))
  | true =>
    have hg:=graph_inR hp
    rw [hp] at c1
    rw [show msP v=msO v v.1.toNat by simp [msP,hp]]
    generalize hR:msO v v.1.toNat=R
    have li:∀ a,a<v.1.toNat→(zR c 75 zf51 (SMio v (a+1) (msO v (a+1)).1 (msO v (a+1)).2) (Post c [(0,brOb R.1 R.2)] (.ar 2 0 0 R.1))) →
        ∀ d j,j+d=v.1.toNat - (a+1)→zR c 75 zf7 (SMii v a (a+1+j) (msI v a (msO v a) j).1 (msI v a (msO v a) j).2) (Post c [(0,brOb R.1 R.2)] (.ar 2 0 0 R.1)):=by
      intro a ha hk d
      induction d with
      | zero =>
        intro j hj
        obtain rfl:j=v.1.toNat - (a+1):=by omega
        have hd:decide (((a+1+(v.1.toNat - (a+1)):Nat):Int)<v.1)=false:=decide_eq_false (by omega)
        refine pcD hc (mIx v a (a+1+(v.1.toNat - (a+1))) _ _) ?_ hk
        and_intros
        all_goals (first | exact zN | (exact hd) | (intro t ht;simp [All]) | (simp;omega))
      | succ d ih =>
        intro j hj
        have hd:decide (((a+1+j:Nat):Int)<v.1)=true:=decide_eq_true (by omega)
        have hrec:=ih (j+1) (by omega)
        have hn:=msI_n v a (msO v a) j
        have hn2:=msO_n v (by omega) a
        have cc:=con_CountBar_i v hs a ((a+1+j:Nat):Int)
        by_cases hh:cbN v.2.1.2 a ((a+1+j:Nat):Int) v.2.1.1=0
        · have hq:((cbN v.2.1.2 a ((a+1+j:Nat):Int) v.2.1.1:Int)==0)=true:=by rw [hh];rfl
          rw [show msI v a (msO v a) (j+1)=sn (msI v a (msO v a) j) (a,((a+1+j:Nat):Int),()) by simp only [msI,hh,if_true]] at hrec
          generalize msI v a (msO v a) j=q at hn hrec ⊢
          refine pcD hc (mIt v a (a+1+j) q.1 (cbN v.2.1.2 a ((a+1+j:Nat):Int) v.2.1.1) q.2) ?_ hrec
          and_intros
          all_goals (first | exact zN | (exact hd) | (exact cc) | (exact hq) | (intro t ht;by_cases h':t<q.1<;>simp [h',snoc,cvtL,cvt,tg,tru,All]) | (simp;omega))
        · have hq:((cbN v.2.1.2 a ((a+1+j:Nat):Int) v.2.1.1:Int)==0)=false:=beq_eq_false_iff_ne.2 (fun h=>hh (Int.ofNat_eq_zero.1 h))
          rw [show msI v a (msO v a) (j+1)=msI v a (msO v a) j by simp only [msI,hh,if_false]] at hrec
          generalize msI v a (msO v a) j=q at hn hrec ⊢
          refine pcD hc (mIf v a (a+1+j) q.1 (cbN v.2.1.2 a ((a+1+j:Nat):Int) v.2.1.1) q.2) ?_ hrec
          and_intros
          all_goals (first | exact zN | (exact hd) | (exact cc) | (exact hq) | (intro t ht;simp [All]) | (simp;omega))
    have lo:∀ d a,a+d=v.1.toNat→zR c 75 zf51 (SMio v a (msO v a).1 (msO v a).2) (Post c [(0,brOb R.1 R.2)] (.ar 2 0 0 R.1)):=by
      intro d
      induction d with
      | zero =>
        intro a ha
        obtain rfl:a=v.1.toNat:=by omega
        have hd:decide (((v.1.toNat:Nat):Int)<v.1)=false:=decide_eq_false (by omega)
        rw [hR]
        refine pkZ Tryz.func75 hc (mIe v v.1.toNat R.1 R.2) ?_
        and_intros
        all_goals (first | exact zN | (exact hd) | (intros;exact c1) | (intro t ht;simp [All]))
      | succ d ih =>
        intro a ha
        have hd:decide ((a:Int)<v.1)=true:=decide_eq_true (by omega)
        refine pcD hc (mIo v a _ _) ?_ (li a (by omega) (ih (a+1) (by omega)) (v.1.toNat - (a+1)) 0 (by omega))
        and_intros
        all_goals (first | exact zN | (exact hd) | (intros;exact c1) | (intro t ht;simp [All]))
    refine pcD hc (mIz v) ?_ (lo v.1.toNat 0 (by omega))
    and_intros
    all_goals (first | exact zN | (intros;exact c1) | (intro t ht;exact absurd ht (Nat.not_lt_zero _)) | (intro t ht;simp [All]))
def pinF (p:T_Pinned):AV:=.agg [.p (.int .i64 p.1.1),.p (.seq false 2 p.1.2.1.1 (fun i=>[.int .i64 (p.1.2.1.2 i).1,.int .i64 (p.1.2.1.2 i).2.1])),.p (.seq false 1 p.2.1.1 (fun i=>[.int .i64 (p.2.1.2 i)]))]
def boxF (p:T_Pinned):Ob:=⟨true,3,1,fun _=>[.p (.int .i64 p.1.1),.p (.seq false 2 p.1.2.1.1 (fun i=>[.int .i64 (p.1.2.1.2 i).1,.int .i64 (p.1.2.1.2 i).2.1])),.p (.seq false 1 p.2.1.1 (fun i=>[.int .i64 (p.2.1.2 i)]))]⟩
def SAd (q:T_Pinned) (l:T_BarS) (k n:Nat) (h:Nat→T_Bar):St :=
  ⟨[.p .any,.p .any,.pt 3 0 0 0,.p .any,.pt 3 1 0 0,.p .any,.ar 2 2 0 n]++List.replicate 6 anyA++[graphL l,.p (.int .i64 l.1),.p (.int .i64 k)]++List.replicate 38 anyA,
   [(0,boxF q),(1,zP3),(2,brOb n h)],3⟩
theorem dAz (p:T_Pinned) (l:T_BarS) :
    zT Tryz.f74 [rg 3,rg 2,rg 3,.head] [pinF p,graphL l] [0,32,96] (SAd p l 0 0 (fun _=>(0,0,()))) =
    some (zf74,[(AN 0),(AN 0),(AN 0),(AN 0),(AN l.1),(AP l.1 (fun i=>[.int .i64 ((l.2 i).1),.int .i64 ((l.2 i).2.1)])),(AI ((↑l.1:Int))),((0:Int)=(↑0:Int)),((([AV.p (PV.int IntKind.i64 p.1.1),AV.p (PV.seq false 2 p.1.2.1.1 fun i=>[PV.int IntKind.i64 (p.1.2.1.2 i).1,PV.int IntKind.i64 (p.1.2.1.2 i).2.1]),AV.p (PV.seq false 1 p.2.1.1 fun i=>[PV.int IntKind.i64 (p.2.1.2 i)])].length):Nat)=3),(NL 1 1),(NL 1 1),(AI p.1.1),(AN p.1.2.1.1),(AP p.1.2.1.1 (fun i=>[.int .i64 ((p.1.2.1.2 i).1),.int .i64 ((p.1.2.1.2 i).2.1)])),(AN p.2.1.1),(AP p.2.1.1 (fun i=>[.int .i64 (p.2.1.2 i)])),((((List.map (fun v=>AV.p (absV v)) [Value.int IntKind.i64 0,Value.slice none 0 0,Value.slice none 0 0]).length):Nat)=3),(NL 1 1),(NL 1 1),(AI 0),(AN 2),(NL 0 0),(AA 0 (fun i=>[.p (.int .i64 0),.p (.int .i64 0)]))]):=by kernel_rfl
theorem dAt (q:T_Pinned) (l:T_BarS) (k n:Nat) (h:Nat→T_Bar) (v:T_Graph) (b1 b2:Bool) (r1 r2:Int) :
    zM 0 [rg 1,.dec true,rg 4,rm [(6,oc [(0,brOb v.2.1.1 v.2.1.2)] (zf122 v b1))] 6,rg 6,rm [(3,oc [] (.p (.bool b2))),(3,oc [] (.p (.int .i64 r2))),(1,oc [] (.p (.int .i64 r1)))] 3,.dec true,rg 5,rg 2,rg 2,.head] zf74 (SAd q l k n h) [0,1,1283] 1 (SAd (v,q.2) l (k+1) (n+1) (snoc n h (l.2 k))) =
    some (zf74,zD [((decide ((↑k:Int)<(↑l.1:Int)))=true),(IL 0 (↑k:Int)),(IT (↑k:Int) (↑l.1:Int)),(NT 0 1),((true=true)→ (AN 1)),zE 84 [(zf98 q),.p (.int .i64 ((l.2 k).1)),.p (.int .i64 ((l.2 k).2.1))] (zf105 v) ((zf122 v b1)),((b1=true)→(NT 0 1)),(AG b1),((b1=true)→ (AN 2)),((b1=true)→(NL v.2.1.1 v.2.1.1)),((b1=true)→ zE 73 [(zf27 v q)] [] (.p (.bool b2))),(((bif b1 then b2 else false)=true)→(NT 0 1)),(AG (bif b1 then b2 else false)),(((bif b1 then b2 else false)=true)→ (AN 2)),(((bif b1 then b2 else false)=true)→(NL v.2.1.1 v.2.1.1)),(((bif b1 then b2 else false)=true)→ zE 149 [(zf27 v q)] [] (.p (.int .i64 r2))),(((bif b1 then b2 else false)=true)→ zE 149 [(zf25 q)] [] (.p (.int .i64 r1))),(((bif b1 then b2 else false)=true)→(ZLo (r1+1))),(((bif b1 then b2 else false)=true)→(ZHi (r1+1))),((bif bif b1 then b2 else false then r2==r1+1 else false)=true),(NL 1 1),(NL n n),(NL ((n+1)*16) 140737488355328),(NL (n+1) 9223372036854775807),(ZLo ((↑k:Int)+1)),(ZHi ((↑k:Int)+1)),(AN 0),(AN ((n+1))),(AN l.1),(AP l.1 (fun i=>[.int .i64 ((l.2 i).1),.int .i64 ((l.2 i).2.1)])),(AI ((↑l.1:Int))),((((↑k:Int)+1):Int)=(↑(k+1):Int)),(AN 3),(AN 2),(NL v.2.1.1 v.2.1.1),(AI v.1),(AN v.2.1.1),(AP v.2.1.1 (bRw v.2.1.2)),(AN q.2.1.1),(AP q.2.1.1 (fun i=>[.int .i64 (q.2.1.2 i)])),(AI 0),(NL (n+1) (n+1)),(CV [(0,⟨true,3,1,(fun i_1=>[.p (.int .i64 v.1),.ar 2 355 0 v.2.1.1,.p (.seq false 1 q.2.1.1 (fun i_2=>[.int .i64 (q.2.1.2 i_2)]))])⟩),(1283,⟨false,2,(n+1),(fun i_1=>(if (i_1<n) then [.p (.int .i64 ((h i_1).1)),.p (.int .i64 ((h i_1).2.1))] else [.p (.int .i64 ((l.2 k).1)),.p (.int .i64 ((l.2 k).2.1))]))⟩),(1251,⟨false,2,1,(fun i_1=>[.p (.int .i64 ((l.2 k).1)),.p (.int .i64 ((l.2 k).2.1))])⟩),(707,⟨true,3,1,(fun i_1=>[.p (.int .i64 v.1),.ar 2 355 0 v.2.1.1,.p (.seq false 1 q.2.1.1 (fun i_2=>[.int .i64 (q.2.1.2 i_2)]))])⟩),(483,⟨true,2,1,(fun i_1=>[.p (.int .i64 v.1),.ar 2 355 0 v.2.1.1])⟩),(355,⟨false,2,v.2.1.1,(fun i_1=>[.p (.int .i64 ((v.2.1.2 i_1).1)),.p (.int .i64 ((v.2.1.2 i_1).2.1))])⟩),(99,⟨true,2,1,(fun i_1=>[.p (.int .i64 ((l.2 k).1)),.p (.int .i64 ((l.2 k).2.1))])⟩),(1,⟨true,3,1,(fun i_1=>[.p (.int .i64 0),.p (.nil),.p (.nil)])⟩)] [0,1,1283] 1 (n+1) (fun i=>if (i<n) then [.p (.int .i64 ((h i).1)),.p (.int .i64 ((h i).2.1))] else [.p (.int .i64 ((l.2 k).1)),.p (.int .i64 ((l.2 k).2.1))]) (fun i=>[.p (.int .i64 (if i<n then (h i).1 else (l.2 k).1)),.p (.int .i64 (if i<n then (h i).2.1 else (l.2 k).2.1))]))] [0,1,2,3,4,3,3,3,5,3,4,3,3,3,4,6,7,8,9,10,7,11,12,13,14,15,11,12,16,12,17,18,12,12,12,19,3,20,21,22,23,3,3,4,24,25,26,26,26,27,28,29,30,31,32,20,20,33,34,35,36,37,38,39,32,20,20,40,33,41,42]):=by kernel_rfl
theorem dAf (q:T_Pinned) (l:T_BarS) (k n:Nat) (h:Nat→T_Bar) (v:T_Graph) (b1 b2:Bool) (r1 r2:Int) :
    zM 0 [rg 1,.dec true,rg 4,rm [(6,oc [(0,brOb v.2.1.1 v.2.1.2)] (zf122 v b1))] 6,rg 6,rm [(3,oc [] (.p (.bool b2))),(3,oc [] (.p (.int .i64 r2))),(1,oc [] (.p (.int .i64 r1)))] 3,.dec false,rg 2,.head] zf74 (SAd q l k n h) [0,1,2] 1 (SAd q l (k+1) n h) =
    some (zf74,zD [((decide ((↑k:Int)<(↑l.1:Int)))=true),(IL 0 (↑k:Int)),(IT (↑k:Int) (↑l.1:Int)),(NT 0 1),((true=true)→ (AN 1)),zE 84 [(zf98 q),.p (.int .i64 ((l.2 k).1)),.p (.int .i64 ((l.2 k).2.1))] (zf105 v) ((zf122 v b1)),((b1=true)→(NT 0 1)),(AG b1),((b1=true)→ (AN 2)),((b1=true)→(NL v.2.1.1 v.2.1.1)),((b1=true)→ zE 73 [(zf27 v q)] [] (.p (.bool b2))),(((bif b1 then b2 else false)=true)→(NT 0 1)),(AG (bif b1 then b2 else false)),(((bif b1 then b2 else false)=true)→ (AN 2)),(((bif b1 then b2 else false)=true)→(NL v.2.1.1 v.2.1.1)),(((bif b1 then b2 else false)=true)→ zE 149 [(zf27 v q)] [] (.p (.int .i64 r2))),(((bif b1 then b2 else false)=true)→ zE 149 [(zf25 q)] [] (.p (.int .i64 r1))),(((bif b1 then b2 else false)=true)→(ZLo (r1+1))),(((bif b1 then b2 else false)=true)→(ZHi (r1+1))),((bif bif b1 then b2 else false then r2==r1+1 else false)=false),(ZLo ((↑k:Int)+1)),(ZHi ((↑k:Int)+1)),(AN 0),(AN n),(AN l.1),(AP l.1 (fun i=>[.int .i64 ((l.2 i).1),.int .i64 ((l.2 i).2.1)])),(AI ((↑l.1:Int))),((((↑k:Int)+1):Int)=(↑(k+1):Int)),(AN 3),(NL 1 1),(AI q.1.1),(AN q.1.2.1.1),(AP q.1.2.1.1 (fun i=>[.int .i64 ((q.1.2.1.2 i).1),.int .i64 ((q.1.2.1.2 i).2.1)])),(AN q.2.1.1),(AP q.2.1.1 (fun i=>[.int .i64 (q.2.1.2 i)])),(AI 0),(AN 2),(NL n n),(AA n (fun i=>[.p (.int .i64 ((h i).1)),.p (.int .i64 ((h i).2.1))]))] [0,1,2,3,4,3,3,3,5,3,4,3,3,3,4,6,7,8,9,10,7,11,12,13,14,15,11,12,16,12,17,18,12,12,12,19,20,21,22,22,22,23,24,25,26,27,28,29,29,30,31,32,33,34,28,29,29,35,36,37,38]):=by kernel_rfl
theorem dAe (q:T_Pinned) (l:T_BarS) (k n:Nat) (h:Nat→T_Bar) :
    zP Tryz.f74 0 [rg 1,.dec false,rg 4] zf74 (SAd q l k n h) [2] 1 [(0,brOb n h)] (.tup [pinF q,.ar 2 0 0 n]) =
    some [((decide ((↑k:Int)<(↑l.1:Int)))=false),(NT 0 1),(NT 0 1),((true=true)→ (AN 1)),(NT 0 1),(AI q.1.1),(AN q.1.2.1.1),(AP q.1.2.1.1 (fun i=>[.int .i64 ((q.1.2.1.2 i).1),.int .i64 ((q.1.2.1.2 i).2.1)])),(AN q.2.1.1),(AP q.2.1.1 (fun i=>[.int .i64 (q.2.1.2 i)])),(AN 0),(AN n),(AN 2),(NL n n),(AA n (fun i=>[.p (.int .i64 ((h i).1)),.p (.int .i64 ((h i).2.1))])),(false=false),(AE q.1.2.1.1),(false=false),(AE q.2.1.1),(AE n)]:=by kernel_rfl
def nxP (q:T_Pinned) (x:T_Bar):T_Pinned:=(abG q.1 x.1 x.2.1,q.2)
noncomputable def adT (q:T_Pinned) (x:T_Bar):Bool:=bif bif abB q.1 x.1 x.2.1 then pinnedF (nxP q x) else false then prG (nxP q x)==prG q+1 else false
noncomputable def adD (p:T_Pinned) (s:Nat→T_Bar):Nat→T_Pinned×NB
  | 0=>(p,zNB)
  | k+1=>if adT (adD p s k).1 (s k)=true then (nxP (adD p s k).1 (s k),sn (adD p s k).2 (s k)) else adD p s k
theorem adT_in {q:T_Pinned} {x:T_Bar} (h:adT q x=true):abB q.1 x.1 x.2.1=true∧pinnedF (nxP q x)=true∧prG (nxP q x)=prG q+1:=by
  unfold adT at h
  cases h1:abB q.1 x.1 x.2.1<;>cases h2:pinnedF (nxP q x)<;>rw [h1,h2] at h<;>simp at h
  exact ⟨rfl,rfl,h⟩
theorem adD_n (p:T_Pinned) (s:Nat→T_Bar):∀ k,(adD p s k).2.1≤k
  | 0=>Nat.le_refl _
  | k+1=>by
    have:=adD_n p s k
    simp only [adD]
    split
    · simp only [sn];omega
    · omega
theorem arI_congr (v:T_Graph) {l m:T_BarS}:∀ n,(∀ i,i<n→l.2 i=m.2 i)→arI v l n=arI v m n
  | 0,_=>rfl
  | n+1,h=>by simp only [arI];rw [arI_congr v n (fun i hi=>h i (by omega)),h n (by omega)]
theorem arI_snoc (v:T_Graph) (r:NB) (x:T_Bar):arI v (sn r x) (r.1+1)=((arI v r r.1).1&&abB (arI v r r.1).2 x.1 x.2.1,abG (arI v r r.1).2 x.1 x.2.1):=by
  have e:(sn r x).2 r.1=x:=snoc_ge (Nat.lt_irrefl _)
  simp only [arI]
  rw [arI_congr v (l:=sn r x) (m:=r) r.1 (fun i hi=>snoc_lt hi),e]
structure AdOk (p:T_Pinned) (d:T_Pinned×NB):Prop where
  pin:pinnedF d.1=true
  eq:d.1=((arI p.1 d.2 d.2.1).2,p.2)
  ok:(arI p.1 d.2 d.2.1).1=true
  rk:prG d.1=prG p+d.2.1
theorem adD_ok (p:T_Pinned) (hp:pinnedF p=true) (s:Nat→T_Bar):∀ k,AdOk p (adD p s k)
  | 0=>⟨hp,rfl,rfl,by show prG p=prG p+((0:Nat):Int);omega⟩
  | k+1=>by
    have ih:=adD_ok p hp s k
    simp only [adD]
    split
    · rename_i h
      obtain ⟨h1,h2,h3⟩:=adT_in h
      have e:=arI_snoc p.1 (adD p s k).2 (s k)
      have e1:(adD p s k).1.1=(arI p.1 (adD p s k).2 (adD p s k).2.1).2:=by rw [ih.eq]
      have e2:(adD p s k).1.2=p.2:=by rw [ih.eq]
      refine ⟨h2,?_,?_,?_⟩
      · show nxP _ _=((arI p.1 (sn (adD p s k).2 (s k)) ((adD p s k).2.1+1)).2,p.2)
        rw [e,nxP,e1,e2]
      · show (arI p.1 (sn (adD p s k).2 (s k)) ((adD p s k).2.1+1)).1=true
        rw [e,← e1]
        simp [ih.ok,h1]
      · show prG (nxP _ _)=prG p+(((adD p s k).2.1+1:Nat):Int)
        rw [h3,ih.rk];omega
    · exact ih
theorem ad_arB {p:T_Pinned} (hp:pinnedF p=true) {d:T_Pinned×NB} (ih:AdOk p d) (x:T_Bar) :
    arB p (sn d.2 x)=(bif abB d.1.1 x.1 x.2.1 then pinnedF (nxP d.1 x) else false)∧(arB p (sn d.2 x)=true→arP p (sn d.2 x)=nxP d.1 x):=by
  have e:=arI_snoc p.1 d.2 x
  have e1:d.1.1=(arI p.1 d.2 d.2.1).2:=by rw [ih.eq]
  have e2:d.1.2=p.2:=by rw [ih.eq]
  have hb:arB p (sn d.2 x)=(bif abB d.1.1 x.1 x.2.1 then pinnedF (nxP d.1 x) else false):=by
    unfold arB
    show (pinnedF p&&((arI p.1 (sn d.2 x) (d.2.1+1)).1&&pinnedF ((arI p.1 (sn d.2 x) (d.2.1+1)).2,p.2)))=_
    rw [e,← e1,nxP,e2,hp,ih.ok]
    cases abB d.1.1 x.1 x.2.1<;>simp
  refine ⟨hb,fun h=>?_⟩
  unfold arP
  rw [if_pos h]
  show ((arI p.1 (sn d.2 x) (d.2.1+1)).2,p.2)=_
  rw [e,← e1,nxP,e2]
theorem ad_arD {p:T_Pinned} (hp:pinnedF p=true) {d:T_Pinned×NB} (ih:AdOk p d):arB p d.2=true∧arP p d.2=d.1:=by
  have h:arB p d.2=true:=by
    unfold arB
    rw [hp,ih.ok,← ih.eq,ih.pin];rfl
  refine ⟨h,?_⟩
  unfold arP
  rw [if_pos h,← ih.eq]
theorem sm_pinned {p:T_Pinned} (h:pinnedF p=true):smS s_Pinned p:=by
  have:=pinned_in h
  have:=(graph_inR this.1).2.2.1
  exact sm_pin (by omega) (by omega)
theorem sm_nx {q:T_Pinned} (h:pinnedF q=true) (x:T_Bar):smS s_Pinned (nxP q x):=by
  have:=pinned_in h
  have:=(graph_inR this.1).2.2.1
  have:=abG_n q.1 x.1 x.2.1
  exact sm_pin (by show (abG q.1 x.1 x.2.1).2.1.1≤1048576;omega) (by show q.2.1.1≤1048576;omega)
theorem con_added (p:T_Pinned) (hp:pinnedF p=true) (l:T_BarS) (hl:l.1≤1048576) :
    zE 74 [pinF p,graphL l] [(0,brOb (adD p l.2 l.1).2.1 (adD p l.2 l.1).2.2)] (.tup [pinF (adD p l.2 l.1).1,.ar 2 0 0 (adD p l.2 l.1).2.1]):=by
  refine csZ Tryz.func74 (fun c hc=>?_)
  generalize hR:adD p l.2 l.1=R
  have lo:∀ d k,k+d=l.1→zR c 74 zf74 (SAd (adD p l.2 k).1 l k (adD p l.2 k).2.1 (adD p l.2 k).2.2) (Post c [(0,brOb R.2.1 R.2.2)] (.tup [pinF R.1,.ar 2 0 0 R.2.1])):=by
    intro d
    induction d with
    | zero =>
      intro k hk
      obtain rfl:k=l.1:=by omega
      have hd:decide ((l.1:Int)<(l.1:Int))=false:=by simp
      rw [hR]
      refine pkZ Tryz.func74 hc (dAe R.1 l l.1 R.2.1 R.2.2) ?_
      and_intros
      all_goals (first | exact zI | (exact hd) | (intro t ht;simp [All,ntP,ntL]))
    | succ d ih =>
      intro k hk
      have hd:decide ((k:Int)<(l.1:Int))=true:=decide_eq_true (by omega)
      have hrec:=ih (k+1) (by omega)
      have hn:=adD_n p l.2 k
      have hok:=adD_ok p hp l.2 k
      have hsd:adD p l.2 (k+1)=if adT (adD p l.2 k).1 (l.2 k)=true then (nxP (adD p l.2 k).1 (l.2 k),sn (adD p l.2 k).2 (l.2 k)) else adD p l.2 k:=rfl
      generalize adD p l.2 k=q at hn hok hsd ⊢
      have hgr:=pinned_in hok.pin
      have hnb:=(graph_inR hgr.1).2.2.1
      have ca:=con_AddBar_i q.1.1 (sm_graph (by omega)) (l.2 k).1 (l.2 k).2.1
      have c2:=con_IsPinned_i (nxP q.1 (l.2 k)) (sm_nx hok.pin _)
      have c3:=con_PinnedRank_i (nxP q.1 (l.2 k)) (sm_nx hok.pin _)
      have c4:=con_PinnedRank_i q.1 (sm_pinned hok.pin)
      have r1:=prG_in q.1
      cases ht:adT q.1 (l.2 k) with
      | true =>
        rw [ht,if_pos rfl] at hsd
        rw [hsd] at hrec
        refine pcD hc (dAt q.1 l k q.2.1 q.2.2 (abG q.1.1 (l.2 k).1 (l.2 k).2.1) (abB q.1.1 (l.2 k).1 (l.2 k).2.1) (pinnedF (nxP q.1 (l.2 k))) (prG q.1) (prG (nxP q.1 (l.2 k)))) ?_ hrec
        and_intros
        all_goals (first | exact zI | (exact hd) | (exact ca) | (intros;exact c2) | (intros;exact c3) | (intros;exact c4) | (exact ht) | (intro t ht;by_cases h':t<q.2.1<;>simp [h',snoc,cvtL,cvt,tg,tru,All]) | (intros;simp;omega))
      | false =>
        rw [ht,if_neg (by simp)] at hsd
        rw [hsd] at hrec
        refine pcD hc (dAf q.1 l k q.2.1 q.2.2 (abG q.1.1 (l.2 k).1 (l.2 k).2.1) (abB q.1.1 (l.2 k).1 (l.2 k).2.1) (pinnedF (nxP q.1 (l.2 k))) (prG q.1) (prG (nxP q.1 (l.2 k)))) ?_ hrec
        and_intros
        all_goals (first | exact zI | (exact hd) | (exact ca) | (intros;exact c2) | (intros;exact c3) | (intros;exact c4) | (exact ht) | (intro t ht;simp [All]) | (intros;simp;omega))
  refine pcZ hc (dAz p l) ?_ (lo l.1 0 (by omega))
  and_intros
  all_goals (first | exact zN | (intro t ht;exact absurd ht (Nat.not_lt_zero _)) | (intro t ht;simp [All]))
def SLf (p:T_Pinned) (l:T_BarS) (rk:Int) (k n:Nat) (h:Nat→T_Bar):St :=
  ⟨[pinA p,graphL l,.pt 3 0 0 0,.p .any,.p .any,.ar 2 1 0 n,.p (.int .i64 rk),.p (.int .i64 k)]++List.replicate 44 anyA,[(0,boxP p),(1,brOb n h)],2⟩
theorem dLz (p:T_Pinned) (l:T_BarS) (rk:Int) :
    zT Tryz.f78 [rg 2,rg 2,rm [(1,oc [] (.p (.int .i64 rk)))] 1,rg 1,.head] [pinA p,graphL l] [0,64] (SLf p l rk 0 0 (fun _=>(0,0,()))) =
    some (zf52,zD [(NT 0 1),zE 152 [(zf25 p)] [] (.p (.int .i64 rk)),(AI p.1.1),(AN p.1.2.1.1),(AP p.1.2.1.1 (fun i=>[.int .i64 ((p.1.2.1.2 i).1),.int .i64 ((p.1.2.1.2 i).2.1)])),(AN p.2.1.1),(AP p.2.1.1 (fun i=>[.int .i64 (p.2.1.2 i)])),(AN l.1),(AP l.1 (fun i=>[.int .i64 ((l.2 i).1),.int .i64 ((l.2 i).2.1)])),(AN 0),(AI rk),((0:Int)=(↑0:Int)),((([AV.p (PV.int IntKind.i64 p.1.1),graphL p.1.2.1,inL p.2.1].length):Nat)=3),(NL 1 1),(AN 2),(NL 0 0),(AA 0 (fun i=>[.p (.int .i64 0),.p (.int .i64 0)]))] [0,1,2,3,4,5,6,7,8,9,9,9,10,11,12,13,13,2,3,4,5,6,14,15,16]):=by kernel_rfl
theorem dLt (p q:T_Pinned) (l:T_BarS) (k n:Nat) (h:Nat→T_Bar) (b1:Bool) (rk r2:Int) :
    zM 0 [rg 4,.dec true,rm [(10,oc [(0,brOb q.1.2.1.1 q.1.2.1.2),(1,iOb q.2.1.1 q.2.1.2)] (zf112 q b1))] 6,rm [(3,oc [] (.p (.int .i64 r2)))] 7,.dec true,rg 8,rg 3,.head] zf52 (SLf p l rk k n h) [0,1218] 1 (SLf p l rk (k+1) (n+1) (snoc n h (l.2 k))) =
    some (zf52,zD [((decide ((↑k:Int)<(↑l.1:Int)))=true),(NT 0 1),(NL n n),(NL 0 0),(NL ((0+n)*16) 140737488355328),(NL (0+n) 9223372036854775807),(IL 0 (↑k:Int)),(IT (↑k:Int) (↑l.1:Int)),(NL 1 1),(NL (0+n) (0+n)),(NL ((0+n+1)*16) 140737488355328),(NL (0+n+1) 9223372036854775807),(AN 2),(NL (0+n+1) (0+n+1)),zE 19 [(zf25 p),.p (.seq true 2 (0+n+1) (fun i=>[(cellP true (if (i<0+n) then [.p (.int .i64 ((h i).1)),.p (.int .i64 ((h i).2.1))] else [.p (.int .i64 ((l.2 k).1)),.p (.int .i64 ((l.2 k).2.1))]) 0),(cellP true (if (i<0+n) then [.p (.int .i64 ((h i).1)),.p (.int .i64 ((h i).2.1))] else [.p (.int .i64 ((l.2 k).1)),.p (.int .i64 ((l.2 k).2.1))]) 1)]))] (zf31 q) ((zf112 q b1)),((true=true)→ (AN 1)),((b1=true)→(NT 0 1)),(AG b1),((b1=true)→ (AN 2)),((b1=true)→(NL q.1.2.1.1 q.1.2.1.1)),((b1=true)→ (AN 1)),((b1=true)→(NL q.2.1.1 q.2.1.1)),((b1=true)→ zE 152 [(zf25 q)] [] (.p (.int .i64 r2))),((b1=true)→(ZLo (rk+(↑n:Int)))),((b1=true)→(ZHi (rk+(↑n:Int)))),((b1=true)→(ZLo (rk+(↑n:Int)+1))),((b1=true)→(ZHi (rk+(↑n:Int)+1))),((bif b1 then r2==rk+(↑n:Int)+1 else false)=true),(NL ((n+1)*16) 140737488355328),(NL (n+1) 9223372036854775807),(ZLo ((↑k:Int)+1)),(ZHi ((↑k:Int)+1)),(AI p.1.1),(AN p.1.2.1.1),(AP p.1.2.1.1 (fun i=>[.int .i64 ((p.1.2.1.2 i).1),.int .i64 ((p.1.2.1.2 i).2.1)])),(AN p.2.1.1),(AP p.2.1.1 (fun i=>[.int .i64 (p.2.1.2 i)])),(AN l.1),(AP l.1 (fun i=>[.int .i64 ((l.2 i).1),.int .i64 ((l.2 i).2.1)])),(AN 0),(AN ((n+1))),(AI rk),((((↑k:Int)+1):Int)=(↑(k+1):Int)),(AN 3),(NL (n+1) (n+1)),(CV [(1218,⟨false,2,(n+1),(fun i_1=>(if (i_1<n) then [.p (.int .i64 ((h i_1).1)),.p (.int .i64 ((h i_1).2.1))] else [.p (.int .i64 ((l.2 k).1)),.p (.int .i64 ((l.2 k).2.1))]))⟩),(1186,⟨false,2,1,(fun i_1=>[.p (.int .i64 ((l.2 k).1)),.p (.int .i64 ((l.2 k).2.1))])⟩),(578,⟨true,3,1,(fun i_1=>[.p (.int .i64 q.1.1),.ar 2 450 0 q.1.2.1.1,.ar 1 451 0 q.2.1.1])⟩),(451,⟨false,1,q.2.1.1,(fun i_1=>[.p (.int .i64 (q.2.1.2 i_1))])⟩),(450,⟨false,2,q.1.2.1.1,(fun i_1=>[.p (.int .i64 ((q.1.2.1.2 i_1).1)),.p (.int .i64 ((q.1.2.1.2 i_1).2.1))])⟩),(418,⟨false,2,(0+n+1),(fun i_1=>(if (i_1<0+n) then [.p (.int .i64 ((h i_1).1)),.p (.int .i64 ((h i_1).2.1))] else [.p (.int .i64 ((l.2 k).1)),.p (.int .i64 ((l.2 k).2.1))]))⟩),(386,⟨false,2,1,(fun i_1=>[.p (.int .i64 ((l.2 k).1)),.p (.int .i64 ((l.2 k).2.1))])⟩),(0,⟨true,3,1,(fun i_1=>[.p (.int .i64 p.1.1),.p (.seq true 2 p.1.2.1.1 (fun i_2=>[.int .i64 ((p.1.2.1.2 i_2).1),.int .i64 ((p.1.2.1.2 i_2).2.1)])),.p (.seq true 1 p.2.1.1 (fun i_2=>[.int .i64 (p.2.1.2 i_2)]))])⟩)] [0,1218] 1 (n+1) (fun i=>if (i<n) then [.p (.int .i64 ((h i).1)),.p (.int .i64 ((h i).2.1))] else [.p (.int .i64 ((l.2 k).1)),.p (.int .i64 ((l.2 k).2.1))]) (fun i=>[.p (.int .i64 (if i<n then (h i).1 else (l.2 k).1)),.p (.int .i64 (if i<n then (h i).2.1 else (l.2 k).2.1))]))] [0,1,2,3,4,5,6,7,8,9,10,11,12,13,14,1,15,16,17,18,19,20,21,22,17,17,17,23,24,17,25,26,17,17,17,27,6,7,8,2,28,29,30,31,32,33,34,35,36,37,38,39,39,40,41,42,43,8,8,32,33,34,35,36,12,44,45]):=by kernel_rfl
theorem dLf (p q:T_Pinned) (l:T_BarS) (k n:Nat) (h:Nat→T_Bar) (b1:Bool) (rk r2:Int) :
    zM 0 [rg 4,.dec true,rm [(10,oc [(0,brOb q.1.2.1.1 q.1.2.1.2),(1,iOb q.2.1.1 q.2.1.2)] (zf112 q b1))] 6,rm [(3,oc [] (.p (.int .i64 r2)))] 7,.dec false,rg 3,.head] zf52 (SLf p l rk k n h) [0,1] 1 (SLf p l rk (k+1) n h) =
    some (zf52,zD [((decide ((↑k:Int)<(↑l.1:Int)))=true),(NT 0 1),(NL n n),(NL 0 0),(NL ((0+n)*16) 140737488355328),(NL (0+n) 9223372036854775807),(IL 0 (↑k:Int)),(IT (↑k:Int) (↑l.1:Int)),(NL 1 1),(NL (0+n) (0+n)),(NL ((0+n+1)*16) 140737488355328),(NL (0+n+1) 9223372036854775807),(AN 2),(NL (0+n+1) (0+n+1)),zE 19 [(zf25 p),.p (.seq true 2 (0+n+1) (fun i=>[(cellP true (if (i<0+n) then [.p (.int .i64 ((h i).1)),.p (.int .i64 ((h i).2.1))] else [.p (.int .i64 ((l.2 k).1)),.p (.int .i64 ((l.2 k).2.1))]) 0),(cellP true (if (i<0+n) then [.p (.int .i64 ((h i).1)),.p (.int .i64 ((h i).2.1))] else [.p (.int .i64 ((l.2 k).1)),.p (.int .i64 ((l.2 k).2.1))]) 1)]))] (zf31 q) ((zf112 q b1)),((true=true)→ (AN 1)),((b1=true)→(NT 0 1)),(AG b1),((b1=true)→ (AN 2)),((b1=true)→(NL q.1.2.1.1 q.1.2.1.1)),((b1=true)→ (AN 1)),((b1=true)→(NL q.2.1.1 q.2.1.1)),((b1=true)→ zE 152 [(zf25 q)] [] (.p (.int .i64 r2))),((b1=true)→(ZLo (rk+(↑n:Int)))),((b1=true)→(ZHi (rk+(↑n:Int)))),((b1=true)→(ZLo (rk+(↑n:Int)+1))),((b1=true)→(ZHi (rk+(↑n:Int)+1))),((bif b1 then r2==rk+(↑n:Int)+1 else false)=false),(ZLo ((↑k:Int)+1)),(ZHi ((↑k:Int)+1)),(AI p.1.1),(AN p.1.2.1.1),(AP p.1.2.1.1 (fun i=>[.int .i64 ((p.1.2.1.2 i).1),.int .i64 ((p.1.2.1.2 i).2.1)])),(AN p.2.1.1),(AP p.2.1.1 (fun i=>[.int .i64 (p.2.1.2 i)])),(AN l.1),(AP l.1 (fun i=>[.int .i64 ((l.2 i).1),.int .i64 ((l.2 i).2.1)])),(AN 0),(AN n),(AI rk),((((↑k:Int)+1):Int)=(↑(k+1):Int)),(AN 3),(AA n (fun i=>[.p (.int .i64 ((h i).1)),.p (.int .i64 ((h i).2.1))]))] [0,1,2,3,4,5,6,7,8,9,10,11,12,13,14,1,15,16,17,18,19,20,21,22,17,17,17,23,24,17,25,26,17,17,17,27,28,29,30,31,32,33,34,35,36,37,37,38,39,40,41,8,8,30,31,32,33,34,12,2,42]):=by kernel_rfl
theorem dLe (p:T_Pinned) (l:T_BarS) (rk:Int) (k n:Nat) (h:Nat→T_Bar) :
    zP Tryz.f78 0 [rg 4,.dec false,rg 2] zf52 (SLf p l rk k n h) [1] 1 [(0,brOb n h)] (.ar 2 0 0 n) =
    some [((decide ((↑k:Int)<(↑l.1:Int)))=false),(AN 0),(AN n),(AN 2),(NL n n),(AA n (fun i=>[.p (.int .i64 ((h i).1)),.p (.int .i64 ((h i).2.1))])),(AE n)]:=by kernel_rfl
theorem rBn (p:T_Pinned) :
    zS Tryz.f8 [rg 3,rm [(1,oc [] (.p (.bool false)))] 1,.dec true,rg 3] [pinA p] [192] [(0,brOb 0 (fun _=>(0,0,())))] (.tup [.ar 2 0 0 0,.p (.bool false)]) =
    some [(NT 0 1),zE 73 [(zf25 p)] [] (.p (.bool false)),((!false)=true),(AN 0),(AN 0),(false=false),(AN 2),(NL 0 0),(AA 0 (fun i=>[.p (.int .i64 0),.p (.int .i64 0)])),(AE 0)]:=by kernel_rfl
theorem rBf (p q:T_Pinned) (n m:Nat) (h g:Nat→T_Bar) :
    zS Tryz.f8 [rg 3,rm [(1,oc [] (.p (.bool true)))] 1,.dec false,rm [(3,oc [(0,brOb n h)] (.ar 2 0 0 n)),(0,⟨true,(some ⟨[],[0],[],1,[(0,brOb m g)],.tup [pinF q,.ar 2 0 0 m]⟩),none⟩)] 6,rm [(1,oc [] (.p (.bool false)))] 1,.dec true,rg 3] [pinA p] [640] [(0,brOb 0 (fun _=>(0,0,())))] (.tup [.ar 2 0 0 0,.p (.bool false)]) =
    some [(NT 0 1),zE 73 [(zf25 p)] [] (.p (.bool true)),((!true)=false),(NT 0 1),(NT 0 1),zE 75 [(zf98 p)] (zf113 n h) (.ar 2 0 0 n),(AN 2),(NL n n),zE 74 [(zf23 p),.p (.seq true 2 n (bRw h))] (zf113 m g) ((zf19 q m)),(NT 0 1),((true=true)→ (AN 1)),(NT 0 1),zE 76 [(zf25 q)] [] (.p (.bool false)),((!false)=true),(AN 0),(AN 0),(false=false),(AN 2),(NL 0 0),(AA 0 (fun i=>[.p (.int .i64 0),.p (.int .i64 0)])),(AE 0)]:=by kernel_rfl
theorem rBt (p q:T_Pinned) (n m:Nat) (h g:Nat→T_Bar) :
    zS Tryz.f8 [rg 3,rm [(1,oc [] (.p (.bool true)))] 1,.dec false,rm [(3,oc [(0,brOb n h)] (.ar 2 0 0 n)),(0,⟨true,(some ⟨[],[0],[],1,[(0,brOb m g)],.tup [pinF q,.ar 2 0 0 m]⟩),none⟩)] 6,rm [(1,oc [] (.p (.bool true)))] 1,.dec false,rg 3] [pinA p] [320] [(0,brOb m g)] (.tup [.ar 2 0 0 m,.p (.bool true)]) =
    some (zD [(NT 0 1),zE 73 [(zf25 p)] [] (.p (.bool true)),((!true)=false),zE 75 [(zf98 p)] (zf113 n h) (.ar 2 0 0 n),(AN 2),(NL n n),zE 74 [(zf23 p),.p (.seq true 2 n (bRw h))] (zf113 m g) ((zf19 q m)),((true=true)→ (AN 1)),zE 76 [(zf25 q)] [] (.p (.bool true)),(AN 0),(AN m),(true=true),(NL m m),(AA m (fun i=>[.p (.int .i64 ((g i).1)),.p (.int .i64 ((g i).2.1))])),(AE m)] [0,1,2,0,0,3,4,5,6,0,7,0,8,2,9,10,11,4,12,13,14]):=by kernel_rfl
theorem rDn (p:T_Pinned) :
    zS Tryz.f9 [rg 3,rm [(1,oc [] (.p (.bool false)))] 1,.dec true,rg 3] [pinA p] [192] [(0,brOb 0 (fun _=>(0,0,())))] (.tup [.ar 2 0 0 0,.p (.bool false)]) =
    some [(NT 0 1),zE 77 [(zf25 p)] [] (.p (.bool false)),((!false)=true),(AN 0),(AN 0),(false=false),(AN 2),(NL 0 0),(AA 0 (fun i=>[.p (.int .i64 0),.p (.int .i64 0)])),(AE 0)]:=by kernel_rfl
theorem rDf (p:T_Pinned) (n m:Nat) (h g:Nat→T_Bar) :
    zS Tryz.f9 [rg 3,rm [(1,oc [] (.p (.bool true)))] 1,.dec false,rm [(3,oc [(0,brOb n h)] (.ar 2 0 0 n)),(0,oc [(0,brOb m g)] (.ar 2 0 0 m))] 1,rm [(2,oc [] (.p (.bool false)))] 1,.dec true,rg 3] [pinA p] [512] [(0,brOb 0 (fun _=>(0,0,())))] (.tup [.ar 2 0 0 0,.p (.bool false)]) =
    some [(NT 0 1),zE 77 [(zf25 p)] [] (.p (.bool true)),((!true)=false),(NT 0 1),(NT 0 1),zE 79 [(zf98 p)] (zf113 n h) (.ar 2 0 0 n),(AN 2),(NL n n),zE 78 [(zf25 p),.p (.seq true 2 n (bRw h))] (zf113 m g) (.ar 2 0 0 m),(NT 0 1),(AN 2),(NL m m),zE 16 [(zf25 p),.p (.seq true 2 m (bRw g))] [] (.p (.bool false)),((!false)=true),(AN 0),(AN 0),(false=false),(AN 2),(NL 0 0),(AA 0 (fun i=>[.p (.int .i64 0),.p (.int .i64 0)])),(AE 0)]:=by kernel_rfl
theorem rDt (p:T_Pinned) (n m:Nat) (h g:Nat→T_Bar) :
    zS Tryz.f9 [rg 3,rm [(1,oc [] (.p (.bool true)))] 1,.dec false,rm [(3,oc [(0,brOb n h)] (.ar 2 0 0 n)),(0,oc [(0,brOb m g)] (.ar 2 0 0 m))] 1,rm [(2,oc [] (.p (.bool true)))] 1,.dec false,rg 3] [pinA p] [320] [(0,brOb m g)] (.tup [.ar 2 0 0 m,.p (.bool true)]) =
    some (zD [(NT 0 1),zE 77 [(zf25 p)] [] (.p (.bool true)),((!true)=false),zE 79 [(zf98 p)] (zf113 n h) (.ar 2 0 0 n),(AN 2),(NL n n),zE 78 [(zf25 p),.p (.seq true 2 n (bRw h))] (zf113 m g) (.ar 2 0 0 m),(NL m m),zE 16 [(zf25 p),.p (.seq true 2 m (bRw g))] [] (.p (.bool true)),(AN 0),(AN m),(true=true),(AA m (fun i=>[.p (.int .i64 ((g i).1)),.p (.int .i64 ((g i).2.1))])),(AE m)] [0,1,2,0,0,3,4,5,6,0,4,7,8,2,9,10,11,4,7,12,13]):=by kernel_rfl
theorem put_arg {f:Nat} {H':Hp} {res:AV} (p:T_Pinned) (r:NB) (x:T_Bar) (h:Con Tryz.prog f 0 [] [pinA p,graphL (sn r x)] H' res) :
    Con Tryz.prog f 0 [] [pinA p,.p (.seq true 2 (0+r.1+1) (fun i=>[cellP true (if i<0+r.1 then [.p (.int .i64 (r.2 i).1),.p (.int .i64 (r.2 i).2.1)] else [.p (.int .i64 x.1),.p (.int .i64 x.2.1)]) 0,
      cellP true (if i<0+r.1 then [.p (.int .i64 (r.2 i).1),.p (.int .i64 (r.2 i).2.1)] else [.p (.int .i64 x.1),.p (.int .i64 x.2.1)]) 1]))] H' res:=by
  have e:(.p (.seq true 2 (0+r.1+1) (fun i=>[cellP true (if i<0+r.1 then [.p (.int .i64 (r.2 i).1),.p (.int .i64 (r.2 i).2.1)] else [.p (.int .i64 x.1),.p (.int .i64 x.2.1)]) 0,
      cellP true (if i<0+r.1 then [.p (.int .i64 (r.2 i).1),.p (.int .i64 (r.2 i).2.1)] else [.p (.int .i64 x.1),.p (.int .i64 x.2.1)]) 1])):AV)=graphL (sn r x):=by
    simp only [graphL,sn,Nat.zero_add]
    congr 2
    funext i
    by_cases h:i<r.1<;>simp [h,snoc,cellP,tg,tru]
  rw [e]
  exact h
theorem con_l28From (p:T_Pinned) (hp:pinnedF p=true) (l:T_BarS) (hl:l.1≤1000000) :
    zE 78 [pinA p,graphL l] [(0,brOb (adD p l.2 l.1).2.1 (adD p l.2 l.1).2.2)] (.ar 2 0 0 (adD p l.2 l.1).2.1):=by
  have c0:=con_PinnedRank_s p (sm_pinned hp)
  refine csZ Tryz.func78 (fun c hc=>?_)
  generalize hR:adD p l.2 l.1=R
  have rp:=prG_in p
  have lo:∀ d k,k+d=l.1→zR c 78 zf52 (SLf p l (prG p) k (adD p l.2 k).2.1 (adD p l.2 k).2.2) (Post c [(0,brOb R.2.1 R.2.2)] (.ar 2 0 0 R.2.1)):=by
    intro d
    induction d with
    | zero =>
      intro k hk
      obtain rfl:k=l.1:=by omega
      have hd:decide ((l.1:Int)<(l.1:Int))=false:=by simp
      rw [hR]
      refine pkZ Tryz.func78 hc (dLe p l (prG p) l.1 R.2.1 R.2.2) ?_
      and_intros
      all_goals (first | exact zN | (exact hd) | (intro t ht;simp [All]))
    | succ d ih =>
      intro k hk
      have hd:decide ((k:Int)<(l.1:Int))=true:=decide_eq_true (by omega)
      have hrec:=ih (k+1) (by omega)
      have hn:=adD_n p l.2 k
      have hok:=adD_ok p hp l.2 k
      have hsd:adD p l.2 (k+1)=if adT (adD p l.2 k).1 (l.2 k)=true then (nxP (adD p l.2 k).1 (l.2 k),sn (adD p l.2 k).2 (l.2 k)) else adD p l.2 k:=rfl
      generalize adD p l.2 k=q at hn hok hsd ⊢
      have hA:=ad_arB hp hok (l.2 k)
      have ca:=con_ApplyRepair_s p (sm_pinned hp) (sn q.2 (l.2 k)) (by show q.2.1+1≤1048576;omega)
      have hgd:(bif arB p (sn q.2 (l.2 k)) then prG (arP p (sn q.2 (l.2 k)))==prG p+(q.2.1:Int)+1 else false)=adT q.1 (l.2 k):=by
        unfold adT
        rw [← hA.1]
        cases hb:arB p (sn q.2 (l.2 k)) with
        | false=>simp only [cond_false]
        | true=>rw [hA.2 hb,hok.rk]
      have c3:=con_PinnedRank_s (arP p (sn q.2 (l.2 k))) (sm_arP p _)
      generalize arP p (sn q.2 (l.2 k))=u at ca hgd c3
      generalize arB p (sn q.2 (l.2 k))=b at ca hgd
      cases ht:adT q.1 (l.2 k) with
      | true =>
        rw [ht,if_pos rfl] at hsd
        rw [hsd] at hrec
        rw [ht] at hgd
        refine pcD hc (dLt p u l k q.2.1 q.2.2 b (prG p) (prG u)) ?_ hrec
        and_intros
        all_goals (first | exact zI | (exact hd) | (intros;exact c3) | (exact hgd) | (exact put_arg p q.2 (l.2 k) ca) | (intro t ht;by_cases h':t<q.2.1<;>simp [h',snoc,cvtL,cvt,tg,tru,All]) | (intros;simp;omega))
      | false =>
        rw [ht,if_neg (by simp)] at hsd
        rw [hsd] at hrec
        rw [ht] at hgd
        refine pcD hc (dLf p u l k q.2.1 q.2.2 b (prG p) (prG u)) ?_ hrec
        and_intros
        all_goals (first | exact zI | (exact hd) | (intros;exact c3) | (exact hgd) | (exact put_arg p q.2 (l.2 k) ca) | (intro t ht;simp [All]) | (intros;simp;omega))
  refine pcD hc (dLz p l (prG p)) ?_ (lo l.1 0 (by omega))
  and_intros
  all_goals (first | exact zN | (exact c0) | (intro t ht;exact absurd ht (Nat.not_lt_zero _)) | (intro t ht;simp [All]))
noncomputable def rpD (p:T_Pinned):T_Pinned×NB:=adD p (msP p.1).2 (msP p.1).1
noncomputable def rbB (p:T_Pinned):Bool:=bif pinnedF p then rgB (rpD p).1 else false
noncomputable def rbL (p:T_Pinned):NB:=if rbB p=true then (rpD p).2 else zNB
theorem rbL_n (p:T_Pinned):(rbL p).1≤64:=by
  unfold rbL
  split
  · have:=adD_n p (msP p.1).2 (msP p.1).1
    have:=msP_n p.1
    unfold rpD;omega
  · exact Nat.zero_le _
theorem con_RepairBars_i (p:T_Pinned) (hs:smS s_Pinned p):zE 8 [pinA p] [(0,brOb (rbL p).1 (rbL p).2)] (.tup [.ar 2 0 0 (rbL p).1,.p (.bool (rbB p))]):=by
  have c1:=con_IsPinned_i p hs
  refine csZ Tryz.func8 (fun c hc=>?_)
  cases hp:pinnedF p with
  | false =>
    rw [hp] at c1
    have hb:rbB p=false:=by simp [rbB,hp]
    rw [hb,show rbL p=zNB by simp [rbL,hb]]
    refine pkZ Tryz.func8 hc (rBn p) ?_
    and_intros
    all_goals (first | exact zN | (exact c1) | (intro t ht;exact absurd ht (Nat.not_lt_zero _)) | (intro t ht;simp [All]))
  | true =>
    rw [hp] at c1
    have cm:=con_Missing_i p.1 (sm_graph hs.1.2.1.1)
    have hmn:=msP_n p.1
    have ca:=con_added p hp (msP p.1) (by omega)
    have hok:=adD_ok p hp (msP p.1).2 (msP p.1).1
    have cg:=con_IsPinnedRigid_i (adD p (msP p.1).2 (msP p.1).1).1 (sm_pinned hok.pin)
    have hb:rbB p=rgB (adD p (msP p.1).2 (msP p.1).1).1:=by simp [rbB,hp,rpD]
    have hL:rbL p=if rbB p=true then (adD p (msP p.1).2 (msP p.1).1).2 else zNB:=rfl
    rw [hL,hb]
    have hn:=adD_n p (msP p.1).2 (msP p.1).1
    generalize adD p (msP p.1).2 (msP p.1).1=q at ca cg hn ⊢
    generalize msP p.1=m at cm ca hmn hn
    cases hr:rgB q.1 with
    | false =>
      rw [hr] at cg
      simp only [Bool.false_eq_true,if_false]
      refine pkZ Tryz.func8 hc (rBf p q.1 m.1 q.2.1 m.2 q.2.2) ?_
      and_intros
      all_goals (first | exact zI | (exact c1) | (exact cm) | (exact ca) | (exact cg) | (intro t ht;exact absurd ht (Nat.not_lt_zero _)) | (intro t ht;simp [All]))
    | true =>
      rw [hr] at cg
      simp only [if_true]
      refine pkD Tryz.func8 hc (rBt p q.1 m.1 q.2.1 m.2 q.2.2) ?_
      and_intros
      all_goals (first | exact zI | (exact c1) | (exact cm) | (exact ca) | (exact cg) | (intro t ht;simp [All]))
theorem con_RepairBars_s (p:T_Pinned) (hs:smS s_Pinned p):zE 9 [pinA p] [(0,brOb (rbL p).1 (rbL p).2)] (.tup [.ar 2 0 0 (rbL p).1,.p (.bool (rbB p))]):=by
  have c1:=con_IsPinned_s p hs
  refine csZ Tryz.func9 (fun c hc=>?_)
  cases hp:pinnedF p with
  | false =>
    rw [hp] at c1
    have hb:rbB p=false:=by simp [rbB,hp]
    rw [hb,show rbL p=zNB by simp [rbL,hb]]
    refine pkZ Tryz.func9 hc (rDn p) ?_
    and_intros
    all_goals (first | exact zN | (exact c1) | (intro t ht;exact absurd ht (Nat.not_lt_zero _)) | (intro t ht;simp [All]))
  | true =>
    rw [hp] at c1
    have cm:=con_Missing_s p.1 (sm_graph hs.1.2.1.1)
    have hmn:=msP_n p.1
    have ca:=con_l28From p hp (msP p.1) (by omega)
    have hok:=adD_ok p hp (msP p.1).2 (msP p.1).1
    have hd:=ad_arD hp hok
    have hn:=adD_n p (msP p.1).2 (msP p.1).1
    have cg:=con_IsRepair_s p hs (adD p (msP p.1).2 (msP p.1).1).2 (by omega)
    have hi:irB p (adD p (msP p.1).2 (msP p.1).1).2=rgB (adD p (msP p.1).2 (msP p.1).1).1:=by simp only [irB,hd.1,hd.2,cond_true]
    rw [hi] at cg
    have hb:rbB p=rgB (adD p (msP p.1).2 (msP p.1).1).1:=by simp [rbB,hp,rpD]
    have hL:rbL p=if rbB p=true then (adD p (msP p.1).2 (msP p.1).1).2 else zNB:=rfl
    rw [hL,hb]
    generalize adD p (msP p.1).2 (msP p.1).1=q at ca cg hn ⊢
    generalize msP p.1=m at cm ca hmn hn
    cases hr:rgB q.1 with
    | false =>
      rw [hr] at cg
      simp only [Bool.false_eq_true,if_false]
      refine pkZ Tryz.func9 hc (rDf p m.1 q.2.1 m.2 q.2.2) ?_
      and_intros
      all_goals (first | exact zN | (exact c1) | (exact cm) | (exact ca) | (exact cg) | (intro t ht;exact absurd ht (Nat.not_lt_zero _)) | (intro t ht;simp [All]))
    | true =>
      rw [hr] at cg
      simp only [if_true]
      refine pkD Tryz.func9 hc (rDt p m.1 q.2.1 m.2 q.2.2) ?_
      and_intros
      all_goals (first | exact zN | (exact c1) | (exact cm) | (exact ca) | (exact cg) | (intro t ht;simp [All]))
def stOt (n:Nat) (f:Nat→ByteArray):Ob:=⟨false,1,n,fun i=>[.p (.str (f i))]⟩
def stLt (n:Nat) (f:Nat→ByteArray):AV:=.p (.seq true 1 n (fun i=>[.str (f i)]))
end Go.Proofs.YtkepkjbofchckaaGreat.Mach
