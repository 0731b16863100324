/- What the law Rr needs, part 4 of 5: the abstract machine and the contracts of the functions. Conditions: as each theorem says. -/
import Derived.Test.YtkepkjbofchckaaGreatRrP3
namespace Go.Proofs.YtkepkjbofchckaaGreat.Mach
open Go Go.Sort
set_option linter.unusedVariables false
set_option linter.unusedSimpArgs false
def zP3:Ob:=⟨true,3,1,fun _=>[.p (.int .i64 0),.p .nil,.p .nil]⟩
def pgO (N:Int) (n m:Nat):Ob:=⟨true,3,1,fun _=>[.p (.int .i64 N),.ar 2 3 0 n,.ar 1 4 0 m]⟩
def SQi (p:T_Pinned) (l:T_BarS) (k:Nat) (N:Int) (n:Nat) (h:Nat→T_Bar):St :=
  ⟨[pinA p,graphL l,.pt 3 0 0 0,.p .any,.pt 3 1 0 0,.p (.bool false),.pt 3 2 0 0]++List.replicate 10 anyA++[graphL l,.p (.int .i64 l.1),.p (.int .i64 k)]++List.replicate 24 anyA,
   [(0,boxP p),(1,zP3),(2,pgO N n p.2.1.1),(3,brOb n h),(4,iOb p.2.1.1 p.2.1.2)],5⟩
def SQs (p:T_Pinned) (l:T_BarS) (k:Nat) (N:Int) (n:Nat) (h:Nat→T_Bar):St :=
  ⟨[pinA p,graphL l,.pt 3 0 0 0,.p .any,.pt 3 1 0 0,.p (.bool false),.pt 3 2 0 0,.p (.int .i64 k)]++List.replicate 47 anyA,
   [(0,boxP p),(1,zP3),(2,pgO N n p.2.1.1),(3,brOb n h),(4,iOb p.2.1.1 p.2.1.2)],5⟩
theorem rCp (p:T_Pinned) :
    zS Tryz.f83 [rg 2,rm [(2,oc [(0,brOb p.1.2.1.1 p.1.2.1.2)] (.agg [.p (.int .i64 p.1.1),.ar 2 0 0 p.1.2.1.1])),(2,oc [(0,iOb p.2.1.1 p.2.1.2)] (.ar 1 0 0 p.2.1.1))] 2] [pinA p] [128,224] [(0,brOb p.1.2.1.1 p.1.2.1.2),(1,iOb p.2.1.1 p.2.1.2)] ((zf95 p)) =
    some [(NT 0 1),zE 141 [(zf78 p)] [(0,⟨false,2,p.1.2.1.1,(fun i=>[.p (.int .i64 ((p.1.2.1.2 i).1)),.p (.int .i64 ((p.1.2.1.2 i).2.1))])⟩)] (.agg [.p (.int .i64 p.1.1),.ar 2 0 0 p.1.2.1.1]),(NT 0 1),zE 91 [.p (.seq true 1 p.2.1.1 (fun i=>[.int .i64 (p.2.1.2 i)]))] [(0,⟨false,1,p.2.1.1,(fun i=>[.p (.int .i64 (p.2.1.2 i))])⟩)] (.ar 1 0 0 p.2.1.1),(NT 0 1),((true=true)→ (AN 1)),(NT 0 1),(AI p.1.1),(AN 0),(AN p.1.2.1.1),(AN 0),(AN p.2.1.1),(AN 2),(NL p.1.2.1.1 p.1.2.1.1),(AA p.1.2.1.1 (fun i=>[.p (.int .i64 ((p.1.2.1.2 i).1)),.p (.int .i64 ((p.1.2.1.2 i).2.1))])),(AN 1),(NL p.2.1.1 p.2.1.1),(AA p.2.1.1 (fun i=>[.p (.int .i64 (p.2.1.2 i))])),(AE p.1.2.1.1),(AE p.2.1.1)]:=by kernel_rfl
theorem rQy (p:T_Pinned) (l:T_BarS) :
    zS Tryz.f18 [rg 3,rm [(1,oc [] (.p (.bool false)))] 1,.dec true,rg 3] [pinA p,graphL l] [] [(0,brOb 0 (fun _=>(0,0,()))),(1,iOb 0 (fun _=>0))] (zf93) =
    some (zD [(NT 0 1),zE 73 [(zf20 p)] [] (.p (.bool false)),((!false)=true),((true=true)→ (AN 1)),(AI 0),(AN 0),(false=false),(AE 0)] [0,1,2,0,3,0,4,5,5,6,5,5,7,7]):=by kernel_rfl
theorem rQz (p:T_Pinned) (l:T_BarS) :
    zT Tryz.f18 [rg 3,rm [(1,oc [] (.p (.bool true)))] 1,.dec false,rm [(1,oc [(0,brOb p.1.2.1.1 p.1.2.1.2),(1,iOb p.2.1.1 p.2.1.2)] (zf95 p))] 2,rg 3,.head] [pinA p,graphL l] [0,32,256,224,225] (SQi p l 0 p.1.1 p.1.2.1.1 p.1.2.1.2) =
    some (zf40,zD [(NT 0 1),zE 73 [(zf20 p)] [] (.p (.bool true)),((!true)=false),zE 83 [(zf20 p)] (zf24 p) ((zf95 p)),((true=true)→ (AN 1)),(AI p.1.1),(AN p.1.2.1.1),(AP p.1.2.1.1 (fun i=>[.int .i64 ((p.1.2.1.2 i).1),.int .i64 ((p.1.2.1.2 i).2.1)])),(AN p.2.1.1),(AP p.2.1.1 (fun i=>[.int .i64 (p.2.1.2 i)])),(AN l.1),(AP l.1 (fun i=>[.int .i64 ((l.2 i).1),.int .i64 ((l.2 i).2.1)])),(AN 0),(false=false),(AI ((↑l.1:Int))),((0:Int)=(↑0:Int)),((([AV.p (PV.int IntKind.i64 p.1.1),graphL p.1.2.1,inL p.2.1].length):Nat)=3),(NL 1 1),((((List.map (fun v=>AV.p (absV v)) [Value.int IntKind.i64 0,Value.slice none 0 0,Value.slice none 0 0]).length):Nat)=3),(AI 0),(AN 2),(NL p.1.2.1.1 p.1.2.1.1),(AA p.1.2.1.1 (fun i=>[.p (.int .i64 ((p.1.2.1.2 i).1)),.p (.int .i64 ((p.1.2.1.2 i).2.1))])),(AN 1),(NL p.2.1.1 p.2.1.1),(AA p.2.1.1 (fun i=>[.p (.int .i64 (p.2.1.2 i))]))] [0,1,2,0,3,0,4,5,6,7,8,9,10,11,12,12,13,12,10,11,14,15,16,17,17,5,6,7,8,9,18,17,17,19,18,17,17,5,12,6,12,8,20,21,22,23,24,25]):=by kernel_rfl
theorem rQa (p:T_Pinned) (l:T_BarS) (k:Nat) (N N2:Int) (n n2:Nat) (h h2:Nat→T_Bar) :
    zM 0 [rg 1,.dec true,rg 4,rm [(6,oc [(0,brOb n2 h2)] (zf99 N2 n2))] 6,rg 2,.dec false,rg 3,rg 2,.head] zf40 (SQi p l k N n h) [0,1,2,357,4] 1 (SQi p l (k+1) N2 n2 h2) =
    some (zf40,zD [((decide ((↑k:Int)<(↑l.1:Int)))=true),(IL 0 (↑k:Int)),(IT (↑k:Int) (↑l.1:Int)),(NT 0 1),((true=true)→ (AN 1)),(AN 2),(NL n n),zE 84 [(zf85 N n h),.p (.int .i64 ((l.2 k).1)),.p (.int .i64 ((l.2 k).2.1))] (zf89 n2 h2) ((zf99 N2 n2)),((!true)=false),(ZLo ((↑k:Int)+1)),(ZHi ((↑k:Int)+1)),(AI p.1.1),(AN p.1.2.1.1),(AP p.1.2.1.1 (fun i=>[.int .i64 ((p.1.2.1.2 i).1),.int .i64 ((p.1.2.1.2 i).2.1)])),(AN p.2.1.1),(AP p.2.1.1 (fun i=>[.int .i64 (p.2.1.2 i)])),(AN l.1),(AP l.1 (fun i=>[.int .i64 ((l.2 i).1),.int .i64 ((l.2 i).2.1)])),(AN 0),(false=false),(AI ((↑l.1:Int))),((((↑k:Int)+1):Int)=(↑(k+1):Int)),(AN 3),(NL 1 1),(AI 0),(AI N2),(AN n2),(NL n2 n2),(AA n2 (fun i=>[.p (.int .i64 ((h2 i).1)),.p (.int .i64 ((h2 i).2.1))])),(AN 1),(NL p.2.1.1 p.2.1.1),(AA p.2.1.1 (fun i=>[.p (.int .i64 (p.2.1.2 i))]))] [0,1,2,3,4,3,3,3,5,6,7,3,4,8,3,3,4,9,10,11,12,13,14,15,16,17,18,18,19,18,16,17,20,21,22,23,23,11,12,13,14,15,22,23,23,24,22,23,23,25,18,26,18,14,5,27,28,29,30,31]):=by kernel_rfl
theorem rQb (p:T_Pinned) (l:T_BarS) (k:Nat) (N N2:Int) (n n2:Nat) (h h2:Nat→T_Bar) :
    zP Tryz.f18 0 [rg 1,.dec true,rg 4,rm [(6,oc [(0,brOb n2 h2)] (zf97 N2 n2))] 6,rg 2,.dec true,rg 3] zf40 (SQi p l k N n h) [] 1 [(0,brOb 0 (fun _=>(0,0,()))),(1,iOb 0 (fun _=>0))] (zf93) =
    some (zD [((decide ((↑k:Int)<(↑l.1:Int)))=true),(IL 0 (↑k:Int)),(IT (↑k:Int) (↑l.1:Int)),(NT 0 1),((true=true)→ (AN 1)),(AN 2),(NL n n),zE 84 [(zf85 N n h),.p (.int .i64 ((l.2 k).1)),.p (.int .i64 ((l.2 k).2.1))] (zf89 n2 h2) ((zf97 N2 n2)),((!false)=true),(AI 0),(AN 0),(false=false),(AE 0)] [0,1,2,3,4,3,3,3,5,6,7,3,4,8,3,4,3,9,10,10,11,10,10,12,12]):=by kernel_rfl
theorem rQc (p:T_Pinned) (l:T_BarS) (k:Nat) (N:Int) (n:Nat) (h:Nat→T_Bar) :
    zP Tryz.f18 0 [rg 1,.dec false,rm [(1,oc [] (.p (.bool false)))] 1,.dec true,rg 3] zf40 (SQi p l k N n h) [] 1 [(0,brOb 0 (fun _=>(0,0,()))),(1,iOb 0 (fun _=>0))] (zf93) =
    some [((decide ((↑k:Int)<(↑l.1:Int)))=false),(NT 0 1),(AN 2),(NL n n),(AN 1),(NL p.2.1.1 p.2.1.1),zE 73 [(zf37 N n h p)] [] (.p (.bool false)),((!false)=true),(NT 0 1),((true=true)→ (AN 1)),(NT 0 1),(AI 0),(AN 0),(AN 0),(false=false),(AN 0),(AN 0),(AE 0),(AE 0)]:=by kernel_rfl
theorem rQd (p:T_Pinned) (l:T_BarS) (k:Nat) (N:Int) (n:Nat) (h:Nat→T_Bar) :
    zP Tryz.f18 0 [rg 1,.dec false,rm [(1,oc [] (.p (.bool true)))] 1,.dec false,rg 3] zf40 (SQi p l k N n h) [3,4] 1 [(0,brOb n h),(1,iOb p.2.1.1 p.2.1.2)] (.tup [.agg [.p (.int .i64 N),.ar 2 0 0 n,.ar 1 1 0 p.2.1.1],.p (.bool true)]) =
    some (zD [((decide ((↑k:Int)<(↑l.1:Int)))=false),(NT 0 1),(AN 2),(NL n n),(AN 1),(NL p.2.1.1 p.2.1.1),zE 73 [(zf37 N n h p)] [] (.p (.bool true)),((!true)=false),((true=true)→ (AN 1)),(AI N),(AN 0),(AN n),(AN p.2.1.1),(true=true),(AA n (fun i=>[.p (.int .i64 ((h i).1)),.p (.int .i64 ((h i).2.1))])),(AA p.2.1.1 (fun i=>[.p (.int .i64 (p.2.1.2 i))])),(AE n),(AE p.2.1.1)] [0,1,2,3,4,5,6,7,1,1,8,1,9,10,11,10,12,13,2,3,14,4,5,15,16,17]):=by kernel_rfl
theorem rWz (p:T_Pinned) (l:T_BarS) :
    zT Tryz.f19 [rg 3,rm [(2,oc [(0,brOb p.1.2.1.1 p.1.2.1.2)] (.agg [.p (.int .i64 p.1.1),.ar 2 0 0 p.1.2.1.1]))] 7,rg 1,.head] [pinA p,graphL l] [0,32,352,160,288] (SQs p l 0 p.1.1 p.1.2.1.1 p.1.2.1.2) =
    some (zf60,zD [(NT 0 1),zE 85 [(zf78 p)] [(0,⟨false,2,p.1.2.1.1,(fun i=>[.p (.int .i64 ((p.1.2.1.2 i).1)),.p (.int .i64 ((p.1.2.1.2 i).2.1))])⟩)] (.agg [.p (.int .i64 p.1.1),.ar 2 0 0 p.1.2.1.1]),(NL 0 0),(NL ((0+p.2.1.1)*8) 140737488355328),(NL (0+p.2.1.1) 9223372036854775807),((true=true)→ (AN 1)),(AI p.1.1),(AN p.1.2.1.1),(AP p.1.2.1.1 (fun i=>[.int .i64 ((p.1.2.1.2 i).1),.int .i64 ((p.1.2.1.2 i).2.1)])),(AN p.2.1.1),(AP p.2.1.1 (fun i=>[.int .i64 (p.2.1.2 i)])),(AN l.1),(AP l.1 (fun i=>[.int .i64 ((l.2 i).1),.int .i64 ((l.2 i).2.1)])),(AN 0),(false=false),((0:Int)=(↑0:Int)),((([AV.p (PV.int IntKind.i64 p.1.1),graphL p.1.2.1,inL p.2.1].length):Nat)=3),(NL 1 1),((((List.map (fun v=>AV.p (absV v)) [Value.int IntKind.i64 0,Value.slice none 0 0,Value.slice none 0 0]).length):Nat)=3),(AI 0),(((0+p.2.1.1):Nat)=p.2.1.1),(AN 2),(NL p.1.2.1.1 p.1.2.1.1),(AA p.1.2.1.1 (fun i=>[.p (.int .i64 ((p.1.2.1.2 i).1)),.p (.int .i64 ((p.1.2.1.2 i).2.1))])),(AN 1),(NL p.2.1.1 (0+p.2.1.1)),(AA p.2.1.1 (fun i=>[.p (.int .i64 (p.2.1.2 i))]))] [0,1,0,2,3,4,0,5,6,7,8,9,10,11,12,13,13,14,13,15,16,17,17,6,7,8,9,10,18,17,17,19,18,17,17,6,13,7,13,20,21,22,23,24,25,26]):=by kernel_rfl
theorem rWa (p:T_Pinned) (l:T_BarS) (k:Nat) (N N2:Int) (n n2:Nat) (h h2:Nat→T_Bar) :
    zM 0 [rg 4,.dec true,rm [(12,oc [(0,brOb n2 h2)] (zf99 N2 n2))] 6,rg 2,.dec false,rg 3,rg 3,.head] zf60 (SQs p l k N n h) [0,1,2,517,4] 1 (SQs p l (k+1) N2 n2 h2) =
    some (zf60,zD [((decide ((↑k:Int)<(↑l.1:Int)))=true),(NT 0 1),(IL 0 (↑k:Int)),(IT (↑k:Int) (↑l.1:Int)),(AN 2),(NL n n),zE 86 [(zf85 N n h),.p (.int .i64 ((l.2 k).1)),.p (.int .i64 ((l.2 k).2.1))] (zf89 n2 h2) ((zf99 N2 n2)),((true=true)→ (AN 1)),((!true)=false),(ZLo ((↑k:Int)+1)),(ZHi ((↑k:Int)+1)),(AI p.1.1),(AN p.1.2.1.1),(AP p.1.2.1.1 (fun i=>[.int .i64 ((p.1.2.1.2 i).1),.int .i64 ((p.1.2.1.2 i).2.1)])),(AN p.2.1.1),(AP p.2.1.1 (fun i=>[.int .i64 (p.2.1.2 i)])),(AN l.1),(AP l.1 (fun i=>[.int .i64 ((l.2 i).1),.int .i64 ((l.2 i).2.1)])),(AN 0),(false=false),((((↑k:Int)+1):Int)=(↑(k+1):Int)),(AN 3),(NL 1 1),(AI 0),(AI N2),(AN n2),(NL n2 n2),(AA n2 (fun i=>[.p (.int .i64 ((h2 i).1)),.p (.int .i64 ((h2 i).2.1))])),(AN 1),(NL p.2.1.1 p.2.1.1),(AA p.2.1.1 (fun i=>[.p (.int .i64 (p.2.1.2 i))]))] [0,1,2,3,2,3,4,5,6,1,7,8,1,1,7,9,10,11,12,13,14,15,16,17,18,18,19,18,20,21,22,22,11,12,13,14,15,21,22,22,23,21,22,22,24,18,25,18,14,4,26,27,28,29,30]):=by kernel_rfl
theorem rWb (p:T_Pinned) (l:T_BarS) (k:Nat) (N N2:Int) (n n2:Nat) (h h2:Nat→T_Bar) :
    zP Tryz.f19 0 [rg 4,.dec true,rm [(12,oc [(0,brOb n2 h2)] (zf97 N2 n2))] 6,rg 2,.dec true,rg 3] zf60 (SQs p l k N n h) [] 1 [(0,brOb 0 (fun _=>(0,0,()))),(1,iOb 0 (fun _=>0))] (zf93) =
    some (zD [((decide ((↑k:Int)<(↑l.1:Int)))=true),(NT 0 1),(IL 0 (↑k:Int)),(IT (↑k:Int) (↑l.1:Int)),(AN 2),(NL n n),zE 86 [(zf85 N n h),.p (.int .i64 ((l.2 k).1)),.p (.int .i64 ((l.2 k).2.1))] (zf89 n2 h2) ((zf97 N2 n2)),((true=true)→ (AN 1)),((!false)=true),(AI 0),(AN 0),(false=false),(AE 0)] [0,1,2,3,2,3,4,5,6,1,7,8,1,7,1,9,10,10,11,10,10,12,12]):=by kernel_rfl
theorem rWc (p:T_Pinned) (l:T_BarS) (k:Nat) (N:Int) (n:Nat) (h:Nat→T_Bar) (b1 b2:Bool) :
    zP Tryz.f19 0 [rg 4,.dec false,rm [(1,oc [] (.p (.bool b1))),(3,oc [] (.p (.bool b2)))] 2,.dec true,rg 3] zf60 (SQs p l k N n h) [] 1 [(0,brOb 0 (fun _=>(0,0,()))),(1,iOb 0 (fun _=>0))] (zf93) =
    some [((decide ((↑k:Int)<(↑l.1:Int)))=false),(NT 0 1),zE 77 [(zf20 p)] [] (.p (.bool b1)),(((!!b1)=true)→(NT 0 1)),(AG (!!b1)),(((!!b1)=true)→ (AN 2)),(((!!b1)=true)→(NL n n)),(((!!b1)=true)→ (AN 1)),(((!!b1)=true)→(NL p.2.1.1 p.2.1.1)),(((!!b1)=true)→ zE 77 [(zf37 N n h p)] [] (.p (.bool b2))),(AG (!!b1)),(((!b1)=false)→ ((!!b1)=true)),((bif !b1 then true else !b2)=true),(NT 0 1),((true=true)→ (AN 1)),(NT 0 1),(AI 0),(AN 0),(AN 0),(false=false),(AN 0),(AN 0),(AE 0),(AE 0)]:=by kernel_rfl
theorem rWd (p:T_Pinned) (l:T_BarS) (k:Nat) (N:Int) (n:Nat) (h:Nat→T_Bar) (b1 b2:Bool) :
    zP Tryz.f19 0 [rg 4,.dec false,rm [(1,oc [] (.p (.bool b1))),(3,oc [] (.p (.bool b2)))] 2,.dec false,rg 3] zf60 (SQs p l k N n h) [3,4] 1 [(0,brOb n h),(1,iOb p.2.1.1 p.2.1.2)] (.tup [.agg [.p (.int .i64 N),.ar 2 0 0 n,.ar 1 1 0 p.2.1.1],.p (.bool true)]) =
    some [((decide ((↑k:Int)<(↑l.1:Int)))=false),(NT 0 1),zE 77 [(zf20 p)] [] (.p (.bool b1)),(((!!b1)=true)→(NT 0 1)),(AG (!!b1)),(((!!b1)=true)→ (AN 2)),(((!!b1)=true)→(NL n n)),(((!!b1)=true)→ (AN 1)),(((!!b1)=true)→(NL p.2.1.1 p.2.1.1)),(((!!b1)=true)→ zE 77 [(zf37 N n h p)] [] (.p (.bool b2))),(AG (!!b1)),(((!b1)=false)→ ((!!b1)=true)),((bif !b1 then true else !b2)=false),(NT 0 1),(NT 0 1),((true=true)→ (AN 1)),(NT 0 1),(AI N),(AN 0),(AN n),(AN 0),(AN p.2.1.1),(true=true),(AN 2),(NL n n),(AA n (fun i=>[.p (.int .i64 ((h i).1)),.p (.int .i64 ((h i).2.1))])),(AN 1),(NL p.2.1.1 p.2.1.1),(AA p.2.1.1 (fun i=>[.p (.int .i64 (p.2.1.2 i))])),(AE n),(AE p.2.1.1)]:=by kernel_rfl
theorem con_copyPinned (p:T_Pinned) (hs:smS s_Pinned p):zE 83 [pinA p] [(0,brOb p.1.2.1.1 p.1.2.1.2),(1,iOb p.2.1.1 p.2.1.2)] ((zf95 p)):=by
  have h1:p.1.2.1.1≤1048576:=hs.1.2.1.1
  have h2:p.2.1.1≤1048576:=hs.2.1.1
  have c1:=con_copyGraph p.1 h1
  have c2:=con_copyInts p.2.1.1 p.2.1.2 h2
  refine csZ Tryz.func83 (fun c hc=>?_)
  refine pkZ Tryz.func83 hc (rCp p) ?_
  and_intros
  all_goals (first | exact zI | (exact c1) | (exact c2) | (intro j hj;simp [All];done) | (simp;try omega))
def arI (v:T_Graph) (l:T_BarS):Nat→Bool×T_Graph
  | 0=>(true,v)
  | k+1=>((arI v l k).1&&abB (arI v l k).2 (l.2 k).1 (l.2 k).2.1,abG (arI v l k).2 (l.2 k).1 (l.2 k).2.1)
theorem arI_false (v:T_Graph) (l:T_BarS) (k:Nat) (h:(arI v l k).1=false):∀ n,k≤n→(arI v l n).1=false
  | 0,h'=>by
    obtain rfl:k=0:=by omega
    exact h
  | n+1,h'=>by
    by_cases e:k=n+1
    · subst e;exact h
    · simp [arI,arI_false v l k h n (by omega)]
def arB (p:T_Pinned) (l:T_BarS):Bool:=pinnedF p&&((arI p.1 l l.1).1&&pinnedF ((arI p.1 l l.1).2,p.2))
def zPin:T_Pinned:=((0,(0,fun _=>(0,0,())),()),(0,fun _=>0),())
def arP (p:T_Pinned) (l:T_BarS):T_Pinned:=if arB p l=true then ((arI p.1 l l.1).2,p.2) else zPin
theorem arI_n (v:T_Graph) (l:T_BarS):∀ k,(arI v l k).2.2.1.1≤v.2.1.1∨(arI v l k).2.2.1.1≤24
  | 0=>.inl (Nat.le_refl _)
  | k+1=>by
    have h:=arI_n v l k
    have h2:=abG_n (arI v l k).2 (l.2 k).1 (l.2 k).2.1
    simp only [arI]
    omega
theorem sm_pin {p:T_Pinned} (h1:p.1.2.1.1≤1048576) (h2:p.2.1.1≤1048576):smS s_Pinned p :=
  ⟨⟨trivial,⟨h1,fun i hi=>by simp [smS,smL]⟩,trivial⟩,⟨h2,fun i hi=>by simp [smS]⟩,trivial⟩
theorem con_ApplyRepair_i (p:T_Pinned) (hs:smS s_Pinned p) (l:T_BarS) (hl:l.1≤1048576) :
    zE 18 [pinA p,graphL l] [(0,brOb (arP p l).1.2.1.1 (arP p l).1.2.1.2),(1,iOb (arP p l).2.1.1 (arP p l).2.1.2)]
      (.tup [.agg [.p (.int .i64 (arP p l).1.1),.ar 2 0 0 (arP p l).1.2.1.1,.ar 1 1 0 (arP p l).2.1.1],.p (.bool (arB p l))]):=by
  have hn1:p.1.2.1.1≤1048576:=hs.1.2.1.1
  have hn2:p.2.1.1≤1048576:=hs.2.1.1
  have c1:=con_IsPinned_i p hs
  have cc:=con_copyPinned p hs
  refine csZ Tryz.func18 (fun c hc=>?_)
  cases hp:pinnedF p with
  | false =>
    rw [hp] at c1
    have hb:arB p l=false:=by simp [arB,hp]
    rw [show arP p l=zPin by simp [arP,hb],hb]
    refine pkD Tryz.func18 hc (rQy p l) ?_
    and_intros
    all_goals (first | exact zI | (exact c1) | (intro j hj;exact absurd hj (Nat.not_lt_zero _)) | (simp;done))
  | true =>
    rw [hp] at c1
    have lp:∀ d k,k+d=l.1→(arI p.1 l k).1=true →
        zR c 18 zf40 (SQi p l k (arI p.1 l k).2.1 (arI p.1 l k).2.2.1.1 (arI p.1 l k).2.2.1.2)
          (Post c [(0,brOb (arP p l).1.2.1.1 (arP p l).1.2.1.2),(1,iOb (arP p l).2.1.1 (arP p l).2.1.2)] (.tup [.agg [.p (.int .i64 (arP p l).1.1),.ar 2 0 0 (arP p l).1.2.1.1,.ar 1 1 0 (arP p l).2.1.1],.p (.bool (arB p l))])):=by
      intro d
      induction d with
      | zero =>
        intro k hk ht
        obtain rfl:k=l.1:=by omega
        have hd:decide ((l.1:Int)<(l.1:Int))=false:=by simp
        have hgn:=arI_n p.1 l l.1
        have c2:=con_IsPinned_i ((arI p.1 l l.1).2,p.2) (sm_pin (by show (arI p.1 l l.1).2.2.1.1≤1048576;omega) hn2)
        cases hq:pinnedF ((arI p.1 l l.1).2,p.2) with
        | false =>
          rw [hq] at c2
          have hb:arB p l=false:=by simp [arB,hq]
          rw [show arP p l=zPin by simp [arP,hb],hb]
          refine pkZ Tryz.func18 hc (rQc p l l.1 (arI p.1 l l.1).2.1 (arI p.1 l l.1).2.2.1.1 (arI p.1 l l.1).2.2.1.2) ?_
          and_intros
          all_goals (first | exact zI | (exact hd) | (exact c2) | (intro j hj;exact absurd hj (Nat.not_lt_zero _)) | (intro j hj;simp [All];done) | (simp;done))
        | true =>
          rw [hq] at c2
          have hb:arB p l=true:=by simp [arB,hq,hp,ht]
          rw [show arP p l=((arI p.1 l l.1).2,p.2) by simp [arP,hb],hb]
          refine pkD Tryz.func18 hc (rQd p l l.1 (arI p.1 l l.1).2.1 (arI p.1 l l.1).2.2.1.1 (arI p.1 l l.1).2.2.1.2) ?_
          and_intros
          all_goals (first | exact zI | (exact hd) | (exact c2) | (intro j hj;simp [All];done) | (simp;done))
      | succ d ih =>
        intro k hk ht
        have hd:decide ((k:Int)<(l.1:Int))=true:=by simp;omega
        have hgn:=arI_n p.1 l k
        have ca:=con_AddBar_i (arI p.1 l k).2 (sm_graph (by omega)) (l.2 k).1 (l.2 k).2.1
        cases ho:abB (arI p.1 l k).2 (l.2 k).1 (l.2 k).2.1 with
        | false =>
          rw [ho] at ca
          have hb:arB p l=false:=by
            have:=arI_false p.1 l (k+1) (by simp [arI,ho]) l.1 (by omega)
            simp [arB,this]
          rw [show arP p l=zPin by simp [arP,hb],hb]
          refine pkD Tryz.func18 hc (rQb p l k (arI p.1 l k).2.1 (abG (arI p.1 l k).2 (l.2 k).1 (l.2 k).2.1).1 (arI p.1 l k).2.2.1.1 (abG (arI p.1 l k).2 (l.2 k).1 (l.2 k).2.1).2.1.1 (arI p.1 l k).2.2.1.2 (abG (arI p.1 l k).2 (l.2 k).1 (l.2 k).2.1).2.1.2) ?_
          and_intros
          all_goals (first | exact zI | (exact hd) | (exact ca) | (intro j hj;exact absurd hj (Nat.not_lt_zero _)) | (intro j hj;simp [All];done) | (simp;done))
        | true =>
          rw [ho] at ca
          refine pcD hc (rQa p l k (arI p.1 l k).2.1 _ (arI p.1 l k).2.2.1.1 _ (arI p.1 l k).2.2.1.2 _) ?_ (ih (k+1) (by omega) (by simp [arI,ht,ho]))
          and_intros
          all_goals (first | exact zI | (exact hd) | (exact ca) | (intro j hj;simp [All];done) | (simp;done))
    refine pcD hc (rQz p l) ?_ (lp l.1 0 (by omega) rfl)
    and_intros
    all_goals (first | exact zI | (exact c1) | (exact cc) | (intro j hj;simp [All];done) | (simp;done))
theorem con_ApplyRepair_s (p:T_Pinned) (hs:smS s_Pinned p) (l:T_BarS) (hl:l.1≤1048576) :
    zE 19 [pinA p,graphL l] [(0,brOb (arP p l).1.2.1.1 (arP p l).1.2.1.2),(1,iOb (arP p l).2.1.1 (arP p l).2.1.2)]
      (.tup [.agg [.p (.int .i64 (arP p l).1.1),.ar 2 0 0 (arP p l).1.2.1.1,.ar 1 1 0 (arP p l).2.1.1],.p (.bool (arB p l))]):=by
  have hn1:p.1.2.1.1≤1048576:=hs.1.2.1.1
  have hn2:p.2.1.1≤1048576:=hs.2.1.1
  have c1:=con_IsPinned_s p hs
  have cc:=con_l2Copy p.1 hn1
  refine csZ Tryz.func19 (fun c hc=>?_)
  have lp:∀ d k,k+d=l.1→(arI p.1 l k).1=true →
      zR c 19 zf60 (SQs p l k (arI p.1 l k).2.1 (arI p.1 l k).2.2.1.1 (arI p.1 l k).2.2.1.2)
        (Post c [(0,brOb (arP p l).1.2.1.1 (arP p l).1.2.1.2),(1,iOb (arP p l).2.1.1 (arP p l).2.1.2)] (.tup [.agg [.p (.int .i64 (arP p l).1.1),.ar 2 0 0 (arP p l).1.2.1.1,.ar 1 1 0 (arP p l).2.1.1],.p (.bool (arB p l))])):=by
    intro d
    induction d with
    | zero =>
      intro k hk ht
      obtain rfl:k=l.1:=by omega
      have hd:decide ((l.1:Int)<(l.1:Int))=false:=by simp
      have hgn:=arI_n p.1 l l.1
      have c2:=con_IsPinned_s ((arI p.1 l l.1).2,p.2) (sm_pin (by show (arI p.1 l l.1).2.2.1.1≤1048576;omega) hn2)
      have hcd:(bif !pinnedF p then true else !pinnedF ((arI p.1 l l.1).2,p.2))=!arB p l:=by
        unfold arB
        rw [ht]
        cases pinnedF p<;>cases pinnedF ((arI p.1 l l.1).2,p.2)<;>rfl
      cases hb:arB p l with
      | false =>
        rw [hb] at hcd
        have hcd':(bif !pinnedF p then true else !pinnedF ((arI p.1 l l.1).2,p.2))=true:=hcd
        rw [show arP p l=zPin by simp [arP,hb]]
        refine pkZ Tryz.func19 hc (rWc p l l.1 (arI p.1 l l.1).2.1 (arI p.1 l l.1).2.2.1.1 (arI p.1 l l.1).2.2.1.2 (pinnedF p) (pinnedF ((arI p.1 l l.1).2,p.2))) ?_
        and_intros
        all_goals (first | exact zH | (exact hd) | (exact c1) | (intro _;exact c2) | (exact hcd') | (intro j hj;exact absurd hj (Nat.not_lt_zero _)) | (intro j hj;simp [All];done) | (simp;done))
      | true =>
        rw [hb] at hcd
        have hcd':(bif !pinnedF p then true else !pinnedF ((arI p.1 l l.1).2,p.2))=false:=hcd
        rw [show arP p l=((arI p.1 l l.1).2,p.2) by simp [arP,hb]]
        refine pkZ Tryz.func19 hc (rWd p l l.1 (arI p.1 l l.1).2.1 (arI p.1 l l.1).2.2.1.1 (arI p.1 l l.1).2.2.1.2 (pinnedF p) (pinnedF ((arI p.1 l l.1).2,p.2))) ?_
        and_intros
        all_goals (first | exact zH | (exact hd) | (exact c1) | (intro _;exact c2) | (exact hcd') | (intro j hj;simp [All];done) | (simp;done))
    | succ d ih =>
      intro k hk ht
      have hd:decide ((k:Int)<(l.1:Int))=true:=by simp;omega
      have hgn:=arI_n p.1 l k
      have ca:=con_AddBar_s (arI p.1 l k).2 (sm_graph (by omega)) (l.2 k).1 (l.2 k).2.1
      cases ho:abB (arI p.1 l k).2 (l.2 k).1 (l.2 k).2.1 with
      | false =>
        rw [ho] at ca
        have hb:arB p l=false:=by
          have:=arI_false p.1 l (k+1) (by simp [arI,ho]) l.1 (by omega)
          simp [arB,this]
        rw [show arP p l=zPin by simp [arP,hb],hb]
        refine pkD Tryz.func19 hc (rWb p l k (arI p.1 l k).2.1 (abG (arI p.1 l k).2 (l.2 k).1 (l.2 k).2.1).1 (arI p.1 l k).2.2.1.1 (abG (arI p.1 l k).2 (l.2 k).1 (l.2 k).2.1).2.1.1 (arI p.1 l k).2.2.1.2 (abG (arI p.1 l k).2 (l.2 k).1 (l.2 k).2.1).2.1.2) ?_
        and_intros
        all_goals (first | exact zI | (exact hd) | (exact ca) | (intro j hj;exact absurd hj (Nat.not_lt_zero _)) | (intro j hj;simp [All];done) | (simp;done))
      | true =>
        rw [ho] at ca
        refine pcD hc (rWa p l k (arI p.1 l k).2.1 _ (arI p.1 l k).2.2.1.1 _ (arI p.1 l k).2.2.1.2 _) ?_ (ih (k+1) (by omega) (by simp [arI,ht,ho]))
        and_intros
        all_goals (first | exact zI | (exact hd) | (exact ca) | (intro j hj;simp [All];done) | (simp;done))
  refine pcD hc (rWz p l) ?_ (lp l.1 0 (by omega) rfl)
  and_intros
  all_goals (first | exact zI | (exact cc) | (intro j hj;simp [All];done) | (simp;done) | (simp;omega))
theorem goodP_at {N:Int} {g:Nat→Int}:∀ {n:Nat},goodP N g n=true→∀ k,k<n→0≤g k∧g k<N∧(0<k→g (k - 1)<g k)
  | 0,_,k,hk=>absurd hk (Nat.not_lt_zero _)
  | n+1,h,k,hk=>by
    simp only [goodP,Bool.and_eq_true,Bool.not_eq_true'] at h
    by_cases e:k=n
    · subst e
      have h2:=h.2
      unfold badP at h2
      by_cases c1:g k<0
      · simp [c1] at h2
      by_cases c2:g k≥N
      · simp [c1,c2] at h2
      refine ⟨by omega,by omega,fun h0=>?_⟩
      simp only [c1,c2,decide_false,cond_false] at h2
      rw [decide_eq_true (show (k:Int)>0 by omega)] at h2
      simp only [cond_true,decide_eq_false_iff_not] at h2
      rw [show ((k:Int) - 1).toNat=k - 1 by omega] at h2
      omega
    · exact goodP_at h.1 k (by omega)
theorem goodP_asc {N:Int} {g:Nat→Int} {n:Nat} (h:goodP N g n=true):∀ j i,i<j→j<n→g i<g j:=by
  intro j
  induction j with
  | zero=>intro i hi;omega
  | succ j ih =>
    intro i hi hj
    have h1:=(goodP_at h (j+1) hj).2.2 (by omega)
    rw [show j+1 - 1=j by omega] at h1
    by_cases e:i=j
    · rw [e];exact h1
    · have:=ih i (by omega) (by omega);omega
theorem goodP_ge {N:Int} {g:Nat→Int} {n:Nat} (h:goodP N g n=true):∀ k,k<n→(k:Int)≤g k:=by
  intro k
  induction k with
  | zero=>intro hk;exact (goodP_at h 0 hk).1
  | succ k ih =>
    intro hk
    have h1:=ih (by omega)
    have h2:=goodP_asc h (k+1) k (by omega) hk
    omega
theorem pinned_in {p:T_Pinned} (h:pinnedF p=true):isGraphF p.1=true∧2≤p.2.1.1∧p.2.1.1≤8∧p.1.2.1.1≤15∧p.1.2.1.1+2*p.2.1.1≤27:=by
  simp only [pinnedF,Bool.and_eq_true] at h
  obtain ⟨h1,h2,h3⟩:=h
  unfold tailP at h3
  cases hs:simpleF p.1 with
  | false=>rw [hs] at h3;simp at h3
  | true =>
    rw [hs] at h3
    simp only [simpleF,Bool.and_eq_true] at hs
    have hg:=graph_inR hs.2
    by_cases c1:(p.2.1.1:Int)≥2
    · by_cases c2:(p.1.2.1.1:Int)≤15
      · by_cases c3:(p.1.2.1.1:Int)+2*(p.2.1.1:Int) - 3≤24
        · refine ⟨hs.2,by omega,?_,by omega,by omega⟩
          have:=goodP_ge h1 (p.2.1.1 - 1) (by omega)
          have:=goodP_at h1 (p.2.1.1 - 1) (by omega)
          omega
        · simp [c1,c2,c3] at h3
      · simp [c1,c2] at h3
    · simp [c1] at h3
theorem arP_le (p:T_Pinned) (l:T_BarS):(arP p l).1.2.1.1≤24∧(arP p l).2.1.1≤8:=by
  unfold arP
  split
  · rename_i h
    simp only [arB,Bool.and_eq_true] at h
    have:=pinned_in h.2.2
    exact ⟨(graph_inR this.1).2.2.1,this.2.2.1⟩
  · exact ⟨Nat.zero_le _,Nat.zero_le _⟩
def piR (N:Int) (k m j:Nat):AV:=.agg [.p (.int .i64 N),.ar 2 j 0 k,.ar 1 (j+1:Nat) 0 m]
def SIs (n:Nat) (f:Nat→Int) (s:Nat×Int) (I K:Nat) (k:Nat) (h:Nat→T_Bar) (u:T_IntS) (v:Nat):St :=
  ⟨[.pt 3 0 0 0,.p (.int .i64 I),.p .any,.p .any,.pt 3 1 0 0,.p (.int .i64 K),.p .any,.pt 3 2 0 0,.p (.int .i64 v)]++List.replicate 139 anyA,[(0,cuO n f s),(1,zP3),(2,pgO ((K:Int)+(I:Int)) k u.1),(3,brOb k h),(4,iOb u.1 u.2)],5⟩
def SSe (n:Nat) (f:Nat→Int) (s:Nat×Int) (N:Int) (k:Nat) (h:Nat→T_Bar) (u:T_IntS) (q:Nat):St :=
  ⟨[.pt 3 0 0 0,.p .any,.pt 3 1 0 0,.pt 3 2 0 0,.p (.int .i64 q)]++List.replicate 54 anyA,[(0,cuO n f s),(1,zP3),(2,pgO N k u.1),(3,brOb k h),(4,iOb u.1 u.2)],5⟩
def twoF (a b:Int) (i:Nat):Int:=if i=0 then a else b
theorem diz (n:Nat) (f:Nat→Int) (s s1:Nat×Int) (I K:Nat) (x:Int) (u:T_IntS) :
    zM 1 [rg 1,rm [(1,⟨true,(some ⟨[0],[1000],[],1,[(0,cuO n f s1)],.p (.int .i64 x)⟩),none⟩)] 2,rg 7,rm [(5,oc [(0,iOb u.1 u.2)] (.ar 1 0 0 u.1))] 3,rg 2,.head] [.code (bodyOf Tryz.f191)] (start Tryz.f191 [(0,cuO n f s)] 1 [.pt 3 0 0 0,.p (.int .i64 I)]) [0,1,609,257,545] 1 (SIs n f s1 I K 0 (fun _=>(0,0,())) u K) =
    some (zf27,zD [(AE 1),Con Tryz.prog 89 1 (zf76 n f s) [.pt 3 0 0 0,.p (.int .i64 2)] (zf76 n f s1) (.p (.int .i64 x)),(ZLo (2+x)),(ZHi (2+x)),(ZLo (2+x+(↑I:Int))),(ZHi (2+x+(↑I:Int))),(NT 0 1),((true=true)→ (AN 1)),(IL 0 (2+x)),(ZLo (shlI IntKind.i64 1 (2+x) - 1)),(ZHi (shlI IntKind.i64 1 (2+x) - 1)),zE 214 [.p (.int .i64 (2+x)),.p (.int .i64 (shlI IntKind.i64 1 (2+x) - 1))] [(0,⟨false,1,u.1,(fun i=>[.p (.int .i64 (u.2 i))])⟩)] (.ar 1 0 0 u.1),(AN 0),(AI ((↑I:Int))),(((2+x):Int)=(↑K:Int)),(AN 3),(NL 1 1),(AN n),(AP n (fun i=>[.int .u8 (f i)])),(AI ((↑s1.1:Int))),(AI s1.2),((((List.map (fun v=>AV.p (absV v)) [Value.int IntKind.i64 0,Value.slice none 0 0,Value.slice none 0 0]).length):Nat)=3),(AI 0),(((2+x+(↑I:Int)):Int)=((↑K:Int)+(↑I:Int))),(AN u.1),(AN 2),(NL 0 0),(AA 0 (fun i=>[.p (.int .i64 0),.p (.int .i64 0)])),(AN 1),(NL u.1 u.1),(AA u.1 (fun i=>[.p (.int .i64 (u.2 i))]))] [0,1,2,3,4,5,6,7,6,8,9,10,11,6,7,12,13,12,14,12,14,15,16,16,17,18,19,20,21,16,16,22,21,16,16,23,12,12,12,24,25,26,27,28,29,30]):=by kernel_rfl
theorem die (n:Nat) (f:Nat→Int) (s:Nat×Int) (I K:Nat) (k:Nat) (h:Nat→T_Bar) (u:T_IntS) (v:Nat) :
    zP Tryz.f191 1 [rg 5,.dec false,rg 2] zf27 (SIs n f s I K k h u v) [0,3,4] 1 [(0,cuO n f s),(1,brOb k h),(2,iOb u.1 u.2)] (piR ((K:Int)+(I:Int)) k u.1 1) =
    some [(ZLo ((↑K:Int)+(↑I:Int))),(ZHi ((↑K:Int)+(↑I:Int))),((decide ((↑v:Int)<(↑K:Int)+(↑I:Int)))=false),(NT 0 1),(NT 0 1),((true=true)→ (AN 1)),(NT 0 1),(AI (((↑K:Int)+(↑I:Int)))),(AN 0),(AN k),(AN 0),(AN u.1),(AN 3),(NL 1 1),(NL 1 1),(AN n),(AP n (fun i=>[.int .u8 (f i)])),(AI ((↑s.1:Int))),(AI s.2),(AN 2),(NL k k),(AA k (fun i=>[.p (.int .i64 ((h i).1)),.p (.int .i64 ((h i).2.1))])),(AN 1),(NL u.1 u.1),(AA u.1 (fun i=>[.p (.int .i64 (u.2 i))])),(∀ i:Nat,(((i:Nat)<1)→All [(false=false),(AE n)])),(AE k),(AE u.1)]:=by kernel_rfl
theorem diA (n:Nat) (f:Nat→Int) (s s1 s2 s3 s4 s5 s6:Nat×Int) (I K:Nat) (k:Nat) (h:Nat→T_Bar) (u:T_IntS) (v:Nat) (a y e2:Int) (e:Nat) (k0 k1 k2 k3:Nat) (h0 h1 h2 h3:Nat→T_Bar) (ok:Bool) :
    zM 1 [rg 5,.dec true,rm [(4,gF),(0,gF),(0,gF)] 7,.dec false,rm [(2,⟨true,(some ⟨[0],[1000],[],1,[(0,cuO n f s1)],.p (.int .i64 a)⟩),none⟩)] 1,rm [(5,⟨true,(some ⟨[0],[1000],[],1,[(0,cuO n f s2)],.p (.int .i64 y)⟩),none⟩)] 4,rm [(5,oc [(0,brOb k1 h1)] (grR ((K:Int)+(I:Int)) k1 0)),(3,oc [(0,brOb k2 h2)] (grR ((K:Int)+(I:Int)) k2 0))] 2,rg 3,.head] zf27 (SIs n f s I K k h u v) [0,1,2,1349,4] 1 (SIs n f s2 I K k2 h2 u (v+1)) =
    some (zf27,zD [(ZLo ((↑K:Int)+(↑I:Int))),(ZHi ((↑K:Int)+(↑I:Int))),((decide ((↑v:Int)<(↑K:Int)+(↑I:Int)))=true),((decide ((↑v:Int)>(↑K:Int)))=false),(AG false),((false=true)→(NT 0 1)),((bif false then decide ((↑k:Int)>0) else false)=false),(AE 1),Con Tryz.prog 89 1 (zf76 n f s) [.pt 3 0 0 0,.p (.int .i64 (↑v:Int))] (zf76 n f s1) (.p (.int .i64 a)),(ZLo (a+1)),(ZHi (a+1)),(ZLo ((↑v:Int) - 1)),(ZHi ((↑v:Int) - 1)),Con Tryz.prog 89 1 (zf76 n f s1) [.pt 3 0 0 0,.p (.int .i64 ((↑v:Int) - 1))] (zf76 n f s2) (.p (.int .i64 y)),(ZLo (a+1+y)),(ZHi (a+1+y)),(IL 0 (a+1+y)),(IT 0 (↑v:Int)),(NT 0 1),(AN 2),(NL k k),zE 136 [(zf79 K I k h),.agg [.p (.int .i64 a),.p (.int .i64 (↑v:Int))]] (zf89 k1 h1) ((zf98 K I k1)),(NL k1 k1),zE 136 [(zf79 K I k1 h1),(zf91 a y v)] (zf89 k2 h2) ((zf98 K I k2)),((true=true)→ (AN 1)),(ZLo ((↑v:Int)+1)),(ZHi ((↑v:Int)+1)),(AN 0),(AI ((↑I:Int))),(AI ((↑K:Int))),((((↑v:Int)+1):Int)=(↑(v+1):Int)),(AN 3),(NL 1 1),(AN n),(AP n (fun i=>[.int .u8 (f i)])),(AI ((↑s2.1:Int))),(AI s2.2),(AI 0),(AI (((↑K:Int)+(↑I:Int)))),(AN k2),(AN u.1),(NL k2 k2),(AA k2 (fun i=>[.p (.int .i64 ((h2 i).1)),.p (.int .i64 ((h2 i).2.1))])),(AN 1),(NL u.1 u.1),(AA u.1 (fun i=>[.p (.int .i64 (u.2 i))]))] [0,1,2,3,3,3,4,4,5,4,4,4,6,7,8,9,10,11,12,7,13,14,15,16,17,18,19,20,21,19,22,23,18,24,25,26,27,28,27,29,27,30,31,32,32,33,34,35,36,31,32,32,37,31,32,32,38,27,39,27,40,19,41,42,43,44,45]):=by kernel_rfl
theorem diB (n:Nat) (f:Nat→Int) (s s1 s2 s3 s4 s5 s6:Nat×Int) (I K:Nat) (k:Nat) (h:Nat→T_Bar) (u:T_IntS) (v:Nat) (a y e2:Int) (e:Nat) (k0 k1 k2 k3:Nat) (h0 h1 h2 h3:Nat→T_Bar) (ok:Bool) :
    zM 1 [rg 5,.dec true,rm [(4,gT),(0,⟨true,(some ⟨[0],[1000],[],1,[(0,cuO n f s1)],.p (.bool false)⟩),some true⟩),(0,gT)] 7,.dec false,rm [(2,⟨true,(some ⟨[0],[1000],[],1,[(0,cuO n f s2)],.p (.int .i64 a)⟩),none⟩)] 1,rm [(5,⟨true,(some ⟨[0],[1000],[],1,[(0,cuO n f s3)],.p (.int .i64 y)⟩),none⟩)] 4,rm [(5,oc [(0,brOb k1 h1)] (grR ((K:Int)+(I:Int)) k1 0)),(3,oc [(0,brOb k2 h2)] (grR ((K:Int)+(I:Int)) k2 0))] 2,rg 3,.head] zf27 (SIs n f s I K k h u v) [0,1,2,1349,4] 1 (SIs n f s3 I K k2 h2 u (v+1)) =
    some (zf27,zD [(ZLo ((↑K:Int)+(↑I:Int))),(ZHi ((↑K:Int)+(↑I:Int))),((decide ((↑v:Int)<(↑K:Int)+(↑I:Int)))=true),((decide ((↑v:Int)>(↑K:Int)))=true),(AE 1),Con Tryz.prog 103 1 (zf76 n f s) [.pt 3 0 0 0,.p (.int .i64 2)] (zf76 n f s1) (.p (.bool false)),(AG false),((false=true)→(NT 0 1)),((bif false then decide ((↑k:Int)>0) else false)=false),Con Tryz.prog 89 1 (zf76 n f s1) [.pt 3 0 0 0,.p (.int .i64 (↑v:Int))] (zf76 n f s2) (.p (.int .i64 a)),(ZLo (a+1)),(ZHi (a+1)),(ZLo ((↑v:Int) - 1)),(ZHi ((↑v:Int) - 1)),Con Tryz.prog 89 1 (zf76 n f s2) [.pt 3 0 0 0,.p (.int .i64 ((↑v:Int) - 1))] (zf76 n f s3) (.p (.int .i64 y)),(ZLo (a+1+y)),(ZHi (a+1+y)),(IL 0 (a+1+y)),(IT 0 (↑v:Int)),(NT 0 1),(AN 2),(NL k k),zE 136 [(zf79 K I k h),.agg [.p (.int .i64 a),.p (.int .i64 (↑v:Int))]] (zf89 k1 h1) ((zf98 K I k1)),(NL k1 k1),zE 136 [(zf79 K I k1 h1),(zf91 a y v)] (zf89 k2 h2) ((zf98 K I k2)),((true=true)→ (AN 1)),(ZLo ((↑v:Int)+1)),(ZHi ((↑v:Int)+1)),(AN 0),(AI ((↑I:Int))),(AI ((↑K:Int))),((((↑v:Int)+1):Int)=(↑(v+1):Int)),(AN 3),(NL 1 1),(AN n),(AP n (fun i=>[.int .u8 (f i)])),(AI ((↑s3.1:Int))),(AI s3.2),(AI 0),(AI (((↑K:Int)+(↑I:Int)))),(AN k2),(AN u.1),(NL k2 k2),(AA k2 (fun i=>[.p (.int .i64 ((h2 i).1)),.p (.int .i64 ((h2 i).2.1))])),(AN 1),(NL u.1 u.1),(AA u.1 (fun i=>[.p (.int .i64 (u.2 i))]))] [0,1,2,3,3,4,5,3,6,6,7,6,6,6,8,4,9,10,11,12,13,4,14,15,16,17,18,19,20,21,22,20,23,24,19,25,26,27,28,29,28,30,28,31,32,33,33,34,35,36,37,32,33,33,38,32,33,33,39,28,40,28,41,20,42,43,44,45,46]):=by kernel_rfl
theorem diC (n:Nat) (f:Nat→Int) (s s1 s2 s3 s4 s5 s6:Nat×Int) (I K:Nat) (k:Nat) (h:Nat→T_Bar) (u:T_IntS) (v:Nat) (a y e2:Int) (e:Nat) (k0 k1 k2 k3:Nat) (h0 h1 h2 h3:Nat→T_Bar) (ok:Bool) :
    zM 1 [rg 5,.dec true,rm [(4,gT),(0,⟨true,(some ⟨[0],[1000],[],1,[(0,cuO n f s1)],.p (.bool true)⟩),some true⟩),(0,gT)] 7,.dec true,rm [(5,⟨true,(some ⟨[0],[1000],[],1,[(0,cuO n f s2)],.p (.int .i64 e)⟩),none⟩)] 1,rg 8,rm [(6,⟨true,(some ⟨[0],[1000],[],1,[(0,cuO n f s3)],.p (.int .i64 y)⟩),none⟩)] 4,rg 10,.dec false,rg 10,.dec true,rm [(3,oc [(0,brOb k0 h0)] (.tup [grR ((K:Int)+(I:Int)) k0 0,.p (.bool ok)]))] 6,rm [(5,oc [(0,brOb k1 h1)] (grR ((K:Int)+(I:Int)) k1 0)),(4,oc [(0,brOb k2 h2)] (grR ((K:Int)+(I:Int)) k2 0))] 1,rm [(4,oc [(0,brOb k3 h3)] (grR ((K:Int)+(I:Int)) k3 0))] 2,rg 3,.head] zf27 (SIs n f s I K k h u v) [0,1,2,2917,4] 1 (SIs n f s3 I K k3 h3 u (v+1)) =
    some (zf27,zD [(ZLo ((↑K:Int)+(↑I:Int))),(ZHi ((↑K:Int)+(↑I:Int))),((decide ((↑v:Int)<(↑K:Int)+(↑I:Int)))=true),((decide ((↑v:Int)>(↑K:Int)))=true),(AE 1),Con Tryz.prog 103 1 (zf76 n f s) [.pt 3 0 0 0,.p (.int .i64 2)] (zf76 n f s1) (.p (.bool true)),(AG true),((true=true)→(NT 0 1)),((bif true then decide ((↑k:Int)>0) else false)=true),(NT 0 1),Con Tryz.prog 89 1 (zf76 n f s1) [.pt 3 0 0 0,.p (.int .i64 (↑k:Int))] (zf76 n f s2) (.p (.int .i64 (↑e:Int))),(IL 0 (↑e:Int)),(IT (↑e:Int) (↑k:Int)),(NT e k),((true=true)→ (AN 1)),(ZLo ((h e).2.1+1)),(ZHi ((h e).2.1+1)),(ZLo ((↑v:Int) - 1)),(ZHi ((↑v:Int) - 1)),Con Tryz.prog 89 1 (zf76 n f s2) [.pt 3 0 0 0,.p (.int .i64 ((↑v:Int) - 1))] (zf76 n f s3) (.p (.int .i64 y)),(ZLo ((h e).2.1+1+y)),(ZHi ((h e).2.1+1+y)),(IL 0 ((h e).2.1+1+y)),(IT 0 (↑v:Int)),(AG (!((h e).2.1+1+y) % (↑v:Int)==(h e).1)),(((!((h e).2.1+1+y) % (↑v:Int)==(h e).1)=true)→(NT 0 1)),(((((h e).2.1+1+y) % (↑v:Int)==(h e).1)=false)→ ((!((h e).2.1+1+y) % (↑v:Int)==(h e).1)=true)),((bif ((h e).2.1+1+y) % (↑v:Int)==(h e).1 then true else ((h e).2.1+1+y) % (↑v:Int)==(h e).2.1)=false),(AG (((h e).2.1+1+y) % (↑v:Int) != (h e).1)),(((((h e).2.1+1+y) % (↑v:Int) != (h e).1)=true)→(NT 0 1)),((bif ((h e).2.1+1+y) % (↑v:Int) != (h e).1 then ((h e).2.1+1+y) % (↑v:Int) != (h e).2.1 else false)=true),(AN 2),(NL k k),zE 161 [(zf79 K I k h),.p (.int .i64 (↑e:Int))] (zf89 k0 h0) (.tup [(zf98 K I k0),.p (.bool ok)]),(NL k0 k0),zE 136 [(zf79 K I k0 h0),.agg [.p (.int .i64 ((h e).1)),.p (.int .i64 (↑v:Int))]] (zf89 k1 h1) ((zf98 K I k1)),(NL k1 k1),zE 136 [(zf79 K I k1 h1),.agg [.p (.int .i64 ((h e).2.1)),.p (.int .i64 (↑v:Int))]] (zf89 k2 h2) ((zf98 K I k2)),(NL k2 k2),zE 136 [(zf79 K I k2 h2),.agg [.p (.int .i64 (((h e).2.1+1+y) % (↑v:Int))),.p (.int .i64 (↑v:Int))]] (zf89 k3 h3) ((zf98 K I k3)),(ZLo ((↑v:Int)+1)),(ZHi ((↑v:Int)+1)),(AN 0),(AI ((↑I:Int))),(AI ((↑K:Int))),((((↑v:Int)+1):Int)=(↑(v+1):Int)),(AN 3),(NL 1 1),(AN n),(AP n (fun i=>[.int .u8 (f i)])),(AI ((↑s3.1:Int))),(AI s3.2),(AI 0),(AI (((↑K:Int)+(↑I:Int)))),(AN k3),(AN u.1),(NL k3 k3),(AA k3 (fun i=>[.p (.int .i64 ((h3 i).1)),.p (.int .i64 ((h3 i).2.1))])),(AN 1),(NL u.1 u.1),(AA u.1 (fun i=>[.p (.int .i64 (u.2 i))]))] [0,1,2,3,3,4,5,3,6,6,7,6,6,6,8,9,4,10,9,11,12,13,9,14,9,15,16,17,18,4,19,20,21,22,23,9,24,25,24,24,26,27,9,28,29,28,28,28,30,9,31,32,33,9,14,9,9,31,34,35,9,31,36,37,9,14,9,31,38,39,9,14,40,41,42,43,42,44,42,45,46,47,47,48,49,50,51,46,47,47,52,46,47,47,53,42,54,42,55,31,56,57,58,59,60]):=by kernel_rfl
theorem diD (n:Nat) (f:Nat→Int) (s s1 s2 s3 s4 s5 s6:Nat×Int) (I K:Nat) (k:Nat) (h:Nat→T_Bar) (u:T_IntS) (v:Nat) (a y e2:Int) (e:Nat) (k0 k1 k2 k3:Nat) (h0 h1 h2 h3:Nat→T_Bar) (ok:Bool) :
    zM 1 [rg 5,.dec true,rm [(4,gT),(0,⟨true,(some ⟨[0],[1000],[],1,[(0,cuO n f s1)],.p (.bool true)⟩),some true⟩),(0,gT)] 7,.dec true,rm [(5,⟨true,(some ⟨[0],[1000],[],1,[(0,cuO n f s2)],.p (.int .i64 e)⟩),none⟩)] 1,rg 8,rm [(6,⟨true,(some ⟨[0],[1000],[],1,[(0,cuO n f s3)],.p (.int .i64 y)⟩),none⟩)] 4,rg 10,.dec true,rg 6,rg 10,.dec true,rm [(3,oc [(0,brOb k0 h0)] (.tup [grR ((K:Int)+(I:Int)) k0 0,.p (.bool ok)]))] 6,rm [(5,oc [(0,brOb k1 h1)] (grR ((K:Int)+(I:Int)) k1 0)),(4,oc [(0,brOb k2 h2)] (grR ((K:Int)+(I:Int)) k2 0))] 1,rm [(4,oc [(0,brOb k3 h3)] (grR ((K:Int)+(I:Int)) k3 0))] 2,rg 3,.head] zf27 (SIs n f s I K k h u v) [0,1,2,3109,4] 1 (SIs n f s3 I K k3 h3 u (v+1)) =
    some (zf27,zD [(ZLo ((↑K:Int)+(↑I:Int))),(ZHi ((↑K:Int)+(↑I:Int))),((decide ((↑v:Int)<(↑K:Int)+(↑I:Int)))=true),((decide ((↑v:Int)>(↑K:Int)))=true),(AE 1),Con Tryz.prog 103 1 (zf76 n f s) [.pt 3 0 0 0,.p (.int .i64 2)] (zf76 n f s1) (.p (.bool true)),(AG true),((true=true)→(NT 0 1)),((bif true then decide ((↑k:Int)>0) else false)=true),(NT 0 1),Con Tryz.prog 89 1 (zf76 n f s1) [.pt 3 0 0 0,.p (.int .i64 (↑k:Int))] (zf76 n f s2) (.p (.int .i64 (↑e:Int))),(IL 0 (↑e:Int)),(IT (↑e:Int) (↑k:Int)),(NT e k),((true=true)→ (AN 1)),(ZLo ((h e).2.1+1)),(ZHi ((h e).2.1+1)),(ZLo ((↑v:Int) - 1)),(ZHi ((↑v:Int) - 1)),Con Tryz.prog 89 1 (zf76 n f s2) [.pt 3 0 0 0,.p (.int .i64 ((↑v:Int) - 1))] (zf76 n f s3) (.p (.int .i64 y)),(ZLo ((h e).2.1+1+y)),(ZHi ((h e).2.1+1+y)),(IL 0 ((h e).2.1+1+y)),(IT 0 (↑v:Int)),(AG (!((h e).2.1+1+y) % (↑v:Int)==(h e).1)),(((!((h e).2.1+1+y) % (↑v:Int)==(h e).1)=true)→(NT 0 1)),(((((h e).2.1+1+y) % (↑v:Int)==(h e).1)=false)→ ((!((h e).2.1+1+y) % (↑v:Int)==(h e).1)=true)),((bif ((h e).2.1+1+y) % (↑v:Int)==(h e).1 then true else ((h e).2.1+1+y) % (↑v:Int)==(h e).2.1)=true),(IL 0 ((h e).2.1+1)),(AG (((h e).2.1+1) % (↑v:Int) != (h e).1)),(((((h e).2.1+1) % (↑v:Int) != (h e).1)=true)→(NT 0 1)),((bif ((h e).2.1+1) % (↑v:Int) != (h e).1 then ((h e).2.1+1) % (↑v:Int) != (h e).2.1 else false)=true),(AN 2),(NL k k),zE 161 [(zf79 K I k h),.p (.int .i64 (↑e:Int))] (zf89 k0 h0) (.tup [(zf98 K I k0),.p (.bool ok)]),(NL k0 k0),zE 136 [(zf79 K I k0 h0),.agg [.p (.int .i64 ((h e).1)),.p (.int .i64 (↑v:Int))]] (zf89 k1 h1) ((zf98 K I k1)),(NL k1 k1),zE 136 [(zf79 K I k1 h1),.agg [.p (.int .i64 ((h e).2.1)),.p (.int .i64 (↑v:Int))]] (zf89 k2 h2) ((zf98 K I k2)),(NL k2 k2),zE 136 [(zf79 K I k2 h2),.agg [.p (.int .i64 (((h e).2.1+1) % (↑v:Int))),.p (.int .i64 (↑v:Int))]] (zf89 k3 h3) ((zf98 K I k3)),(ZLo ((↑v:Int)+1)),(ZHi ((↑v:Int)+1)),(AN 0),(AI ((↑I:Int))),(AI ((↑K:Int))),((((↑v:Int)+1):Int)=(↑(v+1):Int)),(AN 3),(NL 1 1),(AN n),(AP n (fun i=>[.int .u8 (f i)])),(AI ((↑s3.1:Int))),(AI s3.2),(AI 0),(AI (((↑K:Int)+(↑I:Int)))),(AN k3),(AN u.1),(NL k3 k3),(AA k3 (fun i=>[.p (.int .i64 ((h3 i).1)),.p (.int .i64 ((h3 i).2.1))])),(AN 1),(NL u.1 u.1),(AA u.1 (fun i=>[.p (.int .i64 (u.2 i))]))] [0,1,2,3,3,4,5,3,6,6,7,6,6,6,8,9,4,10,9,11,12,13,9,14,9,15,16,17,18,4,19,20,21,22,23,9,24,25,24,24,26,27,9,15,16,28,23,9,29,30,29,29,29,31,9,32,33,34,9,14,9,9,32,35,36,9,32,37,38,9,14,9,32,39,40,9,14,41,42,43,44,43,45,43,46,47,48,48,49,50,51,52,47,48,48,53,47,48,48,54,43,55,43,56,32,57,58,59,60,61]):=by kernel_rfl
theorem diE (n:Nat) (f:Nat→Int) (s s1 s2 s3 s4 s5 s6:Nat×Int) (I K:Nat) (k:Nat) (h:Nat→T_Bar) (u:T_IntS) (v:Nat) (a y e2:Int) (e:Nat) (k0 k1 k2 k3:Nat) (h0 h1 h2 h3:Nat→T_Bar) (ok:Bool) :
    zM 1 [rg 5,.dec true,rm [(4,gT),(0,⟨true,(some ⟨[0],[1000],[],1,[(0,cuO n f s1)],.p (.bool true)⟩),some true⟩),(0,gT)] 7,.dec true,rm [(5,⟨true,(some ⟨[0],[1000],[],1,[(0,cuO n f s2)],.p (.int .i64 e)⟩),none⟩)] 1,rg 8,rm [(6,⟨true,(some ⟨[0],[1000],[],1,[(0,cuO n f s3)],.p (.int .i64 y)⟩),none⟩)] 4,rg 10,.dec true,rg 6,rg 10,.dec false,rm [(2,⟨true,(some ⟨[0],[1000],[],1,[(0,cuO n f s4)],.p (.int .i64 a)⟩),none⟩)] 1,rm [(5,⟨true,(some ⟨[0],[1000],[],1,[(0,cuO n f s5)],.p (.int .i64 e2)⟩),none⟩)] 4,rm [(5,oc [(0,brOb k1 h1)] (grR ((K:Int)+(I:Int)) k1 0)),(3,oc [(0,brOb k2 h2)] (grR ((K:Int)+(I:Int)) k2 0))] 2,rg 3,.head] zf27 (SIs n f s I K k h u v) [0,1,2,3013,4] 1 (SIs n f s5 I K k2 h2 u (v+1)) =
    some (zf27,zD [(ZLo ((↑K:Int)+(↑I:Int))),(ZHi ((↑K:Int)+(↑I:Int))),((decide ((↑v:Int)<(↑K:Int)+(↑I:Int)))=true),((decide ((↑v:Int)>(↑K:Int)))=true),(AE 1),Con Tryz.prog 103 1 (zf76 n f s) [.pt 3 0 0 0,.p (.int .i64 2)] (zf76 n f s1) (.p (.bool true)),(AG true),((true=true)→(NT 0 1)),((bif true then decide ((↑k:Int)>0) else false)=true),(NT 0 1),Con Tryz.prog 89 1 (zf76 n f s1) [.pt 3 0 0 0,.p (.int .i64 (↑k:Int))] (zf76 n f s2) (.p (.int .i64 (↑e:Int))),(IL 0 (↑e:Int)),(IT (↑e:Int) (↑k:Int)),(NT e k),((true=true)→ (AN 1)),(ZLo ((h e).2.1+1)),(ZHi ((h e).2.1+1)),(ZLo ((↑v:Int) - 1)),(ZHi ((↑v:Int) - 1)),Con Tryz.prog 89 1 (zf76 n f s2) [.pt 3 0 0 0,.p (.int .i64 ((↑v:Int) - 1))] (zf76 n f s3) (.p (.int .i64 y)),(ZLo ((h e).2.1+1+y)),(ZHi ((h e).2.1+1+y)),(IL 0 ((h e).2.1+1+y)),(IT 0 (↑v:Int)),(AG (!((h e).2.1+1+y) % (↑v:Int)==(h e).1)),(((!((h e).2.1+1+y) % (↑v:Int)==(h e).1)=true)→(NT 0 1)),(((((h e).2.1+1+y) % (↑v:Int)==(h e).1)=false)→ ((!((h e).2.1+1+y) % (↑v:Int)==(h e).1)=true)),((bif ((h e).2.1+1+y) % (↑v:Int)==(h e).1 then true else ((h e).2.1+1+y) % (↑v:Int)==(h e).2.1)=true),(IL 0 ((h e).2.1+1)),(AG (((h e).2.1+1) % (↑v:Int) != (h e).1)),(((((h e).2.1+1) % (↑v:Int) != (h e).1)=true)→(NT 0 1)),((bif ((h e).2.1+1) % (↑v:Int) != (h e).1 then ((h e).2.1+1) % (↑v:Int) != (h e).2.1 else false)=false),Con Tryz.prog 89 1 (zf76 n f s3) [.pt 3 0 0 0,.p (.int .i64 (↑v:Int))] (zf76 n f s4) (.p (.int .i64 a)),(ZLo (a+1)),(ZHi (a+1)),Con Tryz.prog 89 1 (zf76 n f s4) [.pt 3 0 0 0,.p (.int .i64 ((↑v:Int) - 1))] (zf76 n f s5) (.p (.int .i64 e2)),(ZLo (a+1+e2)),(ZHi (a+1+e2)),(IL 0 (a+1+e2)),(AN 2),(NL k k),zE 136 [(zf79 K I k h),.agg [.p (.int .i64 a),.p (.int .i64 (↑v:Int))]] (zf89 k1 h1) ((zf98 K I k1)),(NL k1 k1),zE 136 [(zf79 K I k1 h1),(zf91 a e2 v)] (zf89 k2 h2) ((zf98 K I k2)),(ZLo ((↑v:Int)+1)),(ZHi ((↑v:Int)+1)),(AN 0),(AI ((↑I:Int))),(AI ((↑K:Int))),((((↑v:Int)+1):Int)=(↑(v+1):Int)),(AN 3),(NL 1 1),(AN n),(AP n (fun i=>[.int .u8 (f i)])),(AI ((↑s5.1:Int))),(AI s5.2),(AI 0),(AI (((↑K:Int)+(↑I:Int)))),(AN k2),(AN u.1),(NL k2 k2),(AA k2 (fun i=>[.p (.int .i64 ((h2 i).1)),.p (.int .i64 ((h2 i).2.1))])),(AN 1),(NL u.1 u.1),(AA u.1 (fun i=>[.p (.int .i64 (u.2 i))]))] [0,1,2,3,3,4,5,3,6,6,7,6,6,6,8,9,4,10,9,11,12,13,9,14,9,15,16,17,18,4,19,20,21,22,23,9,24,25,24,24,26,27,9,15,16,28,23,9,29,30,29,29,29,31,4,32,33,34,17,18,4,35,36,37,38,23,9,39,40,41,39,42,43,9,14,44,45,46,47,46,48,46,49,50,51,51,52,53,54,55,50,51,51,56,50,51,51,57,46,58,46,59,39,60,61,62,63,64]):=by kernel_rfl
theorem dja (n:Nat) (f:Nat→Int) (s s1 s2 s3 s4 s5:Nat×Int) (N M:Int) (k m:Nat) (h r:Nat→T_Bar) (u:T_IntS) (x y z t:Int) (ok:Bool) :
    zP Tryz.f157 1 [rg 1,rm [(2,⟨true,(some ⟨[0],[1000],[],1,[(0,cuO n f s1)],.p (.int .i64 x)⟩),none⟩),(1,⟨true,(some ⟨[0],[1000],[],1,[(0,cuO n f s2),(1,brOb k h),(2,iOb u.1 u.2)],piR N k u.1 1⟩),none⟩)] 2,rm [(1,⟨true,(some ⟨[0],[1000],[],1,[(0,cuO n f s3)],.p (.int .i64 y)⟩),none⟩)] 0,rg 2,.dec true,rm [(7,⟨true,(some ⟨[0],[1000],[],1,[(0,cuO n f s4)],.p (.int .i64 z)⟩),none⟩),(0,oc [(0,brOb m r)] (.tup [grR N m 0,.p (.bool ok)]))] 6,rg 3,rg 2] [.code (bodyOf Tryz.f157)] (start Tryz.f157 [(0,cuO n f s)] 1 [.pt 3 0 0 0]) [0,641,162] 1 [(0,cuO n f s4),(1,brOb m r),(2,iOb u.1 u.2)] (piR N m u.1 1) =
    some (zD [(AE 1),Con Tryz.prog 89 1 (zf76 n f s) [.pt 3 0 0 0,.p (.int .i64 4)] (zf76 n f s1) (.p (.int .i64 x)),(ZLo (1+x)),(ZHi (1+x)),Con Tryz.prog 191 1 (zf76 n f s1) [.pt 3 0 0 0,.p (.int .i64 (1+x))] (zf11 n f s2 k h u) (.agg [.p (.int .i64 N),.ar 2 1 0 k,.ar 1 2 0 u.1]),(NT 0 1),((true=true)→ (AN 1)),Con Tryz.prog 89 1 (zf76 n f s2) [.pt 3 0 0 0,.p (.int .i64 8)] (zf76 n f s3) (.p (.int .i64 y)),((y==0)=true),Con Tryz.prog 89 1 (zf76 n f s3) [.pt 3 0 0 0,.p (.int .i64 (↑k:Int))] (zf76 n f s4) (.p (.int .i64 z)),(AN 2),(NL k k),zE 161 [(zf85 N k h),.p (.int .i64 z)] (zf89 m r) (.tup [.agg [.p (.int .i64 N),.ar 2 0 0 m],.p (.bool ok)]),(AI N),(AN 0),(AN m),(AN u.1),(AN 3),(NL 1 1),(AN n),(AP n (fun i=>[.int .u8 (f i)])),(AI ((↑s4.1:Int))),(AI s4.2),(NL m m),(AA m (fun i=>[.p (.int .i64 ((r i).1)),.p (.int .i64 ((r i).2.1))])),(AN 1),(NL u.1 u.1),(AA u.1 (fun i=>[.p (.int .i64 (u.2 i))])),(∀ i:Nat,(((i:Nat)<1)→All [(false=false),(AE n)])),(AE m),(AE u.1)] [0,1,2,3,0,4,5,6,0,7,8,5,5,0,9,10,11,12,5,6,5,5,6,5,5,6,5,13,14,15,14,16,17,18,18,19,20,21,22,10,23,24,25,26,27,28,29,30]):=by kernel_rfl
theorem djb (n:Nat) (f:Nat→Int) (s s1 s2 s3 s4 s5:Nat×Int) (N M:Int) (k m:Nat) (h r:Nat→T_Bar) (u:T_IntS) (x y z t:Int) (ok:Bool) :
    zP Tryz.f157 1 [rg 1,rm [(2,⟨true,(some ⟨[0],[1000],[],1,[(0,cuO n f s1)],.p (.int .i64 x)⟩),none⟩),(1,⟨true,(some ⟨[0],[1000],[],1,[(0,cuO n f s2),(1,brOb k h),(2,iOb u.1 u.2)],piR N k u.1 1⟩),none⟩)] 2,rm [(1,⟨true,(some ⟨[0],[1000],[],1,[(0,cuO n f s3)],.p (.int .i64 y)⟩),none⟩)] 0,rg 2,.dec false,rg 2,.dec true,rm [(4,⟨true,(some ⟨[0],[1000],[],1,[(0,cuO n f s4)],.p (.int .i64 z)⟩),none⟩)] 1,rm [(4,⟨true,(some ⟨[0],[1000],[],1,[(0,cuO n f s5)],.p (.int .i64 t)⟩),none⟩)] 1,rm [(4,oc [(0,brOb m r)] (.tup [grR N m 0,.p (.bool ok)]))] 6,rg 3,rg 2] [.code (bodyOf Tryz.f157)] (start Tryz.f157 [(0,cuO n f s)] 1 [.pt 3 0 0 0]) [0,961,162] 1 [(0,cuO n f s5),(1,brOb m r),(2,iOb u.1 u.2)] (piR N m u.1 1) =
    some (zD [(AE 1),Con Tryz.prog 89 1 (zf76 n f s) [.pt 3 0 0 0,.p (.int .i64 4)] (zf76 n f s1) (.p (.int .i64 x)),(ZLo (1+x)),(ZHi (1+x)),Con Tryz.prog 191 1 (zf76 n f s1) [.pt 3 0 0 0,.p (.int .i64 (1+x))] (zf11 n f s2 k h u) (.agg [.p (.int .i64 N),.ar 2 1 0 k,.ar 1 2 0 u.1]),(NT 0 1),((true=true)→ (AN 1)),Con Tryz.prog 89 1 (zf76 n f s2) [.pt 3 0 0 0,.p (.int .i64 8)] (zf76 n f s3) (.p (.int .i64 y)),((y==0)=false),((y==1)=true),Con Tryz.prog 89 1 (zf76 n f s3) [.pt 3 0 0 0,.p (.int .i64 N)] (zf76 n f s4) (.p (.int .i64 z)),Con Tryz.prog 89 1 (zf76 n f s4) [.pt 3 0 0 0,.p (.int .i64 N)] (zf76 n f s5) (.p (.int .i64 t)),(AN 2),(NL k k),zE 86 [(zf85 N k h),.p (.int .i64 z),.p (.int .i64 t)] (zf89 m r) (.tup [.agg [.p (.int .i64 N),.ar 2 0 0 m],.p (.bool ok)]),(AI N),(AN 0),(AN m),(AN u.1),(AN 3),(NL 1 1),(AN n),(AP n (fun i=>[.int .u8 (f i)])),(AI ((↑s5.1:Int))),(AI s5.2),(NL m m),(AA m (fun i=>[.p (.int .i64 ((r i).1)),.p (.int .i64 ((r i).2.1))])),(AN 1),(NL u.1 u.1),(AA u.1 (fun i=>[.p (.int .i64 (u.2 i))])),(∀ i:Nat,(((i:Nat)<1)→All [(false=false),(AE n)])),(AE m),(AE u.1)] [0,1,2,3,0,4,5,6,0,7,8,9,5,0,10,5,0,11,5,12,13,14,5,6,5,5,6,5,5,6,5,15,16,17,16,18,19,20,20,21,22,23,24,12,25,26,27,28,29,30,31,32]):=by kernel_rfl
theorem djc (n:Nat) (f:Nat→Int) (s s1 s2 s3 s4 s5:Nat×Int) (N M:Int) (k m:Nat) (h r:Nat→T_Bar) (u:T_IntS) (x y z t:Int) (ok:Bool) :
    zP Tryz.f157 1 [rg 1,rm [(2,⟨true,(some ⟨[0],[1000],[],1,[(0,cuO n f s1)],.p (.int .i64 x)⟩),none⟩),(1,⟨true,(some ⟨[0],[1000],[],1,[(0,cuO n f s2),(1,brOb k h),(2,iOb u.1 u.2)],piR N k u.1 1⟩),none⟩)] 2,rm [(1,⟨true,(some ⟨[0],[1000],[],1,[(0,cuO n f s3)],.p (.int .i64 y)⟩),none⟩)] 0,rg 2,.dec false,rg 2,.dec false,rg 2,.dec true,rm [(1,⟨true,(some ⟨[0],[1000],[],1,[(0,cuO n f s4)],.p (.int .i64 z)⟩),none⟩),(2,⟨true,(some ⟨[0],[1000],[],1,[(0,cuO n f s5)],.p (.int .i64 t)⟩),none⟩)] 3,rg 2] [.code (bodyOf Tryz.f157)] (start Tryz.f157 [(0,cuO n f s)] 1 [.pt 3 0 0 0]) [0,161,673] 1 [(0,cuO n f s5),(1,brOb k h),(2,iOb 2 (twoF (z - 1) t))] (piR N k 2 1) =
    some (zD [(AE 1),Con Tryz.prog 89 1 (zf76 n f s) [.pt 3 0 0 0,.p (.int .i64 4)] (zf76 n f s1) (.p (.int .i64 x)),(ZLo (1+x)),(ZHi (1+x)),Con Tryz.prog 191 1 (zf76 n f s1) [.pt 3 0 0 0,.p (.int .i64 (1+x))] (zf11 n f s2 k h u) (.agg [.p (.int .i64 N),.ar 2 1 0 k,.ar 1 2 0 u.1]),(NT 0 1),((true=true)→ (AN 1)),Con Tryz.prog 89 1 (zf76 n f s2) [.pt 3 0 0 0,.p (.int .i64 8)] (zf76 n f s3) (.p (.int .i64 y)),((y==0)=false),((y==1)=false),((y==2)=true),Con Tryz.prog 89 1 (zf76 n f s3) [.pt 3 0 0 0,.p (.int .i64 4)] (zf76 n f s4) (.p (.int .i64 z)),(ZLo (z - 1)),(ZHi (z - 1)),Con Tryz.prog 89 1 (zf76 n f s4) [.pt 3 0 0 0,.p (.int .i64 9)] (zf76 n f s5) (.p (.int .i64 t)),(AI N),(AN 0),(AN k),(AN 2),(AN 3),(NL 1 1),(AN n),(AP n (fun i=>[.int .u8 (f i)])),(AI ((↑s5.1:Int))),(AI s5.2),(NL k k),(AA k (fun i=>[.p (.int .i64 ((h i).1)),.p (.int .i64 ((h i).2.1))])),(AN 1),(NL 2 2),(∀ i:Nat,(((i:Nat)<2)→(All (cvtL false [(1,⟨true,3,1,(fun i_1=>[.p (.int .i64 N),.ar 2 161 0 k,.ar 1 673 0 2])⟩),(193,⟨true,3,1,(fun i_1=>[.p (.int .i64 N),.ar 2 161 0 k,.ar 1 673 0 2])⟩),(673,⟨false,1,2,(fun i_1=>[(List.getD ([.p (.int .i64 (z - 1)),.p (.int .i64 t)]:List AV) (rowIx 2 i_1*1) (.p .any))])⟩),(0,⟨true,3,1,(fun i_1=>[.p (.seq false 1 n (fun i_2=>[.int .u8 (f i_2)])),.p (.int .i64 (↑s5.1:Int)),.p (.int .i64 s5.2)])⟩),(162,⟨false,1,u.1,(fun i_1=>[.p (.int .i64 (u.2 i_1))])⟩),(161,⟨false,2,k,(fun i_1=>[.p (.int .i64 ((h i_1).1)),.p (.int .i64 ((h i_1).2.1))])⟩)] [0,161,673] 1 [(List.getD ([.p (.int .i64 (z - 1)),.p (.int .i64 t)]:List AV) (rowIx 2 i*1) (.p .any))]).2∧(((cvtL false [(1,⟨true,3,1,(fun i_1=>[.p (.int .i64 N),.ar 2 161 0 k,.ar 1 673 0 2])⟩),(193,⟨true,3,1,(fun i_1=>[.p (.int .i64 N),.ar 2 161 0 k,.ar 1 673 0 2])⟩),(673,⟨false,1,2,(fun i_1=>[(List.getD ([.p (.int .i64 (z - 1)),.p (.int .i64 t)]:List AV) (rowIx 2 i_1*1) (.p .any))])⟩),(0,⟨true,3,1,(fun i_1=>[.p (.seq false 1 n (fun i_2=>[.int .u8 (f i_2)])),.p (.int .i64 (↑s5.1:Int)),.p (.int .i64 s5.2)])⟩),(162,⟨false,1,u.1,(fun i_1=>[.p (.int .i64 (u.2 i_1))])⟩),(161,⟨false,2,k,(fun i_1=>[.p (.int .i64 ((h i_1).1)),.p (.int .i64 ((h i_1).2.1))])⟩)] [0,161,673] 1 [(List.getD ([.p (.int .i64 (z - 1)),.p (.int .i64 t)]:List AV) (rowIx 2 i*1) (.p .any))]).1:List AV)=[.p (.int .i64 (twoF (z - 1) t i))])))),(∀ i:Nat,(((i:Nat)<1)→All [(false=false),(AE n)])),(AE k),(AE 2)] [0,1,2,3,0,4,5,6,0,7,8,9,10,0,11,12,13,0,14,5,6,5,5,6,5,15,16,17,16,18,19,20,20,21,22,23,24,18,25,26,27,28,29,30,31,32]):=by kernel_rfl
theorem djd (n:Nat) (f:Nat→Int) (s s1 s2 s3 s4 s5:Nat×Int) (N M:Int) (k m:Nat) (h r:Nat→T_Bar) (u:T_IntS) (x y z t:Int) (ok:Bool) :
    zP Tryz.f157 1 [rg 1,rm [(2,⟨true,(some ⟨[0],[1000],[],1,[(0,cuO n f s1)],.p (.int .i64 x)⟩),none⟩),(1,⟨true,(some ⟨[0],[1000],[],1,[(0,cuO n f s2),(1,brOb k h),(2,iOb u.1 u.2)],piR N k u.1 1⟩),none⟩)] 2,rm [(1,⟨true,(some ⟨[0],[1000],[],1,[(0,cuO n f s3)],.p (.int .i64 y)⟩),none⟩)] 0,rg 2,.dec false,rg 2,.dec false,rg 2,.dec false,rg 2] [.code (bodyOf Tryz.f157)] (start Tryz.f157 [(0,cuO n f s)] 1 [.pt 3 0 0 0]) [0,161,162] 1 [(0,cuO n f s3),(1,brOb k h),(2,iOb u.1 u.2)] (piR N k u.1 1) =
    some [(AE 1),Con Tryz.prog 89 1 (zf76 n f s) [.pt 3 0 0 0,.p (.int .i64 4)] (zf76 n f s1) (.p (.int .i64 x)),(ZLo (1+x)),(ZHi (1+x)),(AE 1),Con Tryz.prog 191 1 (zf76 n f s1) [.pt 3 0 0 0,.p (.int .i64 (1+x))] (zf11 n f s2 k h u) (.agg [.p (.int .i64 N),.ar 2 1 0 k,.ar 1 2 0 u.1]),(NT 0 1),((true=true)→ (AN 1)),(AE 1),Con Tryz.prog 89 1 (zf76 n f s2) [.pt 3 0 0 0,.p (.int .i64 8)] (zf76 n f s3) (.p (.int .i64 y)),((y==0)=false),((y==1)=false),((y==2)=false),(NT 0 1),(NT 0 1),((true=true)→ (AN 1)),(NT 0 1),(AI N),(AN 0),(AN k),(AN 0),(AN u.1),(AN 3),(NL 1 1),(NL 1 1),(AN n),(AP n (fun i=>[.int .u8 (f i)])),(AI ((↑s3.1:Int))),(AI s3.2),(AN 2),(NL k k),(AA k (fun i=>[.p (.int .i64 ((h i).1)),.p (.int .i64 ((h i).2.1))])),(AN 1),(NL u.1 u.1),(AA u.1 (fun i=>[.p (.int .i64 (u.2 i))])),(∀ i:Nat,(((i:Nat)<1)→All [(false=false),(AE n)])),(AE k),(AE u.1)]:=by kernel_rfl
theorem dka (n:Nat) (f:Nat→Int) (s s1 s2:Nat×Int) (N:Int) (k:Nat) (h:Nat→T_Bar) (u:T_IntS) (q:Nat) :
    zM 1 [rg 1,rm [(1,⟨true,(some ⟨[0],[1000],[],1,[(0,cuO n f s1),(1,brOb k h),(2,iOb u.1 u.2)],piR N k u.1 1⟩),none⟩)] 2,rm [(1,⟨true,(some ⟨[0],[1000],[],1,[(0,cuO n f s2)],.p (.int .i64 q)⟩),none⟩)] 1,.head] [.code (bodyOf Tryz.f88)] (start Tryz.f88 [(0,cuO n f s)] 1 [.pt 3 0 0 0]) [0,1,97,65,66] 1 (SSe n f s2 N k h u q) =
    some (zf61,zD [(AE 1),Con Tryz.prog 157 1 (zf76 n f s) [.pt 3 0 0 0] (zf11 n f s1 k h u) (.agg [.p (.int .i64 N),.ar 2 1 0 k,.ar 1 2 0 u.1]),(NT 0 1),((true=true)→ (AN 1)),Con Tryz.prog 89 1 (zf76 n f s1) [.pt 3 0 0 0,.p (.int .i64 3)] (zf76 n f s2) (.p (.int .i64 (↑q:Int))),(AN 0),(AI ((↑q:Int))),(AN 3),(NL 1 1),(AN n),(AP n (fun i=>[.int .u8 (f i)])),(AI ((↑s2.1:Int))),(AI s2.2),((((List.map (fun v=>AV.p (absV v)) [Value.int IntKind.i64 0,Value.slice none 0 0,Value.slice none 0 0]).length):Nat)=3),(AI 0),(AI N),(AN k),(AN u.1),(AN 2),(NL k k),(AA k (fun i=>[.p (.int .i64 ((h i).1)),.p (.int .i64 ((h i).2.1))])),(AN 1),(NL u.1 u.1),(AA u.1 (fun i=>[.p (.int .i64 (u.2 i))]))] [0,1,2,3,0,4,5,5,5,6,7,8,8,9,10,11,12,13,8,8,14,13,8,8,15,5,16,5,17,18,19,20,21,22,23]):=by kernel_rfl
theorem dkb (n:Nat) (f:Nat→Int) (s s1 s2:Nat×Int) (N:Int) (k:Nat) (h:Nat→T_Bar) (u:T_IntS) (q:Nat) (a b:Int) (c:Int) (b1 b2:Bool) (m:Nat) (r:Nat→T_Bar) (ok:Bool) :
    zM 1 [rg 2,.dec true,rm [(5,⟨true,(some ⟨[0],[1000],[],1,[(0,cuO n f s1)],.p (.int .i64 a)⟩),none⟩)] 1,rm [(5,⟨true,(some ⟨[0],[1000],[],1,[(0,cuO n f s2)],.p (.int .i64 b)⟩),none⟩)] 1,rm [(4,oc [] (.p (.int .i64 c))),(5,oc [] (.p (.bool b1))),(4,oc [] (.p (.bool b2)))] 3,.dec true,rm [(4,oc [(0,brOb m r)] (.tup [grR N m 0,.p (.bool ok)]))] 6,rg 3,rg 3,.head] zf61 (SSe n f s N k h u (q+1)) [0,1,2,1253,4] 1 (SSe n f s2 N m r u q) =
    some (zf61,zD [((decide ((↑(q+1):Int)>0))=true),(NT 0 1),(AE 1),Con Tryz.prog 89 1 (zf76 n f s) [.pt 3 0 0 0,.p (.int .i64 (if true=true then if N>1 then N else 1 else if N<1 then N else 1))] (zf76 n f s1) (.p (.int .i64 a)),Con Tryz.prog 89 1 (zf76 n f s1) [.pt 3 0 0 0,.p (.int .i64 (if true=true then if N>1 then N else 1 else if N<1 then N else 1))] (zf76 n f s2) (.p (.int .i64 b)),(AN 2),(NL k k),zE 153 [(zf85 N k h),.p (.int .i64 a),.p (.int .i64 b)] [] (.p (.int .i64 c)),(AG (c==0)),(((c==0)=true)→(NT 0 1)),(((c==0)=true)→ (AN 1)),(((c==0)=true)→(NL u.1 u.1)),(((c==0)=true)→ zE 92 [.p (.seq true 1 u.1 (iRw u)),.p (.int .i64 a)] [] (.p (.bool b1))),(AG (c==0&&b1)),(((c==0&&b1)=true)→(NT 0 1)),(((c==0&&b1)=true)→ (AN 1)),(((c==0&&b1)=true)→(NL u.1 u.1)),(((c==0&&b1)=true)→ zE 92 [.p (.seq true 1 u.1 (iRw u)),.p (.int .i64 b)] [] (.p (.bool b2))),(((c==0)=true)→((b1=true)→ ((c==0&&b1)=true))),((bif c==0 then !bif b1 then b2 else false else false)=true),zE 86 [(zf85 N k h),.p (.int .i64 a),.p (.int .i64 b)] (zf89 m r) (.tup [.agg [.p (.int .i64 N),.ar 2 0 0 m],.p (.bool ok)]),((true=true)→ (AN 1)),(ZLo ((↑(q+1):Int) - 1)),(ZHi ((↑(q+1):Int) - 1)),(AN 0),((((↑(q+1):Int) - 1):Int)=(↑q:Int)),(AN 3),(NL 1 1),(AN n),(AP n (fun i=>[.int .u8 (f i)])),(AI ((↑s2.1:Int))),(AI s2.2),(AI 0),(AI N),(AN m),(AN u.1),(NL m m),(AA m (fun i=>[.p (.int .i64 ((r i).1)),.p (.int .i64 ((r i).2.1))])),(AN 1),(NL u.1 u.1),(AA u.1 (fun i=>[.p (.int .i64 (u.2 i))]))] [0,1,2,3,1,2,4,1,5,6,7,8,9,8,8,10,11,12,8,13,14,13,13,15,16,17,8,18,8,8,19,1,5,6,20,1,21,1,1,21,22,23,24,24,24,25,26,27,27,28,29,30,31,26,27,27,32,26,27,27,33,24,34,24,35,5,36,37,38,39,40]):=by kernel_rfl
theorem dkc (n:Nat) (f:Nat→Int) (s s1 s2:Nat×Int) (N:Int) (k:Nat) (h:Nat→T_Bar) (u:T_IntS) (q:Nat) (a b:Int) (c:Int) (b1 b2:Bool) (m:Nat) (r:Nat→T_Bar) (ok:Bool) :
    zM 1 [rg 2,.dec true,rm [(5,⟨true,(some ⟨[0],[1000],[],1,[(0,cuO n f s1)],.p (.int .i64 a)⟩),none⟩)] 1,rm [(5,⟨true,(some ⟨[0],[1000],[],1,[(0,cuO n f s2)],.p (.int .i64 b)⟩),none⟩)] 1,rm [(4,oc [] (.p (.int .i64 c))),(5,oc [] (.p (.bool b1))),(4,oc [] (.p (.bool b2)))] 3,.dec false,rg 3,.head] zf61 (SSe n f s N k h u (q+1)) [0,1,2,3,4] 1 (SSe n f s2 N k h u q) =
    some (zf61,zD [((decide ((↑(q+1):Int)>0))=true),(NT 0 1),(AE 1),Con Tryz.prog 89 1 (zf76 n f s) [.pt 3 0 0 0,.p (.int .i64 (if true=true then if N>1 then N else 1 else if N<1 then N else 1))] (zf76 n f s1) (.p (.int .i64 a)),Con Tryz.prog 89 1 (zf76 n f s1) [.pt 3 0 0 0,.p (.int .i64 (if true=true then if N>1 then N else 1 else if N<1 then N else 1))] (zf76 n f s2) (.p (.int .i64 b)),(AN 2),(NL k k),zE 153 [(zf85 N k h),.p (.int .i64 a),.p (.int .i64 b)] [] (.p (.int .i64 c)),(AG (c==0)),(((c==0)=true)→(NT 0 1)),(((c==0)=true)→ (AN 1)),(((c==0)=true)→(NL u.1 u.1)),(((c==0)=true)→ zE 92 [.p (.seq true 1 u.1 (iRw u)),.p (.int .i64 a)] [] (.p (.bool b1))),(AG (c==0&&b1)),(((c==0&&b1)=true)→(NT 0 1)),(((c==0&&b1)=true)→ (AN 1)),(((c==0&&b1)=true)→(NL u.1 u.1)),(((c==0&&b1)=true)→ zE 92 [.p (.seq true 1 u.1 (iRw u)),.p (.int .i64 b)] [] (.p (.bool b2))),(((c==0)=true)→((b1=true)→ ((c==0&&b1)=true))),((bif c==0 then !bif b1 then b2 else false else false)=false),(ZLo ((↑(q+1):Int) - 1)),(ZHi ((↑(q+1):Int) - 1)),(AN 0),((((↑(q+1):Int) - 1):Int)=(↑q:Int)),(AN 3),(NL 1 1),(AN n),(AP n (fun i=>[.int .u8 (f i)])),(AI ((↑s2.1:Int))),(AI s2.2),(AI 0),(AI N),(AN k),(AN u.1),(AA k (fun i=>[.p (.int .i64 ((h i).1)),.p (.int .i64 ((h i).2.1))])),(AN 1),(NL u.1 u.1),(AA u.1 (fun i=>[.p (.int .i64 (u.2 i))]))] [0,1,2,3,1,2,4,1,5,6,7,8,9,8,8,10,11,12,8,13,14,13,13,15,16,17,8,18,8,8,19,20,21,22,22,22,23,24,25,25,26,27,28,29,24,25,25,30,24,25,25,31,22,32,22,33,5,6,34,35,36,37]):=by kernel_rfl
theorem dke (n:Nat) (f:Nat→Int) (s:Nat×Int) (N:Int) (k:Nat) (h:Nat→T_Bar) (u:T_IntS) :
    zP Tryz.f88 1 [rg 2,.dec false,rg 2] zf61 (SSe n f s N k h u 0) [0,3,4] 1 [(0,cuO n f s),(1,brOb k h),(2,iOb u.1 u.2)] (piR N k u.1 1) =
    some [((decide ((↑0:Int)>0))=false),(NT 0 1),(NT 0 1),((true=true)→ (AN 1)),(NT 0 1),(AI N),(AN 0),(AN k),(AN 0),(AN u.1),(AN 3),(NL 1 1),(NL 1 1),(AN n),(AP n (fun i=>[.int .u8 (f i)])),(AI ((↑s.1:Int))),(AI s.2),(AN 2),(NL k k),(AA k (fun i=>[.p (.int .i64 ((h i).1)),.p (.int .i64 ((h i).2.1))])),(AN 1),(NL u.1 u.1),(AA u.1 (fun i=>[.p (.int .i64 (u.2 i))])),(∀ i:Nat,(((i:Nat)<1)→All [(false=false),(AE n)])),(AE k),(AE u.1)]:=by kernel_rfl
def BdB (k:Nat) (h:Nat→T_Bar):Prop:=∀ i,i<k→(0≤(h i).1∧(h i).1≤20)∧(0≤(h i).2.1∧(h i).2.1≤20)
theorem con_putB (h:Nat→T_Bar) (k:Nat) (N:Int) (h0:0≤N) (x:T_Bar) (hk:k≤1000) (hb:BdB k h) (hx:(0≤x.1∧x.1≤20)∧(0≤x.2.1∧x.2.1≤20)) :
    ∃ h2:Nat→T_Bar,BdB (k+1) h2∧zE 136 [.agg [.p (.int .i64 N),brL h k],brA x] [(0,brOb (k+1) h2)] (grR N (k+1) 0):=by
  obtain ⟨N,rfl⟩:∃ t:Nat,N=(t:Int):=⟨N.toNat,by omega⟩
  have c:=con_l2Put h k N x (by omega)
  rw [insR_n] at c
  refine ⟨_,fun i hi=>?_,c⟩
  have hm:=(insR_mem h k x ((insR h k x).2 i)).1 ⟨i,by rw [insR_n];exact hi,rfl⟩
  rcases hm with ⟨s,h1,h2⟩ | h1
  · rw [← h2];exact hb s h1
  · rw [← h1];exact hx
theorem con_rmvB (h:Nat→T_Bar) (k:Nat) (N e:Int) (hk:k≤1000) (hb:BdB k h):∃ (m:Nat) (h2:Nat→T_Bar) (ok:Bool),m≤k∧k≤m+1∧BdB m h2 ∧
    zE 161 [.agg [.p (.int .i64 N),brL h k],.p (.int .i64 e)] [(0,brOb m h2)] (.tup [grR N m 0,.p (.bool ok)]):=by
  obtain ⟨m,h2,ok,m1,m2,m3,c⟩:=con_RmvM (N,(k,h),()) (by show k≤_;omega) e
  refine ⟨m,h2,ok,m1,m2,fun i hi=>?_,c⟩
  obtain ⟨j,j1,j2⟩:=m3 i hi
  rw [j2]
  exact hb j j1
set_option maxRecDepth 4000 in
theorem con_l20Iso (n:Nat) (f:Nat→Int) (hn:CdOk n f) (s:Nat×Int) (hs:s.1≤n) (I:Nat) (hI:I≤5):∃ (s2:Nat×Int) (K k:Nat) (h:Nat→T_Bar) (u:T_IntS),s2.1≤n∧(2≤K∧K≤3)∧k≤24∧u.1≤3 ∧
    Con Tryz.prog 191 1 [(0,cuO n f s)] [.pt 3 0 0 0,.p (.int .i64 I)] [(0,cuO n f s2),(1,brOb k h),(2,iOb u.1 u.2)] (piR ((K:Int)+(I:Int)) k u.1 1):=by
  have lo:∀ K:Nat,2≤K∧K≤3→∀ u:T_IntS,∀ e v,v+e=K+I→K≤v→∀ (s:Nat×Int) (k:Nat) (h:Nat→T_Bar),s.1≤n→(K<v→1≤k)→k+3*K≤3*v→BdB k h→∃ (s2:Nat×Int) (k2:Nat) (h2:Nat→T_Bar),s2.1≤n∧k2≤24 ∧
      ∀ c:Cx,c.n=1→zR c 191 zf27 (SIs n f s I K k h u v) (Post c [(0,cuO n f s2),(1,brOb k2 h2),(2,iOb u.1 u.2)] (piR ((K:Int)+(I:Int)) k2 u.1 1)):=by
    intro K hK u e
    induction e with
    | zero =>
      intro v hv hvK s k h hs hk1 hk hb
      have hd:decide ((v:Int)<(K:Int)+(I:Int))=false:=decide_eq_false (by omega)
      refine ⟨s,k,h,hs,by omega,fun c hc=>?_⟩
      refine pkZ Tryz.func191 hc (die n f s I K k h u v) ?_
      and_intros
      iterate 2 all_goals (first | exact zI | (exact hd) | (intros;simp [All];done) | (simp;done) | (simp;omega) | simp only [All])
    | succ e ih =>
      intro v hv hvK s k h hs hk1 hk hb
      have hd:decide ((v:Int)<(K:Int)+(I:Int))=true:=decide_eq_true (by omega)
      have norm:∀ s:Nat×Int,s.1≤n→∃ (s1 s2:Nat×Int) (a y:Int) (r1 r2:Nat→T_Bar),s2.1≤n∧(0≤a∧a<v)∧(0≤y∧y<v)∧BdB (k+1+1) r2 ∧
          Con Tryz.prog 89 1 [(0,cuO n f s)] [.pt 3 0 0 0,.p (.int .i64 v)] [(0,cuO n f s1)] (.p (.int .i64 a)) ∧
          Con Tryz.prog 89 1 [(0,cuO n f s1)] [.pt 3 0 0 0,.p (.int .i64 ((v:Int) - 1))] [(0,cuO n f s2)] (.p (.int .i64 y)) ∧
          zE 136 [.agg [.p (.int .i64 ((K:Int)+(I:Int))),brL h k],brA (a,(v:Int),())] [(0,brOb (k+1) r1)] (grR ((K:Int)+(I:Int)) (k+1) 0) ∧
          zE 136 [.agg [.p (.int .i64 ((K:Int)+(I:Int))),brL r1 (k+1)],brA ((a+1+y) % (v:Int),(v:Int),())] [(0,brOb (k+1+1) r2)] (grR ((K:Int)+(I:Int)) (k+1+1) 0):=by
        intro s hs
        obtain ⟨s1,a,h1,ha,c1⟩:=con_l1Below n f hn s hs v (by omega)
        obtain ⟨s2,y,h2,hy,c2⟩:=con_l1Below n f hn s1 h1 ((v:Int) - 1) (by omega)
        have ha2:=ha.2.1 (by omega)
        have hy2:=hy.2.1 (by omega)
        have e1:=Int.emod_nonneg (a+1+y) (show (v:Int)≠0 by omega)
        have e2:=Int.emod_lt_of_pos (a+1+y) (show (0:Int)<v by omega)
        obtain ⟨r1,b1,p1⟩:=con_putB h k ((K:Int)+(I:Int)) (by omega) (a,v,()) (by omega) hb ⟨⟨ha.1,by omega⟩,⟨by show (0:Int)≤v;omega,by show (v:Int)≤20;omega⟩⟩
        obtain ⟨r2,b2,p2⟩:=con_putB r1 (k+1) ((K:Int)+(I:Int)) (by omega) ((a+1+y) % (v:Int),v,()) (by omega) b1 ⟨⟨e1,by show (a+1+y) % (v:Int)≤20;omega⟩,⟨by show (0:Int)≤v;omega,by show (v:Int)≤20;omega⟩⟩
        exact ⟨s1,s2,a,y,r1,r2,h2,⟨ha.1,ha2⟩,⟨hy.1,by omega⟩,b2,c1,c2,p1,p2⟩
      by_cases hvK2:v=K
      · have hg:decide ((v:Int)>(K:Int))=false:=decide_eq_false (by omega)
        obtain ⟨s1,s2,a,y,r1,r2,h2,ha,hy,b2,c1,c2,p1,p2⟩:=norm s hs
        obtain ⟨s9,k9,r9,i1,i2,hr⟩:=ih (v+1) (by omega) (by omega) s2 (k+1+1) r2 h2 (by omega) (by omega) b2
        refine ⟨s9,k9,r9,i1,i2,fun c hc=>?_⟩
        refine pcD hc (diA n f s s1 s2 s2 s2 s2 s2 I K k h u v a y 0 0 0 (k+1) (k+1+1) 0 h r1 r2 h true) ?_ (hr c hc)
        and_intros
        all_goals (first | exact zI | (exact hd) | (exact hg) | (exact c1) | (exact c2) | (exact p1) | (exact p2) | omega | (intros;simp [All];done) | (simp;done) | (simp;omega))
      · have hg:decide ((v:Int)>(K:Int))=true:=decide_eq_true (by omega)
        obtain ⟨s1,b,h1,c0⟩:=con_l1Once n f hn s hs 2 (by omega)
        cases b with
        | false =>
          obtain ⟨s2,s3,a,y,r1,r2,h3,ha,hy,b2,c1,c2,p1,p2⟩:=norm s1 h1
          obtain ⟨s9,k9,r9,i1,i2,hr⟩:=ih (v+1) (by omega) (by omega) s3 (k+1+1) r2 h3 (by omega) (by omega) b2
          refine ⟨s9,k9,r9,i1,i2,fun c hc=>?_⟩
          refine pcD hc (diB n f s s1 s2 s3 s3 s3 s3 I K k h u v a y 0 0 0 (k+1) (k+1+1) 0 h r1 r2 h true) ?_ (hr c hc)
          and_intros
          all_goals (first | exact zI | (exact hd) | (exact hg) | (exact c0) | (exact c1) | (exact c2) | (exact p1) | (exact p2) | omega | (intros;simp [All];done) | (simp;done) | (simp;omega))
        | true =>
          have hk0:=hk1 (by omega)
          have hz:(bif true then decide ((k:Int)>0) else false)=true:=by rw [cond_true];exact decide_eq_true (by omega)
          obtain ⟨s2,e4,h2,he,c1⟩:=con_l1Below n f hn s1 h1 k (by omega)
          have he2:=he.2.1 (by omega)
          obtain ⟨ee,rfl⟩:∃ t:Nat,e4=(t:Int):=⟨e4.toNat,by omega⟩
          obtain ⟨s3,y,h3,hy,c2⟩:=con_l1Below n f hn s2 h2 ((v:Int) - 1) (by omega)
          have hy2:=hy.2.1 (by omega)
          have hbe:=hb ee (by omega)
          have m1:=Int.emod_nonneg ((h ee).2.1+1+y) (show (v:Int)≠0 by omega)
          have m2:=Int.emod_lt_of_pos ((h ee).2.1+1+y) (show (0:Int)<v by omega)
          have m3:=Int.emod_nonneg ((h ee).2.1+1) (show (v:Int)≠0 by omega)
          have m4:=Int.emod_lt_of_pos ((h ee).2.1+1) (show (0:Int)<v by omega)
          have spl:∀ w:Int,0≤w→w<v→∃ (k0:Nat) (r0 r1 r2 r3:Nat→T_Bar) (ok:Bool),k0≤k∧k≤k0+1∧BdB (k0+1+1+1) r3 ∧
              zE 161 [.agg [.p (.int .i64 ((K:Int)+(I:Int))),brL h k],.p (.int .i64 ee)] [(0,brOb k0 r0)] (.tup [grR ((K:Int)+(I:Int)) k0 0,.p (.bool ok)]) ∧
              zE 136 [.agg [.p (.int .i64 ((K:Int)+(I:Int))),brL r0 k0],brA ((h ee).1,(v:Int),())] [(0,brOb (k0+1) r1)] (grR ((K:Int)+(I:Int)) (k0+1) 0) ∧
              zE 136 [.agg [.p (.int .i64 ((K:Int)+(I:Int))),brL r1 (k0+1)],brA ((h ee).2.1,(v:Int),())] [(0,brOb (k0+1+1) r2)] (grR ((K:Int)+(I:Int)) (k0+1+1) 0) ∧
              zE 136 [.agg [.p (.int .i64 ((K:Int)+(I:Int))),brL r2 (k0+1+1)],brA (w,(v:Int),())] [(0,brOb (k0+1+1+1) r3)] (grR ((K:Int)+(I:Int)) (k0+1+1+1) 0):=by
            intro w w1 w2
            obtain ⟨k0,r0,ok,q1,q2,b0,c3⟩:=con_rmvB h k ((K:Int)+(I:Int)) ee (by omega) hb
            have hv0:(0:Int)≤v∧(v:Int)≤20:=by omega
            obtain ⟨r1,b1,p1⟩:=con_putB r0 k0 ((K:Int)+(I:Int)) (by omega) ((h ee).1,v,()) (by omega) b0 ⟨hbe.1,hv0⟩
            obtain ⟨r2,b2,p2⟩:=con_putB r1 (k0+1) ((K:Int)+(I:Int)) (by omega) ((h ee).2.1,v,()) (by omega) b1 ⟨hbe.2,hv0⟩
            obtain ⟨r3,b3,p3⟩:=con_putB r2 (k0+1+1) ((K:Int)+(I:Int)) (by omega) (w,v,()) (by omega) b2 ⟨⟨w1,by show w≤20;omega⟩,hv0⟩
            exact ⟨k0,r0,r1,r2,r3,ok,q1,q2,b3,c3,p1,p2,p3⟩
          cases q1:(bif ((h ee).2.1+1+y) % (v:Int)==(h ee).1 then true else ((h ee).2.1+1+y) % (v:Int)==(h ee).2.1) with
          | false =>
            have q2:(bif ((h ee).2.1+1+y) % (v:Int) != (h ee).1 then ((h ee).2.1+1+y) % (v:Int) != (h ee).2.1 else false)=true:=by
              generalize ((h ee).2.1+1+y) % (v:Int)=w at q1
              cases t1:(w==(h ee).1)<;>cases t2:(w==(h ee).2.1)<;>simp_all
            obtain ⟨k0,r0,r1,r2,r3,ok,z1,z2,b3,c3,p1,p2,p3⟩:=spl _ m1 m2
            obtain ⟨s9,k9,r9,i1,i2,hr⟩:=ih (v+1) (by omega) (by omega) s3 (k0+1+1+1) r3 h3 (by omega) (by omega) b3
            refine ⟨s9,k9,r9,i1,i2,fun c hc=>?_⟩
            refine pcD hc (diC n f s s1 s2 s3 s3 s3 s3 I K k h u v 0 y 0 ee k0 (k0+1) (k0+1+1) (k0+1+1+1) r0 r1 r2 r3 ok) ?_ (hr c hc)
            and_intros
            all_goals (first | exact zH | (exact hd) | (exact hg) | (exact hz) | (exact c0) | (exact c1) | (exact c2) | (exact c3) | (exact p1) | (exact p2) | (exact p3) | (exact q1) | (exact q2) | omega | (intros;simp [All];done) | (simp;done) | (intro h';simpa using h') | (simp;omega))
          | true =>
            cases q2:(bif ((h ee).2.1+1) % (v:Int) != (h ee).1 then ((h ee).2.1+1) % (v:Int) != (h ee).2.1 else false) with
            | true =>
              obtain ⟨k0,r0,r1,r2,r3,ok,z1,z2,b3,c3,p1,p2,p3⟩:=spl _ m3 m4
              obtain ⟨s9,k9,r9,i1,i2,hr⟩:=ih (v+1) (by omega) (by omega) s3 (k0+1+1+1) r3 h3 (by omega) (by omega) b3
              refine ⟨s9,k9,r9,i1,i2,fun c hc=>?_⟩
              refine pcD hc (diD n f s s1 s2 s3 s3 s3 s3 I K k h u v 0 y 0 ee k0 (k0+1) (k0+1+1) (k0+1+1+1) r0 r1 r2 r3 ok) ?_ (hr c hc)
              and_intros
              all_goals (first | exact zH | (exact hd) | (exact hg) | (exact hz) | (exact c0) | (exact c1) | (exact c2) | (exact c3) | (exact p1) | (exact p2) | (exact p3) | (exact q1) | (exact q2) | omega | (intros;simp [All];done) | (simp;done) | (intro h';simpa using h') | (simp;omega))
            | false =>
              obtain ⟨s4,s5,a,y2,r1,r2,h5,ha,hy3,b2,c3,c4,p1,p2⟩:=norm s3 h3
              obtain ⟨s9,k9,r9,i1,i2,hr⟩:=ih (v+1) (by omega) (by omega) s5 (k+1+1) r2 h5 (by omega) (by omega) b2
              refine ⟨s9,k9,r9,i1,i2,fun c hc=>?_⟩
              refine pcD hc (diE n f s s1 s2 s3 s4 s5 s5 I K k h u v a y y2 ee 0 (k+1) (k+1+1) 0 h r1 r2 h true) ?_ (hr c hc)
              and_intros
              all_goals (first | exact zH | (exact hd) | (exact hg) | (exact hz) | (exact c0) | (exact c1) | (exact c2) | (exact c3) | (exact c4) | (exact p1) | (exact p2) | (exact q1) | (exact q2) | omega | (intros;simp [All];done) | (simp;done) | (intro h';simpa using h') | (simp;omega))
  obtain ⟨s1,x,h1,hx,c1⟩:=con_l1Below n f hn s hs 2 (by omega)
  have hx2:=hx.2.1 (by omega)
  obtain ⟨K,w,hK,hw,e1,e2⟩:∃ K w:Nat,(2≤K∧K≤3)∧w≤7∧2+x=(K:Int)∧shlI .i64 1 (2+x) - 1=(w:Int):=by
    rcases (show x=0∨x=1 by omega) with rfl | rfl
    · exact ⟨2,3,by omega,by omega,rfl,by decide⟩
    · exact ⟨3,7,by omega,by omega,rfl,by decide⟩
  have c2:=con_l3Set w K (by omega)
  have hu:=stD_n w K
  obtain ⟨s2,k,h,i1,i2,hr⟩:=lo K hK (stD w K) I K (by omega) (by omega) s1 0 (fun _=>(0,0,())) h1 (by omega) (by omega) (fun i hi=>absurd hi (Nat.not_lt_zero _))
  refine ⟨s2,K,k,h,stD w K,i1,hK,i2,by omega,?_⟩
  refine csZ Tryz.func191 (fun c hc=>?_)
  refine pcD hc (diz n f s s1 I K x (stD w K)) ?_ (hr c hc)
  and_intros
  all_goals (first | exact zI | (exact c1) | (rw [e2,e1];exact c2) | (rw [e2];omega) | (exact e1) | omega | (intro i hi;exact absurd hi (Nat.not_lt_zero _)) | (intros;simp [All];done) | (simp;done) | (simp;omega))
theorem con_l20Any (n:Nat) (f:Nat→Int) (hn:CdOk n f) (s:Nat×Int) (hs:s.1≤n):∃ (s2:Nat×Int) (N:Int) (k:Nat) (h:Nat→T_Bar) (u:T_IntS),s2.1≤n∧(0≤N∧N≤8)∧k≤25∧u.1≤3 ∧
    Con Tryz.prog 157 1 [(0,cuO n f s)] [.pt 3 0 0 0] [(0,cuO n f s2),(1,brOb k h),(2,iOb u.1 u.2)] (piR N k u.1 1):=by
  obtain ⟨s1,x,h1,hx,c1⟩:=con_l1Below n f hn s hs 4 (by omega)
  have hx2:=hx.2.1 (by omega)
  obtain ⟨x,rfl⟩:∃ t:Nat,x=(t:Int):=⟨x.toNat,by omega⟩
  obtain ⟨s2,K,k,h,u,h2,hK,hk,hu,c2⟩:=con_l20Iso n f hn s1 h1 (1+x) (by omega)
  rw [show ((1+x:Nat):Int)=1+(x:Int) by omega] at c2
  obtain ⟨N,hN⟩:∃ N:Int,(K:Int)+(1+(x:Int))=N:=⟨_,rfl⟩
  rw [hN] at c2
  obtain ⟨s3,y,h3,hy,c3⟩:=con_l1Below n f hn s2 h2 8 (by omega)
  by_cases e0:y=0
  · obtain ⟨s4,z,h4,hz,c4⟩:=con_l1Below n f hn s3 h3 k (by omega)
    obtain ⟨m,r,ok,m1,m2,c5⟩:=con_Rmv (N,(k,h),()) (by show k≤_;omega) z
    have m1:m≤k:=m1
    refine ⟨s4,N,m,r,u,h4,by omega,by omega,hu,?_⟩
    refine csZ Tryz.func157 (fun c hc=>?_)
    refine pkD Tryz.func157 hc (dja n f s s1 s2 s3 s4 s4 N N k m h r u x y z 0 ok) ?_
    and_intros
    iterate 2 all_goals (first | exact zI | (exact c1) | (exact c2) | (exact c3) | (exact c4) | (exact c5) | (intros;simp [All];done) | (simp [e0];done) | (simp;omega) | simp only [All])
  · have b0:(y==0)=false:=beq_eq_false_iff_ne.2 e0
    by_cases e1:y=1
    · obtain ⟨s4,z,h4,hz,c4⟩:=con_l1Below n f hn s3 h3 N (by omega)
      obtain ⟨s5,t,h5,ht,c5⟩:=con_l1Below n f hn s4 h4 N (by omega)
      have c6:=con_AddBar_s (N,(k,h),()) (sm_graph (by show k≤_;omega)) z t
      have hk2:=abG_n (N,(k,h),()) z t
      have hM:(abG (N,(k,h),()) z t).1=N:=by unfold abG;split<;>rfl
      rw [hM] at c6
      have hk3:(abG (N,(k,h),()) z t).2.1.1≤24:=by
        rcases hk2 with e | e
        · have e':(abG (N,(k,h),()) z t).2.1.1≤k:=e
          omega
        · exact e
      generalize (abG (N,(k,h),()) z t).2.1.1=m at c6 hk3
      generalize (abG (N,(k,h),()) z t).2.1.2=r at c6
      generalize abB (N,(k,h),()) z t=ok at c6
      refine ⟨s5,N,m,r,u,h5,by omega,by omega,hu,?_⟩
      refine csZ Tryz.func157 (fun c hc=>?_)
      refine pkD Tryz.func157 hc (djb n f s s1 s2 s3 s4 s5 N N k m h r u x y z t ok) ?_
      and_intros
      iterate 2 all_goals (first | exact zI | (exact c1) | (exact c2) | (exact c3) | (exact c4) | (exact c5) | (exact c6) | (exact b0) | (intros;simp [All];done) | (simp [e1];done) | (simp;omega) | simp only [All])
    · have b1:(y==1)=false:=beq_eq_false_iff_ne.2 e1
      by_cases e2:y=2
      · obtain ⟨s4,z,h4,hz,c4⟩:=con_l1Below n f hn s3 h3 4 (by omega)
        obtain ⟨s5,t,h5,ht,c5⟩:=con_l1Below n f hn s4 h4 9 (by omega)
        refine ⟨s5,N,k,h,(2,twoF (z - 1) t),h5,by omega,by omega,by show 2≤3;omega,?_⟩
        refine csZ Tryz.func157 (fun c hc=>?_)
        refine pkD Tryz.func157 hc (djc n f s s1 s2 s3 s4 s5 N N k 0 h h u x y z t true) ?_
        and_intros
        iterate 2 all_goals (first | exact zI | (exact c1) | (exact c2) | (exact c3) | (exact c4) | (exact c5) | (exact b0) | (exact b1) | (intros;simp [All];done) | (simp [e2];done) | (simp;omega) | (intro i hi;have hi2:i=0∨i=1:=(by omega);rcases hi2 with rfl | rfl<;>simp [rowIx,twoF,cvtL,cvt,tg,tru,All]) | simp only [All])
      · have b2:(y==2)=false:=beq_eq_false_iff_ne.2 e2
        refine ⟨s3,N,k,h,u,h3,by omega,by omega,hu,?_⟩
        refine csZ Tryz.func157 (fun c hc=>?_)
        refine pkZ Tryz.func157 hc (djd n f s s1 s2 s3 s3 s3 N N k 0 h h u x y 0 0 true) ?_
        and_intros
        iterate 2 all_goals (first | exact zI | (exact c1) | (exact c2) | (exact c3) | (exact b0) | (exact b1) | (exact b2) | (intros;simp [All];done) | (simp;done) | (simp;omega) | simp only [All])
theorem ml0 (x:Int):(if True then if x>1 then x else 1 else if x<1 then x else 1)=(if x>1 then x else 1):=by simp
theorem ml1 (x:Int):(if true=true then if x>1 then x else 1 else if x<1 then x else 1)=(if x>1 then x else 1):=by simp
theorem con_l27Any (n:Nat) (f:Nat→Int) (hn:CdOk n f) (s:Nat×Int) (hs:s.1≤n):∃ (s2:Nat×Int) (N:Int) (k:Nat) (h:Nat→T_Bar) (u:T_IntS),s2.1≤n∧(0≤N∧N≤8)∧k≤25∧u.1≤3 ∧
    Con Tryz.prog 88 1 [(0,cuO n f s)] [.pt 3 0 0 0] [(0,cuO n f s2),(1,brOb k h),(2,iOb u.1 u.2)] (piR N k u.1 1):=by
  have lo:∀ q,q≤3→∀ (s:Nat×Int) (N:Int) (k:Nat) (h:Nat→T_Bar) (u:T_IntS),s.1≤n→(0≤N∧N≤8)→k≤25→u.1≤3→∃ (s2:Nat×Int) (k2:Nat) (h2:Nat→T_Bar),s2.1≤n∧k2≤25 ∧
      ∀ c:Cx,c.n=1→zR c 88 zf61 (SSe n f s N k h u q) (Post c [(0,cuO n f s2),(1,brOb k2 h2),(2,iOb u.1 u.2)] (piR N k2 u.1 1)):=by
    intro q
    induction q with
    | zero =>
      intro _ s N k h u hs hN hk hu
      refine ⟨s,k,h,hs,hk,fun c hc=>?_⟩
      refine pkZ Tryz.func88 hc (dke n f s N k h u) ?_
      and_intros
      iterate 2 all_goals (first | exact zI | (intros;simp [All];done) | (simp;done) | simp only [All])
    | succ q ih =>
      intro hq s N k h u hs hN hk hu
      have hd:decide (((q+1:Nat):Int)>0)=true:=decide_eq_true (by omega)
      obtain ⟨s1,a,h1,ha,c1⟩:=con_l1Below n f hn s hs (if N>1 then N else 1) (by split<;>omega)
      obtain ⟨s2,b,h2,hb,c2⟩:=con_l1Below n f hn s1 h1 (if N>1 then N else 1) (by split<;>omega)
      have sg:smS s_Graph (N,(k,h),()):=sm_graph (by show k≤_;omega)
      have c3:=con_CountBar_s (N,(k,h),()) sg a b
      have c4:=con_l2Has u a (by omega)
      have c5:=con_l2Has u b (by omega)
      have c6:=con_AddBar_s (N,(k,h),()) sg a b
      have hk2:=abG_n (N,(k,h),()) a b
      have hM:(abG (N,(k,h),()) a b).1=N:=by unfold abG;split<;>rfl
      rw [hM] at c6
      have hk3:(abG (N,(k,h),()) a b).2.1.1≤25:=by
        rcases hk2 with e | e
        · have e':(abG (N,(k,h),()) a b).2.1.1≤k:=e
          omega
        · omega
      generalize (abG (N,(k,h),()) a b).2.1.1=m at c6 hk3
      generalize (abG (N,(k,h),()) a b).2.1.2=r at c6
      generalize abB (N,(k,h),()) a b=ok at c6
      generalize ((cbN (N,(k,h),()).2.1.2 a b (N,(k,h),()).2.1.1:Nat):Int)=cc at c3
      cases hx:(bif cc==0 then !bif hasI u.2 a u.1 then hasI u.2 b u.1 else false else false) with
      | true =>
        obtain ⟨s3,k3,h3,i1,i2,hr⟩:=ih (by omega) s2 N m r u h2 hN hk3 hu
        refine ⟨s3,k3,h3,i1,i2,fun c hc=>?_⟩
        refine pcD hc (dkb n f s s1 s2 N k h u q a b cc (hasI u.2 a u.1) (hasI u.2 b u.1) m r ok) ?_ (hr c hc)
        and_intros
        all_goals (first | exact zH | (exact hd) | (exact c1) | (exact c2) | (rw [ml0];exact c1) | (rw [ml0];exact c2) | (rw [ml1];exact c1) | (rw [ml1];exact c2) | (exact c3) | (intros;exact c4) | (intros;exact c5) | (exact c6) | (exact hx) | (intros;simp [All];done) | (simp;done) | (intro h';simpa using h') | (simp;omega))
      | false =>
        obtain ⟨s3,k3,h3,i1,i2,hr⟩:=ih (by omega) s2 N k h u h2 hN hk hu
        refine ⟨s3,k3,h3,i1,i2,fun c hc=>?_⟩
        refine pcD hc (dkc n f s s1 s2 N k h u q a b cc (hasI u.2 a u.1) (hasI u.2 b u.1) m r ok) ?_ (hr c hc)
        and_intros
        all_goals (first | exact zH | (exact hd) | (exact c1) | (exact c2) | (rw [ml0];exact c1) | (rw [ml0];exact c2) | (rw [ml1];exact c1) | (rw [ml1];exact c2) | (exact c3) | (intros;exact c4) | (intros;exact c5) | (exact hx) | (intros;simp [All];done) | (simp;done) | (intro h';simpa using h') | (simp;omega))
  obtain ⟨s1,N,k,h,u,h1,hN,hk,hu,c1⟩:=con_l20Any n f hn s hs
  obtain ⟨s2,q,h2,hq,c2⟩:=con_l1Below n f hn s1 h1 3 (by omega)
  have hq2:=hq.2.1 (by omega)
  obtain ⟨q,rfl⟩:∃ t:Nat,q=(t:Int):=⟨q.toNat,by omega⟩
  obtain ⟨s3,k3,h3,i1,i2,hr⟩:=lo q (by omega) s2 N k h u h2 hN hk hu
  refine ⟨s3,N,k3,h3,u,i1,hN,i2,hu,?_⟩
  refine csZ Tryz.func88 (fun c hc=>?_)
  refine pcD hc (dka n f s s1 s2 N k h u q) ?_ (hr c hc)
  and_intros
  all_goals (first | exact zI | (exact c1) | (exact c2) | (intros;simp [All];done) | (simp;done) | (simp;omega))
end Go.Proofs.YtkepkjbofchckaaGreat.Mach
namespace Go.Proofs.YtkepkjbofchckaaGreat.Mat
set_option linter.unusedVariables false
set_option linter.unusedSimpArgs false
noncomputable def rk (N:Nat) (L:List (Nat×Nat)):Nat:=(greedy N 2 3 [] L).length
def Imp (N:Nat) (I:List (Nat×Nat)) (a b:Nat):Prop:=∃ R,Tight N I R∧R a=true∧R b=true
theorem cnt_tri (A B C:Nat→Bool):∀ l,cnt A l+cnt B l+cnt C l≤cnt (uni (uni A B) C) l+cnt (cap2 A B) l+cnt (cap2 A C) l+cnt (cap2 B C) l
  | []=>by simp [cnt]
  | x::l=>by
    have:=cnt_tri A B C l
    simp only [cnt,inn,uni,cap2] at *
    cases A x.1<;>cases B x.1<;>cases C x.1<;>cases A x.2<;>cases B x.2<;>cases C x.2<;>simp<;>omega
theorem card_tri (A B C:Nat→Bool):∀ n,cardR A n+cardR B n+cardR C n+cardR (cap2 (cap2 A B) C) n=cardR (uni (uni A B) C) n+cardR (cap2 A B) n+cardR (cap2 A C) n+cardR (cap2 B C) n
  | 0=>rfl
  | n+1=>by
    have:=card_tri A B C n
    simp only [cardR,uni,cap2] at *
    cases A n<;>cases B n<;>cases C n<;>simp<;>omega
theorem cnt_zero_of {N:Nat} {I:List (Nat×Nat)} (hI:Sparse N 2 3 I) {R:Nat→Bool} (h:cardR R N≤1):cnt R I=0:=by
  have:=hI R
  by_cases e:0<cnt R I
  · have:=this e;omega
  · omega
theorem tight_union2 {N:Nat} {I:List (Nat×Nat)} (hI:Sparse N 2 3 I) {R S:Nat→Bool} (h1:Tight N I R) (h2:Tight N I S) (h:2≤cardR (cap2 R S) N):Tight N I (uni R S):=by
  have c1:=card_uni R S N
  have c2:=cnt_uni R S I
  have c3:=cnt_mono R (uni R S) (fun v h=>by simp [uni,h]) I
  have c4:=hI (uni R S)
  have c5:=hI (cap2 R S)
  unfold Tight at *
  by_cases e:0<cnt (cap2 R S) I
  · have:=c5 e;have:=c4 (by omega);omega
  · have:=c4 (by omega);omega
theorem card_none (R:Nat→Bool):∀ n,(∀ v,v<n→R v=false)→cardR R n=0
  | 0,_=>rfl
  | n+1,h=>by simp [cardR,card_none R n (fun v hv=>h v (by omega)),h n (by omega)]
theorem card_one_only (R:Nat→Bool) (a:Nat) (ra:R a=true):∀ n,a<n→cardR R n≤1→∀ v,v<n→R v=true→v=a:=by
  intro n ha h v hv hr
  by_cases e:v=a
  · exact e
  · have:=card_two R v a hr ra e n hv ha
    omega
theorem tight_tri {N:Nat} {I:List (Nat×Nat)} (hI:Sparse N 2 3 I) {a b c:Nat} (ha:a<N) (hb:b<N) (hc:c<N) (hab:a≠b) (hac:a≠c) (hbc:b≠c)
    (h1:Imp N I a b) (h2:Imp N I a c) (h3:Imp N I b c):∃ R,Tight N I R∧R a=true∧R b=true∧R c=true:=by
  obtain ⟨A,tA,a1,a2⟩:=h1
  obtain ⟨B,tB,b1,b2⟩:=h2
  obtain ⟨C,tC,c1,c2⟩:=h3
  by_cases k1:2≤cardR (cap2 A B) N
  · exact ⟨_,tight_union2 hI tA tB k1,by simp [uni,a1],by simp [uni,a2],by simp [uni,b2]⟩
  by_cases k2:2≤cardR (cap2 A C) N
  · exact ⟨_,tight_union2 hI tA tC k2,by simp [uni,a1],by simp [uni,a2],by simp [uni,c2]⟩
  by_cases k3:2≤cardR (cap2 B C) N
  · exact ⟨_,tight_union2 hI tB tC k3,by simp [uni,b1],by simp [uni,c1],by simp [uni,b2]⟩
  cases ca:C a with
  | true=>exact ⟨C,tC,ca,c1,c2⟩
  | false =>
    have e1:cardR (cap2 (cap2 A B) C) N=0:=by
      refine card_none _ _ (fun v hv=>?_)
      cases e:cap2 (cap2 A B) C v with
      | false=>rfl
      | true =>
        simp only [cap2,Bool.and_eq_true] at e
        have:=card_one_only (cap2 A B) a (by simp [cap2,a1,b1]) N ha (by omega) v hv (by simp [cap2,e.1.1,e.1.2])
        subst this
        rw [ca] at e
        exact absurd e.2 (by simp)
    have f1:=cnt_tri A B C I
    have f2:=card_tri A B C N
    have g1:=card_one (cap2 A B) a (by simp [cap2,a1,b1]) N ha
    have g2:=card_one (cap2 A C) b (by simp [cap2,a2,c1]) N hb
    have g3:=card_one (cap2 B C) c (by simp [cap2,b2,c2]) N hc
    have z1:=cnt_zero_of hI (R:=cap2 A B) (by omega)
    have z2:=cnt_zero_of hI (R:=cap2 A C) (by omega)
    have z3:=cnt_zero_of hI (R:=cap2 B C) (by omega)
    have c4:=hI (uni (uni A B) C)
    have m1:=cnt_mono A (uni (uni A B) C) (fun v h=>by simp [uni,h]) I
    refine ⟨uni (uni A B) C,?_,by simp [uni,a1],by simp [uni,a2],by simp [uni,b2]⟩
    have d1:=card_two A a b a1 a2 hab N ha hb
    unfold Tight at *
    have:=c4 (by omega)
    omega
theorem ground_tight {N:Nat} {I:List (Nat×Nat)} (hI:Sparse N 2 3 I) (gr:Nat→Nat):∀ m,2≤m→(∀ i,i<m→gr i<N)→(∀ i j,i<j→j<m→gr i≠gr j) →
    (∀ i,1≤i→i<m→Imp N I (gr 0) (gr i))→(∀ i,2≤i→i<m→Imp N I (gr 1) (gr i))→∃ R,Tight N I R∧∀ i,i<m→R (gr i)=true
  | 0,h,_,_,_,_=>absurd h (by omega)
  | 1,h,_,_,_,_=>absurd h (by omega)
  | 2,_,hN,hd,h0,h1=>by
    obtain ⟨R,t,r1,r2⟩:=h0 1 (Nat.le_refl _) (by omega)
    refine ⟨R,t,fun i hi=>?_⟩
    rcases (show i=0∨i=1 by omega) with rfl | rfl
    · exact r1
    · exact r2
  | m+3,_,hN,hd,h0,h1=>by
    obtain ⟨R,t,r⟩:=ground_tight hI gr (m+2) (by omega) (fun i hi=>hN i (by omega)) (fun i j h1 h2=>hd i j h1 (by omega)) (fun i h1 h2=>h0 i h1 (by omega)) (fun i h2 h3=>h1 i h2 (by omega))
    obtain ⟨T,tt,t0,t1,t2⟩:=tight_tri hI (hN 0 (by omega)) (hN 1 (by omega)) (hN (m+2) (by omega)) (hd 0 1 (by omega) (by omega)) (hd 0 (m+2) (by omega) (by omega)) (hd 1 (m+2) (by omega) (by omega))
      (h0 1 (Nat.le_refl _) (by omega)) (h0 (m+2) (by omega) (by omega)) (h1 (m+2) (by omega) (by omega))
    refine ⟨_,tight_union hI t tt (gr 0) (gr 1) (hd 0 1 (by omega) (by omega)) (hN 0 (by omega)) (hN 1 (by omega)) (r 0 (by omega)) (r 1 (by omega)) t0 t1,fun i hi=>?_⟩
    rcases Nat.lt_or_ge i (m+2) with h | h
    · simp [uni,r i h]
    · obtain rfl:i=m+2:=by omega
      simp [uni,t2]
theorem not_sparse_of_tight {N:Nat} {I:List (Nat×Nat)} {R:Nat→Bool} (h:Tight N I R) {x:Nat×Nat} (hx:inn R x=true):¬ Sparse N 2 3 (I++[x]):=by
  intro hs
  have h1:=hs R
  rw [cnt_append] at h1
  have hc:cnt R [x]=1:=by simp [cnt,hx]
  rw [hc] at h1
  have:=h1 (by omega)
  unfold Tight at h
  omega
theorem greedy_skip {N:Nat} {I:List (Nat×Nat)}:∀ xs:List (Nat×Nat),(∀ x∈xs,∃ R,Tight N I R∧inn R x=true)→greedy N 2 3 I xs=I
  | [],_=>rfl
  | x::xs,h=>by
    obtain ⟨R,t,r⟩:=h x (by simp)
    simp only [greedy]
    rw [if_neg (not_sparse_of_tight t r)]
    exact greedy_skip xs (fun y hy=>h y (by simp [hy]))
structure Grd (N m:Nat) (gr:Nat→Nat) (S:List (Nat×Nat)):Prop where
  two:2≤m
  lt:∀ i,i<m→gr i<N
  ne:∀ i j,i<j→j<m→gr i≠gr j
  b0:∀ i,1≤i→i<m→(gr 0,gr i)∈S
  b1:∀ i,2≤i→i<m→(gr 1,gr i)∈S
theorem Grd.tight {N m:Nat} {gr:Nat→Nat} {S L:List (Nat×Nat)} (h:Grd N m gr S) (hL:∀ x∈L,GoodBar N x) (hs:∀ x∈S,x∈L) :
    ∃ R,Tight N (greedy N 2 3 [] L) R∧∀ i,i<m→R (gr i)=true:=by
  have ht:=greedy_tight L [] hL (sparse_nil N 2 3)
  have imp:∀ x∈S,Imp N (greedy N 2 3 [] L) x.1 x.2:=by
    intro x hx
    obtain ⟨R,t,r⟩:=ht x (hs x hx)
    simp only [inn,Bool.and_eq_true] at r
    exact ⟨R,t,r.1,r.2⟩
  exact ground_tight (greedy_sparse N 2 3 L [] (sparse_nil N 2 3)) gr m h.two h.lt h.ne (fun i h1 h2=>imp _ (h.b0 i h1 h2)) (fun i h1 h2=>imp _ (h.b1 i h1 h2))
theorem Grd.same {N m:Nat} {gr:Nat→Nat} {S L M:List (Nat×Nat)} (h:Grd N m gr S) (hL:∀ x∈L,GoodBar N x) (hM:∀ x∈M,GoodBar N x) (hs:∀ x∈S,x∈L) (hLM:∀ x∈L,x∈M)
    (hML:∀ x∈M,x∈L∨∃ i j,i<m∧j<m∧x=(gr i,gr j)):rk N M=rk N L:=by
  obtain ⟨R,t,r⟩:=h.tight hL hs
  have e1:rk N M=rk N (L++M):=rank_same M (L++M) hM (fun x=>by
    simp only [List.mem_append]
    exact ⟨fun h=>.inr h,fun h'=>h'.elim (hLM x) id⟩)
  rw [e1]
  unfold rk
  rw [greedy_append,greedy_skip M (fun x hx=>?_)]
  rcases hML x hx with h' | ⟨i,j,hi,hj,rfl⟩
  · exact greedy_tight L [] hL (sparse_nil N 2 3) x h'
  · exact ⟨R,t,by simp [inn,r i hi,r j hj]⟩
theorem rk_same_iff {N:Nat} {L:List (Nat×Nat)} (hL:∀ x∈L,GoodBar N x) {a b:Nat} (hx:GoodBar N (a,b)):rk N (L++[(a,b)])=rk N L↔Imp N (greedy N 2 3 [] L) a b:=by
  unfold rk
  rw [greedy_append]
  simp only [greedy]
  constructor
  · intro he
    split at he
    · simp at he
    · rename_i hn
      obtain ⟨R,t,r⟩:=greedy_tight (L++[(a,b)]) [] (fun x h=>by
        rcases List.mem_append.1 h with h | h
        · exact hL x h
        · simp only [List.mem_cons,List.not_mem_nil,or_false] at h;subst h;exact hx) (sparse_nil N 2 3) (a,b) (by simp)
      rw [greedy_append] at t
      simp only [greedy] at t
      rw [if_neg hn] at t
      simp only [inn,Bool.and_eq_true] at r
      exact ⟨R,t,r.1,r.2⟩
  · rintro ⟨R,t,r1,r2⟩
    rw [if_neg (not_sparse_of_tight t (by simp [inn,r1,r2]))]
theorem rk_le_succ {N:Nat} {L:List (Nat×Nat)} (x:Nat×Nat):rk N L≤rk N (L++[x])∧rk N (L++[x])≤rk N L+1:=by
  unfold rk
  rw [greedy_append]
  simp only [greedy]
  split
  · simp
  · simp
end Go.Proofs.YtkepkjbofchckaaGreat.Mat
namespace Go.Proofs.YtkepkjbofchckaaGreat.Mach
open Go Go.Sort
set_option linter.unusedVariables false
set_option linter.unusedSimpArgs false
def SHo (p:T_Pinned) (i n:Nat) (h:Nat→T_Bar):St :=
  ⟨[pinA p,.pt 3 0 0 0,.p .any,.ar 2 1 0 n]++List.replicate 6 anyA++[inL p.2.1,.p (.int .i64 p.2.1.1),.p (.int .i64 i)]++List.replicate 23 anyA,[(0,boxP p),(1,brOb n h)],2⟩
def SHi (p:T_Pinned) (i j n:Nat) (h:Nat→T_Bar):St :=
  ⟨[pinA p,.pt 3 0 0 0,.p .any,.ar 2 1 0 n,.p .any,.p (.int .i64 (p.2.1.2 i))]++List.replicate 4 anyA++[inL p.2.1,.p (.int .i64 p.2.1.1),.p (.int .i64 i)]++List.replicate 8 anyA ++
    [.p (.seq true 1 (p.2.1.1 - (i+1)) (fun s=>[.int .i64 (p.2.1.2 (s+(i+1)))])),.p (.int .i64 ((p.2.1.1 - (i+1):Nat):Int)),.p (.int .i64 j)]++List.replicate 12 anyA,[(0,boxP p),(1,brOb n h)],2⟩
def SKl (p:T_Pinned) (k n:Nat) (h:Nat→T_Bar):St :=
  ⟨[pinA p,.pt 3 0 0 0,.pt 2 1 0 0,.pt 2 2 0 0,.p (.int .i64 k)]++List.replicate 39 anyA,[(0,boxP p),(1,zG2),(2,⟨true,2,1,fun _=>[.p (.int .i64 p.1.1),.ar 2 3 0 n]⟩),(3,brOb n h)],4⟩
def SKa (p:T_Pinned) (k n:Nat) (h:Nat→T_Bar):St :=
  ⟨[pinA p,.pt 3 0 0 0,.pt 2 1 0 0,.pt 2 2 0 0,.p (.int .i64 k)]++List.replicate 19 anyA,[(0,boxP p),(1,zG2),(2,⟨true,2,1,fun _=>[.p (.int .i64 p.1.1),.ar 2 3 0 n]⟩),(3,brOb n h)],4⟩
theorem hAz (p:T_Pinned) :
    zT Tryz.f162 [rg 2,rg 2,rg 4,.head] [pinA p] [0,64] (SHo p 0 0 (fun _=>(0,0,()))) =
    some (zf52,zD [(NT 0 1),(AI p.1.1),(AN p.1.2.1.1),(AP p.1.2.1.1 (fun i=>[.int .i64 ((p.1.2.1.2 i).1),.int .i64 ((p.1.2.1.2 i).2.1)])),(AN p.2.1.1),(AP p.2.1.1 (fun i=>[.int .i64 (p.2.1.2 i)])),(AN 0),(AI ((↑p.2.1.1:Int))),((0:Int)=(↑0:Int)),((([AV.p (PV.int IntKind.i64 p.1.1),graphL p.1.2.1,inL p.2.1].length):Nat)=3),(NL 1 1),(AN 2),(NL 0 0),(AA 0 (fun i=>[.p (.int .i64 0),.p (.int .i64 0)]))] [0,1,2,3,4,5,6,6,6,4,5,7,8,9,10,10,1,2,3,4,5,11,12,13]):=by kernel_rfl
theorem hAo (p:T_Pinned) (i n:Nat) (h:Nat→T_Bar) :
    zM 0 [rg 1,.dec true,rg 5,rg 7,.head] zf52 (SHo p i n h) [0,1] 1 (SHi p i 0 n h) =
    some (zf7,zD [((decide ((↑i:Int)<(↑p.2.1.1:Int)))=true),(IL 0 (↑i:Int)),(IT (↑i:Int) (↑p.2.1.1:Int)),(NT 0 1),(ZLo ((↑i:Int)+1)),(ZHi ((↑i:Int)+1)),(IL 0 ((↑i:Int)+1)),(IL ((↑i:Int)+1) (↑p.2.1.1:Int)),(IL (↑p.2.1.1:Int) (↑p.2.1.1:Int)),(AI p.1.1),(AN p.1.2.1.1),(AP p.1.2.1.1 (fun i_1=>[.int .i64 ((p.1.2.1.2 i_1).1),.int .i64 ((p.1.2.1.2 i_1).2.1)])),(AN p.2.1.1),(AP p.2.1.1 (fun i_1=>[.int .i64 (p.2.1.2 i_1)])),(AN 0),(AN n),(AI ((p.2.1.2 i))),(AI ((↑p.2.1.1:Int))),(AI ((↑i:Int))),(AN ((p.2.1.1 - (i+1)))),(AP ((p.2.1.1 - (i+1))) (fun i_1=>[.int .i64 (p.2.1.2 (i_1+(i+1)))])),(AI ((↑(p.2.1.1 - (i+1)):Int))),((0:Int)=(↑0:Int)),(AN 3),(NL 1 1),(AN 2),(NL n n),(AA n (fun i_1=>[.p (.int .i64 ((h i_1).1)),.p (.int .i64 ((h i_1).2.1))]))] [0,1,2,3,4,5,6,7,8,9,10,11,12,13,14,14,15,16,12,13,17,18,19,20,21,22,23,24,24,9,10,11,12,13,25,26,27]):=by kernel_rfl
theorem hAi (p:T_Pinned) (i j n:Nat) (h:Nat→T_Bar) (x:T_Bar) :
    zM 0 [rg 1,.dec true,rg 3,rm [(3,oc [] (.agg [.p (.int .i64 x.1),.p (.int .i64 x.2.1)]))] 3,rg 2,.head] zf7 (SHi p i j n h) [0,290] 1 (SHi p i (j+1) (n+1) (snoc n h x)) =
    some (zf7,zD [((decide ((↑j:Int)<(↑(p.2.1.1 - (i+1)):Int)))=true),(IL 0 (↑j:Int)),(IT (↑j:Int) (↑(p.2.1.1 - (i+1)):Int)),zE 106 [.p (.int .i64 (p.2.1.2 i)),.p (.int .i64 (p.2.1.2 (j+(i+1))))] [] (.agg [.p (.int .i64 x.1),.p (.int .i64 x.2.1)]),(NL 1 1),(NL n n),(NL ((n+1)*16) 140737488355328),(NL (n+1) 9223372036854775807),(ZLo ((↑j:Int)+1)),(ZHi ((↑j:Int)+1)),(AI p.1.1),(AN p.1.2.1.1),(AP p.1.2.1.1 (fun i_1=>[.int .i64 ((p.1.2.1.2 i_1).1),.int .i64 ((p.1.2.1.2 i_1).2.1)])),(AN p.2.1.1),(AP p.2.1.1 (fun i_1=>[.int .i64 (p.2.1.2 i_1)])),(AN 0),(AN ((n+1))),(AI ((p.2.1.2 i))),(AI ((↑p.2.1.1:Int))),(AI ((↑i:Int))),(AN ((p.2.1.1 - (i+1)))),(AP ((p.2.1.1 - (i+1))) (fun i_1=>[.int .i64 (p.2.1.2 (i_1+(i+1)))])),(AI ((↑(p.2.1.1 - (i+1)):Int))),((((↑j:Int)+1):Int)=(↑(j+1):Int)),(AN 3),(AN 2),(NL (n+1) (n+1)),(CV [(290,⟨false,2,(n+1),(fun i_2=>(if (i_2<n) then [.p (.int .i64 ((h i_2).1)),.p (.int .i64 ((h i_2).2.1))] else [.p (.int .i64 x.1),.p (.int .i64 x.2.1)]))⟩),(258,⟨false,2,1,(fun i_2=>[.p (.int .i64 x.1),.p (.int .i64 x.2.1)])⟩),(0,⟨true,3,1,(fun i_2=>[.p (.int .i64 p.1.1),.p (.seq true 2 p.1.2.1.1 (fun i_3=>[.int .i64 ((p.1.2.1.2 i_3).1),.int .i64 ((p.1.2.1.2 i_3).2.1)])),.p (.seq true 1 p.2.1.1 (fun i_3=>[.int .i64 (p.2.1.2 i_3)]))])⟩)] [0,290] 1 (n+1) (fun i_1=>if (i_1<n) then [.p (.int .i64 ((h i_1).1)),.p (.int .i64 ((h i_1).2.1))] else [.p (.int .i64 x.1),.p (.int .i64 x.2.1)]) (fun i_1=>[.p (.int .i64 (if i_1<n then (h i_1).1 else x.1)),.p (.int .i64 (if i_1<n then (h i_1).2.1 else x.2.1))]))] [0,1,2,3,4,5,6,7,8,9,10,11,12,13,14,15,15,16,17,13,14,18,19,20,21,22,23,24,4,4,10,11,12,13,14,25,26,27]):=by kernel_rfl
theorem hAx (p:T_Pinned) (i j n:Nat) (h:Nat→T_Bar) :
    zM 0 [rg 1,.dec false,rg 2,.head] zf7 (SHi p i j n h) [0,1] 1 (SHo p (i+1) n h) =
    some (zf52,zD [((decide ((↑j:Int)<(↑(p.2.1.1 - (i+1)):Int)))=false),(ZLo ((↑i:Int)+1)),(ZHi ((↑i:Int)+1)),(AI p.1.1),(AN p.1.2.1.1),(AP p.1.2.1.1 (fun i_1=>[.int .i64 ((p.1.2.1.2 i_1).1),.int .i64 ((p.1.2.1.2 i_1).2.1)])),(AN p.2.1.1),(AP p.2.1.1 (fun i_1=>[.int .i64 (p.2.1.2 i_1)])),(AN 0),(AN n),(AI ((↑p.2.1.1:Int))),((((↑i:Int)+1):Int)=(↑(i+1):Int)),(AN 3),(NL 1 1),(AN 2),(NL n n),(AA n (fun i_1=>[.p (.int .i64 ((h i_1).1)),.p (.int .i64 ((h i_1).2.1))]))] [0,1,2,3,4,5,6,7,8,8,9,6,7,10,11,12,13,13,3,4,5,6,7,14,15,16]):=by kernel_rfl
theorem hAe (p:T_Pinned) (i n:Nat) (h:Nat→T_Bar) :
    zP Tryz.f162 0 [rg 1,.dec false,rg 2] zf52 (SHo p i n h) [1] 1 [(0,brOb n h)] (.ar 2 0 0 n) =
    some [((decide ((↑i:Int)<(↑p.2.1.1:Int)))=false),(AN 0),(AN n),(AN 2),(NL n n),(AA n (fun i_1=>[.p (.int .i64 ((h i_1).1)),.p (.int .i64 ((h i_1).2.1))])),(AE n)]:=by kernel_rfl
theorem hKz (p:T_Pinned) :
    zT Tryz.f190 [rg 2,rg 7,rg 1,.head] [pinA p] [0,32,224,160] (SKl p 1 0 (fun _=>(0,0,()))) =
    some (zf53,zD [(NT 0 1),((true=true)→ (AN 1)),(AI p.1.1),(AN p.1.2.1.1),(AP p.1.2.1.1 (fun i=>[.int .i64 ((p.1.2.1.2 i).1),.int .i64 ((p.1.2.1.2 i).2.1)])),(AN p.2.1.1),(AP p.2.1.1 (fun i=>[.int .i64 (p.2.1.2 i)])),(AN 0),((1:Int)=(↑1:Int)),((([AV.p (PV.int IntKind.i64 p.1.1),graphL p.1.2.1,inL p.2.1].length):Nat)=3),(NL 1 1),((((List.map (fun v=>AV.p (absV v)) [Value.int IntKind.i64 0,Value.slice none 0 0]).length):Nat)=2),(AI 0),(AN 2),(NL 0 0),(AA 0 (fun i=>[.p (.int .i64 0),.p (.int .i64 0)]))] [0,0,1,2,3,4,5,6,7,7,7,8,9,10,10,2,3,4,5,6,11,10,10,12,11,10,10,2,7,7,13,14,15]):=by kernel_rfl
theorem hKa (p:T_Pinned) (k n m:Nat) (h r:Nat→T_Bar) :
    zM 0 [rg 5,.dec true,rm [(11,oc [(0,brOb m r)] (.agg [.p (.int .i64 p.1.1),.ar 2 0 0 m]))] 1,rg 2,.dec false,rg 3,.head] zf53 (SKl p k n h) [0,1,2,516] 1 (SKl p (k+1) m r) =
    some (zf53,zD [(NT 0 1),((decide ((↑k:Int)<(↑p.2.1.1:Int)))=true),(IL 0 0),(IT 0 (↑p.2.1.1:Int)),(IL 0 (↑k:Int)),(IT (↑k:Int) (↑p.2.1.1:Int)),(AN 2),(NL n n),zE 136 [(zf84 p n h),.agg [.p (.int .i64 (p.2.1.2 0)),.p (.int .i64 (p.2.1.2 k))]] (zf89 m r) (.agg [.p (.int .i64 p.1.1),.ar 2 0 0 m]),((true=true)→ (AN 1)),((decide ((↑k:Int)>1))=false),(ZLo ((↑k:Int)+1)),(ZHi ((↑k:Int)+1)),(AI p.1.1),(AN p.1.2.1.1),(AP p.1.2.1.1 (fun i=>[.int .i64 ((p.1.2.1.2 i).1),.int .i64 ((p.1.2.1.2 i).2.1)])),(AN p.2.1.1),(AP p.2.1.1 (fun i=>[.int .i64 (p.2.1.2 i)])),(AN 0),((((↑k:Int)+1):Int)=(↑(k+1):Int)),(AN 3),(NL 1 1),(AI 0),(AN m),(NL m m),(AA m (fun i=>[.p (.int .i64 ((r i).1)),.p (.int .i64 ((r i).2.1))]))] [0,1,0,0,2,3,0,4,5,6,7,8,0,9,10,11,12,13,14,15,16,17,18,18,18,19,20,21,21,13,14,15,16,17,6,21,21,22,6,21,21,13,18,23,6,24,25]):=by kernel_rfl
theorem hKb (p:T_Pinned) (k n m m2:Nat) (h r r2:Nat→T_Bar) :
    zM 0 [rg 5,.dec true,rm [(11,oc [(0,brOb m r)] (.agg [.p (.int .i64 p.1.1),.ar 2 0 0 m]))] 1,rg 2,.dec true,rm [(11,oc [(0,brOb m2 r2)] (.agg [.p (.int .i64 p.1.1),.ar 2 0 0 m2]))] 1,rg 3,.head] zf53 (SKl p k n h) [0,1,2,996] 1 (SKl p (k+1) m2 r2) =
    some (zf53,zD [(NT 0 1),((decide ((↑k:Int)<(↑p.2.1.1:Int)))=true),(IL 0 0),(IT 0 (↑p.2.1.1:Int)),(IL 0 (↑k:Int)),(IT (↑k:Int) (↑p.2.1.1:Int)),(AN 2),(NL n n),zE 136 [(zf84 p n h),.agg [.p (.int .i64 (p.2.1.2 0)),.p (.int .i64 (p.2.1.2 k))]] (zf89 m r) (.agg [.p (.int .i64 p.1.1),.ar 2 0 0 m]),((true=true)→ (AN 1)),((decide ((↑k:Int)>1))=true),(IL 0 1),(IT 1 (↑p.2.1.1:Int)),(NL m m),zE 136 [(zf84 p m r),.agg [.p (.int .i64 (p.2.1.2 1)),.p (.int .i64 (p.2.1.2 k))]] (zf89 m2 r2) (.agg [.p (.int .i64 p.1.1),.ar 2 0 0 m2]),(ZLo ((↑k:Int)+1)),(ZHi ((↑k:Int)+1)),(AI p.1.1),(AN p.1.2.1.1),(AP p.1.2.1.1 (fun i=>[.int .i64 ((p.1.2.1.2 i).1),.int .i64 ((p.1.2.1.2 i).2.1)])),(AN p.2.1.1),(AP p.2.1.1 (fun i=>[.int .i64 (p.2.1.2 i)])),(AN 0),((((↑k:Int)+1):Int)=(↑(k+1):Int)),(AN 3),(NL 1 1),(AI 0),(AN m2),(NL m2 m2),(AA m2 (fun i=>[.p (.int .i64 ((r2 i).1)),.p (.int .i64 ((r2 i).2.1))]))] [0,1,0,0,2,3,0,4,5,6,7,8,0,9,10,0,0,11,12,0,4,5,6,13,14,0,9,15,16,17,18,19,20,21,22,22,22,23,24,25,25,17,18,19,20,21,6,25,25,26,6,25,25,17,22,27,6,28,29]):=by kernel_rfl
theorem hKe (p:T_Pinned) (k n:Nat) (h:Nat→T_Bar) :
    zP Tryz.f190 0 [rg 5,.dec false,rg 2] zf53 (SKl p k n h) [3] 1 [(0,brOb n h)] (.agg [.p (.int .i64 p.1.1),.ar 2 0 0 n]) =
    some [(NT 0 1),((decide ((↑k:Int)<(↑p.2.1.1:Int)))=false),(NT 0 1),(NT 0 1),((true=true)→ (AN 1)),(NT 0 1),(AI p.1.1),(AN 0),(AN n),(AN 2),(NL n n),(AA n (fun i=>[.p (.int .i64 ((h i).1)),.p (.int .i64 ((h i).2.1))])),(AE n)]:=by kernel_rfl
theorem hLz (p:T_Pinned) (n:Nat) (h:Nat→T_Bar) :
    zT Tryz.f165 [rg 2,rm [(1,oc [(0,brOb n h)] (.agg [.p (.int .i64 p.1.1),.ar 2 0 0 n]))] 2,rg 1,.head] [pinA p] [0,32,128,96] (SKa p 0 n h) =
    some (zf54,zD [(NT 0 1),zE 190 [(zf20 p)] (zf89 n h) (.agg [.p (.int .i64 p.1.1),.ar 2 0 0 n]),((true=true)→ (AN 1)),(AI p.1.1),(AN p.1.2.1.1),(AP p.1.2.1.1 (fun i=>[.int .i64 ((p.1.2.1.2 i).1),.int .i64 ((p.1.2.1.2 i).2.1)])),(AN p.2.1.1),(AP p.2.1.1 (fun i=>[.int .i64 (p.2.1.2 i)])),(AN 0),((0:Int)=(↑0:Int)),((([AV.p (PV.int IntKind.i64 p.1.1),graphL p.1.2.1,inL p.2.1].length):Nat)=3),(NL 1 1),((((List.map (fun v=>AV.p (absV v)) [Value.int IntKind.i64 0,Value.slice none 0 0]).length):Nat)=2),(AI 0),(AN n),(AN 2),(NL n n),(AA n (fun i=>[.p (.int .i64 ((h i).1)),.p (.int .i64 ((h i).2.1))]))] [0,1,0,2,3,4,5,6,7,8,8,8,9,10,11,11,3,4,5,6,7,12,11,11,13,12,11,11,3,8,14,15,16,17]):=by kernel_rfl
theorem hLa (p:T_Pinned) (k n m:Nat) (h r:Nat→T_Bar) :
    zM 0 [rg 6,.dec true,rm [(7,oc [(0,brOb m r)] (.agg [.p (.int .i64 p.1.1),.ar 2 0 0 m]))] 1,rg 3,.head] zf54 (SKa p k n h) [0,1,2,420] 1 (SKa p (k+1) m r) =
    some (zf54,zD [(NT 0 1),((decide ((↑k:Int)<(↑p.1.2.1.1:Int)))=true),(IL 0 (↑k:Int)),(IT (↑k:Int) (↑p.1.2.1.1:Int)),(AN 2),(NL n n),zE 136 [(zf84 p n h),.agg [.p (.int .i64 ((p.1.2.1.2 k).1)),.p (.int .i64 ((p.1.2.1.2 k).2.1))]] (zf89 m r) (.agg [.p (.int .i64 p.1.1),.ar 2 0 0 m]),((true=true)→ (AN 1)),(ZLo ((↑k:Int)+1)),(ZHi ((↑k:Int)+1)),(AI p.1.1),(AN p.1.2.1.1),(AP p.1.2.1.1 (fun i=>[.int .i64 ((p.1.2.1.2 i).1),.int .i64 ((p.1.2.1.2 i).2.1)])),(AN p.2.1.1),(AP p.2.1.1 (fun i=>[.int .i64 (p.2.1.2 i)])),(AN 0),((((↑k:Int)+1):Int)=(↑(k+1):Int)),(AN 3),(NL 1 1),(AI 0),(AN m),(NL m m),(AA m (fun i=>[.p (.int .i64 ((r i).1)),.p (.int .i64 ((r i).2.1))]))] [0,1,0,0,2,3,4,5,6,0,7,8,9,10,11,12,13,14,15,15,15,16,17,18,18,10,11,12,13,14,4,18,18,19,4,18,18,10,15,20,4,21,22]):=by kernel_rfl
theorem hLe (p:T_Pinned) (k n:Nat) (h:Nat→T_Bar) :
    zP Tryz.f165 0 [rg 6,.dec false,rg 2] zf54 (SKa p k n h) [3] 1 [(0,brOb n h)] (.agg [.p (.int .i64 p.1.1),.ar 2 0 0 n]) =
    some [(NT 0 1),((decide ((↑k:Int)<(↑p.1.2.1.1:Int)))=false),(NT 0 1),(NT 0 1),((true=true)→ (AN 1)),(NT 0 1),(AI p.1.1),(AN 0),(AN n),(AN 2),(NL n n),(AA n (fun i=>[.p (.int .i64 ((h i).1)),.p (.int .i64 ((h i).2.1))])),(AE n)]:=by kernel_rfl
theorem hPn (p:T_Pinned) :
    zS Tryz.f149 [rg 2,rm [(1,oc [] (.p (.bool false)))] 1,.dec true,rg 1] [pinA p] [] [] (.p (.int .i64 (-1))) =
    some [(NT 0 1),zE 73 [(zf20 p)] [] (.p (.bool false)),((!false)=true),(AI ((-1)))]:=by kernel_rfl
theorem hPy (p:T_Pinned) (n:Nat) (h:Nat→T_Bar) (r1 r0:Nat) :
    zS Tryz.f149 [rg 2,rm [(1,oc [] (.p (.bool true)))] 1,.dec false,rg 4,rm [(2,oc [(0,brOb n h)] (.ar 2 0 0 n)),(4,oc [] (.p (.int .i64 r1))),(2,oc [(0,brOb n h)] (.ar 2 0 0 n)),(0,oc [] (.p (.int .i64 r0)))] 2] [pinA p] [] [] (.p (.int .i64 ((r1:Int) - (r0:Int)))) =
    some (zD [(NT 0 1),zE 73 [(zf20 p)] [] (.p (.bool true)),((!true)=false),zE 162 [(zf20 p)] (zf89 n h) (.ar 2 0 0 n),(NL n n),(NL ((n+p.1.2.1.1)*16) 140737488355328),(NL (n+p.1.2.1.1) 9223372036854775807),(AN 2),(NL (n+p.1.2.1.1) (n+p.1.2.1.1)),zE 188 [.p (.int .i64 p.1.1),.p (.seq true 2 (n+p.1.2.1.1) (fun i=>[(cellP true (if (i<n) then [.p (.int .i64 ((h i).1)),.p (.int .i64 ((h i).2.1))] else [.p (.int .i64 ((p.1.2.1.2 (i - n)).1)),.p (.int .i64 ((p.1.2.1.2 (i - n)).2.1))]) 0),(cellP true (if (i<n) then [.p (.int .i64 ((h i).1)),.p (.int .i64 ((h i).2.1))] else [.p (.int .i64 ((p.1.2.1.2 (i - n)).1)),.p (.int .i64 ((p.1.2.1.2 (i - n)).2.1))]) 1)]))] [] (.p (.int .i64 (↑r1:Int))),zE 188 [.p (.int .i64 p.1.1),.p (.seq true 2 n (bRw h))] [] (.p (.int .i64 (↑r0:Int))),(ZLo ((↑r1:Int) - (↑r0:Int))),(ZHi ((↑r1:Int) - (↑r0:Int))),(AI (((↑r1:Int) - (↑r0:Int))))] [0,1,2,0,0,3,0,4,5,6,7,8,9,0,3,7,4,10,11,12,13]):=by kernel_rfl
theorem hQn (p:T_Pinned) :
    zS Tryz.f152 [rg 2,rm [(1,oc [] (.p (.bool false)))] 1,.dec true,rg 1] [pinA p] [] [] (.p (.int .i64 (-1))) =
    some [(NT 0 1),zE 77 [(zf20 p)] [] (.p (.bool false)),((!false)=true),(AI ((-1)))]:=by kernel_rfl
theorem hQy (p:T_Pinned) (n m:Nat) (h k:Nat→T_Bar) (r1 r0:Nat) :
    zS Tryz.f152 [rg 2,rm [(1,oc [] (.p (.bool true)))] 1,.dec false,rm [(1,oc [(0,brOb n h)] (.agg [.p (.int .i64 p.1.1),.ar 2 0 0 n])),(0,oc [] (.p (.int .i64 r1))),(1,oc [(0,brOb m k)] (.agg [.p (.int .i64 p.1.1),.ar 2 0 0 m])),(0,oc [] (.p (.int .i64 r0)))] 2] [pinA p] [] [] (.p (.int .i64 ((r1:Int) - (r0:Int)))) =
    some [(NT 0 1),zE 77 [(zf20 p)] [] (.p (.bool true)),((!true)=false),(NT 0 1),zE 165 [(zf20 p)] (zf89 n h) (.agg [.p (.int .i64 p.1.1),.ar 2 0 0 n]),(AN 2),(NL n n),zE 189 [(zf84 p n h)] [] (.p (.int .i64 (↑r1:Int))),(NT 0 1),zE 190 [(zf20 p)] (zf89 m k) (.agg [.p (.int .i64 p.1.1),.ar 2 0 0 m]),(AN 2),(NL m m),zE 189 [(zf84 p m k)] [] (.p (.int .i64 (↑r0:Int))),(ZLo ((↑r1:Int) - (↑r0:Int))),(ZHi ((↑r1:Int) - (↑r0:Int))),(AI (((↑r1:Int) - (↑r0:Int))))]:=by kernel_rfl
def hIn (s:Nat→Int) (i:Nat) (r:NB):Nat→NB
  | 0=>r
  | j+1=>sn (hIn s i r j) (brX (s i) (s (j+(i+1))))
def hC (s:Nat→Int) (m:Nat):Nat→NB
  | 0=>zNB
  | i+1=>hIn s i (hC s m i) (m - (i+1))
def hS (s:Nat→Int):Nat→NB
  | 0=>zNB
  | k+1=>if 1≤k then insR (insR (hS s k).2 (hS s k).1 (s 0,s (k+1),())).2 (insR (hS s k).2 (hS s k).1 (s 0,s (k+1),())).1 (s 1,s (k+1),()) else insR (hS s k).2 (hS s k).1 (s 0,s (k+1),())
def aS (g:Nat→T_Bar) (r:NB):Nat→NB
  | 0=>r
  | k+1=>insR (aS g r k).2 (aS g r k).1 (g k)
def aC (r:NB) (g:Nat→T_Bar) (i:Nat):T_Bar:=(if i<r.1 then (r.2 i).1 else (g (i - r.1)).1,if i<r.1 then (r.2 i).2.1 else (g (i - r.1)).2.1,())
def mem (r:NB) (y:T_Bar):Prop:=∃ s,s<r.1∧r.2 s=y
theorem hIn_n (s:Nat→Int) (i:Nat) (r:NB):∀ j,(hIn s i r j).1=r.1+j
  | 0=>rfl
  | j+1=>by simp only [hIn,sn,hIn_n s i r j];omega
theorem hC_n (s:Nat→Int) (m:Nat):∀ i,(hC s m i).1≤i*m
  | 0=>by simp [hC,zNB]
  | i+1=>by
    have:=hC_n s m i
    simp only [hC,hIn_n]
    rw [Nat.add_mul];omega
theorem hIn_mem (s:Nat→Int) (i:Nat) (r:NB) (y:T_Bar):∀ j,mem (hIn s i r j) y↔mem r y∨∃ q,q<j∧brX (s i) (s (q+(i+1)))=y
  | 0=>by
    constructor
    · intro h;exact .inl h
    · rintro (h | ⟨q,h,_⟩)
      · exact h
      · exact absurd h (Nat.not_lt_zero _)
  | j+1=>by
    have ih:=hIn_mem s i r y j
    show (∃ t,t<(hIn s i r j).1+1∧snoc (hIn s i r j).1 (hIn s i r j).2 _ t=y)↔_
    rw [snoc_mem]
    rw [show (∃ t,t<(hIn s i r j).1∧(hIn s i r j).2 t=y)↔_ from ih]
    constructor
    · rintro ((h | ⟨q,h1,h2⟩) | h)
      · exact .inl h
      · exact .inr ⟨q,by omega,h2⟩
      · exact .inr ⟨j,by omega,h⟩
    · rintro (h | ⟨q,h1,h2⟩)
      · exact .inl (.inl h)
      · by_cases e:q=j
        · subst e;exact .inr h2
        · exact .inl (.inr ⟨q,by omega,h2⟩)
theorem hC_mem (s:Nat→Int) (m:Nat) (y:T_Bar):∀ i,i≤m→(mem (hC s m i) y↔∃ a b,a<i∧a<b∧b<m∧brX (s a) (s b)=y)
  | 0,_=>by
    constructor
    · rintro ⟨t,h,_⟩;exact absurd h (Nat.not_lt_zero _)
    · rintro ⟨a,b,h,_⟩;exact absurd h (Nat.not_lt_zero _)
  | i+1,hi=>by
    have ih:=hC_mem s m y i (by omega)
    simp only [hC]
    rw [hIn_mem,ih]
    constructor
    · rintro (⟨a,b,h1,h2,h3,h4⟩ | ⟨q,h1,h2⟩)
      · exact ⟨a,b,by omega,h2,h3,h4⟩
      · exact ⟨i,q+(i+1),by omega,by omega,by omega,h2⟩
    · rintro ⟨a,b,h1,h2,h3,h4⟩
      by_cases e:a=i
      · subst e;exact .inr ⟨b - (a+1),by omega,by rw [show b - (a+1)+(a+1)=b by omega];exact h4⟩
      · exact .inl ⟨a,b,by omega,h2,h3,h4⟩
theorem mem_ins (r:NB) (x y:T_Bar):mem (insR r.2 r.1 x) y↔mem r y∨x=y:=insR_mem r.2 r.1 x y
theorem hS_mem (s:Nat→Int) (y:T_Bar):∀ k,mem (hS s k) y↔∃ b,1≤b∧b≤k∧((s 0,s b,())=y∨(2≤b∧(s 1,s b,())=y))
  | 0=>by
    constructor
    · rintro ⟨t,h,_⟩;exact absurd h (Nat.not_lt_zero _)
    · rintro ⟨b,h1,h2,_⟩;omega
  | k+1=>by
    have ih:=hS_mem s y k
    simp only [hS]
    split
    · rename_i h1
      rw [mem_ins,mem_ins,ih]
      constructor
      · rintro ((⟨b,h2,h3,h4⟩ | h) | h)
        · exact ⟨b,h2,by omega,h4⟩
        · exact ⟨k+1,by omega,Nat.le_refl _,.inl h⟩
        · exact ⟨k+1,by omega,Nat.le_refl _,.inr ⟨by omega,h⟩⟩
      · rintro ⟨b,h2,h3,h4⟩
        by_cases e:b=k+1
        · subst e
          rcases h4 with h4 | h4
          · exact .inl (.inr h4)
          · exact .inr h4.2
        · exact .inl (.inl ⟨b,h2,by omega,h4⟩)
    · rename_i h1
      rw [mem_ins,ih]
      constructor
      · rintro (⟨b,h2,h3,h4⟩ | h)
        · exact ⟨b,h2,by omega,h4⟩
        · exact ⟨k+1,by omega,Nat.le_refl _,.inl h⟩
      · rintro ⟨b,h2,h3,h4⟩
        by_cases e:b=k+1
        · subst e
          rcases h4 with h4 | h4
          · exact .inr h4
          · omega
        · exact .inl ⟨b,h2,by omega,h4⟩
theorem hS_n (s:Nat→Int):∀ k,(hS s k).1≤2*k∧(1≤k→(hS s k).1+1≤2*k)
  | 0=>by simp [hS,zNB]
  | k+1=>by
    have ih:=hS_n s k
    simp only [hS]
    split
    · rw [insR_n,insR_n];omega
    · rw [insR_n];omega
theorem aS_mem (g:Nat→T_Bar) (r:NB) (y:T_Bar):∀ k,mem (aS g r k) y↔mem r y∨∃ i,i<k∧g i=y
  | 0=>by
    constructor
    · intro h;exact .inl h
    · rintro (h | ⟨q,h,_⟩)
      · exact h
      · exact absurd h (Nat.not_lt_zero _)
  | k+1=>by
    have ih:=aS_mem g r y k
    simp only [aS]
    rw [mem_ins,ih]
    constructor
    · rintro ((h | ⟨q,h1,h2⟩) | h)
      · exact .inl h
      · exact .inr ⟨q,by omega,h2⟩
      · exact .inr ⟨k,by omega,h⟩
    · rintro (h | ⟨q,h1,h2⟩)
      · exact .inl (.inl h)
      · by_cases e:q=k
        · subst e;exact .inr h2
        · exact .inl (.inr ⟨q,by omega,h2⟩)
theorem aS_n (g:Nat→T_Bar) (r:NB):∀ k,(aS g r k).1=r.1+k
  | 0=>rfl
  | k+1=>by simp only [aS,insR_n,aS_n g r k];omega
theorem aC_lt {r:NB} {g:Nat→T_Bar} {i:Nat} (h:i<r.1):aC r g i=r.2 i:=by simp only [aC,h,if_true]
theorem aC_ge {r:NB} {g:Nat→T_Bar} {i:Nat} (h:¬ i<r.1):aC r g i=g (i - r.1):=by simp only [aC,h,if_false]
theorem aC_mem (r:NB) (g:Nat→T_Bar) (nb:Nat) (y:T_Bar):mem (r.1+nb,aC r g) y↔mem r y∨∃ i,i<nb∧g i=y:=by
  constructor
  · rintro ⟨t,h1,h2⟩
    by_cases e:t<r.1
    · exact .inl ⟨t,e,by rw [← h2];exact (aC_lt e).symm⟩
    · exact .inr ⟨t - r.1,by have:t<r.1+nb:=h1;omega,by rw [← h2];exact (aC_ge e).symm⟩
  · rintro (⟨t,h1,h2⟩ | ⟨i,h1,h2⟩)
    · exact ⟨t,by show t<r.1+nb;omega,by show aC r g t=y;rw [aC_lt h1];exact h2⟩
    · exact ⟨r.1+i,by show r.1+i<r.1+nb;omega,by show aC r g (r.1+i)=y;rw [aC_ge (by omega),show r.1+i - r.1=i by omega];exact h2⟩
theorem con_held (p:T_Pinned) (hm:p.2.1.1≤8):zE 162 [pinA p] [(0,brOb (hC p.2.1.2 p.2.1.1 p.2.1.1).1 (hC p.2.1.2 p.2.1.1 p.2.1.1).2)] (.ar 2 0 0 (hC p.2.1.2 p.2.1.1 p.2.1.1).1):=by
  refine csZ Tryz.func162 (fun c hc=>?_)
  generalize hR:hC p.2.1.2 p.2.1.1 p.2.1.1=R
  have li:∀ i,i<p.2.1.1→(zR c 162 zf52 (SHo p (i+1) (hC p.2.1.2 p.2.1.1 (i+1)).1 (hC p.2.1.2 p.2.1.1 (i+1)).2) (Post c [(0,brOb R.1 R.2)] (.ar 2 0 0 R.1))) →
      ∀ d j,j+d=p.2.1.1 - (i+1)→zR c 162 zf7 (SHi p i j (hIn p.2.1.2 i (hC p.2.1.2 p.2.1.1 i) j).1 (hIn p.2.1.2 i (hC p.2.1.2 p.2.1.1 i) j).2) (Post c [(0,brOb R.1 R.2)] (.ar 2 0 0 R.1)):=by
    intro i hi hk d
    induction d with
    | zero =>
      intro j hj
      obtain rfl:j=p.2.1.1 - (i+1):=by omega
      have hd:decide (((p.2.1.1 - (i+1):Nat):Int)<((p.2.1.1 - (i+1):Nat):Int))=false:=by simp
      refine pcD hc (hAx p i (p.2.1.1 - (i+1)) _ _) ?_ hk
      and_intros
      all_goals (first | exact zN | (exact hd) | (intro t ht;simp [All]))
    | succ d ih =>
      intro j hj
      have hd:decide ((j:Int)<((p.2.1.1 - (i+1):Nat):Int))=true:=decide_eq_true (by omega)
      have cb:=con_barX (p.2.1.2 i) (p.2.1.2 (j+(i+1)))
      have hn:=hIn_n p.2.1.2 i (hC p.2.1.2 p.2.1.1 i) j
      have hn2:=hC_n p.2.1.2 p.2.1.1 i
      have hn3:i*p.2.1.1≤64:=Nat.le_trans (Nat.mul_le_mul (show i≤8 by omega) hm) (by omega)
      have hrec:=ih (j+1) (by omega)
      generalize hq:hIn p.2.1.2 i (hC p.2.1.2 p.2.1.1 i) j=q at hn ⊢
      rw [show hIn p.2.1.2 i (hC p.2.1.2 p.2.1.1 i) (j+1)=sn q (brX (p.2.1.2 i) (p.2.1.2 (j+(i+1)))) by rw [hIn,hq]] at hrec
      refine pcD hc (hAi p i j q.1 q.2 (brX (p.2.1.2 i) (p.2.1.2 (j+(i+1))))) ?_ hrec
      and_intros
      all_goals (first | exact zN | (exact hd) | (exact cb) | (intro t ht;by_cases h':t<q.1<;>simp [h',snoc,cvtL,cvt,tg,tru,All]))
  have lo:∀ d i,i+d=p.2.1.1→zR c 162 zf52 (SHo p i (hC p.2.1.2 p.2.1.1 i).1 (hC p.2.1.2 p.2.1.1 i).2) (Post c [(0,brOb R.1 R.2)] (.ar 2 0 0 R.1)):=by
    intro d
    induction d with
    | zero =>
      intro i hi
      obtain rfl:i=p.2.1.1:=by omega
      have hd:decide ((p.2.1.1:Int)<(p.2.1.1:Int))=false:=by simp
      rw [hR]
      refine pkZ Tryz.func162 hc (hAe p p.2.1.1 R.1 R.2) ?_
      and_intros
      all_goals (first | exact zN | (exact hd) | (intro t ht;simp [All]))
    | succ d ih =>
      intro i hi
      have hd:decide ((i:Int)<(p.2.1.1:Int))=true:=decide_eq_true (by omega)
      refine pcD hc (hAo p i _ _) ?_ (li i (by omega) (ih (i+1) (by omega)) (p.2.1.1 - (i+1)) 0 (by omega))
      and_intros
      all_goals (first | exact zN | (exact hd) | (intro t ht;simp [All]))
  refine pcD hc (hAz p) ?_ (lo p.2.1.1 0 (by omega))
  and_intros
  all_goals (first | exact zN | (intro t ht;exact absurd ht (Nat.not_lt_zero _)) | (intro t ht;simp [All]))
theorem con_l20Held (p:T_Pinned) (h1:0≤p.1.1) (hm:1≤p.2.1.1∧p.2.1.1≤8):zE 190 [pinA p] [(0,brOb (hS p.2.1.2 (p.2.1.1 - 1)).1 (hS p.2.1.2 (p.2.1.1 - 1)).2)] (.agg [.p (.int .i64 p.1.1),.ar 2 0 0 (hS p.2.1.2 (p.2.1.1 - 1)).1]):=by
  refine csZ Tryz.func190 (fun c hc=>?_)
  have hN:((p.1.1.toNat:Nat):Int)=p.1.1:=by omega
  generalize hR:hS p.2.1.2 (p.2.1.1 - 1)=R
  have lo:∀ d k,k+1+d=p.2.1.1→zR c 190 zf53 (SKl p (k+1) (hS p.2.1.2 k).1 (hS p.2.1.2 k).2) (Post c [(0,brOb R.1 R.2)] (.agg [.p (.int .i64 p.1.1),.ar 2 0 0 R.1])):=by
    intro d
    induction d with
    | zero =>
      intro k hk
      have hd:decide (((k+1:Nat):Int)<(p.2.1.1:Int))=false:=decide_eq_false (by omega)
      rw [show k=p.2.1.1 - 1 by omega,hR]
      rw [show k=p.2.1.1 - 1 by omega] at hd
      refine pkZ Tryz.func190 hc (hKe p (p.2.1.1 - 1+1) R.1 R.2) ?_
      and_intros
      all_goals (first | exact zI | (exact hd) | (intro t ht;simp [All]))
    | succ d ih =>
      intro k hk
      have hd:decide (((k+1:Nat):Int)<(p.2.1.1:Int))=true:=decide_eq_true (by omega)
      have hrec:=ih (k+1) (by omega)
      have hn:=hS_n p.2.1.2 k
      have hs:hS p.2.1.2 (k+1)=if 1≤k then insR (insR (hS p.2.1.2 k).2 (hS p.2.1.2 k).1 (p.2.1.2 0,p.2.1.2 (k+1),())).2 (insR (hS p.2.1.2 k).2 (hS p.2.1.2 k).1 (p.2.1.2 0,p.2.1.2 (k+1),())).1 (p.2.1.2 1,p.2.1.2 (k+1),()) else insR (hS p.2.1.2 k).2 (hS p.2.1.2 k).1 (p.2.1.2 0,p.2.1.2 (k+1),()):=rfl
      generalize hS p.2.1.2 k=q at hn hs ⊢
      have c1:=con_l2Put q.2 q.1 p.1.1.toNat (p.2.1.2 0,p.2.1.2 (k+1),()) (by omega)
      have n1:=insR_n q.2 q.1 (p.2.1.2 0,p.2.1.2 (k+1),())
      rw [grG,hN] at c1
      generalize insR q.2 q.1 (p.2.1.2 0,p.2.1.2 (k+1),())=q1 at c1 n1 hs
      by_cases h1k:1≤k
      · have hg:decide (((k+1:Nat):Int)>1)=true:=decide_eq_true (by omega)
        rw [if_pos h1k] at hs
        have c2:=con_l2Put q1.2 q1.1 p.1.1.toNat (p.2.1.2 1,p.2.1.2 (k+1),()) (by omega)
        rw [grG,hN] at c2
        rw [hs] at hrec
        generalize insR q1.2 q1.1 (p.2.1.2 1,p.2.1.2 (k+1),())=q2 at c2 hrec
        refine pcD hc (hKb p (k+1) q.1 q1.1 q2.1 q.2 q1.2 q2.2) ?_ hrec
        and_intros
        all_goals (first | exact zI | (exact hd) | (exact hg) | (exact c1) | (exact c2) | (intro t ht;simp [All]))
      · have hg:decide (((k+1:Nat):Int)>1)=false:=decide_eq_false (by omega)
        rw [if_neg h1k] at hs
        rw [hs] at hrec
        refine pcD hc (hKa p (k+1) q.1 q1.1 q.2 q1.2) ?_ hrec
        and_intros
        all_goals (first | exact zI | (exact hd) | (exact hg) | (exact c1) | (intro t ht;simp [All]))
  refine pcD hc (hKz p) ?_ (lo (p.2.1.1 - 1) 0 (by omega))
  and_intros
  all_goals (first | exact zI | (intro t ht;exact absurd ht (Nat.not_lt_zero _)) | (intro t ht;simp [All]))
def alS (p:T_Pinned):NB:=aS p.1.2.1.2 (hS p.2.1.2 (p.2.1.1 - 1)) p.1.2.1.1
theorem con_l20All (p:T_Pinned) (h1:0≤p.1.1) (hm:1≤p.2.1.1∧p.2.1.1≤8) (hn:p.1.2.1.1≤1000):zE 165 [pinA p] [(0,brOb (alS p).1 (alS p).2)] (.agg [.p (.int .i64 p.1.1),.ar 2 0 0 (alS p).1]):=by
  have c0:=con_l20Held p h1 hm
  have hn0:=hS_n p.2.1.2 (p.2.1.1 - 1)
  unfold alS
  refine csZ Tryz.func165 (fun c hc=>?_)
  have hN:((p.1.1.toNat:Nat):Int)=p.1.1:=by omega
  generalize hS p.2.1.2 (p.2.1.1 - 1)=r0 at c0 hn0 ⊢
  generalize hR:aS p.1.2.1.2 r0 p.1.2.1.1=R
  have lo:∀ d k,k+d=p.1.2.1.1→zR c 165 zf54 (SKa p k (aS p.1.2.1.2 r0 k).1 (aS p.1.2.1.2 r0 k).2) (Post c [(0,brOb R.1 R.2)] (.agg [.p (.int .i64 p.1.1),.ar 2 0 0 R.1])):=by
    intro d
    induction d with
    | zero =>
      intro k hk
      obtain rfl:k=p.1.2.1.1:=by omega
      have hd:decide ((p.1.2.1.1:Int)<(p.1.2.1.1:Int))=false:=by simp
      rw [hR]
      refine pkZ Tryz.func165 hc (hLe p p.1.2.1.1 R.1 R.2) ?_
      and_intros
      all_goals (first | exact zI | (exact hd) | (intro t ht;simp [All]))
    | succ d ih =>
      intro k hk
      have hd:decide ((k:Int)<(p.1.2.1.1:Int))=true:=decide_eq_true (by omega)
      have hrec:=ih (k+1) (by omega)
      have hnk:=aS_n p.1.2.1.2 r0 k
      rw [show aS p.1.2.1.2 r0 (k+1)=insR (aS p.1.2.1.2 r0 k).2 (aS p.1.2.1.2 r0 k).1 (p.1.2.1.2 k) from rfl] at hrec
      generalize aS p.1.2.1.2 r0 k=q at hnk hrec ⊢
      have c1:=con_l2Put q.2 q.1 p.1.1.toNat (p.1.2.1.2 k) (by omega)
      rw [grG,hN] at c1
      generalize insR q.2 q.1 (p.1.2.1.2 k)=q1 at c1 hrec
      refine pcD hc (hLa p k q.1 q1.1 q.2 q1.2) ?_ hrec
      and_intros
      all_goals (first | exact zI | (exact hd) | (exact c1) | (intro t ht;simp [All]))
  refine pcD hc (hLz p r0.1 r0.2) ?_ (lo p.1.2.1.1 0 (by omega))
  and_intros
  all_goals (first | exact zI | (exact c0) | (intro t ht;simp [All]))
def hlC (p:T_Pinned):NB:=hC p.2.1.2 p.2.1.1 p.2.1.1
def alC (p:T_Pinned):NB:=((hlC p).1+p.1.2.1.1,aC (hlC p) p.1.2.1.2)
def hlS (p:T_Pinned):NB:=hS p.2.1.2 (p.2.1.1 - 1)
noncomputable def rkN (N:Nat) (r:NB):Nat:=(accI N 2 3 r.2 r.1).length
def OkN (N:Nat) (r:NB):Prop:=OkBars N r.1 r.2
theorem okN_mem {N:Nat} {r:NB} (h:∀ y,mem r y→0≤y.1∧y.1<y.2.1∧y.2.1<N):OkN N r:=fun e he=>h _ ⟨e,he,rfl⟩
theorem okN_at {N:Nat} {r:NB} (h:OkN N r) {y:T_Bar} (hy:mem r y):0≤y.1∧y.1<y.2.1∧y.2.1<N:=by
  obtain ⟨e,he,rfl⟩:=hy
  exact h e he
structure PinOk (p:T_Pinned):Prop where
  N:1≤p.1.1∧p.1.1≤8
  m:2≤p.2.1.1∧p.2.1.1≤8
  nb:p.1.2.1.1≤15∧p.1.2.1.1+2*p.2.1.1≤27
  gr:∀ i,i<p.2.1.1→0≤p.2.1.2 i∧p.2.1.2 i<p.1.1
  asc:∀ i j,i<j→j<p.2.1.1→p.2.1.2 i<p.2.1.2 j
  bars:∀ i,i<p.1.2.1.1→0≤(p.1.2.1.2 i).1∧(p.1.2.1.2 i).1<(p.1.2.1.2 i).2.1∧(p.1.2.1.2 i).2.1<p.1.1
theorem pin_ok {p:T_Pinned} (h:pinnedF p=true):PinOk p:=by
  have h1:=pinned_in h
  have h2:=graph_inR h1.1
  simp only [pinnedF,Bool.and_eq_true] at h
  exact ⟨⟨h2.1,h2.2.1⟩,⟨h1.2.1,h1.2.2.1⟩,h1.2.2.2,fun i hi=>⟨(goodP_at h.1 i hi).1,(goodP_at h.1 i hi).2.1⟩,fun i j hij hj=>goodP_asc h.1 j i hij hj,
    fun i hi=>by have:=goodB_at h2.2.2.2 i hi;exact ⟨this.1,this.2.1,this.2.2.1⟩⟩
theorem PinOk.brx {p:T_Pinned} (h:PinOk p) {a b:Nat} (h1:a<b) (h2:b<p.2.1.1):brX (p.2.1.2 a) (p.2.1.2 b)=(p.2.1.2 a,p.2.1.2 b,()):=by
  have:=h.asc a b h1 h2
  simp only [brX]
  rw [if_neg (by omega),if_pos (by omega)]
theorem PinOk.okHS {p:T_Pinned} (h:PinOk p):OkN p.1.1.toNat (hlS p):=by
  refine okN_mem (fun y hy=>?_)
  have hN:=h.N;have hm:=h.m
  rw [hlS,hS_mem] at hy
  obtain ⟨b,h1,h2,h3⟩:=hy
  have gb:=h.gr b (by omega)
  rcases h3 with rfl | ⟨h3,rfl⟩
  · have g0:=h.gr 0 (by omega)
    have:=h.asc 0 b (by omega) (by omega)
    simp only;omega
  · have g1:=h.gr 1 (by omega)
    have:=h.asc 1 b (by omega) (by omega)
    simp only;omega
theorem PinOk.okHC {p:T_Pinned} (h:PinOk p):OkN p.1.1.toNat (hlC p):=by
  refine okN_mem (fun y hy=>?_)
  have hN:=h.N
  rw [hlC,hC_mem _ _ _ _ (Nat.le_refl _)] at hy
  obtain ⟨a,b,h1,h2,h3,rfl⟩:=hy
  have ga:=h.gr a (by omega);have gb:=h.gr b h3
  have:=h.asc a b h2 h3
  rw [h.brx h2 h3]
  simp only;omega
theorem PinOk.okAS {p:T_Pinned} (h:PinOk p):OkN p.1.1.toNat (alS p):=by
  refine okN_mem (fun y hy=>?_)
  have hN:=h.N
  rw [alS,aS_mem] at hy
  rcases hy with hy | ⟨i,h1,rfl⟩
  · exact okN_at h.okHS hy
  · have:=h.bars i h1;omega
theorem PinOk.okAC {p:T_Pinned} (h:PinOk p):OkN p.1.1.toNat (alC p):=by
  refine okN_mem (fun y hy=>?_)
  have hN:=h.N
  rw [alC,aC_mem] at hy
  rcases hy with hy | ⟨i,h1,rfl⟩
  · exact okN_at h.okHC hy
  · have:=h.bars i h1;omega
theorem rkN_rk (N:Nat) (r:NB):rkN N r=Mat.rk N (bL r.2 r.1):=acc_len N 2 3 r.2 r.1
theorem bL_in (r:NB) (x:Nat×Nat):x∈bL r.2 r.1↔∃ y,mem r y∧brN y=x:=by
  rw [bL_mem]
  constructor
  · rintro ⟨s,h1,h2⟩;exact ⟨_,⟨s,h1,rfl⟩,h2⟩
  · rintro ⟨y,⟨s,h1,rfl⟩,h2⟩;exact ⟨s,h1,h2⟩
theorem PinOk.grd {p:T_Pinned} (h:PinOk p):Mat.Grd p.1.1.toNat p.2.1.1 (fun i=>(p.2.1.2 i).toNat) (bL (hlS p).2 (hlS p).1) where
  two:=h.m.1
  lt i hi:=by have:=h.gr i hi;show (p.2.1.2 i).toNat<_;omega
  ne i j hij hj:=by have:=h.asc i j hij hj;have:=h.gr i (by omega);show (p.2.1.2 i).toNat≠(p.2.1.2 j).toNat;omega
  b0 i h1 h2:=by
    rw [bL_in]
    refine ⟨(p.2.1.2 0,p.2.1.2 i,()),?_,rfl⟩
    rw [hlS,hS_mem]
    exact ⟨i,h1,by omega,.inl rfl⟩
  b1 i h1 h2:=by
    rw [bL_in]
    refine ⟨(p.2.1.2 1,p.2.1.2 i,()),?_,rfl⟩
    rw [hlS,hS_mem]
    exact ⟨i,by omega,by omega,.inr ⟨h1,rfl⟩⟩
theorem PinOk.same {p:T_Pinned} (h:PinOk p) {r q:NB} (hr:OkN p.1.1.toNat r) (hq:OkN p.1.1.toNat q) (hs:∀ y,mem (hlS p) y→mem r y) (h1:∀ y,mem r y→mem q y)
    (h2:∀ y,mem q y→mem r y∨mem (hlC p) y):rkN p.1.1.toNat q=rkN p.1.1.toNat r:=by
  rw [rkN_rk,rkN_rk]
  refine h.grd.same (bL_good hr) (bL_good hq) (fun x hx=>?_) (fun x hx=>?_) (fun x hx=>?_)
  · rw [bL_in] at hx ⊢
    obtain ⟨y,h3,h4⟩:=hx
    exact ⟨y,hs y h3,h4⟩
  · rw [bL_in] at hx ⊢
    obtain ⟨y,h3,h4⟩:=hx
    exact ⟨y,h1 y h3,h4⟩
  · rw [bL_in] at hx
    obtain ⟨y,h3,h4⟩:=hx
    rcases h2 y h3 with h5 | h5
    · exact .inl ((bL_in _ _).2 ⟨y,h5,h4⟩)
    · rw [hlC,hC_mem _ _ _ _ (Nat.le_refl _)] at h5
      obtain ⟨a,b,h6,h7,h8,rfl⟩:=h5
      rw [h.brx h7 h8] at h4
      exact .inr ⟨a,b,h6,h8,h4.symm⟩
theorem PinOk.few {p:T_Pinned} (h:PinOk p) (y:T_Bar) (hy:mem (hlS p) y):mem (hlC p) y:=by
  have hm:=h.m
  rw [hlS,hS_mem] at hy
  rw [hlC,hC_mem _ _ _ _ (Nat.le_refl _)]
  obtain ⟨b,h1,h2,h3⟩:=hy
  rcases h3 with rfl | ⟨h3,rfl⟩
  · exact ⟨0,b,by omega,by omega,by omega,h.brx (by omega) (by omega)⟩
  · exact ⟨1,b,by omega,by omega,by omega,h.brx (by omega) (by omega)⟩
theorem PinOk.rkH {p:T_Pinned} (h:PinOk p):rkN p.1.1.toNat (hlC p)=rkN p.1.1.toNat (hlS p) :=
  h.same h.okHS h.okHC (fun y hy=>hy) h.few (fun y hy=>.inr hy)
theorem PinOk.rkA {p:T_Pinned} (h:PinOk p):rkN p.1.1.toNat (alC p)=rkN p.1.1.toNat (alS p):=by
  refine h.same h.okAS h.okAC (fun y hy=>?_) (fun y hy=>?_) (fun y hy=>?_)
  · rw [alS,aS_mem];exact .inl hy
  · rw [alS,aS_mem] at hy
    rw [alC,aC_mem]
    rcases hy with hy | hy
    · exact .inl (h.few y hy)
    · exact .inr hy
  · rw [alC,aC_mem] at hy
    rw [alS,aS_mem]
    rcases hy with hy | hy
    · exact .inr hy
    · exact .inl (.inr hy)
noncomputable def prG (p:T_Pinned):Int:=if pinnedF p=true then (rkN p.1.1.toNat (alS p):Int) - (rkN p.1.1.toNat (hlS p):Int) else -1
theorem accI_le (N k l:Nat) (g:Nat→T_Bar):∀ n,(accI N k l g n).length≤n
  | 0=>Nat.le_refl _
  | n+1=>by
    have:=accI_le N k l g n
    simp only [accI]
    split
    · simp;omega
    · omega
theorem PinOk.nC {p:T_Pinned} (h:PinOk p):(hlC p).1≤64:=by
  have:=hC_n p.2.1.2 p.2.1.1 p.2.1.1
  exact Nat.le_trans this (Nat.mul_le_mul h.m.2 h.m.2)
theorem PinOk.nS {p:T_Pinned} (h:PinOk p):(hlS p).1+p.1.2.1.1≤24:=by
  have:=(hS_n p.2.1.2 (p.2.1.1 - 1)).2 (by have:=h.m;omega)
  have:=h.m;have:=h.nb
  unfold hlS;omega
theorem alS_n (p:T_Pinned):(alS p).1=(hlS p).1+p.1.2.1.1:=aS_n _ _ _
theorem con_PinnedRank_i (p:T_Pinned) (hs:smS s_Pinned p):zE 149 [pinA p] [] (.p (.int .i64 (prG p))):=by
  have c1:=con_IsPinned_i p hs
  cases hp:pinnedF p with
  | false =>
    rw [hp] at c1
    rw [show prG p = -1 by simp [prG,hp]]
    refine csZ Tryz.func149 (fun c hc=>?_)
    refine pkZ Tryz.func149 hc (hPn p) ?_
    and_intros
    all_goals (first | exact zN | (exact c1) | (simp;done))
  | true =>
    rw [hp] at c1
    have ok:=pin_ok hp
    have hN:=ok.N;have hm:=ok.m;have hnb:=ok.nb;have hnC:=ok.nC
    have ch:=con_held p hm.2
    have cr1:=con_planeRank ok.okAC (by omega) (by show (hlC p).1+p.1.2.1.1≤1048576;omega)
    have cr0:=con_planeRank ok.okHC (by omega) (by omega)
    have hNz:((p.1.1.toNat:Nat):Int)=p.1.1:=by omega
    rw [hNz] at cr1 cr0
    have hr1:(accI p.1.1.toNat 2 3 (alC p).2 (alC p).1).length=rkN p.1.1.toNat (alS p):=ok.rkA
    have hr0:(accI p.1.1.toNat 2 3 (hlC p).2 (hlC p).1).length=rkN p.1.1.toNat (hlS p):=ok.rkH
    have hb1:rkN p.1.1.toNat (alS p)≤24:=by
      have:=accI_le p.1.1.toNat 2 3 (alS p).2 (alS p).1
      have:=alS_n p;have:=ok.nS
      unfold rkN;omega
    have hb0:rkN p.1.1.toNat (hlS p)≤24:=by
      have:=accI_le p.1.1.toNat 2 3 (hlS p).2 (hlS p).1
      have:=ok.nS
      unfold rkN;omega
    rw [hr1] at cr1
    rw [hr0] at cr0
    rw [show prG p=(rkN p.1.1.toNat (alS p):Int) - (rkN p.1.1.toNat (hlS p):Int) by simp [prG,hp]]
    rw [show hC p.2.1.2 p.2.1.1 p.2.1.1=hlC p from rfl] at ch
    refine csZ Tryz.func149 (fun c hc=>?_)
    refine pkD Tryz.func149 hc (hPy p (hlC p).1 (hlC p).2 (rkN p.1.1.toNat (alS p)) (rkN p.1.1.toNat (hlS p))) ?_
    repeat' (first | exact aN | apply aI)
    all_goals (first | exact zN | (exact c1) | (exact ch) | (exact cr0) | (refine Con.arg_ext cr1 ?_;simp only [brL,wkL,wk,wkP,beq_self_eq_true,Bool.and_self,if_true,ikEq,List.append_nil,List.cons_append,List.nil_append,All];refine ⟨trivial,rfl,fun i hi=>?_,trivial⟩;by_cases h:i<(hlC p).1<;>simp [h,cellP,tg,tru,alC,aC]))
theorem con_PinnedRank_s (p:T_Pinned) (hs:smS s_Pinned p):zE 152 [pinA p] [] (.p (.int .i64 (prG p))):=by
  have c1:=con_IsPinned_s p hs
  cases hp:pinnedF p with
  | false =>
    rw [hp] at c1
    rw [show prG p = -1 by simp [prG,hp]]
    refine csZ Tryz.func152 (fun c hc=>?_)
    refine pkZ Tryz.func152 hc (hQn p) ?_
    and_intros
    all_goals (first | exact zN | (exact c1) | (simp;done))
  | true =>
    rw [hp] at c1
    have ok:=pin_ok hp
    have hN:=ok.N;have hm:=ok.m;have hnb:=ok.nb;have hnS:=ok.nS;have haS:=alS_n p
    have ch:=con_l20Held p (by omega) (by omega)
    have ca:=con_l20All p (by omega) (by omega) (by omega)
    have cr1:=con_l6Rank ok.okAS (by omega) (by omega)
    have cr0:=con_l6Rank ok.okHS (by omega) (by omega)
    have hNz:((p.1.1.toNat:Nat):Int)=p.1.1:=by omega
    rw [grG,hNz] at cr1 cr0
    have hb1:rkN p.1.1.toNat (alS p)≤24:=by
      have:=accI_le p.1.1.toNat 2 3 (alS p).2 (alS p).1
      unfold rkN;omega
    have hb0:rkN p.1.1.toNat (hlS p)≤24:=by
      have:=accI_le p.1.1.toNat 2 3 (hlS p).2 (hlS p).1
      unfold rkN;omega
    rw [show prG p=(rkN p.1.1.toNat (alS p):Int) - (rkN p.1.1.toNat (hlS p):Int) by simp [prG,hp]]
    rw [show hS p.2.1.2 (p.2.1.1 - 1)=hlS p from rfl] at ch
    refine csZ Tryz.func152 (fun c hc=>?_)
    refine pkZ Tryz.func152 hc (hQy p (alS p).1 (hlS p).1 (alS p).2 (hlS p).2 (rkN p.1.1.toNat (alS p)) (rkN p.1.1.toNat (hlS p))) ?_
    and_intros
    all_goals (first | exact zN | (exact c1) | (exact ch) | (exact ca) | (exact cr0) | (exact cr1))
def SNs (p:T_Pinned) (v n:Nat) (h:Nat→Int):St :=
  ⟨[pinA p,.pt 3 0 0 0,.p .any,.ar 1 1 0 n,.p (.int .i64 v)]++List.replicate 22 anyA,[(0,boxP p),(1,iOb n h)],2⟩
def SNi (p:T_Pinned) (v n:Nat) (h:Nat→Int):St :=
  ⟨[pinA p,.pt 3 0 0 0,.p .any,.ar 1 1 0 n]++List.replicate 8 anyA++[.p (.int .i64 p.1.1),.p (.int .i64 v)]++List.replicate 13 anyA,[(0,boxP p),(1,iOb n h)],2⟩
def snI (n:Nat) (h:Nat→Int) (x:Int) (s:Nat):Int:=if s<n then h s else x
theorem nSz (p:T_Pinned) :
    zT Tryz.f155 [rg 2,rg 2,rg 1,.head] [pinA p] [0,64] (SNs p 0 0 (fun _=>0)) =
    some (zf55,zD [(AI p.1.1),(AN p.1.2.1.1),(AP p.1.2.1.1 (fun i=>[.int .i64 ((p.1.2.1.2 i).1),.int .i64 ((p.1.2.1.2 i).2.1)])),(AN p.2.1.1),(AP p.2.1.1 (fun i=>[.int .i64 (p.2.1.2 i)])),(AN 0),((0:Int)=(↑0:Int)),((([AV.p (PV.int IntKind.i64 p.1.1),graphL p.1.2.1,inL p.2.1].length):Nat)=3),(NL 1 1),(AN 1),(NL 0 0),(AA 0 (fun i=>[.p (.int .i64 0)]))] [0,1,2,3,4,5,5,5,6,7,8,8,0,1,2,3,4,9,10,11]):=by kernel_rfl
theorem nSa (p:T_Pinned) (v n:Nat) (h:Nat→Int) (b:Bool) :
    zM 0 [rm [(7,oc [] (.p (.bool b)))] 1,.dec true,rm [(3,oc [] (.p (.bool false)))] 1,.dec true,rg 5,rg 3,.head] zf55 (SNs p v n h) [0,546] 1 (SNs p (v+1) (n+1) (snI n h v)) =
    some (zf55,zD [(NT 0 1),(((decide ((↑v:Int)<p.1.1))=true)→(NT 0 1)),(AG (decide ((↑v:Int)<p.1.1))),(((decide ((↑v:Int)<p.1.1))=true)→ zE 77 [(zf20 p)] [] (.p (.bool b))),((bif decide ((↑v:Int)<p.1.1) then b else false)=true),zE 92 [.p (.seq true 1 p.2.1.1 (fun i=>[.int .i64 (p.2.1.2 i)])),.p (.int .i64 (↑v:Int))] [] (.p (.bool false)),((!false)=true),(NL 1 1),(NL n n),(NL ((n+1)*8) 140737488355328),(NL (n+1) 9223372036854775807),(ZLo ((↑v:Int)+1)),(ZHi ((↑v:Int)+1)),(AI p.1.1),(AN p.1.2.1.1),(AP p.1.2.1.1 (fun i=>[.int .i64 ((p.1.2.1.2 i).1),.int .i64 ((p.1.2.1.2 i).2.1)])),(AN p.2.1.1),(AP p.2.1.1 (fun i=>[.int .i64 (p.2.1.2 i)])),(AN 0),(AN ((n+1))),((((↑v:Int)+1):Int)=(↑(v+1):Int)),(AN 3),(AN 1),(NL (n+1) (n+1)),(CV [(546,⟨false,1,(n+1),(fun i_1=>(if (i_1<n) then [.p (.int .i64 (h i_1))] else [.p (.int .i64 (↑v:Int))]))⟩),(514,⟨false,1,1,(fun i_1=>[.p (.int .i64 (↑v:Int))])⟩),(0,⟨true,3,1,(fun i_1=>[.p (.int .i64 p.1.1),.p (.seq true 2 p.1.2.1.1 (fun i_2=>[.int .i64 ((p.1.2.1.2 i_2).1),.int .i64 ((p.1.2.1.2 i_2).2.1)])),.p (.seq true 1 p.2.1.1 (fun i_2=>[.int .i64 (p.2.1.2 i_2)]))])⟩)] [0,546] 1 (n+1) (fun i=>if (i<n) then [.p (.int .i64 (h i))] else [.p (.int .i64 (↑v:Int))]) (fun i=>[.p (.int .i64 (snI n h (↑v:Int) i))]))] [0,1,2,3,2,4,0,5,6,7,8,9,10,11,12,13,14,15,16,17,18,18,19,20,21,7,7,13,14,15,16,17,22,23,24]):=by kernel_rfl
theorem nSb (p:T_Pinned) (v n:Nat) (h:Nat→Int) (b:Bool) :
    zM 0 [rm [(7,oc [] (.p (.bool b)))] 1,.dec true,rm [(3,oc [] (.p (.bool true)))] 1,.dec false,rg 3,.head] zf55 (SNs p v n h) [0,1] 1 (SNs p (v+1) n h) =
    some (zf55,zD [(NT 0 1),(((decide ((↑v:Int)<p.1.1))=true)→(NT 0 1)),(AG (decide ((↑v:Int)<p.1.1))),(((decide ((↑v:Int)<p.1.1))=true)→ zE 77 [(zf20 p)] [] (.p (.bool b))),((bif decide ((↑v:Int)<p.1.1) then b else false)=true),zE 92 [.p (.seq true 1 p.2.1.1 (fun i=>[.int .i64 (p.2.1.2 i)])),.p (.int .i64 (↑v:Int))] [] (.p (.bool true)),((!true)=false),(ZLo ((↑v:Int)+1)),(ZHi ((↑v:Int)+1)),(AI p.1.1),(AN p.1.2.1.1),(AP p.1.2.1.1 (fun i=>[.int .i64 ((p.1.2.1.2 i).1),.int .i64 ((p.1.2.1.2 i).2.1)])),(AN p.2.1.1),(AP p.2.1.1 (fun i=>[.int .i64 (p.2.1.2 i)])),(AN 0),(AN n),((((↑v:Int)+1):Int)=(↑(v+1):Int)),(AN 3),(NL 1 1),(AN 1),(NL n n),(AA n (fun i=>[.p (.int .i64 (h i))]))] [0,1,2,3,2,4,0,5,6,7,8,9,10,11,12,13,14,14,15,16,17,18,18,9,10,11,12,13,19,20,21]):=by kernel_rfl
theorem nSe (p:T_Pinned) (v n:Nat) (h:Nat→Int) (b:Bool) :
    zP Tryz.f155 0 [rm [(7,oc [] (.p (.bool b)))] 1,.dec false,rg 2] zf55 (SNs p v n h) [1] 1 [(0,iOb n h)] (.ar 1 0 0 n) =
    some [(NT 0 1),(((decide ((↑v:Int)<p.1.1))=true)→(NT 0 1)),(AG (decide ((↑v:Int)<p.1.1))),(((decide ((↑v:Int)<p.1.1))=true)→ zE 77 [(zf20 p)] [] (.p (.bool b))),(AG (decide ((↑v:Int)<p.1.1))),((bif decide ((↑v:Int)<p.1.1) then b else false)=false),(AN 0),(AN n),(AN 1),(NL n n),(AA n (fun i=>[.p (.int .i64 (h i))])),(AE n)]:=by kernel_rfl
theorem nIn (p:T_Pinned) :
    zS Tryz.f154 [rg 2,rg 2,rm [(1,oc [] (.p (.bool false)))] 1,.dec true,rg 2] [pinA p] [64] [(0,iOb 0 (fun _=>0))] (.ar 1 0 0 0) =
    some [(NT 0 1),zE 73 [(zf20 p)] [] (.p (.bool false)),((!false)=true),(AN 0),(AN 0),(AN 1),(NL 0 0),(AA 0 (fun i=>[.p (.int .i64 0)])),(AE 0)]:=by kernel_rfl
theorem nIz (p:T_Pinned) :
    zT Tryz.f154 [rg 2,rg 2,rm [(1,oc [] (.p (.bool true)))] 1,.dec false,rg 4,.head] [pinA p] [0,64] (SNi p 0 0 (fun _=>0)) =
    some (zf36,zD [(NT 0 1),zE 73 [(zf20 p)] [] (.p (.bool true)),((!true)=false),(AI p.1.1),(AN p.1.2.1.1),(AP p.1.2.1.1 (fun i=>[.int .i64 ((p.1.2.1.2 i).1),.int .i64 ((p.1.2.1.2 i).2.1)])),(AN p.2.1.1),(AP p.2.1.1 (fun i=>[.int .i64 (p.2.1.2 i)])),(AN 0),((0:Int)=(↑0:Int)),((([AV.p (PV.int IntKind.i64 p.1.1),graphL p.1.2.1,inL p.2.1].length):Nat)=3),(NL 1 1),(AN 1),(NL 0 0),(AA 0 (fun i=>[.p (.int .i64 0)]))] [0,1,2,0,3,4,5,6,7,8,8,8,3,9,10,11,11,3,4,5,6,7,12,13,14]):=by kernel_rfl
theorem nIa (p:T_Pinned) (v n:Nat) (h:Nat→Int) :
    zM 0 [rg 1,.dec true,rg 2,rm [(3,oc [] (.p (.bool false)))] 1,.dec true,rg 5,rg 2,.head] zf36 (SNi p v n h) [0,354] 1 (SNi p (v+1) (n+1) (snI n h v)) =
    some (zf36,zD [((decide ((↑v:Int)<p.1.1))=true),(NT 0 1),zE 144 [.p (.seq true 1 p.2.1.1 (fun i=>[.int .i64 (p.2.1.2 i)])),.p (.int .i64 (↑v:Int))] [] (.p (.bool false)),((!false)=true),(NL 1 1),(NL n n),(NL ((n+1)*8) 140737488355328),(NL (n+1) 9223372036854775807),(ZLo ((↑v:Int)+1)),(ZHi ((↑v:Int)+1)),(AI p.1.1),(AN p.1.2.1.1),(AP p.1.2.1.1 (fun i=>[.int .i64 ((p.1.2.1.2 i).1),.int .i64 ((p.1.2.1.2 i).2.1)])),(AN p.2.1.1),(AP p.2.1.1 (fun i=>[.int .i64 (p.2.1.2 i)])),(AN 0),(AN ((n+1))),((((↑v:Int)+1):Int)=(↑(v+1):Int)),(AN 3),(AN 1),(NL (n+1) (n+1)),(CV [(354,⟨false,1,(n+1),(fun i_1=>(if (i_1<n) then [.p (.int .i64 (h i_1))] else [.p (.int .i64 (↑v:Int))]))⟩),(322,⟨false,1,1,(fun i_1=>[.p (.int .i64 (↑v:Int))])⟩),(0,⟨true,3,1,(fun i_1=>[.p (.int .i64 p.1.1),.p (.seq true 2 p.1.2.1.1 (fun i_2=>[.int .i64 ((p.1.2.1.2 i_2).1),.int .i64 ((p.1.2.1.2 i_2).2.1)])),.p (.seq true 1 p.2.1.1 (fun i_2=>[.int .i64 (p.2.1.2 i_2)]))])⟩)] [0,354] 1 (n+1) (fun i=>if (i<n) then [.p (.int .i64 (h i))] else [.p (.int .i64 (↑v:Int))]) (fun i=>[.p (.int .i64 (snI n h (↑v:Int) i))]))] [0,1,2,3,4,5,6,7,8,9,10,11,12,13,14,15,15,16,10,17,18,4,4,10,11,12,13,14,19,20,21]):=by kernel_rfl
theorem nIb (p:T_Pinned) (v n:Nat) (h:Nat→Int) :
    zM 0 [rg 1,.dec true,rg 2,rm [(3,oc [] (.p (.bool true)))] 1,.dec false,rg 2,.head] zf36 (SNi p v n h) [0,1] 1 (SNi p (v+1) n h) =
    some (zf36,zD [((decide ((↑v:Int)<p.1.1))=true),(NT 0 1),zE 144 [.p (.seq true 1 p.2.1.1 (fun i=>[.int .i64 (p.2.1.2 i)])),.p (.int .i64 (↑v:Int))] [] (.p (.bool true)),((!true)=false),(ZLo ((↑v:Int)+1)),(ZHi ((↑v:Int)+1)),(AI p.1.1),(AN p.1.2.1.1),(AP p.1.2.1.1 (fun i=>[.int .i64 ((p.1.2.1.2 i).1),.int .i64 ((p.1.2.1.2 i).2.1)])),(AN p.2.1.1),(AP p.2.1.1 (fun i=>[.int .i64 (p.2.1.2 i)])),(AN 0),(AN n),((((↑v:Int)+1):Int)=(↑(v+1):Int)),(AN 3),(NL 1 1),(AN 1),(NL n n),(AA n (fun i=>[.p (.int .i64 (h i))]))] [0,1,2,3,4,5,6,7,8,9,10,11,11,12,6,13,14,15,15,6,7,8,9,10,16,17,18]):=by kernel_rfl
theorem nIe (p:T_Pinned) (v n:Nat) (h:Nat→Int) :
    zP Tryz.f154 0 [rg 1,.dec false,rg 2] zf36 (SNi p v n h) [1] 1 [(0,iOb n h)] (.ar 1 0 0 n) =
    some [((decide ((↑v:Int)<p.1.1))=false),(AN 0),(AN n),(AN 1),(NL n n),(AA n (fun i=>[.p (.int .i64 (h i))])),(AE n)]:=by kernel_rfl
theorem fFn (p:T_Pinned) :
    zS Tryz.f80 [rg 2,rm [(1,oc [] (.p (.bool false)))] 1,.dec true,rg 1] [pinA p] [] [] (.p (.int .i64 (-1))) =
    some [(NT 0 1),zE 73 [(zf20 p)] [] (.p (.bool false)),((!false)=true),(AI ((-1)))]:=by kernel_rfl
theorem fFy (p:T_Pinned) (n:Nat) (h:Nat→Int) (r:Int) :
    zS Tryz.f80 [rg 2,rm [(1,oc [] (.p (.bool true)))] 1,.dec false,rm [(1,oc [(0,iOb n h)] (.ar 1 0 0 n)),(3,oc [] (.p (.int .i64 r)))] 2] [pinA p] [] [] (.p (.int .i64 (2*(n:Int) - r))) =
    some [(NT 0 1),zE 73 [(zf20 p)] [] (.p (.bool true)),((!true)=false),(NT 0 1),zE 154 [(zf20 p)] [(0,⟨false,1,n,(fun i=>[.p (.int .i64 (h i))])⟩)] (.ar 1 0 0 n),(ZLo (2*(↑n:Int))),(ZHi (2*(↑n:Int))),(NT 0 1),zE 149 [(zf20 p)] [] (.p (.int .i64 r)),(ZLo (2*(↑n:Int) - r)),(ZHi (2*(↑n:Int) - r)),(AI ((2*(↑n:Int) - r)))]:=by kernel_rfl
theorem fGn (p:T_Pinned) :
    zS Tryz.f81 [rg 2,rm [(1,oc [] (.p (.bool false)))] 1,.dec true,rg 1] [pinA p] [] [] (.p (.int .i64 (-1))) =
    some [(NT 0 1),zE 77 [(zf20 p)] [] (.p (.bool false)),((!false)=true),(AI ((-1)))]:=by kernel_rfl
theorem fGy (p:T_Pinned) (n:Nat) (h:Nat→Int) (r:Int) :
    zS Tryz.f81 [rg 2,rm [(1,oc [] (.p (.bool true)))] 1,.dec false,rm [(1,oc [(0,iOb n h)] (.ar 1 0 0 n)),(3,oc [] (.p (.int .i64 r)))] 2] [pinA p] [] [] (.p (.int .i64 (2*(n:Int) - r))) =
    some [(NT 0 1),zE 77 [(zf20 p)] [] (.p (.bool true)),((!true)=false),(NT 0 1),zE 155 [(zf20 p)] [(0,⟨false,1,n,(fun i=>[.p (.int .i64 (h i))])⟩)] (.ar 1 0 0 n),(ZLo (2*(↑n:Int))),(ZHi (2*(↑n:Int))),(NT 0 1),zE 152 [(zf20 p)] [] (.p (.int .i64 r)),(ZLo (2*(↑n:Int) - r)),(ZHi (2*(↑n:Int) - r)),(AI ((2*(↑n:Int) - r)))]:=by kernel_rfl
theorem fRi (p:T_Pinned) (r:Int) :
    zS Tryz.f76 [rg 2,rm [(1,oc [] (.p (.int .i64 r)))] 2] [pinA p] [] [] (.p (.bool (r==0))) =
    some [(NT 0 1),zE 80 [(zf20 p)] [] (.p (.int .i64 r)),((r==0)=(r==0))]:=by kernel_rfl
theorem fRs (p:T_Pinned) (r:Int) :
    zS Tryz.f37 [rg 2,rm [(1,oc [] (.p (.int .i64 r)))] 2] [pinA p] [] [] (.p (.bool (r==0))) =
    some [(NT 0 1),zE 81 [(zf20 p)] [] (.p (.int .i64 r)),((r==0)=(r==0))]:=by kernel_rfl
theorem fIi (p:T_Pinned) (l:T_BarS) (q:T_Pinned) (b1 b2:Bool) :
    zS Tryz.f13 [rg 2,rm [(2,oc [(0,brOb q.1.2.1.1 q.1.2.1.2),(1,iOb q.2.1.1 q.2.1.2)] (zf88 q b1))] 6,rm [(3,oc [] (.p (.bool b2)))] 2] [pinA p,graphL l] [] [] (.p (.bool (bif b1 then b2 else false))) =
    some [(NT 0 1),zE 18 [(zf20 p),.p (.seq true 2 l.1 (fun i=>[.int .i64 ((l.2 i).1),.int .i64 ((l.2 i).2.1)]))] (zf24 q) ((zf88 q b1)),(NT 0 1),((true=true)→ (AN 1)),((b1=true)→(NT 0 1)),(AG b1),((b1=true)→ (AN 2)),((b1=true)→(NL q.1.2.1.1 q.1.2.1.1)),((b1=true)→ (AN 1)),((b1=true)→(NL q.2.1.1 q.2.1.1)),((b1=true)→ zE 76 [(zf20 q)] [] (.p (.bool b2))),(AG b1),((bif b1 then b2 else false)=(bif b1 then b2 else false))]:=by kernel_rfl
theorem fIsR (p:T_Pinned) (l:T_BarS) (q:T_Pinned) (b1 b2:Bool) :
    zS Tryz.f16 [rg 2,rm [(2,oc [(0,brOb q.1.2.1.1 q.1.2.1.2),(1,iOb q.2.1.1 q.2.1.2)] (zf88 q b1))] 6,rm [(3,oc [] (.p (.bool b2)))] 2] [pinA p,graphL l] [] [] (.p (.bool (bif b1 then b2 else false))) =
    some [(NT 0 1),zE 19 [(zf20 p),.p (.seq true 2 l.1 (fun i=>[.int .i64 ((l.2 i).1),.int .i64 ((l.2 i).2.1)]))] (zf24 q) ((zf88 q b1)),(NT 0 1),((true=true)→ (AN 1)),((b1=true)→(NT 0 1)),(AG b1),((b1=true)→ (AN 2)),((b1=true)→(NL q.1.2.1.1 q.1.2.1.1)),((b1=true)→ (AN 1)),((b1=true)→(NL q.2.1.1 q.2.1.1)),((b1=true)→ zE 37 [(zf20 q)] [] (.p (.bool b2))),(AG b1),((bif b1 then b2 else false)=(bif b1 then b2 else false))]:=by kernel_rfl
abbrev NI:=Nat×(Nat→Int)
def zNI:NI:=(0,fun _=>0)
def snN (r:NI) (x:Int):NI:=(r.1+1,snI r.1 r.2 x)
def inrD (p:T_Pinned):Nat→NI
  | 0=>zNI
  | v+1=>if hasI p.2.1.2 v p.2.1.1=true then inrD p v else snN (inrD p v) v
def inrP (p:T_Pinned):NI:=if pinnedF p=true then inrD p p.1.1.toNat else zNI
theorem inrD_n (p:T_Pinned):∀ v,(inrD p v).1≤v
  | 0=>Nat.le_refl _
  | v+1=>by
    have:=inrD_n p v
    simp only [inrD]
    split
    · omega
    · simp only [snN];omega
theorem inrP_n (p:T_Pinned):(inrP p).1≤8:=by
  unfold inrP
  split
  · rename_i h
    have:=(pin_ok h).N
    have:=inrD_n p p.1.1.toNat
    omega
  · exact Nat.zero_le _
theorem con_InnerPoints_s (p:T_Pinned) (hs:smS s_Pinned p):zE 155 [pinA p] [(0,iOb (inrP p).1 (inrP p).2)] (.ar 1 0 0 (inrP p).1):=by
  have hg:p.2.1.1≤1048576:=hs.2.1.1
  have c1:=con_IsPinned_s p hs
  refine csZ Tryz.func155 (fun c hc=>?_)
  cases hp:pinnedF p with
  | false =>
    rw [hp] at c1
    rw [show inrP p=zNI by simp [inrP,hp]]
    have hd:(bif decide (((0:Nat):Int)<p.1.1) then false else false)=false:=by cases decide (((0:Nat):Int)<p.1.1)<;>rfl
    have he:zR c 155 zf55 (SNs p 0 0 (fun _=>0)) (Post c [(0,iOb zNI.1 zNI.2)] (.ar 1 0 0 zNI.1)):=by
      refine pkZ Tryz.func155 hc (nSe p 0 0 (fun _=>0) false) ?_
      and_intros
      all_goals (first | exact zI | (intros;exact c1) | (exact hd) | (intro t ht;exact absurd ht (Nat.not_lt_zero _)) | (intro t ht;simp [All]))
    refine pcD hc (nSz p) ?_ he
    and_intros
    all_goals (first | exact zN | (intro t ht;exact absurd ht (Nat.not_lt_zero _)) | (intro t ht;simp [All]))
  | true =>
    have ok:=pin_ok hp
    have hN:=ok.N
    rw [hp] at c1
    rw [show inrP p=inrD p p.1.1.toNat by simp [inrP,hp]]
    generalize hR:inrD p p.1.1.toNat=R
    have lo:∀ d v,v+d=p.1.1.toNat→zR c 155 zf55 (SNs p v (inrD p v).1 (inrD p v).2) (Post c [(0,iOb R.1 R.2)] (.ar 1 0 0 R.1)):=by
      intro d
      induction d with
      | zero =>
        intro v hv
        obtain rfl:v=p.1.1.toNat:=by omega
        have hd:(bif decide (((p.1.1.toNat:Nat):Int)<p.1.1) then true else false)=false:=by
          rw [show decide (((p.1.1.toNat:Nat):Int)<p.1.1)=false from decide_eq_false (by omega)];rfl
        rw [hR]
        refine pkZ Tryz.func155 hc (nSe p p.1.1.toNat R.1 R.2 true) ?_
        and_intros
        all_goals (first | exact zI | (exact hd) | (intros;exact c1) | (intro t ht;simp [All]))
      | succ d ih =>
        intro v hv
        have hrec:=ih (v+1) (by omega)
        have hd:(bif decide ((v:Int)<p.1.1) then true else false)=true:=by
          rw [show decide ((v:Int)<p.1.1)=true from decide_eq_true (by omega)];rfl
        have ch:=con_l2Has p.2.1 v hg
        have hn:=inrD_n p v
        by_cases hh:hasI p.2.1.2 v p.2.1.1=true
        · rw [hh] at ch
          rw [show inrD p (v+1)=inrD p v by simp only [inrD,hh,if_true]] at hrec
          generalize inrD p v=q at hn hrec ⊢
          refine pcD hc (nSb p v q.1 q.2 true) ?_ hrec
          and_intros
          all_goals (first | exact zI | (exact hd) | (intros;exact c1) | (exact ch) | (intro t ht;simp [All]))
        · rw [Bool.not_eq_true] at hh
          rw [hh] at ch
          rw [show inrD p (v+1)=snN (inrD p v) v by simp [inrD,hh]] at hrec
          generalize inrD p v=q at hn hrec ⊢
          refine pcD hc (nSa p v q.1 q.2 true) ?_ hrec
          and_intros
          all_goals (first | exact zI | (exact hd) | (intros;exact c1) | (exact ch) | (intro t ht;by_cases h':t<q.1<;>simp [h',snI,cvtL,cvt,tg,tru,All]))
    refine pcD hc (nSz p) ?_ (lo p.1.1.toNat 0 (by omega))
    and_intros
    all_goals (first | exact zN | (intro t ht;exact absurd ht (Nat.not_lt_zero _)) | (intro t ht;simp [All]))
theorem con_InnerPoints_i (p:T_Pinned) (hs:smS s_Pinned p):zE 154 [pinA p] [(0,iOb (inrP p).1 (inrP p).2)] (.ar 1 0 0 (inrP p).1):=by
  have hg:p.2.1.1≤1048576:=hs.2.1.1
  have c1:=con_IsPinned_i p hs
  refine csZ Tryz.func154 (fun c hc=>?_)
  cases hp:pinnedF p with
  | false =>
    rw [hp] at c1
    rw [show inrP p=zNI by simp [inrP,hp]]
    refine pkZ Tryz.func154 hc (nIn p) ?_
    and_intros
    all_goals (first | exact zN | (exact c1) | (intro t ht;exact absurd ht (Nat.not_lt_zero _)) | (intro t ht;simp [All]))
  | true =>
    have ok:=pin_ok hp
    have hN:=ok.N
    rw [hp] at c1
    rw [show inrP p=inrD p p.1.1.toNat by simp [inrP,hp]]
    generalize hR:inrD p p.1.1.toNat=R
    have lo:∀ d v,v+d=p.1.1.toNat→zR c 154 zf36 (SNi p v (inrD p v).1 (inrD p v).2) (Post c [(0,iOb R.1 R.2)] (.ar 1 0 0 R.1)):=by
      intro d
      induction d with
      | zero =>
        intro v hv
        obtain rfl:v=p.1.1.toNat:=by omega
        have hd:decide (((p.1.1.toNat:Nat):Int)<p.1.1)=false:=decide_eq_false (by omega)
        rw [hR]
        refine pkZ Tryz.func154 hc (nIe p p.1.1.toNat R.1 R.2) ?_
        and_intros
        all_goals (first | exact zN | (exact hd) | (intro t ht;simp [All]))
      | succ d ih =>
        intro v hv
        have hrec:=ih (v+1) (by omega)
        have hd:decide ((v:Int)<p.1.1)=true:=decide_eq_true (by omega)
        have ch:=con_Contains p.2.1 v hg
        have hn:=inrD_n p v
        by_cases hh:hasI p.2.1.2 v p.2.1.1=true
        · rw [hh] at ch
          rw [show inrD p (v+1)=inrD p v by simp only [inrD,hh,if_true]] at hrec
          generalize inrD p v=q at hn hrec ⊢
          refine pcD hc (nIb p v q.1 q.2) ?_ hrec
          and_intros
          all_goals (first | exact zN | (exact hd) | (exact ch) | (intro t ht;simp [All]))
        · rw [Bool.not_eq_true] at hh
          rw [hh] at ch
          rw [show inrD p (v+1)=snN (inrD p v) v by simp [inrD,hh]] at hrec
          generalize inrD p v=q at hn hrec ⊢
          refine pcD hc (nIa p v q.1 q.2) ?_ hrec
          and_intros
          all_goals (first | exact zN | (exact hd) | (exact ch) | (intro t ht;by_cases h':t<q.1<;>simp [h',snI,cvtL,cvt,tg,tru,All]))
    refine pcD hc (nIz p) ?_ (lo p.1.1.toNat 0 (by omega))
    and_intros
    all_goals (first | exact zN | (exact c1) | (intro t ht;exact absurd ht (Nat.not_lt_zero _)) | (intro t ht;simp [All]))
noncomputable def frG (p:T_Pinned):Int:=if pinnedF p=true then 2*((inrP p).1:Int) - prG p else -1
theorem prG_in (p:T_Pinned):-24≤prG p∧prG p≤24:=by
  unfold prG
  split
  · rename_i h
    have ok:=pin_ok h
    have h1:=accI_le p.1.1.toNat 2 3 (alS p).2 (alS p).1
    have h2:=accI_le p.1.1.toNat 2 3 (hlS p).2 (hlS p).1
    have:=alS_n p;have:=ok.nS
    unfold rkN;omega
  · omega
theorem con_PinnedFreedom_i (p:T_Pinned) (hs:smS s_Pinned p):zE 80 [pinA p] [] (.p (.int .i64 (frG p))):=by
  have c1:=con_IsPinned_i p hs
  have c2:=con_InnerPoints_i p hs
  have c3:=con_PinnedRank_i p hs
  have hn:=inrP_n p
  have hr:=prG_in p
  refine csZ Tryz.func80 (fun c hc=>?_)
  cases hp:pinnedF p with
  | false =>
    rw [hp] at c1
    rw [show frG p = -1 by simp [frG,hp]]
    refine pkZ Tryz.func80 hc (fFn p) ?_
    and_intros
    all_goals (first | exact zN | (exact c1) | (simp;done))
  | true =>
    rw [hp] at c1
    rw [show frG p=2*((inrP p).1:Int) - prG p by simp [frG,hp]]
    refine pkZ Tryz.func80 hc (fFy p (inrP p).1 (inrP p).2 (prG p)) ?_
    and_intros
    all_goals (first | exact zN | (exact c1) | (exact c2) | (exact c3))
theorem con_PinnedFreedom_s (p:T_Pinned) (hs:smS s_Pinned p):zE 81 [pinA p] [] (.p (.int .i64 (frG p))):=by
  have c1:=con_IsPinned_s p hs
  have c2:=con_InnerPoints_s p hs
  have c3:=con_PinnedRank_s p hs
  have hn:=inrP_n p
  have hr:=prG_in p
  refine csZ Tryz.func81 (fun c hc=>?_)
  cases hp:pinnedF p with
  | false =>
    rw [hp] at c1
    rw [show frG p = -1 by simp [frG,hp]]
    refine pkZ Tryz.func81 hc (fGn p) ?_
    and_intros
    all_goals (first | exact zN | (exact c1) | (simp;done))
  | true =>
    rw [hp] at c1
    rw [show frG p=2*((inrP p).1:Int) - prG p by simp [frG,hp]]
    refine pkZ Tryz.func81 hc (fGy p (inrP p).1 (inrP p).2 (prG p)) ?_
    and_intros
    all_goals (first | exact zN | (exact c1) | (exact c2) | (exact c3))
noncomputable def rgB (p:T_Pinned):Bool:=frG p==0
theorem con_IsPinnedRigid_i (p:T_Pinned) (hs:smS s_Pinned p):zE 76 [pinA p] [] (.p (.bool (rgB p))):=by
  have c1:=con_PinnedFreedom_i p hs
  refine csZ Tryz.func76 (fun c hc=>?_)
  refine pkZ Tryz.func76 hc (fRi p (frG p)) ?_
  and_intros
  all_goals (first | exact zN | (exact c1))
theorem con_IsPinnedRigid_s (p:T_Pinned) (hs:smS s_Pinned p):zE 37 [pinA p] [] (.p (.bool (rgB p))):=by
  have c1:=con_PinnedFreedom_s p hs
  refine csZ Tryz.func37 (fun c hc=>?_)
  refine pkZ Tryz.func37 hc (fRs p (frG p)) ?_
  and_intros
  all_goals (first | exact zN | (exact c1))
noncomputable def irB (p:T_Pinned) (l:T_BarS):Bool:=bif arB p l then rgB (arP p l) else false
theorem sm_arP (p:T_Pinned) (l:T_BarS):smS s_Pinned (arP p l):=sm_pin (by have:=arP_le p l;omega) (by have:=arP_le p l;omega)
theorem con_IsRepair_i (p:T_Pinned) (hs:smS s_Pinned p) (l:T_BarS) (hl:l.1≤1048576):zE 13 [pinA p,graphL l] [] (.p (.bool (irB p l))):=by
  have c1:=con_ApplyRepair_i p hs l hl
  have c2:=con_IsPinnedRigid_i (arP p l) (sm_arP p l)
  refine csZ Tryz.func13 (fun c hc=>?_)
  refine pkZ Tryz.func13 hc (fIi p l (arP p l) (arB p l) (rgB (arP p l))) ?_
  and_intros
  all_goals (first | exact zI | (exact c1) | (intro _;exact c2))
theorem con_IsRepair_s (p:T_Pinned) (hs:smS s_Pinned p) (l:T_BarS) (hl:l.1≤1048576):zE 16 [pinA p,graphL l] [] (.p (.bool (irB p l))):=by
  have c1:=con_ApplyRepair_s p hs l hl
  have c2:=con_IsPinnedRigid_s (arP p l) (sm_arP p l)
  refine csZ Tryz.func16 (fun c hc=>?_)
  refine pkZ Tryz.func16 hc (fIsR p l (arP p l) (arB p l) (rgB (arP p l))) ?_
  and_intros
  all_goals (first | exact zI | (exact c1) | (intro _;exact c2))
open Go
def z2:Ob:=⟨true,2,1,fun _=>[.p (.int .i64 0),.p .nil]⟩
def gbx (n:Int) (j c:Nat):Ob:=⟨true,2,1,fun _=>[.p (.int .i64 n),.ar 2 j 0 c]⟩
def gaI (n:Int) (c:Nat) (h:Nat→T_Bar):AV:=.agg [.p (.int .i64 n),brL h c]
def zB:T_BarS:=(0,fun _=>(0,0,()))
def obF (S:T_IntS) (A:Nat→T_Bar):Nat→Nat→T_BarS→T_BarS
  | _,0,x=>x
  | i,d+1,x=>obF S A (i+1) d (bif hasI S.2 i S.1 then (x.1+1,snoc x.1 x.2 (A i)) else x)
def OBs (n:Int) (M:Nat) (A:Nat→T_Bar) (S:T_IntS) (i c:Nat) (h:Nat→T_Bar):St:=⟨[.p .any,inL S,.pt 2 0 0 0,.p .any,.pt 2 1 0 0,.pt 2 2 0 0,.p (.int .i64 i)]++List.replicate 25 anyA,[(0,⟨true,2,1,fun _=>[.p (.int .i64 n),brL A M]⟩),(1,z2),(2,gbx n 3 c),(3,brOb c h)],4⟩
theorem obz (n:Int) (M:Nat) (A:Nat→T_Bar) (S:T_IntS) :
    zT Tryz.f93 [rg 2,rg 6,rg 1,.head] [gaI n M A,inL S] [0,32,192,128] (OBs n M A S 0 0 (fun _=>(0,0,()))) =
    some (zf62,zD [(NT 0 1),((true=true)→ (AN 1)),(AN S.1),(AP S.1 (iRw S)),(AN 0),((0:Int)=(↑0:Int)),((([AV.p (PV.int IntKind.i64 n),brL A M].length):Nat)=2),(NL 1 1),(AI n),(AN M),(AP M (bRw A)),((((List.map (fun v=>AV.p (absV v)) [Value.int IntKind.i64 0,Value.slice none 0 0]).length):Nat)=2),(AI 0),(AN 2),(NL 0 0),(AA 0 (fun i=>[.p (.int .i64 0),.p (.int .i64 0)]))] [0,0,1,2,3,4,4,4,5,6,7,7,8,9,10,11,7,7,12,11,7,7,8,4,4,13,14,15]):=by kernel_rfl
theorem obt (n:Int) (M:Nat) (A:Nat→T_Bar) (S:T_IntS) (i c:Nat) (h:Nat→T_Bar) :
    zM 0 [rg 5,.dec true,rm [(2,oc [] (.p (.bool true)))] 0,.dec true,rg 11,rg 3,.head] zf62 (OBs n M A S i c h) [0,1,2,516] 1 (OBs n M A S (i+1) (c+1) (snoc c h (A i))) =
    some (zf62,zD [(NT 0 1),((decide ((↑i:Int)<(↑M:Int)))=true),zE 92 [.p (.seq true 1 S.1 (iRw S)),.p (.int .i64 (↑i:Int))] [] (.p (.bool true)),(true=true),(IL 0 (↑i:Int)),(IT (↑i:Int) (↑M:Int)),(NL 1 1),(NL c c),(NL ((c+1)*16) 140737488355328),(NL (c+1) 9223372036854775807),((true=true)→ (AN 1)),(ZLo ((↑i:Int)+1)),(ZHi ((↑i:Int)+1)),(AN S.1),(AP S.1 (iRw S)),(AN 0),((((↑i:Int)+1):Int)=(↑(i+1):Int)),(AN 2),(AI n),(AN M),(AP M (bRw A)),(AI 0),(AN ((c+1))),(NL (c+1) (c+1)),(CV [(2,⟨true,2,1,(fun i_2=>[.p (.int .i64 n),.ar 2 516 0 (c+1)])⟩),(516,⟨false,2,(c+1),(fun i_2=>(if (i_2<c) then [.p (.int .i64 ((h i_2).1)),.p (.int .i64 ((h i_2).2.1))] else [.p (.int .i64 ((A i).1)),.p (.int .i64 ((A i).2.1))]))⟩),(484,⟨false,2,1,(fun i_2=>[.p (.int .i64 ((A i).1)),.p (.int .i64 ((A i).2.1))])⟩),(0,⟨true,2,1,(fun i_2=>[.p (.int .i64 n),.p (.seq true 2 M (bRw A))])⟩),(1,⟨true,2,1,(fun i_2=>[.p (.int .i64 0),.p (.nil)])⟩)] [0,1,2,516] 1 (c+1) (fun i_1=>if (i_1<c) then [.p (.int .i64 ((h i_1).1)),.p (.int .i64 ((h i_1).2.1))] else [.p (.int .i64 ((A i).1)),.p (.int .i64 ((A i).2.1))]) (fun i_1=>[.p (.int .i64 (if i_1<c then (h i_1).1 else (A i).1)),.p (.int .i64 (if i_1<c then (h i_1).2.1 else (A i).2.1))]))] [0,1,2,3,0,0,4,5,6,7,8,9,0,10,11,12,13,14,15,15,15,16,17,6,6,18,19,20,17,6,6,21,17,6,6,18,15,22,17,23,24]):=by kernel_rfl
theorem obf (n:Int) (M:Nat) (A:Nat→T_Bar) (S:T_IntS) (i c:Nat) (h:Nat→T_Bar) :
    zM 0 [rg 5,.dec true,rm [(2,oc [] (.p (.bool false)))] 0,.dec false,rg 3,.head] zf62 (OBs n M A S i c h) [0,1,2,3] 1 (OBs n M A S (i+1) c h) =
    some (zf62,zD [(NT 0 1),((decide ((↑i:Int)<(↑M:Int)))=true),zE 92 [.p (.seq true 1 S.1 (iRw S)),.p (.int .i64 (↑i:Int))] [] (.p (.bool false)),(false=false),(ZLo ((↑i:Int)+1)),(ZHi ((↑i:Int)+1)),(AN S.1),(AP S.1 (iRw S)),(AN 0),((((↑i:Int)+1):Int)=(↑(i+1):Int)),(AN 2),(NL 1 1),(AI n),(AN M),(AP M (bRw A)),(AI 0),(AN c),(NL c c),(AA c (fun i_1=>[.p (.int .i64 ((h i_1).1)),.p (.int .i64 ((h i_1).2.1))]))] [0,1,2,3,4,5,6,7,8,8,8,9,10,11,11,12,13,14,10,11,11,15,10,11,11,12,8,16,10,17,18]):=by kernel_rfl
theorem obe (n:Int) (M:Nat) (A:Nat→T_Bar) (S:T_IntS) (i c:Nat) (h:Nat→T_Bar) :
    zP Tryz.f93 0 [rg 5,.dec false,rg 2] zf62 (OBs n M A S i c h) [3] 1 [(0,brOb c h)] (.agg [.p (.int .i64 n),.ar 2 0 0 c]) =
    some [(NT 0 1),((decide ((↑i:Int)<(↑M:Int)))=false),(NT 0 1),(NT 0 1),((true=true)→ (AN 1)),(NT 0 1),(AI n),(AN 0),(AN c),(AN 2),(NL c c),(AA c (fun i_1=>[.p (.int .i64 ((h i_1).1)),.p (.int .i64 ((h i_1).2.1))])),(AE c)]:=by kernel_rfl
theorem con_OnlyBars_s (n:Int) (M:Nat) (A:Nat→T_Bar) (S:T_IntS) (hM:M≤100) (hS:S.1≤1000) :
    zE 93 [gaI n M A,inL S] [(0,brOb (obF S A 0 M zB).1 (obF S A 0 M zB).2)] (.agg [.p (.int .i64 n),.ar 2 0 0 (obF S A 0 M zB).1]):=by
  refine csZ Tryz.func93 (fun c hc=>?_)
  generalize hR:obF S A 0 M zB=R
  have lp:∀ d i cc f,i+d=M→cc≤i→obF S A i d (cc,f)=R→zR c 93 zf62 (OBs n M A S i cc f) (Post c [(0,brOb R.1 R.2)] (.agg [.p (.int .i64 n),.ar 2 0 0 R.1])):=by
    intro d
    induction d with
    | zero =>
      intro i cc f hi hcc he
      have hd:decide ((i:Int)<(M:Int))=false:=by simp;omega
      rw [← he]
      refine pkZ Tryz.func93 hc (obe n M A S i cc f) ?_
      and_intros
      all_goals (first | exact zI | (exact hd) | (intro j hj;simp [All]))
    | succ d ih =>
      intro i cc f hi hcc he
      have hd:decide ((i:Int)<(M:Int))=true:=by simp;omega
      have hh:=con_l2Has S (i:Int) (by omega)
      rw [obF] at he
      cases hb:hasI S.2 i S.1 with
      | true =>
        rw [hb] at he hh
        refine pcD hc (obt n M A S i cc f) ?_ (ih (i+1) (cc+1) _ (by omega) (by omega) he)
        and_intros
        all_goals (first | exact zI | (exact hd) | (exact hh) | (intro j hj;by_cases h':j<cc<;>simp [h',snoc,cvtL,cvt,tg,tru,All]))
      | false =>
        rw [hb] at he hh
        refine pcD hc (obf n M A S i cc f) ?_ (ih (i+1) cc _ (by omega) (by omega) he)
        and_intros
        all_goals (first | exact zN | (exact hd) | (exact hh) | (intro j hj;simp [All]))
  refine pcD hc (obz n M A S) ?_ (lp M 0 0 _ (by omega) (by omega) hR)
  and_intros
  all_goals (first | exact zI | (simp;done) | (intro j hj;simp [All]))
def flt (p:Nat→Bool):Nat→T_IntS
  | 0=>(0,fun _=>0)
  | i+1=>if p i=true then ((flt p i).1+1,fun s=>if s<(flt p i).1 then (flt p i).2 s else i) else flt p i
theorem flt_n (p:Nat→Bool):∀ i,(flt p i).1≤i
  | 0=>Nat.le_refl _
  | i+1=>by
    have:=flt_n p i
    simp only [flt]
    split
    · show (flt p i).1+1≤i+1;omega
    · omega
theorem flt_t {p:Nat→Bool} {i:Nat} (h:p i=true):flt p (i+1)=((flt p i).1+1,fun s=>if s<(flt p i).1 then (flt p i).2 s else i):=by simp [flt,h]
theorem flt_f {p:Nat→Bool} {i:Nat} (h:p i=false):flt p (i+1)=flt p i:=by simp [flt,h]
theorem hasI_congr (f g:Nat→Int) (x:Int):∀ n,(∀ i,i<n→f i=g i)→hasI f x n=hasI g x n
  | 0,_=>rfl
  | n+1,h=>by simp only [hasI,hasI_congr f g x n (fun i hi=>h i (by omega)),h n (by omega)]
def SDs0 (p:T_Pinned) (b:T_IntS) (i:Nat):St :=
  ⟨[pinA p,inL b,.pt 3 0 0 0,.p .any,.pt 3 1 0 0,.p .any,.ar 1 2 0 0,.p (.int .i64 i)]++List.replicate 54 anyA,[(0,boxP p),(1,zP3),(2,iOb 0 (fun _=>0))],3⟩
def SDs1 (p:T_Pinned) (b:T_IntS) (e:Nat) (r:T_IntS):St :=
  ⟨[pinA p,inL b,.pt 3 0 0 0,.p .any,.pt 3 1 0 0,.p .any,.ar 1 2 0 r.1,.p .any,.p (.int .i64 e)]++List.replicate 53 anyA,[(0,boxP p),(1,zP3),(2,iOb r.1 r.2)],3⟩
def SDi0 (p:T_Pinned) (b:T_IntS) (i:Nat) (G:Nat→Bool):St :=
  ⟨[pinA p,inL b,.pt 3 0 0 0,.p .any,.pt 3 1 0 0,.p .any,.ar 1 2 0 p.1.2.1.1]++List.replicate 14 anyA++[inL b,.p (.int .i64 b.1),.p (.int .i64 i)]++List.replicate 46 anyA,[(0,boxP p),(1,zP3),(2,bOb p.1.2.1.1 G)],3⟩
def SDi1 (p:T_Pinned) (b:T_IntS) (e:Nat) (G:Nat→Bool) (c:Nat) (h:Nat→T_Bar):St :=
  ⟨[pinA p,inL b,.pt 3 0 0 0,.p .any,.pt 3 1 0 0,.p .any,.ar 1 2 0 p.1.2.1.1,.p .any,.p .any,.pt 3 3 0 0]++List.replicate 38 anyA++[graphL p.1.2.1,.p (.int .i64 p.1.2.1.1),.p (.int .i64 e)]++List.replicate 19 anyA,
   [(0,boxP p),(1,zP3),(2,bOb p.1.2.1.1 G),(3,⟨true,3,1,fun _=>[.p (.int .i64 p.1.1),.ar 2 5 0 c,.ar 1 4 0 p.2.1.1]⟩),(4,iOb p.2.1.1 p.2.1.2),(5,brOb c h)],6⟩
def upG (G:Nat→Bool) (x:Int) (i:Nat):Bool:=if i=x.toNat then true else G i
theorem dms0 (p:T_Pinned) (b:T_IntS) :
    zT Tryz.f22 [rg 3,rg 2,rg 1,.head] [pinA p,inL b] [0,32,96] (SDs0 p b 0) =
    some (zf63,zD [(AI p.1.1),(AN p.1.2.1.1),(AP p.1.2.1.1 (fun i=>[.int .i64 ((p.1.2.1.2 i).1),.int .i64 ((p.1.2.1.2 i).2.1)])),(AN p.2.1.1),(AP p.2.1.1 (fun i=>[.int .i64 (p.2.1.2 i)])),(AN b.1),(AP b.1 (iRw b)),(AN 0),((0:Int)=(↑0:Int)),((([AV.p (PV.int IntKind.i64 p.1.1),graphL p.1.2.1,inL p.2.1].length):Nat)=3),(NL 1 1),((((List.map (fun v=>AV.p (absV v)) [Value.int IntKind.i64 0,Value.slice none 0 0,Value.slice none 0 0]).length):Nat)=3),(AI 0),(AN 1),(NL 0 0),(AA 0 (fun i=>[.p (.int .i64 0)]))] [0,1,2,3,4,5,6,7,7,7,7,8,9,10,10,0,1,2,3,4,11,10,10,12,13,14,15]):=by kernel_rfl
theorem dms1 (p:T_Pinned) (b:T_IntS) (i:Nat) :
    zM 0 [rg 4,.dec true,rg 16,.dec false,rg 3,.head] zf63 (SDs0 p b i) [0,1,2] 1 (SDs0 p b (i+1)) =
    some (zf63,zD [((decide ((↑i:Int)<(↑b.1:Int)))=true),(IL 0 (↑i:Int)),(IT (↑i:Int) (↑b.1:Int)),(AG (!decide (b.2 (↑i:Int).toNat<0))),(((!decide (b.2 (↑i:Int).toNat<0))=true)→(IL 0 (↑i:Int))),(((!decide (b.2 (↑i:Int).toNat<0))=true)→(IT (↑i:Int) (↑b.1:Int))),(((!decide (b.2 (↑i:Int).toNat<0))=true)→(NT 0 1)),(((decide (b.2 (↑i:Int).toNat<0))=false)→ ((!decide (b.2 (↑i:Int).toNat<0))=true)),((bif decide (b.2 (↑i:Int).toNat<0) then true else decide (b.2 (↑i:Int).toNat≥(↑p.1.2.1.1:Int)))=false),(ZLo ((↑i:Int)+1)),(ZHi ((↑i:Int)+1)),(AI p.1.1),(AN p.1.2.1.1),(AP p.1.2.1.1 (fun i_1=>[.int .i64 ((p.1.2.1.2 i_1).1),.int .i64 ((p.1.2.1.2 i_1).2.1)])),(AN p.2.1.1),(AP p.2.1.1 (fun i_1=>[.int .i64 (p.2.1.2 i_1)])),(AN b.1),(AP b.1 (iRw b)),(AN 0),((((↑i:Int)+1):Int)=(↑(i+1):Int)),(AN 3),(NL 1 1),(AI 0),(AN 1),(NL 0 0),(AA 0 (fun i_1=>[.p (.int .i64 0)]))] [0,1,2,3,3,4,5,3,3,3,6,3,3,3,7,8,9,10,11,12,13,14,15,16,17,18,18,18,18,19,20,21,21,11,12,13,14,15,20,21,21,22,23,24,25]):=by kernel_rfl
theorem dms2 (p:T_Pinned) (b:T_IntS) (i:Nat) :
    zP Tryz.f22 0 [rg 4,.dec true,rg 16,.dec true,rg 3] zf63 (SDs0 p b i) [] 1 [(0,brOb 0 (fun _=>(0,0,()))),(1,iOb 0 (fun _=>0))] (zf93) =
    some (zD [((decide ((↑i:Int)<(↑b.1:Int)))=true),(IL 0 (↑i:Int)),(IT (↑i:Int) (↑b.1:Int)),(AG (!decide (b.2 (↑i:Int).toNat<0))),(((!decide (b.2 (↑i:Int).toNat<0))=true)→(IL 0 (↑i:Int))),(((!decide (b.2 (↑i:Int).toNat<0))=true)→(IT (↑i:Int) (↑b.1:Int))),(((!decide (b.2 (↑i:Int).toNat<0))=true)→(NT 0 1)),(((decide (b.2 (↑i:Int).toNat<0))=false)→ ((!decide (b.2 (↑i:Int).toNat<0))=true)),((bif decide (b.2 (↑i:Int).toNat<0) then true else decide (b.2 (↑i:Int).toNat≥(↑p.1.2.1.1:Int)))=true),(NT 0 1),((true=true)→ (AN 1)),(AI 0),(AN 0),(false=false),(AE 0)] [0,1,2,3,3,4,5,3,3,3,6,3,3,3,7,8,9,10,9,11,12,12,13,12,12,14,14]):=by kernel_rfl
theorem dms3 (p:T_Pinned) (b:T_IntS) :
    zM 0 [rg 4,.dec false,rg 1,.head] zf63 (SDs0 p b b.1) [0,1,2] 1 (SDs1 p b 0 (0,fun _=>0)) =
    some (zf41,zD [((decide ((↑b.1:Int)<(↑b.1:Int)))=false),(AI p.1.1),(AN p.1.2.1.1),(AP p.1.2.1.1 (fun i=>[.int .i64 ((p.1.2.1.2 i).1),.int .i64 ((p.1.2.1.2 i).2.1)])),(AN p.2.1.1),(AP p.2.1.1 (fun i=>[.int .i64 (p.2.1.2 i)])),(AN b.1),(AP b.1 (iRw b)),(AN 0),((0:Int)=(↑0:Int)),(AN 3),(NL 1 1),(AI 0),(AN 1),(NL 0 0),(∀ i:Nat,(((i:Nat)<0)→(All []∧(([.p (.int .i64 0)]:List AV)=[.p (.int .i64 ((0,fun x=>0).2 i))]))))] [0,1,2,3,4,5,6,7,8,8,8,8,9,10,11,11,1,2,3,4,5,10,11,11,12,13,14,15]):=by kernel_rfl
theorem dms4 (p:T_Pinned) (b:T_IntS) (e:Nat) (r:T_IntS) :
    zM 0 [rg 6,.dec true,rm [(2,oc [] (.p (.bool false)))] 1,.dec true,rg 5,rg 3,.head] zf41 (SDs1 p b e r) [0,1,419] 1 (SDs1 p b (e+1) (r.1+1,snocI r.1 r.2 e)) =
    some (zf41,zD [(NT 0 1),((decide ((↑e:Int)<(↑p.1.2.1.1:Int)))=true),zE 92 [.p (.seq true 1 b.1 (iRw b)),.p (.int .i64 (↑e:Int))] [] (.p (.bool false)),((!false)=true),(NL 1 1),(NL r.1 r.1),(NL ((r.1+1)*8) 140737488355328),(NL (r.1+1) 9223372036854775807),(ZLo ((↑e:Int)+1)),(ZHi ((↑e:Int)+1)),(AI p.1.1),(AN p.1.2.1.1),(AP p.1.2.1.1 (fun i=>[.int .i64 ((p.1.2.1.2 i).1),.int .i64 ((p.1.2.1.2 i).2.1)])),(AN p.2.1.1),(AP p.2.1.1 (fun i=>[.int .i64 (p.2.1.2 i)])),(AN b.1),(AP b.1 (iRw b)),(AN 0),(AN ((r.1+1))),((((↑e:Int)+1):Int)=(↑(e+1):Int)),(AN 3),(AI 0),(AN 1),(NL (r.1+1) (r.1+1)),(CV [(419,⟨false,1,(r.1+1),(fun i_1=>(if (i_1<r.1) then [.p (.int .i64 (r.2 i_1))] else [.p (.int .i64 (↑e:Int))]))⟩),(387,⟨false,1,1,(fun i_1=>[.p (.int .i64 (↑e:Int))])⟩),(0,⟨true,3,1,(fun i_1=>[.p (.int .i64 p.1.1),.p (.seq true 2 p.1.2.1.1 (fun i_2=>[.int .i64 ((p.1.2.1.2 i_2).1),.int .i64 ((p.1.2.1.2 i_2).2.1)])),.p (.seq true 1 p.2.1.1 (fun i_2=>[.int .i64 (p.2.1.2 i_2)]))])⟩),(1,⟨true,3,1,(fun i_1=>[.p (.int .i64 0),.p (.nil),.p (.nil)])⟩)] [0,1,419] 1 (r.1+1) (fun i=>if (i<r.1) then [.p (.int .i64 (r.2 i))] else [.p (.int .i64 (↑e:Int))]) (fun i=>[.p (.int .i64 ((r.1+1,snocI r.1 r.2 (↑e:Int)).2 i))]))] [0,1,2,3,4,5,6,7,8,9,10,11,12,13,14,15,16,17,17,17,18,19,20,4,4,10,11,12,13,14,20,4,4,21,22,23,24]):=by kernel_rfl
theorem dms5 (p:T_Pinned) (b:T_IntS) (e:Nat) (r:T_IntS) :
    zM 0 [rg 6,.dec true,rm [(2,oc [] (.p (.bool true)))] 1,.dec false,rg 3,.head] zf41 (SDs1 p b e r) [0,1,2] 1 (SDs1 p b (e+1) r) =
    some (zf41,zD [(NT 0 1),((decide ((↑e:Int)<(↑p.1.2.1.1:Int)))=true),zE 92 [.p (.seq true 1 b.1 (iRw b)),.p (.int .i64 (↑e:Int))] [] (.p (.bool true)),((!true)=false),(ZLo ((↑e:Int)+1)),(ZHi ((↑e:Int)+1)),(AI p.1.1),(AN p.1.2.1.1),(AP p.1.2.1.1 (fun i=>[.int .i64 ((p.1.2.1.2 i).1),.int .i64 ((p.1.2.1.2 i).2.1)])),(AN p.2.1.1),(AP p.2.1.1 (fun i=>[.int .i64 (p.2.1.2 i)])),(AN b.1),(AP b.1 (iRw b)),(AN 0),(AN r.1),((((↑e:Int)+1):Int)=(↑(e+1):Int)),(AN 3),(NL 1 1),(AI 0),(AN 1),(NL r.1 r.1),(AA r.1 (fun i=>[.p (.int .i64 (r.2 i))]))] [0,1,2,3,4,5,6,7,8,9,10,11,12,13,13,13,14,15,16,17,17,6,7,8,9,10,16,17,17,18,19,20,21]):=by kernel_rfl
theorem dms6 (p:T_Pinned) (b:T_IntS) (r:T_IntS) :
    zP Tryz.f22 0 [rg 6,.dec false,rm [(1,oc [] (.p (.bool false)))] 1,.dec true,rg 3] zf41 (SDs1 p b p.1.2.1.1 r) [] 1 [(0,brOb 0 (fun _=>(0,0,()))),(1,iOb 0 (fun _=>0))] (zf93) =
    some (zD [(NT 0 1),((decide ((↑p.1.2.1.1:Int)<(↑p.1.2.1.1:Int)))=false),zE 77 [(zf20 p)] [] (.p (.bool false)),((!false)=true),((true=true)→ (AN 1)),(AI 0),(AN 0),(false=false),(AE 0)] [0,1,0,2,3,0,4,0,5,6,6,7,6,6,8,8]):=by kernel_rfl
theorem dms7 (p:T_Pinned) (b:T_IntS) (r:T_IntS) (k:Nat) (h:Nat→T_Bar) :
    zP Tryz.f22 0 [rg 6,.dec false,rm [(1,oc [] (.p (.bool true)))] 1,.dec false,rm [(3,oc [(0,brOb k h)] (.agg [.p (.int .i64 p.1.1),.ar 2 0 0 k]))] 7] zf41 (SDs1 p b p.1.2.1.1 r) [387,515] 1 [(0,brOb k h),(1,iOb p.2.1.1 p.2.1.2)] (.tup [.agg [.p (.int .i64 p.1.1),.ar 2 0 0 k,.ar 1 1 0 p.2.1.1],.p (.bool true)]) =
    some [(NT 0 1),((decide ((↑p.1.2.1.1:Int)<(↑p.1.2.1.1:Int)))=false),(NT 0 1),zE 77 [(zf20 p)] [] (.p (.bool true)),((!true)=false),(NT 0 1),(AN 1),(NL r.1 r.1),zE 93 [(zf78 p),.p (.seq true 1 r.1 (iRw r))] (zf89 k h) (.agg [.p (.int .i64 p.1.1),.ar 2 0 0 k]),(NT 0 1),(NL 0 0),(NL ((0+p.2.1.1)*8) 140737488355328),(NL (0+p.2.1.1) 9223372036854775807),(NT 0 1),((true=true)→ (AN 1)),(NT 0 1),(AI p.1.1),(AN 0),(AN k),(AN 0),(((0+p.2.1.1):Nat)=p.2.1.1),(true=true),(AN 2),(NL k k),(AA k (fun i=>[.p (.int .i64 ((h i).1)),.p (.int .i64 ((h i).2.1))])),(AN 1),(NL p.2.1.1 (0+p.2.1.1)),(AA p.2.1.1 (fun i=>[.p (.int .i64 (p.2.1.2 i))])),(AE k),(AE p.2.1.1)]:=by kernel_rfl
theorem dmi0 (p:T_Pinned) (b:T_IntS) :
    zS Tryz.f21 [rg 3,rm [(1,oc [] (.p (.bool false)))] 1,.dec true,rg 3] [pinA p,inL b] [] [(0,brOb 0 (fun _=>(0,0,()))),(1,iOb 0 (fun _=>0))] (zf93) =
    some (zD [(NT 0 1),zE 73 [(zf20 p)] [] (.p (.bool false)),((!false)=true),((true=true)→ (AN 1)),(AI 0),(AN 0),(false=false),(AE 0)] [0,1,2,0,3,0,4,5,5,6,5,5,7,7]):=by kernel_rfl
theorem dmi1 (p:T_Pinned) (b:T_IntS) :
    zT Tryz.f21 [rg 3,rm [(1,oc [] (.p (.bool true)))] 1,.dec false,rg 6,rg 3,.head] [pinA p,inL b] [0,32,320] (SDi0 p b 0 (fun _=>false)) =
    some (zf42,zD [(NT 0 1),zE 73 [(zf20 p)] [] (.p (.bool true)),((!true)=false),(IL 0 (↑p.1.2.1.1:Int)),(IL (↑p.1.2.1.1:Int) (↑p.1.2.1.1:Int)),(IL ((↑p.1.2.1.1:Int)*(↑1:Int)) 281474976710656),(ZHi (↑p.1.2.1.1:Int)),(AI p.1.1),(AN p.1.2.1.1),(AP p.1.2.1.1 (fun i=>[.int .i64 ((p.1.2.1.2 i).1),.int .i64 ((p.1.2.1.2 i).2.1)])),(AN p.2.1.1),(AP p.2.1.1 (fun i=>[.int .i64 (p.2.1.2 i)])),(AN b.1),(AP b.1 (iRw b)),(AN 0),(AI ((↑b.1:Int))),((0:Int)=(↑0:Int)),((([AV.p (PV.int IntKind.i64 p.1.1),graphL p.1.2.1,inL p.2.1].length):Nat)=3),(NL 1 1),((((List.map (fun v=>AV.p (absV v)) [Value.int IntKind.i64 0,Value.slice none 0 0,Value.slice none 0 0]).length):Nat)=3),(AI 0),(AN 1),(NL p.1.2.1.1 p.1.2.1.1),(AA p.1.2.1.1 (fun i=>[.p (.bool false)]))] [0,1,2,0,3,4,5,6,7,8,9,10,11,12,13,14,14,14,8,12,13,15,16,17,18,18,7,8,9,10,11,19,18,18,20,21,22,23]):=by kernel_rfl
theorem dmi2 (p:T_Pinned) (b:T_IntS) (i:Nat) (G:Nat→Bool) :
    zM 0 [rg 1,.dec true,rg 3,rm [(4,oc [] (.p (.bool true)))] 1,.dec false,rg 4,rg 2,.head] zf42 (SDi0 p b i G) [0,1,2] 1 (SDi0 p b (i+1) (upG G (b.2 i))) =
    some (zf42,zD [((decide ((↑i:Int)<(↑b.1:Int)))=true),(IL 0 (↑i:Int)),(IT (↑i:Int) (↑b.1:Int)),(ZLo ((↑p.1.2.1.1:Int) - 1)),(ZHi ((↑p.1.2.1.1:Int) - 1)),zE 90 [.p (.int .i64 (b.2 i)),.p (.int .i64 0),.p (.int .i64 ((↑p.1.2.1.1:Int) - 1))] [] (.p (.bool true)),((!true)=false),(IL 0 (b.2 i)),(IT (b.2 i) (↑p.1.2.1.1:Int)),(NT ((b.2 i).toNat) p.1.2.1.1),((false=true)→ ((p.1.2.1.1:Nat)=1)),(ZLo ((↑i:Int)+1)),(ZHi ((↑i:Int)+1)),(AI p.1.1),(AN p.1.2.1.1),(AP p.1.2.1.1 (fun i_1=>[.int .i64 ((p.1.2.1.2 i_1).1),.int .i64 ((p.1.2.1.2 i_1).2.1)])),(AN p.2.1.1),(AP p.2.1.1 (fun i_1=>[.int .i64 (p.2.1.2 i_1)])),(AN b.1),(AP b.1 (iRw b)),(AN 0),(AI ((↑b.1:Int))),((((↑i:Int)+1):Int)=(↑(i+1):Int)),(AN 3),(NL 1 1),(AI 0),(AN 1),(NL p.1.2.1.1 p.1.2.1.1),(CV [(2,⟨false,1,p.1.2.1.1,(fun i_2=>(if (i_2=(b.2 i).toNat) then [.p (.bool true)] else [.p (.bool (G i_2))]))⟩),(0,⟨true,3,1,(fun i_2=>[.p (.int .i64 p.1.1),.p (.seq true 2 p.1.2.1.1 (fun i_3=>[.int .i64 ((p.1.2.1.2 i_3).1),.int .i64 ((p.1.2.1.2 i_3).2.1)])),.p (.seq true 1 p.2.1.1 (fun i_3=>[.int .i64 (p.2.1.2 i_3)]))])⟩),(1,⟨true,3,1,(fun i_2=>[.p (.int .i64 0),.p (.nil),.p (.nil)])⟩)] [0,1,2] 1 p.1.2.1.1 (fun i_1=>if (i_1=(b.2 i).toNat) then [.p (.bool true)] else [.p (.bool (G i_1))]) (fun i_1=>[.p (.bool (upG G (b.2 i) i_1))]))] [0,1,2,3,4,5,6,7,8,9,10,11,12,13,14,15,16,17,18,19,20,20,20,14,18,19,21,22,23,24,24,13,14,15,16,17,23,24,24,25,26,27,28]):=by kernel_rfl
theorem dmi3 (p:T_Pinned) (b:T_IntS) (i:Nat) (G:Nat→Bool) :
    zP Tryz.f21 0 [rg 1,.dec true,rg 3,rm [(4,oc [] (.p (.bool false)))] 1,.dec true,rg 3] zf42 (SDi0 p b i G) [] 1 [(0,brOb 0 (fun _=>(0,0,()))),(1,iOb 0 (fun _=>0))] (zf93) =
    some [((decide ((↑i:Int)<(↑b.1:Int)))=true),(IL 0 (↑i:Int)),(IT (↑i:Int) (↑b.1:Int)),(ZLo ((↑p.1.2.1.1:Int) - 1)),(ZHi ((↑p.1.2.1.1:Int) - 1)),zE 90 [.p (.int .i64 (b.2 i)),.p (.int .i64 0),.p (.int .i64 ((↑p.1.2.1.1:Int) - 1))] [] (.p (.bool false)),((!false)=true),(NT 0 1),((true=true)→ (AN 1)),(NT 0 1),(AI 0),(AN 0),(AN 0),(false=false),(AN 0),(AN 0),(AE 0),(AE 0)]:=by kernel_rfl
theorem dmi4 (p:T_Pinned) (b:T_IntS) (G:Nat→Bool) :
    zM 0 [rg 1,.dec false,rm [(6,oc [(0,iOb p.2.1.1 p.2.1.2)] (.ar 1 0 0 p.2.1.1))] 3,rg 5,.head] zf42 (SDi0 p b b.1 G) [0,1,2,291,227] 1 (SDi1 p b 0 G 0 (fun _=>(0,0,()))) =
    some (zf25,zD [((decide ((↑b.1:Int)<(↑b.1:Int)))=false),(NT 0 1),zE 91 [.p (.seq true 1 p.2.1.1 (fun i=>[.int .i64 (p.2.1.2 i)]))] [(0,⟨false,1,p.2.1.1,(fun i=>[.p (.int .i64 (p.2.1.2 i))])⟩)] (.ar 1 0 0 p.2.1.1),((true=true)→ (AN 1)),(AI p.1.1),(AN p.1.2.1.1),(AP p.1.2.1.1 (fun i=>[.int .i64 ((p.1.2.1.2 i).1),.int .i64 ((p.1.2.1.2 i).2.1)])),(AN p.2.1.1),(AP p.2.1.1 (fun i=>[.int .i64 (p.2.1.2 i)])),(AN b.1),(AP b.1 (iRw b)),(AN 0),(AI ((↑p.1.2.1.1:Int))),((0:Int)=(↑0:Int)),(AN 3),(NL 1 1),(AI 0),(AN 1),(NL p.1.2.1.1 p.1.2.1.1),(AA p.1.2.1.1 (fun i=>[.p (.bool (G i))])),((((List.map (fun v=>AV.p (absV v)) [Value.int IntKind.i64 0,Value.slice none 0 0,Value.slice none 0 0]).length):Nat)=3),(NL p.2.1.1 p.2.1.1),(AA p.2.1.1 (fun i=>[.p (.int .i64 (p.2.1.2 i))]))] [0,1,1,2,1,3,1,4,5,6,7,8,9,10,11,11,11,5,11,5,6,12,13,14,15,15,4,5,6,7,8,14,15,15,16,17,18,19,20,15,15,4,11,11,7,17,21,22,11]):=by kernel_rfl
theorem dmi5 (p:T_Pinned) (b:T_IntS) (e:Nat) (G:Nat→Bool) (c:Nat) (h:Nat→T_Bar) :
    zM 0 [rg 1,.dec true,rg 6,rg 5,.dec true,rg 9,rg 2,.head] zf25 (SDi1 p b e G c h) [0,1,2,3,4,550] 1 (SDi1 p b (e+1) G (c+1) (snoc c h (p.1.2.1.2 e))) =
    some (zf25,zD [((decide ((↑e:Int)<(↑p.1.2.1.1:Int)))=true),(IL 0 (↑e:Int)),(IT (↑e:Int) (↑p.1.2.1.1:Int)),(NT 0 1),((true=true)→ (AN 1)),(NT e p.1.2.1.1),((!G e)=true),(NL 1 1),(NL c c),(NL ((c+1)*16) 140737488355328),(NL (c+1) 9223372036854775807),(ZLo ((↑e:Int)+1)),(ZHi ((↑e:Int)+1)),(AI p.1.1),(AN p.1.2.1.1),(AP p.1.2.1.1 (fun i=>[.int .i64 ((p.1.2.1.2 i).1),.int .i64 ((p.1.2.1.2 i).2.1)])),(AN p.2.1.1),(AP p.2.1.1 (fun i=>[.int .i64 (p.2.1.2 i)])),(AN b.1),(AP b.1 (iRw b)),(AN 0),(AI ((↑p.1.2.1.1:Int))),((((↑e:Int)+1):Int)=(↑(e+1):Int)),(AN 3),(AI 0),(AN 1),(NL p.1.2.1.1 p.1.2.1.1),(AA p.1.2.1.1 (fun i=>[.p (.bool (G i))])),(AN ((c+1))),(NL p.2.1.1 p.2.1.1),(AA p.2.1.1 (fun i=>[.p (.int .i64 (p.2.1.2 i))])),(AN 2),(NL (c+1) (c+1)),(CV [(3,⟨true,3,1,(fun i_1=>[.p (.int .i64 p.1.1),.ar 2 550 0 (c+1),.ar 1 4 0 p.2.1.1])⟩),(550,⟨false,2,(c+1),(fun i_1=>(if (i_1<c) then [.p (.int .i64 ((h i_1).1)),.p (.int .i64 ((h i_1).2.1))] else [.p (.int .i64 ((p.1.2.1.2 e).1)),.p (.int .i64 ((p.1.2.1.2 e).2.1))]))⟩),(518,⟨false,2,1,(fun i_1=>[.p (.int .i64 ((p.1.2.1.2 e).1)),.p (.int .i64 ((p.1.2.1.2 e).2.1))])⟩),(134,⟨true,2,1,(fun i_1=>[.p (.int .i64 ((p.1.2.1.2 e).1)),.p (.int .i64 ((p.1.2.1.2 e).2.1))])⟩),(0,⟨true,3,1,(fun i_1=>[.p (.int .i64 p.1.1),.p (.seq true 2 p.1.2.1.1 (fun i_2=>[.int .i64 ((p.1.2.1.2 i_2).1),.int .i64 ((p.1.2.1.2 i_2).2.1)])),.p (.seq true 1 p.2.1.1 (fun i_2=>[.int .i64 (p.2.1.2 i_2)]))])⟩),(1,⟨true,3,1,(fun i_1=>[.p (.int .i64 0),.p (.nil),.p (.nil)])⟩),(2,⟨false,1,p.1.2.1.1,(fun i_1=>[.p (.bool (G i_1))])⟩),(4,⟨false,1,p.2.1.1,(fun i_1=>[.p (.int .i64 (p.2.1.2 i_1))])⟩)] [0,1,2,3,4,550] 1 (c+1) (fun i=>if (i<c) then [.p (.int .i64 ((h i).1)),.p (.int .i64 ((h i).2.1))] else [.p (.int .i64 ((p.1.2.1.2 e).1)),.p (.int .i64 ((p.1.2.1.2 e).2.1))]) (fun i=>[.p (.int .i64 (if i<c then (h i).1 else (p.1.2.1.2 e).1)),.p (.int .i64 (if i<c then (h i).2.1 else (p.1.2.1.2 e).2.1))]))] [0,1,2,3,4,1,2,5,6,3,3,7,8,9,10,3,4,11,12,13,14,15,16,17,18,19,20,20,20,14,20,14,15,21,22,23,7,7,13,14,15,16,17,23,7,7,24,25,26,27,23,7,7,13,20,28,20,16,25,29,30,31,32,33]):=by kernel_rfl
theorem dmi6 (p:T_Pinned) (b:T_IntS) (e:Nat) (G:Nat→Bool) (c:Nat) (h:Nat→T_Bar) :
    zM 0 [rg 1,.dec true,rg 6,rg 5,.dec false,rg 2,.head] zf25 (SDi1 p b e G c h) [0,1,2,3,4,5] 1 (SDi1 p b (e+1) G c h) =
    some (zf25,zD [((decide ((↑e:Int)<(↑p.1.2.1.1:Int)))=true),(IL 0 (↑e:Int)),(IT (↑e:Int) (↑p.1.2.1.1:Int)),(NT 0 1),((true=true)→ (AN 1)),(NT e p.1.2.1.1),((!G e)=false),(ZLo ((↑e:Int)+1)),(ZHi ((↑e:Int)+1)),(AI p.1.1),(AN p.1.2.1.1),(AP p.1.2.1.1 (fun i=>[.int .i64 ((p.1.2.1.2 i).1),.int .i64 ((p.1.2.1.2 i).2.1)])),(AN p.2.1.1),(AP p.2.1.1 (fun i=>[.int .i64 (p.2.1.2 i)])),(AN b.1),(AP b.1 (iRw b)),(AN 0),(AI ((↑p.1.2.1.1:Int))),((((↑e:Int)+1):Int)=(↑(e+1):Int)),(AN 3),(NL 1 1),(AI 0),(AN 1),(NL p.1.2.1.1 p.1.2.1.1),(AA p.1.2.1.1 (fun i=>[.p (.bool (G i))])),(AN c),(NL p.2.1.1 p.2.1.1),(AA p.2.1.1 (fun i=>[.p (.int .i64 (p.2.1.2 i))])),(AN 2),(NL c c),(AA c (fun i=>[.p (.int .i64 ((h i).1)),.p (.int .i64 ((h i).2.1))]))] [0,1,2,3,4,1,2,5,6,7,8,9,10,11,12,13,14,15,16,16,16,10,16,10,11,17,18,19,20,20,9,10,11,12,13,19,20,20,21,22,23,24,19,20,20,9,16,25,16,12,22,26,27,28,29,30]):=by kernel_rfl
theorem dmi7 (p:T_Pinned) (b:T_IntS) (G:Nat→Bool) (c:Nat) (h:Nat→T_Bar) :
    zP Tryz.f21 0 [rg 1,.dec false,rg 3] zf25 (SDi1 p b p.1.2.1.1 G c h) [5,4] 1 [(0,brOb c h),(1,iOb p.2.1.1 p.2.1.2)] (.tup [.agg [.p (.int .i64 p.1.1),.ar 2 0 0 c,.ar 1 1 0 p.2.1.1],.p (.bool true)]) =
    some [((decide ((↑p.1.2.1.1:Int)<(↑p.1.2.1.1:Int)))=false),(NT 0 1),(NT 0 1),((true=true)→ (AN 1)),(NT 0 1),(AI p.1.1),(AN 0),(AN c),(AN 0),(AN p.2.1.1),(true=true),(AN 2),(NL c c),(AA c (fun i=>[.p (.int .i64 ((h i).1)),.p (.int .i64 ((h i).2.1))])),(AN 1),(NL p.2.1.1 p.2.1.1),(AA p.2.1.1 (fun i=>[.p (.int .i64 (p.2.1.2 i))])),(AE c),(AE p.2.1.1)]:=by kernel_rfl
theorem rcI (p:T_Pinned) (x:Int) :
    zS Tryz.f10 [rg 2,rm [(1,oc [] (.p (.int .i64 x)))] 1] [pinA p] [] [] (.p (.int .i64 x)) =
    some [(NT 0 1),zE 80 [(zf20 p)] [] (.p (.int .i64 x)),(AI x)]:=by kernel_rfl
theorem rcS (p:T_Pinned) (x:Int) :
    zS Tryz.f12 [rg 2,rm [(1,oc [] (.p (.int .i64 x)))] 1] [pinA p] [] [] (.p (.int .i64 x)) =
    some [(NT 0 1),zE 81 [(zf20 p)] [] (.p (.int .i64 x)),(AI x)]:=by kernel_rfl
def fbD (b:T_IntS) (A:Nat→T_Bar):Nat→NB
  | 0=>zNB
  | e+1=>if hasI b.2 (e:Int) b.1=true then fbD b A e else sn (fbD b A e) (A e)
def rngB (n:Nat) (b:T_IntS):Nat→Bool
  | 0=>true
  | k+1=>rngB n b k&&inB (b.2 k) 0 ((n:Int) - 1)
def dmB (p:T_Pinned) (b:T_IntS):Bool:=pinnedF p&&rngB p.1.2.1.1 b b.1
def dmP (p:T_Pinned) (b:T_IntS):T_Pinned:=if dmB p b=true then ((p.1.1,fbD b p.1.2.1.2 p.1.2.1.1,()),p.2) else zPin
theorem fbD_n (b:T_IntS) (A:Nat→T_Bar):∀ e,(fbD b A e).1≤e
  | 0=>Nat.le_refl _
  | e+1=>by
    have:=fbD_n b A e
    simp only [fbD]
    split
    · omega
    · simp only [sn];omega
theorem dmP_le (p:T_Pinned) (b:T_IntS):(dmP p b).1.2.1.1≤24∧(dmP p b).2.1.1≤8:=by
  unfold dmP
  split
  · rename_i h
    simp only [dmB,Bool.and_eq_true] at h
    have h1:=pinned_in h.1
    have h2:=fbD_n b p.1.2.1.2 p.1.2.1.1
    refine ⟨?_,h1.2.2.1⟩
    show (fbD b p.1.2.1.2 p.1.2.1.1).1≤24
    omega
  · exact ⟨Nat.zero_le _,Nat.zero_le _⟩
theorem rng_bad {n:Nat} {b:T_IntS} {k:Nat} (h:rngB n b k=false):∀ m,k≤m→rngB n b m=false
  | 0,h'=>by
    obtain rfl:k=0:=by omega
    exact h
  | m+1,h'=>by
    by_cases e:k=m+1
    · subst e;exact h
    · simp [rngB,rng_bad h m (by omega)]
theorem rng_at {n:Nat} {b:T_IntS}:∀ {m:Nat},rngB n b m=true→∀ k,k<m→0≤b.2 k∧b.2 k≤(n:Int) - 1
  | 0,_,k,hk=>absurd hk (Nat.not_lt_zero _)
  | m+1,h,k,hk=>by
    simp only [rngB,Bool.and_eq_true,inB,decide_eq_true_eq] at h
    by_cases e:k=m
    · subst e;exact h.2
    · exact rng_at h.1 k (by omega)
theorem in_cond (x:Int) (n:Nat):(bif decide (x<0) then true else decide (x≥(n:Int)))=!inB x 0 ((n:Int) - 1):=by
  unfold inB
  by_cases h1:x<0
  · simp [h1]<;>omega
  · by_cases h2:x≥(n:Int)
    · simp [h1,h2]<;>omega
    · simp [h1,h2]<;>omega
theorem flt_hasD (p:Nat→Bool) (e:Nat):∀ n,hasI (flt p n).2 (e:Int) (flt p n).1=(decide (e<n)&&p e)
  | 0=>by simp [flt,hasI]
  | n+1=>by
    have h:=flt_hasD p e n
    cases hp:p n with
    | true =>
      rw [flt_t hp]
      show (hasI (fun s=>if s<(flt p n).1 then (flt p n).2 s else (n:Int)) (e:Int) (flt p n).1||(if (flt p n).1<(flt p n).1 then (flt p n).2 (flt p n).1 else (n:Int))==(e:Int))=_
      rw [hasI_congr (fun s=>if s<(flt p n).1 then (flt p n).2 s else (n:Int)) (flt p n).2 (e:Int) (flt p n).1 (fun i hi=>if_pos hi),h,if_neg (Nat.lt_irrefl _)]
      by_cases e1:e=n
      · subst e1;simp [hp]
      · have h1:decide (e<n+1)=decide (e<n):=by simp;omega
        have h2:((n:Int)==(e:Int))=false:=beq_eq_false_iff_ne.2 (by omega)
        rw [h1,h2,Bool.or_false]
    | false =>
      rw [flt_f hp,h]
      by_cases e1:e=n
      · subst e1;simp [hp]
      · have h1:decide (e<n+1)=decide (e<n):=by simp;omega
        rw [h1]
theorem obF_snocD (S:T_IntS) (A:Nat→T_Bar):∀ d i (x:T_BarS),obF S A i (d+1) x=bif hasI S.2 ((i+d:Nat):Int) S.1 then ((obF S A i d x).1+1,snoc (obF S A i d x).1 (obF S A i d x).2 (A (i+d))) else obF S A i d x
  | 0,i,x=>rfl
  | d+1,i,x=>by
    rw [obF,obF_snocD S A d (i+1),show i+1+d=i+(d+1) by omega]
    rfl
theorem ob_fb (b:T_IntS) (A:Nat→T_Bar) (n:Nat):∀ k,k≤n→obF (flt (fun i=>!hasI b.2 (i:Int) b.1) n) A 0 k zB=fbD b A k
  | 0,_=>rfl
  | k+1,h=>by
    rw [obF_snocD,Nat.zero_add,flt_hasD,ob_fb b A n k (by omega),decide_eq_true (show k<n by omega),Bool.true_and]
    simp only [fbD]
    cases hasI b.2 (k:Int) b.1<;>rfl
def gD (b:T_IntS):Nat→Nat→Bool
  | 0=>fun _=>false
  | k+1=>upG (gD b k) (b.2 k)
theorem gD_has {b:T_IntS} (i:Nat):∀ k,(∀ j,j<k→0≤b.2 j)→gD b k i=hasI b.2 (i:Int) k
  | 0,_=>rfl
  | k+1,h=>by
    have ih:=gD_has (b:=b) i k (fun j hj=>h j (by omega))
    have h0:=h k (by omega)
    simp only [gD,upG,hasI]
    by_cases e:i=(b.2 k).toNat
    · rw [if_pos e,show (b.2 k==(i:Int))=true by simp;omega,Bool.or_true]
    · rw [if_neg e,ih,show (b.2 k==(i:Int))=false from beq_eq_false_iff_ne.2 (by omega),Bool.or_false]
theorem con_Damaged_s (p:T_Pinned) (hs:smS s_Pinned p) (b:T_IntS) (hb:b.1≤1048576) :
    zE 22 [pinA p,inL b] [(0,brOb (dmP p b).1.2.1.1 (dmP p b).1.2.1.2),(1,iOb (dmP p b).2.1.1 (dmP p b).2.1.2)]
      (.tup [.agg [.p (.int .i64 (dmP p b).1.1),.ar 2 0 0 (dmP p b).1.2.1.1,.ar 1 1 0 (dmP p b).2.1.1],.p (.bool (dmB p b))]):=by
  have hnb:p.1.2.1.1≤1048576:=hs.1.2.1.1
  have hm:p.2.1.1≤1048576:=hs.2.1.1
  have c1:=con_IsPinned_s p hs
  refine csZ Tryz.func22 (fun c hc=>?_)
  have lp:∀ m k,k+m=b.1→rngB p.1.2.1.1 b k=true→zR c 22 zf63 (SDs0 p b k) (Post c [(0,brOb (dmP p b).1.2.1.1 (dmP p b).1.2.1.2),(1,iOb (dmP p b).2.1.1 (dmP p b).2.1.2)]
      (.tup [.agg [.p (.int .i64 (dmP p b).1.1),.ar 2 0 0 (dmP p b).1.2.1.1,.ar 1 1 0 (dmP p b).2.1.1],.p (.bool (dmB p b))])):=by
    intro m
    induction m with
    | zero =>
      intro k hk hg
      obtain rfl:k=b.1:=by omega
      have hd:decide ((b.1:Int)<(b.1:Int))=false:=by simp
      have lq:∀ m e,e+m=p.1.2.1.1→zR c 22 zf41 (SDs1 p b e (flt (fun i=>!hasI b.2 (i:Int) b.1) e)) (Post c [(0,brOb (dmP p b).1.2.1.1 (dmP p b).1.2.1.2),(1,iOb (dmP p b).2.1.1 (dmP p b).2.1.2)]
          (.tup [.agg [.p (.int .i64 (dmP p b).1.1),.ar 2 0 0 (dmP p b).1.2.1.1,.ar 1 1 0 (dmP p b).2.1.1],.p (.bool (dmB p b))])):=by
        intro m
        induction m with
        | zero =>
          intro e he
          obtain rfl:e=p.1.2.1.1:=by omega
          have hd:decide ((p.1.2.1.1:Int)<(p.1.2.1.1:Int))=false:=by simp
          cases hp:pinnedF p with
          | false =>
            rw [hp] at c1
            have h0:dmB p b=false:=by simp [dmB,hp]
            rw [show dmP p b=zPin by simp [dmP,h0],h0]
            refine pkD Tryz.func22 hc (dms6 p b (flt (fun i=>!hasI b.2 (i:Int) b.1) p.1.2.1.1)) ?_
            and_intros
            all_goals (first | exact zI | (exact hd) | (exact c1) | (intro j hj;exact absurd hj (Nat.not_lt_zero _)) | (simp;done))
          | true =>
            rw [hp] at c1
            have hin:=pinned_in hp
            have hfn:=flt_n (fun i=>!hasI b.2 (i:Int) b.1) p.1.2.1.1
            have h0:dmB p b=true:=by simp [dmB,hp,hg]
            rw [show dmP p b=((p.1.1,fbD b p.1.2.1.2 p.1.2.1.1,()),p.2) by simp [dmP,h0],h0]
            have c2:=con_OnlyBars_s p.1.1 p.1.2.1.1 p.1.2.1.2 (flt (fun i=>!hasI b.2 (i:Int) b.1) p.1.2.1.1) (by omega) (by omega)
            rw [ob_fb b p.1.2.1.2 p.1.2.1.1 p.1.2.1.1 (Nat.le_refl _)] at c2
            refine pkZ Tryz.func22 hc (dms7 p b (flt (fun i=>!hasI b.2 (i:Int) b.1) p.1.2.1.1) (fbD b p.1.2.1.2 p.1.2.1.1).1 (fbD b p.1.2.1.2 p.1.2.1.1).2) ?_
            and_intros
            all_goals (first | exact zI | (exact hd) | (exact c1) | (exact c2) | (intro j hj;simp [All];done) | (simp;done) | (simp;omega))
        | succ m ih =>
          intro e he
          have hd:decide ((e:Int)<(p.1.2.1.1:Int))=true:=decide_eq_true (by omega)
          have c3:=con_l2Has b (e:Int) hb
          have hfn:=flt_n (fun i=>!hasI b.2 (i:Int) b.1) e
          have hih:=ih (e+1) (by omega)
          cases hh:hasI b.2 (e:Int) b.1 with
          | false =>
            rw [hh] at c3
            rw [flt_t (show (fun i:Nat=>!hasI b.2 (i:Int) b.1) e=true by simp [hh])] at hih
            refine pcD hc (dms4 p b e (flt (fun i=>!hasI b.2 (i:Int) b.1) e)) ?_ hih
            and_intros
            all_goals (first | exact zN | (exact hd) | (exact c3) | (intro j hj;simp [All];done) | (simp;done) | (simp;omega) | (intro j hj;by_cases h':j<(flt (fun i=>!hasI b.2 (i:Int) b.1) e).1<;>simp [h',snocI,cvtL,cvt,tg,tru,All]))
          | true =>
            rw [hh] at c3
            rw [flt_f (show (fun i:Nat=>!hasI b.2 (i:Int) b.1) e=false by simp [hh])] at hih
            refine pcD hc (dms5 p b e (flt (fun i=>!hasI b.2 (i:Int) b.1) e)) ?_ hih
            and_intros
            all_goals (first | exact zN | (exact hd) | (exact c3) | (intro j hj;simp [All];done) | (simp;done) | (simp;omega))
      refine pcD hc (dms3 p b) ?_ (lq p.1.2.1.1 0 (by omega))
      and_intros
      iterate 2 all_goals (first | exact zN | (exact hd) | (intro j hj;exact absurd hj (Nat.not_lt_zero _)) | (intro j hj;simp [All];done) | (simp;done) | (simp;omega) | simp only [All])
    | succ m ih =>
      intro k hk hg
      have hd:decide ((k:Int)<(b.1:Int))=true:=decide_eq_true (by omega)
      cases hi:inB (b.2 k) 0 ((p.1.2.1.1:Int) - 1) with
      | true =>
        have hx:(bif decide (b.2 k<0) then true else decide (b.2 k≥(p.1.2.1.1:Int)))=false:=by rw [in_cond,hi];rfl
        refine pcD hc (dms1 p b k) ?_ (ih (k+1) (by omega) (by simp [rngB,hg,hi]))
        and_intros
        all_goals (first | exact zH | (exact hd) | (exact hx) | (intro j hj;exact absurd hj (Nat.not_lt_zero _)) | (intro j hj;simp [All];done) | (simp;done) | (simp;omega) | (intro h;simpa using h))
      | false =>
        have hx:(bif decide (b.2 k<0) then true else decide (b.2 k≥(p.1.2.1.1:Int)))=true:=by rw [in_cond,hi];rfl
        have h0:dmB p b=false:=by
          have:=rng_bad (n:=p.1.2.1.1) (b:=b) (k:=k+1) (by simp [rngB,hi]) b.1 (by omega)
          simp [dmB,this]
        rw [show dmP p b=zPin by simp [dmP,h0],h0]
        refine pkD Tryz.func22 hc (dms2 p b k) ?_
        and_intros
        all_goals (first | exact zH | (exact hd) | (exact hx) | (intro j hj;exact absurd hj (Nat.not_lt_zero _)) | (simp;done) | (simp;omega) | (intro h;simpa using h))
  refine pcD hc (dms0 p b) ?_ (lp b.1 0 (by omega) rfl)
  and_intros
  all_goals (first | exact zN | (intro j hj;exact absurd hj (Nat.not_lt_zero _)) | (intro j hj;simp [All];done) | (simp;done))
theorem con_Damaged_i (p:T_Pinned) (hs:smS s_Pinned p) (b:T_IntS) (hb:b.1≤1048576) :
    zE 21 [pinA p,inL b] [(0,brOb (dmP p b).1.2.1.1 (dmP p b).1.2.1.2),(1,iOb (dmP p b).2.1.1 (dmP p b).2.1.2)]
      (.tup [.agg [.p (.int .i64 (dmP p b).1.1),.ar 2 0 0 (dmP p b).1.2.1.1,.ar 1 1 0 (dmP p b).2.1.1],.p (.bool (dmB p b))]):=by
  have hnb:p.1.2.1.1≤1048576:=hs.1.2.1.1
  have hm:p.2.1.1≤1048576:=hs.2.1.1
  have c1:=con_IsPinned_i p hs
  refine csZ Tryz.func21 (fun c hc=>?_)
  cases hp:pinnedF p with
  | false =>
    rw [hp] at c1
    have h0:dmB p b=false:=by simp [dmB,hp]
    rw [show dmP p b=zPin by simp [dmP,h0],h0]
    refine pkD Tryz.func21 hc (dmi0 p b) ?_
    and_intros
    all_goals (first | exact zI | (exact c1) | (intro j hj;exact absurd hj (Nat.not_lt_zero _)) | (simp;done))
  | true =>
    rw [hp] at c1
    have lp:∀ m k,k+m=b.1→rngB p.1.2.1.1 b k=true→zR c 21 zf42 (SDi0 p b k (gD b k)) (Post c [(0,brOb (dmP p b).1.2.1.1 (dmP p b).1.2.1.2),(1,iOb (dmP p b).2.1.1 (dmP p b).2.1.2)]
        (.tup [.agg [.p (.int .i64 (dmP p b).1.1),.ar 2 0 0 (dmP p b).1.2.1.1,.ar 1 1 0 (dmP p b).2.1.1],.p (.bool (dmB p b))])):=by
      intro m
      induction m with
      | zero =>
        intro k hk hg
        obtain rfl:k=b.1:=by omega
        have hd:decide ((b.1:Int)<(b.1:Int))=false:=by simp
        have c2:=con_copyInts p.2.1.1 p.2.1.2 hm
        have h0:dmB p b=true:=by simp [dmB,hp,hg]
        rw [show dmP p b=((p.1.1,fbD b p.1.2.1.2 p.1.2.1.1,()),p.2) by simp [dmP,h0],h0]
        have hG:∀ i,gD b b.1 i=hasI b.2 (i:Int) b.1:=fun i=>gD_has i b.1 (fun j hj=>(rng_at hg j hj).1)
        generalize gD b b.1=G at hG
        have lq:∀ m e,e+m=p.1.2.1.1→zR c 21 zf25 (SDi1 p b e G (fbD b p.1.2.1.2 e).1 (fbD b p.1.2.1.2 e).2) (Post c [(0,brOb (fbD b p.1.2.1.2 p.1.2.1.1).1 (fbD b p.1.2.1.2 p.1.2.1.1).2),(1,iOb p.2.1.1 p.2.1.2)]
            (.tup [.agg [.p (.int .i64 p.1.1),.ar 2 0 0 (fbD b p.1.2.1.2 p.1.2.1.1).1,.ar 1 1 0 p.2.1.1],.p (.bool true)])):=by
          intro m
          induction m with
          | zero =>
            intro e he
            obtain rfl:e=p.1.2.1.1:=by omega
            have hd:decide ((p.1.2.1.1:Int)<(p.1.2.1.1:Int))=false:=by simp
            refine pkZ Tryz.func21 hc (dmi7 p b G (fbD b p.1.2.1.2 p.1.2.1.1).1 (fbD b p.1.2.1.2 p.1.2.1.1).2) ?_
            and_intros
            all_goals (first | exact zI | (exact hd) | (intro j hj;simp [All];done) | (simp;done))
          | succ m ih =>
            intro e he
            have hd:decide ((e:Int)<(p.1.2.1.1:Int))=true:=decide_eq_true (by omega)
            have hfn:=fbD_n b p.1.2.1.2 e
            have hih:=ih (e+1) (by omega)
            have hGe:=hG e
            cases hh:hasI b.2 (e:Int) b.1 with
            | false =>
              rw [hh] at hGe
              have hx:(!G e)=true:=by rw [hGe];rfl
              rw [show fbD b p.1.2.1.2 (e+1)=sn (fbD b p.1.2.1.2 e) (p.1.2.1.2 e) by simp [fbD,hh]] at hih
              refine pcD hc (dmi5 p b e G (fbD b p.1.2.1.2 e).1 (fbD b p.1.2.1.2 e).2) ?_ hih
              and_intros
              all_goals (first | exact zI | (exact hd) | (exact hx) | (intro j hj;simp [All];done) | (simp;done) | (simp;omega) | (intro j hj;by_cases h':j<(fbD b p.1.2.1.2 e).1<;>simp [h',snoc,cvtL,cvt,tg,tru,All]))
            | true =>
              rw [hh] at hGe
              have hx:(!G e)=false:=by rw [hGe];rfl
              rw [show fbD b p.1.2.1.2 (e+1)=fbD b p.1.2.1.2 e by simp [fbD,hh]] at hih
              refine pcD hc (dmi6 p b e G (fbD b p.1.2.1.2 e).1 (fbD b p.1.2.1.2 e).2) ?_ hih
              and_intros
              all_goals (first | exact zI | (exact hd) | (exact hx) | (intro j hj;simp [All];done) | (simp;done) | (simp;omega))
        refine pcD hc (dmi4 p b G) ?_ (lq p.1.2.1.1 0 (by omega))
        and_intros
        all_goals (first | exact zI | (exact hd) | (exact c2) | (intro j hj;exact absurd hj (Nat.not_lt_zero _)) | (intro j hj;simp [All];done) | (simp;done) | (simp;omega))
      | succ m ih =>
        intro k hk hg
        have hd:decide ((k:Int)<(b.1:Int))=true:=decide_eq_true (by omega)
        have cw:=con_within (b.2 k) 0 ((p.1.2.1.1:Int) - 1)
        cases hi:inB (b.2 k) 0 ((p.1.2.1.1:Int) - 1) with
        | true =>
          rw [hi] at cw
          have hr:rngB p.1.2.1.1 b (k+1)=true:=by simp [rngB,hg,hi]
          have hat:=rng_at hr k (by omega)
          refine pcD hc (dmi2 p b k (gD b k)) ?_ (ih (k+1) (by omega) hr)
          and_intros
          all_goals (first | exact zI | (exact hd) | (exact cw) | omega | (intro j hj;simp [All];done) | (simp;done) | (simp;omega) | (intro j hj;simp [upG,cvtL,cvt,tg,tru,All];done) | (intro j hj;by_cases h':j=(b.2 k).toNat<;>simp [h',upG,cvtL,cvt,tg,tru,All]))
        | false =>
          rw [hi] at cw
          have h0:dmB p b=false:=by
            have:=rng_bad (n:=p.1.2.1.1) (b:=b) (k:=k+1) (by simp [rngB,hi]) b.1 (by omega)
            simp [dmB,this]
          rw [show dmP p b=zPin by simp [dmP,h0],h0]
          refine pkZ Tryz.func21 hc (dmi3 p b k (gD b k)) ?_
          and_intros
          all_goals (first | exact zI | (exact hd) | (exact cw) | (intro j hj;exact absurd hj (Nat.not_lt_zero _)) | (simp;done) | (simp;omega))
    refine pcD hc (dmi1 p b) ?_ (lp b.1 0 (by omega) rfl)
    and_intros
    all_goals (first | exact zN | (exact c1) | (intro j hj;simp [All];done) | (simp;done) | (simp;omega))
theorem con_RepairCost_i (p:T_Pinned) (hs:smS s_Pinned p):zE 10 [pinA p] [] (.p (.int .i64 (frG p))):=by
  have c1:=con_PinnedFreedom_i p hs
  refine csZ Tryz.func10 (fun c hc=>?_)
  refine pkZ Tryz.func10 hc (rcI p (frG p)) ?_
  and_intros
  all_goals (first | exact zN | (exact c1))
theorem con_RepairCost_s (p:T_Pinned) (hs:smS s_Pinned p):zE 12 [pinA p] [] (.p (.int .i64 (frG p))):=by
  have c1:=con_PinnedFreedom_s p hs
  refine csZ Tryz.func12 (fun c hc=>?_)
  refine pkZ Tryz.func12 hc (rcS p (frG p)) ?_
  and_intros
  all_goals (first | exact zN | (exact c1))
def pinF (p:T_Pinned):AV:=.agg [.p (.int .i64 p.1.1),.p (.seq false 2 p.1.2.1.1 (fun i=>[.int .i64 (p.1.2.1.2 i).1,.int .i64 (p.1.2.1.2 i).2.1])),.p (.seq false 1 p.2.1.1 (fun i=>[.int .i64 (p.2.1.2 i)]))]
def boxF (p:T_Pinned):Ob:=⟨true,3,1,fun _=>[.p (.int .i64 p.1.1),.p (.seq false 2 p.1.2.1.1 (fun i=>[.int .i64 (p.1.2.1.2 i).1,.int .i64 (p.1.2.1.2 i).2.1])),.p (.seq false 1 p.2.1.1 (fun i=>[.int .i64 (p.2.1.2 i)]))]⟩
def SAd (q:T_Pinned) (l:T_BarS) (k n:Nat) (h:Nat→T_Bar):St :=
  ⟨[.p .any,.p .any,.pt 3 0 0 0,.p .any,.pt 3 1 0 0,.p .any,.ar 2 2 0 n]++List.replicate 6 anyA++[graphL l,.p (.int .i64 l.1),.p (.int .i64 k)]++List.replicate 38 anyA,
   [(0,boxF q),(1,zP3),(2,brOb n h)],3⟩
theorem dAz (p:T_Pinned) (l:T_BarS) :
    zT Tryz.f74 [rg 3,rg 2,rg 3,.head] [pinF p,graphL l] [0,32,96] (SAd p l 0 0 (fun _=>(0,0,()))) =
    some (zf64,[(AN 0),(AN 0),(AN 0),(AN 0),(AN l.1),(AP l.1 (fun i=>[.int .i64 ((l.2 i).1),.int .i64 ((l.2 i).2.1)])),(AI ((↑l.1:Int))),((0:Int)=(↑0:Int)),((([AV.p (PV.int IntKind.i64 p.1.1),AV.p (PV.seq false 2 p.1.2.1.1 fun i=>[PV.int IntKind.i64 (p.1.2.1.2 i).1,PV.int IntKind.i64 (p.1.2.1.2 i).2.1]),AV.p (PV.seq false 1 p.2.1.1 fun i=>[PV.int IntKind.i64 (p.2.1.2 i)])].length):Nat)=3),(NL 1 1),(NL 1 1),(AI p.1.1),(AN p.1.2.1.1),(AP p.1.2.1.1 (fun i=>[.int .i64 ((p.1.2.1.2 i).1),.int .i64 ((p.1.2.1.2 i).2.1)])),(AN p.2.1.1),(AP p.2.1.1 (fun i=>[.int .i64 (p.2.1.2 i)])),((((List.map (fun v=>AV.p (absV v)) [Value.int IntKind.i64 0,Value.slice none 0 0,Value.slice none 0 0]).length):Nat)=3),(NL 1 1),(NL 1 1),(AI 0),(AN 2),(NL 0 0),(AA 0 (fun i=>[.p (.int .i64 0),.p (.int .i64 0)]))]):=by kernel_rfl
theorem dAt (q:T_Pinned) (l:T_BarS) (k n:Nat) (h:Nat→T_Bar) (v:T_Graph) (b1 b2:Bool) (r1 r2:Int) :
    zM 0 [rg 1,.dec true,rg 4,rm [(6,oc [(0,brOb v.2.1.1 v.2.1.2)] (zf96 v b1))] 6,rg 6,rm [(3,oc [] (.p (.bool b2))),(3,oc [] (.p (.int .i64 r2))),(1,oc [] (.p (.int .i64 r1)))] 3,.dec true,rg 5,rg 2,rg 2,.head] zf64 (SAd q l k n h) [0,1,1283] 1 (SAd (v,q.2) l (k+1) (n+1) (snoc n h (l.2 k))) =
    some (zf64,zD [((decide ((↑k:Int)<(↑l.1:Int)))=true),(IL 0 (↑k:Int)),(IT (↑k:Int) (↑l.1:Int)),(NT 0 1),((true=true)→ (AN 1)),zE 84 [(zf78 q),.p (.int .i64 ((l.2 k).1)),.p (.int .i64 ((l.2 k).2.1))] (zf83 v) ((zf96 v b1)),((b1=true)→(NT 0 1)),(AG b1),((b1=true)→ (AN 2)),((b1=true)→(NL v.2.1.1 v.2.1.1)),((b1=true)→ zE 73 [(zf22 v q)] [] (.p (.bool b2))),(((bif b1 then b2 else false)=true)→(NT 0 1)),(AG (bif b1 then b2 else false)),(((bif b1 then b2 else false)=true)→ (AN 2)),(((bif b1 then b2 else false)=true)→(NL v.2.1.1 v.2.1.1)),(((bif b1 then b2 else false)=true)→ zE 149 [(zf22 v q)] [] (.p (.int .i64 r2))),(((bif b1 then b2 else false)=true)→ zE 149 [(zf20 q)] [] (.p (.int .i64 r1))),(((bif b1 then b2 else false)=true)→(ZLo (r1+1))),(((bif b1 then b2 else false)=true)→(ZHi (r1+1))),((bif bif b1 then b2 else false then r2==r1+1 else false)=true),(NL 1 1),(NL n n),(NL ((n+1)*16) 140737488355328),(NL (n+1) 9223372036854775807),(ZLo ((↑k:Int)+1)),(ZHi ((↑k:Int)+1)),(AN 0),(AN ((n+1))),(AN l.1),(AP l.1 (fun i=>[.int .i64 ((l.2 i).1),.int .i64 ((l.2 i).2.1)])),(AI ((↑l.1:Int))),((((↑k:Int)+1):Int)=(↑(k+1):Int)),(AN 3),(AN 2),(NL v.2.1.1 v.2.1.1),(AI v.1),(AN v.2.1.1),(AP v.2.1.1 (bRw v.2.1.2)),(AN q.2.1.1),(AP q.2.1.1 (fun i=>[.int .i64 (q.2.1.2 i)])),(AI 0),(NL (n+1) (n+1)),(CV [(0,⟨true,3,1,(fun i_1=>[.p (.int .i64 v.1),.ar 2 355 0 v.2.1.1,.p (.seq false 1 q.2.1.1 (fun i_2=>[.int .i64 (q.2.1.2 i_2)]))])⟩),(1283,⟨false,2,(n+1),(fun i_1=>(if (i_1<n) then [.p (.int .i64 ((h i_1).1)),.p (.int .i64 ((h i_1).2.1))] else [.p (.int .i64 ((l.2 k).1)),.p (.int .i64 ((l.2 k).2.1))]))⟩),(1251,⟨false,2,1,(fun i_1=>[.p (.int .i64 ((l.2 k).1)),.p (.int .i64 ((l.2 k).2.1))])⟩),(707,⟨true,3,1,(fun i_1=>[.p (.int .i64 v.1),.ar 2 355 0 v.2.1.1,.p (.seq false 1 q.2.1.1 (fun i_2=>[.int .i64 (q.2.1.2 i_2)]))])⟩),(483,⟨true,2,1,(fun i_1=>[.p (.int .i64 v.1),.ar 2 355 0 v.2.1.1])⟩),(355,⟨false,2,v.2.1.1,(fun i_1=>[.p (.int .i64 ((v.2.1.2 i_1).1)),.p (.int .i64 ((v.2.1.2 i_1).2.1))])⟩),(99,⟨true,2,1,(fun i_1=>[.p (.int .i64 ((l.2 k).1)),.p (.int .i64 ((l.2 k).2.1))])⟩),(1,⟨true,3,1,(fun i_1=>[.p (.int .i64 0),.p (.nil),.p (.nil)])⟩)] [0,1,1283] 1 (n+1) (fun i=>if (i<n) then [.p (.int .i64 ((h i).1)),.p (.int .i64 ((h i).2.1))] else [.p (.int .i64 ((l.2 k).1)),.p (.int .i64 ((l.2 k).2.1))]) (fun i=>[.p (.int .i64 (if i<n then (h i).1 else (l.2 k).1)),.p (.int .i64 (if i<n then (h i).2.1 else (l.2 k).2.1))]))] [0,1,2,3,4,3,3,3,5,3,4,3,3,3,4,6,7,8,9,10,7,11,12,13,14,15,11,12,16,12,17,18,12,12,12,19,3,20,21,22,23,3,3,4,24,25,26,26,26,27,28,29,30,31,32,20,20,33,34,35,36,37,38,39,32,20,20,40,33,41,42]):=by kernel_rfl
theorem dAf (q:T_Pinned) (l:T_BarS) (k n:Nat) (h:Nat→T_Bar) (v:T_Graph) (b1 b2:Bool) (r1 r2:Int) :
    zM 0 [rg 1,.dec true,rg 4,rm [(6,oc [(0,brOb v.2.1.1 v.2.1.2)] (zf96 v b1))] 6,rg 6,rm [(3,oc [] (.p (.bool b2))),(3,oc [] (.p (.int .i64 r2))),(1,oc [] (.p (.int .i64 r1)))] 3,.dec false,rg 2,.head] zf64 (SAd q l k n h) [0,1,2] 1 (SAd q l (k+1) n h) =
    some (zf64,zD [((decide ((↑k:Int)<(↑l.1:Int)))=true),(IL 0 (↑k:Int)),(IT (↑k:Int) (↑l.1:Int)),(NT 0 1),((true=true)→ (AN 1)),zE 84 [(zf78 q),.p (.int .i64 ((l.2 k).1)),.p (.int .i64 ((l.2 k).2.1))] (zf83 v) ((zf96 v b1)),((b1=true)→(NT 0 1)),(AG b1),((b1=true)→ (AN 2)),((b1=true)→(NL v.2.1.1 v.2.1.1)),((b1=true)→ zE 73 [(zf22 v q)] [] (.p (.bool b2))),(((bif b1 then b2 else false)=true)→(NT 0 1)),(AG (bif b1 then b2 else false)),(((bif b1 then b2 else false)=true)→ (AN 2)),(((bif b1 then b2 else false)=true)→(NL v.2.1.1 v.2.1.1)),(((bif b1 then b2 else false)=true)→ zE 149 [(zf22 v q)] [] (.p (.int .i64 r2))),(((bif b1 then b2 else false)=true)→ zE 149 [(zf20 q)] [] (.p (.int .i64 r1))),(((bif b1 then b2 else false)=true)→(ZLo (r1+1))),(((bif b1 then b2 else false)=true)→(ZHi (r1+1))),((bif bif b1 then b2 else false then r2==r1+1 else false)=false),(ZLo ((↑k:Int)+1)),(ZHi ((↑k:Int)+1)),(AN 0),(AN n),(AN l.1),(AP l.1 (fun i=>[.int .i64 ((l.2 i).1),.int .i64 ((l.2 i).2.1)])),(AI ((↑l.1:Int))),((((↑k:Int)+1):Int)=(↑(k+1):Int)),(AN 3),(NL 1 1),(AI q.1.1),(AN q.1.2.1.1),(AP q.1.2.1.1 (fun i=>[.int .i64 ((q.1.2.1.2 i).1),.int .i64 ((q.1.2.1.2 i).2.1)])),(AN q.2.1.1),(AP q.2.1.1 (fun i=>[.int .i64 (q.2.1.2 i)])),(AI 0),(AN 2),(NL n n),(AA n (fun i=>[.p (.int .i64 ((h i).1)),.p (.int .i64 ((h i).2.1))]))] [0,1,2,3,4,3,3,3,5,3,4,3,3,3,4,6,7,8,9,10,7,11,12,13,14,15,11,12,16,12,17,18,12,12,12,19,20,21,22,22,22,23,24,25,26,27,28,29,29,30,31,32,33,34,28,29,29,35,36,37,38]):=by kernel_rfl
theorem dAe (q:T_Pinned) (l:T_BarS) (k n:Nat) (h:Nat→T_Bar) :
    zP Tryz.f74 0 [rg 1,.dec false,rg 4] zf64 (SAd q l k n h) [2] 1 [(0,brOb n h)] (.tup [pinF q,.ar 2 0 0 n]) =
    some [((decide ((↑k:Int)<(↑l.1:Int)))=false),(NT 0 1),(NT 0 1),((true=true)→ (AN 1)),(NT 0 1),(AI q.1.1),(AN q.1.2.1.1),(AP q.1.2.1.1 (fun i=>[.int .i64 ((q.1.2.1.2 i).1),.int .i64 ((q.1.2.1.2 i).2.1)])),(AN q.2.1.1),(AP q.2.1.1 (fun i=>[.int .i64 (q.2.1.2 i)])),(AN 0),(AN n),(AN 2),(NL n n),(AA n (fun i=>[.p (.int .i64 ((h i).1)),.p (.int .i64 ((h i).2.1))])),(false=false),(AE q.1.2.1.1),(false=false),(AE q.2.1.1),(AE n)]:=by kernel_rfl
def nxP (q:T_Pinned) (x:T_Bar):T_Pinned:=(abG q.1 x.1 x.2.1,q.2)
noncomputable def adT (q:T_Pinned) (x:T_Bar):Bool:=bif bif abB q.1 x.1 x.2.1 then pinnedF (nxP q x) else false then prG (nxP q x)==prG q+1 else false
noncomputable def adD (p:T_Pinned) (s:Nat→T_Bar):Nat→T_Pinned×NB
  | 0=>(p,zNB)
  | k+1=>if adT (adD p s k).1 (s k)=true then (nxP (adD p s k).1 (s k),sn (adD p s k).2 (s k)) else adD p s k
theorem adT_in {q:T_Pinned} {x:T_Bar} (h:adT q x=true):abB q.1 x.1 x.2.1=true∧pinnedF (nxP q x)=true∧prG (nxP q x)=prG q+1:=by
  unfold adT at h
  cases h1:abB q.1 x.1 x.2.1<;>cases h2:pinnedF (nxP q x)<;>rw [h1,h2] at h<;>simp at h
  exact ⟨rfl,rfl,h⟩
theorem adD_n (p:T_Pinned) (s:Nat→T_Bar):∀ k,(adD p s k).2.1≤k
  | 0=>Nat.le_refl _
  | k+1=>by
    have:=adD_n p s k
    simp only [adD]
    split
    · simp only [sn];omega
    · omega
theorem arI_congr (v:T_Graph) {l m:T_BarS}:∀ n,(∀ i,i<n→l.2 i=m.2 i)→arI v l n=arI v m n
  | 0,_=>rfl
  | n+1,h=>by simp only [arI];rw [arI_congr v n (fun i hi=>h i (by omega)),h n (by omega)]
theorem arI_snoc (v:T_Graph) (r:NB) (x:T_Bar):arI v (sn r x) (r.1+1)=((arI v r r.1).1&&abB (arI v r r.1).2 x.1 x.2.1,abG (arI v r r.1).2 x.1 x.2.1):=by
  have e:(sn r x).2 r.1=x:=snoc_ge (Nat.lt_irrefl _)
  simp only [arI]
  rw [arI_congr v (l:=sn r x) (m:=r) r.1 (fun i hi=>snoc_lt hi),e]
structure AdOk (p:T_Pinned) (d:T_Pinned×NB):Prop where
  pin:pinnedF d.1=true
  eq:d.1=((arI p.1 d.2 d.2.1).2,p.2)
  ok:(arI p.1 d.2 d.2.1).1=true
  rk:prG d.1=prG p+d.2.1
theorem adD_ok (p:T_Pinned) (hp:pinnedF p=true) (s:Nat→T_Bar):∀ k,AdOk p (adD p s k)
  | 0=>⟨hp,rfl,rfl,by show prG p=prG p+((0:Nat):Int);omega⟩
  | k+1=>by
    have ih:=adD_ok p hp s k
    simp only [adD]
    split
    · rename_i h
      obtain ⟨h1,h2,h3⟩:=adT_in h
      have e:=arI_snoc p.1 (adD p s k).2 (s k)
      have e1:(adD p s k).1.1=(arI p.1 (adD p s k).2 (adD p s k).2.1).2:=by rw [ih.eq]
      have e2:(adD p s k).1.2=p.2:=by rw [ih.eq]
      refine ⟨h2,?_,?_,?_⟩
      · show nxP _ _=((arI p.1 (sn (adD p s k).2 (s k)) ((adD p s k).2.1+1)).2,p.2)
        rw [e,nxP,e1,e2]
      · show (arI p.1 (sn (adD p s k).2 (s k)) ((adD p s k).2.1+1)).1=true
        rw [e,← e1]
        simp [ih.ok,h1]
      · show prG (nxP _ _)=prG p+(((adD p s k).2.1+1:Nat):Int)
        rw [h3,ih.rk];omega
    · exact ih
theorem ad_arB {p:T_Pinned} (hp:pinnedF p=true) {d:T_Pinned×NB} (ih:AdOk p d) (x:T_Bar) :
    arB p (sn d.2 x)=(bif abB d.1.1 x.1 x.2.1 then pinnedF (nxP d.1 x) else false)∧(arB p (sn d.2 x)=true→arP p (sn d.2 x)=nxP d.1 x):=by
  have e:=arI_snoc p.1 d.2 x
  have e1:d.1.1=(arI p.1 d.2 d.2.1).2:=by rw [ih.eq]
  have e2:d.1.2=p.2:=by rw [ih.eq]
  have hb:arB p (sn d.2 x)=(bif abB d.1.1 x.1 x.2.1 then pinnedF (nxP d.1 x) else false):=by
    unfold arB
    show (pinnedF p&&((arI p.1 (sn d.2 x) (d.2.1+1)).1&&pinnedF ((arI p.1 (sn d.2 x) (d.2.1+1)).2,p.2)))=_
    rw [e,← e1,nxP,e2,hp,ih.ok]
    cases abB d.1.1 x.1 x.2.1<;>simp
  refine ⟨hb,fun h=>?_⟩
  unfold arP
  rw [if_pos h]
  show ((arI p.1 (sn d.2 x) (d.2.1+1)).2,p.2)=_
  rw [e,← e1,nxP,e2]
theorem ad_arD {p:T_Pinned} (hp:pinnedF p=true) {d:T_Pinned×NB} (ih:AdOk p d):arB p d.2=true∧arP p d.2=d.1:=by
  have h:arB p d.2=true:=by
    unfold arB
    rw [hp,ih.ok,← ih.eq,ih.pin];rfl
  refine ⟨h,?_⟩
  unfold arP
  rw [if_pos h,← ih.eq]
theorem sm_pinned {p:T_Pinned} (h:pinnedF p=true):smS s_Pinned p:=by
  have:=pinned_in h
  have:=(graph_inR this.1).2.2.1
  exact sm_pin (by omega) (by omega)
theorem sm_nx {q:T_Pinned} (h:pinnedF q=true) (x:T_Bar):smS s_Pinned (nxP q x):=by
  have:=pinned_in h
  have:=(graph_inR this.1).2.2.1
  have:=abG_n q.1 x.1 x.2.1
  exact sm_pin (by show (abG q.1 x.1 x.2.1).2.1.1≤1048576;omega) (by show q.2.1.1≤1048576;omega)
theorem con_added (p:T_Pinned) (hp:pinnedF p=true) (l:T_BarS) (hl:l.1≤1048576) :
    zE 74 [pinF p,graphL l] [(0,brOb (adD p l.2 l.1).2.1 (adD p l.2 l.1).2.2)] (.tup [pinF (adD p l.2 l.1).1,.ar 2 0 0 (adD p l.2 l.1).2.1]):=by
  refine csZ Tryz.func74 (fun c hc=>?_)
  generalize hR:adD p l.2 l.1=R
  have lo:∀ d k,k+d=l.1→zR c 74 zf64 (SAd (adD p l.2 k).1 l k (adD p l.2 k).2.1 (adD p l.2 k).2.2) (Post c [(0,brOb R.2.1 R.2.2)] (.tup [pinF R.1,.ar 2 0 0 R.2.1])):=by
    intro d
    induction d with
    | zero =>
      intro k hk
      obtain rfl:k=l.1:=by omega
      have hd:decide ((l.1:Int)<(l.1:Int))=false:=by simp
      rw [hR]
      refine pkZ Tryz.func74 hc (dAe R.1 l l.1 R.2.1 R.2.2) ?_
      and_intros
      all_goals (first | exact zI | (exact hd) | (intro t ht;simp [All,ntP,ntL]))
    | succ d ih =>
      intro k hk
      have hd:decide ((k:Int)<(l.1:Int))=true:=decide_eq_true (by omega)
      have hrec:=ih (k+1) (by omega)
      have hn:=adD_n p l.2 k
      have hok:=adD_ok p hp l.2 k
      have hsd:adD p l.2 (k+1)=if adT (adD p l.2 k).1 (l.2 k)=true then (nxP (adD p l.2 k).1 (l.2 k),sn (adD p l.2 k).2 (l.2 k)) else adD p l.2 k:=rfl
      generalize adD p l.2 k=q at hn hok hsd ⊢
      have hgr:=pinned_in hok.pin
      have hnb:=(graph_inR hgr.1).2.2.1
      have ca:=con_AddBar_i q.1.1 (sm_graph (by omega)) (l.2 k).1 (l.2 k).2.1
      have c2:=con_IsPinned_i (nxP q.1 (l.2 k)) (sm_nx hok.pin _)
      have c3:=con_PinnedRank_i (nxP q.1 (l.2 k)) (sm_nx hok.pin _)
      have c4:=con_PinnedRank_i q.1 (sm_pinned hok.pin)
      have r1:=prG_in q.1
      cases ht:adT q.1 (l.2 k) with
      | true =>
        rw [ht,if_pos rfl] at hsd
        rw [hsd] at hrec
        refine pcD hc (dAt q.1 l k q.2.1 q.2.2 (abG q.1.1 (l.2 k).1 (l.2 k).2.1) (abB q.1.1 (l.2 k).1 (l.2 k).2.1) (pinnedF (nxP q.1 (l.2 k))) (prG q.1) (prG (nxP q.1 (l.2 k)))) ?_ hrec
        and_intros
        all_goals (first | exact zI | (exact hd) | (exact ca) | (intros;exact c2) | (intros;exact c3) | (intros;exact c4) | (exact ht) | (intro t ht;by_cases h':t<q.2.1<;>simp [h',snoc,cvtL,cvt,tg,tru,All]) | (intros;simp;omega))
      | false =>
        rw [ht,if_neg (by simp)] at hsd
        rw [hsd] at hrec
        refine pcD hc (dAf q.1 l k q.2.1 q.2.2 (abG q.1.1 (l.2 k).1 (l.2 k).2.1) (abB q.1.1 (l.2 k).1 (l.2 k).2.1) (pinnedF (nxP q.1 (l.2 k))) (prG q.1) (prG (nxP q.1 (l.2 k)))) ?_ hrec
        and_intros
        all_goals (first | exact zI | (exact hd) | (exact ca) | (intros;exact c2) | (intros;exact c3) | (intros;exact c4) | (exact ht) | (intro t ht;simp [All]) | (intros;simp;omega))
  refine pcZ hc (dAz p l) ?_ (lo l.1 0 (by omega))
  and_intros
  all_goals (first | exact zN | (intro t ht;exact absurd ht (Nat.not_lt_zero _)) | (intro t ht;simp [All]))
def SLf (p:T_Pinned) (l:T_BarS) (rk:Int) (k n:Nat) (h:Nat→T_Bar):St :=
  ⟨[pinA p,graphL l,.pt 3 0 0 0,.p .any,.p .any,.ar 2 1 0 n,.p (.int .i64 rk),.p (.int .i64 k)]++List.replicate 44 anyA,[(0,boxP p),(1,brOb n h)],2⟩
theorem dLz (p:T_Pinned) (l:T_BarS) (rk:Int) :
    zT Tryz.f78 [rg 2,rg 2,rm [(1,oc [] (.p (.int .i64 rk)))] 1,rg 1,.head] [pinA p,graphL l] [0,64] (SLf p l rk 0 0 (fun _=>(0,0,()))) =
    some (zf43,zD [(NT 0 1),zE 152 [(zf20 p)] [] (.p (.int .i64 rk)),(AI p.1.1),(AN p.1.2.1.1),(AP p.1.2.1.1 (fun i=>[.int .i64 ((p.1.2.1.2 i).1),.int .i64 ((p.1.2.1.2 i).2.1)])),(AN p.2.1.1),(AP p.2.1.1 (fun i=>[.int .i64 (p.2.1.2 i)])),(AN l.1),(AP l.1 (fun i=>[.int .i64 ((l.2 i).1),.int .i64 ((l.2 i).2.1)])),(AN 0),(AI rk),((0:Int)=(↑0:Int)),((([AV.p (PV.int IntKind.i64 p.1.1),graphL p.1.2.1,inL p.2.1].length):Nat)=3),(NL 1 1),(AN 2),(NL 0 0),(AA 0 (fun i=>[.p (.int .i64 0),.p (.int .i64 0)]))] [0,1,2,3,4,5,6,7,8,9,9,9,10,11,12,13,13,2,3,4,5,6,14,15,16]):=by kernel_rfl
theorem dLt (p q:T_Pinned) (l:T_BarS) (k n:Nat) (h:Nat→T_Bar) (b1:Bool) (rk r2:Int) :
    zM 0 [rg 4,.dec true,rm [(10,oc [(0,brOb q.1.2.1.1 q.1.2.1.2),(1,iOb q.2.1.1 q.2.1.2)] (zf88 q b1))] 6,rm [(3,oc [] (.p (.int .i64 r2)))] 7,.dec true,rg 8,rg 3,.head] zf43 (SLf p l rk k n h) [0,1218] 1 (SLf p l rk (k+1) (n+1) (snoc n h (l.2 k))) =
    some (zf43,zD [((decide ((↑k:Int)<(↑l.1:Int)))=true),(NT 0 1),(NL n n),(NL 0 0),(NL ((0+n)*16) 140737488355328),(NL (0+n) 9223372036854775807),(IL 0 (↑k:Int)),(IT (↑k:Int) (↑l.1:Int)),(NL 1 1),(NL (0+n) (0+n)),(NL ((0+n+1)*16) 140737488355328),(NL (0+n+1) 9223372036854775807),(AN 2),(NL (0+n+1) (0+n+1)),zE 19 [(zf20 p),.p (.seq true 2 (0+n+1) (fun i=>[(cellP true (if (i<0+n) then [.p (.int .i64 ((h i).1)),.p (.int .i64 ((h i).2.1))] else [.p (.int .i64 ((l.2 k).1)),.p (.int .i64 ((l.2 k).2.1))]) 0),(cellP true (if (i<0+n) then [.p (.int .i64 ((h i).1)),.p (.int .i64 ((h i).2.1))] else [.p (.int .i64 ((l.2 k).1)),.p (.int .i64 ((l.2 k).2.1))]) 1)]))] (zf24 q) ((zf88 q b1)),((true=true)→ (AN 1)),((b1=true)→(NT 0 1)),(AG b1),((b1=true)→ (AN 2)),((b1=true)→(NL q.1.2.1.1 q.1.2.1.1)),((b1=true)→ (AN 1)),((b1=true)→(NL q.2.1.1 q.2.1.1)),((b1=true)→ zE 152 [(zf20 q)] [] (.p (.int .i64 r2))),((b1=true)→(ZLo (rk+(↑n:Int)))),((b1=true)→(ZHi (rk+(↑n:Int)))),((b1=true)→(ZLo (rk+(↑n:Int)+1))),((b1=true)→(ZHi (rk+(↑n:Int)+1))),((bif b1 then r2==rk+(↑n:Int)+1 else false)=true),(NL ((n+1)*16) 140737488355328),(NL (n+1) 9223372036854775807),(ZLo ((↑k:Int)+1)),(ZHi ((↑k:Int)+1)),(AI p.1.1),(AN p.1.2.1.1),(AP p.1.2.1.1 (fun i=>[.int .i64 ((p.1.2.1.2 i).1),.int .i64 ((p.1.2.1.2 i).2.1)])),(AN p.2.1.1),(AP p.2.1.1 (fun i=>[.int .i64 (p.2.1.2 i)])),(AN l.1),(AP l.1 (fun i=>[.int .i64 ((l.2 i).1),.int .i64 ((l.2 i).2.1)])),(AN 0),(AN ((n+1))),(AI rk),((((↑k:Int)+1):Int)=(↑(k+1):Int)),(AN 3),(NL (n+1) (n+1)),(CV [(1218,⟨false,2,(n+1),(fun i_1=>(if (i_1<n) then [.p (.int .i64 ((h i_1).1)),.p (.int .i64 ((h i_1).2.1))] else [.p (.int .i64 ((l.2 k).1)),.p (.int .i64 ((l.2 k).2.1))]))⟩),(1186,⟨false,2,1,(fun i_1=>[.p (.int .i64 ((l.2 k).1)),.p (.int .i64 ((l.2 k).2.1))])⟩),(578,⟨true,3,1,(fun i_1=>[.p (.int .i64 q.1.1),.ar 2 450 0 q.1.2.1.1,.ar 1 451 0 q.2.1.1])⟩),(451,⟨false,1,q.2.1.1,(fun i_1=>[.p (.int .i64 (q.2.1.2 i_1))])⟩),(450,⟨false,2,q.1.2.1.1,(fun i_1=>[.p (.int .i64 ((q.1.2.1.2 i_1).1)),.p (.int .i64 ((q.1.2.1.2 i_1).2.1))])⟩),(418,⟨false,2,(0+n+1),(fun i_1=>(if (i_1<0+n) then [.p (.int .i64 ((h i_1).1)),.p (.int .i64 ((h i_1).2.1))] else [.p (.int .i64 ((l.2 k).1)),.p (.int .i64 ((l.2 k).2.1))]))⟩),(386,⟨false,2,1,(fun i_1=>[.p (.int .i64 ((l.2 k).1)),.p (.int .i64 ((l.2 k).2.1))])⟩),(0,⟨true,3,1,(fun i_1=>[.p (.int .i64 p.1.1),.p (.seq true 2 p.1.2.1.1 (fun i_2=>[.int .i64 ((p.1.2.1.2 i_2).1),.int .i64 ((p.1.2.1.2 i_2).2.1)])),.p (.seq true 1 p.2.1.1 (fun i_2=>[.int .i64 (p.2.1.2 i_2)]))])⟩)] [0,1218] 1 (n+1) (fun i=>if (i<n) then [.p (.int .i64 ((h i).1)),.p (.int .i64 ((h i).2.1))] else [.p (.int .i64 ((l.2 k).1)),.p (.int .i64 ((l.2 k).2.1))]) (fun i=>[.p (.int .i64 (if i<n then (h i).1 else (l.2 k).1)),.p (.int .i64 (if i<n then (h i).2.1 else (l.2 k).2.1))]))] [0,1,2,3,4,5,6,7,8,9,10,11,12,13,14,1,15,16,17,18,19,20,21,22,17,17,17,23,24,17,25,26,17,17,17,27,6,7,8,2,28,29,30,31,32,33,34,35,36,37,38,39,39,40,41,42,43,8,8,32,33,34,35,36,12,44,45]):=by kernel_rfl
theorem dLf (p q:T_Pinned) (l:T_BarS) (k n:Nat) (h:Nat→T_Bar) (b1:Bool) (rk r2:Int) :
    zM 0 [rg 4,.dec true,rm [(10,oc [(0,brOb q.1.2.1.1 q.1.2.1.2),(1,iOb q.2.1.1 q.2.1.2)] (zf88 q b1))] 6,rm [(3,oc [] (.p (.int .i64 r2)))] 7,.dec false,rg 3,.head] zf43 (SLf p l rk k n h) [0,1] 1 (SLf p l rk (k+1) n h) =
    some (zf43,zD [((decide ((↑k:Int)<(↑l.1:Int)))=true),(NT 0 1),(NL n n),(NL 0 0),(NL ((0+n)*16) 140737488355328),(NL (0+n) 9223372036854775807),(IL 0 (↑k:Int)),(IT (↑k:Int) (↑l.1:Int)),(NL 1 1),(NL (0+n) (0+n)),(NL ((0+n+1)*16) 140737488355328),(NL (0+n+1) 9223372036854775807),(AN 2),(NL (0+n+1) (0+n+1)),zE 19 [(zf20 p),.p (.seq true 2 (0+n+1) (fun i=>[(cellP true (if (i<0+n) then [.p (.int .i64 ((h i).1)),.p (.int .i64 ((h i).2.1))] else [.p (.int .i64 ((l.2 k).1)),.p (.int .i64 ((l.2 k).2.1))]) 0),(cellP true (if (i<0+n) then [.p (.int .i64 ((h i).1)),.p (.int .i64 ((h i).2.1))] else [.p (.int .i64 ((l.2 k).1)),.p (.int .i64 ((l.2 k).2.1))]) 1)]))] (zf24 q) ((zf88 q b1)),((true=true)→ (AN 1)),((b1=true)→(NT 0 1)),(AG b1),((b1=true)→ (AN 2)),((b1=true)→(NL q.1.2.1.1 q.1.2.1.1)),((b1=true)→ (AN 1)),((b1=true)→(NL q.2.1.1 q.2.1.1)),((b1=true)→ zE 152 [(zf20 q)] [] (.p (.int .i64 r2))),((b1=true)→(ZLo (rk+(↑n:Int)))),((b1=true)→(ZHi (rk+(↑n:Int)))),((b1=true)→(ZLo (rk+(↑n:Int)+1))),((b1=true)→(ZHi (rk+(↑n:Int)+1))),((bif b1 then r2==rk+(↑n:Int)+1 else false)=false),(ZLo ((↑k:Int)+1)),(ZHi ((↑k:Int)+1)),(AI p.1.1),(AN p.1.2.1.1),(AP p.1.2.1.1 (fun i=>[.int .i64 ((p.1.2.1.2 i).1),.int .i64 ((p.1.2.1.2 i).2.1)])),(AN p.2.1.1),(AP p.2.1.1 (fun i=>[.int .i64 (p.2.1.2 i)])),(AN l.1),(AP l.1 (fun i=>[.int .i64 ((l.2 i).1),.int .i64 ((l.2 i).2.1)])),(AN 0),(AN n),(AI rk),((((↑k:Int)+1):Int)=(↑(k+1):Int)),(AN 3),(AA n (fun i=>[.p (.int .i64 ((h i).1)),.p (.int .i64 ((h i).2.1))]))] [0,1,2,3,4,5,6,7,8,9,10,11,12,13,14,1,15,16,17,18,19,20,21,22,17,17,17,23,24,17,25,26,17,17,17,27,28,29,30,31,32,33,34,35,36,37,37,38,39,40,41,8,8,30,31,32,33,34,12,2,42]):=by kernel_rfl
theorem dLe (p:T_Pinned) (l:T_BarS) (rk:Int) (k n:Nat) (h:Nat→T_Bar) :
    zP Tryz.f78 0 [rg 4,.dec false,rg 2] zf43 (SLf p l rk k n h) [1] 1 [(0,brOb n h)] (.ar 2 0 0 n) =
    some [((decide ((↑k:Int)<(↑l.1:Int)))=false),(AN 0),(AN n),(AN 2),(NL n n),(AA n (fun i=>[.p (.int .i64 ((h i).1)),.p (.int .i64 ((h i).2.1))])),(AE n)]:=by kernel_rfl
theorem rBn (p:T_Pinned) :
    zS Tryz.f8 [rg 3,rm [(1,oc [] (.p (.bool false)))] 1,.dec true,rg 3] [pinA p] [192] [(0,brOb 0 (fun _=>(0,0,())))] (.tup [.ar 2 0 0 0,.p (.bool false)]) =
    some [(NT 0 1),zE 73 [(zf20 p)] [] (.p (.bool false)),((!false)=true),(AN 0),(AN 0),(false=false),(AN 2),(NL 0 0),(AA 0 (fun i=>[.p (.int .i64 0),.p (.int .i64 0)])),(AE 0)]:=by kernel_rfl
theorem rBf (p q:T_Pinned) (n m:Nat) (h g:Nat→T_Bar) :
    zS Tryz.f8 [rg 3,rm [(1,oc [] (.p (.bool true)))] 1,.dec false,rm [(3,oc [(0,brOb n h)] (.ar 2 0 0 n)),(0,⟨true,(some ⟨[],[0],[],1,[(0,brOb m g)],.tup [pinF q,.ar 2 0 0 m]⟩),none⟩)] 6,rm [(1,oc [] (.p (.bool false)))] 1,.dec true,rg 3] [pinA p] [640] [(0,brOb 0 (fun _=>(0,0,())))] (.tup [.ar 2 0 0 0,.p (.bool false)]) =
    some [(NT 0 1),zE 73 [(zf20 p)] [] (.p (.bool true)),((!true)=false),(NT 0 1),(NT 0 1),zE 75 [(zf78 p)] (zf89 n h) (.ar 2 0 0 n),(AN 2),(NL n n),zE 74 [(zf18 p),.p (.seq true 2 n (bRw h))] (zf89 m g) ((zf16 q m)),(NT 0 1),((true=true)→ (AN 1)),(NT 0 1),zE 76 [(zf20 q)] [] (.p (.bool false)),((!false)=true),(AN 0),(AN 0),(false=false),(AN 2),(NL 0 0),(AA 0 (fun i=>[.p (.int .i64 0),.p (.int .i64 0)])),(AE 0)]:=by kernel_rfl
theorem rBt (p q:T_Pinned) (n m:Nat) (h g:Nat→T_Bar) :
    zS Tryz.f8 [rg 3,rm [(1,oc [] (.p (.bool true)))] 1,.dec false,rm [(3,oc [(0,brOb n h)] (.ar 2 0 0 n)),(0,⟨true,(some ⟨[],[0],[],1,[(0,brOb m g)],.tup [pinF q,.ar 2 0 0 m]⟩),none⟩)] 6,rm [(1,oc [] (.p (.bool true)))] 1,.dec false,rg 3] [pinA p] [320] [(0,brOb m g)] (.tup [.ar 2 0 0 m,.p (.bool true)]) =
    some (zD [(NT 0 1),zE 73 [(zf20 p)] [] (.p (.bool true)),((!true)=false),zE 75 [(zf78 p)] (zf89 n h) (.ar 2 0 0 n),(AN 2),(NL n n),zE 74 [(zf18 p),.p (.seq true 2 n (bRw h))] (zf89 m g) ((zf16 q m)),((true=true)→ (AN 1)),zE 76 [(zf20 q)] [] (.p (.bool true)),(AN 0),(AN m),(true=true),(NL m m),(AA m (fun i=>[.p (.int .i64 ((g i).1)),.p (.int .i64 ((g i).2.1))])),(AE m)] [0,1,2,0,0,3,4,5,6,0,7,0,8,2,9,10,11,4,12,13,14]):=by kernel_rfl
theorem rDn (p:T_Pinned) :
    zS Tryz.f9 [rg 3,rm [(1,oc [] (.p (.bool false)))] 1,.dec true,rg 3] [pinA p] [192] [(0,brOb 0 (fun _=>(0,0,())))] (.tup [.ar 2 0 0 0,.p (.bool false)]) =
    some [(NT 0 1),zE 77 [(zf20 p)] [] (.p (.bool false)),((!false)=true),(AN 0),(AN 0),(false=false),(AN 2),(NL 0 0),(AA 0 (fun i=>[.p (.int .i64 0),.p (.int .i64 0)])),(AE 0)]:=by kernel_rfl
theorem rDf (p:T_Pinned) (n m:Nat) (h g:Nat→T_Bar) :
    zS Tryz.f9 [rg 3,rm [(1,oc [] (.p (.bool true)))] 1,.dec false,rm [(3,oc [(0,brOb n h)] (.ar 2 0 0 n)),(0,oc [(0,brOb m g)] (.ar 2 0 0 m))] 1,rm [(2,oc [] (.p (.bool false)))] 1,.dec true,rg 3] [pinA p] [512] [(0,brOb 0 (fun _=>(0,0,())))] (.tup [.ar 2 0 0 0,.p (.bool false)]) =
    some [(NT 0 1),zE 77 [(zf20 p)] [] (.p (.bool true)),((!true)=false),(NT 0 1),(NT 0 1),zE 79 [(zf78 p)] (zf89 n h) (.ar 2 0 0 n),(AN 2),(NL n n),zE 78 [(zf20 p),.p (.seq true 2 n (bRw h))] (zf89 m g) (.ar 2 0 0 m),(NT 0 1),(AN 2),(NL m m),zE 16 [(zf20 p),.p (.seq true 2 m (bRw g))] [] (.p (.bool false)),((!false)=true),(AN 0),(AN 0),(false=false),(AN 2),(NL 0 0),(AA 0 (fun i=>[.p (.int .i64 0),.p (.int .i64 0)])),(AE 0)]:=by kernel_rfl
theorem rDt (p:T_Pinned) (n m:Nat) (h g:Nat→T_Bar) :
    zS Tryz.f9 [rg 3,rm [(1,oc [] (.p (.bool true)))] 1,.dec false,rm [(3,oc [(0,brOb n h)] (.ar 2 0 0 n)),(0,oc [(0,brOb m g)] (.ar 2 0 0 m))] 1,rm [(2,oc [] (.p (.bool true)))] 1,.dec false,rg 3] [pinA p] [320] [(0,brOb m g)] (.tup [.ar 2 0 0 m,.p (.bool true)]) =
    some (zD [(NT 0 1),zE 77 [(zf20 p)] [] (.p (.bool true)),((!true)=false),zE 79 [(zf78 p)] (zf89 n h) (.ar 2 0 0 n),(AN 2),(NL n n),zE 78 [(zf20 p),.p (.seq true 2 n (bRw h))] (zf89 m g) (.ar 2 0 0 m),(NL m m),zE 16 [(zf20 p),.p (.seq true 2 m (bRw g))] [] (.p (.bool true)),(AN 0),(AN m),(true=true),(AA m (fun i=>[.p (.int .i64 ((g i).1)),.p (.int .i64 ((g i).2.1))])),(AE m)] [0,1,2,0,0,3,4,5,6,0,4,7,8,2,9,10,11,4,7,12,13]):=by kernel_rfl
theorem cRn (p:T_Pinned) (l:T_BarS) (b:Bool) :
    zS Tryz.f14 [rg 2,rm [(1,oc [] (.p (.bool b)))] 6,.dec true,rg 1] [pinA p,graphL l] [] [] (.p (.bool false)) =
    some [(NT 0 1),zE 73 [(zf20 p)] [] (.p (.bool b)),(AG (!!b)),(AG (!!b)),(((!b)=false)→ ((!!b)=true)),((bif !b then true else decide ((↑l.1:Int)>24))=true),(false=false)]:=by kernel_rfl
theorem cRy (p q:T_Pinned) (l:T_BarS) (b:Bool) (m:Nat) (g:Nat→T_Bar) (r:Int) :
    zS Tryz.f14 [rg 2,rm [(1,oc [] (.p (.bool b)))] 6,.dec false,rm [(2,⟨true,(some ⟨[],[0],[],1,[(0,brOb m g)],.tup [pinF q,.ar 2 0 0 m]⟩),none⟩)] 6,rm [(3,oc [] (.p (.int .i64 r)))] 2] [pinA p,graphL l] [] [] (.p (.bool ((m:Int)==r))) =
    some (zD [(NT 0 1),zE 73 [(zf20 p)] [] (.p (.bool b)),(AG (!!b)),(((!b)=false)→ ((!!b)=true)),((bif !b then true else decide ((↑l.1:Int)>24))=false),zE 74 [(zf18 p),.p (.seq true 2 l.1 (fun i=>[.int .i64 ((l.2 i).1),.int .i64 ((l.2 i).2.1)]))] (zf89 m g) ((zf16 q m)),((true=true)→ (AN 1)),zE 80 [(zf20 p)] [] (.p (.int .i64 r)),(((↑m:Int)==r)=((↑m:Int)==r))] [0,1,2,2,3,4,0,5,0,6,0,7,8]):=by kernel_rfl
theorem cSyR (p:T_Pinned) (l:T_BarS) (m:Nat) (g:Nat→T_Bar) (r:Int) :
    zS Tryz.f25 [rg 2,rm [(1,oc [] (.p (.bool true))),(1,gT),(0,gT),(0,gT),(0,gT),(1,gT),(0,gT),(0,⟨true,(some ⟨[],[],[],1,[(0,brOb m g)],.ar 2 0 0 m⟩),some true⟩),(0,gT),(0,gT),(0,⟨true,(some ⟨[],[],[],1,[],.p (.int .i64 r)⟩),some true⟩),(0,gT),(0,gT)] 1] [pinA p,graphL l] [] [] (.p (.bool ((m:Int)==r))) =
    some (zD [(NT 0 1),zE 77 [(zf20 p)] [] (.p (.bool true)),(true=true),((decide ((↑l.1:Int)≤24))=true),zE 78 [(zf20 p),.p (.seq true 2 l.1 (fun i=>[.int .i64 ((l.2 i).1),.int .i64 ((l.2 i).2.1)]))] (zf89 m g) (.ar 2 0 0 m),zE 81 [(zf20 p)] [] (.p (.int .i64 r)),(((↑m:Int)==r)=((↑m:Int)==r))] [0,1,2,2,2,2,3,0,3,3,4,3,3,0,3,5,3,3,6]):=by kernel_rfl
theorem cSn (p:T_Pinned) (l:T_BarS) :
    zS Tryz.f25 [rg 2,rm [(1,oc [] (.p (.bool false))),(1,gF),(0,gF),(0,gF),(0,gF),(1,gF),(0,gF),(0,gF),(0,gF),(0,gF),(0,gF),(0,gF),(0,gF)] 1] [pinA p,graphL l] [] [] (.p (.bool false)) =
    some (zD [(NT 0 1),zE 77 [(zf20 p)] [] (.p (.bool false)),(false=false)] [0,1,2,2,2,2,2,2,2,2,2,2,2,2,2]):=by kernel_rfl
theorem cSm (p:T_Pinned) (l:T_BarS) :
    zS Tryz.f25 [rg 2,rm [(1,oc [] (.p (.bool true))),(1,gT),(0,gT),(0,gT),(0,gT),(1,gF),(0,gF),(0,gF),(0,gF),(0,gF),(0,gF),(0,gF),(0,gF)] 1] [pinA p,graphL l] [] [] (.p (.bool false)) =
    some (zD [(NT 0 1),zE 77 [(zf20 p)] [] (.p (.bool true)),(true=true),((decide ((↑l.1:Int)≤24))=false),(false=false)] [0,1,2,2,2,2,3,3,3,3,3,3,3,3,4]):=by kernel_rfl
theorem put_arg {f:Nat} {H':Hp} {res:AV} (p:T_Pinned) (r:NB) (x:T_Bar) (h:Con Tryz.prog f 0 [] [pinA p,graphL (sn r x)] H' res) :
    Con Tryz.prog f 0 [] [pinA p,.p (.seq true 2 (0+r.1+1) (fun i=>[cellP true (if i<0+r.1 then [.p (.int .i64 (r.2 i).1),.p (.int .i64 (r.2 i).2.1)] else [.p (.int .i64 x.1),.p (.int .i64 x.2.1)]) 0,
      cellP true (if i<0+r.1 then [.p (.int .i64 (r.2 i).1),.p (.int .i64 (r.2 i).2.1)] else [.p (.int .i64 x.1),.p (.int .i64 x.2.1)]) 1]))] H' res:=by
  have e:(.p (.seq true 2 (0+r.1+1) (fun i=>[cellP true (if i<0+r.1 then [.p (.int .i64 (r.2 i).1),.p (.int .i64 (r.2 i).2.1)] else [.p (.int .i64 x.1),.p (.int .i64 x.2.1)]) 0,
      cellP true (if i<0+r.1 then [.p (.int .i64 (r.2 i).1),.p (.int .i64 (r.2 i).2.1)] else [.p (.int .i64 x.1),.p (.int .i64 x.2.1)]) 1])):AV)=graphL (sn r x):=by
    simp only [graphL,sn,Nat.zero_add]
    congr 2
    funext i
    by_cases h:i<r.1<;>simp [h,snoc,cellP,tg,tru]
  rw [e]
  exact h
theorem con_l28From (p:T_Pinned) (hp:pinnedF p=true) (l:T_BarS) (hl:l.1≤1000000) :
    zE 78 [pinA p,graphL l] [(0,brOb (adD p l.2 l.1).2.1 (adD p l.2 l.1).2.2)] (.ar 2 0 0 (adD p l.2 l.1).2.1):=by
  have c0:=con_PinnedRank_s p (sm_pinned hp)
  refine csZ Tryz.func78 (fun c hc=>?_)
  generalize hR:adD p l.2 l.1=R
  have rp:=prG_in p
  have lo:∀ d k,k+d=l.1→zR c 78 zf43 (SLf p l (prG p) k (adD p l.2 k).2.1 (adD p l.2 k).2.2) (Post c [(0,brOb R.2.1 R.2.2)] (.ar 2 0 0 R.2.1)):=by
    intro d
    induction d with
    | zero =>
      intro k hk
      obtain rfl:k=l.1:=by omega
      have hd:decide ((l.1:Int)<(l.1:Int))=false:=by simp
      rw [hR]
      refine pkZ Tryz.func78 hc (dLe p l (prG p) l.1 R.2.1 R.2.2) ?_
      and_intros
      all_goals (first | exact zN | (exact hd) | (intro t ht;simp [All]))
    | succ d ih =>
      intro k hk
      have hd:decide ((k:Int)<(l.1:Int))=true:=decide_eq_true (by omega)
      have hrec:=ih (k+1) (by omega)
      have hn:=adD_n p l.2 k
      have hok:=adD_ok p hp l.2 k
      have hsd:adD p l.2 (k+1)=if adT (adD p l.2 k).1 (l.2 k)=true then (nxP (adD p l.2 k).1 (l.2 k),sn (adD p l.2 k).2 (l.2 k)) else adD p l.2 k:=rfl
      generalize adD p l.2 k=q at hn hok hsd ⊢
      have hA:=ad_arB hp hok (l.2 k)
      have ca:=con_ApplyRepair_s p (sm_pinned hp) (sn q.2 (l.2 k)) (by show q.2.1+1≤1048576;omega)
      have hgd:(bif arB p (sn q.2 (l.2 k)) then prG (arP p (sn q.2 (l.2 k)))==prG p+(q.2.1:Int)+1 else false)=adT q.1 (l.2 k):=by
        unfold adT
        rw [← hA.1]
        cases hb:arB p (sn q.2 (l.2 k)) with
        | false=>simp only [cond_false]
        | true=>rw [hA.2 hb,hok.rk]
      have c3:=con_PinnedRank_s (arP p (sn q.2 (l.2 k))) (sm_arP p _)
      generalize arP p (sn q.2 (l.2 k))=u at ca hgd c3
      generalize arB p (sn q.2 (l.2 k))=b at ca hgd
      cases ht:adT q.1 (l.2 k) with
      | true =>
        rw [ht,if_pos rfl] at hsd
        rw [hsd] at hrec
        rw [ht] at hgd
        refine pcD hc (dLt p u l k q.2.1 q.2.2 b (prG p) (prG u)) ?_ hrec
        and_intros
        all_goals (first | exact zI | (exact hd) | (intros;exact c3) | (exact hgd) | (exact put_arg p q.2 (l.2 k) ca) | (intro t ht;by_cases h':t<q.2.1<;>simp [h',snoc,cvtL,cvt,tg,tru,All]) | (intros;simp;omega))
      | false =>
        rw [ht,if_neg (by simp)] at hsd
        rw [hsd] at hrec
        rw [ht] at hgd
        refine pcD hc (dLf p u l k q.2.1 q.2.2 b (prG p) (prG u)) ?_ hrec
        and_intros
        all_goals (first | exact zI | (exact hd) | (intros;exact c3) | (exact hgd) | (exact put_arg p q.2 (l.2 k) ca) | (intro t ht;simp [All]) | (intros;simp;omega))
  refine pcD hc (dLz p l (prG p)) ?_ (lo l.1 0 (by omega))
  and_intros
  all_goals (first | exact zN | (exact c0) | (intro t ht;exact absurd ht (Nat.not_lt_zero _)) | (intro t ht;simp [All]))
noncomputable def rpD (p:T_Pinned):T_Pinned×NB:=adD p (msP p.1).2 (msP p.1).1
noncomputable def rbB (p:T_Pinned):Bool:=bif pinnedF p then rgB (rpD p).1 else false
noncomputable def rbL (p:T_Pinned):NB:=if rbB p=true then (rpD p).2 else zNB
theorem rbL_n (p:T_Pinned):(rbL p).1≤64:=by
  unfold rbL
  split
  · have:=adD_n p (msP p.1).2 (msP p.1).1
    have:=msP_n p.1
    unfold rpD;omega
  · exact Nat.zero_le _
theorem con_RepairBars_i (p:T_Pinned) (hs:smS s_Pinned p):zE 8 [pinA p] [(0,brOb (rbL p).1 (rbL p).2)] (.tup [.ar 2 0 0 (rbL p).1,.p (.bool (rbB p))]):=by
  have c1:=con_IsPinned_i p hs
  refine csZ Tryz.func8 (fun c hc=>?_)
  cases hp:pinnedF p with
  | false =>
    rw [hp] at c1
    have hb:rbB p=false:=by simp [rbB,hp]
    rw [hb,show rbL p=zNB by simp [rbL,hb]]
    refine pkZ Tryz.func8 hc (rBn p) ?_
    and_intros
    all_goals (first | exact zN | (exact c1) | (intro t ht;exact absurd ht (Nat.not_lt_zero _)) | (intro t ht;simp [All]))
  | true =>
    rw [hp] at c1
    have cm:=con_Missing_i p.1 (sm_graph hs.1.2.1.1)
    have hmn:=msP_n p.1
    have ca:=con_added p hp (msP p.1) (by omega)
    have hok:=adD_ok p hp (msP p.1).2 (msP p.1).1
    have cg:=con_IsPinnedRigid_i (adD p (msP p.1).2 (msP p.1).1).1 (sm_pinned hok.pin)
    have hb:rbB p=rgB (adD p (msP p.1).2 (msP p.1).1).1:=by simp [rbB,hp,rpD]
    have hL:rbL p=if rbB p=true then (adD p (msP p.1).2 (msP p.1).1).2 else zNB:=rfl
    rw [hL,hb]
    have hn:=adD_n p (msP p.1).2 (msP p.1).1
    generalize adD p (msP p.1).2 (msP p.1).1=q at ca cg hn ⊢
    generalize msP p.1=m at cm ca hmn hn
    cases hr:rgB q.1 with
    | false =>
      rw [hr] at cg
      simp only [Bool.false_eq_true,if_false]
      refine pkZ Tryz.func8 hc (rBf p q.1 m.1 q.2.1 m.2 q.2.2) ?_
      and_intros
      all_goals (first | exact zI | (exact c1) | (exact cm) | (exact ca) | (exact cg) | (intro t ht;exact absurd ht (Nat.not_lt_zero _)) | (intro t ht;simp [All]))
    | true =>
      rw [hr] at cg
      simp only [if_true]
      refine pkD Tryz.func8 hc (rBt p q.1 m.1 q.2.1 m.2 q.2.2) ?_
      and_intros
      all_goals (first | exact zI | (exact c1) | (exact cm) | (exact ca) | (exact cg) | (intro t ht;simp [All]))
theorem con_RepairBars_s (p:T_Pinned) (hs:smS s_Pinned p):zE 9 [pinA p] [(0,brOb (rbL p).1 (rbL p).2)] (.tup [.ar 2 0 0 (rbL p).1,.p (.bool (rbB p))]):=by
  have c1:=con_IsPinned_s p hs
  refine csZ Tryz.func9 (fun c hc=>?_)
  cases hp:pinnedF p with
  | false =>
    rw [hp] at c1
    have hb:rbB p=false:=by simp [rbB,hp]
    rw [hb,show rbL p=zNB by simp [rbL,hb]]
    refine pkZ Tryz.func9 hc (rDn p) ?_
    and_intros
    all_goals (first | exact zN | (exact c1) | (intro t ht;exact absurd ht (Nat.not_lt_zero _)) | (intro t ht;simp [All]))
  | true =>
    rw [hp] at c1
    have cm:=con_Missing_s p.1 (sm_graph hs.1.2.1.1)
    have hmn:=msP_n p.1
    have ca:=con_l28From p hp (msP p.1) (by omega)
    have hok:=adD_ok p hp (msP p.1).2 (msP p.1).1
    have hd:=ad_arD hp hok
    have hn:=adD_n p (msP p.1).2 (msP p.1).1
    have cg:=con_IsRepair_s p hs (adD p (msP p.1).2 (msP p.1).1).2 (by omega)
    have hi:irB p (adD p (msP p.1).2 (msP p.1).1).2=rgB (adD p (msP p.1).2 (msP p.1).1).1:=by simp only [irB,hd.1,hd.2,cond_true]
    rw [hi] at cg
    have hb:rbB p=rgB (adD p (msP p.1).2 (msP p.1).1).1:=by simp [rbB,hp,rpD]
    have hL:rbL p=if rbB p=true then (adD p (msP p.1).2 (msP p.1).1).2 else zNB:=rfl
    rw [hL,hb]
    generalize adD p (msP p.1).2 (msP p.1).1=q at ca cg hn ⊢
    generalize msP p.1=m at cm ca hmn hn
    cases hr:rgB q.1 with
    | false =>
      rw [hr] at cg
      simp only [Bool.false_eq_true,if_false]
      refine pkZ Tryz.func9 hc (rDf p m.1 q.2.1 m.2 q.2.2) ?_
      and_intros
      all_goals (first | exact zN | (exact c1) | (exact cm) | (exact ca) | (exact cg) | (intro t ht;exact absurd ht (Nat.not_lt_zero _)) | (intro t ht;simp [All]))
    | true =>
      rw [hr] at cg
      simp only [if_true]
      refine pkD Tryz.func9 hc (rDt p m.1 q.2.1 m.2 q.2.2) ?_
      and_intros
      all_goals (first | exact zN | (exact c1) | (exact cm) | (exact ca) | (exact cg) | (intro t ht;simp [All]))
noncomputable def crB (p:T_Pinned) (l:T_BarS):Bool:=bif bif pinnedF p then decide ((l.1:Int)≤24) else false then ((adD p l.2 l.1).2.1:Int)==frG p else false
theorem con_CanRepair_i (p:T_Pinned) (hs:smS s_Pinned p) (l:T_BarS) (hl:l.1≤1048576):zE 14 [pinA p,graphL l] [] (.p (.bool (crB p l))):=by
  have c1:=con_IsPinned_i p hs
  have cf:=con_PinnedFreedom_i p hs
  refine csZ Tryz.func14 (fun c hc=>?_)
  by_cases h:pinnedF p=true∧(l.1:Int)≤24
  · have hd:(bif !pinnedF p then true else decide ((l.1:Int)>24))=false:=by
      rw [h.1];exact decide_eq_false (by omega)
    have ca:=con_added p h.1 l hl
    have hb:crB p l=(((adD p l.2 l.1).2.1:Int)==frG p):=by
      unfold crB
      rw [h.1,decide_eq_true h.2];rfl
    rw [hb]
    refine pkD Tryz.func14 hc (cRy p (adD p l.2 l.1).1 l (pinnedF p) (adD p l.2 l.1).2.1 (adD p l.2 l.1).2.2 (frG p)) ?_
    and_intros
    all_goals (first | exact zH | (exact c1) | (exact hd) | (exact ca) | (exact cf))
  · have hd:(bif !pinnedF p then true else decide ((l.1:Int)>24))=true:=by
      cases hp:pinnedF p with
      | false=>rfl
      | true=>exact decide_eq_true (by have:¬ (l.1:Int)≤24:=fun h'=>h ⟨hp,h'⟩;omega)
    have hb:crB p l=false:=by
      unfold crB
      cases hp:pinnedF p with
      | false=>rfl
      | true =>
        have:¬ (l.1:Int)≤24:=fun h'=>h ⟨hp,h'⟩
        rw [decide_eq_false this];rfl
    rw [hb]
    refine pkZ Tryz.func14 hc (cRn p l (pinnedF p)) ?_
    and_intros
    all_goals (first | exact zH | (exact c1) | (exact hd))
theorem con_CanRepair_s (p:T_Pinned) (hs:smS s_Pinned p) (l:T_BarS) (hl:l.1≤1048576):zE 25 [pinA p,graphL l] [] (.p (.bool (crB p l))):=by
  have c1:=con_IsPinned_s p hs
  have cf:=con_PinnedFreedom_s p hs
  refine csZ Tryz.func25 (fun c hc=>?_)
  cases hp:pinnedF p with
  | false =>
    rw [hp] at c1
    rw [show crB p l=false by simp [crB,hp]]
    refine pkD Tryz.func25 hc (cSn p l) ?_
    and_intros
    all_goals (first | exact zN | (exact c1))
  | true =>
    rw [hp] at c1
    by_cases h:(l.1:Int)≤24
    · have hd:=decide_eq_true h
      have ca:=con_l28From p hp l (by omega)
      rw [show crB p l=(((adD p l.2 l.1).2.1:Int)==frG p) by simp only [crB,hp,hd,cond_true]]
      refine pkD Tryz.func25 hc (cSyR p l (adD p l.2 l.1).2.1 (adD p l.2 l.1).2.2 (frG p)) ?_
      and_intros
      all_goals (first | exact zN | (exact c1) | (exact hd) | (exact ca) | (exact cf))
    · have hd:=decide_eq_false h
      rw [show crB p l=false by simp only [crB,hp,hd,cond_true,cond_false]]
      refine pkD Tryz.func25 hc (cSm p l) ?_
      and_intros
      all_goals (first | exact zN | (exact c1) | (exact hd))
def eqGr (v u:T_Graph):Bool:=bif v.1==u.1 then q_BarS v.2.1 u.2.1 else false
def SEg9 (v u:T_Graph) (k:Nat):St :=
  ⟨[graphA v,graphA u,.pt 2 0 0 0,.pt 2 1 0 0,.p .any,.p (.int .i64 k)]++List.replicate 32 anyA,[(0,boxG v),(1,boxG u)],2⟩
theorem eg9z (v u:T_Graph) :
    zS Tryz.f57 [rg 3,rg 14,.dec true,rg 1] [graphA v,graphA u] [] [] (.p (.bool false)) =
    some (zD [(NT 0 1),(AG (!v.1 != u.1)),(((!v.1 != u.1)=true)→(NT 0 1)),(((v.1 != u.1)=false)→ ((!v.1 != u.1)=true)),((bif v.1 != u.1 then true else (↑v.2.1.1:Int) != (↑u.2.1.1:Int))=true),(false=false)] [0,0,1,2,1,1,2,1,1,1,3,4,5]):=by kernel_rfl
theorem eg9a (v u:T_Graph) :
    zT Tryz.f57 [rg 3,rg 14,.dec false,rg 1,.head] [graphA v,graphA u] [0,32] (SEg9 v u 0) =
    some (zf65,zD [(NT 0 1),(AG (!v.1 != u.1)),(((!v.1 != u.1)=true)→(NT 0 1)),(((v.1 != u.1)=false)→ ((!v.1 != u.1)=true)),((bif v.1 != u.1 then true else (↑v.2.1.1:Int) != (↑u.2.1.1:Int))=false),(AI v.1),(AN v.2.1.1),(AP v.2.1.1 (bRw v.2.1.2)),(AI u.1),(AN u.2.1.1),(AP u.2.1.1 (fun i=>[.int .i64 ((u.2.1.2 i).1),.int .i64 ((u.2.1.2 i).2.1)])),(AN 0),((0:Int)=(↑0:Int)),((([AV.p (PV.int IntKind.i64 v.1),graphL v.2.1].length):Nat)=2),(NL 1 1),((([AV.p (PV.int IntKind.i64 u.1),graphL u.2.1].length):Nat)=2)] [0,0,1,2,1,1,2,1,1,1,3,4,5,6,7,8,9,10,11,11,12,13,14,14,5,6,7,15,14,14,8,9,10]):=by kernel_rfl
theorem eg9b (v u:T_Graph) (k:Nat) :
    zM 0 [rg 5,.dec true,rg 11,.dec false,rg 3,.head] zf65 (SEg9 v u k) [0,1] 1 (SEg9 v u (k+1)) =
    some (zf65,zD [(NT 0 1),((decide ((↑k:Int)<(↑v.2.1.1:Int)))=true),(IL 0 (↑k:Int)),(IT (↑k:Int) (↑v.2.1.1:Int)),(IT (↑k:Int) (↑u.2.1.1:Int)),((!((v.2.1.2 k).1==(u.2.1.2 k).1&&((v.2.1.2 k).2.1==(u.2.1.2 k).2.1&&true)))=false),(ZLo ((↑k:Int)+1)),(ZHi ((↑k:Int)+1)),(AI v.1),(AN v.2.1.1),(AP v.2.1.1 (bRw v.2.1.2)),(AI u.1),(AN u.2.1.1),(AP u.2.1.1 (fun i=>[.int .i64 ((u.2.1.2 i).1),.int .i64 ((u.2.1.2 i).2.1)])),(AN 0),((((↑k:Int)+1):Int)=(↑(k+1):Int)),(AN 2),(NL 1 1)] [0,1,0,2,3,0,2,4,5,6,7,8,9,10,11,12,13,14,14,15,16,17,17,8,9,10,16,17,17,11,12,13]):=by kernel_rfl
theorem eg9c (v u:T_Graph) (k:Nat) :
    zP Tryz.f57 0 [rg 5,.dec true,rg 11,.dec true,rg 1] zf65 (SEg9 v u k) [] 1 [] (.p (.bool false)) =
    some (zD [(NT 0 1),((decide ((↑k:Int)<(↑v.2.1.1:Int)))=true),(IL 0 (↑k:Int)),(IT (↑k:Int) (↑v.2.1.1:Int)),(IT (↑k:Int) (↑u.2.1.1:Int)),((!((v.2.1.2 k).1==(u.2.1.2 k).1&&((v.2.1.2 k).2.1==(u.2.1.2 k).2.1&&true)))=true),(false=false)] [0,1,0,2,3,0,2,4,5,6]):=by kernel_rfl
theorem eg9d (v u:T_Graph) (k:Nat) :
    zP Tryz.f57 0 [rg 5,.dec false,rg 1] zf65 (SEg9 v u k) [] 1 [] (.p (.bool true)) =
    some [(NT 0 1),((decide ((↑k:Int)<(↑v.2.1.1:Int)))=false),(true=true)]:=by kernel_rfl
theorem con_EqualGraphs_s (v u:T_Graph) (hn:v.2.1.1≤1048576):zE 57 [graphA v,graphA u] [] (.p (.bool (eqGr v u))):=by
  refine csZ Tryz.func57 (fun c hc=>?_)
  by_cases hz:v.1=u.1∧v.2.1.1=u.2.1.1
  · rw [show eqGr v u=qT_BarS v.2.1.2 u.2.1.2 v.2.1.1 by simp [eqGr,q_BarS,hz.1,hz.2]]
    have lp:∀ m k,k+m=v.2.1.1→qT_BarS v.2.1.2 u.2.1.2 k=true→zR c 57 zf65 (SEg9 v u k) (Post c [] (.p (.bool (qT_BarS v.2.1.2 u.2.1.2 v.2.1.1)))):=by
      intro m
      induction m with
      | zero =>
        intro k hk hg
        rw [show qT_BarS v.2.1.2 u.2.1.2 v.2.1.1=true by rw [show v.2.1.1=k by omega];exact hg]
        have hd:decide ((k:Int)<(v.2.1.1:Int))=false:=by simp;omega
        refine pkZ Tryz.func57 hc (eg9d v u k) ?_
        and_intros
        all_goals (first | exact zN)
      | succ m ih =>
        intro k hk hg
        have hd:decide ((k:Int)<(v.2.1.1:Int))=true:=by simp;omega
        cases he:q1_BarS (v.2.1.2 k) (u.2.1.2 k) with
        | false =>
          rw [qT_BarS_bad _ _ k he v.2.1.1 (by omega)]
          have he':(!q1_BarS (v.2.1.2 k) (u.2.1.2 k))=true:=notf he
          refine pkD Tryz.func57 hc (eg9c v u k) ?_
          and_intros
          all_goals (first | exact zN | exact he')
        | true =>
          have he':(!q1_BarS (v.2.1.2 k) (u.2.1.2 k))=false:=nott he
          refine pcD hc (eg9b v u k) ?_ (ih (k+1) (by omega) (by simp [qT_BarS,hg,he]))
          and_intros
          all_goals (first | exact zN | exact he' | (simp [All]))
    refine pcD hc (eg9a v u) ?_ (lp v.2.1.1 0 (by omega) rfl)
    and_intros
    all_goals (first | exact zH | (intro h;simp [h]) | (simp [hz.1,hz.2]) | (simp [All]))
  · have hr:eqGr v u=false:=by
      simp only [eqGr,q_BarS]
      by_cases h1:v.1=u.1
      · have h2:¬ v.2.1.1=u.2.1.1:=fun h=>hz ⟨h1,h⟩
        simp [h1,h2]
      · have:(v.1==u.1)=false:=by simpa using h1
        rw [this];rfl
    rw [hr]
    have hb:(bif v.1 != u.1 then true else (v.2.1.1:Int) != (u.2.1.1:Int))=true:=by
      by_cases h1:v.1=u.1
      · have h2:¬ v.2.1.1=u.2.1.1:=fun h=>hz ⟨h1,h⟩
        simp [h1];omega
      · simp [h1]
    refine pkD Tryz.func57 hc (eg9z v u) ?_
    and_intros
    all_goals (first | exact zH)
def cuT (n:Nat) (f:Nat→Int) (s:Nat×Int):Ob:=⟨true,3,1,fun _=>[cdA n f,.p (.int .i64 (s.1:Int)),.p (.int .i64 s.2)]⟩
def pjV (p:T_Pinned):AV:=.agg [.p (.int .i64 p.1.1),.ar 2 0 0 p.1.2.1.1,.ar 1 1 0 p.2.1.1]
def mnX (a b:Int):Int:=if b<a then b else a
def mxX (a b:Int):Int:=if b>a then b else a
def SSk (n:Nat) (f:Nat→Int) (s:Nat×Int) (k:Nat) (h:Nat→T_Bar) (q:Nat):St :=
  ⟨[.pt 3 0 0 0,.p .any,.p .any,.ar 2 1 0 k,.p (.int .i64 q)]++List.replicate 24 anyA,[(0,cuO n f s),(1,brOb k h)],2⟩
def SDd (n:Nat) (f:Nat→Int) (s:Nat×Int) (p:T_Pinned) (g:T_IntS) (q:Nat):St :=
  ⟨[cdA n f,.p .any,.pt 3 0 0 0,.p .any,.pt 3 1 0 0,.pt 3 2 0 0,.ar 1 5 0 g.1,.p (.int .i64 q)]++List.replicate 24 anyA,[(0,zP3),(1,cuT n f s),(2,pgO p.1.1 p.1.2.1.1 p.2.1.1),(3,brOb p.1.2.1.1 p.1.2.1.2),(4,iOb p.2.1.1 p.2.1.2),(5,iOb g.1 g.2)],6⟩
def SIq (v:T_IntS) (k:Nat):St:=⟨[inL v,inL v,.p .any,.p .any,.p .any,.p (.int .i64 k)]++List.replicate 20 anyA,[],0⟩
def SBq (v:T_BarS) (k:Nat):St:=⟨[graphL v,graphL v,.p .any,.p .any,.p .any,.p (.int .i64 k)]++List.replicate 20 anyA,[],0⟩
theorem dta (n:Nat) (f:Nat→Int) (s s1:Nat×Int) (q:Nat) :
    zM 1 [rg 1,rg 2,rm [(1,⟨true,(some ⟨[0],[1000],[],1,[(0,cuO n f s1)],.p (.int .i64 q)⟩),none⟩)] 1,.head] [.code (bodyOf Tryz.f156)] (start Tryz.f156 [(0,cuO n f s)] 1 [.pt 3 0 0 0]) [0,33] 1 (SSk n f s1 0 (fun _=>(0,0,())) q) =
    some (zf56,[(AE 1),Con Tryz.prog 89 1 (zf76 n f s) [.pt 3 0 0 0,.p (.int .i64 5)] (zf76 n f s1) (.p (.int .i64 (↑q:Int))),(AN 0),(AN 0),(AN 0),(AI ((↑q:Int))),(AN 3),(NL 1 1),(NL 1 1),(AN n),(AP n (fun i=>[.int .u8 (f i)])),(AI ((↑s1.1:Int))),(AI s1.2),(AN 2),(NL 0 0),(AA 0 (fun i=>[.p (.int .i64 0),.p (.int .i64 0)]))]):=by kernel_rfl
theorem dtb (n:Nat) (f:Nat→Int) (s s1 s2:Nat×Int) (k:Nat) (h:Nat→T_Bar) (q:Nat) (a b:Int) :
    zM 1 [rg 2,.dec true,rm [(1,⟨true,(some ⟨[0],[1000],[],1,[(0,cuO n f s1)],.p (.int .i64 a)⟩),none⟩)] 1,rm [(1,⟨true,(some ⟨[0],[1000],[],1,[(0,cuO n f s2)],.p (.int .i64 b)⟩),none⟩)] 1,rg 11,rg 3,.head] zf56 (SSk n f s k h (q+1)) [0,546] 1 (SSk n f s2 (k+1) (snoc k h (mnX a b,mxX a b,())) q) =
    some (zf56,[((decide ((↑(q+1):Int)>0))=true),(AE 1),Con Tryz.prog 89 1 (zf76 n f s) [.pt 3 0 0 0,.p (.int .i64 6)] (zf76 n f s1) (.p (.int .i64 a)),(AE 1),Con Tryz.prog 89 1 (zf76 n f s1) [.pt 3 0 0 0,.p (.int .i64 6)] (zf76 n f s2) (.p (.int .i64 b)),(NL 1 1),(NL k k),(NL ((k+1)*16) 140737488355328),(NL (k+1) 9223372036854775807),(ZLo ((↑(q+1):Int) - 1)),(ZHi ((↑(q+1):Int) - 1)),(AN 0),(AN 0),(AN ((k+1))),((((↑(q+1):Int) - 1):Int)=(↑q:Int)),(AN 3),(NL 1 1),(NL 1 1),(AN n),(AP n (fun i=>[.int .u8 (f i)])),(AI ((↑s2.1:Int))),(AI s2.2),(AN 2),(NL (k+1) (k+1)),(∀ i:Nat,(((i:Nat)<(k+1))→(All (cvtL false [(546,⟨false,2,(k+1),(fun i_1=>(if (i_1<k) then [.p (.int .i64 ((h i_1).1)),.p (.int .i64 ((h i_1).2.1))] else [.p (.int .i64 (if false=true then if b>a then b else a else if b<a then b else a)),.p (.int .i64 (if true=true then if b>a then b else a else if b<a then b else a))]))⟩),(514,⟨false,2,1,(fun i_1=>[.p (.int .i64 (if false=true then if b>a then b else a else if b<a then b else a)),.p (.int .i64 (if true=true then if b>a then b else a else if b<a then b else a))])⟩),(0,⟨true,3,1,(fun i_1=>[.p (.seq false 1 n (fun i_2=>[.int .u8 (f i_2)])),.p (.int .i64 (↑s2.1:Int)),.p (.int .i64 s2.2)])⟩)] [0,546] 1 (if (i<k) then [.p (.int .i64 ((h i).1)),.p (.int .i64 ((h i).2.1))] else [.p (.int .i64 (if false=true then if b>a then b else a else if b<a then b else a)),.p (.int .i64 (if true=true then if b>a then b else a else if b<a then b else a))])).2∧(((cvtL false [(546,⟨false,2,(k+1),(fun i_1=>(if (i_1<k) then [.p (.int .i64 ((h i_1).1)),.p (.int .i64 ((h i_1).2.1))] else [.p (.int .i64 (if false=true then if b>a then b else a else if b<a then b else a)),.p (.int .i64 (if true=true then if b>a then b else a else if b<a then b else a))]))⟩),(514,⟨false,2,1,(fun i_1=>[.p (.int .i64 (if false=true then if b>a then b else a else if b<a then b else a)),.p (.int .i64 (if true=true then if b>a then b else a else if b<a then b else a))])⟩),(0,⟨true,3,1,(fun i_1=>[.p (.seq false 1 n (fun i_2=>[.int .u8 (f i_2)])),.p (.int .i64 (↑s2.1:Int)),.p (.int .i64 s2.2)])⟩)] [0,546] 1 (if (i<k) then [.p (.int .i64 ((h i).1)),.p (.int .i64 ((h i).2.1))] else [.p (.int .i64 (if false=true then if b>a then b else a else if b<a then b else a)),.p (.int .i64 (if true=true then if b>a then b else a else if b<a then b else a))])).1:List AV)=[.p (.int .i64 (if i<k then (h i).1 else mnX a b)),.p (.int .i64 (if i<k then (h i).2.1 else mxX a b))]))))]):=by kernel_rfl
theorem dte (n:Nat) (f:Nat→Int) (s:Nat×Int) (k:Nat) (h:Nat→T_Bar) :
    zP Tryz.f156 1 [rg 2,.dec false,rg 2] zf56 (SSk n f s k h 0) [0,1] 1 [(0,cuO n f s),(1,brOb k h)] (.ar 2 1 0 k) =
    some [((decide ((↑0:Int)>0))=false),(AN 0),(AN k),(AN 3),(NL 1 1),(NL 1 1),(AN n),(AP n (fun i=>[.int .u8 (f i)])),(AI ((↑s.1:Int))),(AI s.2),(AN 2),(NL k k),(AA k (fun i=>[.p (.int .i64 ((h i).1)),.p (.int .i64 ((h i).2.1))])),(∀ i:Nat,(((i:Nat)<1)→All [(false=false),(AE n)])),(AE k)]:=by kernel_rfl
theorem dua (n:Nat) (f:Nat→Int) (s s1 s2:Nat×Int) (p:T_Pinned) (q:Nat) :
    zT Tryz.f20 [rg 2,rm [(1,⟨true,(some ⟨[],[0],[],1,[(0,cuO n f s)],.pt 3 0 0 0⟩),none⟩)] 1,rm [(1,⟨true,(some ⟨[96],[0],[],1,[(0,cuO n f s1),(1,brOb p.1.2.1.1 p.1.2.1.2),(2,iOb p.2.1.1 p.2.1.2)],.agg [.p (.int .i64 p.1.1),.ar 2 1 0 p.1.2.1.1,.ar 1 2 0 p.2.1.1]⟩),none⟩)] 2,rg 2,rm [(1,⟨true,(some ⟨[96],[0],[],1,[(0,cuO n f s2)],.p (.int .i64 q)⟩),none⟩)] 1,.head] [cdA n f] [0,96,224,192,193,288] (SDd n f s2 p (0,fun _=>0) q) =
    some (zf29,zD [zE 87 [.p (.seq false 1 n (fun i=>[.int .u8 (f i)]))] (zf76 n f s) (.pt 3 0 0 0),(AE 1),Con Tryz.prog 88 1 (zf76 n f s) [.pt 3 0 0 0] [(0,⟨true,3,1,(fun i=>[.p (.seq false 1 n (fun i_1=>[.int .u8 (f i_1)])),.p (.int .i64 (↑s1.1:Int)),.p (.int .i64 s1.2)])⟩),(1,⟨false,2,p.1.2.1.1,(fun i=>[.p (.int .i64 ((p.1.2.1.2 i).1)),.p (.int .i64 ((p.1.2.1.2 i).2.1))])⟩),(2,⟨false,1,p.2.1.1,(fun i=>[.p (.int .i64 (p.2.1.2 i))])⟩)] (.agg [.p (.int .i64 p.1.1),.ar 2 1 0 p.1.2.1.1,.ar 1 2 0 p.2.1.1]),(NT 0 1),((true=true)→ (AN 1)),Con Tryz.prog 89 1 (zf76 n f s1) [.pt 3 0 0 0,.p (.int .i64 3)] (zf76 n f s2) (.p (.int .i64 (↑q:Int))),(AN n),(AP n (fun i=>[.int .u8 (f i)])),(AN 0),(AI ((↑q:Int))),((((List.map (fun v=>AV.p (absV v)) [Value.int IntKind.i64 0,Value.slice none 0 0,Value.slice none 0 0]).length):Nat)=3),(NL 1 1),(AI 0),(AN 3),(AI ((↑s2.1:Int))),(AI s2.2),(AI p.1.1),(AN p.1.2.1.1),(AN p.2.1.1),(AN 2),(NL p.1.2.1.1 p.1.2.1.1),(AA p.1.2.1.1 (fun i=>[.p (.int .i64 ((p.1.2.1.2 i).1)),.p (.int .i64 ((p.1.2.1.2 i).2.1))])),(AN 1),(NL p.2.1.1 p.2.1.1),(AA p.2.1.1 (fun i=>[.p (.int .i64 (p.2.1.2 i))])),(NL 0 0),(∀ i:Nat,(((i:Nat)<0)→(All []∧(([.p (.int .i64 0)]:List AV)=[.p (.int .i64 ((0,fun x=>0).2 i))]))))] [0,1,2,3,4,1,5,6,7,8,8,8,8,8,9,10,11,11,12,13,11,11,6,7,14,15,10,11,11,16,8,17,8,18,19,20,21,22,23,24,22,25,26]):=by kernel_rfl
theorem dub (n:Nat) (f:Nat→Int) (s s1 s2 s3:Nat×Int) (p:T_Pinned) (g:T_IntS) (q:Nat) (x y z:Int) :
    zM 0 [rg 2,.dec true,rm [(2,⟨true,(some ⟨[1],[0],[],1,[(0,cuO n f s1)],.p (.int .i64 x)⟩),none⟩),(1,⟨true,(some ⟨[1],[0],[],1,[(0,cuO n f s2)],.p (.int .i64 y)⟩),none⟩),(1,⟨true,(some ⟨[1],[0],[],1,[(0,cuO n f s3)],.p (.int .i64 z)⟩),none⟩)] 5,rg 3,.head] zf29 (SDd n f s p g (q+1)) [0,1,2,3,4,390] 1 (SDd n f s3 p (g.1+1,snocI g.1 g.2 (x - y*z)) q) =
    some (zf29,zD [((decide ((↑(q+1):Int)>0))=true),(AE 1),Con Tryz.prog 89 1 (zf76 n f s) [.pt 3 0 0 0,.p (.int .i64 8)] (zf76 n f s1) (.p (.int .i64 x)),Con Tryz.prog 89 1 (zf76 n f s1) [.pt 3 0 0 0,.p (.int .i64 2)] (zf76 n f s2) (.p (.int .i64 y)),Con Tryz.prog 89 1 (zf76 n f s2) [.pt 3 0 0 0,.p (.int .i64 2)] (zf76 n f s3) (.p (.int .i64 z)),(ZLo (y*z)),(ZHi (y*z)),(ZLo (x - y*z)),(ZHi (x - y*z)),(NL 1 1),(NL g.1 g.1),(NL ((g.1+1)*8) 140737488355328),(NL (g.1+1) 9223372036854775807),(ZLo ((↑(q+1):Int) - 1)),(ZHi ((↑(q+1):Int) - 1)),(AN n),(AP n (fun i=>[.int .u8 (f i)])),(AN 0),(AN ((g.1+1))),((((↑(q+1):Int) - 1):Int)=(↑q:Int)),(AN 3),(AI 0),(AI ((↑s3.1:Int))),(AI s3.2),(AI p.1.1),(AN p.1.2.1.1),(AN p.2.1.1),(AN 2),(NL p.1.2.1.1 p.1.2.1.1),(AA p.1.2.1.1 (fun i=>[.p (.int .i64 ((p.1.2.1.2 i).1)),.p (.int .i64 ((p.1.2.1.2 i).2.1))])),(AN 1),(NL p.2.1.1 p.2.1.1),(AA p.2.1.1 (fun i=>[.p (.int .i64 (p.2.1.2 i))])),(NL (g.1+1) (g.1+1)),(∀ i:Nat,(((i:Nat)<(g.1+1))→(All (cvtL false [(390,⟨false,1,(g.1+1),(fun i_1=>(if (i_1<g.1) then [.p (.int .i64 (g.2 i_1))] else [.p (.int .i64 (x - y*z))]))⟩),(358,⟨false,1,1,(fun i_1=>[.p (.int .i64 (x - y*z))])⟩),(1,⟨true,3,1,(fun i_1=>[.p (.seq true 1 n (fun i_2=>[.int .u8 (f i_2)])),.p (.int .i64 (↑s3.1:Int)),.p (.int .i64 s3.2)])⟩),(0,⟨true,3,1,(fun i_1=>[.p (.int .i64 0),.p (.nil),.p (.nil)])⟩),(2,⟨true,3,1,(fun i_1=>[.p (.int .i64 p.1.1),.ar 2 3 0 p.1.2.1.1,.ar 1 4 0 p.2.1.1])⟩),(3,⟨false,2,p.1.2.1.1,(fun i_1=>[.p (.int .i64 ((p.1.2.1.2 i_1).1)),.p (.int .i64 ((p.1.2.1.2 i_1).2.1))])⟩),(4,⟨false,1,p.2.1.1,(fun i_1=>[.p (.int .i64 (p.2.1.2 i_1))])⟩)] [0,1,2,3,4,390] 1 (if (i<g.1) then [.p (.int .i64 (g.2 i))] else [.p (.int .i64 (x - y*z))])).2∧(((cvtL false [(390,⟨false,1,(g.1+1),(fun i_1=>(if (i_1<g.1) then [.p (.int .i64 (g.2 i_1))] else [.p (.int .i64 (x - y*z))]))⟩),(358,⟨false,1,1,(fun i_1=>[.p (.int .i64 (x - y*z))])⟩),(1,⟨true,3,1,(fun i_1=>[.p (.seq true 1 n (fun i_2=>[.int .u8 (f i_2)])),.p (.int .i64 (↑s3.1:Int)),.p (.int .i64 s3.2)])⟩),(0,⟨true,3,1,(fun i_1=>[.p (.int .i64 0),.p (.nil),.p (.nil)])⟩),(2,⟨true,3,1,(fun i_1=>[.p (.int .i64 p.1.1),.ar 2 3 0 p.1.2.1.1,.ar 1 4 0 p.2.1.1])⟩),(3,⟨false,2,p.1.2.1.1,(fun i_1=>[.p (.int .i64 ((p.1.2.1.2 i_1).1)),.p (.int .i64 ((p.1.2.1.2 i_1).2.1))])⟩),(4,⟨false,1,p.2.1.1,(fun i_1=>[.p (.int .i64 (p.2.1.2 i_1))])⟩)] [0,1,2,3,4,390] 1 (if (i<g.1) then [.p (.int .i64 (g.2 i))] else [.p (.int .i64 (x - y*z))])).1:List AV)=[.p (.int .i64 ((g.1+1,snocI g.1 g.2 (x - y*z)).2 i))]))))] [0,1,2,1,3,1,4,5,6,7,8,9,10,11,12,13,14,15,16,17,17,17,17,18,19,20,9,9,21,20,9,9,15,16,22,23,20,9,9,24,17,25,17,26,27,28,29,30,31,32,30,33,34]):=by kernel_rfl
theorem due (n:Nat) (f:Nat→Int) (s:Nat×Int) (p:T_Pinned) (g:T_IntS) :
    zP Tryz.f20 0 [rg 2,.dec false,rg 4] zf29 (SDd n f s p g 0) [3,4,5] 1 [(0,brOb p.1.2.1.1 p.1.2.1.2),(1,iOb p.2.1.1 p.2.1.2),(2,iOb g.1 g.2)] (.tup [pjV p,.ar 1 2 0 g.1]) =
    some [((decide ((↑0:Int)>0))=false),(NT 0 1),(NT 0 1),((true=true)→ (AN 1)),(NT 0 1),(AI p.1.1),(AN 0),(AN p.1.2.1.1),(AN 0),(AN p.2.1.1),(AN 0),(AN g.1),(AN 2),(NL p.1.2.1.1 p.1.2.1.1),(AA p.1.2.1.1 (fun i=>[.p (.int .i64 ((p.1.2.1.2 i).1)),.p (.int .i64 ((p.1.2.1.2 i).2.1))])),(AN 1),(NL p.2.1.1 p.2.1.1),(AA p.2.1.1 (fun i=>[.p (.int .i64 (p.2.1.2 i))])),(AN 1),(NL g.1 g.1),(AA g.1 (fun i=>[.p (.int .i64 (g.2 i))])),(AE p.1.2.1.1),(AE p.2.1.1),(AE g.1)]:=by kernel_rfl
theorem dwt (n:Nat) (f:Nat→Int) (p x:T_Pinned) (g:T_IntS) (b:Bool) :
    zS Tryz.f72 [rg 1,rm [(1,oc [(0,brOb p.1.2.1.1 p.1.2.1.2),(1,iOb p.2.1.1 p.2.1.2),(2,iOb g.1 g.2)] (.tup [pjV p,.ar 1 2 0 g.1]))] 6,rm [(2,oc [(0,brOb x.1.2.1.1 x.1.2.1.2),(1,iOb x.2.1.1 x.2.1.2)] (.tup [pjV x,.p (.bool b)]))] 6,rg 1,.dec true,rg 2] [cdA n f] [352,353] [(0,brOb x.1.2.1.1 x.1.2.1.2),(1,iOb x.2.1.1 x.2.1.2)] (pjV x) =
    some (zD [zE 20 [.p (.seq true 1 n (fun i=>[.int .u8 (f i)]))] (zf14 p g) (.tup [(zf95 p),.ar 1 2 0 g.1]),(NT 0 1),((true=true)→ (AN 1)),(AN 2),(NL p.1.2.1.1 p.1.2.1.1),(AN 1),(NL p.2.1.1 p.2.1.1),(NL g.1 g.1),zE 22 [(zf20 p),.p (.seq true 1 g.1 (iRw g))] (zf24 x) ((zf88 x b)),(b=true),(AI x.1.1),(AN 0),(AN x.1.2.1.1),(AN x.2.1.1),(NL x.1.2.1.1 x.1.2.1.1),(AA x.1.2.1.1 (fun i=>[.p (.int .i64 ((x.1.2.1.2 i).1)),.p (.int .i64 ((x.1.2.1.2 i).2.1))])),(NL x.2.1.1 x.2.1.1),(AA x.2.1.1 (fun i=>[.p (.int .i64 (x.2.1.2 i))])),(AE x.1.2.1.1),(AE x.2.1.1)] [0,1,2,1,3,4,5,6,5,7,8,1,2,9,1,1,2,1,10,11,12,11,13,3,14,15,5,16,17,18,19]):=by kernel_rfl
theorem dwf (n:Nat) (f:Nat→Int) (p x:T_Pinned) (g:T_IntS) (b:Bool) :
    zS Tryz.f72 [rg 1,rm [(1,oc [(0,brOb p.1.2.1.1 p.1.2.1.2),(1,iOb p.2.1.1 p.2.1.2),(2,iOb g.1 g.2)] (.tup [pjV p,.ar 1 2 0 g.1]))] 6,rm [(2,oc [(0,brOb x.1.2.1.1 x.1.2.1.2),(1,iOb x.2.1.1 x.2.1.2)] (.tup [pjV x,.p (.bool b)]))] 6,rg 1,.dec false,rg 2] [cdA n f] [64,65] [(0,brOb p.1.2.1.1 p.1.2.1.2),(1,iOb p.2.1.1 p.2.1.2)] (pjV p) =
    some (zD [zE 20 [.p (.seq true 1 n (fun i=>[.int .u8 (f i)]))] (zf14 p g) (.tup [(zf95 p),.ar 1 2 0 g.1]),(NT 0 1),((true=true)→ (AN 1)),(AN 2),(NL p.1.2.1.1 p.1.2.1.1),(AN 1),(NL p.2.1.1 p.2.1.1),(NL g.1 g.1),zE 22 [(zf20 p),.p (.seq true 1 g.1 (iRw g))] (zf24 x) ((zf88 x b)),(b=false),(AI p.1.1),(AN 0),(AN p.1.2.1.1),(AN p.2.1.1),(AA p.1.2.1.1 (fun i=>[.p (.int .i64 ((p.1.2.1.2 i).1)),.p (.int .i64 ((p.1.2.1.2 i).2.1))])),(AA p.2.1.1 (fun i=>[.p (.int .i64 (p.2.1.2 i))])),(AE p.1.2.1.1),(AE p.2.1.1)] [0,1,2,1,3,4,5,6,5,7,8,1,2,9,1,1,2,1,10,11,12,11,13,3,4,14,5,6,15,16,17]):=by kernel_rfl
theorem dxt (n:Nat) (f:Nat→Int) (s s1 s2:Nat×Int) (p:T_Pinned) (l m:NB) (i:Bool) :
    zS Tryz.f82 [rg 2,rm [(1,⟨true,(some ⟨[],[0],[],1,[(0,cuO n f s)],.pt 3 0 0 0⟩),none⟩)] 1,rm [(1,oc [(0,brOb p.1.2.1.1 p.1.2.1.2),(1,iOb p.2.1.1 p.2.1.2)] (pjV p))] 2,rm [(1,oc [(0,brOb l.1 l.2)] (.tup [.ar 2 0 0 l.1,.p (.bool i)]))] 5,rm [(2,gT),(0,⟨true,(some ⟨[96],[0],[],1,[(0,cuO n f s1)],.p (.bool true)⟩),some true⟩),(0,gT)] 0,.dec true,rg 4] [cdA n f] [192,193,320] [(0,brOb p.1.2.1.1 p.1.2.1.2),(1,iOb p.2.1.1 p.2.1.2),(2,brOb l.1 l.2)] (.tup [pjV p,.ar 2 2 0 l.1]) =
    some (zD [zE 87 [.p (.seq false 1 n (fun i_1=>[.int .u8 (f i_1)]))] (zf75 n f s) (.pt 3 0 0 0),zE 72 [.p (.seq true 1 n (fun i_1=>[.int .u8 (f i_1)]))] (zf21 p) ((zf95 p)),(NT 0 1),((true=true)→ (AN 1)),(AN 2),(NL p.1.2.1.1 p.1.2.1.1),(AN 1),(NL p.2.1.1 p.2.1.1),zE 9 [(zf17 p)] (zf86 l) (.tup [.ar 2 0 0 l.1,.p (.bool i)]),(i=true),(AE 1),Con Tryz.prog 103 1 (zf75 n f s) [.pt 3 0 0 0,.p (.int .i64 2)] (zf75 n f s1) (.p (.bool true)),(true=true),(AI p.1.1),(AN 0),(AN p.1.2.1.1),(AN p.2.1.1),(AN l.1),(AA p.1.2.1.1 (fun i_1=>[.p (.int .i64 ((p.1.2.1.2 i_1).1)),.p (.int .i64 ((p.1.2.1.2 i_1).2.1))])),(AA p.2.1.1 (fun i_1=>[.p (.int .i64 (p.2.1.2 i_1))])),(NL l.1 l.1),(AA l.1 (fun i_1=>[.p (.int .i64 ((l.2 i_1).1)),.p (.int .i64 ((l.2 i_1).2.1))])),(AE p.1.2.1.1),(AE p.2.1.1),(AE l.1)] [0,1,2,3,2,4,5,6,7,8,9,9,10,11,9,12,2,2,3,2,13,14,15,14,16,14,17,4,5,18,6,7,19,4,20,21,22,23,24]):=by kernel_rfl
theorem dxf (n:Nat) (f:Nat→Int) (s s1 s2:Nat×Int) (p:T_Pinned) (l m:NB) (i:Bool) :
    zS Tryz.f82 [rg 2,rm [(1,⟨true,(some ⟨[],[0],[],1,[(0,cuO n f s)],.pt 3 0 0 0⟩),none⟩)] 1,rm [(1,oc [(0,brOb p.1.2.1.1 p.1.2.1.2),(1,iOb p.2.1.1 p.2.1.2)] (pjV p))] 2,rm [(1,oc [(0,brOb l.1 l.2)] (.tup [.ar 2 0 0 l.1,.p (.bool i)]))] 5,rm [(2,gT),(0,⟨true,(some ⟨[96],[0],[],1,[(0,cuO n f s1)],.p (.bool false)⟩),some true⟩),(0,gT)] 0,.dec false,rm [(2,⟨true,(some ⟨[96],[0],[],1,[(0,cuO n f s2),(1,brOb m.1 m.2)],.ar 2 1 0 m.1⟩),none⟩)] 2] [cdA n f] [192,193,736] [(0,brOb p.1.2.1.1 p.1.2.1.2),(1,iOb p.2.1.1 p.2.1.2),(2,brOb m.1 m.2)] (.tup [pjV p,.ar 2 2 0 m.1]) =
    some (zD [zE 87 [.p (.seq false 1 n (fun i_1=>[.int .u8 (f i_1)]))] (zf75 n f s) (.pt 3 0 0 0),zE 72 [.p (.seq true 1 n (fun i_1=>[.int .u8 (f i_1)]))] (zf21 p) ((zf95 p)),(NT 0 1),((true=true)→ (AN 1)),(AN 2),(NL p.1.2.1.1 p.1.2.1.1),(AN 1),(NL p.2.1.1 p.2.1.1),zE 9 [(zf17 p)] (zf86 l) (.tup [.ar 2 0 0 l.1,.p (.bool i)]),(i=true),(AE 1),Con Tryz.prog 103 1 (zf75 n f s) [.pt 3 0 0 0,.p (.int .i64 2)] (zf75 n f s1) (.p (.bool false)),(false=false),Con Tryz.prog 156 1 (zf75 n f s1) [.pt 3 0 0 0] (zf15 n f s2 m) (.ar 2 1 0 m.1),(AI p.1.1),(AN 0),(AN p.1.2.1.1),(AN p.2.1.1),(AN m.1),(AA p.1.2.1.1 (fun i_1=>[.p (.int .i64 ((p.1.2.1.2 i_1).1)),.p (.int .i64 ((p.1.2.1.2 i_1).2.1))])),(AA p.2.1.1 (fun i_1=>[.p (.int .i64 (p.2.1.2 i_1))])),(NL m.1 m.1),(AA m.1 (fun i_1=>[.p (.int .i64 ((m.2 i_1).1)),.p (.int .i64 ((m.2 i_1).2.1))])),(AE p.1.2.1.1),(AE p.2.1.1),(AE m.1)] [0,1,2,3,2,4,5,6,7,8,9,9,10,11,9,12,2,10,13,2,3,2,14,15,16,15,17,15,18,4,5,19,6,7,20,4,21,22,23,24,25]):=by kernel_rfl
theorem dxn (n:Nat) (f:Nat→Int) (s s1 s2:Nat×Int) (p:T_Pinned) (l m:NB) (i:Bool) :
    zS Tryz.f82 [rg 2,rm [(1,⟨true,(some ⟨[],[0],[],1,[(0,cuO n f s)],.pt 3 0 0 0⟩),none⟩)] 1,rm [(1,oc [(0,brOb p.1.2.1.1 p.1.2.1.2),(1,iOb p.2.1.1 p.2.1.2)] (pjV p))] 2,rm [(1,oc [(0,brOb l.1 l.2)] (.tup [.ar 2 0 0 l.1,.p (.bool i)]))] 5,rm [(2,gF),(0,gF),(0,gF)] 0,.dec false,rm [(2,⟨true,(some ⟨[96],[0],[],1,[(0,cuO n f s2),(1,brOb m.1 m.2)],.ar 2 1 0 m.1⟩),none⟩)] 2] [cdA n f] [192,193,736] [(0,brOb p.1.2.1.1 p.1.2.1.2),(1,iOb p.2.1.1 p.2.1.2),(2,brOb m.1 m.2)] (.tup [pjV p,.ar 2 2 0 m.1]) =
    some (zD [zE 87 [.p (.seq false 1 n (fun i_1=>[.int .u8 (f i_1)]))] (zf75 n f s) (.pt 3 0 0 0),zE 72 [.p (.seq true 1 n (fun i_1=>[.int .u8 (f i_1)]))] (zf21 p) ((zf95 p)),(NT 0 1),((true=true)→ (AN 1)),(AN 2),(NL p.1.2.1.1 p.1.2.1.1),(AN 1),(NL p.2.1.1 p.2.1.1),zE 9 [(zf17 p)] (zf86 l) (.tup [.ar 2 0 0 l.1,.p (.bool i)]),(i=false),(false=false),(AE 1),Con Tryz.prog 156 1 (zf75 n f s) [.pt 3 0 0 0] (zf15 n f s2 m) (.ar 2 1 0 m.1),(AI p.1.1),(AN 0),(AN p.1.2.1.1),(AN p.2.1.1),(AN m.1),(AA p.1.2.1.1 (fun i_1=>[.p (.int .i64 ((p.1.2.1.2 i_1).1)),.p (.int .i64 ((p.1.2.1.2 i_1).2.1))])),(AA p.2.1.1 (fun i_1=>[.p (.int .i64 (p.2.1.2 i_1))])),(NL m.1 m.1),(AA m.1 (fun i_1=>[.p (.int .i64 ((m.2 i_1).1)),.p (.int .i64 ((m.2 i_1).2.1))])),(AE p.1.2.1.1),(AE p.2.1.1),(AE m.1)] [0,1,2,3,2,4,5,6,7,8,9,9,9,10,2,11,12,2,3,2,13,14,15,14,16,14,17,4,5,18,6,7,19,4,20,21,22,23,24]):=by kernel_rfl
theorem dyR (n:Nat) (f:Nat→Int) (p:T_Pinned) :
    zS Tryz.f7 [rg 1,rm [(1,oc [(0,brOb p.1.2.1.1 p.1.2.1.2),(1,iOb p.2.1.1 p.2.1.2)] (pjV p))] 1] [cdA n f] [64,65] [(0,brOb p.1.2.1.1 p.1.2.1.2),(1,iOb p.2.1.1 p.2.1.2)] (pjV p) =
    some [zE 72 [.p (.seq true 1 n (fun i=>[.int .u8 (f i)]))] (zf24 p) ((zf95 p)),(NT 0 1),((true=true)→ (AN 1)),(NT 0 1),(AI p.1.1),(AN 0),(AN p.1.2.1.1),(AN 0),(AN p.2.1.1),(AN 2),(NL p.1.2.1.1 p.1.2.1.1),(AA p.1.2.1.1 (fun i=>[.p (.int .i64 ((p.1.2.1.2 i).1)),.p (.int .i64 ((p.1.2.1.2 i).2.1))])),(AN 1),(NL p.2.1.1 p.2.1.1),(AA p.2.1.1 (fun i=>[.p (.int .i64 (p.2.1.2 i))])),(AE p.1.2.1.1),(AE p.2.1.1)]:=by kernel_rfl
theorem dyI (n:Nat) (f:Nat→Int) (p:T_Pinned) (l:NB) :
    zS Tryz.f15 [rg 2,rm [(1,oc [(0,brOb p.1.2.1.1 p.1.2.1.2),(1,iOb p.2.1.1 p.2.1.2),(2,brOb l.1 l.2)] (.tup [pjV p,.ar 2 2 0 l.1]))] 6,rg 4] [cdA n f] [96,97,98] [(0,brOb p.1.2.1.1 p.1.2.1.2),(1,iOb p.2.1.1 p.2.1.2),(2,brOb l.1 l.2)] (.tup [pjV p,.ar 2 2 0 l.1]) =
    some [zE 82 [.p (.seq true 1 n (fun i=>[.int .u8 (f i)]))] (zf12 p l) ((zf87 p l)),(NT 0 1),((true=true)→ (AN 1)),(NT 0 1),(NT 0 1),((true=true)→ (AN 1)),(NT 0 1),(AI p.1.1),(AN 0),(AN p.1.2.1.1),(AN 0),(AN p.2.1.1),(AN 0),(AN l.1),(AN 2),(NL p.1.2.1.1 p.1.2.1.1),(AA p.1.2.1.1 (fun i=>[.p (.int .i64 ((p.1.2.1.2 i).1)),.p (.int .i64 ((p.1.2.1.2 i).2.1))])),(AN 1),(NL p.2.1.1 p.2.1.1),(AA p.2.1.1 (fun i=>[.p (.int .i64 (p.2.1.2 i))])),(AN 2),(NL l.1 l.1),(AA l.1 (fun i=>[.p (.int .i64 ((l.2 i).1)),.p (.int .i64 ((l.2 i).2.1))])),(AE p.1.2.1.1),(AE p.2.1.1),(AE l.1)]:=by kernel_rfl
theorem dyA (n:Nat) (f:Nat→Int) (p:T_Pinned) (l:NB) :
    zS Tryz.f17 [rg 2,rm [(1,oc [(0,brOb p.1.2.1.1 p.1.2.1.2),(1,iOb p.2.1.1 p.2.1.2),(2,brOb l.1 l.2)] (.tup [pjV p,.ar 2 2 0 l.1]))] 6,rg 4] [cdA n f] [96,97,98] [(0,brOb p.1.2.1.1 p.1.2.1.2),(1,iOb p.2.1.1 p.2.1.2),(2,brOb l.1 l.2)] (.tup [pjV p,.ar 2 2 0 l.1]) =
    some [zE 82 [.p (.seq true 1 n (fun i=>[.int .u8 (f i)]))] (zf12 p l) ((zf87 p l)),(NT 0 1),((true=true)→ (AN 1)),(NT 0 1),(NT 0 1),((true=true)→ (AN 1)),(NT 0 1),(AI p.1.1),(AN 0),(AN p.1.2.1.1),(AN 0),(AN p.2.1.1),(AN 0),(AN l.1),(AN 2),(NL p.1.2.1.1 p.1.2.1.1),(AA p.1.2.1.1 (fun i=>[.p (.int .i64 ((p.1.2.1.2 i).1)),.p (.int .i64 ((p.1.2.1.2 i).2.1))])),(AN 1),(NL p.2.1.1 p.2.1.1),(AA p.2.1.1 (fun i=>[.p (.int .i64 (p.2.1.2 i))])),(AN 2),(NL l.1 l.1),(AA l.1 (fun i=>[.p (.int .i64 ((l.2 i).1)),.p (.int .i64 ((l.2 i).2.1))])),(AE p.1.2.1.1),(AE p.2.1.1),(AE l.1)]:=by kernel_rfl
theorem dyC (n:Nat) (f:Nat→Int) (p:T_Pinned) (l:NB) :
    zS Tryz.f23 [rg 2,rm [(1,oc [(0,brOb p.1.2.1.1 p.1.2.1.2),(1,iOb p.2.1.1 p.2.1.2),(2,brOb l.1 l.2)] (.tup [pjV p,.ar 2 2 0 l.1]))] 6,rg 4] [cdA n f] [96,97,98] [(0,brOb p.1.2.1.1 p.1.2.1.2),(1,iOb p.2.1.1 p.2.1.2),(2,brOb l.1 l.2)] (.tup [pjV p,.ar 2 2 0 l.1]) =
    some [zE 82 [.p (.seq true 1 n (fun i=>[.int .u8 (f i)]))] (zf12 p l) ((zf87 p l)),(NT 0 1),((true=true)→ (AN 1)),(NT 0 1),(NT 0 1),((true=true)→ (AN 1)),(NT 0 1),(AI p.1.1),(AN 0),(AN p.1.2.1.1),(AN 0),(AN p.2.1.1),(AN 0),(AN l.1),(AN 2),(NL p.1.2.1.1 p.1.2.1.1),(AA p.1.2.1.1 (fun i=>[.p (.int .i64 ((p.1.2.1.2 i).1)),.p (.int .i64 ((p.1.2.1.2 i).2.1))])),(AN 1),(NL p.2.1.1 p.2.1.1),(AA p.2.1.1 (fun i=>[.p (.int .i64 (p.2.1.2 i))])),(AN 2),(NL l.1 l.1),(AA l.1 (fun i=>[.p (.int .i64 ((l.2 i).1)),.p (.int .i64 ((l.2 i).2.1))])),(AE p.1.2.1.1),(AE p.2.1.1),(AE l.1)]:=by kernel_rfl
theorem diqa (v:T_IntS) :
    zT Tryz.f94 [rg 1,rg 5,.dec false,rg 1,.head] [inL v,inL v] [] (SIq v 0) =
    some (zf66,zD [(((↑v.1:Int) != (↑v.1:Int))=false),(AN v.1),(AP v.1 (iRw v)),((0:Int)=(↑0:Int))] [0,1,2,1,2,3]):=by kernel_rfl
theorem diqb (v:T_IntS) (k:Nat) :
    zM 0 [rg 4,.dec true,rg 9,.dec false,rg 3,.head] zf66 (SIq v k) [] 1 (SIq v (k+1)) =
    some (zf66,zD [((decide ((↑k:Int)<(↑v.1:Int)))=true),(IL 0 (↑k:Int)),(IT (↑k:Int) (↑v.1:Int)),((v.2 k != v.2 k)=false),(ZLo ((↑k:Int)+1)),(ZHi ((↑k:Int)+1)),(AN v.1),(AP v.1 (iRw v)),((((↑k:Int)+1):Int)=(↑(k+1):Int))] [0,1,2,1,2,3,4,5,6,7,6,7,8]):=by kernel_rfl
theorem diqd (v:T_IntS) (k:Nat) :
    zP Tryz.f94 0 [rg 4,.dec false,rg 1] zf66 (SIq v k) [] 1 [] (.p (.bool true)) =
    some [((decide ((↑k:Int)<(↑v.1:Int)))=false),(true=true)]:=by kernel_rfl
theorem dbqa (v:T_BarS) :
    zT Tryz.f11 [rg 1,rg 5,.dec false,rg 1,.head] [graphL v,graphL v] [] (SBq v 0) =
    some (zf67,zD [(((↑v.1:Int) != (↑v.1:Int))=false),(AN v.1),(AP v.1 (fun i=>[.int .i64 ((v.2 i).1),.int .i64 ((v.2 i).2.1)])),((0:Int)=(↑0:Int))] [0,1,2,1,2,3]):=by kernel_rfl
theorem dbqb (v:T_BarS) (k:Nat) :
    zM 0 [rg 4,.dec true,rg 9,.dec false,rg 3,.head] zf67 (SBq v k) [] 1 (SBq v (k+1)) =
    some (zf67,zD [((decide ((↑k:Int)<(↑v.1:Int)))=true),(IL 0 (↑k:Int)),(IT (↑k:Int) (↑v.1:Int)),((!((v.2 k).1==(v.2 k).1&&((v.2 k).2.1==(v.2 k).2.1&&true)))=false),(ZLo ((↑k:Int)+1)),(ZHi ((↑k:Int)+1)),(AN v.1),(AP v.1 (fun i=>[.int .i64 ((v.2 i).1),.int .i64 ((v.2 i).2.1)])),((((↑k:Int)+1):Int)=(↑(k+1):Int))] [0,1,2,1,2,3,4,5,6,7,6,7,8]):=by kernel_rfl
theorem dbqd (v:T_BarS) (k:Nat) :
    zP Tryz.f11 0 [rg 4,.dec false,rg 1] zf67 (SBq v k) [] 1 [] (.p (.bool true)) =
    some [((decide ((↑k:Int)<(↑v.1:Int)))=false),(true=true)]:=by kernel_rfl
theorem dpq (p:T_Pinned) :
    zS Tryz.f24 [rg 3,rm [(4,oc [] (.p (.bool true))),(5,oc [] (.p (.bool true)))] 2] [pinA p,pinA p] [] [] (.p (.bool true)) =
    some (zD [(NT 0 1),zE 57 [(zf78 p),(zf78 p)] [] (.p (.bool true)),(AG true),((true=true)→(NT 0 1)),((true=true)→ zE 94 [.p (.seq true 1 p.2.1.1 (fun i=>[.int .i64 (p.2.1.2 i)])),.p (.seq true 1 p.2.1.1 (fun i=>[.int .i64 (p.2.1.2 i)]))] [] (.p (.bool true))),((bif true then true else false)=true)] [0,0,1,2,3,2,3,2,2,4,2,5]):=by kernel_rfl
theorem con_l28Stock (n:Nat) (f:Nat→Int) (hn:CdOk n f) (s:Nat×Int) (hs:s.1≤n):∃ (s2:Nat×Int) (l:NB),s2.1≤n∧l.1≤4 ∧
    Con Tryz.prog 156 1 [(0,cuO n f s)] [.pt 3 0 0 0] [(0,cuO n f s2),(1,brOb l.1 l.2)] (.ar 2 1 0 l.1):=by
  have lo:∀ q (s:Nat×Int) (k:Nat) (h:Nat→T_Bar),s.1≤n→k+q≤4→∃ (s2:Nat×Int) (l:NB),s2.1≤n∧l.1≤4 ∧
      ∀ c:Cx,c.n=1→zR c 156 zf56 (SSk n f s k h q) (Post c [(0,cuO n f s2),(1,brOb l.1 l.2)] (.ar 2 1 0 l.1)):=by
    intro q
    induction q with
    | zero =>
      intro s k h hs hk
      refine ⟨s,(k,h),hs,hk,fun c hc=>?_⟩
      refine pkZ Tryz.func156 hc (dte n f s k h) ?_
      and_intros
      iterate 2 all_goals (first | exact zN | (intros;simp [All];done) | (simp;done) | simp only [All])
    | succ q ih =>
      intro s k h hs hk
      have hd:decide (((q+1:Nat):Int)>0)=true:=decide_eq_true (by omega)
      obtain ⟨s1,a,h1,ha,c1⟩:=con_l1Below n f hn s hs 6 (by omega)
      obtain ⟨s2,b,h2,hb,c2⟩:=con_l1Below n f hn s1 h1 6 (by omega)
      obtain ⟨s3,l,i1,i2,hr⟩:=ih s2 (k+1) (snoc k h (mnX a b,mxX a b,())) h2 (by omega)
      refine ⟨s3,l,i1,i2,fun c hc=>?_⟩
      refine pcZ hc (dtb n f s s1 s2 k h q a b) ?_ (hr c hc)
      and_intros
      all_goals (first | exact zN | (exact hd) | (exact c1) | (exact c2) | (intros;simp [All];done) | (simp;done) | (simp;omega) | (intro i hi;have hi2:i<k∨i=k:=(by omega);rcases hi2 with h' | h'<;>simp [h',snoc,mnX,mxX,cvtL,cvt,tg,tru,All]))
  obtain ⟨s1,q,h1,hq,c1⟩:=con_l1Below n f hn s hs 5 (by omega)
  have hq2:=hq.2.1 (by omega)
  obtain ⟨q,rfl⟩:∃ t:Nat,q=(t:Int):=⟨q.toNat,by omega⟩
  obtain ⟨s2,l,i1,i2,hr⟩:=lo q s1 0 (fun _=>(0,0,())) h1 (by omega)
  refine ⟨s2,l,i1,i2,?_⟩
  refine csZ Tryz.func156 (fun c hc=>?_)
  refine pcZ hc (dta n f s s1 q) ?_ (hr c hc)
  and_intros
  all_goals (first | exact zN | (exact c1) | (intro i hi;exact absurd hi (Nat.not_lt_zero _)) | (intros;simp [All];done) | (simp;done) | (simp;omega))
def SmP (p:T_Pinned):Prop:=p.1.2.1.1≤25∧p.2.1.1≤8
theorem SmP.sm {p:T_Pinned} (h:SmP p):smS s_Pinned p:=sm_pin (by have:=h.1;omega) (by have:=h.2;omega)
theorem con_DrawDamaged (n:Nat) (f:Nat→Int) (hn:CdOk n f):∃ (p:T_Pinned) (g:T_IntS),SmP p∧g.1≤2 ∧
    zE 20 [cdA n f] [(0,brOb p.1.2.1.1 p.1.2.1.2),(1,iOb p.2.1.1 p.2.1.2),(2,iOb g.1 g.2)] (.tup [pjV p,.ar 1 2 0 g.1]):=by
  have lo:∀ (p:T_Pinned) q (s:Nat×Int) (g:T_IntS),s.1≤n→g.1+q≤2→∃ (g2:T_IntS),g2.1≤2 ∧
      ∀ c:Cx,c.n=0→zR c 20 zf29 (SDd n f s p g q) (Post c [(0,brOb p.1.2.1.1 p.1.2.1.2),(1,iOb p.2.1.1 p.2.1.2),(2,iOb g2.1 g2.2)] (.tup [pjV p,.ar 1 2 0 g2.1])):=by
    intro p q
    induction q with
    | zero =>
      intro s g hs hg
      refine ⟨g,hg,fun c hc=>?_⟩
      refine pkZ Tryz.func20 hc (due n f s p g) ?_
      and_intros
      all_goals (first | exact zI | (intros;simp [All];done) | (simp;done))
    | succ q ih =>
      intro s g hs hg
      have hd:decide (((q+1:Nat):Int)>0)=true:=decide_eq_true (by omega)
      obtain ⟨s1,x,h1,hx,c1⟩:=con_l1Below n f hn s hs 8 (by omega)
      obtain ⟨s2,y,h2,hy,c2⟩:=con_l1Below n f hn s1 h1 2 (by omega)
      obtain ⟨s3,z,h3,hz,c3⟩:=con_l1Below n f hn s2 h2 2 (by omega)
      have hy2:=hy.2.1 (by omega)
      have hz2:=hz.2.1 (by omega)
      have hyz:0≤y*z∧y*z≤1:=by
        rcases (show y=0∨y=1 by omega) with rfl | rfl
        · simp
        · rw [Int.one_mul];omega
      obtain ⟨g2,i2,hr⟩:=ih s3 (g.1+1,snocI g.1 g.2 (x - y*z)) h3 (by show g.1+1+q≤2;omega)
      refine ⟨g2,i2,fun c hc=>?_⟩
      refine pcD hc (dub n f s s1 s2 s3 p g q x y z) ?_ (hr c hc)
      and_intros
      all_goals (first | exact zN | (exact hd) | (exact c1) | (exact c2) | (exact c3) | omega | (intros;simp [All];done) | (simp;done) | (simp;omega) | (intro i hi;have hi2:i<g.1∨i=g.1:=(by omega);rcases hi2 with h' | h'<;>simp [h',snocI,cvtL,cvt,tg,tru,All]))
  obtain ⟨s,h0,c0⟩:=con_l1New n f hn
  obtain ⟨s1,N,k,h,u,h1,hN,hk,hu,c1⟩:=con_l27Any n f hn s h0
  obtain ⟨s2,q,h2,hq,c2⟩:=con_l1Below n f hn s1 h1 3 (by omega)
  have hq2:=hq.2.1 (by omega)
  obtain ⟨q,rfl⟩:∃ t:Nat,q=(t:Int):=⟨q.toNat,by omega⟩
  obtain ⟨g2,i2,hr⟩:=lo ((N,(k,h),()),u,()) q s2 (0,fun _=>0) h2 (by show 0+q≤2;omega)
  refine ⟨((N,(k,h),()),u,()),g2,⟨hk,by show u.1≤8;omega⟩,i2,?_⟩
  refine csZ Tryz.func20 (fun c hc=>?_)
  refine pcD hc (dua n f s s1 s2 ((N,(k,h),()),u,()) q) ?_ (hr c hc)
  and_intros
  iterate 2 all_goals (first | exact zI | (exact c0) | (exact c1) | (exact c2) | (intro i hi;exact absurd hi (Nat.not_lt_zero _)) | (intros;simp [All];done) | (simp;done) | (simp;omega) | simp only [All])
theorem con_l28Broken (n:Nat) (f:Nat→Int) (hn:CdOk n f):∃ (p:T_Pinned),SmP p ∧
    zE 72 [cdA n f] [(0,brOb p.1.2.1.1 p.1.2.1.2),(1,iOb p.2.1.1 p.2.1.2)] (pjV p):=by
  obtain ⟨p,g,hp,hg,c1⟩:=con_DrawDamaged n f hn
  have c2:=con_Damaged_s p hp.sm g (by omega)
  have hle:=dmP_le p g
  cases hb:dmB p g with
  | true =>
    rw [hb] at c2
    refine ⟨dmP p g,⟨by omega,hle.2⟩,?_⟩
    refine csZ Tryz.func72 (fun c hc=>?_)
    refine pkD Tryz.func72 hc (dwt n f p (dmP p g) g true) ?_
    and_intros
    all_goals (first | exact zI | (exact c1) | (exact c2) | (intros;simp [All];done) | (simp;done))
  | false =>
    rw [hb] at c2
    refine ⟨p,hp,?_⟩
    refine csZ Tryz.func72 (fun c hc=>?_)
    refine pkD Tryz.func72 hc (dwf n f p (dmP p g) g false) ?_
    and_intros
    all_goals (first | exact zI | (exact c1) | (exact c2) | (intros;simp [All];done) | (simp;done))
theorem con_l28Both (n:Nat) (f:Nat→Int) (hn:CdOk n f):∃ (p:T_Pinned) (l:NB),SmP p∧l.1≤64 ∧
    zE 82 [cdA n f] [(0,brOb p.1.2.1.1 p.1.2.1.2),(1,iOb p.2.1.1 p.2.1.2),(2,brOb l.1 l.2)] (.tup [pjV p,.ar 2 2 0 l.1]):=by
  obtain ⟨s,h0,c0⟩:=con_l1New n f hn
  obtain ⟨p,hp,c1⟩:=con_l28Broken n f hn
  have c2:=con_RepairBars_s p hp.sm
  have hl:=rbL_n p
  cases hb:rbB p with
  | false =>
    rw [hb] at c2
    obtain ⟨s2,m,h2,hm,c3⟩:=con_l28Stock n f hn s h0
    refine ⟨p,m,hp,by omega,?_⟩
    refine csZ Tryz.func82 (fun c hc=>?_)
    refine pkD Tryz.func82 hc (dxn n f s s s2 p (rbL p) m false) ?_
    and_intros
    all_goals (first | exact zI | (exact c0) | (exact c1) | (exact c2) | (exact c3) | (intros;simp [All];done) | (simp;done))
  | true =>
    rw [hb] at c2
    obtain ⟨s1,b,h1,c3⟩:=con_l1Once n f hn s h0 2 (by omega)
    cases b with
    | true =>
      refine ⟨p,rbL p,hp,hl,?_⟩
      refine csZ Tryz.func82 (fun c hc=>?_)
      refine pkD Tryz.func82 hc (dxt n f s s1 s1 p (rbL p) (rbL p) true) ?_
      and_intros
      all_goals (first | exact zI | (exact c0) | (exact c1) | (exact c2) | (exact c3) | (intros;simp [All];done) | (simp;done))
    | false =>
      obtain ⟨s2,m,h2,hm,c4⟩:=con_l28Stock n f hn s1 h1
      refine ⟨p,m,hp,by omega,?_⟩
      refine csZ Tryz.func82 (fun c hc=>?_)
      refine pkD Tryz.func82 hc (dxf n f s s1 s2 p (rbL p) m true) ?_
      and_intros
      all_goals (first | exact zI | (exact c0) | (exact c1) | (exact c2) | (exact c3) | (exact c4) | (intros;simp [All];done) | (simp;done))
theorem con_DrawRepairBars (n:Nat) (f:Nat→Int) (hn:CdOk n f):∃ (p:T_Pinned),SmP p ∧
    zE 7 [cdA n f] [(0,brOb p.1.2.1.1 p.1.2.1.2),(1,iOb p.2.1.1 p.2.1.2)] (pjV p):=by
  obtain ⟨p,hp,c1⟩:=con_l28Broken n f hn
  refine ⟨p,hp,?_⟩
  refine csZ Tryz.func7 (fun c hc=>?_)
  refine pkZ Tryz.func7 hc (dyR n f p) ?_
  and_intros
  all_goals (first | exact zI | (exact c1) | (intros;simp [All];done) | (simp;done))
theorem con_DrawIsRepair (n:Nat) (f:Nat→Int) (hn:CdOk n f):∃ (p:T_Pinned) (l:NB),SmP p∧l.1≤64 ∧
    zE 15 [cdA n f] [(0,brOb p.1.2.1.1 p.1.2.1.2),(1,iOb p.2.1.1 p.2.1.2),(2,brOb l.1 l.2)] (.tup [pjV p,.ar 2 2 0 l.1]):=by
  obtain ⟨p,l,hp,hl,c1⟩:=con_l28Both n f hn
  refine ⟨p,l,hp,hl,?_⟩
  refine csZ Tryz.func15 (fun c hc=>?_)
  refine pkZ Tryz.func15 hc (dyI n f p l) ?_
  and_intros
  all_goals (first | exact zI | (exact c1) | (intros;simp [All];done) | (simp;done))
theorem con_DrawApplyRepair (n:Nat) (f:Nat→Int) (hn:CdOk n f):∃ (p:T_Pinned) (l:NB),SmP p∧l.1≤64 ∧
    zE 17 [cdA n f] [(0,brOb p.1.2.1.1 p.1.2.1.2),(1,iOb p.2.1.1 p.2.1.2),(2,brOb l.1 l.2)] (.tup [pjV p,.ar 2 2 0 l.1]):=by
  obtain ⟨p,l,hp,hl,c1⟩:=con_l28Both n f hn
  refine ⟨p,l,hp,hl,?_⟩
  refine csZ Tryz.func17 (fun c hc=>?_)
  refine pkZ Tryz.func17 hc (dyA n f p l) ?_
  and_intros
  all_goals (first | exact zI | (exact c1) | (intros;simp [All];done) | (simp;done))
theorem con_DrawCanRepair (n:Nat) (f:Nat→Int) (hn:CdOk n f):∃ (p:T_Pinned) (l:NB),SmP p∧l.1≤64 ∧
    zE 23 [cdA n f] [(0,brOb p.1.2.1.1 p.1.2.1.2),(1,iOb p.2.1.1 p.2.1.2),(2,brOb l.1 l.2)] (.tup [pjV p,.ar 2 2 0 l.1]):=by
  obtain ⟨p,l,hp,hl,c1⟩:=con_l28Both n f hn
  refine ⟨p,l,hp,hl,?_⟩
  refine csZ Tryz.func23 (fun c hc=>?_)
  refine pkZ Tryz.func23 hc (dyC n f p l) ?_
  and_intros
  all_goals (first | exact zI | (exact c1) | (intros;simp [All];done) | (simp;done))
theorem con_sameIq (v:T_IntS) (hn:v.1≤1048576):zE 94 [inL v,inL v] [] (.p (.bool true)):=by
  refine csZ Tryz.func94 (fun c hc=>?_)
  have lo:∀ m k,k+m=v.1→zR c 94 zf66 (SIq v k) (Post c [] (.p (.bool true))):=by
    intro m
    induction m with
    | zero =>
      intro k hk
      have hd:decide ((k:Int)<(v.1:Int))=false:=decide_eq_false (by omega)
      refine pkZ Tryz.func94 hc (diqd v k) ?_
      and_intros
      all_goals (first | exact zN | (exact hd) | (simp;done))
    | succ m ih =>
      intro k hk
      have hd:decide ((k:Int)<(v.1:Int))=true:=decide_eq_true (by omega)
      refine pcD hc (diqb v k) ?_ (ih (k+1) (by omega))
      and_intros
      all_goals (first | exact zN | (exact hd) | (simp;done) | (simp;omega))
  refine pcD hc (diqa v) ?_ (lo v.1 0 (by omega))
  and_intros
  all_goals (first | exact zN | (simp;done))
theorem con_sameBq (v:T_BarS) (hn:v.1≤1048576):zE 11 [graphL v,graphL v] [] (.p (.bool true)):=by
  refine csZ Tryz.func11 (fun c hc=>?_)
  have lo:∀ m k,k+m=v.1→zR c 11 zf67 (SBq v k) (Post c [] (.p (.bool true))):=by
    intro m
    induction m with
    | zero =>
      intro k hk
      have hd:decide ((k:Int)<(v.1:Int))=false:=decide_eq_false (by omega)
      refine pkZ Tryz.func11 hc (dbqd v k) ?_
      and_intros
      all_goals (first | exact zN | (exact hd) | (simp;done))
    | succ m ih =>
      intro k hk
      have hd:decide ((k:Int)<(v.1:Int))=true:=decide_eq_true (by omega)
      refine pcD hc (dbqb v k) ?_ (ih (k+1) (by omega))
      and_intros
      all_goals (first | exact zN | (exact hd) | (simp;done) | (simp;omega))
  refine pcD hc (dbqa v) ?_ (lo v.1 0 (by omega))
  and_intros
  all_goals (first | exact zN | (simp;done))
theorem con_sameP (p:T_Pinned) (h:SmP p):zE 24 [pinA p,pinA p] [] (.p (.bool true)):=by
  have c1:=con_EqualGraphs_s p.1 p.1 (by have:=h.1;omega)
  have e:eqGr p.1 p.1=true:=by
    have key:∀ (g:Nat→T_Bar) n,qT_BarS g g n=true:=fun g n=>by
      induction n with
      | zero=>rfl
      | succ n ih=>simp [qT_BarS,ih,q1_BarS]
    simp [eqGr,q_BarS,key]
  rw [e] at c1
  have c2:=con_sameIq p.2.1 (by have:=h.2;omega)
  refine csZ Tryz.func24 (fun c hc=>?_)
  refine pkD Tryz.func24 hc (dpq p) ?_
  and_intros
  all_goals (first | exact zI | (exact c1) | (intros;exact c2) | (simp;done))
def AscB (n:Nat) (h:Nat→T_Bar):Prop:=∀ s,s+1<n→aft (h s) (h (s+1))=true
theorem isG_of {N nb:Nat} {g:Nat→T_Bar} (hN:1≤N∧N≤8) (hnb:nb≤24) (hok:OkBars N nb g) (ha:AscB nb g):isGraphF ((N:Int),(nb,g),())=true:=by
  have hgood:∀ k,k≤nb→goodB (N:Int) g k=true:=by
    intro k
    induction k with
    | zero=>intro _;rfl
    | succ k ih =>
      intro hk
      rw [goodB,ih (by omega),Bool.true_and,Bool.not_eq_true']
      have hb:=hok k (by omega)
      have a1:decide ((g k).1<0)=false:=decide_eq_false (by omega)
      have a2:decide ((g k).1≥(g k).2.1)=false:=decide_eq_false (by omega)
      have a3:decide ((g k).2.1≥(N:Int))=false:=decide_eq_false (by omega)
      unfold badB
      rw [a1,a2,a3]
      simp only [cond_false]
      by_cases h0:k=0
      · subst h0;rfl
      · have:=ha (k - 1) (by omega)
        rw [show k - 1+1=k by omega] at this
        rw [show ((k:Int) - 1).toNat=k - 1 by omega,this]
        cases decide ((k:Int)>0)<;>rfl
  have hin:inB (N:Int) 1 8=true:=by simp [inB];omega
  rw [isGraphF,if_pos ⟨hin,hnb⟩]
  exact hgood nb (Nat.le_refl _)
end Go.Proofs.YtkepkjbofchckaaGreat.Mach
