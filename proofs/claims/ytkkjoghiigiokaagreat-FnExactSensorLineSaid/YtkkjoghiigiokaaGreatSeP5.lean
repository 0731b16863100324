/- What the law Se needs, part 5 of 5: the abstract machine and the contracts of the functions. Conditions: as each theorem says. -/
import Derived.Laws.Strings
import Derived.Test.YtkkjoghiigiokaaGreatSeP4
namespace Go.Proofs.YtkkjoghiigiokaaGreat.Mach
open Go
set_option linter.unusedVariables false
set_option linter.unusedSimpArgs false
def lpS (g:Nat→T_Bar) (nb N:Nat) (S:T_IntS) (c:Nat) (f:Nat→Int) (v:Nat):St :=
  ⟨[grG g nb N,inL S,.pt 2 0 0 0,.p .any,.pt 2 1 0 0,.ar 1 2 0 c,.p (.int .i64 v)]++List.replicate 18 anyA,[(0,bxG g nb N),(1,z2),(2,iOb c f)],3⟩
def w5S (u:T_IntS) (x:Int) (c:Nat) (f:Nat→Int) (p:Bool) (i:Nat):St :=
  ⟨[inL u,.p (.int .i64 x),.p .any,.p .any,.p .any,.ar 1 0 0 c,.p (.bool p),.p (.int .i64 i)]++List.replicate 41 anyA,[(0,iOb c f)],1⟩
def loA (g:Nat→T_Bar) (nb N:Nat) (u:T_IntS) (n:Nat) (h:Nat→T_Bar) (B i:Nat):St :=
  ⟨[grG g nb N,inL u,.pt 2 0 0 0,.p .any,.p .any,.pt 2 1 0 0,.p .any,.p (.int .i64 B)]++List.replicate 18 anyA++[inL u,.p (.int .i64 u.1),.p (.int .i64 i)]++List.replicate 32 anyA,[(0,bxG g nb N),(1,gbx N 2 n),(2,brOb n h)],3⟩
def loB (g:Nat→T_Bar) (nb N:Nat) (u:T_IntS) (n:Nat) (h:Nat→T_Bar) (B w L m:Nat):St :=
  ⟨[grG g nb N,inL u,.pt 2 0 0 0,.p .any,.p .any,.pt 2 1 0 0,.p .any,.p (.int .i64 B),.p .any,.p .any,.p (.int .i64 w)]++List.replicate 28 anyA++[.p (.int .i64 L),.p (.int .i64 m)]++List.replicate 20 anyA,[(0,bxG g nb N),(1,gbx N 2 n),(2,brOb n h)],3⟩
def lqA (g:Nat→T_Bar) (nb N:Nat) (u:T_IntS) (n:Nat) (h:Nat→T_Bar) (c:Nat) (f:Nat→Int) (m:Nat):St :=
  ⟨[grG g nb N,inL u,.pt 2 0 0 0,.p .any,.p .any,.ar 1 1 0 c,.pt 2 2 0 0,.p .any,.p (.int .i64 m)]++List.replicate 72 anyA,[(0,bxG g nb N),(1,iOb c f),(2,gbx N 3 n),(3,brOb n h)],4⟩
def lqB (g:Nat→T_Bar) (nb N:Nat) (u:T_IntS) (n:Nat) (h:Nat→T_Bar) (c:Nat) (f:Nat→Int) (m:Nat) (S:T_IntS) (a:Bool) (i:Nat):St :=
  ⟨[grG g nb N,inL u,.pt 2 0 0 0,.p .any,.p .any,.ar 1 1 0 c,.pt 2 2 0 0,.p .any,.p (.int .i64 m),.ar 1 4 0 S.1,.p (.bool a),.p (.int .i64 i)]++List.replicate 69 anyA,[(0,bxG g nb N),(1,iOb c f),(2,gbx N 3 n),(3,brOb n h),(4,iOb S.1 S.2)],5⟩
def lqC (g:Nat→T_Bar) (nb N:Nat) (u:T_IntS) (n:Nat) (h:Nat→T_Bar) (c:Nat) (f:Nat→Int) (m:Nat) (S:T_IntS) (i:Nat):St :=
  ⟨[grG g nb N,inL u,.pt 2 0 0 0,.p .any,.p .any,.ar 1 1 0 c,.pt 2 2 0 0,.p .any,.p (.int .i64 m),.ar 1 4 0 S.1,.p .any,.p .any,.p (.int .i64 i)]++List.replicate 68 anyA,[(0,bxG g nb N),(1,iOb c f),(2,gbx N 3 n),(3,brOb n h),(4,iOb S.1 S.2)],5⟩
theorem gnx (v:T_Graph) (b:Bool) :
    zS Tryz.f351 [rg 2,rm [(1,oc [] (.p (.bool false))),(3,oc [] (.p (.bool b)))] 2,.dec true,rg 1] [graphA v] [] [] (.p (.str kwGraph)) =
    some [(NT 0 1),zE 62 [(zf91 v)] [] (.p (.bool false)),(((!!false)=true)→(NT 0 1)),(AG (!!false)),(((!!false)=true)→ zE 217 [(zf91 v)] [] (.p (.bool b))),(((!false)=false)→ ((!!false)=true)),((bif !false then true else b)=true),(ByteArray.mk #[103,114,97,112,104]=kwGraph)]:=by kernel_rfl
theorem gny (v:T_Graph) :
    zS Tryz.f307 [rg 2,rm [(1,oc [] (.p (.bool false)))] 2,.dec true,rg 1] [graphA v] [] [] (.p (.str kwGraph)) =
    some [(NT 0 1),zE 209 [(zf91 v)] [] (.p (.bool false)),((!false)=true),(ByteArray.mk #[103,114,97,112,104]=kwGraph)]:=by kernel_rfl
theorem gnv (v:T_Graph) (s:ByteArray) :
    zS Tryz.f310 [rg 2,rm [(1,oc [] (.p (.str s)))] 2] [graphA v] [] [] (.p (.bool (s.toList==kwE.toList))) =
    some [(NT 0 1),zE 351 [(zf91 v)] [] (.p (.str s)),((s.toList==(ByteArray.mk #[]).toList)=(s.toList==kwE.toList))]:=by kernel_rfl
theorem gnw (v:T_Graph) (s:ByteArray) :
    zS Tryz.f211 [rg 2,rm [(1,oc [] (.p (.str s)))] 2] [graphA v] [] [] (.p (.bool (s.toList==kwE.toList))) =
    some [(NT 0 1),zE 307 [(zf91 v)] [] (.p (.str s)),((s.toList==(ByteArray.mk #[]).toList)=(s.toList==kwE.toList))]:=by kernel_rfl
theorem igl (g:Nat→T_Bar) (nb N m:Nat) (S:T_IntS) (W:T_Graph) (b:Bool) :
    zS Tryz.f221 [rg 2,rm [(9,oc [(0,iOb S.1 S.2)] (.ar 1 0 0 S.1)),(0,oc [(0,brOb W.2.1.1 W.2.1.2)] (.agg [.p (.int .i64 W.1),.ar 2 0 0 W.2.1.1])),(0,oc [] (.p (.bool b)))] 1] [grG g nb N,.p (.int .i64 m)] [] [] (.p (.bool b)) =
    some [(NT 0 1),(NT 0 1),(IL 0 (↑N:Int)),(ZLo (shlI IntKind.i64 1 (↑N:Int) - 1)),(ZHi (shlI IntKind.i64 1 (↑N:Int) - 1)),(ZLo (shlI IntKind.i64 1 (↑N:Int) - 1 - (↑m:Int))),(ZHi (shlI IntKind.i64 1 (↑N:Int) - 1 - (↑m:Int))),(NT 0 1),zE 190 [.p (.int .i64 (shlI IntKind.i64 1 (↑N:Int) - 1 - (↑m:Int))),.p (.int .i64 (↑N:Int))] [(0,⟨false,1,S.1,(fun i=>[.p (.int .i64 (S.2 i))])⟩)] (.ar 1 0 0 S.1),(AN 1),(NL S.1 S.1),zE 311 [(zf94 N nb g),.p (.seq true 1 S.1 (iRw S))] (zf95 W) (.agg [.p (.int .i64 W.1),.ar 2 0 0 W.2.1.1]),(AN 2),(NL W.2.1.1 W.2.1.1),zE 310 [(zf91 W)] [] (.p (.bool b)),(b=b)]:=by kernel_rfl
theorem lpz (g:Nat→T_Bar) (nb N:Nat) (S:T_IntS) :
    zT Tryz.f212 [rg 2,rg 2,rg 1,.head] [grG g nb N,inL S] [0,32,64] (lpS g nb N S 0 (fun _=>0) 0) =
    some (zf70,zD [(AI ((↑N:Int))),(AN nb),(AP nb (bRw g)),(AN S.1),(AP S.1 (iRw S)),(AN 0),((0:Int)=(↑0:Int)),((([AV.p (PV.int IntKind.i64 (↑N:Int)),brL g nb].length):Nat)=2),(NL 1 1),((((List.map (fun v=>AV.p (absV v)) [Value.int IntKind.i64 0,Value.slice none 0 0]).length):Nat)=2),(AI 0),(AN 1),(NL 0 0),(AA 0 (fun i=>[.p (.int .i64 0)]))] [0,1,2,3,4,5,5,5,5,6,7,8,8,0,1,2,9,8,8,10,11,12,13]):=by kernel_rfl
theorem lpt (g:Nat→T_Bar) (nb N:Nat) (S:T_IntS) (c:Nat) (f:Nat→Int) (v:Nat) :
    zM 0 [rg 4,.dec true,rm [(2,oc [] (.p (.bool false)))] 1,.dec true,rg 5,rg 3,.head] zf70 (lpS g nb N S c f v) [0,1,355] 1 (lpS g nb N S (c+1) (fun s=>if s<c then f s else v) (v+1)) =
    some (zf70,zD [(NT 0 1),((decide ((↑v:Int)<(↑N:Int)))=true),zE 172 [.p (.seq true 1 S.1 (iRw S)),.p (.int .i64 (↑v:Int))] [] (.p (.bool false)),((!false)=true),(NL 1 1),(NL c c),(NL ((c+1)*8) 140737488355328),(NL (c+1) 9223372036854775807),(ZLo ((↑v:Int)+1)),(ZHi ((↑v:Int)+1)),(AI ((↑N:Int))),(AN nb),(AP nb (bRw g)),(AN S.1),(AP S.1 (iRw S)),(AN 0),(AN ((c+1))),((((↑v:Int)+1):Int)=(↑(v+1):Int)),(AN 2),(AI 0),(AN 1),(NL (c+1) (c+1)),(CV [(355,⟨false,1,(c+1),(fun i_1=>(if (i_1<c) then [.p (.int .i64 (f i_1))] else [.p (.int .i64 (↑v:Int))]))⟩),(323,⟨false,1,1,(fun i_1=>[.p (.int .i64 (↑v:Int))])⟩),(0,⟨true,2,1,(fun i_1=>[.p (.int .i64 (↑N:Int)),.p (.seq true 2 nb (bRw g))])⟩),(1,⟨true,2,1,(fun i_1=>[.p (.int .i64 0),.p (.nil)])⟩)] [0,1,355] 1 (c+1) (fun i=>if (i<c) then [.p (.int .i64 (f i))] else [.p (.int .i64 (↑v:Int))]) (fun i=>[.p (.int .i64 (if i<c then f i else (↑v:Int)))]))] [0,1,2,3,4,5,6,7,8,9,10,11,12,13,14,15,15,15,16,17,18,4,4,10,11,12,18,4,4,19,20,21,22]):=by kernel_rfl
theorem lpf (g:Nat→T_Bar) (nb N:Nat) (S:T_IntS) (c:Nat) (f:Nat→Int) (v:Nat) :
    zM 0 [rg 4,.dec true,rm [(2,oc [] (.p (.bool true)))] 1,.dec false,rg 3,.head] zf70 (lpS g nb N S c f v) [0,1,2] 1 (lpS g nb N S c f (v+1)) =
    some (zf70,zD [(NT 0 1),((decide ((↑v:Int)<(↑N:Int)))=true),zE 172 [.p (.seq true 1 S.1 (iRw S)),.p (.int .i64 (↑v:Int))] [] (.p (.bool true)),((!true)=false),(ZLo ((↑v:Int)+1)),(ZHi ((↑v:Int)+1)),(AI ((↑N:Int))),(AN nb),(AP nb (bRw g)),(AN S.1),(AP S.1 (iRw S)),(AN 0),(AN c),((((↑v:Int)+1):Int)=(↑(v+1):Int)),(AN 2),(NL 1 1),(AI 0),(AN 1),(NL c c),(AA c (fun i=>[.p (.int .i64 (f i))]))] [0,1,2,3,4,5,6,7,8,9,10,11,11,11,12,13,14,15,15,6,7,8,14,15,15,16,17,18,19]):=by kernel_rfl
theorem lpe (g:Nat→T_Bar) (nb N:Nat) (S:T_IntS) (c:Nat) (f:Nat→Int) (v:Nat) (W:T_Graph) :
    zP Tryz.f212 0 [rg 4,.dec false,rm [(2,oc [(0,brOb W.2.1.1 W.2.1.2)] (.agg [.p (.int .i64 W.1),.ar 2 0 0 W.2.1.1]))] 1] zf70 (lpS g nb N S c f v) [195] 1 [(0,brOb W.2.1.1 W.2.1.2)] (.agg [.p (.int .i64 W.1),.ar 2 0 0 W.2.1.1]) =
    some [(NT 0 1),((decide ((↑v:Int)<(↑N:Int)))=false),(NT 0 1),(AN 1),(NL c c),zE 308 [(zf94 N nb g),.p (.seq true 1 c (fun i=>[.int .i64 (f i)]))] (zf95 W) (.agg [.p (.int .i64 W.1),.ar 2 0 0 W.2.1.1]),(NT 0 1),((true=true)→ (AN 1)),(NT 0 1),(AI W.1),(AN 0),(AN W.2.1.1),(AN 2),(NL W.2.1.1 W.2.1.1),(AA W.2.1.1 (fun i=>[.p (.int .i64 ((W.2.1.2 i).1)),.p (.int .i64 ((W.2.1.2 i).2.1))])),(AE W.2.1.1)]:=by kernel_rfl
theorem w5z (u:T_IntS) (x:Int) :
    zT Tryz.f213 [rg 1,rg 2,rg 1,rg 1,.head] [inL u,.p (.int .i64 x)] [32] (w5S u x 0 (fun _=>0) false 0) =
    some (zf54,[(AN u.1),(AP u.1 (iRw u)),(AI x),(AN 0),(AN 0),(false=false),((0:Int)=(↑0:Int)),(AN 1),(NL 0 0),(AA 0 (fun i=>[.p (.int .i64 0)]))]):=by kernel_rfl
theorem w5t (u:T_IntS) (x:Int) (c:Nat) (f:Nat→Int) (i:Nat) :
    zM 0 [rg 4,.dec true,rg 6,.dec false,rg 10,.dec true,rg 5,rg 1,rg 8,rg 3,.head] zf54 (w5S u x c f false i) [1025] 1 (w5S u x (c+1+1) (fun s=>if s<c+1 then (if s<c then f s else x) else u.2 i) true (i+1)) =
    some (zf54,zD [((decide ((↑i:Int)<(↑u.1:Int)))=true),(IL 0 (↑i:Int)),(IT (↑i:Int) (↑u.1:Int)),((u.2 i==x)=false),(AG (decide (u.2 (↑i:Int).toNat>x))),((bif decide (u.2 (↑i:Int).toNat>x) then !false else false)=true),(NL 1 1),(NL c c),(NL ((c+1)*8) 140737488355328),(NL (c+1) 9223372036854775807),(NL (c+1) (c+1)),(NL ((c+1+1)*8) 140737488355328),(NL (c+1+1) 9223372036854775807),(ZLo ((↑i:Int)+1)),(ZHi ((↑i:Int)+1)),(AN u.1),(AP u.1 (iRw u)),(AI x),(AN 0),(AN ((c+1+1))),(true=true),((((↑i:Int)+1):Int)=(↑(i+1):Int)),(AN 1),(NL (c+1+1) (c+1+1)),(CV [(1025,⟨false,1,(c+1+1),(fun i_2=>(if (i_2<c+1) then (if (i_2<c) then [.p (.int .i64 (f i_2))] else [.p (.int .i64 x)]) else [.p (.int .i64 (u.2 i))]))⟩),(993,⟨false,1,1,(fun i_2=>[.p (.int .i64 (u.2 i))])⟩),(705,⟨false,1,1,(fun i_2=>[.p (.int .i64 x)])⟩)] [1025] 1 (c+1+1) (fun i_1=>if (i_1<c+1) then (if (i_1<c) then [.p (.int .i64 (f i_1))] else [.p (.int .i64 x)]) else [.p (.int .i64 (u.2 i))]) (fun i_1=>[.p (.int .i64 (if i_1<c+1 then if i_1<c then f i_1 else x else u.2 i))]))] [0,1,2,3,1,2,4,4,5,6,7,8,9,1,2,6,10,11,12,13,14,15,16,17,18,19,20,21,22,23,24]):=by kernel_rfl
theorem w5f (u:T_IntS) (x:Int) (c:Nat) (f:Nat→Int) (p:Bool) (i:Nat) :
    zM 0 [rg 4,.dec true,rg 6,.dec false,rg 10,.dec false,rg 8,rg 3,.head] zf54 (w5S u x c f p i) [833] 1 (w5S u x (c+1) (fun s=>if s<c then f s else u.2 i) p (i+1)) =
    some (zf54,zD [((decide ((↑i:Int)<(↑u.1:Int)))=true),(IL 0 (↑i:Int)),(IT (↑i:Int) (↑u.1:Int)),((u.2 i==x)=false),(AG (decide (u.2 (↑i:Int).toNat>x))),((bif decide (u.2 (↑i:Int).toNat>x) then !p else false)=false),(NL 1 1),(NL c c),(NL ((c+1)*8) 140737488355328),(NL (c+1) 9223372036854775807),(ZLo ((↑i:Int)+1)),(ZHi ((↑i:Int)+1)),(AN u.1),(AP u.1 (iRw u)),(AI x),(AN 0),(AN ((c+1))),(p=p),((((↑i:Int)+1):Int)=(↑(i+1):Int)),(AN 1),(NL (c+1) (c+1)),(CV [(833,⟨false,1,(c+1),(fun i_2=>(if (i_2<c) then [.p (.int .i64 (f i_2))] else [.p (.int .i64 (u.2 i))]))⟩),(801,⟨false,1,1,(fun i_2=>[.p (.int .i64 (u.2 i))])⟩)] [833] 1 (c+1) (fun i_1=>if (i_1<c) then [.p (.int .i64 (f i_1))] else [.p (.int .i64 (u.2 i))]) (fun i_1=>[.p (.int .i64 (if i_1<c then f i_1 else u.2 i))]))] [0,1,2,3,1,2,4,4,5,1,2,6,7,8,9,10,11,12,13,14,15,16,17,18,19,20,21]):=by kernel_rfl
theorem w5a (u:T_IntS) (x:Int) (c:Nat) (f:Nat→Int) (i:Nat) :
    zP Tryz.f213 0 [rg 4,.dec false,rg 2,.dec true,rg 5,rg 2] zf54 (w5S u x c f false i) [289] 1 [(0,iOb (c+1) (fun s=>if s<c then f s else x))] (.ar 1 0 0 (c+1)) =
    some [((decide ((↑i:Int)<(↑u.1:Int)))=false),((!false)=true),(NL 1 1),(NL c c),(NL ((c+1)*8) 140737488355328),(NL (c+1) 9223372036854775807),(AN 0),(AN ((c+1))),(AN 1),(NL (c+1) (c+1)),(CV [(289,⟨false,1,(c+1),(fun i_2=>(if (i_2<c) then [.p (.int .i64 (f i_2))] else [.p (.int .i64 x)]))⟩),(257,⟨false,1,1,(fun i_2=>[.p (.int .i64 x)])⟩)] [289] 1 (c+1) (fun i_1=>if (i_1<c) then [.p (.int .i64 (f i_1))] else [.p (.int .i64 x)]) (fun i_1=>[.p (.int .i64 (if i_1<c then f i_1 else x))])),(AE ((c+1)))]:=by kernel_rfl
theorem w5b (u:T_IntS) (x:Int) (c:Nat) (f:Nat→Int) (i:Nat) :
    zP Tryz.f213 0 [rg 4,.dec false,rg 2,.dec false,rg 2] zf54 (w5S u x c f true i) [0] 1 [(0,iOb c f)] (.ar 1 0 0 c) =
    some [((decide ((↑i:Int)<(↑u.1:Int)))=false),((!true)=false),(AN 0),(AN c),(AN 1),(NL c c),(AA c (fun i_1=>[.p (.int .i64 (f i_1))])),(AE c)]:=by kernel_rfl
theorem lon (v:T_Graph) (u:T_IntS) (R:T_Graph×Bool) :
    zS Tryz.f110 [rg 2,rm [(2,oc [(0,brOb R.1.2.1.1 R.1.2.1.2)] (agA R))] 6,rg 7,.dec true,rg 2] [graphA v,inL u] [576] [(0,iOb 0 (fun _=>0))] (.ar 1 0 0 0) =
    some [(NT 0 1),zE 220 [(zf91 v),.p (.seq true 1 u.1 (iRw u))] [(0,⟨false,2,R.1.2.1.1,(fun i=>[.p (.int .i64 ((R.1.2.1.2 i).1)),.p (.int .i64 ((R.1.2.1.2 i).2.1))])⟩)] (.tup [.agg [.p (.int .i64 R.1.1),.ar 2 0 0 R.1.2.1.1],.p (.bool R.2)]),(NT 0 1),((true=true)→ (AN 1)),(AG (!!R.2)),(AG (!!R.2)),(((!R.2)=false)→ ((!!R.2)=true)),((bif !R.2 then true else decide ((↑u.1:Int)<3))=true),(AN 0),(AN 0),(AN 1),(NL 0 0),(AA 0 (fun i=>[.p (.int .i64 0)])),(AE 0)]:=by kernel_rfl
theorem loz (g:Nat→T_Bar) (nb N:Nat) (u:T_IntS) (n:Nat) (h:Nat→T_Bar) :
    zT Tryz.f110 [rg 2,rm [(2,oc [(0,brOb n h)] (zf109 N n))] 6,rg 7,.dec false,rg 1,rg 3,.head] [grG g nb N,inL u] [0,256,128] (loA g nb N u n h 0 0) =
    some (zf31,zD [(NT 0 1),zE 220 [(zf94 N nb g),.p (.seq true 1 u.1 (iRw u))] (zf99 n h) (.tup [.agg [.p (.int .i64 (↑N:Int)),.ar 2 0 0 n],.p (.bool true)]),((true=true)→ (AN 1)),(AG (!!true)),(((!true)=false)→ ((!!true)=true)),((bif !true then true else decide ((↑u.1:Int)<3))=false),(AI ((↑N:Int))),(AN nb),(AP nb (bRw g)),(AN u.1),(AP u.1 (iRw u)),(AN 0),((0:Int)=(↑0:Int)),(AI ((↑u.1:Int))),((([AV.p (PV.int IntKind.i64 (↑N:Int)),brL g nb].length):Nat)=2),(NL 1 1),((((List.map (fun v=>AV.p (absV v)) [Value.int IntKind.i64 0,Value.slice none 0 0]).length):Nat)=2),(AN n),(AN 2),(NL n n),(AA n (fun i=>[.p (.int .i64 ((h i).1)),.p (.int .i64 ((h i).2.1))]))] [0,1,0,2,3,3,4,5,6,7,8,9,10,11,11,12,9,10,13,12,14,15,15,6,7,8,16,15,15,6,11,17,18,19,20]):=by kernel_rfl
theorem loa (g:Nat→T_Bar) (nb N:Nat) (u:T_IntS) (n:Nat) (h:Nat→T_Bar) (B B' i:Nat) :
    zM 0 [rg 1,.dec true,rg 3,rg 5,rg 2,.head] zf31 (loA g nb N u n h B i) [0,1,2] 1 (loA g nb N u n h B' (i+1)) =
    some (zf31,zD [((decide ((↑i:Int)<(↑u.1:Int)))=true),(IL 0 (↑i:Int)),(IT (↑i:Int) (↑u.1:Int)),(IL 0 (u.2 i)),(ZLo ((↑i:Int)+1)),(ZHi ((↑i:Int)+1)),(AI ((↑N:Int))),(AN nb),(AP nb (bRw g)),(AN u.1),(AP u.1 (iRw u)),(AN 0),(((bitI BinOp.or IntKind.i64 (↑B:Int) (shlI IntKind.i64 1 (u.2 i))):Int)=(↑B':Int)),(AI ((↑u.1:Int))),((((↑i:Int)+1):Int)=(↑(i+1):Int)),(AN 2),(NL 1 1),(AN n),(NL n n),(AA n (fun i_1=>[.p (.int .i64 ((h i_1).1)),.p (.int .i64 ((h i_1).2.1))]))] [0,1,2,3,4,5,6,7,8,9,10,11,11,12,9,10,13,14,15,16,16,6,7,8,15,16,16,6,11,17,15,18,19]):=by kernel_rfl
theorem lob (g:Nat→T_Bar) (nb N:Nat) (u:T_IntS) (n:Nat) (h:Nat→T_Bar) (B L i:Nat) :
    zM 0 [rg 1,.dec false,rg 1,rg 4,.head] zf31 (loA g nb N u n h B i) [0,1,2] 1 (loB g nb N u n h B 0 L 0) =
    some (zf21,zD [((decide ((↑i:Int)<(↑u.1:Int)))=false),(NT 0 1),(IL 0 (↑N:Int)),(AI ((↑N:Int))),(AN nb),(AP nb (bRw g)),(AN u.1),(AP u.1 (iRw u)),(AN 0),(AI ((↑B:Int))),((0:Int)=(↑0:Int)),(((shlI IntKind.i64 1 (↑N:Int)):Int)=(↑L:Int)),(AN 2),(NL 1 1),(AN n),(NL n n),(AA n (fun i_1=>[.p (.int .i64 ((h i_1).1)),.p (.int .i64 ((h i_1).2.1))]))] [0,1,2,3,4,5,6,7,8,8,9,10,11,10,12,13,13,3,4,5,12,13,13,3,8,14,12,15,16]):=by kernel_rfl
theorem lot (g:Nat→T_Bar) (nb N:Nat) (u:T_IntS) (n:Nat) (h:Nat→T_Bar) (B w w' L m:Nat) (b:Bool) :
    zM 0 [rg 1,.dec true,rg 2,rm [(8,oc [] (.p (.bool b)))] 1,.dec true,rg 4,rg 2,.head] zf21 (loB g nb N u n h B w L m) [0,1,2] 1 (loB g nb N u n h B w' L (m+1)) =
    some (zf21,zD [((decide ((↑m:Int)<(↑L:Int)))=true),(((bitI BinOp.and IntKind.i64 (↑m:Int) (↑B:Int)==(↑B:Int))=true)→(NT 0 1)),(AG (bitI BinOp.and IntKind.i64 (↑m:Int) (↑B:Int)==(↑B:Int))),(((bitI BinOp.and IntKind.i64 (↑m:Int) (↑B:Int)==(↑B:Int))=true)→ (AN 2)),(((bitI BinOp.and IntKind.i64 (↑m:Int) (↑B:Int)==(↑B:Int))=true)→(NL n n)),(((bitI BinOp.and IntKind.i64 (↑m:Int) (↑B:Int)==(↑B:Int))=true)→ zE 221 [(zf94 N n h),.p (.int .i64 (↑m:Int))] [] (.p (.bool b))),((bif bitI BinOp.and IntKind.i64 (↑m:Int) (↑B:Int)==(↑B:Int) then b else false)=true),(ZLo ((↑m:Int)+1)),(ZHi ((↑m:Int)+1)),(AI ((↑N:Int))),(AN nb),(AP nb (bRw g)),(AN u.1),(AP u.1 (iRw u)),(AN 0),(AI ((↑B:Int))),(((bitI BinOp.or IntKind.i64 (↑w:Int) (↑m:Int)):Int)=(↑w':Int)),(AI ((↑L:Int))),((((↑m:Int)+1):Int)=(↑(m+1):Int)),(AN 2),(NL 1 1),(AN n),(NL n n),(AA n (fun i=>[.p (.int .i64 ((h i).1)),.p (.int .i64 ((h i).2.1))]))] [0,1,2,2,3,4,5,2,6,7,8,9,10,11,12,13,14,14,15,16,17,18,19,20,20,9,10,11,19,20,20,9,14,21,19,22,23]):=by kernel_rfl
theorem lof (g:Nat→T_Bar) (nb N:Nat) (u:T_IntS) (n:Nat) (h:Nat→T_Bar) (B w L m:Nat) (b:Bool) :
    zM 0 [rg 1,.dec true,rg 2,rm [(8,oc [] (.p (.bool b)))] 1,.dec false,rg 2,.head] zf21 (loB g nb N u n h B w L m) [0,1,2] 1 (loB g nb N u n h B w L (m+1)) =
    some (zf21,zD [((decide ((↑m:Int)<(↑L:Int)))=true),(((bitI BinOp.and IntKind.i64 (↑m:Int) (↑B:Int)==(↑B:Int))=true)→(NT 0 1)),(AG (bitI BinOp.and IntKind.i64 (↑m:Int) (↑B:Int)==(↑B:Int))),(((bitI BinOp.and IntKind.i64 (↑m:Int) (↑B:Int)==(↑B:Int))=true)→ (AN 2)),(((bitI BinOp.and IntKind.i64 (↑m:Int) (↑B:Int)==(↑B:Int))=true)→(NL n n)),(((bitI BinOp.and IntKind.i64 (↑m:Int) (↑B:Int)==(↑B:Int))=true)→ zE 221 [(zf94 N n h),.p (.int .i64 (↑m:Int))] [] (.p (.bool b))),((bif bitI BinOp.and IntKind.i64 (↑m:Int) (↑B:Int)==(↑B:Int) then b else false)=false),(ZLo ((↑m:Int)+1)),(ZHi ((↑m:Int)+1)),(AI ((↑N:Int))),(AN nb),(AP nb (bRw g)),(AN u.1),(AP u.1 (iRw u)),(AN 0),(AI ((↑B:Int))),(AI ((↑w:Int))),(AI ((↑L:Int))),((((↑m:Int)+1):Int)=(↑(m+1):Int)),(AN 2),(NL 1 1),(AN n),(NL n n),(AA n (fun i=>[.p (.int .i64 ((h i).1)),.p (.int .i64 ((h i).2.1))]))] [0,1,2,2,3,4,5,2,6,7,8,9,10,11,12,13,14,14,15,16,17,18,19,20,20,9,10,11,19,20,20,9,14,21,19,22,23]):=by kernel_rfl
theorem loe (g:Nat→T_Bar) (nb N:Nat) (u:T_IntS) (n:Nat) (h:Nat→T_Bar) (B w L m:Nat) (S:T_IntS) :
    zP Tryz.f110 0 [rg 1,.dec false,rm [(3,oc [(0,iOb S.1 S.2)] (.ar 1 0 0 S.1))] 1] zf21 (loB g nb N u n h B w L m) [131] 1 [(0,iOb S.1 S.2)] (.ar 1 0 0 S.1) =
    some [((decide ((↑m:Int)<(↑L:Int)))=false),(NT 0 1),zE 190 [.p (.int .i64 (↑w:Int)),.p (.int .i64 (↑N:Int))] [(0,⟨false,1,S.1,(fun i=>[.p (.int .i64 (S.2 i))])⟩)] (.ar 1 0 0 S.1),(AN 0),(AN S.1),(AN 1),(NL S.1 S.1),(AA S.1 (fun i=>[.p (.int .i64 (S.2 i))])),(AE S.1)]:=by kernel_rfl
theorem lqn (v:T_Graph) (u:T_IntS) (R:T_Graph×Bool) :
    zS Tryz.f102 [rg 2,rg 2,rm [(2,oc [(0,brOb R.1.2.1.1 R.1.2.1.2)] (agA R))] 6,rg 7,.dec true,rg 2] [graphA v,inL u] [64] [(0,iOb 0 (fun _=>0))] (.ar 1 0 0 0) =
    some [(NT 0 1),zE 210 [(zf91 v),.p (.seq true 1 u.1 (iRw u))] [(0,⟨false,2,R.1.2.1.1,(fun i=>[.p (.int .i64 ((R.1.2.1.2 i).1)),.p (.int .i64 ((R.1.2.1.2 i).2.1))])⟩)] (.tup [.agg [.p (.int .i64 R.1.1),.ar 2 0 0 R.1.2.1.1],.p (.bool R.2)]),(NT 0 1),((true=true)→ (AN 1)),(AG (!!R.2)),(AG (!!R.2)),(((!R.2)=false)→ ((!!R.2)=true)),((bif !R.2 then true else decide ((↑u.1:Int)<3))=true),(AN 0),(AN 0),(AN 1),(NL 0 0),(AA 0 (fun i=>[.p (.int .i64 0)])),(AE 0)]:=by kernel_rfl
theorem lqz (g:Nat→T_Bar) (nb N:Nat) (u:T_IntS) (n:Nat) (h:Nat→T_Bar) :
    zT Tryz.f102 [rg 2,rg 2,rm [(2,oc [(0,brOb n h)] (zf109 N n))] 6,rg 7,.dec false,rg 1,.head] [grG g nb N,inL u] [0,64,320,192] (lqA g nb N u n h 0 (fun _=>0) 1) =
    some (zf32,zD [(NT 0 1),zE 210 [(zf94 N nb g),.p (.seq true 1 u.1 (iRw u))] (zf99 n h) (.tup [.agg [.p (.int .i64 (↑N:Int)),.ar 2 0 0 n],.p (.bool true)]),((true=true)→ (AN 1)),(AG (!!true)),(((!true)=false)→ ((!!true)=true)),((bif !true then true else decide ((↑u.1:Int)<3))=false),(AI ((↑N:Int))),(AN nb),(AP nb (bRw g)),(AN u.1),(AP u.1 (iRw u)),(AN 0),((1:Int)=(↑1:Int)),((([AV.p (PV.int IntKind.i64 (↑N:Int)),brL g nb].length):Nat)=2),(NL 1 1),(AN 1),(NL 0 0),(AA 0 (fun i=>[.p (.int .i64 0)])),((((List.map (fun v=>AV.p (absV v)) [Value.int IntKind.i64 0,Value.slice none 0 0]).length):Nat)=2),(AN n),(AN 2),(NL n n),(AA n (fun i=>[.p (.int .i64 ((h i).1)),.p (.int .i64 ((h i).2.1))]))] [0,1,0,2,3,3,4,5,6,7,8,9,10,11,11,11,11,12,13,14,14,6,7,8,15,16,17,18,14,14,6,11,19,20,21,22]):=by kernel_rfl
theorem lqe (g:Nat→T_Bar) (nb N:Nat) (u:T_IntS) (n:Nat) (h:Nat→T_Bar) (c:Nat) (f:Nat→Int) (m:Nat) :
    zP Tryz.f102 0 [rg 5,.dec false,rg 2] zf32 (lqA g nb N u n h c f m) [1] 1 [(0,iOb c f)] (.ar 1 0 0 c) =
    some [(NT 0 1),(IL 0 (↑N:Int)),((decide ((↑m:Int)<shlI IntKind.i64 1 (↑N:Int)))=false),(AN 0),(AN c),(AN 1),(NL c c),(AA c (fun i=>[.p (.int .i64 (f i))])),(AE c)]:=by kernel_rfl
theorem lqs (g:Nat→T_Bar) (nb N:Nat) (u:T_IntS) (n:Nat) (h:Nat→T_Bar) (c:Nat) (f:Nat→Int) (m:Nat) (S:T_IntS) :
    zM 0 [rg 5,.dec true,rm [(3,oc [(0,iOb S.1 S.2)] (.ar 1 0 0 S.1))] 1,rg 1,rg 1,.head] zf32 (lqA g nb N u n h c f m) [0,1,2,3,260] 1 (lqB g nb N u n h c f m S true 0) =
    some (zf5,zD [(NT 0 1),(IL 0 (↑N:Int)),((decide ((↑m:Int)<shlI IntKind.i64 1 (↑N:Int)))=true),zE 177 [.p (.int .i64 (↑N:Int)),.p (.int .i64 (↑m:Int))] [(0,⟨false,1,S.1,(fun i=>[.p (.int .i64 (S.2 i))])⟩)] (.ar 1 0 0 S.1),(AI ((↑N:Int))),(AN nb),(AP nb (bRw g)),(AN u.1),(AP u.1 (iRw u)),(AN 0),(AN c),(AI ((↑m:Int))),(AN S.1),(true=true),((0:Int)=(↑0:Int)),(AN 2),(NL 1 1),(AN 1),(NL c c),(AA c (fun i=>[.p (.int .i64 (f i))])),(AN n),(NL n n),(AA n (fun i=>[.p (.int .i64 ((h i).1)),.p (.int .i64 ((h i).2.1))])),(NL S.1 S.1),(AA S.1 (fun i=>[.p (.int .i64 (S.2 i))]))] [0,1,2,0,3,4,5,6,7,8,9,9,10,9,11,9,12,13,14,15,16,16,4,5,6,17,18,19,15,16,16,4,9,20,15,21,22,17,23,24]):=by kernel_rfl
theorem lqt (g:Nat→T_Bar) (nb N:Nat) (u:T_IntS) (n:Nat) (h:Nat→T_Bar) (c:Nat) (f:Nat→Int) (m:Nat) (S:T_IntS) (a b:Bool) (i:Nat) :
    zM 0 [rg 4,.dec true,rm [(7,oc [] (.p (.bool b)))] 2,rg 3,.head] zf5 (lqB g nb N u n h c f m S a i) [0,1,2,3,4] 1 (lqB g nb N u n h c f m S (bif a then b else false) (i+1)) =
    some (zf5,zD [((decide ((↑i:Int)<(↑u.1:Int)))=true),(AG a),((a=true)→(IL 0 (↑i:Int))),((a=true)→(IT (↑i:Int) (↑u.1:Int))),((a=true)→ (AN 1)),((a=true)→(NL S.1 S.1)),((a=true)→ zE 172 [.p (.seq true 1 S.1 (iRw S)),.p (.int .i64 (u.2 i))] [] (.p (.bool b))),(ZLo ((↑i:Int)+1)),(ZHi ((↑i:Int)+1)),(AI ((↑N:Int))),(AN nb),(AP nb (bRw g)),(AN u.1),(AP u.1 (iRw u)),(AN 0),(AN c),(AI ((↑m:Int))),(AN S.1),((bif a then b else false)=(bif a then b else false)),((((↑i:Int)+1):Int)=(↑(i+1):Int)),(AN 2),(NL 1 1),(AN 1),(NL c c),(AA c (fun i_1=>[.p (.int .i64 (f i_1))])),(AN n),(NL n n),(AA n (fun i_1=>[.p (.int .i64 ((h i_1).1)),.p (.int .i64 ((h i_1).2.1))])),(NL S.1 S.1),(AA S.1 (fun i_1=>[.p (.int .i64 (S.2 i_1))]))] [0,1,1,2,3,1,1,1,4,5,6,1,7,8,9,10,11,12,13,14,14,15,14,16,14,17,18,19,20,21,21,9,10,11,22,23,24,20,21,21,9,14,25,20,26,27,22,28,29]):=by kernel_rfl
theorem lqx (g:Nat→T_Bar) (nb N:Nat) (u:T_IntS) (n:Nat) (h:Nat→T_Bar) (c:Nat) (f:Nat→Int) (m:Nat) (S:T_IntS) (i:Nat) :
    zM 0 [rg 4,.dec false,rm [(2,gF),(0,gF),(0,gF),(0,gF),(0,gF)] 0,.dec false,rg 3,.head] zf5 (lqB g nb N u n h c f m S false i) [0,1,2,3] 1 (lqA g nb N u n h c f (m+1)) =
    some (zf32,zD [((decide ((↑i:Int)<(↑u.1:Int)))=false),(false=false),(ZLo ((↑m:Int)+1)),(ZHi ((↑m:Int)+1)),(AI ((↑N:Int))),(AN nb),(AP nb (bRw g)),(AN u.1),(AP u.1 (iRw u)),(AN 0),(AN c),((((↑m:Int)+1):Int)=(↑(m+1):Int)),(AN 2),(NL 1 1),(AN 1),(NL c c),(AA c (fun i_1=>[.p (.int .i64 (f i_1))])),(AN n),(NL n n),(AA n (fun i_1=>[.p (.int .i64 ((h i_1).1)),.p (.int .i64 ((h i_1).2.1))]))] [0,1,1,1,1,1,1,2,3,4,5,6,7,8,9,9,10,9,11,12,13,13,4,5,6,14,15,16,12,13,13,4,9,17,12,18,19]):=by kernel_rfl
theorem lqy (g:Nat→T_Bar) (nb N:Nat) (u:T_IntS) (n:Nat) (h:Nat→T_Bar) (c:Nat) (f:Nat→Int) (m:Nat) (S:T_IntS) (i:Nat) (W:T_Graph) :
    zM 0 [rg 4,.dec false,rm [(2,gT),(0,gT),(0,⟨true,(some ⟨[],[],[],1,[(0,brOb W.2.1.1 W.2.1.2)],.agg [.p (.int .i64 W.1),.ar 2 0 0 W.2.1.1]⟩),some true⟩),(0,⟨true,(some ⟨[],[],[],1,[],.p (.bool false)⟩),some true⟩),(0,gT)] 0,.dec false,rg 3,.head] zf5 (lqB g nb N u n h c f m S true i) [0,1,2,3] 1 (lqA g nb N u n h c f (m+1)) =
    some (zf32,zD [((decide ((↑i:Int)<(↑u.1:Int)))=false),(true=true),(NT 0 1),(AN 2),(NL n n),(AN 1),(NL S.1 S.1),zE 212 [(zf92 N n h),.p (.seq true 1 S.1 (iRw S))] [(0,⟨false,2,W.2.1.1,(fun i_1=>[.p (.int .i64 ((W.2.1.2 i_1).1)),.p (.int .i64 ((W.2.1.2 i_1).2.1))])⟩)] (.agg [.p (.int .i64 W.1),.ar 2 0 0 W.2.1.1]),(NL W.2.1.1 W.2.1.1),zE 211 [.agg [.p (.int .i64 W.1),.p (.seq true 2 W.2.1.1 (fun i_1=>[.int .i64 ((W.2.1.2 i_1).1),.int .i64 ((W.2.1.2 i_1).2.1)]))]] [] (.p (.bool false)),(false=false),(ZLo ((↑m:Int)+1)),(ZHi ((↑m:Int)+1)),(AI ((↑N:Int))),(AN nb),(AP nb (bRw g)),(AN u.1),(AP u.1 (iRw u)),(AN 0),(AN c),((((↑m:Int)+1):Int)=(↑(m+1):Int)),(NL 1 1),(NL c c),(AA c (fun i_1=>[.p (.int .i64 (f i_1))])),(AN n),(AA n (fun i_1=>[.p (.int .i64 ((h i_1).1)),.p (.int .i64 ((h i_1).2.1))]))] [0,1,2,1,1,3,4,5,6,7,1,3,8,9,1,10,11,12,13,14,15,16,17,18,18,19,18,20,3,21,21,13,14,15,5,22,23,3,21,21,13,18,24,3,4,25]):=by kernel_rfl
theorem lqw (g:Nat→T_Bar) (nb N:Nat) (u:T_IntS) (n:Nat) (h:Nat→T_Bar) (c:Nat) (f:Nat→Int) (m:Nat) (S:T_IntS) (i:Nat) (W:T_Graph) :
    zM 0 [rg 4,.dec false,rm [(2,gT),(0,gT),(0,⟨true,(some ⟨[],[],[],1,[(0,brOb W.2.1.1 W.2.1.2)],.agg [.p (.int .i64 W.1),.ar 2 0 0 W.2.1.1]⟩),some true⟩),(0,⟨true,(some ⟨[],[],[],1,[],.p (.bool true)⟩),some true⟩),(0,gT)] 0,.dec true,rg 1,.head] zf5 (lqB g nb N u n h c f m S true i) [0,1,2,3,4] 1 (lqC g nb N u n h c f m S 0) =
    some (zf8,zD [((decide ((↑i:Int)<(↑u.1:Int)))=false),(true=true),(NT 0 1),(AN 2),(NL n n),(AN 1),(NL S.1 S.1),zE 212 [(zf92 N n h),.p (.seq true 1 S.1 (iRw S))] [(0,⟨false,2,W.2.1.1,(fun i_1=>[.p (.int .i64 ((W.2.1.2 i_1).1)),.p (.int .i64 ((W.2.1.2 i_1).2.1))])⟩)] (.agg [.p (.int .i64 W.1),.ar 2 0 0 W.2.1.1]),(NL W.2.1.1 W.2.1.1),zE 211 [.agg [.p (.int .i64 W.1),.p (.seq true 2 W.2.1.1 (fun i_1=>[.int .i64 ((W.2.1.2 i_1).1),.int .i64 ((W.2.1.2 i_1).2.1)]))]] [] (.p (.bool true)),(AI ((↑N:Int))),(AN nb),(AP nb (bRw g)),(AN u.1),(AP u.1 (iRw u)),(AN 0),(AN c),(AI ((↑m:Int))),(AN S.1),((0:Int)=(↑0:Int)),(NL 1 1),(NL c c),(AA c (fun i_1=>[.p (.int .i64 (f i_1))])),(AN n),(AA n (fun i_1=>[.p (.int .i64 ((h i_1).1)),.p (.int .i64 ((h i_1).2.1))])),(AA S.1 (fun i_1=>[.p (.int .i64 (S.2 i_1))]))] [0,1,2,1,1,3,4,5,6,7,1,3,8,9,1,1,10,11,12,13,14,15,15,16,15,17,15,18,19,3,20,20,10,11,12,5,21,22,3,20,20,10,15,23,3,4,24,5,6,25]):=by kernel_rfl
theorem lqp (g:Nat→T_Bar) (nb N:Nat) (u:T_IntS) (n:Nat) (h:Nat→T_Bar) (c:Nat) (f:Nat→Int) (m:Nat) (S:T_IntS) (i:Nat) (T:T_IntS) :
    zM 0 [rg 4,.dec true,rm [(5,oc [] (.p (.bool false)))] 1,.dec true,rm [(5,oc [(0,iOb T.1 T.2)] (.ar 1 0 0 T.1))] 1,rg 3,.head] zf8 (lqC g nb N u n h c f m S i) [0,517,2,3,4] 1 (lqC g nb N u n h T.1 T.2 m S (i+1)) =
    some (zf8,zD [((decide ((↑i:Int)<(↑S.1:Int)))=true),(IL 0 (↑i:Int)),(IT (↑i:Int) (↑S.1:Int)),(NT i S.1),(AN 1),(NL c c),zE 172 [.p (.seq true 1 c (fun i_1=>[.int .i64 (f i_1)])),.p (.int .i64 (S.2 i))] [] (.p (.bool false)),((!false)=true),zE 213 [.p (.seq true 1 c (fun i_1=>[.int .i64 (f i_1)])),.p (.int .i64 (S.2 i))] (zf108 T) (.ar 1 0 0 T.1),(ZLo ((↑i:Int)+1)),(ZHi ((↑i:Int)+1)),(AI ((↑N:Int))),(AN nb),(AP nb (bRw g)),(AN u.1),(AP u.1 (iRw u)),(AN 0),(AN T.1),(AI ((↑m:Int))),(AN S.1),((((↑i:Int)+1):Int)=(↑(i+1):Int)),(AN 2),(NL 1 1),(NL T.1 T.1),(AA T.1 (fun i_1=>[.p (.int .i64 (T.2 i_1))])),(AN n),(NL n n),(AA n (fun i_1=>[.p (.int .i64 ((h i_1).1)),.p (.int .i64 ((h i_1).2.1))])),(NL S.1 S.1),(AA S.1 (fun i_1=>[.p (.int .i64 (S.2 i_1))]))] [0,1,2,3,4,5,6,7,1,2,3,4,5,8,9,10,11,12,13,14,15,16,16,17,16,18,16,19,20,21,22,22,11,12,13,4,23,24,21,22,22,11,16,25,21,26,27,4,28,29]):=by kernel_rfl
theorem lqq (g:Nat→T_Bar) (nb N:Nat) (u:T_IntS) (n:Nat) (h:Nat→T_Bar) (c:Nat) (f:Nat→Int) (m:Nat) (S:T_IntS) (i:Nat) :
    zM 0 [rg 4,.dec true,rm [(5,oc [] (.p (.bool true)))] 1,.dec false,rg 3,.head] zf8 (lqC g nb N u n h c f m S i) [0,1,2,3,4] 1 (lqC g nb N u n h c f m S (i+1)) =
    some (zf8,zD [((decide ((↑i:Int)<(↑S.1:Int)))=true),(IL 0 (↑i:Int)),(IT (↑i:Int) (↑S.1:Int)),(NT i S.1),(AN 1),(NL c c),zE 172 [.p (.seq true 1 c (fun i_1=>[.int .i64 (f i_1)])),.p (.int .i64 (S.2 i))] [] (.p (.bool true)),((!true)=false),(ZLo ((↑i:Int)+1)),(ZHi ((↑i:Int)+1)),(AI ((↑N:Int))),(AN nb),(AP nb (bRw g)),(AN u.1),(AP u.1 (iRw u)),(AN 0),(AN c),(AI ((↑m:Int))),(AN S.1),((((↑i:Int)+1):Int)=(↑(i+1):Int)),(AN 2),(NL 1 1),(AA c (fun i_1=>[.p (.int .i64 (f i_1))])),(AN n),(NL n n),(AA n (fun i_1=>[.p (.int .i64 ((h i_1).1)),.p (.int .i64 ((h i_1).2.1))])),(NL S.1 S.1),(AA S.1 (fun i_1=>[.p (.int .i64 (S.2 i_1))]))] [0,1,2,3,4,5,6,7,8,9,10,11,12,13,14,15,15,16,15,17,15,18,19,20,21,21,10,11,12,4,5,22,20,21,21,10,15,23,20,24,25,4,26,27]):=by kernel_rfl
theorem lqr (g:Nat→T_Bar) (nb N:Nat) (u:T_IntS) (n:Nat) (h:Nat→T_Bar) (c:Nat) (f:Nat→Int) (m:Nat) (S:T_IntS) (i:Nat) :
    zM 0 [rg 4,.dec false,rg 3,.head] zf8 (lqC g nb N u n h c f m S i) [0,1,2,3] 1 (lqA g nb N u n h c f (m+1)) =
    some (zf32,zD [((decide ((↑i:Int)<(↑S.1:Int)))=false),(ZLo ((↑m:Int)+1)),(ZHi ((↑m:Int)+1)),(AI ((↑N:Int))),(AN nb),(AP nb (bRw g)),(AN u.1),(AP u.1 (iRw u)),(AN 0),(AN c),((((↑m:Int)+1):Int)=(↑(m+1):Int)),(AN 2),(NL 1 1),(AN 1),(NL c c),(AA c (fun i_1=>[.p (.int .i64 (f i_1))])),(AN n),(NL n n),(AA n (fun i_1=>[.p (.int .i64 ((h i_1).1)),.p (.int .i64 ((h i_1).2.1))]))] [0,1,2,3,4,5,6,7,8,8,9,8,10,11,12,12,3,4,5,13,14,15,11,12,12,3,8,16,11,17,18]):=by kernel_rfl
theorem or_nat (x y:Nat) (hx:x<2 ^ 62) (hy:y<2 ^ 62):bitI .or .i64 (x:Int) (y:Int)=((x ||| y:Nat):Int):=by
  unfold bitI
  have e1:(BitVec.ofInt IntKind.i64.bits (x:Int) ||| BitVec.ofInt IntKind.i64.bits (y:Int)).toNat=x ||| y:=by
    rw [BitVec.toNat_or]
    show (BitVec.ofInt 64 (x:Int)).toNat ||| (BitVec.ofInt 64 (y:Int)).toNat=_
    rw [bv_nat,bv_nat,BitVec.toNat_ofNat,BitVec.toNat_ofNat,Nat.mod_eq_of_lt (by omega),Nat.mod_eq_of_lt (by omega)]
  simp only [e1]
  have:x ||| y<2 ^ 62:=Nat.or_lt_two_pow hx hy
  exact wrap_in (by simp only [imin];omega) (by simp only [imax];omega)
theorem sub_iff (m c:Nat):((m &&& c)==c)=true↔∀ i,c.testBit i=true→m.testBit i=true:=by
  rw [beq_iff_eq]
  constructor
  · intro h i hi
    have:=congrArg (fun x=>Nat.testBit x i) h
    simp only [Nat.testBit_and,hi,Bool.and_true] at this
    exact this
  · intro h
    refine Nat.eq_of_testBit_eq (fun i=>?_)
    rw [Nat.testBit_and]
    cases hc:c.testBit i with
    | false=>simp
    | true=>rw [h i hc];rfl
theorem sub_or (m b k:Nat):((m &&& (b ||| 2 ^ k))==(b ||| 2 ^ k))=(bif ((m &&& b)==b) then m.testBit k else false):=by
  rw [Bool.eq_iff_iff,sub_iff]
  constructor
  · intro h
    have h1:((m &&& b)==b)=true:=(sub_iff m b).2 (fun i hi=>h i (by rw [Nat.testBit_or,hi];rfl))
    have h2:m.testBit k=true:=h k (by rw [Nat.testBit_or,Nat.testBit_two_pow_self];simp)
    rw [h1,h2];rfl
  · intro h i hi
    cases h1:((m &&& b)==b) with
    | false=>rw [h1] at h;cases h
    | true =>
      rw [h1] at h
      rw [Nat.testBit_or,Nat.testBit_two_pow,Bool.or_eq_true] at hi
      rcases hi with hi | hi
      · exact (sub_iff m b).1 h1 i hi
      · have:k=i:=by simpa using hi
        rw [← this];exact h
def bsN (u:T_IntS):Nat→Nat
  | 0=>0
  | i+1=>bsN u i ||| 2 ^ (u.2 i).toNat
theorem bsN_lt {u:T_IntS} {N:Nat} (h:∀ i,i<u.1→(u.2 i).toNat<N):∀ i,i≤u.1→bsN u i<2 ^ N
  | 0,_=>Nat.two_pow_pos N
  | i+1,hi=>Nat.or_lt_two_pow (bsN_lt h i (by omega)) (Nat.pow_lt_pow_right (by omega) (h i (by omega)))
theorem bt_tb {m i:Nat} (hm:m<2 ^ 62) (hi:i<62):btI (m:Int) (i:Int)=m.testBit i:=bt_test m i hm hi
def alB (S u:T_IntS):Nat→Bool
  | 0=>true
  | i+1=>bif alB S u i then hasI S.2 (u.2 i) S.1 else false
theorem hasI_st {m N:Nat} {x:Int} (hm:m<2 ^ 62) (hx:0≤x∧x<N) (hN:N≤62):hasI (stD m N).2 x (stD m N).1=m.testBit x.toNat:=by
  rw [hasI_stD,decide_eq_true hx,Bool.true_and]
  have:=bt_tb (m:=m) (i:=x.toNat) hm (by omega)
  rw [Int.toNat_of_nonneg hx.1] at this
  exact this
theorem alB_s {m N:Nat} {u:T_IntS} (hm:m<2 ^ 62) (hN:N≤62) (h:∀ i,i<u.1→0≤u.2 i∧u.2 i<N):∀ i,i≤u.1→alB (stD m N) u i=((m &&& bsN u i)==bsN u i)
  | 0,_=>by simp [alB,bsN]
  | i+1,hi=>by
    rw [alB,alB_s hm hN h i (by omega),hasI_st hm (h i (by omega)) hN]
    exact (sub_or m (bsN u i) (u.2 i).toNat).symm
def orL (w:Nat) (f:Nat→Int):Nat→Nat
  | 0=>w
  | i+1=>orL w f i ||| 2 ^ (f i).toNat
theorem orL_congr {w:Nat} {f h:Nat→Int}:∀ n,(∀ i,i<n→f i=h i)→orL w f n=orL w h n
  | 0,_=>rfl
  | n+1,e=>by simp only [orL,orL_congr n (fun i hi=>e i (by omega)),e n (by omega)]
theorem orL_lt {w N:Nat} {f:Nat→Int} (hw:w<2 ^ N):∀ n,(∀ i,i<n→(f i).toNat<N)→orL w f n<2 ^ N
  | 0,_=>hw
  | n+1,h=>Nat.or_lt_two_pow (orL_lt hw n (fun i hi=>h i (by omega))) (Nat.pow_lt_pow_right (by omega) (h n (by omega)))
theorem stD_t {w i:Nat} (h:btI w i=true):stD w (i+1)=((stD w i).1+1,fun s=>if s<(stD w i).1 then (stD w i).2 s else i):=by simp [stD,h]
theorem stD_f {w i:Nat} (h:btI w i=false):stD w (i+1)=stD w i:=by simp [stD,h]
theorem orL_st {w m:Nat} (hm:m<2 ^ 62):∀ v,v≤62→orL w (stD m v).2 (stD m v).1=w ||| (m % 2 ^ v)
  | 0,_=>by simp [orL,stD,Nat.mod_one]
  | v+1,hv=>by
    have ih:=orL_st (w:=w) hm v (by omega)
    have hb:=bt_tb (m:=m) (i:=v) hm (by omega)
    cases ht:m.testBit v with
    | false =>
      rw [ht] at hb
      rw [stD_f hb,ih]
      refine Nat.eq_of_testBit_eq (fun i=>?_)
      rw [Nat.testBit_or,Nat.testBit_or,Nat.testBit_mod_two_pow,Nat.testBit_mod_two_pow]
      by_cases e:i=v
      · subst e;simp [ht]
      · have:(decide (i<v+1))=decide (i<v):=by rw [decide_eq_decide];omega
        rw [this]
    | true =>
      rw [ht] at hb
      rw [stD_t hb]
      generalize stD m v=R at ih
      show orL w (fun s=>if s<R.1 then R.2 s else (v:Int)) (R.1+1)=_
      simp only [orL,Nat.lt_irrefl,if_false]
      rw [orL_congr (h:=R.2) R.1 (fun i hi=>by simp [hi]),ih]
      refine Nat.eq_of_testBit_eq (fun i=>?_)
      rw [Nat.testBit_or,Nat.testBit_or,Nat.testBit_or,Nat.testBit_mod_two_pow,Nat.testBit_mod_two_pow,Nat.testBit_two_pow]
      by_cases e:i=v
      · subst e;simp [ht]
      · have h1:(decide (i<v+1))=decide (i<v):=by rw [decide_eq_decide];omega
        have h2:decide ((v:Int).toNat=i)=false:=decide_eq_false (by omega)
        rw [h1,h2,Bool.or_false]
theorem stD_rn (w:Nat):∀ v i,i<(stD w v).1→0≤(stD w v).2 i∧(stD w v).2 i<v
  | 0,i,h=>absurd h (Nat.not_lt_zero _)
  | v+1,i,h=>by
    cases hb:btI w v with
    | false =>
      rw [stD_f hb] at h ⊢
      have:=stD_rn w v i h
      omega
    | true =>
      rw [stD_t hb] at h ⊢
      have h:i<(stD w v).1+1:=h
      show 0≤(if i<(stD w v).1 then (stD w v).2 i else (v:Int))∧(if i<(stD w v).1 then (stD w v).2 i else (v:Int))<((v+1:Nat):Int)
      by_cases e:i<(stD w v).1
      · rw [if_pos e];have:=stD_rn w v i e;omega
      · rw [if_neg e];omega
theorem stD_mono (w:Nat) (v:Nat):∀ d,(stD w v).1≤(stD w (v+d)).1∧∀ i,i<(stD w v).1→(stD w (v+d)).2 i=(stD w v).2 i
  | 0=>⟨Nat.le_refl _,fun _ _=>rfl⟩
  | d+1=>by
    have ih:=stD_mono w v d
    rw [← Nat.add_assoc]
    cases hb:btI w ((v+d:Nat):Int) with
    | false=>rw [stD_f hb];exact ih
    | true =>
      rw [stD_t hb]
      refine ⟨by show _≤(stD w (v+d)).1+1;omega,fun i hi=>?_⟩
      show (if i<(stD w (v+d)).1 then (stD w (v+d)).2 i else ((v+d:Nat):Int))=_
      rw [if_pos (by omega)]
      exact ih.2 i hi
theorem stD_at {w v N:Nat} (hb:btI (w:Int) (v:Int)=true) (hv:v<N):(stD w v).1<(stD w N).1∧(stD w N).2 (stD w v).1=v:=by
  have h:=stD_mono w (v+1) (N - (v+1))
  rw [show v+1+(N - (v+1))=N by omega] at h
  have e:=stD_t hb
  have e1:(stD w (v+1)).1=(stD w v).1+1:=by rw [e]
  refine ⟨by omega,?_⟩
  rw [h.2 _ (by omega),e]
  show (if (stD w v).1<(stD w v).1 then (stD w v).2 (stD w v).1 else (v:Int))=v
  rw [if_neg (Nat.lt_irrefl _)]
theorem stD_gap {w a:Nat}:∀ d,(∀ t:Nat,a≤t→t<a+d→btI w t=false)→stD w (a+d)=stD w a
  | 0,_=>rfl
  | d+1,h=>by
    rw [← Nat.add_assoc,stD_f (h (a+d) (by omega) (by omega))]
    exact stD_gap d (fun t h1 h2=>h t h1 (by omega))
theorem stD_eq {w w':Nat}:∀ v,(∀ t:Nat,t<v→btI w t=btI w' t)→stD w v=stD w' v
  | 0,_=>rfl
  | v+1,h=>by
    have ih:=stD_eq v (fun t ht=>h t (by omega))
    simp only [stD,ih,h v (by omega)]
theorem con_5With {w x N:Nat} (hw:w<2 ^ 62) (hN:N≤60) (hx:x<N) (hb:w.testBit x=false) :
    zE 213 [inL (stD w N),.p (.int .i64 x)] [(0,iOb (stD (w ||| 2 ^ x) N).1 (stD (w ||| 2 ^ x) N).2)] (.ar 1 0 0 (stD (w ||| 2 ^ x) N).1):=by
  have hw':w ||| 2 ^ x<2 ^ 62:=Nat.or_lt_two_pow hw (Nat.pow_lt_pow_right (by omega) (by omega))
  have hbx:btI w x=false:=by rw [bt_tb hw (by omega)];exact hb
  have hq:∀ t:Nat,t<60→btI (w ||| 2 ^ x:Nat) t=(if t=x then true else btI w t):=fun t ht=>by
    rw [bt_tb hw' (by omega),bt_tb hw (by omega),Nat.testBit_or,Nat.testBit_two_pow]
    by_cases e:t=x
    · subst e;simp
    · rw [if_neg e,decide_eq_false (show ¬ x=t from fun h=>e h.symm),Bool.or_false]
  generalize (w ||| 2 ^ x)=w' at hq hw'
  have hqx:btI w' x=true:=by rw [hq x (by omega),if_pos rfl]
  have hqn:∀ t:Nat,t<60→t≠x→btI w' t=btI w t:=fun t ht hne=>by rw [hq t ht,if_neg hne]
  have low:stD w' x=stD w x:=stD_eq x (fun t ht=>hqn t (by omega) (by omega))
  have gapN:∀ v:Nat,x<v→v≤60→(∀ t:Nat,x≤t→t<v→btI w t=false)→stD w' v=((stD w v).1+1,fun s=>if s<(stD w v).1 then (stD w v).2 s else (x:Int)):=by
    intro v hv hv6 hc
    have e1:=stD_gap (w:=w) (a:=x) (v - x) (fun t h1 h2=>hc t h1 (by omega))
    rw [show x+(v - x)=v by omega] at e1
    have e2:=stD_gap (w:=w') (a:=x+1) (v - (x+1)) (fun t h1 h2=>by rw [hqn t (by omega) (by omega)];exact hc t (by omega) (by omega))
    rw [show x+1+(v - (x+1))=v by omega] at e2
    rw [e2,stD_t hqx,low,e1]
  have hn:=stD_n w N
  refine csZ Tryz.func213 (fun c hc=>?_)
  generalize hX:stD w' N=X
  generalize hU:stD w N=U at hn
  have Q':∀ d v,v+d=N→x<v→zR c 213 zf54 (w5S U x (stD w' v).1 (stD w' v).2 true (stD w v).1) (Post c [(0,iOb X.1 X.2)] (.ar 1 0 0 X.1)):=by
    intro d
    induction d with
    | zero =>
      intro v hv _
      obtain rfl:v=N:=by omega
      rw [hX,hU]
      have hd:decide ((U.1:Int)<(U.1:Int))=false:=decide_eq_false (by omega)
      refine pkZ Tryz.func213 hc (w5b U x X.1 X.2 U.1) ?_
      and_intros
      all_goals (first | exact zN | (exact hd) | (intro t ht;simp [All]))
    | succ d ih =>
      intro v hv hxv
      have hrec:=ih (v+1) (by omega) (by omega)
      have hbv:=hqn v (by omega) (by omega)
      cases hbw:btI w v with
      | false =>
        rw [hbw] at hbv
        rw [stD_f hbw,stD_f hbv] at hrec
        exact hrec
      | true =>
        rw [hbw] at hbv
        have hat:=stD_at hbw (show v<N by omega)
        rw [hU] at hat
        rw [stD_t hbw,stD_t hbv] at hrec
        have hl:=stD_n w' v
        generalize (stD w v).1=k at hat hrec ⊢
        generalize stD w' v=R at hrec hl ⊢
        have hd:decide ((k:Int)<(U.1:Int))=true:=decide_eq_true (by omega)
        have hne:(U.2 k==(x:Int))=false:=by rw [hat.2];exact beq_eq_false_iff_ne.2 (by omega)
        have hgt:(bif decide (U.2 k>(x:Int)) then !true else false)=false:=by cases decide (U.2 k>(x:Int))<;>rfl
        refine pcD hc (w5f U x R.1 R.2 true k) ?_ (by rw [hat.2];exact hrec)
        and_intros
        all_goals (first | exact zN | (exact hd) | (exact hne) | (exact hgt) | (intro t ht;by_cases h':t<R.1<;>(simp [h',cvtL,cvt,tg,tru,All];done)) | (simp;omega))
  have Q:∀ d v,v+d=N→(∀ t:Nat,x≤t→t<v→btI w t=false)→zR c 213 zf54 (w5S U x (stD w v).1 (stD w v).2 false (stD w v).1) (Post c [(0,iOb X.1 X.2)] (.ar 1 0 0 X.1)):=by
    intro d
    induction d with
    | zero =>
      intro v hv hcl
      obtain rfl:v=N:=by omega
      have e:=gapN v hx (by omega) hcl
      rw [hX,hU] at e
      rw [hU]
      rw [show X.1=U.1+1 by rw [e],show X.2=(fun s=>if s<U.1 then U.2 s else (x:Int)) by rw [e]]
      have hd:decide ((U.1:Int)<(U.1:Int))=false:=decide_eq_false (by omega)
      refine pkZ Tryz.func213 hc (w5a U x U.1 U.2 U.1) ?_
      and_intros
      all_goals (first | exact zN | (exact hd) | (intro t ht;by_cases h':t<U.1<;>(simp [h',cvtL,cvt,tg,tru,All];done)) | (intro t ht;simp [All];done) | (simp;omega))
    | succ d ih =>
      intro v hv hcl
      cases hbw:btI w v with
      | false =>
        have hrec:=ih (v+1) (by omega) (fun t h1 h2=>by
          by_cases e:t=v
          · rw [e];exact hbw
          · exact hcl t h1 (by omega))
        rw [stD_f hbw] at hrec
        exact hrec
      | true =>
        have hvx:v≠x:=fun e=>by rw [e,hbx] at hbw;cases hbw
        have hat:=stD_at hbw (show v<N by omega)
        rw [hU] at hat
        have hl:=stD_n w v
        by_cases hlt:v<x
        · have hrec:=ih (v+1) (by omega) (fun t h1 h2=>absurd h2 (by omega))
          rw [stD_t hbw] at hrec
          generalize stD w v=R at hrec hl hat ⊢
          have hd:decide ((R.1:Int)<(U.1:Int))=true:=decide_eq_true (by omega)
          have hne:(U.2 R.1==(x:Int))=false:=by rw [hat.2];exact beq_eq_false_iff_ne.2 (by omega)
          have hgt:(bif decide (U.2 R.1>(x:Int)) then !false else false)=false:=by rw [hat.2,decide_eq_false (show ¬ ((v:Int)>(x:Int)) by omega)];rfl
          refine pcD hc (w5f U x R.1 R.2 false R.1) ?_ (by rw [hat.2];exact hrec)
          and_intros
          all_goals (first | exact zN | (exact hd) | (exact hne) | (exact hgt) | (intro t ht;by_cases h':t<R.1<;>(simp [h',cvtL,cvt,tg,tru,All];done)) | (simp;omega))
        · have hrec:=Q' d (v+1) (by omega) (by omega)
          have e:=gapN v (by omega) (by omega) hcl
          have hbv:=hqn v (by omega) hvx
          rw [hbw] at hbv
          rw [stD_t hbw,stD_t hbv,e] at hrec
          generalize stD w v=R at hrec hl hat ⊢
          have hd:decide ((R.1:Int)<(U.1:Int))=true:=decide_eq_true (by omega)
          have hne:(U.2 R.1==(x:Int))=false:=by rw [hat.2];exact beq_eq_false_iff_ne.2 (by omega)
          have hgt:(bif decide (U.2 R.1>(x:Int)) then !false else false)=true:=by rw [hat.2,decide_eq_true (show ((v:Int)>(x:Int)) by omega)];rfl
          refine pcD hc (w5t U x R.1 R.2 R.1) ?_ (by rw [hat.2];exact hrec)
          and_intros
          all_goals (first | exact zN | (exact hd) | (exact hne) | (exact hgt) | (intro t ht;by_cases h':t<R.1<;>by_cases h2:t<R.1+1<;>(simp [h',h2,cvtL,cvt,tg,tru,All];done)) | (intro t ht;by_cases h':t<R.1<;>by_cases h2:t<R.1+1<;>(simp [h',h2,cvtL,cvt,tg,tru,All];omega)) | (intro t ht;simp [All];done) | (simp;omega))
  refine pcZ hc (w5z U x) ?_ (Q N 0 (by omega) (fun t _ h2=>absurd h2 (Nat.not_lt_zero _)))
  and_intros
  all_goals (first | exact zN | (intro t ht;exact absurd ht (Nat.not_lt_zero _)) | (intro t ht;simp [All];done) | (simp;done))
noncomputable def glV (v:T_Graph):Bool:=if isGraphF v=true then glB v.1.toNat v.2.1.1 v.2.1.2 else (kwGraph.toList==kwE.toList)
theorem con_glV_i (v:T_Graph) (hs:smS s_Graph v):zE 310 [graphA v] [] (.p (.bool (glV v))):=by
  unfold glV
  cases hg:isGraphF v with
  | true =>
    rw [if_pos rfl]
    have hN:((v.1.toNat:Nat):Int)=v.1:=by have:=graph_inR hg;omega
    have:=con_gGlobal_i (N:=v.1.toNat) (nb:=v.2.1.1) (g:=v.2.1.2) (by rw [hN];exact hg)
    unfold grG at this
    rw [hN] at this
    exact this
  | false =>
    rw [if_neg Bool.false_ne_true]
    have c1:=con_IsGraph_i v hs
    rw [hg] at c1
    have c2:=con_hasDoubles v hs
    have cw:zE 351 [graphA v] [] (.p (.str kwGraph)):=by
      refine csZ Tryz.func351 (fun c hc=>?_)
      refine pkZ Tryz.func351 hc (gnx v (dblB v.2.1.2 v.2.1.1)) ?_
      and_intros
      all_goals (first | exact zH | (exact c1) | (intros;exact c2) | (simp;done))
    refine csZ Tryz.func310 (fun c hc=>?_)
    refine pkZ Tryz.func310 hc (gnv v kwGraph) ?_
    and_intros
    all_goals (first | exact zN | (exact cw) | (simp;done))
theorem con_glV_s (v:T_Graph) (hs:smS s_Graph v):zE 211 [graphA v] [] (.p (.bool (glV v))):=by
  unfold glV
  cases hg:isGraphF v with
  | true =>
    rw [if_pos rfl]
    have hN:((v.1.toNat:Nat):Int)=v.1:=by have:=graph_inR hg;omega
    have:=con_gGlobal_s (N:=v.1.toNat) (nb:=v.2.1.1) (g:=v.2.1.2) (by rw [hN];exact hg)
    unfold grG at this
    rw [hN] at this
    exact this
  | false =>
    rw [if_neg Bool.false_ne_true]
    have c1:=con_l17Simple v hs
    rw [show simpleF v=false by unfold simpleF;rw [hg];simp] at c1
    have cw:zE 307 [graphA v] [] (.p (.str kwGraph)):=by
      refine csZ Tryz.func307 (fun c hc=>?_)
      refine pkZ Tryz.func307 hc (gny v) ?_
      and_intros
      all_goals (first | exact zN | (exact c1) | (simp;done))
    refine csZ Tryz.func211 (fun c hc=>?_)
    refine pkZ Tryz.func211 hc (gnw v kwGraph) ?_
    and_intros
    all_goals (first | exact zN | (exact cw) | (simp;done))
noncomputable def pgB (N n:Nat) (h:Nat→T_Bar) (m:Nat):Bool:=glV (wpG N n h (stD (2 ^ N - 1 - m) N))
theorem two_le {N:Nat} (h:N≤8):2 ^ N≤256:=Nat.pow_le_pow_right (by omega) h
theorem con_isGlobal {N n:Nat} {h:Nat→T_Bar} (hg:isGraphF ((N:Int),(n,h),())=true) (m:Nat) (hm:m<2 ^ N) :
    zE 221 [grG h n N,.p (.int .i64 m)] [] (.p (.bool (pgB N n h m))):=by
  obtain ⟨h1,h2,h3⟩:=graph_in hg
  have h2N:=two_le h1.2
  have hsl:=stD_n (2 ^ N - 1 - m) N
  have c1:=con_setOf (2 ^ N - 1 - m) N (by omega)
  have c2:=con_gWithout_i hg (stD (2 ^ N - 1 - m) N) (by omega)
  have c3:=con_glV_i (wpG N n h (stD (2 ^ N - 1 - m) N)) (wpG_sm N n h _ h2)
  unfold pgB
  have hs:=shl_nat N (by omega)
  have hs:shlI .i64 1 (N:Int)=((2 ^ N:Nat):Int):=hs
  have he:shlI .i64 1 (N:Int) - 1 - (m:Int)=((2 ^ N - 1 - m:Nat):Int):=by rw [hs];omega
  generalize 2 ^ N=q at *
  rw [← he] at c1
  generalize stD (q - 1 - m) N=S at *
  generalize wpG N n h S=W at *
  refine csZ Tryz.func221 (fun c hc=>?_)
  refine pkZ Tryz.func221 hc (igl h n N m S W (glV W)) ?_
  and_intros
  all_goals (first | exact zN | (exact c1) | (exact c2) | (exact c3) | (rw [hs];omega) | (intro t ht;simp [All];done) | (simp;done))
theorem flt_st {w N:Nat} {p:Nat→Bool}:∀ v,v≤N→(∀ t:Nat,t<N→btI w t=p t)→flt p v=stD w v
  | 0,_,_=>rfl
  | v+1,hv,h=>by
    have ih:=flt_st v (by omega) h
    simp only [flt,stD,ih,h v (by omega)]
theorem con_part {N n:Nat} {h:Nat→T_Bar} (hg:isGraphF ((N:Int),(n,h),())=true) (m:Nat) (hm:m<2 ^ N) :
    zE 212 [grG h n N,inL (stD m N)] [(0,brOb (wpG N n h (stD (2 ^ N - 1 - m) N)).2.1.1 (wpG N n h (stD (2 ^ N - 1 - m) N)).2.1.2)]
      (.agg [.p (.int .i64 (wpG N n h (stD (2 ^ N - 1 - m) N)).1),.ar 2 0 0 (wpG N n h (stD (2 ^ N - 1 - m) N)).2.1.1]):=by
  obtain ⟨h1,h2,h3⟩:=graph_in hg
  have h2N:=two_le h1.2
  have hsl:=stD_n (2 ^ N - 1 - m) N
  have hsm:=stD_n m N
  have c2:=con_gWithout_s hg (stD (2 ^ N - 1 - m) N) (by omega)
  have hp:∀ t:Nat,t<N→btI (2 ^ N - 1 - m:Nat) t=!hasI (stD m N).2 t (stD m N).1:=by
    intro t ht
    have e1:=bt_tb (m:=2 ^ N - 1 - m) (i:=t) (by omega) (by omega)
    rw [e1,hasI_st (x:=(t:Int)) (by omega) (by omega) (by omega),show (2 ^ N - 1 - m)=2 ^ N - (m+1) by omega,Nat.testBit_two_pow_sub_succ hm,decide_eq_true ht,Bool.true_and]
    rfl
  have hfl:=flt_st (w:=2 ^ N - 1 - m) (N:=N) (p:=fun t=>!hasI (stD m N).2 t (stD m N).1) N (Nat.le_refl _) hp
  rw [← hfl] at c2 ⊢
  have hc2:=con_l2Has (stD m N)
  generalize wpG N n h (flt (fun t=>!hasI (stD m N).2 (t:Int) (stD m N).1) N)=W at c2 ⊢
  generalize stD m N=S at *
  refine csZ Tryz.func212 (fun c hc=>?_)
  generalize hX:flt (fun t=>!hasI S.2 (t:Int) S.1) N=X at c2
  have lo:∀ d v,v+d=N→zR c 212 zf70 (lpS h n N S (flt (fun t=>!hasI S.2 (t:Int) S.1) v).1 (flt (fun t=>!hasI S.2 (t:Int) S.1) v).2 v)
      (Post c [(0,brOb W.2.1.1 W.2.1.2)] (.agg [.p (.int .i64 W.1),.ar 2 0 0 W.2.1.1])):=by
    intro d
    induction d with
    | zero =>
      intro v hv
      obtain rfl:v=N:=by omega
      have hd:decide ((v:Int)<(v:Int))=false:=decide_eq_false (by omega)
      rw [hX]
      refine pkZ Tryz.func212 hc (lpe h n v S X.1 X.2 v W) ?_
      and_intros
      all_goals (first | exact zI | (exact hd) | (exact c2) | (intro t ht;simp [All];done) | (simp;done))
    | succ d ih =>
      intro v hv
      have hd:decide ((v:Int)<(N:Int))=true:=decide_eq_true (by omega)
      have hrec:=ih (v+1) (by omega)
      have ch:=hc2 (v:Int) (by omega)
      have hl:=flt_n (fun t:Nat=>!hasI S.2 (t:Int) S.1) v
      cases hh:hasI S.2 (v:Int) S.1 with
      | true =>
        rw [hh] at ch
        rw [flt_f (p:=fun t:Nat=>!hasI S.2 (t:Int) S.1) (i:=v) (by show (!hasI S.2 (v:Int) S.1)=false;rw [hh];rfl)] at hrec
        refine pcD hc (lpf h n N S _ _ v) ?_ hrec
        and_intros
        all_goals (first | exact zN | (exact hd) | (exact ch) | (intro t ht;simp [All];done) | (simp;omega))
      | false =>
        rw [hh] at ch
        rw [flt_t (p:=fun t:Nat=>!hasI S.2 (t:Int) S.1) (i:=v) (by show (!hasI S.2 (v:Int) S.1)=true;rw [hh];rfl)] at hrec
        generalize flt (fun t=>!hasI S.2 (t:Int) S.1) v=q at hrec hl ⊢
        refine pcD hc (lpt h n N S q.1 q.2 v) ?_ hrec
        and_intros
        all_goals (first | exact zN | (exact hd) | (exact ch) | (intro t ht;by_cases h':t<q.1<;>(simp [h',cvtL,cvt,tg,tru,All];done)) | (intro t ht;simp [All];done) | (simp;omega))
  refine pcD hc (lpz h n N S) ?_ (lo N 0 (by omega))
  and_intros
  all_goals (first | exact zN | (intro t ht;exact absurd ht (Nat.not_lt_zero _)) | (intro t ht;simp [All];done) | (simp;done))
noncomputable def lmF (N n:Nat) (h:Nat→T_Bar) (B:Nat):Nat→Nat
  | 0=>0
  | m+1=>if (bif ((m &&& B)==B) then pgB N n h m else false)=true then lmF N n h B m ||| m else lmF N n h B m
noncomputable def locW (v:T_Graph) (u:T_IntS):Nat:=lmF v.1.toNat (agV v u).1.2.1.1 (agV v u).1.2.1.2 (bsN u u.1) (2 ^ v.1.toNat)
noncomputable def locF (v:T_Graph) (u:T_IntS):T_IntS:=if (agV v u).2=true∧3≤u.1 then stD (locW v u) v.1.toNat else (0,fun _=>0)
theorem lmF_lt (N n:Nat) (h:Nat→T_Bar) (B:Nat):∀ m,m≤2 ^ N→lmF N n h B m<2 ^ N
  | 0,_=>Nat.two_pow_pos N
  | m+1,hm=>by
    have:=lmF_lt N n h B m (by omega)
    simp only [lmF]
    split
    · exact Nat.or_lt_two_pow this (by omega)
    · exact this
theorem agV_ok {v:T_Graph} {u:T_IntS} (h:(agV v u).2=true):anF v u=true∧(((v.1.toNat:Nat):Int)=v.1∧v.1.toNat≤8)∧(agV v u).1.1=v.1 ∧
    isGraphF ((v.1.toNat:Int),((agV v u).1.2.1.1,(agV v u).1.2.1.2),())=true:=by
  unfold agV at h ⊢
  cases hA:anF v u with
  | false=>rw [hA,if_neg Bool.false_ne_true] at h;cases h
  | true =>
    rw [hA,if_pos rfl] at h
    rw [if_pos rfl]
    have hN:1≤v.1∧v.1≤8:=by
      have h2:=hA
      unfold anF simpleF at h2
      simp only [Bool.and_eq_true] at h2
      have:=graph_inR h2.2.2
      omega
    unfold agR at h ⊢
    cases hg:isGraphF ((v.1.toNat:Int),((agL v.2.1.2 v.2.1.1 u u.1).1,(agL v.2.1.2 v.2.1.1 u u.1).2),()) with
    | false=>rw [hg,if_neg Bool.false_ne_true] at h;cases h
    | true =>
      rw [if_pos rfl]
      exact ⟨rfl,⟨by omega,by omega⟩,by show ((v.1.toNat:Nat):Int)=v.1;omega,hg⟩
theorem nbeq (a b:Nat):(((a:Nat):Int)==((b:Nat):Int))=(a==b):=by
  rw [Bool.eq_iff_iff,beq_iff_eq,beq_iff_eq];omega
theorem con_Loc_i (v:T_Graph) (hs:smS s_Graph v) (u:T_IntS) (hu:u.1≤1048576) :
    zE 110 [graphA v,inL u] [(0,iOb (locF v u).1 (locF v u).2)] (.ar 1 0 0 (locF v u).1):=by
  have ca:=con_AncV_i v hs u hu
  unfold locF
  by_cases hc0:(agV v u).2=true∧3≤u.1
  · rw [if_pos hc0]
    unfold locW
    obtain ⟨hA,hN,hM,hg⟩:=agV_ok hc0.1
    have hin:=anF_in (N:=v.1.toNat) (nb:=v.2.1.1) (g:=v.2.1.2) (u:=u) (by rw [hN.1];exact hA)
    have hin2:∀ i,i<u.1→(u.2 i).toNat<v.1.toNat∧0≤u.2 i:=fun i hi=>by have:=hin.2.2 i hi;omega
    have hgv:graphA v=grG v.2.1.2 v.2.1.1 v.1.toNat:=by unfold grG;rw [hN.1];rfl
    rw [hgv] at ca ⊢
    unfold agA at ca
    rw [hM,hc0.1,← hN.1] at ca
    generalize (agV v u).1.2.1.1=n at *
    generalize (agV v u).1.2.1.2=h at *
    have h3:=hc0.2
    have hNle:=hN.2
    clear hM hA hN
    generalize hNN:v.1.toNat=N at *
    have h2N:=two_le hNle
    have hu8:=hin.2.1
    have hsl:=stD_n (lmF N n h (bsN u u.1) (2 ^ N)) N
    refine csZ Tryz.func110 (fun c hc=>?_)
    have hcS:=con_setOf (lmF N n h (bsN u u.1) (2 ^ N)) N (by omega)
    have hlt:=lmF_lt N n h (bsN u u.1)
    have hcG:=con_isGlobal hg
    have hBlt:=bsN_lt (u:=u) (N:=N) (fun i hi=>(hin2 i hi).1) u.1 (Nat.le_refl _)
    generalize hX:stD (lmF N n h (bsN u u.1) (2 ^ N)) N=X at *
    have lm:∀ d m,m+d=2 ^ N→zR c 110 zf21 (loB v.2.1.2 v.2.1.1 N u n h (bsN u u.1) (lmF N n h (bsN u u.1) m) (2 ^ N) m) (Post c [(0,iOb X.1 X.2)] (.ar 1 0 0 X.1)):=by
      intro d
      induction d with
      | zero =>
        intro m hm
        have hd:decide ((m:Int)<((2 ^ N:Nat):Int))=false:=decide_eq_false (by omega)
        rw [show m=2 ^ N by omega] at hd ⊢
        refine pkZ Tryz.func110 hc (loe v.2.1.2 v.2.1.1 N u n h (bsN u u.1) (lmF N n h (bsN u u.1) (2 ^ N)) (2 ^ N) (2 ^ N) X) ?_
        and_intros
        all_goals (first | exact zN | (exact hd) | (exact hcS) | (intro t ht;simp [All];done))
      | succ d ih =>
        intro m hm
        have hd:decide ((m:Int)<((2 ^ N:Nat):Int))=true:=decide_eq_true (by omega)
        have hrec:=ih (m+1) (by omega)
        have cg:=hcG m (by omega)
        have hl:=hlt m (by omega)
        have ha:=and_nat m (bsN u u.1) (by omega) (by omega)
        have ho:=or_nat (lmF N n h (bsN u u.1) m) m (by omega) (by omega)
        have he:(bitI .and .i64 (m:Int) ((bsN u u.1:Nat):Int)==((bsN u u.1:Nat):Int))=((m &&& bsN u u.1)==bsN u u.1):=by rw [ha,nbeq]
        cases hq:(bif ((m &&& bsN u u.1)==bsN u u.1) then pgB N n h m else false) with
        | true =>
          rw [show lmF N n h (bsN u u.1) (m+1)=lmF N n h (bsN u u.1) m ||| m by simp only [lmF];rw [if_pos hq]] at hrec
          rw [← he] at hq
          refine pcD hc (lot v.2.1.2 v.2.1.1 N u n h (bsN u u.1) (lmF N n h (bsN u u.1) m) (lmF N n h (bsN u u.1) m ||| m) (2 ^ N) m (pgB N n h m)) ?_ hrec
          and_intros
          all_goals (first | exact zI | (exact hd) | (intros;exact cg) | (exact hq) | (exact ho) | (intro t ht;simp [All];done) | (simp;omega))
        | false =>
          rw [show lmF N n h (bsN u u.1) (m+1)=lmF N n h (bsN u u.1) m by simp only [lmF];rw [if_neg (by rw [hq];exact Bool.false_ne_true)]] at hrec
          rw [← he] at hq
          refine pcD hc (lof v.2.1.2 v.2.1.1 N u n h (bsN u u.1) (lmF N n h (bsN u u.1) m) (2 ^ N) m (pgB N n h m)) ?_ hrec
          and_intros
          all_goals (first | exact zI | (exact hd) | (intros;exact cg) | (exact hq) | (intro t ht;simp [All];done) | (simp;omega))
    have hsN:=shl_nat N (by omega)
    have lb:∀ d i,i+d=u.1→zR c 110 zf31 (loA v.2.1.2 v.2.1.1 N u n h (bsN u i) i) (Post c [(0,iOb X.1 X.2)] (.ar 1 0 0 X.1)):=by
      intro d
      induction d with
      | zero =>
        intro i hi
        have hd:decide ((i:Int)<(u.1:Int))=false:=decide_eq_false (by omega)
        have hlm:=lm (2 ^ N) 0 (by omega)
        rw [show i=u.1 by omega] at hd ⊢
        refine pcD hc (lob v.2.1.2 v.2.1.1 N u n h (bsN u u.1) (2 ^ N) u.1) ?_ hlm
        and_intros
        all_goals (first | exact zN | (exact hd) | (exact hsN) | (intro t ht;simp [All];done) | (simp;done))
      | succ d ih =>
        intro i hi
        have hd:decide ((i:Int)<(u.1:Int))=true:=decide_eq_true (by omega)
        have hrec:=ih (i+1) (by omega)
        have hb:=hin2 i (by omega)
        have hBi:=bsN_lt (u:=u) (N:=N) (fun i hi=>(hin2 i hi).1) i (by omega)
        have hp:2 ^ (u.2 i).toNat<2 ^ N:=Nat.pow_lt_pow_right (by omega) hb.1
        have hsh:=shl_nat (u.2 i).toNat (by omega)
        rw [Int.toNat_of_nonneg hb.2] at hsh
        have ho:bitI .or .i64 ((bsN u i:Nat):Int) (shlI .i64 1 (u.2 i))=((bsN u (i+1):Nat):Int):=by
          rw [hsh,or_nat _ _ (by omega) (by omega)];rfl
        have hb2:=hb.2
        refine pcD hc (loa v.2.1.2 v.2.1.1 N u n h (bsN u i) (bsN u (i+1)) i) ?_ hrec
        and_intros
        all_goals (first | exact zN | (exact hd) | (exact hb2) | (exact ho) | (intro t ht;simp [All];done) | (simp;omega))
    have hz:(bif !true then true else decide ((u.1:Int)<3))=false:=by rw [decide_eq_false (show ¬ ((u.1:Int)<3) by omega)];rfl
    refine pcD hc (loz v.2.1.2 v.2.1.1 N u n h) ?_ (lb u.1 0 (by omega))
    and_intros
    all_goals (first | exact zH | (exact ca) | (exact hz) | (intro t ht;simp [All];done) | (simp;done))
  · rw [if_neg hc0]
    have hz:(bif !(agV v u).2 then true else decide ((u.1:Int)<3))=true:=by
      cases hq:(agV v u).2 with
      | false=>rfl
      | true =>
        have:¬ 3≤u.1:=fun h=>hc0 ⟨hq,h⟩
        rw [decide_eq_true (show ((u.1:Int)<3) by omega)];rfl
    refine csZ Tryz.func110 (fun c hc=>?_)
    refine pkZ Tryz.func110 hc (lon v u (agV v u)) ?_
    and_intros
    all_goals (first | exact zH | (exact ca) | (exact hz) | (intro h;simpa using h) | (intro t ht;exact absurd ht (Nat.not_lt_zero _)) | (intro t ht;simp [All]))
def byO (n:Nat) (f:Nat→Int):Ob:=⟨false,1,n,fun i=>[.p (.int .u8 (f i))]⟩
def swF (i j:Nat) (f:Nat→Int) (r:Nat):Int:=if r=j then f i else if r=i then f j else f r
def apF (n:Nat) (f:Nat→Int) (x:Int) (r:Nat):Int:=if r<n then f r else x
def SFs (m:Int) (o:ByteArray) (ng:Bool):St :=
  ⟨[.p (.int .i64 m),.p .any,.p .any,.p (.str o),.p (.bool ng)]++List.replicate 26 anyA,[],0⟩
def SFi (n m:Int) (l:Nat) (f:Nat→Int):St :=
  ⟨[.p (.int .i64 n),.p .any,.p .any,.ar 1 0 0 l,.p (.int .i64 m)]++List.replicate 54 anyA,[(0,byO l f)],1⟩
def SFr (l i:Nat) (j:Int) (f:Nat→Int):St :=
  ⟨[.p .any,.p .any,.p .any,.ar 1 0 0 l,.p .any,.p .any,.p (.int .i64 i),.p (.int .i64 j)]++List.replicate 51 anyA,[(0,byO l f)],1⟩
theorem fS0 (n:Int) (s:ByteArray) :
    zS Tryz.f118 [rg 1,rg 2,.dec true,rg 1] [.p (.int .i64 n)] [] [] (.p (.str s)) =
    some [((n==0)=true),(ByteArray.mk #[48]=s)]:=by kernel_rfl
theorem fSz (n:Int) (o:ByteArray) :
    zT Tryz.f118 [rg 1,rg 2,.dec false,rg 1,rg 3,.head] [.p (.int .i64 n)] [] (SFs n o (decide (n<0))) =
    some (zf35,[((n==0)=false),(AI n),(ByteArray.mk #[]=o),((decide (n<0))=(decide (n<0)))]):=by kernel_rfl
theorem fSn (m m2:Int) (o o2:ByteArray) (ng:Bool) :
    zM 0 [rg 2,.dec true,rm [(1,oF)] 1,rg 2,.dec true,rg 3,rg 8,rm [(1,oF)] 1,.head] zf35 (SFs m o ng) [] 1 (SFs m2 o2 ng) =
    some (zf35,[((m != 0)=true),((10:Int)≠0),((decide (m.tmod 10<0))=true),(ZLo (0 - m.tmod 10)),(ZHi (0 - m.tmod 10)),(ZLo (48+(0 - m.tmod 10))),(ZHi (48+(0 - m.tmod 10))),(IL 0 (48+(0 - m.tmod 10))),(IL (48+(0 - m.tmod 10)) 255),(NL 1 1),(okBytes 1 (fun i=>[.p (.int .u8 (48+(0 - m.tmod 10)))])),(NL ((bytesOf 1 fun i=>[AV.p (PV.int IntKind.u8 (48+(0 - m.tmod 10)))]).size+o.size) 9223372036854775807),((10:Int)≠0),(((IntKind.i64.wrap (m.tdiv 10)):Int)=m2),((bytesOf 1 fun i=>[AV.p (PV.int IntKind.u8 (48+(0 - m.tmod 10)))])++o=o2),(ng=ng)]):=by kernel_rfl
theorem fSp (m m2:Int) (o o2:ByteArray) (ng:Bool) :
    zM 0 [rg 2,.dec true,rm [(1,oF)] 1,rg 2,.dec false,rg 8,rm [(1,oF)] 1,.head] zf35 (SFs m o ng) [] 1 (SFs m2 o2 ng) =
    some (zf35,[((m != 0)=true),((10:Int)≠0),((decide (m.tmod 10<0))=false),(ZLo (48+m.tmod 10)),(ZHi (48+m.tmod 10)),(IL 0 (48+m.tmod 10)),(IL (48+m.tmod 10) 255),(NL 1 1),(okBytes 1 (fun i=>[.p (.int .u8 (48+m.tmod 10))])),(NL ((bytesOf 1 fun i=>[AV.p (PV.int IntKind.u8 (48+m.tmod 10))]).size+o.size) 9223372036854775807),((10:Int)≠0),(((IntKind.i64.wrap (m.tdiv 10)):Int)=m2),((bytesOf 1 fun i=>[AV.p (PV.int IntKind.u8 (48+m.tmod 10))])++o=o2),(ng=ng)]):=by kernel_rfl
theorem fSt (m:Int) (o s:ByteArray) (ng:Bool) :
    zP Tryz.f118 0 [rg 2,.dec false,rg 1,.dec true,rg 3] zf35 (SFs m o ng) [] 1 [] (.p (.str s)) =
    some [((m != 0)=false),(ng=true),(NL ((ByteArray.mk #[45]).size+o.size) 9223372036854775807),(ByteArray.mk #[45]++o=s)]:=by kernel_rfl
theorem fSf (m:Int) (o s:ByteArray) (ng:Bool) :
    zP Tryz.f118 0 [rg 2,.dec false,rg 1,.dec false,rg 2] zf35 (SFs m o ng) [] 1 [] (.p (.str s)) =
    some [((m != 0)=false),(ng=false),(o=s)]:=by kernel_rfl
theorem fI0 (n:Int) (s:ByteArray) :
    zS Tryz.f129 [rg 1,rg 2,.dec true,rg 1] [.p (.int .i64 n)] [] [] (.p (.str s)) =
    some [((n==0)=true),(ByteArray.mk #[48]=s)]:=by kernel_rfl
theorem fIz (n:Int) :
    zT Tryz.f129 [rg 1,rg 2,.dec false,rg 2,rg 2,.head] [.p (.int .i64 n)] [96] (SFi n n 0 (fun _=>0)) =
    some (zf55,[((n==0)=false),(AI n),(AN 0),(AN 0),(AI n),(AN 1),(NL 0 0),(AA 0 (fun i=>[.p (.int .u8 0)]))]):=by kernel_rfl
theorem fIn (n m m2:Int) (l:Nat) (f:Nat→Int) (x:Int) :
    zM 0 [rg 2,.dec true,rm [(1,oF)] 1,rg 2,.dec true,rg 3,rg 7,rm [(1,oF)] 1,.head] zf55 (SFi n m l f) [481] 1 (SFi n m2 (l+1) (apF l f x)) =
    some (zf55,[((m != 0)=true),((10:Int)≠0),((decide (m.tmod 10<0))=true),(ZLo (0 - m.tmod 10)),(ZHi (0 - m.tmod 10)),(ZLo (48+(0 - m.tmod 10))),(ZHi (48+(0 - m.tmod 10))),(IL 0 (48+(0 - m.tmod 10))),(IL (48+(0 - m.tmod 10)) 255),(NL 1 1),(NL l l),(NL ((l+1)*1) 140737488355328),(NL (l+1) 9223372036854775807),((10:Int)≠0),(AI n),(AN 0),(AN ((l+1))),(((IntKind.i64.wrap (m.tdiv 10)):Int)=m2),(AN 1),(NL (l+1) (l+1)),(CV [(481,⟨false,1,(l+1),(fun i_1=>(if (i_1<l) then [.p (.int .u8 (f i_1))] else [.p (.int .u8 (48+(0 - m.tmod 10)))]))⟩),(449,⟨false,1,1,(fun i_1=>[.p (.int .u8 (48+(0 - m.tmod 10)))])⟩)] [481] 1 (l+1) (fun i=>if (i<l) then [.p (.int .u8 (f i))] else [.p (.int .u8 (48+(0 - m.tmod 10)))]) (fun i=>[.p (.int .u8 (apF l f x i))]))]):=by kernel_rfl
theorem fIp (n m m2:Int) (l:Nat) (f:Nat→Int) (x:Int) :
    zM 0 [rg 2,.dec true,rm [(1,oF)] 1,rg 2,.dec false,rg 7,rm [(1,oF)] 1,.head] zf55 (SFi n m l f) [385] 1 (SFi n m2 (l+1) (apF l f x)) =
    some (zf55,[((m != 0)=true),((10:Int)≠0),((decide (m.tmod 10<0))=false),(ZLo (48+m.tmod 10)),(ZHi (48+m.tmod 10)),(IL 0 (48+m.tmod 10)),(IL (48+m.tmod 10) 255),(NL 1 1),(NL l l),(NL ((l+1)*1) 140737488355328),(NL (l+1) 9223372036854775807),((10:Int)≠0),(AI n),(AN 0),(AN ((l+1))),(((IntKind.i64.wrap (m.tdiv 10)):Int)=m2),(AN 1),(NL (l+1) (l+1)),(CV [(385,⟨false,1,(l+1),(fun i_1=>(if (i_1<l) then [.p (.int .u8 (f i_1))] else [.p (.int .u8 (48+m.tmod 10))]))⟩),(353,⟨false,1,1,(fun i_1=>[.p (.int .u8 (48+m.tmod 10))])⟩)] [385] 1 (l+1) (fun i=>if (i<l) then [.p (.int .u8 (f i))] else [.p (.int .u8 (48+m.tmod 10))]) (fun i=>[.p (.int .u8 (apF l f x i))]))]):=by kernel_rfl
theorem fIt (n m:Int) (l:Nat) (f:Nat→Int) :
    zM 0 [rg 2,.dec false,rg 2,.dec true,rg 4,rg 5,.head] zf55 (SFi n m l f) [193] 1 (SFr (l+1) 0 (((l+1:Nat):Int) - 1) (apF l f 45)) =
    some (zf26,[((m != 0)=false),((decide (n<0))=true),(NL 1 1),(NL l l),(NL ((l+1)*1) 140737488355328),(NL (l+1) 9223372036854775807),(ZLo ((↑(l+1):Int) - 1)),(ZHi ((↑(l+1):Int) - 1)),(AN 0),(AN ((l+1))),((0:Int)=(↑0:Int)),(AI (((↑(l+1):Int) - 1))),(AN 1),(NL (l+1) (l+1)),(CV [(193,⟨false,1,(l+1),(fun i_1=>(if (i_1<l) then [.p (.int .u8 (f i_1))] else [.p (.int .u8 45)]))⟩),(161,⟨false,1,1,(fun i_1=>[.p (.int .u8 45)])⟩)] [193] 1 (l+1) (fun i=>if (i<l) then [.p (.int .u8 (f i))] else [.p (.int .u8 45)]) (fun i=>[.p (.int .u8 (apF l f 45 i))]))]):=by kernel_rfl
theorem fIf (n m:Int) (l:Nat) (f:Nat→Int) :
    zM 0 [rg 2,.dec false,rg 2,.dec false,rg 5,.head] zf55 (SFi n m l f) [0] 1 (SFr l 0 ((l:Int) - 1) f) =
    some (zf26,[((m != 0)=false),((decide (n<0))=false),(ZLo ((↑l:Int) - 1)),(ZHi ((↑l:Int) - 1)),(AN 0),(AN l),((0:Int)=(↑0:Int)),(AI (((↑l:Int) - 1))),(AN 1),(NL l l),(AA l (fun i=>[.p (.int .u8 (f i))]))]):=by kernel_rfl
theorem fIs (l i:Nat) (j:Int) (f:Nat→Int) :
    zM 0 [rg 3,.dec true,rg 16,rg 6,.head] zf26 (SFr l i j f) [0] 1 (SFr l (i+1) (j - 1) (swF i j.toNat f)) =
    some (zf26,zD [((decide ((↑i:Int)<j))=true),(IL 0 j),(IT j (↑l:Int)),(NT j.toNat l),(IL 0 (↑i:Int)),(IT (↑i:Int) (↑l:Int)),(NT i l),((false=true)→ ((l:Nat)=1)),(ZLo ((↑i:Int)+1)),(ZHi ((↑i:Int)+1)),(ZLo (j - 1)),(ZHi (j - 1)),(AN 0),(AN l),((((↑i:Int)+1):Int)=(↑(i+1):Int)),(AI ((j - 1))),(AN 1),(NL l l),(CV [(0,⟨false,1,l,(fun i_2=>(if (i_2=j.toNat) then [.p (.int .u8 (f i))] else (if (i_2=i) then [.p (.int .u8 (f j.toNat))] else [.p (.int .u8 (f i_2))])))⟩)] [0] 1 l (fun i_1=>if (i_1=j.toNat) then [.p (.int .u8 (f i))] else (if (i_1=i) then [.p (.int .u8 (f j.toNat))] else [.p (.int .u8 (f i_1))])) (fun i_1=>[.p (.int .u8 (swF i j.toNat f i_1))]))] [0,1,2,3,4,5,6,4,5,6,7,1,2,3,7,8,9,10,11,12,13,14,15,16,17,18]):=by kernel_rfl
theorem fIe (l i:Nat) (j:Int) (f:Nat→Int) (s:ByteArray) :
    zP Tryz.f129 0 [rg 3,.dec false,rg 3] zf26 (SFr l i j f) [] 1 [] (.p (.str s)) =
    some [((decide ((↑i:Int)<j))=false),(NL l l),(okBytes l (fun i_1=>[.p (.int .u8 (f i_1))])),((bytesOf l fun i=>[AV.p (PV.int IntKind.u8 (f i))])=s)]:=by kernel_rfl
def dg:Nat→Nat→List Int
  | 0,_=>[]
  | f+1,m=>if m=0 then [] else (48+((m % 10:Nat):Int))::dg f (m / 10)
def bs (l:List Int):ByteArray:=l.foldl (fun r n=>r.push (UInt8.ofNat n.toNat)) ByteArray.empty
def fmtL (n:Int):List Int:=dg 20 n.natAbs++(if n<0 then [45] else [])
def fmtI (n:Int):ByteArray:=if n=0 then bs [48] else bs (fmtL n).reverse
theorem bs_fold (l:List Int):∀ s:ByteArray,(l.foldl (fun r n=>r.push (UInt8.ofNat n.toNat)) s).data=s.data++(l.map fun n=>UInt8.ofNat n.toNat).toArray:=by
  induction l with
  | nil=>intro s;simp
  | cons x l ih =>
    intro s
    simp only [List.foldl_cons,ih,List.map_cons]
    show s.data.push (UInt8.ofNat x.toNat)++_=_
    simp
theorem bs_data (l:List Int):(bs l).data=(l.map fun n=>UInt8.ofNat n.toNat).toArray:=by
  rw [bs,bs_fold]
  show #[]++_=_
  simp
theorem bs_append (a b:List Int):bs (a++b)=bs a++bs b:=by
  apply ByteArray.ext
  rw [bs_data,ByteArray.data_append,bs_data,bs_data]
  simp
theorem bs_size (l:List Int):(bs l).size=l.length:=by
  show (bs l).data.size=_
  rw [bs_data];simp
theorem bytesOf_bs (m:Nat) (f:Nat→Int):bytesOf m (fun i=>[.p (.int .u8 (f i))])=bs ((List.range m).map f):=rfl
theorem tm10 (c:Int):c.tmod 10=if 0≤c then ((c.natAbs % 10:Nat):Int) else -((c.natAbs % 10:Nat):Int):=by
  obtain ⟨k,rfl | rfl⟩:=c.eq_nat_or_neg
  · rw [if_pos (by omega),Int.natAbs_natCast];rfl
  · by_cases h:k=0
    · subst h;rfl
    · rw [if_neg (by omega),Int.neg_tmod,Int.natAbs_neg,Int.natAbs_natCast];rfl
theorem td10 (c:Int):c.tdiv 10=if 0≤c then ((c.natAbs / 10:Nat):Int) else -((c.natAbs / 10:Nat):Int):=by
  obtain ⟨k,rfl | rfl⟩:=c.eq_nat_or_neg
  · rw [if_pos (by omega),Int.natAbs_natCast];rfl
  · by_cases h:k=0
    · subst h;rfl
    · rw [if_neg (by omega),Int.neg_tdiv,Int.natAbs_neg,Int.natAbs_natCast];rfl
theorem td_abs (c:Int):(c.tdiv 10).natAbs=c.natAbs / 10:=by
  rw [td10];split<;>omega
theorem dg_len:∀ f m,(dg f m).length≤f
  | 0,_=>Nat.le_refl _
  | f+1,m=>by
    simp only [dg]
    split
    · simp
    · have:=dg_len f (m / 10);simp;omega
theorem fmt_size (n:Int):(fmtI n).size≤21:=by
  unfold fmtI
  split
  · simp [bs_size]
  · rw [bs_size,fmtL,List.length_reverse,List.length_append]
    have:=dg_len 20 n.natAbs
    split<;>simp<;>omega
theorem con_FormatInt_s (n:Int) (h0:-9223372036854775808≤n) (h1:n≤9223372036854775807):zE 118 [.p (.int .i64 n)] [] (.p (.str (fmtI n))):=by
  refine csZ Tryz.func118 (fun c hc=>?_)
  by_cases hz:n=0
  · subst hz
    refine pkZ Tryz.func118 hc (fS0 0 (fmtI 0)) ?_
    and_intros
    all_goals (first | exact zN | rfl | (exact ByteArray.ext (by rw [fmtI,if_pos rfl,bs_data];rfl)))
  have hz':(n==0)=false:=by simpa using hz
  have lp:∀ f m l,l.length+f=20→m.natAbs<10 ^ f→dg 20 n.natAbs=l++dg f m.natAbs→(n<0→m≤0)→(0≤n→0≤m)→-9223372036854775808≤m→m≤9223372036854775807 →
      zR c 118 zf35 (SFs m (bs l.reverse) (decide (n<0))) (Post c [] (.p (.str (fmtI n)))):=by
    have fin:∀ l,dg 20 n.natAbs=l→l.length≤20→zR c 118 zf35 (SFs 0 (bs l.reverse) (decide (n<0))) (Post c [] (.p (.str (fmtI n)))):=by
      intro l hl hl2
      have hsz:=bs_size l.reverse
      rw [List.length_reverse] at hsz
      by_cases hn:n<0
      · rw [decide_eq_true hn]
        refine pkZ Tryz.func118 hc (fSt 0 (bs l.reverse) (fmtI n) true) ?_
        and_intros
        all_goals (first | exact zN | (show _+(bs l.reverse).size≤_;rw [hsz];show 1+l.length≤_;omega) | (rw [fmtI,if_neg hz,fmtL,if_pos hn,hl,List.reverse_append,bs_append];exact congrArg (·++bs l.reverse) (ByteArray.ext (by rw [bs_data];rfl))))
      · rw [decide_eq_false hn]
        refine pkZ Tryz.func118 hc (fSf 0 (bs l.reverse) (fmtI n) false) ?_
        and_intros
        all_goals (first | exact zN | (rw [fmtI,if_neg hz,fmtL,if_neg hn,hl,List.append_nil]))
    intro f
    induction f with
    | zero =>
      intro m l hl hm hd hs1 hs2 hb1 hb2
      obtain rfl:m=0:=by simp at hm;omega
      exact fin l (by rw [hd];simp [dg]) (by omega)
    | succ f ih =>
      intro m l hl hm hd hs1 hs2 hb1 hb2
      by_cases hm0:m=0
      · subst hm0
        exact fin l (by rw [hd];simp [dg]) (by omega)
      have hmt:(m != 0)=true:=by simpa using hm0
      have hma:m.natAbs≠0:=by omega
      have htd:=td10 m
      have hrec:=ih (m.tdiv 10) (l++[48+((m.natAbs % 10:Nat):Int)]) (by simp;omega) (by rw [td_abs];rw [Nat.pow_succ] at hm;omega) (by rw [hd,td_abs,dg,if_neg hma];simp) (by intro h;rw [htd];split<;>omega) (by intro h;rw [htd];split<;>omega) (by rw [htd];split<;>omega) (by rw [htd];split<;>omega)
      have hw:IntKind.i64.wrap (m.tdiv 10)=m.tdiv 10:=wrap_in (k:=.i64) (by show (-9223372036854775808:Int)≤_;rw [htd];split<;>omega) (by show _≤(9223372036854775807:Int);rw [htd];split<;>omega)
      have htm:=tm10 m
      have hsz:=bs_size l.reverse
      rw [List.length_reverse] at hsz
      have hb:∀ d:Int,bytesOf 1 (fun _=>[.p (.int .u8 (48+d))])=bs [48+d]:=fun d=>rfl
      have hout:∀ d:Int,d=((m.natAbs % 10:Nat):Int)→bs [48+d]++bs l.reverse=bs (l++[48+((m.natAbs % 10:Nat):Int)]).reverse:=by
        intro d hd'
        rw [List.reverse_append,bs_append,hd'];rfl
      by_cases hneg:m.tmod 10<0
      · have hng:decide (m.tmod 10<0)=true:=decide_eq_true hneg
        have hd':0 - m.tmod 10=((m.natAbs % 10:Nat):Int):=by rw [htm] at hneg ⊢;split at hneg<;>simp_all<;>omega
        refine pcZ hc (fSn m (m.tdiv 10) (bs l.reverse) (bs (l++[48+((m.natAbs % 10:Nat):Int)]).reverse) (decide (n<0))) ?_ hrec
        repeat' (first | exact aN | apply aI)
        all_goals (first | exact zN | (exact hmt) | (exact hng) | (exact hw) | (intro i hi;exact ⟨_,rfl⟩) | (show (bs [48+(0 - m.tmod 10)]).size+(bs l.reverse).size≤_;rw [hsz,bs_size];show 1+l.length≤_;omega) | (exact hout _ hd') | (show (_:Int)≤_;rw [hd'];omega) | (simp only [imin,imax];omega))
      · have hng:decide (m.tmod 10<0)=false:=decide_eq_false hneg
        have hd':m.tmod 10=((m.natAbs % 10:Nat):Int):=by rw [htm] at hneg ⊢;split at hneg<;>simp_all<;>omega
        refine pcZ hc (fSp m (m.tdiv 10) (bs l.reverse) (bs (l++[48+((m.natAbs % 10:Nat):Int)]).reverse) (decide (n<0))) ?_ hrec
        repeat' (first | exact aN | apply aI)
        all_goals (first | exact zN | (exact hmt) | (exact hng) | (exact hw) | (intro i hi;exact ⟨_,rfl⟩) | (show (bs [48+m.tmod 10]).size+(bs l.reverse).size≤_;rw [hsz,bs_size];show 1+l.length≤_;omega) | (exact hout _ hd') | (show (_:Int)≤_;rw [hd'];omega) | (simp only [imin,imax];omega))
  refine pcZ hc (fSz n (bs [])) ?_ (lp 20 n [] rfl (by omega) rfl (fun h=>by omega) (fun h=>h) h0 h1)
  and_intros
  all_goals (first | exact zN | (exact hz') | rfl)
def lsI (n:Nat) (f:Nat→Int):List Int:=(List.range n).map f
theorem lsI_ap (n:Nat) (f:Nat→Int) (x:Int):lsI (n+1) (apF n f x)=lsI n f++[x]:=by
  simp only [lsI,List.range_succ,List.map_append,List.map_cons,List.map_nil]
  congr 1
  · exact List.map_congr_left (fun i hi=>by simp [apF,List.mem_range.1 hi])
  · simp [apF]
theorem lsI_rev (n:Nat) (f g:Nat→Int) (h:∀ r,r<n→g r=f (n - 1 - r)):lsI n g=(lsI n f).reverse:=by
  apply List.ext_getElem
  · simp [lsI]
  · intro i h1 h2
    simp only [lsI,List.length_map,List.length_range] at h1
    simp [lsI,h i h1]
theorem con_FormatInt_i (n:Int) (h0:-9223372036854775808≤n) (h1:n≤9223372036854775807):zE 129 [.p (.int .i64 n)] [] (.p (.str (fmtI n))):=by
  refine csZ Tryz.func129 (fun c hc=>?_)
  by_cases hz:n=0
  · subst hz
    refine pkZ Tryz.func129 hc (fI0 0 (fmtI 0)) ?_
    and_intros
    all_goals (first | exact zN | rfl | (exact ByteArray.ext (by rw [fmtI,if_pos rfl,bs_data];rfl)))
  have hz':(n==0)=false:=by simpa using hz
  have lr:∀ L f0,L≤21→lsI L f0=fmtL n→∀ d i f,i+d=L→i≤L→2*i≤L+1→(∀ r,r<L→f r=if r<i∨L - i≤r then f0 (L - 1 - r) else f0 r) →
      zR c 129 zf26 (SFr L i ((L:Int) - 1 - i) f) (Post c [] (.p (.str (fmtI n)))):=by
    intro L f0 hL hl d
    have fin:∀ i f,i≤L→2*i≤L+1→L≤2*i+1→(∀ r,r<L→f r=if r<i∨L - i≤r then f0 (L - 1 - r) else f0 r) →
        zR c 129 zf26 (SFr L i ((L:Int) - 1 - i) f) (Post c [] (.p (.str (fmtI n)))):=by
      intro i f hi hi2 hi3 hf
      have hd:decide ((i:Int)<(L:Int) - 1 - i)=false:=decide_eq_false (by omega)
      have hrev:∀ r,r<L→f r=f0 (L - 1 - r):=by
        intro r hr
        rw [hf r hr]
        split
        · rfl
        · rename_i h
          rw [show L - 1 - r=r by omega]
      have he:=lsI_rev L f0 f hrev
      refine pkZ Tryz.func129 hc (fIe L i ((L:Int) - 1 - i) f (fmtI n)) ?_
      repeat' (first | exact aN | apply aI)
      all_goals (first | exact zN | (exact hd) | (intro r hr;exact ⟨_,rfl⟩) | (rw [bytesOf_bs];show bs (lsI L f)=_;rw [he,hl,fmtI,if_neg hz]))
    induction d with
    | zero =>
      intro i f hi hi1 hi2 hf
      exact fin i f hi1 hi2 (by omega) hf
    | succ d ih =>
      intro i f hi hi1 hi2 hf
      by_cases hlt:(i:Int)<(L:Int) - 1 - i
      · have hd:decide ((i:Int)<(L:Int) - 1 - i)=true:=decide_eq_true hlt
        have hj:((L:Int) - 1 - i).toNat=L - 1 - i:=by omega
        have hrec:=ih (i+1) (swF i ((L:Int) - 1 - i).toNat f) (by omega) (by omega) (by omega) (by
          intro r hr
          rw [hj]
          unfold swF
          by_cases e1:r=L - 1 - i
          · rw [if_pos e1,if_pos (by omega),hf i (by omega),if_neg (by omega),e1]
            rw [show L - 1 - (L - 1 - i)=i by omega]
          · rw [if_neg e1]
            by_cases e2:r=i
            · rw [if_pos e2,if_pos (by omega),hf (L - 1 - i) (by omega),if_neg (by omega),e2]
            · rw [if_neg e2,hf r hr]
              by_cases e3:r<i∨L - i≤r
              · rw [if_pos e3,if_pos (by omega)]
              · rw [if_neg e3,if_neg (by omega)])
        rw [show (L:Int) - 1 - ((i+1:Nat):Int)=(L:Int) - 1 - i - 1 by omega] at hrec
        refine pcD hc (fIs L i ((L:Int) - 1 - i) f) ?_ hrec
        and_intros
        all_goals (first | exact zI | (exact hd) | (intro r hr;generalize ((L:Int) - 1 - i).toNat=J;by_cases e1:r=J<;>by_cases e2:r=i<;>(first | (subst e2;simp [e1,swF,cvtL,cvt,tg,tru,All];done) | (simp [e1,e2,swF,cvtL,cvt,tg,tru,All];done))) | (simp only [imin,imax];omega))
      · exact fin i f hi1 hi2 (by omega) hf
  have lp:∀ f m l g,l+f=20→m.natAbs<10 ^ f→dg 20 n.natAbs=lsI l g++dg f m.natAbs→(n<0→m≤0)→(0≤n→0≤m)→-9223372036854775808≤m→m≤9223372036854775807 →
      zR c 129 zf55 (SFi n m l g) (Post c [] (.p (.str (fmtI n)))):=by
    have fin:∀ l g,dg 20 n.natAbs=lsI l g→l≤20→zR c 129 zf55 (SFi n 0 l g) (Post c [] (.p (.str (fmtI n)))):=by
      intro l g hl hl2
      by_cases hn:n<0
      · have hd:decide (n<0)=true:=decide_eq_true hn
        have hr:=lr (l+1) (apF l g 45) (by omega) (by rw [lsI_ap,fmtL,if_pos hn,hl]) (l+1) 0 (apF l g 45) (by omega) (by omega) (by omega) (fun r hr=>by rw [if_neg (by omega)])
        rw [show ((l+1:Nat):Int) - 1 - ((0:Nat):Int)=((l+1:Nat):Int) - 1 by omega] at hr
        refine pcZ hc (fIt n 0 l g) ?_ hr
        and_intros
        all_goals (first | exact zN | (exact hd) | (intro j hj;by_cases h':j<l<;>simp [h',apF,cvtL,cvt,tg,tru,All];done) | (simp only [imin,imax];omega))
      · have hd:decide (n<0)=false:=decide_eq_false hn
        have hr:=lr l g (by omega) (by rw [fmtL,if_neg hn,hl,List.append_nil]) l 0 g (by omega) (by omega) (by omega) (fun r hr=>by rw [if_neg (by omega)])
        rw [show (l:Int) - 1 - ((0:Nat):Int)=(l:Int) - 1 by omega] at hr
        refine pcZ hc (fIf n 0 l g) ?_ hr
        and_intros
        all_goals (first | exact zN | (exact hd) | (intro j hj;simp [All];done) | (simp only [imin,imax];omega))
    intro f
    induction f with
    | zero =>
      intro m l g hl hm hd hs1 hs2 hb1 hb2
      obtain rfl:m=0:=by simp at hm;omega
      exact fin l g (by rw [hd];simp [dg]) (by omega)
    | succ f ih =>
      intro m l g hl hm hd hs1 hs2 hb1 hb2
      by_cases hm0:m=0
      · subst hm0
        exact fin l g (by rw [hd];simp [dg]) (by omega)
      have hmt:(m != 0)=true:=by simpa using hm0
      have hma:m.natAbs≠0:=by omega
      have htd:=td10 m
      have hrec:=ih (m.tdiv 10) (l+1) (apF l g (48+((m.natAbs % 10:Nat):Int))) (by omega) (by rw [td_abs];rw [Nat.pow_succ] at hm;omega) (by rw [hd,td_abs,dg,if_neg hma,lsI_ap];simp) (by intro h;rw [htd];split<;>omega) (by intro h;rw [htd];split<;>omega) (by rw [htd];split<;>omega) (by rw [htd];split<;>omega)
      have hw:IntKind.i64.wrap (m.tdiv 10)=m.tdiv 10:=wrap_in (k:=.i64) (by show (-9223372036854775808:Int)≤_;rw [htd];split<;>omega) (by show _≤(9223372036854775807:Int);rw [htd];split<;>omega)
      have htm:=tm10 m
      by_cases hneg:m.tmod 10<0
      · have hng:decide (m.tmod 10<0)=true:=decide_eq_true hneg
        have hd':0 - m.tmod 10=((m.natAbs % 10:Nat):Int):=by rw [htm] at hneg ⊢;split at hneg<;>simp_all<;>omega
        refine pcZ hc (fIn n m (m.tdiv 10) l g (48+((m.natAbs % 10:Nat):Int))) ?_ hrec
        and_intros
        all_goals (first | exact zN | (exact hmt) | (exact hng) | (exact hw) | (intro j hj;by_cases h':j<l<;>simp [h',hd',apF,cvtL,cvt,tg,tru,All];done) | (show (_:Int)≤_;rw [hd'];omega) | (simp only [imin,imax];omega))
      · have hng:decide (m.tmod 10<0)=false:=decide_eq_false hneg
        have hd':m.tmod 10=((m.natAbs % 10:Nat):Int):=by rw [htm] at hneg ⊢;split at hneg<;>simp_all<;>omega
        refine pcZ hc (fIp n m (m.tdiv 10) l g (48+((m.natAbs % 10:Nat):Int))) ?_ hrec
        and_intros
        all_goals (first | exact zN | (exact hmt) | (exact hng) | (exact hw) | (intro j hj;by_cases h':j<l<;>simp [h',hd',apF,cvtL,cvt,tg,tru,All];done) | (show (_:Int)≤_;rw [hd'];omega) | (simp only [imin,imax];omega))
  refine pcZ hc (fIz n) ?_ (lp 20 n 0 (fun _=>0) rfl (by omega) (by simp [lsI]) (fun h=>by omega) (fun h=>h) h0 h1)
  and_intros
  all_goals (first | exact zN | (exact hz') | (intro j hj;exact absurd hj (Nat.not_lt_zero _)) | rfl)
def kDash:ByteArray:=⟨#[45]⟩
theorem kDash_z:(ByteArray.mk #[45]).size=1:=rfl
theorem lEn (x:T_Bar) (fa fb:ByteArray) :
    zS Tryz.f115 [rg 2,rm [(5,oc [] (.p (.str fa))),(6,oc [] (.p (.str fb)))] 2] [.agg [.p (.int .i64 x.1),.p (.int .i64 x.2.1)]] [] [] (.p (.str ((fa++kDash)++fb))) =
    some [(NT 0 1),(NT 0 1),zE 129 [.p (.int .i64 (if false=true then if x.2.1>x.1 then x.2.1 else x.1 else if x.2.1<x.1 then x.2.1 else x.1))] [] (.p (.str fa)),(NL (fa.size+(ByteArray.mk #[45]).size) 9223372036854775807),(NT 0 1),(NT 0 1),zE 129 [.p (.int .i64 (if true=true then if x.2.1>x.1 then x.2.1 else x.1 else if x.2.1<x.1 then x.2.1 else x.1))] [] (.p (.str fb)),(NL ((fa++ByteArray.mk #[45]).size+fb.size) 9223372036854775807),(fa++ByteArray.mk #[45]++fb=fa++kDash++fb)]:=by kernel_rfl
def enB (x:T_Bar):ByteArray:=(fmtI (if x.2.1<x.1 then x.2.1 else x.1)++kDash)++fmtI (if x.2.1>x.1 then x.2.1 else x.1)
theorem enB_size (x:T_Bar):(enB x).size≤43:=by
  have h1:=fmt_size (if x.2.1<x.1 then x.2.1 else x.1)
  have h2:=fmt_size (if x.2.1>x.1 then x.2.1 else x.1)
  unfold enB
  simp only [ByteArray.size_append,show kDash.size=1 from rfl]
  omega
theorem con_ends (x:T_Bar) (h0:-9223372036854775808≤x.1∧x.1≤9223372036854775807) (h1:-9223372036854775808≤x.2.1∧x.2.1≤9223372036854775807):zE 115 [.agg [.p (.int .i64 x.1),.p (.int .i64 x.2.1)]] [] (.p (.str (enB x))):=by
  have c1:=con_FormatInt_i (if x.2.1<x.1 then x.2.1 else x.1) (by split<;>omega) (by split<;>omega)
  have c2:=con_FormatInt_i (if x.2.1>x.1 then x.2.1 else x.1) (by split<;>omega) (by split<;>omega)
  have s1:=fmt_size (if x.2.1<x.1 then x.2.1 else x.1)
  have s2:=fmt_size (if x.2.1>x.1 then x.2.1 else x.1)
  unfold enB
  generalize fmtI (if x.2.1<x.1 then x.2.1 else x.1)=fa at *
  generalize fmtI (if x.2.1>x.1 then x.2.1 else x.1)=fb at *
  refine csZ Tryz.func115 (fun c hc=>?_)
  refine pkZ Tryz.func115 hc (lEn x fa fb) ?_
  and_intros
  all_goals (first | exact zN | (exact c1) | (exact c2) | (simp only [ByteArray.size_append,kDash_z];omega))
def sE:ByteArray:=⟨#[]⟩
def sC:ByteArray:=⟨#[44]⟩
def sSp:ByteArray:=⟨#[32]⟩
def sL:ByteArray:=⟨#[123]⟩
def sR:ByteArray:=⟨#[125]⟩
def sNone:ByteArray:=⟨#[110,111,110,101]⟩
def strL (n:Nat) (f:Nat→ByteArray):AV:=.p (.seq true 1 n (fun i=>[.str (f i)]))
def stOb (n:Nat) (f:Nat→ByteArray):Ob:=⟨false,1,n,fun i=>[.p (.str (f i))]⟩
def setsL (n:Nat) (C:Nat→T_IntS):AV:=.p (.seq true 1 n (fun i=>[.seq true 1 (C i).1 (fun s=>[.int .i64 ((C i).2 s)])]))
def SJ (n:Nat) (f:Nat→ByteArray) (by_:ByteArray) (k:Nat) (s:ByteArray):St :=
  ⟨[strL n f,.p (.str by_),.p .any,.p .any,.p .any,.p (.str s),.p .any,.p .any,strL n f,.p (.int .i64 n),.p (.int .i64 k)]++List.replicate 14 anyA,[],0⟩
def SNm (v:T_IntS) (k:Nat) (f:Nat→ByteArray):St :=
  ⟨[inL v,.p .any,.p .any,.ar 1 0 0 k,.p .any,.p .any,.p .any,inL v,.p (.int .i64 v.1),.p (.int .i64 k)]++List.replicate 11 anyA,[(0,stOb k f)],1⟩
def SNl (v:T_IntS) (k:Nat) (s:ByteArray):St :=
  ⟨[inL v,.p .any,.p .any,.p (.str s),.p (.int .i64 k)]++List.replicate 20 anyA,[],0⟩
def SFm (n:Nat) (C:Nat→T_IntS) (k:Nat) (f:Nat→ByteArray):St :=
  ⟨[setsL n C,.p .any,.p .any,.ar 1 0 0 k]++List.replicate 6 anyA++[setsL n C,.p (.int .i64 n),.p (.int .i64 k)]++List.replicate 13 anyA,[(0,stOb k f)],1⟩
def SFo (n:Nat) (C:Nat→T_IntS) (i:Nat) (s:ByteArray):St :=
  ⟨[setsL n C,.p .any,.p .any,.p (.str s),.p (.int .i64 i)]++List.replicate 41 anyA,[],0⟩
def SFn (n:Nat) (C:Nat→T_IntS) (i k:Nat) (s:ByteArray):St :=
  ⟨[setsL n C,.p .any,.p .any,.p (.str s),.p (.int .i64 i),.p (.int .i64 k)]++List.replicate 40 anyA,[],0⟩
theorem jJz (n:Nat) (f:Nat→ByteArray) (by_:ByteArray) :
    zT Tryz.f218 [rg 1,rg 1,rg 3,.head] [strL n f,.p (.str by_)] [] (SJ n f by_ 0 sE) =
    some (zf71,zD [(AN n),(AP n (fun i=>[.str (f i)])),(by_=by_),(ByteArray.mk #[]=sE),(AI ((↑n:Int))),((0:Int)=(↑0:Int))] [0,1,2,3,0,1,4,5]):=by kernel_rfl
theorem jJt (n:Nat) (f:Nat→ByteArray) (by_:ByteArray) (k:Nat) (s:ByteArray) :
    zM 0 [rg 1,.dec true,rg 5,rg 2,.dec true,rg 4,rg 4,rg 2,.head] zf71 (SJ n f by_ k s) [] 1 (SJ n f by_ (k+1) ((s++by_)++f k)) =
    some (zf71,[((decide ((↑k:Int)<(↑n:Int)))=true),(IL 0 (↑k:Int)),(IT (↑k:Int) (↑n:Int)),((decide ((↑k:Int)>0))=true),(NL (s.size+by_.size) 9223372036854775807),(NL ((s++by_).size+(f k).size) 9223372036854775807),(ZLo ((↑k:Int)+1)),(ZHi ((↑k:Int)+1)),(AN n),(AP n (fun i=>[.str (f i)])),(by_=by_),(s++by_++f k=s++by_++f k),(AN n),(AP n (fun i=>[.str (f i)])),(AI ((↑n:Int))),((((↑k:Int)+1):Int)=(↑(k+1):Int))]):=by kernel_rfl
theorem jJf (n:Nat) (f:Nat→ByteArray) (by_:ByteArray) (k:Nat) (s:ByteArray) :
    zM 0 [rg 1,.dec true,rg 5,rg 2,.dec false,rg 4,rg 2,.head] zf71 (SJ n f by_ k s) [] 1 (SJ n f by_ (k+1) (s++f k)) =
    some (zf71,[((decide ((↑k:Int)<(↑n:Int)))=true),(IL 0 (↑k:Int)),(IT (↑k:Int) (↑n:Int)),((decide ((↑k:Int)>0))=false),(NL (s.size+(f k).size) 9223372036854775807),(ZLo ((↑k:Int)+1)),(ZHi ((↑k:Int)+1)),(AN n),(AP n (fun i=>[.str (f i)])),(by_=by_),(s++f k=s++f k),(AN n),(AP n (fun i=>[.str (f i)])),(AI ((↑n:Int))),((((↑k:Int)+1):Int)=(↑(k+1):Int))]):=by kernel_rfl
theorem jJe (n:Nat) (f:Nat→ByteArray) (by_:ByteArray) (k:Nat) (s:ByteArray) :
    zP Tryz.f218 0 [rg 1,.dec false,rg 2] zf71 (SJ n f by_ k s) [] 1 [] (.p (.str s)) =
    some [((decide ((↑k:Int)<(↑n:Int)))=false),(s=s)]:=by kernel_rfl
theorem jNz (v:T_IntS) (f:Nat→ByteArray) :
    zT Tryz.f219 [rg 1,rg 2,rg 3,.head] [inL v] [32] (SNm v 0 f) =
    some (zf72,zD [(AN v.1),(AP v.1 (iRw v)),(AN 0),(AI ((↑v.1:Int))),((0:Int)=(↑0:Int)),(AN 1),(NL 0 0),(∀ i:Nat,(((i:Nat)<0)→(All []∧(([.p (.str (ByteArray.mk #[]))]:List AV)=[.p (.str (f i))]))))] [0,1,2,2,0,1,3,4,5,6,7]):=by kernel_rfl
theorem jNt (v:T_IntS) (k:Nat) (f:Nat→ByteArray) (s:ByteArray) :
    zM 0 [rg 1,.dec true,rg 3,rm [(2,oc [] (.p (.str s)))] 3,rg 2,.head] zf72 (SNm v k f) [257] 1 (SNm v (k+1) f) =
    some (zf72,[((decide ((↑k:Int)<(↑v.1:Int)))=true),(IL 0 (↑k:Int)),(IT (↑k:Int) (↑v.1:Int)),zE 129 [.p (.int .i64 (v.2 k))] [] (.p (.str s)),(NL 1 1),(NL k k),(NL ((k+1)*16) 140737488355328),(NL (k+1) 9223372036854775807),(ZLo ((↑k:Int)+1)),(ZHi ((↑k:Int)+1)),(AN v.1),(AP v.1 (iRw v)),(AN 0),(AN ((k+1))),(AN v.1),(AP v.1 (iRw v)),(AI ((↑v.1:Int))),((((↑k:Int)+1):Int)=(↑(k+1):Int)),(AN 1),(NL (k+1) (k+1)),(∀ i:Nat,(((i:Nat)<(k+1))→(All (cvtL false [(257,⟨false,1,(k+1),(fun i_1=>(if (i_1<k) then [.p (.str (f i_1))] else [.p (.str s)]))⟩),(225,⟨false,1,1,(fun i_1=>[.p (.str s)])⟩)] [257] 1 (if (i<k) then [.p (.str (f i))] else [.p (.str s)])).2∧(((cvtL false [(257,⟨false,1,(k+1),(fun i_1=>(if (i_1<k) then [.p (.str (f i_1))] else [.p (.str s)]))⟩),(225,⟨false,1,1,(fun i_1=>[.p (.str s)])⟩)] [257] 1 (if (i<k) then [.p (.str (f i))] else [.p (.str s)])).1:List AV)=[.p (.str (f i))]))))]):=by kernel_rfl
theorem jNe (v:T_IntS) (k:Nat) (f:Nat→ByteArray) (s:ByteArray) :
    zP Tryz.f219 0 [rg 1,.dec false,rm [(1,oc [] (.p (.str s)))] 1] zf72 (SNm v k f) [] 1 [] (.p (.str s)) =
    some [((decide ((↑k:Int)<(↑v.1:Int)))=false),(AN 1),(NL k k),zE 218 [.p (.seq true 1 k (fun i=>[.str (f i)])),.p (.str (ByteArray.mk #[44]))] [] (.p (.str s)),(s=s)]:=by kernel_rfl
theorem jLn (v:T_IntS) :
    zS Tryz.f111 [rg 1,rg 3,.dec true,rg 1] [inL v] [] [] (.p (.str sNone)) =
    some [(((↑v.1:Int)==0)=true),(ByteArray.mk #[110,111,110,101]=sNone)]:=by kernel_rfl
theorem jLy (v:T_IntS) (s:ByteArray) :
    zS Tryz.f111 [rg 1,rg 3,.dec false,rm [(1,oc [] (.p (.str s)))] 1] [inL v] [] [] (.p (.str s)) =
    some [(((↑v.1:Int)==0)=false),zE 219 [.p (.seq true 1 v.1 (iRw v))] [] (.p (.str s)),(s=s)]:=by kernel_rfl
theorem jMz (v:T_IntS) :
    zT Tryz.f103 [rg 1,rg 1,rg 1,.head] [inL v] [] (SNl v 0 sE) =
    some (zf73,[(AN v.1),(AP v.1 (iRw v)),(ByteArray.mk #[]=sE),((0:Int)=(↑0:Int))]):=by kernel_rfl
theorem jMt (v:T_IntS) (k:Nat) (s t:ByteArray) :
    zM 0 [rg 4,.dec true,rg 2,.dec true,rg 3,rm [(5,oc [] (.p (.str t)))] 2,rg 3,.head] zf73 (SNl v k s) [] 1 (SNl v (k+1) ((s++sC)++t)) =
    some (zf73,[((decide ((↑k:Int)<(↑v.1:Int)))=true),((decide ((↑k:Int)>0))=true),(NL (s.size+(ByteArray.mk #[44]).size) 9223372036854775807),(IL 0 (↑k:Int)),(IT (↑k:Int) (↑v.1:Int)),zE 118 [.p (.int .i64 (v.2 k))] [] (.p (.str t)),(NL ((s++ByteArray.mk #[44]).size+t.size) 9223372036854775807),(ZLo ((↑k:Int)+1)),(ZHi ((↑k:Int)+1)),(AN v.1),(AP v.1 (iRw v)),(s++ByteArray.mk #[44]++t=s++sC++t),((((↑k:Int)+1):Int)=(↑(k+1):Int))]):=by kernel_rfl
theorem jMf (v:T_IntS) (k:Nat) (s t:ByteArray) :
    zM 0 [rg 4,.dec true,rg 2,.dec false,rm [(5,oc [] (.p (.str t)))] 2,rg 3,.head] zf73 (SNl v k s) [] 1 (SNl v (k+1) (s++t)) =
    some (zf73,[((decide ((↑k:Int)<(↑v.1:Int)))=true),((decide ((↑k:Int)>0))=false),(IL 0 (↑k:Int)),(IT (↑k:Int) (↑v.1:Int)),zE 118 [.p (.int .i64 (v.2 k))] [] (.p (.str t)),(NL (s.size+t.size) 9223372036854775807),(ZLo ((↑k:Int)+1)),(ZHi ((↑k:Int)+1)),(AN v.1),(AP v.1 (iRw v)),(s++t=s++t),((((↑k:Int)+1):Int)=(↑(k+1):Int))]):=by kernel_rfl
theorem jMn (v:T_IntS) (k:Nat) (s:ByteArray) :
    zP Tryz.f103 0 [rg 4,.dec false,rg 2,.dec true,rg 1] zf73 (SNl v k s) [] 1 [] (.p (.str sNone)) =
    some [((decide ((↑k:Int)<(↑v.1:Int)))=false),((s.toList==(ByteArray.mk #[]).toList)=true),(ByteArray.mk #[110,111,110,101]=sNone)]:=by kernel_rfl
theorem jMe (v:T_IntS) (k:Nat) (s:ByteArray) :
    zP Tryz.f103 0 [rg 4,.dec false,rg 2,.dec false,rg 2] zf73 (SNl v k s) [] 1 [] (.p (.str s)) =
    some [((decide ((↑k:Int)<(↑v.1:Int)))=false),((s.toList==(ByteArray.mk #[]).toList)=false),(s=s)]:=by kernel_rfl
theorem jFn (n:Nat) (C:Nat→T_IntS) :
    zS Tryz.f109 [rg 1,rg 3,.dec true,rg 1] [setsL n C] [] [] (.p (.str sNone)) =
    some [(((↑n:Int)==0)=true),(ByteArray.mk #[110,111,110,101]=sNone)]:=by kernel_rfl
theorem jFz (n:Nat) (C:Nat→T_IntS) (f:Nat→ByteArray) :
    zT Tryz.f109 [rg 1,rg 3,.dec false,rg 2,rg 3,.head] [setsL n C] [128] (SFm n C 0 f) =
    some (zf56,zD [(((↑n:Int)==0)=false),(AN n),(AP n (fun i=>[.seq true 1 ((C i).1) (fun i_1=>[.int .i64 ((C i).2 i_1)])])),(AN 0),(AI ((↑n:Int))),((0:Int)=(↑0:Int)),(AN 1),(NL 0 0),(∀ i:Nat,(((i:Nat)<0)→(All []∧(([.p (.str (ByteArray.mk #[]))]:List AV)=[.p (.str (f i))]))))] [0,1,2,3,3,1,2,4,5,6,7,8]):=by kernel_rfl
theorem jFt (n:Nat) (C:Nat→T_IntS) (k:Nat) (f:Nat→ByteArray) (s:ByteArray) :
    zM 0 [rg 1,.dec true,rg 3,rm [(2,oc [] (.p (.str s)))] 5,rg 2,.head] zf56 (SFm n C k f) [321] 1 (SFm n C (k+1) f) =
    some (zf56,zD [((decide ((↑k:Int)<(↑n:Int)))=true),(IL 0 (↑k:Int)),(IT (↑k:Int) (↑n:Int)),zE 219 [.p (.seq true 1 ((C k).1) (fun i=>[.int .i64 ((C k).2 i)]))] [] (.p (.str s)),(NL ((ByteArray.mk #[123]).size+s.size) 9223372036854775807),(NL ((ByteArray.mk #[123]++s).size+(ByteArray.mk #[125]).size) 9223372036854775807),(NL 1 1),(NL k k),(NL ((k+1)*16) 140737488355328),(NL (k+1) 9223372036854775807),(ZLo ((↑k:Int)+1)),(ZHi ((↑k:Int)+1)),(AN n),(AP n (fun i=>[.seq true 1 ((C i).1) (fun i_1=>[.int .i64 ((C i).2 i_1)])])),(AN 0),(AN ((k+1))),(AI ((↑n:Int))),((((↑k:Int)+1):Int)=(↑(k+1):Int)),(AN 1),(NL (k+1) (k+1)),(∀ i:Nat,(((i:Nat)<(k+1))→(All (cvtL false [(321,⟨false,1,(k+1),(fun i_1=>(if (i_1<k) then [.p (.str (f i_1))] else [.p (.str (ByteArray.mk #[123]++s++ByteArray.mk #[125]))]))⟩),(289,⟨false,1,1,(fun i_1=>[.p (.str (ByteArray.mk #[123]++s++ByteArray.mk #[125]))])⟩)] [321] 1 (if (i<k) then [.p (.str (f i))] else [.p (.str (ByteArray.mk #[123]++s++ByteArray.mk #[125]))])).2∧(((cvtL false [(321,⟨false,1,(k+1),(fun i_1=>(if (i_1<k) then [.p (.str (f i_1))] else [.p (.str (ByteArray.mk #[123]++s++ByteArray.mk #[125]))]))⟩),(289,⟨false,1,1,(fun i_1=>[.p (.str (ByteArray.mk #[123]++s++ByteArray.mk #[125]))])⟩)] [321] 1 (if (i<k) then [.p (.str (f i))] else [.p (.str (ByteArray.mk #[123]++s++ByteArray.mk #[125]))])).1:List AV)=[.p (.str (f i))]))))] [0,1,2,3,4,5,6,7,8,9,10,11,12,13,14,15,12,13,16,17,18,19,20]):=by kernel_rfl
theorem jFe (n:Nat) (C:Nat→T_IntS) (k:Nat) (f:Nat→ByteArray) (s:ByteArray) :
    zP Tryz.f109 0 [rg 1,.dec false,rm [(1,oc [] (.p (.str s)))] 1] zf56 (SFm n C k f) [] 1 [] (.p (.str s)) =
    some [((decide ((↑k:Int)<(↑n:Int)))=false),(AN 1),(NL k k),zE 218 [.p (.seq true 1 k (fun i=>[.str (f i)])),.p (.str (ByteArray.mk #[32]))] [] (.p (.str s)),(s=s)]:=by kernel_rfl
theorem jGz (n:Nat) (C:Nat→T_IntS) :
    zT Tryz.f101 [rg 1,rg 1,rg 1,.head] [setsL n C] [] (SFo n C 0 sE) =
    some (zf74,[(AN n),(AP n (fun i=>[.seq true 1 ((C i).1) (fun i_1=>[.int .i64 ((C i).2 i_1)])])),(ByteArray.mk #[]=sE),((0:Int)=(↑0:Int))]):=by kernel_rfl
theorem jGa (n:Nat) (C:Nat→T_IntS) (i:Nat) (s:ByteArray) :
    zM 0 [rg 4,.dec true,rg 2,.dec true,rg 3,rg 3,rg 1,.head] zf74 (SFo n C i s) [] 1 (SFn n C i 0 ((s++sSp)++sL)) =
    some (zf6,[((decide ((↑i:Int)<(↑n:Int)))=true),((decide ((↑i:Int)>0))=true),(NL (s.size+(ByteArray.mk #[32]).size) 9223372036854775807),(NL ((s++ByteArray.mk #[32]).size+(ByteArray.mk #[123]).size) 9223372036854775807),(AN n),(AP n (fun i_1=>[.seq true 1 ((C i_1).1) (fun i_2=>[.int .i64 ((C i_1).2 i_2)])])),(s++ByteArray.mk #[32]++ByteArray.mk #[123]=s++sSp++sL),(AI ((↑i:Int))),((0:Int)=(↑0:Int))]):=by kernel_rfl
theorem jGb (n:Nat) (C:Nat→T_IntS) (i:Nat) (s:ByteArray) :
    zM 0 [rg 4,.dec true,rg 2,.dec false,rg 3,rg 1,.head] zf74 (SFo n C i s) [] 1 (SFn n C i 0 (s++sL)) =
    some (zf6,[((decide ((↑i:Int)<(↑n:Int)))=true),((decide ((↑i:Int)>0))=false),(NL (s.size+(ByteArray.mk #[123]).size) 9223372036854775807),(AN n),(AP n (fun i_1=>[.seq true 1 ((C i_1).1) (fun i_2=>[.int .i64 ((C i_1).2 i_2)])])),(s++ByteArray.mk #[123]=s++sL),(AI ((↑i:Int))),((0:Int)=(↑0:Int))]):=by kernel_rfl
theorem jGc (n:Nat) (C:Nat→T_IntS) (i k:Nat) (s t:ByteArray) :
    zM 0 [rg 7,.dec true,rg 2,.dec true,rg 3,rm [(8,oc [] (.p (.str t)))] 2,rg 3,.head] zf6 (SFn n C i k s) [] 1 (SFn n C i (k+1) ((s++sC)++t)) =
    some (zf6,[(IL 0 (↑i:Int)),(IT (↑i:Int) (↑n:Int)),((decide ((↑k:Int)<(↑(C (↑i:Int).toNat).1:Int)))=true),((decide ((↑k:Int)>0))=true),(NL (s.size+(ByteArray.mk #[44]).size) 9223372036854775807),(IL 0 (↑i:Int)),(IT (↑i:Int) (↑n:Int)),(IL 0 (↑k:Int)),(IT (↑k:Int) (↑(C i).1:Int)),zE 118 [.p (.int .i64 ((C i).2 k))] [] (.p (.str t)),(NL ((s++ByteArray.mk #[44]).size+t.size) 9223372036854775807),(ZLo ((↑k:Int)+1)),(ZHi ((↑k:Int)+1)),(AN n),(AP n (fun i_1=>[.seq true 1 ((C i_1).1) (fun i_2=>[.int .i64 ((C i_1).2 i_2)])])),(s++ByteArray.mk #[44]++t=s++sC++t),(AI ((↑i:Int))),((((↑k:Int)+1):Int)=(↑(k+1):Int))]):=by kernel_rfl
theorem jGd (n:Nat) (C:Nat→T_IntS) (i k:Nat) (s t:ByteArray) :
    zM 0 [rg 7,.dec true,rg 2,.dec false,rm [(8,oc [] (.p (.str t)))] 2,rg 3,.head] zf6 (SFn n C i k s) [] 1 (SFn n C i (k+1) (s++t)) =
    some (zf6,[(IL 0 (↑i:Int)),(IT (↑i:Int) (↑n:Int)),((decide ((↑k:Int)<(↑(C (↑i:Int).toNat).1:Int)))=true),((decide ((↑k:Int)>0))=false),(IL 0 (↑i:Int)),(IT (↑i:Int) (↑n:Int)),(IL 0 (↑k:Int)),(IT (↑k:Int) (↑(C i).1:Int)),zE 118 [.p (.int .i64 ((C i).2 k))] [] (.p (.str t)),(NL (s.size+t.size) 9223372036854775807),(ZLo ((↑k:Int)+1)),(ZHi ((↑k:Int)+1)),(AN n),(AP n (fun i_1=>[.seq true 1 ((C i_1).1) (fun i_2=>[.int .i64 ((C i_1).2 i_2)])])),(s++t=s++t),(AI ((↑i:Int))),((((↑k:Int)+1):Int)=(↑(k+1):Int))]):=by kernel_rfl
theorem jGe (n:Nat) (C:Nat→T_IntS) (i k:Nat) (s:ByteArray) :
    zM 0 [rg 7,.dec false,rg 3,rg 3,.head] zf6 (SFn n C i k s) [] 1 (SFo n C (i+1) (s++sR)) =
    some (zf74,[(IL 0 (↑i:Int)),(IT (↑i:Int) (↑n:Int)),((decide ((↑k:Int)<(↑(C (↑i:Int).toNat).1:Int)))=false),(NL (s.size+(ByteArray.mk #[125]).size) 9223372036854775807),(ZLo ((↑i:Int)+1)),(ZHi ((↑i:Int)+1)),(AN n),(AP n (fun i_1=>[.seq true 1 ((C i_1).1) (fun i_2=>[.int .i64 ((C i_1).2 i_2)])])),(s++ByteArray.mk #[125]=s++sR),((((↑i:Int)+1):Int)=(↑(i+1):Int))]):=by kernel_rfl
theorem jGn (n:Nat) (C:Nat→T_IntS) (i:Nat) (s:ByteArray) :
    zP Tryz.f101 0 [rg 4,.dec false,rg 2,.dec true,rg 1] zf74 (SFo n C i s) [] 1 [] (.p (.str sNone)) =
    some [((decide ((↑i:Int)<(↑n:Int)))=false),((s.toList==(ByteArray.mk #[]).toList)=true),(ByteArray.mk #[110,111,110,101]=sNone)]:=by kernel_rfl
theorem jGy (n:Nat) (C:Nat→T_IntS) (i:Nat) (s:ByteArray) :
    zP Tryz.f101 0 [rg 4,.dec false,rg 2,.dec false,rg 2] zf74 (SFo n C i s) [] 1 [] (.p (.str s)) =
    some [((decide ((↑i:Int)<(↑n:Int)))=false),((s.toList==(ByteArray.mk #[]).toList)=false),(s=s)]:=by kernel_rfl
theorem jKl (n:Nat) (f:Nat→ByteArray) (s:ByteArray) :
    zS Tryz.f108 [rg 1,rm [(1,oc [] (.p (.str s)))] 1] [strL n f] [] [] (.p (.str s)) =
    some [zE 218 [.p (.seq true 1 n (fun i=>[.str (f i)])),.p (.str (ByteArray.mk #[32]))] [] (.p (.str s)),(s=s)]:=by kernel_rfl
theorem jSn (s:ByteArray) (n:Nat) (f:Nat→ByteArray) :
    zS Tryz.f114 [rg 1,rg 2,.dec true,rg 2] [.p (.str s),.p (.bool false),strL n f] [] [] (.p (.str s)) =
    some [((!false)=true),(s=s)]:=by kernel_rfl
theorem jSy (s t:ByteArray) (n:Nat) (f:Nat→ByteArray) :
    zS Tryz.f114 [rg 1,rg 2,.dec false,rm [(4,oc [] (.p (.str t)))] 1] [.p (.str s),.p (.bool true),strL n f] [] [] (.p (.str t)) =
    some [((!true)=false),(NL 1 1),(NL ((1+n)*16) 140737488355328),(NL (1+n) 9223372036854775807),(AN 1),(NL (1+n) (1+n)),zE 108 [.p (.seq true 1 (1+n) (fun i=>[(cellP true (if (i<1) then [.p (.str s)] else [.p (.str (f (i - 1)))]) 0)]))] [] (.p (.str t)),(t=t)]:=by kernel_rfl
def joinB (by_:ByteArray) (f:Nat→ByteArray):Nat→ByteArray
  | 0=>sE
  | n+1=>(if 0<n then joinB by_ f n++by_ else joinB by_ f n)++f n
theorem joinB_0 (by_:ByteArray) (f:Nat→ByteArray):joinB by_ f 0=sE:=rfl
theorem joinB_pos (by_:ByteArray) (f:Nat→ByteArray) {n:Nat} (h:0<n):joinB by_ f (n+1)=(joinB by_ f n++by_)++f n:=by simp [joinB,h]
theorem joinB_one (by_:ByteArray) (f:Nat→ByteArray):joinB by_ f (0+1)=sE++f 0:=rfl
theorem joinB_size (by_:ByteArray) (f:Nat→ByteArray) (B:Nat):∀ n,(∀ i,i<n→(f i).size≤B)→(joinB by_ f n).size≤n*(B+by_.size)
  | 0,_=>(Nat.zero_le _:0≤_)
  | n+1,h=>by
    have ih:=joinB_size by_ f B n (fun i hi=>h i (by omega))
    have:=h n (by omega)
    simp only [joinB]
    rw [Nat.add_mul,ByteArray.size_append]
    split
    · rw [ByteArray.size_append];omega
    · omega
theorem sE_app (s:ByteArray):sE++s=s:=ByteArray.empty_append
theorem app_sE (s:ByteArray):s++sE=s:=ByteArray.append_empty
theorem str_nil (s:ByteArray):(s.toList==(ByteArray.mk #[]).toList)=decide (s.size=0):=by
  rw [ByteArray.toList_eq,ByteArray.toList_eq]
  rw [Bool.eq_iff_iff]
  simp only [beq_iff_eq,decide_eq_true_eq]
  constructor
  · intro h
    show s.data.size=0
    rw [← Array.length_toList,h];rfl
  · intro h
    have:s.data.toList.length=0:=by rw [Array.length_toList];exact h
    rw [List.length_eq_zero_iff.1 this]
theorem fmt_pos (n:Int):0<(fmtI n).size:=by
  unfold fmtI
  split
  · simp [bs_size]
  · rename_i h
    rw [bs_size,fmtL,List.length_reverse,List.length_append]
    have:0<(dg 20 n.natAbs).length:=by
      rw [dg,if_neg (by omega)];simp
    omega
theorem con_glued (n:Nat) (f:Nat→ByteArray) (by_:ByteArray) (B:Nat) (hn:n≤1048577) (hB:B≤1099511627776) (hby:by_.size≤1000) (hf:∀ i,i<n→(f i).size≤B) :
    zE 218 [strL n f,.p (.str by_)] [] (.p (.str (joinB by_ f n))):=by
  have hsz:∀ k,k≤n→(joinB by_ f k).size≤1048577*1099511628776:=by
    intro k hk
    have h1:=joinB_size by_ f B k (fun i hi=>hf i (by omega))
    have h2:k*(B+by_.size)≤1048577*1099511628776:=Nat.mul_le_mul (by omega) (by omega)
    omega
  refine csZ Tryz.func218 (fun c hc=>?_)
  have lo:∀ d k,k+d=n→zR c 218 zf71 (SJ n f by_ k (joinB by_ f k)) (Post c [] (.p (.str (joinB by_ f n)))):=by
    intro d
    induction d with
    | zero =>
      intro k hk
      obtain rfl:k=n:=by omega
      have hd:decide ((k:Int)<(k:Int))=false:=by simp
      refine pkZ Tryz.func218 hc (jJe k f by_ k _) ?_
      and_intros
      all_goals (first | exact zN | (exact hd))
    | succ d ih =>
      intro k hk
      have hd:decide ((k:Int)<(n:Int))=true:=decide_eq_true (by omega)
      have hrec:=ih (k+1) (by omega)
      have h1:=hsz k (by omega)
      have h2:=hf k (by omega)
      by_cases h0:0<k
      · have hg:decide ((k:Int)>0)=true:=decide_eq_true (by omega)
        rw [joinB_pos by_ f h0] at hrec
        generalize joinB by_ f k=s at hrec h1 ⊢
        refine pcZ hc (jJt n f by_ k s) ?_ hrec
        and_intros
        all_goals (first | exact zN | (exact hd) | (exact hg) | (rw [ByteArray.size_append];omega) | (simp;omega))
      · obtain rfl:k=0:=by omega
        have hg:decide (((0:Nat):Int)>0)=false:=by simp
        rw [joinB_one] at hrec
        rw [joinB_0] at h1 ⊢
        refine pcZ hc (jJf n f by_ 0 sE) ?_ hrec
        and_intros
        all_goals (first | exact zN | (exact hd) | (exact hg) | (simp;omega))
  refine pcD hc (jJz n f by_) ?_ (lo n 0 (by omega))
  and_intros
  all_goals (first | exact zN | (simp;omega))
def In64 (v:T_IntS):Prop:=∀ i,i<v.1→-9223372036854775808≤v.2 i∧v.2 i≤9223372036854775807
def nmB (v:T_IntS):ByteArray:=joinB sC (fun i=>fmtI (v.2 i)) v.1
def nlB (v:T_IntS):ByteArray:=if v.1=0 then sNone else nmB v
theorem sC_size:sC.size=1:=rfl
theorem nmB_size (v:T_IntS):(nmB v).size≤v.1*22:=joinB_size sC _ 21 v.1 (fun i hi=>fmt_size _)
theorem nmB_pos (v:T_IntS) (h:v.1≠0):0<(nmB v).size:=by
  obtain ⟨n,f⟩:=v
  cases n with
  | zero=>exact absurd rfl h
  | succ n =>
    show 0<(joinB sC (fun i=>fmtI (f i)) (n+1)).size
    simp only [joinB]
    rw [ByteArray.size_append]
    have:=fmt_pos (f n)
    omega
theorem con_numbers (v:T_IntS) (hn:v.1≤1048576) (hv:In64 v):zE 219 [inL v] [] (.p (.str (nmB v))):=by
  have cg:=con_glued v.1 (fun i=>fmtI (v.2 i)) sC 21 (by omega) (by omega) (by rw [sC_size];omega) (fun i hi=>fmt_size _)
  refine csZ Tryz.func219 (fun c hc=>?_)
  have lo:∀ d k,k+d=v.1→zR c 219 zf72 (SNm v k (fun i=>fmtI (v.2 i))) (Post c [] (.p (.str (nmB v)))):=by
    intro d
    induction d with
    | zero =>
      intro k hk
      obtain rfl:k=v.1:=by omega
      have hd:decide ((v.1:Int)<(v.1:Int))=false:=by simp
      refine pkZ Tryz.func219 hc (jNe v v.1 (fun i=>fmtI (v.2 i)) (nmB v)) ?_
      and_intros
      all_goals (first | exact zN | (exact hd) | (exact cg) | (intro t ht;simp [All]))
    | succ d ih =>
      intro k hk
      have hd:decide ((k:Int)<(v.1:Int))=true:=decide_eq_true (by omega)
      have hvk:=hv k (by omega)
      have cf:=con_FormatInt_i (v.2 k) hvk.1 hvk.2
      refine pcZ hc (jNt v k (fun i=>fmtI (v.2 i)) (fmtI (v.2 k))) ?_ (ih (k+1) (by omega))
      and_intros
      all_goals (first | exact zN | (exact hd) | (exact cf) | (intro t ht;rcases Nat.lt_or_eq_of_le (Nat.le_of_lt_succ ht) with h' | h'<;>(simp [h',cvtL,cvt,tg,tru,All];done)) | (simp;omega))
  refine pcD hc (jNz v (fun i=>fmtI (v.2 i))) ?_ (lo v.1 0 (by omega))
  and_intros
  iterate 2 all_goals (first | exact zN | (intro t ht;exact absurd ht (Nat.not_lt_zero _)) | (intro t ht;simp [All]) | (simp;omega) | simp only [All])
theorem con_listed (v:T_IntS) (hn:v.1≤1048576) (hv:In64 v):zE 111 [inL v] [] (.p (.str (nlB v))):=by
  have cn:=con_numbers v hn hv
  refine csZ Tryz.func111 (fun c hc=>?_)
  by_cases h0:v.1=0
  · have hd:((v.1:Int)==0)=true:=by rw [h0];rfl
    rw [show nlB v=sNone by simp [nlB,h0]]
    refine pkZ Tryz.func111 hc (jLn v) ?_
    and_intros
    all_goals (first | exact zN | (exact hd))
  · have hd:((v.1:Int)==0)=false:=beq_eq_false_iff_ne.2 (by omega)
    rw [show nlB v=nmB v by simp [nlB,h0]]
    refine pkZ Tryz.func111 hc (jLy v (nmB v)) ?_
    and_intros
    all_goals (first | exact zN | (exact hd) | (exact cn))
theorem con_l33Numbers (v:T_IntS) (hn:v.1≤1048576) (hv:In64 v):zE 103 [inL v] [] (.p (.str (nlB v))):=by
  refine csZ Tryz.func103 (fun c hc=>?_)
  let f:Nat→ByteArray:=fun i=>fmtI (v.2 i)
  have hsz:∀ k,(joinB sC f k).size≤k*22:=fun k=>joinB_size sC f 21 k (fun i hi=>fmt_size _)
  have lo:∀ d k,k+d=v.1→zR c 103 zf73 (SNl v k (joinB sC f k)) (Post c [] (.p (.str (nlB v)))):=by
    intro d
    induction d with
    | zero =>
      intro k hk
      obtain rfl:k=v.1:=by omega
      have hd:decide ((v.1:Int)<(v.1:Int))=false:=by simp
      have hs:=str_nil (joinB sC f v.1)
      by_cases h0:v.1=0
      · rw [show nlB v=sNone by simp [nlB,h0]]
        rw [decide_eq_true (by rw [h0];rfl)] at hs
        refine pkZ Tryz.func103 hc (jMn v v.1 _) ?_
        and_intros
        all_goals (first | exact zN | (exact hd) | (exact hs))
      · rw [show nlB v=joinB sC f v.1 by simp only [nlB,h0,if_false];rfl]
        have hp:0<(joinB sC f v.1).size:=nmB_pos v h0
        rw [decide_eq_false (by omega)] at hs
        refine pkZ Tryz.func103 hc (jMe v v.1 _) ?_
        and_intros
        all_goals (first | exact zN | (exact hd) | (exact hs))
    | succ d ih =>
      intro k hk
      have hd:decide ((k:Int)<(v.1:Int))=true:=decide_eq_true (by omega)
      have hrec:=ih (k+1) (by omega)
      have hvk:=hv k (by omega)
      have cf:=con_FormatInt_s (v.2 k) hvk.1 hvk.2
      have h1:=hsz k
      have h2:=fmt_size (v.2 k)
      by_cases h0:0<k
      · have hg:decide ((k:Int)>0)=true:=decide_eq_true (by omega)
        rw [joinB_pos sC f h0] at hrec
        generalize joinB sC f k=s at hrec h1 ⊢
        refine pcZ hc (jMt v k s (fmtI (v.2 k))) ?_ hrec
        and_intros
        all_goals (first | exact zN | (exact hd) | (exact hg) | (exact cf) | (show s.size+1≤_;omega) | (rw [ByteArray.size_append];show s.size+1+_≤_;omega) | (simp;omega))
      · obtain rfl:k=0:=by omega
        have hg:decide (((0:Nat):Int)>0)=false:=by simp
        rw [joinB_one] at hrec
        rw [joinB_0] at h1 ⊢
        refine pcZ hc (jMf v 0 sE (fmtI (v.2 0))) ?_ hrec
        and_intros
        all_goals (first | exact zN | (exact hd) | (exact hg) | (exact cf) | (show 0+_≤_;omega) | (simp;omega))
  refine pcZ hc (jMz v) ?_ (lo v.1 0 (by omega))
  and_intros
  all_goals (first | exact zN | (simp;omega))
def stB (v:T_IntS):ByteArray:=(sL++nmB v)++sR
def fsB (n:Nat) (C:Nat→T_IntS):ByteArray:=if n=0 then sNone else joinB sSp (fun i=>stB (C i)) n
theorem stB_size (v:T_IntS):(stB v).size≤v.1*22+2∧2≤(stB v).size:=by
  have:=nmB_size v
  unfold stB
  rw [ByteArray.size_append,ByteArray.size_append]
  show 1+_+1≤_∧2≤1+_+1
  omega
theorem con_FormatSets_i (n:Nat) (C:Nat→T_IntS) (hn:n≤1048576) (hC:∀ i,i<n→(C i).1≤1048576∧In64 (C i)):zE 109 [setsL n C] [] (.p (.str (fsB n C))):=by
  have cg:=con_glued n (fun i=>stB (C i)) sSp 30000000 (by omega) (by omega) (by show 1≤1000;omega) (fun i hi=>by have:=stB_size (C i);have:=hC i hi;omega)
  refine csZ Tryz.func109 (fun c hc=>?_)
  by_cases h0:n=0
  · have hd:((n:Int)==0)=true:=by rw [h0];rfl
    rw [show fsB n C=sNone by simp [fsB,h0]]
    refine pkZ Tryz.func109 hc (jFn n C) ?_
    and_intros
    all_goals (first | exact zN | (exact hd))
  · have hd0:((n:Int)==0)=false:=beq_eq_false_iff_ne.2 (by omega)
    rw [show fsB n C=joinB sSp (fun i=>stB (C i)) n by simp [fsB,h0]]
    have lo:∀ d k,k+d=n→zR c 109 zf56 (SFm n C k (fun i=>stB (C i))) (Post c [] (.p (.str (joinB sSp (fun i=>stB (C i)) n)))):=by
      intro d
      induction d with
      | zero =>
        intro k hk
        obtain rfl:k=n:=by omega
        have hd:decide ((k:Int)<(k:Int))=false:=by simp
        refine pkZ Tryz.func109 hc (jFe k C k (fun i=>stB (C i)) _) ?_
        and_intros
        all_goals (first | exact zN | (exact hd) | (exact cg) | (intro t ht;simp [All]))
      | succ d ih =>
        intro k hk
        have hd:decide ((k:Int)<(n:Int))=true:=decide_eq_true (by omega)
        have hCk:=hC k (by omega)
        have cn:=con_numbers (C k) hCk.1 hCk.2
        have h1:=nmB_size (C k)
        have e:stB (C k)=ByteArray.mk #[123]++nmB (C k)++ByteArray.mk #[125]:=rfl
        refine pcD hc (jFt n C k (fun i=>stB (C i)) (nmB (C k))) ?_ (ih (k+1) (by omega))
        and_intros
        all_goals (first | exact zN | (exact hd) | (exact cn) | (show 1+_≤_;omega) | (rw [ByteArray.size_append];show 1+_+1≤_;omega) | (intro t ht;rcases Nat.lt_or_eq_of_le (Nat.le_of_lt_succ ht) with h' | h'<;>(simp [h',e,cvtL,cvt,tg,tru,All];done)) | (simp;omega))
    refine pcD hc (jFz n C (fun i=>stB (C i))) ?_ (lo n 0 (by omega))
    and_intros
    iterate 2 all_goals (first | exact zN | (exact hd0) | (intro t ht;exact absurd ht (Nat.not_lt_zero _)) | (intro t ht;simp [All]) | (simp;omega) | simp only [All])
set_option maxRecDepth 4000 in
theorem con_FormatSets_s (n:Nat) (C:Nat→T_IntS) (hn:n≤1048576) (hC:∀ i,i<n→(C i).1≤1048576∧In64 (C i)):zE 101 [setsL n C] [] (.p (.str (fsB n C))):=by
  refine csZ Tryz.func101 (fun c hc=>?_)
  let F:Nat→ByteArray:=fun i=>stB (C i)
  have hsz:∀ k,k≤n→(joinB sSp F k).size≤k*30000001:=fun k hk=>joinB_size sSp F 30000000 k (fun i hi=>by have:=stB_size (C i);have:=hC i (by omega);show (stB (C i)).size≤_;omega)
  have li:∀ i,i<n→∀ s:ByteArray,s.size≤40000000000000→(zR c 101 zf74 (SFo n C (i+1) ((s++nmB (C i))++sR)) (Post c [] (.p (.str (fsB n C))))) →
      ∀ d k,k+d=(C i).1→zR c 101 zf6 (SFn n C i k (s++joinB sC (fun j=>fmtI ((C i).2 j)) k)) (Post c [] (.p (.str (fsB n C)))):=by
    intro i hi s hs hk d
    have hCi:=hC i hi
    have hz:∀ k,(joinB sC (fun j=>fmtI ((C i).2 j)) k).size≤k*22:=fun k=>joinB_size sC _ 21 k (fun j hj=>fmt_size _)
    induction d with
    | zero =>
      intro k hkn
      obtain rfl:k=(C i).1:=by omega
      have hd:decide (((C i).1:Int)<((C i).1:Int))=false:=by simp
      have h1:=hz (C i).1
      refine pcZ hc (jGe n C i (C i).1 _) ?_ hk
      and_intros
      all_goals (first | exact zN | (exact hd) | (rw [ByteArray.size_append];show _+_+1≤_;omega) | (simp;omega))
    | succ d ih =>
      intro k hkn
      have hd:decide ((k:Int)<((C i).1:Int))=true:=decide_eq_true (by omega)
      have hrec:=ih (k+1) (by omega)
      have hvk:=hCi.2 k (by omega)
      have cf:=con_FormatInt_s ((C i).2 k) hvk.1 hvk.2
      have h1:=hz k
      have h2:=fmt_size ((C i).2 k)
      by_cases h0:0<k
      · have hg:decide ((k:Int)>0)=true:=decide_eq_true (by omega)
        rw [joinB_pos sC _ h0,← ByteArray.append_assoc,← ByteArray.append_assoc] at hrec
        generalize joinB sC (fun j=>fmtI ((C i).2 j)) k=q at hrec h1 ⊢
        refine pcZ hc (jGc n C i k (s++q) (fmtI ((C i).2 k))) ?_ hrec
        and_intros
        all_goals (first | exact zN | (exact hd) | (exact hg) | (exact cf) | (rw [ByteArray.size_append];show _+1≤_;omega) | (rw [ByteArray.size_append,ByteArray.size_append];show _+1+_≤_;omega) | (simp;omega))
      · obtain rfl:k=0:=by omega
        have hg:decide (((0:Nat):Int)>0)=false:=by simp
        rw [joinB_one,sE_app] at hrec
        rw [joinB_0,app_sE]
        refine pcZ hc (jGd n C i 0 s (fmtI ((C i).2 0))) ?_ hrec
        and_intros
        all_goals (first | exact zN | (exact hd) | (exact hg) | (exact cf) | (simp;omega))
  have lo:∀ d i,i+d=n→zR c 101 zf74 (SFo n C i (joinB sSp F i)) (Post c [] (.p (.str (fsB n C)))):=by
    intro d
    induction d with
    | zero =>
      intro i hi
      obtain rfl:i=n:=by omega
      have hd:decide ((i:Int)<(i:Int))=false:=by simp
      have hs:=str_nil (joinB sSp F i)
      by_cases h0:i=0
      · rw [show fsB i C=sNone by simp [fsB,h0]]
        rw [decide_eq_true (by rw [h0];rfl)] at hs
        refine pkZ Tryz.func101 hc (jGn i C i _) ?_
        and_intros
        all_goals (first | exact zN | (exact hd) | (exact hs))
      · rw [show fsB i C=joinB sSp F i by simp only [fsB,h0,if_false];rfl]
        have hp:0<(joinB sSp F i).size:=by
          obtain ⟨m,rfl⟩:∃ m,i=m+1:=⟨i - 1,by omega⟩
          simp only [joinB]
          rw [ByteArray.size_append]
          have h3:=stB_size (C m)
          show 0<_+(stB (C m)).size
          omega
        rw [decide_eq_false (by omega)] at hs
        refine pkZ Tryz.func101 hc (jGy i C i _) ?_
        and_intros
        all_goals (first | exact zN | (exact hd) | (exact hs))
    | succ d ih =>
      intro i hi
      have hd:decide ((i:Int)<(n:Int))=true:=decide_eq_true (by omega)
      have hrec:=ih (i+1) (by omega)
      have h1:=hsz i (by omega)
      by_cases h0:0<i
      · have hg:decide ((i:Int)>0)=true:=decide_eq_true (by omega)
        rw [joinB_pos sSp F h0] at hrec
        have e:(joinB sSp F i++sSp)++F i=(((joinB sSp F i++sSp)++sL)++nmB (C i))++sR:=by
          show (joinB sSp F i++sSp)++((sL++nmB (C i))++sR)=_
          simp only [ByteArray.append_assoc]
        rw [e] at hrec
        have hnx:=li i (by omega) ((joinB sSp F i++sSp)++sL) (by rw [ByteArray.size_append,ByteArray.size_append];show _+1+1≤_;omega) hrec (C i).1 0 (by omega)
        rw [joinB_0,app_sE] at hnx
        generalize joinB sSp F i=q at hnx h1 ⊢
        refine pcZ hc (jGa n C i q) ?_ hnx
        and_intros
        all_goals (first | exact zN | (exact hd) | (exact hg) | (show _+1≤_;omega) | (rw [ByteArray.size_append];show _+1+1≤_;omega) | (simp;omega))
      · obtain rfl:i=0:=by omega
        have hg:decide (((0:Nat):Int)>0)=false:=by simp
        rw [joinB_one] at hrec
        have e:sE++F 0=((sE++sL)++nmB (C 0))++sR:=by
          show sE++((sL++nmB (C 0))++sR)=_
          simp only [ByteArray.append_assoc]
        rw [e] at hrec
        have hnx:=li 0 (by omega) (sE++sL) (by show 1≤_;omega) hrec (C 0).1 0 (by omega)
        rw [joinB_0,app_sE] at hnx
        rw [joinB_0]
        refine pcZ hc (jGb n C 0 sE) ?_ hnx
        and_intros
        all_goals (first | exact zN | (exact hd) | (exact hg) | (show 0+1≤_;omega) | (simp;omega))
  refine pcZ hc (jGz n C) ?_ (lo n 0 (by omega))
  and_intros
  all_goals (first | exact zN | (simp;omega))
def prB (s:ByteArray) (f:Nat→ByteArray) (i:Nat):ByteArray:=if i<1 then s else f (i - 1)
theorem con_line (n:Nat) (f:Nat→ByteArray) (B:Nat) (hn:n≤1048577) (hB:B≤1099511627776) (hf:∀ i,i<n→(f i).size≤B):zE 108 [strL n f] [] (.p (.str (joinB sSp f n))):=by
  have cg:=con_glued n f sSp B hn hB (by show 1≤1000;omega) hf
  refine csZ Tryz.func108 (fun c hc=>?_)
  refine pkZ Tryz.func108 hc (jKl n f _) ?_
  and_intros
  all_goals (first | exact zN | (exact cg))
def soB (s:ByteArray) (is:Bool) (n:Nat) (f:Nat→ByteArray):ByteArray:=if is=true then joinB sSp (prB s f) (1+n) else s
theorem con_ifSo (s:ByteArray) (is:Bool) (n:Nat) (f:Nat→ByteArray) (B:Nat) (hn:n≤1048576) (hB:B≤1099511627776) (hs:s.size≤B) (hf:∀ i,i<n→(f i).size≤B) :
    zE 114 [.p (.str s),.p (.bool is),strL n f] [] (.p (.str (soB s is n f))):=by
  refine csZ Tryz.func114 (fun c hc=>?_)
  cases is with
  | false =>
    rw [show soB s false n f=s by simp [soB]]
    refine pkZ Tryz.func114 hc (jSn s n f) ?_
    and_intros
    all_goals (first | exact zN | rfl)
  | true =>
    rw [show soB s true n f=joinB sSp (prB s f) (1+n) by simp [soB]]
    have cl:=con_line (1+n) (prB s f) B (by omega) hB (fun i hi=>by
      unfold prB
      split
      · exact hs
      · exact hf _ (by omega))
    have e:(.p (.seq true 1 (1+n) (fun i=>[cellP true (if i<1 then [.p (.str s)] else [.p (.str (f (i - 1)))]) 0])):AV)=strL (1+n) (prB s f):=by
      unfold strL prB
      congr 2
      funext i
      by_cases h:i<1<;>simp [h,cellP,tg,tru]
    rw [← e] at cl
    refine pkZ Tryz.func114 hc (jSy s _ n f) ?_
    and_intros
    all_goals (first | exact zN | rfl | (exact cl) | (simp;omega))
def lsF (n:Nat) (ss:List ByteArray) (i:Nat):ByteArray:=ss.getD (rowIx n i) sE
def stA (s:ByteArray):AV:=.p (.str s)
theorem cell_ls:∀ (ss:List ByteArray) (n i:Nat),rowIx n i<ss.length→cellP true [(List.getD (ss.map stA) (rowIx n i*1) (.p .any))] 0=.str (lsF n ss i):=by
  intro ss n i h
  unfold lsF
  rw [Nat.mul_one]
  generalize rowIx n i=k at h ⊢
  rw [List.getD_eq_getElem?_getD,List.getD_eq_getElem?_getD,List.getElem?_map]
  rw [List.getElem?_eq_getElem h]
  rfl
def lsP (n:Nat) (ss:List ByteArray):AV:=.p (.seq true 1 n (fun i=>[cellP true [(List.getD (ss.map stA) (rowIx n i*1) (.p .any))] 0]))
theorem ls_mem (n:Nat) (ss:List ByteArray) (h:ss.length=n) (B:Nat) (hs:∀ s∈ss,s.size≤B):∀ i,i<n→(lsF n ss i).size≤B:=by
  intro i hi
  unfold lsF
  rw [rowIx_lt hi]
  have:ss.getD i sE=ss[i]:=by rw [List.getD_eq_getElem?_getD,List.getElem?_eq_getElem (by omega)];rfl
  rw [this]
  exact hs _ (List.getElem_mem _)
theorem con_line_ls (n:Nat) (ss:List ByteArray) (h:ss.length=n) (h3:n≤1000) (B:Nat) (hB:B≤1099511627776) (hs:∀ s∈ss,s.size≤B) :
    zE 108 [lsP n ss] [] (.p (.str (joinB sSp (lsF n ss) n))):=by
  have hc:=con_line n (lsF n ss) B (by omega) hB (ls_mem n ss h B hs)
  refine hc.arg_ext ?_
  simp only [lsP,strL,wkL,wk,wkP,beq_self_eq_true,Bool.and_self,if_true,ikEq,List.append_nil,List.cons_append,List.nil_append,All]
  have hcell:∀ i,i<n→cellP true [(List.getD (ss.map stA) (rowIx n i*1) (.p .any))] 0=.str (lsF n ss i):=fun i hi=>cell_ls ss n i (by rw [rowIx_lt hi];omega)
  and_intros<;>first | trivial | omega | (intro i hi;rw [hcell i hi])
theorem con_ifSo_ls (s:ByteArray) (is:Bool) (n:Nat) (ss:List ByteArray) (h:ss.length=n) (h3:n≤1000) (B:Nat) (hB:B≤1099511627776) (hz:s.size≤B) (hs:∀ s∈ss,s.size≤B) :
    zE 114 [.p (.str s),.p (.bool is),lsP n ss] [] (.p (.str (soB s is n (lsF n ss)))):=by
  have hc:=con_ifSo s is n (lsF n ss) B (by omega) hB hz (ls_mem n ss h B hs)
  refine hc.arg_ext ?_
  simp only [lsP,strL,wkL,wk,wkP,beq_self_eq_true,Bool.and_self,if_true,ikEq,List.append_nil,List.cons_append,List.nil_append,All]
  have hcell:∀ i,i<n→cellP true [(List.getD (ss.map stA) (rowIx n i*1) (.p .any))] 0=.str (lsF n ss i):=fun i hi=>cell_ls ss n i (by rw [rowIx_lt hi];omega)
  and_intros<;>first | trivial | omega | (intro i hi;rw [hcell i hi])
theorem soB_f (s:ByteArray) (n:Nat) (f:Nat→ByteArray):soB s false n f=s:=rfl
theorem soB_2 (s:ByteArray) (f:Nat→ByteArray):soB s true 2 f=(((s++sSp)++f 0)++sSp)++f 1:=by
  show (if 0<2 then ((if 0<1 then (sE++s)++sSp else _)++f 0)++sSp else _)++f 1=_
  rw [if_pos (by omega),if_pos (by omega),sE_app]
theorem join_3 (by_:ByteArray) (f:Nat→ByteArray):joinB by_ f 3=(((f 0++by_)++f 1)++by_)++f 2:=by
  show (if 0<2 then ((if 0<1 then (sE++f 0)++by_ else _)++f 1)++by_ else _)++f 2=_
  rw [if_pos (by omega),if_pos (by omega),sE_app]
theorem fs1_size (R:T_IntS) (h:R.1≤8):(fsB 1 (fun _=>R)).size≤1000:=by
  have:=joinB_size sSp (fun _=>stB R) 178 1 (fun i hi=>by have:=stB_size R;show (stB R).size≤178;omega)
  rw [show sSp.size=1 from rfl] at this
  show (joinB sSp (fun _=>stB R) 1).size≤1000
  omega
theorem join_s (by_:ByteArray) (f:Nat→ByteArray) (n:Nat):joinB by_ f (n+2)=(joinB by_ f (n+1)++by_)++f (n+1):=by
  show (if 0<n+1 then joinB by_ f (n+1)++by_ else _)++f (n+1)=_
  rw [if_pos (by omega)]
theorem con_ifSo_2 (s:ByteArray) (b:Bool) (w x:ByteArray) (hs:s.size≤1000000) (hw:w.size≤1000) (hx:x.size≤1000000) :
    zE 114 [.p (.str s),.p (.bool b),lsP 2 [w,x]] [] (.p (.str (if b=true then s++(((sSp++w)++sSp)++x) else s))):=by
  have h:=con_ifSo_ls s b 2 [w,x] rfl (by omega) 1000000 (by omega) hs (by
    intro y hy;simp only [List.mem_cons,List.not_mem_nil,or_false] at hy
    rcases hy with rfl | rfl<;>omega)
  cases b with
  | false=>rw [soB_f] at h;exact h
  | true =>
    rw [soB_2] at h
    rw [if_pos rfl]
    have e:(((s++sSp)++lsF 2 [w,x] 0)++sSp)++lsF 2 [w,x] 1=s++(((sSp++w)++sSp)++x):=by
      show (((s++sSp)++w)++sSp)++x=_
      simp only [ByteArray.append_assoc]
    rw [← e];exact h
theorem nlB_le (u:T_IntS):(nlB u).size≤u.1*22+4:=by
  unfold nlB
  split
  · show 4≤_;omega
  · have:=nmB_size u;omega
def nbO (x:T_Bar):Ob:=⟨true,2,1,fun _=>[.p (.int .i64 x.1),.p (.int .i64 x.2.1)]⟩
def nmS (g:Nat→T_Bar) (nb N:Nat) (u:T_IntS) (M:NB) (x:T_Bar) (fd:Bool) (q i:Nat):St :=
  ⟨[grG g nb N,inL u,.pt 2 0 0 0,.p .any,.pt 2 1 0 0,.p .any,.pt 2 2 0 0,.p (.bool fd),.p (.int .i64 q)]++List.replicate 20 anyA++[.ar 2 3 0 M.1,.p (.int .i64 M.1),.p (.int .i64 i)]++List.replicate 18 anyA,[(0,bxG g nb N),(1,nbO (0,0,())),(2,nbO x),(3,brOb M.1 M.2)],4⟩
def nnS (g:Nat→T_Bar) (nb N:Nat) (u:T_IntS) (M:NB) (x:T_Bar) (fd:Bool) (q i:Nat):St :=
  ⟨[grG g nb N,inL u,.pt 2 0 0 0,.p .any,.pt 2 1 0 0,.p .any,.ar 2 2 0 M.1,.pt 2 3 0 0,.p (.int .i64 q),.p (.bool fd),.p (.int .i64 i)]++List.replicate 44 anyA,[(0,bxG g nb N),(1,nbO (0,0,())),(2,brOb M.1 M.2),(3,nbO x)],4⟩
def kSn:ByteArray:=⟨#[]⟩
def kLoc:ByteArray:=⟨#[108,111,99,97,116,101,100]⟩
def kLocS:ByteArray:=⟨#[108,111,99,97,116,101,100,32]⟩
def kOrd:ByteArray:=⟨#[111,114,100,101,114]⟩
def kOrdS:ByteArray:=⟨#[32,111,114,100,101,114,32]⟩
def kMea:ByteArray:=⟨#[109,101,97,115,117,114,101]⟩
def kMeaS:ByteArray:=⟨#[32,109,101,97,115,117,114,101]⟩
theorem nmx (g:Nat→T_Bar) (nb N:Nat) (u:T_IntS) :
    zS Tryz.f113 [rg 3,rm [(2,oc [] (.p (.bool true)))] 7,.dec true,rg 3] [grG g nb N,inL u] [] [] (.tup [.agg [.p (.int .i64 0),.p (.int .i64 0)],.p (.bool false)]) =
    some (zD [(NT 0 1),zE 107 [(zf94 N nb g),.p (.seq true 1 u.1 (iRw u))] [] (.p (.bool true)),(AG (!!true)),(((!!true)=true)→(NT 0 1)),(((!true)=false)→ ((!!true)=true)),((bif !true then true else (↑nb:Int)==24)=true),((true=true)→ (AN 1)),(AI 0),(false=false)] [0,1,2,3,2,2,4,5,0,6,0,7,7,8]):=by kernel_rfl
theorem nmz (g:Nat→T_Bar) (nb N:Nat) (u L:T_IntS) (M:NB) :
    zT Tryz.f113 [rg 3,rm [(2,oc [] (.p (.bool true)))] 7,.dec false,rg 4,rm [(2,oc [(0,iOb L.1 L.2)] (.ar 1 0 0 L.1))] 2,rm [(1,oc [(0,brOb M.1 M.2)] (.ar 2 0 0 M.1))] 2,.head] [grG g nb N,inL u] [0,32,448,736] (nmS g nb N u M (0,0,()) false L.1 0) =
    some (zf33,zD [(NT 0 1),zE 107 [(zf94 N nb g),.p (.seq true 1 u.1 (iRw u))] [] (.p (.bool true)),(AG (!!true)),(((!!true)=true)→(NT 0 1)),(((!true)=false)→ ((!!true)=true)),((bif !true then true else (↑nb:Int)==24)=false),((true=true)→ (AN 1)),zE 110 [(zf94 N nb g),.p (.seq true 1 u.1 (iRw u))] [(0,⟨false,1,L.1,(fun i=>[.p (.int .i64 (L.2 i))])⟩)] (.ar 1 0 0 L.1),zE 224 [(zf94 N nb g)] [(0,⟨false,2,M.1,(fun i=>[.p (.int .i64 ((M.2 i).1)),.p (.int .i64 ((M.2 i).2.1))])⟩)] (.ar 2 0 0 M.1),(AI ((↑N:Int))),(AN nb),(AP nb (bRw g)),(AN u.1),(AP u.1 (iRw u)),(AN 0),(false=false),(AI ((↑L.1:Int))),(AN M.1),(AI ((↑M.1:Int))),((0:Int)=(↑0:Int)),((([AV.p (PV.int IntKind.i64 (↑N:Int)),brL g nb].length):Nat)=2),(NL 1 1),((((List.map (fun v=>AV.p (absV v)) [Value.int IntKind.i64 0,Value.int IntKind.i64 0]).length):Nat)=2),(AI 0),(AN 2),(NL M.1 M.1),(AA M.1 (fun i=>[.p (.int .i64 ((M.2 i).1)),.p (.int .i64 ((M.2 i).2.1))]))] [0,1,2,3,2,2,4,5,0,6,0,7,0,8,9,10,11,12,13,14,14,14,15,16,14,17,18,19,20,21,21,9,10,11,22,21,21,23,23,22,21,21,23,23,24,25,26]):=by kernel_rfl
theorem nmt (g:Nat→T_Bar) (nb N:Nat) (u:T_IntS) (M:NB) (x:T_Bar) (fd:Bool) (q i:Nat) (L:T_IntS) (r:Nat→T_Bar) :
    zM 0 [rg 1,.dec true,rg 4,rm [(3,oc [(0,brOb (nb+1) r)] (.agg [.p (.int .i64 N),.ar 2 0 0 (nb+1)])),(1,oc [(0,iOb L.1 L.2)] (.ar 1 0 0 L.1))] 2,rg 3,.dec true,rg 5,rg 2,.head] zf33 (nmS g nb N u M x fd q i) [0,1,2,3] 1 (nmS g nb N u M (M.2 i) true L.1 (i+1)) =
    some (zf33,zD [((decide ((↑i:Int)<(↑M.1:Int)))=true),(IL 0 (↑i:Int)),(IT (↑i:Int) (↑M.1:Int)),(NT i M.1),(NT 0 1),((true=true)→ (AN 1)),(AN 2),(NL 1 1),zE 225 [(zf92 N nb g),.p (.seq true 2 1 (fun i_1=>[.int .i64 ((M.2 i).1),.int .i64 ((M.2 i).2.1)]))] (zf98 nb r) (.agg [.p (.int .i64 (↑N:Int)),.ar 2 0 0 (nb+1)]),(NL (nb+1) (nb+1)),zE 110 [(zf90 N nb r),.p (.seq true 1 u.1 (iRw u))] (zf108 L) (.ar 1 0 0 L.1),((decide ((↑L.1:Int)>(↑q:Int)))=true),(ZLo ((↑i:Int)+1)),(ZHi ((↑i:Int)+1)),(AI ((↑N:Int))),(AN nb),(AP nb (bRw g)),(AN u.1),(AP u.1 (iRw u)),(AN 0),(true=true),(AI ((↑L.1:Int))),(AN M.1),(AI ((↑M.1:Int))),((((↑i:Int)+1):Int)=(↑(i+1):Int)),(AI 0),(AI (((M.2 i).1))),(AI (((M.2 i).2.1))),(NL M.1 M.1),(AA M.1 (fun i_1=>[.p (.int .i64 ((M.2 i_1).1)),.p (.int .i64 ((M.2 i_1).2.1))]))] [0,1,2,3,4,5,4,4,6,7,8,6,9,10,11,4,4,5,12,13,14,15,16,17,18,19,19,19,20,21,19,22,23,24,6,7,7,14,15,16,6,7,7,25,25,6,7,7,26,27,6,28,29]):=by kernel_rfl
theorem nmf (g:Nat→T_Bar) (nb N:Nat) (u:T_IntS) (M:NB) (x:T_Bar) (fd:Bool) (q i:Nat) (L:T_IntS) (r:Nat→T_Bar) :
    zM 0 [rg 1,.dec true,rg 4,rm [(3,oc [(0,brOb (nb+1) r)] (.agg [.p (.int .i64 N),.ar 2 0 0 (nb+1)])),(1,oc [(0,iOb L.1 L.2)] (.ar 1 0 0 L.1))] 2,rg 3,.dec false,rg 2,.head] zf33 (nmS g nb N u M x fd q i) [0,1,2,3] 1 (nmS g nb N u M x fd q (i+1)) =
    some (zf33,zD [((decide ((↑i:Int)<(↑M.1:Int)))=true),(IL 0 (↑i:Int)),(IT (↑i:Int) (↑M.1:Int)),(NT i M.1),(NT 0 1),((true=true)→ (AN 1)),(AN 2),(NL 1 1),zE 225 [(zf92 N nb g),.p (.seq true 2 1 (fun i_1=>[.int .i64 ((M.2 i).1),.int .i64 ((M.2 i).2.1)]))] (zf98 nb r) (.agg [.p (.int .i64 (↑N:Int)),.ar 2 0 0 (nb+1)]),(NL (nb+1) (nb+1)),zE 110 [(zf90 N nb r),.p (.seq true 1 u.1 (iRw u))] (zf108 L) (.ar 1 0 0 L.1),((decide ((↑L.1:Int)>(↑q:Int)))=false),(ZLo ((↑i:Int)+1)),(ZHi ((↑i:Int)+1)),(AI ((↑N:Int))),(AN nb),(AP nb (bRw g)),(AN u.1),(AP u.1 (iRw u)),(AN 0),(fd=fd),(AI ((↑q:Int))),(AN M.1),(AI ((↑M.1:Int))),((((↑i:Int)+1):Int)=(↑(i+1):Int)),(AI 0),(AI x.1),(AI x.2.1),(NL M.1 M.1),(AA M.1 (fun i_1=>[.p (.int .i64 ((M.2 i_1).1)),.p (.int .i64 ((M.2 i_1).2.1))]))] [0,1,2,3,4,5,4,4,6,7,8,6,9,10,11,12,13,14,15,16,17,18,19,19,19,20,21,19,22,23,24,6,7,7,14,15,16,6,7,7,25,25,6,7,7,26,27,6,28,29]):=by kernel_rfl
theorem nme (g:Nat→T_Bar) (nb N:Nat) (u:T_IntS) (M:NB) (x:T_Bar) (fd:Bool) (q i:Nat) :
    zP Tryz.f113 0 [rg 1,.dec false,rg 4] zf33 (nmS g nb N u M x fd q i) [] 1 [] ((zf105 x fd)) =
    some [((decide ((↑i:Int)<(↑M.1:Int)))=false),(NT 0 1),(NT 0 1),((true=true)→ (AN 1)),(NT 0 1),(AI x.1),(AI x.2.1),(fd=fd)]:=by kernel_rfl
theorem nnz (g:Nat→T_Bar) (nb N:Nat) (u L:T_IntS) (M:NB) :
    zT Tryz.f105 [rg 3,rm [(1,oc [(0,brOb M.1 M.2)] (.ar 2 0 0 M.1))] 1,rg 3,rm [(2,oc [(0,iOb L.1 L.2)] (.ar 1 0 0 L.1))] 2,rg 1,rg 1,.head] [grG g nb N,inL u] [0,32,128,224] (nnS g nb N u M (0,0,()) false L.1 0) =
    some (zf27,zD [(NT 0 1),zE 215 [(zf94 N nb g)] [(0,⟨false,2,M.1,(fun i=>[.p (.int .i64 ((M.2 i).1)),.p (.int .i64 ((M.2 i).2.1))])⟩)] (.ar 2 0 0 M.1),((true=true)→ (AN 1)),zE 102 [(zf94 N nb g),.p (.seq true 1 u.1 (iRw u))] [(0,⟨false,1,L.1,(fun i=>[.p (.int .i64 (L.2 i))])⟩)] (.ar 1 0 0 L.1),(AI ((↑N:Int))),(AN nb),(AP nb (bRw g)),(AN u.1),(AP u.1 (iRw u)),(AN 0),(AN M.1),(AI ((↑L.1:Int))),(false=false),((0:Int)=(↑0:Int)),((([AV.p (PV.int IntKind.i64 (↑N:Int)),brL g nb].length):Nat)=2),(NL 1 1),((((List.map (fun v=>AV.p (absV v)) [Value.int IntKind.i64 0,Value.int IntKind.i64 0]).length):Nat)=2),(AI 0),(AN 2),(NL M.1 M.1),(AA M.1 (fun i=>[.p (.int .i64 ((M.2 i).1)),.p (.int .i64 ((M.2 i).2.1))]))] [0,1,0,2,0,3,4,5,6,7,8,9,9,9,10,9,11,12,13,14,15,15,4,5,6,16,15,15,17,17,18,19,20,16,15,15,17,17]):=by kernel_rfl
theorem nnt (g:Nat→T_Bar) (nb N:Nat) (u:T_IntS) (M:NB) (x:T_Bar) (fd:Bool) (q i:Nat) (L:T_IntS) (r:Nat→T_Bar) :
    zM 0 [rm [(7,oc [] (.p (.bool true)))] 7,.dec true,rm [(5,oc [(0,brOb (nb+1) r)] (.agg [.p (.int .i64 N),.ar 2 0 0 (nb+1)])),(1,oc [(0,iOb L.1 L.2)] (.ar 1 0 0 L.1))] 2,rg 3,.dec true,rg 2,rg 5,rg 1,rg 3,.head] zf27 (nnS g nb N u M x fd q i) [0,1,2,3] 1 (nnS g nb N u M (M.2 i) true L.1 (i+1)) =
    some (zf27,zD [(((decide ((↑i:Int)<(↑M.1:Int)))=true)→(NT 0 1)),(AG (decide ((↑i:Int)<(↑M.1:Int)))),(((decide ((↑i:Int)<(↑M.1:Int)))=true)→ zE 100 [(zf92 N nb g),.p (.seq true 1 u.1 (iRw u))] [] (.p (.bool true))),(AG (bif decide ((↑i:Int)<(↑M.1:Int)) then true else false)),(((bif decide ((↑i:Int)<(↑M.1:Int)) then true else false)=true)→(NT 0 1)),((bif bif decide ((↑i:Int)<(↑M.1:Int)) then true else false then decide ((↑nb:Int)<24) else false)=true),(NT 0 1),(IL 0 (↑i:Int)),(IT (↑i:Int) (↑M.1:Int)),(NT i M.1),zE 216 [(zf92 N nb g),(zf107 M i)] (zf98 nb r) (.agg [.p (.int .i64 (↑N:Int)),.ar 2 0 0 (nb+1)]),(AN 2),(NL (nb+1) (nb+1)),zE 102 [(zf90 N nb r),.p (.seq true 1 u.1 (iRw u))] (zf108 L) (.ar 1 0 0 L.1),((decide ((↑L.1:Int)>(↑q:Int)))=true),((true=true)→ (AN 1)),(ZLo ((↑i:Int)+1)),(ZHi ((↑i:Int)+1)),(AI ((↑N:Int))),(AN nb),(AP nb (bRw g)),(AN u.1),(AP u.1 (iRw u)),(AN 0),(AN M.1),(AI ((↑L.1:Int))),(true=true),((((↑i:Int)+1):Int)=(↑(i+1):Int)),(NL 1 1),(AI 0),(NL M.1 M.1),(AA M.1 (fun i_1=>[.p (.int .i64 ((M.2 i_1).1)),.p (.int .i64 ((M.2 i_1).2.1))])),(AI (((M.2 i).1))),(AI (((M.2 i).2.1)))] [0,1,1,2,1,3,4,3,3,3,5,6,7,8,9,10,11,12,13,14,7,8,9,6,15,16,17,18,19,20,21,22,23,23,23,24,23,25,26,27,11,28,28,18,19,20,11,28,28,29,29,11,30,31,11,28,28,32,33]):=by kernel_rfl
theorem nnf (g:Nat→T_Bar) (nb N:Nat) (u:T_IntS) (M:NB) (x:T_Bar) (fd:Bool) (q i:Nat) (L:T_IntS) (r:Nat→T_Bar) :
    zM 0 [rm [(7,oc [] (.p (.bool true)))] 7,.dec true,rm [(5,oc [(0,brOb (nb+1) r)] (.agg [.p (.int .i64 N),.ar 2 0 0 (nb+1)])),(1,oc [(0,iOb L.1 L.2)] (.ar 1 0 0 L.1))] 2,rg 3,.dec false,rg 3,.head] zf27 (nnS g nb N u M x fd q i) [0,1,2,3] 1 (nnS g nb N u M x fd q (i+1)) =
    some (zf27,zD [(((decide ((↑i:Int)<(↑M.1:Int)))=true)→(NT 0 1)),(AG (decide ((↑i:Int)<(↑M.1:Int)))),(((decide ((↑i:Int)<(↑M.1:Int)))=true)→ zE 100 [(zf92 N nb g),.p (.seq true 1 u.1 (iRw u))] [] (.p (.bool true))),(AG (bif decide ((↑i:Int)<(↑M.1:Int)) then true else false)),(((bif decide ((↑i:Int)<(↑M.1:Int)) then true else false)=true)→(NT 0 1)),((bif bif decide ((↑i:Int)<(↑M.1:Int)) then true else false then decide ((↑nb:Int)<24) else false)=true),(NT 0 1),(IL 0 (↑i:Int)),(IT (↑i:Int) (↑M.1:Int)),(NT i M.1),zE 216 [(zf92 N nb g),(zf107 M i)] (zf98 nb r) (.agg [.p (.int .i64 (↑N:Int)),.ar 2 0 0 (nb+1)]),(AN 2),(NL (nb+1) (nb+1)),zE 102 [(zf90 N nb r),.p (.seq true 1 u.1 (iRw u))] (zf108 L) (.ar 1 0 0 L.1),((decide ((↑L.1:Int)>(↑q:Int)))=false),(ZLo ((↑i:Int)+1)),(ZHi ((↑i:Int)+1)),(AI ((↑N:Int))),(AN nb),(AP nb (bRw g)),(AN u.1),(AP u.1 (iRw u)),(AN 0),(AN M.1),(AI ((↑q:Int))),(fd=fd),((((↑i:Int)+1):Int)=(↑(i+1):Int)),(NL 1 1),(AI 0),(NL M.1 M.1),(AA M.1 (fun i_1=>[.p (.int .i64 ((M.2 i_1).1)),.p (.int .i64 ((M.2 i_1).2.1))])),(AI x.1),(AI x.2.1)] [0,1,1,2,1,3,4,3,3,3,5,6,7,8,9,10,11,12,13,14,15,16,17,18,19,20,21,22,22,22,23,22,24,25,26,11,27,27,17,18,19,11,27,27,28,28,11,29,30,11,27,27,31,32]):=by kernel_rfl
theorem nne (g:Nat→T_Bar) (nb N:Nat) (u:T_IntS) (M:NB) (x:T_Bar) (fd:Bool) (q i:Nat) :
    zP Tryz.f105 0 [rm [(7,oc [] (.p (.bool true)))] 7,.dec false,rg 4] zf27 (nnS g nb N u M x fd q i) [] 1 [] ((zf105 x fd)) =
    some (zD [(((decide ((↑i:Int)<(↑M.1:Int)))=true)→(NT 0 1)),(AG (decide ((↑i:Int)<(↑M.1:Int)))),(((decide ((↑i:Int)<(↑M.1:Int)))=true)→ zE 100 [(zf92 N nb g),.p (.seq true 1 u.1 (iRw u))] [] (.p (.bool true))),(AG (bif decide ((↑i:Int)<(↑M.1:Int)) then true else false)),(((bif decide ((↑i:Int)<(↑M.1:Int)) then true else false)=true)→(NT 0 1)),((bif bif decide ((↑i:Int)<(↑M.1:Int)) then true else false then decide ((↑nb:Int)<24) else false)=false),(NT 0 1),((true=true)→ (AN 1)),(AI x.1),(AI x.2.1),(fd=fd)] [0,1,1,2,1,3,4,3,3,3,5,6,6,7,6,8,9,10]):=by kernel_rfl
theorem l31 (x:T_Bar) (fa fb:ByteArray) :
    zS Tryz.f106 [rg 1,rg 1,rg 1,.loop,rg 4,.dec true,rm [(7,oc [] (.p (.str fa))),(7,oc [] (.p (.str fb)))] 2,rg 3,.loop,rg 4,.dec false,rg 2] [.p (.seq true 2 1 (fun _=>[.int .i64 x.1,.int .i64 x.2.1]))] [] [] (.p (.str ((((kSn++sSp)++fa)++kDash)++fb))) =
    some [((decide (0<(↑1:Int)))=true),(NL ((ByteArray.mk #[]).size+(ByteArray.mk #[32]).size) 9223372036854775807),(IL 0 0),(IT 0 (↑1:Int)),zE 118 [.p (.int .i64 x.1)] [] (.p (.str fa)),(NL ((ByteArray.mk #[]++ByteArray.mk #[32]).size+fa.size) 9223372036854775807),(NL ((ByteArray.mk #[]++ByteArray.mk #[32]++fa).size+(ByteArray.mk #[45]).size) 9223372036854775807),(IL 0 0),(IT 0 (↑1:Int)),zE 118 [.p (.int .i64 x.2.1)] [] (.p (.str fb)),(NL ((ByteArray.mk #[]++ByteArray.mk #[32]++fa++ByteArray.mk #[45]).size+fb.size) 9223372036854775807),(ZLo (0+1)),(ZHi (0+1)),((decide (0+1<(↑1:Int)))=false),(ByteArray.mk #[]++ByteArray.mk #[32]++fa++ByteArray.mk #[45]++fb=kSn++sSp++fa++kDash++fb)]:=by kernel_rfl
theorem slN (v:T_Graph) (u:T_IntS) :
    zS Tryz.f26 [rg 2,rm [(2,oc [] (.p (.bool false)))] 1,.dec true,rg 1] [graphA v,inL u] [] [] (.p (.str kSn)) =
    some [(NT 0 1),zE 107 [(zf91 v),.p (.seq true 1 u.1 (iRw u))] [] (.p (.bool false)),((!false)=true),(ByteArray.mk #[]=kSn)]:=by kernel_rfl
theorem smN (v:T_Graph) (u:T_IntS) :
    zS Tryz.f24 [rg 2,rm [(2,oc [] (.p (.bool false)))] 1,.dec true,rg 1] [graphA v,inL u] [] [] (.p (.str kSn)) =
    some [(NT 0 1),zE 100 [(zf91 v),.p (.seq true 1 u.1 (iRw u))] [] (.p (.bool false)),((!false)=true),(ByteArray.mk #[]=kSn)]:=by kernel_rfl
theorem slR (v:T_Graph) (u L O:T_IntS) (x:T_Bar) (fd:Bool) (fl fo s1 en s2:ByteArray) :
    zS Tryz.f26 [rg 2,rm [(2,oc [] (.p (.bool true)))] 1,.dec false,rm [(2,oc [(0,iOb L.1 L.2)] (.ar 1 0 0 L.1)),(1,⟨true,(some ⟨[],[],[256],2,[],.p (.str fl)⟩),none⟩),(2,oc [(0,iOb O.1 O.2)] (.ar 1 0 0 O.1)),(0,oc [] (.p (.str fo))),(1,oc [] (.p (.str s1)))] 1,rm [(2,oc [] (zf105 x fd))] 6,rm [(3,oc [] (.p (.str en))),(1,oc [] (.p (.str s2)))] 1] [graphA v,inL u] [] [] (.p (.str s2)) =
    some [(NT 0 1),zE 107 [(zf91 v),.p (.seq true 1 u.1 (iRw u))] [] (.p (.bool true)),((!true)=false),(NT 0 1),zE 110 [(zf91 v),.p (.seq true 1 u.1 (iRw u))] [(0,⟨false,1,L.1,(fun i=>[.p (.int .i64 (L.2 i))])⟩)] (.ar 1 0 0 L.1),(AN 1),(NL 1 1),(∀ i:Nat,(((i:Nat)<1)→All [(AN 1),((L.1:Nat)≤L.1)])),zE 109 [.p (.seq true 1 1 (fun i=>[.seq true 1 L.1 (iRw L)]))] [] (.p (.str fl)),(NT 0 1),zE 112 [(zf91 v),.p (.seq true 1 u.1 (iRw u))] [(0,⟨false,1,O.1,(fun i=>[.p (.int .i64 (O.2 i))])⟩)] (.ar 1 0 0 O.1),(AN 1),(NL O.1 O.1),zE 111 [.p (.seq true 1 O.1 (iRw O))] [] (.p (.str fo)),(AN 1),(NL 4 4),zE 108 [.p (.seq true 1 4 (fun i=>[(cellP true [(List.getD ([.p (.str (ByteArray.mk #[108,111,99,97,116,101,100])),.p (.str fl),.p (.str (ByteArray.mk #[111,114,100,101,114])),.p (.str fo)]:List AV) (rowIx 4 i*1) (.p .any))] 0)]))] [] (.p (.str s1)),(NT 0 1),zE 113 [(zf91 v),.p (.seq true 1 u.1 (iRw u))] [] ((zf105 x fd)),(NT 0 1),((true=true)→ (AN 1)),(NT 0 1),zE 115 [.agg [.p (.int .i64 x.1),.p (.int .i64 x.2.1)]] [] (.p (.str en)),(AN 1),(NL 2 2),zE 114 [.p (.str s1),.p (.bool fd),.p (.seq true 1 2 (fun i=>[(cellP true [(List.getD ([.p (.str (ByteArray.mk #[109,101,97,115,117,114,101])),.p (.str en)]:List AV) (rowIx 2 i*1) (.p .any))] 0)]))] [] (.p (.str s2)),(s2=s2)]:=by kernel_rfl
theorem smT (v:T_Graph) (u L O:T_IntS) (x:T_Bar) (fl fo en:ByteArray) :
    zS Tryz.f24 [rg 2,rm [(2,oc [] (.p (.bool true)))] 1,.dec false,rm [(2,oc [(0,iOb L.1 L.2)] (.ar 1 0 0 L.1)),(1,⟨true,(some ⟨[],[],[256],2,[],.p (.str fl)⟩),none⟩),(4,oc [(0,iOb O.1 O.2)] (.ar 1 0 0 O.1)),(0,oc [] (.p (.str fo)))] 2,rm [(2,oc [] (.tup [.agg [.p (.int .i64 x.1),.p (.int .i64 x.2.1)],.p (.bool true)]))] 6,rg 1,.dec true,rm [(4,oc [] (.p (.str en)))] 2,rg 2] [graphA v,inL u] [] [] (.p (.str (((((kLocS++fl)++kOrdS)++fo)++kMeaS)++en))) =
    some [(NT 0 1),zE 100 [(zf91 v),.p (.seq true 1 u.1 (iRw u))] [] (.p (.bool true)),((!true)=false),(NT 0 1),zE 102 [(zf91 v),.p (.seq true 1 u.1 (iRw u))] [(0,⟨false,1,L.1,(fun i=>[.p (.int .i64 (L.2 i))])⟩)] (.ar 1 0 0 L.1),(AN 1),(NL 1 1),(∀ i:Nat,(((i:Nat)<1)→All [(AN 1),((L.1:Nat)≤L.1)])),zE 101 [.p (.seq true 1 1 (fun i=>[.seq true 1 L.1 (iRw L)]))] [] (.p (.str fl)),(NL ((ByteArray.mk #[108,111,99,97,116,101,100,32]).size+fl.size) 9223372036854775807),(NL ((ByteArray.mk #[108,111,99,97,116,101,100,32]++fl).size+(ByteArray.mk #[32,111,114,100,101,114,32]).size) 9223372036854775807),(NT 0 1),zE 104 [(zf91 v),.p (.seq true 1 u.1 (iRw u))] [(0,⟨false,1,O.1,(fun i=>[.p (.int .i64 (O.2 i))])⟩)] (.ar 1 0 0 O.1),(AN 1),(NL O.1 O.1),zE 103 [.p (.seq true 1 O.1 (iRw O))] [] (.p (.str fo)),(NL ((ByteArray.mk #[108,111,99,97,116,101,100,32]++fl++ByteArray.mk #[32,111,114,100,101,114,32]).size+fo.size) 9223372036854775807),(NT 0 1),zE 105 [(zf91 v),.p (.seq true 1 u.1 (iRw u))] [] (.tup [.agg [.p (.int .i64 x.1),.p (.int .i64 x.2.1)],.p (.bool true)]),(NT 0 1),((true=true)→ (AN 1)),(true=true),(NL ((ByteArray.mk #[108,111,99,97,116,101,100,32]++fl++ByteArray.mk #[32,111,114,100,101,114,32]++fo).size+(ByteArray.mk #[32,109,101,97,115,117,114,101]).size) 9223372036854775807),(NT 0 1),(AN 2),(NL 1 1),zE 106 [.p (.seq true 2 1 (fun i=>[.int .i64 x.1,.int .i64 x.2.1]))] [] (.p (.str en)),(NL ((ByteArray.mk #[108,111,99,97,116,101,100,32]++fl++ByteArray.mk #[32,111,114,100,101,114,32]++fo++ByteArray.mk #[32,109,101,97,115,117,114,101]).size+en.size) 9223372036854775807),(ByteArray.mk #[108,111,99,97,116,101,100,32]++fl++ByteArray.mk #[32,111,114,100,101,114,32]++fo++ByteArray.mk #[32,109,101,97,115,117,114,101]++en=kLocS++fl++kOrdS++fo++kMeaS++en)]:=by kernel_rfl
theorem smF (v:T_Graph) (u L O:T_IntS) (x:T_Bar) (fl fo:ByteArray) :
    zS Tryz.f24 [rg 2,rm [(2,oc [] (.p (.bool true)))] 1,.dec false,rm [(2,oc [(0,iOb L.1 L.2)] (.ar 1 0 0 L.1)),(1,⟨true,(some ⟨[],[],[256],2,[],.p (.str fl)⟩),none⟩),(4,oc [(0,iOb O.1 O.2)] (.ar 1 0 0 O.1)),(0,oc [] (.p (.str fo)))] 2,rm [(2,oc [] (.tup [.agg [.p (.int .i64 x.1),.p (.int .i64 x.2.1)],.p (.bool false)]))] 6,rg 1,.dec false,rg 2] [graphA v,inL u] [] [] (.p (.str (((kLocS++fl)++kOrdS)++fo))) =
    some [(NT 0 1),zE 100 [(zf91 v),.p (.seq true 1 u.1 (iRw u))] [] (.p (.bool true)),((!true)=false),(NT 0 1),zE 102 [(zf91 v),.p (.seq true 1 u.1 (iRw u))] [(0,⟨false,1,L.1,(fun i=>[.p (.int .i64 (L.2 i))])⟩)] (.ar 1 0 0 L.1),(AN 1),(NL 1 1),(∀ i:Nat,(((i:Nat)<1)→All [(AN 1),((L.1:Nat)≤L.1)])),zE 101 [.p (.seq true 1 1 (fun i=>[.seq true 1 L.1 (iRw L)]))] [] (.p (.str fl)),(NL ((ByteArray.mk #[108,111,99,97,116,101,100,32]).size+fl.size) 9223372036854775807),(NL ((ByteArray.mk #[108,111,99,97,116,101,100,32]++fl).size+(ByteArray.mk #[32,111,114,100,101,114,32]).size) 9223372036854775807),(NT 0 1),zE 104 [(zf91 v),.p (.seq true 1 u.1 (iRw u))] [(0,⟨false,1,O.1,(fun i=>[.p (.int .i64 (O.2 i))])⟩)] (.ar 1 0 0 O.1),(AN 1),(NL O.1 O.1),zE 103 [.p (.seq true 1 O.1 (iRw O))] [] (.p (.str fo)),(NL ((ByteArray.mk #[108,111,99,97,116,101,100,32]++fl++ByteArray.mk #[32,111,114,100,101,114,32]).size+fo.size) 9223372036854775807),(NT 0 1),zE 105 [(zf91 v),.p (.seq true 1 u.1 (iRw u))] [] (.tup [.agg [.p (.int .i64 x.1),.p (.int .i64 x.2.1)],.p (.bool false)]),(NT 0 1),((true=true)→ (AN 1)),(false=false),(ByteArray.mk #[108,111,99,97,116,101,100,32]++fl++ByteArray.mk #[32,111,114,100,101,114,32]++fo=kLocS++fl++kOrdS++fo)]:=by kernel_rfl
theorem con_Loc_s (v:T_Graph) (hs:smS s_Graph v) (u:T_IntS) (hu:u.1≤1048576) :
    zE 102 [graphA v,inL u] [(0,iOb (locF v u).1 (locF v u).2)] (.ar 1 0 0 (locF v u).1):=by
  have ca:=con_AncV_s v hs u hu
  unfold locF
  by_cases hc0:(agV v u).2=true∧3≤u.1
  · rw [if_pos hc0]
    unfold locW
    obtain ⟨hA,hN,hM,hg⟩:=agV_ok hc0.1
    have hin:=anF_in (N:=v.1.toNat) (nb:=v.2.1.1) (g:=v.2.1.2) (u:=u) (by rw [hN.1];exact hA)
    have hin2:∀ i,i<u.1→(u.2 i).toNat<v.1.toNat∧0≤u.2 i:=fun i hi=>by have:=hin.2.2 i hi;omega
    have hgv:graphA v=grG v.2.1.2 v.2.1.1 v.1.toNat:=by unfold grG;rw [hN.1];rfl
    rw [hgv] at ca ⊢
    unfold agA at ca
    rw [hM,hc0.1,← hN.1] at ca
    generalize (agV v u).1.2.1.1=n at *
    generalize (agV v u).1.2.1.2=h at *
    have h3:=hc0.2
    have hNle:=hN.2
    clear hM hA hN
    generalize hNN:v.1.toNat=N at *
    have h2N:=two_le hNle
    have hu8:=hin.2.1
    have hn24:=(graph_in hg).2.1
    have hlt:=lmF_lt N n h (bsN u u.1)
    have hBlt:=bsN_lt (u:=u) (N:=N) (fun i hi=>(hin2 i hi).1) u.1 (Nat.le_refl _)
    have hB0:bsN u u.1≠0:=by
      intro e
      have hk:u.1=(u.1 - 1)+1:=by omega
      rw [hk] at e
      have:(bsN u (u.1 - 1) ||| 2 ^ (u.2 (u.1 - 1)).toNat).testBit (u.2 (u.1 - 1)).toNat=true:=by
        rw [Nat.testBit_or,Nat.testBit_two_pow_self,Bool.or_true]
      rw [show (bsN u (u.1 - 1) ||| 2 ^ (u.2 (u.1 - 1)).toNat)=0 from e] at this
      simp at this
    have hP:=con_part hg
    have hGl:∀ m,zE 211 [graphA (wpG N n h (stD (2 ^ N - 1 - m) N))] [] (.p (.bool (pgB N n h m))):=fun m=>con_glV_s _ (wpG_sm N n h _ hn24)
    have hal:=fun m (hm:m<2 ^ 62)=>alB_s (m:=m) (N:=N) (u:=u) hm (by omega) (fun i hi=>by have:=hin2 i hi;omega) u.1 (Nat.le_refl _)
    have hsN:=shl_nat N (by omega)
    have hsN':shlI .i64 1 (N:Int)=((2 ^ N:Nat):Int):=hsN
    generalize bsN u u.1=B at *
    refine csZ Tryz.func102 (fun c hc=>?_)
    generalize hX:stD (lmF N n h B (2 ^ N)) N=X
    have lo:∀ d m,m+d=2 ^ N→1≤m→zR c 102 zf32 (lqA v.2.1.2 v.2.1.1 N u n h (stD (lmF N n h B m) N).1 (stD (lmF N n h B m) N).2 m) (Post c [(0,iOb X.1 X.2)] (.ar 1 0 0 X.1)):=by
      intro d
      induction d with
      | zero =>
        intro m hm h1m
        have hd:decide ((m:Int)<shlI .i64 1 (N:Int))=false:=by rw [hsN'];exact decide_eq_false (by omega)
        rw [show m=2 ^ N by omega,hX] at *
        refine pkZ Tryz.func102 hc (lqe v.2.1.2 v.2.1.1 N u n h X.1 X.2 (2 ^ N)) ?_
        and_intros
        all_goals (first | exact zN | (exact hd) | (intro t ht;simp [All];done))
      | succ d ih =>
        intro m hm h1m
        have hd:decide ((m:Int)<shlI .i64 1 (N:Int))=true:=by rw [hsN'];exact decide_eq_true (by omega)
        have hrec:=ih (m+1) (by omega) (by omega)
        have hml:=hlt m (by omega)
        have c3:=con_l3Set m N (by omega)
        have cp:=hP m (by omega)
        have cg:=hGl m
        have hSl:=stD_n m N
        have hWl:=stD_n (lmF N n h B m) N
        have hSin:=stD_rn m N
        have horl:=fun i (hi:i≤(stD m N).1)=>orL_lt (w:=lmF N n h B m) (N:=N) (f:=(stD m N).2) hml i (fun j hj=>by have:=hSin j (by omega);omega)
        have horN:orL (lmF N n h B m) (stD m N).2 (stD m N).1=lmF N n h B m ||| m:=by
          rw [orL_st (by omega) N (by omega),Nat.mod_eq_of_lt (by omega)]
        have halm:=hal m (by omega)
        have hch:=con_l2Has (stD m N)
        have hcond:lmF N n h B (m+1)=if (bif alB (stD m N) u u.1 then pgB N n h m else false)=true then lmF N n h B m ||| m else lmF N n h B m:=by rw [halm];rfl
        rw [hcond] at hrec
        generalize hWW:wpG N n h (stD (2 ^ N - 1 - m) N)=W at cp cg
        generalize hSS:stD m N=S at *
        generalize pgB N n h m=pb at *
        have l2:pb=true→alB S u u.1=true→∀ d i,i+d=S.1→zR c 102 zf8 (lqC v.2.1.2 v.2.1.1 N u n h (stD (orL (lmF N n h B m) S.2 i) N).1 (stD (orL (lmF N n h B m) S.2 i) N).2 m S i) (Post c [(0,iOb X.1 X.2)] (.ar 1 0 0 X.1)):=by
          intro hpb hab d
          induction d with
          | zero =>
            intro i hi
            have hdi:decide ((i:Int)<(S.1:Int))=false:=decide_eq_false (by omega)
            rw [hpb,hab,if_pos (show (bif true then true else false)=true from rfl)] at hrec
            rw [show i=S.1 by omega] at hdi ⊢
            rw [horN]
            have hq:=stD_n (lmF N n h B m ||| m) N
            refine pcD hc (lqr v.2.1.2 v.2.1.1 N u n h _ _ m S S.1) ?_ hrec
            and_intros
            all_goals (first | exact zN | (exact hdi) | (intro t ht;simp [All];done) | (simp;omega))
          | succ d ihd =>
            intro i hi
            have hdi:decide ((i:Int)<(S.1:Int))=true:=decide_eq_true (by omega)
            have hr2:=ihd (i+1) (by omega)
            have hx:=hSin i (by omega)
            have hwl:=horl i (by omega)
            have hq:=stD_n (orL (lmF N n h B m) S.2 i) N
            have hh:=con_l2Has (stD (orL (lmF N n h B m) S.2 i) N) (S.2 i) (by omega)
            rw [hasI_st (by omega) (by omega) (by omega)] at hh
            have hstep:orL (lmF N n h B m) S.2 (i+1)=orL (lmF N n h B m) S.2 i ||| 2 ^ (S.2 i).toNat:=rfl
            rw [hstep] at hr2
            generalize orL (lmF N n h B m) S.2 i=w at *
            cases hb:w.testBit (S.2 i).toNat with
            | true =>
              rw [hb] at hh
              have e:w ||| 2 ^ (S.2 i).toNat=w:=by
                refine Nat.eq_of_testBit_eq (fun t=>?_)
                rw [Nat.testBit_or,Nat.testBit_two_pow]
                by_cases et:(S.2 i).toNat=t
                · rw [← et,hb];rfl
                · rw [decide_eq_false et,Bool.or_false]
              rw [e] at hr2
              refine pcD hc (lqq v.2.1.2 v.2.1.1 N u n h _ _ m S i) ?_ hr2
              and_intros
              all_goals (first | exact zN | (exact hdi) | (exact hh) | (intro t ht;simp [All];done) | (simp;omega))
            | false =>
              rw [hb] at hh
              have c5:=con_5With (w:=w) (x:=(S.2 i).toNat) (N:=N) (by omega) (by omega) (by omega) hb
              rw [Int.toNat_of_nonneg hx.1] at c5
              generalize stD (w ||| 2 ^ (S.2 i).toNat) N=T at *
              refine pcD hc (lqp v.2.1.2 v.2.1.1 N u n h _ _ m S i T) ?_ hr2
              and_intros
              all_goals (first | exact zN | (exact hdi) | (exact hh) | (exact c5) | (intro t ht;simp [All];done) | (simp;omega))
        have l1:∀ d i,i+d=u.1→zR c 102 zf5 (lqB v.2.1.2 v.2.1.1 N u n h (stD (lmF N n h B m) N).1 (stD (lmF N n h B m) N).2 m S (alB S u i) i) (Post c [(0,iOb X.1 X.2)] (.ar 1 0 0 X.1)):=by
          intro d
          induction d with
          | zero =>
            intro i hi
            have hdi:decide ((i:Int)<(u.1:Int))=false:=decide_eq_false (by omega)
            rw [show i=u.1 by omega] at hdi ⊢
            cases hab:alB S u u.1 with
            | false =>
              rw [hab,if_neg (by simp)] at hrec
              refine pcD hc (lqx v.2.1.2 v.2.1.1 N u n h _ _ m S u.1) ?_ hrec
              and_intros
              all_goals (first | exact zN | (exact hdi) | (intro t ht;simp [All];done) | (simp;omega))
            | true =>
              cases hpb:pb with
              | false =>
                rw [hab,hpb,if_neg (by simp)] at hrec
                rw [hpb] at cg
                refine pcD hc (lqy v.2.1.2 v.2.1.1 N u n h _ _ m S u.1 W) ?_ hrec
                and_intros
                all_goals (first | exact zN | (exact hdi) | (exact cp) | (exact cg) | (intro t ht;simp [All];done) | (simp;omega))
              | true =>
                have hl2:=l2 hpb hab S.1 0 (by omega)
                rw [hpb] at cg
                refine pcD hc (lqw v.2.1.2 v.2.1.1 N u n h _ _ m S u.1 W) ?_ hl2
                and_intros
                all_goals (first | exact zN | (exact hdi) | (exact cp) | (exact cg) | (intro t ht;simp [All];done) | (simp;omega))
          | succ d ihd =>
            intro i hi
            have hdi:decide ((i:Int)<(u.1:Int))=true:=decide_eq_true (by omega)
            have hr2:=ihd (i+1) (by omega)
            have hh:=hch (u.2 i) (by omega)
            rw [show alB S u (i+1)=(bif alB S u i then hasI S.2 (u.2 i) S.1 else false) from rfl] at hr2
            refine pcD hc (lqt v.2.1.2 v.2.1.1 N u n h _ _ m S (alB S u i) (hasI S.2 (u.2 i) S.1) i) ?_ hr2
            and_intros
            all_goals (first | exact zI | (exact hdi) | (intros;exact hh) | (intro t ht;simp [All];done) | (simp;omega))
        refine pcD hc (lqs v.2.1.2 v.2.1.1 N u n h _ _ m S) ?_ (l1 u.1 0 (by omega))
        and_intros
        all_goals (first | exact zN | (exact hd) | (exact c3) | (intro t ht;simp [All];done) | (simp;done))
    have h1:lmF N n h B 1=0:=by
      show (if (bif ((0 &&& B)==B) then pgB N n h 0 else false)=true then 0 ||| 0 else 0)=0
      split<;>rfl
    have hlo:=lo (2 ^ N - 1) 1 (by omega) (Nat.le_refl _)
    have hz0:stD 0 N=(0,fun _=>0):=by
      have:∀ v,v≤60→stD 0 v=(0,fun _=>0):=by
        intro v
        induction v with
        | zero=>intro _;rfl
        | succ v ih =>
          intro hv
          have hb:=bt_tb (m:=0) (i:=v) (by omega) (by omega)
          rw [Nat.zero_testBit] at hb
          rw [stD_f hb];exact ih (by omega)
      exact this N (by omega)
    rw [h1,hz0] at hlo
    have hz:(bif !true then true else decide ((u.1:Int)<3))=false:=by rw [decide_eq_false (show ¬ ((u.1:Int)<3) by omega)];rfl
    refine pcD hc (lqz v.2.1.2 v.2.1.1 N u n h) ?_ hlo
    and_intros
    all_goals (first | exact zH | (exact ca) | (exact hz) | (intro t ht;exact absurd ht (Nat.not_lt_zero _)) | (intro t ht;simp [All];done) | (simp;done))
  · rw [if_neg hc0]
    have hz:(bif !(agV v u).2 then true else decide ((u.1:Int)<3))=true:=by
      cases hq:(agV v u).2 with
      | false=>rfl
      | true =>
        have:¬ 3≤u.1:=fun h=>hc0 ⟨hq,h⟩
        rw [decide_eq_true (show ((u.1:Int)<3) by omega)];rfl
    refine csZ Tryz.func102 (fun c hc=>?_)
    refine pkZ Tryz.func102 hc (lqn v u (agV v u)) ?_
    and_intros
    all_goals (first | exact zH | (exact ca) | (exact hz) | (intro h;simpa using h) | (intro t ht;exact absurd ht (Nat.not_lt_zero _)) | (intro t ht;simp [All]))
noncomputable def lcG (g:Nat→T_Bar) (nb N:Nat) (u:T_IntS) (x:T_Bar):T_IntS:=locF ((N:Int),(nb+1,srtB (nb+1) (snoc nb g x)),()) u
noncomputable def nxF (g:Nat→T_Bar) (nb N:Nat) (u:T_IntS) (M:NB):Nat→T_Bar×Bool×Nat
  | 0=>((0,0,()),false,(locF ((N:Int),(nb,g),()) u).1)
  | i+1=>if decide (((lcG g nb N u (M.2 i)).1:Int)>((nxF g nb N u M i).2.2:Int))=true then (M.2 i,true,(lcG g nb N u (M.2 i)).1) else nxF g nb N u M i
noncomputable def nxR (g:Nat→T_Bar) (nb N:Nat) (u:T_IntS):T_Bar×Bool :=
  if nb=24 then ((0,0,()),false) else ((nxF g nb N u (msP ((N:Int),(nb,g),())) (msP ((N:Int),(nb,g),())).1).1,(nxF g nb N u (msP ((N:Int),(nb,g),())) (msP ((N:Int),(nb,g),())).1).2.1)
def nxA (R:T_Bar×Bool):AV:=.tup [.agg [.p (.int .i64 R.1.1),.p (.int .i64 R.1.2.1)],.p (.bool R.2)]
theorem con_Next_i {N nb:Nat} {g:Nat→T_Bar} {u:T_IntS} (hA:anF ((N:Int),(nb,g),()) u=true) :
    zE 113 [grG g nb N,inL u] [] (nxA (nxR g nb N u)):=by
  obtain ⟨hg,hu,hin⟩:=anF_in hA
  obtain ⟨h1,h2,hok⟩:=graph_in hg
  have hsm:smS s_Graph ((N:Int),(nb,g),()):=sm_graph (by show nb≤_;omega)
  have ca:zE 107 [grG g nb N,inL u] [] (.p (.bool true)):=by
    have:=con_Anch_i ((N:Int),(nb,g),()) hsm u (by omega)
    rw [hA] at this;exact this
  have c1:zE 110 [grG g nb N,inL u] [(0,iOb (locF ((N:Int),(nb,g),()) u).1 (locF ((N:Int),(nb,g),()) u).2)] (.ar 1 0 0 (locF ((N:Int),(nb,g),()) u).1):=con_Loc_i _ hsm u (by omega)
  have c2:zE 224 [grG g nb N] [(0,brOb (msP ((N:Int),(nb,g),())).1 (msP ((N:Int),(nb,g),())).2)] (.ar 2 0 0 (msP ((N:Int),(nb,g),())).1):=con_Missing_i _ hsm
  have hM:=msP_n ((N:Int),(nb,g),())
  have cl:∀ x:T_Bar,zE 110 [.agg [.p (.int .i64 N),.p (.seq true 2 (nb+1) (fun i=>[.int .i64 (srtB (nb+1) (snoc nb g x) i).1,.int .i64 (srtB (nb+1) (snoc nb g x) i).2.1]))],inL u] [(0,iOb (lcG g nb N u x).1 (lcG g nb N u x).2)] (.ar 1 0 0 (lcG g nb N u x).1) :=
    fun x=>con_Loc_i ((N:Int),(nb+1,srtB (nb+1) (snoc nb g x)),()) (sm_graph (by show nb+1≤_;omega)) u (by omega)
  unfold nxR
  by_cases h24:nb=24
  · rw [if_pos h24]
    have hd:(bif !true then true else ((nb:Int)==24))=true:=by subst h24;rfl
    refine csZ Tryz.func113 (fun c hc=>?_)
    refine pkD Tryz.func113 hc (nmx g nb N u) ?_
    and_intros
    all_goals (first | exact zH | (exact ca) | (exact hd) | (simp;done))
  · rw [if_neg h24]
    have hd0:(bif !true then true else ((nb:Int)==24))=false:=by
      show ((nb:Int)==24)=false
      exact beq_eq_false_iff_ne.2 (by omega)
    have hn0:nxF g nb N u (msP ((N:Int),(nb,g),())) 0=((0,0,()),false,(locF ((N:Int),(nb,g),()) u).1):=rfl
    generalize msP ((N:Int),(nb,g),())=M at *
    generalize locF ((N:Int),(nb,g),()) u=L at *
    refine csZ Tryz.func113 (fun c hc=>?_)
    generalize hX:nxF g nb N u M M.1=X
    have lo:∀ d i,i+d=M.1→zR c 113 zf33 (nmS g nb N u M (nxF g nb N u M i).1 (nxF g nb N u M i).2.1 (nxF g nb N u M i).2.2 i) (Post c [] (nxA (X.1,X.2.1))):=by
      intro d
      induction d with
      | zero =>
        intro i hi
        have hd:decide ((i:Int)<(M.1:Int))=false:=decide_eq_false (by omega)
        rw [show i=M.1 by omega] at hd ⊢
        rw [hX]
        refine pkZ Tryz.func113 hc (nme g nb N u M X.1 X.2.1 X.2.2 M.1) ?_
        and_intros
        all_goals (first | exact zI | (exact hd) | (simp;done))
      | succ d ih =>
        intro i hi
        have hd:decide ((i:Int)<(M.1:Int))=true:=decide_eq_true (by omega)
        have hrec:=ih (i+1) (by omega)
        have cw:=con_withOne N nb g (M.2 i) (by omega)
        have cL:=cl (M.2 i)
        cases hq:decide (((lcG g nb N u (M.2 i)).1:Int)>((nxF g nb N u M i).2.2:Int)) with
        | true =>
          rw [show nxF g nb N u M (i+1)=(M.2 i,true,(lcG g nb N u (M.2 i)).1) by simp only [nxF];rw [if_pos hq]] at hrec
          refine pcD hc (nmt g nb N u M _ _ (nxF g nb N u M i).2.2 i (lcG g nb N u (M.2 i)) (srtB (nb+1) (snoc nb g (M.2 i)))) ?_ hrec
          and_intros
          all_goals (first | exact zI | (exact hd) | (exact cw) | (exact cL) | (exact hq) | (intro t ht;simp [All];done) | (simp;omega))
        | false =>
          rw [show nxF g nb N u M (i+1)=nxF g nb N u M i by simp only [nxF];rw [if_neg (by rw [hq];exact Bool.false_ne_true)]] at hrec
          refine pcD hc (nmf g nb N u M _ _ (nxF g nb N u M i).2.2 i (lcG g nb N u (M.2 i)) (srtB (nb+1) (snoc nb g (M.2 i)))) ?_ hrec
          and_intros
          all_goals (first | exact zI | (exact hd) | (exact cw) | (exact cL) | (exact hq) | (intro t ht;simp [All];done) | (simp;omega))
    have hlo:=lo M.1 0 (by omega)
    rw [hn0] at hlo
    refine pcD hc (nmz g nb N u L M) ?_ hlo
    and_intros
    all_goals (first | exact zH | (exact ca) | (exact c1) | (exact c2) | (exact hd0) | (intro t ht;simp [All];done) | (simp;done))
theorem con_Next_s {N nb:Nat} {g:Nat→T_Bar} {u:T_IntS} (hA:anF ((N:Int),(nb,g),()) u=true) :
    zE 105 [grG g nb N,inL u] [] (nxA (nxR g nb N u)):=by
  obtain ⟨hg,hu,hin⟩:=anF_in hA
  obtain ⟨h1,h2,hok⟩:=graph_in hg
  have hsm:smS s_Graph ((N:Int),(nb,g),()):=sm_graph (by show nb≤_;omega)
  have ca:zE 100 [grG g nb N,inL u] [] (.p (.bool true)):=by
    have:=con_Anch_s ((N:Int),(nb,g),()) hsm u (by omega)
    rw [hA] at this;exact this
  have c1:zE 102 [grG g nb N,inL u] [(0,iOb (locF ((N:Int),(nb,g),()) u).1 (locF ((N:Int),(nb,g),()) u).2)] (.ar 1 0 0 (locF ((N:Int),(nb,g),()) u).1):=con_Loc_s _ hsm u (by omega)
  have c2:zE 215 [grG g nb N] [(0,brOb (msP ((N:Int),(nb,g),())).1 (msP ((N:Int),(nb,g),())).2)] (.ar 2 0 0 (msP ((N:Int),(nb,g),())).1):=con_Missing_s _ hsm
  have hM:=msP_n ((N:Int),(nb,g),())
  have hsrt:=goodB_sorted (graph_inR hg).2.2.2
  have cl:∀ x:T_Bar,∀ r:Nat→T_Bar,(∀ t,t<nb+1→r t=srtB (nb+1) (snoc nb g x) t)→zE 102 [.agg [.p (.int .i64 N),.p (.seq true 2 (nb+1) (fun i=>[.int .i64 (r i).1,.int .i64 (r i).2.1]))],inL u] [(0,iOb (lcG g nb N u x).1 (lcG g nb N u x).2)] (.ar 1 0 0 (lcG g nb N u x).1):=by
    intro x r hr
    have h:=con_Loc_s ((N:Int),(nb+1,srtB (nb+1) (snoc nb g x)),()) (sm_graph (by show nb+1≤_;omega)) u (by omega)
    refine h.arg_ext ?_
    simp only [graphA,graphL,inL,wkL,wk,wkP,beq_self_eq_true,Bool.and_self,if_true,ikEq,List.append_nil,List.cons_append,List.nil_append,All]
    and_intros<;>first | trivial | omega | (intros;trivial) | (intro i hi;rw [hr i hi]) | (intro i hi;rfl)
  unfold nxR
  have hn0:nxF g nb N u (msP ((N:Int),(nb,g),())) 0=((0,0,()),false,(locF ((N:Int),(nb,g),()) u).1):=rfl
  generalize msP ((N:Int),(nb,g),())=M at *
  generalize locF ((N:Int),(nb,g),()) u=L at *
  by_cases h24:nb=24
  · rw [if_pos h24]
    have hd0:(bif (bif decide (((0:Nat):Int)<(M.1:Int)) then true else false) then decide ((nb:Int)<24) else false)=false:=by
      rw [decide_eq_false (show ¬ ((nb:Int)<24) by omega)]
      cases (bif decide (((0:Nat):Int)<(M.1:Int)) then true else false)<;>rfl
    refine csZ Tryz.func105 (fun c hc=>?_)
    have he:zR c 105 zf27 (nnS g nb N u M (0,0,()) false L.1 0) (Post c [] (nxA ((0,0,()),false))):=by
      refine pkD Tryz.func105 hc (nne g nb N u M (0,0,()) false L.1 0) ?_
      and_intros
      all_goals (first | exact zI | (exact hd0) | (intros;exact ca) | (intro h;exact h) | (simp;done))
    refine pcD hc (nnz g nb N u L M) ?_ he
    and_intros
    all_goals (first | exact zI | (exact c1) | (exact c2) | (intro t ht;simp [All];done) | (simp;done))
  · rw [if_neg h24]
    have hn24:decide ((nb:Int)<24)=true:=decide_eq_true (by omega)
    refine csZ Tryz.func105 (fun c hc=>?_)
    generalize hX:nxF g nb N u M M.1=X
    have lo:∀ d i,i+d=M.1→zR c 105 zf27 (nnS g nb N u M (nxF g nb N u M i).1 (nxF g nb N u M i).2.1 (nxF g nb N u M i).2.2 i) (Post c [] (nxA (X.1,X.2.1))):=by
      intro d
      induction d with
      | zero =>
        intro i hi
        have hd:(bif (bif decide ((i:Int)<(M.1:Int)) then true else false) then decide ((nb:Int)<24) else false)=false:=by rw [decide_eq_false (show ¬ ((i:Int)<(M.1:Int)) by omega)];rfl
        rw [show i=M.1 by omega] at hd ⊢
        rw [hX]
        refine pkD Tryz.func105 hc (nne g nb N u M X.1 X.2.1 X.2.2 M.1) ?_
        and_intros
        all_goals (first | exact zI | (exact hd) | (intros;exact ca) | (intro h;exact h) | (simp;done))
      | succ d ih =>
        intro i hi
        have hd:(bif (bif decide ((i:Int)<(M.1:Int)) then true else false) then decide ((nb:Int)<24) else false)=true:=by rw [decide_eq_true (show ((i:Int)<(M.1:Int)) by omega),hn24];rfl
        have hrec:=ih (i+1) (by omega)
        obtain ⟨r,hr,cw⟩:=con_putS (N:=N) hsrt (M.2 i) (show nb≤1000 by omega)
        have hrr:∀ t,t<nb+1→r t=srtB (nb+1) (snoc nb g (M.2 i)) t:=lstB_inj (by rw [lstB_srt,lstB_snoc];exact hr)
        have cL:=cl (M.2 i) r hrr
        cases hq:decide (((lcG g nb N u (M.2 i)).1:Int)>((nxF g nb N u M i).2.2:Int)) with
        | true =>
          rw [show nxF g nb N u M (i+1)=(M.2 i,true,(lcG g nb N u (M.2 i)).1) by simp only [nxF];rw [if_pos hq]] at hrec
          refine pcD hc (nnt g nb N u M _ _ (nxF g nb N u M i).2.2 i (lcG g nb N u (M.2 i)) r) ?_ hrec
          and_intros
          all_goals (first | exact zI | (exact hd) | (exact cw) | (exact cL) | (exact hq) | (intros;exact ca) | (intro h;exact h) | (intro t ht;simp [All];done) | (simp;omega))
        | false =>
          rw [show nxF g nb N u M (i+1)=nxF g nb N u M i by simp only [nxF];rw [if_neg (by rw [hq];exact Bool.false_ne_true)]] at hrec
          refine pcD hc (nnf g nb N u M _ _ (nxF g nb N u M i).2.2 i (lcG g nb N u (M.2 i)) r) ?_ hrec
          and_intros
          all_goals (first | exact zI | (exact hd) | (exact cw) | (exact cL) | (exact hq) | (intros;exact ca) | (intro h;exact h) | (intro t ht;simp [All];done) | (simp;omega))
    have hlo:=lo M.1 0 (by omega)
    rw [hn0] at hlo
    refine pcD hc (nnz g nb N u L M) ?_ hlo
    and_intros
    all_goals (first | exact zI | (exact c1) | (exact c2) | (intro t ht;simp [All];done) | (simp;done))
def MsOk (N:Int) (r:NB):Prop:=∀ j,j<r.1→0≤(r.2 j).1∧(r.2 j).1<(r.2 j).2.1∧(r.2 j).2.1<N
theorem sn_ok {N:Int} {r:NB} {x:T_Bar} (h:MsOk N r) (hx:0≤x.1∧x.1<x.2.1∧x.2.1<N):MsOk N (sn r x):=by
  intro j hj
  have hj:j<r.1+1:=hj
  by_cases e:j<r.1
  · have:=h j e
    show 0≤(snoc r.1 r.2 x j).1∧_
    simpa [sn,snoc,e] using this
  · simpa [sn,snoc,e] using hx
theorem msI_ok {v:T_Graph} {a:Nat} {r:NB} (h:MsOk v.1 r):∀ j,(j+a+1:Nat)≤v.1→MsOk v.1 (msI v a r j)
  | 0,_=>h
  | j+1,hj=>by
    have ih:=msI_ok (a:=a) h j (by omega)
    simp only [msI]
    split
    · exact sn_ok ih ⟨by show (0:Int)≤(a:Int);omega,by show (a:Int)<((a+1+j:Nat):Int);omega,by show ((a+1+j:Nat):Int)<v.1;omega⟩
    · exact ih
theorem msO_ok {v:T_Graph} (hv:1≤v.1):∀ a,a≤v.1.toNat→MsOk v.1 (msO v a)
  | 0,_=>fun j hj=>absurd hj (Nat.not_lt_zero _)
  | a+1,ha=>msI_ok (msO_ok hv a (by omega)) (v.1.toNat - (a+1)) (by omega)
theorem msP_ok {v:T_Graph} (hg:isGraphF v=true):MsOk v.1 (msP v):=by
  unfold msP
  rw [if_pos hg]
  have:=graph_inR hg
  exact msO_ok (by omega) _ (Nat.le_refl _)
theorem nxF_ok {g:Nat→T_Bar} {nb N:Nat} {u:T_IntS} {M:NB} (hM:MsOk N M):∀ i,i≤M.1→(0≤(nxF g nb N u M i).1.1∧(nxF g nb N u M i).1.1≤(nxF g nb N u M i).1.2.1∧(nxF g nb N u M i).1.2.1≤N)
  | 0,_=>⟨Int.le_refl _,Int.le_refl _,by show (0:Int)≤N;omega⟩
  | i+1,hi=>by
    simp only [nxF]
    split
    · have:=hM i (by omega)
      exact ⟨this.1,Int.le_of_lt this.2.1,Int.le_of_lt this.2.2⟩
    · exact nxF_ok hM i (by omega)
theorem nxR_ok {g:Nat→T_Bar} {nb N:Nat} {u:T_IntS} (hg:isGraphF ((N:Int),(nb,g),())=true):0≤(nxR g nb N u).1.1∧(nxR g nb N u).1.1≤(nxR g nb N u).1.2.1∧(nxR g nb N u).1.2.1≤N:=by
  unfold nxR
  split
  · exact ⟨Int.le_refl _,Int.le_refl _,by show (0:Int)≤N;omega⟩
  · exact nxF_ok (msP_ok hg) _ (Nat.le_refl _)
theorem con_l31 (x:T_Bar) (h0:-9223372036854775808≤x.1∧x.1≤9223372036854775807) (h1:-9223372036854775808≤x.2.1∧x.2.1≤9223372036854775807) :
    zE 106 [.p (.seq true 2 1 (fun _=>[.int .i64 x.1,.int .i64 x.2.1]))] [] (.p (.str ((((kSn++sSp)++fmtI x.1)++kDash)++fmtI x.2.1))):=by
  have c1:=con_FormatInt_s x.1 h0.1 h0.2
  have c2:=con_FormatInt_s x.2.1 h1.1 h1.2
  have s1:=fmt_size x.1
  have s2:=fmt_size x.2.1
  generalize fmtI x.1=fa at *
  generalize fmtI x.2.1=fb at *
  have z1:(ByteArray.mk #[]).size=0:=rfl
  have z2:(ByteArray.mk #[32]).size=1:=rfl
  refine csZ Tryz.func106 (fun c hc=>?_)
  refine pkZ Tryz.func106 hc (l31 x fa fb) ?_
  and_intros
  all_goals (first | exact zN | (exact c1) | (exact c2) | (simp only [ByteArray.size_append,kDash_z,z1,z2];omega) | (simp;done))
noncomputable def slF (v:T_Graph) (u:T_IntS):ByteArray :=
  if anF v u=true then
    let s:=((kLocS++fsB 1 (fun _=>locF v u))++kOrdS)++nlB (trF v.2.1.2 v.2.1.1 v.1.toNat u)
    if (nxR v.2.1.2 v.2.1.1 v.1.toNat u).2=true then s++((kMeaS++sSp)++enB (nxR v.2.1.2 v.2.1.1 v.1.toNat u).1) else s
  else kSn
theorem locF_in (v:T_Graph) (u:T_IntS):(locF v u).1≤8∧∀ i,i<(locF v u).1→0≤(locF v u).2 i∧(locF v u).2 i<8:=by
  unfold locF
  by_cases h:(agV v u).2=true∧3≤u.1
  · rw [if_pos h]
    have hN:=(agV_ok h.1).2.1
    have:=stD_n (locW v u) v.1.toNat
    refine ⟨by omega,fun i hi=>?_⟩
    have:=stD_rn (locW v u) v.1.toNat i hi
    omega
  · rw [if_neg h]
    exact ⟨Nat.zero_le _,fun i hi=>absurd hi (Nat.not_lt_zero _)⟩
theorem an_N {v:T_Graph} {u:T_IntS} (h:anF v u=true):isGraphF v=true∧((v.1.toNat:Nat):Int)=v.1∧v.1.toNat≤8∧anF ((v.1.toNat:Int),(v.2.1.1,v.2.1.2),()) u=true∧graphA v=grG v.2.1.2 v.2.1.1 v.1.toNat:=by
  have h2:=h
  unfold anF simpleF at h2
  simp only [Bool.and_eq_true] at h2
  have:=graph_inR h2.2.2
  have hN:((v.1.toNat:Nat):Int)=v.1:=by omega
  exact ⟨h2.2.2,hN,by omega,by rw [hN];exact h,by unfold grG;rw [hN];rfl⟩
theorem kSn_s:kSn++sSp=sSp:=by rfl
theorem con_SLine_i (v:T_Graph) (hs:smS s_Graph v) (u:T_IntS) (hu:u.1≤1048576) :
    zE 26 [graphA v,inL u] [] (.p (.str (slF v u))):=by
  have ca:=con_Anch_i v hs u hu
  unfold slF
  cases hA:anF v u with
  | false =>
    rw [hA] at ca
    rw [if_neg Bool.false_ne_true]
    refine csZ Tryz.func26 (fun c hc=>?_)
    refine pkZ Tryz.func26 hc (slN v u) ?_
    and_intros
    all_goals (first | exact zN | (exact ca) | rfl)
  | true =>
    rw [hA] at ca
    rw [if_pos rfl]
    obtain ⟨hg,hN,hN8,hA',hgv⟩:=an_N hA
    have c1:=con_Loc_i v hs u hu
    have c2:=con_Tri_i hA'
    have c3:=con_Next_i hA'
    rw [← hgv] at c2 c3
    have l1:=locF_in v u
    have l2:=trF_in v.2.1.2 v.2.1.1 v.1.toNat u
    have l3:=nxR_ok (u:=u) (g:=v.2.1.2) (nb:=v.2.1.1) (N:=v.1.toNat) (by rw [hN];exact hg)
    have c4:=con_FormatSets_i 1 (fun _=>locF v u) (by omega) (fun i hi=>⟨by show (locF v u).1≤_;omega,fun i hi=>by have:=l1.2 i hi;show _≤(locF v u).2 i∧(locF v u).2 i≤_;omega⟩)
    have z4:=fs1_size (locF v u) l1.1
    have c5:=con_listed (trF v.2.1.2 v.2.1.1 v.1.toNat u) (by omega) (fun i hi=>by have:=l2.2 i hi;omega)
    have z5:=nlB_le (trF v.2.1.2 v.2.1.1 v.1.toNat u)
    have c6:=con_ends (nxR v.2.1.2 v.2.1.1 v.1.toNat u).1 (by omega) (by omega)
    have z6:=enB_size (nxR v.2.1.2 v.2.1.1 v.1.toNat u).1
    generalize hL:locF v u=L at *
    generalize trF v.2.1.2 v.2.1.1 v.1.toNat u=O at *
    generalize nxR v.2.1.2 v.2.1.1 v.1.toNat u=X at *
    generalize fsB 1 (fun _=>L)=fl at *
    generalize nlB O=fo at *
    generalize enB X.1=en at *
    show Con _ _ _ _ _ _ (.p (.str (if X.2=true then (((kLocS++fl)++kOrdS)++fo)++((kMeaS++sSp)++en) else ((kLocS++fl)++kOrdS)++fo)))
    have hl1:=con_line_ls 4 [kLoc,fl,kOrd,fo] rfl (by omega) 1000000 (by omega) (by
      intro s hs;simp only [List.mem_cons,List.not_mem_nil,or_false] at hs
      rcases hs with rfl | rfl | rfl | rfl
      · show 7≤_;omega
      · omega
      · show 5≤_;omega
      · omega)
    have e1:joinB sSp (lsF 4 [kLoc,fl,kOrd,fo]) 4=((kLocS++fl)++kOrdS)++fo:=by
      rw [show (4:Nat)=2+2 from rfl,join_s,join_3]
      show ((((((kLoc++sSp)++fl)++sSp)++kOrd)++sSp)++fo)=_
      rw [show kLocS=kLoc++sSp from rfl,show kOrdS=(sSp++kOrd)++sSp from rfl]
      simp only [ByteArray.append_assoc]
    rw [e1] at hl1
    have zs1:(((kLocS++fl)++kOrdS)++fo).size≤2000:=by simp only [ByteArray.size_append];show 8+fl.size+7+fo.size≤_;omega
    generalize ((kLocS++fl)++kOrdS)++fo=s1 at *
    have hl2:=con_ifSo_2 s1 X.2 kMea en (by omega) (by show 7≤_;omega) (by omega)
    have e2:(((sSp++kMea)++sSp)++en)=(kMeaS++sSp)++en:=by rw [show kMeaS=sSp++kMea from rfl]
    rw [e2] at hl2
    generalize (if X.2=true then s1++((kMeaS++sSp)++en) else s1)=s2 at *
    refine csZ Tryz.func26 (fun c hc=>?_)
    refine pkZ Tryz.func26 hc (slR v u L O X.1 X.2 fl fo s1 en s2) ?_
    and_intros
    iterate 2 all_goals (first | exact zI | (exact ca) | (exact c1) | (exact c2) | (exact c3) | (exact c4) | (exact c5) | (exact c6) | (exact hl1) | (exact hl2) | (intro h;exact h) | (intro i hi;simp [All];done) | (simp;done) | simp only [All])
theorem con_SLine_s (v:T_Graph) (hs:smS s_Graph v) (u:T_IntS) (hu:u.1≤1048576) :
    zE 24 [graphA v,inL u] [] (.p (.str (slF v u))):=by
  have ca:=con_Anch_s v hs u hu
  unfold slF
  cases hA:anF v u with
  | false =>
    rw [hA] at ca
    rw [if_neg Bool.false_ne_true]
    refine csZ Tryz.func24 (fun c hc=>?_)
    refine pkZ Tryz.func24 hc (smN v u) ?_
    and_intros
    all_goals (first | exact zN | (exact ca) | rfl)
  | true =>
    rw [hA] at ca
    rw [if_pos rfl]
    obtain ⟨hg,hN,hN8,hA',hgv⟩:=an_N hA
    have c1:=con_Loc_s v hs u hu
    have c2:=con_Tri_s hA'
    have c3:=con_Next_s hA'
    rw [← hgv] at c2 c3
    have l1:=locF_in v u
    have l2:=trF_in v.2.1.2 v.2.1.1 v.1.toNat u
    have l3:=nxR_ok (u:=u) (g:=v.2.1.2) (nb:=v.2.1.1) (N:=v.1.toNat) (by rw [hN];exact hg)
    have c4:=con_FormatSets_s 1 (fun _=>locF v u) (by omega) (fun i hi=>⟨by show (locF v u).1≤_;omega,fun i hi=>by have:=l1.2 i hi;show _≤(locF v u).2 i∧(locF v u).2 i≤_;omega⟩)
    have z4:=fs1_size (locF v u) l1.1
    have c5:=con_l33Numbers (trF v.2.1.2 v.2.1.1 v.1.toNat u) (by omega) (fun i hi=>by have:=l2.2 i hi;omega)
    have z5:=nlB_le (trF v.2.1.2 v.2.1.1 v.1.toNat u)
    have c6:=con_l31 (nxR v.2.1.2 v.2.1.1 v.1.toNat u).1 (by omega) (by omega)
    have s6:=fmt_size (nxR v.2.1.2 v.2.1.1 v.1.toNat u).1.1
    have s7:=fmt_size (nxR v.2.1.2 v.2.1.1 v.1.toNat u).1.2.1
    have een:enB (nxR v.2.1.2 v.2.1.1 v.1.toNat u).1=(fmtI (nxR v.2.1.2 v.2.1.1 v.1.toNat u).1.1++kDash)++fmtI (nxR v.2.1.2 v.2.1.1 v.1.toNat u).1.2.1:=by
      unfold enB
      rw [if_neg (by omega)]
      by_cases e:(nxR v.2.1.2 v.2.1.1 v.1.toNat u).1.2.1>(nxR v.2.1.2 v.2.1.1 v.1.toNat u).1.1
      · rw [if_pos e]
      · rw [if_neg e,show (nxR v.2.1.2 v.2.1.1 v.1.toNat u).1.2.1=(nxR v.2.1.2 v.2.1.1 v.1.toNat u).1.1 by omega]
    rw [een]
    generalize hL:locF v u=L at *
    generalize trF v.2.1.2 v.2.1.1 v.1.toNat u=O at *
    generalize nxR v.2.1.2 v.2.1.1 v.1.toNat u=X at *
    generalize fsB 1 (fun _=>L)=fl at *
    generalize nlB O=fo at *
    generalize fmtI X.1.1=fa at *
    generalize fmtI X.1.2.1=fb at *
    show Con _ _ _ _ _ _ (.p (.str (if X.2=true then (((kLocS++fl)++kOrdS)++fo)++((kMeaS++sSp)++((fa++kDash)++fb)) else ((kLocS++fl)++kOrdS)++fo)))
    have z1:(ByteArray.mk #[108,111,99,97,116,101,100,32]).size=8:=rfl
    have z2:(ByteArray.mk #[32,111,114,100,101,114,32]).size=7:=rfl
    have z3:(ByteArray.mk #[32,109,101,97,115,117,114,101]).size=8:=rfl
    have z7:((((kSn++sSp)++fa)++kDash)++fb).size≤100:=by simp only [ByteArray.size_append];show 0+1+fa.size+1+fb.size≤_;omega
    have efin:(((((kLocS++fl)++kOrdS)++fo)++kMeaS)++((((kSn++sSp)++fa)++kDash)++fb))=(((kLocS++fl)++kOrdS)++fo)++((kMeaS++sSp)++((fa++kDash)++fb)):=by
      rw [kSn_s];simp only [ByteArray.append_assoc]
    refine csZ Tryz.func24 (fun c hc=>?_)
    cases hx:X.2 with
    | true =>
      rw [if_pos rfl,← efin]
      unfold nxA at c3
      rw [hx] at c3
      generalize ((((kSn++sSp)++fa)++kDash)++fb)=en at *
      refine pkZ Tryz.func24 hc (smT v u L O X.1 fl fo en) ?_
      and_intros
      iterate 2 all_goals (first | exact zI | (exact ca) | (exact c1) | (exact c2) | (exact c3) | (exact c4) | (exact c5) | (exact c6) | (intro h;exact h) | (simp only [ByteArray.size_append,z1,z2,z3];omega) | (intro i hi;simp [All];done) | (simp;done) | simp only [All])
    | false =>
      rw [if_neg Bool.false_ne_true]
      unfold nxA at c3
      rw [hx] at c3
      refine pkZ Tryz.func24 hc (smF v u L O X.1 fl fo) ?_
      and_intros
      iterate 2 all_goals (first | exact zI | (exact ca) | (exact c1) | (exact c2) | (exact c3) | (exact c4) | (exact c5) | (intro h;exact h) | (simp only [ByteArray.size_append,z1,z2,z3];omega) | (intro i hi;simp [All];done) | (simp;done) | simp only [All])
theorem p_FnExactSensorLine_l0 (v0:T_Graph) (v1:T_IntS) :
    zS Tryz.f5 [rg 2,rg 3,.dec true,rg 1] [(zf91 v0),.p (.seq true 1 v1.1 (iRw v1))] [] [] (.p (.bool true)) =
    some [((decide ((↑v1.1:Int)>1048576))=true),(true=true)]:=by kernel_rfl
theorem p_FnExactSensorLine_0 (v0:T_Graph) (v1:T_IntS) :
    zS Tryz.f5 [rg 2,rg 3,.dec false,rg 1,rm [(2,oc [] (.p (.int .i64 (f_szGraph v0 1048576))))] 1,rg 2,.dec true,rg 1] [(zf91 v0),.p (.seq true 1 v1.1 (iRw v1))] [] [] (.p (.bool true)) =
    some [((decide ((↑v1.1:Int)>1048576))=false),(NT 0 1),zE 11 [(zf91 v0),.p (.int .i64 1048576)] [] (.p (.int .i64 (f_szGraph v0 1048576))),((decide (f_szGraph v0 1048576<0))=true),(true=true)]:=by kernel_rfl
theorem p_FnExactSensorLine_e (v0:T_Graph) (v1:T_IntS) :
    zS Tryz.f5 [rg 2,rg 3,.dec false,rg 1,rm [(2,oc [] (.p (.int .i64 (f_szGraph v0 1048576))))] 1,rg 2,.dec false,rm [(1,oc (zf96 v0) (.agg [.p (.int .i64 v0.1),.ar 2 0 0 v0.2.1.1])),(1,oc [(0,⟨false,1,v1.1,fun i=>[.p (.int .i64 (v1.2 i))]⟩)] (.ar 1 0 0 v1.1)),(0,oc [] (.p (.str (slF v0 v1))))] 1,rm [(1,oc (zf96 v0) (.agg [.p (.int .i64 v0.1),.ar 2 0 0 v0.2.1.1]))] 2,rm [(1,oc [(0,⟨false,1,v1.1,fun i=>[.p (.int .i64 (v1.2 i))]⟩)] (.ar 1 0 0 v1.1))] 1,rm [(2,oc [] (.p (.str (slF v0 v1))))] 1,rg 3,.dec false,rm [(2,oc (zf96 v0) (.agg [.p (.int .i64 v0.1),.ar 2 0 0 v0.2.1.1])),(0,oc [] (.p (.bool true)))] 1,.dec false,rm [(2,oc [(0,⟨false,1,v1.1,fun i=>[.p (.int .i64 (v1.2 i))]⟩)] (.ar 1 0 0 v1.1)),(0,oc [] (.p (.bool true)))] 1,.dec false,rg 1] [(zf91 v0),.p (.seq true 1 v1.1 (iRw v1))] [] [] (.p (.bool true)) =
    some (zD [((decide ((↑v1.1:Int)>1048576))=false),(NT 0 1),zE 11 [(zf91 v0),.p (.int .i64 1048576)] [] (.p (.int .i64 (f_szGraph v0 1048576))),((decide (f_szGraph v0 1048576<0))=false),zE 13 [(zf91 v0)] (zf95 v0) (.agg [.p (.int .i64 v0.1),.ar 2 0 0 v0.2.1.1]),zE 25 [.p (.seq true 1 v1.1 (iRw v1))] [(0,⟨false,1,v1.1,(fun i=>[.p (.int .i64 (v1.2 i))])⟩)] (.ar 1 0 0 v1.1),(AN 2),(NL v0.2.1.1 v0.2.1.1),(AN 1),(NL v1.1 v1.1),zE 24 [(zf91 v0),.p (.seq true 1 v1.1 (iRw v1))] [] (.p (.str (slF v0 v1))),((true=true)→ (AN 1)),zE 26 [(zf91 v0),.p (.seq true 1 v1.1 (iRw v1))] [] (.p (.str (slF v0 v1))),((!(slF v0 v1).toList==(slF v0 v1).toList)=false),zE 16 [(zf91 v0),(zf91 v0)] [] (.p (.bool true)),((!true)=false),zE 27 [.p (.seq true 1 v1.1 (iRw v1)),.p (.seq true 1 v1.1 (iRw v1))] [] (.p (.bool true)),(true=true)] [0,1,2,3,1,4,5,6,7,8,9,10,1,4,1,11,5,1,6,7,8,9,12,13,1,1,4,6,7,6,7,14,15,5,8,9,8,9,16,15,17]):=by kernel_rfl
theorem con_law_FnExactSensorLine (v0:T_Graph) (v1:T_IntS) (k0:okS s_Graph v0) (k1:okS s_IntS v1):zE 5 [(zf91 v0),.p (.seq true 1 v1.1 (fun i=>[.int .i64 (v1.2 i)]))] [] (.p (.bool true)):=by
  refine csZ Tryz.func5 (fun c hc=>?_)
  by_cases gl0:1048576<v1.1
  · refine pkZ Tryz.func5 hc (p_FnExactSensorLine_l0 v0 v1) ?_
    and_intros
    all_goals (first | exact zN | (simp;omega))
  have hs1:smS s_IntS v1:=⟨by omega,fun i hi=>by simp [smS]⟩
  have l0:=le_szGraph v0 1048576 (by omega)
  by_cases g0:(f_szGraph v0 1048576)<0
  · refine pkZ Tryz.func5 hc (p_FnExactSensorLine_0 v0 v1) ?_
    and_intros
    all_goals (first | exact zN | (exact con_szGraph v0 k0 _ (by omega) (by omega)) | (simp;omega))
  have hs0:=sm_szGraph v0 1048576 (by omega) (by omega) g0
  refine pkD Tryz.func5 hc (p_FnExactSensorLine_e v0 v1) ?_
  and_intros
  all_goals (first | exact zI | (exact con_szGraph v0 k0 _ (by omega) (by omega)) | (exact con_toGraph v0 hs0) | (exact con_toIntS v1 hs1) | (exact con_SLine_s v0 hs0 v1 hs1.1) | (exact con_SLine_i v0 hs0 v1 hs1.1) | (exact con_eqGraph v0 hs0) | (exact con_eqIntS v1 hs1) | (simp;try omega))
end Go.Proofs.YtkkjoghiigiokaaGreat.Mach
