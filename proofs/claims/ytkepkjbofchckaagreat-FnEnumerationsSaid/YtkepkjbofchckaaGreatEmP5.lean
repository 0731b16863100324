/- What the law Em needs, part 5 of 6: the abstract machine and the contracts of the functions. Conditions: as each theorem says. -/
import Derived.Laws.Strings
import Derived.Test.YtkepkjbofchckaaGreatEmP4
namespace Go.Proofs.YtkepkjbofchckaaGreat.Mach
open Go
set_option linter.unusedVariables false
set_option linter.unusedSimpArgs false
def blOb (n:Nat) (K:Nat→Bool):Ob:=⟨false,1,n,fun i=>[.p (.bool (K i))]⟩
def Rz0 (g:Nat→T_Bar) (nb N:Nat) (b:Bool) (s:Nat→Bool):St :=
  ⟨[grG g nb N,.p (.int .i64 0),.pt 2 0 0 0,.p .any,.p .any,.ar 1 1 0 N,.p (.bool b)]++List.replicate 37 anyA,[(0,bxG g nb N),(1,blOb N s)],2⟩
def Rz1 (g:Nat→T_Bar) (nb N:Nat) (b:Bool) (k:Nat) (s:Nat→Bool):St :=
  ⟨[grG g nb N,.p (.int .i64 0),.pt 2 0 0 0,.p .any,.p .any,.ar 1 1 0 N,.p (.bool b)]++List.replicate 10 anyA++[brL g nb,.p (.int .i64 nb),.p (.int .i64 k)]++List.replicate 24 anyA,[(0,bxG g nb N),(1,blOb N s)],2⟩
def Q0 (g:Nat→T_Bar) (nb N:Nat) (s:Nat→Bool) (k c:Nat) (f:Nat→Int):St :=
  ⟨[grG g nb N,.p (.int .i64 0),.pt 2 0 0 0,.p .any,.p .any,.ar 1 1 0 c]++List.replicate 15 anyA++[.ar 1 2 0 N,.p (.int .i64 N),.p (.int .i64 k)]++List.replicate 11 anyA,[(0,bxG g nb N),(1,iOb c f),(2,blOb N s)],3⟩
def P0 (g:Nat→T_Bar) (nb N:Nat) (n:Nat) (s:Nat→Bool):St :=
  ⟨[grG g nb N,.p (.int .i64 0),.pt 2 0 0 0,.p .any,.p .any,.ar 1 1 0 0,.ar 1 2 0 N,.p (.int .i64 n)]++List.replicate 87 anyA,[(0,bxG g nb N),(1,iOb 0 (fun _=>0)),(2,blOb N s)],3⟩
def P1 (g:Nat→T_Bar) (nb N:Nat) (n k:Nat) (s:Nat→Bool):St :=
  ⟨[grG g nb N,.p (.int .i64 0),.pt 2 0 0 0,.p .any,.p .any,.ar 1 1 0 0,.ar 1 2 0 N,.p (.int .i64 n),.p (.int .i64 k)]++List.replicate 86 anyA,[(0,bxG g nb N),(1,iOb 0 (fun _=>0)),(2,blOb N s)],3⟩
def P2 (g:Nat→T_Bar) (nb N:Nat) (s:Nat→Bool) (i c:Nat) (f:Nat→Int):St :=
  ⟨[grG g nb N,.p (.int .i64 0),.pt 2 0 0 0,.p .any,.p .any,.ar 1 1 0 c,.ar 1 2 0 N,.p .any,.p .any,.p (.int .i64 i)]++List.replicate 85 anyA,[(0,bxG g nb N),(1,iOb c f),(2,blOb N s)],3⟩
theorem rcz (g:Nat→T_Bar) (nb N:Nat) :
    zT Tryz.f237 [rg 2,rg 4,rg 4,rg 1,.head] [grG g nb N,.p (.int .i64 0)] [0,128] (Rz0 g nb N true (fun u=>decide (u=0))) =
    some (zf45,[(NT 0 1),(IL 0 (↑N:Int)),(IL (↑N:Int) (↑N:Int)),(IL ((↑N:Int)*(↑1:Int)) 281474976710656),(ZHi (↑N:Int)),(IL 0 0),(IT 0 (↑N:Int)),(NT 0 N),((false=true)→ ((N:Nat)=1)),(AI ((↑N:Int))),(AN nb),(AP nb (bRw g)),(AI 0),(AN 0),(AN 0),(AN N),(true=true),((([AV.p (PV.int IntKind.i64 (↑N:Int)),brL g nb].length):Nat)=2),(NL 1 1),(NL 1 1),(AI ((↑N:Int))),(AN nb),(AP nb (bRw g)),(AN 1),(NL N N),(CV [(128,⟨false,1,N,(fun i_1=>(if (i_1=0) then [.p (.bool true)] else [.p (.bool false)]))⟩),(0,⟨true,2,1,(fun i_1=>[.p (.int .i64 (↑N:Int)),.p (.seq true 2 nb (bRw g))])⟩)] [0,128] 1 N (fun i=>if (i=0) then [.p (.bool true)] else [.p (.bool false)]) (fun i=>[.p (.bool (decide (i=0)))]))]):=by kernel_rfl
theorem rco (g:Nat→T_Bar) (nb N:Nat) (s:Nat→Bool) :
    zM 0 [rg 1,.dec true,rg 1,rg 4,.head] zf45 (Rz0 g nb N true s) [0,1] 1 (Rz1 g nb N false 0 s) =
    some (zf18,zD [(true=true),(NT 0 1),(AI ((↑N:Int))),(AN nb),(AP nb (bRw g)),(AI 0),(AN 0),(AN N),(false=false),(AI ((↑nb:Int))),((0:Int)=(↑0:Int)),(AN 2),(NL 1 1),(AN 1),(NL N N),(AA N (fun i=>[.p (.bool (s i))]))] [0,1,2,3,4,5,6,6,7,8,3,4,9,10,11,12,12,2,3,4,13,14,15]):=by kernel_rfl
theorem rct (g:Nat→T_Bar) (nb N:Nat) (b:Bool) (k:Nat) (s:Nat→Bool) :
    zM 0 [rg 1,.dec true,rg 4,rg 11,.dec true,rg 5,rg 5,rg 1,rg 2,.head] zf18 (Rz1 g nb N b k s) [0,1] 1 (Rz1 g nb N true (k+1) (fun v=>if v=(g k).2.1.toNat then true else if v=(g k).1.toNat then true else s v)) =
    some (zf18,zD [((decide ((↑k:Int)<(↑nb:Int)))=true),(IL 0 (↑k:Int)),(IT (↑k:Int) (↑nb:Int)),(NT 0 1),((true=true)→ (AN 1)),(IL 0 ((g k).1)),(IT ((g k).1) (↑N:Int)),(NT ((g k).1.toNat) N),(IL 0 ((g k).2.1)),(IT ((g k).2.1) (↑N:Int)),(NT ((g k).2.1.toNat) N),((!s (g k).1.toNat==s (g k).2.1.toNat)=true),((false=true)→ ((N:Nat)=1)),(ZLo ((↑k:Int)+1)),(ZHi ((↑k:Int)+1)),(AI ((↑N:Int))),(AN nb),(AP nb (bRw g)),(AI 0),(AN 0),(AN N),(true=true),(AI ((↑nb:Int))),((((↑k:Int)+1):Int)=(↑(k+1):Int)),(AN 2),(NL 1 1),(AN 1),(NL N N),(CV [(1,⟨false,1,N,(fun i_1=>(if (i_1=(g k).2.1.toNat) then [.p (.bool true)] else (if (i_1=(g k).1.toNat) then [.p (.bool true)] else [.p (.bool (s i_1))])))⟩),(98,⟨true,2,1,(fun i_1=>[.p (.int .i64 ((g k).1)),.p (.int .i64 ((g k).2.1))])⟩),(0,⟨true,2,1,(fun i_1=>[.p (.int .i64 (↑N:Int)),.p (.seq true 2 nb (bRw g))])⟩)] [0,1] 1 N (fun i=>if (i=(g k).2.1.toNat) then [.p (.bool true)] else (if (i=(g k).1.toNat) then [.p (.bool true)] else [.p (.bool (s i))])) (fun i=>[.p (.bool (if i=(g k).2.1.toNat then true else if i=(g k).1.toNat then true else s i))]))] [0,1,2,3,4,3,5,6,7,3,8,9,10,11,3,5,6,7,12,3,8,9,10,12,13,14,15,16,17,18,19,19,20,21,16,17,22,23,24,25,25,15,16,17,26,27,28]):=by kernel_rfl
theorem rcf (g:Nat→T_Bar) (nb N:Nat) (b:Bool) (k:Nat) (s:Nat→Bool) :
    zM 0 [rg 1,.dec true,rg 4,rg 11,.dec false,rg 2,.head] zf18 (Rz1 g nb N b k s) [0,1] 1 (Rz1 g nb N b (k+1) s) =
    some (zf18,[((decide ((↑k:Int)<(↑nb:Int)))=true),(IL 0 (↑k:Int)),(IT (↑k:Int) (↑nb:Int)),(NT 0 1),((true=true)→ (AN 1)),(NT 0 1),(IL 0 ((g k).1)),(IT ((g k).1) (↑N:Int)),(NT ((g k).1.toNat) N),(NT 0 1),(IL 0 ((g k).2.1)),(IT ((g k).2.1) (↑N:Int)),(NT ((g k).2.1.toNat) N),((!s (g k).1.toNat==s (g k).2.1.toNat)=false),(ZLo ((↑k:Int)+1)),(ZHi ((↑k:Int)+1)),(AI ((↑N:Int))),(AN nb),(AP nb (bRw g)),(AI 0),(AN 0),(AN 0),(AN N),(b=b),(AN nb),(AP nb (bRw g)),(AI ((↑nb:Int))),((((↑k:Int)+1):Int)=(↑(k+1):Int)),(AN 2),(NL 1 1),(NL 1 1),(AI ((↑N:Int))),(AN nb),(AP nb (bRw g)),(AN 1),(NL N N),(AA N (fun i=>[.p (.bool (s i))]))]):=by kernel_rfl
theorem rcx (g:Nat→T_Bar) (nb N:Nat) (b:Bool) (k:Nat) (s:Nat→Bool) :
    zM 0 [rg 1,.dec false,.head] zf18 (Rz1 g nb N b k s) [0,1] 1 (Rz0 g nb N b s) =
    some (zf45,zD [((decide ((↑k:Int)<(↑nb:Int)))=false),(AI ((↑N:Int))),(AN nb),(AP nb (bRw g)),(AI 0),(AN 0),(AN N),(b=b),(AN 2),(NL 1 1),(AN 1),(NL N N),(AA N (fun i=>[.p (.bool (s i))]))] [0,1,2,3,4,5,5,6,7,8,9,9,1,2,3,10,11,12]):=by kernel_rfl
theorem rce (g:Nat→T_Bar) (nb N:Nat) (s:Nat→Bool) :
    zP Tryz.f237 0 [rg 1,.dec false,rg 2] zf45 (Rz0 g nb N false s) [1] 1 [(0,blOb N s)] (.ar 1 0 0 N) =
    some [(false=false),(AN 0),(AN N),(AN 1),(NL N N),(AA N (fun i=>[.p (.bool (s i))])),(AE N)]:=by kernel_rfl
theorem roz (g:Nat→T_Bar) (nb N:Nat) (s:Nat→Bool) :
    zT Tryz.f233 [rg 2,rg 2,rm [(1,oc [] (.p (.bool true))),(4,oc [] (.p (.bool true)))] 2,.dec false,rm [(2,oc [(0,blOb N s)] (.ar 1 0 0 N))] 2,.head] [grG g nb N,.p (.int .i64 0)] [0,64,480] (Q0 g nb N s 0 0 (fun _=>0)) =
    some (zf46,zD [(NT 0 1),zE 130 [(zf101 N nb g)] [] (.p (.bool true)),(((!!true)=true)→(NT 0 1)),(AG (!!true)),(((!!true)=true)→ zE 148 [(zf101 N nb g),.p (.int .i64 0)] [] (.p (.bool true))),(((!true)=false)→ ((!!true)=true)),((bif !true then true else !true)=false),zE 237 [(zf101 N nb g),.p (.int .i64 0)] [(0,⟨false,1,N,(fun i=>[.p (.bool (s i))])⟩)] (.ar 1 0 0 N),(AI ((↑N:Int))),(AN nb),(AP nb (bRw g)),(AI 0),(AN 0),(AN N),((0:Int)=(↑0:Int)),((([AV.p (PV.int IntKind.i64 (↑N:Int)),brL g nb].length):Nat)=2),(NL 1 1),(AN 1),(NL 0 0),(AA 0 (fun i=>[.p (.int .i64 0)])),(NL N N),(AA N (fun i=>[.p (.bool (s i))]))] [0,1,2,3,3,4,3,5,6,0,7,8,9,10,11,12,12,12,12,13,8,14,15,16,16,8,9,10,17,18,19,17,20,21]):=by kernel_rfl
theorem rot (g:Nat→T_Bar) (nb N:Nat) (s:Nat→Bool) (k c:Nat) (f:Nat→Int) :
    zM 0 [rg 1,.dec true,rg 5,rg 1,.dec true,rg 5,rg 2,.head] zf46 (Q0 g nb N s k c f) [0,323,2] 1 (Q0 g nb N s (k+1) (c+1) (fun t=>if t<c then f t else k)) =
    some (zf46,[((decide ((↑k:Int)<(↑N:Int)))=true),(IL 0 (↑k:Int)),(IT (↑k:Int) (↑N:Int)),(NT k N),((s k)=true),(NL 1 1),(NL c c),(NL ((c+1)*8) 140737488355328),(NL (c+1) 9223372036854775807),(ZLo ((↑k:Int)+1)),(ZHi ((↑k:Int)+1)),(AI ((↑N:Int))),(AN nb),(AP nb (bRw g)),(AI 0),(AN 0),(AN 0),(AN ((c+1))),(AN 0),(AN N),(AI ((↑N:Int))),((((↑k:Int)+1):Int)=(↑(k+1):Int)),(AN 2),(NL 1 1),(NL 1 1),(AI ((↑N:Int))),(AN nb),(AP nb (bRw g)),(AN 1),(NL (c+1) (c+1)),(CV [(323,⟨false,1,(c+1),(fun i_1=>(if (i_1<c) then [.p (.int .i64 (f i_1))] else [.p (.int .i64 (↑k:Int))]))⟩),(291,⟨false,1,1,(fun i_1=>[.p (.int .i64 (↑k:Int))])⟩),(0,⟨true,2,1,(fun i_1=>[.p (.int .i64 (↑N:Int)),.p (.seq true 2 nb (bRw g))])⟩),(2,⟨false,1,N,(fun i_1=>[.p (.bool (s i_1))])⟩)] [0,323,2] 1 (c+1) (fun i=>if (i<c) then [.p (.int .i64 (f i))] else [.p (.int .i64 (↑k:Int))]) (fun i=>[.p (.int .i64 (if i<c then f i else (↑k:Int)))])),(AN 1),(NL N N),(AA N (fun i=>[.p (.bool (s i))]))]):=by kernel_rfl
theorem rof (g:Nat→T_Bar) (nb N:Nat) (s:Nat→Bool) (k c:Nat) (f:Nat→Int) :
    zM 0 [rg 1,.dec true,rg 5,rg 1,.dec false,rg 2,.head] zf46 (Q0 g nb N s k c f) [0,1,2] 1 (Q0 g nb N s (k+1) c f) =
    some (zf46,zD [((decide ((↑k:Int)<(↑N:Int)))=true),(IL 0 (↑k:Int)),(IT (↑k:Int) (↑N:Int)),(NT k N),((s k)=false),(ZLo ((↑k:Int)+1)),(ZHi ((↑k:Int)+1)),(AI ((↑N:Int))),(AN nb),(AP nb (bRw g)),(AI 0),(AN 0),(AN c),(AN N),((((↑k:Int)+1):Int)=(↑(k+1):Int)),(AN 2),(NL 1 1),(AN 1),(NL c c),(AA c (fun i=>[.p (.int .i64 (f i))])),(NL N N),(AA N (fun i=>[.p (.bool (s i))]))] [0,1,2,3,4,5,6,7,8,9,10,11,11,12,11,13,7,14,15,16,16,7,8,9,17,18,19,17,20,21]):=by kernel_rfl
theorem roe (g:Nat→T_Bar) (nb N:Nat) (s:Nat→Bool) (k c:Nat) (f:Nat→Int) :
    zP Tryz.f233 0 [rg 1,.dec false,rg 2] zf46 (Q0 g nb N s k c f) [1] 1 [(0,iOb c f)] (.ar 1 0 0 c) =
    some [((decide ((↑k:Int)<(↑N:Int)))=false),(AN 0),(AN c),(AN 1),(NL c c),(AA c (fun i=>[.p (.int .i64 (f i))])),(AE c)]:=by kernel_rfl
theorem rsz (g:Nat→T_Bar) (nb N:Nat) :
    zT Tryz.f235 [rg 2,rg 2,rm [(1,oc [] (.p (.bool true)))] 11,.dec false,rg 4,rg 4,rg 1,.head] [grG g nb N,.p (.int .i64 0)] [0,64,608] (P0 g nb N 0 (fun u=>decide (u=0))) =
    some (zf25,zD [(NT 0 1),zE 134 [(zf101 N nb g)] [] (.p (.bool true)),(AG (!!true)),(((!true)=false)→ ((!!true)=true)),(AG (!bif !true then true else decide (0<0))),(((!bif !true then true else decide (0<0))=true)→(NT 0 1)),(((bif !true then true else decide (0<0))=false)→ ((!bif !true then true else decide (0<0))=true)),((bif bif !true then true else decide (0<0) then true else decide (0≥(↑N:Int)))=false),(IL 0 (↑N:Int)),(IL (↑N:Int) (↑N:Int)),(IL ((↑N:Int)*(↑1:Int)) 281474976710656),(ZHi (↑N:Int)),(IL 0 0),(IT 0 (↑N:Int)),(NT 0 N),((false=true)→ ((N:Nat)=1)),(AI ((↑N:Int))),(AN nb),(AP nb (bRw g)),(AI 0),(AN 0),(AN N),((0:Int)=(↑0:Int)),((([AV.p (PV.int IntKind.i64 (↑N:Int)),brL g nb].length):Nat)=2),(NL 1 1),(AN 1),(NL 0 0),(AA 0 (fun i=>[.p (.int .i64 0)])),(NL N N),(CV [(608,⟨false,1,N,(fun i_1=>(if (i_1=0) then [.p (.bool true)] else [.p (.bool false)]))⟩),(64,⟨false,1,0,(fun i_1=>[.p (.int .i64 0)])⟩),(0,⟨true,2,1,(fun i_1=>[.p (.int .i64 (↑N:Int)),.p (.seq true 2 nb (bRw g))])⟩)] [0,64,608] 1 N (fun i=>if (i=0) then [.p (.bool true)] else [.p (.bool false)]) (fun i=>[.p (.bool (decide (i=0)))]))] [0,1,2,3,4,5,4,4,6,7,0,8,9,10,11,12,13,14,15,16,17,18,19,20,20,20,20,21,22,23,24,24,16,17,18,25,26,27,25,28,29]):=by kernel_rfl
theorem rso (g:Nat→T_Bar) (nb N n:Nat) (s:Nat→Bool) :
    zM 0 [rg 4,.dec true,rg 1,.head] zf25 (P0 g nb N n s) [0,1,2] 1 (P1 g nb N n 0 s) =
    some (zf11,zD [(NT 0 1),((decide ((↑n:Int)<(↑N:Int)))=true),(AI ((↑N:Int))),(AN nb),(AP nb (bRw g)),(AI 0),(AN 0),(AN N),(AI ((↑n:Int))),((0:Int)=(↑0:Int)),(AN 2),(NL 1 1),(AN 1),(NL 0 0),(AA 0 (fun i=>[.p (.int .i64 0)])),(NL N N),(AA N (fun i=>[.p (.bool (s i))]))] [0,1,2,3,4,5,6,6,6,6,7,8,9,10,11,11,2,3,4,12,13,14,12,15,16]):=by kernel_rfl
theorem rst (g:Nat→T_Bar) (nb N n k:Nat) (s:Nat→Bool) :
    zM 0 [rg 5,.dec true,rg 20,.dec true,rg 9,rg 9,rg 3,.head] zf11 (P1 g nb N n k s) [0,1,2] 1 (P1 g nb N n (k+1) (fun v=>if v=(g k).2.1.toNat then true else if v=(g k).1.toNat then true else s v)) =
    some (zf11,zD [(NT 0 1),((decide ((↑k:Int)<(↑nb:Int)))=true),(IL 0 (↑k:Int)),(IT (↑k:Int) (↑nb:Int)),(IL 0 ((g k).1)),(IT ((g k).1) (↑N:Int)),(NT ((g k).1.toNat) N),(AG (!s (g k).1.toNat)),(((!s (g k).1.toNat)=true)→(NT 0 1)),(((!s (g k).1.toNat)=true)→(IL 0 (↑k:Int))),(((!s (g k).1.toNat)=true)→(IT (↑k:Int) (↑nb:Int))),(((!s (g k).1.toNat)=true)→(IL 0 ((g k).2.1))),(((!s (g k).1.toNat)=true)→(IT ((g k).2.1) (↑N:Int))),(((!s (g k).1.toNat)=true)→(NT ((g k).2.1.toNat) N)),(((s (g k).1.toNat)=false)→ ((!s (g k).1.toNat)=true)),((bif s (g k).1.toNat then true else s (g k).2.1.toNat)=true),((false=true)→ ((N:Nat)=1)),(IL 0 ((g k).2.1)),(IT ((g k).2.1) (↑N:Int)),(NT ((g k).2.1.toNat) N),(ZLo ((↑k:Int)+1)),(ZHi ((↑k:Int)+1)),(AI ((↑N:Int))),(AN nb),(AP nb (bRw g)),(AI 0),(AN 0),(AN N),(AI ((↑n:Int))),((((↑k:Int)+1):Int)=(↑(k+1):Int)),(AN 2),(NL 1 1),(AN 1),(NL 0 0),(AA 0 (fun i=>[.p (.int .i64 0)])),(NL N N),(CV [(2,⟨false,1,N,(fun i_1=>(if (i_1=(g k).2.1.toNat) then [.p (.bool true)] else (if (i_1=(g k).1.toNat) then [.p (.bool true)] else [.p (.bool (s i_1))])))⟩),(0,⟨true,2,1,(fun i_1=>[.p (.int .i64 (↑N:Int)),.p (.seq true 2 nb (bRw g))])⟩),(1,⟨false,1,0,(fun i_1=>[.p (.int .i64 0)])⟩)] [0,1,2] 1 N (fun i=>if (i=(g k).2.1.toNat) then [.p (.bool true)] else (if (i=(g k).1.toNat) then [.p (.bool true)] else [.p (.bool (s i))])) (fun i=>[.p (.bool (if i=(g k).2.1.toNat then true else if i=(g k).1.toNat then true else s i))]))] [0,1,0,2,3,4,5,6,7,8,7,7,9,10,7,7,7,7,11,12,7,13,14,15,0,2,3,4,5,6,16,0,2,3,17,18,19,16,20,21,22,23,24,25,26,26,26,26,27,28,29,30,31,31,22,23,24,32,33,34,32,35,36]):=by kernel_rfl
theorem rsf (g:Nat→T_Bar) (nb N n k:Nat) (s:Nat→Bool) :
    zM 0 [rg 5,.dec true,rg 20,.dec false,rg 3,.head] zf11 (P1 g nb N n k s) [0,1,2] 1 (P1 g nb N n (k+1) s) =
    some (zf11,zD [(NT 0 1),((decide ((↑k:Int)<(↑nb:Int)))=true),(IL 0 (↑k:Int)),(IT (↑k:Int) (↑nb:Int)),(IL 0 ((g k).1)),(IT ((g k).1) (↑N:Int)),(NT ((g k).1.toNat) N),(AG (!s (g k).1.toNat)),(((!s (g k).1.toNat)=true)→(NT 0 1)),(((!s (g k).1.toNat)=true)→(IL 0 (↑k:Int))),(((!s (g k).1.toNat)=true)→(IT (↑k:Int) (↑nb:Int))),(((!s (g k).1.toNat)=true)→(IL 0 ((g k).2.1))),(((!s (g k).1.toNat)=true)→(IT ((g k).2.1) (↑N:Int))),(((!s (g k).1.toNat)=true)→(NT ((g k).2.1.toNat) N)),(((s (g k).1.toNat)=false)→ ((!s (g k).1.toNat)=true)),((bif s (g k).1.toNat then true else s (g k).2.1.toNat)=false),(ZLo ((↑k:Int)+1)),(ZHi ((↑k:Int)+1)),(AI ((↑N:Int))),(AN nb),(AP nb (bRw g)),(AI 0),(AN 0),(AN N),(AI ((↑n:Int))),((((↑k:Int)+1):Int)=(↑(k+1):Int)),(AN 2),(NL 1 1),(AN 1),(NL 0 0),(AA 0 (fun i=>[.p (.int .i64 0)])),(NL N N),(AA N (fun i=>[.p (.bool (s i))]))] [0,1,0,2,3,4,5,6,7,8,7,7,9,10,7,7,7,7,11,12,7,13,14,15,16,17,18,19,20,21,22,22,22,22,23,24,25,26,27,27,18,19,20,28,29,30,28,31,32]):=by kernel_rfl
theorem rsx (g:Nat→T_Bar) (nb N n k:Nat) (s:Nat→Bool) :
    zM 0 [rg 5,.dec false,rg 3,.head] zf11 (P1 g nb N n k s) [0,1,2] 1 (P0 g nb N (n+1) s) =
    some (zf25,zD [(NT 0 1),((decide ((↑k:Int)<(↑nb:Int)))=false),(ZLo ((↑n:Int)+1)),(ZHi ((↑n:Int)+1)),(AI ((↑N:Int))),(AN nb),(AP nb (bRw g)),(AI 0),(AN 0),(AN N),((((↑n:Int)+1):Int)=(↑(n+1):Int)),(AN 2),(NL 1 1),(AN 1),(NL 0 0),(AA 0 (fun i=>[.p (.int .i64 0)])),(NL N N),(AA N (fun i=>[.p (.bool (s i))]))] [0,1,2,3,4,5,6,7,8,8,8,8,9,10,11,12,12,4,5,6,13,14,15,13,16,17]):=by kernel_rfl
theorem rsq (g:Nat→T_Bar) (nb N n:Nat) (s:Nat→Bool) :
    zM 0 [rg 4,.dec false,rg 1,.head] zf25 (P0 g nb N n s) [0,1,2] 1 (P2 g nb N s 0 0 (fun _=>0)) =
    some (zf23,zD [(NT 0 1),((decide ((↑n:Int)<(↑N:Int)))=false),(AI ((↑N:Int))),(AN nb),(AP nb (bRw g)),(AI 0),(AN 0),(AN N),((0:Int)=(↑0:Int)),(AN 2),(NL 1 1),(AN 1),(NL 0 0),(AA 0 (fun i=>[.p (.int .i64 0)])),(NL N N),(AA N (fun i=>[.p (.bool (s i))]))] [0,1,2,3,4,5,6,6,6,6,7,8,9,10,10,2,3,4,11,12,13,11,14,15]):=by kernel_rfl
theorem rpt (g:Nat→T_Bar) (nb N:Nat) (s:Nat→Bool) (k c:Nat) (f:Nat→Int) :
    zM 0 [rg 4,.dec true,rg 4,.dec true,rg 5,rg 3,.head] zf23 (P2 g nb N s k c f) [0,355,2] 1 (P2 g nb N s (k+1) (c+1) (fun t=>if t<c then f t else k)) =
    some (zf23,[(NT 0 1),((decide ((↑k:Int)<(↑N:Int)))=true),(IL 0 (↑k:Int)),(IT (↑k:Int) (↑N:Int)),(NT k N),((s k)=true),(NL 1 1),(NL c c),(NL ((c+1)*8) 140737488355328),(NL (c+1) 9223372036854775807),(ZLo ((↑k:Int)+1)),(ZHi ((↑k:Int)+1)),(AI ((↑N:Int))),(AN nb),(AP nb (bRw g)),(AI 0),(AN 0),(AN 0),(AN ((c+1))),(AN 0),(AN N),((((↑k:Int)+1):Int)=(↑(k+1):Int)),(AN 2),(NL 1 1),(NL 1 1),(AI ((↑N:Int))),(AN nb),(AP nb (bRw g)),(AN 1),(NL (c+1) (c+1)),(CV [(355,⟨false,1,(c+1),(fun i_1=>(if (i_1<c) then [.p (.int .i64 (f i_1))] else [.p (.int .i64 (↑k:Int))]))⟩),(323,⟨false,1,1,(fun i_1=>[.p (.int .i64 (↑k:Int))])⟩),(0,⟨true,2,1,(fun i_1=>[.p (.int .i64 (↑N:Int)),.p (.seq true 2 nb (bRw g))])⟩),(2,⟨false,1,N,(fun i_1=>[.p (.bool (s i_1))])⟩)] [0,355,2] 1 (c+1) (fun i=>if (i<c) then [.p (.int .i64 (f i))] else [.p (.int .i64 (↑k:Int))]) (fun i=>[.p (.int .i64 (if i<c then f i else (↑k:Int)))])),(AN 1),(NL N N),(AA N (fun i=>[.p (.bool (s i))]))]):=by kernel_rfl
theorem rpf (g:Nat→T_Bar) (nb N:Nat) (s:Nat→Bool) (k c:Nat) (f:Nat→Int) :
    zM 0 [rg 4,.dec true,rg 4,.dec false,rg 3,.head] zf23 (P2 g nb N s k c f) [0,1,2] 1 (P2 g nb N s (k+1) c f) =
    some (zf23,[(NT 0 1),((decide ((↑k:Int)<(↑N:Int)))=true),(IL 0 (↑k:Int)),(IT (↑k:Int) (↑N:Int)),(NT k N),((s k)=false),(ZLo ((↑k:Int)+1)),(ZHi ((↑k:Int)+1)),(AI ((↑N:Int))),(AN nb),(AP nb (bRw g)),(AI 0),(AN 0),(AN 0),(AN c),(AN 0),(AN N),((((↑k:Int)+1):Int)=(↑(k+1):Int)),(AN 2),(NL 1 1),(NL 1 1),(AI ((↑N:Int))),(AN nb),(AP nb (bRw g)),(AN 1),(NL c c),(AA c (fun i=>[.p (.int .i64 (f i))])),(AN 1),(NL N N),(AA N (fun i=>[.p (.bool (s i))]))]):=by kernel_rfl
theorem rpe (g:Nat→T_Bar) (nb N:Nat) (s:Nat→Bool) (k c:Nat) (f:Nat→Int) :
    zP Tryz.f235 0 [rg 4,.dec false,rg 2] zf23 (P2 g nb N s k c f) [1] 1 [(0,iOb c f)] (.ar 1 0 0 c) =
    some [(NT 0 1),((decide ((↑k:Int)<(↑N:Int)))=false),(AN 0),(AN c),(AN 1),(NL c c),(AA c (fun i=>[.p (.int .i64 (f i))])),(AE c)]:=by kernel_rfl
theorem rkit (v:T_Graph) (c:Nat) (f:Nat→Int) :
    zS Tryz.f224 [rg 2,rm [(1,oc [] (.p (.bool true))),(1,gT),(0,⟨true,(some ⟨[],[],[],1,[(0,iOb c f)],.ar 1 0 0 c⟩),some true⟩),(0,gT),(0,gT),(0,gT),(0,gT),(0,gT)] 1] [graphA v] [] [] (.p (.bool ((c:Int)==v.1))) =
    some (zD [(NT 0 1),zE 130 [(zf96 v)] [] (.p (.bool true)),(true=true),zE 233 [(zf96 v),.p (.int .i64 0)] [(0,⟨false,1,c,(fun i=>[.p (.int .i64 (f i))])⟩)] (.ar 1 0 0 c),(((↑c:Int)==v.1)=((↑c:Int)==v.1))] [0,1,2,0,2,3,2,2,2,0,2,2,4]):=by kernel_rfl
theorem rkif (v:T_Graph) :
    zS Tryz.f224 [rg 2,rm [(1,oc [] (.p (.bool false))),(1,gF),(0,gF),(0,gF),(0,gF),(0,gF),(0,gF),(0,gF)] 1] [graphA v] [] [] (.p (.bool false)) =
    some (zD [(NT 0 1),zE 130 [(zf96 v)] [] (.p (.bool false)),(false=false)] [0,1,2,2,2,2,2,2,2,2]):=by kernel_rfl
theorem rkst (v:T_Graph) (c:Nat) (f:Nat→Int) :
    zS Tryz.f226 [rg 2,rm [(1,oc [] (.p (.bool true))),(1,gT),(0,⟨true,(some ⟨[],[],[],1,[(0,iOb c f)],.ar 1 0 0 c⟩),some true⟩),(0,gT),(0,gT),(0,gT),(0,gT),(0,gT)] 1] [graphA v] [] [] (.p (.bool ((c:Int)==v.1))) =
    some (zD [(NT 0 1),zE 134 [(zf96 v)] [] (.p (.bool true)),(true=true),zE 235 [(zf96 v),.p (.int .i64 0)] [(0,⟨false,1,c,(fun i=>[.p (.int .i64 (f i))])⟩)] (.ar 1 0 0 c),(((↑c:Int)==v.1)=((↑c:Int)==v.1))] [0,1,2,0,2,3,2,2,2,0,2,2,4]):=by kernel_rfl
theorem rksf (v:T_Graph) :
    zS Tryz.f226 [rg 2,rm [(1,oc [] (.p (.bool false))),(1,gF),(0,gF),(0,gF),(0,gF),(0,gF),(0,gF),(0,gF)] 1] [graphA v] [] [] (.p (.bool false)) =
    some (zD [(NT 0 1),zE 134 [(zf96 v)] [] (.p (.bool false)),(false=false)] [0,1,2,2,2,2,2,2,2,2]):=by kernel_rfl
theorem ends_in {N nb:Nat} {g:Nat→T_Bar} (hok:OkBars N nb g):∀ i,i<nb→(g i).1.toNat<N∧(g i).2.1.toNat<N:=fun i hi=>by
  have:=hok i hi
  omega
def s00:Nat→Bool:=fun u=>decide (u=0)
theorem con_gReach {N nb:Nat} {g:Nat→T_Bar} (hN:1≤N∧N≤8) (hnb:nb≤24) (hok:OkBars N nb g) :
    zE 237 [grG g nb N,.p (.int .i64 0)] [(0,blOb N (rIt g nb s00 N))] (.ar 1 0 0 N):=by
  refine csZ Tryz.func237 (fun c hc=>?_)
  have he:=ends_in hok
  have h0:1≤cnT s00 N:=cnT_one (by omega)
  have li:∀ s:Nat→Bool,(zR c 237 zf45 (Rz0 g nb N (rAg g s nb) (rRd g s nb)) (Post c [(0,blOb N (rIt g nb s00 N))] (.ar 1 0 0 N))) →
      ∀ d k,k+d=nb→zR c 237 zf18 (Rz1 g nb N (rAg g s k) k (rRd g s k)) (Post c [(0,blOb N (rIt g nb s00 N))] (.ar 1 0 0 N)):=by
    intro s hk d
    induction d with
    | zero =>
      intro k hkd
      obtain rfl:k=nb:=by omega
      have hd:decide ((k:Int)<(k:Int))=false:=decide_eq_false (by omega)
      refine pcD hc (rcx g k N _ k _) ?_ hk
      and_intros
      all_goals (first | exact zN | (exact hd) | (intro t ht;simp [All]))
    | succ d ih =>
      intro k hkd
      have hd:decide ((k:Int)<(nb:Int))=true:=decide_eq_true (by omega)
      have hb:=hok k (by omega)
      have hrec:=ih (k+1) (by omega)
      cases hq:(rRd g s k (g k).1.toNat != rRd g s k (g k).2.1.toNat) with
      | true =>
        rw [show rAg g s (k+1)=true by simp [rAg,hq]] at hrec
        have hor:(rRd g s k (g k).1.toNat||rRd g s k (g k).2.1.toNat)=true:=by
          cases h1:rRd g s k (g k).1.toNat<;>cases h2:rRd g s k (g k).2.1.toNat<;>simp [h1,h2] at hq ⊢
        rw [show rRd g s (k+1)=_ from rSt_on hor] at hrec
        refine pcD hc (rct g nb N _ k _) ?_ hrec
        and_intros
        all_goals (first | exact zI | (exact hd) | (exact hq) | (intro t ht;simp [All];done) | (intro t ht;by_cases h1:t=(g k).2.1.toNat<;>by_cases h2:t=(g k).1.toNat<;>simp [h1,h2,cvtL,cvt,tg,tru,All]))
      | false =>
        rw [show rAg g s (k+1)=rAg g s k by simp [rAg,hq],show rRd g s (k+1)=rRd g s k from rSt_same hq] at hrec
        refine pcZ hc (rcf g nb N _ k _) ?_ hrec
        and_intros
        all_goals (first | exact zI | (exact hd) | (exact hq) | (intro t ht;simp [All]))
  have lo:∀ d j,N - j≤d→j≤N→(∀ i,i<j→rAg g (rIt g nb s00 i) nb=true)→zR c 237 zf45 (Rz0 g nb N true (rIt g nb s00 j)) (Post c [(0,blOb N (rIt g nb s00 N))] (.ar 1 0 0 N)):=by
    intro d
    induction d with
    | zero =>
      intro j hj hjN ha
      exfalso
      have h1:=rIt_cnt he h0 j ha
      have h2:=cnT_le (rIt g nb s00 j) N
      omega
    | succ d ih =>
      intro j hj hjN ha
      refine pcD hc (rco g nb N _) ?_ (li (rIt g nb s00 j) ?_ nb 0 (by omega))
      · skip
        and_intros
        all_goals (first | exact zN | (intro t ht;simp [All]))
      · cases hq:rAg g (rIt g nb s00 j) nb with
        | true =>
          have h1:=rIt_cnt he h0 j ha
          have h2:=cnT_le (rIt g nb s00 j) N
          exact ih (j+1) (by omega) (by omega) (fun i hi=>by
            by_cases h':i=j
            · subst h';exact hq
            · exact ha i (by omega))
        | false =>
          have e:=rIt_end he h0 ha hq
          rw [show rRd g (rIt g nb s00 j) nb=rIt g nb s00 N from e]
          refine pkZ Tryz.func237 hc (rce g nb N _) ?_
          and_intros
          all_goals (first | exact zN | (intro t ht;simp [All]))
  refine pcZ hc (rcz g nb N) ?_ (lo N 0 (by omega) (by omega) (fun i hi=>absurd hi (Nat.not_lt_zero _)))
  and_intros
  all_goals (first | exact zI | (intro t ht;by_cases h1:t=0<;>simp [h1,cvtL,cvt,tg,tru,All]))
def rcS (N nb:Nat) (g:Nat→T_Bar):T_IntS:=flt (rIt g nb s00 N) N
theorem con_gReachOf_i {N nb:Nat} {g:Nat→T_Bar} (hg:isGraphF ((N:Int),(nb,g),())=true) :
    zE 233 [grG g nb N,.p (.int .i64 0)] [(0,iOb (rcS N nb g).1 (rcS N nb g).2)] (.ar 1 0 0 (rcS N nb g).1):=by
  obtain ⟨h1,h2,h3⟩:=graph_in hg
  have c1:=con_IsGraph_i ((N:Int),(nb,g),()) (sm_graph (by show nb≤_;omega))
  rw [hg] at c1
  have c2:=con_hasX ((N:Int),(nb,g),()) 0 (by show 1≤(N:Int);omega) (by show (N:Int)≤8;omega)
  rw [show inB (0:Int) 0 ((((N:Int),(nb,g),()):T_Graph).1 - 1)=true by simp [inB];omega] at c2
  have c3:=con_gReach h1 h2 h3
  generalize hs:rIt g nb s00 N=s at c3
  rw [show rcS N nb g=flt s N by simp [rcS,hs]]
  generalize hR:flt s N=R
  refine csZ Tryz.func233 (fun c hc=>?_)
  have lo:∀ d i,i+d=N→zR c 233 zf46 (Q0 g nb N s i (flt s i).1 (flt s i).2) (Post c [(0,iOb R.1 R.2)] (.ar 1 0 0 R.1)):=by
    intro d
    induction d with
    | zero =>
      intro i hi
      obtain rfl:i=N:=by omega
      rw [hR]
      have hd:decide ((i:Int)<(i:Int))=false:=decide_eq_false (by omega)
      refine pkZ Tryz.func233 hc (roe g nb i s i R.1 R.2) ?_
      and_intros
      all_goals (first | exact zN | (exact hd) | (intro t ht;simp [All]))
    | succ d ih =>
      intro i hi
      have hd:decide ((i:Int)<(N:Int))=true:=decide_eq_true (by omega)
      have hrec:=ih (i+1) (by omega)
      have hn:=flt_n s i
      cases hq:s i with
      | true =>
        rw [flt_t hq] at hrec
        generalize flt s i=q at hn hrec ⊢
        refine pcZ hc (rot g nb N s i q.1 q.2) ?_ hrec
        and_intros
        all_goals (first | exact zN | (exact hd) | (exact hq) | (intro t ht;by_cases h':t<q.1<;>simp [h',cvtL,cvt,tg,tru,All]) | (simp;omega))
      | false =>
        rw [flt_f hq] at hrec
        generalize flt s i=q at hn hrec ⊢
        refine pcD hc (rof g nb N s i q.1 q.2) ?_ hrec
        and_intros
        all_goals (first | exact zN | (exact hd) | (exact hq) | (intro t ht;simp [All]) | (simp;omega))
  refine pcD hc (roz g nb N s) ?_ (lo N 0 (by omega))
  and_intros
  all_goals (first | exact zH | (exact c1) | (intros;exact c2) | (exact c2) | (exact c3) | (intro t ht;exact absurd ht (Nat.not_lt_zero _)) | (intro t ht;simp [All]))
theorem con_gReachOf_s {N nb:Nat} {g:Nat→T_Bar} (hg:isGraphF ((N:Int),(nb,g),())=true) :
    zE 235 [grG g nb N,.p (.int .i64 0)] [(0,iOb (rcS N nb g).1 (rcS N nb g).2)] (.ar 1 0 0 (rcS N nb g).1):=by
  obtain ⟨h1,h2,h3⟩:=graph_in hg
  have c1:=con_IsGraph_s ((N:Int),(nb,g),()) (sm_graph (by show nb≤_;omega))
  rw [hg] at c1
  generalize hR:rcS N nb g=R
  have hR:flt (rIt g nb s00 N) N=R:=hR
  refine csZ Tryz.func235 (fun c hc=>?_)
  have lp:∀ d i,i+d=N→zR c 235 zf23 (P2 g nb N (rIt g nb s00 N) i (flt (rIt g nb s00 N) i).1 (flt (rIt g nb s00 N) i).2) (Post c [(0,iOb R.1 R.2)] (.ar 1 0 0 R.1)):=by
    generalize rIt g nb s00 N=s at hR ⊢
    intro d
    induction d with
    | zero =>
      intro i hi
      obtain rfl:i=N:=by omega
      rw [hR]
      have hd:decide ((i:Int)<(i:Int))=false:=decide_eq_false (by omega)
      refine pkZ Tryz.func235 hc (rpe g nb i s i R.1 R.2) ?_
      and_intros
      all_goals (first | exact zN | (exact hd) | (intro t ht;simp [All]))
    | succ d ih =>
      intro i hi
      have hd:decide ((i:Int)<(N:Int))=true:=decide_eq_true (by omega)
      have hrec:=ih (i+1) (by omega)
      have hn:=flt_n s i
      cases hq:s i with
      | true =>
        rw [flt_t hq] at hrec
        generalize flt s i=q at hn hrec ⊢
        refine pcZ hc (rpt g nb N s i q.1 q.2) ?_ hrec
        and_intros
        all_goals (first | exact zN | (exact hd) | (exact hq) | (intro t ht;by_cases h':t<q.1<;>simp [h',cvtL,cvt,tg,tru,All]) | (simp;omega))
      | false =>
        rw [flt_f hq] at hrec
        generalize flt s i=q at hn hrec ⊢
        refine pcZ hc (rpf g nb N s i q.1 q.2) ?_ hrec
        and_intros
        all_goals (first | exact zN | (exact hd) | (exact hq) | (intro t ht;simp [All]) | (simp;omega))
  have li:∀ (n:Nat) (s:Nat→Bool),n<N→(zR c 235 zf25 (P0 g nb N (n+1) (rRd g s nb)) (Post c [(0,iOb R.1 R.2)] (.ar 1 0 0 R.1))) →
      ∀ d k,k+d=nb→zR c 235 zf11 (P1 g nb N n k (rRd g s k)) (Post c [(0,iOb R.1 R.2)] (.ar 1 0 0 R.1)):=by
    intro n s hnN hk d
    induction d with
    | zero =>
      intro k hkd
      obtain rfl:k=nb:=by omega
      have hd:decide ((k:Int)<(k:Int))=false:=decide_eq_false (by omega)
      refine pcD hc (rsx g k N n k _) ?_ hk
      and_intros
      all_goals (first | exact zN | (exact hd) | (intro t ht;simp [All]))
    | succ d ih =>
      intro k hkd
      have hd:decide ((k:Int)<(nb:Int))=true:=decide_eq_true (by omega)
      have hb:=h3 k (by omega)
      have hrec:=ih (k+1) (by omega)
      cases hq:(rRd g s k (g k).1.toNat||rRd g s k (g k).2.1.toNat) with
      | true =>
        rw [show rRd g s (k+1)=_ from rSt_on hq] at hrec
        have hq2:(bif rRd g s k (g k).1.toNat then true else rRd g s k (g k).2.1.toNat)=true:=by rw [← hq];cases rRd g s k (g k).1.toNat<;>rfl
        refine pcD hc (rst g nb N n k _) ?_ hrec
        and_intros
        all_goals (first | exact zH | (exact hd) | (exact hq2) | (intro t ht;simp [All];done) | (intro t ht;by_cases h1:t=(g k).2.1.toNat<;>by_cases h2:t=(g k).1.toNat<;>simp [h1,h2,cvtL,cvt,tg,tru,All]))
      | false =>
        rw [show rRd g s (k+1)=rRd g s k from rSt_off hq] at hrec
        have hq2:(bif rRd g s k (g k).1.toNat then true else rRd g s k (g k).2.1.toNat)=false:=by rw [← hq];cases rRd g s k (g k).1.toNat<;>rfl
        refine pcD hc (rsf g nb N n k _) ?_ hrec
        and_intros
        all_goals (first | exact zH | (exact hd) | (exact hq2) | (intro t ht;simp [All]))
  have lo:∀ d n,n+d=N→zR c 235 zf25 (P0 g nb N n (rIt g nb s00 n)) (Post c [(0,iOb R.1 R.2)] (.ar 1 0 0 R.1)):=by
    intro d
    induction d with
    | zero =>
      intro n hn
      obtain rfl:n=N:=by omega
      have hd:decide ((n:Int)<(n:Int))=false:=decide_eq_false (by omega)
      refine pcD hc (rsq g nb n n _) ?_ (lp n 0 (by omega))
      and_intros
      all_goals (first | exact zN | (exact hd) | (intro t ht;exact absurd ht (Nat.not_lt_zero _)) | (intro t ht;simp [All]))
    | succ d ih =>
      intro n hn
      have hd:decide ((n:Int)<(N:Int))=true:=decide_eq_true (by omega)
      refine pcD hc (rso g nb N n _) ?_ (li n (rIt g nb s00 n) (by omega) (ih (n+1) (by omega)) nb 0 (by omega))
      and_intros
      all_goals (first | exact zN | (exact hd) | (intro t ht;exact absurd ht (Nat.not_lt_zero _)) | (intro t ht;simp [All]))
  have hd:(bif bif !true then true else decide ((0:Int)<0) then true else decide ((0:Int)≥(N:Int)))=false:=by
    rw [decide_eq_false (show ¬ ((0:Int)≥(N:Int)) by omega)];rfl
  refine pcD hc (rsz g nb N) ?_ (lo N 0 (by omega))
  and_intros
  all_goals (first | exact zH | (exact c1) | (exact hd) | (intro t ht;exact absurd ht (Nat.not_lt_zero _)) | (intro t ht;by_cases h1:t=0<;>simp [h1,cvtL,cvt,tg,tru,All]))
theorem cnB_eq {N nb:Nat} {g:Nat→T_Bar} (hg:isGraphF ((N:Int),(nb,g),())=true):cnB ((N:Int),(nb,g),())=(((rcS N nb g).1:Int)==(N:Int)):=by
  unfold cnB
  rw [hg]
  rfl
theorem con_gConn_i (v:T_Graph) (hs:smS s_Graph v):zE 224 [graphA v] [] (.p (.bool (cnB v))):=by
  have c1:=con_IsGraph_i v hs
  cases hg:isGraphF v with
  | false =>
    rw [hg] at c1
    rw [show cnB v=false by unfold cnB;rw [hg];rfl]
    refine csZ Tryz.func224 (fun c hc=>?_)
    refine pkD Tryz.func224 hc (rkif v) ?_
    and_intros
    all_goals (first | exact zN | (exact c1) | (simp;done))
  | true =>
    rw [hg] at c1
    obtain ⟨N,nb,g,rfl⟩:=graph_cases v hg
    have c2:=con_gReachOf_i hg
    have hn:=flt_n (rIt g nb s00 N) N
    have hn:(rcS N nb g).1≤N:=hn
    rw [cnB_eq hg]
    generalize rcS N nb g=R at *
    refine csZ Tryz.func224 (fun c hc=>?_)
    refine pkD Tryz.func224 hc (rkit ((N:Int),(nb,g),()) R.1 R.2) ?_
    and_intros
    all_goals (first | exact zN | (exact c1) | (intros;exact c2) | (exact c2) | (simp;done))
theorem con_gConn_s (v:T_Graph) (hs:smS s_Graph v):zE 226 [graphA v] [] (.p (.bool (cnB v))):=by
  have c1:=con_IsGraph_s v hs
  cases hg:isGraphF v with
  | false =>
    rw [hg] at c1
    rw [show cnB v=false by unfold cnB;rw [hg];rfl]
    refine csZ Tryz.func226 (fun c hc=>?_)
    refine pkD Tryz.func226 hc (rksf v) ?_
    and_intros
    all_goals (first | exact zN | (exact c1) | (simp;done))
  | true =>
    rw [hg] at c1
    obtain ⟨N,nb,g,rfl⟩:=graph_cases v hg
    have c2:=con_gReachOf_s hg
    rw [cnB_eq hg]
    generalize rcS N nb g=R at *
    refine csZ Tryz.func226 (fun c hc=>?_)
    refine pkD Tryz.func226 hc (rkst ((N:Int),(nb,g),()) R.1 R.2) ?_
    and_intros
    all_goals (first | exact zN | (exact c1) | (intros;exact c2) | (exact c2) | (simp;done))
def nbx (n:Int):Ob:=⟨true,2,1,fun _=>[.p (.int .i64 n),.p .nil]⟩
def W0 (g:Nat→T_Bar) (nb N:Nat) (S:T_IntS) (v n:Nat) (p:Nat→Int):St :=
  ⟨[grG g nb N,inL S,.pt 2 0 0 0,.p .any,.pt 2 1 0 0,.ar 1 2 0 N,.pt 2 3 0 0]++List.replicate 12 anyA++[.p (.int .i64 N),.p (.int .i64 v)]++List.replicate 56 anyA,[(0,bxG g nb N),(1,z2),(2,iOb N p),(3,nbx n)],4⟩
def W1 (g:Nat→T_Bar) (nb N:Nat) (S:T_IntS) (n:Nat) (p:Nat→Int) (k c:Nat) (h:Nat→T_Bar):St :=
  ⟨[grG g nb N,inL S,.pt 2 0 0 0,.p .any,.pt 2 1 0 0,.ar 1 2 0 N,.pt 2 3 0 0]++List.replicate 38 anyA++[brL g nb,.p (.int .i64 nb),.p (.int .i64 k)]++List.replicate 29 anyA,[(0,bxG g nb N),(1,z2),(2,iOb N p),(3,gbx n 4 c),(4,brOb c h)],5⟩
def V0 (g:Nat→T_Bar) (nb N:Nat) (S:T_IntS) (v n:Nat) (p:Nat→Int):St :=
  ⟨[grG g nb N,inL S,.pt 2 0 0 0,.p .any,.pt 2 1 0 0,.ar 1 2 0 N,.p (.int .i64 n),.p (.int .i64 v)]++List.replicate 75 anyA,[(0,bxG g nb N),(1,z2),(2,iOb N p)],3⟩
def V1 (g:Nat→T_Bar) (nb N:Nat) (S:T_IntS) (n:Nat) (p:Nat→Int) (k c:Nat) (h:Nat→T_Bar):St :=
  ⟨[grG g nb N,inL S,.pt 2 0 0 0,.p .any,.pt 2 1 0 0,.ar 1 2 0 N,.p .any,.p .any,.pt 2 3 0 0,.p (.int .i64 k)]++List.replicate 73 anyA,[(0,bxG g nb N),(1,z2),(2,iOb N p),(3,gbx n 4 c),(4,brOb c h)],5⟩
def C0 (g:Nat→T_Bar) (nb N k w c:Nat) (G:Nat→T_IntS):St :=
  ⟨[grG g nb N,.p (.int .i64 k),.pt 2 0 0 0,.p .any,.p .any,.ar 1 1 0 c]++List.replicate 15 anyA++[.p (.int .i64 (shlI .i64 1 N)),.p (.int .i64 w)]++List.replicate 27 anyA,[(0,bxG g nb N),(1,ssOb c G)],2⟩
def D0 (g:Nat→T_Bar) (nb N k w c:Nat) (G:Nat→T_IntS):St :=
  ⟨[grG g nb N,.p (.int .i64 k),.pt 2 0 0 0,.p .any,.p .any,.ar 1 1 0 c,.p (.int .i64 w)]++List.replicate 45 anyA,[(0,bxG g nb N),(1,ssOb c G)],2⟩
def KI (g:Nat→T_Bar) (nb N k j:Nat):St :=
  ⟨[grG g nb N,.p (.int .i64 k),.pt 2 0 0 0]++List.replicate 17 anyA++[.p (.int .i64 k),.p (.int .i64 j)]++List.replicate 8 anyA,[(0,bxG g nb N)],1⟩
def KS (g:Nat→T_Bar) (nb N k j:Nat):St :=
  ⟨[grG g nb N,.p (.int .i64 k),.pt 2 0 0 0,.p .any,.p .any,.p (.int .i64 j)]++List.replicate 24 anyA,[(0,bxG g nb N)],1⟩
theorem wiz (g:Nat→T_Bar) (nb N:Nat) (S:T_IntS) :
    zT Tryz.f223 [rg 2,rg 6,rg 3,rg 3,.head] [grG g nb N,inL S] [0,32,192,288] (W0 g nb N S 0 0 (fun _=>0)) =
    some (zf47,zD [(NT 0 1),(IL 0 (if true=true then if (if false=true then if 8>(↑N:Int) then 8 else (↑N:Int) else if 8<(↑N:Int) then 8 else (↑N:Int))>0 then if false=true then if 8>(↑N:Int) then 8 else (↑N:Int) else if 8<(↑N:Int) then 8 else (↑N:Int) else 0 else if (if false=true then if 8>(↑N:Int) then 8 else (↑N:Int) else if 8<(↑N:Int) then 8 else (↑N:Int))<0 then if false=true then if 8>(↑N:Int) then 8 else (↑N:Int) else if 8<(↑N:Int) then 8 else (↑N:Int) else 0)),(IL (if true=true then if (if false=true then if 8>(↑N:Int) then 8 else (↑N:Int) else if 8<(↑N:Int) then 8 else (↑N:Int))>0 then if false=true then if 8>(↑N:Int) then 8 else (↑N:Int) else if 8<(↑N:Int) then 8 else (↑N:Int) else 0 else if (if false=true then if 8>(↑N:Int) then 8 else (↑N:Int) else if 8<(↑N:Int) then 8 else (↑N:Int))<0 then if false=true then if 8>(↑N:Int) then 8 else (↑N:Int) else if 8<(↑N:Int) then 8 else (↑N:Int) else 0) (if true=true then if (if false=true then if 8>(↑N:Int) then 8 else (↑N:Int) else if 8<(↑N:Int) then 8 else (↑N:Int))>0 then if false=true then if 8>(↑N:Int) then 8 else (↑N:Int) else if 8<(↑N:Int) then 8 else (↑N:Int) else 0 else if (if false=true then if 8>(↑N:Int) then 8 else (↑N:Int) else if 8<(↑N:Int) then 8 else (↑N:Int))<0 then if false=true then if 8>(↑N:Int) then 8 else (↑N:Int) else if 8<(↑N:Int) then 8 else (↑N:Int) else 0)),(IL ((if true=true then if (if false=true then if 8>(↑N:Int) then 8 else (↑N:Int) else if 8<(↑N:Int) then 8 else (↑N:Int))>0 then if false=true then if 8>(↑N:Int) then 8 else (↑N:Int) else if 8<(↑N:Int) then 8 else (↑N:Int) else 0 else if (if false=true then if 8>(↑N:Int) then 8 else (↑N:Int) else if 8<(↑N:Int) then 8 else (↑N:Int))<0 then if false=true then if 8>(↑N:Int) then 8 else (↑N:Int) else if 8<(↑N:Int) then 8 else (↑N:Int) else 0)*(↑8:Int)) 281474976710656),(ZHi (if true=true then if (if false=true then if 8>(↑N:Int) then 8 else (↑N:Int) else if 8<(↑N:Int) then 8 else (↑N:Int))>0 then if false=true then if 8>(↑N:Int) then 8 else (↑N:Int) else if 8<(↑N:Int) then 8 else (↑N:Int) else 0 else if (if false=true then if 8>(↑N:Int) then 8 else (↑N:Int) else if 8<(↑N:Int) then 8 else (↑N:Int))<0 then if false=true then if 8>(↑N:Int) then 8 else (↑N:Int) else if 8<(↑N:Int) then 8 else (↑N:Int) else 0)),((true=true)→ (AN 1)),(AI ((↑N:Int))),(AN nb),(AP nb (bRw g)),(AN S.1),(AP S.1 (iRw S)),(AN 0),((((if true=true then if (if false=true then if 8>(↑N:Int) then 8 else (↑N:Int) else if 8<(↑N:Int) then 8 else (↑N:Int))>0 then if false=true then if 8>(↑N:Int) then 8 else (↑N:Int) else if 8<(↑N:Int) then 8 else (↑N:Int) else 0 else if (if false=true then if 8>(↑N:Int) then 8 else (↑N:Int) else if 8<(↑N:Int) then 8 else (↑N:Int))<0 then if false=true then if 8>(↑N:Int) then 8 else (↑N:Int) else if 8<(↑N:Int) then 8 else (↑N:Int) else 0).toNat):Nat)=N),(((↑(if true=true then if (if false=true then if 8>(↑N:Int) then 8 else (↑N:Int) else if 8<(↑N:Int) then 8 else (↑N:Int))>0 then if false=true then if 8>(↑N:Int) then 8 else (↑N:Int) else if 8<(↑N:Int) then 8 else (↑N:Int) else 0 else if (if false=true then if 8>(↑N:Int) then 8 else (↑N:Int) else if 8<(↑N:Int) then 8 else (↑N:Int))<0 then if false=true then if 8>(↑N:Int) then 8 else (↑N:Int) else if 8<(↑N:Int) then 8 else (↑N:Int) else 0).toNat:Int):Int)=(↑N:Int)),((0:Int)=(↑0:Int)),((([AV.p (PV.int IntKind.i64 (↑N:Int)),brL g nb].length):Nat)=2),(NL 1 1),((((List.map (fun v=>AV.p (absV v)) [Value.int IntKind.i64 0,Value.slice none 0 0]).length):Nat)=2),(AI 0),(AN 1),(NL N ((if true=true then if (if false=true then if 8>(↑N:Int) then 8 else (↑N:Int) else if 8<(↑N:Int) then 8 else (↑N:Int))>0 then if false=true then if 8>(↑N:Int) then 8 else (↑N:Int) else if 8<(↑N:Int) then 8 else (↑N:Int) else 0 else if (if false=true then if 8>(↑N:Int) then 8 else (↑N:Int) else if 8<(↑N:Int) then 8 else (↑N:Int))<0 then if false=true then if 8>(↑N:Int) then 8 else (↑N:Int) else if 8<(↑N:Int) then 8 else (↑N:Int) else 0).toNat)),(AA N (fun i=>[.p (.int .i64 0)]))] [0,1,2,3,4,0,5,6,7,8,9,10,11,11,11,12,11,13,14,15,16,16,6,7,8,17,16,16,18,19,20,21,17,16,16,14]):=by kernel_rfl
theorem wit (g:Nat→T_Bar) (nb N:Nat) (S:T_IntS) (v n:Nat) (p:Nat→Int) :
    zM 0 [rg 1,.dec true,rg 2,rg 4,rm [(2,oc [] (.p (.bool false)))] 1,.dec true,rg 6,rg 5,rg 2,.head] zf47 (W0 g nb N S v n p) [0,1,2,3] 1 (W0 g nb N S (v+1) (n+1) (fun u=>if u=v then n else p u)) =
    some (zf47,zD [((decide ((↑v:Int)<(↑N:Int)))=true),(IL 0 (↑v:Int)),(IT (↑v:Int) (↑N:Int)),(NT v N),((false=true)→ ((N:Nat)=1)),zE 144 [.p (.seq true 1 S.1 (iRw S)),.p (.int .i64 (↑v:Int))] [] (.p (.bool false)),((!false)=true),(NT 0 1),(ZLo ((↑n:Int)+1)),(ZHi ((↑n:Int)+1)),((true=true)→ (AN 1)),(ZLo ((↑v:Int)+1)),(ZHi ((↑v:Int)+1)),(AI ((↑N:Int))),(AN nb),(AP nb (bRw g)),(AN S.1),(AP S.1 (iRw S)),(AN 0),(AN N),((((↑v:Int)+1):Int)=(↑(v+1):Int)),(AN 2),(NL 1 1),(AI 0),(AN 1),(NL N N),(CV [(3,⟨true,2,1,(fun i_1=>[.p (.int .i64 ((↑n:Int)+1)),.p (.nil)])⟩),(2,⟨false,1,N,(fun i_1=>(if (i_1=v) then [.p (.int .i64 (↑n:Int))] else (if (i_1=v) then [.p (.int .i64 (-1))] else [.p (.int .i64 (p i_1))])))⟩),(0,⟨true,2,1,(fun i_1=>[.p (.int .i64 (↑N:Int)),.p (.seq true 2 nb (bRw g))])⟩),(1,⟨true,2,1,(fun i_1=>[.p (.int .i64 0),.p (.nil)])⟩)] [0,1,2,3] 1 N (fun i=>if (i=v) then [.p (.int .i64 (↑n:Int))] else (if (i=v) then [.p (.int .i64 (-1))] else [.p (.int .i64 (p i))])) (fun i=>[.p (.int .i64 (if i=v then (↑n:Int) else p i))])),((((↑n:Int)+1):Int)=(↑(n+1):Int))] [0,1,2,3,4,5,6,7,1,2,3,4,7,8,9,7,10,11,12,13,14,15,16,17,18,18,18,19,18,13,20,21,22,22,13,14,15,21,22,22,23,24,25,26,21,22,22,27]):=by kernel_rfl
theorem wif (g:Nat→T_Bar) (nb N:Nat) (S:T_IntS) (v n:Nat) (p:Nat→Int) :
    zM 0 [rg 1,.dec true,rg 2,rg 4,rm [(2,oc [] (.p (.bool true)))] 1,.dec false,rg 2,.head] zf47 (W0 g nb N S v n p) [0,1,2,3] 1 (W0 g nb N S (v+1) n (fun u=>if u=v then -1 else p u)) =
    some (zf47,zD [((decide ((↑v:Int)<(↑N:Int)))=true),(IL 0 (↑v:Int)),(IT (↑v:Int) (↑N:Int)),(NT v N),((false=true)→ ((N:Nat)=1)),zE 144 [.p (.seq true 1 S.1 (iRw S)),.p (.int .i64 (↑v:Int))] [] (.p (.bool true)),((!true)=false),(ZLo ((↑v:Int)+1)),(ZHi ((↑v:Int)+1)),(AI ((↑N:Int))),(AN nb),(AP nb (bRw g)),(AN S.1),(AP S.1 (iRw S)),(AN 0),(AN N),((((↑v:Int)+1):Int)=(↑(v+1):Int)),(AN 2),(NL 1 1),(AI 0),(AN 1),(NL N N),(CV [(2,⟨false,1,N,(fun i_1=>(if (i_1=v) then [.p (.int .i64 (-1))] else [.p (.int .i64 (p i_1))]))⟩),(0,⟨true,2,1,(fun i_1=>[.p (.int .i64 (↑N:Int)),.p (.seq true 2 nb (bRw g))])⟩),(1,⟨true,2,1,(fun i_1=>[.p (.int .i64 0),.p (.nil)])⟩),(3,⟨true,2,1,(fun i_1=>[.p (.int .i64 (↑n:Int)),.p (.nil)])⟩)] [0,1,2,3] 1 N (fun i=>if (i=v) then [.p (.int .i64 (-1))] else [.p (.int .i64 (p i))]) (fun i=>[.p (.int .i64 (if i=v then -1 else p i))])),(AI ((↑n:Int)))] [0,1,2,3,4,5,6,7,8,9,10,11,12,13,14,14,14,15,14,9,16,17,18,18,9,10,11,17,18,18,19,20,21,22,17,18,18,23]):=by kernel_rfl
theorem wix (g:Nat→T_Bar) (nb N:Nat) (S:T_IntS) (v n:Nat) (p:Nat→Int) :
    zM 0 [rg 1,.dec false,rm [(1,oc [] (.p (.bool true)))] 1,.dec false,rg 4,.head] zf47 (W0 g nb N S v n p) [0,1,2,3] 1 (W1 g nb N S n p 0 0 (fun _=>(0,0,()))) =
    some (zf26,zD [((decide ((↑v:Int)<(↑N:Int)))=false),(NT 0 1),zE 130 [(zf101 N nb g)] [] (.p (.bool true)),((!true)=false),(AI ((↑N:Int))),(AN nb),(AP nb (bRw g)),(AN S.1),(AP S.1 (iRw S)),(AN 0),(AN N),(AI ((↑nb:Int))),((0:Int)=(↑0:Int)),(AN 2),(NL 1 1),(AI 0),(AN 1),(NL N N),(AA N (fun i=>[.p (.int .i64 (p i))])),(AI ((↑n:Int)))] [0,1,2,3,1,4,5,6,7,8,9,9,9,10,9,5,6,11,12,13,14,14,4,5,6,13,14,14,15,16,17,18,13,14,14,19,9,9]):=by kernel_rfl
theorem wjt (g:Nat→T_Bar) (nb N:Nat) (S:T_IntS) (n:Nat) (p:Nat→Int) (k c:Nat) (h:Nat→T_Bar) :
    zM 0 [rg 1,.dec true,rg 4,rg 12,rg 6,.dec true,rg 9,rg 2,.head] zf26 (W1 g nb N S n p k c h) [0,1,2,3,933] 1 (W1 g nb N S n p (k+1) (c+1) (snoc c h (p (g k).1.toNat,p (g k).2.1.toNat,()))) =
    some (zf26,zD [((decide ((↑k:Int)<(↑nb:Int)))=true),(IL 0 (↑k:Int)),(IT (↑k:Int) (↑nb:Int)),(NT 0 1),((true=true)→ (AN 1)),(IL 0 ((g k).1)),(IT ((g k).1) (↑N:Int)),(NT ((g k).1.toNat) N),(IL 0 ((g k).2.1)),(IT ((g k).2.1) (↑N:Int)),(NT ((g k).2.1.toNat) N),(AG (decide (p ((g (↑k:Int).toNat).1.toNat+0)≥0))),((bif decide (p ((g (↑k:Int).toNat).1.toNat+0)≥0) then decide (p ((g (↑k:Int).toNat).2.1.toNat+0)≥0) else false)=true),(NL 1 1),(NL c c),(NL ((c+1)*16) 140737488355328),(NL (c+1) 9223372036854775807),(ZLo ((↑k:Int)+1)),(ZHi ((↑k:Int)+1)),(AI ((↑N:Int))),(AN nb),(AP nb (bRw g)),(AN S.1),(AP S.1 (iRw S)),(AN 0),(AN N),(AI ((↑nb:Int))),((((↑k:Int)+1):Int)=(↑(k+1):Int)),(AN 2),(AI 0),(AN 1),(NL N N),(AA N (fun i=>[.p (.int .i64 (p i))])),(AI ((↑n:Int))),(AN ((c+1))),(NL (c+1) (c+1)),(CV [(3,⟨true,2,1,(fun i_1=>[.p (.int .i64 (↑n:Int)),.ar 2 933 0 (c+1)])⟩),(933,⟨false,2,(c+1),(fun i_1=>(if (i_1<c) then [.p (.int .i64 ((h i_1).1)),.p (.int .i64 ((h i_1).2.1))] else [.p (.int .i64 (p (g k).1.toNat)),.p (.int .i64 (p (g k).2.1.toNat))]))⟩),(901,⟨false,2,1,(fun i_1=>[.p (.int .i64 (p (g k).1.toNat)),.p (.int .i64 (p (g k).2.1.toNat))])⟩),(101,⟨true,2,1,(fun i_1=>[.p (.int .i64 ((g k).1)),.p (.int .i64 ((g k).2.1))])⟩),(0,⟨true,2,1,(fun i_1=>[.p (.int .i64 (↑N:Int)),.p (.seq true 2 nb (bRw g))])⟩),(1,⟨true,2,1,(fun i_1=>[.p (.int .i64 0),.p (.nil)])⟩),(2,⟨false,1,N,(fun i_1=>[.p (.int .i64 (p i_1))])⟩)] [0,1,2,3,933] 1 (c+1) (fun i=>if (i<c) then [.p (.int .i64 ((h i).1)),.p (.int .i64 ((h i).2.1))] else [.p (.int .i64 (p (g k).1.toNat)),.p (.int .i64 (p (g k).2.1.toNat))]) (fun i=>[.p (.int .i64 (if i<c then (h i).1 else p (g k).1.toNat)),.p (.int .i64 (if i<c then (h i).2.1 else p (g k).2.1.toNat))]))] [0,1,2,3,4,3,5,6,7,3,8,9,10,11,11,12,3,13,14,15,16,3,4,17,18,19,20,21,22,23,24,24,24,25,24,20,21,26,27,28,13,13,19,20,21,28,13,13,29,30,31,32,28,13,13,33,24,34,28,35,36]):=by kernel_rfl
theorem wjf (g:Nat→T_Bar) (nb N:Nat) (S:T_IntS) (n:Nat) (p:Nat→Int) (k c:Nat) (h:Nat→T_Bar) :
    zM 0 [rg 1,.dec true,rg 4,rg 12,rg 6,.dec false,rg 2,.head] zf26 (W1 g nb N S n p k c h) [0,1,2,3,4] 1 (W1 g nb N S n p (k+1) c h) =
    some (zf26,zD [((decide ((↑k:Int)<(↑nb:Int)))=true),(IL 0 (↑k:Int)),(IT (↑k:Int) (↑nb:Int)),(NT 0 1),((true=true)→ (AN 1)),(IL 0 ((g k).1)),(IT ((g k).1) (↑N:Int)),(NT ((g k).1.toNat) N),(IL 0 ((g k).2.1)),(IT ((g k).2.1) (↑N:Int)),(NT ((g k).2.1.toNat) N),(AG (decide (p ((g (↑k:Int).toNat).1.toNat+0)≥0))),((bif decide (p ((g (↑k:Int).toNat).1.toNat+0)≥0) then decide (p ((g (↑k:Int).toNat).2.1.toNat+0)≥0) else false)=false),(ZLo ((↑k:Int)+1)),(ZHi ((↑k:Int)+1)),(AI ((↑N:Int))),(AN nb),(AP nb (bRw g)),(AN S.1),(AP S.1 (iRw S)),(AN 0),(AN N),(AI ((↑nb:Int))),((((↑k:Int)+1):Int)=(↑(k+1):Int)),(AN 2),(NL 1 1),(AI 0),(AN 1),(NL N N),(AA N (fun i=>[.p (.int .i64 (p i))])),(AI ((↑n:Int))),(AN c),(NL c c),(AA c (fun i=>[.p (.int .i64 ((h i).1)),.p (.int .i64 ((h i).2.1))]))] [0,1,2,3,4,3,5,6,7,3,8,9,10,11,11,12,13,14,15,16,17,18,19,20,20,20,21,20,16,17,22,23,24,25,25,15,16,17,24,25,25,26,27,28,29,24,25,25,30,20,31,24,32,33]):=by kernel_rfl
theorem wje (g:Nat→T_Bar) (nb N:Nat) (S:T_IntS) (n:Nat) (p:Nat→Int) (k c:Nat) (h:Nat→T_Bar) :
    zP Tryz.f223 0 [rg 1,.dec false,rg 2] zf26 (W1 g nb N S n p k c h) [4] 1 [(0,brOb c h)] (.agg [.p (.int .i64 n),.ar 2 0 0 c]) =
    some [((decide ((↑k:Int)<(↑nb:Int)))=false),(NT 0 1),(NT 0 1),((true=true)→ (AN 1)),(NT 0 1),(AI ((↑n:Int))),(AN 0),(AN c),(AN 2),(NL c c),(AA c (fun i=>[.p (.int .i64 ((h i).1)),.p (.int .i64 ((h i).2.1))])),(AE c)]:=by kernel_rfl
theorem vsz (g:Nat→T_Bar) (nb N:Nat) (S:T_IntS) :
    zT Tryz.f227 [rg 2,rg 6,rg 1,rg 1,.head] [grG g nb N,inL S] [0,32,192] (V0 g nb N S 0 0 (fun _=>0)) =
    some (zf48,zD [(NT 0 1),(IL 0 (if true=true then if (if false=true then if (↑N:Int)>8 then (↑N:Int) else 8 else if (↑N:Int)<8 then (↑N:Int) else 8)>0 then if false=true then if (↑N:Int)>8 then (↑N:Int) else 8 else if (↑N:Int)<8 then (↑N:Int) else 8 else 0 else if (if false=true then if (↑N:Int)>8 then (↑N:Int) else 8 else if (↑N:Int)<8 then (↑N:Int) else 8)<0 then if false=true then if (↑N:Int)>8 then (↑N:Int) else 8 else if (↑N:Int)<8 then (↑N:Int) else 8 else 0)),(IL (if true=true then if (if false=true then if (↑N:Int)>8 then (↑N:Int) else 8 else if (↑N:Int)<8 then (↑N:Int) else 8)>0 then if false=true then if (↑N:Int)>8 then (↑N:Int) else 8 else if (↑N:Int)<8 then (↑N:Int) else 8 else 0 else if (if false=true then if (↑N:Int)>8 then (↑N:Int) else 8 else if (↑N:Int)<8 then (↑N:Int) else 8)<0 then if false=true then if (↑N:Int)>8 then (↑N:Int) else 8 else if (↑N:Int)<8 then (↑N:Int) else 8 else 0) (if true=true then if (if false=true then if (↑N:Int)>8 then (↑N:Int) else 8 else if (↑N:Int)<8 then (↑N:Int) else 8)>0 then if false=true then if (↑N:Int)>8 then (↑N:Int) else 8 else if (↑N:Int)<8 then (↑N:Int) else 8 else 0 else if (if false=true then if (↑N:Int)>8 then (↑N:Int) else 8 else if (↑N:Int)<8 then (↑N:Int) else 8)<0 then if false=true then if (↑N:Int)>8 then (↑N:Int) else 8 else if (↑N:Int)<8 then (↑N:Int) else 8 else 0)),(IL ((if true=true then if (if false=true then if (↑N:Int)>8 then (↑N:Int) else 8 else if (↑N:Int)<8 then (↑N:Int) else 8)>0 then if false=true then if (↑N:Int)>8 then (↑N:Int) else 8 else if (↑N:Int)<8 then (↑N:Int) else 8 else 0 else if (if false=true then if (↑N:Int)>8 then (↑N:Int) else 8 else if (↑N:Int)<8 then (↑N:Int) else 8)<0 then if false=true then if (↑N:Int)>8 then (↑N:Int) else 8 else if (↑N:Int)<8 then (↑N:Int) else 8 else 0)*(↑8:Int)) 281474976710656),(ZHi (if true=true then if (if false=true then if (↑N:Int)>8 then (↑N:Int) else 8 else if (↑N:Int)<8 then (↑N:Int) else 8)>0 then if false=true then if (↑N:Int)>8 then (↑N:Int) else 8 else if (↑N:Int)<8 then (↑N:Int) else 8 else 0 else if (if false=true then if (↑N:Int)>8 then (↑N:Int) else 8 else if (↑N:Int)<8 then (↑N:Int) else 8)<0 then if false=true then if (↑N:Int)>8 then (↑N:Int) else 8 else if (↑N:Int)<8 then (↑N:Int) else 8 else 0)),(AI ((↑N:Int))),(AN nb),(AP nb (bRw g)),(AN S.1),(AP S.1 (iRw S)),(AN 0),((((if true=true then if (if false=true then if (↑N:Int)>8 then (↑N:Int) else 8 else if (↑N:Int)<8 then (↑N:Int) else 8)>0 then if false=true then if (↑N:Int)>8 then (↑N:Int) else 8 else if (↑N:Int)<8 then (↑N:Int) else 8 else 0 else if (if false=true then if (↑N:Int)>8 then (↑N:Int) else 8 else if (↑N:Int)<8 then (↑N:Int) else 8)<0 then if false=true then if (↑N:Int)>8 then (↑N:Int) else 8 else if (↑N:Int)<8 then (↑N:Int) else 8 else 0).toNat):Nat)=N),((0:Int)=(↑0:Int)),((([AV.p (PV.int IntKind.i64 (↑N:Int)),brL g nb].length):Nat)=2),(NL 1 1),((((List.map (fun v=>AV.p (absV v)) [Value.int IntKind.i64 0,Value.slice none 0 0]).length):Nat)=2),(AI 0),(AN 1),(NL N ((if true=true then if (if false=true then if (↑N:Int)>8 then (↑N:Int) else 8 else if (↑N:Int)<8 then (↑N:Int) else 8)>0 then if false=true then if (↑N:Int)>8 then (↑N:Int) else 8 else if (↑N:Int)<8 then (↑N:Int) else 8 else 0 else if (if false=true then if (↑N:Int)>8 then (↑N:Int) else 8 else if (↑N:Int)<8 then (↑N:Int) else 8)<0 then if false=true then if (↑N:Int)>8 then (↑N:Int) else 8 else if (↑N:Int)<8 then (↑N:Int) else 8 else 0).toNat)),(AA N (fun i=>[.p (.int .i64 0)]))] [0,1,2,3,4,5,6,7,8,9,10,10,10,11,12,12,13,14,14,5,6,7,15,14,14,16,17,18,19]):=by kernel_rfl
theorem vst (g:Nat→T_Bar) (nb N:Nat) (S:T_IntS) (v n:Nat) (p:Nat→Int) :
    zM 0 [rg 4,.dec true,rg 4,rm [(2,oc [] (.p (.bool false)))] 1,.dec true,rg 5,rg 3,rg 3,.head] zf48 (V0 g nb N S v n p) [0,1,2] 1 (V0 g nb N S (v+1) (n+1) (fun u=>if u=v then n else p u)) =
    some (zf48,zD [((decide ((↑v:Int)<(↑N:Int)))=true),(IL 0 (↑v:Int)),(IT (↑v:Int) (↑N:Int)),(NT v N),((false=true)→ ((N:Nat)=1)),zE 92 [.p (.seq true 1 S.1 (iRw S)),.p (.int .i64 (↑v:Int))] [] (.p (.bool false)),((!false)=true),(ZLo ((↑n:Int)+1)),(ZHi ((↑n:Int)+1)),(ZLo ((↑v:Int)+1)),(ZHi ((↑v:Int)+1)),(AI ((↑N:Int))),(AN nb),(AP nb (bRw g)),(AN S.1),(AP S.1 (iRw S)),(AN 0),(AN N),((((↑n:Int)+1):Int)=(↑(n+1):Int)),((((↑v:Int)+1):Int)=(↑(v+1):Int)),(AN 2),(NL 1 1),(AI 0),(AN 1),(NL N N),(CV [(2,⟨false,1,N,(fun i_1=>(if (i_1=v) then [.p (.int .i64 (↑n:Int))] else (if (i_1=v) then [.p (.int .i64 (-1))] else [.p (.int .i64 (p i_1))])))⟩),(0,⟨true,2,1,(fun i_1=>[.p (.int .i64 (↑N:Int)),.p (.seq true 2 nb (bRw g))])⟩),(1,⟨true,2,1,(fun i_1=>[.p (.int .i64 0),.p (.nil)])⟩)] [0,1,2] 1 N (fun i=>if (i=v) then [.p (.int .i64 (↑n:Int))] else (if (i=v) then [.p (.int .i64 (-1))] else [.p (.int .i64 (p i))])) (fun i=>[.p (.int .i64 (if i=v then (↑n:Int) else p i))]))] [0,1,2,3,4,5,6,1,2,3,4,7,8,9,10,11,12,13,14,15,16,16,16,17,18,19,20,21,21,11,12,13,20,21,21,22,23,24,25]):=by kernel_rfl
theorem vsf (g:Nat→T_Bar) (nb N:Nat) (S:T_IntS) (v n:Nat) (p:Nat→Int) :
    zM 0 [rg 4,.dec true,rg 4,rm [(2,oc [] (.p (.bool true)))] 1,.dec false,rg 3,.head] zf48 (V0 g nb N S v n p) [0,1,2] 1 (V0 g nb N S (v+1) n (fun u=>if u=v then -1 else p u)) =
    some (zf48,[((decide ((↑v:Int)<(↑N:Int)))=true),(IL 0 (↑v:Int)),(IT (↑v:Int) (↑N:Int)),(NT v N),((false=true)→ ((N:Nat)=1)),zE 92 [.p (.seq true 1 S.1 (iRw S)),.p (.int .i64 (↑v:Int))] [] (.p (.bool true)),((!true)=false),(ZLo ((↑v:Int)+1)),(ZHi ((↑v:Int)+1)),(AI ((↑N:Int))),(AN nb),(AP nb (bRw g)),(AN S.1),(AP S.1 (iRw S)),(AN 0),(AN 0),(AN 0),(AN N),(AI ((↑n:Int))),((((↑v:Int)+1):Int)=(↑(v+1):Int)),(AN 2),(NL 1 1),(NL 1 1),(AI ((↑N:Int))),(AN nb),(AP nb (bRw g)),(AN 2),(NL 1 1),(NL 1 1),(AI 0),(AN 1),(NL N N),(CV [(2,⟨false,1,N,(fun i_1=>(if (i_1=v) then [.p (.int .i64 (-1))] else [.p (.int .i64 (p i_1))]))⟩),(0,⟨true,2,1,(fun i_1=>[.p (.int .i64 (↑N:Int)),.p (.seq true 2 nb (bRw g))])⟩),(1,⟨true,2,1,(fun i_1=>[.p (.int .i64 0),.p (.nil)])⟩)] [0,1,2] 1 N (fun i=>if (i=v) then [.p (.int .i64 (-1))] else [.p (.int .i64 (p i))]) (fun i=>[.p (.int .i64 (if i=v then -1 else p i))]))]):=by kernel_rfl
theorem vsx (g:Nat→T_Bar) (nb N:Nat) (S:T_IntS) (v n:Nat) (p:Nat→Int) :
    zM 0 [rg 4,.dec false,rg 5,rg 1,.head] zf48 (V0 g nb N S v n p) [0,1,2,227,163] 1 (V1 g nb N S n p 0 0 (fun _=>(0,0,()))) =
    some (zf27,zD [((decide ((↑v:Int)<(↑N:Int)))=false),(NT 0 1),((true=true)→ (AN 1)),(AI ((↑N:Int))),(AN nb),(AP nb (bRw g)),(AN S.1),(AP S.1 (iRw S)),(AN 0),(AN N),((0:Int)=(↑0:Int)),(AN 2),(NL 1 1),(AI 0),(AN 1),(NL N N),(AA N (fun i=>[.p (.int .i64 (p i))])),((((List.map (fun v=>AV.p (absV v)) [Value.int IntKind.i64 0,Value.slice none 0 0]).length):Nat)=2),(AI ((↑n:Int))),(NL 0 0),(AA 0 (fun i=>[.p (.int .i64 0),.p (.int .i64 0)]))] [0,1,2,3,4,5,6,7,8,8,8,9,8,10,11,12,12,3,4,5,11,12,12,13,14,15,16,17,12,12,18,8,8,11,19,20]):=by kernel_rfl
theorem vjt (g:Nat→T_Bar) (nb N:Nat) (S:T_IntS) (n:Nat) (p:Nat→Int) (k c:Nat) (h:Nat→T_Bar) :
    zM 0 [rm [(7,oc [] (.p (.bool true)))] 1,.dec true,rg 10,rg 10,rg 6,.dec true,rg 9,rg 3,.head] zf27 (V1 g nb N S n p k c h) [0,1,2,3,1317] 1 (V1 g nb N S n p (k+1) (c+1) (snoc c h (p (g k).1.toNat,p (g k).2.1.toNat,()))) =
    some (zf27,zD [(NT 0 1),(((decide ((↑k:Int)<(↑nb:Int)))=true)→(NT 0 1)),(AG (decide ((↑k:Int)<(↑nb:Int)))),(((decide ((↑k:Int)<(↑nb:Int)))=true)→ zE 134 [(zf101 N nb g)] [] (.p (.bool true))),((bif decide ((↑k:Int)<(↑nb:Int)) then true else false)=true),(IL 0 (↑k:Int)),(IT (↑k:Int) (↑nb:Int)),(IL 0 ((g k).1)),(IT ((g k).1) (↑N:Int)),(NT ((g k).1.toNat) N),(IL 0 ((g k).2.1)),(IT ((g k).2.1) (↑N:Int)),(NT ((g k).2.1.toNat) N),(AG (decide (p ((g (↑k:Int).toNat).1.toNat+0)≥0))),((bif decide (p ((g (↑k:Int).toNat).1.toNat+0)≥0) then decide (p ((g (↑k:Int).toNat).2.1.toNat+0)≥0) else false)=true),(NL 1 1),(NL c c),(NL ((c+1)*16) 140737488355328),(NL (c+1) 9223372036854775807),((true=true)→ (AN 1)),(ZLo ((↑k:Int)+1)),(ZHi ((↑k:Int)+1)),(AI ((↑N:Int))),(AN nb),(AP nb (bRw g)),(AN S.1),(AP S.1 (iRw S)),(AN 0),(AN N),((((↑k:Int)+1):Int)=(↑(k+1):Int)),(AN 2),(AI 0),(AN 1),(NL N N),(AA N (fun i=>[.p (.int .i64 (p i))])),(AI ((↑n:Int))),(AN ((c+1))),(NL (c+1) (c+1)),(CV [(3,⟨true,2,1,(fun i_1=>[.p (.int .i64 (↑n:Int)),.ar 2 1317 0 (c+1)])⟩),(1317,⟨false,2,(c+1),(fun i_1=>(if (i_1<c) then [.p (.int .i64 ((h i_1).1)),.p (.int .i64 ((h i_1).2.1))] else [.p (.int .i64 (p (g k).1.toNat)),.p (.int .i64 (p (g k).2.1.toNat))]))⟩),(1285,⟨false,2,1,(fun i_1=>[.p (.int .i64 (p (g k).1.toNat)),.p (.int .i64 (p (g k).2.1.toNat))])⟩),(0,⟨true,2,1,(fun i_1=>[.p (.int .i64 (↑N:Int)),.p (.seq true 2 nb (bRw g))])⟩),(1,⟨true,2,1,(fun i_1=>[.p (.int .i64 0),.p (.nil)])⟩),(2,⟨false,1,N,(fun i_1=>[.p (.int .i64 (p i_1))])⟩)] [0,1,2,3,1317] 1 (c+1) (fun i=>if (i<c) then [.p (.int .i64 ((h i).1)),.p (.int .i64 ((h i).2.1))] else [.p (.int .i64 (p (g k).1.toNat)),.p (.int .i64 (p (g k).2.1.toNat))]) (fun i=>[.p (.int .i64 (if i<c then (h i).1 else p (g k).1.toNat)),.p (.int .i64 (if i<c then (h i).2.1 else p (g k).2.1.toNat))]))] [0,1,2,3,2,4,0,5,6,7,8,9,0,5,6,10,11,12,13,13,14,0,15,16,17,18,0,19,20,21,22,23,24,25,26,27,27,27,28,27,29,30,15,15,22,23,24,30,15,15,31,32,33,34,30,15,15,35,27,36,30,37,38]):=by kernel_rfl
theorem vjf (g:Nat→T_Bar) (nb N:Nat) (S:T_IntS) (n:Nat) (p:Nat→Int) (k c:Nat) (h:Nat→T_Bar) :
    zM 0 [rm [(7,oc [] (.p (.bool true)))] 1,.dec true,rg 10,rg 10,rg 6,.dec false,rg 3,.head] zf27 (V1 g nb N S n p k c h) [0,1,2,3,4] 1 (V1 g nb N S n p (k+1) c h) =
    some (zf27,zD [(NT 0 1),(((decide ((↑k:Int)<(↑nb:Int)))=true)→(NT 0 1)),(AG (decide ((↑k:Int)<(↑nb:Int)))),(((decide ((↑k:Int)<(↑nb:Int)))=true)→ zE 134 [(zf101 N nb g)] [] (.p (.bool true))),((bif decide ((↑k:Int)<(↑nb:Int)) then true else false)=true),(IL 0 (↑k:Int)),(IT (↑k:Int) (↑nb:Int)),(IL 0 ((g k).1)),(IT ((g k).1) (↑N:Int)),(NT ((g k).1.toNat) N),(IL 0 ((g k).2.1)),(IT ((g k).2.1) (↑N:Int)),(NT ((g k).2.1.toNat) N),(AG (decide (p ((g (↑k:Int).toNat).1.toNat+0)≥0))),((bif decide (p ((g (↑k:Int).toNat).1.toNat+0)≥0) then decide (p ((g (↑k:Int).toNat).2.1.toNat+0)≥0) else false)=false),(ZLo ((↑k:Int)+1)),(ZHi ((↑k:Int)+1)),(AI ((↑N:Int))),(AN nb),(AP nb (bRw g)),(AN S.1),(AP S.1 (iRw S)),(AN 0),(AN N),((((↑k:Int)+1):Int)=(↑(k+1):Int)),(AN 2),(NL 1 1),(AI 0),(AN 1),(NL N N),(AA N (fun i=>[.p (.int .i64 (p i))])),(AI ((↑n:Int))),(AN c),(NL c c),(AA c (fun i=>[.p (.int .i64 ((h i).1)),.p (.int .i64 ((h i).2.1))]))] [0,1,2,3,2,4,0,5,6,7,8,9,0,5,6,10,11,12,13,13,14,15,16,17,18,19,20,21,22,22,22,23,22,24,25,26,26,17,18,19,25,26,26,27,28,29,30,25,26,26,31,22,32,25,33,34]):=by kernel_rfl
theorem vje (g:Nat→T_Bar) (nb N:Nat) (S:T_IntS) (n:Nat) (p:Nat→Int) (k c:Nat) (h:Nat→T_Bar) :
    zP Tryz.f227 0 [rm [(7,oc [] (.p (.bool true)))] 1,.dec false,rg 2] zf27 (V1 g nb N S n p k c h) [4] 1 [(0,brOb c h)] (.agg [.p (.int .i64 n),.ar 2 0 0 c]) =
    some (zD [(NT 0 1),(((decide ((↑k:Int)<(↑nb:Int)))=true)→(NT 0 1)),(AG (decide ((↑k:Int)<(↑nb:Int)))),(((decide ((↑k:Int)<(↑nb:Int)))=true)→ zE 134 [(zf101 N nb g)] [] (.p (.bool true))),((bif decide ((↑k:Int)<(↑nb:Int)) then true else false)=false),((true=true)→ (AN 1)),(AI ((↑n:Int))),(AN 0),(AN c),(AN 2),(NL c c),(AA c (fun i=>[.p (.int .i64 ((h i).1)),.p (.int .i64 ((h i).2.1))])),(AE c)] [0,1,2,3,2,4,0,0,5,0,6,7,8,9,10,11,12]):=by kernel_rfl
theorem ciz (g:Nat→T_Bar) (nb N k:Nat) :
    zT Tryz.f209 [rg 2,rg 2,rm [(1,oc [] (.p (.bool true))),(3,oc [] (.p (.bool true)))] 2,.dec false,rg 4,.head] [grG g nb N,.p (.int .i64 k)] [0,64] (C0 g nb N k 0 0 (fun _=>(0,fun _=>0))) =
    some (zf49,zD [(NT 0 1),zE 130 [(zf101 N nb g)] [] (.p (.bool true)),(AG (!!true)),(((!!true)=true)→ zE 90 [.p (.int .i64 (↑k:Int)),.p (.int .i64 0),.p (.int .i64 3)] [] (.p (.bool true))),(((!true)=false)→ ((!!true)=true)),((bif !true then true else !true)=false),(IL 0 (↑N:Int)),(AI ((↑N:Int))),(AN nb),(AP nb (bRw g)),(AI ((↑k:Int))),(AN 0),(AI ((shlI IntKind.i64 1 (↑N:Int)))),((0:Int)=(↑0:Int)),((([AV.p (PV.int IntKind.i64 (↑N:Int)),brL g nb].length):Nat)=2),(NL 1 1),(AN 1),(NL 0 0),(∀ i:Nat,(((i:Nat)<0)→(All []∧(([.p (.nil)]:List AV)=[.p (.seq false 1 0 (fun i_1=>[.int .i64 ((0,fun x=>0).2 i_1)]))]))))] [0,1,2,3,2,4,5,0,6,7,8,9,10,11,11,11,12,13,14,15,15,7,8,9,16,17,18]):=by kernel_rfl
theorem cin (g:Nat→T_Bar) (nb N k w c:Nat) (G:Nat→T_IntS) (s:T_IntS) :
    zM 0 [rg 1,.dec true,rg 2,rm [(3,oc [(0,iOb s.1 s.2)] (.ar 1 0 0 s.1))] 1,rg 4,.dec true,rg 2,.head] zf49 (C0 g nb N k w c G) [0,1] 1 (C0 g nb N k (w+1) c G) =
    some (zf49,[((decide ((↑w:Int)<shlI IntKind.i64 1 (↑N:Int)))=true),(NT 0 1),zE 119 [.p (.int .i64 (↑w:Int)),.p (.int .i64 (↑N:Int))] [(0,⟨false,1,s.1,(fun i=>[.p (.int .i64 (s.2 i))])⟩)] (.ar 1 0 0 s.1),(((↑s.1:Int) != (↑k:Int))=true),(ZLo ((↑w:Int)+1)),(ZHi ((↑w:Int)+1)),(AI ((↑N:Int))),(AN nb),(AP nb (bRw g)),(AI ((↑k:Int))),(AN 0),(AN 0),(AN c),(AI ((shlI IntKind.i64 1 (↑N:Int)))),((((↑w:Int)+1):Int)=(↑(w+1):Int)),(AN 2),(NL 1 1),(NL 1 1),(AI ((↑N:Int))),(AN nb),(AP nb (bRw g)),(AN 1),(NL c c),(AA c (fun i=>[.p (.seq false 1 ((G i).1) (fun i_1=>[.int .i64 ((G i).2 i_1)]))]))]):=by kernel_rfl
theorem cit (g:Nat→T_Bar) (nb N k w c:Nat) (G:Nat→T_IntS) (s:T_IntS) (n m:Nat) (h:Nat→T_Bar) (b:Bool) :
    zM 0 [rg 1,.dec true,rg 2,rm [(3,oc [(0,iOb s.1 s.2)] (.ar 1 0 0 s.1))] 1,rg 4,.dec false,rm [(2,oc [(0,brOb m h)] (.agg [.p (.int .i64 n),.ar 2 0 0 m]))] 2,rm [(5,oc [] (.p (.bool b)))] 2,.dec true,rg 5,rg 2,.head] zf49 (C0 g nb N k w c G) [0,898] 1 (C0 g nb N k (w+1) (c+1) (snocC c G s)) =
    some (zf49,zD [((decide ((↑w:Int)<shlI IntKind.i64 1 (↑N:Int)))=true),(NT 0 1),zE 119 [.p (.int .i64 (↑w:Int)),.p (.int .i64 (↑N:Int))] [(0,⟨false,1,s.1,(fun i=>[.p (.int .i64 (s.2 i))])⟩)] (.ar 1 0 0 s.1),(((↑s.1:Int) != (↑k:Int))=false),(AN 1),(NL s.1 s.1),zE 223 [(zf101 N nb g),.p (.seq true 1 s.1 (iRw s))] (zf107 m h) (.agg [.p (.int .i64 (↑n:Int)),.ar 2 0 0 m]),((true=true)→ (AN 1)),(((decide ((↑n:Int)≥2))=true)→(NT 0 1)),(AG (decide ((↑n:Int)≥2))),(((decide ((↑n:Int)≥2))=true)→ (AN 2)),(((decide ((↑n:Int)≥2))=true)→(NL m m)),(((decide ((↑n:Int)≥2))=true)→ zE 224 [(zf101 n m h)] [] (.p (.bool b))),((bif decide ((↑n:Int)≥2) then !b else false)=true),(NL 1 1),(NL c c),(NL ((c+1)*24) 140737488355328),(NL (c+1) 9223372036854775807),(ZLo ((↑w:Int)+1)),(ZHi ((↑w:Int)+1)),(AI ((↑N:Int))),(AN nb),(AP nb (bRw g)),(AI ((↑k:Int))),(AN 0),(AN ((c+1))),(AI ((shlI IntKind.i64 1 (↑N:Int)))),((((↑w:Int)+1):Int)=(↑(w+1):Int)),(AN 2),(NL (c+1) (c+1)),(CV [(898,⟨false,1,(c+1),(fun i_1=>(if (i_1<c) then [.p (.seq false 1 ((G i_1).1) (fun i_2=>[.int .i64 ((G i_1).2 i_2)]))] else [.ar 1 194 0 s.1]))⟩),(866,⟨false,1,1,(fun i_1=>[.ar 1 194 0 s.1])⟩),(482,⟨true,2,1,(fun i_1=>[.p (.int .i64 (↑n:Int)),.ar 2 450 0 m])⟩),(450,⟨false,2,m,(fun i_1=>[.p (.int .i64 ((h i_1).1)),.p (.int .i64 ((h i_1).2.1))])⟩),(194,⟨false,1,s.1,(fun i_1=>[.p (.int .i64 (s.2 i_1))])⟩),(0,⟨true,2,1,(fun i_1=>[.p (.int .i64 (↑N:Int)),.p (.seq true 2 nb (bRw g))])⟩)] [0,898] 1 (c+1) (fun i=>if (i<c) then [.p (.seq false 1 ((G i).1) (fun i_1=>[.int .i64 ((G i).2 i_1)]))] else [.ar 1 194 0 s.1]) (fun i=>[.p (.seq false 1 (if i<c then (G i).1 else s.1) (fun i_1=>[.int .i64 ((snocC c G s i).2 i_1)]))]))] [0,1,2,3,1,4,5,6,1,7,1,8,9,10,11,12,9,9,13,14,15,16,17,18,19,20,21,22,23,24,24,25,26,27,28,14,14,20,21,22,4,29,30]):=by kernel_rfl
theorem cif (g:Nat→T_Bar) (nb N k w c:Nat) (G:Nat→T_IntS) (s:T_IntS) (n m:Nat) (h:Nat→T_Bar) (b:Bool) :
    zM 0 [rg 1,.dec true,rg 2,rm [(3,oc [(0,iOb s.1 s.2)] (.ar 1 0 0 s.1))] 1,rg 4,.dec false,rm [(2,oc [(0,brOb m h)] (.agg [.p (.int .i64 n),.ar 2 0 0 m]))] 2,rm [(5,oc [] (.p (.bool b)))] 2,.dec false,rg 2,.head] zf49 (C0 g nb N k w c G) [0,1] 1 (C0 g nb N k (w+1) c G) =
    some (zf49,zD [((decide ((↑w:Int)<shlI IntKind.i64 1 (↑N:Int)))=true),(NT 0 1),zE 119 [.p (.int .i64 (↑w:Int)),.p (.int .i64 (↑N:Int))] [(0,⟨false,1,s.1,(fun i=>[.p (.int .i64 (s.2 i))])⟩)] (.ar 1 0 0 s.1),(((↑s.1:Int) != (↑k:Int))=false),(AN 1),(NL s.1 s.1),zE 223 [(zf101 N nb g),.p (.seq true 1 s.1 (iRw s))] (zf107 m h) (.agg [.p (.int .i64 (↑n:Int)),.ar 2 0 0 m]),((true=true)→ (AN 1)),(((decide ((↑n:Int)≥2))=true)→(NT 0 1)),(AG (decide ((↑n:Int)≥2))),(((decide ((↑n:Int)≥2))=true)→ (AN 2)),(((decide ((↑n:Int)≥2))=true)→(NL m m)),(((decide ((↑n:Int)≥2))=true)→ zE 224 [(zf101 n m h)] [] (.p (.bool b))),((bif decide ((↑n:Int)≥2) then !b else false)=false),(ZLo ((↑w:Int)+1)),(ZHi ((↑w:Int)+1)),(AI ((↑N:Int))),(AN nb),(AP nb (bRw g)),(AI ((↑k:Int))),(AN 0),(AN c),(AI ((shlI IntKind.i64 1 (↑N:Int)))),((((↑w:Int)+1):Int)=(↑(w+1):Int)),(AN 2),(NL 1 1),(NL c c),(AA c (fun i=>[.p (.seq false 1 ((G i).1) (fun i_1=>[.int .i64 ((G i).2 i_1)]))]))] [0,1,2,3,1,4,5,6,1,7,1,8,9,10,11,12,9,9,13,14,15,16,17,18,19,20,20,21,22,23,24,25,25,16,17,18,4,26,27]):=by kernel_rfl
theorem cie (g:Nat→T_Bar) (nb N k w c:Nat) (G:Nat→T_IntS) :
    zP Tryz.f209 0 [rg 1,.dec false,rg 2] zf49 (C0 g nb N k w c G) [1] 1 [(0,ssOb c G)] (.ar 1 0 0 c) =
    some [((decide ((↑w:Int)<shlI IntKind.i64 1 (↑N:Int)))=false),(AN 0),(AN c),(AN 1),(NL c c),(AA c (fun i=>[.p (.seq false 1 ((G i).1) (fun i_1=>[.int .i64 ((G i).2 i_1)]))])),(∀ i:Nat,(((i:Nat)<c)→All [(false=false),(AE (((G i).1)))]))]:=by kernel_rfl
theorem csz (g:Nat→T_Bar) (nb N k:Nat) :
    zT Tryz.f212 [rg 2,rg 2,rm [(1,oc [] (.p (.bool true))),(3,oc [] (.p (.bool true)))] 2,.dec false,rg 1,.head] [grG g nb N,.p (.int .i64 k)] [0,64] (D0 g nb N k 0 0 (fun _=>(0,fun _=>0))) =
    some (zf50,zD [(NT 0 1),zE 134 [(zf101 N nb g)] [] (.p (.bool true)),(AG (!!true)),(((!!true)=true)→ zE 121 [.p (.int .i64 (↑k:Int)),.p (.int .i64 0),.p (.int .i64 3)] [] (.p (.bool true))),(((!true)=false)→ ((!!true)=true)),((bif !true then true else !true)=false),(AI ((↑N:Int))),(AN nb),(AP nb (bRw g)),(AI ((↑k:Int))),(AN 0),((0:Int)=(↑0:Int)),((([AV.p (PV.int IntKind.i64 (↑N:Int)),brL g nb].length):Nat)=2),(NL 1 1),(AN 1),(NL 0 0),(∀ i:Nat,(((i:Nat)<0)→(All []∧(([.p (.nil)]:List AV)=[.p (.seq false 1 0 (fun i_1=>[.int .i64 ((0,fun x=>0).2 i_1)]))]))))] [0,1,2,3,2,4,5,6,7,8,9,10,10,10,11,12,13,13,6,7,8,14,15,16]):=by kernel_rfl
theorem csn (g:Nat→T_Bar) (nb N k w c:Nat) (G:Nat→T_IntS) (s:T_IntS) :
    zM 0 [rg 5,.dec true,rm [(3,oc [(0,iOb s.1 s.2)] (.ar 1 0 0 s.1))] 1,rm [(5,gF),(0,gF),(0,gF),(0,gF),(0,gF),(0,gF),(1,gF),(0,gF),(0,gF),(0,gF),(0,gF),(0,gF)] 0,.dec false,rg 3,.head] zf50 (D0 g nb N k w c G) [0,1] 1 (D0 g nb N k (w+1) c G) =
    some (zf50,zD [(NT 0 1),(IL 0 (↑N:Int)),((decide ((↑w:Int)<shlI IntKind.i64 1 (↑N:Int)))=true),zE 214 [.p (.int .i64 (↑N:Int)),.p (.int .i64 (↑w:Int))] [(0,⟨false,1,s.1,(fun i=>[.p (.int .i64 (s.2 i))])⟩)] (.ar 1 0 0 s.1),(((↑s.1:Int)==(↑k:Int))=false),(false=false),(ZLo ((↑w:Int)+1)),(ZHi ((↑w:Int)+1)),(AI ((↑N:Int))),(AN nb),(AP nb (bRw g)),(AI ((↑k:Int))),(AN 0),(AN c),((((↑w:Int)+1):Int)=(↑(w+1):Int)),(AN 2),(NL 1 1),(AN 1),(NL c c),(AA c (fun i=>[.p (.seq false 1 ((G i).1) (fun i_1=>[.int .i64 ((G i).2 i_1)]))]))] [0,1,2,0,3,4,4,4,4,4,4,5,5,5,5,5,5,5,6,7,8,9,10,11,12,12,13,14,15,16,16,8,9,10,17,18,19]):=by kernel_rfl
theorem csm (g:Nat→T_Bar) (nb N k w c:Nat) (G:Nat→T_IntS) (s:T_IntS) :
    zM 0 [rg 5,.dec true,rm [(3,oc [(0,iOb s.1 s.2)] (.ar 1 0 0 s.1))] 1,rm [(5,gT),(0,gT),(0,gT),(0,gT),(0,gT),(0,gT),(1,gF),(0,gF),(0,gF),(0,gF),(0,gF),(0,gF)] 0,.dec false,rg 3,.head] zf50 (D0 g nb N k w c G) [0,1] 1 (D0 g nb N k (w+1) c G) =
    some (zf50,zD [(NT 0 1),(IL 0 (↑N:Int)),((decide ((↑w:Int)<shlI IntKind.i64 1 (↑N:Int)))=true),zE 214 [.p (.int .i64 (↑N:Int)),.p (.int .i64 (↑w:Int))] [(0,⟨false,1,s.1,(fun i=>[.p (.int .i64 (s.2 i))])⟩)] (.ar 1 0 0 s.1),(((↑s.1:Int)==(↑k:Int))=true),(ZLo ((↑N:Int) - (↑k:Int))),(ZHi ((↑N:Int) - (↑k:Int))),((decide ((↑N:Int) - (↑k:Int)≥2))=false),(false=false),(ZLo ((↑w:Int)+1)),(ZHi ((↑w:Int)+1)),(AI ((↑N:Int))),(AN nb),(AP nb (bRw g)),(AI ((↑k:Int))),(AN 0),(AN c),((((↑w:Int)+1):Int)=(↑(w+1):Int)),(AN 2),(NL 1 1),(AN 1),(NL c c),(AA c (fun i=>[.p (.seq false 1 ((G i).1) (fun i_1=>[.int .i64 ((G i).2 i_1)]))]))] [0,1,2,0,3,4,4,0,4,4,5,6,4,4,7,7,7,7,7,7,8,9,10,11,12,13,14,15,15,16,17,18,19,19,11,12,13,20,21,22]):=by kernel_rfl
theorem cst (g:Nat→T_Bar) (nb N k w c:Nat) (G:Nat→T_IntS) (s:T_IntS) (n m:Nat) (h:Nat→T_Bar) (b:Bool) :
    zM 0 [rg 5,.dec true,rm [(3,oc [(0,iOb s.1 s.2)] (.ar 1 0 0 s.1))] 1,rm [(5,gT),(0,gT),(0,gT),(0,gT),(0,gT),(0,gT),(1,gT),(0,gT),(0,⟨true,(some ⟨[],[],[],1,[(0,brOb m h)],.agg [.p (.int .i64 n),.ar 2 0 0 m]⟩),some true⟩),(0,⟨true,(some ⟨[],[],[],1,[],.p (.bool b)⟩),some true⟩),(0,gT),(0,gT)] 0,.dec true,rg 5,rg 3,.head] zf50 (D0 g nb N k w c G) [0,994] 1 (D0 g nb N k (w+1) (c+1) (snocC c G s)) =
    some (zf50,zD [(NT 0 1),(IL 0 (↑N:Int)),((decide ((↑w:Int)<shlI IntKind.i64 1 (↑N:Int)))=true),zE 214 [.p (.int .i64 (↑N:Int)),.p (.int .i64 (↑w:Int))] [(0,⟨false,1,s.1,(fun i=>[.p (.int .i64 (s.2 i))])⟩)] (.ar 1 0 0 s.1),(((↑s.1:Int)==(↑k:Int))=true),(ZLo ((↑N:Int) - (↑k:Int))),(ZHi ((↑N:Int) - (↑k:Int))),((decide ((↑N:Int) - (↑k:Int)≥2))=true),(AN 1),(NL s.1 s.1),zE 227 [(zf101 N nb g),.p (.seq true 1 s.1 (iRw s))] (zf107 m h) (.agg [.p (.int .i64 (↑n:Int)),.ar 2 0 0 m]),(AN 2),(NL m m),zE 226 [(zf101 n m h)] [] (.p (.bool b)),((!b)=true),(NL 1 1),(NL c c),(NL ((c+1)*24) 140737488355328),(NL (c+1) 9223372036854775807),(ZLo ((↑w:Int)+1)),(ZHi ((↑w:Int)+1)),(AI ((↑N:Int))),(AN nb),(AP nb (bRw g)),(AI ((↑k:Int))),(AN 0),(AN ((c+1))),((((↑w:Int)+1):Int)=(↑(w+1):Int)),(NL (c+1) (c+1)),(CV [(994,⟨false,1,(c+1),(fun i_1=>(if (i_1<c) then [.p (.seq false 1 ((G i_1).1) (fun i_2=>[.int .i64 ((G i_1).2 i_2)]))] else [.ar 1 258 0 s.1]))⟩),(962,⟨false,1,1,(fun i_1=>[.ar 1 258 0 s.1])⟩),(770,⟨false,2,m,(fun i_1=>[.p (.int .i64 ((h i_1).1)),.p (.int .i64 ((h i_1).2.1))])⟩),(258,⟨false,1,s.1,(fun i_1=>[.p (.int .i64 (s.2 i_1))])⟩),(0,⟨true,2,1,(fun i_1=>[.p (.int .i64 (↑N:Int)),.p (.seq true 2 nb (bRw g))])⟩)] [0,994] 1 (c+1) (fun i=>if (i<c) then [.p (.seq false 1 ((G i).1) (fun i_1=>[.int .i64 ((G i).2 i_1)]))] else [.ar 1 258 0 s.1]) (fun i=>[.p (.seq false 1 (if i<c then (G i).1 else s.1) (fun i_1=>[.int .i64 ((snocC c G s i).2 i_1)]))]))] [0,1,2,0,3,4,4,0,4,4,5,6,4,4,7,0,7,7,8,9,10,7,11,12,13,7,7,14,15,16,17,18,19,20,21,22,23,24,25,25,26,27,11,15,15,21,22,23,8,28,29]):=by kernel_rfl
theorem csf (g:Nat→T_Bar) (nb N k w c:Nat) (G:Nat→T_IntS) (s:T_IntS) (n m:Nat) (h:Nat→T_Bar) (b:Bool) :
    zM 0 [rg 5,.dec true,rm [(3,oc [(0,iOb s.1 s.2)] (.ar 1 0 0 s.1))] 1,rm [(5,gT),(0,gT),(0,gT),(0,gT),(0,gT),(0,gT),(1,gT),(0,gT),(0,⟨true,(some ⟨[],[],[],1,[(0,brOb m h)],.agg [.p (.int .i64 n),.ar 2 0 0 m]⟩),some true⟩),(0,⟨true,(some ⟨[],[],[],1,[],.p (.bool b)⟩),some true⟩),(0,gT),(0,gT)] 0,.dec false,rg 3,.head] zf50 (D0 g nb N k w c G) [0,1] 1 (D0 g nb N k (w+1) c G) =
    some (zf50,zD [(NT 0 1),(IL 0 (↑N:Int)),((decide ((↑w:Int)<shlI IntKind.i64 1 (↑N:Int)))=true),zE 214 [.p (.int .i64 (↑N:Int)),.p (.int .i64 (↑w:Int))] [(0,⟨false,1,s.1,(fun i=>[.p (.int .i64 (s.2 i))])⟩)] (.ar 1 0 0 s.1),(((↑s.1:Int)==(↑k:Int))=true),(ZLo ((↑N:Int) - (↑k:Int))),(ZHi ((↑N:Int) - (↑k:Int))),((decide ((↑N:Int) - (↑k:Int)≥2))=true),(AN 1),(NL s.1 s.1),zE 227 [(zf101 N nb g),.p (.seq true 1 s.1 (iRw s))] (zf107 m h) (.agg [.p (.int .i64 (↑n:Int)),.ar 2 0 0 m]),(AN 2),(NL m m),zE 226 [(zf101 n m h)] [] (.p (.bool b)),((!b)=false),(ZLo ((↑w:Int)+1)),(ZHi ((↑w:Int)+1)),(AI ((↑N:Int))),(AN nb),(AP nb (bRw g)),(AI ((↑k:Int))),(AN 0),(AN c),((((↑w:Int)+1):Int)=(↑(w+1):Int)),(NL 1 1),(NL c c),(AA c (fun i=>[.p (.seq false 1 ((G i).1) (fun i_1=>[.int .i64 ((G i).2 i_1)]))]))] [0,1,2,0,3,4,4,0,4,4,5,6,4,4,7,0,7,7,8,9,10,7,11,12,13,7,7,14,15,16,17,18,19,20,21,21,22,23,11,24,24,17,18,19,8,25,26]):=by kernel_rfl
theorem cse (g:Nat→T_Bar) (nb N k w c:Nat) (G:Nat→T_IntS) :
    zP Tryz.f212 0 [rg 5,.dec false,rg 2] zf50 (D0 g nb N k w c G) [1] 1 [(0,ssOb c G)] (.ar 1 0 0 c) =
    some [(NT 0 1),(IL 0 (↑N:Int)),((decide ((↑w:Int)<shlI IntKind.i64 1 (↑N:Int)))=false),(AN 0),(AN c),(AN 1),(NL c c),(AA c (fun i=>[.p (.seq false 1 ((G i).1) (fun i_1=>[.int .i64 ((G i).2 i_1)]))])),(∀ i:Nat,(((i:Nat)<c)→All [(false=false),(AE (((G i).1)))]))]:=by kernel_rfl
theorem kin (g:Nat→T_Bar) (nb N k:Nat) :
    zS Tryz.f182 [rg 2,rm [(1,oc [] (.p (.bool true))),(3,oc [] (.p (.bool true)))] 8,.dec true,rg 1] [grG g nb N,.p (.int .i64 k)] [] [] (.p (.bool false)) =
    some (zD [(NT 0 1),zE 130 [(zf101 N nb g)] [] (.p (.bool true)),(AG (!!true)),(((!!true)=true)→ zE 90 [.p (.int .i64 (↑k:Int)),.p (.int .i64 1),.p (.int .i64 3)] [] (.p (.bool true))),(((!true)=false)→ ((!!true)=true)),(AG (!bif !true then true else !true)),(((!bif !true then true else !true)=true)→(NT 0 1)),(((bif !true then true else !true)=false)→ ((!bif !true then true else !true)=true)),((bif bif !true then true else !true then true else decide ((↑N:Int)≤(↑k:Int)))=true),(false=false)] [0,1,2,3,2,4,5,6,5,5,7,8,9]):=by kernel_rfl
theorem kiz (g:Nat→T_Bar) (nb N k:Nat) :
    zT Tryz.f182 [rg 2,rm [(1,oc [] (.p (.bool true))),(3,oc [] (.p (.bool true)))] 8,.dec false,rg 2,.head] [grG g nb N,.p (.int .i64 k)] [0] (KI g nb N k 0) =
    some (zf74,zD [(NT 0 1),zE 130 [(zf101 N nb g)] [] (.p (.bool true)),(AG (!!true)),(((!!true)=true)→ zE 90 [.p (.int .i64 (↑k:Int)),.p (.int .i64 1),.p (.int .i64 3)] [] (.p (.bool true))),(((!true)=false)→ ((!!true)=true)),(AG (!bif !true then true else !true)),(((!bif !true then true else !true)=true)→(NT 0 1)),(((bif !true then true else !true)=false)→ ((!bif !true then true else !true)=true)),((bif bif !true then true else !true then true else decide ((↑N:Int)≤(↑k:Int)))=false),(AI ((↑N:Int))),(AN nb),(AP nb (bRw g)),(AI ((↑k:Int))),(AN 0),((0:Int)=(↑0:Int)),((([AV.p (PV.int IntKind.i64 (↑N:Int)),brL g nb].length):Nat)=2),(NL 1 1)] [0,1,2,3,2,4,5,6,5,5,7,8,9,10,11,12,13,12,14,15,16,16,9,10,11]):=by kernel_rfl
theorem kit (g:Nat→T_Bar) (nb N k j c:Nat) (G:Nat→T_IntS) :
    zP Tryz.f182 0 [rg 1,.dec true,rg 2,rm [(2,oc [(0,ssOb c G)] (.ar 1 0 0 c))] 2,.dec true,rg 1] zf74 (KI g nb N k j) [] 1 [] (.p (.bool false)) =
    some [((decide ((↑j:Int)<(↑k:Int)))=true),(NT 0 1),zE 209 [(zf101 N nb g),.p (.int .i64 (↑j:Int))] (zf104 c G) (.ar 1 0 0 c),((decide ((↑c:Int)>0))=true),(false=false)]:=by kernel_rfl
theorem kif (g:Nat→T_Bar) (nb N k j c:Nat) (G:Nat→T_IntS) :
    zM 0 [rg 1,.dec true,rg 2,rm [(2,oc [(0,ssOb c G)] (.ar 1 0 0 c))] 2,.dec false,rg 2,.head] zf74 (KI g nb N k j) [0] 1 (KI g nb N k (j+1)) =
    some (zf74,zD [((decide ((↑j:Int)<(↑k:Int)))=true),(NT 0 1),zE 209 [(zf101 N nb g),.p (.int .i64 (↑j:Int))] (zf104 c G) (.ar 1 0 0 c),((decide ((↑c:Int)>0))=false),(ZLo ((↑j:Int)+1)),(ZHi ((↑j:Int)+1)),(AI ((↑N:Int))),(AN nb),(AP nb (bRw g)),(AI ((↑k:Int))),(AN 0),((((↑j:Int)+1):Int)=(↑(j+1):Int)),(AN 2),(NL 1 1)] [0,1,2,3,4,5,6,7,8,9,10,9,11,12,13,13,6,7,8]):=by kernel_rfl
theorem kie (g:Nat→T_Bar) (nb N k j:Nat) :
    zP Tryz.f182 0 [rg 1,.dec false,rg 1] zf74 (KI g nb N k j) [] 1 [] (.p (.bool true)) =
    some [((decide ((↑j:Int)<(↑k:Int)))=false),(true=true)]:=by kernel_rfl
theorem ksn (g:Nat→T_Bar) (nb N k:Nat) :
    zS Tryz.f185 [rg 2,rm [(1,oc [] (.p (.bool true))),(3,oc [] (.p (.bool true)))] 8,.dec true,rg 1] [grG g nb N,.p (.int .i64 k)] [] [] (.p (.bool false)) =
    some (zD [(NT 0 1),zE 134 [(zf101 N nb g)] [] (.p (.bool true)),(AG (!!true)),(((!!true)=true)→ zE 121 [.p (.int .i64 (↑k:Int)),.p (.int .i64 1),.p (.int .i64 3)] [] (.p (.bool true))),(((!true)=false)→ ((!!true)=true)),(AG (!bif !true then true else !true)),(((!bif !true then true else !true)=true)→(NT 0 1)),(((bif !true then true else !true)=false)→ ((!bif !true then true else !true)=true)),((bif bif !true then true else !true then true else decide ((↑N:Int)≤(↑k:Int)))=true),(false=false)] [0,1,2,3,2,4,5,6,5,5,7,8,9]):=by kernel_rfl
theorem ksz (g:Nat→T_Bar) (nb N k:Nat) :
    zT Tryz.f185 [rg 2,rm [(1,oc [] (.p (.bool true))),(3,oc [] (.p (.bool true)))] 8,.dec false,rg 1,.head] [grG g nb N,.p (.int .i64 k)] [0] (KS g nb N k 0) =
    some (zf75,zD [(NT 0 1),zE 134 [(zf101 N nb g)] [] (.p (.bool true)),(AG (!!true)),(((!!true)=true)→ zE 121 [.p (.int .i64 (↑k:Int)),.p (.int .i64 1),.p (.int .i64 3)] [] (.p (.bool true))),(((!true)=false)→ ((!!true)=true)),(AG (!bif !true then true else !true)),(((!bif !true then true else !true)=true)→(NT 0 1)),(((bif !true then true else !true)=false)→ ((!bif !true then true else !true)=true)),((bif bif !true then true else !true then true else decide ((↑N:Int)≤(↑k:Int)))=false),(AI ((↑N:Int))),(AN nb),(AP nb (bRw g)),(AI ((↑k:Int))),(AN 0),((0:Int)=(↑0:Int)),((([AV.p (PV.int IntKind.i64 (↑N:Int)),brL g nb].length):Nat)=2),(NL 1 1)] [0,1,2,3,2,4,5,6,5,5,7,8,9,10,11,12,13,14,15,16,16,9,10,11]):=by kernel_rfl
theorem kst (g:Nat→T_Bar) (nb N k j c:Nat) (G:Nat→T_IntS) :
    zP Tryz.f185 0 [rg 3,.dec true,rm [(2,oc [(0,ssOb c G)] (.ar 1 0 0 c))] 2,.dec true,rg 1] zf75 (KS g nb N k j) [] 1 [] (.p (.bool false)) =
    some [((decide ((↑j:Int)<(↑k:Int)))=true),(NT 0 1),zE 212 [(zf101 N nb g),.p (.int .i64 (↑j:Int))] (zf104 c G) (.ar 1 0 0 c),((decide ((↑c:Int)>0))=true),(false=false)]:=by kernel_rfl
theorem ksf (g:Nat→T_Bar) (nb N k j c:Nat) (G:Nat→T_IntS) :
    zM 0 [rg 3,.dec true,rm [(2,oc [(0,ssOb c G)] (.ar 1 0 0 c))] 2,.dec false,rg 3,.head] zf75 (KS g nb N k j) [0] 1 (KS g nb N k (j+1)) =
    some (zf75,zD [((decide ((↑j:Int)<(↑k:Int)))=true),(NT 0 1),zE 212 [(zf101 N nb g),.p (.int .i64 (↑j:Int))] (zf104 c G) (.ar 1 0 0 c),((decide ((↑c:Int)>0))=false),(ZLo ((↑j:Int)+1)),(ZHi ((↑j:Int)+1)),(AI ((↑N:Int))),(AN nb),(AP nb (bRw g)),(AI ((↑k:Int))),(AN 0),((((↑j:Int)+1):Int)=(↑(j+1):Int)),(AN 2),(NL 1 1)] [0,1,2,3,4,5,6,7,8,9,10,11,12,13,13,6,7,8]):=by kernel_rfl
theorem kse (g:Nat→T_Bar) (nb N k j:Nat) :
    zP Tryz.f185 0 [rg 3,.dec false,rg 1] zf75 (KS g nb N k j) [] 1 [] (.p (.bool true)) =
    some [((decide ((↑j:Int)<(↑k:Int)))=false),(true=true)]:=by kernel_rfl
theorem wpB_congr {N:Nat} (g:Nat→T_Bar) {p q:Nat→Int} (h:∀ u,u<N→p u=q u):∀ k,(∀ i,i<k→(g i).1.toNat<N∧(g i).2.1.toNat<N)→wpB g p k=wpB g q k
  | 0,_=>rfl
  | k+1,hk=>by
    have h1:=hk k (by omega)
    simp only [wpB,wpB_congr g h k (fun i hi=>hk i (by omega)),h _ h1.1,h _ h1.2]
theorem wpD_t {S:T_IntS} {v:Nat} (h:hasI S.2 v S.1=true):wpD S (v+1)=((wpD S v).1,fun u=>if u<v then (wpD S v).2 u else -1):=by simp [wpD,h]
theorem wpD_f {S:T_IntS} {v:Nat} (h:hasI S.2 v S.1=false):wpD S (v+1)=((wpD S v).1+1,fun u=>if u<v then (wpD S v).2 u else ((wpD S v).1:Int)):=by simp [wpD,h]
theorem con_gWithout_i {N nb:Nat} {g:Nat→T_Bar} (hg:isGraphF ((N:Int),(nb,g),())=true) (S:T_IntS) (hS:S.1≤1048576) :
    zE 223 [grG g nb N,inL S] [(0,brOb (wpG N nb g S).2.1.1 (wpG N nb g S).2.1.2)] (.agg [.p (.int .i64 (wpG N nb g S).1),.ar 2 0 0 (wpG N nb g S).2.1.1]):=by
  obtain ⟨h1,h2,h3⟩:=graph_in hg
  have he:=ends_in h3
  have c1:=con_IsGraph_i ((N:Int),(nb,g),()) (sm_graph (by show nb≤_;omega))
  rw [hg] at c1
  show zE 223 [grG g nb N,inL S] [(0,brOb (wpB g (wpD S N).2 nb).1 (wpB g (wpD S N).2 nb).2)] (.agg [.p (.int .i64 ((wpD S N).1:Int)),.ar 2 0 0 (wpB g (wpD S N).2 nb).1])
  generalize hR:wpB g (wpD S N).2 nb=R
  generalize hn:(wpD S N).1=n
  have hnN:n≤N:=by rw [← hn];exact wpD_le S N
  refine csZ Tryz.func223 (fun c hc=>?_)
  have lj:∀ p:Nat→Int,(∀ u,u<N→p u=(wpD S N).2 u)→∀ d k,k+d=nb→zR c 223 zf26 (W1 g nb N S n p k (wpB g p k).1 (wpB g p k).2) (Post c [(0,brOb R.1 R.2)] (.agg [.p (.int .i64 (n:Int)),.ar 2 0 0 R.1])):=by
    intro p hp d
    induction d with
    | zero =>
      intro k hk
      obtain rfl:k=nb:=by omega
      have hd:decide ((k:Int)<(k:Int))=false:=decide_eq_false (by omega)
      rw [wpB_congr g hp k he,hR]
      refine pkZ Tryz.func223 hc (wje g k N S n p k R.1 R.2) ?_
      and_intros
      all_goals (first | exact zI | (exact hd) | (intro t ht;simp [All]))
    | succ d ih =>
      intro k hk
      have hd:decide ((k:Int)<(nb:Int))=true:=decide_eq_true (by omega)
      have hb:=h3 k (by omega)
      have hrec:=ih (k+1) (by omega)
      have hle:=wpB_le g p k
      cases hq:(decide (p (g k).1.toNat≥0)&&decide (p (g k).2.1.toNat≥0)) with
      | true =>
        rw [show wpB g p (k+1)=sn (wpB g p k) (p (g k).1.toNat,p (g k).2.1.toNat,()) by simp only [wpB];rw [if_pos hq]] at hrec
        have hq2:(bif decide (p (g k).1.toNat≥0) then decide (p (g k).2.1.toNat≥0) else false)=true:=by rw [← hq];cases decide (p (g k).1.toNat≥0)<;>rfl
        generalize wpB g p k=q at hrec hle ⊢
        refine pcD hc (wjt g nb N S n p k q.1 q.2) ?_ hrec
        and_intros
        all_goals (first | exact zI | (exact hd) | (exact hq2) | (intro t ht;simp [All];done) | (intro t ht;by_cases h':t<q.1<;>simp [h',snoc,cvtL,cvt,tg,tru,All]) | (simp;omega))
      | false =>
        rw [show wpB g p (k+1)=wpB g p k by simp only [wpB];rw [if_neg (by rw [hq];exact Bool.false_ne_true)]] at hrec
        have hq2:(bif decide (p (g k).1.toNat≥0) then decide (p (g k).2.1.toNat≥0) else false)=false:=by rw [← hq];cases decide (p (g k).1.toNat≥0)<;>rfl
        refine pcD hc (wjf g nb N S n p k _ _) ?_ hrec
        and_intros
        all_goals (first | exact zI | (exact hd) | (exact hq2) | (intro t ht;simp [All]))
  have lo:∀ d v p,v+d=N→(∀ u,u<v→p u=(wpD S v).2 u)→zR c 223 zf47 (W0 g nb N S v (wpD S v).1 p) (Post c [(0,brOb R.1 R.2)] (.agg [.p (.int .i64 (n:Int)),.ar 2 0 0 R.1])):=by
    intro d
    induction d with
    | zero =>
      intro v p hv hp
      obtain rfl:v=N:=by omega
      have hd:decide ((v:Int)<(v:Int))=false:=decide_eq_false (by omega)
      rw [hn]
      refine pcD hc (wix g nb v S v n p) ?_ (lj p hp nb 0 (by omega))
      and_intros
      all_goals (first | exact zN | (exact hd) | (exact c1) | (intro t ht;exact absurd ht (Nat.not_lt_zero _)) | (intro t ht;simp [All]))
    | succ d ih =>
      intro v p hv hp
      have hd:decide ((v:Int)<(N:Int))=true:=decide_eq_true (by omega)
      have ch:=con_Contains S (v:Int) hS
      have hle:=wpD_le S v
      cases hq:hasI S.2 (v:Int) S.1 with
      | true =>
        rw [hq] at ch
        have hrec:=ih (v+1) (fun u=>if u=v then -1 else p u) (by omega) (by
          intro u hu
          rw [wpD_t hq]
          by_cases h:u=v
          · simp [h]
          · simp [h,show u<v by omega,hp u (by omega)])
        rw [show (wpD S (v+1)).1=(wpD S v).1 by rw [wpD_t hq]] at hrec
        refine pcD hc (wif g nb N S v _ p) ?_ hrec
        and_intros
        all_goals (first | exact zI | (exact hd) | (exact ch) | (intro t ht;simp [All];done) | (intro t ht;by_cases h':t=v<;>simp [h',cvtL,cvt,tg,tru,All]) | (simp;omega))
      | false =>
        rw [hq] at ch
        have hrec:=ih (v+1) (fun u=>if u=v then ((wpD S v).1:Int) else p u) (by omega) (by
          intro u hu
          rw [wpD_f hq]
          by_cases h:u=v
          · simp [h]
          · simp [h,show u<v by omega,hp u (by omega)])
        rw [show (wpD S (v+1)).1=(wpD S v).1+1 by rw [wpD_f hq]] at hrec
        refine pcD hc (wit g nb N S v _ p) ?_ hrec
        and_intros
        all_goals (first | exact zI | (exact hd) | (exact ch) | (intro t ht;simp [All];done) | (intro t ht;by_cases h':t=v<;>simp [h',cvtL,cvt,tg,tru,All]) | (simp;omega))
  refine pcD hc (wiz g nb N S) ?_ (lo N 0 (fun _=>0) (by omega) (fun u hu=>absurd hu (Nat.not_lt_zero _)))
  and_intros
  all_goals (first | exact zI | (intro t ht;simp [All];done) | (intro t ht;simp [cvtL,cvt,tg,tru,All];done) | (simp;omega))
theorem con_gWithout_s {N nb:Nat} {g:Nat→T_Bar} (hg:isGraphF ((N:Int),(nb,g),())=true) (S:T_IntS) (hS:S.1≤1048576) :
    zE 227 [grG g nb N,inL S] [(0,brOb (wpG N nb g S).2.1.1 (wpG N nb g S).2.1.2)] (.agg [.p (.int .i64 (wpG N nb g S).1),.ar 2 0 0 (wpG N nb g S).2.1.1]):=by
  obtain ⟨h1,h2,h3⟩:=graph_in hg
  have he:=ends_in h3
  have c1:=con_IsGraph_s ((N:Int),(nb,g),()) (sm_graph (by show nb≤_;omega))
  rw [hg] at c1
  show zE 227 [grG g nb N,inL S] [(0,brOb (wpB g (wpD S N).2 nb).1 (wpB g (wpD S N).2 nb).2)] (.agg [.p (.int .i64 ((wpD S N).1:Int)),.ar 2 0 0 (wpB g (wpD S N).2 nb).1])
  generalize hR:wpB g (wpD S N).2 nb=R
  generalize hn:(wpD S N).1=n
  have hnN:n≤N:=by rw [← hn];exact wpD_le S N
  refine csZ Tryz.func227 (fun c hc=>?_)
  have lj:∀ p:Nat→Int,(∀ u,u<N→p u=(wpD S N).2 u)→∀ d k,k+d=nb→zR c 227 zf27 (V1 g nb N S n p k (wpB g p k).1 (wpB g p k).2) (Post c [(0,brOb R.1 R.2)] (.agg [.p (.int .i64 (n:Int)),.ar 2 0 0 R.1])):=by
    intro p hp d
    induction d with
    | zero =>
      intro k hk
      obtain rfl:k=nb:=by omega
      have hd:(bif decide ((k:Int)<(k:Int)) then true else false)=false:=by rw [decide_eq_false (show ¬ ((k:Int)<(k:Int)) by omega)];rfl
      rw [wpB_congr g hp k he,hR]
      refine pkD Tryz.func227 hc (vje g k N S n p k R.1 R.2) ?_
      and_intros
      all_goals (first | exact zI | (exact hd) | (intros;exact c1) | (intro t ht;simp [All]))
    | succ d ih =>
      intro k hk
      have hd:(bif decide ((k:Int)<(nb:Int)) then true else false)=true:=by rw [decide_eq_true (show ((k:Int)<(nb:Int)) by omega)];rfl
      have hb:=h3 k (by omega)
      have hrec:=ih (k+1) (by omega)
      have hle:=wpB_le g p k
      cases hq:(decide (p (g k).1.toNat≥0)&&decide (p (g k).2.1.toNat≥0)) with
      | true =>
        rw [show wpB g p (k+1)=sn (wpB g p k) (p (g k).1.toNat,p (g k).2.1.toNat,()) by simp only [wpB];rw [if_pos hq]] at hrec
        have hq2:(bif decide (p (g k).1.toNat≥0) then decide (p (g k).2.1.toNat≥0) else false)=true:=by rw [← hq];cases decide (p (g k).1.toNat≥0)<;>rfl
        generalize wpB g p k=q at hrec hle ⊢
        refine pcD hc (vjt g nb N S n p k q.1 q.2) ?_ hrec
        and_intros
        all_goals (first | exact zI | (exact hd) | (exact hq2) | (intros;exact c1) | (intro t ht;simp [All];done) | (intro t ht;by_cases h':t<q.1<;>simp [h',snoc,cvtL,cvt,tg,tru,All]) | (simp;omega))
      | false =>
        rw [show wpB g p (k+1)=wpB g p k by simp only [wpB];rw [if_neg (by rw [hq];exact Bool.false_ne_true)]] at hrec
        have hq2:(bif decide (p (g k).1.toNat≥0) then decide (p (g k).2.1.toNat≥0) else false)=false:=by rw [← hq];cases decide (p (g k).1.toNat≥0)<;>rfl
        refine pcD hc (vjf g nb N S n p k _ _) ?_ hrec
        and_intros
        all_goals (first | exact zI | (exact hd) | (exact hq2) | (intros;exact c1) | (intro t ht;simp [All]))
  have lo:∀ d v p,v+d=N→(∀ u,u<v→p u=(wpD S v).2 u)→zR c 227 zf48 (V0 g nb N S v (wpD S v).1 p) (Post c [(0,brOb R.1 R.2)] (.agg [.p (.int .i64 (n:Int)),.ar 2 0 0 R.1])):=by
    intro d
    induction d with
    | zero =>
      intro v p hv hp
      obtain rfl:v=N:=by omega
      have hd:decide ((v:Int)<(v:Int))=false:=decide_eq_false (by omega)
      rw [hn]
      refine pcD hc (vsx g nb v S v n p) ?_ (lj p hp nb 0 (by omega))
      and_intros
      all_goals (first | exact zI | (exact hd) | (intro t ht;exact absurd ht (Nat.not_lt_zero _)) | (intro t ht;simp [All]))
    | succ d ih =>
      intro v p hv hp
      have hd:decide ((v:Int)<(N:Int))=true:=decide_eq_true (by omega)
      have ch:=con_l2Has S (v:Int) hS
      have hle:=wpD_le S v
      cases hq:hasI S.2 (v:Int) S.1 with
      | true =>
        rw [hq] at ch
        have hrec:=ih (v+1) (fun u=>if u=v then -1 else p u) (by omega) (by
          intro u hu
          rw [wpD_t hq]
          by_cases h:u=v
          · simp [h]
          · simp [h,show u<v by omega,hp u (by omega)])
        rw [show (wpD S (v+1)).1=(wpD S v).1 by rw [wpD_t hq]] at hrec
        refine pcZ hc (vsf g nb N S v _ p) ?_ hrec
        and_intros
        all_goals (first | exact zI | (exact hd) | (exact ch) | (intro t ht;simp [All];done) | (intro t ht;by_cases h':t=v<;>simp [h',cvtL,cvt,tg,tru,All]) | (simp;omega))
      | false =>
        rw [hq] at ch
        have hrec:=ih (v+1) (fun u=>if u=v then ((wpD S v).1:Int) else p u) (by omega) (by
          intro u hu
          rw [wpD_f hq]
          by_cases h:u=v
          · simp [h]
          · simp [h,show u<v by omega,hp u (by omega)])
        rw [show (wpD S (v+1)).1=(wpD S v).1+1 by rw [wpD_f hq]] at hrec
        refine pcD hc (vst g nb N S v _ p) ?_ hrec
        and_intros
        all_goals (first | exact zI | (exact hd) | (exact ch) | (intro t ht;simp [All];done) | (intro t ht;by_cases h':t=v<;>simp [h',cvtL,cvt,tg,tru,All]) | (simp;omega))
  refine pcD hc (vsz g nb N S) ?_ (lo N 0 (fun _=>0) (by omega) (fun u hu=>absurd hu (Nat.not_lt_zero _)))
  and_intros
  all_goals (first | exact zN | (intro t ht;simp [All];done) | (intro t ht;simp [cvtL,cvt,tg,tru,All];done) | (simp;omega))
theorem wpG_sm (N nb:Nat) (g:Nat→T_Bar) (S:T_IntS) (h:nb≤24):smS s_Graph (wpG N nb g S):=by
  have:=wpB_le g (wpD S N).2 nb
  exact sm_graph (by show (wpB g (wpD S N).2 nb).1≤_;omega)
theorem csD_t {N nb:Nat} {g:Nat→T_Bar} {k w:Nat} (h:ctQ N nb g k w=true):csD N nb g k (w+1)=((csD N nb g k w).1+1,snocC (csD N nb g k w).1 (csD N nb g k w).2 (stD w N)):=by simp [csD,h]
theorem csD_f {N nb:Nat} {g:Nat→T_Bar} {k w:Nat} (h:ctQ N nb g k w=false):csD N nb g k (w+1)=csD N nb g k w:=by simp [csD,h]
theorem con_gCuts_i {N nb:Nat} {g:Nat→T_Bar} (hg:isGraphF ((N:Int),(nb,g),())=true) (k:Nat) (hk:k≤3) :
    zE 209 [grG g nb N,.p (.int .i64 k)] [(0,ssOb (csD N nb g k (2 ^ N)).1 (csD N nb g k (2 ^ N)).2)] (.ar 1 0 0 (csD N nb g k (2 ^ N)).1):=by
  obtain ⟨h1,h2,h3⟩:=graph_in hg
  have c1:=con_IsGraph_i ((N:Int),(nb,g),()) (sm_graph (by show nb≤_;omega))
  rw [hg] at c1
  have c2:=con_within (k:Int) 0 3
  rw [show inB (k:Int) 0 3=true by simp [inB];omega] at c2
  have hsh:=shl_nat N (by omega)
  have hP:2 ^ N≤256:=by
    calc 2 ^ N≤2 ^ 8:=Nat.pow_le_pow_right (by omega) h1.2
      _=256:=rfl
  generalize hR:csD N nb g k (2 ^ N)=R
  refine csZ Tryz.func209 (fun c hc=>?_)
  have lo:∀ d w,w+d=2 ^ N→zR c 209 zf49 (C0 g nb N k w (csD N nb g k w).1 (csD N nb g k w).2) (Post c [(0,ssOb R.1 R.2)] (.ar 1 0 0 R.1)):=by
    intro d
    induction d with
    | zero =>
      intro w hw
      obtain rfl:w=2 ^ N:=by omega
      rw [hR]
      have hd:decide (((2 ^ N:Nat):Int)<shlI IntKind.i64 1 (N:Int))=false:=by rw [hsh];exact decide_eq_false (by omega)
      refine pkZ Tryz.func209 hc (cie g nb N k (2 ^ N) R.1 R.2) ?_
      and_intros
      iterate 2 all_goals (first | exact zN | (exact hd) | (intro t ht;simp [All]) | simp only [All])
    | succ d ih =>
      intro w hw
      have hd:decide ((w:Int)<shlI IntKind.i64 1 (N:Int))=true:=by rw [hsh];exact decide_eq_true (by omega)
      have hrec:=ih (w+1) (by omega)
      have hle:=csD_le N nb g k w
      have cs:=con_setOf w N (by omega)
      have cw:=con_gWithout_i hg (stD w N) (by have:=stD_n w N;omega)
      have cn:=con_gConn_i (wpG N nb g (stD w N)) (wpG_sm N nb g _ h2)
      by_cases hlen:(stD w N).1=k
      · have hne:((((stD w N).1:Nat):Int) != (k:Int))=false:=by rw [hlen];simp
        have hq:ctQ N nb g k w=(bif decide ((((wpD (stD w N) N).1:Nat):Int)≥2) then !cnB (wpG N nb g (stD w N)) else false):=by
          unfold ctQ
          rw [hlen,beq_self_eq_true];rfl
        cases hb:ctQ N nb g k w with
        | true =>
          rw [csD_t hb] at hrec
          rw [hb] at hq
          have hq:=hq.symm
          generalize csD N nb g k w=q at hrec hle ⊢
          refine pcD hc (cit g nb N k w q.1 q.2 (stD w N) (wpD (stD w N) N).1 (wpG N nb g (stD w N)).2.1.1 (wpG N nb g (stD w N)).2.1.2 (cnB (wpG N nb g (stD w N)))) ?_ hrec
          and_intros
          all_goals (first | exact zI | (exact hd) | (exact cs) | (exact hne) | (exact cw) | (intros;exact cn) | (exact cn) | (exact hq) | (intro j hj;simp [All];done) | (intro j hj;by_cases h:j<q.1<;>simp [h,snocC,cvtL,cvt,lendP,cellP,tab,idx,idx1,lkk,idO,idM,Ob.isF,List.lookup,iOb,tg,tru,All]))
        | false =>
          rw [csD_f hb] at hrec
          rw [hb] at hq
          have hq:=hq.symm
          generalize csD N nb g k w=q at hrec hle ⊢
          refine pcD hc (cif g nb N k w q.1 q.2 (stD w N) (wpD (stD w N) N).1 (wpG N nb g (stD w N)).2.1.1 (wpG N nb g (stD w N)).2.1.2 (cnB (wpG N nb g (stD w N)))) ?_ hrec
          and_intros
          all_goals (first | exact zI | (exact hd) | (exact cs) | (exact hne) | (exact cw) | (intros;exact cn) | (exact cn) | (exact hq) | (intro j hj;simp [All]))
      · have hne:((((stD w N).1:Nat):Int) != (k:Int))=true:=by simpa using (show ¬ (((stD w N).1:Nat):Int)=(k:Int) by omega)
        have hb:ctQ N nb g k w=false:=by
          unfold ctQ
          rw [show ((((stD w N).1:Nat):Int)==(k:Int))=false from beq_eq_false_iff_ne.2 (by omega)];rfl
        rw [csD_f hb] at hrec
        refine pcZ hc (cin g nb N k w _ _ (stD w N)) ?_ hrec
        and_intros
        all_goals (first | exact zN | (exact hd) | (exact cs) | (exact hne) | (intro j hj;simp [All]))
  refine pcD hc (ciz g nb N k) ?_ (lo (2 ^ N) 0 (by omega))
  and_intros
  iterate 2 all_goals (first | exact zH | (exact c1) | (intros;exact c2) | (exact c2) | (intro t ht;exact absurd ht (Nat.not_lt_zero _)) | (intro t ht;simp [All]) | simp only [All])
theorem con_gCuts_s {N nb:Nat} {g:Nat→T_Bar} (hg:isGraphF ((N:Int),(nb,g),())=true) (k:Nat) (hk:k≤3) :
    zE 212 [grG g nb N,.p (.int .i64 k)] [(0,ssOb (csD N nb g k (2 ^ N)).1 (csD N nb g k (2 ^ N)).2)] (.ar 1 0 0 (csD N nb g k (2 ^ N)).1):=by
  obtain ⟨h1,h2,h3⟩:=graph_in hg
  have c1:=con_IsGraph_s ((N:Int),(nb,g),()) (sm_graph (by show nb≤_;omega))
  rw [hg] at c1
  have c2:=con_l1In (k:Int) 0 3
  rw [show inB (k:Int) 0 3=true by simp [inB];omega] at c2
  have hsh:=shl_nat N (by omega)
  have hP:2 ^ N≤256:=by
    calc 2 ^ N≤2 ^ 8:=Nat.pow_le_pow_right (by omega) h1.2
      _=256:=rfl
  generalize hR:csD N nb g k (2 ^ N)=R
  refine csZ Tryz.func212 (fun c hc=>?_)
  have lo:∀ d w,w+d=2 ^ N→zR c 212 zf50 (D0 g nb N k w (csD N nb g k w).1 (csD N nb g k w).2) (Post c [(0,ssOb R.1 R.2)] (.ar 1 0 0 R.1)):=by
    intro d
    induction d with
    | zero =>
      intro w hw
      obtain rfl:w=2 ^ N:=by omega
      rw [hR]
      have hd:decide (((2 ^ N:Nat):Int)<shlI IntKind.i64 1 (N:Int))=false:=by rw [hsh];exact decide_eq_false (by omega)
      refine pkZ Tryz.func212 hc (cse g nb N k (2 ^ N) R.1 R.2) ?_
      and_intros
      iterate 2 all_goals (first | exact zN | (exact hd) | (intro t ht;simp [All]) | simp only [All])
    | succ d ih =>
      intro w hw
      have hd:decide ((w:Int)<shlI IntKind.i64 1 (N:Int))=true:=by rw [hsh];exact decide_eq_true (by omega)
      have hrec:=ih (w+1) (by omega)
      have hle:=csD_le N nb g k w
      have cs:=con_l3Set w N (by omega)
      have cw:=con_gWithout_s hg (stD w N) (by have:=stD_n w N;omega)
      have cn:=con_gConn_s (wpG N nb g (stD w N)) (wpG_sm N nb g _ h2)
      have hcnt:=wp_cnt w N N (Nat.le_refl _)
      by_cases hlen:(stD w N).1=k
      · have hne:((((stD w N).1:Nat):Int)==(k:Int))=true:=by rw [hlen];simp
        by_cases h2w:2≤(wpD (stD w N) N).1
        · have hge:decide ((N:Int) - (k:Int)≥2)=true:=decide_eq_true (by omega)
          have hq:ctQ N nb g k w=!cnB (wpG N nb g (stD w N)):=by
            unfold ctQ
            rw [hlen,beq_self_eq_true,decide_eq_true (show ((((wpD (stD w N) N).1:Nat):Int)≥2) by omega)];rfl
          cases hb:ctQ N nb g k w with
          | true =>
            rw [csD_t hb] at hrec
            rw [hb] at hq
            have hq:=hq.symm
            generalize csD N nb g k w=q at hrec hle ⊢
            refine pcD hc (cst g nb N k w q.1 q.2 (stD w N) (wpD (stD w N) N).1 (wpG N nb g (stD w N)).2.1.1 (wpG N nb g (stD w N)).2.1.2 (cnB (wpG N nb g (stD w N)))) ?_ hrec
            and_intros
            all_goals (first | exact zN | (exact hd) | (exact cs) | (exact hne) | (exact hge) | (exact cw) | (exact cn) | (exact hq) | (intro j hj;simp [All];done) | (intro j hj;by_cases h:j<q.1<;>simp [h,snocC,cvtL,cvt,lendP,cellP,tab,idx,idx1,lkk,idO,idM,Ob.isF,List.lookup,iOb,tg,tru,All]))
          | false =>
            rw [csD_f hb] at hrec
            rw [hb] at hq
            have hq:=hq.symm
            generalize csD N nb g k w=q at hrec hle ⊢
            refine pcD hc (csf g nb N k w q.1 q.2 (stD w N) (wpD (stD w N) N).1 (wpG N nb g (stD w N)).2.1.1 (wpG N nb g (stD w N)).2.1.2 (cnB (wpG N nb g (stD w N)))) ?_ hrec
            and_intros
            all_goals (first | exact zN | (exact hd) | (exact cs) | (exact hne) | (exact hge) | (exact cw) | (exact cn) | (exact hq) | (intro j hj;simp [All]))
        · have hge:decide ((N:Int) - (k:Int)≥2)=false:=decide_eq_false (by omega)
          have hb:ctQ N nb g k w=false:=by
            unfold ctQ
            rw [hlen,beq_self_eq_true,decide_eq_false (show ¬ ((((wpD (stD w N) N).1:Nat):Int)≥2) by omega)];rfl
          rw [csD_f hb] at hrec
          refine pcD hc (csm g nb N k w _ _ (stD w N)) ?_ hrec
          and_intros
          all_goals (first | exact zN | (exact hd) | (exact cs) | (exact hne) | (exact hge) | (intro j hj;simp [All]))
      · have hne:((((stD w N).1:Nat):Int)==(k:Int))=false:=beq_eq_false_iff_ne.2 (by omega)
        have hb:ctQ N nb g k w=false:=by
          unfold ctQ
          rw [hne];rfl
        rw [csD_f hb] at hrec
        refine pcD hc (csn g nb N k w _ _ (stD w N)) ?_ hrec
        and_intros
        all_goals (first | exact zN | (exact hd) | (exact cs) | (exact hne) | (intro j hj;simp [All]))
  refine pcD hc (csz g nb N k) ?_ (lo (2 ^ N) 0 (by omega))
  and_intros
  iterate 2 all_goals (first | exact zH | (exact c1) | (intros;exact c2) | (exact c2) | (intro t ht;exact absurd ht (Nat.not_lt_zero _)) | (intro t ht;simp [All]) | simp only [All])
theorem kcA_f {N nb:Nat} {g:Nat→T_Bar} {j:Nat} (h:(decide ((((csD N nb g j (2 ^ N)).1:Nat):Int)>0))=true):∀ d,kcA N nb g (j+1+d)=false
  | 0=>by simp only [kcA,h];simp
  | d+1=>by show (kcA N nb g (j+1+d)&&_)=false;rw [kcA_f h d];rfl
theorem con_gKC_i {N nb:Nat} {g:Nat→T_Bar} (hg:isGraphF ((N:Int),(nb,g),())=true) (k:Nat) (hk:1≤k∧k≤3) :
    zE 182 [grG g nb N,.p (.int .i64 k)] [] (.p (.bool (kcB N nb g k))):=by
  obtain ⟨h1,h2,h3⟩:=graph_in hg
  have c1:=con_IsGraph_i ((N:Int),(nb,g),()) (sm_graph (by show nb≤_;omega))
  rw [hg] at c1
  have c2:=con_within (k:Int) 1 3
  rw [show inB (k:Int) 1 3=true by simp [inB];omega] at c2
  refine csZ Tryz.func182 (fun c hc=>?_)
  by_cases hNk:N≤k
  · have hd:decide ((N:Int)≤(k:Int))=true:=decide_eq_true (by omega)
    rw [show kcB N nb g k=false by unfold kcB;rw [hd];rfl]
    refine pkD Tryz.func182 hc (kin g nb N k) ?_
    and_intros
    all_goals (first | exact zH | (exact c1) | (intros;exact c2) | (exact c2) | (simp [hd];done))
  · have hd:decide ((N:Int)≤(k:Int))=false:=decide_eq_false (by omega)
    rw [show kcB N nb g k=kcA N nb g k by unfold kcB;rw [hd];rfl]
    have lo:∀ d j,j+d=k→kcA N nb g j=true→zR c 182 zf74 (KI g nb N k j) (Post c [] (.p (.bool (kcA N nb g k)))):=by
      intro d
      induction d with
      | zero =>
        intro j hj ha
        obtain rfl:j=k:=by omega
        rw [ha]
        have hd:decide ((j:Int)<(j:Int))=false:=decide_eq_false (by omega)
        refine pkZ Tryz.func182 hc (kie g nb N j j) ?_
        and_intros
        all_goals (first | exact zN | (exact hd) | (simp;done))
      | succ d ih =>
        intro j hj ha
        have hd:decide ((j:Int)<(k:Int))=true:=decide_eq_true (by omega)
        have cc:=con_gCuts_i hg j (by omega)
        cases hq:decide ((((csD N nb g j (2 ^ N)).1:Nat):Int)>0) with
        | true =>
          rw [show kcA N nb g k=false by rw [show k=j+1+(k - j - 1) by omega];exact kcA_f hq _]
          generalize csD N nb g j (2 ^ N)=R at *
          refine pkZ Tryz.func182 hc (kit g nb N k j R.1 R.2) ?_
          and_intros
          all_goals (first | exact zN | (exact hd) | (exact cc) | (exact hq) | (simp;done))
        | false =>
          have hrec:=ih (j+1) (by omega) (by simp only [kcA,ha,hq];rfl)
          generalize csD N nb g j (2 ^ N)=R at *
          refine pcD hc (kif g nb N k j R.1 R.2) ?_ hrec
          and_intros
          all_goals (first | exact zN | (exact hd) | (exact cc) | (exact hq) | (simp;done))
    refine pcD hc (kiz g nb N k) ?_ (lo k 0 (by omega) rfl)
    and_intros
    all_goals (first | exact zH | (exact c1) | (intros;exact c2) | (exact c2) | (simp [hd];done))
theorem con_gKC_s {N nb:Nat} {g:Nat→T_Bar} (hg:isGraphF ((N:Int),(nb,g),())=true) (k:Nat) (hk:1≤k∧k≤3) :
    zE 185 [grG g nb N,.p (.int .i64 k)] [] (.p (.bool (kcB N nb g k))):=by
  obtain ⟨h1,h2,h3⟩:=graph_in hg
  have c1:=con_IsGraph_s ((N:Int),(nb,g),()) (sm_graph (by show nb≤_;omega))
  rw [hg] at c1
  have c2:=con_l1In (k:Int) 1 3
  rw [show inB (k:Int) 1 3=true by simp [inB];omega] at c2
  refine csZ Tryz.func185 (fun c hc=>?_)
  by_cases hNk:N≤k
  · have hd:decide ((N:Int)≤(k:Int))=true:=decide_eq_true (by omega)
    rw [show kcB N nb g k=false by unfold kcB;rw [hd];rfl]
    refine pkD Tryz.func185 hc (ksn g nb N k) ?_
    and_intros
    all_goals (first | exact zH | (exact c1) | (intros;exact c2) | (exact c2) | (simp [hd];done))
  · have hd:decide ((N:Int)≤(k:Int))=false:=decide_eq_false (by omega)
    rw [show kcB N nb g k=kcA N nb g k by unfold kcB;rw [hd];rfl]
    have lo:∀ d j,j+d=k→kcA N nb g j=true→zR c 185 zf75 (KS g nb N k j) (Post c [] (.p (.bool (kcA N nb g k)))):=by
      intro d
      induction d with
      | zero =>
        intro j hj ha
        obtain rfl:j=k:=by omega
        rw [ha]
        have hd:decide ((j:Int)<(j:Int))=false:=decide_eq_false (by omega)
        refine pkZ Tryz.func185 hc (kse g nb N j j) ?_
        and_intros
        all_goals (first | exact zN | (exact hd) | (simp;done))
      | succ d ih =>
        intro j hj ha
        have hd:decide ((j:Int)<(k:Int))=true:=decide_eq_true (by omega)
        have cc:=con_gCuts_s hg j (by omega)
        cases hq:decide ((((csD N nb g j (2 ^ N)).1:Nat):Int)>0) with
        | true =>
          rw [show kcA N nb g k=false by rw [show k=j+1+(k - j - 1) by omega];exact kcA_f hq _]
          generalize csD N nb g j (2 ^ N)=R at *
          refine pkZ Tryz.func185 hc (kst g nb N k j R.1 R.2) ?_
          and_intros
          all_goals (first | exact zN | (exact hd) | (exact cc) | (exact hq) | (simp;done))
        | false =>
          have hrec:=ih (j+1) (by omega) (by simp only [kcA,ha,hq];rfl)
          generalize csD N nb g j (2 ^ N)=R at *
          refine pcD hc (ksf g nb N k j R.1 R.2) ?_ hrec
          and_intros
          all_goals (first | exact zN | (exact hd) | (exact cc) | (exact hq) | (simp;done))
    refine pcD hc (ksz g nb N k) ?_ (lo k 0 (by omega) rfl)
    and_intros
    all_goals (first | exact zH | (exact c1) | (intros;exact c2) | (exact c2) | (simp [hd];done))
def kwE:ByteArray:=⟨#[]⟩
def kwGraph:ByteArray:=⟨#[103,114,97,112,104]⟩
def kwRigid:ByteArray:=⟨#[114,105,103,105,100]⟩
def kwConn:ByteArray:=⟨#[99,111,110,110,101,99,116,101,100]⟩
def kwRed:ByteArray:=⟨#[114,101,100,117,110,100,97,110,116]⟩
def HD (g:Nat→T_Bar) (nb N k:Nat):St:=⟨[grG g nb N,.pt 2 0 0 0,.p .any,.p (.int .i64 k)]++List.replicate 19 anyA,[(0,bxG g nb N)],1⟩
def HS (g:Nat→T_Bar) (nb N k:Nat):St:=⟨[grG g nb N,.pt 2 0 0 0,.p .any,.p (.int .i64 k)]++List.replicate 21 anyA,[(0,bxG g nb N)],1⟩
theorem hdz (g:Nat→T_Bar) (nb N:Nat) :
    zT Tryz.f147 [rg 2,rg 1,.head] [grG g nb N] [0] (HD g nb N 1) =
    some (zf86,[(AI ((↑N:Int))),(AN nb),(AP nb (bRw g)),(AN 0),((1:Int)=(↑1:Int)),((([AV.p (PV.int IntKind.i64 (↑N:Int)),brL g nb].length):Nat)=2),(NL 1 1),(NL 1 1),(AI ((↑N:Int))),(AN nb),(AP nb (bRw g))]):=by kernel_rfl
theorem hdt (g:Nat→T_Bar) (nb N k:Nat) :
    zP Tryz.f147 0 [rg 5,.dec true,rg 12,.dec true,rg 1] zf86 (HD g nb N (k+1)) [] 1 [] (.p (.bool true)) =
    some [(NT 0 1),((decide ((↑(k+1):Int)<(↑nb:Int)))=true),(NT 0 1),(ZLo ((↑(k+1):Int) - 1)),(ZHi ((↑(k+1):Int) - 1)),(IL 0 ((↑(k+1):Int) - 1)),(IT ((↑(k+1):Int) - 1) (↑nb:Int)),(NT 0 1),(IL 0 (↑(k+1):Int)),(IT (↑(k+1):Int) (↑nb:Int)),(((g ((↑(k+1):Int) - 1).toNat).1==(g (k+1)).1&&((g ((↑(k+1):Int) - 1).toNat).2.1==(g (k+1)).2.1&&true))=true),(true=true)]:=by kernel_rfl
theorem hdf (g:Nat→T_Bar) (nb N k:Nat) :
    zM 0 [rg 5,.dec true,rg 12,.dec false,rg 3,.head] zf86 (HD g nb N (k+1)) [0] 1 (HD g nb N (k+1+1)) =
    some (zf86,[(NT 0 1),((decide ((↑(k+1):Int)<(↑nb:Int)))=true),(NT 0 1),(ZLo ((↑(k+1):Int) - 1)),(ZHi ((↑(k+1):Int) - 1)),(IL 0 ((↑(k+1):Int) - 1)),(IT ((↑(k+1):Int) - 1) (↑nb:Int)),(NT 0 1),(IL 0 (↑(k+1):Int)),(IT (↑(k+1):Int) (↑nb:Int)),(((g ((↑(k+1):Int) - 1).toNat).1==(g (k+1)).1&&((g ((↑(k+1):Int) - 1).toNat).2.1==(g (k+1)).2.1&&true))=false),(ZLo ((↑(k+1):Int)+1)),(ZHi ((↑(k+1):Int)+1)),(AI ((↑N:Int))),(AN nb),(AP nb (bRw g)),(AN 0),((((↑(k+1):Int)+1):Int)=(↑(k+1+1):Int)),(AN 2),(NL 1 1),(NL 1 1),(AI ((↑N:Int))),(AN nb),(AP nb (bRw g))]):=by kernel_rfl
theorem hde (g:Nat→T_Bar) (nb N k:Nat) :
    zP Tryz.f147 0 [rg 5,.dec false,rg 1] zf86 (HD g nb N k) [] 1 [] (.p (.bool false)) =
    some [(NT 0 1),((decide ((↑k:Int)<(↑nb:Int)))=false),(false=false)]:=by kernel_rfl
theorem hsz (g:Nat→T_Bar) (nb N:Nat) :
    zT Tryz.f151 [rg 2,rg 1,.head] [grG g nb N] [0] (HS g nb N 1) =
    some (zf87,[(AI ((↑N:Int))),(AN nb),(AP nb (bRw g)),(AN 0),((1:Int)=(↑1:Int)),((([AV.p (PV.int IntKind.i64 (↑N:Int)),brL g nb].length):Nat)=2),(NL 1 1),(NL 1 1),(AI ((↑N:Int))),(AN nb),(AP nb (bRw g))]):=by kernel_rfl
theorem hst (g:Nat→T_Bar) (nb N k:Nat) :
    zP Tryz.f151 0 [rg 5,.dec true,rg 12,.dec true,rg 1] zf87 (HS g nb N (k+1)) [] 1 [] (.p (.bool false)) =
    some [(NT 0 1),((decide ((↑(k+1):Int)<(↑nb:Int)))=true),(NT 0 1),(ZLo ((↑(k+1):Int) - 1)),(ZHi ((↑(k+1):Int) - 1)),(IL 0 ((↑(k+1):Int) - 1)),(IT ((↑(k+1):Int) - 1) (↑nb:Int)),(NT 0 1),(IL 0 (↑(k+1):Int)),(IT (↑(k+1):Int) (↑nb:Int)),(((g ((↑(k+1):Int) - 1).toNat).1==(g (k+1)).1&&((g ((↑(k+1):Int) - 1).toNat).2.1==(g (k+1)).2.1&&true))=true),(false=false)]:=by kernel_rfl
theorem hsf (g:Nat→T_Bar) (nb N k:Nat) :
    zM 0 [rg 5,.dec true,rg 12,.dec false,rg 3,.head] zf87 (HS g nb N (k+1)) [0] 1 (HS g nb N (k+1+1)) =
    some (zf87,[(NT 0 1),((decide ((↑(k+1):Int)<(↑nb:Int)))=true),(NT 0 1),(ZLo ((↑(k+1):Int) - 1)),(ZHi ((↑(k+1):Int) - 1)),(IL 0 ((↑(k+1):Int) - 1)),(IT ((↑(k+1):Int) - 1) (↑nb:Int)),(NT 0 1),(IL 0 (↑(k+1):Int)),(IT (↑(k+1):Int) (↑nb:Int)),(((g ((↑(k+1):Int) - 1).toNat).1==(g (k+1)).1&&((g ((↑(k+1):Int) - 1).toNat).2.1==(g (k+1)).2.1&&true))=false),(ZLo ((↑(k+1):Int)+1)),(ZHi ((↑(k+1):Int)+1)),(AI ((↑N:Int))),(AN nb),(AP nb (bRw g)),(AN 0),((((↑(k+1):Int)+1):Int)=(↑(k+1+1):Int)),(AN 2),(NL 1 1),(NL 1 1),(AI ((↑N:Int))),(AN nb),(AP nb (bRw g))]):=by kernel_rfl
theorem hse (g:Nat→T_Bar) (nb N k:Nat) :
    zP Tryz.f151 0 [rg 5,.dec false,rm [(1,oc [] (.p (.bool true)))] 1] zf87 (HS g nb N k) [] 1 [] (.p (.bool true)) =
    some [(NT 0 1),((decide ((↑k:Int)<(↑nb:Int)))=false),(NT 0 1),zE 134 [(zf101 N nb g)] [] (.p (.bool true)),(true=true)]:=by kernel_rfl
theorem gw1 (g:Nat→T_Bar) (nb N:Nat) :
    zS Tryz.f139 [rg 2,rm [(1,oc [] (.p (.bool true))),(3,oc [] (.p (.bool true)))] 2,.dec true,rg 1] [grG g nb N] [] [] (.p (.str kwGraph)) =
    some [(NT 0 1),zE 130 [(zf101 N nb g)] [] (.p (.bool true)),(((!!true)=true)→(NT 0 1)),(AG (!!true)),(((!!true)=true)→ zE 147 [(zf101 N nb g)] [] (.p (.bool true))),(((!true)=false)→ ((!!true)=true)),((bif !true then true else true)=true),(ByteArray.mk #[103,114,97,112,104]=kwGraph)]:=by kernel_rfl
theorem gw2 (g:Nat→T_Bar) (nb N c:Nat) (h:Nat→T_Bar) (b:Bool) :
    zS Tryz.f139 [rg 2,rm [(1,oc [] (.p (.bool true))),(3,oc [] (.p (.bool false)))] 2,.dec false,rm [(4,gT),(0,⟨true,(some ⟨[],[],[],1,[(0,brOb c h)],.ar 2 0 0 c⟩),some true⟩),(0,gT),(0,gT),(0,gT),(6,oc [] (.p (.bool b)))] 4,.dec true,rg 1] [grG g nb N] [] [] (.p (.str kwRigid)) =
    some (zD [(NT 0 1),zE 130 [(zf101 N nb g)] [] (.p (.bool true)),(((!!true)=true)→(NT 0 1)),(AG (!!true)),(((!!true)=true)→ zE 147 [(zf101 N nb g)] [] (.p (.bool false))),(((!true)=false)→ ((!!true)=true)),((bif !true then true else false)=false),((decide ((↑N:Int)≤3))=true),zE 75 [(zf101 N nb g)] (zf107 c h) (.ar 2 0 0 c),(AG (!decide ((↑c:Int)>0))),(((!decide ((↑c:Int)>0))=true)→(NT 0 1)),(((!decide ((↑c:Int)>0)&&decide ((↑N:Int)>3))=true)→(NT 0 1)),(AG (!decide ((↑c:Int)>0)&&decide ((↑N:Int)>3))),(((!decide ((↑c:Int)>0)&&decide ((↑N:Int)>3))=true)→ zE 127 [(zf101 N nb g)] [] (.p (.bool b))),(((!decide ((↑c:Int)>0))=true)→(((decide ((↑N:Int)>3))=true)→ ((!decide ((↑c:Int)>0)&&decide ((↑N:Int)>3))=true))),(((decide ((↑c:Int)>0))=false)→ ((!decide ((↑c:Int)>0))=true)),((bif decide ((↑c:Int)>0) then true else bif decide ((↑N:Int)>3) then !b else false)=true),(ByteArray.mk #[114,105,103,105,100]=kwRigid)] [0,1,2,3,4,5,6,0,7,0,7,8,7,7,7,9,10,9,9,11,12,13,12,9,14,15,16,17]):=by kernel_rfl
theorem gw3 (g:Nat→T_Bar) (nb N c:Nat) (h:Nat→T_Bar) (b b2 b3:Bool) :
    zS Tryz.f139 [rg 2,rm [(1,oc [] (.p (.bool true))),(3,oc [] (.p (.bool false)))] 2,.dec false,rm [(4,gT),(0,⟨true,(some ⟨[],[],[],1,[(0,brOb c h)],.ar 2 0 0 c⟩),some true⟩),(0,gT),(0,gT),(0,gT),(6,oc [] (.p (.bool b)))] 4,.dec false,rm [(5,oc [] (.p (.bool b2)))] 3,.dec false,rm [(5,oc [] (.p (.bool b3)))] 3,.dec false,rg 1] [grG g nb N] [] [] (.p (.str kwE)) =
    some (zD [(NT 0 1),zE 130 [(zf101 N nb g)] [] (.p (.bool true)),(((!!true)=true)→(NT 0 1)),(AG (!!true)),(((!!true)=true)→ zE 147 [(zf101 N nb g)] [] (.p (.bool false))),(((!true)=false)→ ((!!true)=true)),((bif !true then true else false)=false),((decide ((↑N:Int)≤3))=true),zE 75 [(zf101 N nb g)] (zf107 c h) (.ar 2 0 0 c),(AG (!decide ((↑c:Int)>0))),(((!decide ((↑c:Int)>0))=true)→(NT 0 1)),(((!decide ((↑c:Int)>0)&&decide ((↑N:Int)>3))=true)→(NT 0 1)),(AG (!decide ((↑c:Int)>0)&&decide ((↑N:Int)>3))),(((!decide ((↑c:Int)>0)&&decide ((↑N:Int)>3))=true)→ zE 127 [(zf101 N nb g)] [] (.p (.bool b))),(((!decide ((↑c:Int)>0))=true)→(((decide ((↑N:Int)>3))=true)→ ((!decide ((↑c:Int)>0)&&decide ((↑N:Int)>3))=true))),(((decide ((↑c:Int)>0))=false)→ ((!decide ((↑c:Int)>0))=true)),((bif decide ((↑c:Int)>0) then true else bif decide ((↑N:Int)>3) then !b else false)=false),(((decide ((↑N:Int)>3))=true)→(NT 0 1)),(AG (decide ((↑N:Int)>3))),(((decide ((↑N:Int)>3))=true)→ zE 182 [(zf101 N nb g),.p (.int .i64 3)] [] (.p (.bool b2))),((bif decide ((↑N:Int)>3) then !b2 else false)=false),(((decide ((↑N:Int)>3))=true)→ zE 183 [(zf101 N nb g)] [] (.p (.bool b3))),((bif decide ((↑N:Int)>3) then !b3 else false)=false),(ByteArray.mk #[]=kwE)] [0,1,2,3,4,5,6,0,7,0,7,8,7,7,7,9,10,9,9,11,12,13,12,9,14,15,16,0,17,18,19,18,18,20,0,17,18,21,18,18,22,23]):=by kernel_rfl
theorem gw4 (g:Nat→T_Bar) (nb N:Nat) (b:Bool) :
    zS Tryz.f139 [rg 2,rm [(1,oc [] (.p (.bool true))),(3,oc [] (.p (.bool false)))] 2,.dec false,rm [(4,gF),(0,gF),(0,gF),(0,gF),(0,gF),(6,oc [] (.p (.bool b)))] 4,.dec true,rg 1] [grG g nb N] [] [] (.p (.str kwRigid)) =
    some (zD [(NT 0 1),zE 130 [(zf101 N nb g)] [] (.p (.bool true)),(((!!true)=true)→(NT 0 1)),(AG (!!true)),(((!!true)=true)→ zE 147 [(zf101 N nb g)] [] (.p (.bool false))),(((!true)=false)→ ((!!true)=true)),((bif !true then true else false)=false),((decide ((↑N:Int)≤3))=false),(AG (!false)),(((!false)=true)→(NT 0 1)),(((!false&&decide ((↑N:Int)>3))=true)→(NT 0 1)),(AG (!false&&decide ((↑N:Int)>3))),(((!false&&decide ((↑N:Int)>3))=true)→ zE 127 [(zf101 N nb g)] [] (.p (.bool b))),(((!false)=true)→(((decide ((↑N:Int)>3))=true)→ ((!false&&decide ((↑N:Int)>3))=true))),((false=false)→ ((!false)=true)),((bif false then true else bif decide ((↑N:Int)>3) then !b else false)=true),(ByteArray.mk #[114,105,103,105,100]=kwRigid)] [0,1,2,3,4,5,6,0,7,7,7,7,7,8,9,8,8,10,11,12,11,8,13,14,15,16]):=by kernel_rfl
theorem gw5 (g:Nat→T_Bar) (nb N:Nat) (b b2:Bool) :
    zS Tryz.f139 [rg 2,rm [(1,oc [] (.p (.bool true))),(3,oc [] (.p (.bool false)))] 2,.dec false,rm [(4,gF),(0,gF),(0,gF),(0,gF),(0,gF),(6,oc [] (.p (.bool b)))] 4,.dec false,rm [(5,oc [] (.p (.bool b2)))] 3,.dec true,rg 1] [grG g nb N] [] [] (.p (.str kwConn)) =
    some (zD [(NT 0 1),zE 130 [(zf101 N nb g)] [] (.p (.bool true)),(((!!true)=true)→(NT 0 1)),(AG (!!true)),(((!!true)=true)→ zE 147 [(zf101 N nb g)] [] (.p (.bool false))),(((!true)=false)→ ((!!true)=true)),((bif !true then true else false)=false),((decide ((↑N:Int)≤3))=false),(AG (!false)),(((!false)=true)→(NT 0 1)),(((!false&&decide ((↑N:Int)>3))=true)→(NT 0 1)),(AG (!false&&decide ((↑N:Int)>3))),(((!false&&decide ((↑N:Int)>3))=true)→ zE 127 [(zf101 N nb g)] [] (.p (.bool b))),(((!false)=true)→(((decide ((↑N:Int)>3))=true)→ ((!false&&decide ((↑N:Int)>3))=true))),((false=false)→ ((!false)=true)),((bif false then true else bif decide ((↑N:Int)>3) then !b else false)=false),(((decide ((↑N:Int)>3))=true)→(NT 0 1)),(AG (decide ((↑N:Int)>3))),(((decide ((↑N:Int)>3))=true)→ zE 182 [(zf101 N nb g),.p (.int .i64 3)] [] (.p (.bool b2))),((bif decide ((↑N:Int)>3) then !b2 else false)=true),(ByteArray.mk #[99,111,110,110,101,99,116,101,100]=kwConn)] [0,1,2,3,4,5,6,0,7,7,7,7,7,8,9,8,8,10,11,12,11,8,13,14,15,0,16,17,18,17,17,19,20]):=by kernel_rfl
theorem gw6 (g:Nat→T_Bar) (nb N:Nat) (b b2 b3:Bool) :
    zS Tryz.f139 [rg 2,rm [(1,oc [] (.p (.bool true))),(3,oc [] (.p (.bool false)))] 2,.dec false,rm [(4,gF),(0,gF),(0,gF),(0,gF),(0,gF),(6,oc [] (.p (.bool b)))] 4,.dec false,rm [(5,oc [] (.p (.bool b2)))] 3,.dec false,rm [(5,oc [] (.p (.bool b3)))] 3,.dec true,rg 1] [grG g nb N] [] [] (.p (.str kwRed)) =
    some (zD [(NT 0 1),zE 130 [(zf101 N nb g)] [] (.p (.bool true)),(((!!true)=true)→(NT 0 1)),(AG (!!true)),(((!!true)=true)→ zE 147 [(zf101 N nb g)] [] (.p (.bool false))),(((!true)=false)→ ((!!true)=true)),((bif !true then true else false)=false),((decide ((↑N:Int)≤3))=false),(AG (!false)),(((!false)=true)→(NT 0 1)),(((!false&&decide ((↑N:Int)>3))=true)→(NT 0 1)),(AG (!false&&decide ((↑N:Int)>3))),(((!false&&decide ((↑N:Int)>3))=true)→ zE 127 [(zf101 N nb g)] [] (.p (.bool b))),(((!false)=true)→(((decide ((↑N:Int)>3))=true)→ ((!false&&decide ((↑N:Int)>3))=true))),((false=false)→ ((!false)=true)),((bif false then true else bif decide ((↑N:Int)>3) then !b else false)=false),(((decide ((↑N:Int)>3))=true)→(NT 0 1)),(AG (decide ((↑N:Int)>3))),(((decide ((↑N:Int)>3))=true)→ zE 182 [(zf101 N nb g),.p (.int .i64 3)] [] (.p (.bool b2))),((bif decide ((↑N:Int)>3) then !b2 else false)=false),(((decide ((↑N:Int)>3))=true)→ zE 183 [(zf101 N nb g)] [] (.p (.bool b3))),((bif decide ((↑N:Int)>3) then !b3 else false)=true),(ByteArray.mk #[114,101,100,117,110,100,97,110,116]=kwRed)] [0,1,2,3,4,5,6,0,7,7,7,7,7,8,9,8,8,10,11,12,11,8,13,14,15,0,16,17,18,17,17,19,0,16,17,20,17,17,21,22]):=by kernel_rfl
theorem gw7 (g:Nat→T_Bar) (nb N:Nat) (b b2 b3:Bool) :
    zS Tryz.f139 [rg 2,rm [(1,oc [] (.p (.bool true))),(3,oc [] (.p (.bool false)))] 2,.dec false,rm [(4,gF),(0,gF),(0,gF),(0,gF),(0,gF),(6,oc [] (.p (.bool b)))] 4,.dec false,rm [(5,oc [] (.p (.bool b2)))] 3,.dec false,rm [(5,oc [] (.p (.bool b3)))] 3,.dec false,rg 1] [grG g nb N] [] [] (.p (.str kwE)) =
    some (zD [(NT 0 1),zE 130 [(zf101 N nb g)] [] (.p (.bool true)),(((!!true)=true)→(NT 0 1)),(AG (!!true)),(((!!true)=true)→ zE 147 [(zf101 N nb g)] [] (.p (.bool false))),(((!true)=false)→ ((!!true)=true)),((bif !true then true else false)=false),((decide ((↑N:Int)≤3))=false),(AG (!false)),(((!false)=true)→(NT 0 1)),(((!false&&decide ((↑N:Int)>3))=true)→(NT 0 1)),(AG (!false&&decide ((↑N:Int)>3))),(((!false&&decide ((↑N:Int)>3))=true)→ zE 127 [(zf101 N nb g)] [] (.p (.bool b))),(((!false)=true)→(((decide ((↑N:Int)>3))=true)→ ((!false&&decide ((↑N:Int)>3))=true))),((false=false)→ ((!false)=true)),((bif false then true else bif decide ((↑N:Int)>3) then !b else false)=false),(((decide ((↑N:Int)>3))=true)→(NT 0 1)),(AG (decide ((↑N:Int)>3))),(((decide ((↑N:Int)>3))=true)→ zE 182 [(zf101 N nb g),.p (.int .i64 3)] [] (.p (.bool b2))),((bif decide ((↑N:Int)>3) then !b2 else false)=false),(((decide ((↑N:Int)>3))=true)→ zE 183 [(zf101 N nb g)] [] (.p (.bool b3))),((bif decide ((↑N:Int)>3) then !b3 else false)=false),(ByteArray.mk #[]=kwE)] [0,1,2,3,4,5,6,0,7,7,7,7,7,8,9,8,8,10,11,12,11,8,13,14,15,0,16,17,18,17,17,19,0,16,17,20,17,17,21,22]):=by kernel_rfl
theorem sw1 (g:Nat→T_Bar) (nb N:Nat) :
    zS Tryz.f140 [rg 2,rm [(1,oc [] (.p (.bool false)))] 2,.dec true,rg 1] [grG g nb N] [] [] (.p (.str kwGraph)) =
    some [(NT 0 1),zE 151 [(zf101 N nb g)] [] (.p (.bool false)),((!false)=true),(ByteArray.mk #[103,114,97,112,104]=kwGraph)]:=by kernel_rfl
theorem sw2 (g:Nat→T_Bar) (nb N:Nat) :
    zS Tryz.f140 [rg 2,rm [(1,oc [] (.p (.bool true)))] 2,.dec false,rg 4,.dec true,rg 11,.dec true,rg 1] [grG g nb N] [] [] (.p (.str kwRigid)) =
    some [(NT 0 1),zE 151 [(zf101 N nb g)] [] (.p (.bool true)),((!true)=false),(NT 0 1),((decide ((↑N:Int)≤3))=true),(NT 0 1),(NT 0 1),(NT 0 1),(ZLo ((↑N:Int) - 1)),(ZHi ((↑N:Int) - 1)),(ZLo ((↑N:Int)*((↑N:Int) - 1))),(ZHi ((↑N:Int)*((↑N:Int) - 1))),(IL 0 ((↑N:Int)*((↑N:Int) - 1))),(IT 0 2),(ZHi ((↑N:Int)*((↑N:Int) - 1) / 2)),((decide ((↑nb:Int)<(↑N:Int)*((↑N:Int) - 1) / 2))=true),(ByteArray.mk #[114,105,103,105,100]=kwRigid)]:=by kernel_rfl
theorem sw3 (g:Nat→T_Bar) (nb N:Nat) :
    zS Tryz.f140 [rg 2,rm [(1,oc [] (.p (.bool true)))] 2,.dec false,rg 4,.dec true,rg 11,.dec false,rg 1] [grG g nb N] [] [] (.p (.str kwE)) =
    some [(NT 0 1),zE 151 [(zf101 N nb g)] [] (.p (.bool true)),((!true)=false),(NT 0 1),((decide ((↑N:Int)≤3))=true),(NT 0 1),(NT 0 1),(NT 0 1),(ZLo ((↑N:Int) - 1)),(ZHi ((↑N:Int) - 1)),(ZLo ((↑N:Int)*((↑N:Int) - 1))),(ZHi ((↑N:Int)*((↑N:Int) - 1))),(IL 0 ((↑N:Int)*((↑N:Int) - 1))),(IT 0 2),(ZHi ((↑N:Int)*((↑N:Int) - 1) / 2)),((decide ((↑nb:Int)<(↑N:Int)*((↑N:Int) - 1) / 2))=false),(ByteArray.mk #[]=kwE)]:=by kernel_rfl
theorem sw4 (g:Nat→T_Bar) (nb N:Nat) :
    zS Tryz.f140 [rg 2,rm [(1,oc [] (.p (.bool true)))] 2,.dec false,rg 4,.dec false,rm [(1,oc [] (.p (.bool false)))] 2,.dec true,rg 1] [grG g nb N] [] [] (.p (.str kwRigid)) =
    some [(NT 0 1),zE 151 [(zf101 N nb g)] [] (.p (.bool true)),((!true)=false),(NT 0 1),((decide ((↑N:Int)≤3))=false),(NT 0 1),zE 184 [(zf101 N nb g)] [] (.p (.bool false)),((!false)=true),(ByteArray.mk #[114,105,103,105,100]=kwRigid)]:=by kernel_rfl
theorem sw5 (g:Nat→T_Bar) (nb N:Nat) :
    zS Tryz.f140 [rg 2,rm [(1,oc [] (.p (.bool true)))] 2,.dec false,rg 4,.dec false,rm [(1,oc [] (.p (.bool true)))] 2,.dec false,rm [(1,oc [] (.p (.bool false)))] 2,.dec true,rg 1] [grG g nb N] [] [] (.p (.str kwConn)) =
    some (zD [(NT 0 1),zE 151 [(zf101 N nb g)] [] (.p (.bool true)),((!true)=false),((decide ((↑N:Int)≤3))=false),zE 184 [(zf101 N nb g)] [] (.p (.bool true)),zE 185 [(zf101 N nb g),.p (.int .i64 3)] [] (.p (.bool false)),((!false)=true),(ByteArray.mk #[99,111,110,110,101,99,116,101,100]=kwConn)] [0,1,2,0,3,0,4,2,0,5,6,7]):=by kernel_rfl
theorem sw6 (g:Nat→T_Bar) (nb N:Nat) :
    zS Tryz.f140 [rg 2,rm [(1,oc [] (.p (.bool true)))] 2,.dec false,rg 4,.dec false,rm [(1,oc [] (.p (.bool true)))] 2,.dec false,rm [(1,oc [] (.p (.bool true)))] 2,.dec false,rm [(1,oc [] (.p (.bool false)))] 2,.dec true,rg 1] [grG g nb N] [] [] (.p (.str kwRed)) =
    some (zD [(NT 0 1),zE 151 [(zf101 N nb g)] [] (.p (.bool true)),((!true)=false),((decide ((↑N:Int)≤3))=false),zE 184 [(zf101 N nb g)] [] (.p (.bool true)),zE 185 [(zf101 N nb g),.p (.int .i64 3)] [] (.p (.bool true)),zE 186 [(zf101 N nb g)] [] (.p (.bool false)),((!false)=true),(ByteArray.mk #[114,101,100,117,110,100,97,110,116]=kwRed)] [0,1,2,0,3,0,4,2,0,5,2,0,6,7,8]):=by kernel_rfl
theorem sw7 (g:Nat→T_Bar) (nb N:Nat) :
    zS Tryz.f140 [rg 2,rm [(1,oc [] (.p (.bool true)))] 2,.dec false,rg 4,.dec false,rm [(1,oc [] (.p (.bool true)))] 2,.dec false,rm [(1,oc [] (.p (.bool true)))] 2,.dec false,rm [(1,oc [] (.p (.bool true)))] 2,.dec false,rg 1] [grG g nb N] [] [] (.p (.str kwE)) =
    some (zD [(NT 0 1),zE 151 [(zf101 N nb g)] [] (.p (.bool true)),((!true)=false),((decide ((↑N:Int)≤3))=false),zE 184 [(zf101 N nb g)] [] (.p (.bool true)),zE 185 [(zf101 N nb g),.p (.int .i64 3)] [] (.p (.bool true)),zE 186 [(zf101 N nb g)] [] (.p (.bool true)),(ByteArray.mk #[]=kwE)] [0,1,2,0,3,0,4,2,0,5,2,0,6,2,7]):=by kernel_rfl
theorem gwi (g:Nat→T_Bar) (nb N:Nat) (s:ByteArray) :
    zS Tryz.f64 [rg 2,rm [(1,oc [] (.p (.str s)))] 2] [grG g nb N] [] [] (.p (.bool (s.toList==kwE.toList))) =
    some [(NT 0 1),zE 139 [(zf101 N nb g)] [] (.p (.str s)),((s.toList==(ByteArray.mk #[]).toList)=(s.toList==kwE.toList))]:=by kernel_rfl
theorem gws (g:Nat→T_Bar) (nb N:Nat) (s:ByteArray) :
    zS Tryz.f65 [rg 2,rm [(1,oc [] (.p (.str s)))] 2] [grG g nb N] [] [] (.p (.bool (s.toList==kwE.toList))) =
    some [(NT 0 1),zE 140 [(zf101 N nb g)] [] (.p (.str s)),((s.toList==(ByteArray.mk #[]).toList)=(s.toList==kwE.toList))]:=by kernel_rfl
theorem sameB_and (a b:T_Bar):(a.1==b.1&&(a.2.1==b.2.1&&true))=sameB a b:=by
  unfold sameB
  cases (a.1==b.1)<;>simp
theorem dbF_t {g:Nat→T_Bar} {k:Nat} (h:sameB (g k) (g (k+1))=true):∀ d,dbF g (k+1+1+d)=true
  | 0=>by
    show dbF g (k+1+1)=true
    rw [dbF]
    cases dbF g (k+1) with
    | true=>rfl
    | false=>rw [decide_eq_true (show 0<k+1 by omega)];exact h
  | d+1=>by
    show dbF g (k+1+1+d+1)=true
    rw [dbF,dbF_t h d];rfl
theorem dbF_f {g:Nat→T_Bar} {k:Nat} (h:sameB (g k) (g (k+1))=false) (h':dbF g (k+1)=false):dbF g (k+1+1)=false:=by
  rw [dbF,h',decide_eq_true (show 0<k+1 by omega)];exact h
theorem dbF_1 (g:Nat→T_Bar):∀ n,n≤1→dbF g n=false
  | 0,_=>rfl
  | 1,_=>rfl
  | n+2,h=>by omega
theorem con_gDoubles {N nb:Nat} {g:Nat→T_Bar} (hnb:nb≤24):zE 147 [grG g nb N] [] (.p (.bool (dbF g nb))):=by
  refine csZ Tryz.func147 (fun c hc=>?_)
  have lo:∀ d k,k+1+d=max nb 1→dbF g (k+1)=false→zR c 147 zf86 (HD g nb N (k+1)) (Post c [] (.p (.bool (dbF g nb)))):=by
    intro d
    induction d with
    | zero =>
      intro k hk ha
      have hd:decide (((k+1:Nat):Int)<(nb:Int))=false:=decide_eq_false (by omega)
      have e:dbF g nb=false:=by
        by_cases h:nb≤1
        · exact dbF_1 g nb h
        · rw [show nb=k+1 by omega];exact ha
      rw [e]
      refine pkZ Tryz.func147 hc (hde g nb N (k+1)) ?_
      and_intros
      all_goals (first | exact zN | (exact hd) | (simp;done))
    | succ d ih =>
      intro k hk ha
      have hd:decide (((k+1:Nat):Int)<(nb:Int))=true:=decide_eq_true (by omega)
      have hx:(((k+1:Nat):Int) - 1).toNat=k:=by omega
      cases hq:sameB (g k) (g (k+1)) with
      | true =>
        rw [show dbF g nb=true by rw [show nb=k+1+1+(nb - (k+1+1)) by omega];exact dbF_t hq _]
        refine pkZ Tryz.func147 hc (hdt g nb N k) ?_
        and_intros
        all_goals (first | exact zN | (exact hd) | (rw [hx,sameB_and];exact hq) | (simp;done))
      | false =>
        refine pcZ hc (hdf g nb N k) ?_ (ih (k+1) (by omega) (dbF_f hq ha))
        and_intros
        all_goals (first | exact zN | (exact hd) | (rw [hx,sameB_and];exact hq) | (simp;done))
  refine pcZ hc (hdz g nb N) ?_ (lo (max nb 1 - 1) 0 (by omega) rfl)
  and_intros
  all_goals (first | exact zN | (simp;done))
theorem con_gSimple {N nb:Nat} {g:Nat→T_Bar} (hg:isGraphF ((N:Int),(nb,g),())=true):zE 151 [grG g nb N] [] (.p (.bool (!dbF g nb))):=by
  obtain ⟨h1,h2,h3⟩:=graph_in hg
  have c1:=con_IsGraph_s ((N:Int),(nb,g),()) (sm_graph (by show nb≤_;omega))
  rw [hg] at c1
  refine csZ Tryz.func151 (fun c hc=>?_)
  have lo:∀ d k,k+1+d=max nb 1→dbF g (k+1)=false→zR c 151 zf87 (HS g nb N (k+1)) (Post c [] (.p (.bool (!dbF g nb)))):=by
    intro d
    induction d with
    | zero =>
      intro k hk ha
      have hd:decide (((k+1:Nat):Int)<(nb:Int))=false:=decide_eq_false (by omega)
      have e:dbF g nb=false:=by
        by_cases h:nb≤1
        · exact dbF_1 g nb h
        · rw [show nb=k+1 by omega];exact ha
      rw [e]
      refine pkZ Tryz.func151 hc (hse g nb N (k+1)) ?_
      and_intros
      all_goals (first | exact zN | (exact hd) | (exact c1) | (simp;done))
    | succ d ih =>
      intro k hk ha
      have hd:decide (((k+1:Nat):Int)<(nb:Int))=true:=decide_eq_true (by omega)
      have hx:(((k+1:Nat):Int) - 1).toNat=k:=by omega
      cases hq:sameB (g k) (g (k+1)) with
      | true =>
        rw [show dbF g nb=true by rw [show nb=k+1+1+(nb - (k+1+1)) by omega];exact dbF_t hq _]
        refine pkZ Tryz.func151 hc (hst g nb N k) ?_
        and_intros
        all_goals (first | exact zN | (exact hd) | (rw [hx,sameB_and];exact hq) | (simp;done))
      | false =>
        refine pcZ hc (hsf g nb N k) ?_ (ih (k+1) (by omega) (dbF_f hq ha))
        and_intros
        all_goals (first | exact zN | (exact hd) | (rw [hx,sameB_and];exact hq) | (simp;done))
  refine pcZ hc (hsz g nb N) ?_ (lo (max nb 1 - 1) 0 (by omega) rfl)
  and_intros
  all_goals (first | exact zN | (simp;done))
noncomputable def rgQ (N nb:Nat) (g:Nat→T_Bar):Bool:=frGr ((N:Int),(nb,g),())==0
noncomputable def wgF (N nb:Nat) (g:Nat→T_Bar):ByteArray :=
  if dbF g nb=true then kwGraph else if N≤3 then (if decide ((((msP ((N:Int),(nb,g),())).1:Nat):Int)>0)=true then kwRigid else kwE) else if rgQ N nb g=false then kwRigid else if kcB N nb g 3=false then kwConn else if rdB N nb g=false then kwRed else kwE
theorem con_gWhy_i {N nb:Nat} {g:Nat→T_Bar} (hg:isGraphF ((N:Int),(nb,g),())=true):zE 139 [grG g nb N] [] (.p (.str (wgF N nb g))):=by
  obtain ⟨h1,h2,h3⟩:=graph_in hg
  have hsm:smS s_Graph ((N:Int),(nb,g),()):=sm_graph (by show nb≤_;omega)
  have c1:=con_IsGraph_i ((N:Int),(nb,g),()) hsm
  rw [hg] at c1
  have c2:=con_gDoubles (N:=N) (g:=g) h2
  have c3:=con_Missing_i ((N:Int),(nb,g),()) hsm
  have c4:=con_IsRigid_i ((N:Int),(nb,g),()) hsm
  have c4:zE 127 [grG g nb N] [] (.p (.bool (rgQ N nb g))):=c4
  have c5:=con_gKC_i hg 3 (by omega)
  have c6:=con_gRedun_i hg
  unfold wgF
  generalize rgQ N nb g=b at *
  generalize kcB N nb g 3=b2 at *
  generalize rdB N nb g=b3 at *
  generalize msP ((N:Int),(nb,g),())=m at *
  refine csZ Tryz.func139 (fun c hc=>?_)
  cases hdb:dbF g nb with
  | true =>
    rw [hdb] at c2
    rw [if_pos rfl]
    refine pkZ Tryz.func139 hc (gw1 g nb N) ?_
    and_intros
    all_goals (first | exact zH | (exact c1) | (exact c2) | (intros;exact c2) | (simp;done))
  | false =>
    rw [hdb] at c2
    rw [if_neg Bool.false_ne_true]
    by_cases hN:N≤3
    · rw [if_pos hN]
      have d1:decide ((N:Int)≤3)=true:=decide_eq_true (by omega)
      have d2:decide ((N:Int)>3)=false:=decide_eq_false (by omega)
      cases hm:decide (((m.1:Nat):Int)>0) with
      | true =>
        rw [if_pos rfl]
        refine pkD Tryz.func139 hc (gw2 g nb N m.1 m.2 b) ?_
        and_intros
        all_goals (first | exact zH | (exact c1) | (exact c2) | (intros;exact c2) | (exact d1) | (exact c3) | (intros;exact c4) | (rw [hm];rfl) | (rw [hm,d2];rfl) | (simp [d2];done))
      | false =>
        rw [if_neg Bool.false_ne_true]
        refine pkD Tryz.func139 hc (gw3 g nb N m.1 m.2 b b2 b3) ?_
        and_intros
        all_goals (first | exact zH | (exact c1) | (exact c2) | (intros;exact c2) | (exact d1) | (exact c3) | (intros;exact c4) | (intros;exact c5) | (intros;exact c6) | (rw [hm];rfl) | (rw [hm,d2];rfl) | (simp [d2];done))
    · rw [if_neg hN]
      have d1:decide ((N:Int)≤3)=false:=decide_eq_false (by omega)
      have d2:decide ((N:Int)>3)=true:=decide_eq_true (by omega)
      cases b with
      | false =>
        rw [if_pos rfl]
        refine pkD Tryz.func139 hc (gw4 g nb N false) ?_
        and_intros
        all_goals (first | exact zH | (exact c1) | (exact c2) | (intros;exact c2) | (exact d1) | (intros;exact c4) | (simp [d2];done))
      | true =>
        rw [if_neg (by simp)]
        cases b2 with
        | false =>
          rw [if_pos rfl]
          refine pkD Tryz.func139 hc (gw5 g nb N true false) ?_
          and_intros
          all_goals (first | exact zH | (exact c1) | (exact c2) | (intros;exact c2) | (exact d1) | (intros;exact c4) | (intros;exact c5) | (simp [d2];done))
        | true =>
          rw [if_neg (by simp)]
          cases b3 with
          | false =>
            rw [if_pos rfl]
            refine pkD Tryz.func139 hc (gw6 g nb N true true false) ?_
            and_intros
            all_goals (first | exact zH | (exact c1) | (exact c2) | (intros;exact c2) | (exact d1) | (intros;exact c4) | (intros;exact c5) | (intros;exact c6) | (simp [d2];done))
          | true =>
            rw [if_neg (by simp)]
            refine pkD Tryz.func139 hc (gw7 g nb N true true true) ?_
            and_intros
            all_goals (first | exact zH | (exact c1) | (exact c2) | (intros;exact c2) | (exact d1) | (intros;exact c4) | (intros;exact c5) | (intros;exact c6) | (simp [d2];done))
theorem con_gWhy_s {N nb:Nat} {g:Nat→T_Bar} (hg:isGraphF ((N:Int),(nb,g),())=true):zE 140 [grG g nb N] [] (.p (.str (wgF N nb g))):=by
  obtain ⟨h1,h2,h3⟩:=graph_in hg
  have hsm:smS s_Graph ((N:Int),(nb,g),()):=sm_graph (by show nb≤_;omega)
  have c2:=con_gSimple hg
  have c4:=con_IsRigid_s ((N:Int),(nb,g),()) hsm
  have c4:zE 184 [grG g nb N] [] (.p (.bool (rgQ N nb g))):=c4
  have c5:=con_gKC_s hg 3 (by omega)
  have c6:=con_gRedun_s hg
  unfold wgF
  generalize rgQ N nb g=b at *
  generalize kcB N nb g 3=b2 at *
  generalize rdB N nb g=b3 at *
  refine csZ Tryz.func140 (fun c hc=>?_)
  cases hdb:dbF g nb with
  | true =>
    rw [hdb] at c2
    rw [if_pos rfl]
    refine pkZ Tryz.func140 hc (sw1 g nb N) ?_
    and_intros
    all_goals (first | exact zN | (exact c2) | (simp;done))
  | false =>
    have hmf:=missing_few hg hdb
    rw [hdb] at c2
    rw [if_neg Bool.false_ne_true]
    by_cases hN:N≤3
    · rw [if_pos hN,hmf hN]
      have d1:decide ((N:Int)≤3)=true:=decide_eq_true (by omega)
      have hmul:(N:Int)*((N:Int) - 1) / 2=((N*(N - 1) / 2:Nat):Int)∧0≤(N:Int)*((N:Int) - 1)∧(N:Int)*((N:Int) - 1)≤6:=by
        have:N=1∨N=2∨N=3:=by omega
        rcases this with rfl | rfl | rfl<;>decide
      cases hm:decide ((nb:Int)<((N*(N - 1) / 2:Nat):Int)) with
      | true =>
        rw [if_pos rfl]
        refine pkZ Tryz.func140 hc (sw2 g nb N) ?_
        and_intros
        all_goals (first | exact zN | (exact c2) | (exact d1) | (rw [hmul.1];exact hm) | (simp;done))
      | false =>
        rw [if_neg Bool.false_ne_true]
        refine pkZ Tryz.func140 hc (sw3 g nb N) ?_
        and_intros
        all_goals (first | exact zN | (exact c2) | (exact d1) | (rw [hmul.1];exact hm) | (simp;done))
    · rw [if_neg hN]
      have d1:decide ((N:Int)≤3)=false:=decide_eq_false (by omega)
      cases b with
      | false =>
        rw [if_pos rfl]
        refine pkZ Tryz.func140 hc (sw4 g nb N) ?_
        and_intros
        all_goals (first | exact zN | (exact c2) | (exact d1) | (exact c4) | (simp;done))
      | true =>
        rw [if_neg (by simp)]
        cases b2 with
        | false =>
          rw [if_pos rfl]
          refine pkD Tryz.func140 hc (sw5 g nb N) ?_
          and_intros
          all_goals (first | exact zN | (exact c2) | (exact d1) | (exact c4) | (exact c5) | (simp;done))
        | true =>
          rw [if_neg (by simp)]
          cases b3 with
          | false =>
            rw [if_pos rfl]
            refine pkD Tryz.func140 hc (sw6 g nb N) ?_
            and_intros
            all_goals (first | exact zN | (exact c2) | (exact d1) | (exact c4) | (exact c5) | (exact c6) | (simp;done))
          | true =>
            rw [if_neg (by simp)]
            refine pkD Tryz.func140 hc (sw7 g nb N) ?_
            and_intros
            all_goals (first | exact zN | (exact c2) | (exact d1) | (exact c4) | (exact c5) | (exact c6) | (simp;done))
noncomputable def glB (N nb:Nat) (g:Nat→T_Bar):Bool:=(wgF N nb g).toList==kwE.toList
theorem con_gGlobal_i {N nb:Nat} {g:Nat→T_Bar} (hg:isGraphF ((N:Int),(nb,g),())=true):zE 64 [grG g nb N] [] (.p (.bool (glB N nb g))):=by
  have c1:=con_gWhy_i hg
  refine csZ Tryz.func64 (fun c hc=>?_)
  refine pkZ Tryz.func64 hc (gwi g nb N (wgF N nb g)) ?_
  and_intros
  all_goals (first | exact zN | (exact c1) | (simp;done))
theorem con_gGlobal_s {N nb:Nat} {g:Nat→T_Bar} (hg:isGraphF ((N:Int),(nb,g),())=true):zE 65 [grG g nb N] [] (.p (.bool (glB N nb g))):=by
  have c1:=con_gWhy_s hg
  refine csZ Tryz.func65 (fun c hc=>?_)
  refine pkZ Tryz.func65 hc (gws g nb N (wgF N nb g)) ?_
  and_intros
  all_goals (first | exact zN | (exact c1) | (simp;done))
theorem rAg_eq (g:Nat→T_Bar) (s:Nat→Bool):∀ k,rAg g s k=false→∀ i,i<k→s (g i).1.toNat=s (g i).2.1.toNat
  | 0,_,i,hi=>absurd hi (Nat.not_lt_zero _)
  | k+1,h,i,hi=>by
    simp only [rAg,Bool.or_eq_false_iff] at h
    rcases Nat.lt_or_ge i k with h1 | h1
    · exact rAg_eq g s k h.1 i h1
    · obtain rfl:i=k:=by omega
      have:=h.2
      rw [rRd_same g s i h.1] at this
      simpa using this
theorem rIt_closed {g:Nat→T_Bar} {nb N:Nat} {s:Nat→Bool} (hg:∀ i,i<nb→(g i).1.toNat<N∧(g i).2.1.toNat<N) (h0:1≤cnT s N):∀ i,i<nb→rIt g nb s N (g i).1.toNat=rIt g nb s N (g i).2.1.toNat:=by
  have hex:∃ j,j≤N∧rAg g (rIt g nb s j) nb=false:=by
    refine Classical.byContradiction (fun hn=>?_)
    have h1:=rIt_cnt hg h0 N (fun i hi=>by
      cases h:rAg g (rIt g nb s i) nb with
      | true=>rfl
      | false=>exact absurd ⟨i,by omega,h⟩ hn)
    have:=cnT_le (rIt g nb s N) N
    omega
  obtain ⟨j,j1,j2⟩:=hex
  have e:=rIt_fix j2 (N - j)
  rw [show j+(N - j)=N by omega] at e
  rw [e]
  exact rAg_eq g _ nb j2
theorem rSt_le {s T:Nat→Bool} {a b:Nat} (h:∀ u,s u=true→T u=true) (he:T a=T b):∀ u,rSt s a b u=true→T u=true:=by
  intro u hu
  unfold rSt at hu
  split at hu
  · rename_i hv
    have:T a=true:=by
      rcases Bool.or_eq_true _ _ |>.mp hu with h1 | h1
      · exact h a h1
      · rw [he];exact h b h1
    rcases hv with rfl | rfl
    · exact this
    · rw [← he];exact this
  · exact h u hu
theorem rRd_le {g:Nat→T_Bar} {s T:Nat→Bool} (h:∀ u,s u=true→T u=true):∀ k,(∀ i,i<k→T (g i).1.toNat=T (g i).2.1.toNat)→∀ u,rRd g s k u=true→T u=true
  | 0,_=>h
  | k+1,he=>rSt_le (rRd_le h k (fun i hi=>he i (by omega))) (he k (by omega))
theorem rIt_le {g:Nat→T_Bar} {nb:Nat} {s T:Nat→Bool} (h:∀ u,s u=true→T u=true) (he:∀ i,i<nb→T (g i).1.toNat=T (g i).2.1.toNat):∀ n u,rIt g nb s n u=true→T u=true
  | 0=>h
  | n+1=>rRd_le (rIt_le h he n) nb he
theorem flt_full (p:Nat→Bool):∀ n,(flt p n).1=n↔∀ u,u<n→p u=true
  | 0=>⟨fun _ u hu=>absurd hu (Nat.not_lt_zero _),fun _=>rfl⟩
  | n+1=>by
    have ih:=flt_full p n
    have hl:=flt_n p n
    cases hp:p n with
    | true =>
      rw [flt_t hp]
      constructor
      · intro h u hu
        have h:(flt p n).1+1=n+1:=h
        rcases Nat.lt_or_ge u n with h1 | h1
        · exact ih.1 (by omega) u h1
        · obtain rfl:u=n:=by omega
          exact hp
      · intro h
        show (flt p n).1+1=n+1
        rw [ih.2 (fun u hu=>h u (by omega))]
    | false =>
      rw [flt_f hp]
      constructor
      · intro h;omega
      · intro h
        have:=h n (by omega)
        rw [hp] at this;cases this
theorem cn_iff {N nb:Nat} {g:Nat→T_Bar} (hg:isGraphF ((N:Int),(nb,g),())=true) :
    cnB ((N:Int),(nb,g),())=true↔∀ T:Nat→Bool,T 0=true→(∀ x∈bL g nb,T x.1=T x.2)→∀ u,u<N→T u=true:=by
  obtain ⟨h1,h2,h3⟩:=graph_in hg
  have hin:∀ i,i<nb→(g i).1.toNat<N∧(g i).2.1.toNat<N:=ends_in h3
  have e:cnB ((N:Int),(nb,g),())=true↔∀ u,u<N→rcF ((N:Int),(nb,g),()) 0 u=true:=by
    unfold cnB
    rw [hg,cond_true,beq_iff_eq,← flt_full]
    show ((flt (rcF ((N:Int),(nb,g),()) 0) N).1:Int)=(N:Int)↔_
    omega
  rw [e]
  have er:rcF ((N:Int),(nb,g),()) 0=rIt g nb (fun u=>decide (u=0)) N:=rfl
  rw [er]
  constructor
  · intro h T t0 hT u hu
    refine rIt_le (fun u hu=>?_) (fun i hi=>?_) N u (h u hu)
    · rw [show u=0 from of_decide_eq_true hu];exact t0
    · exact hT _ ((bL_mem _ _ _).2 ⟨i,hi,rfl⟩)
  · intro h
    refine h _ ?_ (fun x hx=>?_)
    · have key:∀ n,rIt g nb (fun u=>decide (u=0)) n 0=true:=by
        intro n
        induction n with
        | zero=>rfl
        | succ n ih=>exact rRd_mono g _ 0 ih nb
      exact key N
    · obtain ⟨i,hi,rfl⟩:=(bL_mem _ _ _).1 hx
      exact rIt_closed hin (cnT_one (by omega)) i hi
def kpB (S:T_IntS) (u:Nat):Bool:=!hasI S.2 u S.1
def kpN (S:T_IntS) (u:Nat):Nat:=(wpD S u).1
theorem kp_at (S:T_IntS):∀ N u,u<N→(wpD S N).2 u=if kpB S u=true then ((kpN S u:Nat):Int) else -1
  | 0,u,h=>absurd h (Nat.not_lt_zero _)
  | N+1,u,h=>by
    have hk:kpB S N=!hasI S.2 N S.1:=rfl
    cases hh:hasI S.2 (N:Int) S.1 with
    | true =>
      rw [hh] at hk
      rw [wpD_t hh]
      show (if u<N then (wpD S N).2 u else -1)=_
      rcases Nat.lt_or_ge u N with h1 | h1
      · rw [if_pos h1];exact kp_at S N u h1
      · obtain rfl:u=N:=by omega
        rw [if_neg (Nat.lt_irrefl _),hk]
        rfl
    | false =>
      rw [hh] at hk
      rw [wpD_f hh]
      show (if u<N then (wpD S N).2 u else ((wpD S N).1:Int))=_
      rcases Nat.lt_or_ge u N with h1 | h1
      · rw [if_pos h1];exact kp_at S N u h1
      · obtain rfl:u=N:=by omega
        rw [if_neg (Nat.lt_irrefl _),hk]
        rfl
theorem kp_step (S:T_IntS) (u:Nat):kpN S (u+1)=kpN S u+(kpB S u).toNat:=by
  unfold kpN kpB
  cases hh:hasI S.2 (u:Int) S.1 with
  | true=>rw [wpD_t hh];rfl
  | false=>rw [wpD_f hh];rfl
theorem kp_mono (S:T_IntS) (a:Nat):∀ d,kpN S a≤kpN S (a+d)
  | 0=>Nat.le_refl _
  | d+1=>by have:=kp_mono S a d;rw [← Nat.add_assoc,kp_step];omega
theorem kp_le (S:T_IntS) {a b:Nat} (h:a≤b):kpN S a≤kpN S b:=by
  have:=kp_mono S a (b - a)
  rwa [show a+(b - a)=b by omega] at this
theorem kp_lt (S:T_IntS) {a b:Nat} (h:a<b) (ha:kpB S a=true):kpN S a<kpN S b:=by
  have:=kp_le S (show a+1≤b by omega)
  rw [kp_step,ha] at this
  exact this
theorem kp_card (S:T_IntS):∀ n,kpN S n=Mat.cardR (kpB S) n
  | 0=>rfl
  | n+1=>by rw [kp_step,kp_card S n];rfl
theorem kp_inj (S:T_IntS) {a b:Nat} (ha:kpB S a=true) (hb:kpB S b=true) (h:kpN S a=kpN S b):a=b:=by
  rcases Nat.lt_trichotomy a b with h1 | h1 | h1
  · have:=kp_lt S h1 ha;omega
  · exact h1
  · have:=kp_lt S h1 hb;omega
theorem kp_onto (S:T_IntS):∀ N i,i<kpN S N→∃ u,u<N∧kpB S u=true∧kpN S u=i
  | 0,i,h=>absurd h (Nat.not_lt_zero _)
  | N+1,i,h=>by
    rw [kp_step] at h
    rcases Nat.lt_or_ge i (kpN S N) with h1 | h1
    · obtain ⟨u,u1,u2,u3⟩:=kp_onto S N i h1
      exact ⟨u,by omega,u2,u3⟩
    · cases hk:kpB S N with
      | false=>rw [hk] at h;have:(false).toNat=0:=rfl;omega
      | true=>rw [hk] at h;have:(true).toNat=1:=rfl;exact ⟨N,by omega,hk,by omega⟩
theorem wl_mem {N nb:Nat} {g:Nat→T_Bar} (hok:OkBars N nb g) (S:T_IntS):∀ k,k≤nb→∀ x:T_Bar,x∈lstB (wpB g (wpD S N).2 k).1 (wpB g (wpD S N).2 k).2 ↔
    ∃ i,i<k∧kpB S (g i).1.toNat=true∧kpB S (g i).2.1.toNat=true∧x=(((kpN S (g i).1.toNat:Nat):Int),((kpN S (g i).2.1.toNat:Nat):Int),())
  | 0,_,x=>⟨fun h=>(by cases h),fun ⟨i,hi,_⟩=>absurd hi (Nat.not_lt_zero _)⟩
  | k+1,hk,x=>by
    have ih:=wl_mem hok S k (by omega) x
    have hb:=hok k (by omega)
    have e1:=kp_at S N (g k).1.toNat (by omega)
    have e2:=kp_at S N (g k).2.1.toNat (by omega)
    by_cases hc:kpB S (g k).1.toNat=true∧kpB S (g k).2.1.toNat=true
    · rw [if_pos hc.1] at e1
      rw [if_pos hc.2] at e2
      have hw:wpB g (wpD S N).2 (k+1)=sn (wpB g (wpD S N).2 k) ((wpD S N).2 (g k).1.toNat,(wpD S N).2 (g k).2.1.toNat,()):=by
        simp only [wpB]
        rw [if_pos (by rw [e1,e2];simp)]
      rw [hw,e1,e2]
      have hs:∀ (r:NB) (y:T_Bar),lstB (sn r y).1 (sn r y).2=lstB r.1 r.2++[y]:=by
        intro r y
        show lstB (r.1+1) (snoc r.1 r.2 y)=_
        rw [lstB_succ,lstB_congr (h':=r.2) (fun i hi=>snoc_lt hi),snoc_ge (Nat.lt_irrefl _)]
      rw [hs,List.mem_append,List.mem_singleton,ih]
      constructor
      · rintro (⟨i,i1,i2⟩ | rfl)
        · exact ⟨i,by omega,i2⟩
        · exact ⟨k,by omega,hc.1,hc.2,rfl⟩
      · rintro ⟨i,i1,i2,i3,i4⟩
        rcases Nat.lt_or_ge i k with h1 | h1
        · exact .inl ⟨i,h1,i2,i3,i4⟩
        · obtain rfl:i=k:=by omega
          exact .inr i4
    · have hw:wpB g (wpD S N).2 (k+1)=wpB g (wpD S N).2 k:=by
        simp only [wpB]
        rw [if_neg]
        rw [e1,e2]
        intro h
        refine hc ?_
        rw [Bool.and_eq_true,decide_eq_true_iff,decide_eq_true_iff] at h
        constructor
        · refine Classical.byContradiction (fun h1=>?_)
          rw [if_neg h1] at h;omega
        · refine Classical.byContradiction (fun h1=>?_)
          rw [if_neg h1] at h;omega
      rw [hw,ih]
      constructor
      · rintro ⟨i,i1,i2⟩;exact ⟨i,by omega,i2⟩
      · rintro ⟨i,i1,i2,i3,i4⟩
        rcases Nat.lt_or_ge i k with h1 | h1
        · exact ⟨i,h1,i2,i3,i4⟩
        · obtain rfl:i=k:=by omega
          exact absurd ⟨i2,i3⟩ hc
theorem wl_srt {N nb:Nat} {g:Nat→T_Bar} (hg:isGraphF ((N:Int),(nb,g),())=true) (S:T_IntS):∀ k,k≤nb→(lstB (wpB g (wpD S N).2 k).1 (wpB g (wpD S N).2 k).2).Pairwise leB
  | 0,_=>List.Pairwise.nil
  | k+1,hk=>by
    have hok:=(graph_in hg).2.2
    have ih:=wl_srt hg S k (by omega)
    have hm:=wl_mem hok S k (by omega)
    have ha:=asc_of hg
    have hb:=hok k (by omega)
    have e1:=kp_at S N (g k).1.toNat (by omega)
    have e2:=kp_at S N (g k).2.1.toNat (by omega)
    simp only [wpB]
    split
    · rename_i hc
      rw [Bool.and_eq_true,decide_eq_true_iff,decide_eq_true_iff] at hc
      have h1:kpB S (g k).1.toNat=true:=Classical.byContradiction (fun h1=>by rw [if_neg h1] at e1;omega)
      have h2:kpB S (g k).2.1.toNat=true:=Classical.byContradiction (fun h1=>by rw [if_neg h1] at e2;omega)
      rw [if_pos h1] at e1
      rw [if_pos h2] at e2
      rw [e1,e2]
      have hs:∀ (r:NB) (y:T_Bar),lstB (sn r y).1 (sn r y).2=lstB r.1 r.2++[y]:=by
        intro r y
        show lstB (r.1+1) (snoc r.1 r.2 y)=_
        rw [lstB_succ,lstB_congr (h':=r.2) (fun i hi=>snoc_lt hi),snoc_ge (Nat.lt_irrefl _)]
      rw [hs,List.pairwise_append]
      refine ⟨ih,List.pairwise_singleton _ _,fun x hx y hy=>?_⟩
      rw [List.mem_singleton.1 hy]
      obtain ⟨i,i1,i2,i3,i4⟩:=(hm x).1 hx
      rw [i4,leB_iff]
      have hi:=hok i (by omega)
      have hlt:=asc_lt ha i1 (by omega)
      unfold aft at hlt
      rcases Int.lt_trichotomy (g i).1 (g k).1 with h3 | h3 | h3
      · have:=kp_lt S (show (g i).1.toNat<(g k).1.toNat by omega) i2
        left;show ((kpN S (g i).1.toNat:Nat):Int)<((kpN S (g k).1.toNat:Nat):Int);omega
      · rw [decide_eq_false (show ¬ (g i).1<(g k).1 by omega),show ((g i).1==(g k).1)=true from beq_iff_eq.2 h3] at hlt
        have hlt:(g i).2.1≤(g k).2.1:=of_decide_eq_true hlt
        have:=kp_le S (show (g i).2.1.toNat≤(g k).2.1.toNat by omega)
        right
        refine ⟨by rw [h3],?_⟩
        show ((kpN S (g i).2.1.toNat:Nat):Int)≤((kpN S (g k).2.1.toNat:Nat):Int);omega
      · rw [decide_eq_false (show ¬ (g i).1<(g k).1 by omega),show ((g i).1==(g k).1)=false from beq_eq_false_iff_ne.2 (by omega)] at hlt
        cases hlt
    · exact ih
theorem wp_graph {N nb:Nat} {g:Nat→T_Bar} (hg:isGraphF ((N:Int),(nb,g),())=true) (S:T_IntS) (h:1≤(wpD S N).1):isGraphF (wpG N nb g S)=true:=by
  obtain ⟨h1,h2,h3⟩:=graph_in hg
  have hw:=wpD_le S N
  have hb:=wpB_le g (wpD S N).2 nb
  refine isG_lst (N:=(wpD S N).1) (v:=wpG N nb g S) (by omega) rfl (by show (wpB g (wpD S N).2 nb).1≤24;omega) (wl_srt hg S nb (Nat.le_refl _)) (fun x hx=>?_)
  obtain ⟨i,i1,i2,i3,rfl⟩:=(wl_mem h3 S nb (Nat.le_refl _) x).1 hx
  have hi:=h3 i i1
  have h4:=kp_lt S (show (g i).1.toNat<(g i).2.1.toNat by omega) i2
  have h5:=kp_lt S (show (g i).2.1.toNat<N by omega) i3
  have h5:kpN S (g i).2.1.toNat<(wpD S N).1:=h5
  show 0≤((kpN S (g i).1.toNat:Nat):Int)∧((kpN S (g i).1.toNat:Nat):Int)<((kpN S (g i).2.1.toNat:Nat):Int)∧((kpN S (g i).2.1.toNat:Nat):Int)<(((wpD S N).1:Nat):Int)
  omega
def CnR (N:Nat) (L:List (Nat×Nat)) (R:Nat→Bool):Prop :=
  ∀ T:Nat→Bool,(∃ a,a<N∧R a=true∧T a=true)→(∀ x∈L,R x.1=true→R x.2=true→T x.1=T x.2)→∀ u,u<N→R u=true→T u=true
theorem wp_cn {N nb:Nat} {g:Nat→T_Bar} (hg:isGraphF ((N:Int),(nb,g),())=true) (S:T_IntS) (h:1≤(wpD S N).1):cnB (wpG N nb g S)=true↔CnR N (bL g nb) (kpB S):=by
  obtain ⟨h1,h2,h3⟩:=graph_in hg
  have hgw:=wp_graph hg S h
  have hm:=wl_mem h3 S nb (Nat.le_refl _)
  have e:=cn_iff (N:=(wpD S N).1) (nb:=(wpB g (wpD S N).2 nb).1) (g:=(wpB g (wpD S N).2 nb).2) hgw
  rw [show cnB (wpG N nb g S)=true↔_ from e]
  have hb:∀ x:Nat×Nat,x∈bL (wpB g (wpD S N).2 nb).2 (wpB g (wpD S N).2 nb).1↔∃ i,i<nb∧kpB S (g i).1.toNat=true∧kpB S (g i).2.1.toNat=true∧x=(kpN S (g i).1.toNat,kpN S (g i).2.1.toNat):=by
    intro x
    rw [show bL (wpB g (wpD S N).2 nb).2 (wpB g (wpD S N).2 nb).1=(lstB (wpB g (wpD S N).2 nb).1 (wpB g (wpD S N).2 nb).2).map brN by rw [bL_map,lstB,List.map_map];rfl,List.mem_map]
    constructor
    · rintro ⟨y,y1,rfl⟩
      obtain ⟨i,i1,i2,i3,rfl⟩:=(hm y).1 y1
      exact ⟨i,i1,i2,i3,by show (((kpN S (g i).1.toNat:Nat):Int).toNat,((kpN S (g i).2.1.toNat:Nat):Int).toNat)=_;rw [Int.toNat_natCast,Int.toNat_natCast]⟩
    · rintro ⟨i,i1,i2,i3,rfl⟩
      exact ⟨_,(hm _).2 ⟨i,i1,i2,i3,rfl⟩,by show (((kpN S (g i).1.toNat:Nat):Int).toNat,((kpN S (g i).2.1.toNat:Nat):Int).toNat)=_;rw [Int.toNat_natCast,Int.toNat_natCast]⟩
  constructor
  · intro hc T hex hT u hu hk
    have mk:∀ Q:Nat→Bool,(∀ x∈bL g nb,kpB S x.1=true→kpB S x.2=true→Q x.1=Q x.2)→(∃ a,a<N∧kpB S a=true∧kpN S a=0∧Q a=true)→∀ u,u<N→kpB S u=true→Q u=true:=by
      classical
      intro Q hQ ⟨a,a1,a2,a3,a4⟩ u hu hk
      have key:=hc (fun i=>decide (∃ b,b<N∧kpB S b=true∧kpN S b=i∧Q b=true)) (decide_eq_true ⟨a,a1,a2,a3,a4⟩) (fun x hx=>by
        obtain ⟨i,i1,i2,i3,rfl⟩:=(hb x).1 hx
        have hi:=h3 i i1
        have hq:=hQ (brN (g i)) ((bL_mem _ _ _).2 ⟨i,i1,rfl⟩) i2 i3
        have hq:Q (g i).1.toNat=Q (g i).2.1.toNat:=hq
        have one:∀ b,b<N→kpB S b=true→decide (∃ c,c<N∧kpB S c=true∧kpN S c=kpN S b∧Q c=true)=Q b:=by
          intro b b1 b2
          cases hQb:Q b with
          | true=>exact decide_eq_true ⟨b,b1,b2,rfl,hQb⟩
          | false =>
            refine decide_eq_false ?_
            rintro ⟨c,c1,c2,c3,c4⟩
            rw [kp_inj S c2 b2 c3,hQb] at c4
            cases c4
        show decide (∃ c,c<N∧kpB S c=true∧kpN S c=kpN S (g i).1.toNat∧Q c=true)=decide (∃ c,c<N∧kpB S c=true∧kpN S c=kpN S (g i).2.1.toNat∧Q c=true)
        rw [one _ (by omega) i2,one _ (by omega) i3,hq]) (kpN S u) (kp_lt S hu hk)
      obtain ⟨b,b1,b2,b3,b4⟩:=of_decide_eq_true key
      rw [← kp_inj S b2 hk b3]
      exact b4
    obtain ⟨o,o1,o2,o3⟩:=kp_onto S N 0 h
    cases hTo:T o with
    | true=>exact mk T hT ⟨o,o1,o2,o3,hTo⟩ u hu hk
    | false =>
      obtain ⟨a,a1,a2,a3⟩:=hex
      have:=mk (fun b=>!T b) (fun x hx x1 x2=>by show (!T x.1)=(!T x.2);rw [hT x hx x1 x2]) ⟨o,o1,o2,o3,by show (!T o)=true;rw [hTo];rfl⟩ a a1 a2
      have this:(!T a)=true:=this
      rw [a3] at this;cases this
  · intro hc T t0 hT i hi
    obtain ⟨o,o1,o2,o3⟩:=kp_onto S N 0 h
    obtain ⟨u,u1,u2,u3⟩:=kp_onto S N i hi
    have:=hc (fun a=>T (kpN S a)) ⟨o,o1,o2,by show T (kpN S o)=true;rw [o3];exact t0⟩ (fun x hx x1 x2=>by
      obtain ⟨e,e1,rfl⟩:=(bL_mem _ _ _).1 hx
      exact hT (kpN S (g e).1.toNat,kpN S (g e).2.1.toNat) ((hb _).2 ⟨e,e1,x1,x2,rfl⟩)) u u1 u2
    have this:T (kpN S u)=true:=this
    rw [u3] at this
    exact this
def byO (n:Nat) (f:Nat→Int):Ob:=⟨false,1,n,fun i=>[.p (.int .u8 (f i))]⟩
def swF (i j:Nat) (f:Nat→Int) (r:Nat):Int:=if r=j then f i else if r=i then f j else f r
def apF (n:Nat) (f:Nat→Int) (x:Int) (r:Nat):Int:=if r<n then f r else x
def SFs (m:Int) (o:ByteArray) (ng:Bool):St :=
  ⟨[.p (.int .i64 m),.p .any,.p .any,.p (.str o),.p (.bool ng)]++List.replicate 26 anyA,[],0⟩
def SFi (n m:Int) (l:Nat) (f:Nat→Int):St :=
  ⟨[.p (.int .i64 n),.p .any,.p .any,.ar 1 0 0 l,.p (.int .i64 m)]++List.replicate 54 anyA,[(0,byO l f)],1⟩
def SFr (l i:Nat) (j:Int) (f:Nat→Int):St :=
  ⟨[.p .any,.p .any,.p .any,.ar 1 0 0 l,.p .any,.p .any,.p (.int .i64 i),.p (.int .i64 j)]++List.replicate 51 anyA,[(0,byO l f)],1⟩
theorem fS0 (n:Int) (s:ByteArray) :
    zS Tryz.f115 [rg 1,rg 2,.dec true,rg 1] [.p (.int .i64 n)] [] [] (.p (.str s)) =
    some [((n==0)=true),(ByteArray.mk #[48]=s)]:=by kernel_rfl
theorem fSz (n:Int) (o:ByteArray) :
    zT Tryz.f115 [rg 1,rg 2,.dec false,rg 1,rg 3,.head] [.p (.int .i64 n)] [] (SFs n o (decide (n<0))) =
    some (zf35,[((n==0)=false),(AI n),(ByteArray.mk #[]=o),((decide (n<0))=(decide (n<0)))]):=by kernel_rfl
theorem fSn (m m2:Int) (o o2:ByteArray) (ng:Bool) :
    zM 0 [rg 2,.dec true,rm [(1,oF)] 1,rg 2,.dec true,rg 3,rg 8,rm [(1,oF)] 1,.head] zf35 (SFs m o ng) [] 1 (SFs m2 o2 ng) =
    some (zf35,[((m != 0)=true),((10:Int)≠0),((decide (m.tmod 10<0))=true),(ZLo (0 - m.tmod 10)),(ZHi (0 - m.tmod 10)),(ZLo (48+(0 - m.tmod 10))),(ZHi (48+(0 - m.tmod 10))),(IL 0 (48+(0 - m.tmod 10))),(IL (48+(0 - m.tmod 10)) 255),(NL 1 1),(okBytes 1 (fun i=>[.p (.int .u8 (48+(0 - m.tmod 10)))])),(NL ((bytesOf 1 fun i=>[AV.p (PV.int IntKind.u8 (48+(0 - m.tmod 10)))]).size+o.size) 9223372036854775807),((10:Int)≠0),(((IntKind.i64.wrap (m.tdiv 10)):Int)=m2),((bytesOf 1 fun i=>[AV.p (PV.int IntKind.u8 (48+(0 - m.tmod 10)))])++o=o2),(ng=ng)]):=by kernel_rfl
theorem fSp (m m2:Int) (o o2:ByteArray) (ng:Bool) :
    zM 0 [rg 2,.dec true,rm [(1,oF)] 1,rg 2,.dec false,rg 8,rm [(1,oF)] 1,.head] zf35 (SFs m o ng) [] 1 (SFs m2 o2 ng) =
    some (zf35,[((m != 0)=true),((10:Int)≠0),((decide (m.tmod 10<0))=false),(ZLo (48+m.tmod 10)),(ZHi (48+m.tmod 10)),(IL 0 (48+m.tmod 10)),(IL (48+m.tmod 10) 255),(NL 1 1),(okBytes 1 (fun i=>[.p (.int .u8 (48+m.tmod 10))])),(NL ((bytesOf 1 fun i=>[AV.p (PV.int IntKind.u8 (48+m.tmod 10))]).size+o.size) 9223372036854775807),((10:Int)≠0),(((IntKind.i64.wrap (m.tdiv 10)):Int)=m2),((bytesOf 1 fun i=>[AV.p (PV.int IntKind.u8 (48+m.tmod 10))])++o=o2),(ng=ng)]):=by kernel_rfl
theorem fSt (m:Int) (o s:ByteArray) (ng:Bool) :
    zP Tryz.f115 0 [rg 2,.dec false,rg 1,.dec true,rg 3] zf35 (SFs m o ng) [] 1 [] (.p (.str s)) =
    some [((m != 0)=false),(ng=true),(NL ((ByteArray.mk #[45]).size+o.size) 9223372036854775807),(ByteArray.mk #[45]++o=s)]:=by kernel_rfl
theorem fSf (m:Int) (o s:ByteArray) (ng:Bool) :
    zP Tryz.f115 0 [rg 2,.dec false,rg 1,.dec false,rg 2] zf35 (SFs m o ng) [] 1 [] (.p (.str s)) =
    some [((m != 0)=false),(ng=false),(o=s)]:=by kernel_rfl
theorem fI0 (n:Int) (s:ByteArray) :
    zS Tryz.f111 [rg 1,rg 2,.dec true,rg 1] [.p (.int .i64 n)] [] [] (.p (.str s)) =
    some [((n==0)=true),(ByteArray.mk #[48]=s)]:=by kernel_rfl
theorem fIz (n:Int) :
    zT Tryz.f111 [rg 1,rg 2,.dec false,rg 2,rg 2,.head] [.p (.int .i64 n)] [96] (SFi n n 0 (fun _=>0)) =
    some (zf51,[((n==0)=false),(AI n),(AN 0),(AN 0),(AI n),(AN 1),(NL 0 0),(AA 0 (fun i=>[.p (.int .u8 0)]))]):=by kernel_rfl
theorem fIn (n m m2:Int) (l:Nat) (f:Nat→Int) (x:Int) :
    zM 0 [rg 2,.dec true,rm [(1,oF)] 1,rg 2,.dec true,rg 3,rg 7,rm [(1,oF)] 1,.head] zf51 (SFi n m l f) [481] 1 (SFi n m2 (l+1) (apF l f x)) =
    some (zf51,[((m != 0)=true),((10:Int)≠0),((decide (m.tmod 10<0))=true),(ZLo (0 - m.tmod 10)),(ZHi (0 - m.tmod 10)),(ZLo (48+(0 - m.tmod 10))),(ZHi (48+(0 - m.tmod 10))),(IL 0 (48+(0 - m.tmod 10))),(IL (48+(0 - m.tmod 10)) 255),(NL 1 1),(NL l l),(NL ((l+1)*1) 140737488355328),(NL (l+1) 9223372036854775807),((10:Int)≠0),(AI n),(AN 0),(AN ((l+1))),(((IntKind.i64.wrap (m.tdiv 10)):Int)=m2),(AN 1),(NL (l+1) (l+1)),(CV [(481,⟨false,1,(l+1),(fun i_1=>(if (i_1<l) then [.p (.int .u8 (f i_1))] else [.p (.int .u8 (48+(0 - m.tmod 10)))]))⟩),(449,⟨false,1,1,(fun i_1=>[.p (.int .u8 (48+(0 - m.tmod 10)))])⟩)] [481] 1 (l+1) (fun i=>if (i<l) then [.p (.int .u8 (f i))] else [.p (.int .u8 (48+(0 - m.tmod 10)))]) (fun i=>[.p (.int .u8 (apF l f x i))]))]):=by kernel_rfl
theorem fIp (n m m2:Int) (l:Nat) (f:Nat→Int) (x:Int) :
    zM 0 [rg 2,.dec true,rm [(1,oF)] 1,rg 2,.dec false,rg 7,rm [(1,oF)] 1,.head] zf51 (SFi n m l f) [385] 1 (SFi n m2 (l+1) (apF l f x)) =
    some (zf51,[((m != 0)=true),((10:Int)≠0),((decide (m.tmod 10<0))=false),(ZLo (48+m.tmod 10)),(ZHi (48+m.tmod 10)),(IL 0 (48+m.tmod 10)),(IL (48+m.tmod 10) 255),(NL 1 1),(NL l l),(NL ((l+1)*1) 140737488355328),(NL (l+1) 9223372036854775807),((10:Int)≠0),(AI n),(AN 0),(AN ((l+1))),(((IntKind.i64.wrap (m.tdiv 10)):Int)=m2),(AN 1),(NL (l+1) (l+1)),(CV [(385,⟨false,1,(l+1),(fun i_1=>(if (i_1<l) then [.p (.int .u8 (f i_1))] else [.p (.int .u8 (48+m.tmod 10))]))⟩),(353,⟨false,1,1,(fun i_1=>[.p (.int .u8 (48+m.tmod 10))])⟩)] [385] 1 (l+1) (fun i=>if (i<l) then [.p (.int .u8 (f i))] else [.p (.int .u8 (48+m.tmod 10))]) (fun i=>[.p (.int .u8 (apF l f x i))]))]):=by kernel_rfl
theorem fIt (n m:Int) (l:Nat) (f:Nat→Int) :
    zM 0 [rg 2,.dec false,rg 2,.dec true,rg 4,rg 5,.head] zf51 (SFi n m l f) [193] 1 (SFr (l+1) 0 (((l+1:Nat):Int) - 1) (apF l f 45)) =
    some (zf28,[((m != 0)=false),((decide (n<0))=true),(NL 1 1),(NL l l),(NL ((l+1)*1) 140737488355328),(NL (l+1) 9223372036854775807),(ZLo ((↑(l+1):Int) - 1)),(ZHi ((↑(l+1):Int) - 1)),(AN 0),(AN ((l+1))),((0:Int)=(↑0:Int)),(AI (((↑(l+1):Int) - 1))),(AN 1),(NL (l+1) (l+1)),(CV [(193,⟨false,1,(l+1),(fun i_1=>(if (i_1<l) then [.p (.int .u8 (f i_1))] else [.p (.int .u8 45)]))⟩),(161,⟨false,1,1,(fun i_1=>[.p (.int .u8 45)])⟩)] [193] 1 (l+1) (fun i=>if (i<l) then [.p (.int .u8 (f i))] else [.p (.int .u8 45)]) (fun i=>[.p (.int .u8 (apF l f 45 i))]))]):=by kernel_rfl
theorem fIf (n m:Int) (l:Nat) (f:Nat→Int) :
    zM 0 [rg 2,.dec false,rg 2,.dec false,rg 5,.head] zf51 (SFi n m l f) [0] 1 (SFr l 0 ((l:Int) - 1) f) =
    some (zf28,[((m != 0)=false),((decide (n<0))=false),(ZLo ((↑l:Int) - 1)),(ZHi ((↑l:Int) - 1)),(AN 0),(AN l),((0:Int)=(↑0:Int)),(AI (((↑l:Int) - 1))),(AN 1),(NL l l),(AA l (fun i=>[.p (.int .u8 (f i))]))]):=by kernel_rfl
theorem fIs (l i:Nat) (j:Int) (f:Nat→Int) :
    zM 0 [rg 3,.dec true,rg 16,rg 6,.head] zf28 (SFr l i j f) [0] 1 (SFr l (i+1) (j - 1) (swF i j.toNat f)) =
    some (zf28,zD [((decide ((↑i:Int)<j))=true),(IL 0 j),(IT j (↑l:Int)),(NT j.toNat l),(IL 0 (↑i:Int)),(IT (↑i:Int) (↑l:Int)),(NT i l),((false=true)→ ((l:Nat)=1)),(ZLo ((↑i:Int)+1)),(ZHi ((↑i:Int)+1)),(ZLo (j - 1)),(ZHi (j - 1)),(AN 0),(AN l),((((↑i:Int)+1):Int)=(↑(i+1):Int)),(AI ((j - 1))),(AN 1),(NL l l),(CV [(0,⟨false,1,l,(fun i_2=>(if (i_2=j.toNat) then [.p (.int .u8 (f i))] else (if (i_2=i) then [.p (.int .u8 (f j.toNat))] else [.p (.int .u8 (f i_2))])))⟩)] [0] 1 l (fun i_1=>if (i_1=j.toNat) then [.p (.int .u8 (f i))] else (if (i_1=i) then [.p (.int .u8 (f j.toNat))] else [.p (.int .u8 (f i_1))])) (fun i_1=>[.p (.int .u8 (swF i j.toNat f i_1))]))] [0,1,2,3,4,5,6,4,5,6,7,1,2,3,7,8,9,10,11,12,13,14,15,16,17,18]):=by kernel_rfl
theorem fIe (l i:Nat) (j:Int) (f:Nat→Int) (s:ByteArray) :
    zP Tryz.f111 0 [rg 3,.dec false,rg 3] zf28 (SFr l i j f) [] 1 [] (.p (.str s)) =
    some [((decide ((↑i:Int)<j))=false),(NL l l),(okBytes l (fun i_1=>[.p (.int .u8 (f i_1))])),((bytesOf l fun i=>[AV.p (PV.int IntKind.u8 (f i))])=s)]:=by kernel_rfl
def dg:Nat→Nat→List Int
  | 0,_=>[]
  | f+1,m=>if m=0 then [] else (48+((m % 10:Nat):Int))::dg f (m / 10)
def bs (l:List Int):ByteArray:=l.foldl (fun r n=>r.push (UInt8.ofNat n.toNat)) ByteArray.empty
def fmtL (n:Int):List Int:=dg 20 n.natAbs++(if n<0 then [45] else [])
def fmtI (n:Int):ByteArray:=if n=0 then bs [48] else bs (fmtL n).reverse
theorem bs_fold (l:List Int):∀ s:ByteArray,(l.foldl (fun r n=>r.push (UInt8.ofNat n.toNat)) s).data=s.data++(l.map fun n=>UInt8.ofNat n.toNat).toArray:=by
  induction l with
  | nil=>intro s;simp
  | cons x l ih =>
    intro s
    simp only [List.foldl_cons,ih,List.map_cons]
    show s.data.push (UInt8.ofNat x.toNat)++_=_
    simp
theorem bs_data (l:List Int):(bs l).data=(l.map fun n=>UInt8.ofNat n.toNat).toArray:=by
  rw [bs,bs_fold]
  show #[]++_=_
  simp
theorem bs_append (a b:List Int):bs (a++b)=bs a++bs b:=by
  apply ByteArray.ext
  rw [bs_data,ByteArray.data_append,bs_data,bs_data]
  simp
theorem bs_size (l:List Int):(bs l).size=l.length:=by
  show (bs l).data.size=_
  rw [bs_data];simp
theorem bytesOf_bs (m:Nat) (f:Nat→Int):bytesOf m (fun i=>[.p (.int .u8 (f i))])=bs ((List.range m).map f):=rfl
theorem tm10 (c:Int):c.tmod 10=if 0≤c then ((c.natAbs % 10:Nat):Int) else -((c.natAbs % 10:Nat):Int):=by
  obtain ⟨k,rfl | rfl⟩:=c.eq_nat_or_neg
  · rw [if_pos (by omega),Int.natAbs_natCast];rfl
  · by_cases h:k=0
    · subst h;rfl
    · rw [if_neg (by omega),Int.neg_tmod,Int.natAbs_neg,Int.natAbs_natCast];rfl
theorem td10 (c:Int):c.tdiv 10=if 0≤c then ((c.natAbs / 10:Nat):Int) else -((c.natAbs / 10:Nat):Int):=by
  obtain ⟨k,rfl | rfl⟩:=c.eq_nat_or_neg
  · rw [if_pos (by omega),Int.natAbs_natCast];rfl
  · by_cases h:k=0
    · subst h;rfl
    · rw [if_neg (by omega),Int.neg_tdiv,Int.natAbs_neg,Int.natAbs_natCast];rfl
theorem td_abs (c:Int):(c.tdiv 10).natAbs=c.natAbs / 10:=by
  rw [td10];split<;>omega
theorem dg_len:∀ f m,(dg f m).length≤f
  | 0,_=>Nat.le_refl _
  | f+1,m=>by
    simp only [dg]
    split
    · simp
    · have:=dg_len f (m / 10);simp;omega
theorem fmt_size (n:Int):(fmtI n).size≤21:=by
  unfold fmtI
  split
  · simp [bs_size]
  · rw [bs_size,fmtL,List.length_reverse,List.length_append]
    have:=dg_len 20 n.natAbs
    split<;>simp<;>omega
theorem con_FormatInt_s (n:Int) (h0:-9223372036854775808≤n) (h1:n≤9223372036854775807):zE 115 [.p (.int .i64 n)] [] (.p (.str (fmtI n))):=by
  refine csZ Tryz.func115 (fun c hc=>?_)
  by_cases hz:n=0
  · subst hz
    refine pkZ Tryz.func115 hc (fS0 0 (fmtI 0)) ?_
    and_intros
    all_goals (first | exact zN | rfl | (exact ByteArray.ext (by rw [fmtI,if_pos rfl,bs_data];rfl)))
  have hz':(n==0)=false:=by simpa using hz
  have lp:∀ f m l,l.length+f=20→m.natAbs<10 ^ f→dg 20 n.natAbs=l++dg f m.natAbs→(n<0→m≤0)→(0≤n→0≤m)→-9223372036854775808≤m→m≤9223372036854775807 →
      zR c 115 zf35 (SFs m (bs l.reverse) (decide (n<0))) (Post c [] (.p (.str (fmtI n)))):=by
    have fin:∀ l,dg 20 n.natAbs=l→l.length≤20→zR c 115 zf35 (SFs 0 (bs l.reverse) (decide (n<0))) (Post c [] (.p (.str (fmtI n)))):=by
      intro l hl hl2
      have hsz:=bs_size l.reverse
      rw [List.length_reverse] at hsz
      by_cases hn:n<0
      · rw [decide_eq_true hn]
        refine pkZ Tryz.func115 hc (fSt 0 (bs l.reverse) (fmtI n) true) ?_
        and_intros
        all_goals (first | exact zN | (show _+(bs l.reverse).size≤_;rw [hsz];show 1+l.length≤_;omega) | (rw [fmtI,if_neg hz,fmtL,if_pos hn,hl,List.reverse_append,bs_append];exact congrArg (·++bs l.reverse) (ByteArray.ext (by rw [bs_data];rfl))))
      · rw [decide_eq_false hn]
        refine pkZ Tryz.func115 hc (fSf 0 (bs l.reverse) (fmtI n) false) ?_
        and_intros
        all_goals (first | exact zN | (rw [fmtI,if_neg hz,fmtL,if_neg hn,hl,List.append_nil]))
    intro f
    induction f with
    | zero =>
      intro m l hl hm hd hs1 hs2 hb1 hb2
      obtain rfl:m=0:=by simp at hm;omega
      exact fin l (by rw [hd];simp [dg]) (by omega)
    | succ f ih =>
      intro m l hl hm hd hs1 hs2 hb1 hb2
      by_cases hm0:m=0
      · subst hm0
        exact fin l (by rw [hd];simp [dg]) (by omega)
      have hmt:(m != 0)=true:=by simpa using hm0
      have hma:m.natAbs≠0:=by omega
      have htd:=td10 m
      have hrec:=ih (m.tdiv 10) (l++[48+((m.natAbs % 10:Nat):Int)]) (by simp;omega) (by rw [td_abs];rw [Nat.pow_succ] at hm;omega) (by rw [hd,td_abs,dg,if_neg hma];simp) (by intro h;rw [htd];split<;>omega) (by intro h;rw [htd];split<;>omega) (by rw [htd];split<;>omega) (by rw [htd];split<;>omega)
      have hw:IntKind.i64.wrap (m.tdiv 10)=m.tdiv 10:=wrap_in (k:=.i64) (by show (-9223372036854775808:Int)≤_;rw [htd];split<;>omega) (by show _≤(9223372036854775807:Int);rw [htd];split<;>omega)
      have htm:=tm10 m
      have hsz:=bs_size l.reverse
      rw [List.length_reverse] at hsz
      have hb:∀ d:Int,bytesOf 1 (fun _=>[.p (.int .u8 (48+d))])=bs [48+d]:=fun d=>rfl
      have hout:∀ d:Int,d=((m.natAbs % 10:Nat):Int)→bs [48+d]++bs l.reverse=bs (l++[48+((m.natAbs % 10:Nat):Int)]).reverse:=by
        intro d hd'
        rw [List.reverse_append,bs_append,hd'];rfl
      by_cases hneg:m.tmod 10<0
      · have hng:decide (m.tmod 10<0)=true:=decide_eq_true hneg
        have hd':0 - m.tmod 10=((m.natAbs % 10:Nat):Int):=by rw [htm] at hneg ⊢;split at hneg<;>simp_all<;>omega
        refine pcZ hc (fSn m (m.tdiv 10) (bs l.reverse) (bs (l++[48+((m.natAbs % 10:Nat):Int)]).reverse) (decide (n<0))) ?_ hrec
        repeat' (first | exact aN | apply aI)
        all_goals (first | exact zN | (exact hmt) | (exact hng) | (exact hw) | (intro i hi;exact ⟨_,rfl⟩) | (show (bs [48+(0 - m.tmod 10)]).size+(bs l.reverse).size≤_;rw [hsz,bs_size];show 1+l.length≤_;omega) | (exact hout _ hd') | (show (_:Int)≤_;rw [hd'];omega) | (simp only [imin,imax];omega))
      · have hng:decide (m.tmod 10<0)=false:=decide_eq_false hneg
        have hd':m.tmod 10=((m.natAbs % 10:Nat):Int):=by rw [htm] at hneg ⊢;split at hneg<;>simp_all<;>omega
        refine pcZ hc (fSp m (m.tdiv 10) (bs l.reverse) (bs (l++[48+((m.natAbs % 10:Nat):Int)]).reverse) (decide (n<0))) ?_ hrec
        repeat' (first | exact aN | apply aI)
        all_goals (first | exact zN | (exact hmt) | (exact hng) | (exact hw) | (intro i hi;exact ⟨_,rfl⟩) | (show (bs [48+m.tmod 10]).size+(bs l.reverse).size≤_;rw [hsz,bs_size];show 1+l.length≤_;omega) | (exact hout _ hd') | (show (_:Int)≤_;rw [hd'];omega) | (simp only [imin,imax];omega))
  refine pcZ hc (fSz n (bs [])) ?_ (lp 20 n [] rfl (by omega) rfl (fun h=>by omega) (fun h=>h) h0 h1)
  and_intros
  all_goals (first | exact zN | (exact hz') | rfl)
def lsI (n:Nat) (f:Nat→Int):List Int:=(List.range n).map f
theorem lsI_ap (n:Nat) (f:Nat→Int) (x:Int):lsI (n+1) (apF n f x)=lsI n f++[x]:=by
  simp only [lsI,List.range_succ,List.map_append,List.map_cons,List.map_nil]
  congr 1
  · exact List.map_congr_left (fun i hi=>by simp [apF,List.mem_range.1 hi])
  · simp [apF]
theorem lsI_rev (n:Nat) (f g:Nat→Int) (h:∀ r,r<n→g r=f (n - 1 - r)):lsI n g=(lsI n f).reverse:=by
  apply List.ext_getElem
  · simp [lsI]
  · intro i h1 h2
    simp only [lsI,List.length_map,List.length_range] at h1
    simp [lsI,h i h1]
theorem con_FormatInt_i (n:Int) (h0:-9223372036854775808≤n) (h1:n≤9223372036854775807):zE 111 [.p (.int .i64 n)] [] (.p (.str (fmtI n))):=by
  refine csZ Tryz.func111 (fun c hc=>?_)
  by_cases hz:n=0
  · subst hz
    refine pkZ Tryz.func111 hc (fI0 0 (fmtI 0)) ?_
    and_intros
    all_goals (first | exact zN | rfl | (exact ByteArray.ext (by rw [fmtI,if_pos rfl,bs_data];rfl)))
  have hz':(n==0)=false:=by simpa using hz
  have lr:∀ L f0,L≤21→lsI L f0=fmtL n→∀ d i f,i+d=L→i≤L→2*i≤L+1→(∀ r,r<L→f r=if r<i∨L - i≤r then f0 (L - 1 - r) else f0 r) →
      zR c 111 zf28 (SFr L i ((L:Int) - 1 - i) f) (Post c [] (.p (.str (fmtI n)))):=by
    intro L f0 hL hl d
    have fin:∀ i f,i≤L→2*i≤L+1→L≤2*i+1→(∀ r,r<L→f r=if r<i∨L - i≤r then f0 (L - 1 - r) else f0 r) →
        zR c 111 zf28 (SFr L i ((L:Int) - 1 - i) f) (Post c [] (.p (.str (fmtI n)))):=by
      intro i f hi hi2 hi3 hf
      have hd:decide ((i:Int)<(L:Int) - 1 - i)=false:=decide_eq_false (by omega)
      have hrev:∀ r,r<L→f r=f0 (L - 1 - r):=by
        intro r hr
        rw [hf r hr]
        split
        · rfl
        · rename_i h
          rw [show L - 1 - r=r by omega]
      have he:=lsI_rev L f0 f hrev
      refine pkZ Tryz.func111 hc (fIe L i ((L:Int) - 1 - i) f (fmtI n)) ?_
      repeat' (first | exact aN | apply aI)
      all_goals (first | exact zN | (exact hd) | (intro r hr;exact ⟨_,rfl⟩) | (rw [bytesOf_bs];show bs (lsI L f)=_;rw [he,hl,fmtI,if_neg hz]))
    induction d with
    | zero =>
      intro i f hi hi1 hi2 hf
      exact fin i f hi1 hi2 (by omega) hf
    | succ d ih =>
      intro i f hi hi1 hi2 hf
      by_cases hlt:(i:Int)<(L:Int) - 1 - i
      · have hd:decide ((i:Int)<(L:Int) - 1 - i)=true:=decide_eq_true hlt
        have hj:((L:Int) - 1 - i).toNat=L - 1 - i:=by omega
        have hrec:=ih (i+1) (swF i ((L:Int) - 1 - i).toNat f) (by omega) (by omega) (by omega) (by
          intro r hr
          rw [hj]
          unfold swF
          by_cases e1:r=L - 1 - i
          · rw [if_pos e1,if_pos (by omega),hf i (by omega),if_neg (by omega),e1]
            rw [show L - 1 - (L - 1 - i)=i by omega]
          · rw [if_neg e1]
            by_cases e2:r=i
            · rw [if_pos e2,if_pos (by omega),hf (L - 1 - i) (by omega),if_neg (by omega),e2]
            · rw [if_neg e2,hf r hr]
              by_cases e3:r<i∨L - i≤r
              · rw [if_pos e3,if_pos (by omega)]
              · rw [if_neg e3,if_neg (by omega)])
        rw [show (L:Int) - 1 - ((i+1:Nat):Int)=(L:Int) - 1 - i - 1 by omega] at hrec
        refine pcD hc (fIs L i ((L:Int) - 1 - i) f) ?_ hrec
        and_intros
        all_goals (first | exact zI | (exact hd) | (intro r hr;generalize ((L:Int) - 1 - i).toNat=J;by_cases e1:r=J<;>by_cases e2:r=i<;>(first | (subst e2;simp [e1,swF,cvtL,cvt,tg,tru,All];done) | (simp [e1,e2,swF,cvtL,cvt,tg,tru,All];done))) | (simp only [imin,imax];omega))
      · exact fin i f hi1 hi2 (by omega) hf
  have lp:∀ f m l g,l+f=20→m.natAbs<10 ^ f→dg 20 n.natAbs=lsI l g++dg f m.natAbs→(n<0→m≤0)→(0≤n→0≤m)→-9223372036854775808≤m→m≤9223372036854775807 →
      zR c 111 zf51 (SFi n m l g) (Post c [] (.p (.str (fmtI n)))):=by
    have fin:∀ l g,dg 20 n.natAbs=lsI l g→l≤20→zR c 111 zf51 (SFi n 0 l g) (Post c [] (.p (.str (fmtI n)))):=by
      intro l g hl hl2
      by_cases hn:n<0
      · have hd:decide (n<0)=true:=decide_eq_true hn
        have hr:=lr (l+1) (apF l g 45) (by omega) (by rw [lsI_ap,fmtL,if_pos hn,hl]) (l+1) 0 (apF l g 45) (by omega) (by omega) (by omega) (fun r hr=>by rw [if_neg (by omega)])
        rw [show ((l+1:Nat):Int) - 1 - ((0:Nat):Int)=((l+1:Nat):Int) - 1 by omega] at hr
        refine pcZ hc (fIt n 0 l g) ?_ hr
        and_intros
        all_goals (first | exact zN | (exact hd) | (intro j hj;by_cases h':j<l<;>simp [h',apF,cvtL,cvt,tg,tru,All];done) | (simp only [imin,imax];omega))
      · have hd:decide (n<0)=false:=decide_eq_false hn
        have hr:=lr l g (by omega) (by rw [fmtL,if_neg hn,hl,List.append_nil]) l 0 g (by omega) (by omega) (by omega) (fun r hr=>by rw [if_neg (by omega)])
        rw [show (l:Int) - 1 - ((0:Nat):Int)=(l:Int) - 1 by omega] at hr
        refine pcZ hc (fIf n 0 l g) ?_ hr
        and_intros
        all_goals (first | exact zN | (exact hd) | (intro j hj;simp [All];done) | (simp only [imin,imax];omega))
    intro f
    induction f with
    | zero =>
      intro m l g hl hm hd hs1 hs2 hb1 hb2
      obtain rfl:m=0:=by simp at hm;omega
      exact fin l g (by rw [hd];simp [dg]) (by omega)
    | succ f ih =>
      intro m l g hl hm hd hs1 hs2 hb1 hb2
      by_cases hm0:m=0
      · subst hm0
        exact fin l g (by rw [hd];simp [dg]) (by omega)
      have hmt:(m != 0)=true:=by simpa using hm0
      have hma:m.natAbs≠0:=by omega
      have htd:=td10 m
      have hrec:=ih (m.tdiv 10) (l+1) (apF l g (48+((m.natAbs % 10:Nat):Int))) (by omega) (by rw [td_abs];rw [Nat.pow_succ] at hm;omega) (by rw [hd,td_abs,dg,if_neg hma,lsI_ap];simp) (by intro h;rw [htd];split<;>omega) (by intro h;rw [htd];split<;>omega) (by rw [htd];split<;>omega) (by rw [htd];split<;>omega)
      have hw:IntKind.i64.wrap (m.tdiv 10)=m.tdiv 10:=wrap_in (k:=.i64) (by show (-9223372036854775808:Int)≤_;rw [htd];split<;>omega) (by show _≤(9223372036854775807:Int);rw [htd];split<;>omega)
      have htm:=tm10 m
      by_cases hneg:m.tmod 10<0
      · have hng:decide (m.tmod 10<0)=true:=decide_eq_true hneg
        have hd':0 - m.tmod 10=((m.natAbs % 10:Nat):Int):=by rw [htm] at hneg ⊢;split at hneg<;>simp_all<;>omega
        refine pcZ hc (fIn n m (m.tdiv 10) l g (48+((m.natAbs % 10:Nat):Int))) ?_ hrec
        and_intros
        all_goals (first | exact zN | (exact hmt) | (exact hng) | (exact hw) | (intro j hj;by_cases h':j<l<;>simp [h',hd',apF,cvtL,cvt,tg,tru,All];done) | (show (_:Int)≤_;rw [hd'];omega) | (simp only [imin,imax];omega))
      · have hng:decide (m.tmod 10<0)=false:=decide_eq_false hneg
        have hd':m.tmod 10=((m.natAbs % 10:Nat):Int):=by rw [htm] at hneg ⊢;split at hneg<;>simp_all<;>omega
        refine pcZ hc (fIp n m (m.tdiv 10) l g (48+((m.natAbs % 10:Nat):Int))) ?_ hrec
        and_intros
        all_goals (first | exact zN | (exact hmt) | (exact hng) | (exact hw) | (intro j hj;by_cases h':j<l<;>simp [h',hd',apF,cvtL,cvt,tg,tru,All];done) | (show (_:Int)≤_;rw [hd'];omega) | (simp only [imin,imax];omega))
  refine pcZ hc (fIz n) ?_ (lp 20 n 0 (fun _=>0) rfl (by omega) (by simp [lsI]) (fun h=>by omega) (fun h=>h) h0 h1)
  and_intros
  all_goals (first | exact zN | (exact hz') | (intro j hj;exact absurd hj (Nat.not_lt_zero _)) | rfl)
def sE:ByteArray:=⟨#[]⟩
def sSp:ByteArray:=⟨#[32]⟩
theorem str_nil (s:ByteArray):(s.toList==(ByteArray.mk #[]).toList)=decide (s.size=0):=by
  rw [ByteArray.toList_eq,ByteArray.toList_eq]
  rw [Bool.eq_iff_iff]
  simp only [beq_iff_eq,decide_eq_true_eq]
  constructor
  · intro h
    show s.data.size=0
    rw [← Array.length_toList,h];rfl
  · intro h
    have:s.data.toList.length=0:=by rw [Array.length_toList];exact h
    rw [List.length_eq_zero_iff.1 this]
structure Rlb (N n:Nat) (g h:Nat→T_Bar) (s t:Nat→Nat):Prop where
  hg:isGraphF ((N:Int),(n,g),())=true
  hh:isGraphF ((N:Int),(n,h),())=true
  ns:Rnm.Nam N s
  nt:Rnm.Nam N t
  ts:∀ a,a<N→t (s a)=a
  st:∀ a,a<N→s (t a)=a
  pm:(bL h n).Perm ((bL g n).map (Rnm.mvX s))
theorem bL_ord {N nb:Nat} {g:Nat→T_Bar} (h:OkBars N nb g):∀ x∈bL g nb,x.1<x.2∧x.2<N:=by
  intro x hx
  obtain ⟨i,hi,rfl⟩:=(bL_mem _ _ _).1 hx
  have:=h i hi
  show (g i).1.toNat<(g i).2.1.toNat∧(g i).2.1.toNat<N
  omega
theorem mv_back {N:Nat} {s t:Nat→Nat} (ts:∀ a,a<N→t (s a)=a) {x:Nat×Nat} (hx:x.1<x.2∧x.2<N):Rnm.mvX t (Rnm.mvX s x)=x:=by
  obtain ⟨a,b⟩:=x
  have h1:a<b∧b<N:=hx
  have ta:=ts a (by omega)
  have tb:=ts b (by omega)
  unfold Rnm.mvX
  simp only
  have hne:s a≠s b:=fun h=>by rw [h,tb] at ta;omega
  by_cases h2:s b<s a
  · rw [if_pos h2,if_neg (show ¬ s b>s a by omega),ta,tb,if_pos h1.1,if_neg (show ¬ a>b by omega)]
  · rw [if_neg h2,if_pos (show s b>s a by omega),ta,tb,if_neg (show ¬ b<a by omega),if_pos h1.1]
theorem Rlb.sym {N n:Nat} {g h:Nat→T_Bar} {s t:Nat→Nat} (r:Rlb N n g h s t):Rlb N n h g t s:=by
  refine ⟨r.hh,r.hg,r.nt,r.ns,r.st,r.ts,?_⟩
  have e:=r.pm.map (Rnm.mvX t)
  rw [List.map_map] at e
  have:(bL g n).map (Rnm.mvX t ∘ Rnm.mvX s)=bL g n:=by
    conv=>rhs;rw [← List.map_id (bL g n)]
    exact List.map_congr_left (fun x hx=>mv_back r.ts (bL_ord (graph_in r.hg).2.2 x hx))
  rw [this] at e
  exact e.symm
theorem bL_lst (g:Nat→T_Bar) (n:Nat):bL g n=(List.range n).map (fun i=>brN (g i)):=bL_map g n
theorem bL_len (g:Nat→T_Bar) (n:Nat):(bL g n).length=n:=by rw [bL_lst];simp
theorem bL_get (g:Nat→T_Bar) {n i:Nat} (hi:i<n):(bL g n)[i]'(by rw [bL_len];exact hi)=brN (g i):=by
  simp [bL_lst]
theorem db_nodup {N n:Nat} {g:Nat→T_Bar} (hg:isGraphF ((N:Int),(n,g),())=true):dbF g n=false↔(bL g n).Nodup:=by
  have hok:=(graph_in hg).2.2
  constructor
  · intro h
    have h1:=dbF_ne n h
    have ha:=asc_of hg
    have hlt:=lt_steps (g:=g) (n:=n) (fun i hi=>aft_ne (ha i hi) (h1 i hi))
    refine List.pairwise_iff_getElem.2 (fun i j hi hj hij=>?_)
    rw [bL_len] at hi hj
    rw [bL_get g hi,bL_get g hj]
    have h2:=hlt (j - i - 1) i (by omega)
    rw [show i+(j - i - 1+1)=j by omega] at h2
    have h3:=hok i hi
    have h4:=hok j hj
    intro he
    have e1:(g i).1.toNat=(g j).1.toNat:=congrArg Prod.fst he
    have e2:(g i).2.1.toNat=(g j).2.1.toNat:=congrArg Prod.snd he
    unfold LtB at h2
    omega
  · intro h
    have key:∀ k,k≤n→dbF g k=false:=by
      intro k
      induction k with
      | zero=>intro _;rfl
      | succ k ih =>
        intro hk
        rw [dbF,ih (by omega),cond_false]
        by_cases h0:0<k
        · rw [decide_eq_true h0,cond_true]
          cases hs:sameB (g (k - 1)) (g k) with
          | false=>rfl
          | true =>
            exfalso
            have hp:=List.pairwise_iff_getElem.1 h (k - 1) k (by rw [bL_len];omega) (by rw [bL_len];omega) (by omega)
            rw [bL_get g (show k - 1<n by omega),bL_get g (show k<n by omega)] at hp
            refine hp ?_
            unfold sameB at hs
            cases h1:((g (k - 1)).1==(g k).1) with
            | false=>rw [h1] at hs;cases hs
            | true =>
              rw [h1] at hs
              have h1:(g (k - 1)).1=(g k).1:=beq_iff_eq.1 h1
              have h2:(g (k - 1)).2.1=(g k).2.1:=beq_iff_eq.1 hs
              unfold brN
              rw [h1,h2]
        · rw [decide_eq_false h0];rfl
    exact key n (Nat.le_refl _)
theorem mv_inj {N:Nat} {s t:Nat→Nat} (ts:∀ a,a<N→t (s a)=a) {x y:Nat×Nat} (hx:x.1<x.2∧x.2<N) (hy:y.1<y.2∧y.2<N) (h:Rnm.mvX s x=Rnm.mvX s y):x=y:=by
  rw [← mv_back ts hx,← mv_back ts hy,h]
theorem Rlb.nodup {N n:Nat} {g h:Nat→T_Bar} {s t:Nat→Nat} (r:Rlb N n g h s t) (hd:dbF g n=false):dbF h n=false:=by
  rw [db_nodup r.hh,r.pm.nodup_iff]
  rw [db_nodup r.hg] at hd
  have hgd:=bL_ord (graph_in r.hg).2.2
  refine List.pairwise_map.2 ?_
  refine (List.Pairwise.imp_of_mem ?_ hd)
  intro x y hx hy hne he
  exact hne (mv_inj r.ts (hgd x hx) (hgd y hy) he)
theorem Rlb.mem {N n:Nat} {g h:Nat→T_Bar} {s t:Nat→Nat} (r:Rlb N n g h s t) (x:Nat×Nat):x∈bL h n↔x∈(bL g n).map (Rnm.mvX s):=r.pm.mem_iff
theorem Rlb.rank {N n:Nat} {g h:Nat→T_Bar} {s t:Nat→Nat} (r:Rlb N n g h s t):rk2 N n h=rk2 N n g:=by
  have hL:=bL_good (graph_in r.hg).2.2
  unfold rk2
  rw [acc_len,acc_len]
  have:=Mat.rank_same (N:=N) ((bL g n).map (Rnm.mvX s)) (bL h n) (fun x hx=>by
    obtain ⟨y,hy,rfl⟩:=List.mem_map.1 hx
    exact Rnm.mv_good r.ns (hL y hy)) (fun x=>(r.mem x).symm)
  rw [← this]
  exact r.ns.rk hL
theorem fr_rk {N n:Nat} {g:Nat→T_Bar} (hg:isGraphF ((N:Int),(n,g),())=true):frGr ((N:Int),(n,g),())=maxI N - (rk2 N n g:Int):=by
  unfold frGr
  rw [if_pos hg]
  rfl
theorem cbN_zero (g:Nat→T_Bar) (a b:Int):∀ n,cbN g a b n=0↔∀ i,i<n→hitB (g i) a b=false
  | 0=>⟨fun _ i hi=>absurd hi (Nat.not_lt_zero _),fun _=>rfl⟩
  | n+1=>by
    have ih:=cbN_zero g a b n
    cases hh:hitB (g n) a b with
    | true =>
      rw [show cbN g a b (n+1)=cbN g a b n+1 by simp [cbN,hh]]
      constructor
      · intro h;omega
      · intro h;have:=h n (by omega);rw [hh] at this;cases this
    | false =>
      rw [show cbN g a b (n+1)=cbN g a b n by simp [cbN,hh],ih]
      constructor
      · intro h i hi
        rcases Nat.lt_or_ge i n with h1 | h1
        · exact h i h1
        · obtain rfl:i=n:=by omega
          exact hh
      · intro h i hi;exact h i (by omega)
theorem msI_zero (v:T_Graph) (a:Nat) (r:NB):∀ j,(msI v a r j).1=0↔r.1=0∧∀ i,i<j→cbN v.2.1.2 a ((a+1+i:Nat):Int) v.2.1.1≠0
  | 0=>⟨fun h=>⟨h,fun i hi=>absurd hi (Nat.not_lt_zero _)⟩,fun h=>h.1⟩
  | j+1=>by
    have ih:=msI_zero v a r j
    by_cases hc:cbN v.2.1.2 a ((a+1+j:Nat):Int) v.2.1.1=0
    · rw [show msI v a r (j+1)=sn (msI v a r j) (a,((a+1+j:Nat):Int),()) by simp only [msI];rw [if_pos hc]]
      constructor
      · intro h;have h:(msI v a r j).1+1=0:=h;omega
      · intro h;exact absurd hc (h.2 j (by omega))
    · rw [show msI v a r (j+1)=msI v a r j by simp only [msI];rw [if_neg hc],ih]
      constructor
      · intro h
        refine ⟨h.1,fun i hi=>?_⟩
        rcases Nat.lt_or_ge i j with h1 | h1
        · exact h.2 i h1
        · obtain rfl:i=j:=by omega
          exact hc
      · intro h;exact ⟨h.1,fun i hi=>h.2 i (by omega)⟩
theorem msO_zero (v:T_Graph):∀ k,(msO v k).1=0↔∀ a,a<k→∀ i,i<v.1.toNat - (a+1)→cbN v.2.1.2 a ((a+1+i:Nat):Int) v.2.1.1≠0
  | 0=>⟨fun _ a ha=>absurd ha (Nat.not_lt_zero _),fun _=>rfl⟩
  | k+1=>by
    have ih:=msO_zero v k
    rw [show msO v (k+1)=msI v k (msO v k) (v.1.toNat - (k+1)) from rfl,msI_zero,ih]
    constructor
    · intro h a ha
      rcases Nat.lt_or_ge a k with h1 | h1
      · exact h.1 a h1
      · obtain rfl:a=k:=by omega
        exact h.2
    · intro h;exact ⟨fun a ha=>h a (by omega),h k (by omega)⟩
theorem ms_zero {N n:Nat} {g:Nat→T_Bar} (hg:isGraphF ((N:Int),(n,g),())=true):(msP ((N:Int),(n,g),())).1=0↔∀ a b:Nat,a<b→b<N→(a,b)∈bL g n:=by
  have hok:=(graph_in hg).2.2
  have e:msP ((N:Int),(n,g),())=msO ((N:Int),(n,g),()) N:=by unfold msP;rw [if_pos hg];rfl
  rw [e,msO_zero]
  have one:∀ a b:Nat,a<b→(cbN g (a:Int) (b:Int) n≠0↔(a,b)∈bL g n):=by
    intro a b hab
    rw [bL_mem]
    constructor
    · intro h
      refine Classical.byContradiction (fun hn=>h ((cbN_zero g _ _ n).2 (fun i hi=>?_)))
      cases hh:hitB (g i) (a:Int) (b:Int) with
      | false=>rfl
      | true =>
        have hi':=hok i hi
        have:=(hit_eq hi'.2.1 (by omega:(a:Int)<(b:Int))).1 hh
        exact absurd ⟨i,hi,by unfold brN;rw [this.1,this.2];simp⟩ hn
    · rintro ⟨i,hi,he⟩ h
      have:=(cbN_zero g _ _ n).1 h i hi
      have hi':=hok i hi
      have e1:(g i).1.toNat=a:=congrArg Prod.fst he
      have e2:(g i).2.1.toNat=b:=congrArg Prod.snd he
      rw [(hit_eq hi'.2.1 (by omega:(a:Int)<(b:Int))).2 ⟨by omega,by omega⟩] at this
      cases this
  constructor
  · intro h a b hab hb
    have h1:=h a (by omega) (b - (a+1)) (by show b - (a+1)<(N:Int).toNat - (a+1);omega)
    rw [show a+1+(b - (a+1))=b by omega] at h1
    exact (one a b hab).1 h1
  · intro h a ha i hi
    have hi:i<(N:Int).toNat - (a+1):=hi
    exact (one a (a+1+i) (by omega)).2 (h a (a+1+i) (by omega) (by omega))
theorem Rlb.full {N n:Nat} {g h:Nat→T_Bar} {s t:Nat→Nat} (r:Rlb N n g h s t) (hm:(msP ((N:Int),(n,g),())).1=0):(msP ((N:Int),(n,h),())).1=0:=by
  rw [ms_zero r.hh]
  rw [ms_zero r.hg] at hm
  intro a b hab hb
  have ha':=r.nt.lt a (by omega)
  have hb':=r.nt.lt b hb
  have hne:t a≠t b:=fun he=>by have:=r.nt.inj a b (by omega) hb he;omega
  rw [r.mem,List.mem_map]
  by_cases h1:t a<t b
  · refine ⟨(t a,t b),hm _ _ h1 hb',?_⟩
    unfold Rnm.mvX
    simp only [r.st a (by omega),r.st b hb]
    rw [if_neg (by omega),if_pos (by omega)]
  · refine ⟨(t b,t a),hm _ _ (by omega) ha',?_⟩
    unfold Rnm.mvX
    simp only [r.st a (by omega),r.st b hb]
    rw [if_pos (by omega),if_neg (by omega)]
theorem br_zero (N n:Nat) (g:Nat→T_Bar):∀ k,(brD N n g k).1=0↔∀ e,e<k→brQ N n g e=false
  | 0=>⟨fun _ i hi=>absurd hi (Nat.not_lt_zero _),fun _=>rfl⟩
  | k+1=>by
    have ih:=br_zero N n g k
    cases hq:brQ N n g k with
    | true =>
      rw [show (brD N n g (k+1)).1=(brD N n g k).1+1 by simp only [brD];rw [if_pos hq]]
      constructor
      · intro h;omega
      · intro h;have:=h k (by omega);rw [hq] at this;cases this
    | false =>
      rw [show (brD N n g (k+1)).1=(brD N n g k).1 by simp only [brD];rw [if_neg (by rw [hq];decide)],ih]
      constructor
      · intro h i hi
        rcases Nat.lt_or_ge i k with h1 | h1
        · exact h i h1
        · obtain rfl:i=k:=by omega
          exact hq
      · intro h i hi;exact h i (by omega)
theorem dl_mem {N n:Nat} {g:Nat→T_Bar} (hg:isGraphF ((N:Int),(n,g),())=true) (hd:dbF g n=false) {e:Nat} (he:e<n) (x:Nat×Nat):x∈bL (dlB g e) (n - 1)↔x∈bL g n∧x≠brN (g e):=by
  have hn:=(db_nodup hg).1 hd
  rw [bL_mem,bL_mem]
  have ne:∀ i j,i<n→j<n→i≠j→brN (g i)≠brN (g j):=by
    intro i j hi hj hij heq
    rcases Nat.lt_or_gt_of_ne hij with h1 | h1
    · have:=List.pairwise_iff_getElem.1 hn i j (by rw [bL_len];exact hi) (by rw [bL_len];exact hj) h1
      rw [bL_get g hi,bL_get g hj] at this
      exact this heq
    · have:=List.pairwise_iff_getElem.1 hn j i (by rw [bL_len];exact hj) (by rw [bL_len];exact hi) h1
      rw [bL_get g hi,bL_get g hj] at this
      exact this heq.symm
  constructor
  · rintro ⟨i,hi,rfl⟩
    unfold dlB
    split
    · exact ⟨⟨i,by omega,rfl⟩,ne i e (by omega) he (by omega)⟩
    · exact ⟨⟨i+1,by omega,rfl⟩,ne (i+1) e (by omega) he (by omega)⟩
  · rintro ⟨⟨i,hi,rfl⟩,hne⟩
    rcases Nat.lt_trichotomy i e with h1 | h1 | h1
    · exact ⟨i,by omega,by unfold dlB;rw [if_pos h1]⟩
    · rw [h1] at hne;exact absurd rfl hne
    · exact ⟨i - 1,by omega,by unfold dlB;rw [if_neg (by omega),show i - 1+1=i by omega]⟩
theorem Rlb.redun {N n:Nat} {g h:Nat→T_Bar} {s t:Nat→Nat} (r:Rlb N n g h s t) (hd:dbF g n=false) (hr:rdB N n g=true):rdB N n h=true:=by
  have hdh:=r.nodup hd
  have hf:frGr ((N:Int),(n,h),())=frGr ((N:Int),(n,g),()):=by rw [fr_rk r.hg,fr_rk r.hh,r.rank]
  unfold rdB at hr ⊢
  rw [hf]
  cases hc:(frGr ((N:Int),(n,g),())==0) with
  | false=>rw [hc] at hr;cases hr
  | true =>
    rw [hc,cond_true] at hr
    rw [cond_true]
    have hr:(((brD N n g n).1:Nat):Int)=0:=beq_iff_eq.1 hr
    have h0:=(br_zero N n g n).1 (by omega)
    rw [beq_iff_eq]
    have:(brD N n h n).1=0:=by
      refine (br_zero N n h n).2 (fun e he=>?_)
      have hme:brN (h e)∈bL h n:=(bL_mem _ _ _).2 ⟨e,he,rfl⟩
      obtain ⟨y,hy,hye⟩:=List.mem_map.1 ((r.mem _).1 hme)
      obtain ⟨i,hi,rfl⟩:=(bL_mem _ _ _).1 hy
      have hq:=h0 i hi
      have hok:=(graph_in r.hg).2.2
      have hgd:=bL_ord hok
      have hgi:=dl_graph r.hg hi
      have hgo:=bL_good (graph_in hgi).2.2
      have erk:rk2 N (n - 1) (dlB h e)=rk2 N (n - 1) (dlB g i):=by
        unfold rk2
        rw [acc_len,acc_len]
        have:=Mat.rank_same (N:=N) ((bL (dlB g i) (n - 1)).map (Rnm.mvX s)) (bL (dlB h e) (n - 1)) (fun x hx=>by
          obtain ⟨y,hy,rfl⟩:=List.mem_map.1 hx
          exact Rnm.mv_good r.ns (hgo y hy)) (fun x=>by
          rw [dl_mem r.hh hdh he,r.mem,← hye,List.mem_map,List.mem_map]
          constructor
          · rintro ⟨z,hz,rfl⟩
            have hz:=(dl_mem r.hg hd hi z).1 hz
            exact ⟨⟨z,hz.1,rfl⟩,fun heq=>hz.2 (mv_inj r.ts (hgd z hz.1) (hgd _ hy) heq)⟩
          · rintro ⟨⟨z,hz,rfl⟩,hne⟩
            exact ⟨z,(dl_mem r.hg hd hi z).2 ⟨hz,fun heq=>hne (by rw [heq])⟩,rfl⟩)
        rw [← this]
        exact r.ns.rk hgo
      unfold brQ at hq ⊢
      rw [erk,r.rank]
      exact hq
    rw [this];rfl
theorem Rlb.cn {N n:Nat} {g h:Nat→T_Bar} {s t:Nat→Nat} (r:Rlb N n g h s t) {R:Nat→Bool} (hc:CnR N (bL g n) (fun a=>R (s a))):CnR N (bL h n) R:=by
  intro T ⟨a,a1,a2,a3⟩ hT u hu hR
  have hgd:=bL_ord (graph_in r.hg).2.2
  have:=hc (fun a=>T (s a)) ⟨t a,r.nt.lt a a1,by show R (s (t a))=true;rw [r.st a a1];exact a2,by show T (s (t a))=true;rw [r.st a a1];exact a3⟩ (fun x hx x1 x2=>by
    have hm:=(r.mem _).2 (List.mem_map.2 ⟨x,hx,rfl⟩)
    have hx':x.1<x.2∧x.2<N:=hgd x hx
    have x1:R (s x.1)=true:=x1
    have x2:R (s x.2)=true:=x2
    have hne:s x.1≠s x.2:=fun he=>by have:=r.ns.inj x.1 x.2 (by omega) hx'.2 he;omega
    have hq:=hT _ hm
    unfold Rnm.mvX at hq
    show T (s x.1)=T (s x.2)
    by_cases h1:s x.2<s x.1
    · rw [if_pos h1,if_neg (show ¬ s x.2>s x.1 by omega)] at hq
      exact (hq x2 x1).symm
    · rw [if_neg h1,if_pos (show s x.2>s x.1 by omega)] at hq
      exact hq x1 x2) (t u) (r.nt.lt u hu) (by show R (s (t u))=true;rw [r.st u hu];exact hR)
  have this:T (s (t u))=true:=this
  rw [r.st u hu] at this
  exact this
theorem cs_zero (N n:Nat) (g:Nat→T_Bar) (k:Nat):∀ w,(csD N n g k w).1=0↔∀ i,i<w→ctQ N n g k i=false
  | 0=>⟨fun _ i hi=>absurd hi (Nat.not_lt_zero _),fun _=>rfl⟩
  | w+1=>by
    have ih:=cs_zero N n g k w
    cases hq:ctQ N n g k w with
    | true =>
      rw [csD_t hq]
      constructor
      · intro h;have h:(csD N n g k w).1+1=0:=h;omega
      · intro h;have:=h w (by omega);rw [hq] at this;cases this
    | false =>
      rw [csD_f hq,ih]
      constructor
      · intro h i hi
        rcases Nat.lt_or_ge i w with h1 | h1
        · exact h i h1
        · obtain rfl:i=w:=by omega
          exact hq
      · intro h i hi;exact h i (by omega)
theorem kc_all (N n:Nat) (g:Nat→T_Bar):∀ k,kcA N n g k=true↔∀ j,j<k→∀ w,w<2 ^ N→ctQ N n g j w=false
  | 0=>⟨fun _ i hi=>absurd hi (Nat.not_lt_zero _),fun _=>rfl⟩
  | k+1=>by
    have ih:=kc_all N n g k
    rw [kcA,Bool.and_eq_true,ih]
    have e:(!decide ((((csD N n g k (2 ^ N)).1:Nat):Int)>0))=true↔∀ w,w<2 ^ N→ctQ N n g k w=false:=by
      rw [← cs_zero,Bool.not_eq_true',decide_eq_false_iff_not]
      omega
    rw [e]
    constructor
    · intro h j hj
      rcases Nat.lt_or_ge j k with h1 | h1
      · exact h.1 j h1
      · obtain rfl:j=k:=by omega
        exact h.2
    · intro h;exact ⟨fun j hj=>h j (by omega),h k (by omega)⟩
theorem mask_st (B:Nat→Bool):∀ n,∃ m,m<2 ^ n∧∀ i,i<n→m.testBit i=B i
  | 0=>⟨0,by decide,fun i hi=>absurd hi (Nat.not_lt_zero _)⟩
  | n+1=>by
    obtain ⟨m,h1,h2⟩:=mask_st B n
    cases hb:B n with
    | false =>
      refine ⟨m,by rw [Nat.pow_succ];omega,fun i hi=>?_⟩
      rcases Nat.lt_or_ge i n with h | h
      · exact h2 i h
      · obtain rfl:i=n:=by omega
        rw [hb];exact Nat.testBit_lt_two_pow h1
    | true =>
      refine ⟨2 ^ n+m,by rw [Nat.pow_succ];omega,fun i hi=>?_⟩
      rcases Nat.lt_or_ge i n with h | h
      · rw [Nat.testBit_two_pow_add_gt h];exact h2 i h
      · obtain rfl:i=n:=by omega
        rw [Nat.testBit_two_pow_add_eq,Nat.testBit_lt_two_pow h1,hb];rfl
theorem kp_st {N w:Nat} (hN:N≤8) (hw:w<2 ^ N) {a:Nat} (ha:a<N):kpB (stD w N) a=!w.testBit a:=by
  have hw2:w<2 ^ 62:=Nat.lt_of_lt_of_le hw (Nat.pow_le_pow_right (by omega) (by omega))
  unfold kpB
  rw [hasI_stD,decide_eq_true (show (0:Int)≤(a:Int)∧(a:Int)<(N:Int) by omega),Bool.true_and,bt_test w a hw2 (by omega)]
theorem Rlb.kcon {N n:Nat} {g h:Nat→T_Bar} {s t:Nat→Nat} (r:Rlb N n g h s t) {k:Nat} (hk:kcB N n g k=true):kcB N n h k=true:=by
  have hN:=(graph_in r.hg).1
  unfold kcB at hk ⊢
  by_cases hNk:(N:Int)≤(k:Int)
  · rw [decide_eq_true hNk] at hk;cases hk
  · rw [decide_eq_false hNk] at hk ⊢
    have hk:kcA N n g k=true:=hk
    show kcA N n h k=true
    rw [kc_all] at hk ⊢
    intro j hj w hw
    obtain ⟨w',w1,w2⟩:=mask_st (fun a=>w.testBit (s a)) N
    have hq:=hk j hj w' w1
    have ek:∀ a,a<N→kpB (stD w' N) a=kpB (stD w N) (s a):=fun a ha=>by rw [kp_st hN.2 w1 ha,w2 a ha,kp_st hN.2 hw (r.ns.lt a ha)]
    have ecard:(wpD (stD w' N) N).1=(wpD (stD w N) N).1:=by
      show kpN (stD w' N) N=kpN (stD w N) N
      rw [kp_card,kp_card,← r.ns.card (kpB (stD w N))]
      exact Rnm.card_agree N ek
    have ec1:=wp_cnt w' N N (Nat.le_refl _)
    have ec2:=wp_cnt w N N (Nat.le_refl _)
    have est:(stD w' N).1=(stD w N).1:=by omega
    unfold ctQ at hq ⊢
    rw [est,ecard] at hq
    cases h1:((((stD w N).1:Nat):Int)==(j:Int)) with
    | false=>rfl
    | true =>
      rw [h1,cond_true] at hq
      rw [cond_true]
      cases h2:decide ((((wpD (stD w N) N).1:Nat):Int)≥2) with
      | false=>rfl
      | true =>
        rw [h2,cond_true] at hq
        rw [cond_true]
        have h2:=of_decide_eq_true h2
        have hq:cnB (wpG N n g (stD w' N))=true:=by simpa using hq
        rw [wp_cn r.hg _ (by omega)] at hq
        have:cnB (wpG N n h (stD w N))=true:=by
          rw [wp_cn r.hh _ (by omega)]
          refine r.cn ?_
          intro T ⟨a,a1,a2,a3⟩ hT u hu hR
          have hgd:=bL_ord (graph_in r.hg).2.2
          exact hq T ⟨a,a1,by rw [ek a a1];exact a2,a3⟩ (fun x hx x1 x2=>by
            have hx':x.1<x.2∧x.2<N:=hgd x hx
            exact hT x hx (by show kpB (stD w N) (s x.1)=true;rw [← ek x.1 (by omega)];exact x1) (by show kpB (stD w N) (s x.2)=true;rw [← ek x.2 hx'.2];exact x2)) u hu (by rw [ek u hu];exact hR)
        rw [this];rfl
theorem gl_iff (N n:Nat) (g:Nat→T_Bar):glB N n g=true↔dbF g n=false∧(if N≤3 then (msP ((N:Int),(n,g),())).1=0 else rgQ N n g=true∧kcB N n g 3=true∧rdB N n g=true):=by
  unfold glB wgF
  have k0:(kwE.toList==kwE.toList)=true:=beq_iff_eq.2 rfl
  have k1:(kwGraph.toList==kwE.toList)=false:=by rw [show kwE=ByteArray.mk #[] from rfl,str_nil];rfl
  have k2:(kwRigid.toList==kwE.toList)=false:=by rw [show kwE=ByteArray.mk #[] from rfl,str_nil];rfl
  have k3:(kwConn.toList==kwE.toList)=false:=by rw [show kwE=ByteArray.mk #[] from rfl,str_nil];rfl
  have k4:(kwRed.toList==kwE.toList)=false:=by rw [show kwE=ByteArray.mk #[] from rfl,str_nil];rfl
  cases dbF g n with
  | true=>rw [if_pos rfl,k1];simp
  | false =>
    rw [if_neg (by decide)]
    by_cases hN:N≤3
    · rw [if_pos hN,if_pos hN]
      by_cases hm:(msP ((N:Int),(n,g),())).1=0
      · rw [if_neg (by rw [hm];decide),k0];simp [hm]
      · rw [if_pos (decide_eq_true (by omega)),k2];simp [hm]
    · rw [if_neg hN,if_neg hN]
      cases rgQ N n g with
      | false=>rw [if_pos rfl,k2];simp
      | true =>
        rw [if_neg (by decide)]
        cases kcB N n g 3 with
        | false=>rw [if_pos rfl,k3];simp
        | true =>
          rw [if_neg (by decide)]
          cases rdB N n g with
          | false=>rw [if_pos rfl,k4];simp
          | true=>rw [if_neg (by decide),k0];simp
theorem Rlb.glob {N n:Nat} {g h:Nat→T_Bar} {s t:Nat→Nat} (r:Rlb N n g h s t) (hb:glB N n g=true):glB N n h=true:=by
  rw [gl_iff] at hb ⊢
  refine ⟨r.nodup hb.1,?_⟩
  have h2:=hb.2
  split
  · rename_i hN
    rw [if_pos hN] at h2
    exact r.full h2
  · rename_i hN
    rw [if_neg hN] at h2
    refine ⟨?_,r.kcon h2.2.1,r.redun hb.1 h2.2.2⟩
    have:=h2.1
    unfold rgQ at this ⊢
    rw [fr_rk r.hg] at this
    rw [fr_rk r.hh,r.rank]
    exact this
theorem Rlb.same {N n:Nat} {g h:Nat→T_Bar} {s t:Nat→Nat} (r:Rlb N n g h s t):glB N n h=glB N n g:=by
  cases h1:glB N n g with
  | true=>exact r.glob h1
  | false =>
    cases h2:glB N n h with
    | false=>rfl
    | true=>rw [r.sym.glob h2] at h1;cases h1
theorem rn_graph {v:T_Graph} {u:T_IntS} (h:rnB v u=true):isGraphF (rnG v u)=true:=by
  obtain ⟨hn,hg,hr⟩:=rn_nam h
  have gi:=graph_inR hg
  have e:rnG v u=(v.1,(v.2.1.1,srtB v.2.1.1 (rnD v.2.1.2 u.2)),()):=by unfold rnG;rw [if_pos h]
  rw [e]
  refine isG_lst (N:=v.1.toNat) (by omega) (by show v.1=_;omega) gi.2.2.1 ?_ (fun x hx=>?_)
  · show (lstB v.2.1.1 (srtB v.2.1.1 (rnD v.2.1.2 u.2))).Pairwise leB
    rw [lst_srt]
    exact srtL_sorted _
  · have hx:x∈lstB v.2.1.1 (srtB v.2.1.1 (rnD v.2.1.2 u.2)):=hx
    rw [lst_srt,(srtL_perm _).mem_iff] at hx
    obtain ⟨i,hi,rfl⟩:=List.mem_map.1 hx
    have hi:=List.mem_range.1 hi
    have hb:=goodB_at gi.2.2.2 i hi
    have hne:(v.2.1.2 i).1.toNat≠(v.2.1.2 i).2.1.toNat:=by omega
    have h1:=hr (v.2.1.2 i).1.toNat (by omega)
    have h2:=hr (v.2.1.2 i).2.1.toNat (by omega)
    have h3:u.2 (v.2.1.2 i).1.toNat≠u.2 (v.2.1.2 i).2.1.toNat:=fun he=>hne (hn.inj _ _ (by omega) (by omega) (by unfold nmS;rw [he]))
    show 0≤(rnD v.2.1.2 u.2 i).1∧(rnD v.2.1.2 u.2 i).1<(rnD v.2.1.2 u.2 i).2.1∧(rnD v.2.1.2 u.2 i).2.1<_
    unfold rnD brX
    generalize u.2 (v.2.1.2 i).1.toNat=a at *
    generalize u.2 (v.2.1.2 i).2.1.toNat=b at *
    simp only
    by_cases h4:b<a
    · rw [if_pos h4,if_neg (show ¬ b>a by omega)];omega
    · rw [if_neg h4,if_pos (show b>a by omega)];omega
theorem rn_Rlb {v:T_Graph} {u:T_IntS} (h:rnB v u=true):∃ t,Rlb v.1.toNat v.2.1.1 v.2.1.2 (rnG v u).2.1.2 (nmS u) t:=by
  obtain ⟨hn,hg,hr⟩:=rn_nam h
  have gi:=graph_inR hg
  obtain ⟨t,t1,t2,t3⟩:=hn.back
  have hgr:=rn_graph h
  have e:rnG v u=(v.1,(v.2.1.1,srtB v.2.1.1 (rnD v.2.1.2 u.2)),()):=by unfold rnG;rw [if_pos h]
  rw [e] at hgr ⊢
  have eN:((v.1.toNat:Nat):Int)=v.1:=by omega
  refine ⟨t,⟨by rw [eN];exact hg,by rw [eN];exact hgr,hn,t1,t2,t3,?_⟩⟩
  show (bL (srtB v.2.1.1 (rnD v.2.1.2 u.2)) v.2.1.1).Perm _
  have e2:∀ g:Nat→T_Bar,bL g v.2.1.1=(lstB v.2.1.1 g).map brN:=fun g=>by rw [bL_map,lstB,List.map_map];rfl
  rw [e2,lst_srt]
  refine ((srtL_perm _).map brN).trans ?_
  rw [e2,List.map_map]
  have:(lstB v.2.1.1 (rnD v.2.1.2 u.2)).map brN=(lstB v.2.1.1 v.2.1.2).map (Rnm.mvX (nmS u) ∘ brN):=by
    unfold lstB
    rw [List.map_map,List.map_map]
    exact List.map_congr_left (fun i hi=>rn_bar h (List.mem_range.1 hi))
  rw [this]
theorem rn_glob {v:T_Graph} {u:T_IntS} (h:rnB v u=true):glB v.1.toNat v.2.1.1 (rnG v u).2.1.2=glB v.1.toNat v.2.1.1 v.2.1.2:=by
  obtain ⟨t,r⟩:=rn_Rlb h
  exact r.same
def eqGr (v u:T_Graph):Bool:=bif v.1==u.1 then q_BarS v.2.1 u.2.1 else false
def SEg9 (v u:T_Graph) (k:Nat):St :=
  ⟨[graphA v,graphA u,.pt 2 0 0 0,.pt 2 1 0 0,.p .any,.p (.int .i64 k)]++List.replicate 32 anyA,[(0,boxG v),(1,boxG u)],2⟩
theorem eg9z (v u:T_Graph) :
    zS Tryz.f57 [rg 3,rg 14,.dec true,rg 1] [graphA v,graphA u] [] [] (.p (.bool false)) =
    some (zD [(NT 0 1),(AG (!v.1 != u.1)),(((!v.1 != u.1)=true)→(NT 0 1)),(((v.1 != u.1)=false)→ ((!v.1 != u.1)=true)),((bif v.1 != u.1 then true else (↑v.2.1.1:Int) != (↑u.2.1.1:Int))=true),(false=false)] [0,0,1,2,1,1,2,1,1,1,3,4,5]):=by kernel_rfl
theorem eg9a (v u:T_Graph) :
    zT Tryz.f57 [rg 3,rg 14,.dec false,rg 1,.head] [graphA v,graphA u] [0,32] (SEg9 v u 0) =
    some (zf78,zD [(NT 0 1),(AG (!v.1 != u.1)),(((!v.1 != u.1)=true)→(NT 0 1)),(((v.1 != u.1)=false)→ ((!v.1 != u.1)=true)),((bif v.1 != u.1 then true else (↑v.2.1.1:Int) != (↑u.2.1.1:Int))=false),(AI v.1),(AN v.2.1.1),(AP v.2.1.1 (bRw v.2.1.2)),(AI u.1),(AN u.2.1.1),(AP u.2.1.1 (fun i=>[.int .i64 ((u.2.1.2 i).1),.int .i64 ((u.2.1.2 i).2.1)])),(AN 0),((0:Int)=(↑0:Int)),((([AV.p (PV.int IntKind.i64 v.1),graphL v.2.1].length):Nat)=2),(NL 1 1),((([AV.p (PV.int IntKind.i64 u.1),graphL u.2.1].length):Nat)=2)] [0,0,1,2,1,1,2,1,1,1,3,4,5,6,7,8,9,10,11,11,12,13,14,14,5,6,7,15,14,14,8,9,10]):=by kernel_rfl
theorem eg9b (v u:T_Graph) (k:Nat) :
    zM 0 [rg 5,.dec true,rg 11,.dec false,rg 3,.head] zf78 (SEg9 v u k) [0,1] 1 (SEg9 v u (k+1)) =
    some (zf78,zD [(NT 0 1),((decide ((↑k:Int)<(↑v.2.1.1:Int)))=true),(IL 0 (↑k:Int)),(IT (↑k:Int) (↑v.2.1.1:Int)),(IT (↑k:Int) (↑u.2.1.1:Int)),((!((v.2.1.2 k).1==(u.2.1.2 k).1&&((v.2.1.2 k).2.1==(u.2.1.2 k).2.1&&true)))=false),(ZLo ((↑k:Int)+1)),(ZHi ((↑k:Int)+1)),(AI v.1),(AN v.2.1.1),(AP v.2.1.1 (bRw v.2.1.2)),(AI u.1),(AN u.2.1.1),(AP u.2.1.1 (fun i=>[.int .i64 ((u.2.1.2 i).1),.int .i64 ((u.2.1.2 i).2.1)])),(AN 0),((((↑k:Int)+1):Int)=(↑(k+1):Int)),(AN 2),(NL 1 1)] [0,1,0,2,3,0,2,4,5,6,7,8,9,10,11,12,13,14,14,15,16,17,17,8,9,10,16,17,17,11,12,13]):=by kernel_rfl
theorem eg9c (v u:T_Graph) (k:Nat) :
    zP Tryz.f57 0 [rg 5,.dec true,rg 11,.dec true,rg 1] zf78 (SEg9 v u k) [] 1 [] (.p (.bool false)) =
    some (zD [(NT 0 1),((decide ((↑k:Int)<(↑v.2.1.1:Int)))=true),(IL 0 (↑k:Int)),(IT (↑k:Int) (↑v.2.1.1:Int)),(IT (↑k:Int) (↑u.2.1.1:Int)),((!((v.2.1.2 k).1==(u.2.1.2 k).1&&((v.2.1.2 k).2.1==(u.2.1.2 k).2.1&&true)))=true),(false=false)] [0,1,0,2,3,0,2,4,5,6]):=by kernel_rfl
theorem eg9d (v u:T_Graph) (k:Nat) :
    zP Tryz.f57 0 [rg 5,.dec false,rg 1] zf78 (SEg9 v u k) [] 1 [] (.p (.bool true)) =
    some [(NT 0 1),((decide ((↑k:Int)<(↑v.2.1.1:Int)))=false),(true=true)]:=by kernel_rfl
theorem con_EqualGraphs_s (v u:T_Graph) (hn:v.2.1.1≤1048576):zE 57 [graphA v,graphA u] [] (.p (.bool (eqGr v u))):=by
  refine csZ Tryz.func57 (fun c hc=>?_)
  by_cases hz:v.1=u.1∧v.2.1.1=u.2.1.1
  · rw [show eqGr v u=qT_BarS v.2.1.2 u.2.1.2 v.2.1.1 by simp [eqGr,q_BarS,hz.1,hz.2]]
    have lp:∀ m k,k+m=v.2.1.1→qT_BarS v.2.1.2 u.2.1.2 k=true→zR c 57 zf78 (SEg9 v u k) (Post c [] (.p (.bool (qT_BarS v.2.1.2 u.2.1.2 v.2.1.1)))):=by
      intro m
      induction m with
      | zero =>
        intro k hk hg
        rw [show qT_BarS v.2.1.2 u.2.1.2 v.2.1.1=true by rw [show v.2.1.1=k by omega];exact hg]
        have hd:decide ((k:Int)<(v.2.1.1:Int))=false:=by simp;omega
        refine pkZ Tryz.func57 hc (eg9d v u k) ?_
        and_intros
        all_goals (first | exact zN)
      | succ m ih =>
        intro k hk hg
        have hd:decide ((k:Int)<(v.2.1.1:Int))=true:=by simp;omega
        cases he:q1_BarS (v.2.1.2 k) (u.2.1.2 k) with
        | false =>
          rw [qT_BarS_bad _ _ k he v.2.1.1 (by omega)]
          have he':(!q1_BarS (v.2.1.2 k) (u.2.1.2 k))=true:=notf he
          refine pkD Tryz.func57 hc (eg9c v u k) ?_
          and_intros
          all_goals (first | exact zN | exact he')
        | true =>
          have he':(!q1_BarS (v.2.1.2 k) (u.2.1.2 k))=false:=nott he
          refine pcD hc (eg9b v u k) ?_ (ih (k+1) (by omega) (by simp [qT_BarS,hg,he]))
          and_intros
          all_goals (first | exact zN | exact he' | (simp [All]))
    refine pcD hc (eg9a v u) ?_ (lp v.2.1.1 0 (by omega) rfl)
    and_intros
    all_goals (first | exact zH | (intro h;simp [h]) | (simp [hz.1,hz.2]) | (simp [All]))
  · have hr:eqGr v u=false:=by
      simp only [eqGr,q_BarS]
      by_cases h1:v.1=u.1
      · have h2:¬ v.2.1.1=u.2.1.1:=fun h=>hz ⟨h1,h⟩
        simp [h1,h2]
      · have:(v.1==u.1)=false:=by simpa using h1
        rw [this];rfl
    rw [hr]
    have hb:(bif v.1 != u.1 then true else (v.2.1.1:Int) != (u.2.1.1:Int))=true:=by
      by_cases h1:v.1=u.1
      · have h2:¬ v.2.1.1=u.2.1.1:=fun h=>hz ⟨h1,h⟩
        simp [h1];omega
      · simp [h1]
    refine pkD Tryz.func57 hc (eg9z v u) ?_
    and_intros
    all_goals (first | exact zH)
def S_se9BarS (v u:T_BarS) (k:Nat):St :=
  ⟨[.p (.seq true 2 v.1 (fun i=>[.int .i64 ((v.2 i).1),.int .i64 ((v.2 i).2.1)])),.p (.seq true 2 u.1 (fun i=>[.int .i64 ((u.2 i).1),.int .i64 ((u.2 i).2.1)]))]++List.replicate 10 anyA++[.p (.int .i64 v.1),.p (.int .i64 k)]++List.replicate 12 anyA,[],0⟩
theorem p_se9BarS_z (v u:T_BarS) :
    zS Tryz.f159 [rg 1,rg 5,.dec true,rg 1] [.p (.seq true 2 v.1 (fun i=>[.int .i64 ((v.2 i).1),.int .i64 ((v.2 i).2.1)])),.p (.seq true 2 u.1 (fun i=>[.int .i64 ((u.2 i).1),.int .i64 ((u.2 i).2.1)]))] [] [] (.p (.bool false)) =
    some [(((↑v.1:Int) != (↑u.1:Int))=true),(false=false)]:=by kernel_rfl
theorem p_se9BarS_a (v u:T_BarS) :
    zT Tryz.f159 [rg 1,rg 5,.dec false,rg 3,.head] [.p (.seq true 2 v.1 (fun i=>[.int .i64 ((v.2 i).1),.int .i64 ((v.2 i).2.1)])),.p (.seq true 2 u.1 (fun i=>[.int .i64 ((u.2 i).1),.int .i64 ((u.2 i).2.1)]))] [] (S_se9BarS v u 0) =
    some (zf76,[(((↑v.1:Int) != (↑u.1:Int))=false),(AN v.1),(AP v.1 (fun i=>[.int .i64 ((v.2 i).1),.int .i64 ((v.2 i).2.1)])),(AN u.1),(AP u.1 (fun i=>[.int .i64 ((u.2 i).1),.int .i64 ((u.2 i).2.1)])),(AI ((↑v.1:Int))),((0:Int)=(↑0:Int))]):=by kernel_rfl
theorem p_se9BarS_b (v u:T_BarS) (k:Nat) :
    zM 0 [rg 1,.dec true,rg 2,rg 9,.dec false,rg 2,.head] zf76 (S_se9BarS v u k) [] 1 (S_se9BarS v u (k+1)) =
    some (zf76,[((decide ((↑k:Int)<(↑v.1:Int)))=true),(IL 0 (↑k:Int)),(IT (↑k:Int) (↑v.1:Int)),(IL 0 (↑k:Int)),(IT (↑k:Int) (↑u.1:Int)),((!((v.2 k).1==(u.2 k).1&&((v.2 k).2.1==(u.2 k).2.1&&true)))=false),(ZLo ((↑k:Int)+1)),(ZHi ((↑k:Int)+1)),(AN v.1),(AP v.1 (fun i=>[.int .i64 ((v.2 i).1),.int .i64 ((v.2 i).2.1)])),(AN u.1),(AP u.1 (fun i=>[.int .i64 ((u.2 i).1),.int .i64 ((u.2 i).2.1)])),(AI ((↑v.1:Int))),((((↑k:Int)+1):Int)=(↑(k+1):Int))]):=by kernel_rfl
theorem p_se9BarS_c (v u:T_BarS) (k:Nat) :
    zP Tryz.f159 0 [rg 1,.dec true,rg 2,rg 9,.dec true,rg 1] zf76 (S_se9BarS v u k) [] 1 [] (.p (.bool false)) =
    some [((decide ((↑k:Int)<(↑v.1:Int)))=true),(IL 0 (↑k:Int)),(IT (↑k:Int) (↑v.1:Int)),(IL 0 (↑k:Int)),(IT (↑k:Int) (↑u.1:Int)),((!((v.2 k).1==(u.2 k).1&&((v.2 k).2.1==(u.2 k).2.1&&true)))=true),(false=false)]:=by kernel_rfl
theorem p_se9BarS_d (v u:T_BarS) (k:Nat) :
    zP Tryz.f159 0 [rg 1,.dec false,rg 1] zf76 (S_se9BarS v u k) [] 1 [] (.p (.bool true)) =
    some [((decide ((↑k:Int)<(↑v.1:Int)))=false),(true=true)]:=by kernel_rfl
theorem con_se9BarS (v u:T_BarS) (hv:v.1≤1048576):zE 159 [.p (.seq true 2 v.1 (fun i=>[.int .i64 ((v.2 i).1),.int .i64 ((v.2 i).2.1)])),.p (.seq true 2 u.1 (fun i=>[.int .i64 ((u.2 i).1),.int .i64 ((u.2 i).2.1)]))] [] (.p (.bool (q_BarS v u))):=by
  refine csZ Tryz.func159 (fun c hc=>?_)
  by_cases hz:v.1=u.1
  · rw [show q_BarS v u=qT_BarS v.2 u.2 v.1 by simp [q_BarS,hz]]
    have lp:∀ m k,k+m=v.1→qT_BarS v.2 u.2 k=true→zR c 159 zf76 (S_se9BarS v u k) (Post c [] (.p (.bool (qT_BarS v.2 u.2 v.1)))):=by
      intro m
      induction m with
      | zero =>
        intro k hk hg
        rw [show qT_BarS v.2 u.2 v.1=true by rw [show v.1=k by omega];exact hg]
        have hd:decide ((k:Int)<(v.1:Int))=false:=by simp;omega
        refine pkZ Tryz.func159 hc (p_se9BarS_d v u k) ?_
        and_intros
        all_goals (first | exact zN)
      | succ m ih =>
        intro k hk hg
        have hd:decide ((k:Int)<(v.1:Int))=true:=by simp;omega
        cases he:q1_BarS (v.2 k) (u.2 k) with
        | false =>
          rw [qT_BarS_bad _ _ k he v.1 (by omega)]
          have he':(!q1_BarS (v.2 k) (u.2 k))=true:=notf he
          refine pkZ Tryz.func159 hc (p_se9BarS_c v u k) ?_
          and_intros
          all_goals (first | exact zN | exact he')
        | true =>
          have he':(!q1_BarS (v.2 k) (u.2 k))=false:=nott he
          refine pcZ hc (p_se9BarS_b v u k) ?_ (ih (k+1) (by omega) (by simp [qT_BarS,hg,he]))
          and_intros
          all_goals (first | exact zN | exact he')
    refine pcZ hc (p_se9BarS_a v u) ?_ (lp v.1 0 (by omega) rfl)
    and_intros
    all_goals (first | exact zN | (simp;omega))
  · rw [show q_BarS v u=false by simp [q_BarS,hz]]
    refine pkZ Tryz.func159 hc (p_se9BarS_z v u) ?_
    and_intros
    all_goals (first | exact zN | (simp;omega))
theorem eg52 (v u:T_Graph) :
    zS Tryz.f99 [rg 3,rm [(10,oc [] (.p (.bool (q_BarS v.2.1 u.2.1))))] 2] [graphA v,graphA u] [] [] (.p (.bool (eqGr v u))) =
    some (zD [(NT 0 1),(AG (v.1==u.1)),(((v.1==u.1)=true)→(NT 0 1)),(((v.1==u.1)=true)→ zE 159 [.p (.seq true 2 v.2.1.1 (bRw v.2.1.2)),.p (.seq true 2 u.2.1.1 (fun i=>[.int .i64 ((u.2.1.2 i).1),.int .i64 ((u.2.1.2 i).2.1)]))] [] (.p (.bool (q_BarS v.2.1 u.2.1)))),((bif v.1==u.1 then q_BarS v.2.1 u.2.1 else false)=(eqGr v u))] [0,0,1,2,1,2,1,1,3,1,4]):=by kernel_rfl
theorem con_EqualGraphs_i (v u:T_Graph) (hn:v.2.1.1≤1048576):zE 99 [graphA v,graphA u] [] (.p (.bool (eqGr v u))):=by
  refine csZ Tryz.func99 (fun c hc=>?_)
  refine pkD Tryz.func99 hc (eg52 v u) ?_
  and_intros
  all_goals (first | exact zI | (intros;exact con_se9BarS v.2.1 u.2.1 hn))
open Go Go.Sort
theorem iIi (v u x y:T_Graph) (a b q:Bool) :
    zS Tryz.f66 [rg 3,rm [(1,oc [(0,brOb x.2.1.1 x.2.1.2)] (zf116 x a))] 6,rm [(1,oc [(0,brOb y.2.1.1 y.2.1.2)] (zf116 y b))] 6,rm [(7,oc [] (.p (.bool q)))] 2] [graphA v,graphA u] [] [] (.p (.bool (bif (bif a then b else false) then q else false))) =
    some (zD [(NT 0 1),zE 68 [(zf96 v)] (zf102 x) ((zf116 x a)),((true=true)→ (AN 1)),zE 68 [(zf96 u)] (zf102 y) ((zf116 y b)),(AG a),(((bif a then b else false)=true)→(NT 0 1)),(AG (bif a then b else false)),(((bif a then b else false)=true)→ (AN 2)),(((bif a then b else false)=true)→(NL x.2.1.1 x.2.1.1)),(((bif a then b else false)=true)→(NL y.2.1.1 y.2.1.1)),(((bif a then b else false)=true)→ zE 99 [(zf96 x),(zf96 y)] [] (.p (.bool q))),((bif bif a then b else false then q else false)=(bif bif a then b else false then q else false))] [0,1,0,2,0,3,0,2,4,5,5,6,6,7,8,7,9,10,6,11]):=by kernel_rfl
theorem iIs (v u x y:T_Graph) (a b q:Bool) :
    zS Tryz.f71 [rg 3,rm [(1,oc [(0,brOb x.2.1.1 x.2.1.2)] (zf116 x a))] 6,rm [(1,oc [(0,brOb y.2.1.1 y.2.1.2)] (zf116 y b))] 6,rm [(7,oc [] (.p (.bool q)))] 2] [graphA v,graphA u] [] [] (.p (.bool (bif (bif a then b else false) then q else false))) =
    some (zD [(NT 0 1),zE 69 [(zf96 v)] (zf102 x) ((zf116 x a)),((true=true)→ (AN 1)),zE 69 [(zf96 u)] (zf102 y) ((zf116 y b)),(AG a),(((bif a then b else false)=true)→(NT 0 1)),(AG (bif a then b else false)),(((bif a then b else false)=true)→ (AN 2)),(((bif a then b else false)=true)→(NL x.2.1.1 x.2.1.1)),(((bif a then b else false)=true)→(NL y.2.1.1 y.2.1.1)),(((bif a then b else false)=true)→ zE 57 [(zf96 x),(zf96 y)] [] (.p (.bool q))),((bif bif a then b else false then q else false)=(bif bif a then b else false then q else false))] [0,1,0,2,0,3,0,2,4,5,5,6,6,7,8,7,9,10,6,11]):=by kernel_rfl
def isB' (v u:T_Graph):Bool:=bif (bif cnQ v then cnQ u else false) then eqGr (cnG v) (cnG u) else false
theorem con_Iso_i (v u:T_Graph) (hs:smS s_Graph v) (hu:smS s_Graph u):zE 66 [graphA v,graphA u] [] (.p (.bool (isB' v u))):=by
  have c1:=con_Canon_i v hs
  have c2:=con_Canon_i u hu
  have c3:=con_EqualGraphs_i (cnG v) (cnG u) (by have:=cnG_n v;omega)
  refine csZ Tryz.func66 (fun c hc=>?_)
  refine pkD Tryz.func66 hc (iIi v u (cnG v) (cnG u) (cnQ v) (cnQ u) (eqGr (cnG v) (cnG u))) ?_
  and_intros
  all_goals (first | exact zI | (exact c1) | (exact c2) | (intros;exact c3))
theorem con_Iso_s (v u:T_Graph) (hs:smS s_Graph v) (hu:smS s_Graph u):zE 71 [graphA v,graphA u] [] (.p (.bool (isB' v u))):=by
  have c1:=con_Canon_s v hs
  have c2:=con_Canon_s u hu
  have c3:=con_EqualGraphs_s (cnG v) (cnG u) (by have:=cnG_n v;omega)
  refine csZ Tryz.func71 (fun c hc=>?_)
  refine pkD Tryz.func71 hc (iIs v u (cnG v) (cnG u) (cnQ v) (cnQ u) (eqGr (cnG v) (cnG u))) ?_
  and_intros
  all_goals (first | exact zI | (exact c1) | (exact c2) | (intros;exact c3))
noncomputable def gEn (n:Nat) (M:Nat) (A:Nat→T_Bar):Nat→Nat→Nat×(Nat→T_BarS)→Nat×(Nat→T_BarS)
  | _,0,x=>x
  | w,d+1,x=>gEn n M A (w+1) d (bif (bif ((bF w A 0 M zB).1:Int)==maxI n then mrG ((n:Int),bF w A 0 M zB,()) else false) then (x.1+1,snocB x.1 x.2 (bF w A 0 M zB)) else x)
def zG:Nat×(Nat→T_BarS):=(0,fun _=>(0,fun _=>(0,0,())))
noncomputable def gD (n:Nat):Nat×(Nat→T_BarS):=gEn n (cgD n).1 (cgD n).2 0 (2 ^ (cgD n).1) zG
noncomputable def rgG (n:Int):Nat×(Nat→T_BarS):=bif inB n 1 5 then gD n.toNat else zG
theorem shl_pow (M:Nat) (h:M≤10):shlI .i64 1 (M:Int)=((2 ^ M:Nat):Int):=by
  rcases M with _ | _ | _ | _ | _ | _ | _ | _ | _ | _ | _ | M
  all_goals first | rfl | omega
theorem pow_le (M:Nat) (h:M≤10):2 ^ M≤1024:=Nat.pow_le_pow_right (by omega) h
theorem sm_bF (n:Nat) (w:Int) (A:Nat→T_Bar) (M:Nat) (hM:M≤10):smS s_Graph ((n:Int),bF w A 0 M zB,()):=by
  have h1:=sF_n w A M 0 zB (0,fun _=>0) rfl
  have h2:=sF_le w M 0 (0,fun _=>0)
  simp only at h2
  exact ⟨trivial,⟨by show (bF w A 0 M zB).1≤1048576;omega,fun i hi=>by simp [smS,smL]⟩,trivial⟩
theorem con_Choose (n:Nat) (tg':Int) (M:Nat) (A:Nat→T_Bar) (hM:M≤10) (ht:tg'=maxI n) :
    zE 122 [brL A M,.p (.int .i64 n),.p (.int .i64 tg')] [(0,gsOb n (gEn n M A 0 (2 ^ M) zG).1 (gEn n M A 0 (2 ^ M) zG).2)] (.ar 2 0 0 (gEn n M A 0 (2 ^ M) zG).1):=by
  refine csZ Tryz.func122 (fun c hc=>?_)
  have hsh:=shl_pow M hM
  have hpw:=pow_le M hM
  generalize hR:gEn n M A 0 (2 ^ M) zG=R
  have li:∀ w:Nat,∀ d (i:Nat) k h cc G,i+d=M→k≤i→cc≤w→w<2 ^ M→bF w A i d (k,h)=bF w A 0 M zB →
      (∀ cc' G',(bif (bif ((bF w A 0 M zB).1:Int)==maxI n then mrG ((n:Int),bF w A 0 M zB,()) else false) then (cc+1,snocB cc G (bF w A 0 M zB)) else (cc,G))=(cc',G') →
        zR c 122 zf72 (SRgs n tg' M A (w+1) cc' G') (Post c [(0,gsOb n R.1 R.2)] (.ar 2 0 0 R.1))) →
      zR c 122 zf9 (SRn1 n tg' M A w cc G i k h) (Post c [(0,gsOb n R.1 R.2)] (.ar 2 0 0 R.1)):=by
    intro w d
    induction d with
    | zero =>
      intro i k h cc G hi hk hcc hw he hn
      have hd:decide ((i:Int)<(M:Int))=false:=by simp;omega
      rw [bF] at he
      have hmr:=con_IsMin_s ((n:Int),bF w A 0 M zB,()) (sm_bF n w A M hM)
      rw [← he] at hmr hn
      cases hb:(bif ((k:Int)==maxI n) then mrG ((n:Int),(k,h),()) else false) with
      | true =>
        have hb':(bif ((k:Int)==tg') then mrG ((n:Int),(k,h),()) else false)=true:=by rw [ht];exact hb
        rw [show (bif (((k,h):T_BarS).1:Int)==maxI n then mrG ((n:Int),(k,h),()) else false)=true from hb] at hn
        refine pcZ hc (eC3t n tg' M A w cc G i k h (mrG ((n:Int),(k,h),()))) ?_ (hn _ _ rfl)
        and_intros
        all_goals (first | exact zI | (exact hd) | (exact hb') | (intro _;exact hmr) | (intro h9;exact h9) | (simp;done) | (intro j hj;by_cases h':j<cc<;>simp [h',snocB,cvtL,cvt,lendP,cellP,tab,idx,idx1,lkk,idO,idM,Ob.isF,List.lookup,brOb,tg,tru,All]))
      | false =>
        have hb':(bif ((k:Int)==tg') then mrG ((n:Int),(k,h),()) else false)=false:=by rw [ht];exact hb
        rw [show (bif (((k,h):T_BarS).1:Int)==maxI n then mrG ((n:Int),(k,h),()) else false)=false from hb] at hn
        refine pcZ hc (eC3f n tg' M A w cc G i k h (mrG ((n:Int),(k,h),()))) ?_ (hn _ _ rfl)
        and_intros
        all_goals (first | exact zI | (exact hd) | (exact hb') | (intro _;exact hmr) | (intro h9;exact h9) | (simp;done) | (intro j hj;simp [All]))
    | succ d ih =>
      intro i k h cc G hi hk hcc hw he hn
      have hd:decide ((i:Int)<(M:Int))=true:=by simp;omega
      rw [bF] at he
      cases hb:btE w i with
      | true =>
        rw [hb] at he
        have hb':(bitI BinOp.and IntKind.i64 (shrI IntKind.i64 (w:Int) (i:Int)) 1==1)=true:=hb
        refine pcZ hc (eC2t n tg' M A w cc G i k h) ?_ (ih (i+1) (k+1) _ cc G (by omega) (by omega) hcc hw he hn)
        and_intros
        all_goals (first | exact zI | (exact hd) | (exact hb') | (intro j hj;by_cases h':j<k<;>simp [h',snoc,cvtL,cvt,tg,tru,All]))
      | false =>
        rw [hb] at he
        have hb':(bitI BinOp.and IntKind.i64 (shrI IntKind.i64 (w:Int) (i:Int)) 1==1)=false:=hb
        refine pcZ hc (eC2f n tg' M A w cc G i k h) ?_ (ih (i+1) k _ cc G (by omega) (by omega) hcc hw he hn)
        and_intros
        all_goals (first | exact zN | (exact hd) | (exact hb') | (intro j hj;simp [All]))
  have hnx:∀ (w cc:Nat) (G:Nat→T_BarS) {d:Nat},w+(d+1)=2 ^ M→cc≤w→gEn n M A (w+1) d (bif (bif ((bF w A 0 M zB).1:Int)==maxI n then mrG ((n:Int),bF w A 0 M zB,()) else false) then (cc+1,snocB cc G (bF w A 0 M zB)) else (cc,G))=R →
      (∀ w cc G,w+d=2 ^ M→cc≤w→gEn n M A w d (cc,G)=R →
        zR c 122 zf72 (SRgs n tg' M A w cc G) (Post c [(0,gsOb n R.1 R.2)] (.ar 2 0 0 R.1))) →
      ∀ cc' G',(bif (bif ((bF w A 0 M zB).1:Int)==maxI n then mrG ((n:Int),bF w A 0 M zB,()) else false) then (cc+1,snocB cc G (bF w A 0 M zB)) else (cc,G))=(cc',G') →
        zR c 122 zf72 (SRgs n tg' M A (w+1) cc' G') (Post c [(0,gsOb n R.1 R.2)] (.ar 2 0 0 R.1)):=by
    intro w cc G d hw hcc he ih cc' G' h2
    refine ih (w+1) cc' G' (by omega) ?_ ?_
    · generalize (bif ((bF w A 0 M zB).1:Int)==maxI n then mrG ((n:Int),bF w A 0 M zB,()) else false)=b at h2
      cases b
      · cases h2;omega
      · cases h2;omega
    · rw [← h2];exact he
  have lo:∀ d w cc G,w+d=2 ^ M→cc≤w→gEn n M A w d (cc,G)=R →
      zR c 122 zf72 (SRgs n tg' M A w cc G) (Post c [(0,gsOb n R.1 R.2)] (.ar 2 0 0 R.1)):=by
    intro d
    induction d with
    | zero =>
      intro w cc G hw hcc he
      have hd:decide ((w:Int)<shlI .i64 1 (M:Int))=false:=by rw [hsh];exact decide_eq_false (by omega)
      rw [← he]
      refine pkZ Tryz.func122 hc (eCe n tg' M A w cc G) ?_
      and_intros
      iterate 2 all_goals (first | exact zN | (exact hd) | (intro j hj;simp [All]) | simp only [All])
    | succ d ih =>
      intro w cc G hw hcc he
      have hd:decide ((w:Int)<shlI .i64 1 (M:Int))=true:=by rw [hsh];exact decide_eq_true (by omega)
      rw [gEn] at he
      refine pcZ hc (eC1 n tg' M A w cc G) ?_ (li w M 0 0 _ cc G (by omega) (by omega) hcc (by omega) rfl (hnx w cc G hw hcc he ih))
      and_intros
      all_goals (first | exact zI | (exact hd) | (intro j hj;simp [All];done) | (intro j hj;exact absurd hj (Nat.not_lt_zero _)))
  refine pcZ hc (eCz n tg' M A) ?_ (lo (2 ^ M) 0 0 _ (by omega) (by omega) hR)
  and_intros
  iterate 2 all_goals (first | exact zN | (simp;done) | (intro j hj;exact absurd hj (Nat.not_lt_zero _)) | simp only [All])
theorem con_RigidGraphs_s (n:Int):zE 51 [.p (.int .i64 n)] [(0,gsOb n (rgG n).1 (rgG n).2)] (.tup [.ar 2 0 0 (rgG n).1,.p (.bool (inB n 1 5))]):=by
  have hin:=con_l1In n 1 5
  cases hb:inB n 1 5 with
  | false =>
    rw [hb] at hin
    rw [show rgG n=zG by rw [rgG,hb];rfl]
    refine csZ Tryz.func51 (fun c hc=>?_)
    refine pkZ Tryz.func51 hc (eDy n) ?_
    and_intros
    iterate 2 all_goals (first | exact zN | (exact hin) | (simp;done) | (intro j hj;exact absurd hj (Nat.not_lt_zero _)) | simp only [All])
  | true =>
    rw [hb] at hin
    have h15:1≤n∧n≤5:=by simpa [inB] using hb
    obtain ⟨m,rfl⟩:∃ m:Nat,n=(m:Int):=⟨n.toNat,by omega⟩
    rw [show rgG (m:Int)=gD m by rw [rgG,hb];rfl]
    have hcg:=con_Complete_s m (by omega) (by omega)
    have hM:=cgD_le m (by omega)
    have hch:=con_Choose m (maxI m) (cgD m).1 (cgD m).2 hM rfl
    refine csZ Tryz.func51 (fun c hc=>?_)
    refine pkZ Tryz.func51 hc (eDz m (cgD m).1 (cgD m).2 (gD m).1 (gD m).2) ?_
    and_intros
    iterate 2 all_goals (first | exact zN | (exact hin) | (exact hcg) | (exact hch) | (simp;done) | (intro j hj;simp [All]) | simp only [All])
theorem con_RigidGraphs_i (n:Int):zE 50 [.p (.int .i64 n)] [(0,gsOb n (rgG n).1 (rgG n).2)] (.tup [.ar 2 0 0 (rgG n).1,.p (.bool (inB n 1 5))]):=by
  have hin:=con_within n 1 5
  cases hb:inB n 1 5 with
  | false =>
    rw [hb] at hin
    rw [show rgG n=zG by rw [rgG,hb];rfl]
    refine csZ Tryz.func50 (fun c hc=>?_)
    refine pkZ Tryz.func50 hc (eIy n) ?_
    and_intros
    iterate 2 all_goals (first | exact zN | (exact hin) | (simp;done) | (intro j hj;exact absurd hj (Nat.not_lt_zero _)) | simp only [All])
  | true =>
    rw [hb] at hin
    have h15:1≤n∧n≤5:=by simpa [inB] using hb
    obtain ⟨m,rfl⟩:∃ m:Nat,n=(m:Int):=⟨n.toNat,by omega⟩
    rw [show rgG (m:Int)=gD m by rw [rgG,hb];rfl]
    have hcg:=con_Complete_i m (by omega) (by omega)
    have hM:=cgD_le m (by omega)
    unfold gD
    generalize (cgD m).1=M at hcg hM ⊢
    generalize (cgD m).2=A at hcg ⊢
    have hsh:=shl_pow M hM
    have hpw:=pow_le M hM
    refine csZ Tryz.func50 (fun c hc=>?_)
    generalize hR:gEn m M A 0 (2 ^ M) zG=R
    have lo:∀ d w cc G,w+d=2 ^ M→cc≤w→gEn m M A w d (cc,G)=R →
        zR c 50 zf32 (SRgi m M A w cc G) (Post c [(0,gsOb m R.1 R.2)] (.tup [.ar 2 0 0 R.1,.p (.bool true)])):=by
      intro d
      induction d with
      | zero =>
        intro w cc G hw hcc he
        have hd:decide ((w:Int)<shlI .i64 1 (M:Int))=false:=by rw [hsh];exact decide_eq_false (by omega)
        rw [← he]
        refine pkZ Tryz.func50 hc (eIe m M A w cc G) ?_
        and_intros
        iterate 2 all_goals (first | exact zN | (exact hd) | (intro j hj;simp [All]) | simp only [All])
      | succ d ih =>
        intro w cc G hw hcc he
        have hd:decide ((w:Int)<shlI .i64 1 (M:Int))=true:=by rw [hsh];exact decide_eq_true (by omega)
        rw [gEn] at he
        have hset:=con_setOfE w M (by omega)
        have hSn:=sF_n w A M 0 zB (0,fun _=>0) rfl
        have hSl:=sF_le w M 0 (0,fun _=>0)
        have hSh:=fun y=>has_sF w M 0 (0,fun _=>0) y
        generalize sF w 0 M (0,fun _=>0)=S at hset hSn hSl hSh
        have hob:=con_OnlyBars m M A S (by omega) (by simp only at hSl;omega)
        rw [obF_bF w S A M 0 zB (fun j h1 h2=>by rw [hSh j,decide_eq_true (by omega)];simp [hasI])] at hob
        have hmr:=con_IsMin_i ((m:Int),bF w A 0 M zB,()) (sm_bF m w A M hM)
        generalize bF w A 0 M zB=x at hob hmr he hSn
        rw [hSn] at he
        cases h1:((S.1:Int)==maxI m) with
        | false =>
          rw [h1] at he
          have h1':((S.1:Int) != maxI m)=true:=by rw [bne,h1];rfl
          refine pcZ hc (eI1 m M A w cc G S) ?_ (ih (w+1) cc G (by omega) (by omega) he)
          and_intros
          all_goals (first | exact zN | (exact hd) | (exact hset) | (exact h1') | (simp;done) | (intro j hj;simp [All]))
        | true =>
          rw [h1] at he
          have h1':((S.1:Int) != maxI m)=false:=by rw [bne,h1];rfl
          cases h2:mrG ((m:Int),x,()) with
          | true =>
            rw [h2] at he hmr
            refine pcZ hc (eI2 m M A w cc G S x) ?_ (ih (w+1) (cc+1) _ (by omega) (by omega) he)
            and_intros
            all_goals (first | exact zI | (exact hd) | (exact hset) | (exact h1') | (exact hob) | (exact hmr) | (simp;done) | (intro j hj;by_cases h':j<cc<;>simp [h',snocB,cvtL,cvt,lendP,cellP,tab,idx,idx1,lkk,idO,idM,Ob.isF,List.lookup,brOb,tg,tru,All];done) | (intro j hj;simp [All]))
          | false =>
            rw [h2] at he hmr
            refine pcZ hc (eI3 m M A w cc G S x) ?_ (ih (w+1) cc G (by omega) (by omega) he)
            and_intros
            all_goals (first | exact zI | (exact hd) | (exact hset) | (exact h1') | (exact hob) | (exact hmr) | (simp;done) | (intro j hj;simp [All]))
    refine pcZ hc (eIz m M A) ?_ (lo (2 ^ M) 0 0 _ (by omega) (by omega) hR)
    and_intros
    iterate 2 all_goals (first | exact zI | (exact hin) | (exact hcg) | rfl | (simp;done) | (intro j hj;exact absurd hj (Nat.not_lt_zero _)) | (intro j hj;simp [All]) | simp only [All])
noncomputable def crG (n:Int):Int:=bif inB n 1 5 then ((rgG n).1:Int) else -1
theorem con_CountRigid_s (n:Int):zE 53 [.p (.int .i64 n)] [] (.p (.int .i64 (crG n))):=by
  have h:=con_RigidGraphs_s n
  refine csZ Tryz.func53 (fun c hc=>?_)
  unfold crG
  cases hb:inB n 1 5 with
  | true =>
    rw [hb] at h
    refine pkZ Tryz.func53 hc (eNt_s n (rgG n).1 (rgG n).2) ?_
    and_intros
    all_goals (first | exact zN | (exact h) | rfl)
  | false =>
    rw [hb] at h
    refine pkZ Tryz.func53 hc (eNf_s n (rgG n).1 (rgG n).2) ?_
    and_intros
    all_goals (first | exact zN | (exact h) | rfl)
theorem con_CountRigid_i (n:Int):zE 52 [.p (.int .i64 n)] [] (.p (.int .i64 (crG n))):=by
  have h:=con_RigidGraphs_i n
  refine csZ Tryz.func52 (fun c hc=>?_)
  unfold crG
  cases hb:inB n 1 5 with
  | true =>
    rw [hb] at h
    refine pkZ Tryz.func52 hc (eNt_i n (rgG n).1 (rgG n).2) ?_
    and_intros
    all_goals (first | exact zN | (exact h) | rfl)
  | false =>
    rw [hb] at h
    refine pkZ Tryz.func52 hc (eNf_i n (rgG n).1 (rgG n).2) ?_
    and_intros
    all_goals (first | exact zN | (exact h) | rfl)
def sCol:ByteArray:=⟨#[58]⟩
def sDash:ByteArray:=⟨#[45]⟩
def gzA (g:Nat→T_Bar) (nb:Nat) (N:Int):AV:=.agg [.p (.int .i64 N),brL g nb]
def gzO (g:Nat→T_Bar) (nb:Nat) (N:Int):Ob:=⟨true,2,1,fun _=>[.p (.int .i64 N),brL g nb]⟩
def FGi (g:Nat→T_Bar) (nb:Nat) (N:Int) (i:Nat) (s:ByteArray):St :=
  ⟨[gzA g nb N,.pt 2 0 0 0,.p .any,.p (.str s)]++List.replicate 10 anyA++[brL g nb,.p (.int .i64 nb),.p (.int .i64 i)]++List.replicate 16 anyA,[(0,gzO g nb N)],1⟩
def FGs (g:Nat→T_Bar) (nb:Nat) (N:Int) (i:Nat) (s:ByteArray):St :=
  ⟨[gzA g nb N,.pt 2 0 0 0,.p .any,.p (.str s),.p (.int .i64 i)]++List.replicate 34 anyA,[(0,gzO g nb N)],1⟩
theorem yG0 (g:Nat→T_Bar) (nb:Nat) (N:Int) :
    zS Tryz.f124 [rg 2,rm [(1,oc [] (.p (.bool false)))] 1,.dec true,rg 1] [gzA g nb N] [] [] (.p (.str sE)) =
    some [(NT 0 1),zE 130 [(zf105 N nb g)] [] (.p (.bool false)),((!false)=true),(ByteArray.mk #[]=sE)]:=by kernel_rfl
theorem yGz (g:Nat→T_Bar) (nb:Nat) (N:Int) (t:ByteArray) :
    zT Tryz.f124 [rg 2,rm [(1,oc [] (.p (.bool true)))] 1,.dec false,rm [(2,oc [] (.p (.str t)))] 2,rg 4,.head] [gzA g nb N] [0] (FGi g nb N 0 (t++sCol)) =
    some (zf52,zD [(NT 0 1),zE 130 [(zf105 N nb g)] [] (.p (.bool true)),((!true)=false),zE 111 [.p (.int .i64 N)] [] (.p (.str t)),(NL (t.size+(ByteArray.mk #[58]).size) 9223372036854775807),(AI N),(AN nb),(AP nb (bRw g)),(AN 0),(t++ByteArray.mk #[58]=t++sCol),(AI ((↑nb:Int))),((0:Int)=(↑0:Int)),((([AV.p (PV.int IntKind.i64 N),brL g nb].length):Nat)=2),(NL 1 1)] [0,1,2,0,3,4,0,5,6,7,8,9,6,7,10,11,12,13,13,5,6,7]):=by kernel_rfl
theorem yGt (g:Nat→T_Bar) (nb:Nat) (N:Int) (i:Nat) (s t u:ByteArray) :
    zM 0 [rg 1,.dec true,rg 4,rm [(4,oc [] (.p (.str t))),(4,oc [] (.p (.str u)))] 2,rg 2,.head] zf52 (FGi g nb N i s) [0] 1 (FGi g nb N (i+1) ((((s++sSp)++t)++sDash)++u)) =
    some (zf52,[((decide ((↑i:Int)<(↑nb:Int)))=true),(IL 0 (↑i:Int)),(IT (↑i:Int) (↑nb:Int)),(NT 0 1),((true=true)→ (AN 1)),(NL (s.size+(ByteArray.mk #[32]).size) 9223372036854775807),(NT 0 1),zE 111 [.p (.int .i64 ((g i).1))] [] (.p (.str t)),(NL ((s++ByteArray.mk #[32]).size+t.size) 9223372036854775807),(NL ((s++ByteArray.mk #[32]++t).size+(ByteArray.mk #[45]).size) 9223372036854775807),(NT 0 1),zE 111 [.p (.int .i64 ((g i).2.1))] [] (.p (.str u)),(NL ((s++ByteArray.mk #[32]++t++ByteArray.mk #[45]).size+u.size) 9223372036854775807),(ZLo ((↑i:Int)+1)),(ZHi ((↑i:Int)+1)),(AI N),(AN nb),(AP nb (bRw g)),(AN 0),(s++ByteArray.mk #[32]++t++ByteArray.mk #[45]++u=s++sSp++t++sDash++u),(AN nb),(AP nb (bRw g)),(AI ((↑nb:Int))),((((↑i:Int)+1):Int)=(↑(i+1):Int)),(AN 2),(NL 1 1),(NL 1 1),(AI N),(AN nb),(AP nb (bRw g))]):=by kernel_rfl
theorem yGe (g:Nat→T_Bar) (nb:Nat) (N:Int) (i:Nat) (s:ByteArray) :
    zP Tryz.f124 0 [rg 1,.dec false,rg 2] zf52 (FGi g nb N i s) [] 1 [] (.p (.str s)) =
    some [((decide ((↑i:Int)<(↑nb:Int)))=false),(s=s)]:=by kernel_rfl
theorem zG0 (g:Nat→T_Bar) (nb:Nat) (N:Int) :
    zS Tryz.f126 [rg 2,rm [(1,oc [] (.p (.bool false)))] 1,.dec true,rg 1] [gzA g nb N] [] [] (.p (.str sE)) =
    some [(NT 0 1),zE 134 [(zf105 N nb g)] [] (.p (.bool false)),((!false)=true),(ByteArray.mk #[]=sE)]:=by kernel_rfl
theorem zGz (g:Nat→T_Bar) (nb:Nat) (N:Int) (t:ByteArray) :
    zT Tryz.f126 [rg 2,rm [(1,oc [] (.p (.bool true)))] 1,.dec false,rm [(2,oc [] (.p (.str t)))] 2,rg 1,.head] [gzA g nb N] [0] (FGs g nb N 0 (t++sCol)) =
    some (zf53,[(NT 0 1),zE 134 [(zf105 N nb g)] [] (.p (.bool true)),((!true)=false),(NT 0 1),zE 115 [.p (.int .i64 N)] [] (.p (.str t)),(NL (t.size+(ByteArray.mk #[58]).size) 9223372036854775807),(AI N),(AN nb),(AP nb (bRw g)),(AN 0),(t++ByteArray.mk #[58]=t++sCol),((0:Int)=(↑0:Int)),((([AV.p (PV.int IntKind.i64 N),brL g nb].length):Nat)=2),(NL 1 1),(NL 1 1),(AI N),(AN nb),(AP nb (bRw g))]):=by kernel_rfl
theorem zGt (g:Nat→T_Bar) (nb:Nat) (N:Int) (i:Nat) (s t u:ByteArray) :
    zM 0 [rg 5,.dec true,rm [(8,oc [] (.p (.str t))),(8,oc [] (.p (.str u)))] 2,rg 3,.head] zf53 (FGs g nb N i s) [0] 1 (FGs g nb N (i+1) ((((s++sSp)++t)++sDash)++u)) =
    some (zf53,zD [(NT 0 1),((decide ((↑i:Int)<(↑nb:Int)))=true),(NL (s.size+(ByteArray.mk #[32]).size) 9223372036854775807),(IL 0 (↑i:Int)),(IT (↑i:Int) (↑nb:Int)),zE 115 [.p (.int .i64 ((g i).1))] [] (.p (.str t)),(NL ((s++ByteArray.mk #[32]).size+t.size) 9223372036854775807),(NL ((s++ByteArray.mk #[32]++t).size+(ByteArray.mk #[45]).size) 9223372036854775807),zE 115 [.p (.int .i64 ((g i).2.1))] [] (.p (.str u)),(NL ((s++ByteArray.mk #[32]++t++ByteArray.mk #[45]).size+u.size) 9223372036854775807),(ZLo ((↑i:Int)+1)),(ZHi ((↑i:Int)+1)),(AI N),(AN nb),(AP nb (bRw g)),(AN 0),(s++ByteArray.mk #[32]++t++ByteArray.mk #[45]++u=s++sSp++t++sDash++u),((((↑i:Int)+1):Int)=(↑(i+1):Int)),(AN 2),(NL 1 1)] [0,1,2,0,3,4,5,6,7,0,3,4,8,9,10,11,12,13,14,15,16,17,18,19,19,12,13,14]):=by kernel_rfl
theorem zGe (g:Nat→T_Bar) (nb:Nat) (N:Int) (i:Nat) (s:ByteArray) :
    zP Tryz.f126 0 [rg 5,.dec false,rg 2] zf53 (FGs g nb N i s) [] 1 [] (.p (.str s)) =
    some [(NT 0 1),((decide ((↑i:Int)<(↑nb:Int)))=false),(s=s)]:=by kernel_rfl
theorem z32:(ByteArray.mk #[32]).size=1:=rfl
theorem z45:(ByteArray.mk #[45]).size=1:=rfl
theorem z58:(ByteArray.mk #[58]).size=1:=rfl
theorem zSp:sSp.size=1:=rfl
theorem zCol:sCol.size=1:=rfl
theorem zDash:sDash.size=1:=rfl
def grT (N:Int) (g:Nat→T_Bar):Nat→ByteArray
  | 0=>fmtI N++sCol
  | i+1=>(((grT N g i++sSp)++fmtI (g i).1)++sDash)++fmtI (g i).2.1
theorem grT_size (N:Int) (g:Nat→T_Bar):∀ i,(grT N g i).size≤22+i*44
  | 0=>by
    have:=fmt_size N
    rw [grT,ByteArray.size_append,zCol];omega
  | i+1=>by
    have:=grT_size N g i
    have h1:=fmt_size (g i).1
    have h2:=fmt_size (g i).2.1
    rw [grT]
    simp only [ByteArray.size_append,zSp,zDash]
    omega
def isG (g:Nat→T_Bar) (nb:Nat) (N:Int):Bool:=isGraphF (N,(nb,g),())
def gfB (g:Nat→T_Bar) (nb:Nat) (N:Int):ByteArray:=if isG g nb N=true then grT N g nb else sE
theorem isG_in {g:Nat→T_Bar} {nb:Nat} {N:Int} (h:isG g nb N=true):(1≤N∧N≤8)∧nb≤24∧∀ e,e<nb→0≤(g e).1∧(g e).1<(g e).2.1∧(g e).2.1<N:=by
  unfold isG at h
  have hN:1≤N:=by
    unfold isGraphF at h
    split at h
    case isFalse=>cases h
    rename_i hc
    have h4:=hc.1
    simp only [inB,Bool.and_eq_true,decide_eq_true_eq] at h4
    exact h4.1
  obtain ⟨M,rfl⟩:∃ M:Nat,N=M:=⟨N.toNat,by omega⟩
  obtain ⟨h1,h2,h3⟩:=graph_in h
  exact ⟨by omega,h2,h3⟩
theorem smG (g:Nat→T_Bar) (nb:Nat) (N:Int) (h:nb≤1048576):smS s_Graph (N,(nb,g),()):=⟨by simp [smS,smL],⟨h,fun i hi=>by simp [smS,smL]⟩,True.intro⟩
theorem con_FormatGraph_i (g:Nat→T_Bar) (nb:Nat) (N:Int) (hn:nb≤1048576):zE 124 [gzA g nb N] [] (.p (.str (gfB g nb N))):=by
  have hg:=con_IsGraph_i (N,(nb,g),()) (smG g nb N hn)
  change zE 130 [gzA g nb N] [] (.p (.bool (isG g nb N))) at hg
  refine csZ Tryz.func124 (fun c hc=>?_)
  cases hb:isG g nb N with
  | false =>
    rw [hb] at hg
    rw [show gfB g nb N=sE by simp [gfB,hb]]
    refine pkZ Tryz.func124 hc (yG0 g nb N) ?_
    and_intros
    all_goals (first | exact zN | (exact hg) | rfl)
  | true =>
    rw [hb] at hg
    rw [show gfB g nb N=grT N g nb by simp [gfB,hb]]
    obtain ⟨hN,hnb,hok⟩:=isG_in hb
    have lo:∀ d i,i+d=nb→zR c 124 zf52 (FGi g nb N i (grT N g i)) (Post c [] (.p (.str (grT N g nb)))):=by
      intro d
      induction d with
      | zero =>
        intro i hi
        obtain rfl:i=nb:=by omega
        have hd:decide ((i:Int)<(i:Int))=false:=by simp
        refine pkZ Tryz.func124 hc (yGe g i N i _) ?_
        and_intros
        all_goals (first | exact zN | (exact hd))
      | succ d ih =>
        intro i hi
        have hd:decide ((i:Int)<(nb:Int))=true:=decide_eq_true (by omega)
        have hrec:=ih (i+1) (by omega)
        have hbar:=hok i (by omega)
        have hz:=grT_size N g i
        have c1:=con_FormatInt_i (g i).1 (by omega) (by omega)
        have c2:=con_FormatInt_i (g i).2.1 (by omega) (by omega)
        have s1:=fmt_size (g i).1
        have s2:=fmt_size (g i).2.1
        rw [grT] at hrec
        generalize grT N g i=s at hrec hz ⊢
        generalize fmtI (g i).1=t at hrec c1 s1
        generalize fmtI (g i).2.1=u at hrec c2 s2
        refine pcZ hc (yGt g nb N i s t u) ?_ hrec
        and_intros
        all_goals (first | exact zI | (exact hd) | (exact c1) | (exact c2) | (simp only [ByteArray.size_append,z32,z45];omega) | (simp;omega))
    have c0:=con_FormatInt_i N (by omega) (by omega)
    have s0:=fmt_size N
    refine pcD hc (yGz g nb N (fmtI N)) ?_ (lo nb 0 (by omega))
    and_intros
    all_goals (first | exact zN | (exact hg) | (exact c0) | rfl | (simp only [ByteArray.size_append,z58];omega) | (simp;done))
theorem con_FormatGraph_s (g:Nat→T_Bar) (nb:Nat) (N:Int) (hn:nb≤1048576):zE 126 [gzA g nb N] [] (.p (.str (gfB g nb N))):=by
  have hg:=con_IsGraph_s (N,(nb,g),()) (smG g nb N hn)
  change zE 134 [gzA g nb N] [] (.p (.bool (isG g nb N))) at hg
  refine csZ Tryz.func126 (fun c hc=>?_)
  cases hb:isG g nb N with
  | false =>
    rw [hb] at hg
    rw [show gfB g nb N=sE by simp [gfB,hb]]
    refine pkZ Tryz.func126 hc (zG0 g nb N) ?_
    and_intros
    all_goals (first | exact zN | (exact hg) | rfl)
  | true =>
    rw [hb] at hg
    rw [show gfB g nb N=grT N g nb by simp [gfB,hb]]
    obtain ⟨hN,hnb,hok⟩:=isG_in hb
    have lo:∀ d i,i+d=nb→zR c 126 zf53 (FGs g nb N i (grT N g i)) (Post c [] (.p (.str (grT N g nb)))):=by
      intro d
      induction d with
      | zero =>
        intro i hi
        obtain rfl:i=nb:=by omega
        have hd:decide ((i:Int)<(i:Int))=false:=by simp
        refine pkZ Tryz.func126 hc (zGe g i N i _) ?_
        and_intros
        all_goals (first | exact zN | (exact hd))
      | succ d ih =>
        intro i hi
        have hd:decide ((i:Int)<(nb:Int))=true:=decide_eq_true (by omega)
        have hrec:=ih (i+1) (by omega)
        have hbar:=hok i (by omega)
        have hz:=grT_size N g i
        have c1:=con_FormatInt_s (g i).1 (by omega) (by omega)
        have c2:=con_FormatInt_s (g i).2.1 (by omega) (by omega)
        have s1:=fmt_size (g i).1
        have s2:=fmt_size (g i).2.1
        rw [grT] at hrec
        generalize grT N g i=s at hrec hz ⊢
        generalize fmtI (g i).1=t at hrec c1 s1
        generalize fmtI (g i).2.1=u at hrec c2 s2
        refine pcD hc (zGt g nb N i s t u) ?_ hrec
        and_intros
        all_goals (first | exact zN | (exact hd) | (exact c1) | (exact c2) | (simp only [ByteArray.size_append,z32,z45];omega) | (simp;omega))
    have c0:=con_FormatInt_s N (by omega) (by omega)
    have s0:=fmt_size N
    refine pcZ hc (zGz g nb N (fmtI N)) ?_ (lo nb 0 (by omega))
    and_intros
    all_goals (first | exact zN | (exact hg) | (exact c0) | rfl | (simp only [ByteArray.size_append,z58];omega) | (simp;done))
def stOt (n:Nat) (f:Nat→ByteArray):Ob:=⟨false,1,n,fun i=>[.p (.str (f i))]⟩
def stLt (n:Nat) (f:Nat→ByteArray):AV:=.p (.seq true 1 n (fun i=>[.str (f i)]))
def snT (n:Nat) (h:Nat→ByteArray) (x:ByteArray) (s:Nat):ByteArray:=if s<n then h s else x
def SKx (n:Nat) (f:Nat→ByteArray) (x:ByteArray) (k:Nat):St :=
  ⟨[stLt n f,.p (.str x)]++List.replicate 4 anyA++[stLt n f,.p (.int .i64 n),.p (.int .i64 k)]++List.replicate 10 anyA,[],0⟩
def SKi (n:Int) (i c m:Nat) (f:Nat→ByteArray) (G:Nat→T_BarS):St :=
  ⟨[.p (.int .i64 n),.p .any,.p .any,.ar 1 0 0 c,.ar 2 1 0 m]++List.replicate 15 anyA++[.ar 2 1 0 m,.p (.int .i64 m),.p (.int .i64 i)]++List.replicate 20 anyA,[(0,stOt c f),(1,gsOb n m G)],2⟩
def SKs (n:Int) (i c m:Nat) (f:Nat→ByteArray) (G:Nat→T_BarS):St :=
  ⟨[.p (.int .i64 n),.p .any,.p .any,.ar 1 0 0 c,.ar 2 1 0 m,.p .any,.p (.int .i64 i)]++List.replicate 53 anyA,[(0,stOt c f),(1,gsOb n m G)],2⟩
def SKs1 (n:Int) (i c m:Nat) (f:Nat→ByteArray) (G:Nat→T_BarS) (s:ByteArray) (b:Bool) (k:Nat):St :=
  ⟨[.p (.int .i64 n),.p .any,.p .any,.ar 1 0 0 c,.ar 2 1 0 m,.p .any,.p (.int .i64 i),.p .any,.p .any,.p (.str s),.p (.bool b),.p (.int .i64 k)]++List.replicate 48 anyA,[(0,stOt c f),(1,gsOb n m G)],2⟩
theorem kXa (n:Nat) (f:Nat→ByteArray) (x:ByteArray) :
    zT Tryz.f169 [rg 1,rg 3,.head] [stLt n f,.p (.str x)] [] (SKx n f x 0) =
    some (zf88,zD [(AN n),(AP n (fun i=>[.str (f i)])),(x=x),(AI ((↑n:Int))),((0:Int)=(↑0:Int))] [0,1,2,0,1,3,4]):=by kernel_rfl
theorem kXb (n:Nat) (f:Nat→ByteArray) (x:ByteArray) (k:Nat) :
    zM 0 [rg 1,.dec true,rg 2,rg 6,.dec false,rg 2,.head] zf88 (SKx n f x k) [] 1 (SKx n f x (k+1)) =
    some (zf88,[((decide ((↑k:Int)<(↑n:Int)))=true),(IL 0 (↑k:Int)),(IT (↑k:Int) (↑n:Int)),((x.toList==(f k).toList)=false),(ZLo ((↑k:Int)+1)),(ZHi ((↑k:Int)+1)),(AN n),(AP n (fun i=>[.str (f i)])),(x=x),(AN n),(AP n (fun i=>[.str (f i)])),(AI ((↑n:Int))),((((↑k:Int)+1):Int)=(↑(k+1):Int))]):=by kernel_rfl
theorem kXc (n:Nat) (f:Nat→ByteArray) (x:ByteArray) (k:Nat) :
    zP Tryz.f169 0 [rg 1,.dec true,rg 2,rg 6,.dec true,rg 2] zf88 (SKx n f x k) [] 1 [] (.p (.int .i64 k)) =
    some [((decide ((↑k:Int)<(↑n:Int)))=true),(IL 0 (↑k:Int)),(IT (↑k:Int) (↑n:Int)),((x.toList==(f k).toList)=true),(AI ((↑k:Int)))]:=by kernel_rfl
theorem kXd (n:Nat) (f:Nat→ByteArray) (x:ByteArray) (k:Nat) :
    zP Tryz.f169 0 [rg 1,.dec false,rg 1] zf88 (SKx n f x k) [] 1 [] (.p (.int .i64 (-1))) =
    some [((decide ((↑k:Int)<(↑n:Int)))=false),(AI ((-1)))]:=by kernel_rfl
theorem kXe (n:Nat) (f:Nat→ByteArray) (x:ByteArray) (r:Int) :
    zS Tryz.f125 [rg 1,rm [(2,oc [] (.p (.int .i64 r)))] 2] [stLt n f,.p (.str x)] [] [] (.p (.bool (decide (r≥0)))) =
    some [zE 169 [.p (.seq true 1 n (fun i=>[.str (f i)])),.p (.str x)] [] (.p (.int .i64 r)),((decide (r≥0))=(decide (r≥0)))]:=by kernel_rfl
theorem kIy (n:Int) :
    zS Tryz.f55 [rg 1,rg 2,rg 2,.dec true,rg 2] [.p (.int .i64 n)] [32] [(0,stOt 0 (fun _=>⟨#[]⟩))] (.ar 1 0 0 0) =
    some [((decide (n>4))=true),(AN 0),(AN 0),(AN 1),(NL 0 0),(AA 0 (fun i=>[.p (.str (ByteArray.mk #[]))])),(AE 0)]:=by kernel_rfl
theorem kIz (n:Int) (m:Nat) (G:Nat→T_BarS) (q:Bool) :
    zT Tryz.f55 [rg 1,rg 2,rg 2,.dec false,rm [(1,oc [(0,gsOb n m G)] (.tup [.ar 2 0 0 m,.p (.bool q)]))] 5,rg 3,.head] [.p (.int .i64 n)] [32,192] (SKi n 0 0 m (fun _=>⟨#[]⟩) G) =
    some (zf33,[((decide (n>4))=false),zE 50 [.p (.int .i64 n)] (zf58 m n G) (.tup [.ar 2 0 0 m,.p (.bool q)]),(AI n),(AN 0),(AN 0),(AN 0),(AN m),(AN 0),(AN m),(AI ((↑m:Int))),((0:Int)=(↑0:Int)),(AN 1),(NL 0 0),(AA 0 (fun i=>[.p (.str (ByteArray.mk #[]))])),(AN 2),(NL m m),(AA m (fun i=>[.p (.int .i64 n),.p (.seq false 2 ((G i).1) (fun i_1=>[.int .i64 (((G i).2 i_1).1),.int .i64 (((G i).2 i_1).2.1)]))]))]):=by kernel_rfl
theorem kIa (n:Int) (i c m:Nat) (f:Nat→ByteArray) (G:Nat→T_BarS) (u:T_Graph) (q:Bool) (s:ByteArray) :
    zM 0 [rg 1,.dec true,rg 4,rm [(1,oc [(0,brOb u.2.1.1 u.2.1.2)] (zf116 u q))] 6,rm [(1,oc [] (.p (.str s)))] 1,rm [(2,oc [] (.p (.bool false)))] 1,.dec true,rg 5,rg 2,.head] zf33 (SKi n i c m f G) [738,1] 1 (SKi n (i+1) (c+1) m (snT c f s) G) =
    some (zf33,[((decide ((↑i:Int)<(↑m:Int)))=true),(IL 0 (↑i:Int)),(IT (↑i:Int) (↑m:Int)),(NT i m),(NT 0 1),((true=true)→ (AN 1)),(NT 0 1),zE 68 [(zf93 n G i)] (zf100 u) ((zf116 u q)),(NT 0 1),((true=true)→ (AN 1)),(NT 0 1),(AN 2),(NL u.2.1.1 u.2.1.1),zE 124 [(zf94 u)] [] (.p (.str s)),(AN 1),(NL c c),zE 125 [.p (.seq true 1 c (fun i_1=>[.str (f i_1)])),.p (.str s)] [] (.p (.bool false)),((!false)=true),(NL 1 1),(NL c c),(NL ((c+1)*16) 140737488355328),(NL (c+1) 9223372036854775807),(ZLo ((↑i:Int)+1)),(ZHi ((↑i:Int)+1)),(AI n),(AN 0),(AN ((c+1))),(AN 0),(AN m),(AN 0),(AN m),(AI ((↑m:Int))),((((↑i:Int)+1):Int)=(↑(i+1):Int)),(AN 1),(NL (c+1) (c+1)),(CV [(738,⟨false,1,(c+1),(fun i_2=>(if (i_2<c) then [.p (.str (f i_2))] else [.p (.str s)]))⟩),(706,⟨false,1,1,(fun i_2=>[.p (.str s)])⟩),(322,⟨true,2,1,(fun i_2=>[.p (.int .i64 u.1),.ar 2 194 0 u.2.1.1])⟩),(194,⟨false,2,u.2.1.1,(fun i_2=>[.p (.int .i64 ((u.2.1.2 i_2).1)),.p (.int .i64 ((u.2.1.2 i_2).2.1))])⟩),(98,⟨true,2,1,(fun i_2=>[.p (.int .i64 n),.p (.seq false 2 ((G i).1) (fun i_3=>[.int .i64 (((G i).2 i_3).1),.int .i64 (((G i).2 i_3).2.1)]))])⟩),(1,⟨false,2,m,(fun i_2=>[.p (.int .i64 n),.p (.seq false 2 ((G i_2).1) (fun i_3=>[.int .i64 (((G i_2).2 i_3).1),.int .i64 (((G i_2).2 i_3).2.1)]))])⟩)] [738,1] 1 (c+1) (fun i_1=>if (i_1<c) then [.p (.str (f i_1))] else [.p (.str s)]) (fun i_1=>[.p (.str (snT c f s i_1))])),(AN 2),(NL m m),(AA m (fun i_1=>[.p (.int .i64 n),.p (.seq false 2 ((G i_1).1) (fun i_2=>[.int .i64 (((G i_1).2 i_2).1),.int .i64 (((G i_1).2 i_2).2.1)]))]))]):=by kernel_rfl
theorem kIb (n:Int) (i c m:Nat) (f:Nat→ByteArray) (G:Nat→T_BarS) (u:T_Graph) (q:Bool) (s:ByteArray) :
    zM 0 [rg 1,.dec true,rg 4,rm [(1,oc [(0,brOb u.2.1.1 u.2.1.2)] (zf116 u q))] 6,rm [(1,oc [] (.p (.str s)))] 1,rm [(2,oc [] (.p (.bool true)))] 1,.dec false,rg 2,.head] zf33 (SKi n i c m f G) [0,1] 1 (SKi n (i+1) c m f G) =
    some (zf33,[((decide ((↑i:Int)<(↑m:Int)))=true),(IL 0 (↑i:Int)),(IT (↑i:Int) (↑m:Int)),(NT i m),(NT 0 1),((true=true)→ (AN 1)),(NT 0 1),zE 68 [(zf93 n G i)] (zf100 u) ((zf116 u q)),(NT 0 1),((true=true)→ (AN 1)),(NT 0 1),(AN 2),(NL u.2.1.1 u.2.1.1),zE 124 [(zf94 u)] [] (.p (.str s)),(AN 1),(NL c c),zE 125 [.p (.seq true 1 c (fun i_1=>[.str (f i_1)])),.p (.str s)] [] (.p (.bool true)),((!true)=false),(ZLo ((↑i:Int)+1)),(ZHi ((↑i:Int)+1)),(AI n),(AN 0),(AN c),(AN 0),(AN m),(AN 0),(AN m),(AI ((↑m:Int))),((((↑i:Int)+1):Int)=(↑(i+1):Int)),(AN 1),(NL c c),(AA c (fun i_1=>[.p (.str (f i_1))])),(AN 2),(NL m m),(AA m (fun i_1=>[.p (.int .i64 n),.p (.seq false 2 ((G i_1).1) (fun i_2=>[.int .i64 (((G i_1).2 i_2).1),.int .i64 (((G i_1).2 i_2).2.1)]))]))]):=by kernel_rfl
theorem kIe (n:Int) (i c m:Nat) (f:Nat→ByteArray) (G:Nat→T_BarS) :
    zP Tryz.f55 0 [rg 1,.dec false,rg 2] zf33 (SKi n i c m f G) [0] 1 [(0,stOt c f)] (.ar 1 0 0 c) =
    some [((decide ((↑i:Int)<(↑m:Int)))=false),(AN 0),(AN c),(AN 1),(NL c c),(AA c (fun i_1=>[.p (.str (f i_1))])),(AE c)]:=by kernel_rfl
theorem kSz (n:Int) (m:Nat) (G:Nat→T_BarS) (q:Bool) :
    zT Tryz.f56 [rg 1,rg 2,rm [(1,oc [(0,gsOb n m G)] (.tup [.ar 2 0 0 m,.p (.bool q)]))] 5,rg 1,.head] [.p (.int .i64 n)] [32,128] (SKs n 0 0 m (fun _=>⟨#[]⟩) G) =
    some (zf57,[zE 51 [.p (.int .i64 n)] (zf58 m n G) (.tup [.ar 2 0 0 m,.p (.bool q)]),(AI n),(AN 0),(AN 0),(AN 0),(AN m),((0:Int)=(↑0:Int)),(AN 1),(NL 0 0),(AA 0 (fun i=>[.p (.str (ByteArray.mk #[]))])),(AN 2),(NL m m),(AA m (fun i=>[.p (.int .i64 n),.p (.seq false 2 ((G i).1) (fun i_1=>[.int .i64 (((G i).2 i_1).1),.int .i64 (((G i).2 i_1).2.1)]))]))]):=by kernel_rfl
theorem kSa (n:Int) (i c m:Nat) (f:Nat→ByteArray) (G:Nat→T_BarS) (u:T_Graph) (q:Bool) (s:ByteArray) :
    zM 0 [rg 8,.dec true,rm [(4,oc [(0,brOb u.2.1.1 u.2.1.2)] (zf116 u q))] 6,rm [(1,oc [] (.p (.str s)))] 1,rg 1,rg 1,.head] zf57 (SKs n i c m f G) [0,1] 1 (SKs1 n i c m f G s false 0) =
    some (zf5,[(AG (decide ((↑i:Int)<(↑m:Int)))),(AG (decide ((↑i:Int)<(↑m:Int)))),((bif decide ((↑i:Int)<(↑m:Int)) then decide (n≤4) else false)=true),(IL 0 (↑i:Int)),(IT (↑i:Int) (↑m:Int)),(NT i m),zE 69 [(zf93 n G i)] (zf100 u) ((zf116 u q)),(NT 0 1),((true=true)→ (AN 1)),(NT 0 1),(AN 2),(NL u.2.1.1 u.2.1.1),zE 126 [(zf94 u)] [] (.p (.str s)),(AI n),(AN 0),(AN c),(AN 0),(AN m),(AI ((↑i:Int))),(s=s),(false=false),((0:Int)=(↑0:Int)),(AN 1),(NL c c),(AA c (fun i_1=>[.p (.str (f i_1))])),(AN 2),(NL m m),(AA m (fun i_1=>[.p (.int .i64 n),.p (.seq false 2 ((G i_1).1) (fun i_2=>[.int .i64 (((G i_1).2 i_2).1),.int .i64 (((G i_1).2 i_2).2.1)]))]))]):=by kernel_rfl
theorem kSb (n:Int) (i c m:Nat) (f:Nat→ByteArray) (G:Nat→T_BarS) (s:ByteArray) (b:Bool) (k:Nat) :
    zM 0 [rg 4,.dec true,rg 10,rg 3,.head] zf5 (SKs1 n i c m f G s b k) [0,1] 1 (SKs1 n i c m f G s (bif b then true else ((f k).toList==s.toList)) (k+1)) =
    some (zf5,[((decide ((↑k:Int)<(↑c:Int)))=true),(AG (!b)),(AG (!b)),(((!b)=true)→(IL 0 (↑k:Int))),(((!b)=true)→(IT (↑k:Int) (↑c:Int))),(AG (!b)),(((!b)=true)→(NT k c)),(AG (!b)),(AG (!b)),((b=false)→ ((!b)=true)),(ZLo ((↑k:Int)+1)),(ZHi ((↑k:Int)+1)),(AI n),(AN 0),(AN c),(AN 0),(AN m),(AI ((↑i:Int))),(s=s),((bif b then true else (f k).toList==s.toList)=(bif b then true else (f k).toList==s.toList)),((((↑k:Int)+1):Int)=(↑(k+1):Int)),(AN 1),(NL c c),(AA c (fun i_1=>[.p (.str (f i_1))])),(AN 2),(NL m m),(AA m (fun i_1=>[.p (.int .i64 n),.p (.seq false 2 ((G i_1).1) (fun i_2=>[.int .i64 (((G i_1).2 i_2).1),.int .i64 (((G i_1).2 i_2).2.1)]))]))]):=by kernel_rfl
theorem kSc (n:Int) (i c m:Nat) (f:Nat→ByteArray) (G:Nat→T_BarS) (s:ByteArray) (k:Nat) :
    zM 0 [rg 4,.dec false,rg 2,.dec true,rg 5,rg 3,.head] zf5 (SKs1 n i c m f G s false k) [290,1] 1 (SKs n (i+1) (c+1) m (snT c f s) G) =
    some (zf57,[((decide ((↑k:Int)<(↑c:Int)))=false),((!false)=true),(NL 1 1),(NL c c),(NL ((c+1)*16) 140737488355328),(NL (c+1) 9223372036854775807),(ZLo ((↑i:Int)+1)),(ZHi ((↑i:Int)+1)),(AI n),(AN 0),(AN ((c+1))),(AN 0),(AN m),((((↑i:Int)+1):Int)=(↑(i+1):Int)),(AN 1),(NL (c+1) (c+1)),(CV [(290,⟨false,1,(c+1),(fun i_2=>(if (i_2<c) then [.p (.str (f i_2))] else [.p (.str s)]))⟩),(258,⟨false,1,1,(fun i_2=>[.p (.str s)])⟩),(1,⟨false,2,m,(fun i_2=>[.p (.int .i64 n),.p (.seq false 2 ((G i_2).1) (fun i_3=>[.int .i64 (((G i_2).2 i_3).1),.int .i64 (((G i_2).2 i_3).2.1)]))])⟩)] [290,1] 1 (c+1) (fun i_1=>if (i_1<c) then [.p (.str (f i_1))] else [.p (.str s)]) (fun i_1=>[.p (.str (snT c f s i_1))])),(AN 2),(NL m m),(AA m (fun i_1=>[.p (.int .i64 n),.p (.seq false 2 ((G i_1).1) (fun i_2=>[.int .i64 (((G i_1).2 i_2).1),.int .i64 (((G i_1).2 i_2).2.1)]))]))]):=by kernel_rfl
theorem kSd (n:Int) (i c m:Nat) (f:Nat→ByteArray) (G:Nat→T_BarS) (s:ByteArray) (k:Nat) :
    zM 0 [rg 4,.dec false,rg 2,.dec false,rg 3,.head] zf5 (SKs1 n i c m f G s true k) [0,1] 1 (SKs n (i+1) c m f G) =
    some (zf57,[((decide ((↑k:Int)<(↑c:Int)))=false),((!true)=false),(ZLo ((↑i:Int)+1)),(ZHi ((↑i:Int)+1)),(AI n),(AN 0),(AN c),(AN 0),(AN m),((((↑i:Int)+1):Int)=(↑(i+1):Int)),(AN 1),(NL c c),(AA c (fun i_1=>[.p (.str (f i_1))])),(AN 2),(NL m m),(AA m (fun i_1=>[.p (.int .i64 n),.p (.seq false 2 ((G i_1).1) (fun i_2=>[.int .i64 (((G i_1).2 i_2).1),.int .i64 (((G i_1).2 i_2).2.1)]))]))]):=by kernel_rfl
theorem kSe (n:Int) (i c m:Nat) (f:Nat→ByteArray) (G:Nat→T_BarS) :
    zP Tryz.f56 0 [rg 8,.dec false,rg 2] zf57 (SKs n i c m f G) [0] 1 [(0,stOt c f)] (.ar 1 0 0 c) =
    some (zD [(AG (decide ((↑i:Int)<(↑m:Int)))),((bif decide ((↑i:Int)<(↑m:Int)) then decide (n≤4) else false)=false),(AN 0),(AN c),(AN 1),(NL c c),(AA c (fun i_1=>[.p (.str (f i_1))])),(AE c)] [0,0,1,2,3,4,5,6,7]):=by kernel_rfl
def hasT (f:Nat→ByteArray) (x:ByteArray):Nat→Bool
  | 0=>false
  | k+1=>bif hasT f x k then true else ((f k).toList==x.toList)
theorem beqT (a b:List UInt8):(a==b)=(b==a):=by
  cases h:(a==b) with
  | true=>rw [beq_iff_eq] at h;subst h;simp
  | false =>
    have:¬ b=a:=fun e=>by rw [e] at h;simp at h
    simp [this]
theorem hasT_hit (f:Nat→ByteArray) (x:ByteArray) (k:Nat) (h:((f k).toList==x.toList)=true):∀ n,k<n→hasT f x n=true
  | 0,h'=>absurd h' (Nat.not_lt_zero _)
  | n+1,h'=>by
    simp only [hasT]
    by_cases e:k=n
    · subst e;rw [h];cases hasT f x k<;>rfl
    · rw [hasT_hit f x k h n (by omega)];rfl
theorem con_IndexT (n:Nat) (f:Nat→ByteArray) (x:ByteArray) (hn:n≤1048576):∃ r:Int,decide (r≥0)=hasT f x n∧zE 169 [stLt n f,.p (.str x)] [] (.p (.int .i64 r)):=by
  by_cases hh:hasT f x n=true
  · have ex:∃ k,k<n∧((f k).toList==x.toList)=true∧∀ j,j<k→((f j).toList==x.toList)=false:=by
      have:∀ n,hasT f x n=true→∃ k,k<n∧((f k).toList==x.toList)=true∧∀ j,j<k→((f j).toList==x.toList)=false:=by
        intro n
        induction n with
        | zero=>intro h;cases h
        | succ n ih =>
          intro h
          cases h':hasT f x n with
          | true =>
            obtain ⟨k,h1,h2,h3⟩:=ih h'
            exact ⟨k,by omega,h2,h3⟩
          | false =>
            rw [hasT,h',cond_false] at h
            refine ⟨n,by omega,h,fun j hj=>?_⟩
            cases e:((f j).toList==x.toList) with
            | false=>rfl
            | true=>rw [hasT_hit f x j e n hj] at h';cases h'
      exact this n hh
    obtain ⟨k,h1,h2,h3⟩:=ex
    refine ⟨k,by rw [hh];exact decide_eq_true (by omega),?_⟩
    refine csZ Tryz.func169 (fun c hc=>?_)
    have lo:∀ d j,j+d=k→zR c 169 zf88 (SKx n f x j) (Post c [] (.p (.int .i64 k))):=by
      intro d
      induction d with
      | zero =>
        intro j hj
        obtain rfl:j=k:=by omega
        have hd:decide ((j:Int)<(n:Int))=true:=decide_eq_true (by omega)
        rw [beqT] at h2
        refine pkZ Tryz.func169 hc (kXc n f x j) ?_
        and_intros
        all_goals (first | exact zN | (exact hd) | (exact h2))
      | succ d ih =>
        intro j hj
        have hd:decide ((j:Int)<(n:Int))=true:=decide_eq_true (by omega)
        have h4:=h3 j (by omega)
        rw [beqT] at h4
        refine pcZ hc (kXb n f x j) ?_ (ih (j+1) (by omega))
        and_intros
        all_goals (first | exact zN | (exact hd) | (exact h4) | (intro t ht;simp [All]))
    refine pcD hc (kXa n f x) ?_ (lo k 0 (by omega))
    and_intros
    all_goals (first | exact zN | (intro t ht;simp [All]))
  · have hh:hasT f x n=false:=by simpa using hh
    refine ⟨-1,by rw [hh];rfl,?_⟩
    refine csZ Tryz.func169 (fun c hc=>?_)
    have lo:∀ d j,j+d=n→zR c 169 zf88 (SKx n f x j) (Post c [] (.p (.int .i64 (-1)))):=by
      intro d
      induction d with
      | zero =>
        intro j hj
        obtain rfl:j=n:=by omega
        have hd:decide ((j:Int)<(j:Int))=false:=by simp
        refine pkZ Tryz.func169 hc (kXd j f x j) ?_
        and_intros
        all_goals (first | exact zN | (exact hd))
      | succ d ih =>
        intro j hj
        have hd:decide ((j:Int)<(n:Int))=true:=decide_eq_true (by omega)
        have h4:((f j).toList==x.toList)=false:=by
          cases e:((f j).toList==x.toList) with
          | false=>rfl
          | true=>rw [hasT_hit f x j e n (by omega)] at hh;cases hh
        rw [beqT] at h4
        refine pcZ hc (kXb n f x j) ?_ (ih (j+1) (by omega))
        and_intros
        all_goals (first | exact zN | (exact hd) | (exact h4) | (intro t ht;simp [All]))
    refine pcD hc (kXa n f x) ?_ (lo n 0 (by omega))
    and_intros
    all_goals (first | exact zN | (intro t ht;simp [All]))
theorem con_ContainsT (n:Nat) (f:Nat→ByteArray) (x:ByteArray) (hn:n≤1048576):zE 125 [stLt n f,.p (.str x)] [] (.p (.bool (hasT f x n))):=by
  obtain ⟨r,hr,hcon⟩:=con_IndexT n f x hn
  rw [← hr]
  refine csZ Tryz.func125 (fun c hc=>?_)
  refine pkZ Tryz.func125 hc (kXe n f x r) ?_
  and_intros
  all_goals (first | exact zN | (exact hcon))
theorem gF_in (n M:Nat) (A:Nat→T_Bar) (hM:M≤10):∀ d w (x:Nat×(Nat→T_BarS)),x.1≤w→(∀ i,i<x.1→(x.2 i).1≤1048576)→(gEn n M A w d x).1≤w+d∧∀ i,i<(gEn n M A w d x).1→((gEn n M A w d x).2 i).1≤1048576
  | 0,w,x,h1,h2=>⟨h1,h2⟩
  | d+1,w,x,h1,h2=>by
    rw [gEn]
    have hsm:=(sm_bF n w A M hM).2.1.1
    have ih:=fun y h1 h2=>gF_in n M A hM d (w+1) y h1 h2
    generalize (bif ((bF w A 0 M zB).1:Int)==maxI n then mrG ((n:Int),bF w A 0 M zB,()) else false)=b at *
    cases b with
    | false =>
      rw [cond_false]
      have:=ih x (by omega) h2
      exact ⟨by omega,this.2⟩
    | true =>
      rw [cond_true]
      have:=ih (x.1+1,snocB x.1 x.2 (bF w A 0 M zB)) (by show x.1+1≤_;omega) (fun i hi=>by
        show (if i<x.1 then (x.2 i).1 else (bF w A 0 M zB).1)≤_
        split
        · rename_i h;exact h2 i h
        · exact hsm)
      exact ⟨by omega,this.2⟩
theorem rgG_in (n:Int):(rgG n).1≤1024∧∀ i,i<(rgG n).1→((rgG n).2 i).1≤1048576:=by
  unfold rgG
  cases hb:inB n 1 5 with
  | false=>exact ⟨Nat.zero_le _,fun i hi=>absurd hi (Nat.not_lt_zero _)⟩
  | true =>
    have h15:1≤n∧n≤5:=by simpa [inB] using hb
    have hM:=cgD_le n.toNat (by omega)
    have:=gF_in n.toNat (cgD n.toNat).1 (cgD n.toNat).2 hM (2 ^ (cgD n.toNat).1) 0 zG (Nat.le_refl _) (fun i hi=>absurd hi (Nat.not_lt_zero _))
    have hp:=pow_le (cgD n.toNat).1 hM
    exact ⟨by show (gD n.toNat).1≤_;unfold gD;omega,this.2⟩
abbrev LT:=Nat×(Nat→ByteArray)
noncomputable def kdS (n:Int) (G:Nat→T_BarS) (i:Nat):ByteArray:=gfB (cnG (n,G i,())).2.1.2 (cnG (n,G i,())).2.1.1 (cnG (n,G i,())).1
noncomputable def kdD (n:Int) (G:Nat→T_BarS):Nat→LT
  | 0=>(0,fun _=>⟨#[]⟩)
  | i+1=>if hasT (kdD n G i).2 (kdS n G i) (kdD n G i).1=true then kdD n G i else ((kdD n G i).1+1,snT (kdD n G i).1 (kdD n G i).2 (kdS n G i))
noncomputable def kdR (n:Int):LT:=if n>4 then (0,fun _=>⟨#[]⟩) else kdD n (rgG n).2 (rgG n).1
theorem kdD_n (n:Int) (G:Nat→T_BarS):∀ i,(kdD n G i).1≤i
  | 0=>Nat.le_refl _
  | i+1=>by
    have:=kdD_n n G i
    simp only [kdD]
    split
    · omega
    · show (kdD n G i).1+1≤_;omega
theorem kdR_n (n:Int):(kdR n).1≤1024:=by
  unfold kdR
  split
  · exact Nat.zero_le _
  · have:=kdD_n n (rgG n).2 (rgG n).1
    have:=(rgG_in n).1
    omega
theorem con_Kinds_i (n:Int):zE 55 [.p (.int .i64 n)] [(0,stOt (kdR n).1 (kdR n).2)] (.ar 1 0 0 (kdR n).1):=by
  refine csZ Tryz.func55 (fun c hc=>?_)
  by_cases hn:n>4
  · rw [show kdR n=(0,fun _=>⟨#[]⟩) by simp [kdR,hn]]
    have hd:decide (n>4)=true:=decide_eq_true hn
    refine pkZ Tryz.func55 hc (kIy n) ?_
    and_intros
    all_goals (first | exact zN | (exact hd) | (intro t ht;exact absurd ht (Nat.not_lt_zero _)))
  · rw [show kdR n=kdD n (rgG n).2 (rgG n).1 by simp [kdR,hn]]
    have hd:decide (n>4)=false:=decide_eq_false hn
    have cr:=con_RigidGraphs_i n
    have hin:=rgG_in n
    generalize rgG n=Q at *
    generalize hR:kdD n Q.2 Q.1=R
    have lo:∀ d i,i+d=Q.1→zR c 55 zf33 (SKi n i (kdD n Q.2 i).1 Q.1 (kdD n Q.2 i).2 Q.2) (Post c [(0,stOt R.1 R.2)] (.ar 1 0 0 R.1)):=by
      intro d
      induction d with
      | zero =>
        intro i hi
        obtain rfl:i=Q.1:=by omega
        have hd0:decide ((Q.1:Int)<(Q.1:Int))=false:=by simp
        rw [hR]
        refine pkZ Tryz.func55 hc (kIe n Q.1 R.1 Q.1 R.2 Q.2) ?_
        and_intros
        all_goals (first | exact zN | (exact hd0) | (intros;simp [All,ntAL,ntA,ntP,ntL];done))
      | succ d ih =>
        intro i hi
        have hrec:=ih (i+1) (by omega)
        have hd0:decide ((i:Int)<(Q.1:Int))=true:=decide_eq_true (by omega)
        have hcn:=cnG_n (n,Q.2 i,())
        have c1:=con_Canon_i (n,Q.2 i,()) (sm_graph (hin.2 i (by omega)))
        have c2:=con_FormatGraph_i (cnG (n,Q.2 i,())).2.1.2 (cnG (n,Q.2 i,())).2.1.1 (cnG (n,Q.2 i,())).1 (by omega)
        have hk:=kdD_n n Q.2 i
        have c3:=con_ContainsT (kdD n Q.2 i).1 (kdD n Q.2 i).2 (kdS n Q.2 i) (by omega)
        have e:kdD n Q.2 (i+1)=if hasT (kdD n Q.2 i).2 (kdS n Q.2 i) (kdD n Q.2 i).1=true then kdD n Q.2 i else ((kdD n Q.2 i).1+1,snT (kdD n Q.2 i).1 (kdD n Q.2 i).2 (kdS n Q.2 i)):=rfl
        change Con _ _ _ _ _ _ (.p (.str (kdS n Q.2 i))) at c2
        generalize kdS n Q.2 i=s at *
        generalize kdD n Q.2 i=q at *
        cases hh:hasT q.2 s q.1 with
        | true =>
          rw [hh] at c3 e
          rw [e,if_pos rfl] at hrec
          refine pcZ hc (kIb n i q.1 Q.1 q.2 Q.2 (cnG (n,Q.2 i,())) (cnQ (n,Q.2 i,())) s) ?_ hrec
          and_intros
          all_goals (first | exact zI | (exact hd0) | (exact c1) | (exact c2) | (exact c3) | (intros;simp [All];done))
        | false =>
          rw [hh] at c3 e
          rw [e,if_neg (by simp)] at hrec
          refine pcZ hc (kIa n i q.1 Q.1 q.2 Q.2 (cnG (n,Q.2 i,())) (cnQ (n,Q.2 i,())) s) ?_ hrec
          and_intros
          all_goals (first | exact zI | (exact hd0) | (exact c1) | (exact c2) | (exact c3) | (intro t ht;by_cases h':t<q.1<;>simp [h',snT,cvtL,cvt,tg,tru,All];done) | (intros;simp [All];done))
    refine pcZ hc (kIz n Q.1 Q.2 (inB n 1 5)) ?_ (lo Q.1 0 (by omega))
    and_intros
    all_goals (first | exact zN | (exact hd) | (exact cr) | (intro t ht;exact absurd ht (Nat.not_lt_zero _)) | (intros;simp [All];done))
theorem con_Kinds_s (n:Int):zE 56 [.p (.int .i64 n)] [(0,stOt (kdR n).1 (kdR n).2)] (.ar 1 0 0 (kdR n).1):=by
  refine csZ Tryz.func56 (fun c hc=>?_)
  have cr:=con_RigidGraphs_s n
  have hin:=rgG_in n
  by_cases hn:n>4
  · rw [show kdR n=(0,fun _=>⟨#[]⟩) by simp [kdR,hn]]
    generalize rgG n=Q at *
    have hd0:(bif decide (((0:Nat):Int)<(Q.1:Int)) then decide (n≤4) else false)=false:=by
      rw [decide_eq_false (show ¬ n≤4 by omega)];cases decide (((0:Nat):Int)<(Q.1:Int))<;>rfl
    have he:zR c 56 zf57 (SKs n 0 0 Q.1 (fun _=>⟨#[]⟩) Q.2) (Post c [(0,stOt 0 (fun _=>⟨#[]⟩))] (.ar 1 0 0 0)):=by
      refine pkD Tryz.func56 hc (kSe n 0 0 Q.1 (fun _=>⟨#[]⟩) Q.2) ?_
      and_intros
      all_goals (first | exact zN | (exact hd0) | (intro t ht;exact absurd ht (Nat.not_lt_zero _)) | (intros;simp [All,ntAL,ntA,ntP,ntL];done))
    refine pcZ hc (kSz n Q.1 Q.2 (inB n 1 5)) ?_ he
    and_intros
    all_goals (first | exact zN | (exact cr) | (intro t ht;exact absurd ht (Nat.not_lt_zero _)) | (intros;simp [All];done))
  · rw [show kdR n=kdD n (rgG n).2 (rgG n).1 by simp [kdR,hn]]
    generalize rgG n=Q at *
    generalize hR:kdD n Q.2 Q.1=R
    have lj:∀ i s (q:LT),q.1≤1024→(zR c 56 zf5 (SKs1 n i q.1 Q.1 q.2 Q.2 s (hasT q.2 s q.1) q.1) (Post c [(0,stOt R.1 R.2)] (.ar 1 0 0 R.1))) →
        ∀ d k,k+d=q.1→zR c 56 zf5 (SKs1 n i q.1 Q.1 q.2 Q.2 s (hasT q.2 s k) k) (Post c [(0,stOt R.1 R.2)] (.ar 1 0 0 R.1)):=by
      intro i s q hq hk d
      induction d with
      | zero =>
        intro k hk'
        obtain rfl:k=q.1:=by omega
        exact hk
      | succ d ih =>
        intro k hk'
        have hd0:decide ((k:Int)<(q.1:Int))=true:=decide_eq_true (by omega)
        refine pcZ hc (kSb n i q.1 Q.1 q.2 Q.2 s (hasT q.2 s k) k) ?_ (ih (k+1) (by omega))
        and_intros
        all_goals (first | exact zH | (exact hd0) | (intros;simp [All];done))
    have lo:∀ d i,i+d=Q.1→zR c 56 zf57 (SKs n i (kdD n Q.2 i).1 Q.1 (kdD n Q.2 i).2 Q.2) (Post c [(0,stOt R.1 R.2)] (.ar 1 0 0 R.1)):=by
      intro d
      induction d with
      | zero =>
        intro i hi
        obtain rfl:i=Q.1:=by omega
        have hd0:(bif decide ((Q.1:Int)<(Q.1:Int)) then decide (n≤4) else false)=false:=by
          rw [decide_eq_false (show ¬ (Q.1:Int)<(Q.1:Int) by omega)];rfl
        rw [hR]
        refine pkD Tryz.func56 hc (kSe n Q.1 R.1 Q.1 R.2 Q.2) ?_
        and_intros
        all_goals (first | exact zN | (exact hd0) | (intros;simp [All,ntAL,ntA,ntP,ntL];done))
      | succ d ih =>
        intro i hi
        have hrec:=ih (i+1) (by omega)
        have hd0:(bif decide ((i:Int)<(Q.1:Int)) then decide (n≤4) else false)=true:=by
          rw [decide_eq_true (show (i:Int)<(Q.1:Int) by omega),decide_eq_true (show n≤4 by omega)];rfl
        have hcn:=cnG_n (n,Q.2 i,())
        have c1:=con_Canon_s (n,Q.2 i,()) (sm_graph (hin.2 i (by omega)))
        have c2:=con_FormatGraph_s (cnG (n,Q.2 i,())).2.1.2 (cnG (n,Q.2 i,())).2.1.1 (cnG (n,Q.2 i,())).1 (by omega)
        have hk:=kdD_n n Q.2 i
        have e:kdD n Q.2 (i+1)=if hasT (kdD n Q.2 i).2 (kdS n Q.2 i) (kdD n Q.2 i).1=true then kdD n Q.2 i else ((kdD n Q.2 i).1+1,snT (kdD n Q.2 i).1 (kdD n Q.2 i).2 (kdS n Q.2 i)):=rfl
        change Con _ _ _ _ _ _ (.p (.str (kdS n Q.2 i))) at c2
        generalize kdS n Q.2 i=s at *
        generalize kdD n Q.2 i=q at *
        have hnext:zR c 56 zf5 (SKs1 n i q.1 Q.1 q.2 Q.2 s (hasT q.2 s q.1) q.1) (Post c [(0,stOt R.1 R.2)] (.ar 1 0 0 R.1)):=by
          have hd1:decide ((q.1:Int)<(q.1:Int))=false:=by simp
          cases hh:hasT q.2 s q.1 with
          | true =>
            rw [hh,if_pos rfl] at e
            rw [e] at hrec
            refine pcZ hc (kSd n i q.1 Q.1 q.2 Q.2 s q.1) ?_ hrec
            and_intros
            all_goals (first | exact zN | (exact hd1) | (intros;simp [All];done))
          | false =>
            rw [hh,if_neg (by simp)] at e
            rw [e] at hrec
            refine pcZ hc (kSc n i q.1 Q.1 q.2 Q.2 s q.1) ?_ hrec
            and_intros
            all_goals (first | exact zN | (exact hd1) | (intro t ht;by_cases h':t<q.1<;>simp [h',snT,cvtL,cvt,tg,tru,All];done) | (intros;simp [All];done))
        refine pcZ hc (kSa n i q.1 Q.1 q.2 Q.2 (cnG (n,Q.2 i,())) (cnQ (n,Q.2 i,())) s) ?_ (lj i s q (by omega) hnext q.1 0 (by omega))
        and_intros
        all_goals (first | exact zI | (exact hd0) | (exact c1) | (exact c2) | (intros;simp [All];done))
    refine pcZ hc (kSz n Q.1 Q.2 (inB n 1 5)) ?_ (lo Q.1 0 (by omega))
    and_intros
    all_goals (first | exact zN | (exact cr) | (intro t ht;exact absurd ht (Nat.not_lt_zero _)) | (intros;simp [All];done))
theorem snocB_at (c:Nat) (G:Nat→T_BarS) (x:T_BarS) (i:Nat):snocB c G x i=if i<c then G i else x:=by
  unfold snocB
  split<;>rfl
theorem gF_mr (n M:Nat) (A:Nat→T_Bar):∀ d w (x:Nat×(Nat→T_BarS)),(∀ i,i<x.1→mrG ((n:Int),x.2 i,())=true)→∀ i,i<(gEn n M A w d x).1→mrG ((n:Int),(gEn n M A w d x).2 i,())=true
  | 0,w,x,h=>h
  | d+1,w,x,h=>by
    rw [gEn]
    refine gF_mr n M A d (w+1) _ ?_
    cases hb:(bif ((bF w A 0 M zB).1:Int)==maxI n then mrG ((n:Int),bF w A 0 M zB,()) else false) with
    | false=>simp only [cond_false];exact h
    | true =>
      simp only [cond_true]
      intro i hi
      rw [snocB_at]
      by_cases hic:i<x.1
      · rw [if_pos hic];exact h i hic
      · rw [if_neg hic]
        cases hq:(((bF w A 0 M zB).1:Int)==maxI n) with
        | false=>rw [hq] at hb;cases hb
        | true=>rw [hq] at hb;exact hb
theorem rgG_mr (n:Int) (i:Nat) (hi:i<(rgG n).1):mrG (n,(rgG n).2 i,())=true:=by
  unfold rgG at hi ⊢
  cases hb:inB n 1 5 with
  | false=>rw [hb] at hi;exact absurd hi (Nat.not_lt_zero _)
  | true =>
    rw [hb] at hi
    have h15:1≤n∧n≤5:=by simpa [inB] using hb
    have:=gF_mr n.toNat (cgD n.toNat).1 (cgD n.toNat).2 (2 ^ (cgD n.toNat).1) 0 zG (fun i hi=>absurd hi (Nat.not_lt_zero _)) i hi
    rw [show ((n.toNat:Nat):Int)=n by omega] at this
    exact this
theorem qT_eqN {g h:Nat→T_Bar}:∀ n,EqN n g h→qT_BarS g h n=true
  | 0,_=>rfl
  | n+1,e=>by
    have h1:=qT_eqN n (fun i hi=>e i (by omega))
    have h2:=e n (by omega)
    simp [qT_BarS,h1,q1_BarS,h2]
theorem eqGr_of {v u:T_Graph} (h1:v.1=u.1) (h2:v.2.1.1=u.2.1.1) (h:EqN v.2.1.1 v.2.1.2 u.2.1.2):eqGr v u=true:=by
  unfold eqGr q_BarS
  rw [h1,if_pos h2,qT_eqN _ h]
  simp
theorem eqGr_rf (v:T_Graph):eqGr v v=true:=eqGr_of rfl rfl (fun _ _=>rfl)
theorem iso_rn {v:T_Graph} {u:T_IntS} (h:rnB v u=true) (h5:v.1≤5):isB' v (rnG v u)=true:=by
  have hr:=rn_graph h
  have e:rnG v u=(v.1,(v.2.1.1,srtB v.2.1.1 (rnD v.2.1.2 u.2)),()):=by unfold rnG;rw [if_pos h]
  have h':=h
  unfold rnB at h'
  rw [Bool.and_eq_true,Bool.and_eq_true] at h'
  obtain ⟨hg,hn,hd⟩:=h'
  have hn:(u.1:Int)=v.1:=by simpa using hn
  rw [show u.1=v.1.toNat by omega] at hd
  have q1:cnQ v=true:=by unfold cnQ;rw [hg,decide_eq_true h5];rfl
  have q2:cnQ (rnG v u)=true:=by unfold cnQ;rw [hr,e,decide_eq_true h5];rfl
  have hs:=cn_same (u:=u.2) hg hr (by rw [e]) (by rw [e]) (by
    rw [e]
    unfold LB
    show (lstB v.2.1.1 (srtB v.2.1.1 (rnD v.2.1.2 u.2))).Perm _
    rw [lst_srt,lst_map]
    exact srtL_perm _) hd
  unfold isB'
  rw [q1,q2,cond_true,cond_true]
  refine eqGr_of ?_ ?_ ?_
  · unfold cnG;rw [if_pos q1,if_pos q2,e]
  · unfold cnG;rw [if_pos q1,if_pos q2,e]
  · have e1:cnG v=(v.1,(v.2.1.1,dfs v v.1.toNat zNL v.2.1.2),()):=by unfold cnG;rw [if_pos q1]
    have e2:cnG (rnG v u)=((rnG v u).1,((rnG v u).2.1.1,dfs (rnG v u) (rnG v u).1.toNat zNL (rnG v u).2.1.2),()):=by unfold cnG;rw [if_pos q2]
    rw [e1,e2]
    exact hs
theorem cn_cn {v:T_Graph} (h:cnQ v=true):cnQ (cnG v)=true∧eqGr (cnG (cnG v)) (cnG v)=true:=by
  have e1:cnG v=(v.1,(v.2.1.1,dfs v v.1.toNat zNL v.2.1.2),()):=by unfold cnG;rw [if_pos h]
  have h':=h
  unfold cnQ at h'
  rw [Bool.and_eq_true,decide_eq_true_eq] at h'
  obtain ⟨hg,h5⟩:=h'
  have gi:=graph_inR hg
  obtain ⟨s,s1,s2⟩:=cn_is hg
  have eN:((v.1.toNat:Nat):Int)=v.1:=by omega
  have hrB:rnB v (v.1.toNat,s)=true:=by
    unfold rnB
    rw [hg,s1]
    simp [eN]
  have er:rnG v (v.1.toNat,s)=(v.1,(v.2.1.1,rnS v s),()):=by unfold rnG;rw [if_pos hrB];rfl
  have hr:=rn_graph hrB
  rw [er] at hr
  have eL:LB (cnG v)=LB (v.1,(v.2.1.1,rnS v s),()):=by
    rw [e1]
    unfold LB lstB
    exact List.map_congr_left (fun i hi=>s2 i (List.mem_range.1 hi))
  have gr:=graph_inR hr
  have hb:isGraphF (cnG v)=true:=by
    refine isG_lst (N:=v.1.toNat) (by omega) (by rw [e1];show v.1=_;omega) (by rw [e1];exact gi.2.2.1) (by rw [eL];exact isG_srt hr) (fun x hx=>?_)
    rw [eL] at hx
    obtain ⟨i,hi,rfl⟩:=List.mem_map.1 hx
    have:=goodB_at gr.2.2.2 i (List.mem_range.1 hi)
    rw [eN]
    exact ⟨this.1,this.2.1,this.2.2.1⟩
  have q2:cnQ (cnG v)=true:=by unfold cnQ;rw [hb,e1,decide_eq_true h5];rfl
  refine ⟨q2,?_⟩
  have hs:=cn_same (u:=s) hg hb (by rw [e1]) (by rw [e1]) (by
    rw [eL]
    unfold LB
    show (lstB v.2.1.1 (srtB v.2.1.1 (rnD v.2.1.2 s))).Perm _
    rw [lst_srt,lst_map]
    exact srtL_perm _) s1
  have e2:cnG (cnG v)=((cnG v).1,((cnG v).2.1.1,dfs (cnG v) (cnG v).1.toNat zNL (cnG v).2.1.2),()):=by
    show (if cnQ (cnG v)=true then _ else _)=_
    rw [if_pos q2]
  refine eqGr_of (by rw [e2]) (by rw [e2]) ?_
  rw [e2]
  have n1:(cnG v).2.1.1=v.2.1.1:=by rw [e1]
  have f1:(cnG v).2.1.2=dfs v v.1.toNat zNL v.2.1.2:=by rw [e1]
  intro i hi
  have hi:i<(cnG v).2.1.1:=hi
  have:=hs i (by omega)
  show dfs (cnG v) (cnG v).1.toNat zNL (cnG v).2.1.2 i=(cnG v).2.1.2 i
  rw [← this,f1]
theorem con_RankV_i {v:T_Graph} (hg:isGraphF v=true):zE 62 [graphA v,.p (.int .i64 2),.p (.int .i64 3)] [] (.p (.int .i64 ((accI v.1.toNat 2 3 v.2.1.2 v.2.1.1).length:Nat))):=by
  obtain ⟨N,nb,g,rfl⟩:=graph_cases v hg
  exact con_RankOf_i hg 2 3 (by omega) (by omega)
theorem con_RankV_s {v:T_Graph} (hg:isGraphF v=true):zE 63 [graphA v,.p (.int .i64 2),.p (.int .i64 3)] [] (.p (.int .i64 ((accI v.1.toNat 2 3 v.2.1.2 v.2.1.1).length:Nat))):=by
  obtain ⟨N,nb,g,rfl⟩:=graph_cases v hg
  exact con_RankOf_s hg 2 3 (by omega) (by omega)
theorem con_GlobV_i {v:T_Graph} (hg:isGraphF v=true):zE 64 [graphA v] [] (.p (.bool (glB v.1.toNat v.2.1.1 v.2.1.2))):=by
  obtain ⟨N,nb,g,rfl⟩:=graph_cases v hg
  exact con_gGlobal_i hg
theorem con_GlobV_s {v:T_Graph} (hg:isGraphF v=true):zE 65 [graphA v] [] (.p (.bool (glB v.1.toNat v.2.1.1 v.2.1.2))):=by
  obtain ⟨N,nb,g,rfl⟩:=graph_cases v hg
  exact con_gGlobal_s hg
end Go.Proofs.YtkepkjbofchckaaGreat.Mach
