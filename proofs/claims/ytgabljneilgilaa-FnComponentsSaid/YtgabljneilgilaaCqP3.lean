/- What the law Cq needs, part 3 of 5: the abstract machine and the contracts of the functions. Conditions: as each theorem says. -/
import Derived.Shelf.SlLaysF0
import Derived.Shelf.SlGeneric
import Derived.Shelf.SlSortCmp.InsertionK
import Derived.Ground.SlsfProg
import Derived.Shelf.SlSortCmp.NoneTotal
import Derived.Test.YtgabljneilgilaaCqP2
namespace Go.Proofs.Ytgabljneilgilaa.Mach
open Go
set_option linter.unusedVariables false
set_option linter.unusedSimpArgs false
def grG (g:Nat→T_Bar) (nb N:Nat):AV:=.agg [.p (.int .i64 N),brL g nb]
def bxG (g:Nat→T_Bar) (nb N:Nat):Ob:=⟨true,2,1,fun _=>[.p (.int .i64 N),brL g nb]⟩
def bx0:Ob:=⟨true,3,1,fun _=>[.p .nil,.p .nil,.p .nil]⟩
def bxP (N m j:Nat):Ob:=⟨true,3,1,fun _=>[.ar 1 j 0 N,.ar 1 ⟨j+1,none⟩ 0 m,.ar 1 ⟨j+2,none⟩ 0 m]⟩
def bxD (N m:Nat) (F T Q:Nat→Int):Ob:=⟨true,3,1,fun _=>[inD N F,inD m T,inD m Q]⟩
def pebD (N m:Nat) (F T Q:Nat→Int):AV:=.agg [inD N F,inD m T,inD m Q]
def bOb (n:Nat) (S:Nat→Bool):Ob:=⟨false,1,n,fun i=>[.p (.bool (S i))]⟩
def SSc (g:Nat→T_Bar) (nb N m:Nat) (F T Q FR F1 T1:Nat→Int) (a u:Int):St :=
  ⟨[grG g nb N,pebD N m F T Q,inD N FR,.p (.int .i64 a),.p (.int .i64 u),.pt 2 0 0 0,.pt 3 1 0 0,.p .any,.p .any,.p .any,.pt 3 2 0 0,.pt 3 3 0 0]++List.replicate 51 anyA,
   [(0,bxG g nb N),(1,bxD N m F T Q),(2,bx0),(3,bxP N m 4),(4,iOb N F1),(5,iOb m T1),(6,iOb m Q)],7⟩
def SSl (g:Nat→T_Bar) (nb N m:Nat) (F T Q FR F1 T1:Nat→Int) (a u at':Int):St :=
  ⟨[grG g nb N,pebD N m F T Q,inD N FR,.p (.int .i64 a),.p (.int .i64 u),.pt 2 0 0 0,.pt 3 1 0 0,.p .any,.p .any,.p .any,.pt 3 2 0 0,.pt 3 3 0 0,.p (.int .i64 at')]++List.replicate 50 anyA,
   [(0,bxG g nb N),(1,bxD N m F T Q),(2,bx0),(3,bxP N m 4),(4,iOb N F1),(5,iOb m T1),(6,iOb m Q)],7⟩
def SF0 (g:Nat→T_Bar) (nb N m:Nat) (F T Q:Nat→Int) (a b:Int) (i:Nat):St :=
  ⟨[grG g nb N,pebO N m 0,.p (.int .i64 a),.p (.int .i64 b),.pt 2 3 0 0,.pt 3 4 0 0,.p .any,.p .any,.pt 3 5 0 0,.p .any,.ar 1 6 0 N,.p (.int .i64 i)]++List.replicate 94 anyA,
   [(0,iOb N F),(1,iOb m T),(2,iOb m Q),(3,bxG g nb N),(4,bxP N m 0),(5,bx0),(6,iOb N (fun s=>if s<i then -1 else 0))],7⟩
def SF1 (g:Nat→T_Bar) (nb N m:Nat) (F T Q td FR:Nat→Int) (SN:Nat→Bool) (a b:Int) (i tn:Nat):St :=
  ⟨[grG g nb N,pebO N m 0,.p (.int .i64 a),.p (.int .i64 b),.pt 2 3 0 0,.pt 3 4 0 0,.p .any,.p .any,.pt 3 5 0 0,.p .any,.ar 1 6 0 N,.p .any,.ar 1 8 0 tn,.ar 1 7 0 N,.p (.int .i64 i)]++List.replicate 91 anyA,
   [(0,iOb N F),(1,iOb m T),(2,iOb m Q),(3,bxG g nb N),(4,bxP N m 0),(5,bx0),(6,iOb N FR),(7,bOb N SN),(8,iOb tn td)],9⟩
def SF2 (g:Nat→T_Bar) (nb N m:Nat) (F T Q td FR:Nat→Int) (SN:Nat→Bool) (a b v:Int) (i j tn:Nat):St :=
  ⟨[grG g nb N,pebO N m 0,.p (.int .i64 a),.p (.int .i64 b),.pt 2 3 0 0,.pt 3 4 0 0,.p .any,.p .any,.pt 3 5 0 0,.p .any,.ar 1 6 0 N,.p .any,.ar 1 8 0 tn,.ar 1 7 0 N,.p (.int .i64 i),.p (.int .i64 v),.p (.int .i64 j)]++List.replicate 89 anyA,
   [(0,iOb N F),(1,iOb m T),(2,iOb m Q),(3,bxG g nb N),(4,bxP N m 0),(5,bx0),(6,iOb N FR),(7,bOb N SN),(8,iOb tn td)],9⟩
def SF3 (g:Nat→T_Bar) (nb N m:Nat) (F T Q FR:Nat→Int) (a b u:Int):St :=
  ⟨[grG g nb N,pebO N m 0,.p (.int .i64 a),.p (.int .i64 b),.pt 2 3 0 0,.pt 3 4 0 0,.p .any,.p .any,.pt 3 5 0 0,.p .any,.ar 1 6 0 N,.p .any,.p .any,.p .any,.p .any,.p .any,.p .any,.p (.int .i64 u)]++List.replicate 88 anyA,
   [(0,iOb N F),(1,iOb m T),(2,iOb m Q),(3,bxG g nb N),(4,bxP N m 0),(5,bx0),(6,iOb N FR)],7⟩
def pebR3 (N m:Nat) (F T Q F' T' Q':Nat→Int):Hp:=[(0,iOb N F),(1,iOb m T),(2,iOb m Q),(3,iOb N F'),(4,iOb m T'),(5,iOb m Q')]
theorem qOt (x:T_Bar) (v:Int) :
    zS Try.f149 [rg 2,rg 8] [brA x,.p (.int .i64 v)] [] [] (.p (.int .i64 (x.1+x.2.1 - v))) =
    some [(NT 0 1),(NT 0 1),(ZLo (x.1+x.2.1)),(ZHi (x.1+x.2.1)),(ZLo (x.1+x.2.1 - v)),(ZHi (x.1+x.2.1 - v)),(AI ((x.1+x.2.1 - v)))]:=by kernel_rfl
theorem qCp (N m:Nat) (F T Q:Nat→Int) :
    zS Try.f123 [rg 2,rg 14] [pebD N m F T Q] [160,288,416] (pebR N m F T Q) (pebO N m 0) =
    some (zD [(NT 0 1),(NL 0 0),(NL ((0+N)*8) 140737488355328),(NL (0+N) 9223372036854775807),(NL ((0+m)*8) 140737488355328),(NL (0+m) 9223372036854775807),((true=true)→ (AN 1)),(AN 0),(((0+N):Nat)=N),(((0+m):Nat)=m),(AN 1),(NL N (0+N)),(AA N (fun i=>[.p (.int .i64 (F i))])),(NL m (0+m)),(AA m (fun i=>[.p (.int .i64 (T i))])),(AA m (fun i=>[.p (.int .i64 (Q i))])),(AE N),(AE m)] [0,1,2,3,0,1,4,5,0,1,4,5,0,6,0,7,8,7,9,7,9,10,11,12,10,13,14,10,13,15,16,17,17]):=by kernel_rfl
theorem qSz (g:Nat→T_Bar) (nb N m:Nat) (F T Q FR:Nat→Int) (a u:Int) :
    zT Try.f150 [rg 3,rm [(1,oc (pebR N m F T Q) (pebO N m 0))] 2,rg 11,.head] [grG g nb N,pebD N m F T Q,inD N FR,.p (.int .i64 a),.p (.int .i64 u)] [0,32,64,160,128,129,130] (SSc g nb N m F T Q FR (fun s=>if s=u.toNat then F s - 1 else F s) T a u) =
    some ([.code (cAt (bodyOf Try.f150) [1,1,1,0]),.code (cAt (bodyOf Try.f150) [1,1,1,1])],zD [(NT 0 1),zE 123 [(zf45 N F m T Q)] (zf26 N F m T Q) (.agg [.ar 1 0 0 N,.ar 1 1 0 m,.ar 1 2 0 m]),((true=true)→ (AN 1)),(IL 0 u),(IT u (↑N:Int)),(NT u.toNat N),(ZLo (F u.toNat - 1)),(ZHi (F u.toNat - 1)),((false=true)→ ((N:Nat)=1)),(AI ((↑N:Int))),(AN nb),(AP nb (bRw g)),(AN N),(AP N (fun i=>[.int .i64 (F i)])),(AN m),(AP m (fun i=>[.int .i64 (T i)])),(AP m (fun i=>[.int .i64 (Q i)])),(AP N (fun i=>[.int .i64 (FR i)])),(AI a),(AI u),(AN 0),((([AV.p (PV.int IntKind.i64 (↑N:Int)),brL g nb].length):Nat)=2),(NL 1 1),((([inD N F,inD m T,inD m Q].length):Nat)=3),((((List.map (fun v=>AV.p (absV v)) [Value.slice none 0 0,Value.slice none 0 0,Value.slice none 0 0]).length):Nat)=3),(AN 1),(NL N N),(CV [(128,⟨false,1,N,(fun i_1=>(if (i_1=u.toNat) then [.p (.int .i64 (F u.toNat - 1))] else [.p (.int .i64 (F i_1))]))⟩),(160,⟨true,3,1,(fun i_1=>[.ar 1 128 0 N,.ar 1 129 0 m,.ar 1 130 0 m])⟩),(130,⟨false,1,m,(fun i_1=>[.p (.int .i64 (Q i_1))])⟩),(129,⟨false,1,m,(fun i_1=>[.p (.int .i64 (T i_1))])⟩),(64,⟨true,3,1,(fun i_1=>[.p (.nil),.p (.nil),.p (.nil)])⟩),(32,⟨true,3,1,(fun i_1=>[.p (.seq true 1 N (fun i_2=>[.int .i64 (F i_2)])),.p (.seq true 1 m (fun i_2=>[.int .i64 (T i_2)])),.p (.seq true 1 m (fun i_2=>[.int .i64 (Q i_2)]))])⟩),(0,⟨true,2,1,(fun i_1=>[.p (.int .i64 (↑N:Int)),.p (.seq true 2 nb (bRw g))])⟩)] [0,32,64,160,128,129,130] 1 N (fun i=>if (i=u.toNat) then [.p (.int .i64 (F u.toNat - 1))] else [.p (.int .i64 (F i))]) (fun i=>[.p (.int .i64 (if i=u.toNat then F i - 1 else F i))])),(NL m m),(AA m (fun i=>[.p (.int .i64 (T i))])),(AA m (fun i=>[.p (.int .i64 (Q i))]))] [0,1,0,2,0,0,3,4,5,6,7,3,4,5,8,9,10,11,12,13,14,15,14,16,12,17,18,19,20,20,20,20,21,22,22,9,10,11,23,22,22,12,13,14,15,14,16,24,22,22,24,22,22,20,12,20,14,20,14,25,26,27,25,28,29,25,28,30]):=by kernel_rfl
theorem qSa (g:Nat→T_Bar) (nb N m:Nat) (F T Q FR F1 T1:Nat→Int) (a u:Int) :
    zM 0 [rg 11,rg 2,.head] [.code (cAt (bodyOf Try.f150) [1,1,1,0]),.code (cAt (bodyOf Try.f150) [1,1,1,1])] (SSc g nb N m F T Q FR F1 T1 a u) [0,1,2,3,4,5,6] 1 (SSl g nb N m F T Q FR (fun s=>if s=a.toNat then F1 s+1 else F1 s) T1 a u u) =
    some (zf24,zD [(NT 0 1),(IL 0 a),(IT a (↑N:Int)),(NT a.toNat N),(ZLo (F1 a.toNat+1)),(ZHi (F1 a.toNat+1)),((false=true)→ ((N:Nat)=1)),(AI ((↑N:Int))),(AN nb),(AP nb (bRw g)),(AN N),(AP N (fun i=>[.int .i64 (F i)])),(AN m),(AP m (fun i=>[.int .i64 (T i)])),(AP m (fun i=>[.int .i64 (Q i)])),(AP N (fun i=>[.int .i64 (FR i)])),(AI a),(AI u),(AN 0),(AN 2),(NL 1 1),(AN 3),(AN 1),(NL N N),(CV [(4,⟨false,1,N,(fun i_1=>(if (i_1=a.toNat) then [.p (.int .i64 (F1 a.toNat+1))] else [.p (.int .i64 (F1 i_1))]))⟩),(0,⟨true,2,1,(fun i_1=>[.p (.int .i64 (↑N:Int)),.p (.seq true 2 nb (bRw g))])⟩),(1,⟨true,3,1,(fun i_1=>[.p (.seq true 1 N (fun i_2=>[.int .i64 (F i_2)])),.p (.seq true 1 m (fun i_2=>[.int .i64 (T i_2)])),.p (.seq true 1 m (fun i_2=>[.int .i64 (Q i_2)]))])⟩),(2,⟨true,3,1,(fun i_1=>[.p (.nil),.p (.nil),.p (.nil)])⟩),(3,⟨true,3,1,(fun i_1=>[.ar 1 4 0 N,.ar 1 5 0 m,.ar 1 6 0 m])⟩),(5,⟨false,1,m,(fun i_1=>[.p (.int .i64 (T1 i_1))])⟩),(6,⟨false,1,m,(fun i_1=>[.p (.int .i64 (Q i_1))])⟩)] [0,1,2,3,4,5,6] 1 N (fun i=>if (i=a.toNat) then [.p (.int .i64 (F1 a.toNat+1))] else [.p (.int .i64 (F1 i))]) (fun i=>[.p (.int .i64 (if i=a.toNat then F1 i+1 else F1 i))])),(NL m m),(AA m (fun i=>[.p (.int .i64 (T1 i))])),(AA m (fun i=>[.p (.int .i64 (Q i))]))] [0,0,1,2,3,4,5,1,2,3,6,7,8,9,10,11,12,13,12,14,10,15,16,17,18,18,18,18,17,19,20,20,7,8,9,21,20,20,10,11,12,13,12,14,21,20,20,21,20,20,18,10,18,12,18,12,22,23,24,22,25,26,22,25,27]):=by kernel_rfl
theorem qSl (g:Nat→T_Bar) (nb N m:Nat) (F T Q FR F1 T1:Nat→Int) (a u at' w:Int) :
    zM 0 [rg 3,.dec true,rg 5,rm [(10,oc [] (.p (.int .i64 w)))] 1,rg 6,rg 2,.head] zf24 (SSl g nb N m F T Q FR F1 T1 a u at') [0,1,2,3,4,5,6] 1 (SSl g nb N m F T Q FR F1 (fun s=>if s=(FR at'.toNat).toNat then at' else T1 s) a u w) =
    some (zf24,zD [((at' != a)=true),(IL 0 (at')),(IT (at') (↑N:Int)),(NT 0 1),(IL 0 (FR at'.toNat)),(IT (FR at'.toNat) (↑m:Int)),(IL 0 (Q (FR at'.toNat).toNat)),(IT (Q (FR at'.toNat).toNat) (↑nb:Int)),zE 149 [.agg [.p (.int .i64 ((g (Q (FR at'.toNat).toNat).toNat).1)),.p (.int .i64 ((g (Q (FR at'.toNat).toNat).toNat).2.1))],.p (.int .i64 at')] [] (.p (.int .i64 w)),(NT ((FR at'.toNat).toNat) m),((false=true)→ ((m:Nat)=1)),(AI ((↑N:Int))),(AN nb),(AP nb (bRw g)),(AN N),(AP N (fun i=>[.int .i64 (F i)])),(AN m),(AP m (fun i=>[.int .i64 (T i)])),(AP m (fun i=>[.int .i64 (Q i)])),(AP N (fun i=>[.int .i64 (FR i)])),(AI a),(AI u),(AN 0),(AI w),(AN 2),(NL 1 1),(AN 3),(AN 1),(NL N N),(AA N (fun i=>[.p (.int .i64 (F1 i))])),(NL m m),(CV [(5,⟨false,1,m,(fun i_1=>(if (i_1=(FR at'.toNat).toNat) then [.p (.int .i64 at')] else [.p (.int .i64 (T1 i_1))]))⟩),(0,⟨true,2,1,(fun i_1=>[.p (.int .i64 (↑N:Int)),.p (.seq true 2 nb (bRw g))])⟩),(1,⟨true,3,1,(fun i_1=>[.p (.seq true 1 N (fun i_2=>[.int .i64 (F i_2)])),.p (.seq true 1 m (fun i_2=>[.int .i64 (T i_2)])),.p (.seq true 1 m (fun i_2=>[.int .i64 (Q i_2)]))])⟩),(2,⟨true,3,1,(fun i_1=>[.p (.nil),.p (.nil),.p (.nil)])⟩),(3,⟨true,3,1,(fun i_1=>[.ar 1 4 0 N,.ar 1 5 0 m,.ar 1 6 0 m])⟩),(4,⟨false,1,N,(fun i_1=>[.p (.int .i64 (F1 i_1))])⟩),(6,⟨false,1,m,(fun i_1=>[.p (.int .i64 (Q i_1))])⟩)] [0,1,2,3,4,5,6] 1 m (fun i=>if (i=(FR at'.toNat).toNat) then [.p (.int .i64 at')] else [.p (.int .i64 (T1 i))]) (fun i=>[.p (.int .i64 (if i=(FR at'.toNat).toNat then at' else T1 i))])),(AA m (fun i=>[.p (.int .i64 (Q i))]))] [0,1,2,3,3,4,5,6,7,8,3,4,5,9,10,11,12,13,14,15,16,17,16,18,14,19,20,21,22,22,22,22,23,24,25,25,11,12,13,26,25,25,14,15,16,17,16,18,26,25,25,26,25,25,22,14,22,16,22,16,27,28,29,27,30,31,27,30,32]):=by kernel_rfl
theorem qSe (g:Nat→T_Bar) (nb N m:Nat) (F T Q FR F1 T1:Nat→Int) (a u at':Int) :
    zP Try.f150 0 [rg 3,.dec false,rg 2] zf24 (SSl g nb N m F T Q FR F1 T1 a u at') [4,5,6] 1 (pebR N m F1 T1 Q) (pebO N m 0) =
    some (zD [((at' != a)=false),(NT 0 1),((true=true)→ (AN 1)),(AN 0),(AN N),(AN m),(AN 1),(NL N N),(AA N (fun i=>[.p (.int .i64 (F1 i))])),(NL m m),(AA m (fun i=>[.p (.int .i64 (T1 i))])),(AA m (fun i=>[.p (.int .i64 (Q i))])),(AE N),(AE m)] [0,1,1,2,1,3,4,3,5,3,5,6,7,8,6,9,10,6,9,11,12,13,13]):=by kernel_rfl
theorem qFz (g:Nat→T_Bar) (nb N m:Nat) (F T Q:Nat→Int) (a b:Int) :
    zM 3 [rg 4,rg 4,rg 1,.head] [.code (bodyOf Try.f125)] (start Try.f125 (pebR N m F T Q) 3 [grG g nb N,pebO N m 0,.p (.int .i64 a),.p (.int .i64 b)]) [0,1,2,3,35,67,195] 1 (SF0 g nb N m F T Q a b 0) =
    some (zf47,zD [(NT 0 1),(IL 0 (↑N:Int)),(IL (↑N:Int) (↑N:Int)),(IL ((↑N:Int)*(↑8:Int)) 281474976710656),(ZHi (↑N:Int)),(AI ((↑N:Int))),(AN nb),(AP nb (bRw g)),(AN 0),(AN N),(AN m),(AI a),(AI b),((0:Int)=(↑0:Int)),(AN 1),(NL N N),(AA N (fun i=>[.p (.int .i64 (F i))])),(NL m m),(AA m (fun i=>[.p (.int .i64 (T i))])),(AA m (fun i=>[.p (.int .i64 (Q i))])),((([AV.p (PV.int IntKind.i64 (↑N:Int)),brL g nb].length):Nat)=2),(NL 1 1),((([AV.ar 1 (Id.mk 0 none) 0 N,AV.ar 1 (Id.mk 1 none) 0 m,AV.ar 1 (Id.mk 2 none) 0 m].length):Nat)=3),((((List.map (fun v=>AV.p (absV v)) [Value.slice none 0 0,Value.slice none 0 0,Value.slice none 0 0]).length):Nat)=3),(∀ i:Nat,(((i:Nat)<N)→(All []∧(([.p (.int .i64 0)]:List AV)=[.p (.int .i64 (if i<0 then -1 else 0))]))))] [0,1,2,3,4,5,6,7,8,9,8,10,8,10,11,12,8,8,8,8,9,13,14,15,16,14,17,18,14,17,19,20,21,21,5,6,7,22,21,21,8,9,8,10,8,10,23,21,21,14,15,24]):=by kernel_rfl
theorem qF0 (g:Nat→T_Bar) (nb N m:Nat) (F T Q:Nat→Int) (a b:Int) (i:Nat) :
    zM 3 [rg 4,.dec true,rg 4,rg 3,.head] zf47 (SF0 g nb N m F T Q a b i) [0,1,2,3,4,5,6] 1 (SF0 g nb N m F T Q a b (i+1)) =
    some (zf47,zD [(NT 0 1),((decide ((↑i:Int)<(↑N:Int)))=true),(IL 0 (↑i:Int)),(IT (↑i:Int) (↑N:Int)),(NT i N),((false=true)→ ((N:Nat)=1)),(ZLo ((↑i:Int)+1)),(ZHi ((↑i:Int)+1)),(AI ((↑N:Int))),(AN nb),(AP nb (bRw g)),(AN 0),(AN N),(AN m),(AI a),(AI b),((((↑i:Int)+1):Int)=(↑(i+1):Int)),(AN 1),(NL N N),(AA N (fun i_1=>[.p (.int .i64 (F i_1))])),(NL m m),(AA m (fun i_1=>[.p (.int .i64 (T i_1))])),(AA m (fun i_1=>[.p (.int .i64 (Q i_1))])),(AN 2),(NL 1 1),(AN 3),(CV [(6,⟨false,1,N,(fun i_2=>(if (i_2=i) then [.p (.int .i64 (-1))] else [.p (.int .i64 (if i_2<i then -1 else 0))]))⟩),(0,⟨false,1,N,(fun i_2=>[.p (.int .i64 (F i_2))])⟩),(1,⟨false,1,m,(fun i_2=>[.p (.int .i64 (T i_2))])⟩),(2,⟨false,1,m,(fun i_2=>[.p (.int .i64 (Q i_2))])⟩),(3,⟨true,2,1,(fun i_2=>[.p (.int .i64 (↑N:Int)),.p (.seq true 2 nb (bRw g))])⟩),(4,⟨true,3,1,(fun i_2=>[.ar 1 0 0 N,.ar 1 1 0 m,.ar 1 2 0 m])⟩),(5,⟨true,3,1,(fun i_2=>[.p (.nil),.p (.nil),.p (.nil)])⟩)] [0,1,2,3,4,5,6] 1 N (fun i_1=>if (i_1=i) then [.p (.int .i64 (-1))] else [.p (.int .i64 (if i_1<i then -1 else 0))]) (fun i_1=>[.p (.int .i64 (if i_1<i+1 then -1 else 0))]))] [0,1,2,3,4,5,6,7,8,9,10,11,12,11,13,11,13,14,15,11,11,11,11,12,16,17,18,19,17,20,21,17,20,22,23,24,24,8,9,10,25,24,24,11,12,11,13,11,13,25,24,24,17,18,26]):=by kernel_rfl
theorem qF01 (g:Nat→T_Bar) (nb N m:Nat) (F T Q:Nat→Int) (a b:Int) (i:Nat) :
    zM 3 [rg 4,.dec false,rg 3,rg 4,rg 4,rg 1,.head] zf47 (SF0 g nb N m F T Q a b i) [0,1,2,3,4,5,6,295,167] 1 (SF1 g nb N m F T Q (fun _=>a) (fun _=>-1) (fun s=>if s=a.toNat then true else false) a b 0 1) =
    some (zf20,zD [(NT 0 1),((decide ((↑i:Int)<(↑N:Int)))=false),(IL 0 (↑N:Int)),(IL (↑N:Int) (↑N:Int)),(IL ((↑N:Int)*(↑1:Int)) 281474976710656),(ZHi (↑N:Int)),(IL 0 a),(IT a (↑N:Int)),(NT a.toNat N),((false=true)→ ((N:Nat)=1)),(AI ((↑N:Int))),(AN nb),(AP nb (bRw g)),(AN 0),(AN N),(AN m),(AI a),(AI b),(AN 1),((0:Int)=(↑0:Int)),(NL N N),(AA N (fun i_1=>[.p (.int .i64 (F i_1))])),(NL m m),(AA m (fun i_1=>[.p (.int .i64 (T i_1))])),(AA m (fun i_1=>[.p (.int .i64 (Q i_1))])),(AN 2),(NL 1 1),(AN 3),(∀ i_1:Nat,(((i_1:Nat)<N)→(All []∧(([.p (.int .i64 (if i_1<i then -1 else 0))]:List AV)=[.p (.int .i64 (-1))])))),(CV [(295,⟨false,1,N,(fun i_2=>(if (i_2=a.toNat) then [.p (.bool true)] else [.p (.bool false)]))⟩),(167,⟨false,1,1,(fun i_2=>[.p (.int .i64 a)])⟩),(0,⟨false,1,N,(fun i_2=>[.p (.int .i64 (F i_2))])⟩),(1,⟨false,1,m,(fun i_2=>[.p (.int .i64 (T i_2))])⟩),(2,⟨false,1,m,(fun i_2=>[.p (.int .i64 (Q i_2))])⟩),(3,⟨true,2,1,(fun i_2=>[.p (.int .i64 (↑N:Int)),.p (.seq true 2 nb (bRw g))])⟩),(4,⟨true,3,1,(fun i_2=>[.ar 1 0 0 N,.ar 1 1 0 m,.ar 1 2 0 m])⟩),(5,⟨true,3,1,(fun i_2=>[.p (.nil),.p (.nil),.p (.nil)])⟩),(6,⟨false,1,N,(fun i_2=>[.p (.int .i64 (if i_2<i then -1 else 0))])⟩)] [0,1,2,3,4,5,6,295,167] 1 N (fun i_1=>if (i_1=a.toNat) then [.p (.bool true)] else [.p (.bool false)]) (fun i_1=>[.p (.bool (if i_1=a.toNat then true else false))])),(AA 1 (fun i_1=>[.p (.int .i64 a)]))] [0,1,0,2,3,4,5,6,7,8,9,10,11,12,13,14,13,15,13,15,16,17,13,13,13,13,14,13,18,13,14,19,18,20,21,18,22,23,18,22,24,25,26,26,10,11,12,27,26,26,13,14,13,15,13,15,27,26,26,18,20,28,18,20,29,18,26,30]):=by kernel_rfl
theorem qF1 (g:Nat→T_Bar) (nb N m:Nat) (F T Q td FR:Nat→Int) (SN:Nat→Bool) (a b:Int) (i tn:Nat) :
    zM 3 [rg 4,.dec true,rg 5,rg 1,.head] zf20 (SF1 g nb N m F T Q td FR SN a b i tn) [0,1,2,3,4,5,6,7,8] 1 (SF2 g nb N m F T Q td FR SN a b (td i) i 0 tn) =
    some (zf10,zD [((decide ((↑i:Int)<(↑tn:Int)))=true),(IL 0 (↑i:Int)),(IT (↑i:Int) (↑tn:Int)),(NT i tn),(AI ((↑N:Int))),(AN nb),(AP nb (bRw g)),(AN 0),(AN N),(AN m),(AI a),(AI b),(AN tn),(AI ((↑i:Int))),(AI ((td i))),((0:Int)=(↑0:Int)),(AN 1),(NL N N),(AA N (fun i_1=>[.p (.int .i64 (F i_1))])),(NL m m),(AA m (fun i_1=>[.p (.int .i64 (T i_1))])),(AA m (fun i_1=>[.p (.int .i64 (Q i_1))])),(AN 2),(NL 1 1),(AN 3),(AA N (fun i_1=>[.p (.int .i64 (FR i_1))])),(AA N (fun i_1=>[.p (.bool (SN i_1))])),(NL tn tn),(AA tn (fun i_1=>[.p (.int .i64 (td i_1))]))] [0,1,2,3,4,5,6,7,8,7,9,7,9,10,11,7,7,7,7,8,7,12,7,8,13,14,15,16,17,18,16,19,20,16,19,21,22,23,23,4,5,6,24,23,23,7,8,7,9,7,9,24,23,23,16,17,25,16,17,26,16,27,28]):=by kernel_rfl
theorem qF1e (g:Nat→T_Bar) (nb N m:Nat) (F T Q td FR:Nat→Int) (SN:Nat→Bool) (a b:Int) (i tn:Nat) :
    zP Try.f125 3 [rg 4,.dec false,rg 3] zf20 (SF1 g nb N m F T Q td FR SN a b i tn) [0,1,2] 1 (pebR N m F T Q) (.tup [pebO N m 0,.p (.bool false)]) =
    some (zD [((decide ((↑i:Int)<(↑tn:Int)))=false),(NT 0 1),((true=true)→ (AN 1)),(AN 0),(AN N),(AN m),(false=false),(AN 1),(NL N N),(AA N (fun i_1=>[.p (.int .i64 (F i_1))])),(NL m m),(AA m (fun i_1=>[.p (.int .i64 (T i_1))])),(AA m (fun i_1=>[.p (.int .i64 (Q i_1))])),(AE N),(AE m)] [0,1,1,2,1,3,4,3,5,3,5,6,7,8,9,7,10,11,7,10,12,13,14,14]):=by kernel_rfl
theorem qF2e (g:Nat→T_Bar) (nb N m:Nat) (F T Q td FR:Nat→Int) (SN:Nat→Bool) (a b v:Int) (i j tn:Nat) :
    zM 3 [rg 5,.dec false,rg 3,.head] zf10 (SF2 g nb N m F T Q td FR SN a b v i j tn) [0,1,2,3,4,5,6,7,8] 1 (SF1 g nb N m F T Q td FR SN a b (i+1) tn) =
    some (zf20,zD [(NT 0 1),((decide ((↑j:Int)<(↑m:Int)))=false),(ZLo ((↑i:Int)+1)),(ZHi ((↑i:Int)+1)),(AI ((↑N:Int))),(AN nb),(AP nb (bRw g)),(AN 0),(AN N),(AN m),(AI a),(AI b),(AN tn),((((↑i:Int)+1):Int)=(↑(i+1):Int)),(AN 1),(NL N N),(AA N (fun i_1=>[.p (.int .i64 (F i_1))])),(NL m m),(AA m (fun i_1=>[.p (.int .i64 (T i_1))])),(AA m (fun i_1=>[.p (.int .i64 (Q i_1))])),(AN 2),(NL 1 1),(AN 3),(AA N (fun i_1=>[.p (.int .i64 (FR i_1))])),(AA N (fun i_1=>[.p (.bool (SN i_1))])),(NL tn tn),(AA tn (fun i_1=>[.p (.int .i64 (td i_1))]))] [0,1,2,3,4,5,6,7,8,7,9,7,9,10,11,7,7,7,7,8,7,12,7,8,13,14,15,16,14,17,18,14,17,19,20,21,21,4,5,6,22,21,21,7,8,7,9,7,9,22,21,21,14,15,23,14,15,24,14,25,26]):=by kernel_rfl
theorem qF2a (g:Nat→T_Bar) (nb N m:Nat) (F T Q td FR:Nat→Int) (SN:Nat→Bool) (a b v:Int) (i j tn:Nat) :
    zM 3 [rg 5,.dec true,rg 7,.dec true,rg 3,.head] zf10 (SF2 g nb N m F T Q td FR SN a b v i j tn) [0,1,2,3,4,5,6,7,8] 1 (SF2 g nb N m F T Q td FR SN a b v i (j+1) tn) =
    some (zf10,zD [(NT 0 1),((decide ((↑j:Int)<(↑m:Int)))=true),(IL 0 (↑j:Int)),(IT (↑j:Int) (↑m:Int)),(NT j m),((T j != v)=true),(ZLo ((↑j:Int)+1)),(ZHi ((↑j:Int)+1)),(AI ((↑N:Int))),(AN nb),(AP nb (bRw g)),(AN 0),(AN N),(AN m),(AI a),(AI b),(AN tn),(AI ((↑i:Int))),(AI v),((((↑j:Int)+1):Int)=(↑(j+1):Int)),(AN 1),(NL N N),(AA N (fun i_1=>[.p (.int .i64 (F i_1))])),(NL m m),(AA m (fun i_1=>[.p (.int .i64 (T i_1))])),(AA m (fun i_1=>[.p (.int .i64 (Q i_1))])),(AN 2),(NL 1 1),(AN 3),(AA N (fun i_1=>[.p (.int .i64 (FR i_1))])),(AA N (fun i_1=>[.p (.bool (SN i_1))])),(NL tn tn),(AA tn (fun i_1=>[.p (.int .i64 (td i_1))]))] [0,1,0,2,3,4,5,6,7,8,9,10,11,12,11,13,11,13,14,15,11,11,11,11,12,11,16,11,12,17,18,19,20,21,22,20,23,24,20,23,25,26,27,27,8,9,10,28,27,27,11,12,11,13,11,13,28,27,27,20,21,29,20,21,30,20,31,32]):=by kernel_rfl
theorem qF2b (g:Nat→T_Bar) (nb N m:Nat) (F T Q td FR:Nat→Int) (SN:Nat→Bool) (a b v u:Int) (i j tn:Nat) :
    zM 3 [rg 5,.dec true,rg 7,.dec false,rm [(10,oc [] (.p (.int .i64 u)))] 1,rg 4,.dec true,rg 3,.head] zf10 (SF2 g nb N m F T Q td FR SN a b v i j tn) [0,1,2,3,4,5,6,7,8] 1 (SF2 g nb N m F T Q td FR SN a b v i (j+1) tn) =
    some (zf10,zD [(NT 0 1),((decide ((↑j:Int)<(↑m:Int)))=true),(IL 0 (↑j:Int)),(IT (↑j:Int) (↑m:Int)),(NT j m),((T j != v)=false),(IL 0 (Q j)),(IT (Q j) (↑nb:Int)),zE 149 [(zf86 g Q j),.p (.int .i64 v)] [] (.p (.int .i64 u)),(IL 0 u),(IT u (↑N:Int)),(NT u.toNat N),((SN u.toNat)=true),(ZLo ((↑j:Int)+1)),(ZHi ((↑j:Int)+1)),(AI ((↑N:Int))),(AN nb),(AP nb (bRw g)),(AN 0),(AN N),(AN m),(AI a),(AI b),(AN tn),(AI ((↑i:Int))),(AI v),((((↑j:Int)+1):Int)=(↑(j+1):Int)),(AN 1),(NL N N),(AA N (fun i_1=>[.p (.int .i64 (F i_1))])),(NL m m),(AA m (fun i_1=>[.p (.int .i64 (T i_1))])),(AA m (fun i_1=>[.p (.int .i64 (Q i_1))])),(AN 2),(NL 1 1),(AN 3),(AA N (fun i_1=>[.p (.int .i64 (FR i_1))])),(AA N (fun i_1=>[.p (.bool (SN i_1))])),(NL tn tn),(AA tn (fun i_1=>[.p (.int .i64 (td i_1))]))] [0,1,0,2,3,4,5,0,0,2,3,4,6,7,8,9,10,11,12,13,14,15,16,17,18,19,18,20,18,20,21,22,18,18,18,18,19,18,23,18,19,24,25,26,27,28,29,27,30,31,27,30,32,33,34,34,15,16,17,35,34,34,18,19,18,20,18,20,35,34,34,27,28,36,27,28,37,27,38,39]):=by kernel_rfl
theorem qF2c (g:Nat→T_Bar) (nb N m:Nat) (F T Q td FR:Nat→Int) (SN:Nat→Bool) (a b v u:Int) (i j tn:Nat) :
    zM 3 [rg 5,.dec true,rg 7,.dec false,rm [(10,oc [] (.p (.int .i64 u)))] 1,rg 4,.dec false,rg 4,rg 5,rg 11,.dec false,rg 5,rg 3,.head] zf10 (SF2 g nb N m F T Q td FR SN a b v i j tn) [0,1,2,3,4,5,6,7,1641] 1 (SF2 g nb N m F T Q (fun s=>if s<tn then td s else u) (fun s=>if s=u.toNat then j else FR s) (fun s=>if s=u.toNat then true else SN s) a b v i (j+1) (tn+1)) =
    some (zf10,zD [(NT 0 1),((decide ((↑j:Int)<(↑m:Int)))=true),(IL 0 (↑j:Int)),(IT (↑j:Int) (↑m:Int)),(NT j m),((T j != v)=false),(IL 0 (Q j)),(IT (Q j) (↑nb:Int)),zE 149 [(zf86 g Q j),.p (.int .i64 v)] [] (.p (.int .i64 u)),(IL 0 u),(IT u (↑N:Int)),(NT u.toNat N),((SN u.toNat)=false),((false=true)→ ((N:Nat)=1)),(AG (u != b)),(((u != b)=true)→(NT 0 1)),(((u != b)=true)→(IL 0 u)),(((u != b)=true)→(IT u (↑N:Int))),(((u != b)=true)→(NT u.toNat N)),((bif u != b then decide (F (u.toNat+0)>0) else false)=false),(NL 1 1),(NL tn tn),(NL ((tn+1)*8) 140737488355328),(NL (tn+1) 9223372036854775807),(ZLo ((↑j:Int)+1)),(ZHi ((↑j:Int)+1)),(AI ((↑N:Int))),(AN nb),(AP nb (bRw g)),(AN 0),(AN N),(AN m),(AI a),(AI b),(AN ((tn+1))),(AI ((↑i:Int))),(AI v),((((↑j:Int)+1):Int)=(↑(j+1):Int)),(AN 1),(NL N N),(AA N (fun i_1=>[.p (.int .i64 (F i_1))])),(NL m m),(AA m (fun i_1=>[.p (.int .i64 (T i_1))])),(AA m (fun i_1=>[.p (.int .i64 (Q i_1))])),(AN 2),(AN 3),(CV [(1641,⟨false,1,(tn+1),(fun i_2=>(if (i_2<tn) then [.p (.int .i64 (td i_2))] else [.p (.int .i64 u)]))⟩),(1609,⟨false,1,1,(fun i_2=>[.p (.int .i64 u)])⟩),(6,⟨false,1,N,(fun i_2=>(if (i_2=u.toNat) then [.p (.int .i64 (↑j:Int))] else [.p (.int .i64 (FR i_2))]))⟩),(7,⟨false,1,N,(fun i_2=>(if (i_2=u.toNat) then [.p (.bool true)] else [.p (.bool (SN i_2))]))⟩),(0,⟨false,1,N,(fun i_2=>[.p (.int .i64 (F i_2))])⟩),(1,⟨false,1,m,(fun i_2=>[.p (.int .i64 (T i_2))])⟩),(2,⟨false,1,m,(fun i_2=>[.p (.int .i64 (Q i_2))])⟩),(3,⟨true,2,1,(fun i_2=>[.p (.int .i64 (↑N:Int)),.p (.seq true 2 nb (bRw g))])⟩),(4,⟨true,3,1,(fun i_2=>[.ar 1 0 0 N,.ar 1 1 0 m,.ar 1 2 0 m])⟩),(5,⟨true,3,1,(fun i_2=>[.p (.nil),.p (.nil),.p (.nil)])⟩)] [0,1,2,3,4,5,6,7,1641] 1 N (fun i_1=>if (i_1=u.toNat) then [.p (.int .i64 (↑j:Int))] else [.p (.int .i64 (FR i_1))]) (fun i_1=>[.p (.int .i64 (if i_1=u.toNat then (↑j:Int) else FR i_1))])),(CV [(1641,⟨false,1,(tn+1),(fun i_2=>(if (i_2<tn) then [.p (.int .i64 (td i_2))] else [.p (.int .i64 u)]))⟩),(1609,⟨false,1,1,(fun i_2=>[.p (.int .i64 u)])⟩),(6,⟨false,1,N,(fun i_2=>(if (i_2=u.toNat) then [.p (.int .i64 (↑j:Int))] else [.p (.int .i64 (FR i_2))]))⟩),(7,⟨false,1,N,(fun i_2=>(if (i_2=u.toNat) then [.p (.bool true)] else [.p (.bool (SN i_2))]))⟩),(0,⟨false,1,N,(fun i_2=>[.p (.int .i64 (F i_2))])⟩),(1,⟨false,1,m,(fun i_2=>[.p (.int .i64 (T i_2))])⟩),(2,⟨false,1,m,(fun i_2=>[.p (.int .i64 (Q i_2))])⟩),(3,⟨true,2,1,(fun i_2=>[.p (.int .i64 (↑N:Int)),.p (.seq true 2 nb (bRw g))])⟩),(4,⟨true,3,1,(fun i_2=>[.ar 1 0 0 N,.ar 1 1 0 m,.ar 1 2 0 m])⟩),(5,⟨true,3,1,(fun i_2=>[.p (.nil),.p (.nil),.p (.nil)])⟩)] [0,1,2,3,4,5,6,7,1641] 1 N (fun i_1=>if (i_1=u.toNat) then [.p (.bool true)] else [.p (.bool (SN i_1))]) (fun i_1=>[.p (.bool (if i_1=u.toNat then true else SN i_1))])),(NL (tn+1) (tn+1)),(CV [(1641,⟨false,1,(tn+1),(fun i_2=>(if (i_2<tn) then [.p (.int .i64 (td i_2))] else [.p (.int .i64 u)]))⟩),(1609,⟨false,1,1,(fun i_2=>[.p (.int .i64 u)])⟩),(6,⟨false,1,N,(fun i_2=>(if (i_2=u.toNat) then [.p (.int .i64 (↑j:Int))] else [.p (.int .i64 (FR i_2))]))⟩),(7,⟨false,1,N,(fun i_2=>(if (i_2=u.toNat) then [.p (.bool true)] else [.p (.bool (SN i_2))]))⟩),(0,⟨false,1,N,(fun i_2=>[.p (.int .i64 (F i_2))])⟩),(1,⟨false,1,m,(fun i_2=>[.p (.int .i64 (T i_2))])⟩),(2,⟨false,1,m,(fun i_2=>[.p (.int .i64 (Q i_2))])⟩),(3,⟨true,2,1,(fun i_2=>[.p (.int .i64 (↑N:Int)),.p (.seq true 2 nb (bRw g))])⟩),(4,⟨true,3,1,(fun i_2=>[.ar 1 0 0 N,.ar 1 1 0 m,.ar 1 2 0 m])⟩),(5,⟨true,3,1,(fun i_2=>[.p (.nil),.p (.nil),.p (.nil)])⟩)] [0,1,2,3,4,5,6,7,1641] 1 (tn+1) (fun i_1=>if (i_1<tn) then [.p (.int .i64 (td i_1))] else [.p (.int .i64 u)]) (fun i_1=>[.p (.int .i64 (if i_1<tn then td i_1 else u))]))] [0,1,0,2,3,4,5,0,0,2,3,4,6,7,8,9,10,11,12,9,10,11,13,9,10,11,13,14,15,14,14,16,17,14,18,14,14,19,20,21,22,23,24,25,26,27,28,29,30,29,31,29,31,32,33,29,29,29,29,30,29,34,29,30,35,36,37,38,39,40,38,41,42,38,41,43,44,20,20,26,27,28,45,20,20,29,30,29,31,29,31,45,20,20,38,39,46,38,39,47,38,48,49]):=by kernel_rfl
theorem qF2d (g:Nat→T_Bar) (nb N m:Nat) (F T Q td FR:Nat→Int) (SN:Nat→Bool) (a b v u:Int) (i j tn:Nat) :
    zM 3 [rg 5,.dec true,rg 7,.dec false,rm [(10,oc [] (.p (.int .i64 u)))] 1,rg 4,.dec false,rg 4,rg 5,rg 11,.dec true,.head] zf10 (SF2 g nb N m F T Q td FR SN a b v i j tn) [0,1,2,3,4,5,6] 1 (SF3 g nb N m F T Q (fun s=>if s=u.toNat then j else FR s) a b u) =
    some (zf3,zD [(NT 0 1),((decide ((↑j:Int)<(↑m:Int)))=true),(IL 0 (↑j:Int)),(IT (↑j:Int) (↑m:Int)),(NT j m),((T j != v)=false),(IL 0 (Q j)),(IT (Q j) (↑nb:Int)),zE 149 [(zf86 g Q j),.p (.int .i64 v)] [] (.p (.int .i64 u)),(IL 0 u),(IT u (↑N:Int)),(NT u.toNat N),((SN u.toNat)=false),((false=true)→ ((N:Nat)=1)),(AG (u != b)),(((u != b)=true)→(NT 0 1)),(((u != b)=true)→(IL 0 u)),(((u != b)=true)→(IT u (↑N:Int))),(((u != b)=true)→(NT u.toNat N)),((bif u != b then decide (F (u.toNat+0)>0) else false)=true),(AI ((↑N:Int))),(AN nb),(AP nb (bRw g)),(AN 0),(AN N),(AN m),(AI a),(AI b),(AI u),(AN 1),(NL N N),(AA N (fun i_1=>[.p (.int .i64 (F i_1))])),(NL m m),(AA m (fun i_1=>[.p (.int .i64 (T i_1))])),(AA m (fun i_1=>[.p (.int .i64 (Q i_1))])),(AN 2),(NL 1 1),(AN 3),(CV [(6,⟨false,1,N,(fun i_2=>(if (i_2=u.toNat) then [.p (.int .i64 (↑j:Int))] else [.p (.int .i64 (FR i_2))]))⟩),(7,⟨false,1,N,(fun i_2=>(if (i_2=u.toNat) then [.p (.bool true)] else [.p (.bool (SN i_2))]))⟩),(0,⟨false,1,N,(fun i_2=>[.p (.int .i64 (F i_2))])⟩),(1,⟨false,1,m,(fun i_2=>[.p (.int .i64 (T i_2))])⟩),(2,⟨false,1,m,(fun i_2=>[.p (.int .i64 (Q i_2))])⟩),(3,⟨true,2,1,(fun i_2=>[.p (.int .i64 (↑N:Int)),.p (.seq true 2 nb (bRw g))])⟩),(4,⟨true,3,1,(fun i_2=>[.ar 1 0 0 N,.ar 1 1 0 m,.ar 1 2 0 m])⟩),(5,⟨true,3,1,(fun i_2=>[.p (.nil),.p (.nil),.p (.nil)])⟩),(8,⟨false,1,tn,(fun i_2=>[.p (.int .i64 (td i_2))])⟩)] [0,1,2,3,4,5,6] 1 N (fun i_1=>if (i_1=u.toNat) then [.p (.int .i64 (↑j:Int))] else [.p (.int .i64 (FR i_1))]) (fun i_1=>[.p (.int .i64 (if i_1=u.toNat then (↑j:Int) else FR i_1))]))] [0,1,0,2,3,4,5,0,0,2,3,4,6,7,8,9,10,11,12,9,10,11,13,9,10,11,13,14,15,14,14,16,17,14,18,14,14,19,20,21,22,23,24,23,25,23,25,26,27,23,23,23,23,24,28,29,30,31,29,32,33,29,32,34,35,36,36,20,21,22,37,36,36,23,24,23,25,23,25,37,36,36,29,30,38]):=by kernel_rfl
theorem qF3 (g:Nat→T_Bar) (nb N m:Nat) (F T Q FR F1 T1:Nat→Int) (a b u:Int) :
    zP Try.f125 3 [rm [(5,oc (pebR N m F1 T1 Q) (pebO N m 0))] 2] zf3 (SF3 g nb N m F T Q FR a b u) [0,1,2,167,168,169] 1 (pebR3 N m F T Q F1 T1 Q) (.tup [pebO N m 3,.p (.bool true)]) =
    some (zD [(NT 0 1),(AN 1),(NL N N),(NL m m),zE 150 [(zf80 N nb g),(zf45 N F m T Q),.p (.seq true 1 N (fun i=>[.int .i64 (FR i)])),.p (.int .i64 a),.p (.int .i64 u)] (zf26 N F1 m T1 Q) (.agg [.ar 1 0 0 N,.ar 1 1 0 m,.ar 1 2 0 m]),((true=true)→ (AN 1)),(AN 0),(AN N),(AN m),(true=true),(AA N (fun i=>[.p (.int .i64 (F i))])),(AA m (fun i=>[.p (.int .i64 (T i))])),(AA m (fun i=>[.p (.int .i64 (Q i))])),(AA N (fun i=>[.p (.int .i64 (F1 i))])),(AA m (fun i=>[.p (.int .i64 (T1 i))])),(AE N),(AE m)] [0,0,1,2,1,3,1,3,1,2,4,0,5,0,6,7,6,8,6,8,9,1,2,10,1,3,11,1,3,12,1,2,13,1,3,14,1,3,12,15,16,16,15,16,16]):=by kernel_rfl
theorem con_l4Other (x:T_Bar) (v:Int) (h1:0≤x.1∧x.1≤1048576) (h2:0≤x.2.1∧x.2.1≤1048576) (h3:0≤v∧v≤1048576):zE 149 [brA x,.p (.int .i64 v)] [] (.p (.int .i64 (x.1+x.2.1 - v))):=by
  refine csZ Try.func149 (fun c hc=>?_)
  refine pkZ Try.func149 hc (qOt x v) ?_
  and_intros
  all_goals (first | exact zN | simp)
theorem con_l4Copy (N m:Nat) (F T Q:Nat→Int) (hN:N≤1048576) (hm:m≤1048576):zE 123 [pebD N m F T Q] (pebR N m F T Q) (pebO N m 0):=by
  refine csZ Try.func123 (fun c hc=>?_)
  refine pkD Try.func123 hc (qCp N m F T Q) ?_
  and_intros
  all_goals (first | exact zI | (intro i hi;simp [All]))
theorem oth_sum {x:T_Bar} {y z:Int} (h:y=x.1∨y=x.2.1) (hz:othF x y=z):x.1+x.2.1 - z=y∧x.1+x.2.1 - y=z:=by
  unfold othF at hz
  by_cases e:x.1=y
  · rw [if_pos e] at hz;omega
  · rw [if_neg e] at hz
    rcases h with h | h
    · exact absurd h.symm e
    · omega
theorem run_shift {N nb m:Nat} {g:Nat→T_Bar} {F F0 F1 T Q td FR:Nat→Int} {a b u:Int} {tn:Nat} (h:BInv N m g F T Q td (fun s=>FR (td s).toNat) a b tn) (hN:N≤1048576) (hm:m≤1048576) (hnb:nb≤1048576)
    (hq:∀ j,j<m→0≤Q j∧Q j<nb) (hbar:∀ e,e<nb→0≤(g e).1∧(g e).1<(g e).2.1∧(g e).2.1<N) (hT:∀ j,j<m→T j=(g (Q j).toNat).1∨T j=(g (Q j).toNat).2.1) :
    ∀ s,s<tn→∀ T':Nat→Int,TInv m g T Q td (fun s=>FR (td s).toNat) T' u s→∃ T'' s',(∀ c,c.n=0→zR c 150 zf24 (SSl g nb N m F0 T Q FR F1 T' a u (td s)) (Post c (pebR N m F1 T'' Q) (pebO N m 0))) ∧
      TInv m g T Q td (fun s=>FR (td s).toNat) T'' u s'∧td s'=a:=by
  intro s
  induction s using Nat.strongRecOn with
  | ind s ih =>
    intro hs T' ht
    by_cases he:td s=a
    · refine ⟨T',s,fun c hc=>?_,ht,he⟩
      have hb:(td s != a)=false:=by simp [he]
      refine pkD Try.func150 hc (qSe g nb N m F0 T Q FR F1 T' a u (td s)) ?_
      and_intros
      all_goals (first | exact zI | (exact hb) | (intro i hi;simp [All]))
    · have hs1:1≤s:=by
        cases s with
        | zero=>exact absurd h.td0 he
        | succ s=>omega
      obtain ⟨j,hj,hVs,s',hs',hk,ht',hTj,hoth⟩:=ht.step h hs hs1
      have hVs:FR (td s).toNat=(j:Int):=hVs
      obtain ⟨T'',s'',hrun,h1,h2⟩:=ih s' hs' (by omega) _ ht'
      refine ⟨T'',s'',fun c hc=>?_,h1,h2⟩
      have hb:(td s != a)=true:=by simp [he]
      have hqj:=hq j hj
      have hbj:=hbar (Q j).toNat (by omega)
      have hrs:=h.rng s hs
      have hsum:=(oth_sum (by rw [← hTj];exact hT j hj) hoth).1
      have hcon:=con_l4Other (g (Q j).toNat) (td s) (by omega) (by omega) (by omega)
      rw [hsum] at hcon
      refine pcD hc (qSl g nb N m F0 T Q FR F1 T' a u (td s) (td s')) ?_ (by rw [hVs];simp only [Int.toNat_natCast];exact hrun c hc)
      and_intros
      all_goals (first | exact zI | (exact hb) | (rw [hVs];simp only [Int.toNat_natCast];omega) | (rw [hVs];simp only [Int.toNat_natCast];exact hcon) | (intro i hi;simp [All];done) | (simp only [hVs,Int.toNat_natCast];intro i hi;by_cases h:i=j<;>simp [h,cvtL,cvt,tg,tru,All]))
theorem BInv.congrV {N m:Nat} {g:Nat→T_Bar} {F T Q td V V':Nat→Int} {a b:Int} {tn:Nat} (h:BInv N m g F T Q td V a b tn) (hv:∀ s,s<tn→V s=V' s):BInv N m g F T Q td V' a b tn :=
  ⟨h.n1,h.td0,h.rng,h.inj,fun s h1 h2=>by rw [← hv s h2];exact h.par s h1 h2⟩
theorem con_l4Shift {N k nb m:Nat} {g:Nat→T_Bar} {F T Q td FR:Nat→Int} {a b u:Int} {tn:Nat} (hp:PInv N k nb m g F T Q) (hk:k≤1048576) (hN:N≤1048576) (hm:m≤1048576) (hnb:nb≤1048576)
    (h:BInv N m g F T Q td (fun s=>FR (td s).toNat) a b (tn+1)) (htn:td tn=u) (ha:0≤a∧a<N) (hu:0≤u∧u<N) (hua:u≠a) :
    ∃ T'' s',zE 150 [grG g nb N,pebD N m F T Q,inD N FR,.p (.int .i64 a),.p (.int .i64 u)] (pebR N m (fun x=>if x=a.toNat then (if x=u.toNat then F x - 1 else F x)+1 else (if x=u.toNat then F x - 1 else F x)) T'' Q) (pebO N m 0) ∧
      TInv m g T Q td (fun s=>FR (td s).toNat) T'' u s'∧td s'=a:=by
  have ht0:TInv m g T Q td (fun s=>FR (td s).toNat) T u tn:=⟨fun _ _ _=>rfl,hp.t,fun x=>by rw [htn];omega⟩
  obtain ⟨T'',s',hrun,h1,h2⟩:=run_shift (nb:=nb) (F0:=F) (F1:=fun x=>if x=a.toNat then (if x=u.toNat then F x - 1 else F x)+1 else (if x=u.toNat then F x - 1 else F x)) h hN hm hnb hp.q hp.bars hp.t tn (by omega) T ht0
  refine ⟨T'',s',?_,h1,h2⟩
  rw [htn] at hrun
  have hFa:=hp.le (v:=a.toNat) (by omega)
  have hFu:=hp.le (v:=u.toNat) (by omega)
  have hcc:=con_l4Copy N m F T Q hN hm
  refine csZ Try.func150 (fun c hc=>?_)
  have hrun':=hrun c hc
  refine pcD hc (qSz g nb N m F T Q FR a u) ?_ ?_
  ·
    and_intros
    all_goals (first | exact zI | (exact hcc) | (intro i hi;simp [All];done) | (intro i hi;by_cases h:i=u.toNat<;>simp [h,cvtL,cvt,tg,tru,All]))
  · have hF1:(fun s=>if s=u.toNat then F s - 1 else F s) a.toNat=F a.toNat:=by
      show (if a.toNat=u.toNat then F a.toNat - 1 else F a.toNat)=_
      rw [if_neg (by omega)]
    obtain ⟨F1,hF1d⟩:∃ F1:Nat→Int,F1=(fun s=>if s=u.toNat then F s - 1 else F s):=⟨_,rfl⟩
    have hFF:(fun x=>if x=a.toNat then (if x=u.toNat then F x - 1 else F x)+1 else (if x=u.toNat then F x - 1 else F x))=(fun s=>if s=a.toNat then F1 s+1 else F1 s):=by
      subst hF1d;rfl
    rw [hFF] at hrun' ⊢
    rw [← hF1d] at hF1 ⊢
    refine pcD hc (qSa g nb N m F T Q FR F1 T a u) ?_ hrun'
    and_intros
    all_goals (first | exact zI | (rw [hF1];omega) | (intro i hi;simp [All];done) | (intro i hi;by_cases h:i=a.toNat<;>simp [h,cvtL,cvt,tg,tru,All]))
inductive FindR (N k nb m:Nat) (g:Nat→T_Bar) (F T Q:Nat→Int) (a b:Int):Hp→AV→Prop
  | yes (F' T':Nat→Int) (h:Moved N k nb m g F T Q a b F' T' true):FindR N k nb m g F T Q a b (pebR3 N m F T Q F' T' Q) (.tup [pebO N m 3,.p (.bool true)])
  | no (h:Moved N k nb m g F T Q a b F T false):FindR N k nb m g F T Q a b (pebR N m F T Q) (.tup [pebO N m 0,.p (.bool false)])
def OutS (N k nb m:Nat) (g:Nat→T_Bar) (F T Q:Nat→Int) (a b:Int) (i tn:Nat) (td FR:Nat→Int) (SN:Nat→Bool):Prop :=
  ∃ H' res,(∀ c,c.n=3→zR c 125 [.code (cAt (bodyOf Try.f125) [1,1,1,1,1,1,0,1,0,0]),.inLoop (cAt (bodyOf Try.f125) [1,1,1,1,1,1,0,1,0,0]),.inBlock 2,.code (cAt (bodyOf Try.f125) [1,1,1,1,1,1,1])] (SF1 g nb N m F T Q td FR SN a b i tn) (Post c H' res))∧FindR N k nb m g F T Q a b H' res
def MidS (N k nb m:Nat) (g:Nat→T_Bar) (F T Q:Nat→Int) (a b:Int) (i j tn:Nat) (td FR:Nat→Int) (SN:Nat→Bool):Prop :=
  ∃ H' res,(∀ c,c.n=3→zR c 125 [.code (cAt (bodyOf Try.f125) [1,1,1,1,1,1,0,1,0,0,1,0,0,1,1,0,0]),.inLoop (cAt (bodyOf Try.f125) [1,1,1,1,1,1,0,1,0,0,1,0,0,1,1,0,0]),.inBlock 4,.inBlock 3,.code (cAt (bodyOf Try.f125) [1,1,1,1,1,1,0,1,0,0,1,1]),.inLoop (cAt (bodyOf Try.f125) [1,1,1,1,1,1,0,1,0,0]),.inBlock 2,.code (cAt (bodyOf Try.f125) [1,1,1,1,1,1,1])] (SF2 g nb N m F T Q td FR SN a b (td i) i j tn) (Post c H' res))∧FindR N k nb m g F T Q a b H' res
def SeenI (N:Nat) (td:Nat→Int) (SN:Nat→Bool) (tn:Nat):Prop:=∀ x:Nat,x<N→(SN x=true↔∃ s,s<tn∧td s=x)
theorem mid_s {N k nb m:Nat} {g:Nat→T_Bar} {F T Q:Nat→Int} {a b:Int} (hp:PInv N k nb m g F T Q) (hk:k≤1048576) (hN:N≤1048576) (hm:m≤1048576) (hnb:nb≤1048576)
    (ha:0≤a∧a<N) (hb:0≤b∧b<N) (hab:a≠b) (i:Nat)
    (ih:∀ tn td FR SN,i+1≤tn→BInv N m g F T Q td (fun s=>FR (td s).toNat) a b tn→SeenI N td SN tn→BZero F td b tn→BClo m g T Q td (i+1) 0 tn→OutS N k nb m g F T Q a b (i+1) tn td FR SN) :
    ∀ e j tn td FR SN,j+e=m→i<tn→BInv N m g F T Q td (fun s=>FR (td s).toNat) a b tn→SeenI N td SN tn→BZero F td b tn→BClo m g T Q td i j tn→MidS N k nb m g F T Q a b i j tn td FR SN:=by
  intro e
  induction e with
  | zero =>
    intro j tn td FR SN hj hi hbi hsn hz hcl
    have htn:=pigeon N tn td hbi.rng hbi.inj
    obtain ⟨H',res,hrun,hmv⟩:=ih tn td FR SN (by omega) hbi hsn hz (fun i' j' hij hi' hT=>by
      rcases hij with ⟨h1,h2⟩ | ⟨h1,h2⟩
      · by_cases e:i'=i
        · exact hcl i' j' (.inr ⟨e,by omega⟩) hi' hT
        · exact hcl i' j' (.inl ⟨by omega,h2⟩) hi' hT
      · omega)
    refine ⟨H',res,fun c hc=>?_,hmv⟩
    have hd:decide ((j:Int)<(m:Int))=false:=by simp;omega
    refine pcD hc (qF2e g nb N m F T Q td FR SN a b (td i) i j tn) ?_ (hrun c hc)
    and_intros
    all_goals (first | exact zN | (intro i hi;simp [All]))
  | succ e ihe =>
    intro j tn td FR SN hj hi hbi hsn hz hcl
    have htn:=pigeon N tn td hbi.rng hbi.inj
    have hjm:j<m:=by omega
    have hd:decide ((j:Int)<(m:Int))=true:=by simp;omega
    have hq:=hp.q j hjm
    have hbar:=hp.bars (Q j).toNat (by omega)
    have hrg:=hbi.rng i hi
    by_cases hT:T j=td i
    · have ht1:(T j != td i)=false:=by simp [hT]
      obtain ⟨v,hv⟩:∃ v,othF (g (Q j).toNat) (td i)=v:=⟨_,rfl⟩
      have hvr:0≤v∧v<N:=by rw [← hv];exact othF_in hbar
      have hsum:=(oth_sum (by rw [← hT];exact hp.t j hjm) hv).2
      have hcon:=con_l4Other (g (Q j).toNat) (td i) (by omega) (by omega) (by omega)
      rw [hsum] at hcon
      cases hh:SN v.toNat with
      | true =>
        obtain ⟨s,hs1,hs2⟩:=(hsn v.toNat (by omega)).1 hh
        obtain ⟨H',res,hrun,hmv⟩:=ihe (j+1) tn td FR SN (by omega) hi hbi hsn hz (fun i' j' hij hi' hTT=>by
          by_cases e:i'=i∧j'=j
          · obtain ⟨rfl,rfl⟩:=e
            exact ⟨s,hs1,by rw [hs2,hv];omega⟩
          · exact hcl i' j' (by omega) hi' hTT)
        refine ⟨H',res,fun c hc=>?_,hmv⟩
        refine pcD hc (qF2b g nb N m F T Q td FR SN a b (td i) v i j tn) ?_ (hrun c hc)
        and_intros
        all_goals (first | exact zN | (exact ht1) | (exact hcon) | (exact hh) | (intro i hi;simp [All]))
      | false =>
        have hno:∀ s,s<tn→td s≠v:=by
          intro s hs e
          have:=(hsn v.toNat (by omega)).2 ⟨s,hs,by omega⟩
          rw [hh] at this;cases this
        have hadd0:=hbi.add hi hjm hT hv hvr hno
        have hadd:BInv N m g F T Q (fun s=>if s<tn then td s else v) (fun s=>(fun x=>if x=v.toNat then (j:Int) else FR x) ((fun s=>if s<tn then td s else v) s).toNat) a b (tn+1):=by
          refine hadd0.congrV (fun s hs=>?_)
          show (if s<tn then FR (td s).toNat else (j:Int))=(if (if s<tn then td s else v).toNat=v.toNat then (j:Int) else FR (if s<tn then td s else v).toNat)
          by_cases e:s<tn
          · have h1:=hno s e
            have h2:=hbi.rng s e
            rw [if_pos e,if_pos e,if_neg (show ¬ (td s).toNat=v.toNat by omega)]
          · rw [if_neg e,if_neg e,if_pos rfl]
        have hF:=hp.le (v:=v.toNat) (by omega)
        cases hcd:(bif v != b then decide (F v.toNat>0) else false) with
        | false =>
          have hzv:v=b∨F v.toNat=0:=by
            by_cases e:v=b
            · exact .inl e
            · right
              have:(v != b)=true:=by simp [e]
              rw [this] at hcd
              simp at hcd
              omega
          obtain ⟨H',res,hrun,hmv⟩:=ihe (j+1) (tn+1) (fun s=>if s<tn then td s else v) (fun x=>if x=v.toNat then (j:Int) else FR x) (fun s=>if s=v.toNat then true else SN s) (by omega) (by omega) hadd (fun x hx=>by
            show (if x=v.toNat then true else SN x)=true↔∃ s,s<tn+1∧(if s<tn then td s else v)=x
            by_cases e:x=v.toNat
            · rw [if_pos e]
              exact ⟨fun _=>⟨tn,by omega,by rw [if_neg (Nat.lt_irrefl tn)];omega⟩,fun _=>rfl⟩
            · rw [if_neg e,hsn x hx]
              constructor
              · rintro ⟨s,h1,h2⟩;exact ⟨s,by omega,by rw [if_pos h1];exact h2⟩
              · rintro ⟨s,h1,h2⟩
                by_cases e2:s<tn
                · rw [if_pos e2] at h2;exact ⟨s,e2,h2⟩
                · rw [if_neg e2] at h2;omega) (fun s h1 h2=>by
            show (if s<tn then td s else v)=b∨F (if s<tn then td s else v).toNat=0
            by_cases e:s<tn
            · rw [if_pos e];exact hz s h1 e
            · rw [if_neg e];exact hzv) (fun i' j' hij hi' hTT=>by
            have hi2:i'<tn:=by omega
            have hTT':T j'=td i':=by rw [hTT];show (if i'<tn then td i' else v)=_;rw [if_pos hi2]
            show ∃ s,s<tn+1∧(if s<tn then td s else v)=othF (g (Q j').toNat) (if i'<tn then td i' else v)
            rw [if_pos hi2]
            by_cases e:i'=i∧j'=j
            · obtain ⟨rfl,rfl⟩:=e
              exact ⟨tn,by omega,by rw [if_neg (Nat.lt_irrefl tn),hv]⟩
            · obtain ⟨s,h1,h2⟩:=hcl i' j' (by omega) hi2 hTT'
              exact ⟨s,by omega,by rw [if_pos h1];exact h2⟩)
          refine ⟨H',res,fun c hc=>?_,hmv⟩
          have hrun':=hrun c hc
          simp only [hi,if_true] at hrun'
          refine pcD hc (qF2c g nb N m F T Q td FR SN a b (td i) v i j tn) ?_ hrun'
          and_intros
          all_goals (first | exact zI | (exact ht1) | (exact hcon) | (exact hh) | (exact hcd) | (intros;omega) | (intro i hi;simp [All];done) | (intro i hi;by_cases h:i<tn<;>simp [h,cvtL,cvt,tg,tru,All];done) | (intro i hi;by_cases h:i=v.toNat<;>simp [h,cvtL,cvt,tg,tru,All]))
        | true =>
          have hvb:v≠b:=by
            intro e
            rw [show (v != b)=false by simp [e]] at hcd
            cases hcd
          have hFv:F v.toNat≠0:=by
            intro e
            rw [show (v != b)=true by simp [hvb]] at hcd
            simp [e] at hcd
          have hva:v≠a:=by
            have:=hno 0 (by have:=hbi.n1;omega)
            rw [hbi.td0] at this
            exact Ne.symm this
          obtain ⟨T'',s',hcs,h1,h2⟩:=con_l4Shift (td:=fun s=>if s<tn then td s else v) (FR:=fun x=>if x=v.toNat then (j:Int) else FR x) (tn:=tn) hp hk hN hm hnb hadd (by show (if tn<tn then td tn else v)=v;rw [if_neg (Nat.lt_irrefl tn)]) ha hvr hva
          refine ⟨_,_,fun c hc=>?_,.yes _ T'' (moved_yes hp ha hb hab hvr hva hvb hFv h1 h2)⟩
          refine pcD hc (qF2d g nb N m F T Q td FR SN a b (td i) v i j tn) ?_ ?_
          ·
            and_intros
            all_goals (first | exact zI | (exact ht1) | (exact hcon) | (exact hh) | (exact hcd) | (intros;omega) | (intro i hi;simp [All];done) | (intro i hi;by_cases h:i=v.toNat<;>simp [h,cvtL,cvt,tg,tru,All]))
          · refine pkD Try.func125 hc (qF3 g nb N m F T Q (fun s=>if s=v.toNat then (j:Int) else FR s) _ T'' a b v) ?_
            and_intros
            all_goals (first | exact zI | (exact hcs) | (intro i hi;simp [All]))
    · have ht1:(T j != td i)=true:=by simp [hT]
      obtain ⟨H',res,hrun,hmv⟩:=ihe (j+1) tn td FR SN (by omega) hi hbi hsn hz (fun i' j' hij hi' hTT=>by
        by_cases e:i'=i∧j'=j
        · obtain ⟨rfl,rfl⟩:=e
          exact absurd hTT hT
        · exact hcl i' j' (by omega) hi' hTT)
      refine ⟨H',res,fun c hc=>?_,hmv⟩
      refine pcD hc (qF2a g nb N m F T Q td FR SN a b (td i) i j tn) ?_ (hrun c hc)
      and_intros
      all_goals (first | exact zN | (exact ht1) | (intro i hi;simp [All]))
theorem out_s {N k nb m:Nat} {g:Nat→T_Bar} {F T Q:Nat→Int} {a b:Int} (hp:PInv N k nb m g F T Q) (hk:k≤1048576) (hN:N≤1048576) (hm:m≤1048576) (hnb:nb≤1048576)
    (ha:0≤a∧a<N) (hb:0≤b∧b<N) (hab:a≠b):∀ d i tn td FR SN,N+1≤i+d→i≤tn→BInv N m g F T Q td (fun s=>FR (td s).toNat) a b tn→SeenI N td SN tn→BZero F td b tn→BClo m g T Q td i 0 tn→OutS N k nb m g F T Q a b i tn td FR SN:=by
  intro d
  induction d with
  | zero =>
    intro i tn td FR SN hd hi hbi _ _ _
    have:=pigeon N tn td hbi.rng hbi.inj
    omega
  | succ d ih =>
    intro i tn td FR SN hd hi hbi hsn hz hcl
    have htn:=pigeon N tn td hbi.rng hbi.inj
    by_cases hit:i<tn
    · have hd':decide ((i:Int)<(tn:Int))=true:=by simp;omega
      obtain ⟨H',res,hrun,hmv⟩:=mid_s hp hk hN hm hnb ha hb hab i (fun tn td FR SN h1 h2 h3 h4 h5=>ih (i+1) tn td FR SN (by omega) h1 h2 h3 h4 h5) m 0 tn td FR SN (by omega) hit hbi hsn hz hcl
      refine ⟨H',res,fun c hc=>?_,hmv⟩
      refine pcD hc (qF1 g nb N m F T Q td FR SN a b i tn) ?_ (hrun c hc)
      and_intros
      all_goals (first | exact zN | (intro i hi;simp [All]))
    · have hd':decide ((i:Int)<(tn:Int))=false:=by simp;omega
      obtain rfl:i=tn:=by omega
      refine ⟨_,_,fun c hc=>?_,.no (moved_no hp hbi hz hcl)⟩
      refine pkD Try.func125 hc (qF1e g nb N m F T Q td FR SN a b i i) ?_
      and_intros
      all_goals (first | exact zI | (intro i hi;simp [All]))
theorem con_l4Find {N k nb m:Nat} {g:Nat→T_Bar} {F T Q:Nat→Int} {a b:Int} (hp:PInv N k nb m g F T Q) (hk:k≤1048576) (hN:N≤1048576) (hm:m≤1048576) (hnb:nb≤1048576)
    (ha:0≤a∧a<N) (hb:0≤b∧b<N) (hab:a≠b):∃ H' res,Con Try.prog 125 3 (pebR N m F T Q) [grG g nb N,pebO N m 0,.p (.int .i64 a),.p (.int .i64 b)] H' res∧FindR N k nb m g F T Q a b H' res:=by
  obtain ⟨H',res,hrun,hmv⟩:=out_s hp hk hN hm hnb ha hb hab (N+1) 0 1 (fun _=>a) (fun _=>-1) (fun s=>if s=a.toNat then true else false) (by omega) (by omega)
    ⟨by omega,rfl,fun s hs=>ha,fun s s' h1 h2=>by omega,fun s h1 h2=>by omega⟩ (fun x hx=>by
      show (if x=a.toNat then true else false)=true↔∃ s,s<1∧a=x
      by_cases e:x=a.toNat
      · rw [if_pos e];exact ⟨fun _=>⟨0,by omega,by omega⟩,fun _=>rfl⟩
      · rw [if_neg e];exact ⟨(fun h=>by cases h),(fun ⟨s,h1,h2⟩=>by omega)⟩) (fun s h1 h2=>by omega) (fun i' j' h=>by omega)
  refine ⟨H',res,?_,hmv⟩
  refine csZ Try.func125 (fun c hc=>?_)
  have lp0:∀ d i,i+d=N→zR c 125 zf47 (SF0 g nb N m F T Q a b i) (Post c H' res):=by
    intro d
    induction d with
    | zero =>
      intro i hi
      obtain rfl:i=N:=by omega
      have hd:decide ((i:Int)<(i:Int))=false:=by simp
      refine pcD hc (qF01 g nb i m F T Q a b i) ?_ (hrun c hc)
      and_intros
      iterate 2 all_goals (first | exact zI | (intro j hj;simp [All];done) | (intro j hj;simp [hj,All];done) | (intro j hj;by_cases h:j=a.toNat<;>simp [h,cvtL,cvt,tg,tru,All]) | simp only [All])
    | succ d ih =>
      intro i hi
      have hd:decide ((i:Int)<(N:Int))=true:=by simp;omega
      refine pcD hc (qF0 g nb N m F T Q a b i) ?_ (ih (i+1) (by omega))
      and_intros
      all_goals (first | exact zI | (intro j hj;simp [All];done) | (intro j hj;by_cases h:j=i<;>simp [h,Nat.lt_succ_iff_lt_or_eq,cvtL,cvt,tg,tru,All]))
  refine pcD hc (qFz g nb N m F T Q a b) ?_ (lp0 N 0 (by omega))
  and_intros
  iterate 2 all_goals (first | exact zN | (intro i hi;simp [All]) | simp only [All])
def aft (a b:T_Bar):Bool:=bif decide (a.1<b.1) then true else bif a.1==b.1 then decide (a.2.1≤b.2.1) else false
def cmpI (x y:Int):Int:=if x<y then -1 else if x>y then 1 else 0
def cmpB (a b:T_Bar):Int:=if cmpI a.1 b.1=0 then cmpI a.2.1 b.2.1 else cmpI a.1 b.1
def badB (N:Int) (g:Nat→T_Bar) (k:Nat):Bool :=
  bif bif bif decide ((g k).1<0) then true else decide ((g k).1≥(g k).2.1) then true else decide ((g k).2.1≥N) then true
    else bif decide ((k:Int)>0) then !aft (g ((k:Int) - 1).toNat) (g k) else false
def goodB (N:Int) (g:Nat→T_Bar):Nat→Bool
  | 0=>true
  | k+1=>goodB N g k&&!badB N g k
def isGraphF (v:T_Graph):Bool:=if inB v.1 1 8=true∧v.2.1.1≤24 then goodB v.1 v.2.1.2 v.2.1.1 else false
def barA (a:T_Bar):AV:=.agg [.p (.int .i64 a.1),.p (.int .i64 a.2.1)]
def graphL (v:T_BarS):AV:=.p (.seq true 2 v.1 (fun i=>[.int .i64 (v.2 i).1,.int .i64 (v.2 i).2.1]))
def graphA (v:T_Graph):AV:=.agg [.p (.int .i64 v.1),graphL v.2.1]
def boxG (v:T_Graph):Ob:=⟨true,2,1,fun i=>[.p (.int .i64 v.1),graphL v.2.1]⟩
def S48 (v:T_Graph) (k:Nat):St :=
  ⟨[graphA v,.pt 2 0 0 0,.p .any,.p (.int .i64 k)]++List.replicate 55 anyA,[(0,boxG v)],1⟩
def S51 (v:T_Graph) (k:Nat):St :=
  ⟨[graphA v,.pt 2 0 0 0]++List.replicate 14 anyA++[graphL v.2.1,.p (.int .i64 v.2.1.1),.p (.int .i64 k)]++List.replicate 37 anyA,[(0,boxG v)],1⟩
theorem p57 (a b:T_Bar) :
    zS Try.f84 [rg 3,rg 20] [barA a,barA b] [] [] (.p (.bool (aft a b))) =
    some (zD [(NT 0 1),(AG (!decide (a.1<b.1))),(((!decide (a.1<b.1))=true)→(NT 0 1)),(AG (!decide (a.1<b.1)&&a.1==b.1)),(((!decide (a.1<b.1)&&a.1==b.1)=true)→(NT 0 1)),(((!decide (a.1<b.1))=true)→(((a.1==b.1)=true)→ ((!decide (a.1<b.1)&&a.1==b.1)=true))),(((decide (a.1<b.1))=false)→ ((!decide (a.1<b.1))=true)),((bif decide (a.1<b.1) then true else bif a.1==b.1 then decide (a.2.1≤b.2.1) else false)=(aft a b))] [0,0,1,2,1,2,1,1,1,3,4,3,4,3,3,1,5,6,7]):=by kernel_rfl
theorem p62a (x y:Int) :
    zS Try.f99 [rg 1,rg 4,.dec true,rg 1] [.p (.int .i64 x),.p (.int .i64 y)] [] [] (.p (.int .i64 (-1))) =
    some [((decide (x<y))=true),(AI ((-1)))]:=by kernel_rfl
theorem p62b (x y:Int) :
    zS Try.f99 [rg 1,rg 4,.dec false,rg 4,.dec true,rg 1] [.p (.int .i64 x),.p (.int .i64 y)] [] [] (.p (.int .i64 1)) =
    some [((decide (x<y))=false),((decide (x>y))=true),(AI 1)]:=by kernel_rfl
theorem p62c (x y:Int) :
    zS Try.f99 [rg 1,rg 4,.dec false,rg 4,.dec false,rg 1] [.p (.int .i64 x),.p (.int .i64 y)] [] [] (.p (.int .i64 0)) =
    some [((decide (x<y))=false),((decide (x>y))=false),(AI 0)]:=by kernel_rfl
theorem p59a (a b:T_Bar) :
    zS Try.f73 [rg 3,rm [(4,oc [] (.p (.int .i64 (cmpI a.1 b.1))))] 1,rg 2,.dec true,rg 2] [barA a,barA b] [] [] (.p (.int .i64 (cmpI a.1 b.1))) =
    some [(NT 0 1),(NT 0 1),zE 99 [.p (.int .i64 a.1),.p (.int .i64 b.1)] [] (.p (.int .i64 (cmpI a.1 b.1))),((cmpI a.1 b.1 != 0)=true),(AI ((cmpI a.1 b.1)))]:=by kernel_rfl
theorem p59b (a b:T_Bar) :
    zS Try.f73 [rg 3,rm [(4,oc [] (.p (.int .i64 (cmpI a.1 b.1))))] 1,rg 2,.dec false,rm [(4,oc [] (.p (.int .i64 (cmpI a.2.1 b.2.1))))] 1] [barA a,barA b] [] [] (.p (.int .i64 (cmpI a.2.1 b.2.1))) =
    some [(NT 0 1),(NT 0 1),zE 99 [.p (.int .i64 a.1),.p (.int .i64 b.1)] [] (.p (.int .i64 (cmpI a.1 b.1))),((cmpI a.1 b.1 != 0)=false),(NT 0 1),(NT 0 1),zE 99 [.p (.int .i64 a.2.1),.p (.int .i64 b.2.1)] [] (.p (.int .i64 (cmpI a.2.1 b.2.1))),(AI ((cmpI a.2.1 b.2.1)))]:=by kernel_rfl
theorem p48z (v:T_Graph) :
    zS Try.f38 [rg 2,rm [(2,oc [] (.p (.bool (inB v.1 1 8))))] 7,.dec true,rg 1] [graphA v] [] [] (.p (.bool false)) =
    some (zD [(NT 0 1),zE 62 [.p (.int .i64 v.1),.p (.int .i64 1),.p (.int .i64 8)] [] (.p (.bool (inB v.1 1 8))),(AG (!!inB v.1 1 8)),(((!!inB v.1 1 8)=true)→(NT 0 1)),(((!inB v.1 1 8)=false)→ ((!!inB v.1 1 8)=true)),((bif !inB v.1 1 8 then true else decide ((↑v.2.1.1:Int)>24))=true),(false=false)] [0,1,2,3,2,2,4,5,6]):=by kernel_rfl
theorem p48a (v:T_Graph) :
    zT Try.f38 [rg 2,rm [(2,oc [] (.p (.bool (inB v.1 1 8))))] 7,.dec false,rg 1,.head] [graphA v] [0] (S48 v 0) =
    some (zf54,zD [(NT 0 1),zE 62 [.p (.int .i64 v.1),.p (.int .i64 1),.p (.int .i64 8)] [] (.p (.bool (inB v.1 1 8))),(AG (!!inB v.1 1 8)),(((!!inB v.1 1 8)=true)→(NT 0 1)),(((!inB v.1 1 8)=false)→ ((!!inB v.1 1 8)=true)),((bif !inB v.1 1 8 then true else decide ((↑v.2.1.1:Int)>24))=false),(AI v.1),(AN v.2.1.1),(AP v.2.1.1 (bRw v.2.1.2)),(AN 0),((0:Int)=(↑0:Int)),((([AV.p (PV.int IntKind.i64 v.1),graphL v.2.1].length):Nat)=2),(NL 1 1)] [0,1,2,3,2,2,4,5,6,7,8,9,10,11,12,12,6,7,8]):=by kernel_rfl
theorem p48b (v:T_Graph) (k:Nat) :
    zM 0 [rg 5,.dec true,rg 7,rm [(28,oc [] (.p (.bool (aft (v.2.1.2 ((k:Int) - 1).toNat) (v.2.1.2 k)))))] 3,.dec false,rg 3,.head] zf54 (S48 v k) [0] 1 (S48 v (k+1)) =
    some (zf54,zD [(NT 0 1),((decide ((↑k:Int)<(↑v.2.1.1:Int)))=true),(IL 0 (↑k:Int)),(IT (↑k:Int) (↑v.2.1.1:Int)),((true=true)→ (AN 1)),(AG (!decide ((vKz v k).1<0))),(((!decide ((vKz v k).1<0))=true)→(NT 0 1)),(((decide ((vKz v k).1<0))=false)→ ((!decide ((vKz v k).1<0))=true)),(AG (!bif decide ((vKz v k).1<0) then true else decide ((vKz v k).1≥(vKz v k).2.1))),(((!bif decide ((vKz v k).1<0) then true else decide ((vKz v k).1≥(vKz v k).2.1))=true)→(NT 0 1)),(((bif decide ((vKz v k).1<0) then true else decide ((vKz v k).1≥(vKz v k).2.1))=false)→ ((!bif decide ((vKz v k).1<0) then true else decide ((vKz v k).1≥(vKz v k).2.1))=true)),(AG (!bif bif decide ((vKz v k).1<0) then true else decide ((vKz v k).1≥(vKz v k).2.1) then true else decide ((vKz v k).2.1≥v.1))),(AG ((!bif bif decide ((vKz v k).1<0) then true else decide ((vKz v k).1≥(vKz v k).2.1) then true else decide ((vKz v k).2.1≥v.1))&&decide ((↑k:Int)>0))),((((!bif bif decide ((vKz v k).1<0) then true else decide ((vKz v k).1≥(vKz v k).2.1) then true else decide ((vKz v k).2.1≥v.1))&&decide ((↑k:Int)>0))=true)→(NT 0 1)),((((!bif bif decide ((vKz v k).1<0) then true else decide ((vKz v k).1≥(vKz v k).2.1) then true else decide ((vKz v k).2.1≥v.1))&&decide ((↑k:Int)>0))=true)→(ZLo ((↑k:Int) - 1))),((((!bif bif decide ((vKz v k).1<0) then true else decide ((vKz v k).1≥(vKz v k).2.1) then true else decide ((vKz v k).2.1≥v.1))&&decide ((↑k:Int)>0))=true)→(ZHi ((↑k:Int) - 1))),((((!bif bif decide ((vKz v k).1<0) then true else decide ((vKz v k).1≥(vKz v k).2.1) then true else decide ((vKz v k).2.1≥v.1))&&decide ((↑k:Int)>0))=true)→(IL 0 ((↑k:Int) - 1))),((((!bif bif decide ((vKz v k).1<0) then true else decide ((vKz v k).1≥(vKz v k).2.1) then true else decide ((vKz v k).2.1≥v.1))&&decide ((↑k:Int)>0))=true)→(IT ((↑k:Int) - 1) (↑v.2.1.1:Int))),((((!bif bif decide ((vKz v k).1<0) then true else decide ((vKz v k).1≥(vKz v k).2.1) then true else decide ((vKz v k).2.1≥v.1))&&decide ((↑k:Int)>0))=true)→ zE 84 [(zf79 v k),(zf87 v k)] [] (.p (.bool (aft (v.2.1.2 ((↑k:Int) - 1).toNat) (v.2.1.2 k))))),(((!bif bif decide ((vKz v k).1<0) then true else decide ((vKz v k).1≥(vKz v k).2.1) then true else decide ((vKz v k).2.1≥v.1))=true)→(((decide ((↑k:Int)>0))=true)→ (((!bif bif decide ((vKz v k).1<0) then true else decide ((vKz v k).1≥(vKz v k).2.1) then true else decide ((vKz v k).2.1≥v.1))&&decide ((↑k:Int)>0))=true))),(((bif bif decide ((vKz v k).1<0) then true else decide ((vKz v k).1≥(vKz v k).2.1) then true else decide ((vKz v k).2.1≥v.1))=false)→ ((!bif bif decide ((vKz v k).1<0) then true else decide ((vKz v k).1≥(vKz v k).2.1) then true else decide ((vKz v k).2.1≥v.1))=true)),((bif bif bif decide ((vKz v k).1<0) then true else decide ((vKz v k).1≥(vKz v k).2.1) then true else decide ((vKz v k).2.1≥v.1) then true else bif decide ((↑k:Int)>0) then !aft (v.2.1.2 ((↑k:Int) - 1).toNat) (v.2.1.2 k) else false)=false),(ZLo ((↑k:Int)+1)),(ZHi ((↑k:Int)+1)),(AI v.1),(AN v.2.1.1),(AP v.2.1.1 (bRw v.2.1.2)),(AN 0),((((↑k:Int)+1):Int)=(↑(k+1):Int)),(AN 2),(NL 1 1)] [0,1,0,2,3,0,4,0,5,6,5,6,5,5,7,8,9,8,9,8,8,10,11,11,12,13,12,14,15,12,12,16,17,12,13,12,12,18,12,11,19,20,21,22,23,24,25,26,27,28,29,30,30,24,25,26]):=by kernel_rfl
theorem p48c (v:T_Graph) (k:Nat) :
    zP Try.f38 0 [rg 5,.dec true,rg 7,rm [(28,oc [] (.p (.bool (aft (v.2.1.2 ((k:Int) - 1).toNat) (v.2.1.2 k)))))] 3,.dec true,rg 1] zf54 (S48 v k) [] 1 [] (.p (.bool false)) =
    some (zD [(NT 0 1),((decide ((↑k:Int)<(↑v.2.1.1:Int)))=true),(IL 0 (↑k:Int)),(IT (↑k:Int) (↑v.2.1.1:Int)),((true=true)→ (AN 1)),(AG (!decide ((vKz v k).1<0))),(((!decide ((vKz v k).1<0))=true)→(NT 0 1)),(((decide ((vKz v k).1<0))=false)→ ((!decide ((vKz v k).1<0))=true)),(AG (!bif decide ((vKz v k).1<0) then true else decide ((vKz v k).1≥(vKz v k).2.1))),(((!bif decide ((vKz v k).1<0) then true else decide ((vKz v k).1≥(vKz v k).2.1))=true)→(NT 0 1)),(((bif decide ((vKz v k).1<0) then true else decide ((vKz v k).1≥(vKz v k).2.1))=false)→ ((!bif decide ((vKz v k).1<0) then true else decide ((vKz v k).1≥(vKz v k).2.1))=true)),(AG (!bif bif decide ((vKz v k).1<0) then true else decide ((vKz v k).1≥(vKz v k).2.1) then true else decide ((vKz v k).2.1≥v.1))),(AG ((!bif bif decide ((vKz v k).1<0) then true else decide ((vKz v k).1≥(vKz v k).2.1) then true else decide ((vKz v k).2.1≥v.1))&&decide ((↑k:Int)>0))),((((!bif bif decide ((vKz v k).1<0) then true else decide ((vKz v k).1≥(vKz v k).2.1) then true else decide ((vKz v k).2.1≥v.1))&&decide ((↑k:Int)>0))=true)→(NT 0 1)),((((!bif bif decide ((vKz v k).1<0) then true else decide ((vKz v k).1≥(vKz v k).2.1) then true else decide ((vKz v k).2.1≥v.1))&&decide ((↑k:Int)>0))=true)→(ZLo ((↑k:Int) - 1))),((((!bif bif decide ((vKz v k).1<0) then true else decide ((vKz v k).1≥(vKz v k).2.1) then true else decide ((vKz v k).2.1≥v.1))&&decide ((↑k:Int)>0))=true)→(ZHi ((↑k:Int) - 1))),((((!bif bif decide ((vKz v k).1<0) then true else decide ((vKz v k).1≥(vKz v k).2.1) then true else decide ((vKz v k).2.1≥v.1))&&decide ((↑k:Int)>0))=true)→(IL 0 ((↑k:Int) - 1))),((((!bif bif decide ((vKz v k).1<0) then true else decide ((vKz v k).1≥(vKz v k).2.1) then true else decide ((vKz v k).2.1≥v.1))&&decide ((↑k:Int)>0))=true)→(IT ((↑k:Int) - 1) (↑v.2.1.1:Int))),((((!bif bif decide ((vKz v k).1<0) then true else decide ((vKz v k).1≥(vKz v k).2.1) then true else decide ((vKz v k).2.1≥v.1))&&decide ((↑k:Int)>0))=true)→ zE 84 [(zf79 v k),(zf87 v k)] [] (.p (.bool (aft (v.2.1.2 ((↑k:Int) - 1).toNat) (v.2.1.2 k))))),(((!bif bif decide ((vKz v k).1<0) then true else decide ((vKz v k).1≥(vKz v k).2.1) then true else decide ((vKz v k).2.1≥v.1))=true)→(((decide ((↑k:Int)>0))=true)→ (((!bif bif decide ((vKz v k).1<0) then true else decide ((vKz v k).1≥(vKz v k).2.1) then true else decide ((vKz v k).2.1≥v.1))&&decide ((↑k:Int)>0))=true))),(((bif bif decide ((vKz v k).1<0) then true else decide ((vKz v k).1≥(vKz v k).2.1) then true else decide ((vKz v k).2.1≥v.1))=false)→ ((!bif bif decide ((vKz v k).1<0) then true else decide ((vKz v k).1≥(vKz v k).2.1) then true else decide ((vKz v k).2.1≥v.1))=true)),((bif bif bif decide ((vKz v k).1<0) then true else decide ((vKz v k).1≥(vKz v k).2.1) then true else decide ((vKz v k).2.1≥v.1) then true else bif decide ((↑k:Int)>0) then !aft (v.2.1.2 ((↑k:Int) - 1).toNat) (v.2.1.2 k) else false)=true),(false=false)] [0,1,0,2,3,0,4,0,5,6,5,6,5,5,7,8,9,8,9,8,8,10,11,11,12,13,12,14,15,12,12,16,17,12,13,12,12,18,12,11,19,20,21,22]):=by kernel_rfl
theorem p48d (v:T_Graph) (k:Nat) :
    zP Try.f38 0 [rg 5,.dec false,rg 1] zf54 (S48 v k) [] 1 [] (.p (.bool true)) =
    some [(NT 0 1),((decide ((↑k:Int)<(↑v.2.1.1:Int)))=false),(true=true)]:=by kernel_rfl
theorem p51z (v:T_Graph) :
    zS Try.f24 [rg 2,rm [(2,oc [] (.p (.bool (inB v.1 1 8))))] 7,.dec true,rg 1] [graphA v] [] [] (.p (.bool false)) =
    some (zD [(NT 0 1),zE 60 [.p (.int .i64 v.1),.p (.int .i64 1),.p (.int .i64 8)] [] (.p (.bool (inB v.1 1 8))),(AG (!!inB v.1 1 8)),(((!!inB v.1 1 8)=true)→(NT 0 1)),(((!inB v.1 1 8)=false)→ ((!!inB v.1 1 8)=true)),((bif !inB v.1 1 8 then true else decide ((↑v.2.1.1:Int)>24))=true),(false=false)] [0,1,2,3,2,2,4,5,6]):=by kernel_rfl
theorem p51a (v:T_Graph) :
    zT Try.f24 [rg 2,rm [(2,oc [] (.p (.bool (inB v.1 1 8))))] 7,.dec false,rg 4,.head] [graphA v] [0] (S51 v 0) =
    some (zf55,zD [(NT 0 1),zE 60 [.p (.int .i64 v.1),.p (.int .i64 1),.p (.int .i64 8)] [] (.p (.bool (inB v.1 1 8))),(AG (!!inB v.1 1 8)),(((!!inB v.1 1 8)=true)→(NT 0 1)),(((!inB v.1 1 8)=false)→ ((!!inB v.1 1 8)=true)),((bif !inB v.1 1 8 then true else decide ((↑v.2.1.1:Int)>24))=false),(AI v.1),(AN v.2.1.1),(AP v.2.1.1 (bRw v.2.1.2)),(AN 0),(AI ((↑v.2.1.1:Int))),((0:Int)=(↑0:Int)),((([AV.p (PV.int IntKind.i64 v.1),graphL v.2.1].length):Nat)=2),(NL 1 1)] [0,1,2,3,2,2,4,5,0,6,7,8,9,7,8,10,11,12,13,13,6,7,8]):=by kernel_rfl
theorem p51b (v:T_Graph) (k:Nat) :
    zM 0 [rg 1,.dec true,rg 6,rm [(28,oc [] (.p (.int .i64 (cmpB (v.2.1.2 ((k:Int) - 1).toNat) (v.2.1.2 k)))))] 3,.dec false,rg 2,.head] zf55 (S51 v k) [0] 1 (S51 v (k+1)) =
    some (zf55,zD [((decide ((↑k:Int)<(↑v.2.1.1:Int)))=true),(IL 0 (↑k:Int)),(IT (↑k:Int) (↑v.2.1.1:Int)),(NT 0 1),((true=true)→ (AN 1)),(AG (!decide ((vKz v k).1<0))),(((!decide ((vKz v k).1<0))=true)→(NT 0 1)),(((decide ((vKz v k).1<0))=false)→ ((!decide ((vKz v k).1<0))=true)),(AG (!bif decide ((vKz v k).1<0) then true else decide ((vKz v k).1≥(vKz v k).2.1))),(((!bif decide ((vKz v k).1<0) then true else decide ((vKz v k).1≥(vKz v k).2.1))=true)→(NT 0 1)),(((bif decide ((vKz v k).1<0) then true else decide ((vKz v k).1≥(vKz v k).2.1))=false)→ ((!bif decide ((vKz v k).1<0) then true else decide ((vKz v k).1≥(vKz v k).2.1))=true)),(AG (!bif bif decide ((vKz v k).1<0) then true else decide ((vKz v k).1≥(vKz v k).2.1) then true else decide ((vKz v k).2.1≥v.1))),(AG ((!bif bif decide ((vKz v k).1<0) then true else decide ((vKz v k).1≥(vKz v k).2.1) then true else decide ((vKz v k).2.1≥v.1))&&decide ((↑k:Int)>0))),((((!bif bif decide ((vKz v k).1<0) then true else decide ((vKz v k).1≥(vKz v k).2.1) then true else decide ((vKz v k).2.1≥v.1))&&decide ((↑k:Int)>0))=true)→(NT 0 1)),((((!bif bif decide ((vKz v k).1<0) then true else decide ((vKz v k).1≥(vKz v k).2.1) then true else decide ((vKz v k).2.1≥v.1))&&decide ((↑k:Int)>0))=true)→(ZLo ((↑k:Int) - 1))),((((!bif bif decide ((vKz v k).1<0) then true else decide ((vKz v k).1≥(vKz v k).2.1) then true else decide ((vKz v k).2.1≥v.1))&&decide ((↑k:Int)>0))=true)→(ZHi ((↑k:Int) - 1))),((((!bif bif decide ((vKz v k).1<0) then true else decide ((vKz v k).1≥(vKz v k).2.1) then true else decide ((vKz v k).2.1≥v.1))&&decide ((↑k:Int)>0))=true)→(IL 0 ((↑k:Int) - 1))),((((!bif bif decide ((vKz v k).1<0) then true else decide ((vKz v k).1≥(vKz v k).2.1) then true else decide ((vKz v k).2.1≥v.1))&&decide ((↑k:Int)>0))=true)→(IT ((↑k:Int) - 1) (↑v.2.1.1:Int))),((((!bif bif decide ((vKz v k).1<0) then true else decide ((vKz v k).1≥(vKz v k).2.1) then true else decide ((vKz v k).2.1≥v.1))&&decide ((↑k:Int)>0))=true)→ zE 73 [(zf79 v k),(zf87 v k)] [] (.p (.int .i64 (cmpB (v.2.1.2 ((↑k:Int) - 1).toNat) (v.2.1.2 k))))),(((!bif bif decide ((vKz v k).1<0) then true else decide ((vKz v k).1≥(vKz v k).2.1) then true else decide ((vKz v k).2.1≥v.1))=true)→(((decide ((↑k:Int)>0))=true)→ (((!bif bif decide ((vKz v k).1<0) then true else decide ((vKz v k).1≥(vKz v k).2.1) then true else decide ((vKz v k).2.1≥v.1))&&decide ((↑k:Int)>0))=true))),(((bif bif decide ((vKz v k).1<0) then true else decide ((vKz v k).1≥(vKz v k).2.1) then true else decide ((vKz v k).2.1≥v.1))=false)→ ((!bif bif decide ((vKz v k).1<0) then true else decide ((vKz v k).1≥(vKz v k).2.1) then true else decide ((vKz v k).2.1≥v.1))=true)),((bif bif bif decide ((vKz v k).1<0) then true else decide ((vKz v k).1≥(vKz v k).2.1) then true else decide ((vKz v k).2.1≥v.1) then true else bif decide ((↑k:Int)>0) then decide (cmpB (v.2.1.2 ((↑k:Int) - 1).toNat) (v.2.1.2 k)>0) else false)=false),(ZLo ((↑k:Int)+1)),(ZHi ((↑k:Int)+1)),(AI v.1),(AN v.2.1.1),(AP v.2.1.1 (bRw v.2.1.2)),(AN 0),(AI ((↑v.2.1.1:Int))),((((↑k:Int)+1):Int)=(↑(k+1):Int)),(AN 2),(NL 1 1)] [0,1,2,3,4,3,5,6,5,6,5,5,7,8,9,8,9,8,8,10,11,11,12,13,12,14,15,12,12,16,17,12,13,12,12,18,12,11,19,20,21,22,23,24,25,26,27,25,26,28,29,30,31,31,24,25,26]):=by kernel_rfl
theorem p51c (v:T_Graph) (k:Nat) :
    zP Try.f24 0 [rg 1,.dec true,rg 6,rm [(28,oc [] (.p (.int .i64 (cmpB (v.2.1.2 ((k:Int) - 1).toNat) (v.2.1.2 k)))))] 3,.dec true,rg 1] zf55 (S51 v k) [] 1 [] (.p (.bool false)) =
    some (zD [((decide ((↑k:Int)<(↑v.2.1.1:Int)))=true),(IL 0 (↑k:Int)),(IT (↑k:Int) (↑v.2.1.1:Int)),(NT 0 1),((true=true)→ (AN 1)),(AG (!decide ((vKz v k).1<0))),(((!decide ((vKz v k).1<0))=true)→(NT 0 1)),(((decide ((vKz v k).1<0))=false)→ ((!decide ((vKz v k).1<0))=true)),(AG (!bif decide ((vKz v k).1<0) then true else decide ((vKz v k).1≥(vKz v k).2.1))),(((!bif decide ((vKz v k).1<0) then true else decide ((vKz v k).1≥(vKz v k).2.1))=true)→(NT 0 1)),(((bif decide ((vKz v k).1<0) then true else decide ((vKz v k).1≥(vKz v k).2.1))=false)→ ((!bif decide ((vKz v k).1<0) then true else decide ((vKz v k).1≥(vKz v k).2.1))=true)),(AG (!bif bif decide ((vKz v k).1<0) then true else decide ((vKz v k).1≥(vKz v k).2.1) then true else decide ((vKz v k).2.1≥v.1))),(AG ((!bif bif decide ((vKz v k).1<0) then true else decide ((vKz v k).1≥(vKz v k).2.1) then true else decide ((vKz v k).2.1≥v.1))&&decide ((↑k:Int)>0))),((((!bif bif decide ((vKz v k).1<0) then true else decide ((vKz v k).1≥(vKz v k).2.1) then true else decide ((vKz v k).2.1≥v.1))&&decide ((↑k:Int)>0))=true)→(NT 0 1)),((((!bif bif decide ((vKz v k).1<0) then true else decide ((vKz v k).1≥(vKz v k).2.1) then true else decide ((vKz v k).2.1≥v.1))&&decide ((↑k:Int)>0))=true)→(ZLo ((↑k:Int) - 1))),((((!bif bif decide ((vKz v k).1<0) then true else decide ((vKz v k).1≥(vKz v k).2.1) then true else decide ((vKz v k).2.1≥v.1))&&decide ((↑k:Int)>0))=true)→(ZHi ((↑k:Int) - 1))),((((!bif bif decide ((vKz v k).1<0) then true else decide ((vKz v k).1≥(vKz v k).2.1) then true else decide ((vKz v k).2.1≥v.1))&&decide ((↑k:Int)>0))=true)→(IL 0 ((↑k:Int) - 1))),((((!bif bif decide ((vKz v k).1<0) then true else decide ((vKz v k).1≥(vKz v k).2.1) then true else decide ((vKz v k).2.1≥v.1))&&decide ((↑k:Int)>0))=true)→(IT ((↑k:Int) - 1) (↑v.2.1.1:Int))),((((!bif bif decide ((vKz v k).1<0) then true else decide ((vKz v k).1≥(vKz v k).2.1) then true else decide ((vKz v k).2.1≥v.1))&&decide ((↑k:Int)>0))=true)→ zE 73 [(zf79 v k),(zf87 v k)] [] (.p (.int .i64 (cmpB (v.2.1.2 ((↑k:Int) - 1).toNat) (v.2.1.2 k))))),(((!bif bif decide ((vKz v k).1<0) then true else decide ((vKz v k).1≥(vKz v k).2.1) then true else decide ((vKz v k).2.1≥v.1))=true)→(((decide ((↑k:Int)>0))=true)→ (((!bif bif decide ((vKz v k).1<0) then true else decide ((vKz v k).1≥(vKz v k).2.1) then true else decide ((vKz v k).2.1≥v.1))&&decide ((↑k:Int)>0))=true))),(((bif bif decide ((vKz v k).1<0) then true else decide ((vKz v k).1≥(vKz v k).2.1) then true else decide ((vKz v k).2.1≥v.1))=false)→ ((!bif bif decide ((vKz v k).1<0) then true else decide ((vKz v k).1≥(vKz v k).2.1) then true else decide ((vKz v k).2.1≥v.1))=true)),((bif bif bif decide ((vKz v k).1<0) then true else decide ((vKz v k).1≥(vKz v k).2.1) then true else decide ((vKz v k).2.1≥v.1) then true else bif decide ((↑k:Int)>0) then decide (cmpB (v.2.1.2 ((↑k:Int) - 1).toNat) (v.2.1.2 k)>0) else false)=true),(false=false)] [0,1,2,3,4,3,5,6,5,6,5,5,7,8,9,8,9,8,8,10,11,11,12,13,12,14,15,12,12,16,17,12,13,12,12,18,12,11,19,20,21,22]):=by kernel_rfl
theorem p51d (v:T_Graph) (k:Nat) :
    zP Try.f24 0 [rg 1,.dec false,rg 1] zf55 (S51 v k) [] 1 [] (.p (.bool true)) =
    some [((decide ((↑k:Int)<(↑v.2.1.1:Int)))=false),(true=true)]:=by kernel_rfl
theorem con_l2After (a b:T_Bar):zE 84 [barA a,barA b] [] (.p (.bool (aft a b))):=by
  refine csZ Try.func84 (fun c hc=>?_)
  refine pkD Try.func84 hc (p57 a b) ?_
  and_intros
  all_goals (first | exact zH)
theorem con_compareInts (x y:Int):zE 99 [.p (.int .i64 x),.p (.int .i64 y)] [] (.p (.int .i64 (cmpI x y))):=by
  refine csZ Try.func99 (fun c hc=>?_)
  by_cases h1:x<y
  · rw [show cmpI x y = -1 by simp [cmpI,h1]]
    refine pkZ Try.func99 hc (p62a x y) ?_
    and_intros
    all_goals (first | exact zN | (simp;omega))
  · by_cases h2:x>y
    · rw [show cmpI x y=1 by simp only [cmpI,h1,h2,if_true,if_false]]
      refine pkZ Try.func99 hc (p62b x y) ?_
      and_intros
      all_goals (first | exact zN | (simp;omega))
    · rw [show cmpI x y=0 by simp only [cmpI,h1,h2,if_false]]
      refine pkZ Try.func99 hc (p62c x y) ?_
      and_intros
      all_goals (first | exact zN | (simp;omega))
theorem con_compareBars (a b:T_Bar):zE 73 [barA a,barA b] [] (.p (.int .i64 (cmpB a b))):=by
  refine csZ Try.func73 (fun c hc=>?_)
  by_cases h1:cmpI a.1 b.1=0
  · rw [show cmpB a b=cmpI a.2.1 b.2.1 by simp [cmpB,h1]]
    refine pkZ Try.func73 hc (p59b a b) ?_
    and_intros
    all_goals (first | exact zN | (exact con_compareInts _ _) | (simp [h1]))
  · rw [show cmpB a b=cmpI a.1 b.1 by simp [cmpB,h1]]
    refine pkZ Try.func73 hc (p59a a b) ?_
    and_intros
    all_goals (first | exact zN | (exact con_compareInts _ _) | (simp [h1]))
theorem cmpB_gt (a b:T_Bar):decide (cmpB a b>0)=!aft a b:=by
  simp only [cmpB,cmpI,aft]
  by_cases h1:a.1<b.1
  · simp [h1]
  · by_cases h2:a.1>b.1
    · have h3:¬ a.1=b.1:=by omega
      simp [h1,h2,h3]
    · have h3:a.1=b.1:=by omega
      simp only [h1,h2,h3,if_true,if_false]
      by_cases h4:a.2.1<b.2.1
      · have:a.2.1≤b.2.1:=by omega
        simp [h4,this]
      · by_cases h5:a.2.1>b.2.1
        · have:¬ a.2.1≤b.2.1:=by omega
          simp [h4,h5,this]
        · have:a.2.1≤b.2.1:=by omega
          simp [h4,h5,this]
theorem goodB_bad (N:Int) (g:Nat→T_Bar) (k:Nat) (h:badB N g k=true):∀ n,k<n→goodB N g n=false
  | 0,h'=>by omega
  | n+1,h'=>by
    by_cases e:k=n
    · subst e;simp [goodB,h]
    · simp [goodB,goodB_bad N g k h n (by omega)]
theorem idx_lt {b:Bool} {k n:Nat} (h:(b&&decide ((k:Int)>0))=true) (hk:k<n):0≤(k:Int) - 1∧(k:Int) - 1<n∧-9223372036854775808≤(k:Int) - 1∧(k:Int) - 1≤n:=by
  simp at h
  omega
theorem con_IsGraph_s (v:T_Graph) (hs:smS s_Graph v):zE 38 [graphA v] [] (.p (.bool (isGraphF v))):=by
  refine csZ Try.func38 (fun c hc=>?_)
  have hn:v.2.1.1≤1048576:=hs.2.1.1
  by_cases hz:inB v.1 1 8=true∧v.2.1.1≤24
  · rw [show isGraphF v=goodB v.1 v.2.1.2 v.2.1.1 by rw [isGraphF,if_pos hz]]
    have lp:∀ m k,k+m=v.2.1.1→goodB v.1 v.2.1.2 k=true→zR c 38 zf54 (S48 v k) (Post c [] (.p (.bool (goodB v.1 v.2.1.2 v.2.1.1)))):=by
      intro m
      induction m with
      | zero =>
        intro k hk hg
        rw [show goodB v.1 v.2.1.2 v.2.1.1=true by rw [show v.2.1.1=k by omega];exact hg]
        have hd:decide ((k:Int)<(v.2.1.1:Int))=false:=by simp;omega
        refine pkZ Try.func38 hc (p48d v k) ?_
        and_intros
        all_goals (first | exact zN)
      | succ m ih =>
        intro k hk hg
        have hd:decide ((k:Int)<(v.2.1.1:Int))=true:=by simp;omega
        have hkn:k<v.2.1.1:=by omega
        cases he:badB v.1 v.2.1.2 k with
        | true =>
          rw [goodB_bad _ _ k he v.2.1.1 (by omega)]
          refine pkD Try.func38 hc (p48c v k) ?_
          and_intros
          all_goals (first | exact zH | (intros;exact con_l2After _ _) | (exact he) | (intro h;have:=idx_lt h hkn;omega))
        | false =>
          refine pcD hc (p48b v k) ?_ (ih (k+1) (by omega) (by simp [goodB,hg,he]))
          and_intros
          all_goals (first | exact zH | (intros;exact con_l2After _ _) | (exact he) | (intro h;have:=idx_lt h hkn;omega) | (simp [All]))
    refine pcD hc (p48a v) ?_ (lp v.2.1.1 0 (by omega) rfl)
    and_intros
    all_goals (first | exact zH | (exact con_l1In _ _ _) | (simp [hz.1];omega) | (simp [All]))
  · rw [show isGraphF v=false by rw [isGraphF,if_neg hz]]
    have hb:(bif !inB v.1 1 8 then true else decide ((v.2.1.1:Int)>24))=true:=by
      cases hi:inB v.1 1 8 with
      | false=>rfl
      | true =>
        have:¬ v.2.1.1≤24:=fun h=>hz ⟨hi,h⟩
        simp;omega
    refine pkD Try.func38 hc (p48z v) ?_
    and_intros
    all_goals (first | exact zH | (exact con_l1In _ _ _))
theorem con_IsGraph_i (v:T_Graph) (hs:smS s_Graph v):zE 24 [graphA v] [] (.p (.bool (isGraphF v))):=by
  refine csZ Try.func24 (fun c hc=>?_)
  have hn:v.2.1.1≤1048576:=hs.2.1.1
  by_cases hz:inB v.1 1 8=true∧v.2.1.1≤24
  · rw [show isGraphF v=goodB v.1 v.2.1.2 v.2.1.1 by rw [isGraphF,if_pos hz]]
    have lp:∀ m k,k+m=v.2.1.1→goodB v.1 v.2.1.2 k=true→zR c 24 zf55 (S51 v k) (Post c [] (.p (.bool (goodB v.1 v.2.1.2 v.2.1.1)))):=by
      intro m
      induction m with
      | zero =>
        intro k hk hg
        rw [show goodB v.1 v.2.1.2 v.2.1.1=true by rw [show v.2.1.1=k by omega];exact hg]
        have hd:decide ((k:Int)<(v.2.1.1:Int))=false:=by simp;omega
        refine pkZ Try.func24 hc (p51d v k) ?_
        and_intros
        all_goals (first | exact zN)
      | succ m ih =>
        intro k hk hg
        have hd:decide ((k:Int)<(v.2.1.1:Int))=true:=by simp;omega
        have hkn:k<v.2.1.1:=by omega
        cases he:badB v.1 v.2.1.2 k with
        | true =>
          rw [goodB_bad _ _ k he v.2.1.1 (by omega)]
          have he2:=he
          rw [badB,← cmpB_gt] at he2
          refine pkD Try.func24 hc (p51c v k) ?_
          and_intros
          all_goals (first | exact zH | (intros;exact con_compareBars _ _) | (exact he2) | (intro h;have:=idx_lt h hkn;omega))
        | false =>
          have he2:=he
          rw [badB,← cmpB_gt] at he2
          refine pcD hc (p51b v k) ?_ (ih (k+1) (by omega) (by simp [goodB,hg,he]))
          and_intros
          all_goals (first | exact zH | (intros;exact con_compareBars _ _) | (exact he2) | (intro h;have:=idx_lt h hkn;omega) | (simp [All]))
    refine pcD hc (p51a v) ?_ (lp v.2.1.1 0 (by omega) rfl)
    and_intros
    all_goals (first | exact zH | (exact con_within _ _ _) | (simp [hz.1];omega) | (simp [All]))
  · rw [show isGraphF v=false by rw [isGraphF,if_neg hz]]
    have hb:(bif !inB v.1 1 8 then true else decide ((v.2.1.1:Int)>24))=true:=by
      cases hi:inB v.1 1 8 with
      | false=>rfl
      | true =>
        have:¬ v.2.1.1≤24:=fun h=>hz ⟨hi,h⟩
        simp;omega
    refine pkD Try.func24 hc (p51z v) ?_
    and_intros
    all_goals (first | exact zH | (exact con_within _ _ _))
def SH (g:Nat→T_Bar) (nb N m:Nat) (F0 T0 F T Q:Nat→Int) (a b want:Int):St :=
  ⟨[grG g nb N,pebD N m F0 T0 Q,.p (.int .i64 a),.p (.int .i64 b),.p (.int .i64 want),.pt 2 0 0 0,.pt 3 1 0 0,.p .any,.p .any,.p .any,.pt 3 2 0 0,.p .any,.pt 3 3 0 0]++List.replicate 40 anyA,
   [(0,bxG g nb N),(1,bxD N m F0 T0 Q),(2,bx0),(3,bxP N m 4),(4,iOb N F),(5,iOb m T),(6,iOb m Q)],7⟩
def SNc (g:Nat→T_Bar) (nb N k:Nat):St :=
  ⟨[.p .any,.p (.int .i64 k),.pt 2 0 0 0,.p .any,.pt 3 1 0 0,.p .any,.pt 3 2 0 0]++List.replicate 27 anyA,
   [(0,bxG g nb N),(1,bx0),(2,⟨true,3,1,fun _=>[.ar 1 3 0 0,.ar 1 4 0 0,.ar 1 5 0 0]⟩),(3,iOb 0 (fun _=>k)),(4,iOb 0 (fun _=>0)),(5,iOb 0 (fun _=>0))],6⟩
def SN0 (g:Nat→T_Bar) (nb N k i:Nat):St :=
  ⟨[.p .any,.p (.int .i64 k),.pt 2 0 0 0,.p .any,.pt 3 1 0 0,.p .any,.pt 3 2 0 0,.p (.int .i64 i)]++List.replicate 26 anyA,
   [(0,bxG g nb N),(1,bx0),(2,⟨true,3,1,fun _=>[.ar 1 3 0 i,.ar 1 4 0 0,.ar 1 5 0 0]⟩),(3,iOb i (fun _=>k)),(4,iOb 0 (fun _=>0)),(5,iOb 0 (fun _=>0))],6⟩
def SR (g:Nat→T_Bar) (nb N m i:Nat) (F T Q:Nat→Int):St :=
  ⟨[grG g nb N,.pt 2 0 0 0,.p .any,.pt 3 1 0 0,.p .any,.p (.int .i64 m),.p (.int .i64 i)]++List.replicate 77 anyA,
   [(0,bxG g nb N),(1,bxP N m 2),(2,iOb N F),(3,iOb m T),(4,iOb m Q)],5⟩
theorem qHz (g:Nat→T_Bar) (nb N m:Nat) (F T Q:Nat→Int) (a b want:Int) :
    zT Try.f113 [rg 4,rm [(1,oc (pebR N m F T Q) (pebO N m 0))] 2,.head] [grG g nb N,pebD N m F T Q,.p (.int .i64 a),.p (.int .i64 b),.p (.int .i64 want)] [0,32,64,192,160,161,162] (SH g nb N m F T F T Q a b want) =
    some (zf70,zD [(NT 0 1),zE 123 [(zf45 N F m T Q)] (zf26 N F m T Q) (.agg [.ar 1 0 0 N,.ar 1 1 0 m,.ar 1 2 0 m]),((true=true)→ (AN 1)),(AI ((↑N:Int))),(AN nb),(AP nb (bRw g)),(AN N),(AP N (fun i=>[.int .i64 (F i)])),(AN m),(AP m (fun i=>[.int .i64 (T i)])),(AP m (fun i=>[.int .i64 (Q i)])),(AI a),(AI b),(AI want),(AN 0),((([AV.p (PV.int IntKind.i64 (↑N:Int)),brL g nb].length):Nat)=2),(NL 1 1),((([inD N F,inD m T,inD m Q].length):Nat)=3),((((List.map (fun v=>AV.p (absV v)) [Value.slice none 0 0,Value.slice none 0 0,Value.slice none 0 0]).length):Nat)=3),(AN 1),(NL N N),(AA N (fun i=>[.p (.int .i64 (F i))])),(NL m m),(AA m (fun i=>[.p (.int .i64 (T i))])),(AA m (fun i=>[.p (.int .i64 (Q i))]))] [0,1,0,2,3,4,5,6,7,8,9,8,10,11,12,13,14,14,14,14,15,16,16,3,4,5,17,16,16,6,7,8,9,8,10,18,16,16,18,16,16,14,6,14,8,14,8,19,20,21,19,22,23,19,22,24]):=by kernel_rfl
theorem qHa (g:Nat→T_Bar) (nb N m:Nat) (F0 T0 F T Q F1 T1:Nat→Int) (a b want:Int) :
    zM 0 [rg 13,.dec true,rm [(4,oq [4,5,6] (pebR3 N m F T Q F1 T1 Q) (.tup [pebO N m 3,.p (.bool true)]))] 6,rg 2,.dec false,rg 2,.dec false,rg 2,.head] zf70 (SH g nb N m F0 T0 F T Q a b want) [0,1,2,3,551,552,553] 1 (SH g nb N m F0 T0 F1 T1 Q a b want) =
    some (zf70,zD [(NT 0 1),(IL 0 a),(IT a (↑N:Int)),(NT a.toNat N),(IL 0 b),(IT b (↑N:Int)),(NT b.toNat N),(ZLo (F a.toNat+F b.toNat)),(ZHi (F a.toNat+F b.toNat)),((decide (F (a.toNat+0)+F (b.toNat+0)<want))=true),(AE N),(AE m),Con Try.prog 125 3 (zf26 N F m T Q) [(zf80 N nb g),.agg [.ar 1 0 0 N,.ar 1 1 0 m,.ar 1 2 0 m],.p (.int .i64 a),.p (.int .i64 b)] (zf12 N F m T Q F1 T1) (.tup [.agg [.ar 1 3 0 N,.ar 1 4 0 m,.ar 1 5 0 m],.p (.bool true)]),((true=true)→ (AN 1)),((!true)=false),(AI ((↑N:Int))),(AN nb),(AP nb (bRw g)),(AN N),(AP N (fun i=>[.int .i64 (F0 i)])),(AN m),(AP m (fun i=>[.int .i64 (T0 i)])),(AP m (fun i=>[.int .i64 (Q i)])),(AI a),(AI b),(AI want),(AN 0),(AN 2),(NL 1 1),(AN 3),(AN 1),(NL N N),(AA N (fun i=>[.p (.int .i64 (F1 i))])),(NL m m),(AA m (fun i=>[.p (.int .i64 (T1 i))])),(AA m (fun i=>[.p (.int .i64 (Q i))]))] [0,1,2,3,0,4,5,6,7,8,9,0,0,10,11,11,12,0,13,14,14,0,0,13,15,16,17,18,19,20,21,20,22,23,24,25,26,26,26,26,27,28,28,15,16,17,29,28,28,18,19,20,21,20,22,29,28,28,29,28,28,26,18,26,20,26,20,30,31,32,30,33,34,30,33,35]):=by kernel_rfl
theorem qHb (g:Nat→T_Bar) (nb N m:Nat) (F0 T0 F T Q F1 T1:Nat→Int) (a b want:Int) :
    zM 0 [rg 13,.dec true,rm [(4,oq [4,5,6] (pebR N m F T Q) (.tup [pebO N m 0,.p (.bool false)]))] 6,rg 2,.dec true,rm [(4,oq [4,5,6] (pebR3 N m F T Q F1 T1 Q) (.tup [pebO N m 3,.p (.bool true)]))] 5,rg 2,.dec false,rg 2,.head] zf70 (SH g nb N m F0 T0 F T Q a b want) [0,1,2,3,967,968,969] 1 (SH g nb N m F0 T0 F1 T1 Q a b want) =
    some (zf70,zD [(NT 0 1),(IL 0 a),(IT a (↑N:Int)),(NT a.toNat N),(IL 0 b),(IT b (↑N:Int)),(NT b.toNat N),(ZLo (F a.toNat+F b.toNat)),(ZHi (F a.toNat+F b.toNat)),((decide (F (a.toNat+0)+F (b.toNat+0)<want))=true),(AE N),(AE m),Con Try.prog 125 3 (zf26 N F m T Q) [(zf80 N nb g),.agg [.ar 1 0 0 N,.ar 1 1 0 m,.ar 1 2 0 m],.p (.int .i64 a),.p (.int .i64 b)] (zf26 N F m T Q) ((zf88 N m)),((true=true)→ (AN 1)),((!false)=true),Con Try.prog 125 3 (zf26 N F m T Q) [(zf80 N nb g),.agg [.ar 1 0 0 N,.ar 1 1 0 m,.ar 1 2 0 m],.p (.int .i64 b),.p (.int .i64 a)] (zf12 N F m T Q F1 T1) (.tup [.agg [.ar 1 3 0 N,.ar 1 4 0 m,.ar 1 5 0 m],.p (.bool true)]),((!true)=false),(AI ((↑N:Int))),(AN nb),(AP nb (bRw g)),(AN N),(AP N (fun i=>[.int .i64 (F0 i)])),(AN m),(AP m (fun i=>[.int .i64 (T0 i)])),(AP m (fun i=>[.int .i64 (Q i)])),(AI a),(AI b),(AI want),(AN 0),(AN 2),(NL 1 1),(AN 3),(AN 1),(NL N N),(AA N (fun i=>[.p (.int .i64 (F1 i))])),(NL m m),(AA m (fun i=>[.p (.int .i64 (T1 i))])),(AA m (fun i=>[.p (.int .i64 (Q i))]))] [0,1,2,3,0,4,5,6,7,8,9,0,0,10,11,11,12,0,13,14,0,0,10,11,11,15,0,13,16,0,0,13,17,18,19,20,21,22,23,22,24,25,26,27,28,28,28,28,29,30,30,17,18,19,31,30,30,20,21,22,23,22,24,31,30,30,31,30,30,28,20,28,22,28,22,32,33,34,32,35,36,32,35,37]):=by kernel_rfl
theorem qHc (g:Nat→T_Bar) (nb N m:Nat) (F0 T0 F T Q:Nat→Int) (a b want:Int) :
    zP Try.f113 0 [rg 13,.dec true,rm [(4,oq [4,5,6] (pebR N m F T Q) (.tup [pebO N m 0,.p (.bool false)]))] 6,rg 2,.dec true,rm [(4,oq [4,5,6] (pebR N m F T Q) (.tup [pebO N m 0,.p (.bool false)]))] 5,rg 2,.dec true,rg 3] zf70 (SH g nb N m F0 T0 F T Q a b want) [4,5,6] 1 (pebR N m F T Q) (.tup [pebO N m 0,.p (.bool false)]) =
    some (zD [(NT 0 1),(IL 0 a),(IT a (↑N:Int)),(NT a.toNat N),(IL 0 b),(IT b (↑N:Int)),(NT b.toNat N),(ZLo (F a.toNat+F b.toNat)),(ZHi (F a.toNat+F b.toNat)),((decide (F (a.toNat+0)+F (b.toNat+0)<want))=true),(AE N),(AE m),Con Try.prog 125 3 (zf26 N F m T Q) [(zf80 N nb g),.agg [.ar 1 0 0 N,.ar 1 1 0 m,.ar 1 2 0 m],.p (.int .i64 a),.p (.int .i64 b)] (zf26 N F m T Q) ((zf88 N m)),((true=true)→ (AN 1)),((!false)=true),Con Try.prog 125 3 (zf26 N F m T Q) [(zf80 N nb g),.agg [.ar 1 0 0 N,.ar 1 1 0 m,.ar 1 2 0 m],.p (.int .i64 b),.p (.int .i64 a)] (zf26 N F m T Q) ((zf88 N m)),(AN 0),(AN N),(AN m),(false=false),(AN 1),(NL N N),(AA N (fun i=>[.p (.int .i64 (F i))])),(NL m m),(AA m (fun i=>[.p (.int .i64 (T i))])),(AA m (fun i=>[.p (.int .i64 (Q i))]))] [0,1,2,3,0,4,5,6,7,8,9,0,0,10,11,11,12,0,13,14,0,0,10,11,11,15,0,13,14,0,0,13,0,16,17,16,18,16,18,19,20,21,22,20,23,24,20,23,25,10,11,11]):=by kernel_rfl
theorem qHd (g:Nat→T_Bar) (nb N m:Nat) (F0 T0 F T Q:Nat→Int) (a b want:Int) :
    zP Try.f113 0 [rg 13,.dec false,rg 3] zf70 (SH g nb N m F0 T0 F T Q a b want) [4,5,6] 1 (pebR N m F T Q) (.tup [pebO N m 0,.p (.bool true)]) =
    some [(NT 0 1),(IL 0 a),(IT a (↑N:Int)),(NT a.toNat N),(NT 0 1),(IL 0 b),(IT b (↑N:Int)),(NT b.toNat N),(ZLo (F a.toNat+F b.toNat)),(ZHi (F a.toNat+F b.toNat)),((decide (F (a.toNat+0)+F (b.toNat+0)<want))=false),(NT 0 1),(NT 0 1),((true=true)→ (AN 1)),(NT 0 1),(AN 0),(AN N),(AN 0),(AN m),(AN 0),(AN m),(true=true),(AN 1),(NL N N),(AA N (fun i=>[.p (.int .i64 (F i))])),(AN 1),(NL m m),(AA m (fun i=>[.p (.int .i64 (T i))])),(AN 1),(NL m m),(AA m (fun i=>[.p (.int .i64 (Q i))])),(AE N),(AE m),(AE m)]:=by kernel_rfl
theorem qNz (g:Nat→T_Bar) (N k:Nat) :
    zT Try.f106 [rg 3,rg 6,.head] [.agg [.p (.int .i64 N),.p .nil],.p (.int .i64 k)] [0,32,224,96,128,160] (SNc g 0 N k) =
    some (zf76,zD [(NT 0 1),((true=true)→ (AN 1)),(AI ((↑k:Int))),(AN 0),((([AV.p (PV.int IntKind.i64 (↑N:Int)),AV.p PV.nil].length):Nat)=2),(NL 1 1),(AI ((↑N:Int))),((((List.map (fun v=>AV.p (absV v)) [Value.slice none 0 0,Value.slice none 0 0,Value.slice none 0 0]).length):Nat)=3),(AN 1),(NL 0 0),(∀ i:Nat,(((i:Nat)<0)→(All []∧(([.p (.int .i64 0)]:List AV)=[.p (.int .i64 (↑k:Int))])))),(AA 0 (fun i=>[.p (.int .i64 0)]))] [0,1,2,3,3,3,4,5,5,6,3,7,5,5,7,5,5,3,3,3,3,3,3,8,9,10,8,9,11,8,9,11]):=by kernel_rfl
theorem qNy (g:Nat→T_Bar) (nb N k:Nat) :
    zT Try.f106 [rg 3,rg 6,.head] [grG g nb N,.p (.int .i64 k)] [0,32,224,96,128,160] (SNc g nb N k) =
    some (zf76,zD [(NT 0 1),((true=true)→ (AN 1)),(AI ((↑k:Int))),(AN 0),((([AV.p (PV.int IntKind.i64 (↑N:Int)),brL g nb].length):Nat)=2),(NL 1 1),(AI ((↑N:Int))),(AN nb),(AP nb (bRw g)),((((List.map (fun v=>AV.p (absV v)) [Value.slice none 0 0,Value.slice none 0 0,Value.slice none 0 0]).length):Nat)=3),(AN 1),(NL 0 0),(∀ i:Nat,(((i:Nat)<0)→(All []∧(([.p (.int .i64 0)]:List AV)=[.p (.int .i64 (↑k:Int))])))),(AA 0 (fun i=>[.p (.int .i64 0)]))] [0,1,2,3,3,3,4,5,5,6,7,8,9,5,5,9,5,5,3,3,3,3,3,3,10,11,12,10,11,13,10,11,13]):=by kernel_rfl
theorem qNa (g:Nat→T_Bar) (nb N k:Nat) :
    zM 0 [rm [(1,oc [] (.p (.bool true))),(3,oc [] (.p (.bool true)))] 2,.dec false,rg 1,.head] zf76 (SNc g nb N k) [0,1,2,3,4,5] 1 (SN0 g nb N k 0) =
    some (zf31,zD [(NT 0 1),zE 38 [(zf80 N nb g)] [] (.p (.bool true)),(AG (!!true)),(((!!true)=true)→ zE 62 [.p (.int .i64 (↑k:Int)),.p (.int .i64 1),.p (.int .i64 3)] [] (.p (.bool true))),(((!true)=false)→ ((!!true)=true)),((bif !true then true else !true)=false),(AI ((↑k:Int))),(AN 0),((0:Int)=(↑0:Int)),(AN 2),(NL 1 1),(AI ((↑N:Int))),(AN nb),(AP nb (bRw g)),(AN 3),(AN 1),(NL 0 0),(AA 0 (fun i=>[.p (.int .i64 (↑k:Int))])),(AA 0 (fun i=>[.p (.int .i64 0)]))] [0,1,2,3,2,4,5,6,7,7,7,8,9,10,10,11,12,13,14,10,10,14,10,10,7,7,7,7,7,7,15,16,17,15,16,18,15,16,18]):=by kernel_rfl
theorem qNl (g:Nat→T_Bar) (nb N k i:Nat) :
    zM 0 [rg 4,.dec true,rg 7,rg 3,.head] zf31 (SN0 g nb N k i) [0,1,2,262,4,5] 1 (SN0 g nb N k (i+1)) =
    some (zf31,zD [(NT 0 1),((decide ((↑i:Int)<(↑N:Int)))=true),(NL 1 1),(NL i i),(NL ((i+1)*8) 140737488355328),(NL (i+1) 9223372036854775807),((true=true)→ (AN 1)),(ZLo ((↑i:Int)+1)),(ZHi ((↑i:Int)+1)),(AI ((↑k:Int))),(AN 0),((((↑i:Int)+1):Int)=(↑(i+1):Int)),(AN 2),(AI ((↑N:Int))),(AN nb),(AP nb (bRw g)),(AN 3),(AN ((i+1))),(AN 1),(NL (i+1) (i+1)),(CV [(2,⟨true,3,1,(fun i_2=>[.ar 1 262 0 (i+1),.ar 1 4 0 0,.ar 1 5 0 0])⟩),(262,⟨false,1,(i+1),(fun i_2=>(if (i_2<i) then [.p (.int .i64 (↑k:Int))] else [.p (.int .i64 (↑k:Int))]))⟩),(230,⟨false,1,1,(fun i_2=>[.p (.int .i64 (↑k:Int))])⟩),(0,⟨true,2,1,(fun i_2=>[.p (.int .i64 (↑N:Int)),.p (.seq true 2 nb (bRw g))])⟩),(1,⟨true,3,1,(fun i_2=>[.p (.nil),.p (.nil),.p (.nil)])⟩),(4,⟨false,1,0,(fun i_2=>[.p (.int .i64 0)])⟩),(5,⟨false,1,0,(fun i_2=>[.p (.int .i64 0)])⟩)] [0,1,2,262,4,5] 1 (i+1) (fun i_1=>if (i_1<i) then [.p (.int .i64 (↑k:Int))] else [.p (.int .i64 (↑k:Int))]) (fun i_1=>[.p (.int .i64 (↑k:Int))])),(NL 0 0),(AA 0 (fun i_1=>[.p (.int .i64 0)]))] [0,1,0,2,3,4,5,0,6,7,8,9,10,10,10,11,12,2,2,13,14,15,16,2,2,16,2,2,10,17,10,10,10,10,18,19,20,18,21,22,18,21,22]):=by kernel_rfl
theorem qNe (g:Nat→T_Bar) (nb N k i:Nat) :
    zP Try.f106 0 [rg 4,.dec false,rg 3] zf31 (SN0 g nb N k i) [3,4,5] 1 (pebR i 0 (fun _=>k) (fun _=>0) (fun _=>0)) (.tup [pebO i 0 0,.p (.bool true)]) =
    some (zD [(NT 0 1),((decide ((↑i:Int)<(↑N:Int)))=false),((true=true)→ (AN 1)),(AN 0),(AN i),(true=true),(AN 1),(NL i i),(AA i (fun i_1=>[.p (.int .i64 (↑k:Int))])),(NL 0 0),(AA 0 (fun i_1=>[.p (.int .i64 0)])),(AE i),(AE 0)] [0,1,0,0,2,0,3,4,3,3,3,3,5,6,7,8,6,9,10,6,9,10,11,12,12]):=by kernel_rfl
theorem qRz (g:Nat→T_Bar) (nb N:Nat) :
    zT Try.f93 [rg 2,rm [(3,oc (pebR N 0 (fun _=>((2:Nat):Int)) (fun _=>0) (fun _=>0)) (.tup [pebO N 0 0,.p (.bool true)]))] 6,rg 1,rg 1,.head] [grG g nb N] [0,288,160,161,162] (SR g nb N 0 0 (fun _=>((2:Nat):Int)) (fun _=>0) (fun _=>0)) =
    some (zf35,zD [(NT 0 1),zE 106 [.agg [.p (.int .i64 (↑N:Int)),.p (.nil)],.p (.int .i64 2)] [(0,⟨false,1,N,(fun i=>[.p (.int .i64 2)])⟩),(1,⟨false,1,0,(fun i=>[.p (.int .i64 0)])⟩),(2,⟨false,1,0,(fun i=>[.p (.int .i64 0)])⟩)] (.tup [.agg [.ar 1 0 0 N,.ar 1 1 0 0,.ar 1 2 0 0],.p (.bool true)]),((true=true)→ (AN 1)),(AI ((↑N:Int))),(AN nb),(AP nb (bRw g)),(AN 0),((0:Int)=(↑0:Int)),((([AV.p (PV.int IntKind.i64 (↑N:Int)),brL g nb].length):Nat)=2),(NL 1 1),((((List.map (fun v=>AV.p (absV v)) [Value.slice none 0 0,Value.slice none 0 0,Value.slice none 0 0]).length):Nat)=3),(AN N),(AN 1),(NL N N),(AA N (fun i=>[.p (.int .i64 2)])),(NL 0 0),(AA 0 (fun i=>[.p (.int .i64 0)]))] [0,1,0,2,3,4,5,6,6,7,7,8,9,9,3,4,5,10,9,9,6,11,6,6,6,6,12,13,14,12,15,16,12,15,16]):=by kernel_rfl
theorem qRa (g:Nat→T_Bar) (nb N m i:Nat) (F T Q F1 T1:Nat→Int) :
    zM 0 [rg 5,.dec true,rm [(14,oc (pebR N m F1 T1 Q) (.tup [pebO N m 0,.p (.bool true)]))] 6,rg 2,.dec false,rg 21,rg 12,rg 7,rg 2,rg 3,rg 3,.head] zf35 (SR g nb N m i F T Q) [0,1,613,1861,2085] 1 (SR g nb N (m+1) (i+1) (fun s=>if s=(g i).1.toNat then F1 s - 1 else F1 s) (fun s=>if s<m then T1 s else (g i).1) (fun s=>if s<m then Q s else i)) =
    some (zf35,zD [(NT 0 1),((decide ((↑i:Int)<(↑nb:Int)))=true),(IL 0 (↑i:Int)),(IT (↑i:Int) (↑nb:Int)),(AN 1),(NL N N),(NL m m),zE 113 [(zf78 N nb g),(zf27 N F m T Q),.p (.int .i64 ((g i).1)),.p (.int .i64 ((g i).2.1)),.p (.int .i64 4)] (zf21 N F1 m T1 Q) ((zf89 N m)),((true=true)→ (AN 1)),((!true)=false),(IL 0 ((g i).1)),(IT ((g i).1) (↑N:Int)),(NT ((g i).1.toNat) N),(ZLo (F1 (g i).1.toNat - 1)),(ZHi (F1 (g i).1.toNat - 1)),((false=true)→ ((N:Nat)=1)),(NL 1 1),(NL ((m+1)*8) 140737488355328),(NL (m+1) 9223372036854775807),(ZLo ((↑m:Int)+1)),(ZHi ((↑m:Int)+1)),(ZLo ((↑i:Int)+1)),(ZHi ((↑i:Int)+1)),(AI ((↑N:Int))),(AN nb),(AP nb (bRw g)),(AN 0),((((↑m:Int)+1):Int)=(↑(m+1):Int)),((((↑i:Int)+1):Int)=(↑(i+1):Int)),(AN 2),(AN 3),(AN N),(AN ((m+1))),(CV [(1,⟨true,3,1,(fun i_2=>[.ar 1 613 0 N,.ar 1 1861 0 (m+1),.ar 1 2085 0 (m+1)])⟩),(741,⟨true,3,1,(fun i_2=>[.ar 1 613 0 N,.ar 1 1861 0 (m+1),.ar 1 2085 0 (m+1)])⟩),(2085,⟨false,1,(m+1),(fun i_2=>(if (i_2<m) then [.p (.int .i64 (Q i_2))] else [.p (.int .i64 (↑i:Int))]))⟩),(2053,⟨false,1,1,(fun i_2=>[.p (.int .i64 (↑i:Int))])⟩),(1861,⟨false,1,(m+1),(fun i_2=>(if (i_2<m) then [.p (.int .i64 (T1 i_2))] else [.p (.int .i64 ((g i).1))]))⟩),(1829,⟨false,1,1,(fun i_2=>[.p (.int .i64 ((g i).1))])⟩),(613,⟨false,1,N,(fun i_2=>(if (i_2=(g i).1.toNat) then [.p (.int .i64 (F1 (g i).1.toNat - 1))] else [.p (.int .i64 (F1 i_2))]))⟩),(0,⟨true,2,1,(fun i_2=>[.p (.int .i64 (↑N:Int)),.p (.seq true 2 nb (bRw g))])⟩),(2,⟨false,1,N,(fun i_2=>[.p (.int .i64 (F i_2))])⟩),(3,⟨false,1,m,(fun i_2=>[.p (.int .i64 (T i_2))])⟩),(4,⟨false,1,m,(fun i_2=>[.p (.int .i64 (Q i_2))])⟩)] [0,1,613,1861,2085] 1 N (fun i_1=>if (i_1=(g i).1.toNat) then [.p (.int .i64 (F1 (g i).1.toNat - 1))] else [.p (.int .i64 (F1 i_1))]) (fun i_1=>[.p (.int .i64 (if i_1=(g i).1.toNat then F1 i_1 - 1 else F1 i_1))])),(NL (m+1) (m+1)),(CV [(1,⟨true,3,1,(fun i_2=>[.ar 1 613 0 N,.ar 1 1861 0 (m+1),.ar 1 2085 0 (m+1)])⟩),(741,⟨true,3,1,(fun i_2=>[.ar 1 613 0 N,.ar 1 1861 0 (m+1),.ar 1 2085 0 (m+1)])⟩),(2085,⟨false,1,(m+1),(fun i_2=>(if (i_2<m) then [.p (.int .i64 (Q i_2))] else [.p (.int .i64 (↑i:Int))]))⟩),(2053,⟨false,1,1,(fun i_2=>[.p (.int .i64 (↑i:Int))])⟩),(1861,⟨false,1,(m+1),(fun i_2=>(if (i_2<m) then [.p (.int .i64 (T1 i_2))] else [.p (.int .i64 ((g i).1))]))⟩),(1829,⟨false,1,1,(fun i_2=>[.p (.int .i64 ((g i).1))])⟩),(613,⟨false,1,N,(fun i_2=>(if (i_2=(g i).1.toNat) then [.p (.int .i64 (F1 (g i).1.toNat - 1))] else [.p (.int .i64 (F1 i_2))]))⟩),(0,⟨true,2,1,(fun i_2=>[.p (.int .i64 (↑N:Int)),.p (.seq true 2 nb (bRw g))])⟩),(2,⟨false,1,N,(fun i_2=>[.p (.int .i64 (F i_2))])⟩),(3,⟨false,1,m,(fun i_2=>[.p (.int .i64 (T i_2))])⟩),(4,⟨false,1,m,(fun i_2=>[.p (.int .i64 (Q i_2))])⟩)] [0,1,613,1861,2085] 1 (m+1) (fun i_1=>if (i_1<m) then [.p (.int .i64 (T1 i_1))] else [.p (.int .i64 ((g i).1))]) (fun i_1=>[.p (.int .i64 (if i_1<m then T1 i_1 else (g i).1))])),(CV [(1,⟨true,3,1,(fun i_2=>[.ar 1 613 0 N,.ar 1 1861 0 (m+1),.ar 1 2085 0 (m+1)])⟩),(741,⟨true,3,1,(fun i_2=>[.ar 1 613 0 N,.ar 1 1861 0 (m+1),.ar 1 2085 0 (m+1)])⟩),(2085,⟨false,1,(m+1),(fun i_2=>(if (i_2<m) then [.p (.int .i64 (Q i_2))] else [.p (.int .i64 (↑i:Int))]))⟩),(2053,⟨false,1,1,(fun i_2=>[.p (.int .i64 (↑i:Int))])⟩),(1861,⟨false,1,(m+1),(fun i_2=>(if (i_2<m) then [.p (.int .i64 (T1 i_2))] else [.p (.int .i64 ((g i).1))]))⟩),(1829,⟨false,1,1,(fun i_2=>[.p (.int .i64 ((g i).1))])⟩),(613,⟨false,1,N,(fun i_2=>(if (i_2=(g i).1.toNat) then [.p (.int .i64 (F1 (g i).1.toNat - 1))] else [.p (.int .i64 (F1 i_2))]))⟩),(0,⟨true,2,1,(fun i_2=>[.p (.int .i64 (↑N:Int)),.p (.seq true 2 nb (bRw g))])⟩),(2,⟨false,1,N,(fun i_2=>[.p (.int .i64 (F i_2))])⟩),(3,⟨false,1,m,(fun i_2=>[.p (.int .i64 (T i_2))])⟩),(4,⟨false,1,m,(fun i_2=>[.p (.int .i64 (Q i_2))])⟩)] [0,1,613,1861,2085] 1 (m+1) (fun i_1=>if (i_1<m) then [.p (.int .i64 (Q i_1))] else [.p (.int .i64 (↑i:Int))]) (fun i_1=>[.p (.int .i64 (if i_1<m then Q i_1 else (↑i:Int)))]))] [0,1,0,0,0,2,3,0,2,3,4,5,4,6,4,6,7,0,8,9,0,0,2,3,0,0,2,3,10,11,12,13,14,10,11,12,15,0,0,2,3,16,6,17,18,0,8,0,16,6,17,18,0,8,0,0,8,19,20,21,22,23,24,25,26,26,27,28,29,16,16,23,24,25,30,16,16,26,31,26,32,26,32,4,5,33,4,34,35,4,34,36]):=by kernel_rfl
theorem qRb (g:Nat→T_Bar) (nb N m i:Nat) (F T Q F1 T1:Nat→Int) :
    zM 0 [rg 5,.dec true,rm [(14,oc (pebR N m F1 T1 Q) (.tup [pebO N m 0,.p (.bool false)]))] 6,rg 2,.dec true,rg 3,.head] zf35 (SR g nb N m i F T Q) [0,1,2,3,4] 1 (SR g nb N m (i+1) F T Q) =
    some (zf35,zD [(NT 0 1),((decide ((↑i:Int)<(↑nb:Int)))=true),(IL 0 (↑i:Int)),(IT (↑i:Int) (↑nb:Int)),(AN 1),(NL N N),(NL m m),zE 113 [(zf78 N nb g),(zf27 N F m T Q),.p (.int .i64 ((g i).1)),.p (.int .i64 ((g i).2.1)),.p (.int .i64 4)] (zf21 N F1 m T1 Q) ((zf88 N m)),((true=true)→ (AN 1)),((!false)=true),(ZLo ((↑i:Int)+1)),(ZHi ((↑i:Int)+1)),(AI ((↑N:Int))),(AN nb),(AP nb (bRw g)),(AN 0),(AI ((↑m:Int))),((((↑i:Int)+1):Int)=(↑(i+1):Int)),(AN 2),(NL 1 1),(AN 3),(AN N),(AN m),(AA N (fun i_1=>[.p (.int .i64 (F i_1))])),(AA m (fun i_1=>[.p (.int .i64 (T i_1))])),(AA m (fun i_1=>[.p (.int .i64 (Q i_1))]))] [0,1,0,0,0,2,3,0,2,3,4,5,4,6,4,6,7,0,8,9,10,11,12,13,14,15,15,16,17,18,19,19,12,13,14,20,19,19,15,21,15,22,15,22,4,5,23,4,6,24,4,6,25]):=by kernel_rfl
theorem qRe (g:Nat→T_Bar) (nb N m i:Nat) (F T Q:Nat→Int) :
    zP Try.f93 0 [rg 5,.dec false,rg 2] zf35 (SR g nb N m i F T Q) [] 1 [] (.p (.int .i64 m)) =
    some [(NT 0 1),((decide ((↑i:Int)<(↑nb:Int)))=false),(AI ((↑m:Int)))]:=by kernel_rfl
theorem con_l4Gather {N k nb m l:Nat} {g:Nat→T_Bar} {F0 T0 Q:Nat→Int} {a b:Int} (hp0:PInv N k nb m g F0 T0 Q) (hk:k≤1048576) (hN:N≤1048576) (hm:m≤1048576) (hnb:nb≤1048576)
    (ha:0≤a∧a<N) (hb:0≤b∧b<N) (hab:a≠b):∃ F' T' r,zE 113 [grG g nb N,pebD N m F0 T0 Q,.p (.int .i64 a),.p (.int .i64 b),.p (.int .i64 ((l:Int)+1))] (pebR N m F' T' Q) (.tup [pebO N m 0,.p (.bool r)]) ∧
      PInv N k nb m g F' T' Q∧(r=true→(l:Int)+1≤F' a.toNat+F' b.toNat)∧(r=false→¬ Mat.Sparse N k l (plL g Q m++[(a.toNat,b.toNat)])):=by
  have lp:∀ d F T,PInv N k nb m g F T Q→(l:Int)+1≤F a.toNat+F b.toNat+(d:Nat)→∃ F' T' r,(∀ c,c.n=0→zR c 113 zf70 (SH g nb N m F0 T0 F T Q a b ((l:Int)+1)) (Post c (pebR N m F' T' Q) (.tup [pebO N m 0,.p (.bool r)]))) ∧
      PInv N k nb m g F' T' Q∧(r=true→(l:Int)+1≤F' a.toNat+F' b.toNat)∧(r=false→¬ Mat.Sparse N k l (plL g Q m++[(a.toNat,b.toNat)])):=by
    intro d
    induction d with
    | zero =>
      intro F T hp hw
      have hd:decide (F a.toNat+F b.toNat<(l:Int)+1)=false:=by simp;omega
      have l1:=hp.le (v:=a.toNat) (by omega)
      have l2:=hp.le (v:=b.toNat) (by omega)
      refine ⟨F,T,true,fun c hc=>?_,hp,(fun _=>by omega),(fun h=>by cases h)⟩
      refine pkZ Try.func113 hc (qHd g nb N m F0 T0 F T Q a b ((l:Int)+1)) ?_
      and_intros
      all_goals (first | exact zI | (exact hd) | (intro i hi;simp [All]))
    | succ d ih =>
      intro F T hp hw
      have l1:=hp.le (v:=a.toNat) (by omega)
      have l2:=hp.le (v:=b.toNat) (by omega)
      by_cases hs:F a.toNat+F b.toNat<(l:Int)+1
      · have hd:decide (F a.toNat+F b.toNat<(l:Int)+1)=true:=by simp;omega
        obtain ⟨H1,r1,hc1,hf1⟩:=con_l4Find hp hk hN hm hnb ha hb hab
        cases hf1 with
        | yes F1 T1 hm1 =>
          obtain ⟨y1,y2⟩:=hm1.yes rfl
          obtain ⟨F',T',r,hrun,h1,h2,h3⟩:=ih F1 T1 hm1.inv (by omega)
          refine ⟨F',T',r,fun c hc=>?_,h1,h2,h3⟩
          refine pcD hc (qHa g nb N m F0 T0 F T Q F1 T1 a b ((l:Int)+1)) ?_ (hrun c hc)
          and_intros
          all_goals (first | exact zI | (exact hd) | (exact hc1) | (intro i hi;simp [All]))
        | no hm1 =>
          obtain ⟨H2,r2,hc2,hf2⟩:=con_l4Find hp hk hN hm hnb hb ha (Ne.symm hab)
          cases hf2 with
          | yes F2 T2 hm2 =>
            obtain ⟨y1,y2⟩:=hm2.yes rfl
            obtain ⟨F',T',r,hrun,h1,h2,h3⟩:=ih F2 T2 hm2.inv (by omega)
            refine ⟨F',T',r,fun c hc=>?_,h1,h2,h3⟩
            refine pcD hc (qHb g nb N m F0 T0 F T Q F2 T2 a b ((l:Int)+1)) ?_ (hrun c hc)
            and_intros
            all_goals (first | exact zI | (exact hd) | (exact hc1) | (exact hc2) | (intro i hi;simp [All]))
          | no hm2 =>
            refine ⟨F,T,false,fun c hc=>?_,hp,(fun h=>by cases h),fun _=>gather_no hp ha hb hab (by omega) hm1 hm2⟩
            refine pkD Try.func113 hc (qHc g nb N m F0 T0 F T Q a b ((l:Int)+1)) ?_
            and_intros
            all_goals (first | exact zI | (exact hd) | (exact hc1) | (exact hc2) | (intro i hi;simp [All]))
      · have hd:decide (F a.toNat+F b.toNat<(l:Int)+1)=false:=by simp;omega
        refine ⟨F,T,true,fun c hc=>?_,hp,(fun _=>by omega),(fun h=>by cases h)⟩
        refine pkZ Try.func113 hc (qHd g nb N m F0 T0 F T Q a b ((l:Int)+1)) ?_
        and_intros
        all_goals (first | exact zI | (exact hd) | (intro i hi;simp [All]))
  have l1:=hp0.le (v:=a.toNat) (by omega)
  have l2:=hp0.le (v:=b.toNat) (by omega)
  obtain ⟨F',T',r,hrun,h⟩:=lp (l+1) F0 T0 hp0 (by omega)
  refine ⟨F',T',r,?_,h⟩
  have hcc:=con_l4Copy N m F0 T0 Q hN hm
  refine csZ Try.func113 (fun c hc=>?_)
  refine pcD hc (qHz g nb N m F0 T0 Q a b ((l:Int)+1)) ?_ (hrun c hc)
  and_intros
  all_goals (first | exact zI | (exact hcc) | (intro i hi;simp [All]))
theorem run_new {g:Nat→T_Bar} {nb N k:Nat} (hN:N≤1048576) (hk:1≤k∧k≤3) (hg:isGraphF ((N:Int),(nb,g),())=true) (hnb:nb≤1048576) (c:Cx) (hc:c.n=0) {items:List Item} (hit:items=zf76) :
    zR c 106 items (SNc g nb N k) (Post c (pebR N 0 (fun _=>k) (fun _=>0) (fun _=>0)) (.tup [pebO N 0 0,.p (.bool true)])):=by
  subst hit
  have hsm:smS s_Graph ((N:Int),(nb,g),()):=⟨by simp [smS,smL],⟨hnb,fun i hi=>by simp [smS,smL]⟩,True.intro⟩
  have hcg:=con_IsGraph_s ((N:Int),(nb,g),()) hsm
  rw [hg] at hcg
  have hci:=con_l1In k 1 3
  rw [show inB k 1 3=true by simp [inB];omega] at hci
  have lp0:∀ d i,i+d=N→zR c 106 zf31 (SN0 g nb N k i) (Post c (pebR N 0 (fun _=>k) (fun _=>0) (fun _=>0)) (.tup [pebO N 0 0,.p (.bool true)])):=by
    intro d
    induction d with
    | zero =>
      intro i hi
      obtain rfl:i=N:=by omega
      have hd:decide ((i:Int)<(i:Int))=false:=by simp
      refine pkD Try.func106 hc (qNe g nb i k i) ?_
      and_intros
      all_goals (first | exact zI | (intro i hi;simp [All]))
    | succ d ih =>
      intro i hi
      have hd:decide ((i:Int)<(N:Int))=true:=by simp;omega
      refine pcD hc (qNl g nb N k i) ?_ (ih (i+1) (by omega))
      and_intros
      all_goals (first | exact zI | (intro j hj;simp [All];done) | (intro j hj;by_cases h:j<i<;>simp [h,cvtL,cvt,tg,tru,All]))
  refine pcD hc (qNa g nb N k) ?_ (lp0 N 0 (by omega))
  and_intros
  all_goals (first | exact zH | (exact hcg) | (intros;exact hci) | (intro i hi;simp [All]))
theorem con_NewPebbles0 {N k:Nat} (hN:1≤N∧N≤8) (hk:1≤k∧k≤3):zE 106 [.agg [.p (.int .i64 N),.p .nil],.p (.int .i64 k)] (pebR N 0 (fun _=>k) (fun _=>0) (fun _=>0)) (.tup [pebO N 0 0,.p (.bool true)]):=by
  refine csZ Try.func106 (fun c hc=>?_)
  have hg:isGraphF ((N:Int),(0,fun _=>((0:Int),(0:Int),())),())=true:=by
    have:inB N 1 8=true:=by simp [inB];omega
    simp [isGraphF,this,goodB]
  refine pcD hc (qNz (fun _=>(0,0,())) N k) ?_ (run_new (g:=fun _=>(0,0,())) (by omega) hk hg (by omega) c hc rfl)
  and_intros
  iterate 2 all_goals (first | exact zI | (intro i hi;simp [All]) | simp only [All])
theorem con_NewPebbles {N k nb:Nat} {g:Nat→T_Bar} (hN:N≤1048576) (hk:1≤k∧k≤3) (hg:isGraphF ((N:Int),(nb,g),())=true) (hnb:nb≤1048576) :
    zE 106 [grG g nb N,.p (.int .i64 k)] (pebR N 0 (fun _=>k) (fun _=>0) (fun _=>0)) (.tup [pebO N 0 0,.p (.bool true)]):=by
  refine csZ Try.func106 (fun c hc=>?_)
  refine pcD hc (qNy g nb N k) ?_ (run_new hN hk hg hnb c hc rfl)
  and_intros
  iterate 2 all_goals (first | exact zI | (intro i hi;simp [All]) | simp only [All])
theorem con_l6Rank {N nb:Nat} {g:Nat→T_Bar} (hb:∀ e,e<nb→0≤(g e).1∧(g e).1<(g e).2.1∧(g e).2.1<N) (hN:1≤N∧N≤8) (hnb:nb≤1048576) :
    zE 93 [grG g nb N] [] (.p (.int .i64 ((accI N 2 3 g nb).length:Nat))):=by
  refine csZ Try.func93 (fun c hc=>?_)
  have lp:∀ d i m F T Q,i+d=nb→PInv N 2 nb m g F T Q→qL Q m=accI N 2 3 g i →
      zR c 93 zf35 (SR g nb N m i F T Q) (Post c [] (.p (.int .i64 ((accI N 2 3 g nb).length:Nat)))):=by
    intro d
    induction d with
    | zero =>
      intro i m F T Q hi hp hq
      obtain rfl:i=nb:=by omega
      have hd:decide ((i:Int)<(i:Int))=false:=by simp
      rw [← hq,qL_length]
      refine pkZ Try.func93 hc (qRe g i N m i F T Q) ?_
      and_intros
      all_goals (first | exact zN | (intro i hi;simp [All]))
    | succ d ih =>
      intro i m F T Q hi hp hq
      have hd:decide ((i:Int)<(nb:Int))=true:=by simp;omega
      have hm:m≤1048576:=by
        have:=accI_len N 2 3 g i
        rw [← hq,qL_length] at this
        omega
      have hsp:Mat.Sparse N 2 3 (plL g Q m):=by rw [plL_qL,hq];exact accI_sparse N 2 3 g i
      have hbar:=hb i (by omega)
      obtain ⟨F1,T1,r,hc1,h1,h2,h3⟩:=con_l4Gather (l:=3) (a:=(g i).1) (b:=(g i).2.1) hp (by omega) (by omega) hm hnb (by omega) (by omega) (by omega)
      have hlA:=h1.le (v:=(g i).1.toNat) (by omega)
      have hlB:=h1.le (v:=(g i).2.1.toNat) (by omega)
      cases r with
      | false =>
        have hrej:¬ Mat.Sparse N 2 3 (plL g Q m++[brN (g i)]):=h3 rfl
        refine pcD hc (qRb g nb N m i F T Q F1 T1) ?_ (ih (i+1) m F T Q (by omega) hp (by
          simp only [accI]
          rw [← hq,← plL_qL,if_neg hrej]))
        and_intros
        all_goals (first | exact zI | (exact hc1) | (intro i hi;simp [All]))
      | true =>
        have hw:=h2 rfl
        have hacc:Mat.Sparse N 2 3 (plL g Q m++[brN (g i)]):=by
          have:=(h1.game 3).accept (by rw [barsOf_gm];exact hsp) (g i).1.toNat (g i).2.1.toNat ⟨by show (g i).1.toNat≠(g i).2.1.toNat;omega,by show (g i).1.toNat<N;omega,by show (g i).2.1.toNat<N;omega⟩
            (by show 3+1≤(F1 (g i).1.toNat).toNat+(F1 (g i).2.1.toNat).toNat;omega)
          rw [barsOf_gm] at this
          exact this
        refine pcD hc (qRa g nb N m i F T Q F1 T1) ?_ (ih (i+1) (m+1) _ _ _ (by omega) (h1.placed i (by omega) (g i).1 (.inl rfl) (by omega)) (by
          simp only [accI]
          rw [← hq,← plL_qL,if_pos hacc]
          simp only [qL,Nat.lt_irrefl,if_false,Int.toNat_natCast]
          rw [qL_congr (Q':=Q) m (fun j hj=>by simp only [hj,if_true])]))
        and_intros
        all_goals (first | exact zI | (exact hc1) | (intro i hi;simp [All];done) | (intro j hj;by_cases h:j<m<;>simp [h,cvtL,cvt,tg,tru,All];done) | (intro j hj;by_cases h:j=(g i).1.toNat<;>simp [h,cvtL,cvt,tg,tru,All]))
  have hn:=con_NewPebbles0 (k:=2) hN (by omega)
  refine pcD hc (qRz g nb N) ?_ (lp nb 0 0 _ _ _ (by omega) (PInv.start hb) rfl)
  and_intros
  all_goals (first | exact zI | (exact hn) | (intro i hi;simp [All]))
end Go.Proofs.Ytgabljneilgilaa.Mach
namespace Go.Proofs
open Go Go.Shelf Go.RowKit Go.Lib Go.Sort
set_option linter.unusedVariables false
set_option linter.unusedSimpArgs false
shelf_lay_g SlLaysF0.n6 Slsf 6 at Try 98 as Try.sortBar
end Go.Proofs
namespace Go.Proofs.Ytgabljneilgilaa.Mach
open Go Go.Shelf Go.RowKit Go.Lib Go.Sort
set_option linter.unusedVariables false
set_option linter.unusedSimpArgs false
theorem cmpI_1 {x y:Int} (h:x<y):cmpI x y = -1:=by simp [cmpI,h]
theorem cmpI_2 {x y:Int} (h:y<x):cmpI x y=1:=by
  have h3:¬ x<y:=by omega
  simp [cmpI,h3,h]
theorem cmpI_3 {x y:Int} (h:¬ x<y) (h':¬ y<x):cmpI x y=0:=by simp [cmpI,h,h']
open Go
def brOb (n:Nat) (h:Nat→T_Bar):Ob:=⟨false,2,n,fun i=>[.p (.int .i64 (h i).1),.p (.int .i64 (h i).2.1)]⟩
def bxB (x:T_Bar):Ob:=⟨true,2,1,fun _=>[.p (.int .i64 x.1),.p (.int .i64 x.2.1)]⟩
def SL (g:Nat→T_Bar) (nb N:Nat) (x:T_Bar) (i n:Nat) (pl:Bool) (h:Nat→T_Bar):St :=
  ⟨[grG g nb N,brA x,.pt 2 0 0 0,.pt 2 1 0 0,.pt 2 2 0 0,.pt 2 3 0 0,.p (.bool pl),.p (.int .i64 i)]++List.replicate 48 anyA,
   [(0,bxG g nb N),(1,bxB x),(2,⟨true,2,1,fun _=>[.p (.int .i64 0),.p .nil]⟩),(3,⟨true,2,1,fun _=>[.p (.int .i64 N),.ar 2 4 0 n]⟩),(4,brOb n h)],5⟩
def snoc (n:Nat) (h:Nat→T_Bar) (x:T_Bar) (s:Nat):T_Bar:=(if s<n then (h s).1 else x.1,if s<n then (h s).2.1 else x.2.1,())
theorem rLz (g:Nat→T_Bar) (nb N:Nat) (x:T_Bar) :
    zT Try.f71 [rg 3,rg 6,rg 1,rg 1,.head] [grG g nb N,brA x] [0,32,64,224,160] (SL g nb N x 0 0 false (fun _=>(0,0,()))) =
    some (zf36,zD [(NT 0 1),((true=true)→ (AN 1)),(AI ((↑N:Int))),(AN nb),(AP nb (bRw g)),(AI x.1),(AI x.2.1),(AN 0),(false=false),((0:Int)=(↑0:Int)),((([AV.p (PV.int IntKind.i64 (↑N:Int)),brL g nb].length):Nat)=2),(NL 1 1),((([AV.p (PV.int IntKind.i64 x.1),AV.p (PV.int IntKind.i64 x.2.1)].length):Nat)=2),((((List.map (fun v=>AV.p (absV v)) [Value.int IntKind.i64 0,Value.slice none 0 0]).length):Nat)=2),(AI 0),(AN 2),(NL 0 0),(AA 0 (fun i=>[.p (.int .i64 0),.p (.int .i64 0)]))] [0,0,1,2,3,4,5,6,7,7,7,7,8,9,10,11,11,2,3,4,12,11,11,5,6,13,11,11,14,13,11,11,2,7,7,15,16,17]):=by kernel_rfl
theorem rLa (g:Nat→T_Bar) (nb N:Nat) (x:T_Bar) (i n:Nat) (pl:Bool) (h:Nat→T_Bar) :
    zM 0 [rg 5,.dec true,rm [(9,oc [] (.p (.bool (aft (g i) x))))] 2,.dec true,rg 7,rg 1,rg 11,rg 3,.head] zf36 (SL g nb N x i n pl h) [0,1,2,3,1061] 1 (SL g nb N x (i+1) (n+1+1) true (snoc (n+1) (snoc n h x) (g i))) =
    some (zf36,zD [(NT 0 1),((decide ((↑i:Int)<(↑nb:Int)))=true),(AG (!pl)),(((!pl)=true)→(NT 0 1)),(((!pl)=true)→(IL 0 (↑i:Int))),(((!pl)=true)→(IT (↑i:Int) (↑nb:Int))),(((!pl)=true)→ zE 84 [.agg [.p (.int .i64 ((g i).1)),.p (.int .i64 ((g i).2.1))],.agg [.p (.int .i64 x.1),.p (.int .i64 x.2.1)]] [] (.p (.bool (aft (g i) x)))),((bif !pl then !aft (g i) x else false)=true),(NL 1 1),(NL n n),(NL ((n+1)*16) 140737488355328),(NL (n+1) 9223372036854775807),((true=true)→ (AN 1)),(IL 0 (↑i:Int)),(IT (↑i:Int) (↑nb:Int)),(NL (n+1) (n+1)),(NL ((n+1+1)*16) 140737488355328),(NL (n+1+1) 9223372036854775807),(ZLo ((↑i:Int)+1)),(ZHi ((↑i:Int)+1)),(AI ((↑N:Int))),(AN nb),(AP nb (bRw g)),(AI x.1),(AI x.2.1),(AN 0),(true=true),((((↑i:Int)+1):Int)=(↑(i+1):Int)),(AN 2),(AI 0),(AN ((n+1+1))),(NL (n+1+1) (n+1+1)),(CV [(3,⟨true,2,1,(fun i_2=>[.p (.int .i64 (↑N:Int)),.ar 2 1061 0 (n+1+1)])⟩),(1061,⟨false,2,(n+1+1),(fun i_2=>(if (i_2<n+1) then (if (i_2<n) then [.p (.int .i64 ((h i_2).1)),.p (.int .i64 ((h i_2).2.1))] else [.p (.int .i64 x.1),.p (.int .i64 x.2.1)]) else [.p (.int .i64 ((g i).1)),.p (.int .i64 ((g i).2.1))]))⟩),(1029,⟨false,2,1,(fun i_2=>[.p (.int .i64 ((g i).1)),.p (.int .i64 ((g i).2.1))])⟩),(645,⟨false,2,1,(fun i_2=>[.p (.int .i64 x.1),.p (.int .i64 x.2.1)])⟩),(0,⟨true,2,1,(fun i_2=>[.p (.int .i64 (↑N:Int)),.p (.seq true 2 nb (bRw g))])⟩),(1,⟨true,2,1,(fun i_2=>[.p (.int .i64 x.1),.p (.int .i64 x.2.1)])⟩),(2,⟨true,2,1,(fun i_2=>[.p (.int .i64 0),.p (.nil)])⟩)] [0,1,2,3,1061] 1 (n+1+1) (fun i_1=>if (i_1<n+1) then (if (i_1<n) then [.p (.int .i64 ((h i_1).1)),.p (.int .i64 ((h i_1).2.1))] else [.p (.int .i64 x.1),.p (.int .i64 x.2.1)]) else [.p (.int .i64 ((g i).1)),.p (.int .i64 ((g i).2.1))]) (fun i_1=>[.p (.int .i64 (if i_1<n+1 then if i_1<n then (h i_1).1 else x.1 else (g i).1)),.p (.int .i64 (if i_1<n+1 then if i_1<n then (h i_1).2.1 else x.2.1 else (g i).2.1))]))] [0,1,2,3,2,2,4,5,2,3,2,2,6,2,2,7,0,0,8,9,10,11,0,12,0,0,13,14,8,15,16,17,0,12,18,19,20,21,22,23,24,25,25,25,25,26,27,28,8,8,20,21,22,28,8,8,23,24,28,8,8,29,28,8,8,20,25,30,28,31,32]):=by kernel_rfl
theorem rLb (g:Nat→T_Bar) (nb N:Nat) (x:T_Bar) (i n:Nat) (pl:Bool) (h:Nat→T_Bar) :
    zM 0 [rg 5,.dec true,rm [(9,oc [] (.p (.bool (aft (g i) x))))] 2,.dec false,rg 11,rg 3,.head] zf36 (SL g nb N x i n pl h) [0,1,2,3,805] 1 (SL g nb N x (i+1) (n+1) pl (snoc n h (g i))) =
    some (zf36,zD [(NT 0 1),((decide ((↑i:Int)<(↑nb:Int)))=true),(AG (!pl)),(((!pl)=true)→(NT 0 1)),(((!pl)=true)→(IL 0 (↑i:Int))),(((!pl)=true)→(IT (↑i:Int) (↑nb:Int))),(((!pl)=true)→ zE 84 [.agg [.p (.int .i64 ((g i).1)),.p (.int .i64 ((g i).2.1))],.agg [.p (.int .i64 x.1),.p (.int .i64 x.2.1)]] [] (.p (.bool (aft (g i) x)))),((bif !pl then !aft (g i) x else false)=false),(IL 0 (↑i:Int)),(IT (↑i:Int) (↑nb:Int)),(NL 1 1),(NL n n),(NL ((n+1)*16) 140737488355328),(NL (n+1) 9223372036854775807),((true=true)→ (AN 1)),(ZLo ((↑i:Int)+1)),(ZHi ((↑i:Int)+1)),(AI ((↑N:Int))),(AN nb),(AP nb (bRw g)),(AI x.1),(AI x.2.1),(AN 0),(pl=pl),((((↑i:Int)+1):Int)=(↑(i+1):Int)),(AN 2),(AI 0),(AN ((n+1))),(NL (n+1) (n+1)),(CV [(3,⟨true,2,1,(fun i_2=>[.p (.int .i64 (↑N:Int)),.ar 2 805 0 (n+1)])⟩),(805,⟨false,2,(n+1),(fun i_2=>(if (i_2<n) then [.p (.int .i64 ((h i_2).1)),.p (.int .i64 ((h i_2).2.1))] else [.p (.int .i64 ((g i).1)),.p (.int .i64 ((g i).2.1))]))⟩),(773,⟨false,2,1,(fun i_2=>[.p (.int .i64 ((g i).1)),.p (.int .i64 ((g i).2.1))])⟩),(0,⟨true,2,1,(fun i_2=>[.p (.int .i64 (↑N:Int)),.p (.seq true 2 nb (bRw g))])⟩),(1,⟨true,2,1,(fun i_2=>[.p (.int .i64 x.1),.p (.int .i64 x.2.1)])⟩),(2,⟨true,2,1,(fun i_2=>[.p (.int .i64 0),.p (.nil)])⟩)] [0,1,2,3,805] 1 (n+1) (fun i_1=>if (i_1<n) then [.p (.int .i64 ((h i_1).1)),.p (.int .i64 ((h i_1).2.1))] else [.p (.int .i64 ((g i).1)),.p (.int .i64 ((g i).2.1))]) (fun i_1=>[.p (.int .i64 (if i_1<n then (h i_1).1 else (g i).1)),.p (.int .i64 (if i_1<n then (h i_1).2.1 else (g i).2.1))]))] [0,1,2,3,2,2,4,5,2,3,2,2,6,2,2,7,0,0,8,9,10,11,12,13,0,14,15,16,17,18,19,20,21,22,22,22,22,23,24,25,10,10,17,18,19,25,10,10,20,21,25,10,10,26,25,10,10,17,22,27,25,28,29]):=by kernel_rfl
theorem rLc (g:Nat→T_Bar) (nb N:Nat) (x:T_Bar) (i n:Nat) (pl:Bool) (h:Nat→T_Bar) :
    zP Try.f71 0 [rg 5,.dec false,rg 2,.dec true,rg 7,rg 2] zf36 (SL g nb N x i n pl h) [357] 1 [(0,brOb (n+1) (snoc n h x))] (.agg [.p (.int .i64 N),.ar 2 0 0 (n+1)]) =
    some (zD [(NT 0 1),((decide ((↑i:Int)<(↑nb:Int)))=false),((!pl)=true),(NL 1 1),(NL n n),(NL ((n+1)*16) 140737488355328),(NL (n+1) 9223372036854775807),((true=true)→ (AN 1)),(AI ((↑N:Int))),(AN 0),(AN ((n+1))),(AN 2),(NL (n+1) (n+1)),(CV [(2,⟨true,2,1,(fun i_2=>[.p (.int .i64 (↑N:Int)),.ar 2 357 0 (n+1)])⟩),(3,⟨true,2,1,(fun i_2=>[.p (.int .i64 (↑N:Int)),.ar 2 357 0 (n+1)])⟩),(357,⟨false,2,(n+1),(fun i_2=>(if (i_2<n) then [.p (.int .i64 ((h i_2).1)),.p (.int .i64 ((h i_2).2.1))] else [.p (.int .i64 x.1),.p (.int .i64 x.2.1)]))⟩),(325,⟨false,2,1,(fun i_2=>[.p (.int .i64 x.1),.p (.int .i64 x.2.1)])⟩),(0,⟨true,2,1,(fun i_2=>[.p (.int .i64 (↑N:Int)),.p (.seq true 2 nb (bRw g))])⟩),(1,⟨true,2,1,(fun i_2=>[.p (.int .i64 x.1),.p (.int .i64 x.2.1)])⟩)] [357] 1 (n+1) (fun i_1=>if (i_1<n) then [.p (.int .i64 ((h i_1).1)),.p (.int .i64 ((h i_1).2.1))] else [.p (.int .i64 x.1),.p (.int .i64 x.2.1)]) (fun i_1=>[.p (.int .i64 (if i_1<n then (h i_1).1 else x.1)),.p (.int .i64 (if i_1<n then (h i_1).2.1 else x.2.1))])),(AE ((n+1)))] [0,1,2,0,0,3,4,5,6,0,7,0,0,7,0,8,9,10,11,12,13,14]):=by kernel_rfl
theorem rLd (g:Nat→T_Bar) (nb N:Nat) (x:T_Bar) (i n:Nat) (pl:Bool) (h:Nat→T_Bar) :
    zP Try.f71 0 [rg 5,.dec false,rg 2,.dec false,rg 2] zf36 (SL g nb N x i n pl h) [4] 1 [(0,brOb n h)] (.agg [.p (.int .i64 N),.ar 2 0 0 n]) =
    some [(NT 0 1),((decide ((↑i:Int)<(↑nb:Int)))=false),((!pl)=false),(NT 0 1),(NT 0 1),((true=true)→ (AN 1)),(NT 0 1),(AI ((↑N:Int))),(AN 0),(AN n),(AN 2),(NL n n),(AA n (fun i_1=>[.p (.int .i64 ((h i_1).1)),.p (.int .i64 ((h i_1).2.1))])),(AE n)]:=by kernel_rfl
theorem snoc_lt {n:Nat} {h:Nat→T_Bar} {x:T_Bar} {s:Nat} (hs:s<n):snoc n h x s=h s:=by
  simp only [snoc,hs,if_true]
theorem snoc_ge {n:Nat} {h:Nat→T_Bar} {x:T_Bar} {s:Nat} (hs:¬ s<n):snoc n h x s=x:=by
  simp only [snoc,hs,if_false]
theorem snoc_mem (n:Nat) (h:Nat→T_Bar) (x y:T_Bar):(∃ s,s<n+1∧snoc n h x s=y)↔(∃ s,s<n∧h s=y)∨x=y:=by
  constructor
  · rintro ⟨s,h1,h2⟩
    by_cases e:s<n
    · rw [snoc_lt e] at h2;exact .inl ⟨s,e,h2⟩
    · rw [snoc_ge e] at h2;exact .inr h2
  · rintro (⟨s,h1,h2⟩ | h2)
    · exact ⟨s,by omega,by rw [snoc_lt h1];exact h2⟩
    · exact ⟨n,by omega,by rw [snoc_ge (Nat.lt_irrefl n)];exact h2⟩
def insD (g:Nat→T_Bar) (x:T_Bar):Nat→Bool×Nat×(Nat→T_Bar)
  | 0=>(false,0,fun _=>(0,0,()))
  | i+1 =>
    if (bif !(insD g x i).1 then !aft (g i) x else false)=true then (true,(insD g x i).2.1+1+1,snoc ((insD g x i).2.1+1) (snoc (insD g x i).2.1 (insD g x i).2.2 x) (g i))
    else ((insD g x i).1,(insD g x i).2.1+1,snoc (insD g x i).2.1 (insD g x i).2.2 (g i))
def insR (g:Nat→T_Bar) (nb:Nat) (x:T_Bar):Nat×(Nat→T_Bar) :=
  if (insD g x nb).1=true then ((insD g x nb).2.1,(insD g x nb).2.2) else ((insD g x nb).2.1+1,snoc (insD g x nb).2.1 (insD g x nb).2.2 x)
theorem insD_n (g:Nat→T_Bar) (x:T_Bar):∀ i,(insD g x i).2.1=i+(if (insD g x i).1=true then 1 else 0)
  | 0=>rfl
  | i+1=>by
    have ih:=insD_n g x i
    simp only [insD]
    split
    · rename_i h
      have hf:(insD g x i).1=false:=by
        cases e:(insD g x i).1 with
        | false=>rfl
        | true=>rw [e] at h;simp at h
      rw [hf] at ih
      simp only [if_true]
      simp at ih
      omega
    · simp only
      omega
theorem insD_mem (g:Nat→T_Bar) (x y:T_Bar):∀ i,(∃ s,s<(insD g x i).2.1∧(insD g x i).2.2 s=y)↔(∃ s,s<i∧g s=y)∨((insD g x i).1=true∧x=y)
  | 0=>by
    constructor
    · rintro ⟨s,h1,_⟩;exact absurd h1 (Nat.not_lt_zero _)
    · rintro (⟨s,h1,_⟩ | ⟨h1,_⟩)
      · exact absurd h1 (Nat.not_lt_zero _)
      · cases h1
  | i+1=>by
    have ih:=insD_mem g x y i
    have step:(∃ s,s<i+1∧g s=y)↔(∃ s,s<i∧g s=y)∨g i=y:=by
      constructor
      · rintro ⟨s,h1,h2⟩
        by_cases e:s=i
        · right;rw [← e];exact h2
        · exact .inl ⟨s,by omega,h2⟩
      · rintro (⟨s,h1,h2⟩ | h2)
        · exact ⟨s,by omega,h2⟩
        · exact ⟨i,by omega,h2⟩
    simp only [insD]
    split
    · rename_i h
      have hf:(insD g x i).1=false:=by
        cases e:(insD g x i).1 with
        | false=>rfl
        | true=>rw [e] at h;simp at h
      simp only [snoc_mem,ih,step,hf]
      constructor
      · rintro ((( h | ⟨h,_⟩) | h) | h)
        · exact .inl (.inl h)
        · cases h
        · exact .inr ⟨trivial,h⟩
        · exact .inl (.inr h)
      · rintro ((h | h) | ⟨_,h⟩)
        · exact .inl (.inl (.inl h))
        · exact .inr h
        · exact .inl (.inr h)
    · simp only [snoc_mem,ih,step]
      constructor
      · rintro ((h | h) | h)
        · exact .inl (.inl h)
        · exact .inr h
        · exact .inl (.inr h)
      · rintro ((h | h) | h)
        · exact .inl (.inl h)
        · exact .inr h
        · exact .inl (.inr h)
theorem insR_mem (g:Nat→T_Bar) (nb:Nat) (x y:T_Bar):(∃ s,s<(insR g nb x).1∧(insR g nb x).2 s=y)↔(∃ s,s<nb∧g s=y)∨x=y:=by
  have h:=insD_mem g x y nb
  unfold insR
  split
  · rename_i hp
    simp only [h,hp,true_and]
  · rename_i hp
    simp only [snoc_mem,h]
    constructor
    · rintro ((h | ⟨h,_⟩) | h)
      · exact .inl h
      · exact absurd h hp
      · exact .inr h
    · rintro (h | h)
      · exact .inl (.inl h)
      · exact .inr h
theorem insR_n (g:Nat→T_Bar) (nb:Nat) (x:T_Bar):(insR g nb x).1=nb+1:=by
  have h:=insD_n g x nb
  unfold insR
  split
  · rename_i hp;rw [if_pos hp] at h;exact h
  · rename_i hp;rw [if_neg hp] at h;show (insD g x nb).2.1+1=nb+1;omega
theorem con_l2Put (g:Nat→T_Bar) (nb N:Nat) (x:T_Bar) (hnb:nb≤1048576):zE 71 [grG g nb N,brA x] [(0,brOb (insR g nb x).1 (insR g nb x).2)] (.agg [.p (.int .i64 N),.ar 2 0 0 (insR g nb x).1]):=by
  refine csZ Try.func71 (fun c hc=>?_)
  have lp:∀ d i,i+d=nb→zR c 71 zf36 (SL g nb N x i (insD g x i).2.1 (insD g x i).1 (insD g x i).2.2) (Post c [(0,brOb (insR g nb x).1 (insR g nb x).2)] (.agg [.p (.int .i64 N),.ar 2 0 0 (insR g nb x).1])):=by
    intro d
    induction d with
    | zero =>
      intro i hi
      obtain rfl:i=nb:=by omega
      have hd:decide ((i:Int)<(i:Int))=false:=by simp
      have hn:=insD_n g x i
      have hle:(insD g x i).2.1≤i+1:=by split at hn<;>omega
      cases hp:(insD g x i).1 with
      | true =>
        rw [show insR g i x=((insD g x i).2.1,(insD g x i).2.2) by simp [insR,hp]]
        refine pkZ Try.func71 hc (rLd g i N x i (insD g x i).2.1 true (insD g x i).2.2) ?_
        and_intros
        all_goals (first | exact zI | (intro i hi;simp [All]))
      | false =>
        rw [show insR g i x=((insD g x i).2.1+1,snoc (insD g x i).2.1 (insD g x i).2.2 x) by simp [insR,hp]]
        refine pkD Try.func71 hc (rLc g i N x i (insD g x i).2.1 false (insD g x i).2.2) ?_
        and_intros
        all_goals (first | exact zI | (intro j hj;simp [All];done) | (intro j hj;by_cases h:j<(insD g x i).2.1<;>simp [h,snoc,cvtL,cvt,tg,tru,All]))
    | succ d ih =>
      intro i hi
      have hd:decide ((i:Int)<(nb:Int))=true:=by simp;omega
      have hn:=insD_n g x i
      have hle:(insD g x i).2.1≤i+1:=by split at hn<;>omega
      have hca:=con_l2After (g i) x
      have hs:insD g x (i+1)=if (bif !(insD g x i).1 then !aft (g i) x else false)=true then (true,(insD g x i).2.1+1+1,snoc ((insD g x i).2.1+1) (snoc (insD g x i).2.1 (insD g x i).2.2 x) (g i)) else ((insD g x i).1,(insD g x i).2.1+1,snoc (insD g x i).2.1 (insD g x i).2.2 (g i)):=rfl
      have hih:=ih (i+1) (by omega)
      cases ht:(bif !(insD g x i).1 then !aft (g i) x else false) with
      | true =>
        rw [hs,if_pos ht] at hih
        refine pcD hc (rLa g nb N x i (insD g x i).2.1 (insD g x i).1 (insD g x i).2.2) ?_ hih
        and_intros
        all_goals (first | exact zI | (intros;exact hca) | (exact ht) | (intro j hj;simp [All];done) | (intro j hj;by_cases h:j<(insD g x i).2.1+1<;>by_cases h':j<(insD g x i).2.1<;>simp [h,h',snoc,cvtL,cvt,tg,tru,All]) | (simp;omega))
      | false =>
        rw [hs,if_neg (by rw [ht];simp)] at hih
        refine pcD hc (rLb g nb N x i (insD g x i).2.1 (insD g x i).1 (insD g x i).2.2) ?_ hih
        and_intros
        all_goals (first | exact zI | (intros;exact hca) | (exact ht) | (intro j hj;simp [All];done) | (intro j hj;by_cases h:j<(insD g x i).2.1<;>simp [h,snoc,cvtL,cvt,tg,tru,All]))
  refine pcD hc (rLz g nb N x) ?_ (lp nb 0 (by omega))
  and_intros
  all_goals (first | exact zI | (intro i hi;simp [All]))
open Go Go.Shelf Go.RowKit Go.Lib Go.Sort
def ltB (x y:T_Bar):Bool:=ltOf cmpB x y
theorem ltB_iff (x y:T_Bar):ltB x y=true↔x.1<y.1∨(x.1=y.1∧x.2.1<y.2.1):=by
  rw [show ltB x y=decide (cmpB x y<0) from rfl,decide_eq_true_iff]
  unfold cmpB
  rcases Int.lt_trichotomy x.1 y.1 with h | h | h
  · rw [cmpI_1 h];simp;omega
  · rw [cmpI_3 (x:=x.1) (y:=y.1) (by omega) (by omega)]
    simp only [if_true]
    rcases Int.lt_trichotomy x.2.1 y.2.1 with h' | h' | h'
    · rw [cmpI_1 h'];simp;omega
    · rw [cmpI_3 (x:=x.2.1) (y:=y.2.1) (by omega) (by omega)];simp;omega
    · rw [cmpI_2 h'];simp;omega
  · rw [cmpI_2 h];simp;omega
theorem totB (x y:T_Bar) (h1:ltOf cmpB x y=false) (h2:ltOf cmpB y x=false):x=y:=by
  have e1:¬ (x.1<y.1∨(x.1=y.1∧x.2.1<y.2.1)):=fun h'=>by rw [show ltOf cmpB x y=true from (ltB_iff x y).2 h'] at h1;cases h1
  have e2:¬ (y.1<x.1∨(y.1=x.1∧y.2.1<x.2.1)):=fun h'=>by rw [show ltOf cmpB y x=true from (ltB_iff y x).2 h'] at h2;cases h2
  obtain ⟨a,b,⟨⟩⟩:=x
  obtain ⟨c,d,⟨⟩⟩:=y
  simp only [Prod.mk.injEq,and_true] at e1 e2 ⊢
  omega
def lstB (n:Nat) (h:Nat→T_Bar):List T_Bar:=(List.range n).map h
def srtL (l:List T_Bar):List T_Bar:=l.mergeSort fun x y=>!(ltOf cmpB) y x
def srtB (n:Nat) (h:Nat→T_Bar) (i:Nat):T_Bar:=(srtL (lstB n h)).getD i (0,0,())
theorem srtL_len (l:List T_Bar):(srtL l).length=l.length:=by simp [srtL]
theorem lstB_len (n:Nat) (h:Nat→T_Bar):(lstB n h).length=n:=by simp [lstB]
def leB (x y:T_Bar):Prop:=ltB y x=false
theorem leB_iff (x y:T_Bar):leB x y↔x.1<y.1∨(x.1=y.1∧x.2.1≤y.2.1):=by
  have h:=ltB_iff y x
  unfold leB
  cases hb:ltB y x with
  | false=>rw [hb] at h;simp only [Bool.false_eq_true,false_iff] at h;simp only [true_iff];omega
  | true=>rw [hb] at h;simp only [true_iff] at h;simp only [Bool.true_eq_false,false_iff];omega
theorem aft_iff (x y:T_Bar):aft x y=true↔leB x y:=by
  rw [leB_iff]
  unfold aft
  by_cases h1:x.1<y.1
  · simp [h1]
  · by_cases h2:x.1=y.1<;>simp [h1,h2]
theorem leB_antisymm (x y:T_Bar) (h1:leB x y) (h2:leB y x):x=y:=totB x y h2 h1
theorem srtL_sorted (l:List T_Bar):(srtL l).Pairwise leB:=by
  have h:=List.pairwise_mergeSort (le:=fun x y=>!(ltOf cmpB) y x) (fun a b c h1 h2=>by
    simp only [Bool.not_eq_true'] at *
    have h1:=(leB_iff a b).1 h1
    have h2:=(leB_iff b c).1 h2
    exact (leB_iff a c).2 (by omega)) (fun a b=>by
    simp only [Bool.or_eq_true,Bool.not_eq_true']
    rcases (show (a.1<b.1∨(a.1=b.1∧a.2.1≤b.2.1))∨(b.1<a.1∨(b.1=a.1∧b.2.1≤a.2.1)) by omega) with h | h
    · exact .inl ((leB_iff a b).2 h)
    · exact .inr ((leB_iff b a).2 h)) l
  exact h.imp (fun {a b} h=>show ltOf cmpB b a=false by simpa using h)
theorem srtL_perm (l:List T_Bar):(srtL l).Perm l:=List.mergeSort_perm l _
theorem srtL_eq {l m:List T_Bar} (hp:m.Perm l) (hs:m.Pairwise leB):m=srtL l :=
  List.Perm.eq_of_pairwise (le:=leB) (fun a b _ _ h1 h2=>leB_antisymm a b h1 h2) hs (srtL_sorted l) (hp.trans (srtL_perm l).symm)
theorem lstB_succ (n:Nat) (h:Nat→T_Bar):lstB (n+1) h=lstB n h++[h n]:=by simp [lstB,List.range_succ]
theorem lstB_congr {n:Nat} {h h':Nat→T_Bar} (he:∀ i,i<n→h i=h' i):lstB n h=lstB n h':=by
  simp only [lstB]
  exact List.map_congr_left (fun a ha=>he a (List.mem_range.1 ha))
theorem lstB_snoc (n:Nat) (h:Nat→T_Bar) (x:T_Bar):lstB (n+1) (snoc n h x)=lstB n h++[x]:=by
  rw [lstB_succ,lstB_congr (h':=h) (fun i hi=>snoc_lt hi),snoc_ge (Nat.lt_irrefl n)]
theorem lstB_inj {n:Nat} {h h':Nat→T_Bar} (he:lstB n h=lstB n h') (i:Nat) (hi:i<n):h i=h' i:=by
  have:(lstB n h)[i]? = (lstB n h')[i]?:=by rw [he]
  simpa [lstB,hi] using this
theorem lstB_srt (n:Nat) (h:Nat→T_Bar):lstB n (srtB n h)=srtL (lstB n h):=by
  refine List.ext_getElem? (fun i=>?_)
  rcases Nat.lt_or_ge i n with hi | hi
  · have:i<(srtL (lstB n h)).length:=by rw [srtL_len,lstB_len];exact hi
    simp only [lstB,List.getElem?_map,List.getElem?_range hi,Option.map_some]
    rw [show srtL (List.map h (List.range n))=srtL (lstB n h) from rfl,List.getElem?_eq_getElem this]
    simp [srtB,List.getD_eq_getElem?_getD,List.getElem?_eq_getElem this]
  · rw [List.getElem?_eq_none (by rw [lstB_len];exact hi),List.getElem?_eq_none (by rw [srtL_len,lstB_len];exact hi)]
theorem insD_list (g:Nat→T_Bar) (x:T_Bar) (nb:Nat) (hs:(lstB nb g).Pairwise leB):∀ i,i≤nb →
    (lstB (insD g x i).2.1 (insD g x i).2.2).Perm (lstB i g++(if (insD g x i).1=true then [x] else [])) ∧
    (lstB (insD g x i).2.1 (insD g x i).2.2).Pairwise leB∧((insD g x i).1=false→(lstB (insD g x i).2.1 (insD g x i).2.2)=lstB i g∧∀ s,s<i→leB (g s) x) ∧
    ((insD g x i).1=true→∀ s,s<nb→i≤s→∀ y∈lstB (insD g x i).2.1 (insD g x i).2.2,leB y (g s)):=by
  have hmono:∀ s s',s<s'→s'<nb→leB (g s) (g s'):=by
    intro s s' h1 h2
    have:=List.pairwise_iff_getElem.1 hs s s' (by rw [lstB_len];omega) (by rw [lstB_len];omega) h1
    simpa [lstB] using this
  have htr:∀ {a b c:T_Bar},leB a b→leB b c→leB a c:=by
    intro a b c h1 h2
    have h1:=(leB_iff a b).1 h1
    have h2:=(leB_iff b c).1 h2
    exact (leB_iff a c).2 (by omega)
  intro i
  induction i with
  | zero=>intro _;exact ⟨by simp [insD,lstB],by simp [insD,lstB],fun _=>⟨rfl,fun s h=>absurd h (Nat.not_lt_zero _)⟩,fun h=>by simp [insD] at h⟩
  | succ i ih =>
    intro hi
    obtain ⟨ih1,ih2,ih3,ih4⟩:=ih (by omega)
    simp only [insD]
    split
    · rename_i ht
      have hf:(insD g x i).1=false:=by
        cases e:(insD g x i).1 with
        | false=>rfl
        | true=>rw [e] at ht;simp at ht
      rw [hf] at ht
      simp only [Bool.not_false,cond_true,Bool.not_eq_true'] at ht
      have hxg:leB x (g i):=by
        have h1:¬ leB (g i) x:=fun h=>by rw [(aft_iff _ _).2 h] at ht;cases ht
        rw [leB_iff] at h1 ⊢
        omega
      obtain ⟨e1,e2⟩:=ih3 hf
      simp only [if_true]
      rw [lstB_snoc,lstB_snoc,e1]
      have hlt:∀ y∈lstB i g,leB y x∧leB y (g i):=by
        intro y hy
        simp only [lstB,List.mem_map,List.mem_range] at hy
        obtain ⟨s,h1,rfl⟩:=hy
        exact ⟨e2 s h1,hmono s i h1 (by omega)⟩
      refine ⟨?_,?_,fun h=>by simp at h,fun _ s hs1 hs2 y hy=>?_⟩
      · rw [lstB_succ,List.append_assoc,List.append_assoc]
        exact List.Perm.append_left _ (List.Perm.swap _ _ _)
      · rw [e1] at ih2
        rw [List.append_assoc,List.pairwise_append]
        refine ⟨ih2,by simp [hxg],fun y hy y' hy'=>?_⟩
        simp only [List.cons_append,List.nil_append,List.mem_cons,List.not_mem_nil,or_false] at hy'
        rcases hy' with rfl | rfl
        · exact (hlt y hy).1
        · exact (hlt y hy).2
      · have his:leB (g i) (g s):=hmono i s (by omega) hs1
        simp only [List.mem_append,List.mem_cons,List.not_mem_nil,or_false] at hy
        rcases hy with (hy | rfl) | rfl
        · exact htr (hlt y hy).2 his
        · exact htr hxg his
        · exact his
    · rename_i ht
      rw [lstB_snoc]
      refine ⟨?_,?_,fun h=>?_,fun h s hs1 hs2 y hy=>?_⟩
      · rw [lstB_succ,List.append_assoc]
        refine (List.Perm.append_right [g i] ih1).trans ?_
        rw [List.append_assoc]
        exact List.Perm.append_left _ List.perm_append_comm
      · rw [List.pairwise_append]
        refine ⟨ih2,by simp,fun y hy y' hy'=>?_⟩
        simp only [List.mem_cons,List.not_mem_nil,or_false] at hy'
        subst hy'
        cases hp:(insD g x i).1 with
        | true=>exact ih4 hp i (by omega) (Nat.le_refl _) y hy
        | false =>
          rw [(ih3 hp).1] at hy
          simp only [lstB,List.mem_map,List.mem_range] at hy
          obtain ⟨s,h1,rfl⟩:=hy
          exact hmono s i h1 (by omega)
      · simp only at h
        obtain ⟨e1,e2⟩:=ih3 h
        refine ⟨by rw [e1,lstB_succ],fun s hs1=>?_⟩
        rcases Nat.lt_or_ge s i with h' | h'
        · exact e2 s h'
        · obtain rfl:s=i:=by omega
          rw [h] at ht
          simp only [Bool.not_false,cond_true,Bool.not_eq_true',Bool.not_eq_false] at ht
          exact (aft_iff _ _).1 ht
      · simp only at h
        simp only [List.mem_append,List.mem_cons,List.not_mem_nil,or_false] at hy
        rcases hy with hy | rfl
        · exact ih4 h s hs1 (by omega) y hy
        · exact hmono i s (by omega) hs1
theorem insR_list (g:Nat→T_Bar) (nb:Nat) (x:T_Bar) (hs:(lstB nb g).Pairwise leB) :
    lstB (insR g nb x).1 (insR g nb x).2=srtL (lstB nb g++[x]):=by
  obtain ⟨h1,h2,h3,h4⟩:=insD_list g x nb hs nb (Nat.le_refl _)
  unfold insR
  split
  · rename_i hp
    rw [if_pos hp] at h1
    exact srtL_eq h1 h2
  · rename_i hp
    have hf:(insD g x nb).1=false:=by simpa using hp
    obtain ⟨e1,e2⟩:=h3 hf
    simp only
    rw [lstB_snoc,e1]
    refine srtL_eq (List.Perm.refl _) ?_
    rw [List.pairwise_append]
    refine ⟨hs,by simp,fun y hy y' hy'=>?_⟩
    simp only [List.mem_cons,List.not_mem_nil,or_false] at hy'
    subst hy'
    simp only [lstB,List.mem_map,List.mem_range] at hy
    obtain ⟨s,h',rfl⟩:=hy
    exact e2 s h'
open Go Go.Sort
def brX (a b:Int):T_Bar:=(if b<a then b else a,if b>a then b else a,())
def zG2:Ob:=⟨true,2,1,fun _=>[.p (.int .i64 0),.p .nil]⟩
theorem dHas (v:T_Graph) (p:Int) :
    zS Try.f91 [rg 2,rm [(4,oc [] (.p (.bool (inB p 0 (v.1 - 1)))))] 1] [graphA v,.p (.int .i64 p)] [] [] (.p (.bool (inB p 0 (v.1 - 1)))) =
    some [(NT 0 1),(ZLo (v.1 - 1)),(ZHi (v.1 - 1)),zE 60 [.p (.int .i64 p),.p (.int .i64 0),.p (.int .i64 (v.1 - 1))] [] (.p (.bool (inB p 0 (v.1 - 1)))),((inB p 0 (v.1 - 1))=(inB p 0 (v.1 - 1)))]:=by kernel_rfl
theorem con_hasX (v:T_Graph) (p:Int) (h1:1≤v.1) (h2:v.1≤8):zE 91 [graphA v,.p (.int .i64 p)] [] (.p (.bool (inB p 0 (v.1 - 1)))):=by
  refine csZ Try.func91 (fun c hc=>?_)
  refine pkZ Try.func91 hc (dHas v p) ?_
  and_intros
  all_goals (first | exact zN | (exact con_within _ _ _))
theorem graph_inR {v:T_Graph} (h:isGraphF v=true):1≤v.1∧v.1≤8∧v.2.1.1≤24∧goodB v.1 v.2.1.2 v.2.1.1=true:=by
  unfold isGraphF at h
  split at h
  · rename_i h1
    simp only [inB,Bool.and_eq_true,decide_eq_true_eq] at h1
    exact ⟨h1.1.1,h1.1.2,h1.2,h⟩
  · cases h
theorem goodB_at {N:Int} {g:Nat→T_Bar}:∀ {n:Nat},goodB N g n=true→∀ k,k<n→0≤(g k).1∧(g k).1<(g k).2.1∧(g k).2.1<N∧(0<k→leB (g (k - 1)) (g k))
  | 0,_,k,hk=>absurd hk (Nat.not_lt_zero _)
  | n+1,h,k,hk=>by
    simp only [goodB,Bool.and_eq_true,Bool.not_eq_true'] at h
    by_cases e:k=n
    · subst e
      have h2:=h.2
      unfold badB at h2
      by_cases c1:(g k).1<0
      · simp [c1] at h2
      by_cases c2:(g k).1≥(g k).2.1
      · simp [c1,c2] at h2
      by_cases c3:(g k).2.1≥N
      · simp [c1,c2,c3] at h2
      refine ⟨by omega,by omega,by omega,fun h0=>?_⟩
      simp only [c1,c2,c3,decide_false,cond_false] at h2
      rw [decide_eq_true (show (k:Int)>0 by omega)] at h2
      simp only [cond_true,Bool.not_eq_false'] at h2
      rw [← aft_iff]
      rw [show ((k:Int) - 1).toNat=k - 1 by omega] at h2
      exact h2
    · exact goodB_at h.1 k (by omega)
theorem goodB_sorted {N:Int} {g:Nat→T_Bar} {n:Nat} (h:goodB N g n=true):(lstB n g).Pairwise leB:=by
  have step:=goodB_at h
  have htr:∀ {a b c:T_Bar},leB a b→leB b c→leB a c:=by
    intro a b c h1 h2
    have h1:=(leB_iff a b).1 h1
    have h2:=(leB_iff b c).1 h2
    exact (leB_iff a c).2 (by omega)
  have mono:∀ d i,i+d<n→leB (g i) (g (i+d)):=by
    intro d
    induction d with
    | zero=>intro i hi;show leB (g i) (g i);exact (leB_iff _ _).2 (by omega)
    | succ d ih=>intro i hi;exact htr (ih i (by omega)) ((step (i+(d+1)) hi).2.2.2 (by omega))
  rw [List.pairwise_iff_getElem]
  intro i j hi hj hij
  rw [lstB_len] at hi hj
  have:=mono (j - i) i (by omega)
  rw [show i+(j - i)=j by omega] at this
  simpa [lstB] using this
theorem sm_graph {v:T_Graph} (h:v.2.1.1≤1048576):smS s_Graph v:=⟨by simp [smS,smL],⟨h,fun i hi=>by simp [smS,smL]⟩,True.intro⟩
def snocI (n:Nat) (f:Nat→Int) (p:Int) (s:Nat):Int:=if s<n then f s else p
theorem rIs (g g':Nat→T_Bar) (nb nb' N:Nat) (a b:Int) (r1 r0:Nat) :
    zS Try.f55 [rg 2,rm [(1,oc [] (.p (.bool true)))] 21,.dec false,rm [(8,oc [(0,brOb nb' g')] (.agg [.p (.int .i64 N),.ar 2 0 0 nb']))] 2,rm [(5,oc [] (.p (.int .i64 r1))),(1,oc [] (.p (.int .i64 r0)))] 3] [grG g nb N,.p (.int .i64 a),.p (.int .i64 b)] [] [] (.p (.bool (bif a==b then true else (r1:Int)==(r0:Int)))) =
    some (zD [(NT 0 1),zE 38 [(zf80 N nb g)] [] (.p (.bool true)),(AG (!!true)),(((!true)=false)→ ((!!true)=true)),(AG (!bif !true then true else decide (a<0))),(((bif !true then true else decide (a<0))=false)→ ((!bif !true then true else decide (a<0))=true)),(AG (!bif bif !true then true else decide (a<0) then true else decide (b<0))),(((!bif bif !true then true else decide (a<0) then true else decide (b<0))=true)→(NT 0 1)),(((bif bif !true then true else decide (a<0) then true else decide (b<0))=false)→ ((!bif bif !true then true else decide (a<0) then true else decide (b<0))=true)),(AG (!bif bif bif !true then true else decide (a<0) then true else decide (b<0) then true else decide (a≥(↑N:Int)))),(((!bif bif bif !true then true else decide (a<0) then true else decide (b<0) then true else decide (a≥(↑N:Int)))=true)→(NT 0 1)),(((bif bif bif !true then true else decide (a<0) then true else decide (b<0) then true else decide (a≥(↑N:Int)))=false)→ ((!bif bif bif !true then true else decide (a<0) then true else decide (b<0) then true else decide (a≥(↑N:Int)))=true)),((bif bif bif bif !true then true else decide (a<0) then true else decide (b<0) then true else decide (a≥(↑N:Int)) then true else decide (b≥(↑N:Int)))=false),zE 71 [(zf80 N nb g),(zf18 b a)] (zf85 nb' g') (.agg [.p (.int .i64 (↑N:Int)),.ar 2 0 0 nb']),((true=true)→ (AN 1)),(((!a==b)=true)→(NT 0 1)),(AG (!a==b)),(((!a==b)=true)→ (AN 2)),(((!a==b)=true)→(NL (nb') (nb'))),(((!a==b)=true)→ zE 93 [(zf80 N nb' g')] [] (.p (.int .i64 (↑r1:Int)))),(((!a==b)=true)→ zE 93 [(zf80 N nb g)] [] (.p (.int .i64 (↑r0:Int)))),(((a==b)=false)→ ((!a==b)=true)),((bif a==b then true else (↑r1:Int)==(↑r0:Int))=(bif a==b then true else (↑r1:Int)==(↑r0:Int)))] [0,1,2,3,4,5,6,7,6,6,8,9,10,9,9,11,12,0,13,0,14,15,16,17,18,19,15,16,20,16,16,21,22]):=by kernel_rfl
theorem rRank (g:Nat→T_Bar) (nb N m:Nat) (F T Q:Nat→Int) :
    zS Try.f112 [rg 1,rm [(2,oc (pebR N m F T Q) (pebO N m 0))] 3] [.p (.int .i64 N),brL g nb] [] [] (.p (.int .i64 m)) =
    some [zE 121 [.p (.int .i64 (↑N:Int)),.p (.seq true 2 nb (bRw g)),.p (.int .i64 2),.p (.int .i64 3)] (zf26 N F m T Q) (.agg [.ar 1 0 0 N,.ar 1 1 0 m,.ar 1 2 0 m]),(AI ((↑m:Int)))]:=by kernel_rfl
theorem rRaise (g:Nat→T_Bar) (nb N:Nat) (x:T_Bar) (r1 r0:Nat) :
    zS Try.f92 [rg 2,rm [(7,oc [] (.p (.int .i64 r1))),(2,oc [] (.p (.int .i64 r0)))] 2] [.p (.int .i64 N),brL g nb,brA x] [] [] (.p (.bool (decide ((r1:Int)>(r0:Int))))) =
    some [(NL 0 0),(NL ((0+nb)*16) 140737488355328),(NL (0+nb) 9223372036854775807),(NT 0 1),(NL 1 1),(NL (0+nb) (0+nb)),(NL ((0+nb+1)*16) 140737488355328),(NL (0+nb+1) 9223372036854775807),(AN 2),(NL (0+nb+1) (0+nb+1)),zE 112 [.p (.int .i64 (↑N:Int)),.p (.seq true 2 (0+nb+1) (fun i=>[(cellP true (if (i<0+nb) then [.p (.int .i64 ((g i).1)),.p (.int .i64 ((g i).2.1))] else [.p (.int .i64 x.1),.p (.int .i64 x.2.1)]) 0),(cellP true (if (i<0+nb) then [.p (.int .i64 ((g i).1)),.p (.int .i64 ((g i).2.1))] else [.p (.int .i64 x.1),.p (.int .i64 x.2.1)]) 1)]))] [] (.p (.int .i64 (↑r1:Int))),zE 112 [.p (.int .i64 (↑N:Int)),.p (.seq true 2 nb (bRw g))] [] (.p (.int .i64 (↑r0:Int))),((decide ((↑r1:Int)>(↑r0:Int)))=(decide ((↑r1:Int)>(↑r0:Int))))]:=by kernel_rfl
def bL (g:Nat→T_Bar):Nat→List (Nat×Nat)
  | 0=>[]
  | n+1=>bL g n++[brN (g n)]
theorem bL_mem (g:Nat→T_Bar) (y:Nat×Nat):∀ n,y∈bL g n↔∃ s,s<n∧brN (g s)=y
  | 0=>by
    constructor
    · intro h;cases h
    · rintro ⟨s,h,_⟩;exact absurd h (Nat.not_lt_zero _)
  | n+1=>by
    simp only [bL,List.mem_append,List.mem_singleton,bL_mem g y n]
    constructor
    · rintro (⟨s,h1,h2⟩ | h)
      · exact ⟨s,by omega,h2⟩
      · exact ⟨n,by omega,h.symm⟩
    · rintro ⟨s,h1,h2⟩
      by_cases e:s=n
      · right;rw [← e];exact h2.symm
      · exact .inl ⟨s,by omega,h2⟩
theorem acc_greedy (N k l:Nat) (g:Nat→T_Bar):∀ n,(accI N k l g n).map (fun i=>brN (g i))=Mat.greedy N k l [] (bL g n)
  | 0=>rfl
  | n+1=>by
    have ih:=acc_greedy N k l g n
    simp only [accI,bL,Mat.greedy_append,Mat.greedy]
    rw [← ih]
    split
    · rw [List.map_append];rfl
    · rfl
theorem acc_len (N k l:Nat) (g:Nat→T_Bar) (n:Nat):(accI N k l g n).length=(Mat.greedy N k l [] (bL g n)).length:=by
  rw [← acc_greedy,List.length_map]
def OkBars (N nb:Nat) (g:Nat→T_Bar):Prop:=∀ e,e<nb→0≤(g e).1∧(g e).1<(g e).2.1∧(g e).2.1<N
theorem bL_good {N nb:Nat} {g:Nat→T_Bar} (h:OkBars N nb g):∀ x∈bL g nb,Mat.GoodBar N x:=by
  intro x hx
  obtain ⟨s,h1,h2⟩:=(bL_mem g x nb).1 hx
  have:=h s h1
  rw [← h2]
  simp only [Mat.GoodBar,brN]
  omega
theorem acc_same {N n n':Nat} {g g':Nat→T_Bar} (h:OkBars N n g) (hm:∀ y,(∃ s,s<n∧g s=y)↔∃ s,s<n'∧g' s=y):(accI N 2 3 g n).length=(accI N 2 3 g' n').length:=by
  rw [acc_len,acc_len]
  refine Mat.rank_same _ _ (bL_good h) (fun x=>?_)
  rw [bL_mem,bL_mem]
  constructor
  · rintro ⟨s,h1,h2⟩
    obtain ⟨t,h3,h4⟩:=(hm (g s)).1 ⟨s,h1,rfl⟩
    exact ⟨t,h3,by rw [h4,h2]⟩
  · rintro ⟨s,h1,h2⟩
    obtain ⟨t,h3,h4⟩:=(hm (g' s)).2 ⟨s,h1,rfl⟩
    exact ⟨t,h3,by rw [h4,h2]⟩
theorem acc_congr (N k l:Nat) {g g':Nat→T_Bar}:∀ n,(∀ i,i<n→g i=g' i)→accI N k l g n=accI N k l g' n
  | 0,_=>rfl
  | n+1,h=>by
    have ih:=acc_congr N k l n (fun i hi=>h i (by omega))
    have hb:(accI N k l g n).map (fun i=>brN (g i))=(accI N k l g' n).map (fun i=>brN (g' i)):=by
      rw [ih]
      refine List.map_congr_left (fun i hi=>?_)
      rw [h i (by
        have:∀ n,∀ i∈accI N k l g' n,i<n:=by
          intro n
          induction n with
          | zero=>intro i hi;cases hi
          | succ n ih2 =>
            intro i hi
            simp only [accI] at hi
            split at hi
            · rcases List.mem_append.1 hi with h | h
              · have:=ih2 i h;omega
              · rw [List.mem_singleton] at h;omega
            · have:=ih2 i hi;omega
        have:=this n i hi
        omega)]
    simp only [accI]
    rw [hb,h n (by omega),ih]
theorem acc_mono (N k l:Nat) (g:Nat→T_Bar) (n:Nat):(accI N k l g n).length≤(accI N k l g (n+1)).length:=by
  simp only [accI]
  split
  · simp
  · exact Nat.le_refl _
theorem con_planeRank {N nb:Nat} {g:Nat→T_Bar} (hb:OkBars N nb g) (hN:N≤1048576) (hnb:nb≤1048576):zE 112 [.p (.int .i64 N),brL g nb] [] (.p (.int .i64 ((accI N 2 3 g nb).length:Nat))):=by
  obtain ⟨m,F,T,Q,hc1,hp,hq⟩:=con_play (N:=N) (k:=2) (l:=3) hb (by omega) (by omega) hN hnb
  rw [← hq,qL_length]
  refine csZ Try.func112 (fun c hc=>?_)
  refine pkZ Try.func112 hc (rRank g nb N m F T Q) ?_
  and_intros
  all_goals (first | exact zN | (exact hc1) | (intro i hi;simp [All]))
theorem ok_snoc {N nb:Nat} {g:Nat→T_Bar} {x:T_Bar} (hb:OkBars N nb g) (hx:0≤x.1∧x.1<x.2.1∧x.2.1<N):OkBars N (nb+1) (snoc nb g x):=by
  intro e he
  by_cases h:e<nb
  · rw [snoc_lt h];exact hb e h
  · rw [snoc_ge h];exact hx
theorem con_raises {N nb:Nat} {g:Nat→T_Bar} {x:T_Bar} (hb:OkBars N nb g) (hx:0≤x.1∧x.1<x.2.1∧x.2.1<N) (hN:N≤1048576) (hnb:nb≤1000000) :
    zE 92 [.p (.int .i64 N),brL g nb,brA x] [] (.p (.bool (decide (((accI N 2 3 (snoc nb g x) (nb+1)).length:Int)>((accI N 2 3 g nb).length:Int))))):=by
  have h0:=con_planeRank hb hN (by omega)
  have h1:=con_planeRank (ok_snoc hb hx) hN (by omega)
  refine csZ Try.func92 (fun c hc=>?_)
  refine pkZ Try.func92 hc (rRaise g nb N x _ _) ?_
  repeat' (first | exact aN | apply aI)
  all_goals (first | exact zN | (exact h0) | (refine Con.arg_ext h1 ?_;simp only [brL,wkL,wk,wkP,beq_self_eq_true,Bool.and_self,if_true,ikEq,List.append_nil,List.cons_append,List.nil_append,All];refine ⟨trivial,by omega,fun i hi=>?_,trivial⟩;simp only [Nat.zero_add];by_cases h:i<nb<;>simp [h,cellP,tg,tru,snoc]))
noncomputable def impB (N nb:Nat) (g:Nat→T_Bar) (a b:Int):Bool :=
  bif a==b then true else (((accI N 2 3 (snoc nb g (brX a b)) (nb+1)).length:Nat):Int)==(((accI N 2 3 g nb).length:Nat):Int)
theorem brX_ok {N:Nat} {a b:Int} (ha:0≤a∧a<N) (hb:0≤b∧b<N) (hab:a≠b):0≤(brX a b).1∧(brX a b).1<(brX a b).2.1∧(brX a b).2.1<N:=by
  simp only [brX]
  by_cases h:b<a
  · rw [if_pos h,if_neg (by omega)];omega
  · rw [if_neg h,if_pos (by omega)];omega
theorem con_IsImplied_s {N nb:Nat} {g:Nat→T_Bar} (hg:isGraphF ((N:Int),(nb,g),())=true) (hok:OkBars N nb g) (hN:1≤N∧N≤8) (hnb:nb≤24) {a b:Int} (ha:0≤a∧a<N) (hb:0≤b∧b<N) :
    zE 55 [grG g nb N,.p (.int .i64 a),.p (.int .i64 b)] [] (.p (.bool (impB N nb g a b))):=by
  have hsm:smS s_Graph ((N:Int),(nb,g),()):=⟨by simp [smS,smL],⟨by show nb≤1048576;omega,fun i hi=>by simp [smS,smL]⟩,True.intro⟩
  have hcg:=con_IsGraph_s ((N:Int),(nb,g),()) hsm
  rw [hg] at hcg
  have hp:=con_l2Put g nb N (brX a b) (by omega)
  have hr0:=con_l6Rank hok hN (by omega)
  have hr1:a≠b→zE 93 [grG (insR g nb (brX a b)).2 (insR g nb (brX a b)).1 N] [] (.p (.int .i64 ((accI N 2 3 (snoc nb g (brX a b)) (nb+1)).length:Nat))):=by
    intro hab
    have hx:=brX_ok ha hb hab
    have hm:∀ y,(∃ s,s<(insR g nb (brX a b)).1∧(insR g nb (brX a b)).2 s=y)↔∃ s,s<nb+1∧snoc nb g (brX a b) s=y:=fun y=>by rw [insR_mem,snoc_mem]
    have hok':OkBars N (insR g nb (brX a b)).1 (insR g nb (brX a b)).2:=by
      intro e he
      obtain ⟨s,h1,h2⟩:=(hm _).1 ⟨e,he,rfl⟩
      rw [← h2]
      exact ok_snoc hok hx s h1
    rw [← acc_same hok' hm]
    exact con_l6Rank hok' hN (by rw [insR_n];omega)
  refine csZ Try.func55 (fun c hc=>?_)
  have hcond:(bif bif bif bif !true then true else decide (a<0) then true else decide (b<0) then true else decide (a≥(N:Int)) then true else decide (b≥(N:Int)))=false:=by
    have h1:¬ a<0:=by omega
    have h2:¬ b<0:=by omega
    have h3:¬ (N:Int)≤a:=by omega
    have h4:¬ (N:Int)≤b:=by omega
    simp [h1,h2,h3,h4]
  refine pkD Try.func55 hc (rIs g (insR g nb (brX a b)).2 nb (insR g nb (brX a b)).1 N a b (accI N 2 3 (snoc nb g (brX a b)) (nb+1)).length (accI N 2 3 g nb).length) ?_
  and_intros
  all_goals (first | exact zH | (exact hcg) | (exact hcond) | (exact hp) | (intro h;exact hr1 (by simpa using h)) | (intros;exact hr0) | (simp;done))
theorem goodB_in (N:Int) (g:Nat→T_Bar):∀ n,goodB N g n=true→∀ e,e<n→badB N g e=false
  | 0,_,e,he=>by omega
  | n+1,h,e,he=>by
    simp only [goodB,Bool.and_eq_true,Bool.not_eq_true'] at h
    by_cases h':e=n
    · subst h';exact h.2
    · exact goodB_in N g n h.1 e (by omega)
theorem graph_in {N nb:Nat} {g:Nat→T_Bar} (h:isGraphF ((N:Int),(nb,g),())=true):(1≤N∧N≤8)∧nb≤24∧OkBars N nb g:=by
  unfold isGraphF at h
  split at h
  case isFalse=>cases h
  rename_i hc
  obtain ⟨h1,h2⟩:=hc
  simp only [inB,Bool.and_eq_true,decide_eq_true_eq] at h1
  refine ⟨by omega,h2,fun e he=>?_⟩
  have hb:=goodB_in (N:Int) g nb h e he
  unfold badB at hb
  by_cases a1:(g e).1<0
  · simp [a1] at hb
  by_cases a2:(g e).1≥(g e).2.1
  · simp [a2] at hb
  by_cases a3:(g e).2.1≥(N:Int)
  · simp [a3] at hb
  omega
theorem graph_cases (v:T_Graph) (h:isGraphF v=true):∃ (N nb:Nat) (g:Nat→T_Bar),v=((N:Int),(nb,g),()):=by
  obtain ⟨v1,⟨nb,g⟩,⟨⟩⟩:=v
  have h1:0≤v1:=by
    unfold isGraphF at h
    split at h
    · rename_i hc
      have:=hc.1
      simp [inB] at this
      omega
    · cases h
  exact ⟨v1.toNat,nb,g,by rw [Int.toNat_of_nonneg h1]⟩
theorem rBar (a b:Int) :
    zS Try.f70 [rg 1,rg 8] [.p (.int .i64 a),.p (.int .i64 b)] [] [] ((zf84 b a)) =
    some [(NT 0 1),((true=true)→ (AN 1)),(NT 0 1),(((if false=true then if b>a then b else a else if b<a then b else a):Int)=(if b<a then b else a)),(((if true=true then if b>a then b else a else if b<a then b else a):Int)=(if b>a then b else a))]:=by kernel_rfl
theorem rHas (g:Nat→T_Bar) (nb N:Nat) (p:Int) :
    zS Try.f91 [rg 2,rm [(4,oc [] (.p (.bool (inB p 0 ((N:Int) - 1)))))] 1] [grG g nb N,.p (.int .i64 p)] [] [] (.p (.bool (inB p 0 ((N:Int) - 1)))) =
    some [(NT 0 1),(ZLo ((↑N:Int) - 1)),(ZHi ((↑N:Int) - 1)),zE 60 [.p (.int .i64 p),.p (.int .i64 0),.p (.int .i64 ((↑N:Int) - 1))] [] (.p (.bool (inB p 0 ((↑N:Int) - 1)))),((inB p 0 ((↑N:Int) - 1))=(inB p 0 ((↑N:Int) - 1)))]:=by kernel_rfl
theorem rIi (g:Nat→T_Bar) (nb N:Nat) (a b:Int) (r:Bool) :
    zS Try.f54 [rg 2,rm [(1,oc [] (.p (.bool true))),(3,oc [] (.p (.bool true))),(4,oc [] (.p (.bool true))),(12,oc [] (zf84 b a)),(0,oc [] (.p (.bool r)))] 4] [grG g nb N,.p (.int .i64 a),.p (.int .i64 b)] [] [] (.p (.bool (bif a==b then true else !r))) =
    some (zD [(NT 0 1),zE 24 [(zf80 N nb g)] [] (.p (.bool true)),((true=true)→(NT 0 1)),(AG true),((true=true)→ zE 91 [(zf80 N nb g),.p (.int .i64 a)] [] (.p (.bool true))),(((bif true then true else false)=true)→(NT 0 1)),(AG (bif true then true else false)),(((bif true then true else false)=true)→ zE 91 [(zf80 N nb g),.p (.int .i64 b)] [] (.p (.bool true))),(AG (bif bif true then true else false then true else false)),(AG ((bif bif true then true else false then true else false)&&!a==b)),((((bif bif true then true else false then true else false)&&!a==b)=true)→(NT 0 1)),((((bif bif true then true else false then true else false)&&!a==b)=true)→ zE 70 [.p (.int .i64 a),.p (.int .i64 b)] [] ((zf84 b a))),((((bif bif true then true else false then true else false)&&!a==b)=true)→ zE 92 [.p (.int .i64 (↑N:Int)),.p (.seq true 2 nb (bRw g)),(zf84 b a)] [] (.p (.bool r))),(((bif bif true then true else false then true else false)=true)→(((a==b)=false)→ (((bif bif true then true else false then true else false)&&!a==b)=true))),((bif bif bif true then true else false then true else false then bif a==b then true else !r else false)=(bif a==b then true else !r))] [0,1,2,3,3,4,3,5,6,6,7,6,8,8,8,9,10,9,10,9,9,11,9,9,9,12,9,8,13,8,14]):=by kernel_rfl
theorem con_bar (a b:Int):zE 70 [.p (.int .i64 a),.p (.int .i64 b)] [] (brA (brX a b)):=by
  refine csZ Try.func70 (fun c hc=>?_)
  refine pkZ Try.func70 hc (rBar a b) ?_
  and_intros
  all_goals (first | exact zI | simp)
theorem con_has {N nb:Nat} {g:Nat→T_Bar} (hN:1≤N∧N≤8) {p:Int} (hp:0≤p∧p<N):zE 91 [grG g nb N,.p (.int .i64 p)] [] (.p (.bool true)):=by
  have hw:=con_within p 0 ((N:Int) - 1)
  have ht:inB p 0 ((N:Int) - 1)=true:=by simp [inB];omega
  rw [show (true:Bool)=inB p 0 ((N:Int) - 1) from ht.symm]
  refine csZ Try.func91 (fun c hc=>?_)
  refine pkZ Try.func91 hc (rHas g nb N p) ?_
  and_intros
  all_goals (first | exact zN | (exact hw))
theorem con_IsImplied_i {N nb:Nat} {g:Nat→T_Bar} (hg:isGraphF ((N:Int),(nb,g),())=true) (hok:OkBars N nb g) (hN:1≤N∧N≤8) (hnb:nb≤24) {a b:Int} (ha:0≤a∧a<N) (hb:0≤b∧b<N) :
    zE 54 [grG g nb N,.p (.int .i64 a),.p (.int .i64 b)] [] (.p (.bool (impB N nb g a b))):=by
  have hsm:smS s_Graph ((N:Int),(nb,g),()):=⟨by simp [smS,smL],⟨by show nb≤1048576;omega,fun i hi=>by simp [smS,smL]⟩,True.intro⟩
  have hcg:=con_IsGraph_i ((N:Int),(nb,g),()) hsm
  rw [hg] at hcg
  have h1:=con_has (g:=g) (nb:=nb) hN ha
  have h2:=con_has (g:=g) (nb:=nb) hN hb
  have h3:=con_bar a b
  have h4:a≠b→zE 92 [.p (.int .i64 N),brL g nb,brA (brX a b)] [] (.p (.bool (decide (((accI N 2 3 (snoc nb g (brX a b)) (nb+1)).length:Int)>((accI N 2 3 g nb).length:Int))))) :=
    fun hab=>con_raises hok (brX_ok ha hb hab) (by omega) (by omega)
  have hmono:(accI N 2 3 g nb).length≤(accI N 2 3 (snoc nb g (brX a b)) (nb+1)).length:=by
    have e:=acc_congr N 2 3 (g:=g) (g':=snoc nb g (brX a b)) nb (fun i hi=>(snoc_lt hi).symm)
    rw [e]
    exact acc_mono N 2 3 _ nb
  have he:impB N nb g a b=(bif a==b then true else !decide (((accI N 2 3 (snoc nb g (brX a b)) (nb+1)).length:Int)>((accI N 2 3 g nb).length:Int))):=by
    unfold impB
    cases a==b with
    | true=>rfl
    | false =>
      simp only [cond_false]
      by_cases h:(accI N 2 3 (snoc nb g (brX a b)) (nb+1)).length=(accI N 2 3 g nb).length
      · rw [h];simp
      · have h':¬ (((accI N 2 3 (snoc nb g (brX a b)) (nb+1)).length:Nat):Int)=(((accI N 2 3 g nb).length:Nat):Int):=by omega
        have h'':(((accI N 2 3 (snoc nb g (brX a b)) (nb+1)).length:Nat):Int)>(((accI N 2 3 g nb).length:Nat):Int):=by omega
        rw [decide_eq_true h'']
        simpa using h'
  rw [he]
  refine csZ Try.func54 (fun c hc=>?_)
  refine pkD Try.func54 hc (rIi g nb N a b _) ?_
  and_intros
  all_goals (first | exact zH | (exact hcg) | (intros;exact h1) | (intros;exact h2) | (intros;exact h3) | (intro h;exact h4 (by simpa using h)) | (intro _ h;simpa using h) | (simp;done))
def ssOb (n:Nat) (C:Nat→T_IntS):Ob:=⟨false,1,n,fun i=>[.p (.seq false 1 (C i).1 (fun s=>[.int .i64 ((C i).2 s)]))]⟩
def snocC (n:Nat) (C:Nat→T_IntS) (c:T_IntS) (i:Nat):T_IntS:=(if i<n then (C i).1 else c.1,fun s=>if i<n then (C i).2 s else c.2 s)
def SBs (g:Nat→T_Bar) (nb N e:Nat) (n p:Nat) (f:Nat→Int):St :=
  ⟨[grG g nb N,.p (.int .i64 e),.pt 2 0 0 0,.p .any,.p .any,.ar 1 1 0 n,.p (.int .i64 (g e).1),.p (.int .i64 (g e).2.1),.p (.int .i64 p)]++List.replicate 49 anyA,[(0,bxG g nb N),(1,iOb n f)],2⟩
def SBi (g:Nat→T_Bar) (nb N e:Nat) (n p:Nat) (f:Nat→Int):St :=
  ⟨[grG g nb N,.p (.int .i64 e),.pt 2 0 0 0,.p .any,.p .any,.ar 1 1 0 n,.pt 2 2 0 0]++List.replicate 21 anyA++[.p (.int .i64 N),.p (.int .i64 p)]++List.replicate 20 anyA,[(0,bxG g nb N),(1,iOb n f),(2,bxB (g e))],3⟩
def SCs (g:Nat→T_Bar) (nb N e cn:Nat) (C:Nat→T_IntS):St :=
  ⟨[grG g nb N,.pt 2 0 0 0,.p .any,.ar 1 1 0 cn,.p (.int .i64 e)]++List.replicate 40 anyA,[(0,bxG g nb N),(1,ssOb cn C)],2⟩
def SCs1 (g:Nat→T_Bar) (nb N e cn:Nat) (C:Nat→T_IntS) (c:T_IntS) (kn:Bool) (k:Nat):St :=
  ⟨[grG g nb N,.pt 2 0 0 0,.p .any,.ar 1 1 0 cn,.p (.int .i64 e),.ar 1 2 0 c.1,.p (.bool kn),.p (.int .i64 k)]++List.replicate 37 anyA,[(0,bxG g nb N),(1,ssOb cn C),(2,iOb c.1 c.2)],3⟩
def SCi (g:Nat→T_Bar) (nb N e cn:Nat) (C:Nat→T_IntS):St :=
  ⟨[grG g nb N,.pt 2 0 0 0,.p .any,.ar 1 1 0 cn]++List.replicate 12 anyA++[.p (.int .i64 nb),.p (.int .i64 e)]++List.replicate 26 anyA,[(0,bxG g nb N),(1,ssOb cn C)],2⟩
def SCi1 (g:Nat→T_Bar) (nb N e cn:Nat) (C:Nat→T_IntS) (c:T_IntS) (kn:Bool) (k:Nat):St :=
  ⟨[grG g nb N,.pt 2 0 0 0,.p .any,.ar 1 1 0 cn,.p .any,.ar 1 2 0 c.1,.p (.bool kn)]++List.replicate 9 anyA++[.p (.int .i64 nb),.p (.int .i64 e)]++List.replicate 5 anyA++[.ar 1 1 0 cn,.p (.int .i64 cn),.p (.int .i64 k)]++List.replicate 18 anyA,[(0,bxG g nb N),(1,ssOb cn C),(2,iOb c.1 c.2)],3⟩
theorem cBsz (g:Nat→T_Bar) (nb N e:Nat) :
    zT Try.f53 [rg 2,rg 2,rm [(1,oc [] (.p (.bool true)))] 12,.dec false,rg 7,rg 7,rg 1,.head] [grG g nb N,.p (.int .i64 e)] [0,64] (SBs g nb N e 0 0 (fun _=>0)) =
    some (zf23,zD [(NT 0 1),zE 38 [(zf80 N nb g)] [] (.p (.bool true)),(AG (!!true)),(((!true)=false)→ ((!!true)=true)),(AG (!bif !true then true else decide ((↑e:Int)<0))),(((!bif !true then true else decide ((↑e:Int)<0))=true)→(NT 0 1)),(((bif !true then true else decide ((↑e:Int)<0))=false)→ ((!bif !true then true else decide ((↑e:Int)<0))=true)),((bif bif !true then true else decide ((↑e:Int)<0) then true else decide ((↑e:Int)≥(↑nb:Int)))=false),(IL 0 (↑e:Int)),(IT (↑e:Int) (↑nb:Int)),(AI ((↑N:Int))),(AN nb),(AP nb (bRw g)),(AI ((↑e:Int))),(AN 0),(AI (((g e).1))),(AI (((g e).2.1))),((0:Int)=(↑0:Int)),((([AV.p (PV.int IntKind.i64 (↑N:Int)),brL g nb].length):Nat)=2),(NL 1 1),(AN 1),(NL 0 0),(AA 0 (fun i=>[.p (.int .i64 0)]))] [0,1,2,3,4,5,4,4,4,6,7,0,8,9,0,8,9,10,11,12,13,14,14,14,15,16,17,18,19,19,10,11,12,20,21,22]):=by kernel_rfl
theorem cBst (g:Nat→T_Bar) (nb N e n p:Nat) (f:Nat→Int) (r1 r2:Bool) :
    zM 0 [rg 4,.dec true,rm [(3,oc [] (.p (.bool r1))),(4,oc [] (.p (.bool r2)))] 1,.dec true,rg 5,rg 3,.head] zf23 (SBs g nb N e n p f) [0,546] 1 (SBs g nb N e (n+1) (p+1) (snocI n f p)) =
    some (zf23,[(NT 0 1),((decide ((↑p:Int)<(↑N:Int)))=true),(NT 0 1),zE 55 [(zf80 N nb g),.p (.int .i64 ((g e).1)),.p (.int .i64 (↑p:Int))] [] (.p (.bool r1)),((r1=true)→(NT 0 1)),(AG r1),(AG r1),(AG r1),((r1=true)→ zE 55 [(zf80 N nb g),.p (.int .i64 ((g e).2.1)),.p (.int .i64 (↑p:Int))] [] (.p (.bool r2))),(AG r1),((bif r1 then r2 else false)=true),(NL 1 1),(NL n n),(NL ((n+1)*8) 140737488355328),(NL (n+1) 9223372036854775807),(ZLo ((↑p:Int)+1)),(ZHi ((↑p:Int)+1)),(AI ((↑N:Int))),(AN nb),(AP nb (bRw g)),(AI ((↑e:Int))),(AN 0),(AN 0),(AN ((n+1))),(AI (((g e).1))),(AI (((g e).2.1))),((((↑p:Int)+1):Int)=(↑(p+1):Int)),(AN 2),(NL 1 1),(NL 1 1),(AI ((↑N:Int))),(AN nb),(AP nb (bRw g)),(AN 1),(NL (n+1) (n+1)),(CV [(546,⟨false,1,(n+1),(fun i_1=>(if (i_1<n) then [.p (.int .i64 (f i_1))] else [.p (.int .i64 (↑p:Int))]))⟩),(514,⟨false,1,1,(fun i_1=>[.p (.int .i64 (↑p:Int))])⟩),(0,⟨true,2,1,(fun i_1=>[.p (.int .i64 (↑N:Int)),.p (.seq true 2 nb (bRw g))])⟩)] [0,546] 1 (n+1) (fun i=>if (i<n) then [.p (.int .i64 (f i))] else [.p (.int .i64 (↑p:Int))]) (fun i=>[.p (.int .i64 (snocI n f (↑p:Int) i))]))]):=by kernel_rfl
theorem cBsf (g:Nat→T_Bar) (nb N e n p:Nat) (f:Nat→Int) (r1 r2:Bool) :
    zM 0 [rg 4,.dec true,rm [(3,oc [] (.p (.bool r1))),(4,oc [] (.p (.bool r2)))] 1,.dec false,rg 3,.head] zf23 (SBs g nb N e n p f) [0,1] 1 (SBs g nb N e n (p+1) f) =
    some (zf23,zD [(NT 0 1),((decide ((↑p:Int)<(↑N:Int)))=true),zE 55 [(zf80 N nb g),.p (.int .i64 ((g e).1)),.p (.int .i64 (↑p:Int))] [] (.p (.bool r1)),((r1=true)→(NT 0 1)),(AG r1),((r1=true)→ zE 55 [(zf80 N nb g),.p (.int .i64 ((g e).2.1)),.p (.int .i64 (↑p:Int))] [] (.p (.bool r2))),((bif r1 then r2 else false)=false),(ZLo ((↑p:Int)+1)),(ZHi ((↑p:Int)+1)),(AI ((↑N:Int))),(AN nb),(AP nb (bRw g)),(AI ((↑e:Int))),(AN 0),(AN n),(AI (((g e).1))),(AI (((g e).2.1))),((((↑p:Int)+1):Int)=(↑(p+1):Int)),(AN 2),(NL 1 1),(AN 1),(NL n n),(AA n (fun i=>[.p (.int .i64 (f i))]))] [0,1,0,2,3,4,4,4,5,4,6,7,8,9,10,11,12,13,13,14,15,16,17,18,19,19,9,10,11,20,21,22]):=by kernel_rfl
theorem cBse (g:Nat→T_Bar) (nb N e n p:Nat) (f:Nat→Int) :
    zP Try.f53 0 [rg 4,.dec false,rg 2] zf23 (SBs g nb N e n p f) [1] 1 [(0,iOb n f)] (.ar 1 0 0 n) =
    some [(NT 0 1),((decide ((↑p:Int)<(↑N:Int)))=false),(AN 0),(AN n),(AN 1),(NL n n),(AA n (fun i=>[.p (.int .i64 (f i))])),(AE n)]:=by kernel_rfl
theorem cBiz (g:Nat→T_Bar) (nb N e:Nat) :
    zT Try.f52 [rg 2,rg 2,rm [(1,oc [] (.p (.bool true))),(7,oc [] (.p (.bool true)))] 2,.dec false,rg 7,rg 3,.head] [grG g nb N,.p (.int .i64 e)] [0,64,672] (SBi g nb N e 0 0 (fun _=>0)) =
    some (zf28,zD [(NT 0 1),zE 24 [(zf80 N nb g)] [] (.p (.bool true)),(AG (!!true)),(((!!true)=true)→(NT 0 1)),(((!!true)=true)→(ZLo ((↑nb:Int) - 1))),(((!!true)=true)→(ZHi ((↑nb:Int) - 1))),(((!!true)=true)→ zE 60 [.p (.int .i64 (↑e:Int)),.p (.int .i64 0),.p (.int .i64 ((↑nb:Int) - 1))] [] (.p (.bool true))),(((!true)=false)→ ((!!true)=true)),((bif !true then true else !true)=false),(IL 0 (↑e:Int)),(IT (↑e:Int) (↑nb:Int)),((true=true)→ (AN 1)),(AI ((↑N:Int))),(AN nb),(AP nb (bRw g)),(AI ((↑e:Int))),(AN 0),((0:Int)=(↑0:Int)),((([AV.p (PV.int IntKind.i64 (↑N:Int)),brL g nb].length):Nat)=2),(NL 1 1),(AN 1),(NL 0 0),(AA 0 (fun i=>[.p (.int .i64 0)])),((((List.map (fun v=>AV.p (absV v)) [Value.int IntKind.i64 0,Value.int IntKind.i64 0]).length):Nat)=2),(AI (((g e).1))),(AI (((g e).2.1)))] [0,1,2,3,2,2,4,5,2,2,6,2,7,8,0,9,10,0,11,0,12,13,14,15,16,16,16,16,12,17,18,19,19,12,13,14,20,21,22,23,19,19,24,25]):=by kernel_rfl
theorem cBit (g:Nat→T_Bar) (nb N e n p:Nat) (f:Nat→Int) (r1 r2:Bool) :
    zM 0 [rg 1,.dec true,rg 2,rm [(4,oc [] (.p (.bool r1))),(5,oc [] (.p (.bool r2)))] 1,.dec true,rg 5,rg 2,.head] zf28 (SBi g nb N e n p f) [0,579,2] 1 (SBi g nb N e (n+1) (p+1) (snocI n f p)) =
    some (zf28,zD [((decide ((↑p:Int)<(↑N:Int)))=true),(NT 0 1),zE 54 [(zf80 N nb g),.p (.int .i64 ((g e).1)),.p (.int .i64 (↑p:Int))] [] (.p (.bool r1)),((r1=true)→(NT 0 1)),(AG r1),((r1=true)→ zE 54 [(zf80 N nb g),.p (.int .i64 ((g e).2.1)),.p (.int .i64 (↑p:Int))] [] (.p (.bool r2))),((bif r1 then r2 else false)=true),(NL 1 1),(NL n n),(NL ((n+1)*8) 140737488355328),(NL (n+1) 9223372036854775807),(ZLo ((↑p:Int)+1)),(ZHi ((↑p:Int)+1)),(AI ((↑N:Int))),(AN nb),(AP nb (bRw g)),(AI ((↑e:Int))),(AN 0),(AN ((n+1))),((((↑p:Int)+1):Int)=(↑(p+1):Int)),(AN 2),(AN 1),(NL (n+1) (n+1)),(CV [(579,⟨false,1,(n+1),(fun i_1=>(if (i_1<n) then [.p (.int .i64 (f i_1))] else [.p (.int .i64 (↑p:Int))]))⟩),(547,⟨false,1,1,(fun i_1=>[.p (.int .i64 (↑p:Int))])⟩),(0,⟨true,2,1,(fun i_1=>[.p (.int .i64 (↑N:Int)),.p (.seq true 2 nb (bRw g))])⟩),(2,⟨true,2,1,(fun i_1=>[.p (.int .i64 ((g e).1)),.p (.int .i64 ((g e).2.1))])⟩)] [0,579,2] 1 (n+1) (fun i=>if (i<n) then [.p (.int .i64 (f i))] else [.p (.int .i64 (↑p:Int))]) (fun i=>[.p (.int .i64 (snocI n f (↑p:Int) i))])),(AI (((g e).1))),(AI (((g e).2.1)))] [0,1,1,2,3,4,3,4,4,4,5,4,6,7,8,9,10,11,12,13,14,15,16,17,17,18,17,13,19,20,7,7,13,14,15,21,22,23,20,7,7,24,25]):=by kernel_rfl
theorem cBif (g:Nat→T_Bar) (nb N e n p:Nat) (f:Nat→Int) (r1 r2:Bool) :
    zM 0 [rg 1,.dec true,rg 2,rm [(4,oc [] (.p (.bool r1))),(5,oc [] (.p (.bool r2)))] 1,.dec false,rg 2,.head] zf28 (SBi g nb N e n p f) [0,1,2] 1 (SBi g nb N e n (p+1) f) =
    some (zf28,zD [((decide ((↑p:Int)<(↑N:Int)))=true),(NT 0 1),zE 54 [(zf80 N nb g),.p (.int .i64 ((g e).1)),.p (.int .i64 (↑p:Int))] [] (.p (.bool r1)),((r1=true)→(NT 0 1)),(AG r1),((r1=true)→ zE 54 [(zf80 N nb g),.p (.int .i64 ((g e).2.1)),.p (.int .i64 (↑p:Int))] [] (.p (.bool r2))),((bif r1 then r2 else false)=false),(ZLo ((↑p:Int)+1)),(ZHi ((↑p:Int)+1)),(AI ((↑N:Int))),(AN nb),(AP nb (bRw g)),(AI ((↑e:Int))),(AN 0),(AN n),((((↑p:Int)+1):Int)=(↑(p+1):Int)),(AN 2),(NL 1 1),(AN 1),(NL n n),(AA n (fun i=>[.p (.int .i64 (f i))])),(AI (((g e).1))),(AI (((g e).2.1)))] [0,1,1,2,3,4,3,4,4,4,5,4,6,7,8,9,10,11,12,13,13,14,13,9,15,16,17,17,9,10,11,18,19,20,16,17,17,21,22]):=by kernel_rfl
theorem cBie (g:Nat→T_Bar) (nb N e n p:Nat) (f:Nat→Int) :
    zP Try.f52 0 [rg 1,.dec false,rg 2] zf28 (SBi g nb N e n p f) [1] 1 [(0,iOb n f)] (.ar 1 0 0 n) =
    some [((decide ((↑p:Int)<(↑N:Int)))=false),(AN 0),(AN n),(AN 1),(NL n n),(AA n (fun i=>[.p (.int .i64 (f i))])),(AE n)]:=by kernel_rfl
theorem cCsz (g:Nat→T_Bar) (nb N:Nat) :
    zT Try.f29 [rg 2,rg 2,rg 1,.head] [grG g nb N] [0,64] (SCs g nb N 0 0 (fun _=>(0,fun _=>0))) =
    some (zf56,zD [(AI ((↑N:Int))),(AN nb),(AP nb (bRw g)),(AN 0),((0:Int)=(↑0:Int)),((([AV.p (PV.int IntKind.i64 (↑N:Int)),brL g nb].length):Nat)=2),(NL 1 1),(AN 1),(NL 0 0),(∀ i:Nat,(((i:Nat)<0)→(All []∧(([.p (.nil)]:List AV)=[.p (.seq false 1 0 (fun i_1=>[.int .i64 ((0,fun x=>0).2 i_1)]))]))))] [0,1,2,3,3,3,4,5,6,6,0,1,2,7,8,9]):=by kernel_rfl
theorem cCs1 (g:Nat→T_Bar) (nb N e cn:Nat) (C:Nat→T_IntS) (c:T_IntS) :
    zM 0 [rm [(7,oc [] (.p (.bool true)))] 1,.dec true,rm [(2,oc [(0,iOb c.1 c.2)] (.ar 1 0 0 c.1))] 1,rg 1,rg 1,.head] zf56 (SCs g nb N e cn C) [0,1,354] 1 (SCs1 g nb N e cn C c false 0) =
    some (zf7,zD [(NT 0 1),(((decide ((↑e:Int)<(↑nb:Int)))=true)→(NT 0 1)),(AG (decide ((↑e:Int)<(↑nb:Int)))),(((decide ((↑e:Int)<(↑nb:Int)))=true)→ zE 38 [(zf80 N nb g)] [] (.p (.bool true))),((bif decide ((↑e:Int)<(↑nb:Int)) then true else false)=true),zE 53 [(zf80 N nb g),.p (.int .i64 (↑e:Int))] [(0,⟨false,1,c.1,(fun i=>[.p (.int .i64 (c.2 i))])⟩)] (.ar 1 0 0 c.1),(AI ((↑N:Int))),(AN nb),(AP nb (bRw g)),(AN 0),(AN cn),(AI ((↑e:Int))),(AN c.1),(false=false),((0:Int)=(↑0:Int)),(AN 2),(NL 1 1),(AN 1),(NL cn cn),(AA cn (fun i=>[.p (.seq false 1 ((C i).1) (fun i_1=>[.int .i64 ((C i).2 i_1)]))])),(NL c.1 c.1),(AA c.1 (fun i=>[.p (.int .i64 (c.2 i))]))] [0,1,2,3,2,4,0,5,6,7,8,9,9,10,11,9,12,13,14,15,16,16,6,7,8,17,18,19,17,20,21]):=by kernel_rfl
theorem cCse (g:Nat→T_Bar) (nb N e cn:Nat) (C:Nat→T_IntS) (b:Bool) :
    zP Try.f29 0 [rm [(7,oc [] (.p (.bool b)))] 1,.dec false,rg 2] zf56 (SCs g nb N e cn C) [1] 1 [(0,ssOb cn C)] (.ar 1 0 0 cn) =
    some (zD [(NT 0 1),(((decide ((↑e:Int)<(↑nb:Int)))=true)→(NT 0 1)),(AG (decide ((↑e:Int)<(↑nb:Int)))),(((decide ((↑e:Int)<(↑nb:Int)))=true)→ zE 38 [(zf80 N nb g)] [] (.p (.bool b))),((bif decide ((↑e:Int)<(↑nb:Int)) then b else false)=false),(AN 0),(AN cn),(AN 1),(NL cn cn),(AA cn (fun i=>[.p (.seq false 1 ((C i).1) (fun i_1=>[.int .i64 ((C i).2 i_1)]))])),(∀ i:Nat,(((i:Nat)<cn)→All [(false=false),(AE (((C i).1)))]))] [0,1,2,3,2,4,5,6,7,8,9,10]):=by kernel_rfl
theorem cCs2 (g:Nat→T_Bar) (nb N e cn:Nat) (C:Nat→T_IntS) (c:T_IntS) (kn:Bool) (k:Nat) (q:Bool) :
    zM 0 [rg 4,.dec true,rm [(7,oc [] (.p (.bool q)))] 2,rg 3,.head] zf7 (SCs1 g nb N e cn C c kn k) [0,1,2] 1 (SCs1 g nb N e cn C c (bif kn then true else q) (k+1)) =
    some (zf7,zD [((decide ((↑k:Int)<(↑cn:Int)))=true),(AG (!kn)),(((!kn)=true)→(IL 0 (↑k:Int))),(((!kn)=true)→(IT (↑k:Int) (↑cn:Int))),(((!kn)=true)→(NT k cn)),(((!kn)=true)→ (AN 1)),(((!kn)=true)→(NL c.1 c.1)),(((!kn)=true)→ zE 77 [.p (.seq true 1 ((C k).1) (fun i=>[.int .i64 ((C k).2 i)])),.p (.seq true 1 c.1 (iRw c))] [] (.p (.bool q))),((kn=false)→ ((!kn)=true)),(ZLo ((↑k:Int)+1)),(ZHi ((↑k:Int)+1)),(AI ((↑N:Int))),(AN nb),(AP nb (bRw g)),(AN 0),(AN cn),(AI ((↑e:Int))),(AN c.1),((bif kn then true else q)=(bif kn then true else q)),((((↑k:Int)+1):Int)=(↑(k+1):Int)),(AN 2),(NL 1 1),(AN 1),(NL cn cn),(AA cn (fun i=>[.p (.seq false 1 ((C i).1) (fun i_1=>[.int .i64 ((C i).2 i_1)]))])),(NL c.1 c.1),(AA c.1 (fun i=>[.p (.int .i64 (c.2 i))]))] [0,1,1,2,3,1,4,1,1,5,6,7,8,9,10,11,12,13,14,14,15,16,14,17,18,19,20,21,21,11,12,13,22,23,24,22,25,26]):=by kernel_rfl
theorem cCs3 (g:Nat→T_Bar) (nb N e cn:Nat) (C:Nat→T_IntS) (c:T_IntS) (kn:Bool) (k:Nat) :
    zM 0 [rg 4,.dec false,rg 2,.dec true,rg 5,rg 3,.head] zf7 (SCs1 g nb N e cn C c kn k) [0,291] 1 (SCs g nb N (e+1) (cn+1) (snocC cn C c)) =
    some (zf56,[((decide ((↑k:Int)<(↑cn:Int)))=false),((!kn)=true),(NL 1 1),(NL cn cn),(NL ((cn+1)*24) 140737488355328),(NL (cn+1) 9223372036854775807),(ZLo ((↑e:Int)+1)),(ZHi ((↑e:Int)+1)),(AI ((↑N:Int))),(AN nb),(AP nb (bRw g)),(AN 0),(AN 0),(AN ((cn+1))),((((↑e:Int)+1):Int)=(↑(e+1):Int)),(AN 2),(NL 1 1),(NL 1 1),(AI ((↑N:Int))),(AN nb),(AP nb (bRw g)),(AN 1),(NL (cn+1) (cn+1)),(CV [(291,⟨false,1,(cn+1),(fun i_1=>(if (i_1<cn) then [.p (.seq false 1 ((C i_1).1) (fun i_2=>[.int .i64 ((C i_1).2 i_2)]))] else [.ar 1 2 0 c.1]))⟩),(259,⟨false,1,1,(fun i_1=>[.ar 1 2 0 c.1])⟩),(0,⟨true,2,1,(fun i_1=>[.p (.int .i64 (↑N:Int)),.p (.seq true 2 nb (bRw g))])⟩),(2,⟨false,1,c.1,(fun i_1=>[.p (.int .i64 (c.2 i_1))])⟩)] [0,291] 1 (cn+1) (fun i=>if (i<cn) then [.p (.seq false 1 ((C i).1) (fun i_1=>[.int .i64 ((C i).2 i_1)]))] else [.ar 1 2 0 c.1]) (fun i=>[.p (.seq false 1 (if i<cn then (C i).1 else c.1) (fun i_1=>[.int .i64 ((snocC cn C c i).2 i_1)]))]))]):=by kernel_rfl
theorem cCs4 (g:Nat→T_Bar) (nb N e cn:Nat) (C:Nat→T_IntS) (c:T_IntS) (kn:Bool) (k:Nat) :
    zM 0 [rg 4,.dec false,rg 2,.dec false,rg 3,.head] zf7 (SCs1 g nb N e cn C c kn k) [0,1] 1 (SCs g nb N (e+1) cn C) =
    some (zf56,zD [((decide ((↑k:Int)<(↑cn:Int)))=false),((!kn)=false),(ZLo ((↑e:Int)+1)),(ZHi ((↑e:Int)+1)),(AI ((↑N:Int))),(AN nb),(AP nb (bRw g)),(AN 0),(AN cn),((((↑e:Int)+1):Int)=(↑(e+1):Int)),(AN 2),(NL 1 1),(AN 1),(NL cn cn),(AA cn (fun i=>[.p (.seq false 1 ((C i).1) (fun i_1=>[.int .i64 ((C i).2 i_1)]))]))] [0,1,2,3,4,5,6,7,7,8,9,10,11,11,4,5,6,12,13,14]):=by kernel_rfl
theorem cCiz (g:Nat→T_Bar) (nb N:Nat) :
    zT Try.f28 [rg 2,rg 2,rm [(1,oc [] (.p (.bool true)))] 1,.dec false,rg 4,.head] [grG g nb N] [0,64] (SCi g nb N 0 0 (fun _=>(0,fun _=>0))) =
    some (zf37,zD [(NT 0 1),zE 24 [(zf80 N nb g)] [] (.p (.bool true)),((!true)=false),(AI ((↑N:Int))),(AN nb),(AP nb (bRw g)),(AN 0),(AI ((↑nb:Int))),((0:Int)=(↑0:Int)),((([AV.p (PV.int IntKind.i64 (↑N:Int)),brL g nb].length):Nat)=2),(NL 1 1),(AN 1),(NL 0 0),(∀ i:Nat,(((i:Nat)<0)→(All []∧(([.p (.nil)]:List AV)=[.p (.seq false 1 0 (fun i_1=>[.int .i64 ((0,fun x=>0).2 i_1)]))]))))] [0,1,2,0,3,4,5,6,6,6,7,8,9,10,10,3,4,5,11,12,13]):=by kernel_rfl
theorem cCi1 (g:Nat→T_Bar) (nb N e cn:Nat) (C:Nat→T_IntS) (c:T_IntS) :
    zM 0 [rg 1,.dec true,rg 2,rm [(2,oc [(0,iOb c.1 c.2)] (.ar 1 0 0 c.1))] 1,rg 1,rg 3,.head] zf37 (SCi g nb N e cn C) [0,1,162] 1 (SCi1 g nb N e cn C c false 0) =
    some (zf6,zD [((decide ((↑e:Int)<(↑nb:Int)))=true),(NT 0 1),zE 52 [(zf80 N nb g),.p (.int .i64 (↑e:Int))] [(0,⟨false,1,c.1,(fun i=>[.p (.int .i64 (c.2 i))])⟩)] (.ar 1 0 0 c.1),(AI ((↑N:Int))),(AN nb),(AP nb (bRw g)),(AN 0),(AN cn),(AN c.1),(false=false),(AI ((↑nb:Int))),(AI ((↑e:Int))),(AI ((↑cn:Int))),((0:Int)=(↑0:Int)),(AN 2),(NL 1 1),(AN 1),(NL cn cn),(AA cn (fun i=>[.p (.seq false 1 ((C i).1) (fun i_1=>[.int .i64 ((C i).2 i_1)]))])),(NL c.1 c.1),(AA c.1 (fun i=>[.p (.int .i64 (c.2 i))]))] [0,1,2,3,4,5,6,6,7,6,8,9,10,11,6,7,12,13,14,15,15,3,4,5,16,17,18,16,19,20]):=by kernel_rfl
theorem cCie (g:Nat→T_Bar) (nb N e cn:Nat) (C:Nat→T_IntS) :
    zP Try.f28 0 [rg 1,.dec false,rg 2] zf37 (SCi g nb N e cn C) [1] 1 [(0,ssOb cn C)] (.ar 1 0 0 cn) =
    some [((decide ((↑e:Int)<(↑nb:Int)))=false),(AN 0),(AN cn),(AN 1),(NL cn cn),(AA cn (fun i=>[.p (.seq false 1 ((C i).1) (fun i_1=>[.int .i64 ((C i).2 i_1)]))])),(∀ i:Nat,(((i:Nat)<cn)→All [(false=false),(AE (((C i).1)))]))]:=by kernel_rfl
theorem cCi2 (g:Nat→T_Bar) (nb N e cn:Nat) (C:Nat→T_IntS) (c:T_IntS) (kn:Bool) (k:Nat) (q:Bool) :
    zM 0 [rg 1,.dec true,rg 3,rm [(4,oc [] (.p (.bool q)))] 2,rg 2,.head] zf6 (SCi1 g nb N e cn C c kn k) [0,1,2] 1 (SCi1 g nb N e cn C c (bif kn then true else q) (k+1)) =
    some (zf6,[((decide ((↑k:Int)<(↑cn:Int)))=true),(IL 0 (↑k:Int)),(IT (↑k:Int) (↑cn:Int)),(NT k cn),(AG (!kn)),(AG (!kn)),(((!kn)=true)→ (AN 1)),(((!kn)=true)→(NL c.1 c.1)),(((!kn)=true)→ zE 76 [.p (.seq true 1 ((C k).1) (fun i=>[.int .i64 ((C k).2 i)])),.p (.seq true 1 c.1 (iRw c))] [] (.p (.bool q))),((kn=false)→ ((!kn)=true)),(ZLo ((↑k:Int)+1)),(ZHi ((↑k:Int)+1)),(AI ((↑N:Int))),(AN nb),(AP nb (bRw g)),(AN 0),(AN 0),(AN cn),(AN 0),(AN c.1),((bif kn then true else q)=(bif kn then true else q)),(AI ((↑nb:Int))),(AI ((↑e:Int))),(AN 0),(AN cn),(AI ((↑cn:Int))),((((↑k:Int)+1):Int)=(↑(k+1):Int)),(AN 2),(NL 1 1),(NL 1 1),(AI ((↑N:Int))),(AN nb),(AP nb (bRw g)),(AN 1),(NL cn cn),(AA cn (fun i=>[.p (.seq false 1 ((C i).1) (fun i_1=>[.int .i64 ((C i).2 i_1)]))])),(AN 1),(NL c.1 c.1),(AA c.1 (fun i=>[.p (.int .i64 (c.2 i))]))]):=by kernel_rfl
theorem cCi3 (g:Nat→T_Bar) (nb N e cn:Nat) (C:Nat→T_IntS) (c:T_IntS) (kn:Bool) (k:Nat) :
    zM 0 [rg 1,.dec false,rg 2,.dec true,rg 5,rg 2,.head] zf6 (SCi1 g nb N e cn C c kn k) [0,195] 1 (SCi g nb N (e+1) (cn+1) (snocC cn C c)) =
    some (zf37,[((decide ((↑k:Int)<(↑cn:Int)))=false),((!kn)=true),(NL 1 1),(NL cn cn),(NL ((cn+1)*24) 140737488355328),(NL (cn+1) 9223372036854775807),(ZLo ((↑e:Int)+1)),(ZHi ((↑e:Int)+1)),(AI ((↑N:Int))),(AN nb),(AP nb (bRw g)),(AN 0),(AN 0),(AN ((cn+1))),(AI ((↑nb:Int))),((((↑e:Int)+1):Int)=(↑(e+1):Int)),(AN 2),(NL 1 1),(NL 1 1),(AI ((↑N:Int))),(AN nb),(AP nb (bRw g)),(AN 1),(NL (cn+1) (cn+1)),(CV [(195,⟨false,1,(cn+1),(fun i_1=>(if (i_1<cn) then [.p (.seq false 1 ((C i_1).1) (fun i_2=>[.int .i64 ((C i_1).2 i_2)]))] else [.ar 1 2 0 c.1]))⟩),(163,⟨false,1,1,(fun i_1=>[.ar 1 2 0 c.1])⟩),(0,⟨true,2,1,(fun i_1=>[.p (.int .i64 (↑N:Int)),.p (.seq true 2 nb (bRw g))])⟩),(2,⟨false,1,c.1,(fun i_1=>[.p (.int .i64 (c.2 i_1))])⟩)] [0,195] 1 (cn+1) (fun i=>if (i<cn) then [.p (.seq false 1 ((C i).1) (fun i_1=>[.int .i64 ((C i).2 i_1)]))] else [.ar 1 2 0 c.1]) (fun i=>[.p (.seq false 1 (if i<cn then (C i).1 else c.1) (fun i_1=>[.int .i64 ((snocC cn C c i).2 i_1)]))]))]):=by kernel_rfl
theorem cCi4 (g:Nat→T_Bar) (nb N e cn:Nat) (C:Nat→T_IntS) (c:T_IntS) (kn:Bool) (k:Nat) :
    zM 0 [rg 1,.dec false,rg 2,.dec false,rg 2,.head] zf6 (SCi1 g nb N e cn C c kn k) [0,1] 1 (SCi g nb N (e+1) cn C) =
    some (zf37,[((decide ((↑k:Int)<(↑cn:Int)))=false),((!kn)=false),(ZLo ((↑e:Int)+1)),(ZHi ((↑e:Int)+1)),(AI ((↑N:Int))),(AN nb),(AP nb (bRw g)),(AN 0),(AN 0),(AN cn),(AI ((↑nb:Int))),((((↑e:Int)+1):Int)=(↑(e+1):Int)),(AN 2),(NL 1 1),(NL 1 1),(AI ((↑N:Int))),(AN nb),(AP nb (bRw g)),(AN 1),(NL cn cn),(AA cn (fun i=>[.p (.seq false 1 ((C i).1) (fun i_1=>[.int .i64 ((C i).2 i_1)]))]))]):=by kernel_rfl
noncomputable def compD (N nb:Nat) (g:Nat→T_Bar) (e:Nat):Nat→T_IntS
  | 0=>(0,fun _=>0)
  | p+1 =>
    if (bif impB N nb g (g e).1 p then impB N nb g (g e).2.1 p else false)=true then ((compD N nb g e p).1+1,snocI (compD N nb g e p).1 (compD N nb g e p).2 p)
    else compD N nb g e p
theorem compD_le (N nb:Nat) (g:Nat→T_Bar) (e:Nat):∀ p,(compD N nb g e p).1≤p
  | 0=>Nat.le_refl _
  | p+1=>by
    have:=compD_le N nb g e p
    simp only [compD]
    split
    · show (compD N nb g e p).1+1≤p+1;omega
    · omega
def knF (C:Nat→T_IntS) (c:T_IntS):Nat→Bool
  | 0=>false
  | k+1=>bif knF C c k then true else q_IntS (C k) c
noncomputable def compsD (N nb:Nat) (g:Nat→T_Bar):Nat→Nat×(Nat→T_IntS)
  | 0=>(0,fun _=>(0,fun _=>0))
  | e+1 =>
    if knF (compsD N nb g e).2 (compD N nb g e N) (compsD N nb g e).1=true then compsD N nb g e
    else ((compsD N nb g e).1+1,snocC (compsD N nb g e).1 (compsD N nb g e).2 (compD N nb g e N))
theorem compsD_le (N nb:Nat) (g:Nat→T_Bar):∀ e,(compsD N nb g e).1≤e∧∀ j,j<(compsD N nb g e).1→((compsD N nb g e).2 j).1≤N
  | 0=>⟨Nat.le_refl _,fun j hj=>absurd hj (Nat.not_lt_zero _)⟩
  | e+1=>by
    obtain ⟨h1,h2⟩:=compsD_le N nb g e
    simp only [compsD]
    split
    · exact ⟨by omega,h2⟩
    · refine ⟨by show (compsD N nb g e).1+1≤e+1;omega,fun j hj=>?_⟩
      show (if j<(compsD N nb g e).1 then ((compsD N nb g e).2 j).1 else (compD N nb g e N).1)≤N
      split
      · exact h2 j (by assumption)
      · exact compD_le N nb g e N
theorem con_ComponentOfBar_s {N nb:Nat} {g:Nat→T_Bar} (hg:isGraphF ((N:Int),(nb,g),())=true) (e:Nat) (he:e<nb) :
    zE 53 [grG g nb N,.p (.int .i64 e)] [(0,iOb (compD N nb g e N).1 (compD N nb g e N).2)] (.ar 1 0 0 (compD N nb g e N).1):=by
  obtain ⟨hN,hnb,hok⟩:=graph_in hg
  have hsm:smS s_Graph ((N:Int),(nb,g),()):=⟨by simp [smS,smL],⟨by show nb≤1048576;omega,fun i hi=>by simp [smS,smL]⟩,True.intro⟩
  have hcg:=con_IsGraph_s ((N:Int),(nb,g),()) hsm
  rw [hg] at hcg
  have hbar:=hok e he
  have hcond:(bif bif !true then true else decide ((e:Int)<0) then true else decide ((e:Int)≥(nb:Int)))=false:=by
    have h1:¬ (e:Int)<0:=by omega
    have h2:¬ (nb:Int)≤(e:Int):=by omega
    simp [h1];omega
  have hcw:=True.intro
  refine csZ Try.func53 (fun c hc=>?_)
  have lp:∀ d p,p+d=N→zR c 53 zf23 (SBs g nb N e (compD N nb g e p).1 p (compD N nb g e p).2) (Post c [(0,iOb (compD N nb g e N).1 (compD N nb g e N).2)] (.ar 1 0 0 (compD N nb g e N).1)):=by
    intro d
    induction d with
    | zero =>
      intro p hp
      obtain rfl:p=N:=by omega
      have hd:decide ((p:Int)<(p:Int))=false:=by simp
      refine pkZ Try.func53 hc (cBse g nb p e (compD p nb g e p).1 p (compD p nb g e p).2) ?_
      and_intros
      all_goals (first | exact zN | (intro i hi;simp [All]))
    | succ d ih =>
      intro p hp
      have hd:decide ((p:Int)<(N:Int))=true:=by simp;omega
      have hle:=compD_le N nb g e p
      have c1:=con_IsImplied_s hg hok hN hnb (a:=(g e).1) (b:=p) (by omega) (by omega)
      have c2:=con_IsImplied_s hg hok hN hnb (a:=(g e).2.1) (b:=p) (by omega) (by omega)
      have hih:=ih (p+1) (by omega)
      cases ht:(bif impB N nb g (g e).1 p then impB N nb g (g e).2.1 p else false) with
      | true =>
        rw [show compD N nb g e (p+1)=((compD N nb g e p).1+1,snocI (compD N nb g e p).1 (compD N nb g e p).2 p) by simp only [compD];rw [if_pos ht]] at hih
        refine pcZ hc (cBst g nb N e (compD N nb g e p).1 p (compD N nb g e p).2 (impB N nb g (g e).1 p) (impB N nb g (g e).2.1 p)) ?_ hih
        and_intros
        all_goals (first | exact zI | (exact c1) | (intros;exact c2) | (exact ht) | (intro j hj;simp [All];done) | (intro j hj;by_cases h:j<(compD N nb g e p).1<;>simp [h,snocI,cvtL,cvt,tg,tru,All]))
      | false =>
        rw [show compD N nb g e (p+1)=compD N nb g e p by simp only [compD];rw [if_neg (by rw [ht];simp)]] at hih
        refine pcD hc (cBsf g nb N e (compD N nb g e p).1 p (compD N nb g e p).2 (impB N nb g (g e).1 p) (impB N nb g (g e).2.1 p)) ?_ hih
        and_intros
        all_goals (first | exact zI | (exact c1) | (intros;exact c2) | (exact ht) | (intro j hj;simp [All]))
  refine pcD hc (cBsz g nb N e) ?_ (lp N 0 (by omega))
  and_intros
  all_goals (first | exact zH | (exact hcg) | (intros;exact hcw) | (exact hcond) | (intro h;simp at h ⊢;done) | (intro j hj;simp [All]))
theorem con_ComponentOfBar_i {N nb:Nat} {g:Nat→T_Bar} (hg:isGraphF ((N:Int),(nb,g),())=true) (e:Nat) (he:e<nb) :
    zE 52 [grG g nb N,.p (.int .i64 e)] [(0,iOb (compD N nb g e N).1 (compD N nb g e N).2)] (.ar 1 0 0 (compD N nb g e N).1):=by
  obtain ⟨hN,hnb,hok⟩:=graph_in hg
  have hsm:smS s_Graph ((N:Int),(nb,g),()):=⟨by simp [smS,smL],⟨by show nb≤1048576;omega,fun i hi=>by simp [smS,smL]⟩,True.intro⟩
  have hcg:=con_IsGraph_i ((N:Int),(nb,g),()) hsm
  rw [hg] at hcg
  have hbar:=hok e he
  have hcw:=con_within (e:Int) 0 ((nb:Int) - 1)
  rw [show inB (e:Int) 0 ((nb:Int) - 1)=true by simp [inB];omega] at hcw
  have hcond:=True.intro
  refine csZ Try.func52 (fun c hc=>?_)
  have lp:∀ d p,p+d=N→zR c 52 zf28 (SBi g nb N e (compD N nb g e p).1 p (compD N nb g e p).2) (Post c [(0,iOb (compD N nb g e N).1 (compD N nb g e N).2)] (.ar 1 0 0 (compD N nb g e N).1)):=by
    intro d
    induction d with
    | zero =>
      intro p hp
      obtain rfl:p=N:=by omega
      have hd:decide ((p:Int)<(p:Int))=false:=by simp
      refine pkZ Try.func52 hc (cBie g nb p e (compD p nb g e p).1 p (compD p nb g e p).2) ?_
      and_intros
      all_goals (first | exact zN | (intro i hi;simp [All]))
    | succ d ih =>
      intro p hp
      have hd:decide ((p:Int)<(N:Int))=true:=by simp;omega
      have hle:=compD_le N nb g e p
      have c1:=con_IsImplied_i hg hok hN hnb (a:=(g e).1) (b:=p) (by omega) (by omega)
      have c2:=con_IsImplied_i hg hok hN hnb (a:=(g e).2.1) (b:=p) (by omega) (by omega)
      have hih:=ih (p+1) (by omega)
      cases ht:(bif impB N nb g (g e).1 p then impB N nb g (g e).2.1 p else false) with
      | true =>
        rw [show compD N nb g e (p+1)=((compD N nb g e p).1+1,snocI (compD N nb g e p).1 (compD N nb g e p).2 p) by simp only [compD];rw [if_pos ht]] at hih
        refine pcD hc (cBit g nb N e (compD N nb g e p).1 p (compD N nb g e p).2 (impB N nb g (g e).1 p) (impB N nb g (g e).2.1 p)) ?_ hih
        and_intros
        all_goals (first | exact zI | (exact c1) | (intros;exact c2) | (exact ht) | (intro j hj;simp [All];done) | (intro j hj;by_cases h:j<(compD N nb g e p).1<;>simp [h,snocI,cvtL,cvt,tg,tru,All]))
      | false =>
        rw [show compD N nb g e (p+1)=compD N nb g e p by simp only [compD];rw [if_neg (by rw [ht];simp)]] at hih
        refine pcD hc (cBif g nb N e (compD N nb g e p).1 p (compD N nb g e p).2 (impB N nb g (g e).1 p) (impB N nb g (g e).2.1 p)) ?_ hih
        and_intros
        all_goals (first | exact zI | (exact c1) | (intros;exact c2) | (exact ht) | (intro j hj;simp [All]))
  refine pcD hc (cBiz g nb N e) ?_ (lp N 0 (by omega))
  and_intros
  all_goals (first | exact zH | (exact hcg) | (intros;exact hcw) | (exact hcond) | (intro h;simp at h ⊢;done) | (intro j hj;simp [All]))
theorem inner_s {N nb:Nat} {g:Nat→T_Bar} {e cn:Nat} {C:Nat→T_IntS} {cc:T_IntS} (hcn:cn≤1048576) (hC:∀ j,j<cn→(C j).1≤1048576) (c:Cx) (hc:c.n=0) {R:Ending→World→Prop}
    (h:zR c 29 zf7 (SCs1 g nb N e cn C cc (knF C cc cn) cn) R) :
    ∀ d k,k+d=cn→zR c 29 zf7 (SCs1 g nb N e cn C cc (knF C cc k) k) R:=by
  intro d
  induction d with
  | zero =>
    intro k hk
    have hkc:k=cn:=by omega
    rw [hkc]
    exact h
  | succ d ih =>
    intro k hk
    have hd:decide ((k:Int)<(cn:Int))=true:=by simp;omega
    have hq:=con_ls_l6Same_IntS (C k) cc (hC k (by omega))
    refine pcD hc (cCs2 g nb N e cn C cc (knF C cc k) k (q_IntS (C k) cc)) ?_ (ih (k+1) (by omega))
    and_intros
    all_goals (first | exact zH | (intros;exact hq) | (intro j hj;simp [All]))
theorem con_ComponentsOf_s {N nb:Nat} {g:Nat→T_Bar} (hg:isGraphF ((N:Int),(nb,g),())=true) :
    zE 29 [grG g nb N] [(0,ssOb (compsD N nb g nb).1 (compsD N nb g nb).2)] (.ar 1 0 0 (compsD N nb g nb).1):=by
  obtain ⟨hN,hnb,hok⟩:=graph_in hg
  have hsm:smS s_Graph ((N:Int),(nb,g),()):=⟨by simp [smS,smL],⟨by show nb≤1048576;omega,fun i hi=>by simp [smS,smL]⟩,True.intro⟩
  have hcg:=con_IsGraph_s ((N:Int),(nb,g),()) hsm
  rw [hg] at hcg
  refine csZ Try.func29 (fun c hc=>?_)
  have lp:∀ d e,e+d=nb→zR c 29 zf56 (SCs g nb N e (compsD N nb g e).1 (compsD N nb g e).2) (Post c [(0,ssOb (compsD N nb g nb).1 (compsD N nb g nb).2)] (.ar 1 0 0 (compsD N nb g nb).1)):=by
    intro d
    induction d with
    | zero =>
      intro e he
      obtain rfl:e=nb:=by omega
      have hd:decide ((e:Int)<(e:Int))=false:=by simp
      refine pkD Try.func29 hc (cCse g e N e (compsD N e g e).1 (compsD N e g e).2 true) ?_
      and_intros
      iterate 2 all_goals (first | exact zI | (exact hcg) | (intros;exact hcg) | (intro h;rw [hd] at h;cases h) | (simp;done) | (intro i hi;simp [All]) | simp only [All])
    | succ d ih =>
      intro e he
      have hd:decide ((e:Int)<(nb:Int))=true:=by simp;omega
      obtain ⟨hle,hC⟩:=compsD_le N nb g e
      have hcomp:=con_ComponentOfBar_s hg e (by omega)
      have hcl:=compD_le N nb g e N
      have hih:=ih (e+1) (by omega)
      have hin:zR c 29 zf7 (SCs1 g nb N e (compsD N nb g e).1 (compsD N nb g e).2 (compD N nb g e N) (knF (compsD N nb g e).2 (compD N nb g e N) (compsD N nb g e).1) (compsD N nb g e).1) (Post c [(0,ssOb (compsD N nb g nb).1 (compsD N nb g nb).2)] (.ar 1 0 0 (compsD N nb g nb).1)):=by
        have hd':decide (((compsD N nb g e).1:Int)<((compsD N nb g e).1:Int))=false:=by simp
        cases hk:knF (compsD N nb g e).2 (compD N nb g e N) (compsD N nb g e).1 with
        | false =>
          rw [show compsD N nb g (e+1)=((compsD N nb g e).1+1,snocC (compsD N nb g e).1 (compsD N nb g e).2 (compD N nb g e N)) by simp only [compsD];rw [if_neg (by rw [hk];simp)]] at hih
          refine pcZ hc (cCs3 g nb N e (compsD N nb g e).1 (compsD N nb g e).2 (compD N nb g e N) false (compsD N nb g e).1) ?_ hih
          and_intros
          all_goals (first | exact zN | (intro j hj;simp [All];done) | (intro j hj;by_cases h:j<(compsD N nb g e).1<;>simp [h,snocC,cvtL,cvt,lendP,cellP,tab,idx,idx1,lkk,idO,idM,Ob.isF,List.lookup,iOb,tg,tru,All]))
        | true =>
          rw [show compsD N nb g (e+1)=compsD N nb g e by simp only [compsD];rw [if_pos hk]] at hih
          refine pcD hc (cCs4 g nb N e (compsD N nb g e).1 (compsD N nb g e).2 (compD N nb g e N) true (compsD N nb g e).1) ?_ hih
          and_intros
          all_goals (first | exact zN | (intro j hj;simp [All]))
      refine pcD hc (cCs1 g nb N e (compsD N nb g e).1 (compsD N nb g e).2 (compD N nb g e N)) ?_ (inner_s (by omega) (fun j hj=>by have:=hC j hj;omega) c hc hin (compsD N nb g e).1 0 (by omega))
      and_intros
      all_goals (first | exact zI | (exact hcg) | (intros;exact hcg) | (exact hcomp) | (rw [hd];rfl) | (intro j hj;simp [All]))
  refine pcD hc (cCsz g nb N) ?_ (lp nb 0 (by omega))
  and_intros
  iterate 2 all_goals (first | exact zN | (exact hcg) | (intro j hj;simp [All]) | simp only [All])
theorem inner_i {N nb:Nat} {g:Nat→T_Bar} {e cn:Nat} {C:Nat→T_IntS} {cc:T_IntS} (hcn:cn≤1048576) (hC:∀ j,j<cn→(C j).1≤1048576) (c:Cx) (hc:c.n=0) {R:Ending→World→Prop}
    (h:zR c 28 zf6 (SCi1 g nb N e cn C cc (knF C cc cn) cn) R) :
    ∀ d k,k+d=cn→zR c 28 zf6 (SCi1 g nb N e cn C cc (knF C cc k) k) R:=by
  intro d
  induction d with
  | zero =>
    intro k hk
    have hkc:k=cn:=by omega
    rw [hkc]
    exact h
  | succ d ih =>
    intro k hk
    have hd:decide ((k:Int)<(cn:Int))=true:=by simp;omega
    have hq:=con_seIntS (C k) cc (hC k (by omega))
    refine pcZ hc (cCi2 g nb N e cn C cc (knF C cc k) k (q_IntS (C k) cc)) ?_ (ih (k+1) (by omega))
    and_intros
    all_goals (first | exact zH | (intros;exact hq) | (intro j hj;simp [All]))
theorem con_ComponentsOf_i {N nb:Nat} {g:Nat→T_Bar} (hg:isGraphF ((N:Int),(nb,g),())=true) :
    zE 28 [grG g nb N] [(0,ssOb (compsD N nb g nb).1 (compsD N nb g nb).2)] (.ar 1 0 0 (compsD N nb g nb).1):=by
  obtain ⟨hN,hnb,hok⟩:=graph_in hg
  have hsm:smS s_Graph ((N:Int),(nb,g),()):=⟨by simp [smS,smL],⟨by show nb≤1048576;omega,fun i hi=>by simp [smS,smL]⟩,True.intro⟩
  have hcg:=con_IsGraph_i ((N:Int),(nb,g),()) hsm
  rw [hg] at hcg
  refine csZ Try.func28 (fun c hc=>?_)
  have lp:∀ d e,e+d=nb→zR c 28 zf37 (SCi g nb N e (compsD N nb g e).1 (compsD N nb g e).2) (Post c [(0,ssOb (compsD N nb g nb).1 (compsD N nb g nb).2)] (.ar 1 0 0 (compsD N nb g nb).1)):=by
    intro d
    induction d with
    | zero =>
      intro e he
      obtain rfl:e=nb:=by omega
      have hd:decide ((e:Int)<(e:Int))=false:=by simp
      refine pkZ Try.func28 hc (cCie g e N e (compsD N e g e).1 (compsD N e g e).2) ?_
      and_intros
      iterate 2 all_goals (first | exact zN | (exact hcg) | (intros;exact hcg) | (intro h;rw [hd] at h;cases h) | (simp;done) | (intro i hi;simp [All]) | simp only [All])
    | succ d ih =>
      intro e he
      have hd:decide ((e:Int)<(nb:Int))=true:=by simp;omega
      obtain ⟨hle,hC⟩:=compsD_le N nb g e
      have hcomp:=con_ComponentOfBar_i hg e (by omega)
      have hcl:=compD_le N nb g e N
      have hih:=ih (e+1) (by omega)
      have hin:zR c 28 zf6 (SCi1 g nb N e (compsD N nb g e).1 (compsD N nb g e).2 (compD N nb g e N) (knF (compsD N nb g e).2 (compD N nb g e N) (compsD N nb g e).1) (compsD N nb g e).1) (Post c [(0,ssOb (compsD N nb g nb).1 (compsD N nb g nb).2)] (.ar 1 0 0 (compsD N nb g nb).1)):=by
        have hd':decide (((compsD N nb g e).1:Int)<((compsD N nb g e).1:Int))=false:=by simp
        cases hk:knF (compsD N nb g e).2 (compD N nb g e N) (compsD N nb g e).1 with
        | false =>
          rw [show compsD N nb g (e+1)=((compsD N nb g e).1+1,snocC (compsD N nb g e).1 (compsD N nb g e).2 (compD N nb g e N)) by simp only [compsD];rw [if_neg (by rw [hk];simp)]] at hih
          refine pcZ hc (cCi3 g nb N e (compsD N nb g e).1 (compsD N nb g e).2 (compD N nb g e N) false (compsD N nb g e).1) ?_ hih
          and_intros
          all_goals (first | exact zN | (intro j hj;simp [All];done) | (intro j hj;by_cases h:j<(compsD N nb g e).1<;>simp [h,snocC,cvtL,cvt,lendP,cellP,tab,idx,idx1,lkk,idO,idM,Ob.isF,List.lookup,iOb,tg,tru,All]))
        | true =>
          rw [show compsD N nb g (e+1)=compsD N nb g e by simp only [compsD];rw [if_pos hk]] at hih
          refine pcZ hc (cCi4 g nb N e (compsD N nb g e).1 (compsD N nb g e).2 (compD N nb g e N) true (compsD N nb g e).1) ?_ hih
          and_intros
          all_goals (first | exact zN | (intro j hj;simp [All]))
      refine pcD hc (cCi1 g nb N e (compsD N nb g e).1 (compsD N nb g e).2 (compD N nb g e N)) ?_ (inner_i (by omega) (fun j hj=>by have:=hC j hj;omega) c hc hin (compsD N nb g e).1 0 (by omega))
      and_intros
      all_goals (first | exact zN | (exact hcg) | (intros;exact hcg) | (exact hcomp) | (rw [hd];rfl) | (intro j hj;simp [All]))
  refine pcD hc (cCiz g nb N) ?_ (lp nb 0 (by omega))
  and_intros
  iterate 2 all_goals (first | exact zN | (exact hcg) | (intro j hj;simp [All]) | simp only [All])
noncomputable def compsG (v:T_Graph):Nat×(Nat→T_IntS):=if isGraphF v=true then compsD v.1.toNat v.2.1.1 v.2.1.2 v.2.1.1 else (0,fun _=>(0,fun _=>0))
theorem mSy (v:T_Graph) :
    zS Try.f29 [rg 2,rg 2,rg 1,.loop,rm [(7,oc [] (.p (.bool false)))] 1,.dec false,rg 2] [graphA v] [64] [(0,ssOb 0 (fun _=>(0,fun _=>0)))] (.ar 1 0 0 0) =
    some (zD [(NT 0 1),(((decide (0<(↑v.2.1.1:Int)))=true)→(NT 0 1)),(AG (decide (0<(↑v.2.1.1:Int)))),(((decide (0<(↑v.2.1.1:Int)))=true)→ zE 38 [(zf77 v)] [] (.p (.bool false))),((bif decide (0<(↑v.2.1.1:Int)) then false else false)=false),(AN 0),(AN 1),(NL 0 0),(∀ i:Nat,(((i:Nat)<0)→(All []∧(([.p (.nil)]:List AV)=[.p (.seq false 1 0 (fun i_1=>[.int .i64 ((0,fun x=>0).2 i_1)]))])))),(∀ i:Nat,(((i:Nat)<0)→All [(false=false),(AE 0)]))] [0,1,2,3,2,4,5,5,6,7,8,9]):=by kernel_rfl
theorem mIy (v:T_Graph) :
    zS Try.f28 [rg 2,rg 2,rm [(1,oc [] (.p (.bool false)))] 1,.dec true,rg 2] [graphA v] [64] [(0,ssOb 0 (fun _=>(0,fun _=>0)))] (.ar 1 0 0 0) =
    some [(NT 0 1),zE 24 [(zf77 v)] [] (.p (.bool false)),((!false)=true),(AN 0),(AN 0),(AN 1),(NL 0 0),(∀ i:Nat,(((i:Nat)<0)→(All []∧(([.p (.nil)]:List AV)=[.p (.seq false 1 0 (fun i_1=>[.int .i64 ((0,fun x=>0).2 i_1)]))])))),(∀ i:Nat,(((i:Nat)<0)→All [(false=false),(AE 0)]))]:=by kernel_rfl
theorem con_Comps_s (v:T_Graph) (hs:smS s_Graph v):zE 29 [graphA v] [(0,ssOb (compsG v).1 (compsG v).2)] (.ar 1 0 0 (compsG v).1):=by
  cases hg:isGraphF v with
  | false =>
    have hcg:=con_IsGraph_s v hs
    rw [hg] at hcg
    rw [show compsG v=(0,fun _=>(0,fun _=>0)) by simp [compsG,hg]]
    refine csZ Try.func29 (fun c hc=>?_)
    refine pkD Try.func29 hc (mSy v) ?_
    and_intros
    iterate 2 all_goals (first | exact zI | (intros;exact hcg) | (simp;done) | (intro i hi;simp [All]) | simp only [All])
  | true =>
    obtain ⟨N,nb,g,rfl⟩:=graph_cases v hg
    rw [show compsG ((N:Int),(nb,g),())=compsD N nb g nb by simp [compsG,hg]]
    exact con_ComponentsOf_s hg
theorem con_Comps_i (v:T_Graph) (hs:smS s_Graph v):zE 28 [graphA v] [(0,ssOb (compsG v).1 (compsG v).2)] (.ar 1 0 0 (compsG v).1):=by
  cases hg:isGraphF v with
  | false =>
    have hcg:=con_IsGraph_i v hs
    rw [hg] at hcg
    rw [show compsG v=(0,fun _=>(0,fun _=>0)) by simp [compsG,hg]]
    refine csZ Try.func28 (fun c hc=>?_)
    refine pkZ Try.func28 hc (mIy v) ?_
    and_intros
    iterate 2 all_goals (first | exact zN | (intros;exact hcg) | (simp;done) | (intro i hi;simp [All]) | simp only [All])
  | true =>
    obtain ⟨N,nb,g,rfl⟩:=graph_cases v hg
    rw [show compsG ((N:Int),(nb,g),())=compsD N nb g nb by simp [compsG,hg]]
    exact con_ComponentsOf_i hg
theorem compsG_le (v:T_Graph):(compsG v).1≤24∧∀ j,j<(compsG v).1→((compsG v).2 j).1≤8:=by
  unfold compsG
  split
  · rename_i hg
    obtain ⟨N,nb,g,rfl⟩:=graph_cases v hg
    obtain ⟨hN,hnb,_⟩:=graph_in hg
    obtain ⟨h1,h2⟩:=compsD_le N nb g nb
    simp only [Int.toNat_natCast]
    exact ⟨by omega,fun j hj=>by have:=h2 j hj;omega⟩
  · exact ⟨by show 0≤24;omega,fun j hj=>absurd hj (Nat.not_lt_zero _)⟩
def ssL (n:Nat) (C:Nat→T_IntS):AV:=.p (.seq true 1 n (fun i=>[.seq true 1 (C i).1 (fun s=>[.int .i64 ((C i).2 s)])]))
def inC (C:Nat→T_IntS) (x:Int):Nat→Int
  | 0=>0
  | i+1=>inC C x i+(if hasI (C i).2 x (C i).1=true then 1 else 0)
def SJ0 (cn:Nat) (C:Nat→T_IntS) (x:Int) (i:Nat):St :=
  ⟨[ssL cn C,.p (.int .i64 x),.p .any,.p .any,.p .any,.p (.int .i64 (inC C x i)),.p (.int .i64 i)]++List.replicate 15 anyA,[],0⟩
def SJs (g:Nat→T_Bar) (nb N cn:Nat) (C:Nat→T_IntS) (i:Nat):St :=
  ⟨[grG g nb N,.pt 2 0 0 0,.p .any,.ar 1 2 0 i,.ar 1 1 0 cn,.p (.int .i64 i)]++List.replicate 20 anyA,[(0,bxG g nb N),(1,ssOb cn C),(2,iOb i (fun x=>inC C x cn))],3⟩
def SJi (g:Nat→T_Bar) (nb N cn:Nat) (C:Nat→T_IntS) (i:Nat) (K:Nat→Int):St :=
  ⟨[grG g nb N,.pt 2 0 0 0,.p .any,.ar 1 1 0 N]++List.replicate 12 anyA++[.ar 1 2 0 cn,.p (.int .i64 cn),.p (.int .i64 i)]++List.replicate 18 anyA,[(0,bxG g nb N),(1,iOb N K),(2,ssOb cn C)],3⟩
def SJk (g:Nat→T_Bar) (nb N cn:Nat) (C:Nat→T_IntS) (i k:Nat) (K:Nat→Int):St :=
  ⟨[grG g nb N,.pt 2 0 0 0,.p .any,.ar 1 1 0 N]++List.replicate 12 anyA++[.ar 1 2 0 cn,.p (.int .i64 cn),.p (.int .i64 i),.p .any,.p .any,.p .any,.p (.seq false 1 (C i).1 (fun s=>[.int .i64 ((C i).2 s)])),.p (.int .i64 (C i).1),.p (.int .i64 k)]++List.replicate 12 anyA,[(0,bxG g nb N),(1,iOb N K),(2,ssOb cn C)],3⟩
theorem j0z (cn:Nat) (C:Nat→T_IntS) (x:Int) :
    zT Try.f88 [rg 1,rg 1,rg 1,.head] [ssL cn C,.p (.int .i64 x)] [] (SJ0 cn C x 0) =
    some (zf57,[(AN cn),(AP cn (fun i=>[.seq true 1 ((C i).1) (fun i_1=>[.int .i64 ((C i).2 i_1)])])),(AI x),((0:Int)=(inC C x 0)),((0:Int)=(↑0:Int))]):=by kernel_rfl
theorem j0t (cn:Nat) (C:Nat→T_IntS) (x:Int) (i:Nat) (b:Bool) :
    zM 0 [rg 4,.dec true,rm [(5,oc [] (.p (.bool b)))] 0,.dec true,rg 3,rg 3,.head] zf57 (SJ0 cn C x i) [] 1 (SJ0 cn C x (i+1)) =
    some (zf57,[((decide ((↑i:Int)<(↑cn:Int)))=true),(IL 0 (↑i:Int)),(IT (↑i:Int) (↑cn:Int)),zE 110 [.p (.seq true 1 ((C i).1) (fun i_1=>[.int .i64 ((C i).2 i_1)])),.p (.int .i64 x)] [] (.p (.bool b)),(b=true),(ZLo (inC C x i+1)),(ZHi (inC C x i+1)),(ZLo ((↑i:Int)+1)),(ZHi ((↑i:Int)+1)),(AN cn),(AP cn (fun i_1=>[.seq true 1 ((C i_1).1) (fun i_2=>[.int .i64 ((C i_1).2 i_2)])])),(AI x),(((inC C x i+1):Int)=(inC C x (i+1))),((((↑i:Int)+1):Int)=(↑(i+1):Int))]):=by kernel_rfl
theorem j0f (cn:Nat) (C:Nat→T_IntS) (x:Int) (i:Nat) (b:Bool) :
    zM 0 [rg 4,.dec true,rm [(5,oc [] (.p (.bool b)))] 0,.dec false,rg 3,.head] zf57 (SJ0 cn C x i) [] 1 (SJ0 cn C x (i+1)) =
    some (zf57,[((decide ((↑i:Int)<(↑cn:Int)))=true),(IL 0 (↑i:Int)),(IT (↑i:Int) (↑cn:Int)),zE 110 [.p (.seq true 1 ((C i).1) (fun i_1=>[.int .i64 ((C i).2 i_1)])),.p (.int .i64 x)] [] (.p (.bool b)),(b=false),(ZLo ((↑i:Int)+1)),(ZHi ((↑i:Int)+1)),(AN cn),(AP cn (fun i_1=>[.seq true 1 ((C i_1).1) (fun i_2=>[.int .i64 ((C i_1).2 i_2)])])),(AI x),(((inC C x i):Int)=(inC C x (i+1))),((((↑i:Int)+1):Int)=(↑(i+1):Int))]):=by kernel_rfl
theorem j0e (cn:Nat) (C:Nat→T_IntS) (x:Int) (i:Nat) :
    zP Try.f88 0 [rg 4,.dec false,rg 2] zf57 (SJ0 cn C x i) [] 1 [] (.p (.int .i64 (inC C x i))) =
    some [((decide ((↑i:Int)<(↑cn:Int)))=false),(AI ((inC C x i)))]:=by kernel_rfl
theorem jSyJ (v:T_Graph) :
    zS Try.f47 [rg 2,rg 2,rm [(1,oc [(0,ssOb 0 (fun _=>(0,fun _=>0)))] (.ar 1 0 0 0))] 1,rg 1,.loop,rm [(6,oc [] (.p (.bool false)))] 1,.dec false,rg 2] [graphA v] [64] [(0,iOb 0 (fun _=>0))] (.ar 1 0 0 0) =
    some [(NT 0 1),zE 29 [(zf77 v)] [(0,⟨false,1,0,(fun i=>[.p (.seq false 1 0 (fun i_1=>[.int .i64 ((0,fun x=>0).2 i_1)]))])⟩)] (.ar 1 0 0 0),(NT 0 1),(((decide (0<v.1))=true)→(NT 0 1)),(AG (decide (0<v.1))),(((decide (0<v.1))=true)→ zE 38 [(zf77 v)] [] (.p (.bool false))),(AG (decide (0<v.1))),((bif decide (0<v.1) then false else false)=false),(AN 0),(AN 0),(AN 1),(NL 0 0),(AA 0 (fun i=>[.p (.int .i64 0)])),(AE 0)]:=by kernel_rfl
theorem jSz (g:Nat→T_Bar) (nb N cn:Nat) (C:Nat→T_IntS) :
    zT Try.f47 [rg 2,rg 2,rm [(1,oc [(0,ssOb cn C)] (.ar 1 0 0 cn))] 1,rg 1,.head] [grG g nb N] [0,160,64] (SJs g nb N cn C 0) =
    some (zf38,zD [(NT 0 1),zE 29 [(zf80 N nb g)] (zf82 cn C) (.ar 1 0 0 cn),(AI ((↑N:Int))),(AN nb),(AP nb (bRw g)),(AN 0),(AN cn),((0:Int)=(↑0:Int)),((([AV.p (PV.int IntKind.i64 (↑N:Int)),brL g nb].length):Nat)=2),(NL 1 1),(AN 1),(NL cn cn),(AA cn (fun i=>[.p (.seq false 1 ((C i).1) (fun i_1=>[.int .i64 ((C i).2 i_1)]))])),(NL 0 0),(∀ i:Nat,(((i:Nat)<0)→(All []∧(([.p (.int .i64 0)]:List AV)=[.p (.int .i64 (inC C (↑i:Int) cn))]))))] [0,1,2,3,4,5,5,5,5,6,7,8,9,9,2,3,4,10,11,12,10,13,14]):=by kernel_rfl
theorem jSl (g:Nat→T_Bar) (nb N cn:Nat) (C:Nat→T_IntS) (i:Nat) :
    zM 0 [rm [(6,oc [] (.p (.bool true)))] 1,.dec true,rm [(3,oc [] (.p (.int .i64 (inC C i cn))))] 3,rg 3,.head] zf38 (SJs g nb N cn C i) [0,1,419] 1 (SJs g nb N cn C (i+1)) =
    some (zf38,zD [(NT 0 1),(((decide ((↑i:Int)<(↑N:Int)))=true)→(NT 0 1)),(AG (decide ((↑i:Int)<(↑N:Int)))),(((decide ((↑i:Int)<(↑N:Int)))=true)→ zE 38 [(zf78 N nb g)] [] (.p (.bool true))),((bif decide ((↑i:Int)<(↑N:Int)) then true else false)=true),(AN 1),(NL cn cn),zE 88 [.p (.seq true 1 cn (fun i_1=>[.seq true 1 ((C i_1).1) (fun i_2=>[.int .i64 ((C i_1).2 i_2)])])),.p (.int .i64 (↑i:Int))] [] (.p (.int .i64 (inC C (↑i:Int) cn))),(NL 1 1),(NL i i),(NL ((i+1)*8) 140737488355328),(NL (i+1) 9223372036854775807),(ZLo ((↑i:Int)+1)),(ZHi ((↑i:Int)+1)),(AI ((↑N:Int))),(AN nb),(AP nb (bRw g)),(AN 0),(AN ((i+1))),(AN cn),((((↑i:Int)+1):Int)=(↑(i+1):Int)),(AN 2),(AA cn (fun i_1=>[.p (.seq false 1 ((C i_1).1) (fun i_2=>[.int .i64 ((C i_1).2 i_2)]))])),(NL (i+1) (i+1)),(∀ i_1:Nat,(((i_1:Nat)<(i+1))→(All (cvtL false [(419,⟨false,1,(i+1),(fun i_2=>(if (i_2<i) then [.p (.int .i64 (inC C (↑i_2:Int) cn))] else [.p (.int .i64 (inC C (↑i:Int) cn))]))⟩),(387,⟨false,1,1,(fun i_2=>[.p (.int .i64 (inC C (↑i:Int) cn))])⟩),(0,⟨true,2,1,(fun i_2=>[.p (.int .i64 (↑N:Int)),.p (.seq true 2 nb (bRw g))])⟩),(1,⟨false,1,cn,(fun i_2=>[.p (.seq false 1 ((C i_2).1) (fun i_3=>[.int .i64 ((C i_2).2 i_3)]))])⟩)] [0,1,419] 1 (if (i_1<i) then [.p (.int .i64 (inC C (↑i_1:Int) cn))] else [.p (.int .i64 (inC C (↑i:Int) cn))])).2∧(((cvtL false [(419,⟨false,1,(i+1),(fun i_2=>(if (i_2<i) then [.p (.int .i64 (inC C (↑i_2:Int) cn))] else [.p (.int .i64 (inC C (↑i:Int) cn))]))⟩),(387,⟨false,1,1,(fun i_2=>[.p (.int .i64 (inC C (↑i:Int) cn))])⟩),(0,⟨true,2,1,(fun i_2=>[.p (.int .i64 (↑N:Int)),.p (.seq true 2 nb (bRw g))])⟩),(1,⟨false,1,cn,(fun i_2=>[.p (.seq false 1 ((C i_2).1) (fun i_3=>[.int .i64 ((C i_2).2 i_3)]))])⟩)] [0,1,419] 1 (if (i_1<i) then [.p (.int .i64 (inC C (↑i_1:Int) cn))] else [.p (.int .i64 (inC C (↑i:Int) cn))])).1:List AV)=[.p (.int .i64 (inC C (↑i_1:Int) cn))]))))] [0,1,2,3,2,4,5,6,7,8,9,10,11,12,13,14,15,16,17,17,18,17,19,20,21,8,8,14,15,16,5,6,22,5,23,24]):=by kernel_rfl
theorem jSe (g:Nat→T_Bar) (nb N cn:Nat) (C:Nat→T_IntS) (i:Nat) :
    zP Try.f47 0 [rm [(6,oc [] (.p (.bool true)))] 1,.dec false,rg 2] zf38 (SJs g nb N cn C i) [2] 1 [(0,iOb i (fun x=>inC C x cn))] (.ar 1 0 0 i) =
    some (zD [(NT 0 1),(((decide ((↑i:Int)<(↑N:Int)))=true)→(NT 0 1)),(AG (decide ((↑i:Int)<(↑N:Int)))),(((decide ((↑i:Int)<(↑N:Int)))=true)→ zE 38 [(zf78 N nb g)] [] (.p (.bool true))),((bif decide ((↑i:Int)<(↑N:Int)) then true else false)=false),(AN 0),(AN i),(AN 1),(NL i i),(AA i (fun i_1=>[.p (.int .i64 (inC C (↑i_1:Int) cn))])),(AE i)] [0,1,2,3,2,4,5,6,7,8,9,10]):=by kernel_rfl
theorem jIy (v:T_Graph) :
    zS Try.f45 [rg 2,rm [(1,oc [] (.p (.bool false)))] 1,.dec true,rg 2] [graphA v] [160] [(0,iOb 0 (fun _=>0))] (.ar 1 0 0 0) =
    some [(NT 0 1),zE 24 [(zf77 v)] [] (.p (.bool false)),((!false)=true),(AN 0),(AN 0),(AN 1),(NL 0 0),(AA 0 (fun i=>[.p (.int .i64 0)])),(AE 0)]:=by kernel_rfl
theorem jIz (g:Nat→T_Bar) (nb N cn:Nat) (C:Nat→T_IntS) :
    zT Try.f45 [rg 2,rm [(1,oc [] (.p (.bool true)))] 1,.dec false,rg 4,rm [(1,oc [(0,ssOb cn C)] (.ar 1 0 0 cn))] 2,.head] [grG g nb N] [0,224,320] (SJi g nb N cn C 0 (fun _=>0)) =
    some (zf39,[(NT 0 1),zE 24 [(zf80 N nb g)] [] (.p (.bool true)),((!true)=false),(NT 0 1),(IL 0 (↑N:Int)),(IL (↑N:Int) (↑N:Int)),(IL ((↑N:Int)*(↑8:Int)) 281474976710656),(ZHi (↑N:Int)),(NT 0 1),zE 28 [(zf80 N nb g)] (zf82 cn C) (.ar 1 0 0 cn),(AI ((↑N:Int))),(AN nb),(AP nb (bRw g)),(AN 0),(AN 0),(AN N),(AN 0),(AN cn),(AI ((↑cn:Int))),((0:Int)=(↑0:Int)),((([AV.p (PV.int IntKind.i64 (↑N:Int)),brL g nb].length):Nat)=2),(NL 1 1),(NL 1 1),(AI ((↑N:Int))),(AN nb),(AP nb (bRw g)),(AN 1),(NL N N),(AA N (fun i=>[.p (.int .i64 0)])),(AN 1),(NL cn cn),(AA cn (fun i=>[.p (.seq false 1 ((C i).1) (fun i_1=>[.int .i64 ((C i).2 i_1)]))]))]):=by kernel_rfl
theorem jIl (g:Nat→T_Bar) (nb N cn:Nat) (C:Nat→T_IntS) (i:Nat) (K:Nat→Int) :
    zM 0 [rg 1,.dec true,rg 3,rg 3,.head] zf39 (SJi g nb N cn C i K) [0,1,2] 1 (SJk g nb N cn C i 0 K) =
    some (zf11,[((decide ((↑i:Int)<(↑cn:Int)))=true),(IL 0 (↑i:Int)),(IT (↑i:Int) (↑cn:Int)),(NT i cn),(AI ((↑N:Int))),(AN nb),(AP nb (bRw g)),(AN 0),(AN 0),(AN N),(AN 0),(AN cn),(AI ((↑cn:Int))),(AI ((↑i:Int))),(AN (((C i).1))),(AP (((C i).1)) (fun i_1=>[.int .i64 ((C i).2 i_1)])),(AI ((↑(C i).1:Int))),((0:Int)=(↑0:Int)),(AN 2),(NL 1 1),(NL 1 1),(AI ((↑N:Int))),(AN nb),(AP nb (bRw g)),(AN 1),(NL N N),(AA N (fun i_1=>[.p (.int .i64 (K i_1))])),(AN 1),(NL cn cn),(AA cn (fun i_1=>[.p (.seq false 1 ((C i_1).1) (fun i_2=>[.int .i64 ((C i_1).2 i_2)]))]))]):=by kernel_rfl
theorem jIe (g:Nat→T_Bar) (nb N cn:Nat) (C:Nat→T_IntS) (i:Nat) (K:Nat→Int) :
    zP Try.f45 0 [rg 1,.dec false,rg 2] zf39 (SJi g nb N cn C i K) [1] 1 [(0,iOb N (fun x=>inC C x cn))] (.ar 1 0 0 N) =
    some [((decide ((↑i:Int)<(↑cn:Int)))=false),(AN 0),(AN N),(AN 1),(NL N N),(∀ i_1:Nat,(((i_1:Nat)<N)→(All []∧(([.p (.int .i64 (K i_1))]:List AV)=[.p (.int .i64 (inC C (↑i_1:Int) cn))])))),(AE N)]:=by kernel_rfl
theorem jIk (g:Nat→T_Bar) (nb N cn:Nat) (C:Nat→T_IntS) (i k:Nat) (K:Nat→Int) :
    zM 0 [rg 1,.dec true,rg 3,rg 7,rg 2,.head] zf11 (SJk g nb N cn C i k K) [0,1,2] 1 (SJk g nb N cn C i (k+1) (fun x=>if x=((C i).2 k).toNat then K x+1 else K x)) =
    some (zf11,zD [((decide ((↑k:Int)<(↑(C i).1:Int)))=true),(IL 0 (↑k:Int)),(IT (↑k:Int) (↑(C i).1:Int)),(IL 0 ((C i).2 k)),(IT ((C i).2 k) (↑N:Int)),(NT (((C i).2 k).toNat) N),(ZLo (K ((C i).2 k).toNat+1)),(ZHi (K ((C i).2 k).toNat+1)),((false=true)→ ((N:Nat)=1)),(ZLo ((↑k:Int)+1)),(ZHi ((↑k:Int)+1)),(AI ((↑N:Int))),(AN nb),(AP nb (bRw g)),(AN 0),(AN N),(AN cn),(AI ((↑cn:Int))),(AI ((↑i:Int))),(AN (((C i).1))),(AP (((C i).1)) (fun i_1=>[.int .i64 ((C i).2 i_1)])),(AI ((↑(C i).1:Int))),((((↑k:Int)+1):Int)=(↑(k+1):Int)),(AN 2),(NL 1 1),(AN 1),(NL N N),(CV [(1,⟨false,1,N,(fun i_2=>(if (i_2=((C i).2 k).toNat) then [.p (.int .i64 (K ((C i).2 k).toNat+1))] else [.p (.int .i64 (K i_2))]))⟩),(0,⟨true,2,1,(fun i_2=>[.p (.int .i64 (↑N:Int)),.p (.seq true 2 nb (bRw g))])⟩),(2,⟨false,1,cn,(fun i_2=>[.p (.seq false 1 ((C i_2).1) (fun i_3=>[.int .i64 ((C i_2).2 i_3)]))])⟩)] [0,1,2] 1 N (fun i_1=>if (i_1=((C i).2 k).toNat) then [.p (.int .i64 (K ((C i).2 k).toNat+1))] else [.p (.int .i64 (K i_1))]) (fun i_1=>[.p (.int .i64 (if i_1=((C i).2 k).toNat then K i_1+1 else K i_1))])),(NL cn cn),(AA cn (fun i_1=>[.p (.seq false 1 ((C i_1).1) (fun i_2=>[.int .i64 ((C i_1).2 i_2)]))]))] [0,1,2,3,4,5,6,7,3,4,5,8,9,10,11,12,13,14,14,15,14,16,17,18,19,20,21,22,23,24,24,11,12,13,25,26,27,25,28,29]):=by kernel_rfl
theorem jIn (g:Nat→T_Bar) (nb N cn:Nat) (C:Nat→T_IntS) (i k:Nat) (K:Nat→Int) :
    zM 0 [rg 1,.dec false,rg 2,.head] zf11 (SJk g nb N cn C i k K) [0,1,2] 1 (SJi g nb N cn C (i+1) K) =
    some (zf39,zD [((decide ((↑k:Int)<(↑(C i).1:Int)))=false),(ZLo ((↑i:Int)+1)),(ZHi ((↑i:Int)+1)),(AI ((↑N:Int))),(AN nb),(AP nb (bRw g)),(AN 0),(AN N),(AN cn),(AI ((↑cn:Int))),((((↑i:Int)+1):Int)=(↑(i+1):Int)),(AN 2),(NL 1 1),(AN 1),(NL N N),(AA N (fun i_1=>[.p (.int .i64 (K i_1))])),(NL cn cn),(AA cn (fun i_1=>[.p (.seq false 1 ((C i_1).1) (fun i_2=>[.int .i64 ((C i_1).2 i_2)]))]))] [0,1,2,3,4,5,6,6,7,6,8,9,10,11,12,12,3,4,5,13,14,15,13,16,17]):=by kernel_rfl
theorem inC_le (C:Nat→T_IntS) (x:Int):∀ i,0≤inC C x i∧inC C x i≤i
  | 0=>by simp [inC]
  | i+1=>by
    have:=inC_le C x i
    simp only [inC]
    split<;>omega
theorem con_l30In (cn:Nat) (C:Nat→T_IntS) (x:Int) (hcn:cn≤1048576) (hC:∀ j,j<cn→(C j).1≤1048576):zE 88 [ssL cn C,.p (.int .i64 x)] [] (.p (.int .i64 (inC C x cn))):=by
  refine csZ Try.func88 (fun c hc=>?_)
  have lp:∀ d i,i+d=cn→zR c 88 zf57 (SJ0 cn C x i) (Post c [] (.p (.int .i64 (inC C x cn)))):=by
    intro d
    induction d with
    | zero =>
      intro i hi
      have hi':i=cn:=by omega
      have hd:decide ((i:Int)<(cn:Int))=false:=by simp;omega
      rw [show inC C x cn=inC C x i by rw [hi']]
      refine pkZ Try.func88 hc (j0e cn C x i) ?_
      and_intros
      all_goals (first | exact zN | (exact hd) | (simp;done))
    | succ d ih =>
      intro i hi
      have hd:decide ((i:Int)<(cn:Int))=true:=by simp;omega
      have hle:=inC_le C x i
      have hh:=con_l2Has (C i) x (hC i (by omega))
      cases ht:hasI (C i).2 x (C i).1 with
      | true =>
        rw [ht] at hh
        refine pcZ hc (j0t cn C x i true) ?_ (ih (i+1) (by omega))
        and_intros
        all_goals (first | exact zN | (exact hd) | (exact hh) | (simp only [inC,ht,if_true];done) | (simp only [inC,ht,if_true];omega) | (intro j hj;rfl))
      | false =>
        rw [ht] at hh
        refine pcZ hc (j0f cn C x i false) ?_ (ih (i+1) (by omega))
        and_intros
        all_goals (first | exact zN | (exact hd) | (exact hh) | (simp [inC,ht];done) | (intro j hj;rfl))
  refine pcZ hc (j0z cn C x) ?_ (lp cn 0 (by omega))
  and_intros
  all_goals (first | exact zN | (intro j hj;rfl))
noncomputable def jkG (v:T_Graph):T_IntS:=if isGraphF v=true then (v.1.toNat,fun x=>inC (compsG v).2 x (compsG v).1) else (0,fun _=>0)
theorem con_JointKinds_s (v:T_Graph) (hs:smS s_Graph v):zE 47 [graphA v] [(0,iOb (jkG v).1 (jkG v).2)] (.ar 1 0 0 (jkG v).1):=by
  have hcm:=con_Comps_s v hs
  have hcg:=con_IsGraph_s v hs
  cases hg:isGraphF v with
  | false =>
    rw [hg] at hcg
    rw [show compsG v=(0,fun _=>(0,fun _=>0)) by simp [compsG,hg]] at hcm
    rw [show jkG v=(0,fun _=>0) by simp [jkG,hg]]
    refine csZ Try.func47 (fun c hc=>?_)
    refine pkZ Try.func47 hc (jSyJ v) ?_
    and_intros
    all_goals (first | exact zI | (exact hcm) | (intros;exact hcg) | (simp;done) | (intro i hi;simp [All]))
  | true =>
    rw [hg] at hcg
    have hle:=compsG_le v
    obtain ⟨N,nb,g,rfl⟩:=graph_cases v hg
    obtain ⟨hN,hnb,_⟩:=graph_in hg
    rw [show jkG ((N:Int),(nb,g),())=(N,fun x:Nat=>inC (compsG ((N:Int),(nb,g),())).2 (x:Int) (compsG ((N:Int),(nb,g),())).1) by simp [jkG,hg]]
    generalize compsG ((N:Int),(nb,g),())=cc at hcm hle ⊢
    obtain ⟨cn,C⟩:=cc
    refine csZ Try.func47 (fun c hc=>?_)
    have lp:∀ d i,i+d=N→zR c 47 zf38 (SJs g nb N cn C i) (Post c [(0,iOb N (fun x=>inC C x cn))] (.ar 1 0 0 N)):=by
      intro d
      induction d with
      | zero =>
        intro i hi
        obtain rfl:i=N:=by omega
        have hd:decide ((i:Int)<(i:Int))=false:=by simp
        refine pkD Try.func47 hc (jSe g nb i cn C i) ?_
        and_intros
        all_goals (first | exact zI | (intros;exact hcg) | (intro h;rw [hd] at h;cases h) | (rw [hd];rfl) | (simp;done) | (intro j hj;simp [All]))
      | succ d ih =>
        intro i hi
        have hd:decide ((i:Int)<(N:Int))=true:=by simp;omega
        have hl:=con_l30In cn C i (by have:=hle.1;simp only at this;omega) (fun j hj=>by have:=hle.2 j hj;simp only at this;omega)
        refine pcD hc (jSl g nb N cn C i) ?_ (ih (i+1) (by omega))
        and_intros
        all_goals (first | exact zI | (intros;exact hcg) | (exact hl) | (rw [hd];rfl) | (intro j hj;simp [All];done) | (intro j hj;rcases (show j<i∨j=i by omega) with h | h<;>simp [h,cvtL,cvt,tg,tru,All]))
    refine pcD hc (jSz g nb N cn C) ?_ (lp N 0 (by omega))
    and_intros
    iterate 2 all_goals (first | exact zN | (exact hcm) | (intro j hj;simp [All]) | simp only [All])
def occ (f:Nat→Int) (x:Int):Nat→Int
  | 0=>0
  | k+1=>occ f x k+(if f k=x then 1 else 0)
def Dist (N:Nat) (c:T_IntS):Prop:=(∀ s,s<c.1→0≤c.2 s∧c.2 s<N)∧∀ s s',s<s'→s'<c.1→c.2 s<c.2 s'
theorem occ_has (f:Nat→Int) (x:Int):∀ n,(∀ s s',s<s'→s'<n→f s<f s')→occ f x n=if hasI f x n=true then 1 else 0
  | 0,_=>rfl
  | n+1,h=>by
    have ih:=occ_has f x n (fun s s' h1 h2=>h s s' h1 (by omega))
    have hno:hasI f x n=true→f n≠x:=by
      intro hh e
      have:∀ m,m≤n→hasI f x m=true→∃ s,s<m∧f s=x:=by
        intro m
        induction m with
        | zero=>intro _ h;cases h
        | succ m ih =>
          intro hm h
          simp only [hasI,Bool.or_eq_true] at h
          rcases h with h | h
          · obtain ⟨s,h1,h2⟩:=ih (by omega) h
            exact ⟨s,by omega,h2⟩
          · exact ⟨m,by omega,by simpa using h⟩
      obtain ⟨s,h1,h2⟩:=this n (Nat.le_refl _) hh
      have:=h s n h1 (by omega)
      omega
    simp only [occ,hasI]
    rw [ih]
    by_cases hh:hasI f x n=true
    · have:=hno hh
      simp [hh,this]
    · by_cases e:f n=x
      · simp [hh,e]
      · simp [hh,e]
theorem compD_dist (N nb:Nat) (g:Nat→T_Bar) (e:Nat):∀ p,(∀ s,s<(compD N nb g e p).1→0≤(compD N nb g e p).2 s∧(compD N nb g e p).2 s<p)∧∀ s s',s<s'→s'<(compD N nb g e p).1→(compD N nb g e p).2 s<(compD N nb g e p).2 s'
  | 0=>⟨fun s hs=>absurd hs (Nat.not_lt_zero _),fun s s' _ h=>absurd h (Nat.not_lt_zero _)⟩
  | p+1=>by
    obtain ⟨h1,h2⟩:=compD_dist N nb g e p
    simp only [compD]
    split
    · refine ⟨fun s hs=>?_,fun s s' hss hs=>?_⟩
      · show 0≤(if s<(compD N nb g e p).1 then (compD N nb g e p).2 s else (p:Int))∧(if s<(compD N nb g e p).1 then (compD N nb g e p).2 s else (p:Int))<((p+1:Nat):Int)
        by_cases h:s<(compD N nb g e p).1
        · rw [if_pos h];have:=h1 s h;omega
        · rw [if_neg h];omega
      · have hs:s'<(compD N nb g e p).1+1:=hs
        show (if s<(compD N nb g e p).1 then (compD N nb g e p).2 s else (p:Int))<(if s'<(compD N nb g e p).1 then (compD N nb g e p).2 s' else (p:Int))
        rw [if_pos (by omega)]
        by_cases h:s'<(compD N nb g e p).1
        · rw [if_pos h];exact h2 s s' hss h
        · rw [if_neg h];have:=h1 s (by omega);omega
    · exact ⟨fun s hs=>by have:=h1 s hs;omega,h2⟩
theorem compsD_dist (N nb:Nat) (g:Nat→T_Bar):∀ e j,j<(compsD N nb g e).1→Dist N ((compsD N nb g e).2 j)
  | 0,j,hj=>absurd hj (Nat.not_lt_zero _)
  | e+1,j,hj=>by
    have ih:=compsD_dist N nb g e
    simp only [compsD] at hj ⊢
    split at hj
    · rename_i hk;rw [if_pos hk];exact ih j hj
    · rename_i hk
      rw [if_neg hk]
      have hj:j<(compsD N nb g e).1+1:=hj
      by_cases h:j<(compsD N nb g e).1
      · have:(snocC (compsD N nb g e).1 (compsD N nb g e).2 (compD N nb g e N)) j=(compsD N nb g e).2 j:=by simp only [snocC,h,if_true]
        show Dist N ((snocC (compsD N nb g e).1 (compsD N nb g e).2 (compD N nb g e N)) j)
        rw [this];exact ih j h
      · have:(snocC (compsD N nb g e).1 (compsD N nb g e).2 (compD N nb g e N)) j=compD N nb g e N:=by simp only [snocC,h,if_false]
        show Dist N ((snocC (compsD N nb g e).1 (compsD N nb g e).2 (compD N nb g e N)) j)
        rw [this];exact compD_dist N nb g e N
theorem con_JointKinds_i (v:T_Graph) (hs:smS s_Graph v):zE 45 [graphA v] [(0,iOb (jkG v).1 (jkG v).2)] (.ar 1 0 0 (jkG v).1):=by
  have hcm:=con_Comps_i v hs
  have hcg:=con_IsGraph_i v hs
  cases hg:isGraphF v with
  | false =>
    rw [hg] at hcg
    rw [show jkG v=(0,fun _=>0) by simp [jkG,hg]]
    refine csZ Try.func45 (fun c hc=>?_)
    refine pkZ Try.func45 hc (jIy v) ?_
    and_intros
    all_goals (first | exact zN | (exact hcg) | (simp;done) | (intro i hi;simp [All]))
  | true =>
    rw [hg] at hcg
    have hle:=compsG_le v
    obtain ⟨N,nb,g,rfl⟩:=graph_cases v hg
    obtain ⟨hN,hnb,_⟩:=graph_in hg
    have hdist:∀ j,j<(compsG ((N:Int),(nb,g),())).1→Dist N ((compsG ((N:Int),(nb,g),())).2 j):=by
      rw [show compsG ((N:Int),(nb,g),())=compsD N nb g nb by simp [compsG,hg]]
      exact compsD_dist N nb g nb
    rw [show jkG ((N:Int),(nb,g),())=(N,fun x:Nat=>inC (compsG ((N:Int),(nb,g),())).2 (x:Int) (compsG ((N:Int),(nb,g),())).1) by simp [jkG,hg]]
    generalize compsG ((N:Int),(nb,g),())=cc at hcm hle hdist ⊢
    obtain ⟨cn,C⟩:=cc
    simp only at hle hdist
    refine csZ Try.func45 (fun c hc=>?_)
    have lp:∀ d i K,i+d=cn→(∀ x:Nat,x<N→K x=inC C x i)→zR c 45 zf39 (SJi g nb N cn C i K) (Post c [(0,iOb N (fun x=>inC C x cn))] (.ar 1 0 0 N)):=by
      intro d
      induction d with
      | zero =>
        intro i K hi hK
        have hi':i=cn:=by omega
        have hd:decide ((i:Int)<(cn:Int))=false:=by simp;omega
        refine pkZ Try.func45 hc (jIe g nb N cn C i K) ?_
        and_intros
        iterate 2 all_goals (first | exact zN | (exact hd) | (simp;done) | (intro j hj;simp [All];done) | (intro j hj;rw [hK j hj,hi'];simp [All]) | simp only [All])
      | succ d ih =>
        intro i K hi hK
        have hd:decide ((i:Int)<(cn:Int))=true:=by simp;omega
        obtain ⟨hr,hinc⟩:=hdist i (by omega)
        have hl:=hle.2 i (by omega)
        have inn:∀ d' k K',k+d'=(C i).1→(∀ x:Nat,x<N→K' x=inC C x i+occ (C i).2 x k)→zR c 45 zf11 (SJk g nb N cn C i k K') (Post c [(0,iOb N (fun x=>inC C x cn))] (.ar 1 0 0 N)):=by
          intro d'
          induction d' with
          | zero =>
            intro k K' hk hK'
            have hk':k=(C i).1:=by omega
            have hd2:decide ((k:Int)<((C i).1:Int))=false:=by simp;omega
            refine pcD hc (jIn g nb N cn C i k K') ?_ (ih (i+1) K' (by omega) (fun x hx=>by
              rw [hK' x hx,hk',occ_has (C i).2 x (C i).1 hinc]
              rfl))
            and_intros
            all_goals (first | exact zN | (exact hd2) | (intro j hj;simp [All]))
          | succ d' ihd =>
            intro k K' hk hK'
            have hd2:decide ((k:Int)<((C i).1:Int))=true:=by simp;omega
            have hrk:=hr k (by omega)
            have hKk:=hK' ((C i).2 k).toNat (by omega)
            have hin:=inC_le C (((C i).2 k).toNat:Nat) i
            have hoc:∀ n x,0≤occ (C i).2 x n∧occ (C i).2 x n≤n:=by
              intro n x
              induction n with
              | zero=>simp [occ]
              | succ n ihn=>simp only [occ];split<;>omega
            have hock:=hoc k (((C i).2 k).toNat:Nat)
            refine pcD hc (jIk g nb N cn C i k K') ?_ (ihd (k+1) _ (by omega) (fun x hx=>by
              show (if x=((C i).2 k).toNat then K' x+1 else K' x)=inC C x i+(occ (C i).2 x k+(if (C i).2 k=(x:Int) then 1 else 0))
              rw [hK' x hx]
              by_cases e:x=((C i).2 k).toNat
              · rw [if_pos e,if_pos (by omega)];omega
              · rw [if_neg e,if_neg (by omega)];omega))
            and_intros
            all_goals (first | exact zI | (exact hd2) | (rw [hKk];omega) | (intro j hj;simp [All];done) | (intro j hj;by_cases h:j=((C i).2 k).toNat<;>simp [h,cvtL,cvt,tg,tru,All]))
        refine pcZ hc (jIl g nb N cn C i K) ?_ (inn (C i).1 0 K (by omega) (fun x hx=>by rw [hK x hx];simp [occ]))
        and_intros
        all_goals (first | exact zN | (exact hd) | (intro j hj;simp [All]))
    refine pcZ hc (jIz g nb N cn C) ?_ (lp cn 0 _ (by omega) (fun x _=>rfl))
    and_intros
    all_goals (first | exact zN | (exact hcg) | (exact hcm) | (intro j hj;simp [All]))
theorem jkG_le (v:T_Graph):(jkG v).1≤8:=by
  unfold jkG
  split
  · rename_i hg
    obtain ⟨N,nb,g,rfl⟩:=graph_cases v hg
    have:=(graph_in hg).1
    simp only [Int.toNat_natCast];omega
  · show 0≤8;omega
end Go.Proofs.Ytgabljneilgilaa.Mach
namespace Go.Proofs.Ytgabljneilgilaa.Mat
set_option linter.unusedVariables false
set_option linter.unusedSimpArgs false
noncomputable def rk (N:Nat) (L:List (Nat×Nat)):Nat:=(greedy N 2 3 [] L).length
def Imp (N:Nat) (I:List (Nat×Nat)) (a b:Nat):Prop:=∃ R,Tight N I R∧R a=true∧R b=true
theorem cnt_tri (A B C:Nat→Bool):∀ l,cnt A l+cnt B l+cnt C l≤cnt (uni (uni A B) C) l+cnt (cap2 A B) l+cnt (cap2 A C) l+cnt (cap2 B C) l
  | []=>by simp [cnt]
  | x::l=>by
    have:=cnt_tri A B C l
    simp only [cnt,inn,uni,cap2] at *
    cases A x.1<;>cases B x.1<;>cases C x.1<;>cases A x.2<;>cases B x.2<;>cases C x.2<;>simp<;>omega
theorem card_tri (A B C:Nat→Bool):∀ n,cardR A n+cardR B n+cardR C n+cardR (cap2 (cap2 A B) C) n=cardR (uni (uni A B) C) n+cardR (cap2 A B) n+cardR (cap2 A C) n+cardR (cap2 B C) n
  | 0=>rfl
  | n+1=>by
    have:=card_tri A B C n
    simp only [cardR,uni,cap2] at *
    cases A n<;>cases B n<;>cases C n<;>simp<;>omega
theorem cnt_zero_of {N:Nat} {I:List (Nat×Nat)} (hI:Sparse N 2 3 I) {R:Nat→Bool} (h:cardR R N≤1):cnt R I=0:=by
  have:=hI R
  by_cases e:0<cnt R I
  · have:=this e;omega
  · omega
theorem tight_union2 {N:Nat} {I:List (Nat×Nat)} (hI:Sparse N 2 3 I) {R S:Nat→Bool} (h1:Tight N I R) (h2:Tight N I S) (h:2≤cardR (cap2 R S) N):Tight N I (uni R S):=by
  have c1:=card_uni R S N
  have c2:=cnt_uni R S I
  have c3:=cnt_mono R (uni R S) (fun v h=>by simp [uni,h]) I
  have c4:=hI (uni R S)
  have c5:=hI (cap2 R S)
  unfold Tight at *
  by_cases e:0<cnt (cap2 R S) I
  · have:=c5 e;have:=c4 (by omega);omega
  · have:=c4 (by omega);omega
theorem card_none (R:Nat→Bool):∀ n,(∀ v,v<n→R v=false)→cardR R n=0
  | 0,_=>rfl
  | n+1,h=>by simp [cardR,card_none R n (fun v hv=>h v (by omega)),h n (by omega)]
theorem card_one_only (R:Nat→Bool) (a:Nat) (ra:R a=true):∀ n,a<n→cardR R n≤1→∀ v,v<n→R v=true→v=a:=by
  intro n ha h v hv hr
  by_cases e:v=a
  · exact e
  · have:=card_two R v a hr ra e n hv ha
    omega
theorem tight_tri {N:Nat} {I:List (Nat×Nat)} (hI:Sparse N 2 3 I) {a b c:Nat} (ha:a<N) (hb:b<N) (hc:c<N) (hab:a≠b) (hac:a≠c) (hbc:b≠c)
    (h1:Imp N I a b) (h2:Imp N I a c) (h3:Imp N I b c):∃ R,Tight N I R∧R a=true∧R b=true∧R c=true:=by
  obtain ⟨A,tA,a1,a2⟩:=h1
  obtain ⟨B,tB,b1,b2⟩:=h2
  obtain ⟨C,tC,c1,c2⟩:=h3
  by_cases k1:2≤cardR (cap2 A B) N
  · exact ⟨_,tight_union2 hI tA tB k1,by simp [uni,a1],by simp [uni,a2],by simp [uni,b2]⟩
  by_cases k2:2≤cardR (cap2 A C) N
  · exact ⟨_,tight_union2 hI tA tC k2,by simp [uni,a1],by simp [uni,a2],by simp [uni,c2]⟩
  by_cases k3:2≤cardR (cap2 B C) N
  · exact ⟨_,tight_union2 hI tB tC k3,by simp [uni,b1],by simp [uni,c1],by simp [uni,b2]⟩
  cases ca:C a with
  | true=>exact ⟨C,tC,ca,c1,c2⟩
  | false =>
    have e1:cardR (cap2 (cap2 A B) C) N=0:=by
      refine card_none _ _ (fun v hv=>?_)
      cases e:cap2 (cap2 A B) C v with
      | false=>rfl
      | true =>
        simp only [cap2,Bool.and_eq_true] at e
        have:=card_one_only (cap2 A B) a (by simp [cap2,a1,b1]) N ha (by omega) v hv (by simp [cap2,e.1.1,e.1.2])
        subst this
        rw [ca] at e
        exact absurd e.2 (by simp)
    have f1:=cnt_tri A B C I
    have f2:=card_tri A B C N
    have g1:=card_one (cap2 A B) a (by simp [cap2,a1,b1]) N ha
    have g2:=card_one (cap2 A C) b (by simp [cap2,a2,c1]) N hb
    have g3:=card_one (cap2 B C) c (by simp [cap2,b2,c2]) N hc
    have z1:=cnt_zero_of hI (R:=cap2 A B) (by omega)
    have z2:=cnt_zero_of hI (R:=cap2 A C) (by omega)
    have z3:=cnt_zero_of hI (R:=cap2 B C) (by omega)
    have c4:=hI (uni (uni A B) C)
    have m1:=cnt_mono A (uni (uni A B) C) (fun v h=>by simp [uni,h]) I
    refine ⟨uni (uni A B) C,?_,by simp [uni,a1],by simp [uni,a2],by simp [uni,b2]⟩
    have d1:=card_two A a b a1 a2 hab N ha hb
    unfold Tight at *
    have:=c4 (by omega)
    omega
theorem ground_tight {N:Nat} {I:List (Nat×Nat)} (hI:Sparse N 2 3 I) (gr:Nat→Nat):∀ m,2≤m→(∀ i,i<m→gr i<N)→(∀ i j,i<j→j<m→gr i≠gr j) →
    (∀ i,1≤i→i<m→Imp N I (gr 0) (gr i))→(∀ i,2≤i→i<m→Imp N I (gr 1) (gr i))→∃ R,Tight N I R∧∀ i,i<m→R (gr i)=true
  | 0,h,_,_,_,_=>absurd h (by omega)
  | 1,h,_,_,_,_=>absurd h (by omega)
  | 2,_,hN,hd,h0,h1=>by
    obtain ⟨R,t,r1,r2⟩:=h0 1 (Nat.le_refl _) (by omega)
    refine ⟨R,t,fun i hi=>?_⟩
    rcases (show i=0∨i=1 by omega) with rfl | rfl
    · exact r1
    · exact r2
  | m+3,_,hN,hd,h0,h1=>by
    obtain ⟨R,t,r⟩:=ground_tight hI gr (m+2) (by omega) (fun i hi=>hN i (by omega)) (fun i j h1 h2=>hd i j h1 (by omega)) (fun i h1 h2=>h0 i h1 (by omega)) (fun i h2 h3=>h1 i h2 (by omega))
    obtain ⟨T,tt,t0,t1,t2⟩:=tight_tri hI (hN 0 (by omega)) (hN 1 (by omega)) (hN (m+2) (by omega)) (hd 0 1 (by omega) (by omega)) (hd 0 (m+2) (by omega) (by omega)) (hd 1 (m+2) (by omega) (by omega))
      (h0 1 (Nat.le_refl _) (by omega)) (h0 (m+2) (by omega) (by omega)) (h1 (m+2) (by omega) (by omega))
    refine ⟨_,tight_union hI t tt (gr 0) (gr 1) (hd 0 1 (by omega) (by omega)) (hN 0 (by omega)) (hN 1 (by omega)) (r 0 (by omega)) (r 1 (by omega)) t0 t1,fun i hi=>?_⟩
    rcases Nat.lt_or_ge i (m+2) with h | h
    · simp [uni,r i h]
    · obtain rfl:i=m+2:=by omega
      simp [uni,t2]
theorem not_sparse_of_tight {N:Nat} {I:List (Nat×Nat)} {R:Nat→Bool} (h:Tight N I R) {x:Nat×Nat} (hx:inn R x=true):¬ Sparse N 2 3 (I++[x]):=by
  intro hs
  have h1:=hs R
  rw [cnt_append] at h1
  have hc:cnt R [x]=1:=by simp [cnt,hx]
  rw [hc] at h1
  have:=h1 (by omega)
  unfold Tight at h
  omega
theorem greedy_skip {N:Nat} {I:List (Nat×Nat)}:∀ xs:List (Nat×Nat),(∀ x∈xs,∃ R,Tight N I R∧inn R x=true)→greedy N 2 3 I xs=I
  | [],_=>rfl
  | x::xs,h=>by
    obtain ⟨R,t,r⟩:=h x (by simp)
    simp only [greedy]
    rw [if_neg (not_sparse_of_tight t r)]
    exact greedy_skip xs (fun y hy=>h y (by simp [hy]))
structure Grd (N m:Nat) (gr:Nat→Nat) (S:List (Nat×Nat)):Prop where
  two:2≤m
  lt:∀ i,i<m→gr i<N
  ne:∀ i j,i<j→j<m→gr i≠gr j
  b0:∀ i,1≤i→i<m→(gr 0,gr i)∈S
  b1:∀ i,2≤i→i<m→(gr 1,gr i)∈S
theorem Grd.tight {N m:Nat} {gr:Nat→Nat} {S L:List (Nat×Nat)} (h:Grd N m gr S) (hL:∀ x∈L,GoodBar N x) (hs:∀ x∈S,x∈L) :
    ∃ R,Tight N (greedy N 2 3 [] L) R∧∀ i,i<m→R (gr i)=true:=by
  have ht:=greedy_tight L [] hL (sparse_nil N 2 3)
  have imp:∀ x∈S,Imp N (greedy N 2 3 [] L) x.1 x.2:=by
    intro x hx
    obtain ⟨R,t,r⟩:=ht x (hs x hx)
    simp only [inn,Bool.and_eq_true] at r
    exact ⟨R,t,r.1,r.2⟩
  exact ground_tight (greedy_sparse N 2 3 L [] (sparse_nil N 2 3)) gr m h.two h.lt h.ne (fun i h1 h2=>imp _ (h.b0 i h1 h2)) (fun i h1 h2=>imp _ (h.b1 i h1 h2))
theorem Grd.same {N m:Nat} {gr:Nat→Nat} {S L M:List (Nat×Nat)} (h:Grd N m gr S) (hL:∀ x∈L,GoodBar N x) (hM:∀ x∈M,GoodBar N x) (hs:∀ x∈S,x∈L) (hLM:∀ x∈L,x∈M)
    (hML:∀ x∈M,x∈L∨∃ i j,i<m∧j<m∧x=(gr i,gr j)):rk N M=rk N L:=by
  obtain ⟨R,t,r⟩:=h.tight hL hs
  have e1:rk N M=rk N (L++M):=rank_same M (L++M) hM (fun x=>by
    simp only [List.mem_append]
    exact ⟨fun h=>.inr h,fun h'=>h'.elim (hLM x) id⟩)
  rw [e1]
  unfold rk
  rw [greedy_append,greedy_skip M (fun x hx=>?_)]
  rcases hML x hx with h' | ⟨i,j,hi,hj,rfl⟩
  · exact greedy_tight L [] hL (sparse_nil N 2 3) x h'
  · exact ⟨R,t,by simp [inn,r i hi,r j hj]⟩
theorem rk_same_iff {N:Nat} {L:List (Nat×Nat)} (hL:∀ x∈L,GoodBar N x) {a b:Nat} (hx:GoodBar N (a,b)):rk N (L++[(a,b)])=rk N L↔Imp N (greedy N 2 3 [] L) a b:=by
  unfold rk
  rw [greedy_append]
  simp only [greedy]
  constructor
  · intro he
    split at he
    · simp at he
    · rename_i hn
      obtain ⟨R,t,r⟩:=greedy_tight (L++[(a,b)]) [] (fun x h=>by
        rcases List.mem_append.1 h with h | h
        · exact hL x h
        · simp only [List.mem_cons,List.not_mem_nil,or_false] at h;subst h;exact hx) (sparse_nil N 2 3) (a,b) (by simp)
      rw [greedy_append] at t
      simp only [greedy] at t
      rw [if_neg hn] at t
      simp only [inn,Bool.and_eq_true] at r
      exact ⟨R,t,r.1,r.2⟩
  · rintro ⟨R,t,r1,r2⟩
    rw [if_neg (not_sparse_of_tight t (by simp [inn,r1,r2]))]
end Go.Proofs.Ytgabljneilgilaa.Mat
namespace Go.Proofs.Ytgabljneilgilaa.Mach
open Go Go.Sort
set_option linter.unusedVariables false
set_option linter.unusedSimpArgs false
theorem imp_symm {N:Nat} {I:List (Nat×Nat)} {a b:Nat} (h:Mat.Imp N I a b):Mat.Imp N I b a:=by
  obtain ⟨R,t,h1,h2⟩:=h
  exact ⟨R,t,h2,h1⟩
theorem rk_swap {N:Nat} {L:List (Nat×Nat)} (hL:∀ x∈L,Mat.GoodBar N x) {a b:Nat} (h1:a≠b) (h2:a<N) (h3:b<N):Mat.rk N (L++[(a,b)])=Mat.rk N L↔Mat.rk N (L++[(b,a)])=Mat.rk N L:=by
  rw [Mat.rk_same_iff hL ⟨h1,h2,h3⟩,Mat.rk_same_iff hL ⟨Ne.symm h1,h3,h2⟩]
  exact ⟨imp_symm,imp_symm⟩
theorem bL_congr {g g':Nat→T_Bar}:∀ n,(∀ i,i<n→g i=g' i)→bL g n=bL g' n
  | 0,_=>rfl
  | n+1,h=>by rw [bL,bL,bL_congr n (fun i hi=>h i (by omega)),h n (by omega)]
theorem bL_snoc (g:Nat→T_Bar) (nb:Nat) (x:T_Bar):bL (snoc nb g x) (nb+1)=bL g nb++[brN x]:=by
  rw [bL,bL_congr (g:=snoc nb g x) (g':=g) nb (fun i hi=>snoc_lt hi),snoc_ge (Nat.lt_irrefl _)]
theorem rk_brX {N:Nat} {L:List (Nat×Nat)} (hL:∀ x∈L,Mat.GoodBar N x) {a b:Int} (hab:a≠b) (ha:0≤a∧a<N) (hb:0≤b∧b<N):Mat.rk N (L++[brN (brX a b)])=Mat.rk N L↔Mat.rk N (L++[(a.toNat,b.toNat)])=Mat.rk N L:=by
  by_cases h:b<a
  · have e:brN (brX a b)=(b.toNat,a.toNat):=by
      simp only [brN,brX]
      rw [if_pos h,if_neg (by omega)]
    rw [e]
    exact rk_swap hL (by omega) (by omega) (by omega)
  · have e:brN (brX a b)=(a.toNat,b.toNat):=by
      simp only [brN,brX]
      rw [if_neg h,if_pos (by omega)]
    rw [e]
theorem impB_iff {N nb:Nat} {g:Nat→T_Bar} (hok:OkBars N nb g) {a b:Int} (ha:0≤a∧a<N) (hb:0≤b∧b<N) :
    impB N nb g a b=true↔a=b∨Mat.rk N (bL g nb++[(a.toNat,b.toNat)])=Mat.rk N (bL g nb):=by
  unfold impB
  by_cases h:a=b
  · simp [h]
  · have h':(a==b)=false:=beq_eq_false_iff_ne.2 h
    rw [h',cond_false,acc_len,acc_len,bL_snoc]
    have:=rk_brX (bL_good hok) h ha hb
    unfold Mat.rk at this ⊢
    rw [← this]
    simp [h,Int.ofNat_inj]
open Go
def cbS (C:Nat→T_IntS):Nat→Int
  | 0=>0
  | i+1=>cbS C i+2*(C i).1 - 3
def SKi (g:Nat→T_Bar) (nb N cn:Nat) (C:Nat→T_IntS) (i:Nat):St :=
  ⟨[grG g nb N,.pt 2 0 0 0,.p .any,.p (.int .i64 (cbS C i))]++List.replicate 6 anyA++[.ar 1 1 0 cn,.p (.int .i64 cn),.p (.int .i64 i)]++List.replicate 11 anyA,[(0,bxG g nb N),(1,ssOb cn C)],2⟩
theorem kIy (v:T_Graph) :
    zS Try.f40 [rg 2,rm [(1,oc [] (.p (.bool false)))] 1,.dec true,rg 1] [graphA v] [] [] (.p (.int .i64 (-1))) =
    some [(NT 0 1),zE 24 [(zf77 v)] [] (.p (.bool false)),((!false)=true),(AI ((-1)))]:=by kernel_rfl
theorem kIz (g:Nat→T_Bar) (nb N cn:Nat) (C:Nat→T_IntS) :
    zT Try.f40 [rg 2,rm [(1,oc [] (.p (.bool true)))] 1,.dec false,rg 1,rm [(1,oc [(0,ssOb cn C)] (.ar 1 0 0 cn))] 2,.head] [grG g nb N] [0,224] (SKi g nb N cn C 0) =
    some (zf40,zD [(NT 0 1),zE 24 [(zf80 N nb g)] [] (.p (.bool true)),((!true)=false),zE 28 [(zf80 N nb g)] (zf82 cn C) (.ar 1 0 0 cn),(AI ((↑N:Int))),(AN nb),(AP nb (bRw g)),(AN 0),((0:Int)=(cbS C 0)),(AN cn),(AI ((↑cn:Int))),((0:Int)=(↑0:Int)),((([AV.p (PV.int IntKind.i64 (↑N:Int)),brL g nb].length):Nat)=2),(NL 1 1),(AN 1),(NL cn cn),(AA cn (fun i=>[.p (.seq false 1 ((C i).1) (fun i_1=>[.int .i64 ((C i).2 i_1)]))]))] [0,1,2,0,3,4,5,6,7,8,7,9,10,11,12,13,13,4,5,6,14,15,16]):=by kernel_rfl
theorem kIl (g:Nat→T_Bar) (nb N cn:Nat) (C:Nat→T_IntS) (i:Nat) :
    zM 0 [rg 1,.dec true,rg 3,rg 7,rg 2,.head] zf40 (SKi g nb N cn C i) [0,1] 1 (SKi g nb N cn C (i+1)) =
    some (zf40,[((decide ((↑i:Int)<(↑cn:Int)))=true),(IL 0 (↑i:Int)),(IT (↑i:Int) (↑cn:Int)),(NT i cn),(ZLo (2*(↑(C i).1:Int))),(ZHi (2*(↑(C i).1:Int))),(ZLo (cbS C i+2*(↑(C i).1:Int))),(ZHi (cbS C i+2*(↑(C i).1:Int))),(ZLo (cbS C i+2*(↑(C i).1:Int) - 3)),(ZHi (cbS C i+2*(↑(C i).1:Int) - 3)),(ZLo ((↑i:Int)+1)),(ZHi ((↑i:Int)+1)),(AI ((↑N:Int))),(AN nb),(AP nb (bRw g)),(AN 0),(((cbS C i+2*(↑(C i).1:Int) - 3):Int)=(cbS C (i+1))),(AN 0),(AN cn),(AI ((↑cn:Int))),((((↑i:Int)+1):Int)=(↑(i+1):Int)),(AN 2),(NL 1 1),(NL 1 1),(AI ((↑N:Int))),(AN nb),(AP nb (bRw g)),(AN 1),(NL cn cn),(AA cn (fun i_1=>[.p (.seq false 1 ((C i_1).1) (fun i_2=>[.int .i64 ((C i_1).2 i_2)]))]))]):=by kernel_rfl
theorem kIe (g:Nat→T_Bar) (nb N cn:Nat) (C:Nat→T_IntS) (i:Nat) :
    zP Try.f40 0 [rg 1,.dec false,rg 2] zf40 (SKi g nb N cn C i) [] 1 [] (.p (.int .i64 (cbS C i))) =
    some [((decide ((↑i:Int)<(↑cn:Int)))=false),(AI ((cbS C i)))]:=by kernel_rfl
noncomputable def cbF (v:T_Graph):Int:=if isGraphF v=true then cbS (compsG v).2 (compsG v).1 else -1
theorem cbS_le {N:Nat} (C:Nat→T_IntS):∀ n,(∀ j,j<n→(C j).1≤N)→-3*(n:Int)≤cbS C n∧cbS C n≤2*N*n
  | 0,_=>by simp [cbS]
  | n+1,h=>by
    obtain ⟨h1,h2⟩:=cbS_le (N:=N) C n (fun j hj=>h j (by omega))
    have h3:=h n (by omega)
    simp only [cbS]
    have e:2*(N:Int)*((n+1:Nat):Int)=2*N*n+2*N:=by
      rw [Int.natCast_succ,Int.mul_add,Int.mul_one]
    rw [e]
    constructor<;>omega
theorem con_CountByBodies_i (v:T_Graph) (hs:smS s_Graph v):zE 40 [graphA v] [] (.p (.int .i64 (cbF v))):=by
  cases hg:isGraphF v with
  | false =>
    have hcg:=con_IsGraph_i v hs
    rw [hg] at hcg
    rw [show cbF v = -1 by simp [cbF,hg]]
    refine csZ Try.func40 (fun c hc=>?_)
    refine pkZ Try.func40 hc (kIy v) ?_
    and_intros
    all_goals (first | exact zN | (exact hcg) | (simp;done))
  | true =>
    obtain ⟨N,nb,g,rfl⟩:=graph_cases v hg
    have hcg:=con_IsGraph_i _ hs
    rw [hg] at hcg
    have hcs:=con_ComponentsOf_i hg
    obtain ⟨hN,hnb,_⟩:=graph_in hg
    obtain ⟨hcn,hC⟩:=compsD_le N nb g nb
    rw [show cbF ((N:Int),(nb,g),())=cbS (compsD N nb g nb).2 (compsD N nb g nb).1 by simp [cbF,compsG,hg]]
    refine csZ Try.func40 (fun c hc=>?_)
    have lp:∀ d i,i+d=(compsD N nb g nb).1→zR c 40 zf40 (SKi g nb N (compsD N nb g nb).1 (compsD N nb g nb).2 i) (Post c [] (.p (.int .i64 (cbS (compsD N nb g nb).2 (compsD N nb g nb).1)))):=by
      intro d
      induction d with
      | zero =>
        intro i hi
        have hi':i=(compsD N nb g nb).1:=by omega
        have hd:decide ((i:Int)<((compsD N nb g nb).1:Int))=false:=by simp;omega
        rw [← hi']
        refine pkZ Try.func40 hc (kIe g nb N _ (compsD N nb g nb).2 i) ?_
        and_intros
        all_goals (first | exact zN | (rw [← hi'];simp;done) | (exact hd) | (simp;done))
      | succ d ih =>
        intro i hi
        have hd:decide ((i:Int)<((compsD N nb g nb).1:Int))=true:=by simp;omega
        have hb:=cbS_le (N:=8) (compsD N nb g nb).2 i (fun j hj=>by have:=hC j (by omega);omega)
        have hl:=hC i (by omega)
        refine pcZ hc (kIl g nb N _ (compsD N nb g nb).2 i) ?_ (ih (i+1) (by omega))
        and_intros
        all_goals (first | exact zN | (exact hd) | (simp only [cbS];omega) | (intro j hj;simp [All]))
    refine pcD hc (kIz g nb N _ (compsD N nb g nb).2) ?_ (lp (compsD N nb g nb).1 0 (by omega))
    and_intros
    all_goals (first | exact zN | (exact hcg) | (exact hcs) | (intro j hj;simp [All]))
noncomputable def ownR (N nb:Nat) (g:Nat→T_Bar) (e p:Nat):Bool:=bif impB N nb g (g e).1 p then impB N nb g (g e).2.1 p else false
def memR (S:T_IntS) (p:Nat):Bool:=hasI S.2 (p:Int) S.1
def cntS (f:Nat→Int) (q:Int→Bool):Nat→Nat
  | 0=>0
  | n+1=>cntS f q n+(q (f n)).toNat
theorem hasI_cgr {f h:Nat→Int} {x:Int}:∀ n,(∀ s,s<n→f s=h s)→hasI f x n=hasI h x n
  | 0,_=>rfl
  | n+1,e=>by simp only [hasI];rw [hasI_cgr n (fun s hs=>e s (by omega)),e n (by omega)]
theorem cntS_congr {f h:Nat→Int} {q:Int→Bool}:∀ n,(∀ s,s<n→f s=h s)→cntS f q n=cntS h q n
  | 0,_=>rfl
  | n+1,e=>by simp only [cntS];rw [cntS_congr n (fun s hs=>e s (by omega)),e n (by omega)]
theorem snocI_at (n:Nat) (f:Nat→Int) (p:Int):snocI n f p n=p:=by simp [snocI]
theorem snocI_lt {n:Nat} {f:Nat→Int} {p:Int} {s:Nat} (h:s<n):snocI n f p s=f s:=by simp [snocI,h]
theorem compD_t {N nb:Nat} {g:Nat→T_Bar} {e p:Nat} (h:ownR N nb g e p=true):compD N nb g e (p+1)=((compD N nb g e p).1+1,snocI (compD N nb g e p).1 (compD N nb g e p).2 p):=by
  unfold ownR at h
  simp only [compD];rw [if_pos h]
theorem compD_f {N nb:Nat} {g:Nat→T_Bar} {e p:Nat} (h:ownR N nb g e p=false):compD N nb g e (p+1)=compD N nb g e p:=by
  unfold ownR at h
  simp only [compD];rw [if_neg (by simp [h])]
theorem compD_mem (N nb:Nat) (g:Nat→T_Bar) (e x:Nat):∀ P,memR (compD N nb g e P) x=(decide (x<P)&&ownR N nb g e x)
  | 0=>by simp [memR,compD,hasI]
  | P+1=>by
    have ih:=compD_mem N nb g e x P
    cases h:ownR N nb g e P with
    | false =>
      rw [compD_f h,ih]
      by_cases e':x=P
      · subst e';simp [h]
      · have:decide (x<P+1)=decide (x<P):=by simp;omega
        rw [this]
    | true =>
      rw [compD_t h]
      unfold memR at ih ⊢
      show (hasI (snocI _ _ _) (x:Int) (compD N nb g e P).1||snocI _ _ _ (compD N nb g e P).1==(x:Int))=_
      rw [hasI_cgr (h:=(compD N nb g e P).2) _ (fun s hs=>snocI_lt hs),ih,snocI_at]
      by_cases e':x=P
      · subst e';simp [h]
      · have e1:decide (x<P+1)=decide (x<P):=by simp;omega
        have e2:((P:Int)==(x:Int))=false:=beq_eq_false_iff_ne.2 (by omega)
        rw [e1,e2,Bool.or_false]
theorem compD_cnt (N nb:Nat) (g:Nat→T_Bar) (e:Nat) (q:Int→Bool):∀ P,cntS (compD N nb g e P).2 q (compD N nb g e P).1=Mat.cardR (fun p=>ownR N nb g e p&&q (p:Int)) P
  | 0=>rfl
  | P+1=>by
    have ih:=compD_cnt N nb g e q P
    cases h:ownR N nb g e P with
    | false=>rw [compD_f h,ih];simp [Mat.cardR,h]
    | true =>
      rw [compD_t h]
      show cntS (snocI _ _ _) q (compD N nb g e P).1+(q (snocI _ _ _ (compD N nb g e P).1)).toNat=_
      rw [cntS_congr (h:=(compD N nb g e P).2) _ (fun s hs=>snocI_lt hs),ih,snocI_at]
      simp [Mat.cardR,h]
theorem compD_card (N nb:Nat) (g:Nat→T_Bar) (e:Nat):∀ P,(compD N nb g e P).1=Mat.cardR (ownR N nb g e) P
  | 0=>rfl
  | P+1=>by
    have ih:=compD_card N nb g e P
    cases h:ownR N nb g e P with
    | false=>rw [compD_f h,ih];simp [Mat.cardR,h]
    | true =>
      rw [compD_t h]
      show (compD N nb g e P).1+1=_
      rw [ih];simp [Mat.cardR,h]
theorem compD_same {N nb:Nat} {g:Nat→T_Bar} {e d:Nat}:∀ P,(∀ p,p<P→ownR N nb g e p=ownR N nb g d p)→compD N nb g e P=compD N nb g d P
  | 0,_=>rfl
  | P+1,h=>by
    have ih:=compD_same P (fun p hp=>h p (by omega))
    have h1:=h P (by omega)
    cases h2:ownR N nb g d P with
    | false=>rw [compD_f h2,compD_f (h1.trans h2),ih]
    | true=>rw [compD_t h2,compD_t (h1.trans h2),ih]
theorem card_congr {R S:Nat→Bool}:∀ n,(∀ v,v<n→R v=S v)→Mat.cardR R n=Mat.cardR S n
  | 0,_=>rfl
  | n+1,h=>by simp only [Mat.cardR];rw [card_congr n (fun v hv=>h v (by omega)),h n (by omega)]
theorem cnt_congrN {N:Nat} {R S:Nat→Bool} (h:∀ v,v<N→R v=S v):∀ l:List (Nat×Nat),(∀ x∈l,Mat.GoodBar N x)→Mat.cnt R l=Mat.cnt S l
  | [],_=>rfl
  | x::l,hl=>by
    have hx:=hl x (by simp)
    simp only [Mat.cnt,Mat.inn]
    rw [cnt_congrN h l (fun y hy=>hl y (by simp [hy])),h _ hx.2.1,h _ hx.2.2]
theorem tight_congr {N:Nat} {I:List (Nat×Nat)} {R S:Nat→Bool} (hI:∀ x∈I,Mat.GoodBar N x) (h:∀ v,v<N→R v=S v):Mat.Tight N I R↔Mat.Tight N I S:=by
  unfold Mat.Tight
  rw [cnt_congrN h I hI,card_congr N h]
noncomputable def basI (N nb:Nat) (g:Nat→T_Bar):List (Nat×Nat):=Mat.greedy N 2 3 [] (bL g nb)
theorem bas_good {N nb:Nat} {g:Nat→T_Bar} (h:OkBars N nb g):∀ x∈basI N nb g,Mat.GoodBar N x:=by
  intro x hx
  obtain ⟨t,h1,h2⟩:=Mat.greedy_pre N 2 3 (bL g nb) []
  unfold basI at hx
  rw [h1] at hx
  exact bL_good h x (h2 x (by simpa using hx))
theorem bas_sub {N nb:Nat} {g:Nat→T_Bar}:∀ x∈basI N nb g,x∈bL g nb:=by
  intro x hx
  obtain ⟨t,h1,h2⟩:=Mat.greedy_pre N 2 3 (bL g nb) []
  unfold basI at hx
  rw [h1] at hx
  exact h2 x (by simpa using hx)
theorem bas_sparse (N nb:Nat) (g:Nat→T_Bar):Mat.Sparse N 2 3 (basI N nb g):=Mat.greedy_sparse N 2 3 _ _ (Mat.sparse_nil N 2 3)
theorem imp_iff {N nb:Nat} {g:Nat→T_Bar} (hok:OkBars N nb g) {a b:Nat} (ha:a<N) (hb:b<N):impB N nb g (a:Int) (b:Int)=true↔a=b∨Mat.Imp N (basI N nb g) a b:=by
  rw [impB_iff hok (by omega) (by omega)]
  by_cases e:a=b
  · subst e;simp
  · rw [show ((a:Int).toNat)=a by omega,show ((b:Int).toNat)=b by omega,Mat.rk_same_iff (bL_good hok) ⟨e,ha,hb⟩]
    constructor
    · rintro (h | h)
      · exact absurd (by omega) e
      · exact .inr h
    · rintro (h | h)
      · exact absurd h e
      · exact .inr h
theorem own_spec {N nb:Nat} {g:Nat→T_Bar} (hok:OkBars N nb g) {e:Nat} (he:e<nb) :
    Mat.Tight N (basI N nb g) (ownR N nb g e)∧ownR N nb g e (g e).1.toNat=true∧ownR N nb g e (g e).2.1.toNat=true ∧
    ∀ S,Mat.Tight N (basI N nb g) S→S (g e).1.toNat=true→S (g e).2.1.toNat=true→∀ p,p<N→S p=true→ownR N nb g e p=true:=by
  have hb:=hok e he
  obtain ⟨a,ha⟩:∃ a:Nat,(g e).1=(a:Int):=⟨(g e).1.toNat,by omega⟩
  obtain ⟨b,hb'⟩:∃ b:Nat,(g e).2.1=(b:Int):=⟨(g e).2.1.toNat,by omega⟩
  have hI:=bas_sparse N nb g
  have hin:∃ R,Mat.Tight N (basI N nb g) R∧Mat.inn R (a,b)=true:=by
    have:=Mat.greedy_tight (N:=N) (bL g nb) [] (bL_good hok) (Mat.sparse_nil N 2 3) (a,b) ((bL_mem g _ nb).2 ⟨e,he,by simp [brN,ha,hb']⟩)
    exact this
  obtain ⟨B,b1,b2,b3⟩:=Mat.biggest (a,b) hin
  simp only [Mat.inn,Bool.and_eq_true] at b2
  have haN:a<N:=by omega
  have hbN:b<N:=by omega
  have hab:a≠b:=by omega
  have hown:∀ p,p<N→(ownR N nb g e p=true↔B p=true):=by
    intro p hp
    have e0:ownR N nb g e p=true↔(a=p∨Mat.Imp N (basI N nb g) a p)∧(b=p∨Mat.Imp N (basI N nb g) b p):=by
      rw [← imp_iff hok haN hp,← imp_iff hok hbN hp]
      unfold ownR
      rw [ha,hb']
      cases impB N nb g (a:Int) (p:Int)<;>simp
    rw [e0]
    constructor
    · rintro ⟨h1,h2⟩
      by_cases e1:a=p
      · subst e1;exact b2.1
      by_cases e2:b=p
      · subst e2;exact b2.2
      have h1:=h1.resolve_left e1
      have h2:=h2.resolve_left e2
      obtain ⟨R,t,r1,r2,r3⟩:=Mat.tight_tri hI haN hbN hp hab e1 e2 ⟨B,b1,b2.1,b2.2⟩ h1 h2
      have tu:=Mat.tight_union hI b1 t a b hab haN hbN b2.1 b2.2 r1 r2
      have hc:=b3 _ tu (by simp [Mat.inn,Mat.uni,b2.1,b2.2])
      exact Mat.card_eq B (Mat.uni B R) (fun v hv=>by simp [Mat.uni,hv]) N hc p hp (by simp [Mat.uni,r3])
    · intro h
      exact ⟨.inr ⟨B,b1,b2.1,h⟩,.inr ⟨B,b1,b2.2,h⟩⟩
  have hbe:∀ v,v<N→ownR N nb g e v=B v:=fun v hv=>by
    have:=hown v hv
    cases h1:ownR N nb g e v<;>cases h2:B v<;>simp_all
  refine ⟨(tight_congr (bas_good hok) hbe).2 b1,?_,?_,fun S t s1 s2 p hp hs=>?_⟩
  · rw [show (g e).1.toNat=a by omega];exact (hown a haN).2 b2.1
  · rw [show (g e).2.1.toNat=b by omega];exact (hown b hbN).2 b2.2
  · rw [show (g e).1.toNat=a by omega] at s1
    rw [show (g e).2.1.toNat=b by omega] at s2
    have tu:=Mat.tight_union hI b1 t a b hab haN hbN b2.1 b2.2 s1 s2
    have hc:=b3 _ tu (by simp [Mat.inn,Mat.uni,b2.1,b2.2])
    exact (hown p hp).2 (Mat.card_eq B (Mat.uni B S) (fun v hv=>by simp [Mat.uni,hv]) N hc p hp (by simp [Mat.uni,hs]))
theorem own_two {N nb:Nat} {g:Nat→T_Bar} (hok:OkBars N nb g) {e d:Nat} (he:e<nb) (hd:d<nb) (h:2≤Mat.cardR (Mat.cap2 (ownR N nb g e) (ownR N nb g d)) N) :
    compD N nb g e N=compD N nb g d N:=by
  obtain ⟨t1,a1,b1,m1⟩:=own_spec hok he
  obtain ⟨t2,a2,b2,m2⟩:=own_spec hok hd
  have tu:=Mat.tight_union2 (bas_sparse N nb g) t1 t2 h
  refine compD_same N (fun p hp=>?_)
  have k1:=m1 _ tu (by simp [Mat.uni,a1]) (by simp [Mat.uni,b1]) p hp
  have k2:=m2 _ tu (by simp [Mat.uni,a2]) (by simp [Mat.uni,b2]) p hp
  simp only [Mat.uni,Bool.or_eq_true] at k1 k2
  cases h1:ownR N nb g e p<;>cases h2:ownR N nb g d p<;>simp_all
theorem qI_refl (u:T_IntS):q_IntS u u=true:=by
  have:∀ n,qT_IntS u.2 u.2 n=true:=fun n=>by
    induction n with
    | zero=>rfl
    | succ n ih=>simp [qT_IntS,ih,q1_IntS]
  simp [q_IntS,this]
theorem qT_at {f h:Nat→Int}:∀ {n:Nat},qT_IntS f h n=true→∀ s,s<n→f s=h s
  | 0,_,s,hs=>absurd hs (Nat.not_lt_zero _)
  | n+1,e,s,hs=>by
    simp only [qT_IntS,Bool.and_eq_true,q1_IntS,beq_iff_eq] at e
    by_cases e':s=n
    · subst e';exact e.2
    · exact qT_at e.1 s (by omega)
theorem qI_at {u v:T_IntS} (h:q_IntS u v=true):u.1=v.1∧∀ s,s<u.1→u.2 s=v.2 s:=by
  unfold q_IntS at h
  split at h
  · exact ⟨by assumption,qT_at h⟩
  · cases h
theorem knF_iff (C:Nat→T_IntS) (c:T_IntS):∀ n,knF C c n=true↔∃ j,j<n∧q_IntS (C j) c=true
  | 0=>by simp [knF]
  | n+1=>by
    have ih:=knF_iff C c n
    simp only [knF]
    constructor
    · intro h
      cases hk:knF C c n with
      | true=>obtain ⟨j,h1,h2⟩:=ih.1 hk;exact ⟨j,by omega,h2⟩
      | false=>rw [hk,cond_false] at h;exact ⟨n,by omega,h⟩
    · rintro ⟨j,h1,h2⟩
      by_cases e:j=n
      · subst e;rw [h2];cases knF C c j<;>rfl
      · rw [ih.2 ⟨j,by omega,h2⟩];rfl
theorem snocC_lt {n:Nat} {C:Nat→T_IntS} {c:T_IntS} {i:Nat} (h:i<n):snocC n C c i=C i:=by simp [snocC,h]
theorem snocC_at (n:Nat) (C:Nat→T_IntS) (c:T_IntS):snocC n C c n=c:=by simp [snocC]
theorem comps_spec (N nb:Nat) (g:Nat→T_Bar):∀ E,(∀ j,j<(compsD N nb g E).1→∃ e,e<E∧(compsD N nb g E).2 j=compD N nb g e N) ∧
    (∀ e,e<E→∃ j,j<(compsD N nb g E).1∧q_IntS ((compsD N nb g E).2 j) (compD N nb g e N)=true) ∧
    (∀ i j,j<i→i<(compsD N nb g E).1→q_IntS ((compsD N nb g E).2 j) ((compsD N nb g E).2 i)=false)
  | 0=>⟨fun j hj=>absurd hj (Nat.not_lt_zero _),fun e he=>absurd he (Nat.not_lt_zero _),fun i j _ hi=>absurd hi (Nat.not_lt_zero _)⟩
  | E+1=>by
    obtain ⟨h1,h2,h3⟩:=comps_spec N nb g E
    simp only [compsD]
    by_cases hk:knF (compsD N nb g E).2 (compD N nb g E N) (compsD N nb g E).1=true
    · rw [if_pos hk]
      refine ⟨fun j hj=>?_,fun e he=>?_,h3⟩
      · obtain ⟨e,e1,e2⟩:=h1 j hj;exact ⟨e,by omega,e2⟩
      · by_cases e':e=E
        · subst e';exact (knF_iff _ _ _).1 hk
        · exact h2 e (by omega)
    · rw [if_neg hk]
      generalize (compsD N nb g E).1=n at h1 h2 h3 hk ⊢
      generalize (compsD N nb g E).2=C at h1 h2 h3 hk ⊢
      refine ⟨fun j hj=>?_,fun e he=>?_,fun i j hji hi=>?_⟩
      · by_cases e':j<n
        · obtain ⟨e,e1,e2⟩:=h1 j e'
          exact ⟨e,by omega,by show snocC n C _ j=_;rw [snocC_lt e'];exact e2⟩
        · have:j=n:=by have:j<n+1:=hj;omega
          subst this
          exact ⟨E,by omega,snocC_at _ _ _⟩
      · by_cases e':e=E
        · subst e';exact ⟨n,Nat.lt_succ_self n,by show q_IntS (snocC n C _ n) _=true;rw [snocC_at];exact qI_refl _⟩
        · obtain ⟨j,j1,j2⟩:=h2 e (by omega)
          exact ⟨j,by show j<n+1;omega,by show q_IntS (snocC n C _ j) _=true;rw [snocC_lt j1];exact j2⟩
      · show q_IntS (snocC n C _ j) (snocC n C _ i)=false
        have hi':i<n+1:=hi
        rw [snocC_lt (show j<n by omega)]
        by_cases e':i<n
        · rw [snocC_lt e'];exact h3 i j hji e'
        · have:i=n:=by omega
          subst this
          rw [snocC_at]
          cases hq:q_IntS (C j) (compD N nb g E N) with
          | false=>rfl
          | true=>exact absurd ((knF_iff _ _ _).2 ⟨j,hji,hq⟩) hk
theorem mem_q {u v:T_IntS} (h:q_IntS u v=true) (p:Nat):memR u p=memR v p:=by
  obtain ⟨h1,h2⟩:=qI_at h
  unfold memR
  rw [hasI_cgr u.1 h2,h1]
theorem comps_common {N nb:Nat} {g:Nat→T_Bar} (hok:OkBars N nb g) {i j:Nat} (hji:j<i) (hi:i<(compsD N nb g nb).1) :
    Mat.cardR (Mat.cap2 (memR ((compsD N nb g nb).2 i)) (memR ((compsD N nb g nb).2 j))) N≤1:=by
  obtain ⟨h1,h2,h3⟩:=comps_spec N nb g nb
  obtain ⟨e,e1,e2⟩:=h1 i hi
  obtain ⟨d,d1,d2⟩:=h1 j (by omega)
  have hq:=h3 i j hji hi
  rw [e2,d2] at hq ⊢
  by_cases h:Mat.cardR (Mat.cap2 (memR (compD N nb g e N)) (memR (compD N nb g d N))) N≤1
  · exact h
  · exfalso
    have hc:Mat.cardR (Mat.cap2 (memR (compD N nb g e N)) (memR (compD N nb g d N))) N=Mat.cardR (Mat.cap2 (ownR N nb g e) (ownR N nb g d)) N :=
      card_congr N (fun v hv=>by simp only [Mat.cap2];rw [compD_mem,compD_mem];simp [hv])
    have:=own_two hok e1 d1 (by omega)
    rw [this,qI_refl] at hq
    cases hq
theorem comps_cnt {N nb:Nat} {g:Nat→T_Bar} (hok:OkBars N nb g) {i j:Nat} (hji:j<i) (hi:i<(compsD N nb g nb).1) :
    cntS ((compsD N nb g nb).2 i).2 (fun x=>hasI ((compsD N nb g nb).2 j).2 x ((compsD N nb g nb).2 j).1) ((compsD N nb g nb).2 i).1≤1:=by
  have h:=comps_common hok hji hi
  obtain ⟨h1,_,_⟩:=comps_spec N nb g nb
  obtain ⟨e,e1,e2⟩:=h1 i hi
  generalize (compsD N nb g nb).2 j=D at h ⊢
  rw [e2] at h ⊢
  rw [compD_cnt]
  rw [card_congr (R:=fun p=>ownR N nb g e p&&hasI D.2 (p:Int) D.1) (S:=Mat.cap2 (memR (compD N nb g e N)) (memR D)) N (fun v hv=>by
    simp only [Mat.cap2];rw [compD_mem];simp [hv,memR])]
  exact h
def famC (C:Nat→T_IntS):Nat→List (Nat→Bool)
  | 0=>[]
  | n+1=>memR (C n)::famC C n
theorem homes_le (C:Nat→T_IntS) (x:Nat×Nat):∀ n,(∀ i j,j<i→i<n→¬ (Mat.inn (memR (C i)) x=true∧Mat.inn (memR (C j)) x=true)) →
    ((∃ j,j<n∧Mat.inn (memR (C j)) x=true)→Mat.homes x (famC C n)=1)∧((∀ j,j<n→Mat.inn (memR (C j)) x=false)→Mat.homes x (famC C n)=0)
  | 0,_=>⟨fun ⟨j,hj,_⟩=>absurd hj (Nat.not_lt_zero _),fun _=>rfl⟩
  | n+1,h=>by
    obtain ⟨i1,i2⟩:=homes_le C x n (fun i j hj hi=>h i j hj (by omega))
    simp only [famC,Mat.homes]
    cases hn:Mat.inn (memR (C n)) x with
    | true =>
      have:=i2 (fun j hj=>by
        cases hj':Mat.inn (memR (C j)) x with
        | false=>rfl
        | true=>exact absurd ⟨hn,hj'⟩ (h n j hj (by omega)))
      rw [this]
      exact ⟨fun _=>rfl,fun hh=>by have:=hh n (by omega);rw [hn] at this;cases this⟩
    | false =>
      refine ⟨fun ⟨j,hj,hx⟩=>?_,fun hh=>?_⟩
      · have:j≠n:=fun e=>by rw [e,hn] at hx;cases hx
        rw [i1 ⟨j,by omega,hx⟩];rfl
      · rw [i2 (fun j hj=>hh j (by omega))];rfl
theorem comps_homes {N nb:Nat} {g:Nat→T_Bar} (hok:OkBars N nb g):∀ x∈bL g nb,Mat.homes x (famC (compsD N nb g nb).2 (compsD N nb g nb).1)=1:=by
  intro x hx
  have hgood:=bL_good hok x hx
  obtain ⟨e,he,hxe⟩:=(bL_mem g x nb).1 hx
  obtain ⟨h1,h2,h3⟩:=comps_spec N nb g nb
  have hdis:∀ i j,j<i→i<(compsD N nb g nb).1→¬ (Mat.inn (memR ((compsD N nb g nb).2 i)) x=true∧Mat.inn (memR ((compsD N nb g nb).2 j)) x=true):=by
    intro i j hji hi ⟨a1,a2⟩
    have h:=comps_common hok hji hi
    simp only [Mat.inn,Bool.and_eq_true] at a1 a2
    have:=Mat.card_two (Mat.cap2 (memR ((compsD N nb g nb).2 i)) (memR ((compsD N nb g nb).2 j))) x.1 x.2 (by simp [Mat.cap2,a1.1,a2.1]) (by simp [Mat.cap2,a1.2,a2.2]) hgood.1 N hgood.2.1 hgood.2.2
    omega
  refine (homes_le _ x _ hdis).1 ?_
  obtain ⟨j,j1,j2⟩:=h2 e he
  refine ⟨j,j1,?_⟩
  obtain ⟨_,o1,o2,_⟩:=own_spec hok he
  have hb:=hok e he
  simp only [Mat.inn,← hxe,brN,mem_q j2,compD_mem,Bool.and_eq_true,decide_eq_true_eq]
  exact ⟨⟨by omega,o1⟩,⟨by omega,o2⟩⟩
theorem bL_len (g:Nat→T_Bar):∀ n,(bL g n).length=n
  | 0=>rfl
  | n+1=>by simp [bL,bL_len g n]
theorem comps_rank {N nb:Nat} {g:Nat→T_Bar} (hok:OkBars N nb g):cbS (compsD N nb g nb).2 (compsD N nb g nb).1=((accI N 2 3 g nb).length:Int):=by
  have ht:∀ j,j<(compsD N nb g nb).1→Mat.Tight N (basI N nb g) (memR ((compsD N nb g nb).2 j))∧((compsD N nb g nb).2 j).1=Mat.cardR (memR ((compsD N nb g nb).2 j)) N:=by
    intro j hj
    obtain ⟨e,e1,e2⟩:=(comps_spec N nb g nb).1 j hj
    rw [e2]
    have hc:∀ v,v<N→memR (compD N nb g e N) v=ownR N nb g e v:=fun v hv=>by rw [compD_mem];simp [hv]
    exact ⟨(tight_congr (bas_good hok) hc).2 (own_spec hok e1).1,by rw [compD_card,card_congr N hc]⟩
  have h1:=Mat.cntAll_length (famC (compsD N nb g nb).2 (compsD N nb g nb).1) (basI N nb g) (fun x hx=>comps_homes hok x (bas_sub x hx))
  rw [acc_len]
  show _=((basI N nb g).length:Int)
  rw [← h1]
  generalize (compsD N nb g nb).1=n at ht
  generalize (compsD N nb g nb).2=C at ht
  clear h1
  induction n with
  | zero=>rfl
  | succ n ih =>
    have:=ih (fun j hj=>ht j (by omega))
    obtain ⟨t,c⟩:=ht n (by omega)
    unfold Mat.Tight at t
    simp only [cbS,famC,Mat.cntAll]
    rw [this]
    omega
def smK (K:Nat→Nat):Nat→Nat
  | 0=>0
  | n+1=>smK K n+K n
theorem comps_bars {N nb:Nat} {g:Nat→T_Bar} (hok:OkBars N nb g):smK (fun i=>Mat.cnt (memR ((compsD N nb g nb).2 i)) (bL g nb)) (compsD N nb g nb).1=nb:=by
  have h1:=Mat.cntAll_length (famC (compsD N nb g nb).2 (compsD N nb g nb).1) (bL g nb) (comps_homes hok)
  rw [bL_len] at h1
  refine Eq.trans ?_ h1
  clear h1
  generalize (compsD N nb g nb).1=n
  generalize (compsD N nb g nb).2=C
  generalize bL g nb=l
  induction n with
  | zero=>rfl
  | succ n ih=>simp only [smK,famC,Mat.cntAll];rw [ih];omega
def SHl (v:T_IntS) (x:Int) (k:Nat):St :=
  ⟨[inL v,.p (.int .i64 x),.p .any,.p .any,.p .any,.p (.int .i64 k)]++List.replicate 12 anyA,[],0⟩
def SSi (v u:T_IntS) (k:Nat):St :=
  ⟨[.p (.seq true 1 v.1 (fun i=>[.int .i64 (v.2 i)])),.p (.seq true 1 u.1 (fun i=>[.int .i64 (u.2 i)])),.p .any,.p .any,.p .any,.p (.int .i64 k)]++List.replicate 20 anyA,[],0⟩
def SSs (n:Nat) (C:Nat→T_IntS) (k:Nat):St :=
  ⟨[ssL n C,ssL n C,.p .any,.p .any,.p .any,.p (.int .i64 k)]++List.replicate 21 anyA,[],0⟩
theorem pHla (v:T_IntS) (x:Int) :
    zT Try.f37 [rg 1,rg 1,.head] [inL v,.p (.int .i64 x)] [] (SHl v x 0) =
    some (zf73,[(AN v.1),(AP v.1 (iRw v)),(AI x),((0:Int)=(↑0:Int))]):=by kernel_rfl
theorem pHlb (v:T_IntS) (x:Int) (k:Nat) :
    zM 0 [rg 4,.dec true,rg 6,.dec false,rg 3,.head] zf73 (SHl v x k) [] 1 (SHl v x (k+1)) =
    some (zf73,[((decide ((↑k:Int)<(↑v.1:Int)))=true),(IL 0 (↑k:Int)),(IT (↑k:Int) (↑v.1:Int)),((v.2 k==x)=false),(ZLo ((↑k:Int)+1)),(ZHi ((↑k:Int)+1)),(AN v.1),(AP v.1 (iRw v)),(AI x),((((↑k:Int)+1):Int)=(↑(k+1):Int))]):=by kernel_rfl
theorem pHlc (v:T_IntS) (x:Int) (k:Nat) :
    zP Try.f37 0 [rg 4,.dec true,rg 6,.dec true,rg 1] zf73 (SHl v x k) [] 1 [] (.p (.bool true)) =
    some [((decide ((↑k:Int)<(↑v.1:Int)))=true),(IL 0 (↑k:Int)),(IT (↑k:Int) (↑v.1:Int)),((v.2 k==x)=true),(true=true)]:=by kernel_rfl
theorem pHld (v:T_IntS) (x:Int) (k:Nat) :
    zP Try.f37 0 [rg 4,.dec false,rg 1] zf73 (SHl v x k) [] 1 [] (.p (.bool false)) =
    some [((decide ((↑k:Int)<(↑v.1:Int)))=false),(false=false)]:=by kernel_rfl
theorem pSi_z (v u:T_IntS) :
    zS Try.f46 [rg 1,rg 5,.dec true,rg 1] [.p (.seq true 1 v.1 (iRw v)),.p (.seq true 1 u.1 (iRw u))] [] [] (.p (.bool false)) =
    some [(((↑v.1:Int) != (↑u.1:Int))=true),(false=false)]:=by kernel_rfl
theorem pSi_a (v u:T_IntS) :
    zT Try.f46 [rg 1,rg 5,.dec false,rg 1,.head] [.p (.seq true 1 v.1 (iRw v)),.p (.seq true 1 u.1 (iRw u))] [] (SSi v u 0) =
    some (zf58,[(((↑v.1:Int) != (↑u.1:Int))=false),(AN v.1),(AP v.1 (iRw v)),(AN u.1),(AP u.1 (iRw u)),((0:Int)=(↑0:Int))]):=by kernel_rfl
theorem pSi_b (v u:T_IntS) (k:Nat) :
    zM 0 [rg 4,.dec true,rg 9,.dec false,rg 3,.head] zf58 (SSi v u k) [] 1 (SSi v u (k+1)) =
    some (zf58,[((decide ((↑k:Int)<(↑v.1:Int)))=true),(IL 0 (↑k:Int)),(IT (↑k:Int) (↑v.1:Int)),(IL 0 (↑k:Int)),(IT (↑k:Int) (↑u.1:Int)),((v.2 k != u.2 k)=false),(ZLo ((↑k:Int)+1)),(ZHi ((↑k:Int)+1)),(AN v.1),(AP v.1 (iRw v)),(AN u.1),(AP u.1 (iRw u)),((((↑k:Int)+1):Int)=(↑(k+1):Int))]):=by kernel_rfl
theorem pSi_c (v u:T_IntS) (k:Nat) :
    zP Try.f46 0 [rg 4,.dec true,rg 9,.dec true,rg 1] zf58 (SSi v u k) [] 1 [] (.p (.bool false)) =
    some [((decide ((↑k:Int)<(↑v.1:Int)))=true),(IL 0 (↑k:Int)),(IT (↑k:Int) (↑v.1:Int)),(IL 0 (↑k:Int)),(IT (↑k:Int) (↑u.1:Int)),((v.2 k != u.2 k)=true),(false=false)]:=by kernel_rfl
theorem pSi_d (v u:T_IntS) (k:Nat) :
    zP Try.f46 0 [rg 4,.dec false,rg 1] zf58 (SSi v u k) [] 1 [] (.p (.bool true)) =
    some [((decide ((↑k:Int)<(↑v.1:Int)))=false),(true=true)]:=by kernel_rfl
theorem pSsa (n:Nat) (C:Nat→T_IntS) :
    zT Try.f30 [rg 1,rg 5,.dec false,rg 1,.head] [ssL n C,ssL n C] [] (SSs n C 0) =
    some (zf59,zD [(((↑n:Int) != (↑n:Int))=false),(AN n),(AP n (fun i=>[.seq true 1 ((C i).1) (fun i_1=>[.int .i64 ((C i).2 i_1)])])),((0:Int)=(↑0:Int))] [0,1,2,1,2,3]):=by kernel_rfl
theorem pSsb (n:Nat) (C:Nat→T_IntS) (k:Nat) :
    zM 0 [rg 4,.dec true,rm [(8,oc [] (.p (.bool true)))] 1,.dec false,rg 3,.head] zf59 (SSs n C k) [] 1 (SSs n C (k+1)) =
    some (zf59,zD [((decide ((↑k:Int)<(↑n:Int)))=true),(IL 0 (↑k:Int)),(IT (↑k:Int) (↑n:Int)),zE 46 [.p (.seq true 1 ((C k).1) (fun i=>[.int .i64 ((C k).2 i)])),.p (.seq true 1 ((C k).1) (fun i=>[.int .i64 ((C k).2 i)]))] [] (.p (.bool true)),((!true)=false),(ZLo ((↑k:Int)+1)),(ZHi ((↑k:Int)+1)),(AN n),(AP n (fun i=>[.seq true 1 ((C i).1) (fun i_1=>[.int .i64 ((C i).2 i_1)])])),((((↑k:Int)+1):Int)=(↑(k+1):Int))] [0,1,2,1,2,3,4,5,6,7,8,7,8,9]):=by kernel_rfl
theorem pSsd (n:Nat) (C:Nat→T_IntS) (k:Nat) :
    zP Try.f30 0 [rg 4,.dec false,rg 1] zf59 (SSs n C k) [] 1 [] (.p (.bool true)) =
    some [((decide ((↑k:Int)<(↑n:Int)))=false),(true=true)]:=by kernel_rfl
theorem jmS (v:T_Graph) (a b:Int) (q:Bool) :
    zS Try.f55 [rg 2,rm [(1,oc [] (.p (.bool q)))] 21,.dec true,rg 1] [graphA v,.p (.int .i64 a),.p (.int .i64 b)] [] [] (.p (.bool false)) =
    some (zD [(NT 0 1),zE 38 [(zf77 v)] [] (.p (.bool q)),(AG (!!q)),(((!q)=false)→ ((!!q)=true)),(AG (!bif !q then true else decide (a<0))),(((bif !q then true else decide (a<0))=false)→ ((!bif !q then true else decide (a<0))=true)),(AG (!bif bif !q then true else decide (a<0) then true else decide (b<0))),(((!bif bif !q then true else decide (a<0) then true else decide (b<0))=true)→(NT 0 1)),(((bif bif !q then true else decide (a<0) then true else decide (b<0))=false)→ ((!bif bif !q then true else decide (a<0) then true else decide (b<0))=true)),(AG (!bif bif bif !q then true else decide (a<0) then true else decide (b<0) then true else decide (a≥v.1))),(((!bif bif bif !q then true else decide (a<0) then true else decide (b<0) then true else decide (a≥v.1))=true)→(NT 0 1)),(((bif bif bif !q then true else decide (a<0) then true else decide (b<0) then true else decide (a≥v.1))=false)→ ((!bif bif bif !q then true else decide (a<0) then true else decide (b<0) then true else decide (a≥v.1))=true)),((bif bif bif bif !q then true else decide (a<0) then true else decide (b<0) then true else decide (a≥v.1) then true else decide (b≥v.1))=true),(false=false)] [0,1,2,3,4,5,6,7,6,6,8,9,10,9,9,11,12,13]):=by kernel_rfl
theorem jmI (v:T_Graph) (a b:Int) (q h1 h2:Bool) (x:T_Bar) (r:Bool) :
    zS Try.f54 [rg 2,rm [(1,oc [] (.p (.bool q))),(3,oc [] (.p (.bool h1))),(4,oc [] (.p (.bool h2))),(12,oc [] (.agg [.p (.int .i64 x.1),.p (.int .i64 x.2.1)])),(0,oc [] (.p (.bool r)))] 4] [graphA v,.p (.int .i64 a),.p (.int .i64 b)] [] [] (.p (.bool (bif (bif (bif q then h1 else false) then h2 else false) then (bif a==b then true else !r) else false))) =
    some (zD [(NT 0 1),zE 24 [(zf77 v)] [] (.p (.bool q)),((q=true)→(NT 0 1)),(AG q),((q=true)→ zE 91 [(zf77 v),.p (.int .i64 a)] [] (.p (.bool h1))),(((bif q then h1 else false)=true)→(NT 0 1)),(AG (bif q then h1 else false)),(((bif q then h1 else false)=true)→ zE 91 [(zf77 v),.p (.int .i64 b)] [] (.p (.bool h2))),(AG (bif bif q then h1 else false then h2 else false)),(AG ((bif bif q then h1 else false then h2 else false)&&!a==b)),((((bif bif q then h1 else false then h2 else false)&&!a==b)=true)→(NT 0 1)),((((bif bif q then h1 else false then h2 else false)&&!a==b)=true)→ zE 70 [.p (.int .i64 a),.p (.int .i64 b)] [] (.agg [.p (.int .i64 x.1),.p (.int .i64 x.2.1)])),((((bif bif q then h1 else false then h2 else false)&&!a==b)=true)→ zE 92 [.p (.int .i64 v.1),.p (.seq true 2 v.2.1.1 (bRw v.2.1.2)),.agg [.p (.int .i64 x.1),.p (.int .i64 x.2.1)]] [] (.p (.bool r))),(((bif bif q then h1 else false then h2 else false)=true)→(((a==b)=false)→ (((bif bif q then h1 else false then h2 else false)&&!a==b)=true))),((bif bif bif q then h1 else false then h2 else false then bif a==b then true else !r else false)=(bif bif bif q then h1 else false then h2 else false then bif a==b then true else !r else false))] [0,1,2,3,3,4,3,5,6,6,7,6,8,8,8,9,10,9,10,9,9,11,9,9,9,12,9,8,13,8,14]):=by kernel_rfl
theorem kmS (v:T_Graph) (e:Int) (q:Bool) :
    zS Try.f53 [rg 2,rg 2,rm [(1,oc [] (.p (.bool q)))] 12,.dec true,rg 2] [graphA v,.p (.int .i64 e)] [64] [(0,iOb 0 (fun _=>0))] (.ar 1 0 0 0) =
    some (zD [(NT 0 1),zE 38 [(zf77 v)] [] (.p (.bool q)),(AG (!!q)),(((!q)=false)→ ((!!q)=true)),(AG (!bif !q then true else decide (e<0))),(((!bif !q then true else decide (e<0))=true)→(NT 0 1)),(((bif !q then true else decide (e<0))=false)→ ((!bif !q then true else decide (e<0))=true)),((bif bif !q then true else decide (e<0) then true else decide (e≥(↑v.2.1.1:Int)))=true),(AN 0),(AN 1),(NL 0 0),(AA 0 (fun i=>[.p (.int .i64 0)])),(AE 0)] [0,1,2,3,4,5,4,4,4,6,7,8,8,9,10,11,12]):=by kernel_rfl
theorem kmI (v:T_Graph) (e:Int) (q w:Bool) :
    zS Try.f52 [rg 2,rg 2,rm [(1,oc [] (.p (.bool q))),(7,oc [] (.p (.bool w)))] 2,.dec true,rg 2] [graphA v,.p (.int .i64 e)] [64] [(0,iOb 0 (fun _=>0))] (.ar 1 0 0 0) =
    some (zD [(NT 0 1),zE 24 [(zf77 v)] [] (.p (.bool q)),(AG (!!q)),(((!!q)=true)→(NT 0 1)),(((!!q)=true)→(ZLo ((↑v.2.1.1:Int) - 1))),(((!!q)=true)→(ZHi ((↑v.2.1.1:Int) - 1))),(((!!q)=true)→ zE 60 [.p (.int .i64 e),.p (.int .i64 0),.p (.int .i64 ((↑v.2.1.1:Int) - 1))] [] (.p (.bool w))),(((!q)=false)→ ((!!q)=true)),((bif !q then true else !w)=true),(AN 0),(AN 1),(NL 0 0),(AA 0 (fun i=>[.p (.int .i64 0)])),(AE 0)] [0,1,2,3,2,2,4,5,2,2,6,2,7,8,9,9,10,11,12,13]):=by kernel_rfl
theorem con_hasL (v:T_IntS) (x:Int) (hn:v.1≤1048576):zE 37 [inL v,.p (.int .i64 x)] [] (.p (.bool (hasI v.2 x v.1))):=by
  refine csZ Try.func37 (fun c hc=>?_)
  have lp:∀ m k,k+m=v.1→hasI v.2 x k=false→zR c 37 zf73 (SHl v x k) (Post c [] (.p (.bool (hasI v.2 x v.1)))):=by
    intro m
    induction m with
    | zero =>
      intro k hk hg
      rw [show hasI v.2 x v.1=false by rw [show v.1=k by omega];exact hg]
      have hd:decide ((k:Int)<(v.1:Int))=false:=by simp;omega
      refine pkZ Try.func37 hc (pHld v x k) ?_
      and_intros
      all_goals (first | exact zN)
    | succ m ih =>
      intro k hk hg
      have hd:decide ((k:Int)<(v.1:Int))=true:=by simp;omega
      cases he:(v.2 k==x) with
      | true =>
        rw [hasI_hit v.2 x k he v.1 (by omega)]
        refine pkZ Try.func37 hc (pHlc v x k) ?_
        and_intros
        all_goals (first | exact zN | (exact he))
      | false =>
        refine pcZ hc (pHlb v x k) ?_ (ih (k+1) (by omega) (by simp only [hasI,hg,he];rfl))
        and_intros
        all_goals (first | exact zN | (exact he))
  refine pcZ hc (pHla v x) ?_ (lp v.1 0 (by omega) rfl)
  and_intros
  all_goals (first | exact zN)
theorem con_sameI (v u:T_IntS) (hv:v.1≤1048576):zE 46 [.p (.seq true 1 v.1 (fun i=>[.int .i64 (v.2 i)])),.p (.seq true 1 u.1 (fun i=>[.int .i64 (u.2 i)]))] [] (.p (.bool (q_IntS v u))):=by
  refine csZ Try.func46 (fun c hc=>?_)
  by_cases hz:v.1=u.1
  · rw [show q_IntS v u=qT_IntS v.2 u.2 v.1 by simp [q_IntS,hz]]
    have lp:∀ m k,k+m=v.1→qT_IntS v.2 u.2 k=true→zR c 46 zf58 (SSi v u k) (Post c [] (.p (.bool (qT_IntS v.2 u.2 v.1)))):=by
      intro m
      induction m with
      | zero =>
        intro k hk hg
        rw [show qT_IntS v.2 u.2 v.1=true by rw [show v.1=k by omega];exact hg]
        have hd:decide ((k:Int)<(v.1:Int))=false:=by simp;omega
        refine pkZ Try.func46 hc (pSi_d v u k) ?_
        and_intros
        all_goals (first | exact zN)
      | succ m ih =>
        intro k hk hg
        have hd:decide ((k:Int)<(v.1:Int))=true:=by simp;omega
        cases he:q1_IntS (v.2 k) (u.2 k) with
        | false =>
          rw [qT_IntS_bad _ _ k he v.1 (by omega)]
          have he':(!q1_IntS (v.2 k) (u.2 k))=true:=notf he
          refine pkZ Try.func46 hc (pSi_c v u k) ?_
          and_intros
          all_goals (first | exact zN | exact he')
        | true =>
          have he':(!q1_IntS (v.2 k) (u.2 k))=false:=nott he
          refine pcZ hc (pSi_b v u k) ?_ (ih (k+1) (by omega) (by simp [qT_IntS,hg,he]))
          and_intros
          all_goals (first | exact zN | exact he')
    refine pcZ hc (pSi_a v u) ?_ (lp v.1 0 (by omega) rfl)
    and_intros
    all_goals (first | exact zN | (simp;omega))
  · rw [show q_IntS v u=false by simp [q_IntS,hz]]
    refine pkZ Try.func46 hc (pSi_z v u) ?_
    and_intros
    all_goals (first | exact zN | (simp;omega))
theorem con_sameS (n:Nat) (C:Nat→T_IntS) (hn:n≤1048576) (hC:∀ i,i<n→(C i).1≤1048576):zE 30 [ssL n C,ssL n C] [] (.p (.bool true)):=by
  refine csZ Try.func30 (fun c hc=>?_)
  have lo:∀ m k,k+m=n→zR c 30 zf59 (SSs n C k) (Post c [] (.p (.bool true))):=by
    intro m
    induction m with
    | zero =>
      intro k hk
      have hd:decide ((k:Int)<(n:Int))=false:=by simp;omega
      refine pkZ Try.func30 hc (pSsd n C k) ?_
      and_intros
      all_goals (first | exact zN | (exact hd) | (simp;done))
    | succ m ih =>
      intro k hk
      have hd:decide ((k:Int)<(n:Int))=true:=by simp;omega
      have c1:=con_sameI (C k) (C k) (hC k (by omega))
      rw [qI_refl] at c1
      refine pcD hc (pSsb n C k) ?_ (ih (k+1) (by omega))
      and_intros
      all_goals (first | exact zN | (exact hd) | (exact c1) | (simp;done) | (simp;omega))
  refine pcD hc (pSsa n C) ?_ (lo n 0 (by omega))
  and_intros
  all_goals (first | exact zN | (simp;done))
noncomputable def impG (v:T_Graph) (a b:Int):Bool:=isGraphF v&&(inB a 0 (v.1 - 1)&&(inB b 0 (v.1 - 1)&&impB v.1.toNat v.2.1.1 v.2.1.2 a b))
theorem con_impG_s (v:T_Graph) (hs:smS s_Graph v) (a b:Int):zE 55 [graphA v,.p (.int .i64 a),.p (.int .i64 b)] [] (.p (.bool (impG v a b))):=by
  have c1:=con_IsGraph_s v hs
  by_cases h:isGraphF v=true∧(0≤a∧a<v.1)∧0≤b∧b<v.1
  · obtain ⟨hg,ha,hb⟩:=h
    obtain ⟨N,nb,g,rfl⟩:=graph_cases v hg
    obtain ⟨hN,hnb,hok⟩:=graph_in hg
    have ha:0≤a∧a<(N:Int):=ha
    have hb:0≤b∧b<(N:Int):=hb
    have e:impG ((N:Int),(nb,g),()) a b=impB N nb g a b:=by
      have e1:inB a 0 ((N:Int) - 1)=true:=by simp [inB];omega
      have e2:inB b 0 ((N:Int) - 1)=true:=by simp [inB];omega
      simp [impG,hg,e1,e2]
    rw [e]
    exact con_IsImplied_s hg hok hN hnb ha hb
  · have e:impG v a b=false:=by
      cases hi:impG v a b with
      | false=>rfl
      | true =>
        simp only [impG,inB,Bool.and_eq_true,decide_eq_true_eq] at hi
        exact absurd ⟨hi.1,by omega,by omega⟩ h
    have hd:(bif bif bif bif !isGraphF v then true else decide (a<0) then true else decide (b<0) then true else decide (a≥v.1) then true else decide (b≥v.1))=true:=by
      cases hg:isGraphF v with
      | false=>rfl
      | true =>
        by_cases h1:a<0
        · simp [h1]
        · by_cases h2:b<0
          · simp [h2]
          · by_cases h3:v.1≤a
            · simp [h3]
            · by_cases h4:v.1≤b
              · simp [h4]
              · exact absurd ⟨hg,by omega,by omega⟩ h
    rw [e]
    refine csZ Try.func55 (fun c hc=>?_)
    refine pkD Try.func55 hc (jmS v a b (isGraphF v)) ?_
    and_intros
    all_goals (first | exact zH | (exact c1) | (exact hd) | (simp;done))
theorem con_impG_i (v:T_Graph) (hs:smS s_Graph v) (a b:Int):zE 54 [graphA v,.p (.int .i64 a),.p (.int .i64 b)] [] (.p (.bool (impG v a b))):=by
  have c1:=con_IsGraph_i v hs
  by_cases h:isGraphF v=true∧(0≤a∧a<v.1)∧0≤b∧b<v.1
  · obtain ⟨hg,ha,hb⟩:=h
    obtain ⟨N,nb,g,rfl⟩:=graph_cases v hg
    obtain ⟨hN,hnb,hok⟩:=graph_in hg
    have ha:0≤a∧a<(N:Int):=ha
    have hb:0≤b∧b<(N:Int):=hb
    have e:impG ((N:Int),(nb,g),()) a b=impB N nb g a b:=by
      have e1:inB a 0 ((N:Int) - 1)=true:=by simp [inB];omega
      have e2:inB b 0 ((N:Int) - 1)=true:=by simp [inB];omega
      simp [impG,hg,e1,e2]
    rw [e]
    exact con_IsImplied_i hg hok hN hnb ha hb
  · have e:impG v a b=false:=by
      cases hi:impG v a b with
      | false=>rfl
      | true =>
        simp only [impG,inB,Bool.and_eq_true,decide_eq_true_eq] at hi
        exact absurd ⟨hi.1,by omega,by omega⟩ h
    have c2:isGraphF v=true→∀ p,zE 91 [graphA v,.p (.int .i64 p)] [] (.p (.bool (inB p 0 (v.1 - 1)))):=fun h p=>by
      have:=graph_inR h
      exact con_hasX v p this.1 this.2.1
    have hz:(bif (bif isGraphF v then inB a 0 (v.1 - 1) else false) then inB b 0 (v.1 - 1) else false)=false:=by
      cases hg:isGraphF v with
      | false=>rfl
      | true =>
        cases h1:inB a 0 (v.1 - 1) with
        | false=>rfl
        | true =>
          cases h2:inB b 0 (v.1 - 1) with
          | false=>rfl
          | true =>
            simp only [inB,Bool.and_eq_true,decide_eq_true_eq] at h1 h2
            exact absurd ⟨hg,by omega,by omega⟩ h
    have hz2:∀ {r:Bool},(bif (bif (bif isGraphF v then inB a 0 (v.1 - 1) else false) then inB b 0 (v.1 - 1) else false) then (bif a==b then true else !r) else false)=false:=by
      intro r;rw [hz];rfl
    have hz3:∀ {p:Prop},(bif (bif isGraphF v then inB a 0 (v.1 - 1) else false) then inB b 0 (v.1 - 1) else false)=true→p:=fun h=>by rw [hz] at h;cases h
    have hz4:∀ {p:Prop} {B:Bool},((bif (bif isGraphF v then inB a 0 (v.1 - 1) else false) then inB b 0 (v.1 - 1) else false)&&B)=true→p:=fun h=>by rw [hz] at h;cases h
    rw [e,← hz2 (r:=true)]
    refine csZ Try.func54 (fun c hc=>?_)
    refine pkD Try.func54 hc (jmI v a b (isGraphF v) (inB a 0 (v.1 - 1)) (inB b 0 (v.1 - 1)) (0,0,()) true) ?_
    and_intros
    all_goals (first | exact zH | (exact c1) | (intro h;exact c2 h a) | (intro h;refine c2 ?_ b;cases hq:isGraphF v<;>simp_all;done) | (intro h;exact hz3 h) | (intro h;exact hz4 h) | (simp;done))
noncomputable def compG (v:T_Graph) (e:Int):T_IntS:=if isGraphF v=true∧0≤e∧e<v.2.1.1 then compD v.1.toNat v.2.1.1 v.2.1.2 e.toNat v.1.toNat else (0,fun _=>0)
theorem compG_le (v:T_Graph) (e:Int):(compG v e).1≤8:=by
  unfold compG
  split
  · rename_i h
    have:=graph_inR h.1
    have:=compD_le v.1.toNat v.2.1.1 v.2.1.2 e.toNat v.1.toNat
    omega
  · exact Nat.zero_le _
theorem con_compG_s (v:T_Graph) (hs:smS s_Graph v) (e:Int):zE 53 [graphA v,.p (.int .i64 e)] [(0,iOb (compG v e).1 (compG v e).2)] (.ar 1 0 0 (compG v e).1):=by
  have c1:=con_IsGraph_s v hs
  by_cases h:isGraphF v=true∧0≤e∧e<v.2.1.1
  · have e1:compG v e=compD v.1.toNat v.2.1.1 v.2.1.2 e.toNat v.1.toNat:=by unfold compG;rw [if_pos h]
    obtain ⟨hg,h0,h1⟩:=h
    obtain ⟨N,nb,g,rfl⟩:=graph_cases v hg
    obtain ⟨e,rfl⟩:∃ t:Nat,e=(t:Int):=⟨e.toNat,by omega⟩
    rw [e1]
    exact con_ComponentOfBar_s hg e (by have h1:(e:Int)<(nb:Int):=h1;omega)
  · have e1:compG v e=(0,fun _=>0):=by unfold compG;rw [if_neg h]
    have hd:(bif bif !isGraphF v then true else decide (e<0) then true else decide (e≥(v.2.1.1:Int)))=true:=by
      cases hg:isGraphF v with
      | false=>rfl
      | true =>
        by_cases h1:e<0
        · simp [h1]
        · by_cases h2:(v.2.1.1:Int)≤e
          · simp [h2]
          · exact absurd ⟨hg,by omega,by omega⟩ h
    rw [e1]
    refine csZ Try.func53 (fun c hc=>?_)
    refine pkD Try.func53 hc (kmS v e (isGraphF v)) ?_
    and_intros
    all_goals (first | exact zH | (exact c1) | (exact hd) | (intro i hi;exact absurd hi (Nat.not_lt_zero _)) | (simp;done))
theorem con_compG_i (v:T_Graph) (hs:smS s_Graph v) (e:Int):zE 52 [graphA v,.p (.int .i64 e)] [(0,iOb (compG v e).1 (compG v e).2)] (.ar 1 0 0 (compG v e).1):=by
  have c1:=con_IsGraph_i v hs
  have c2:=con_within e 0 ((v.2.1.1:Int) - 1)
  have hn:v.2.1.1≤1048576:=hs.2.1.1
  by_cases h:isGraphF v=true∧0≤e∧e<v.2.1.1
  · have e1:compG v e=compD v.1.toNat v.2.1.1 v.2.1.2 e.toNat v.1.toNat:=by unfold compG;rw [if_pos h]
    obtain ⟨hg,h0,h1⟩:=h
    obtain ⟨N,nb,g,rfl⟩:=graph_cases v hg
    obtain ⟨e,rfl⟩:∃ t:Nat,e=(t:Int):=⟨e.toNat,by omega⟩
    rw [e1]
    exact con_ComponentOfBar_i hg e (by have h1:(e:Int)<(nb:Int):=h1;omega)
  · have e1:compG v e=(0,fun _=>0):=by unfold compG;rw [if_neg h]
    have hd:(bif !isGraphF v then true else !inB e 0 ((v.2.1.1:Int) - 1))=true:=by
      cases hg:isGraphF v with
      | false=>rfl
      | true =>
        cases h1:inB e 0 ((v.2.1.1:Int) - 1) with
        | false=>rfl
        | true =>
          simp only [inB,Bool.and_eq_true,decide_eq_true_eq] at h1
          exact absurd ⟨hg,by omega,by omega⟩ h
    rw [e1]
    refine csZ Try.func52 (fun c hc=>?_)
    refine pkD Try.func52 hc (kmI v e (isGraphF v) (inB e 0 ((v.2.1.1:Int) - 1))) ?_
    and_intros
    all_goals (first | exact zH | (exact c1) | (intros;exact c2) | (exact hd) | (intro i hi;exact absurd hi (Nat.not_lt_zero _)) | (simp;done) | (simp;omega))
end Go.Proofs.Ytgabljneilgilaa.Mach
