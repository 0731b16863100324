/- What the law Rr needs, part 3 of 5: the abstract machine and the contracts of the functions. Conditions: as each theorem says. -/
import Derived.Shelf.SlLaysF0
import Derived.Shelf.SlGeneric
import Derived.Shelf.SlSortCmp.InsertionK
import Derived.Ground.SlsfProg
import Derived.Sort.Grow
import Derived.Sort.Row
import Derived.Shelf.SlSortCmp.NoneTotal
import Derived.Test.YtkepkjbofchckaaGreatRrP2
namespace Go.Proofs.YtkepkjbofchckaaGreat.Mach
open Go
set_option linter.unusedVariables false
set_option linter.unusedSimpArgs false
def grG (g:Nat→T_Bar) (nb N:Nat):AV:=.agg [.p (.int .i64 N),brL g nb]
def bxG (g:Nat→T_Bar) (nb N:Nat):Ob:=⟨true,2,1,fun _=>[.p (.int .i64 N),brL g nb]⟩
def bx0:Ob:=⟨true,3,1,fun _=>[.p .nil,.p .nil,.p .nil]⟩
def bxP (N m j:Nat):Ob:=⟨true,3,1,fun _=>[.ar 1 j 0 N,.ar 1 ⟨j+1,none⟩ 0 m,.ar 1 ⟨j+2,none⟩ 0 m]⟩
def bxD (N m:Nat) (F T Q:Nat→Int):Ob:=⟨true,3,1,fun _=>[inD N F,inD m T,inD m Q]⟩
def pebD (N m:Nat) (F T Q:Nat→Int):AV:=.agg [inD N F,inD m T,inD m Q]
def bOb (n:Nat) (S:Nat→Bool):Ob:=⟨false,1,n,fun i=>[.p (.bool (S i))]⟩
def SSc (g:Nat→T_Bar) (nb N m:Nat) (F T Q FR F1 T1:Nat→Int) (a u:Int):St :=
  ⟨[grG g nb N,pebD N m F T Q,inD N FR,.p (.int .i64 a),.p (.int .i64 u),.pt 2 0 0 0,.pt 3 1 0 0,.p .any,.p .any,.p .any,.pt 3 2 0 0,.pt 3 3 0 0]++List.replicate 51 anyA,
   [(0,bxG g nb N),(1,bxD N m F T Q),(2,bx0),(3,bxP N m 4),(4,iOb N F1),(5,iOb m T1),(6,iOb m Q)],7⟩
def SSl (g:Nat→T_Bar) (nb N m:Nat) (F T Q FR F1 T1:Nat→Int) (a u at':Int):St :=
  ⟨[grG g nb N,pebD N m F T Q,inD N FR,.p (.int .i64 a),.p (.int .i64 u),.pt 2 0 0 0,.pt 3 1 0 0,.p .any,.p .any,.p .any,.pt 3 2 0 0,.pt 3 3 0 0,.p (.int .i64 at')]++List.replicate 50 anyA,
   [(0,bxG g nb N),(1,bxD N m F T Q),(2,bx0),(3,bxP N m 4),(4,iOb N F1),(5,iOb m T1),(6,iOb m Q)],7⟩
def SF0 (g:Nat→T_Bar) (nb N m:Nat) (F T Q:Nat→Int) (a b:Int) (i:Nat):St :=
  ⟨[grG g nb N,pebO N m 0,.p (.int .i64 a),.p (.int .i64 b),.pt 2 3 0 0,.pt 3 4 0 0,.p .any,.p .any,.pt 3 5 0 0,.p .any,.ar 1 6 0 N,.p (.int .i64 i)]++List.replicate 94 anyA,
   [(0,iOb N F),(1,iOb m T),(2,iOb m Q),(3,bxG g nb N),(4,bxP N m 0),(5,bx0),(6,iOb N (fun s=>if s<i then -1 else 0))],7⟩
def SF1 (g:Nat→T_Bar) (nb N m:Nat) (F T Q td FR:Nat→Int) (SN:Nat→Bool) (a b:Int) (i tn:Nat):St :=
  ⟨[grG g nb N,pebO N m 0,.p (.int .i64 a),.p (.int .i64 b),.pt 2 3 0 0,.pt 3 4 0 0,.p .any,.p .any,.pt 3 5 0 0,.p .any,.ar 1 6 0 N,.p .any,.ar 1 8 0 tn,.ar 1 7 0 N,.p (.int .i64 i)]++List.replicate 91 anyA,
   [(0,iOb N F),(1,iOb m T),(2,iOb m Q),(3,bxG g nb N),(4,bxP N m 0),(5,bx0),(6,iOb N FR),(7,bOb N SN),(8,iOb tn td)],9⟩
def SF2 (g:Nat→T_Bar) (nb N m:Nat) (F T Q td FR:Nat→Int) (SN:Nat→Bool) (a b v:Int) (i j tn:Nat):St :=
  ⟨[grG g nb N,pebO N m 0,.p (.int .i64 a),.p (.int .i64 b),.pt 2 3 0 0,.pt 3 4 0 0,.p .any,.p .any,.pt 3 5 0 0,.p .any,.ar 1 6 0 N,.p .any,.ar 1 8 0 tn,.ar 1 7 0 N,.p (.int .i64 i),.p (.int .i64 v),.p (.int .i64 j)]++List.replicate 89 anyA,
   [(0,iOb N F),(1,iOb m T),(2,iOb m Q),(3,bxG g nb N),(4,bxP N m 0),(5,bx0),(6,iOb N FR),(7,bOb N SN),(8,iOb tn td)],9⟩
def SF3 (g:Nat→T_Bar) (nb N m:Nat) (F T Q FR:Nat→Int) (a b u:Int):St :=
  ⟨[grG g nb N,pebO N m 0,.p (.int .i64 a),.p (.int .i64 b),.pt 2 3 0 0,.pt 3 4 0 0,.p .any,.p .any,.pt 3 5 0 0,.p .any,.ar 1 6 0 N,.p .any,.p .any,.p .any,.p .any,.p .any,.p .any,.p (.int .i64 u)]++List.replicate 88 anyA,
   [(0,iOb N F),(1,iOb m T),(2,iOb m Q),(3,bxG g nb N),(4,bxP N m 0),(5,bx0),(6,iOb N FR)],7⟩
def pebR3 (N m:Nat) (F T Q F' T' Q':Nat→Int):Hp:=[(0,iOb N F),(1,iOb m T),(2,iOb m Q),(3,iOb N F'),(4,iOb m T'),(5,iOb m Q')]
theorem qOt (x:T_Bar) (v:Int) :
    zS Tryz.f231 [rg 2,rg 8] [brA x,.p (.int .i64 v)] [] [] (.p (.int .i64 (x.1+x.2.1 - v))) =
    some [(NT 0 1),(NT 0 1),(ZLo (x.1+x.2.1)),(ZHi (x.1+x.2.1)),(ZLo (x.1+x.2.1 - v)),(ZHi (x.1+x.2.1 - v)),(AI ((x.1+x.2.1 - v)))]:=by kernel_rfl
theorem qCp (N m:Nat) (F T Q:Nat→Int) :
    zS Tryz.f207 [rg 2,rg 14] [pebD N m F T Q] [160,288,416] (pebR N m F T Q) (pebO N m 0) =
    some (zD [(NT 0 1),(NL 0 0),(NL ((0+N)*8) 140737488355328),(NL (0+N) 9223372036854775807),(NL ((0+m)*8) 140737488355328),(NL (0+m) 9223372036854775807),((true=true)→ (AN 1)),(AN 0),(((0+N):Nat)=N),(((0+m):Nat)=m),(AN 1),(NL N (0+N)),(AA N (fun i=>[.p (.int .i64 (F i))])),(NL m (0+m)),(AA m (fun i=>[.p (.int .i64 (T i))])),(AA m (fun i=>[.p (.int .i64 (Q i))])),(AE N),(AE m)] [0,1,2,3,0,1,4,5,0,1,4,5,0,6,0,7,8,7,9,7,9,10,11,12,10,13,14,10,13,15,16,17,17]):=by kernel_rfl
theorem qSz (g:Nat→T_Bar) (nb N m:Nat) (F T Q FR:Nat→Int) (a u:Int) :
    zT Tryz.f232 [rg 3,rm [(1,oc (pebR N m F T Q) (pebO N m 0))] 2,rg 11,.head] [grG g nb N,pebD N m F T Q,inD N FR,.p (.int .i64 a),.p (.int .i64 u)] [0,32,64,160,128,129,130] (SSc g nb N m F T Q FR (fun s=>if s=u.toNat then F s - 1 else F s) T a u) =
    some ([.code (cAt (bodyOf Tryz.f232) [1,1,1,0]),.code (cAt (bodyOf Tryz.f232) [1,1,1,1])],zD [(NT 0 1),zE 207 [(zf45 N F m T Q)] (zf30 N F m T Q) (.agg [.ar 1 0 0 N,.ar 1 1 0 m,.ar 1 2 0 m]),((true=true)→ (AN 1)),(IL 0 u),(IT u (↑N:Int)),(NT u.toNat N),(ZLo (F u.toNat - 1)),(ZHi (F u.toNat - 1)),((false=true)→ ((N:Nat)=1)),(AI ((↑N:Int))),(AN nb),(AP nb (bRw g)),(AN N),(AP N (fun i=>[.int .i64 (F i)])),(AN m),(AP m (fun i=>[.int .i64 (T i)])),(AP m (fun i=>[.int .i64 (Q i)])),(AP N (fun i=>[.int .i64 (FR i)])),(AI a),(AI u),(AN 0),((([AV.p (PV.int IntKind.i64 (↑N:Int)),brL g nb].length):Nat)=2),(NL 1 1),((([inD N F,inD m T,inD m Q].length):Nat)=3),((((List.map (fun v=>AV.p (absV v)) [Value.slice none 0 0,Value.slice none 0 0,Value.slice none 0 0]).length):Nat)=3),(AN 1),(NL N N),(CV [(128,⟨false,1,N,(fun i_1=>(if (i_1=u.toNat) then [.p (.int .i64 (F u.toNat - 1))] else [.p (.int .i64 (F i_1))]))⟩),(160,⟨true,3,1,(fun i_1=>[.ar 1 128 0 N,.ar 1 129 0 m,.ar 1 130 0 m])⟩),(130,⟨false,1,m,(fun i_1=>[.p (.int .i64 (Q i_1))])⟩),(129,⟨false,1,m,(fun i_1=>[.p (.int .i64 (T i_1))])⟩),(64,⟨true,3,1,(fun i_1=>[.p (.nil),.p (.nil),.p (.nil)])⟩),(32,⟨true,3,1,(fun i_1=>[.p (.seq true 1 N (fun i_2=>[.int .i64 (F i_2)])),.p (.seq true 1 m (fun i_2=>[.int .i64 (T i_2)])),.p (.seq true 1 m (fun i_2=>[.int .i64 (Q i_2)]))])⟩),(0,⟨true,2,1,(fun i_1=>[.p (.int .i64 (↑N:Int)),.p (.seq true 2 nb (bRw g))])⟩)] [0,32,64,160,128,129,130] 1 N (fun i=>if (i=u.toNat) then [.p (.int .i64 (F u.toNat - 1))] else [.p (.int .i64 (F i))]) (fun i=>[.p (.int .i64 (if i=u.toNat then F i - 1 else F i))])),(NL m m),(AA m (fun i=>[.p (.int .i64 (T i))])),(AA m (fun i=>[.p (.int .i64 (Q i))]))] [0,1,0,2,0,0,3,4,5,6,7,3,4,5,8,9,10,11,12,13,14,15,14,16,12,17,18,19,20,20,20,20,21,22,22,9,10,11,23,22,22,12,13,14,15,14,16,24,22,22,24,22,22,20,12,20,14,20,14,25,26,27,25,28,29,25,28,30]):=by kernel_rfl
theorem qSa (g:Nat→T_Bar) (nb N m:Nat) (F T Q FR F1 T1:Nat→Int) (a u:Int) :
    zM 0 [rg 11,rg 2,.head] [.code (cAt (bodyOf Tryz.f232) [1,1,1,0]),.code (cAt (bodyOf Tryz.f232) [1,1,1,1])] (SSc g nb N m F T Q FR F1 T1 a u) [0,1,2,3,4,5,6] 1 (SSl g nb N m F T Q FR (fun s=>if s=a.toNat then F1 s+1 else F1 s) T1 a u u) =
    some (zf26,zD [(NT 0 1),(IL 0 a),(IT a (↑N:Int)),(NT a.toNat N),(ZLo (F1 a.toNat+1)),(ZHi (F1 a.toNat+1)),((false=true)→ ((N:Nat)=1)),(AI ((↑N:Int))),(AN nb),(AP nb (bRw g)),(AN N),(AP N (fun i=>[.int .i64 (F i)])),(AN m),(AP m (fun i=>[.int .i64 (T i)])),(AP m (fun i=>[.int .i64 (Q i)])),(AP N (fun i=>[.int .i64 (FR i)])),(AI a),(AI u),(AN 0),(AN 2),(NL 1 1),(AN 3),(AN 1),(NL N N),(CV [(4,⟨false,1,N,(fun i_1=>(if (i_1=a.toNat) then [.p (.int .i64 (F1 a.toNat+1))] else [.p (.int .i64 (F1 i_1))]))⟩),(0,⟨true,2,1,(fun i_1=>[.p (.int .i64 (↑N:Int)),.p (.seq true 2 nb (bRw g))])⟩),(1,⟨true,3,1,(fun i_1=>[.p (.seq true 1 N (fun i_2=>[.int .i64 (F i_2)])),.p (.seq true 1 m (fun i_2=>[.int .i64 (T i_2)])),.p (.seq true 1 m (fun i_2=>[.int .i64 (Q i_2)]))])⟩),(2,⟨true,3,1,(fun i_1=>[.p (.nil),.p (.nil),.p (.nil)])⟩),(3,⟨true,3,1,(fun i_1=>[.ar 1 4 0 N,.ar 1 5 0 m,.ar 1 6 0 m])⟩),(5,⟨false,1,m,(fun i_1=>[.p (.int .i64 (T1 i_1))])⟩),(6,⟨false,1,m,(fun i_1=>[.p (.int .i64 (Q i_1))])⟩)] [0,1,2,3,4,5,6] 1 N (fun i=>if (i=a.toNat) then [.p (.int .i64 (F1 a.toNat+1))] else [.p (.int .i64 (F1 i))]) (fun i=>[.p (.int .i64 (if i=a.toNat then F1 i+1 else F1 i))])),(NL m m),(AA m (fun i=>[.p (.int .i64 (T1 i))])),(AA m (fun i=>[.p (.int .i64 (Q i))]))] [0,0,1,2,3,4,5,1,2,3,6,7,8,9,10,11,12,13,12,14,10,15,16,17,18,18,18,18,17,19,20,20,7,8,9,21,20,20,10,11,12,13,12,14,21,20,20,21,20,20,18,10,18,12,18,12,22,23,24,22,25,26,22,25,27]):=by kernel_rfl
theorem qSl (g:Nat→T_Bar) (nb N m:Nat) (F T Q FR F1 T1:Nat→Int) (a u at' w:Int) :
    zM 0 [rg 3,.dec true,rg 5,rm [(10,oc [] (.p (.int .i64 w)))] 1,rg 6,rg 2,.head] zf26 (SSl g nb N m F T Q FR F1 T1 a u at') [0,1,2,3,4,5,6] 1 (SSl g nb N m F T Q FR F1 (fun s=>if s=(FR at'.toNat).toNat then at' else T1 s) a u w) =
    some (zf26,zD [((at' != a)=true),(IL 0 (at')),(IT (at') (↑N:Int)),(NT 0 1),(IL 0 (FR at'.toNat)),(IT (FR at'.toNat) (↑m:Int)),(IL 0 (Q (FR at'.toNat).toNat)),(IT (Q (FR at'.toNat).toNat) (↑nb:Int)),zE 231 [.agg [.p (.int .i64 ((g (Q (FR at'.toNat).toNat).toNat).1)),.p (.int .i64 ((g (Q (FR at'.toNat).toNat).toNat).2.1))],.p (.int .i64 at')] [] (.p (.int .i64 w)),(NT ((FR at'.toNat).toNat) m),((false=true)→ ((m:Nat)=1)),(AI ((↑N:Int))),(AN nb),(AP nb (bRw g)),(AN N),(AP N (fun i=>[.int .i64 (F i)])),(AN m),(AP m (fun i=>[.int .i64 (T i)])),(AP m (fun i=>[.int .i64 (Q i)])),(AP N (fun i=>[.int .i64 (FR i)])),(AI a),(AI u),(AN 0),(AI w),(AN 2),(NL 1 1),(AN 3),(AN 1),(NL N N),(AA N (fun i=>[.p (.int .i64 (F1 i))])),(NL m m),(CV [(5,⟨false,1,m,(fun i_1=>(if (i_1=(FR at'.toNat).toNat) then [.p (.int .i64 at')] else [.p (.int .i64 (T1 i_1))]))⟩),(0,⟨true,2,1,(fun i_1=>[.p (.int .i64 (↑N:Int)),.p (.seq true 2 nb (bRw g))])⟩),(1,⟨true,3,1,(fun i_1=>[.p (.seq true 1 N (fun i_2=>[.int .i64 (F i_2)])),.p (.seq true 1 m (fun i_2=>[.int .i64 (T i_2)])),.p (.seq true 1 m (fun i_2=>[.int .i64 (Q i_2)]))])⟩),(2,⟨true,3,1,(fun i_1=>[.p (.nil),.p (.nil),.p (.nil)])⟩),(3,⟨true,3,1,(fun i_1=>[.ar 1 4 0 N,.ar 1 5 0 m,.ar 1 6 0 m])⟩),(4,⟨false,1,N,(fun i_1=>[.p (.int .i64 (F1 i_1))])⟩),(6,⟨false,1,m,(fun i_1=>[.p (.int .i64 (Q i_1))])⟩)] [0,1,2,3,4,5,6] 1 m (fun i=>if (i=(FR at'.toNat).toNat) then [.p (.int .i64 at')] else [.p (.int .i64 (T1 i))]) (fun i=>[.p (.int .i64 (if i=(FR at'.toNat).toNat then at' else T1 i))])),(AA m (fun i=>[.p (.int .i64 (Q i))]))] [0,1,2,3,3,4,5,6,7,8,3,4,5,9,10,11,12,13,14,15,16,17,16,18,14,19,20,21,22,22,22,22,23,24,25,25,11,12,13,26,25,25,14,15,16,17,16,18,26,25,25,26,25,25,22,14,22,16,22,16,27,28,29,27,30,31,27,30,32]):=by kernel_rfl
theorem qSe (g:Nat→T_Bar) (nb N m:Nat) (F T Q FR F1 T1:Nat→Int) (a u at':Int) :
    zP Tryz.f232 0 [rg 3,.dec false,rg 2] zf26 (SSl g nb N m F T Q FR F1 T1 a u at') [4,5,6] 1 (pebR N m F1 T1 Q) (pebO N m 0) =
    some (zD [((at' != a)=false),(NT 0 1),((true=true)→ (AN 1)),(AN 0),(AN N),(AN m),(AN 1),(NL N N),(AA N (fun i=>[.p (.int .i64 (F1 i))])),(NL m m),(AA m (fun i=>[.p (.int .i64 (T1 i))])),(AA m (fun i=>[.p (.int .i64 (Q i))])),(AE N),(AE m)] [0,1,1,2,1,3,4,3,5,3,5,6,7,8,6,9,10,6,9,11,12,13,13]):=by kernel_rfl
theorem qFz (g:Nat→T_Bar) (nb N m:Nat) (F T Q:Nat→Int) (a b:Int) :
    zM 3 [rg 4,rg 4,rg 1,.head] [.code (bodyOf Tryz.f222)] (start Tryz.f222 (pebR N m F T Q) 3 [grG g nb N,pebO N m 0,.p (.int .i64 a),.p (.int .i64 b)]) [0,1,2,3,35,67,195] 1 (SF0 g nb N m F T Q a b 0) =
    some (zf46,zD [(NT 0 1),(IL 0 (↑N:Int)),(IL (↑N:Int) (↑N:Int)),(IL ((↑N:Int)*(↑8:Int)) 281474976710656),(ZHi (↑N:Int)),(AI ((↑N:Int))),(AN nb),(AP nb (bRw g)),(AN 0),(AN N),(AN m),(AI a),(AI b),((0:Int)=(↑0:Int)),(AN 1),(NL N N),(AA N (fun i=>[.p (.int .i64 (F i))])),(NL m m),(AA m (fun i=>[.p (.int .i64 (T i))])),(AA m (fun i=>[.p (.int .i64 (Q i))])),((([AV.p (PV.int IntKind.i64 (↑N:Int)),brL g nb].length):Nat)=2),(NL 1 1),((([AV.ar 1 (Id.mk 0 none) 0 N,AV.ar 1 (Id.mk 1 none) 0 m,AV.ar 1 (Id.mk 2 none) 0 m].length):Nat)=3),((((List.map (fun v=>AV.p (absV v)) [Value.slice none 0 0,Value.slice none 0 0,Value.slice none 0 0]).length):Nat)=3),(∀ i:Nat,(((i:Nat)<N)→(All []∧(([.p (.int .i64 0)]:List AV)=[.p (.int .i64 (if i<0 then -1 else 0))]))))] [0,1,2,3,4,5,6,7,8,9,8,10,8,10,11,12,8,8,8,8,9,13,14,15,16,14,17,18,14,17,19,20,21,21,5,6,7,22,21,21,8,9,8,10,8,10,23,21,21,14,15,24]):=by kernel_rfl
theorem qF0 (g:Nat→T_Bar) (nb N m:Nat) (F T Q:Nat→Int) (a b:Int) (i:Nat) :
    zM 3 [rg 4,.dec true,rg 4,rg 3,.head] zf46 (SF0 g nb N m F T Q a b i) [0,1,2,3,4,5,6] 1 (SF0 g nb N m F T Q a b (i+1)) =
    some (zf46,zD [(NT 0 1),((decide ((↑i:Int)<(↑N:Int)))=true),(IL 0 (↑i:Int)),(IT (↑i:Int) (↑N:Int)),(NT i N),((false=true)→ ((N:Nat)=1)),(ZLo ((↑i:Int)+1)),(ZHi ((↑i:Int)+1)),(AI ((↑N:Int))),(AN nb),(AP nb (bRw g)),(AN 0),(AN N),(AN m),(AI a),(AI b),((((↑i:Int)+1):Int)=(↑(i+1):Int)),(AN 1),(NL N N),(AA N (fun i_1=>[.p (.int .i64 (F i_1))])),(NL m m),(AA m (fun i_1=>[.p (.int .i64 (T i_1))])),(AA m (fun i_1=>[.p (.int .i64 (Q i_1))])),(AN 2),(NL 1 1),(AN 3),(CV [(6,⟨false,1,N,(fun i_2=>(if (i_2=i) then [.p (.int .i64 (-1))] else [.p (.int .i64 (if i_2<i then -1 else 0))]))⟩),(0,⟨false,1,N,(fun i_2=>[.p (.int .i64 (F i_2))])⟩),(1,⟨false,1,m,(fun i_2=>[.p (.int .i64 (T i_2))])⟩),(2,⟨false,1,m,(fun i_2=>[.p (.int .i64 (Q i_2))])⟩),(3,⟨true,2,1,(fun i_2=>[.p (.int .i64 (↑N:Int)),.p (.seq true 2 nb (bRw g))])⟩),(4,⟨true,3,1,(fun i_2=>[.ar 1 0 0 N,.ar 1 1 0 m,.ar 1 2 0 m])⟩),(5,⟨true,3,1,(fun i_2=>[.p (.nil),.p (.nil),.p (.nil)])⟩)] [0,1,2,3,4,5,6] 1 N (fun i_1=>if (i_1=i) then [.p (.int .i64 (-1))] else [.p (.int .i64 (if i_1<i then -1 else 0))]) (fun i_1=>[.p (.int .i64 (if i_1<i+1 then -1 else 0))]))] [0,1,2,3,4,5,6,7,8,9,10,11,12,11,13,11,13,14,15,11,11,11,11,12,16,17,18,19,17,20,21,17,20,22,23,24,24,8,9,10,25,24,24,11,12,11,13,11,13,25,24,24,17,18,26]):=by kernel_rfl
theorem qF01 (g:Nat→T_Bar) (nb N m:Nat) (F T Q:Nat→Int) (a b:Int) (i:Nat) :
    zM 3 [rg 4,.dec false,rg 3,rg 4,rg 4,rg 1,.head] zf46 (SF0 g nb N m F T Q a b i) [0,1,2,3,4,5,6,295,167] 1 (SF1 g nb N m F T Q (fun _=>a) (fun _=>-1) (fun s=>if s=a.toNat then true else false) a b 0 1) =
    some (zf19,zD [(NT 0 1),((decide ((↑i:Int)<(↑N:Int)))=false),(IL 0 (↑N:Int)),(IL (↑N:Int) (↑N:Int)),(IL ((↑N:Int)*(↑1:Int)) 281474976710656),(ZHi (↑N:Int)),(IL 0 a),(IT a (↑N:Int)),(NT a.toNat N),((false=true)→ ((N:Nat)=1)),(AI ((↑N:Int))),(AN nb),(AP nb (bRw g)),(AN 0),(AN N),(AN m),(AI a),(AI b),(AN 1),((0:Int)=(↑0:Int)),(NL N N),(AA N (fun i_1=>[.p (.int .i64 (F i_1))])),(NL m m),(AA m (fun i_1=>[.p (.int .i64 (T i_1))])),(AA m (fun i_1=>[.p (.int .i64 (Q i_1))])),(AN 2),(NL 1 1),(AN 3),(∀ i_1:Nat,(((i_1:Nat)<N)→(All []∧(([.p (.int .i64 (if i_1<i then -1 else 0))]:List AV)=[.p (.int .i64 (-1))])))),(CV [(295,⟨false,1,N,(fun i_2=>(if (i_2=a.toNat) then [.p (.bool true)] else [.p (.bool false)]))⟩),(167,⟨false,1,1,(fun i_2=>[.p (.int .i64 a)])⟩),(0,⟨false,1,N,(fun i_2=>[.p (.int .i64 (F i_2))])⟩),(1,⟨false,1,m,(fun i_2=>[.p (.int .i64 (T i_2))])⟩),(2,⟨false,1,m,(fun i_2=>[.p (.int .i64 (Q i_2))])⟩),(3,⟨true,2,1,(fun i_2=>[.p (.int .i64 (↑N:Int)),.p (.seq true 2 nb (bRw g))])⟩),(4,⟨true,3,1,(fun i_2=>[.ar 1 0 0 N,.ar 1 1 0 m,.ar 1 2 0 m])⟩),(5,⟨true,3,1,(fun i_2=>[.p (.nil),.p (.nil),.p (.nil)])⟩),(6,⟨false,1,N,(fun i_2=>[.p (.int .i64 (if i_2<i then -1 else 0))])⟩)] [0,1,2,3,4,5,6,295,167] 1 N (fun i_1=>if (i_1=a.toNat) then [.p (.bool true)] else [.p (.bool false)]) (fun i_1=>[.p (.bool (if i_1=a.toNat then true else false))])),(AA 1 (fun i_1=>[.p (.int .i64 a)]))] [0,1,0,2,3,4,5,6,7,8,9,10,11,12,13,14,13,15,13,15,16,17,13,13,13,13,14,13,18,13,14,19,18,20,21,18,22,23,18,22,24,25,26,26,10,11,12,27,26,26,13,14,13,15,13,15,27,26,26,18,20,28,18,20,29,18,26,30]):=by kernel_rfl
theorem qF1 (g:Nat→T_Bar) (nb N m:Nat) (F T Q td FR:Nat→Int) (SN:Nat→Bool) (a b:Int) (i tn:Nat) :
    zM 3 [rg 4,.dec true,rg 5,rg 1,.head] zf19 (SF1 g nb N m F T Q td FR SN a b i tn) [0,1,2,3,4,5,6,7,8] 1 (SF2 g nb N m F T Q td FR SN a b (td i) i 0 tn) =
    some (zf4,zD [((decide ((↑i:Int)<(↑tn:Int)))=true),(IL 0 (↑i:Int)),(IT (↑i:Int) (↑tn:Int)),(NT i tn),(AI ((↑N:Int))),(AN nb),(AP nb (bRw g)),(AN 0),(AN N),(AN m),(AI a),(AI b),(AN tn),(AI ((↑i:Int))),(AI ((td i))),((0:Int)=(↑0:Int)),(AN 1),(NL N N),(AA N (fun i_1=>[.p (.int .i64 (F i_1))])),(NL m m),(AA m (fun i_1=>[.p (.int .i64 (T i_1))])),(AA m (fun i_1=>[.p (.int .i64 (Q i_1))])),(AN 2),(NL 1 1),(AN 3),(AA N (fun i_1=>[.p (.int .i64 (FR i_1))])),(AA N (fun i_1=>[.p (.bool (SN i_1))])),(NL tn tn),(AA tn (fun i_1=>[.p (.int .i64 (td i_1))]))] [0,1,2,3,4,5,6,7,8,7,9,7,9,10,11,7,7,7,7,8,7,12,7,8,13,14,15,16,17,18,16,19,20,16,19,21,22,23,23,4,5,6,24,23,23,7,8,7,9,7,9,24,23,23,16,17,25,16,17,26,16,27,28]):=by kernel_rfl
theorem qF1e (g:Nat→T_Bar) (nb N m:Nat) (F T Q td FR:Nat→Int) (SN:Nat→Bool) (a b:Int) (i tn:Nat) :
    zP Tryz.f222 3 [rg 4,.dec false,rg 3] zf19 (SF1 g nb N m F T Q td FR SN a b i tn) [0,1,2] 1 (pebR N m F T Q) (.tup [pebO N m 0,.p (.bool false)]) =
    some (zD [((decide ((↑i:Int)<(↑tn:Int)))=false),(NT 0 1),((true=true)→ (AN 1)),(AN 0),(AN N),(AN m),(false=false),(AN 1),(NL N N),(AA N (fun i_1=>[.p (.int .i64 (F i_1))])),(NL m m),(AA m (fun i_1=>[.p (.int .i64 (T i_1))])),(AA m (fun i_1=>[.p (.int .i64 (Q i_1))])),(AE N),(AE m)] [0,1,1,2,1,3,4,3,5,3,5,6,7,8,9,7,10,11,7,10,12,13,14,14]):=by kernel_rfl
theorem qF2e (g:Nat→T_Bar) (nb N m:Nat) (F T Q td FR:Nat→Int) (SN:Nat→Bool) (a b v:Int) (i j tn:Nat) :
    zM 3 [rg 5,.dec false,rg 3,.head] zf4 (SF2 g nb N m F T Q td FR SN a b v i j tn) [0,1,2,3,4,5,6,7,8] 1 (SF1 g nb N m F T Q td FR SN a b (i+1) tn) =
    some (zf19,zD [(NT 0 1),((decide ((↑j:Int)<(↑m:Int)))=false),(ZLo ((↑i:Int)+1)),(ZHi ((↑i:Int)+1)),(AI ((↑N:Int))),(AN nb),(AP nb (bRw g)),(AN 0),(AN N),(AN m),(AI a),(AI b),(AN tn),((((↑i:Int)+1):Int)=(↑(i+1):Int)),(AN 1),(NL N N),(AA N (fun i_1=>[.p (.int .i64 (F i_1))])),(NL m m),(AA m (fun i_1=>[.p (.int .i64 (T i_1))])),(AA m (fun i_1=>[.p (.int .i64 (Q i_1))])),(AN 2),(NL 1 1),(AN 3),(AA N (fun i_1=>[.p (.int .i64 (FR i_1))])),(AA N (fun i_1=>[.p (.bool (SN i_1))])),(NL tn tn),(AA tn (fun i_1=>[.p (.int .i64 (td i_1))]))] [0,1,2,3,4,5,6,7,8,7,9,7,9,10,11,7,7,7,7,8,7,12,7,8,13,14,15,16,14,17,18,14,17,19,20,21,21,4,5,6,22,21,21,7,8,7,9,7,9,22,21,21,14,15,23,14,15,24,14,25,26]):=by kernel_rfl
theorem qF2a (g:Nat→T_Bar) (nb N m:Nat) (F T Q td FR:Nat→Int) (SN:Nat→Bool) (a b v:Int) (i j tn:Nat) :
    zM 3 [rg 5,.dec true,rg 7,.dec true,rg 3,.head] zf4 (SF2 g nb N m F T Q td FR SN a b v i j tn) [0,1,2,3,4,5,6,7,8] 1 (SF2 g nb N m F T Q td FR SN a b v i (j+1) tn) =
    some (zf4,zD [(NT 0 1),((decide ((↑j:Int)<(↑m:Int)))=true),(IL 0 (↑j:Int)),(IT (↑j:Int) (↑m:Int)),(NT j m),((T j != v)=true),(ZLo ((↑j:Int)+1)),(ZHi ((↑j:Int)+1)),(AI ((↑N:Int))),(AN nb),(AP nb (bRw g)),(AN 0),(AN N),(AN m),(AI a),(AI b),(AN tn),(AI ((↑i:Int))),(AI v),((((↑j:Int)+1):Int)=(↑(j+1):Int)),(AN 1),(NL N N),(AA N (fun i_1=>[.p (.int .i64 (F i_1))])),(NL m m),(AA m (fun i_1=>[.p (.int .i64 (T i_1))])),(AA m (fun i_1=>[.p (.int .i64 (Q i_1))])),(AN 2),(NL 1 1),(AN 3),(AA N (fun i_1=>[.p (.int .i64 (FR i_1))])),(AA N (fun i_1=>[.p (.bool (SN i_1))])),(NL tn tn),(AA tn (fun i_1=>[.p (.int .i64 (td i_1))]))] [0,1,0,2,3,4,5,6,7,8,9,10,11,12,11,13,11,13,14,15,11,11,11,11,12,11,16,11,12,17,18,19,20,21,22,20,23,24,20,23,25,26,27,27,8,9,10,28,27,27,11,12,11,13,11,13,28,27,27,20,21,29,20,21,30,20,31,32]):=by kernel_rfl
theorem qF2b (g:Nat→T_Bar) (nb N m:Nat) (F T Q td FR:Nat→Int) (SN:Nat→Bool) (a b v u:Int) (i j tn:Nat) :
    zM 3 [rg 5,.dec true,rg 7,.dec false,rm [(10,oc [] (.p (.int .i64 u)))] 1,rg 4,.dec true,rg 3,.head] zf4 (SF2 g nb N m F T Q td FR SN a b v i j tn) [0,1,2,3,4,5,6,7,8] 1 (SF2 g nb N m F T Q td FR SN a b v i (j+1) tn) =
    some (zf4,zD [(NT 0 1),((decide ((↑j:Int)<(↑m:Int)))=true),(IL 0 (↑j:Int)),(IT (↑j:Int) (↑m:Int)),(NT j m),((T j != v)=false),(IL 0 (Q j)),(IT (Q j) (↑nb:Int)),zE 231 [(zf90 g Q j),.p (.int .i64 v)] [] (.p (.int .i64 u)),(IL 0 u),(IT u (↑N:Int)),(NT u.toNat N),((SN u.toNat)=true),(ZLo ((↑j:Int)+1)),(ZHi ((↑j:Int)+1)),(AI ((↑N:Int))),(AN nb),(AP nb (bRw g)),(AN 0),(AN N),(AN m),(AI a),(AI b),(AN tn),(AI ((↑i:Int))),(AI v),((((↑j:Int)+1):Int)=(↑(j+1):Int)),(AN 1),(NL N N),(AA N (fun i_1=>[.p (.int .i64 (F i_1))])),(NL m m),(AA m (fun i_1=>[.p (.int .i64 (T i_1))])),(AA m (fun i_1=>[.p (.int .i64 (Q i_1))])),(AN 2),(NL 1 1),(AN 3),(AA N (fun i_1=>[.p (.int .i64 (FR i_1))])),(AA N (fun i_1=>[.p (.bool (SN i_1))])),(NL tn tn),(AA tn (fun i_1=>[.p (.int .i64 (td i_1))]))] [0,1,0,2,3,4,5,0,0,2,3,4,6,7,8,9,10,11,12,13,14,15,16,17,18,19,18,20,18,20,21,22,18,18,18,18,19,18,23,18,19,24,25,26,27,28,29,27,30,31,27,30,32,33,34,34,15,16,17,35,34,34,18,19,18,20,18,20,35,34,34,27,28,36,27,28,37,27,38,39]):=by kernel_rfl
theorem qF2c (g:Nat→T_Bar) (nb N m:Nat) (F T Q td FR:Nat→Int) (SN:Nat→Bool) (a b v u:Int) (i j tn:Nat) :
    zM 3 [rg 5,.dec true,rg 7,.dec false,rm [(10,oc [] (.p (.int .i64 u)))] 1,rg 4,.dec false,rg 4,rg 5,rg 11,.dec false,rg 5,rg 3,.head] zf4 (SF2 g nb N m F T Q td FR SN a b v i j tn) [0,1,2,3,4,5,6,7,1641] 1 (SF2 g nb N m F T Q (fun s=>if s<tn then td s else u) (fun s=>if s=u.toNat then j else FR s) (fun s=>if s=u.toNat then true else SN s) a b v i (j+1) (tn+1)) =
    some (zf4,zD [(NT 0 1),((decide ((↑j:Int)<(↑m:Int)))=true),(IL 0 (↑j:Int)),(IT (↑j:Int) (↑m:Int)),(NT j m),((T j != v)=false),(IL 0 (Q j)),(IT (Q j) (↑nb:Int)),zE 231 [(zf90 g Q j),.p (.int .i64 v)] [] (.p (.int .i64 u)),(IL 0 u),(IT u (↑N:Int)),(NT u.toNat N),((SN u.toNat)=false),((false=true)→ ((N:Nat)=1)),(AG (u != b)),(((u != b)=true)→(NT 0 1)),(((u != b)=true)→(IL 0 u)),(((u != b)=true)→(IT u (↑N:Int))),(((u != b)=true)→(NT u.toNat N)),((bif u != b then decide (F (u.toNat+0)>0) else false)=false),(NL 1 1),(NL tn tn),(NL ((tn+1)*8) 140737488355328),(NL (tn+1) 9223372036854775807),(ZLo ((↑j:Int)+1)),(ZHi ((↑j:Int)+1)),(AI ((↑N:Int))),(AN nb),(AP nb (bRw g)),(AN 0),(AN N),(AN m),(AI a),(AI b),(AN ((tn+1))),(AI ((↑i:Int))),(AI v),((((↑j:Int)+1):Int)=(↑(j+1):Int)),(AN 1),(NL N N),(AA N (fun i_1=>[.p (.int .i64 (F i_1))])),(NL m m),(AA m (fun i_1=>[.p (.int .i64 (T i_1))])),(AA m (fun i_1=>[.p (.int .i64 (Q i_1))])),(AN 2),(AN 3),(CV [(1641,⟨false,1,(tn+1),(fun i_2=>(if (i_2<tn) then [.p (.int .i64 (td i_2))] else [.p (.int .i64 u)]))⟩),(1609,⟨false,1,1,(fun i_2=>[.p (.int .i64 u)])⟩),(6,⟨false,1,N,(fun i_2=>(if (i_2=u.toNat) then [.p (.int .i64 (↑j:Int))] else [.p (.int .i64 (FR i_2))]))⟩),(7,⟨false,1,N,(fun i_2=>(if (i_2=u.toNat) then [.p (.bool true)] else [.p (.bool (SN i_2))]))⟩),(0,⟨false,1,N,(fun i_2=>[.p (.int .i64 (F i_2))])⟩),(1,⟨false,1,m,(fun i_2=>[.p (.int .i64 (T i_2))])⟩),(2,⟨false,1,m,(fun i_2=>[.p (.int .i64 (Q i_2))])⟩),(3,⟨true,2,1,(fun i_2=>[.p (.int .i64 (↑N:Int)),.p (.seq true 2 nb (bRw g))])⟩),(4,⟨true,3,1,(fun i_2=>[.ar 1 0 0 N,.ar 1 1 0 m,.ar 1 2 0 m])⟩),(5,⟨true,3,1,(fun i_2=>[.p (.nil),.p (.nil),.p (.nil)])⟩)] [0,1,2,3,4,5,6,7,1641] 1 N (fun i_1=>if (i_1=u.toNat) then [.p (.int .i64 (↑j:Int))] else [.p (.int .i64 (FR i_1))]) (fun i_1=>[.p (.int .i64 (if i_1=u.toNat then (↑j:Int) else FR i_1))])),(CV [(1641,⟨false,1,(tn+1),(fun i_2=>(if (i_2<tn) then [.p (.int .i64 (td i_2))] else [.p (.int .i64 u)]))⟩),(1609,⟨false,1,1,(fun i_2=>[.p (.int .i64 u)])⟩),(6,⟨false,1,N,(fun i_2=>(if (i_2=u.toNat) then [.p (.int .i64 (↑j:Int))] else [.p (.int .i64 (FR i_2))]))⟩),(7,⟨false,1,N,(fun i_2=>(if (i_2=u.toNat) then [.p (.bool true)] else [.p (.bool (SN i_2))]))⟩),(0,⟨false,1,N,(fun i_2=>[.p (.int .i64 (F i_2))])⟩),(1,⟨false,1,m,(fun i_2=>[.p (.int .i64 (T i_2))])⟩),(2,⟨false,1,m,(fun i_2=>[.p (.int .i64 (Q i_2))])⟩),(3,⟨true,2,1,(fun i_2=>[.p (.int .i64 (↑N:Int)),.p (.seq true 2 nb (bRw g))])⟩),(4,⟨true,3,1,(fun i_2=>[.ar 1 0 0 N,.ar 1 1 0 m,.ar 1 2 0 m])⟩),(5,⟨true,3,1,(fun i_2=>[.p (.nil),.p (.nil),.p (.nil)])⟩)] [0,1,2,3,4,5,6,7,1641] 1 N (fun i_1=>if (i_1=u.toNat) then [.p (.bool true)] else [.p (.bool (SN i_1))]) (fun i_1=>[.p (.bool (if i_1=u.toNat then true else SN i_1))])),(NL (tn+1) (tn+1)),(CV [(1641,⟨false,1,(tn+1),(fun i_2=>(if (i_2<tn) then [.p (.int .i64 (td i_2))] else [.p (.int .i64 u)]))⟩),(1609,⟨false,1,1,(fun i_2=>[.p (.int .i64 u)])⟩),(6,⟨false,1,N,(fun i_2=>(if (i_2=u.toNat) then [.p (.int .i64 (↑j:Int))] else [.p (.int .i64 (FR i_2))]))⟩),(7,⟨false,1,N,(fun i_2=>(if (i_2=u.toNat) then [.p (.bool true)] else [.p (.bool (SN i_2))]))⟩),(0,⟨false,1,N,(fun i_2=>[.p (.int .i64 (F i_2))])⟩),(1,⟨false,1,m,(fun i_2=>[.p (.int .i64 (T i_2))])⟩),(2,⟨false,1,m,(fun i_2=>[.p (.int .i64 (Q i_2))])⟩),(3,⟨true,2,1,(fun i_2=>[.p (.int .i64 (↑N:Int)),.p (.seq true 2 nb (bRw g))])⟩),(4,⟨true,3,1,(fun i_2=>[.ar 1 0 0 N,.ar 1 1 0 m,.ar 1 2 0 m])⟩),(5,⟨true,3,1,(fun i_2=>[.p (.nil),.p (.nil),.p (.nil)])⟩)] [0,1,2,3,4,5,6,7,1641] 1 (tn+1) (fun i_1=>if (i_1<tn) then [.p (.int .i64 (td i_1))] else [.p (.int .i64 u)]) (fun i_1=>[.p (.int .i64 (if i_1<tn then td i_1 else u))]))] [0,1,0,2,3,4,5,0,0,2,3,4,6,7,8,9,10,11,12,9,10,11,13,9,10,11,13,14,15,14,14,16,17,14,18,14,14,19,20,21,22,23,24,25,26,27,28,29,30,29,31,29,31,32,33,29,29,29,29,30,29,34,29,30,35,36,37,38,39,40,38,41,42,38,41,43,44,20,20,26,27,28,45,20,20,29,30,29,31,29,31,45,20,20,38,39,46,38,39,47,38,48,49]):=by kernel_rfl
theorem qF2d (g:Nat→T_Bar) (nb N m:Nat) (F T Q td FR:Nat→Int) (SN:Nat→Bool) (a b v u:Int) (i j tn:Nat) :
    zM 3 [rg 5,.dec true,rg 7,.dec false,rm [(10,oc [] (.p (.int .i64 u)))] 1,rg 4,.dec false,rg 4,rg 5,rg 11,.dec true,.head] zf4 (SF2 g nb N m F T Q td FR SN a b v i j tn) [0,1,2,3,4,5,6] 1 (SF3 g nb N m F T Q (fun s=>if s=u.toNat then j else FR s) a b u) =
    some (zf2,zD [(NT 0 1),((decide ((↑j:Int)<(↑m:Int)))=true),(IL 0 (↑j:Int)),(IT (↑j:Int) (↑m:Int)),(NT j m),((T j != v)=false),(IL 0 (Q j)),(IT (Q j) (↑nb:Int)),zE 231 [(zf90 g Q j),.p (.int .i64 v)] [] (.p (.int .i64 u)),(IL 0 u),(IT u (↑N:Int)),(NT u.toNat N),((SN u.toNat)=false),((false=true)→ ((N:Nat)=1)),(AG (u != b)),(((u != b)=true)→(NT 0 1)),(((u != b)=true)→(IL 0 u)),(((u != b)=true)→(IT u (↑N:Int))),(((u != b)=true)→(NT u.toNat N)),((bif u != b then decide (F (u.toNat+0)>0) else false)=true),(AI ((↑N:Int))),(AN nb),(AP nb (bRw g)),(AN 0),(AN N),(AN m),(AI a),(AI b),(AI u),(AN 1),(NL N N),(AA N (fun i_1=>[.p (.int .i64 (F i_1))])),(NL m m),(AA m (fun i_1=>[.p (.int .i64 (T i_1))])),(AA m (fun i_1=>[.p (.int .i64 (Q i_1))])),(AN 2),(NL 1 1),(AN 3),(CV [(6,⟨false,1,N,(fun i_2=>(if (i_2=u.toNat) then [.p (.int .i64 (↑j:Int))] else [.p (.int .i64 (FR i_2))]))⟩),(7,⟨false,1,N,(fun i_2=>(if (i_2=u.toNat) then [.p (.bool true)] else [.p (.bool (SN i_2))]))⟩),(0,⟨false,1,N,(fun i_2=>[.p (.int .i64 (F i_2))])⟩),(1,⟨false,1,m,(fun i_2=>[.p (.int .i64 (T i_2))])⟩),(2,⟨false,1,m,(fun i_2=>[.p (.int .i64 (Q i_2))])⟩),(3,⟨true,2,1,(fun i_2=>[.p (.int .i64 (↑N:Int)),.p (.seq true 2 nb (bRw g))])⟩),(4,⟨true,3,1,(fun i_2=>[.ar 1 0 0 N,.ar 1 1 0 m,.ar 1 2 0 m])⟩),(5,⟨true,3,1,(fun i_2=>[.p (.nil),.p (.nil),.p (.nil)])⟩),(8,⟨false,1,tn,(fun i_2=>[.p (.int .i64 (td i_2))])⟩)] [0,1,2,3,4,5,6] 1 N (fun i_1=>if (i_1=u.toNat) then [.p (.int .i64 (↑j:Int))] else [.p (.int .i64 (FR i_1))]) (fun i_1=>[.p (.int .i64 (if i_1=u.toNat then (↑j:Int) else FR i_1))]))] [0,1,0,2,3,4,5,0,0,2,3,4,6,7,8,9,10,11,12,9,10,11,13,9,10,11,13,14,15,14,14,16,17,14,18,14,14,19,20,21,22,23,24,23,25,23,25,26,27,23,23,23,23,24,28,29,30,31,29,32,33,29,32,34,35,36,36,20,21,22,37,36,36,23,24,23,25,23,25,37,36,36,29,30,38]):=by kernel_rfl
theorem qF3 (g:Nat→T_Bar) (nb N m:Nat) (F T Q FR F1 T1:Nat→Int) (a b u:Int) :
    zP Tryz.f222 3 [rm [(5,oc (pebR N m F1 T1 Q) (pebO N m 0))] 2] zf2 (SF3 g nb N m F T Q FR a b u) [0,1,2,167,168,169] 1 (pebR3 N m F T Q F1 T1 Q) (.tup [pebO N m 3,.p (.bool true)]) =
    some (zD [(NT 0 1),(AN 1),(NL N N),(NL m m),zE 232 [(zf82 N nb g),(zf45 N F m T Q),.p (.seq true 1 N (fun i=>[.int .i64 (FR i)])),.p (.int .i64 a),.p (.int .i64 u)] (zf30 N F1 m T1 Q) (.agg [.ar 1 0 0 N,.ar 1 1 0 m,.ar 1 2 0 m]),((true=true)→ (AN 1)),(AN 0),(AN N),(AN m),(true=true),(AA N (fun i=>[.p (.int .i64 (F i))])),(AA m (fun i=>[.p (.int .i64 (T i))])),(AA m (fun i=>[.p (.int .i64 (Q i))])),(AA N (fun i=>[.p (.int .i64 (F1 i))])),(AA m (fun i=>[.p (.int .i64 (T1 i))])),(AE N),(AE m)] [0,0,1,2,1,3,1,3,1,2,4,0,5,0,6,7,6,8,6,8,9,1,2,10,1,3,11,1,3,12,1,2,13,1,3,14,1,3,12,15,16,16,15,16,16]):=by kernel_rfl
theorem con_l4Other (x:T_Bar) (v:Int) (h1:0≤x.1∧x.1≤1048576) (h2:0≤x.2.1∧x.2.1≤1048576) (h3:0≤v∧v≤1048576):zE 231 [brA x,.p (.int .i64 v)] [] (.p (.int .i64 (x.1+x.2.1 - v))):=by
  refine csZ Tryz.func231 (fun c hc=>?_)
  refine pkZ Tryz.func231 hc (qOt x v) ?_
  and_intros
  all_goals (first | exact zN | simp)
theorem con_l4Copy (N m:Nat) (F T Q:Nat→Int) (hN:N≤1048576) (hm:m≤1048576):zE 207 [pebD N m F T Q] (pebR N m F T Q) (pebO N m 0):=by
  refine csZ Tryz.func207 (fun c hc=>?_)
  refine pkD Tryz.func207 hc (qCp N m F T Q) ?_
  and_intros
  all_goals (first | exact zI | (intro i hi;simp [All]))
theorem oth_sum {x:T_Bar} {y z:Int} (h:y=x.1∨y=x.2.1) (hz:othF x y=z):x.1+x.2.1 - z=y∧x.1+x.2.1 - y=z:=by
  unfold othF at hz
  by_cases e:x.1=y
  · rw [if_pos e] at hz;omega
  · rw [if_neg e] at hz
    rcases h with h | h
    · exact absurd h.symm e
    · omega
theorem run_shift {N nb m:Nat} {g:Nat→T_Bar} {F F0 F1 T Q td FR:Nat→Int} {a b u:Int} {tn:Nat} (h:BInv N m g F T Q td (fun s=>FR (td s).toNat) a b tn) (hN:N≤1048576) (hm:m≤1048576) (hnb:nb≤1048576)
    (hq:∀ j,j<m→0≤Q j∧Q j<nb) (hbar:∀ e,e<nb→0≤(g e).1∧(g e).1<(g e).2.1∧(g e).2.1<N) (hT:∀ j,j<m→T j=(g (Q j).toNat).1∨T j=(g (Q j).toNat).2.1) :
    ∀ s,s<tn→∀ T':Nat→Int,TInv m g T Q td (fun s=>FR (td s).toNat) T' u s→∃ T'' s',(∀ c,c.n=0→zR c 232 zf26 (SSl g nb N m F0 T Q FR F1 T' a u (td s)) (Post c (pebR N m F1 T'' Q) (pebO N m 0))) ∧
      TInv m g T Q td (fun s=>FR (td s).toNat) T'' u s'∧td s'=a:=by
  intro s
  induction s using Nat.strongRecOn with
  | ind s ih =>
    intro hs T' ht
    by_cases he:td s=a
    · refine ⟨T',s,fun c hc=>?_,ht,he⟩
      have hb:(td s != a)=false:=by simp [he]
      refine pkD Tryz.func232 hc (qSe g nb N m F0 T Q FR F1 T' a u (td s)) ?_
      and_intros
      all_goals (first | exact zI | (exact hb) | (intro i hi;simp [All]))
    · have hs1:1≤s:=by
        cases s with
        | zero=>exact absurd h.td0 he
        | succ s=>omega
      obtain ⟨j,hj,hVs,s',hs',hk,ht',hTj,hoth⟩:=ht.step h hs hs1
      have hVs:FR (td s).toNat=(j:Int):=hVs
      obtain ⟨T'',s'',hrun,h1,h2⟩:=ih s' hs' (by omega) _ ht'
      refine ⟨T'',s'',fun c hc=>?_,h1,h2⟩
      have hb:(td s != a)=true:=by simp [he]
      have hqj:=hq j hj
      have hbj:=hbar (Q j).toNat (by omega)
      have hrs:=h.rng s hs
      have hsum:=(oth_sum (by rw [← hTj];exact hT j hj) hoth).1
      have hcon:=con_l4Other (g (Q j).toNat) (td s) (by omega) (by omega) (by omega)
      rw [hsum] at hcon
      refine pcD hc (qSl g nb N m F0 T Q FR F1 T' a u (td s) (td s')) ?_ (by rw [hVs];simp only [Int.toNat_natCast];exact hrun c hc)
      and_intros
      all_goals (first | exact zI | (exact hb) | (rw [hVs];simp only [Int.toNat_natCast];omega) | (rw [hVs];simp only [Int.toNat_natCast];exact hcon) | (intro i hi;simp [All];done) | (simp only [hVs,Int.toNat_natCast];intro i hi;by_cases h:i=j<;>simp [h,cvtL,cvt,tg,tru,All]))
theorem BInv.congrV {N m:Nat} {g:Nat→T_Bar} {F T Q td V V':Nat→Int} {a b:Int} {tn:Nat} (h:BInv N m g F T Q td V a b tn) (hv:∀ s,s<tn→V s=V' s):BInv N m g F T Q td V' a b tn :=
  ⟨h.n1,h.td0,h.rng,h.inj,fun s h1 h2=>by rw [← hv s h2];exact h.par s h1 h2⟩
theorem con_l4Shift {N k nb m:Nat} {g:Nat→T_Bar} {F T Q td FR:Nat→Int} {a b u:Int} {tn:Nat} (hp:PInv N k nb m g F T Q) (hk:k≤1048576) (hN:N≤1048576) (hm:m≤1048576) (hnb:nb≤1048576)
    (h:BInv N m g F T Q td (fun s=>FR (td s).toNat) a b (tn+1)) (htn:td tn=u) (ha:0≤a∧a<N) (hu:0≤u∧u<N) (hua:u≠a) :
    ∃ T'' s',zE 232 [grG g nb N,pebD N m F T Q,inD N FR,.p (.int .i64 a),.p (.int .i64 u)] (pebR N m (fun x=>if x=a.toNat then (if x=u.toNat then F x - 1 else F x)+1 else (if x=u.toNat then F x - 1 else F x)) T'' Q) (pebO N m 0) ∧
      TInv m g T Q td (fun s=>FR (td s).toNat) T'' u s'∧td s'=a:=by
  have ht0:TInv m g T Q td (fun s=>FR (td s).toNat) T u tn:=⟨fun _ _ _=>rfl,hp.t,fun x=>by rw [htn];omega⟩
  obtain ⟨T'',s',hrun,h1,h2⟩:=run_shift (nb:=nb) (F0:=F) (F1:=fun x=>if x=a.toNat then (if x=u.toNat then F x - 1 else F x)+1 else (if x=u.toNat then F x - 1 else F x)) h hN hm hnb hp.q hp.bars hp.t tn (by omega) T ht0
  refine ⟨T'',s',?_,h1,h2⟩
  rw [htn] at hrun
  have hFa:=hp.le (v:=a.toNat) (by omega)
  have hFu:=hp.le (v:=u.toNat) (by omega)
  have hcc:=con_l4Copy N m F T Q hN hm
  refine csZ Tryz.func232 (fun c hc=>?_)
  have hrun':=hrun c hc
  refine pcD hc (qSz g nb N m F T Q FR a u) ?_ ?_
  ·
    and_intros
    all_goals (first | exact zI | (exact hcc) | (intro i hi;simp [All];done) | (intro i hi;by_cases h:i=u.toNat<;>simp [h,cvtL,cvt,tg,tru,All]))
  · have hF1:(fun s=>if s=u.toNat then F s - 1 else F s) a.toNat=F a.toNat:=by
      show (if a.toNat=u.toNat then F a.toNat - 1 else F a.toNat)=_
      rw [if_neg (by omega)]
    obtain ⟨F1,hF1d⟩:∃ F1:Nat→Int,F1=(fun s=>if s=u.toNat then F s - 1 else F s):=⟨_,rfl⟩
    have hFF:(fun x=>if x=a.toNat then (if x=u.toNat then F x - 1 else F x)+1 else (if x=u.toNat then F x - 1 else F x))=(fun s=>if s=a.toNat then F1 s+1 else F1 s):=by
      subst hF1d;rfl
    rw [hFF] at hrun' ⊢
    rw [← hF1d] at hF1 ⊢
    refine pcD hc (qSa g nb N m F T Q FR F1 T a u) ?_ hrun'
    and_intros
    all_goals (first | exact zI | (rw [hF1];omega) | (intro i hi;simp [All];done) | (intro i hi;by_cases h:i=a.toNat<;>simp [h,cvtL,cvt,tg,tru,All]))
inductive FindR (N k nb m:Nat) (g:Nat→T_Bar) (F T Q:Nat→Int) (a b:Int):Hp→AV→Prop
  | yes (F' T':Nat→Int) (h:Moved N k nb m g F T Q a b F' T' true):FindR N k nb m g F T Q a b (pebR3 N m F T Q F' T' Q) (.tup [pebO N m 3,.p (.bool true)])
  | no (h:Moved N k nb m g F T Q a b F T false):FindR N k nb m g F T Q a b (pebR N m F T Q) (.tup [pebO N m 0,.p (.bool false)])
def OutS (N k nb m:Nat) (g:Nat→T_Bar) (F T Q:Nat→Int) (a b:Int) (i tn:Nat) (td FR:Nat→Int) (SN:Nat→Bool):Prop :=
  ∃ H' res,(∀ c,c.n=3→zR c 222 [.code (cAt (bodyOf Tryz.f222) [1,1,1,1,1,1,0,1,0,0]),.inLoop (cAt (bodyOf Tryz.f222) [1,1,1,1,1,1,0,1,0,0]),.inBlock 2,.code (cAt (bodyOf Tryz.f222) [1,1,1,1,1,1,1])] (SF1 g nb N m F T Q td FR SN a b i tn) (Post c H' res))∧FindR N k nb m g F T Q a b H' res
def MidS (N k nb m:Nat) (g:Nat→T_Bar) (F T Q:Nat→Int) (a b:Int) (i j tn:Nat) (td FR:Nat→Int) (SN:Nat→Bool):Prop :=
  ∃ H' res,(∀ c,c.n=3→zR c 222 [.code (cAt (bodyOf Tryz.f222) [1,1,1,1,1,1,0,1,0,0,1,0,0,1,1,0,0]),.inLoop (cAt (bodyOf Tryz.f222) [1,1,1,1,1,1,0,1,0,0,1,0,0,1,1,0,0]),.inBlock 4,.inBlock 3,.code (cAt (bodyOf Tryz.f222) [1,1,1,1,1,1,0,1,0,0,1,1]),.inLoop (cAt (bodyOf Tryz.f222) [1,1,1,1,1,1,0,1,0,0]),.inBlock 2,.code (cAt (bodyOf Tryz.f222) [1,1,1,1,1,1,1])] (SF2 g nb N m F T Q td FR SN a b (td i) i j tn) (Post c H' res))∧FindR N k nb m g F T Q a b H' res
def SeenI (N:Nat) (td:Nat→Int) (SN:Nat→Bool) (tn:Nat):Prop:=∀ x:Nat,x<N→(SN x=true↔∃ s,s<tn∧td s=x)
theorem mid_s {N k nb m:Nat} {g:Nat→T_Bar} {F T Q:Nat→Int} {a b:Int} (hp:PInv N k nb m g F T Q) (hk:k≤1048576) (hN:N≤1048576) (hm:m≤1048576) (hnb:nb≤1048576)
    (ha:0≤a∧a<N) (hb:0≤b∧b<N) (hab:a≠b) (i:Nat)
    (ih:∀ tn td FR SN,i+1≤tn→BInv N m g F T Q td (fun s=>FR (td s).toNat) a b tn→SeenI N td SN tn→BZero F td b tn→BClo m g T Q td (i+1) 0 tn→OutS N k nb m g F T Q a b (i+1) tn td FR SN) :
    ∀ e j tn td FR SN,j+e=m→i<tn→BInv N m g F T Q td (fun s=>FR (td s).toNat) a b tn→SeenI N td SN tn→BZero F td b tn→BClo m g T Q td i j tn→MidS N k nb m g F T Q a b i j tn td FR SN:=by
  intro e
  induction e with
  | zero =>
    intro j tn td FR SN hj hi hbi hsn hz hcl
    have htn:=pigeon N tn td hbi.rng hbi.inj
    obtain ⟨H',res,hrun,hmv⟩:=ih tn td FR SN (by omega) hbi hsn hz (fun i' j' hij hi' hT=>by
      rcases hij with ⟨h1,h2⟩ | ⟨h1,h2⟩
      · by_cases e:i'=i
        · exact hcl i' j' (.inr ⟨e,by omega⟩) hi' hT
        · exact hcl i' j' (.inl ⟨by omega,h2⟩) hi' hT
      · omega)
    refine ⟨H',res,fun c hc=>?_,hmv⟩
    have hd:decide ((j:Int)<(m:Int))=false:=by simp;omega
    refine pcD hc (qF2e g nb N m F T Q td FR SN a b (td i) i j tn) ?_ (hrun c hc)
    and_intros
    all_goals (first | exact zN | (intro i hi;simp [All]))
  | succ e ihe =>
    intro j tn td FR SN hj hi hbi hsn hz hcl
    have htn:=pigeon N tn td hbi.rng hbi.inj
    have hjm:j<m:=by omega
    have hd:decide ((j:Int)<(m:Int))=true:=by simp;omega
    have hq:=hp.q j hjm
    have hbar:=hp.bars (Q j).toNat (by omega)
    have hrg:=hbi.rng i hi
    by_cases hT:T j=td i
    · have ht1:(T j != td i)=false:=by simp [hT]
      obtain ⟨v,hv⟩:∃ v,othF (g (Q j).toNat) (td i)=v:=⟨_,rfl⟩
      have hvr:0≤v∧v<N:=by rw [← hv];exact othF_in hbar
      have hsum:=(oth_sum (by rw [← hT];exact hp.t j hjm) hv).2
      have hcon:=con_l4Other (g (Q j).toNat) (td i) (by omega) (by omega) (by omega)
      rw [hsum] at hcon
      cases hh:SN v.toNat with
      | true =>
        obtain ⟨s,hs1,hs2⟩:=(hsn v.toNat (by omega)).1 hh
        obtain ⟨H',res,hrun,hmv⟩:=ihe (j+1) tn td FR SN (by omega) hi hbi hsn hz (fun i' j' hij hi' hTT=>by
          by_cases e:i'=i∧j'=j
          · obtain ⟨rfl,rfl⟩:=e
            exact ⟨s,hs1,by rw [hs2,hv];omega⟩
          · exact hcl i' j' (by omega) hi' hTT)
        refine ⟨H',res,fun c hc=>?_,hmv⟩
        refine pcD hc (qF2b g nb N m F T Q td FR SN a b (td i) v i j tn) ?_ (hrun c hc)
        and_intros
        all_goals (first | exact zN | (exact ht1) | (exact hcon) | (exact hh) | (intro i hi;simp [All]))
      | false =>
        have hno:∀ s,s<tn→td s≠v:=by
          intro s hs e
          have:=(hsn v.toNat (by omega)).2 ⟨s,hs,by omega⟩
          rw [hh] at this;cases this
        have hadd0:=hbi.add hi hjm hT hv hvr hno
        have hadd:BInv N m g F T Q (fun s=>if s<tn then td s else v) (fun s=>(fun x=>if x=v.toNat then (j:Int) else FR x) ((fun s=>if s<tn then td s else v) s).toNat) a b (tn+1):=by
          refine hadd0.congrV (fun s hs=>?_)
          show (if s<tn then FR (td s).toNat else (j:Int))=(if (if s<tn then td s else v).toNat=v.toNat then (j:Int) else FR (if s<tn then td s else v).toNat)
          by_cases e:s<tn
          · have h1:=hno s e
            have h2:=hbi.rng s e
            rw [if_pos e,if_pos e,if_neg (show ¬ (td s).toNat=v.toNat by omega)]
          · rw [if_neg e,if_neg e,if_pos rfl]
        have hF:=hp.le (v:=v.toNat) (by omega)
        cases hcd:(bif v != b then decide (F v.toNat>0) else false) with
        | false =>
          have hzv:v=b∨F v.toNat=0:=by
            by_cases e:v=b
            · exact .inl e
            · right
              have:(v != b)=true:=by simp [e]
              rw [this] at hcd
              simp at hcd
              omega
          obtain ⟨H',res,hrun,hmv⟩:=ihe (j+1) (tn+1) (fun s=>if s<tn then td s else v) (fun x=>if x=v.toNat then (j:Int) else FR x) (fun s=>if s=v.toNat then true else SN s) (by omega) (by omega) hadd (fun x hx=>by
            show (if x=v.toNat then true else SN x)=true↔∃ s,s<tn+1∧(if s<tn then td s else v)=x
            by_cases e:x=v.toNat
            · rw [if_pos e]
              exact ⟨fun _=>⟨tn,by omega,by rw [if_neg (Nat.lt_irrefl tn)];omega⟩,fun _=>rfl⟩
            · rw [if_neg e,hsn x hx]
              constructor
              · rintro ⟨s,h1,h2⟩;exact ⟨s,by omega,by rw [if_pos h1];exact h2⟩
              · rintro ⟨s,h1,h2⟩
                by_cases e2:s<tn
                · rw [if_pos e2] at h2;exact ⟨s,e2,h2⟩
                · rw [if_neg e2] at h2;omega) (fun s h1 h2=>by
            show (if s<tn then td s else v)=b∨F (if s<tn then td s else v).toNat=0
            by_cases e:s<tn
            · rw [if_pos e];exact hz s h1 e
            · rw [if_neg e];exact hzv) (fun i' j' hij hi' hTT=>by
            have hi2:i'<tn:=by omega
            have hTT':T j'=td i':=by rw [hTT];show (if i'<tn then td i' else v)=_;rw [if_pos hi2]
            show ∃ s,s<tn+1∧(if s<tn then td s else v)=othF (g (Q j').toNat) (if i'<tn then td i' else v)
            rw [if_pos hi2]
            by_cases e:i'=i∧j'=j
            · obtain ⟨rfl,rfl⟩:=e
              exact ⟨tn,by omega,by rw [if_neg (Nat.lt_irrefl tn),hv]⟩
            · obtain ⟨s,h1,h2⟩:=hcl i' j' (by omega) hi2 hTT'
              exact ⟨s,by omega,by rw [if_pos h1];exact h2⟩)
          refine ⟨H',res,fun c hc=>?_,hmv⟩
          have hrun':=hrun c hc
          simp only [hi,if_true] at hrun'
          refine pcD hc (qF2c g nb N m F T Q td FR SN a b (td i) v i j tn) ?_ hrun'
          and_intros
          all_goals (first | exact zI | (exact ht1) | (exact hcon) | (exact hh) | (exact hcd) | (intros;omega) | (intro i hi;simp [All];done) | (intro i hi;by_cases h:i<tn<;>simp [h,cvtL,cvt,tg,tru,All];done) | (intro i hi;by_cases h:i=v.toNat<;>simp [h,cvtL,cvt,tg,tru,All]))
        | true =>
          have hvb:v≠b:=by
            intro e
            rw [show (v != b)=false by simp [e]] at hcd
            cases hcd
          have hFv:F v.toNat≠0:=by
            intro e
            rw [show (v != b)=true by simp [hvb]] at hcd
            simp [e] at hcd
          have hva:v≠a:=by
            have:=hno 0 (by have:=hbi.n1;omega)
            rw [hbi.td0] at this
            exact Ne.symm this
          obtain ⟨T'',s',hcs,h1,h2⟩:=con_l4Shift (td:=fun s=>if s<tn then td s else v) (FR:=fun x=>if x=v.toNat then (j:Int) else FR x) (tn:=tn) hp hk hN hm hnb hadd (by show (if tn<tn then td tn else v)=v;rw [if_neg (Nat.lt_irrefl tn)]) ha hvr hva
          refine ⟨_,_,fun c hc=>?_,.yes _ T'' (moved_yes hp ha hb hab hvr hva hvb hFv h1 h2)⟩
          refine pcD hc (qF2d g nb N m F T Q td FR SN a b (td i) v i j tn) ?_ ?_
          ·
            and_intros
            all_goals (first | exact zI | (exact ht1) | (exact hcon) | (exact hh) | (exact hcd) | (intros;omega) | (intro i hi;simp [All];done) | (intro i hi;by_cases h:i=v.toNat<;>simp [h,cvtL,cvt,tg,tru,All]))
          · refine pkD Tryz.func222 hc (qF3 g nb N m F T Q (fun s=>if s=v.toNat then (j:Int) else FR s) _ T'' a b v) ?_
            and_intros
            all_goals (first | exact zI | (exact hcs) | (intro i hi;simp [All]))
    · have ht1:(T j != td i)=true:=by simp [hT]
      obtain ⟨H',res,hrun,hmv⟩:=ihe (j+1) tn td FR SN (by omega) hi hbi hsn hz (fun i' j' hij hi' hTT=>by
        by_cases e:i'=i∧j'=j
        · obtain ⟨rfl,rfl⟩:=e
          exact absurd hTT hT
        · exact hcl i' j' (by omega) hi' hTT)
      refine ⟨H',res,fun c hc=>?_,hmv⟩
      refine pcD hc (qF2a g nb N m F T Q td FR SN a b (td i) i j tn) ?_ (hrun c hc)
      and_intros
      all_goals (first | exact zN | (exact ht1) | (intro i hi;simp [All]))
theorem out_s {N k nb m:Nat} {g:Nat→T_Bar} {F T Q:Nat→Int} {a b:Int} (hp:PInv N k nb m g F T Q) (hk:k≤1048576) (hN:N≤1048576) (hm:m≤1048576) (hnb:nb≤1048576)
    (ha:0≤a∧a<N) (hb:0≤b∧b<N) (hab:a≠b):∀ d i tn td FR SN,N+1≤i+d→i≤tn→BInv N m g F T Q td (fun s=>FR (td s).toNat) a b tn→SeenI N td SN tn→BZero F td b tn→BClo m g T Q td i 0 tn→OutS N k nb m g F T Q a b i tn td FR SN:=by
  intro d
  induction d with
  | zero =>
    intro i tn td FR SN hd hi hbi _ _ _
    have:=pigeon N tn td hbi.rng hbi.inj
    omega
  | succ d ih =>
    intro i tn td FR SN hd hi hbi hsn hz hcl
    have htn:=pigeon N tn td hbi.rng hbi.inj
    by_cases hit:i<tn
    · have hd':decide ((i:Int)<(tn:Int))=true:=by simp;omega
      obtain ⟨H',res,hrun,hmv⟩:=mid_s hp hk hN hm hnb ha hb hab i (fun tn td FR SN h1 h2 h3 h4 h5=>ih (i+1) tn td FR SN (by omega) h1 h2 h3 h4 h5) m 0 tn td FR SN (by omega) hit hbi hsn hz hcl
      refine ⟨H',res,fun c hc=>?_,hmv⟩
      refine pcD hc (qF1 g nb N m F T Q td FR SN a b i tn) ?_ (hrun c hc)
      and_intros
      all_goals (first | exact zN | (intro i hi;simp [All]))
    · have hd':decide ((i:Int)<(tn:Int))=false:=by simp;omega
      obtain rfl:i=tn:=by omega
      refine ⟨_,_,fun c hc=>?_,.no (moved_no hp hbi hz hcl)⟩
      refine pkD Tryz.func222 hc (qF1e g nb N m F T Q td FR SN a b i i) ?_
      and_intros
      all_goals (first | exact zI | (intro i hi;simp [All]))
theorem con_l4Find {N k nb m:Nat} {g:Nat→T_Bar} {F T Q:Nat→Int} {a b:Int} (hp:PInv N k nb m g F T Q) (hk:k≤1048576) (hN:N≤1048576) (hm:m≤1048576) (hnb:nb≤1048576)
    (ha:0≤a∧a<N) (hb:0≤b∧b<N) (hab:a≠b):∃ H' res,Con Tryz.prog 222 3 (pebR N m F T Q) [grG g nb N,pebO N m 0,.p (.int .i64 a),.p (.int .i64 b)] H' res∧FindR N k nb m g F T Q a b H' res:=by
  obtain ⟨H',res,hrun,hmv⟩:=out_s hp hk hN hm hnb ha hb hab (N+1) 0 1 (fun _=>a) (fun _=>-1) (fun s=>if s=a.toNat then true else false) (by omega) (by omega)
    ⟨by omega,rfl,fun s hs=>ha,fun s s' h1 h2=>by omega,fun s h1 h2=>by omega⟩ (fun x hx=>by
      show (if x=a.toNat then true else false)=true↔∃ s,s<1∧a=x
      by_cases e:x=a.toNat
      · rw [if_pos e];exact ⟨fun _=>⟨0,by omega,by omega⟩,fun _=>rfl⟩
      · rw [if_neg e];exact ⟨(fun h=>by cases h),(fun ⟨s,h1,h2⟩=>by omega)⟩) (fun s h1 h2=>by omega) (fun i' j' h=>by omega)
  refine ⟨H',res,?_,hmv⟩
  refine csZ Tryz.func222 (fun c hc=>?_)
  have lp0:∀ d i,i+d=N→zR c 222 zf46 (SF0 g nb N m F T Q a b i) (Post c H' res):=by
    intro d
    induction d with
    | zero =>
      intro i hi
      obtain rfl:i=N:=by omega
      have hd:decide ((i:Int)<(i:Int))=false:=by simp
      refine pcD hc (qF01 g nb i m F T Q a b i) ?_ (hrun c hc)
      and_intros
      iterate 2 all_goals (first | exact zI | (intro j hj;simp [All];done) | (intro j hj;simp [hj,All];done) | (intro j hj;by_cases h:j=a.toNat<;>simp [h,cvtL,cvt,tg,tru,All]) | simp only [All])
    | succ d ih =>
      intro i hi
      have hd:decide ((i:Int)<(N:Int))=true:=by simp;omega
      refine pcD hc (qF0 g nb N m F T Q a b i) ?_ (ih (i+1) (by omega))
      and_intros
      all_goals (first | exact zI | (intro j hj;simp [All];done) | (intro j hj;by_cases h:j=i<;>simp [h,Nat.lt_succ_iff_lt_or_eq,cvtL,cvt,tg,tru,All]))
  refine pcD hc (qFz g nb N m F T Q a b) ?_ (lp0 N 0 (by omega))
  and_intros
  iterate 2 all_goals (first | exact zN | (intro i hi;simp [All]) | simp only [All])
def aft (a b:T_Bar):Bool:=bif decide (a.1<b.1) then true else bif a.1==b.1 then decide (a.2.1≤b.2.1) else false
def cmpI (x y:Int):Int:=if x<y then -1 else if x>y then 1 else 0
def cmpB (a b:T_Bar):Int:=if cmpI a.1 b.1=0 then cmpI a.2.1 b.2.1 else cmpI a.1 b.1
def badB (N:Int) (g:Nat→T_Bar) (k:Nat):Bool :=
  bif bif bif decide ((g k).1<0) then true else decide ((g k).1≥(g k).2.1) then true else decide ((g k).2.1≥N) then true
    else bif decide ((k:Int)>0) then !aft (g ((k:Int) - 1).toNat) (g k) else false
def goodB (N:Int) (g:Nat→T_Bar):Nat→Bool
  | 0=>true
  | k+1=>goodB N g k&&!badB N g k
def isGraphF (v:T_Graph):Bool:=if inB v.1 1 8=true∧v.2.1.1≤24 then goodB v.1 v.2.1.2 v.2.1.1 else false
def barA (a:T_Bar):AV:=.agg [.p (.int .i64 a.1),.p (.int .i64 a.2.1)]
def graphL (v:T_BarS):AV:=.p (.seq true 2 v.1 (fun i=>[.int .i64 (v.2 i).1,.int .i64 (v.2 i).2.1]))
def graphA (v:T_Graph):AV:=.agg [.p (.int .i64 v.1),graphL v.2.1]
def boxG (v:T_Graph):Ob:=⟨true,2,1,fun i=>[.p (.int .i64 v.1),graphL v.2.1]⟩
def S48 (v:T_Graph) (k:Nat):St :=
  ⟨[graphA v,.pt 2 0 0 0,.p .any,.p (.int .i64 k)]++List.replicate 55 anyA,[(0,boxG v)],1⟩
def S51 (v:T_Graph) (k:Nat):St :=
  ⟨[graphA v,.pt 2 0 0 0]++List.replicate 14 anyA++[graphL v.2.1,.p (.int .i64 v.2.1.1),.p (.int .i64 k)]++List.replicate 37 anyA,[(0,boxG v)],1⟩
theorem p57 (a b:T_Bar) :
    zS Tryz.f176 [rg 3,rg 20] [barA a,barA b] [] [] (.p (.bool (aft a b))) =
    some (zD [(NT 0 1),(AG (!decide (a.1<b.1))),(((!decide (a.1<b.1))=true)→(NT 0 1)),(AG (!decide (a.1<b.1)&&a.1==b.1)),(((!decide (a.1<b.1)&&a.1==b.1)=true)→(NT 0 1)),(((!decide (a.1<b.1))=true)→(((a.1==b.1)=true)→ ((!decide (a.1<b.1)&&a.1==b.1)=true))),(((decide (a.1<b.1))=false)→ ((!decide (a.1<b.1))=true)),((bif decide (a.1<b.1) then true else bif a.1==b.1 then decide (a.2.1≤b.2.1) else false)=(aft a b))] [0,0,1,2,1,2,1,1,1,3,4,3,4,3,3,1,5,6,7]):=by kernel_rfl
theorem p62a (x y:Int) :
    zS Tryz.f175 [rg 1,rg 4,.dec true,rg 1] [.p (.int .i64 x),.p (.int .i64 y)] [] [] (.p (.int .i64 (-1))) =
    some [((decide (x<y))=true),(AI ((-1)))]:=by kernel_rfl
theorem p62b (x y:Int) :
    zS Tryz.f175 [rg 1,rg 4,.dec false,rg 4,.dec true,rg 1] [.p (.int .i64 x),.p (.int .i64 y)] [] [] (.p (.int .i64 1)) =
    some [((decide (x<y))=false),((decide (x>y))=true),(AI 1)]:=by kernel_rfl
theorem p62c (x y:Int) :
    zS Tryz.f175 [rg 1,rg 4,.dec false,rg 4,.dec false,rg 1] [.p (.int .i64 x),.p (.int .i64 y)] [] [] (.p (.int .i64 0)) =
    some [((decide (x<y))=false),((decide (x>y))=false),(AI 0)]:=by kernel_rfl
theorem p59a (a b:T_Bar) :
    zS Tryz.f133 [rg 3,rm [(4,oc [] (.p (.int .i64 (cmpI a.1 b.1))))] 1,rg 2,.dec true,rg 2] [barA a,barA b] [] [] (.p (.int .i64 (cmpI a.1 b.1))) =
    some [(NT 0 1),(NT 0 1),zE 175 [.p (.int .i64 a.1),.p (.int .i64 b.1)] [] (.p (.int .i64 (cmpI a.1 b.1))),((cmpI a.1 b.1 != 0)=true),(AI ((cmpI a.1 b.1)))]:=by kernel_rfl
theorem p59b (a b:T_Bar) :
    zS Tryz.f133 [rg 3,rm [(4,oc [] (.p (.int .i64 (cmpI a.1 b.1))))] 1,rg 2,.dec false,rm [(4,oc [] (.p (.int .i64 (cmpI a.2.1 b.2.1))))] 1] [barA a,barA b] [] [] (.p (.int .i64 (cmpI a.2.1 b.2.1))) =
    some [(NT 0 1),(NT 0 1),zE 175 [.p (.int .i64 a.1),.p (.int .i64 b.1)] [] (.p (.int .i64 (cmpI a.1 b.1))),((cmpI a.1 b.1 != 0)=false),(NT 0 1),(NT 0 1),zE 175 [.p (.int .i64 a.2.1),.p (.int .i64 b.2.1)] [] (.p (.int .i64 (cmpI a.2.1 b.2.1))),(AI ((cmpI a.2.1 b.2.1)))]:=by kernel_rfl
theorem p48z (v:T_Graph) :
    zS Tryz.f134 [rg 2,rm [(2,oc [] (.p (.bool (inB v.1 1 8))))] 7,.dec true,rg 1] [graphA v] [] [] (.p (.bool false)) =
    some (zD [(NT 0 1),zE 121 [.p (.int .i64 v.1),.p (.int .i64 1),.p (.int .i64 8)] [] (.p (.bool (inB v.1 1 8))),(AG (!!inB v.1 1 8)),(((!!inB v.1 1 8)=true)→(NT 0 1)),(((!inB v.1 1 8)=false)→ ((!!inB v.1 1 8)=true)),((bif !inB v.1 1 8 then true else decide ((↑v.2.1.1:Int)>24))=true),(false=false)] [0,1,2,3,2,2,4,5,6]):=by kernel_rfl
theorem p48a (v:T_Graph) :
    zT Tryz.f134 [rg 2,rm [(2,oc [] (.p (.bool (inB v.1 1 8))))] 7,.dec false,rg 1,.head] [graphA v] [0] (S48 v 0) =
    some (zf47,zD [(NT 0 1),zE 121 [.p (.int .i64 v.1),.p (.int .i64 1),.p (.int .i64 8)] [] (.p (.bool (inB v.1 1 8))),(AG (!!inB v.1 1 8)),(((!!inB v.1 1 8)=true)→(NT 0 1)),(((!inB v.1 1 8)=false)→ ((!!inB v.1 1 8)=true)),((bif !inB v.1 1 8 then true else decide ((↑v.2.1.1:Int)>24))=false),(AI v.1),(AN v.2.1.1),(AP v.2.1.1 (bRw v.2.1.2)),(AN 0),((0:Int)=(↑0:Int)),((([AV.p (PV.int IntKind.i64 v.1),graphL v.2.1].length):Nat)=2),(NL 1 1)] [0,1,2,3,2,2,4,5,6,7,8,9,10,11,12,12,6,7,8]):=by kernel_rfl
theorem p48b (v:T_Graph) (k:Nat) :
    zM 0 [rg 5,.dec true,rg 7,rm [(28,oc [] (.p (.bool (aft (v.2.1.2 ((k:Int) - 1).toNat) (v.2.1.2 k)))))] 3,.dec false,rg 3,.head] zf47 (S48 v k) [0] 1 (S48 v (k+1)) =
    some (zf47,zD [(NT 0 1),((decide ((↑k:Int)<(↑v.2.1.1:Int)))=true),(IL 0 (↑k:Int)),(IT (↑k:Int) (↑v.2.1.1:Int)),((true=true)→ (AN 1)),(AG (!decide ((vKz v k).1<0))),(((!decide ((vKz v k).1<0))=true)→(NT 0 1)),(((decide ((vKz v k).1<0))=false)→ ((!decide ((vKz v k).1<0))=true)),(AG (!bif decide ((vKz v k).1<0) then true else decide ((vKz v k).1≥(vKz v k).2.1))),(((!bif decide ((vKz v k).1<0) then true else decide ((vKz v k).1≥(vKz v k).2.1))=true)→(NT 0 1)),(((bif decide ((vKz v k).1<0) then true else decide ((vKz v k).1≥(vKz v k).2.1))=false)→ ((!bif decide ((vKz v k).1<0) then true else decide ((vKz v k).1≥(vKz v k).2.1))=true)),(AG (!bif bif decide ((vKz v k).1<0) then true else decide ((vKz v k).1≥(vKz v k).2.1) then true else decide ((vKz v k).2.1≥v.1))),(AG ((!bif bif decide ((vKz v k).1<0) then true else decide ((vKz v k).1≥(vKz v k).2.1) then true else decide ((vKz v k).2.1≥v.1))&&decide ((↑k:Int)>0))),((((!bif bif decide ((vKz v k).1<0) then true else decide ((vKz v k).1≥(vKz v k).2.1) then true else decide ((vKz v k).2.1≥v.1))&&decide ((↑k:Int)>0))=true)→(NT 0 1)),((((!bif bif decide ((vKz v k).1<0) then true else decide ((vKz v k).1≥(vKz v k).2.1) then true else decide ((vKz v k).2.1≥v.1))&&decide ((↑k:Int)>0))=true)→(ZLo ((↑k:Int) - 1))),((((!bif bif decide ((vKz v k).1<0) then true else decide ((vKz v k).1≥(vKz v k).2.1) then true else decide ((vKz v k).2.1≥v.1))&&decide ((↑k:Int)>0))=true)→(ZHi ((↑k:Int) - 1))),((((!bif bif decide ((vKz v k).1<0) then true else decide ((vKz v k).1≥(vKz v k).2.1) then true else decide ((vKz v k).2.1≥v.1))&&decide ((↑k:Int)>0))=true)→(IL 0 ((↑k:Int) - 1))),((((!bif bif decide ((vKz v k).1<0) then true else decide ((vKz v k).1≥(vKz v k).2.1) then true else decide ((vKz v k).2.1≥v.1))&&decide ((↑k:Int)>0))=true)→(IT ((↑k:Int) - 1) (↑v.2.1.1:Int))),((((!bif bif decide ((vKz v k).1<0) then true else decide ((vKz v k).1≥(vKz v k).2.1) then true else decide ((vKz v k).2.1≥v.1))&&decide ((↑k:Int)>0))=true)→ zE 176 [(zf81 v k),(zf92 v k)] [] (.p (.bool (aft (v.2.1.2 ((↑k:Int) - 1).toNat) (v.2.1.2 k))))),(((!bif bif decide ((vKz v k).1<0) then true else decide ((vKz v k).1≥(vKz v k).2.1) then true else decide ((vKz v k).2.1≥v.1))=true)→(((decide ((↑k:Int)>0))=true)→ (((!bif bif decide ((vKz v k).1<0) then true else decide ((vKz v k).1≥(vKz v k).2.1) then true else decide ((vKz v k).2.1≥v.1))&&decide ((↑k:Int)>0))=true))),(((bif bif decide ((vKz v k).1<0) then true else decide ((vKz v k).1≥(vKz v k).2.1) then true else decide ((vKz v k).2.1≥v.1))=false)→ ((!bif bif decide ((vKz v k).1<0) then true else decide ((vKz v k).1≥(vKz v k).2.1) then true else decide ((vKz v k).2.1≥v.1))=true)),((bif bif bif decide ((vKz v k).1<0) then true else decide ((vKz v k).1≥(vKz v k).2.1) then true else decide ((vKz v k).2.1≥v.1) then true else bif decide ((↑k:Int)>0) then !aft (v.2.1.2 ((↑k:Int) - 1).toNat) (v.2.1.2 k) else false)=false),(ZLo ((↑k:Int)+1)),(ZHi ((↑k:Int)+1)),(AI v.1),(AN v.2.1.1),(AP v.2.1.1 (bRw v.2.1.2)),(AN 0),((((↑k:Int)+1):Int)=(↑(k+1):Int)),(AN 2),(NL 1 1)] [0,1,0,2,3,0,4,0,5,6,5,6,5,5,7,8,9,8,9,8,8,10,11,11,12,13,12,14,15,12,12,16,17,12,13,12,12,18,12,11,19,20,21,22,23,24,25,26,27,28,29,30,30,24,25,26]):=by kernel_rfl
theorem p48c (v:T_Graph) (k:Nat) :
    zP Tryz.f134 0 [rg 5,.dec true,rg 7,rm [(28,oc [] (.p (.bool (aft (v.2.1.2 ((k:Int) - 1).toNat) (v.2.1.2 k)))))] 3,.dec true,rg 1] zf47 (S48 v k) [] 1 [] (.p (.bool false)) =
    some (zD [(NT 0 1),((decide ((↑k:Int)<(↑v.2.1.1:Int)))=true),(IL 0 (↑k:Int)),(IT (↑k:Int) (↑v.2.1.1:Int)),((true=true)→ (AN 1)),(AG (!decide ((vKz v k).1<0))),(((!decide ((vKz v k).1<0))=true)→(NT 0 1)),(((decide ((vKz v k).1<0))=false)→ ((!decide ((vKz v k).1<0))=true)),(AG (!bif decide ((vKz v k).1<0) then true else decide ((vKz v k).1≥(vKz v k).2.1))),(((!bif decide ((vKz v k).1<0) then true else decide ((vKz v k).1≥(vKz v k).2.1))=true)→(NT 0 1)),(((bif decide ((vKz v k).1<0) then true else decide ((vKz v k).1≥(vKz v k).2.1))=false)→ ((!bif decide ((vKz v k).1<0) then true else decide ((vKz v k).1≥(vKz v k).2.1))=true)),(AG (!bif bif decide ((vKz v k).1<0) then true else decide ((vKz v k).1≥(vKz v k).2.1) then true else decide ((vKz v k).2.1≥v.1))),(AG ((!bif bif decide ((vKz v k).1<0) then true else decide ((vKz v k).1≥(vKz v k).2.1) then true else decide ((vKz v k).2.1≥v.1))&&decide ((↑k:Int)>0))),((((!bif bif decide ((vKz v k).1<0) then true else decide ((vKz v k).1≥(vKz v k).2.1) then true else decide ((vKz v k).2.1≥v.1))&&decide ((↑k:Int)>0))=true)→(NT 0 1)),((((!bif bif decide ((vKz v k).1<0) then true else decide ((vKz v k).1≥(vKz v k).2.1) then true else decide ((vKz v k).2.1≥v.1))&&decide ((↑k:Int)>0))=true)→(ZLo ((↑k:Int) - 1))),((((!bif bif decide ((vKz v k).1<0) then true else decide ((vKz v k).1≥(vKz v k).2.1) then true else decide ((vKz v k).2.1≥v.1))&&decide ((↑k:Int)>0))=true)→(ZHi ((↑k:Int) - 1))),((((!bif bif decide ((vKz v k).1<0) then true else decide ((vKz v k).1≥(vKz v k).2.1) then true else decide ((vKz v k).2.1≥v.1))&&decide ((↑k:Int)>0))=true)→(IL 0 ((↑k:Int) - 1))),((((!bif bif decide ((vKz v k).1<0) then true else decide ((vKz v k).1≥(vKz v k).2.1) then true else decide ((vKz v k).2.1≥v.1))&&decide ((↑k:Int)>0))=true)→(IT ((↑k:Int) - 1) (↑v.2.1.1:Int))),((((!bif bif decide ((vKz v k).1<0) then true else decide ((vKz v k).1≥(vKz v k).2.1) then true else decide ((vKz v k).2.1≥v.1))&&decide ((↑k:Int)>0))=true)→ zE 176 [(zf81 v k),(zf92 v k)] [] (.p (.bool (aft (v.2.1.2 ((↑k:Int) - 1).toNat) (v.2.1.2 k))))),(((!bif bif decide ((vKz v k).1<0) then true else decide ((vKz v k).1≥(vKz v k).2.1) then true else decide ((vKz v k).2.1≥v.1))=true)→(((decide ((↑k:Int)>0))=true)→ (((!bif bif decide ((vKz v k).1<0) then true else decide ((vKz v k).1≥(vKz v k).2.1) then true else decide ((vKz v k).2.1≥v.1))&&decide ((↑k:Int)>0))=true))),(((bif bif decide ((vKz v k).1<0) then true else decide ((vKz v k).1≥(vKz v k).2.1) then true else decide ((vKz v k).2.1≥v.1))=false)→ ((!bif bif decide ((vKz v k).1<0) then true else decide ((vKz v k).1≥(vKz v k).2.1) then true else decide ((vKz v k).2.1≥v.1))=true)),((bif bif bif decide ((vKz v k).1<0) then true else decide ((vKz v k).1≥(vKz v k).2.1) then true else decide ((vKz v k).2.1≥v.1) then true else bif decide ((↑k:Int)>0) then !aft (v.2.1.2 ((↑k:Int) - 1).toNat) (v.2.1.2 k) else false)=true),(false=false)] [0,1,0,2,3,0,4,0,5,6,5,6,5,5,7,8,9,8,9,8,8,10,11,11,12,13,12,14,15,12,12,16,17,12,13,12,12,18,12,11,19,20,21,22]):=by kernel_rfl
theorem p48d (v:T_Graph) (k:Nat) :
    zP Tryz.f134 0 [rg 5,.dec false,rg 1] zf47 (S48 v k) [] 1 [] (.p (.bool true)) =
    some [(NT 0 1),((decide ((↑k:Int)<(↑v.2.1.1:Int)))=false),(true=true)]:=by kernel_rfl
theorem p51z (v:T_Graph) :
    zS Tryz.f130 [rg 2,rm [(2,oc [] (.p (.bool (inB v.1 1 8))))] 7,.dec true,rg 1] [graphA v] [] [] (.p (.bool false)) =
    some (zD [(NT 0 1),zE 90 [.p (.int .i64 v.1),.p (.int .i64 1),.p (.int .i64 8)] [] (.p (.bool (inB v.1 1 8))),(AG (!!inB v.1 1 8)),(((!!inB v.1 1 8)=true)→(NT 0 1)),(((!inB v.1 1 8)=false)→ ((!!inB v.1 1 8)=true)),((bif !inB v.1 1 8 then true else decide ((↑v.2.1.1:Int)>24))=true),(false=false)] [0,1,2,3,2,2,4,5,6]):=by kernel_rfl
theorem p51a (v:T_Graph) :
    zT Tryz.f130 [rg 2,rm [(2,oc [] (.p (.bool (inB v.1 1 8))))] 7,.dec false,rg 4,.head] [graphA v] [0] (S51 v 0) =
    some (zf48,zD [(NT 0 1),zE 90 [.p (.int .i64 v.1),.p (.int .i64 1),.p (.int .i64 8)] [] (.p (.bool (inB v.1 1 8))),(AG (!!inB v.1 1 8)),(((!!inB v.1 1 8)=true)→(NT 0 1)),(((!inB v.1 1 8)=false)→ ((!!inB v.1 1 8)=true)),((bif !inB v.1 1 8 then true else decide ((↑v.2.1.1:Int)>24))=false),(AI v.1),(AN v.2.1.1),(AP v.2.1.1 (bRw v.2.1.2)),(AN 0),(AI ((↑v.2.1.1:Int))),((0:Int)=(↑0:Int)),((([AV.p (PV.int IntKind.i64 v.1),graphL v.2.1].length):Nat)=2),(NL 1 1)] [0,1,2,3,2,2,4,5,0,6,7,8,9,7,8,10,11,12,13,13,6,7,8]):=by kernel_rfl
theorem p51b (v:T_Graph) (k:Nat) :
    zM 0 [rg 1,.dec true,rg 6,rm [(28,oc [] (.p (.int .i64 (cmpB (v.2.1.2 ((k:Int) - 1).toNat) (v.2.1.2 k)))))] 3,.dec false,rg 2,.head] zf48 (S51 v k) [0] 1 (S51 v (k+1)) =
    some (zf48,zD [((decide ((↑k:Int)<(↑v.2.1.1:Int)))=true),(IL 0 (↑k:Int)),(IT (↑k:Int) (↑v.2.1.1:Int)),(NT 0 1),((true=true)→ (AN 1)),(AG (!decide ((vKz v k).1<0))),(((!decide ((vKz v k).1<0))=true)→(NT 0 1)),(((decide ((vKz v k).1<0))=false)→ ((!decide ((vKz v k).1<0))=true)),(AG (!bif decide ((vKz v k).1<0) then true else decide ((vKz v k).1≥(vKz v k).2.1))),(((!bif decide ((vKz v k).1<0) then true else decide ((vKz v k).1≥(vKz v k).2.1))=true)→(NT 0 1)),(((bif decide ((vKz v k).1<0) then true else decide ((vKz v k).1≥(vKz v k).2.1))=false)→ ((!bif decide ((vKz v k).1<0) then true else decide ((vKz v k).1≥(vKz v k).2.1))=true)),(AG (!bif bif decide ((vKz v k).1<0) then true else decide ((vKz v k).1≥(vKz v k).2.1) then true else decide ((vKz v k).2.1≥v.1))),(AG ((!bif bif decide ((vKz v k).1<0) then true else decide ((vKz v k).1≥(vKz v k).2.1) then true else decide ((vKz v k).2.1≥v.1))&&decide ((↑k:Int)>0))),((((!bif bif decide ((vKz v k).1<0) then true else decide ((vKz v k).1≥(vKz v k).2.1) then true else decide ((vKz v k).2.1≥v.1))&&decide ((↑k:Int)>0))=true)→(NT 0 1)),((((!bif bif decide ((vKz v k).1<0) then true else decide ((vKz v k).1≥(vKz v k).2.1) then true else decide ((vKz v k).2.1≥v.1))&&decide ((↑k:Int)>0))=true)→(ZLo ((↑k:Int) - 1))),((((!bif bif decide ((vKz v k).1<0) then true else decide ((vKz v k).1≥(vKz v k).2.1) then true else decide ((vKz v k).2.1≥v.1))&&decide ((↑k:Int)>0))=true)→(ZHi ((↑k:Int) - 1))),((((!bif bif decide ((vKz v k).1<0) then true else decide ((vKz v k).1≥(vKz v k).2.1) then true else decide ((vKz v k).2.1≥v.1))&&decide ((↑k:Int)>0))=true)→(IL 0 ((↑k:Int) - 1))),((((!bif bif decide ((vKz v k).1<0) then true else decide ((vKz v k).1≥(vKz v k).2.1) then true else decide ((vKz v k).2.1≥v.1))&&decide ((↑k:Int)>0))=true)→(IT ((↑k:Int) - 1) (↑v.2.1.1:Int))),((((!bif bif decide ((vKz v k).1<0) then true else decide ((vKz v k).1≥(vKz v k).2.1) then true else decide ((vKz v k).2.1≥v.1))&&decide ((↑k:Int)>0))=true)→ zE 133 [(zf81 v k),(zf92 v k)] [] (.p (.int .i64 (cmpB (v.2.1.2 ((↑k:Int) - 1).toNat) (v.2.1.2 k))))),(((!bif bif decide ((vKz v k).1<0) then true else decide ((vKz v k).1≥(vKz v k).2.1) then true else decide ((vKz v k).2.1≥v.1))=true)→(((decide ((↑k:Int)>0))=true)→ (((!bif bif decide ((vKz v k).1<0) then true else decide ((vKz v k).1≥(vKz v k).2.1) then true else decide ((vKz v k).2.1≥v.1))&&decide ((↑k:Int)>0))=true))),(((bif bif decide ((vKz v k).1<0) then true else decide ((vKz v k).1≥(vKz v k).2.1) then true else decide ((vKz v k).2.1≥v.1))=false)→ ((!bif bif decide ((vKz v k).1<0) then true else decide ((vKz v k).1≥(vKz v k).2.1) then true else decide ((vKz v k).2.1≥v.1))=true)),((bif bif bif decide ((vKz v k).1<0) then true else decide ((vKz v k).1≥(vKz v k).2.1) then true else decide ((vKz v k).2.1≥v.1) then true else bif decide ((↑k:Int)>0) then decide (cmpB (v.2.1.2 ((↑k:Int) - 1).toNat) (v.2.1.2 k)>0) else false)=false),(ZLo ((↑k:Int)+1)),(ZHi ((↑k:Int)+1)),(AI v.1),(AN v.2.1.1),(AP v.2.1.1 (bRw v.2.1.2)),(AN 0),(AI ((↑v.2.1.1:Int))),((((↑k:Int)+1):Int)=(↑(k+1):Int)),(AN 2),(NL 1 1)] [0,1,2,3,4,3,5,6,5,6,5,5,7,8,9,8,9,8,8,10,11,11,12,13,12,14,15,12,12,16,17,12,13,12,12,18,12,11,19,20,21,22,23,24,25,26,27,25,26,28,29,30,31,31,24,25,26]):=by kernel_rfl
theorem p51c (v:T_Graph) (k:Nat) :
    zP Tryz.f130 0 [rg 1,.dec true,rg 6,rm [(28,oc [] (.p (.int .i64 (cmpB (v.2.1.2 ((k:Int) - 1).toNat) (v.2.1.2 k)))))] 3,.dec true,rg 1] zf48 (S51 v k) [] 1 [] (.p (.bool false)) =
    some (zD [((decide ((↑k:Int)<(↑v.2.1.1:Int)))=true),(IL 0 (↑k:Int)),(IT (↑k:Int) (↑v.2.1.1:Int)),(NT 0 1),((true=true)→ (AN 1)),(AG (!decide ((vKz v k).1<0))),(((!decide ((vKz v k).1<0))=true)→(NT 0 1)),(((decide ((vKz v k).1<0))=false)→ ((!decide ((vKz v k).1<0))=true)),(AG (!bif decide ((vKz v k).1<0) then true else decide ((vKz v k).1≥(vKz v k).2.1))),(((!bif decide ((vKz v k).1<0) then true else decide ((vKz v k).1≥(vKz v k).2.1))=true)→(NT 0 1)),(((bif decide ((vKz v k).1<0) then true else decide ((vKz v k).1≥(vKz v k).2.1))=false)→ ((!bif decide ((vKz v k).1<0) then true else decide ((vKz v k).1≥(vKz v k).2.1))=true)),(AG (!bif bif decide ((vKz v k).1<0) then true else decide ((vKz v k).1≥(vKz v k).2.1) then true else decide ((vKz v k).2.1≥v.1))),(AG ((!bif bif decide ((vKz v k).1<0) then true else decide ((vKz v k).1≥(vKz v k).2.1) then true else decide ((vKz v k).2.1≥v.1))&&decide ((↑k:Int)>0))),((((!bif bif decide ((vKz v k).1<0) then true else decide ((vKz v k).1≥(vKz v k).2.1) then true else decide ((vKz v k).2.1≥v.1))&&decide ((↑k:Int)>0))=true)→(NT 0 1)),((((!bif bif decide ((vKz v k).1<0) then true else decide ((vKz v k).1≥(vKz v k).2.1) then true else decide ((vKz v k).2.1≥v.1))&&decide ((↑k:Int)>0))=true)→(ZLo ((↑k:Int) - 1))),((((!bif bif decide ((vKz v k).1<0) then true else decide ((vKz v k).1≥(vKz v k).2.1) then true else decide ((vKz v k).2.1≥v.1))&&decide ((↑k:Int)>0))=true)→(ZHi ((↑k:Int) - 1))),((((!bif bif decide ((vKz v k).1<0) then true else decide ((vKz v k).1≥(vKz v k).2.1) then true else decide ((vKz v k).2.1≥v.1))&&decide ((↑k:Int)>0))=true)→(IL 0 ((↑k:Int) - 1))),((((!bif bif decide ((vKz v k).1<0) then true else decide ((vKz v k).1≥(vKz v k).2.1) then true else decide ((vKz v k).2.1≥v.1))&&decide ((↑k:Int)>0))=true)→(IT ((↑k:Int) - 1) (↑v.2.1.1:Int))),((((!bif bif decide ((vKz v k).1<0) then true else decide ((vKz v k).1≥(vKz v k).2.1) then true else decide ((vKz v k).2.1≥v.1))&&decide ((↑k:Int)>0))=true)→ zE 133 [(zf81 v k),(zf92 v k)] [] (.p (.int .i64 (cmpB (v.2.1.2 ((↑k:Int) - 1).toNat) (v.2.1.2 k))))),(((!bif bif decide ((vKz v k).1<0) then true else decide ((vKz v k).1≥(vKz v k).2.1) then true else decide ((vKz v k).2.1≥v.1))=true)→(((decide ((↑k:Int)>0))=true)→ (((!bif bif decide ((vKz v k).1<0) then true else decide ((vKz v k).1≥(vKz v k).2.1) then true else decide ((vKz v k).2.1≥v.1))&&decide ((↑k:Int)>0))=true))),(((bif bif decide ((vKz v k).1<0) then true else decide ((vKz v k).1≥(vKz v k).2.1) then true else decide ((vKz v k).2.1≥v.1))=false)→ ((!bif bif decide ((vKz v k).1<0) then true else decide ((vKz v k).1≥(vKz v k).2.1) then true else decide ((vKz v k).2.1≥v.1))=true)),((bif bif bif decide ((vKz v k).1<0) then true else decide ((vKz v k).1≥(vKz v k).2.1) then true else decide ((vKz v k).2.1≥v.1) then true else bif decide ((↑k:Int)>0) then decide (cmpB (v.2.1.2 ((↑k:Int) - 1).toNat) (v.2.1.2 k)>0) else false)=true),(false=false)] [0,1,2,3,4,3,5,6,5,6,5,5,7,8,9,8,9,8,8,10,11,11,12,13,12,14,15,12,12,16,17,12,13,12,12,18,12,11,19,20,21,22]):=by kernel_rfl
theorem p51d (v:T_Graph) (k:Nat) :
    zP Tryz.f130 0 [rg 1,.dec false,rg 1] zf48 (S51 v k) [] 1 [] (.p (.bool true)) =
    some [((decide ((↑k:Int)<(↑v.2.1.1:Int)))=false),(true=true)]:=by kernel_rfl
theorem con_l2After (a b:T_Bar):zE 176 [barA a,barA b] [] (.p (.bool (aft a b))):=by
  refine csZ Tryz.func176 (fun c hc=>?_)
  refine pkD Tryz.func176 hc (p57 a b) ?_
  and_intros
  all_goals (first | exact zH)
theorem con_compareInts (x y:Int):zE 175 [.p (.int .i64 x),.p (.int .i64 y)] [] (.p (.int .i64 (cmpI x y))):=by
  refine csZ Tryz.func175 (fun c hc=>?_)
  by_cases h1:x<y
  · rw [show cmpI x y = -1 by simp [cmpI,h1]]
    refine pkZ Tryz.func175 hc (p62a x y) ?_
    and_intros
    all_goals (first | exact zN | (simp;omega))
  · by_cases h2:x>y
    · rw [show cmpI x y=1 by simp only [cmpI,h1,h2,if_true,if_false]]
      refine pkZ Tryz.func175 hc (p62b x y) ?_
      and_intros
      all_goals (first | exact zN | (simp;omega))
    · rw [show cmpI x y=0 by simp only [cmpI,h1,h2,if_false]]
      refine pkZ Tryz.func175 hc (p62c x y) ?_
      and_intros
      all_goals (first | exact zN | (simp;omega))
theorem con_compareBars (a b:T_Bar):zE 133 [barA a,barA b] [] (.p (.int .i64 (cmpB a b))):=by
  refine csZ Tryz.func133 (fun c hc=>?_)
  by_cases h1:cmpI a.1 b.1=0
  · rw [show cmpB a b=cmpI a.2.1 b.2.1 by simp [cmpB,h1]]
    refine pkZ Tryz.func133 hc (p59b a b) ?_
    and_intros
    all_goals (first | exact zN | (exact con_compareInts _ _) | (simp [h1]))
  · rw [show cmpB a b=cmpI a.1 b.1 by simp [cmpB,h1]]
    refine pkZ Tryz.func133 hc (p59a a b) ?_
    and_intros
    all_goals (first | exact zN | (exact con_compareInts _ _) | (simp [h1]))
theorem cmpB_gt (a b:T_Bar):decide (cmpB a b>0)=!aft a b:=by
  simp only [cmpB,cmpI,aft]
  by_cases h1:a.1<b.1
  · simp [h1]
  · by_cases h2:a.1>b.1
    · have h3:¬ a.1=b.1:=by omega
      simp [h1,h2,h3]
    · have h3:a.1=b.1:=by omega
      simp only [h1,h2,h3,if_true,if_false]
      by_cases h4:a.2.1<b.2.1
      · have:a.2.1≤b.2.1:=by omega
        simp [h4,this]
      · by_cases h5:a.2.1>b.2.1
        · have:¬ a.2.1≤b.2.1:=by omega
          simp [h4,h5,this]
        · have:a.2.1≤b.2.1:=by omega
          simp [h4,h5,this]
theorem goodB_bad (N:Int) (g:Nat→T_Bar) (k:Nat) (h:badB N g k=true):∀ n,k<n→goodB N g n=false
  | 0,h'=>by omega
  | n+1,h'=>by
    by_cases e:k=n
    · subst e;simp [goodB,h]
    · simp [goodB,goodB_bad N g k h n (by omega)]
theorem idx_lt {b:Bool} {k n:Nat} (h:(b&&decide ((k:Int)>0))=true) (hk:k<n):0≤(k:Int) - 1∧(k:Int) - 1<n∧-9223372036854775808≤(k:Int) - 1∧(k:Int) - 1≤n:=by
  simp at h
  omega
theorem con_IsGraph_s (v:T_Graph) (hs:smS s_Graph v):zE 134 [graphA v] [] (.p (.bool (isGraphF v))):=by
  refine csZ Tryz.func134 (fun c hc=>?_)
  have hn:v.2.1.1≤1048576:=hs.2.1.1
  by_cases hz:inB v.1 1 8=true∧v.2.1.1≤24
  · rw [show isGraphF v=goodB v.1 v.2.1.2 v.2.1.1 by rw [isGraphF,if_pos hz]]
    have lp:∀ m k,k+m=v.2.1.1→goodB v.1 v.2.1.2 k=true→zR c 134 zf47 (S48 v k) (Post c [] (.p (.bool (goodB v.1 v.2.1.2 v.2.1.1)))):=by
      intro m
      induction m with
      | zero =>
        intro k hk hg
        rw [show goodB v.1 v.2.1.2 v.2.1.1=true by rw [show v.2.1.1=k by omega];exact hg]
        have hd:decide ((k:Int)<(v.2.1.1:Int))=false:=by simp;omega
        refine pkZ Tryz.func134 hc (p48d v k) ?_
        and_intros
        all_goals (first | exact zN)
      | succ m ih =>
        intro k hk hg
        have hd:decide ((k:Int)<(v.2.1.1:Int))=true:=by simp;omega
        have hkn:k<v.2.1.1:=by omega
        cases he:badB v.1 v.2.1.2 k with
        | true =>
          rw [goodB_bad _ _ k he v.2.1.1 (by omega)]
          refine pkD Tryz.func134 hc (p48c v k) ?_
          and_intros
          all_goals (first | exact zH | (intros;exact con_l2After _ _) | (exact he) | (intro h;have:=idx_lt h hkn;omega))
        | false =>
          refine pcD hc (p48b v k) ?_ (ih (k+1) (by omega) (by simp [goodB,hg,he]))
          and_intros
          all_goals (first | exact zH | (intros;exact con_l2After _ _) | (exact he) | (intro h;have:=idx_lt h hkn;omega) | (simp [All]))
    refine pcD hc (p48a v) ?_ (lp v.2.1.1 0 (by omega) rfl)
    and_intros
    all_goals (first | exact zH | (exact con_l1In _ _ _) | (simp [hz.1];omega) | (simp [All]))
  · rw [show isGraphF v=false by rw [isGraphF,if_neg hz]]
    have hb:(bif !inB v.1 1 8 then true else decide ((v.2.1.1:Int)>24))=true:=by
      cases hi:inB v.1 1 8 with
      | false=>rfl
      | true =>
        have:¬ v.2.1.1≤24:=fun h=>hz ⟨hi,h⟩
        simp;omega
    refine pkD Tryz.func134 hc (p48z v) ?_
    and_intros
    all_goals (first | exact zH | (exact con_l1In _ _ _))
theorem con_IsGraph_i (v:T_Graph) (hs:smS s_Graph v):zE 130 [graphA v] [] (.p (.bool (isGraphF v))):=by
  refine csZ Tryz.func130 (fun c hc=>?_)
  have hn:v.2.1.1≤1048576:=hs.2.1.1
  by_cases hz:inB v.1 1 8=true∧v.2.1.1≤24
  · rw [show isGraphF v=goodB v.1 v.2.1.2 v.2.1.1 by rw [isGraphF,if_pos hz]]
    have lp:∀ m k,k+m=v.2.1.1→goodB v.1 v.2.1.2 k=true→zR c 130 zf48 (S51 v k) (Post c [] (.p (.bool (goodB v.1 v.2.1.2 v.2.1.1)))):=by
      intro m
      induction m with
      | zero =>
        intro k hk hg
        rw [show goodB v.1 v.2.1.2 v.2.1.1=true by rw [show v.2.1.1=k by omega];exact hg]
        have hd:decide ((k:Int)<(v.2.1.1:Int))=false:=by simp;omega
        refine pkZ Tryz.func130 hc (p51d v k) ?_
        and_intros
        all_goals (first | exact zN)
      | succ m ih =>
        intro k hk hg
        have hd:decide ((k:Int)<(v.2.1.1:Int))=true:=by simp;omega
        have hkn:k<v.2.1.1:=by omega
        cases he:badB v.1 v.2.1.2 k with
        | true =>
          rw [goodB_bad _ _ k he v.2.1.1 (by omega)]
          have he2:=he
          rw [badB,← cmpB_gt] at he2
          refine pkD Tryz.func130 hc (p51c v k) ?_
          and_intros
          all_goals (first | exact zH | (intros;exact con_compareBars _ _) | (exact he2) | (intro h;have:=idx_lt h hkn;omega))
        | false =>
          have he2:=he
          rw [badB,← cmpB_gt] at he2
          refine pcD hc (p51b v k) ?_ (ih (k+1) (by omega) (by simp [goodB,hg,he]))
          and_intros
          all_goals (first | exact zH | (intros;exact con_compareBars _ _) | (exact he2) | (intro h;have:=idx_lt h hkn;omega) | (simp [All]))
    refine pcD hc (p51a v) ?_ (lp v.2.1.1 0 (by omega) rfl)
    and_intros
    all_goals (first | exact zH | (exact con_within _ _ _) | (simp [hz.1];omega) | (simp [All]))
  · rw [show isGraphF v=false by rw [isGraphF,if_neg hz]]
    have hb:(bif !inB v.1 1 8 then true else decide ((v.2.1.1:Int)>24))=true:=by
      cases hi:inB v.1 1 8 with
      | false=>rfl
      | true =>
        have:¬ v.2.1.1≤24:=fun h=>hz ⟨hi,h⟩
        simp;omega
    refine pkD Tryz.func130 hc (p51z v) ?_
    and_intros
    all_goals (first | exact zH | (exact con_within _ _ _))
def SH (g:Nat→T_Bar) (nb N m:Nat) (F0 T0 F T Q:Nat→Int) (a b want:Int):St :=
  ⟨[grG g nb N,pebD N m F0 T0 Q,.p (.int .i64 a),.p (.int .i64 b),.p (.int .i64 want),.pt 2 0 0 0,.pt 3 1 0 0,.p .any,.p .any,.p .any,.pt 3 2 0 0,.p .any,.pt 3 3 0 0]++List.replicate 40 anyA,
   [(0,bxG g nb N),(1,bxD N m F0 T0 Q),(2,bx0),(3,bxP N m 4),(4,iOb N F),(5,iOb m T),(6,iOb m Q)],7⟩
def SNc (g:Nat→T_Bar) (nb N k:Nat):St :=
  ⟨[.p .any,.p (.int .i64 k),.pt 2 0 0 0,.p .any,.pt 3 1 0 0,.p .any,.pt 3 2 0 0]++List.replicate 27 anyA,
   [(0,bxG g nb N),(1,bx0),(2,⟨true,3,1,fun _=>[.ar 1 3 0 0,.ar 1 4 0 0,.ar 1 5 0 0]⟩),(3,iOb 0 (fun _=>k)),(4,iOb 0 (fun _=>0)),(5,iOb 0 (fun _=>0))],6⟩
def SN0 (g:Nat→T_Bar) (nb N k i:Nat):St :=
  ⟨[.p .any,.p (.int .i64 k),.pt 2 0 0 0,.p .any,.pt 3 1 0 0,.p .any,.pt 3 2 0 0,.p (.int .i64 i)]++List.replicate 26 anyA,
   [(0,bxG g nb N),(1,bx0),(2,⟨true,3,1,fun _=>[.ar 1 3 0 i,.ar 1 4 0 0,.ar 1 5 0 0]⟩),(3,iOb i (fun _=>k)),(4,iOb 0 (fun _=>0)),(5,iOb 0 (fun _=>0))],6⟩
def SR (g:Nat→T_Bar) (nb N m i:Nat) (F T Q:Nat→Int):St :=
  ⟨[grG g nb N,.pt 2 0 0 0,.p .any,.pt 3 1 0 0,.p .any,.p (.int .i64 m),.p (.int .i64 i)]++List.replicate 77 anyA,
   [(0,bxG g nb N),(1,bxP N m 2),(2,iOb N F),(3,iOb m T),(4,iOb m Q)],5⟩
theorem qHz (g:Nat→T_Bar) (nb N m:Nat) (F T Q:Nat→Int) (a b want:Int) :
    zT Tryz.f208 [rg 4,rm [(1,oc (pebR N m F T Q) (pebO N m 0))] 2,.head] [grG g nb N,pebD N m F T Q,.p (.int .i64 a),.p (.int .i64 b),.p (.int .i64 want)] [0,32,64,192,160,161,162] (SH g nb N m F T F T Q a b want) =
    some (zf68,zD [(NT 0 1),zE 207 [(zf45 N F m T Q)] (zf30 N F m T Q) (.agg [.ar 1 0 0 N,.ar 1 1 0 m,.ar 1 2 0 m]),((true=true)→ (AN 1)),(AI ((↑N:Int))),(AN nb),(AP nb (bRw g)),(AN N),(AP N (fun i=>[.int .i64 (F i)])),(AN m),(AP m (fun i=>[.int .i64 (T i)])),(AP m (fun i=>[.int .i64 (Q i)])),(AI a),(AI b),(AI want),(AN 0),((([AV.p (PV.int IntKind.i64 (↑N:Int)),brL g nb].length):Nat)=2),(NL 1 1),((([inD N F,inD m T,inD m Q].length):Nat)=3),((((List.map (fun v=>AV.p (absV v)) [Value.slice none 0 0,Value.slice none 0 0,Value.slice none 0 0]).length):Nat)=3),(AN 1),(NL N N),(AA N (fun i=>[.p (.int .i64 (F i))])),(NL m m),(AA m (fun i=>[.p (.int .i64 (T i))])),(AA m (fun i=>[.p (.int .i64 (Q i))]))] [0,1,0,2,3,4,5,6,7,8,9,8,10,11,12,13,14,14,14,14,15,16,16,3,4,5,17,16,16,6,7,8,9,8,10,18,16,16,18,16,16,14,6,14,8,14,8,19,20,21,19,22,23,19,22,24]):=by kernel_rfl
theorem qHa (g:Nat→T_Bar) (nb N m:Nat) (F0 T0 F T Q F1 T1:Nat→Int) (a b want:Int) :
    zM 0 [rg 13,.dec true,rm [(4,oq [4,5,6] (pebR3 N m F T Q F1 T1 Q) (.tup [pebO N m 3,.p (.bool true)]))] 6,rg 2,.dec false,rg 2,.dec false,rg 2,.head] zf68 (SH g nb N m F0 T0 F T Q a b want) [0,1,2,3,551,552,553] 1 (SH g nb N m F0 T0 F1 T1 Q a b want) =
    some (zf68,zD [(NT 0 1),(IL 0 a),(IT a (↑N:Int)),(NT a.toNat N),(IL 0 b),(IT b (↑N:Int)),(NT b.toNat N),(ZLo (F a.toNat+F b.toNat)),(ZHi (F a.toNat+F b.toNat)),((decide (F (a.toNat+0)+F (b.toNat+0)<want))=true),(AE N),(AE m),Con Tryz.prog 222 3 (zf30 N F m T Q) [(zf82 N nb g),.agg [.ar 1 0 0 N,.ar 1 1 0 m,.ar 1 2 0 m],.p (.int .i64 a),.p (.int .i64 b)] (zf8 N F m T Q F1 T1) (.tup [.agg [.ar 1 3 0 N,.ar 1 4 0 m,.ar 1 5 0 m],.p (.bool true)]),((true=true)→ (AN 1)),((!true)=false),(AI ((↑N:Int))),(AN nb),(AP nb (bRw g)),(AN N),(AP N (fun i=>[.int .i64 (F0 i)])),(AN m),(AP m (fun i=>[.int .i64 (T0 i)])),(AP m (fun i=>[.int .i64 (Q i)])),(AI a),(AI b),(AI want),(AN 0),(AN 2),(NL 1 1),(AN 3),(AN 1),(NL N N),(AA N (fun i=>[.p (.int .i64 (F1 i))])),(NL m m),(AA m (fun i=>[.p (.int .i64 (T1 i))])),(AA m (fun i=>[.p (.int .i64 (Q i))]))] [0,1,2,3,0,4,5,6,7,8,9,0,0,10,11,11,12,0,13,14,14,0,0,13,15,16,17,18,19,20,21,20,22,23,24,25,26,26,26,26,27,28,28,15,16,17,29,28,28,18,19,20,21,20,22,29,28,28,29,28,28,26,18,26,20,26,20,30,31,32,30,33,34,30,33,35]):=by kernel_rfl
theorem qHb (g:Nat→T_Bar) (nb N m:Nat) (F0 T0 F T Q F1 T1:Nat→Int) (a b want:Int) :
    zM 0 [rg 13,.dec true,rm [(4,oq [4,5,6] (pebR N m F T Q) (.tup [pebO N m 0,.p (.bool false)]))] 6,rg 2,.dec true,rm [(4,oq [4,5,6] (pebR3 N m F T Q F1 T1 Q) (.tup [pebO N m 3,.p (.bool true)]))] 5,rg 2,.dec false,rg 2,.head] zf68 (SH g nb N m F0 T0 F T Q a b want) [0,1,2,3,967,968,969] 1 (SH g nb N m F0 T0 F1 T1 Q a b want) =
    some (zf68,zD [(NT 0 1),(IL 0 a),(IT a (↑N:Int)),(NT a.toNat N),(IL 0 b),(IT b (↑N:Int)),(NT b.toNat N),(ZLo (F a.toNat+F b.toNat)),(ZHi (F a.toNat+F b.toNat)),((decide (F (a.toNat+0)+F (b.toNat+0)<want))=true),(AE N),(AE m),Con Tryz.prog 222 3 (zf30 N F m T Q) [(zf82 N nb g),.agg [.ar 1 0 0 N,.ar 1 1 0 m,.ar 1 2 0 m],.p (.int .i64 a),.p (.int .i64 b)] (zf30 N F m T Q) ((zf94 N m)),((true=true)→ (AN 1)),((!false)=true),Con Tryz.prog 222 3 (zf30 N F m T Q) [(zf82 N nb g),.agg [.ar 1 0 0 N,.ar 1 1 0 m,.ar 1 2 0 m],.p (.int .i64 b),.p (.int .i64 a)] (zf8 N F m T Q F1 T1) (.tup [.agg [.ar 1 3 0 N,.ar 1 4 0 m,.ar 1 5 0 m],.p (.bool true)]),((!true)=false),(AI ((↑N:Int))),(AN nb),(AP nb (bRw g)),(AN N),(AP N (fun i=>[.int .i64 (F0 i)])),(AN m),(AP m (fun i=>[.int .i64 (T0 i)])),(AP m (fun i=>[.int .i64 (Q i)])),(AI a),(AI b),(AI want),(AN 0),(AN 2),(NL 1 1),(AN 3),(AN 1),(NL N N),(AA N (fun i=>[.p (.int .i64 (F1 i))])),(NL m m),(AA m (fun i=>[.p (.int .i64 (T1 i))])),(AA m (fun i=>[.p (.int .i64 (Q i))]))] [0,1,2,3,0,4,5,6,7,8,9,0,0,10,11,11,12,0,13,14,0,0,10,11,11,15,0,13,16,0,0,13,17,18,19,20,21,22,23,22,24,25,26,27,28,28,28,28,29,30,30,17,18,19,31,30,30,20,21,22,23,22,24,31,30,30,31,30,30,28,20,28,22,28,22,32,33,34,32,35,36,32,35,37]):=by kernel_rfl
theorem qHc (g:Nat→T_Bar) (nb N m:Nat) (F0 T0 F T Q:Nat→Int) (a b want:Int) :
    zP Tryz.f208 0 [rg 13,.dec true,rm [(4,oq [4,5,6] (pebR N m F T Q) (.tup [pebO N m 0,.p (.bool false)]))] 6,rg 2,.dec true,rm [(4,oq [4,5,6] (pebR N m F T Q) (.tup [pebO N m 0,.p (.bool false)]))] 5,rg 2,.dec true,rg 3] zf68 (SH g nb N m F0 T0 F T Q a b want) [4,5,6] 1 (pebR N m F T Q) (.tup [pebO N m 0,.p (.bool false)]) =
    some (zD [(NT 0 1),(IL 0 a),(IT a (↑N:Int)),(NT a.toNat N),(IL 0 b),(IT b (↑N:Int)),(NT b.toNat N),(ZLo (F a.toNat+F b.toNat)),(ZHi (F a.toNat+F b.toNat)),((decide (F (a.toNat+0)+F (b.toNat+0)<want))=true),(AE N),(AE m),Con Tryz.prog 222 3 (zf30 N F m T Q) [(zf82 N nb g),.agg [.ar 1 0 0 N,.ar 1 1 0 m,.ar 1 2 0 m],.p (.int .i64 a),.p (.int .i64 b)] (zf30 N F m T Q) ((zf94 N m)),((true=true)→ (AN 1)),((!false)=true),Con Tryz.prog 222 3 (zf30 N F m T Q) [(zf82 N nb g),.agg [.ar 1 0 0 N,.ar 1 1 0 m,.ar 1 2 0 m],.p (.int .i64 b),.p (.int .i64 a)] (zf30 N F m T Q) ((zf94 N m)),(AN 0),(AN N),(AN m),(false=false),(AN 1),(NL N N),(AA N (fun i=>[.p (.int .i64 (F i))])),(NL m m),(AA m (fun i=>[.p (.int .i64 (T i))])),(AA m (fun i=>[.p (.int .i64 (Q i))]))] [0,1,2,3,0,4,5,6,7,8,9,0,0,10,11,11,12,0,13,14,0,0,10,11,11,15,0,13,14,0,0,13,0,16,17,16,18,16,18,19,20,21,22,20,23,24,20,23,25,10,11,11]):=by kernel_rfl
theorem qHd (g:Nat→T_Bar) (nb N m:Nat) (F0 T0 F T Q:Nat→Int) (a b want:Int) :
    zP Tryz.f208 0 [rg 13,.dec false,rg 3] zf68 (SH g nb N m F0 T0 F T Q a b want) [4,5,6] 1 (pebR N m F T Q) (.tup [pebO N m 0,.p (.bool true)]) =
    some [(NT 0 1),(IL 0 a),(IT a (↑N:Int)),(NT a.toNat N),(NT 0 1),(IL 0 b),(IT b (↑N:Int)),(NT b.toNat N),(ZLo (F a.toNat+F b.toNat)),(ZHi (F a.toNat+F b.toNat)),((decide (F (a.toNat+0)+F (b.toNat+0)<want))=false),(NT 0 1),(NT 0 1),((true=true)→ (AN 1)),(NT 0 1),(AN 0),(AN N),(AN 0),(AN m),(AN 0),(AN m),(true=true),(AN 1),(NL N N),(AA N (fun i=>[.p (.int .i64 (F i))])),(AN 1),(NL m m),(AA m (fun i=>[.p (.int .i64 (T i))])),(AN 1),(NL m m),(AA m (fun i=>[.p (.int .i64 (Q i))])),(AE N),(AE m),(AE m)]:=by kernel_rfl
theorem qNz (g:Nat→T_Bar) (N k:Nat) :
    zT Tryz.f179 [rg 3,rg 6,.head] [.agg [.p (.int .i64 N),.p .nil],.p (.int .i64 k)] [0,32,224,96,128,160] (SNc g 0 N k) =
    some (zf77,zD [(NT 0 1),((true=true)→ (AN 1)),(AI ((↑k:Int))),(AN 0),((([AV.p (PV.int IntKind.i64 (↑N:Int)),AV.p PV.nil].length):Nat)=2),(NL 1 1),(AI ((↑N:Int))),((((List.map (fun v=>AV.p (absV v)) [Value.slice none 0 0,Value.slice none 0 0,Value.slice none 0 0]).length):Nat)=3),(AN 1),(NL 0 0),(∀ i:Nat,(((i:Nat)<0)→(All []∧(([.p (.int .i64 0)]:List AV)=[.p (.int .i64 (↑k:Int))])))),(AA 0 (fun i=>[.p (.int .i64 0)]))] [0,1,2,3,3,3,4,5,5,6,3,7,5,5,7,5,5,3,3,3,3,3,3,8,9,10,8,9,11,8,9,11]):=by kernel_rfl
theorem qNa (g:Nat→T_Bar) (nb N k:Nat) :
    zM 0 [rm [(1,oc [] (.p (.bool true))),(3,oc [] (.p (.bool true)))] 2,.dec false,rg 1,.head] zf77 (SNc g nb N k) [0,1,2,3,4,5] 1 (SN0 g nb N k 0) =
    some (zf33,zD [(NT 0 1),zE 134 [(zf82 N nb g)] [] (.p (.bool true)),(AG (!!true)),(((!!true)=true)→ zE 121 [.p (.int .i64 (↑k:Int)),.p (.int .i64 1),.p (.int .i64 3)] [] (.p (.bool true))),(((!true)=false)→ ((!!true)=true)),((bif !true then true else !true)=false),(AI ((↑k:Int))),(AN 0),((0:Int)=(↑0:Int)),(AN 2),(NL 1 1),(AI ((↑N:Int))),(AN nb),(AP nb (bRw g)),(AN 3),(AN 1),(NL 0 0),(AA 0 (fun i=>[.p (.int .i64 (↑k:Int))])),(AA 0 (fun i=>[.p (.int .i64 0)]))] [0,1,2,3,2,4,5,6,7,7,7,8,9,10,10,11,12,13,14,10,10,14,10,10,7,7,7,7,7,7,15,16,17,15,16,18,15,16,18]):=by kernel_rfl
theorem qNl (g:Nat→T_Bar) (nb N k i:Nat) :
    zM 0 [rg 4,.dec true,rg 7,rg 3,.head] zf33 (SN0 g nb N k i) [0,1,2,262,4,5] 1 (SN0 g nb N k (i+1)) =
    some (zf33,zD [(NT 0 1),((decide ((↑i:Int)<(↑N:Int)))=true),(NL 1 1),(NL i i),(NL ((i+1)*8) 140737488355328),(NL (i+1) 9223372036854775807),((true=true)→ (AN 1)),(ZLo ((↑i:Int)+1)),(ZHi ((↑i:Int)+1)),(AI ((↑k:Int))),(AN 0),((((↑i:Int)+1):Int)=(↑(i+1):Int)),(AN 2),(AI ((↑N:Int))),(AN nb),(AP nb (bRw g)),(AN 3),(AN ((i+1))),(AN 1),(NL (i+1) (i+1)),(CV [(2,⟨true,3,1,(fun i_2=>[.ar 1 262 0 (i+1),.ar 1 4 0 0,.ar 1 5 0 0])⟩),(262,⟨false,1,(i+1),(fun i_2=>(if (i_2<i) then [.p (.int .i64 (↑k:Int))] else [.p (.int .i64 (↑k:Int))]))⟩),(230,⟨false,1,1,(fun i_2=>[.p (.int .i64 (↑k:Int))])⟩),(0,⟨true,2,1,(fun i_2=>[.p (.int .i64 (↑N:Int)),.p (.seq true 2 nb (bRw g))])⟩),(1,⟨true,3,1,(fun i_2=>[.p (.nil),.p (.nil),.p (.nil)])⟩),(4,⟨false,1,0,(fun i_2=>[.p (.int .i64 0)])⟩),(5,⟨false,1,0,(fun i_2=>[.p (.int .i64 0)])⟩)] [0,1,2,262,4,5] 1 (i+1) (fun i_1=>if (i_1<i) then [.p (.int .i64 (↑k:Int))] else [.p (.int .i64 (↑k:Int))]) (fun i_1=>[.p (.int .i64 (↑k:Int))])),(NL 0 0),(AA 0 (fun i_1=>[.p (.int .i64 0)]))] [0,1,0,2,3,4,5,0,6,7,8,9,10,10,10,11,12,2,2,13,14,15,16,2,2,16,2,2,10,17,10,10,10,10,18,19,20,18,21,22,18,21,22]):=by kernel_rfl
theorem qNe (g:Nat→T_Bar) (nb N k i:Nat) :
    zP Tryz.f179 0 [rg 4,.dec false,rg 3] zf33 (SN0 g nb N k i) [3,4,5] 1 (pebR i 0 (fun _=>k) (fun _=>0) (fun _=>0)) (.tup [pebO i 0 0,.p (.bool true)]) =
    some (zD [(NT 0 1),((decide ((↑i:Int)<(↑N:Int)))=false),((true=true)→ (AN 1)),(AN 0),(AN i),(true=true),(AN 1),(NL i i),(AA i (fun i_1=>[.p (.int .i64 (↑k:Int))])),(NL 0 0),(AA 0 (fun i_1=>[.p (.int .i64 0)])),(AE i),(AE 0)] [0,1,0,0,2,0,3,4,3,3,3,3,5,6,7,8,6,9,10,6,9,10,11,12,12]):=by kernel_rfl
theorem qRz (g:Nat→T_Bar) (nb N:Nat) :
    zT Tryz.f189 [rg 2,rm [(3,oc (pebR N 0 (fun _=>((2:Nat):Int)) (fun _=>0) (fun _=>0)) (.tup [pebO N 0 0,.p (.bool true)]))] 6,rg 1,rg 1,.head] [grG g nb N] [0,288,160,161,162] (SR g nb N 0 0 (fun _=>((2:Nat):Int)) (fun _=>0) (fun _=>0)) =
    some (zf34,zD [(NT 0 1),zE 179 [.agg [.p (.int .i64 (↑N:Int)),.p (.nil)],.p (.int .i64 2)] [(0,⟨false,1,N,(fun i=>[.p (.int .i64 2)])⟩),(1,⟨false,1,0,(fun i=>[.p (.int .i64 0)])⟩),(2,⟨false,1,0,(fun i=>[.p (.int .i64 0)])⟩)] (.tup [.agg [.ar 1 0 0 N,.ar 1 1 0 0,.ar 1 2 0 0],.p (.bool true)]),((true=true)→ (AN 1)),(AI ((↑N:Int))),(AN nb),(AP nb (bRw g)),(AN 0),((0:Int)=(↑0:Int)),((([AV.p (PV.int IntKind.i64 (↑N:Int)),brL g nb].length):Nat)=2),(NL 1 1),((((List.map (fun v=>AV.p (absV v)) [Value.slice none 0 0,Value.slice none 0 0,Value.slice none 0 0]).length):Nat)=3),(AN N),(AN 1),(NL N N),(AA N (fun i=>[.p (.int .i64 2)])),(NL 0 0),(AA 0 (fun i=>[.p (.int .i64 0)]))] [0,1,0,2,3,4,5,6,6,7,7,8,9,9,3,4,5,10,9,9,6,11,6,6,6,6,12,13,14,12,15,16,12,15,16]):=by kernel_rfl
theorem qRa (g:Nat→T_Bar) (nb N m i:Nat) (F T Q F1 T1:Nat→Int) :
    zM 0 [rg 5,.dec true,rm [(14,oc (pebR N m F1 T1 Q) (.tup [pebO N m 0,.p (.bool true)]))] 6,rg 2,.dec false,rg 21,rg 12,rg 7,rg 2,rg 3,rg 3,.head] zf34 (SR g nb N m i F T Q) [0,1,613,1861,2085] 1 (SR g nb N (m+1) (i+1) (fun s=>if s=(g i).1.toNat then F1 s - 1 else F1 s) (fun s=>if s<m then T1 s else (g i).1) (fun s=>if s<m then Q s else i)) =
    some (zf34,zD [(NT 0 1),((decide ((↑i:Int)<(↑nb:Int)))=true),(IL 0 (↑i:Int)),(IT (↑i:Int) (↑nb:Int)),(AN 1),(NL N N),(NL m m),zE 208 [.agg [.p (.int .i64 (↑N:Int)),.p (.seq true 2 nb (bRw g))],.agg [.p (.seq true 1 N (fun i_1=>[.int .i64 (F i_1)])),.p (.seq true 1 m (fun i_1=>[.int .i64 (T i_1)])),.p (.seq true 1 m (fun i_1=>[.int .i64 (Q i_1)]))],.p (.int .i64 ((g i).1)),.p (.int .i64 ((g i).2.1)),.p (.int .i64 4)] (zf23 N F1 m T1 Q) (.tup [.agg [.ar 1 0 0 N,.ar 1 1 0 m,.ar 1 2 0 m],.p (.bool true)]),((true=true)→ (AN 1)),((!true)=false),(IL 0 ((g i).1)),(IT ((g i).1) (↑N:Int)),(NT ((g i).1.toNat) N),(ZLo (F1 (g i).1.toNat - 1)),(ZHi (F1 (g i).1.toNat - 1)),((false=true)→ ((N:Nat)=1)),(NL 1 1),(NL ((m+1)*8) 140737488355328),(NL (m+1) 9223372036854775807),(ZLo ((↑m:Int)+1)),(ZHi ((↑m:Int)+1)),(ZLo ((↑i:Int)+1)),(ZHi ((↑i:Int)+1)),(AI ((↑N:Int))),(AN nb),(AP nb (bRw g)),(AN 0),((((↑m:Int)+1):Int)=(↑(m+1):Int)),((((↑i:Int)+1):Int)=(↑(i+1):Int)),(AN 2),(AN 3),(AN N),(AN ((m+1))),(CV [(1,⟨true,3,1,(fun i_2=>[.ar 1 613 0 N,.ar 1 1861 0 (m+1),.ar 1 2085 0 (m+1)])⟩),(741,⟨true,3,1,(fun i_2=>[.ar 1 613 0 N,.ar 1 1861 0 (m+1),.ar 1 2085 0 (m+1)])⟩),(2085,⟨false,1,(m+1),(fun i_2=>(if (i_2<m) then [.p (.int .i64 (Q i_2))] else [.p (.int .i64 (↑i:Int))]))⟩),(2053,⟨false,1,1,(fun i_2=>[.p (.int .i64 (↑i:Int))])⟩),(1861,⟨false,1,(m+1),(fun i_2=>(if (i_2<m) then [.p (.int .i64 (T1 i_2))] else [.p (.int .i64 ((g i).1))]))⟩),(1829,⟨false,1,1,(fun i_2=>[.p (.int .i64 ((g i).1))])⟩),(613,⟨false,1,N,(fun i_2=>(if (i_2=(g i).1.toNat) then [.p (.int .i64 (F1 (g i).1.toNat - 1))] else [.p (.int .i64 (F1 i_2))]))⟩),(0,⟨true,2,1,(fun i_2=>[.p (.int .i64 (↑N:Int)),.p (.seq true 2 nb (bRw g))])⟩),(2,⟨false,1,N,(fun i_2=>[.p (.int .i64 (F i_2))])⟩),(3,⟨false,1,m,(fun i_2=>[.p (.int .i64 (T i_2))])⟩),(4,⟨false,1,m,(fun i_2=>[.p (.int .i64 (Q i_2))])⟩)] [0,1,613,1861,2085] 1 N (fun i_1=>if (i_1=(g i).1.toNat) then [.p (.int .i64 (F1 (g i).1.toNat - 1))] else [.p (.int .i64 (F1 i_1))]) (fun i_1=>[.p (.int .i64 (if i_1=(g i).1.toNat then F1 i_1 - 1 else F1 i_1))])),(NL (m+1) (m+1)),(CV [(1,⟨true,3,1,(fun i_2=>[.ar 1 613 0 N,.ar 1 1861 0 (m+1),.ar 1 2085 0 (m+1)])⟩),(741,⟨true,3,1,(fun i_2=>[.ar 1 613 0 N,.ar 1 1861 0 (m+1),.ar 1 2085 0 (m+1)])⟩),(2085,⟨false,1,(m+1),(fun i_2=>(if (i_2<m) then [.p (.int .i64 (Q i_2))] else [.p (.int .i64 (↑i:Int))]))⟩),(2053,⟨false,1,1,(fun i_2=>[.p (.int .i64 (↑i:Int))])⟩),(1861,⟨false,1,(m+1),(fun i_2=>(if (i_2<m) then [.p (.int .i64 (T1 i_2))] else [.p (.int .i64 ((g i).1))]))⟩),(1829,⟨false,1,1,(fun i_2=>[.p (.int .i64 ((g i).1))])⟩),(613,⟨false,1,N,(fun i_2=>(if (i_2=(g i).1.toNat) then [.p (.int .i64 (F1 (g i).1.toNat - 1))] else [.p (.int .i64 (F1 i_2))]))⟩),(0,⟨true,2,1,(fun i_2=>[.p (.int .i64 (↑N:Int)),.p (.seq true 2 nb (bRw g))])⟩),(2,⟨false,1,N,(fun i_2=>[.p (.int .i64 (F i_2))])⟩),(3,⟨false,1,m,(fun i_2=>[.p (.int .i64 (T i_2))])⟩),(4,⟨false,1,m,(fun i_2=>[.p (.int .i64 (Q i_2))])⟩)] [0,1,613,1861,2085] 1 (m+1) (fun i_1=>if (i_1<m) then [.p (.int .i64 (T1 i_1))] else [.p (.int .i64 ((g i).1))]) (fun i_1=>[.p (.int .i64 (if i_1<m then T1 i_1 else (g i).1))])),(CV [(1,⟨true,3,1,(fun i_2=>[.ar 1 613 0 N,.ar 1 1861 0 (m+1),.ar 1 2085 0 (m+1)])⟩),(741,⟨true,3,1,(fun i_2=>[.ar 1 613 0 N,.ar 1 1861 0 (m+1),.ar 1 2085 0 (m+1)])⟩),(2085,⟨false,1,(m+1),(fun i_2=>(if (i_2<m) then [.p (.int .i64 (Q i_2))] else [.p (.int .i64 (↑i:Int))]))⟩),(2053,⟨false,1,1,(fun i_2=>[.p (.int .i64 (↑i:Int))])⟩),(1861,⟨false,1,(m+1),(fun i_2=>(if (i_2<m) then [.p (.int .i64 (T1 i_2))] else [.p (.int .i64 ((g i).1))]))⟩),(1829,⟨false,1,1,(fun i_2=>[.p (.int .i64 ((g i).1))])⟩),(613,⟨false,1,N,(fun i_2=>(if (i_2=(g i).1.toNat) then [.p (.int .i64 (F1 (g i).1.toNat - 1))] else [.p (.int .i64 (F1 i_2))]))⟩),(0,⟨true,2,1,(fun i_2=>[.p (.int .i64 (↑N:Int)),.p (.seq true 2 nb (bRw g))])⟩),(2,⟨false,1,N,(fun i_2=>[.p (.int .i64 (F i_2))])⟩),(3,⟨false,1,m,(fun i_2=>[.p (.int .i64 (T i_2))])⟩),(4,⟨false,1,m,(fun i_2=>[.p (.int .i64 (Q i_2))])⟩)] [0,1,613,1861,2085] 1 (m+1) (fun i_1=>if (i_1<m) then [.p (.int .i64 (Q i_1))] else [.p (.int .i64 (↑i:Int))]) (fun i_1=>[.p (.int .i64 (if i_1<m then Q i_1 else (↑i:Int)))]))] [0,1,0,0,0,2,3,0,2,3,4,5,4,6,4,6,7,0,8,9,0,0,2,3,0,0,2,3,10,11,12,13,14,10,11,12,15,0,0,2,3,16,6,17,18,0,8,0,16,6,17,18,0,8,0,0,8,19,20,21,22,23,24,25,26,26,27,28,29,16,16,23,24,25,30,16,16,26,31,26,32,26,32,4,5,33,4,34,35,4,34,36]):=by kernel_rfl
theorem qRb (g:Nat→T_Bar) (nb N m i:Nat) (F T Q F1 T1:Nat→Int) :
    zM 0 [rg 5,.dec true,rm [(14,oc (pebR N m F1 T1 Q) (.tup [pebO N m 0,.p (.bool false)]))] 6,rg 2,.dec true,rg 3,.head] zf34 (SR g nb N m i F T Q) [0,1,2,3,4] 1 (SR g nb N m (i+1) F T Q) =
    some (zf34,zD [(NT 0 1),((decide ((↑i:Int)<(↑nb:Int)))=true),(IL 0 (↑i:Int)),(IT (↑i:Int) (↑nb:Int)),(AN 1),(NL N N),(NL m m),zE 208 [.agg [.p (.int .i64 (↑N:Int)),.p (.seq true 2 nb (bRw g))],.agg [.p (.seq true 1 N (fun i_1=>[.int .i64 (F i_1)])),.p (.seq true 1 m (fun i_1=>[.int .i64 (T i_1)])),.p (.seq true 1 m (fun i_1=>[.int .i64 (Q i_1)]))],.p (.int .i64 ((g i).1)),.p (.int .i64 ((g i).2.1)),.p (.int .i64 4)] (zf23 N F1 m T1 Q) ((zf94 N m)),((true=true)→ (AN 1)),((!false)=true),(ZLo ((↑i:Int)+1)),(ZHi ((↑i:Int)+1)),(AI ((↑N:Int))),(AN nb),(AP nb (bRw g)),(AN 0),(AI ((↑m:Int))),((((↑i:Int)+1):Int)=(↑(i+1):Int)),(AN 2),(NL 1 1),(AN 3),(AN N),(AN m),(AA N (fun i_1=>[.p (.int .i64 (F i_1))])),(AA m (fun i_1=>[.p (.int .i64 (T i_1))])),(AA m (fun i_1=>[.p (.int .i64 (Q i_1))]))] [0,1,0,0,0,2,3,0,2,3,4,5,4,6,4,6,7,0,8,9,10,11,12,13,14,15,15,16,17,18,19,19,12,13,14,20,19,19,15,21,15,22,15,22,4,5,23,4,6,24,4,6,25]):=by kernel_rfl
theorem qRe (g:Nat→T_Bar) (nb N m i:Nat) (F T Q:Nat→Int) :
    zP Tryz.f189 0 [rg 5,.dec false,rg 2] zf34 (SR g nb N m i F T Q) [] 1 [] (.p (.int .i64 m)) =
    some [(NT 0 1),((decide ((↑i:Int)<(↑nb:Int)))=false),(AI ((↑m:Int)))]:=by kernel_rfl
theorem con_l4Gather {N k nb m l:Nat} {g:Nat→T_Bar} {F0 T0 Q:Nat→Int} {a b:Int} (hp0:PInv N k nb m g F0 T0 Q) (hk:k≤1048576) (hN:N≤1048576) (hm:m≤1048576) (hnb:nb≤1048576)
    (ha:0≤a∧a<N) (hb:0≤b∧b<N) (hab:a≠b):∃ F' T' r,zE 208 [grG g nb N,pebD N m F0 T0 Q,.p (.int .i64 a),.p (.int .i64 b),.p (.int .i64 ((l:Int)+1))] (pebR N m F' T' Q) (.tup [pebO N m 0,.p (.bool r)]) ∧
      PInv N k nb m g F' T' Q∧(r=true→(l:Int)+1≤F' a.toNat+F' b.toNat)∧(r=false→¬ Mat.Sparse N k l (plL g Q m++[(a.toNat,b.toNat)])):=by
  have lp:∀ d F T,PInv N k nb m g F T Q→(l:Int)+1≤F a.toNat+F b.toNat+(d:Nat)→∃ F' T' r,(∀ c,c.n=0→zR c 208 zf68 (SH g nb N m F0 T0 F T Q a b ((l:Int)+1)) (Post c (pebR N m F' T' Q) (.tup [pebO N m 0,.p (.bool r)]))) ∧
      PInv N k nb m g F' T' Q∧(r=true→(l:Int)+1≤F' a.toNat+F' b.toNat)∧(r=false→¬ Mat.Sparse N k l (plL g Q m++[(a.toNat,b.toNat)])):=by
    intro d
    induction d with
    | zero =>
      intro F T hp hw
      have hd:decide (F a.toNat+F b.toNat<(l:Int)+1)=false:=by simp;omega
      have l1:=hp.le (v:=a.toNat) (by omega)
      have l2:=hp.le (v:=b.toNat) (by omega)
      refine ⟨F,T,true,fun c hc=>?_,hp,(fun _=>by omega),(fun h=>by cases h)⟩
      refine pkZ Tryz.func208 hc (qHd g nb N m F0 T0 F T Q a b ((l:Int)+1)) ?_
      and_intros
      all_goals (first | exact zI | (exact hd) | (intro i hi;simp [All]))
    | succ d ih =>
      intro F T hp hw
      have l1:=hp.le (v:=a.toNat) (by omega)
      have l2:=hp.le (v:=b.toNat) (by omega)
      by_cases hs:F a.toNat+F b.toNat<(l:Int)+1
      · have hd:decide (F a.toNat+F b.toNat<(l:Int)+1)=true:=by simp;omega
        obtain ⟨H1,r1,hc1,hf1⟩:=con_l4Find hp hk hN hm hnb ha hb hab
        cases hf1 with
        | yes F1 T1 hm1 =>
          obtain ⟨y1,y2⟩:=hm1.yes rfl
          obtain ⟨F',T',r,hrun,h1,h2,h3⟩:=ih F1 T1 hm1.inv (by omega)
          refine ⟨F',T',r,fun c hc=>?_,h1,h2,h3⟩
          refine pcD hc (qHa g nb N m F0 T0 F T Q F1 T1 a b ((l:Int)+1)) ?_ (hrun c hc)
          and_intros
          all_goals (first | exact zI | (exact hd) | (exact hc1) | (intro i hi;simp [All]))
        | no hm1 =>
          obtain ⟨H2,r2,hc2,hf2⟩:=con_l4Find hp hk hN hm hnb hb ha (Ne.symm hab)
          cases hf2 with
          | yes F2 T2 hm2 =>
            obtain ⟨y1,y2⟩:=hm2.yes rfl
            obtain ⟨F',T',r,hrun,h1,h2,h3⟩:=ih F2 T2 hm2.inv (by omega)
            refine ⟨F',T',r,fun c hc=>?_,h1,h2,h3⟩
            refine pcD hc (qHb g nb N m F0 T0 F T Q F2 T2 a b ((l:Int)+1)) ?_ (hrun c hc)
            and_intros
            all_goals (first | exact zI | (exact hd) | (exact hc1) | (exact hc2) | (intro i hi;simp [All]))
          | no hm2 =>
            refine ⟨F,T,false,fun c hc=>?_,hp,(fun h=>by cases h),fun _=>gather_no hp ha hb hab (by omega) hm1 hm2⟩
            refine pkD Tryz.func208 hc (qHc g nb N m F0 T0 F T Q a b ((l:Int)+1)) ?_
            and_intros
            all_goals (first | exact zI | (exact hd) | (exact hc1) | (exact hc2) | (intro i hi;simp [All]))
      · have hd:decide (F a.toNat+F b.toNat<(l:Int)+1)=false:=by simp;omega
        refine ⟨F,T,true,fun c hc=>?_,hp,(fun _=>by omega),(fun h=>by cases h)⟩
        refine pkZ Tryz.func208 hc (qHd g nb N m F0 T0 F T Q a b ((l:Int)+1)) ?_
        and_intros
        all_goals (first | exact zI | (exact hd) | (intro i hi;simp [All]))
  have l1:=hp0.le (v:=a.toNat) (by omega)
  have l2:=hp0.le (v:=b.toNat) (by omega)
  obtain ⟨F',T',r,hrun,h⟩:=lp (l+1) F0 T0 hp0 (by omega)
  refine ⟨F',T',r,?_,h⟩
  have hcc:=con_l4Copy N m F0 T0 Q hN hm
  refine csZ Tryz.func208 (fun c hc=>?_)
  refine pcD hc (qHz g nb N m F0 T0 Q a b ((l:Int)+1)) ?_ (hrun c hc)
  and_intros
  all_goals (first | exact zI | (exact hcc) | (intro i hi;simp [All]))
theorem run_new {g:Nat→T_Bar} {nb N k:Nat} (hN:N≤1048576) (hk:1≤k∧k≤3) (hg:isGraphF ((N:Int),(nb,g),())=true) (hnb:nb≤1048576) (c:Cx) (hc:c.n=0) {items:List Item} (hit:items=zf77) :
    zR c 179 items (SNc g nb N k) (Post c (pebR N 0 (fun _=>k) (fun _=>0) (fun _=>0)) (.tup [pebO N 0 0,.p (.bool true)])):=by
  subst hit
  have hsm:smS s_Graph ((N:Int),(nb,g),()):=⟨by simp [smS,smL],⟨hnb,fun i hi=>by simp [smS,smL]⟩,True.intro⟩
  have hcg:=con_IsGraph_s ((N:Int),(nb,g),()) hsm
  rw [hg] at hcg
  have hci:=con_l1In k 1 3
  rw [show inB k 1 3=true by simp [inB];omega] at hci
  have lp0:∀ d i,i+d=N→zR c 179 zf33 (SN0 g nb N k i) (Post c (pebR N 0 (fun _=>k) (fun _=>0) (fun _=>0)) (.tup [pebO N 0 0,.p (.bool true)])):=by
    intro d
    induction d with
    | zero =>
      intro i hi
      obtain rfl:i=N:=by omega
      have hd:decide ((i:Int)<(i:Int))=false:=by simp
      refine pkD Tryz.func179 hc (qNe g nb i k i) ?_
      and_intros
      all_goals (first | exact zI | (intro i hi;simp [All]))
    | succ d ih =>
      intro i hi
      have hd:decide ((i:Int)<(N:Int))=true:=by simp;omega
      refine pcD hc (qNl g nb N k i) ?_ (ih (i+1) (by omega))
      and_intros
      all_goals (first | exact zI | (intro j hj;simp [All];done) | (intro j hj;by_cases h:j<i<;>simp [h,cvtL,cvt,tg,tru,All]))
  refine pcD hc (qNa g nb N k) ?_ (lp0 N 0 (by omega))
  and_intros
  all_goals (first | exact zH | (exact hcg) | (intros;exact hci) | (intro i hi;simp [All]))
theorem con_NewPebbles0 {N k:Nat} (hN:1≤N∧N≤8) (hk:1≤k∧k≤3):zE 179 [.agg [.p (.int .i64 N),.p .nil],.p (.int .i64 k)] (pebR N 0 (fun _=>k) (fun _=>0) (fun _=>0)) (.tup [pebO N 0 0,.p (.bool true)]):=by
  refine csZ Tryz.func179 (fun c hc=>?_)
  have hg:isGraphF ((N:Int),(0,fun _=>((0:Int),(0:Int),())),())=true:=by
    have:inB N 1 8=true:=by simp [inB];omega
    simp [isGraphF,this,goodB]
  refine pcD hc (qNz (fun _=>(0,0,())) N k) ?_ (run_new (g:=fun _=>(0,0,())) (by omega) hk hg (by omega) c hc rfl)
  and_intros
  iterate 2 all_goals (first | exact zI | (intro i hi;simp [All]) | simp only [All])
theorem con_l6Rank {N nb:Nat} {g:Nat→T_Bar} (hb:∀ e,e<nb→0≤(g e).1∧(g e).1<(g e).2.1∧(g e).2.1<N) (hN:1≤N∧N≤8) (hnb:nb≤1048576) :
    zE 189 [grG g nb N] [] (.p (.int .i64 ((accI N 2 3 g nb).length:Nat))):=by
  refine csZ Tryz.func189 (fun c hc=>?_)
  have lp:∀ d i m F T Q,i+d=nb→PInv N 2 nb m g F T Q→qL Q m=accI N 2 3 g i →
      zR c 189 zf34 (SR g nb N m i F T Q) (Post c [] (.p (.int .i64 ((accI N 2 3 g nb).length:Nat)))):=by
    intro d
    induction d with
    | zero =>
      intro i m F T Q hi hp hq
      obtain rfl:i=nb:=by omega
      have hd:decide ((i:Int)<(i:Int))=false:=by simp
      rw [← hq,qL_length]
      refine pkZ Tryz.func189 hc (qRe g i N m i F T Q) ?_
      and_intros
      all_goals (first | exact zN | (intro i hi;simp [All]))
    | succ d ih =>
      intro i m F T Q hi hp hq
      have hd:decide ((i:Int)<(nb:Int))=true:=by simp;omega
      have hm:m≤1048576:=by
        have:=accI_len N 2 3 g i
        rw [← hq,qL_length] at this
        omega
      have hsp:Mat.Sparse N 2 3 (plL g Q m):=by rw [plL_qL,hq];exact accI_sparse N 2 3 g i
      have hbar:=hb i (by omega)
      obtain ⟨F1,T1,r,hc1,h1,h2,h3⟩:=con_l4Gather (l:=3) (a:=(g i).1) (b:=(g i).2.1) hp (by omega) (by omega) hm hnb (by omega) (by omega) (by omega)
      have hlA:=h1.le (v:=(g i).1.toNat) (by omega)
      have hlB:=h1.le (v:=(g i).2.1.toNat) (by omega)
      cases r with
      | false =>
        have hrej:¬ Mat.Sparse N 2 3 (plL g Q m++[brN (g i)]):=h3 rfl
        refine pcD hc (qRb g nb N m i F T Q F1 T1) ?_ (ih (i+1) m F T Q (by omega) hp (by
          simp only [accI]
          rw [← hq,← plL_qL,if_neg hrej]))
        and_intros
        all_goals (first | exact zI | (exact hc1) | (intro i hi;simp [All]))
      | true =>
        have hw:=h2 rfl
        have hacc:Mat.Sparse N 2 3 (plL g Q m++[brN (g i)]):=by
          have:=(h1.game 3).accept (by rw [barsOf_gm];exact hsp) (g i).1.toNat (g i).2.1.toNat ⟨by show (g i).1.toNat≠(g i).2.1.toNat;omega,by show (g i).1.toNat<N;omega,by show (g i).2.1.toNat<N;omega⟩
            (by show 3+1≤(F1 (g i).1.toNat).toNat+(F1 (g i).2.1.toNat).toNat;omega)
          rw [barsOf_gm] at this
          exact this
        refine pcD hc (qRa g nb N m i F T Q F1 T1) ?_ (ih (i+1) (m+1) _ _ _ (by omega) (h1.placed i (by omega) (g i).1 (.inl rfl) (by omega)) (by
          simp only [accI]
          rw [← hq,← plL_qL,if_pos hacc]
          simp only [qL,Nat.lt_irrefl,if_false,Int.toNat_natCast]
          rw [qL_congr (Q':=Q) m (fun j hj=>by simp only [hj,if_true])]))
        and_intros
        all_goals (first | exact zI | (exact hc1) | (intro i hi;simp [All];done) | (intro j hj;by_cases h:j<m<;>simp [h,cvtL,cvt,tg,tru,All];done) | (intro j hj;by_cases h:j=(g i).1.toNat<;>simp [h,cvtL,cvt,tg,tru,All]))
  have hn:=con_NewPebbles0 (k:=2) hN (by omega)
  refine pcD hc (qRz g nb N) ?_ (lp nb 0 0 _ _ _ (by omega) (PInv.start hb) rfl)
  and_intros
  all_goals (first | exact zI | (exact hn) | (intro i hi;simp [All]))
end Go.Proofs.YtkepkjbofchckaaGreat.Mach
namespace Go.Proofs
open Go Go.Shelf Go.RowKit Go.Lib Go.Sort
set_option linter.unusedVariables false
set_option linter.unusedSimpArgs false
shelf_lay_g SlLaysF0.n6 Slsf 6 at Tryz 132 as Tryz.sortBar
end Go.Proofs
namespace Go.Proofs.YtkepkjbofchckaaGreat.Mach
open Go Go.Shelf Go.RowKit Go.Lib Go.Sort
set_option linter.unusedVariables false
set_option linter.unusedSimpArgs false
def encB (x:T_Bar):List Value:=[.int .i64 x.1,.int .i64 x.2.1]
theorem cmpI_1 {x y:Int} (h:x<y):cmpI x y = -1:=by simp [cmpI,h]
theorem cmpI_2 {x y:Int} (h:y<x):cmpI x y=1:=by
  have h3:¬ x<y:=by omega
  simp [cmpI,h3,h]
theorem cmpI_3 {x y:Int} (h:¬ x<y) (h':¬ y<x):cmpI x y=0:=by simp [cmpI,h,h']
theorem cmp_int (x y:Int) (W:World):Calls Tryz.prog 175 #[.int .i64 x,.int .i64 y] W fun e w'=>e=.returned (.int .i64 (cmpI x y))∧w'=W:=by
  go_enter Tryz.func175,Tryz.ntmps175
  by_cases h1:x<y
  · have hc:=cmpI_1 h1
    go_wp2
    go_ret
    exact ⟨by first | rfl | (rw [hc];rfl),rfl⟩
  · by_cases h2:y<x
    · have hc:=cmpI_2 h2
      go_wp2
      go_ret
      exact ⟨by first | rfl | (rw [hc];rfl),rfl⟩
    · have hc:=cmpI_3 h1 h2
      go_wp2
      go_ret
      exact ⟨by first | rfl | (rw [hc];rfl),rfl⟩
set_option maxRecDepth 10000 in
set_option maxHeartbeats 1000000 in
theorem cmp_bars4 (a b c d:Int) (W:World):Calls Tryz.prog 133 #[.agg #[.int .i64 a,.int .i64 b],.agg #[.int .i64 c,.int .i64 d]] W fun e w'=>e=.returned (.int .i64 (if cmpI a c=0 then cmpI b d else cmpI a c))∧∃ q os',w'=grow (W.drewN q) os':=by
  have c1:=fun W'=>cmp_int a c W'
  have c2:=fun W'=>cmp_int b d W'
  generalize cmpI a c=r1 at c1 ⊢
  generalize cmpI b d=r2 at c2 ⊢
  by_cases h:r1=0
  · have h9:(if r1=0 then r2 else r1)=r2:=if_pos h
    have c1':∀ W':World,Calls Tryz.prog 175 #[.int .i64 a,.int .i64 c] W' fun e w'=>e=.returned (.int .i64 0)∧w'=W':=by rw [← h];exact c1
    rw [h9]
    clear c1 h9 h
    go_enter Tryz.func133,Tryz.ntmps133
    go_wp2_with fail
    go_at_call 175
    refine (c1' _).mono ?_
    rintro e w' ⟨rfl,rfl⟩
    go_wp2_with fail
    go_at_call 175
    refine (c2 _).mono ?_
    rintro e w' ⟨rfl,rfl⟩
    go_wp2
    go_ret
    exact ⟨rfl,0,_,by rw [alloc_eq_grow,alloc_eq_grow,grow_grow];rfl⟩
  · have h9:(if r1=0 then r2 else r1)=r1:=if_neg h
    rw [h9]
    clear h9
    go_enter Tryz.func133,Tryz.ntmps133
    clear c2
    go_wp2_with fail
    go_at_call 175
    refine (c1 _).mono ?_
    rintro e w' ⟨rfl,rfl⟩
    go_wp2
    go_ret
    exact ⟨rfl,0,_,by rw [alloc_eq_grow,alloc_eq_grow,grow_grow];rfl⟩
theorem cmp_bars (x y:T_Bar) (W:World):Calls Tryz.prog 133 #[.agg #[.int .i64 x.1,.int .i64 x.2.1],.agg #[.int .i64 y.1,.int .i64 y.2.1]] W fun e w'=>e=.returned (.int .i64 (cmpB x y))∧∃ q os',w'=grow (W.drewN q) os' :=
  cmp_bars4 x.1 x.2.1 y.1 y.2.1 W
open Go Go.Shelf Go.RowKit Go.Sort
def sW (w:World) (b base q:Nat) (F:Array Value) (os:Array Obj):World:=grow (putRow id (Sort.ahead w q) b base F) os
theorem sW_at {w:World} {b base q:Nat} {F:Array Value} {os:Array Obj} {cells:Array Value} {el:TypeId} {fr:Nat×Nat} (hb:w.heap[b]? = some (.cells cells el fr)) :
    (sW w b base q F os).heap[b]? = some (.cells (putCells id base F cells) el fr):=by
  have hlt:b<w.heap.size:=by
    rcases Nat.lt_or_ge b w.heap.size with h | h
    · exact h
    · rw [Array.getElem?_eq_none h] at hb;cases hb
  rw [sW,heap_grow_old _ _ (by rw [size_putRow];exact hlt)]
  simp only [putRow,mapBlock,heap_ahead,Array.getElem?_modify,if_true,hb,Option.map_some,onCells]
theorem sW_ne {w:World} {b base q c:Nat} {F:Array Value} {os:Array Obj} (hne:c≠b) (hlt:c<w.heap.size) :
    (sW w b base q F os).heap[c]? = w.heap[c]?:=by
  rw [sW,heap_grow_old _ _ (by rw [size_putRow];exact hlt)]
  simp only [putRow,mapBlock,heap_ahead,Array.getElem?_modify,if_neg (Ne.symm hne)]
theorem putCells_size (base:Nat) (F cells:Array Value):(putCells id base F cells).size=cells.size:=by simp [putCells]
theorem putCells_in (base:Nat) (F cells:Array Value) (t:Nat) (h:t<F.size) (hs:base+t<cells.size):(putCells id base F cells)[base+t]? = some F[t]!:=by
  simp only [putCells,Array.getElem?_mapIdx,Array.getElem?_eq_getElem hs,Option.map_some,id]
  rw [if_pos ⟨by omega,by omega⟩,show base+t - base=t by omega]
theorem look_one {ob ob':Ob} {o:Id} (h:lk [(0,ob)] o=some ob') (hb:ob.bx=false:=by rfl):o=0∧ob'=ob:=by
  unfold lk at h
  split at h
  · rename_i ob1 h1
    obtain ⟨oo,m⟩:=o
    simp only [List.lookup] at h1
    split at h1
    · rename_i h2
      cases h1
      have h2:oo=0:=by simpa using h2
      obtain ⟨h3,h4⟩:=vw_plain (isF_nb hb) h
      simp only at h3
      subst h2;subst h3
      exact ⟨rfl,h4⟩
    · cases h1
  · cases h
theorem lk_one (ob:Ob) (hb:ob.bx=false:=by rfl):lk [(0,ob)] 0=some ob:=lk_plain (H:=[(0,ob)]) (o:=0) rfl (isF_nb hb)
theorem own_one (β:Id→Option Addr) (ob:Ob) (b:Nat) (hb:ob.bx=false:=by rfl):ownOf β [(0,ob)] b↔∃ a,β 0=some a∧a.block=b:=by
  constructor
  · rintro ⟨o,ob',a,h1,h2,h3⟩
    obtain ⟨rfl,_⟩:=look_one h1 hb
    exact ⟨a,h2,h3⟩
  · rintro ⟨a,h1,h2⟩
    exact ⟨0,ob,a,lk_one ob hb,h1,h2⟩
theorem ow_one (X:Nat→Prop) (β:Id→Option Addr) (ob ob':Ob) (hb:ob.bx=false:=by rfl) (hb':ob'.bx=false:=by rfl):ow X β [(0,ob)]=ow X β [(0,ob')]:=by
  funext t b
  simp only [ow,own_one β ob b hb,own_one β ob' b hb']
theorem sW_post {w:World} {β:Id→Option Addr} {X:Nat→Prop} {z n:Nat} {fo f':Nat→List AV} {b base q:Nat} {F:Array Value} {os:Array Obj} {cells:Array Value} {el:TypeId} {res:AV} {v:Value}
    (hβ:β 0=some ⟨b,base,none⟩) (hh:w.heap[b]? = some (.cells cells el (0,0)))
    (hS:Sep β [(0,⟨false,z,n,fo⟩)])
    (hsz:base+n*z≤cells.size) (hF:F.size=n*z)
    (hrow:∀ i,i<n→∀ j,j<z→One (F[i*z+j]!)∧∀ (w:World) (own:Bool→Nat→Prop),VR w β own ((f' i).getD j anyA) (F[i*z+j]!))
    (hv:∀ own:Bool→Nat→Prop,VR (sW w b base q F os) β own res v) :
    ∃ v' β',Ending.returned v=.returned v'∧HR (sW w b base q F os) β' (fr X β' [(0,⟨false,z,n,f'⟩)]) [(0,⟨false,z,n,f'⟩)]∧Sep β' [(0,⟨false,z,n,f'⟩)] ∧
      VR (sW w b base q F os) β' (fr X β' [(0,⟨false,z,n,f'⟩)]) res v'∧Ext w (ow X β [(0,⟨false,z,n,fo⟩)]) (sW w b base q F os) (ow X β' [(0,⟨false,z,n,f'⟩)]) ∧
      (∀ o a,β o=some a→β' o=some a)∧(∀ b,ownOf β' [(0,⟨false,z,n,f'⟩)] b→ownOf β [(0,⟨false,z,n,fo⟩)] b∨w.heap.size≤b)∧∀ k,β' k≠none→β k≠none∨(1≤k.o∧k.o<1+32):=by
  have hown:ownOf β [(0,⟨false,z,n,fo⟩)] b:=(own_one _ _ _).2 ⟨_,hβ,rfl⟩
  refine ⟨v,β,rfl,?_,?_,hv _,?_,fun o a h=>h,fun b' h=>.inl ?_,fun k h=>.inl h⟩
  · intro o ob hl
    obtain ⟨rfl,rfl⟩:=look_one hl
    refine .inr (.inl ⟨b,base,_,el,hβ,sW_at hh,?_⟩)
    intro i hi j hj
    change i<n at hi
    change j<z at hj
    show ∃ v,(putCells id base F cells)[base+(i*z+j)]? = some v∧One v∧_
    have hlt:i*z+j<n*z:=by
      have h1:=Nat.mul_le_mul_right z (show i+1≤n from hi)
      rw [Nat.add_mul,Nat.one_mul] at h1
      have h2:j<z:=hj
      omega
    exact ⟨F[i*z+j]!,putCells_in base F cells _ (by omega) (by omega),(hrow i hi j hj).1,(hrow i hi j hj).2 _ _⟩
  · intro o o' ob ob' a a' h1 h2 h3 h4 h5
    obtain ⟨rfl,rfl⟩:=look_one h1
    obtain ⟨rfl,rfl⟩:=look_one h2
    rfl
  · rw [ow_one X β ⟨false,z,n,f'⟩ ⟨false,z,n,fo⟩]
    refine ⟨rfl,rfl,rfl,by rw [sW,size_grow,size_putRow];exact Nat.le_add_right _ _,fun t c hc hn=>?_,fun t c hc h=>h,fun c cs e f h=>?_,fun c es ck h=>?_⟩
    · refine sW_ne (fun h=>hn ?_) hc
      subst h
      exact .inl hown
    · by_cases hcb:c=b
      · subst hcb
        rw [hh] at h
        injection h with h
        injection h with h1 h2 h3
        subst h1
        exact ⟨_,_,_,sW_at hh,by rw [putCells_size];exact Nat.le_refl _⟩
      · have hlt:c<w.heap.size:=by
          rcases Nat.lt_or_ge c w.heap.size with h' | h'
          · exact h'
          · rw [Array.getElem?_eq_none h'] at h;cases h
        exact ⟨cs,e,f,by rw [sW_ne hcb hlt];exact h,Nat.le_refl _⟩
    · by_cases hcb:c=b
      · subst hcb
        rw [hh] at h
        cases h
      · have hlt:c<w.heap.size:=by
          rcases Nat.lt_or_ge c w.heap.size with h' | h'
          · exact h'
          · rw [Array.getElem?_eq_none h'] at h;cases h
        exact ⟨es,ck,by rw [sW_ne hcb hlt];exact h⟩
  · rw [own_one _ _ _ rfl] at h ⊢;exact h
theorem vr_int {w:World} {β:Id→Option Addr} {own:Bool→Nat→Prop} {k:IntKind} {x:Int} {v:Value} (h:VR w β own (.p (.int k x)) v):v=.int k x:=by
  cases h with
  | p _ _ hp=>cases hp;rfl
open Go
def brOb (n:Nat) (h:Nat→T_Bar):Ob:=⟨false,2,n,fun i=>[.p (.int .i64 (h i).1),.p (.int .i64 (h i).2.1)]⟩
def bxB (x:T_Bar):Ob:=⟨true,2,1,fun _=>[.p (.int .i64 x.1),.p (.int .i64 x.2.1)]⟩
def SL (g:Nat→T_Bar) (nb N:Nat) (x:T_Bar) (i n:Nat) (pl:Bool) (h:Nat→T_Bar):St :=
  ⟨[grG g nb N,brA x,.pt 2 0 0 0,.pt 2 1 0 0,.pt 2 2 0 0,.pt 2 3 0 0,.p (.bool pl),.p (.int .i64 i)]++List.replicate 48 anyA,
   [(0,bxG g nb N),(1,bxB x),(2,⟨true,2,1,fun _=>[.p (.int .i64 0),.p .nil]⟩),(3,⟨true,2,1,fun _=>[.p (.int .i64 N),.ar 2 4 0 n]⟩),(4,brOb n h)],5⟩
def snoc (n:Nat) (h:Nat→T_Bar) (x:T_Bar) (s:Nat):T_Bar:=(if s<n then (h s).1 else x.1,if s<n then (h s).2.1 else x.2.1,())
abbrev NB:=Nat×(Nat→T_Bar)
def zNB:NB:=(0,fun _=>(0,0,()))
def sn (r:NB) (x:T_Bar):NB:=(r.1+1,snoc r.1 r.2 x)
theorem rLz (g:Nat→T_Bar) (nb N:Nat) (x:T_Bar) :
    zT Tryz.f136 [rg 3,rg 6,rg 1,rg 1,.head] [grG g nb N,brA x] [0,32,64,224,160] (SL g nb N x 0 0 false (fun _=>(0,0,()))) =
    some (zf35,zD [(NT 0 1),((true=true)→ (AN 1)),(AI ((↑N:Int))),(AN nb),(AP nb (bRw g)),(AI x.1),(AI x.2.1),(AN 0),(false=false),((0:Int)=(↑0:Int)),((([AV.p (PV.int IntKind.i64 (↑N:Int)),brL g nb].length):Nat)=2),(NL 1 1),((([AV.p (PV.int IntKind.i64 x.1),AV.p (PV.int IntKind.i64 x.2.1)].length):Nat)=2),((((List.map (fun v=>AV.p (absV v)) [Value.int IntKind.i64 0,Value.slice none 0 0]).length):Nat)=2),(AI 0),(AN 2),(NL 0 0),(AA 0 (fun i=>[.p (.int .i64 0),.p (.int .i64 0)]))] [0,0,1,2,3,4,5,6,7,7,7,7,8,9,10,11,11,2,3,4,12,11,11,5,6,13,11,11,14,13,11,11,2,7,7,15,16,17]):=by kernel_rfl
theorem rLa (g:Nat→T_Bar) (nb N:Nat) (x:T_Bar) (i n:Nat) (pl:Bool) (h:Nat→T_Bar) :
    zM 0 [rg 5,.dec true,rm [(9,oc [] (.p (.bool (aft (g i) x))))] 2,.dec true,rg 7,rg 1,rg 11,rg 3,.head] zf35 (SL g nb N x i n pl h) [0,1,2,3,1061] 1 (SL g nb N x (i+1) (n+1+1) true (snoc (n+1) (snoc n h x) (g i))) =
    some (zf35,zD [(NT 0 1),((decide ((↑i:Int)<(↑nb:Int)))=true),(AG (!pl)),(((!pl)=true)→(NT 0 1)),(((!pl)=true)→(IL 0 (↑i:Int))),(((!pl)=true)→(IT (↑i:Int) (↑nb:Int))),(((!pl)=true)→ zE 176 [.agg [.p (.int .i64 ((g i).1)),.p (.int .i64 ((g i).2.1))],.agg [.p (.int .i64 x.1),.p (.int .i64 x.2.1)]] [] (.p (.bool (aft (g i) x)))),((bif !pl then !aft (g i) x else false)=true),(NL 1 1),(NL n n),(NL ((n+1)*16) 140737488355328),(NL (n+1) 9223372036854775807),((true=true)→ (AN 1)),(IL 0 (↑i:Int)),(IT (↑i:Int) (↑nb:Int)),(NL (n+1) (n+1)),(NL ((n+1+1)*16) 140737488355328),(NL (n+1+1) 9223372036854775807),(ZLo ((↑i:Int)+1)),(ZHi ((↑i:Int)+1)),(AI ((↑N:Int))),(AN nb),(AP nb (bRw g)),(AI x.1),(AI x.2.1),(AN 0),(true=true),((((↑i:Int)+1):Int)=(↑(i+1):Int)),(AN 2),(AI 0),(AN ((n+1+1))),(NL (n+1+1) (n+1+1)),(CV [(3,⟨true,2,1,(fun i_2=>[.p (.int .i64 (↑N:Int)),.ar 2 1061 0 (n+1+1)])⟩),(1061,⟨false,2,(n+1+1),(fun i_2=>(if (i_2<n+1) then (if (i_2<n) then [.p (.int .i64 ((h i_2).1)),.p (.int .i64 ((h i_2).2.1))] else [.p (.int .i64 x.1),.p (.int .i64 x.2.1)]) else [.p (.int .i64 ((g i).1)),.p (.int .i64 ((g i).2.1))]))⟩),(1029,⟨false,2,1,(fun i_2=>[.p (.int .i64 ((g i).1)),.p (.int .i64 ((g i).2.1))])⟩),(645,⟨false,2,1,(fun i_2=>[.p (.int .i64 x.1),.p (.int .i64 x.2.1)])⟩),(0,⟨true,2,1,(fun i_2=>[.p (.int .i64 (↑N:Int)),.p (.seq true 2 nb (bRw g))])⟩),(1,⟨true,2,1,(fun i_2=>[.p (.int .i64 x.1),.p (.int .i64 x.2.1)])⟩),(2,⟨true,2,1,(fun i_2=>[.p (.int .i64 0),.p (.nil)])⟩)] [0,1,2,3,1061] 1 (n+1+1) (fun i_1=>if (i_1<n+1) then (if (i_1<n) then [.p (.int .i64 ((h i_1).1)),.p (.int .i64 ((h i_1).2.1))] else [.p (.int .i64 x.1),.p (.int .i64 x.2.1)]) else [.p (.int .i64 ((g i).1)),.p (.int .i64 ((g i).2.1))]) (fun i_1=>[.p (.int .i64 (if i_1<n+1 then if i_1<n then (h i_1).1 else x.1 else (g i).1)),.p (.int .i64 (if i_1<n+1 then if i_1<n then (h i_1).2.1 else x.2.1 else (g i).2.1))]))] [0,1,2,3,2,2,4,5,2,3,2,2,6,2,2,7,0,0,8,9,10,11,0,12,0,0,13,14,8,15,16,17,0,12,18,19,20,21,22,23,24,25,25,25,25,26,27,28,8,8,20,21,22,28,8,8,23,24,28,8,8,29,28,8,8,20,25,30,28,31,32]):=by kernel_rfl
theorem rLb (g:Nat→T_Bar) (nb N:Nat) (x:T_Bar) (i n:Nat) (pl:Bool) (h:Nat→T_Bar) :
    zM 0 [rg 5,.dec true,rm [(9,oc [] (.p (.bool (aft (g i) x))))] 2,.dec false,rg 11,rg 3,.head] zf35 (SL g nb N x i n pl h) [0,1,2,3,805] 1 (SL g nb N x (i+1) (n+1) pl (snoc n h (g i))) =
    some (zf35,zD [(NT 0 1),((decide ((↑i:Int)<(↑nb:Int)))=true),(AG (!pl)),(((!pl)=true)→(NT 0 1)),(((!pl)=true)→(IL 0 (↑i:Int))),(((!pl)=true)→(IT (↑i:Int) (↑nb:Int))),(((!pl)=true)→ zE 176 [.agg [.p (.int .i64 ((g i).1)),.p (.int .i64 ((g i).2.1))],.agg [.p (.int .i64 x.1),.p (.int .i64 x.2.1)]] [] (.p (.bool (aft (g i) x)))),((bif !pl then !aft (g i) x else false)=false),(IL 0 (↑i:Int)),(IT (↑i:Int) (↑nb:Int)),(NL 1 1),(NL n n),(NL ((n+1)*16) 140737488355328),(NL (n+1) 9223372036854775807),((true=true)→ (AN 1)),(ZLo ((↑i:Int)+1)),(ZHi ((↑i:Int)+1)),(AI ((↑N:Int))),(AN nb),(AP nb (bRw g)),(AI x.1),(AI x.2.1),(AN 0),(pl=pl),((((↑i:Int)+1):Int)=(↑(i+1):Int)),(AN 2),(AI 0),(AN ((n+1))),(NL (n+1) (n+1)),(CV [(3,⟨true,2,1,(fun i_2=>[.p (.int .i64 (↑N:Int)),.ar 2 805 0 (n+1)])⟩),(805,⟨false,2,(n+1),(fun i_2=>(if (i_2<n) then [.p (.int .i64 ((h i_2).1)),.p (.int .i64 ((h i_2).2.1))] else [.p (.int .i64 ((g i).1)),.p (.int .i64 ((g i).2.1))]))⟩),(773,⟨false,2,1,(fun i_2=>[.p (.int .i64 ((g i).1)),.p (.int .i64 ((g i).2.1))])⟩),(0,⟨true,2,1,(fun i_2=>[.p (.int .i64 (↑N:Int)),.p (.seq true 2 nb (bRw g))])⟩),(1,⟨true,2,1,(fun i_2=>[.p (.int .i64 x.1),.p (.int .i64 x.2.1)])⟩),(2,⟨true,2,1,(fun i_2=>[.p (.int .i64 0),.p (.nil)])⟩)] [0,1,2,3,805] 1 (n+1) (fun i_1=>if (i_1<n) then [.p (.int .i64 ((h i_1).1)),.p (.int .i64 ((h i_1).2.1))] else [.p (.int .i64 ((g i).1)),.p (.int .i64 ((g i).2.1))]) (fun i_1=>[.p (.int .i64 (if i_1<n then (h i_1).1 else (g i).1)),.p (.int .i64 (if i_1<n then (h i_1).2.1 else (g i).2.1))]))] [0,1,2,3,2,2,4,5,2,3,2,2,6,2,2,7,0,0,8,9,10,11,12,13,0,14,15,16,17,18,19,20,21,22,22,22,22,23,24,25,10,10,17,18,19,25,10,10,20,21,25,10,10,26,25,10,10,17,22,27,25,28,29]):=by kernel_rfl
theorem rLc (g:Nat→T_Bar) (nb N:Nat) (x:T_Bar) (i n:Nat) (pl:Bool) (h:Nat→T_Bar) :
    zP Tryz.f136 0 [rg 5,.dec false,rg 2,.dec true,rg 7,rg 2] zf35 (SL g nb N x i n pl h) [357] 1 [(0,brOb (n+1) (snoc n h x))] (.agg [.p (.int .i64 N),.ar 2 0 0 (n+1)]) =
    some (zD [(NT 0 1),((decide ((↑i:Int)<(↑nb:Int)))=false),((!pl)=true),(NL 1 1),(NL n n),(NL ((n+1)*16) 140737488355328),(NL (n+1) 9223372036854775807),((true=true)→ (AN 1)),(AI ((↑N:Int))),(AN 0),(AN ((n+1))),(AN 2),(NL (n+1) (n+1)),(CV [(2,⟨true,2,1,(fun i_2=>[.p (.int .i64 (↑N:Int)),.ar 2 357 0 (n+1)])⟩),(3,⟨true,2,1,(fun i_2=>[.p (.int .i64 (↑N:Int)),.ar 2 357 0 (n+1)])⟩),(357,⟨false,2,(n+1),(fun i_2=>(if (i_2<n) then [.p (.int .i64 ((h i_2).1)),.p (.int .i64 ((h i_2).2.1))] else [.p (.int .i64 x.1),.p (.int .i64 x.2.1)]))⟩),(325,⟨false,2,1,(fun i_2=>[.p (.int .i64 x.1),.p (.int .i64 x.2.1)])⟩),(0,⟨true,2,1,(fun i_2=>[.p (.int .i64 (↑N:Int)),.p (.seq true 2 nb (bRw g))])⟩),(1,⟨true,2,1,(fun i_2=>[.p (.int .i64 x.1),.p (.int .i64 x.2.1)])⟩)] [357] 1 (n+1) (fun i_1=>if (i_1<n) then [.p (.int .i64 ((h i_1).1)),.p (.int .i64 ((h i_1).2.1))] else [.p (.int .i64 x.1),.p (.int .i64 x.2.1)]) (fun i_1=>[.p (.int .i64 (if i_1<n then (h i_1).1 else x.1)),.p (.int .i64 (if i_1<n then (h i_1).2.1 else x.2.1))])),(AE ((n+1)))] [0,1,2,0,0,3,4,5,6,0,7,0,0,7,0,8,9,10,11,12,13,14]):=by kernel_rfl
theorem rLd (g:Nat→T_Bar) (nb N:Nat) (x:T_Bar) (i n:Nat) (pl:Bool) (h:Nat→T_Bar) :
    zP Tryz.f136 0 [rg 5,.dec false,rg 2,.dec false,rg 2] zf35 (SL g nb N x i n pl h) [4] 1 [(0,brOb n h)] (.agg [.p (.int .i64 N),.ar 2 0 0 n]) =
    some [(NT 0 1),((decide ((↑i:Int)<(↑nb:Int)))=false),((!pl)=false),(NT 0 1),(NT 0 1),((true=true)→ (AN 1)),(NT 0 1),(AI ((↑N:Int))),(AN 0),(AN n),(AN 2),(NL n n),(AA n (fun i_1=>[.p (.int .i64 ((h i_1).1)),.p (.int .i64 ((h i_1).2.1))])),(AE n)]:=by kernel_rfl
theorem snoc_lt {n:Nat} {h:Nat→T_Bar} {x:T_Bar} {s:Nat} (hs:s<n):snoc n h x s=h s:=by
  simp only [snoc,hs,if_true]
theorem snoc_ge {n:Nat} {h:Nat→T_Bar} {x:T_Bar} {s:Nat} (hs:¬ s<n):snoc n h x s=x:=by
  simp only [snoc,hs,if_false]
theorem snoc_mem (n:Nat) (h:Nat→T_Bar) (x y:T_Bar):(∃ s,s<n+1∧snoc n h x s=y)↔(∃ s,s<n∧h s=y)∨x=y:=by
  constructor
  · rintro ⟨s,h1,h2⟩
    by_cases e:s<n
    · rw [snoc_lt e] at h2;exact .inl ⟨s,e,h2⟩
    · rw [snoc_ge e] at h2;exact .inr h2
  · rintro (⟨s,h1,h2⟩ | h2)
    · exact ⟨s,by omega,by rw [snoc_lt h1];exact h2⟩
    · exact ⟨n,by omega,by rw [snoc_ge (Nat.lt_irrefl n)];exact h2⟩
def insD (g:Nat→T_Bar) (x:T_Bar):Nat→Bool×Nat×(Nat→T_Bar)
  | 0=>(false,0,fun _=>(0,0,()))
  | i+1 =>
    if (bif !(insD g x i).1 then !aft (g i) x else false)=true then (true,(insD g x i).2.1+1+1,snoc ((insD g x i).2.1+1) (snoc (insD g x i).2.1 (insD g x i).2.2 x) (g i))
    else ((insD g x i).1,(insD g x i).2.1+1,snoc (insD g x i).2.1 (insD g x i).2.2 (g i))
def insR (g:Nat→T_Bar) (nb:Nat) (x:T_Bar):Nat×(Nat→T_Bar) :=
  if (insD g x nb).1=true then ((insD g x nb).2.1,(insD g x nb).2.2) else ((insD g x nb).2.1+1,snoc (insD g x nb).2.1 (insD g x nb).2.2 x)
theorem insD_n (g:Nat→T_Bar) (x:T_Bar):∀ i,(insD g x i).2.1=i+(if (insD g x i).1=true then 1 else 0)
  | 0=>rfl
  | i+1=>by
    have ih:=insD_n g x i
    simp only [insD]
    split
    · rename_i h
      have hf:(insD g x i).1=false:=by
        cases e:(insD g x i).1 with
        | false=>rfl
        | true=>rw [e] at h;simp at h
      rw [hf] at ih
      simp only [if_true]
      simp at ih
      omega
    · simp only
      omega
theorem insD_mem (g:Nat→T_Bar) (x y:T_Bar):∀ i,(∃ s,s<(insD g x i).2.1∧(insD g x i).2.2 s=y)↔(∃ s,s<i∧g s=y)∨((insD g x i).1=true∧x=y)
  | 0=>by
    constructor
    · rintro ⟨s,h1,_⟩;exact absurd h1 (Nat.not_lt_zero _)
    · rintro (⟨s,h1,_⟩ | ⟨h1,_⟩)
      · exact absurd h1 (Nat.not_lt_zero _)
      · cases h1
  | i+1=>by
    have ih:=insD_mem g x y i
    have step:(∃ s,s<i+1∧g s=y)↔(∃ s,s<i∧g s=y)∨g i=y:=by
      constructor
      · rintro ⟨s,h1,h2⟩
        by_cases e:s=i
        · right;rw [← e];exact h2
        · exact .inl ⟨s,by omega,h2⟩
      · rintro (⟨s,h1,h2⟩ | h2)
        · exact ⟨s,by omega,h2⟩
        · exact ⟨i,by omega,h2⟩
    simp only [insD]
    split
    · rename_i h
      have hf:(insD g x i).1=false:=by
        cases e:(insD g x i).1 with
        | false=>rfl
        | true=>rw [e] at h;simp at h
      simp only [snoc_mem,ih,step,hf]
      constructor
      · rintro ((( h | ⟨h,_⟩) | h) | h)
        · exact .inl (.inl h)
        · cases h
        · exact .inr ⟨trivial,h⟩
        · exact .inl (.inr h)
      · rintro ((h | h) | ⟨_,h⟩)
        · exact .inl (.inl (.inl h))
        · exact .inr h
        · exact .inl (.inr h)
    · simp only [snoc_mem,ih,step]
      constructor
      · rintro ((h | h) | h)
        · exact .inl (.inl h)
        · exact .inr h
        · exact .inl (.inr h)
      · rintro ((h | h) | h)
        · exact .inl (.inl h)
        · exact .inr h
        · exact .inl (.inr h)
theorem insR_mem (g:Nat→T_Bar) (nb:Nat) (x y:T_Bar):(∃ s,s<(insR g nb x).1∧(insR g nb x).2 s=y)↔(∃ s,s<nb∧g s=y)∨x=y:=by
  have h:=insD_mem g x y nb
  unfold insR
  split
  · rename_i hp
    simp only [h,hp,true_and]
  · rename_i hp
    simp only [snoc_mem,h]
    constructor
    · rintro ((h | ⟨h,_⟩) | h)
      · exact .inl h
      · exact absurd h hp
      · exact .inr h
    · rintro (h | h)
      · exact .inl (.inl h)
      · exact .inr h
theorem insR_n (g:Nat→T_Bar) (nb:Nat) (x:T_Bar):(insR g nb x).1=nb+1:=by
  have h:=insD_n g x nb
  unfold insR
  split
  · rename_i hp;rw [if_pos hp] at h;exact h
  · rename_i hp;rw [if_neg hp] at h;show (insD g x nb).2.1+1=nb+1;omega
theorem con_l2Put (g:Nat→T_Bar) (nb N:Nat) (x:T_Bar) (hnb:nb≤1048576):zE 136 [grG g nb N,brA x] [(0,brOb (insR g nb x).1 (insR g nb x).2)] (.agg [.p (.int .i64 N),.ar 2 0 0 (insR g nb x).1]):=by
  refine csZ Tryz.func136 (fun c hc=>?_)
  have lp:∀ d i,i+d=nb→zR c 136 zf35 (SL g nb N x i (insD g x i).2.1 (insD g x i).1 (insD g x i).2.2) (Post c [(0,brOb (insR g nb x).1 (insR g nb x).2)] (.agg [.p (.int .i64 N),.ar 2 0 0 (insR g nb x).1])):=by
    intro d
    induction d with
    | zero =>
      intro i hi
      obtain rfl:i=nb:=by omega
      have hd:decide ((i:Int)<(i:Int))=false:=by simp
      have hn:=insD_n g x i
      have hle:(insD g x i).2.1≤i+1:=by split at hn<;>omega
      cases hp:(insD g x i).1 with
      | true =>
        rw [show insR g i x=((insD g x i).2.1,(insD g x i).2.2) by simp [insR,hp]]
        refine pkZ Tryz.func136 hc (rLd g i N x i (insD g x i).2.1 true (insD g x i).2.2) ?_
        and_intros
        all_goals (first | exact zI | (intro i hi;simp [All]))
      | false =>
        rw [show insR g i x=((insD g x i).2.1+1,snoc (insD g x i).2.1 (insD g x i).2.2 x) by simp [insR,hp]]
        refine pkD Tryz.func136 hc (rLc g i N x i (insD g x i).2.1 false (insD g x i).2.2) ?_
        and_intros
        all_goals (first | exact zI | (intro j hj;simp [All];done) | (intro j hj;by_cases h:j<(insD g x i).2.1<;>simp [h,snoc,cvtL,cvt,tg,tru,All]))
    | succ d ih =>
      intro i hi
      have hd:decide ((i:Int)<(nb:Int))=true:=by simp;omega
      have hn:=insD_n g x i
      have hle:(insD g x i).2.1≤i+1:=by split at hn<;>omega
      have hca:=con_l2After (g i) x
      have hs:insD g x (i+1)=if (bif !(insD g x i).1 then !aft (g i) x else false)=true then (true,(insD g x i).2.1+1+1,snoc ((insD g x i).2.1+1) (snoc (insD g x i).2.1 (insD g x i).2.2 x) (g i)) else ((insD g x i).1,(insD g x i).2.1+1,snoc (insD g x i).2.1 (insD g x i).2.2 (g i)):=rfl
      have hih:=ih (i+1) (by omega)
      cases ht:(bif !(insD g x i).1 then !aft (g i) x else false) with
      | true =>
        rw [hs,if_pos ht] at hih
        refine pcD hc (rLa g nb N x i (insD g x i).2.1 (insD g x i).1 (insD g x i).2.2) ?_ hih
        and_intros
        all_goals (first | exact zI | (intros;exact hca) | (exact ht) | (intro j hj;simp [All];done) | (intro j hj;by_cases h:j<(insD g x i).2.1+1<;>by_cases h':j<(insD g x i).2.1<;>simp [h,h',snoc,cvtL,cvt,tg,tru,All]) | (simp;omega))
      | false =>
        rw [hs,if_neg (by rw [ht];simp)] at hih
        refine pcD hc (rLb g nb N x i (insD g x i).2.1 (insD g x i).1 (insD g x i).2.2) ?_ hih
        and_intros
        all_goals (first | exact zI | (intros;exact hca) | (exact ht) | (intro j hj;simp [All];done) | (intro j hj;by_cases h:j<(insD g x i).2.1<;>simp [h,snoc,cvtL,cvt,tg,tru,All]))
  refine pcD hc (rLz g nb N x) ?_ (lp nb 0 (by omega))
  and_intros
  all_goals (first | exact zI | (intro i hi;simp [All]))
open Go Go.Shelf Go.RowKit Go.Lib Go.Sort
def ltB (x y:T_Bar):Bool:=ltOf cmpB x y
theorem ltB_iff (x y:T_Bar):ltB x y=true↔x.1<y.1∨(x.1=y.1∧x.2.1<y.2.1):=by
  rw [show ltB x y=decide (cmpB x y<0) from rfl,decide_eq_true_iff]
  unfold cmpB
  rcases Int.lt_trichotomy x.1 y.1 with h | h | h
  · rw [cmpI_1 h];simp;omega
  · rw [cmpI_3 (x:=x.1) (y:=y.1) (by omega) (by omega)]
    simp only [if_true]
    rcases Int.lt_trichotomy x.2.1 y.2.1 with h' | h' | h'
    · rw [cmpI_1 h'];simp;omega
    · rw [cmpI_3 (x:=x.2.1) (y:=y.2.1) (by omega) (by omega)];simp;omega
    · rw [cmpI_2 h'];simp;omega
  · rw [cmpI_2 h];simp;omega
theorem swoB:SWO (ltOf cmpB) where
  irrefl x:=by
    cases h:ltOf cmpB x x with
    | false=>rfl
    | true=>have:=(ltB_iff x x).1 h;omega
  trans x y z h1 h2:=by
    have h1:=(ltB_iff x y).1 h1
    have h2:=(ltB_iff y z).1 h2
    exact (ltB_iff x z).2 (by omega)
  ntrans x y z h1 h2:=by
    cases h:ltOf cmpB x z with
    | false=>rfl
    | true =>
      have h3:=(ltB_iff x z).1 h
      have e1:¬ (x.1<y.1∨(x.1=y.1∧x.2.1<y.2.1)):=fun h'=>by rw [show ltOf cmpB x y=true from (ltB_iff x y).2 h'] at h1;cases h1
      have e2:¬ (y.1<z.1∨(y.1=z.1∧y.2.1<z.2.1)):=fun h'=>by rw [show ltOf cmpB y z=true from (ltB_iff y z).2 h'] at h2;cases h2
      omega
theorem totB (x y:T_Bar) (h1:ltOf cmpB x y=false) (h2:ltOf cmpB y x=false):x=y:=by
  have e1:¬ (x.1<y.1∨(x.1=y.1∧x.2.1<y.2.1)):=fun h'=>by rw [show ltOf cmpB x y=true from (ltB_iff x y).2 h'] at h1;cases h1
  have e2:¬ (y.1<x.1∨(y.1=x.1∧y.2.1<x.2.1)):=fun h'=>by rw [show ltOf cmpB y x=true from (ltB_iff y x).2 h'] at h2;cases h2
  obtain ⟨a,b,⟨⟩⟩:=x
  obtain ⟨c,d,⟨⟩⟩:=y
  simp only [Prod.mk.injEq,and_true] at e1 e2 ⊢
  omega
def lstB (n:Nat) (h:Nat→T_Bar):List T_Bar:=(List.range n).map h
def srtL (l:List T_Bar):List T_Bar:=l.mergeSort fun x y=>!(ltOf cmpB) y x
def srtB (n:Nat) (h:Nat→T_Bar) (i:Nat):T_Bar:=(srtL (lstB n h)).getD i (0,0,())
theorem encB_len (x:T_Bar):(encB x).length=2:=rfl
theorem encB_one (x:T_Bar):∀ v∈encB x,v.oneCell'=true:=by
  intro v hv
  simp only [encB,List.mem_cons,List.not_mem_nil,or_false] at hv
  rcases hv with rfl | rfl<;>rfl
theorem srtL_len (l:List T_Bar):(srtL l).length=l.length:=by simp [srtL]
theorem lstB_len (n:Nat) (h:Nat→T_Bar):(lstB n h).length=n:=by simp [lstB]
theorem con_sortBars (n:Nat) (h:Nat→T_Bar) (hn:n≤1048576) :
    Con Tryz.prog 132 1 [(0,brOb n h)] [.ar 2 0 0 n,.p (.fn 133)] [(0,brOb n (srtB n h))] (.tup []):=by
  refine ⟨by kernel_rfl,fun w β X vals hX hH hS hd hl ha=>?_⟩
  obtain ⟨v0,v1,rfl⟩:∃ v0 v1,vals = #[v0,v1]:=by
    rcases vals with ⟨l⟩
    match l,hl with
    | [a,b],_=>exact ⟨a,b,rfl⟩
  have h0:VR w β (ow X β [(0,brOb n h)]) (.ar 2 0 0 n) v0:=ha 0 (by simp)
  have h1:VR w β (ow X β [(0,brOb n h)]) (.p (.fn 133)) v1:=ha 1 (by simp)
  have e1:v1=.func (.func 133) #[] #[]:=by
    cases h1 with
    | p _ _ hp=>cases hp;rfl
  subst e1
  have hnil:∀ (w':World) (own:Bool→Nat→Prop),VR w' β own (.tup []) (.tuple #[]):=fun w' own=>.tup [] #[] rfl (fun j hj=>absurd hj (Nat.not_lt_zero _))
  rcases Nat.eq_zero_or_pos n with rfl | hpos
  · obtain ⟨p,cap,rfl⟩:∃ p cap,v0=.slice p 0 cap:=by
      cases h0 with
      | ar0=>exact ⟨_,_,rfl⟩
      | ar=>exact ⟨_,_,rfl⟩
    refine (AnyF.slices_SortFunc_none (P:=Tryz.prog) (ρ:=Tryz.sortBar_ren) { Tryz.sortBar with } p cap _ w).mono ?_
    rintro e w' ⟨rfl,rfl⟩
    refine ⟨_,β,rfl,?_,?_,hnil _ _,?_,fun o a h=>h,fun b' h'=>.inl ?_,fun k h=>.inl h⟩
    · intro o ob hl
      obtain ⟨rfl,rfl⟩:=look_one hl
      rcases hH 0 _ (lk_one _) with ⟨hb,_⟩ | ⟨b,base,cells,el,hβ,hh,_⟩ | hm
      · exact .inl ⟨hb,rfl⟩
      · exact .inr (.inl ⟨b,base,cells,el,hβ,hh,fun i hi=>absurd hi (Nat.not_lt_zero _)⟩)
      · exact absurd hm.2.1 (by simp [brOb])
    · intro o o' ob ob' a a' h1 h2 h3 h4 h5
      obtain ⟨rfl,rfl⟩:=look_one h1
      obtain ⟨rfl,rfl⟩:=look_one h2
      rfl
    · rw [ow_one X β (brOb 0 (srtB 0 h)) (brOb 0 h)]
      exact Ext.refl _ _
    · rw [own_one _ _ _ rfl] at h' ⊢;exact h'
  · cases h0 with
    | ar0=>exact absurd hpos (Nat.lt_irrefl 0)
    | ar _ _ _ _ b base c cells elem fr' hβ hh hsz hc =>
      rcases hH 0 _ (lk_one _) with ⟨hb,_⟩ | ⟨b',base',cells',el',hβ',hh',hrw⟩ | hm
      · rw [hb] at hβ;cases hβ
      · rw [hβ] at hβ'
        injection hβ' with hβ'
        injection hβ' with i1 i2 _
        subst i1;subst i2
        rw [hh] at hh'
        injection hh' with hh'
        injection hh' with i1 i2 i3
        subst i1;subst i2;subst i3
        have hcell:∀ i,i<n→cells[base+(i*2+0)]? = some (.int .i64 (h i).1)∧cells[base+(i*2+1)]? = some (.int .i64 (h i).2.1):=by
          intro i hi
          obtain ⟨u,hu1,hu2,hu3⟩:=hrw i hi 0 (by simp [brOb])
          obtain ⟨u',hu1',hu2',hu3'⟩:=hrw i hi 1 (by simp [brOb])
          have:=vr_int (k:=.i64) (x:=(h i).1) hu3
          subst this
          have:=vr_int (k:=.i64) (x:=(h i).2.1) hu3'
          subst this
          exact ⟨hu1,hu1'⟩
        have hend:base+n*2≤cells.size:=by
          have:=(hcell (n - 1) (by omega)).2
          rcases Nat.lt_or_ge (base+((n - 1)*2+1)) cells.size with h' | h'
          · omega
          · rw [Array.getElem?_eq_none h'] at this;cases this
        have hdz:((lstB n h).toArray).size=n:=by simp [lstB]
        have hdi:∀ i,i<n→((lstB n h).toArray)[i]! = h i:=by
          intro i hi
          rw [getElem!_pos _ i (by rw [hdz];exact hi)]
          simp [lstB]
        have hHK:HoldsK encB 2 w b base (lstB n h).toArray:=by
          intro t ht
          rw [size_flatK,hdz] at ht
          rw [get_flatK _ _ _ _ (by rw [hdz];exact ht),hdi (t / 2) (by omega)]
          have hc:=hcell (t / 2) (by omega)
          rcases Nat.mod_two_eq_zero_or_one t with h2 | h2
          · refine ⟨?_,by simp [World.frozen?,hh]⟩
            rw [h2]
            have:base+t=base+(t / 2*2+0):=by omega
            simp only [World.cell?,hh]
            rw [this,hc.1];rfl
          · refine ⟨?_,by simp [World.frozen?,hh]⟩
            rw [h2]
            have:base+t=base+(t / 2*2+1):=by omega
            simp only [World.cell?,hh]
            rw [this,hc.2];rfl
        have hblk:b<w.heap.size:=by
          rcases Nat.lt_or_ge b w.heap.size with h' | h'
          · exact h'
          · rw [Array.getElem?_eq_none h'] at hh;cases hh
        have eg:∀ args w,(callFunc 133 args).run Tryz.prog w=.ok (.enter 133 args) w:=enters_of Tryz.func133 (by kernel_rfl) rfl
        have hcmp:CmpLays Tryz.prog 133 #[] encB 2 cmpB b base (lstB n h).toArray.size w:=fun _ _ _ _ x y=>cmp_bars x y _
        have hcon:=AnyQ.slices_SortFunc_total Tryz.sortBar 2 Tryz.isAgg91 Tryz.sizeOf91 encB encB_len encB_one cmpB swoB 133 #[] b base c (lstB n h).toArray w eg hcmp hHK hblk (by rw [hdz];omega) totB
        rw [hdz] at hcon
        change Calls Tryz.prog 132 _ _ _ at hcon
        rw [show base+0*2=base by omega]
        refine hcon.mono ?_
        rintro e w' ⟨rfl,q,os,rfl⟩
        refine sW_post (F:=flatK encB 2 (srtL (lstB n h)).toArray) hβ hh hS hend (by rw [size_flatK];simp [srtL_len,lstB_len]) (fun i hi j hj=>?_) (hnil _)
        have hs:((srtL (lstB n h)).toArray).size=n:=by simp [srtL_len,lstB_len]
        have hi2:i*2+j<n*2:=by omega
        rw [get_flatK _ _ _ _ (by rw [hs];exact hi2),show (i*2+j) / 2=i by omega,show (i*2+j) % 2=j by omega]
        have hgi:(srtL (lstB n h)).toArray[i]! = srtB n h i:=by
          rw [getElem!_pos _ i (by rw [hs];exact hi),srtB]
          simp [List.getD_eq_getElem?_getD,List.getElem?_eq_getElem (show i<(srtL (lstB n h)).length by rw [srtL_len,lstB_len];exact hi)]
        rw [hgi]
        rcases (show j=0∨j=1 by omega) with rfl | rfl
        · exact ⟨rfl,fun w' own=>.p _ _ (.int _ _)⟩
        · exact ⟨rfl,fun w' own=>.p _ _ (.int _ _)⟩
      · exact absurd hm.2.1 (by simp [brOb])
def leB (x y:T_Bar):Prop:=ltB y x=false
theorem leB_iff (x y:T_Bar):leB x y↔x.1<y.1∨(x.1=y.1∧x.2.1≤y.2.1):=by
  have h:=ltB_iff y x
  unfold leB
  cases hb:ltB y x with
  | false=>rw [hb] at h;simp only [Bool.false_eq_true,false_iff] at h;simp only [true_iff];omega
  | true=>rw [hb] at h;simp only [true_iff] at h;simp only [Bool.true_eq_false,false_iff];omega
theorem aft_iff (x y:T_Bar):aft x y=true↔leB x y:=by
  rw [leB_iff]
  unfold aft
  by_cases h1:x.1<y.1
  · simp [h1]
  · by_cases h2:x.1=y.1<;>simp [h1,h2]
theorem leB_antisymm (x y:T_Bar) (h1:leB x y) (h2:leB y x):x=y:=totB x y h2 h1
theorem srtL_sorted (l:List T_Bar):(srtL l).Pairwise leB:=by
  have h:=List.pairwise_mergeSort (le:=fun x y=>!(ltOf cmpB) y x) (fun a b c h1 h2=>by
    simp only [Bool.not_eq_true'] at *
    have h1:=(leB_iff a b).1 h1
    have h2:=(leB_iff b c).1 h2
    exact (leB_iff a c).2 (by omega)) (fun a b=>by
    simp only [Bool.or_eq_true,Bool.not_eq_true']
    rcases (show (a.1<b.1∨(a.1=b.1∧a.2.1≤b.2.1))∨(b.1<a.1∨(b.1=a.1∧b.2.1≤a.2.1)) by omega) with h | h
    · exact .inl ((leB_iff a b).2 h)
    · exact .inr ((leB_iff b a).2 h)) l
  exact h.imp (fun {a b} h=>show ltOf cmpB b a=false by simpa using h)
theorem srtL_perm (l:List T_Bar):(srtL l).Perm l:=List.mergeSort_perm l _
theorem srtL_eq {l m:List T_Bar} (hp:m.Perm l) (hs:m.Pairwise leB):m=srtL l :=
  List.Perm.eq_of_pairwise (le:=leB) (fun a b _ _ h1 h2=>leB_antisymm a b h1 h2) hs (srtL_sorted l) (hp.trans (srtL_perm l).symm)
theorem lstB_succ (n:Nat) (h:Nat→T_Bar):lstB (n+1) h=lstB n h++[h n]:=by simp [lstB,List.range_succ]
theorem lstB_congr {n:Nat} {h h':Nat→T_Bar} (he:∀ i,i<n→h i=h' i):lstB n h=lstB n h':=by
  simp only [lstB]
  exact List.map_congr_left (fun a ha=>he a (List.mem_range.1 ha))
theorem lstB_snoc (n:Nat) (h:Nat→T_Bar) (x:T_Bar):lstB (n+1) (snoc n h x)=lstB n h++[x]:=by
  rw [lstB_succ,lstB_congr (h':=h) (fun i hi=>snoc_lt hi),snoc_ge (Nat.lt_irrefl n)]
theorem lstB_inj {n:Nat} {h h':Nat→T_Bar} (he:lstB n h=lstB n h') (i:Nat) (hi:i<n):h i=h' i:=by
  have:(lstB n h)[i]? = (lstB n h')[i]?:=by rw [he]
  simpa [lstB,hi] using this
theorem lstB_srt (n:Nat) (h:Nat→T_Bar):lstB n (srtB n h)=srtL (lstB n h):=by
  refine List.ext_getElem? (fun i=>?_)
  rcases Nat.lt_or_ge i n with hi | hi
  · have:i<(srtL (lstB n h)).length:=by rw [srtL_len,lstB_len];exact hi
    simp only [lstB,List.getElem?_map,List.getElem?_range hi,Option.map_some]
    rw [show srtL (List.map h (List.range n))=srtL (lstB n h) from rfl,List.getElem?_eq_getElem this]
    simp [srtB,List.getD_eq_getElem?_getD,List.getElem?_eq_getElem this]
  · rw [List.getElem?_eq_none (by rw [lstB_len];exact hi),List.getElem?_eq_none (by rw [srtL_len,lstB_len];exact hi)]
theorem insD_list (g:Nat→T_Bar) (x:T_Bar) (nb:Nat) (hs:(lstB nb g).Pairwise leB):∀ i,i≤nb →
    (lstB (insD g x i).2.1 (insD g x i).2.2).Perm (lstB i g++(if (insD g x i).1=true then [x] else [])) ∧
    (lstB (insD g x i).2.1 (insD g x i).2.2).Pairwise leB∧((insD g x i).1=false→(lstB (insD g x i).2.1 (insD g x i).2.2)=lstB i g∧∀ s,s<i→leB (g s) x) ∧
    ((insD g x i).1=true→∀ s,s<nb→i≤s→∀ y∈lstB (insD g x i).2.1 (insD g x i).2.2,leB y (g s)):=by
  have hmono:∀ s s',s<s'→s'<nb→leB (g s) (g s'):=by
    intro s s' h1 h2
    have:=List.pairwise_iff_getElem.1 hs s s' (by rw [lstB_len];omega) (by rw [lstB_len];omega) h1
    simpa [lstB] using this
  have htr:∀ {a b c:T_Bar},leB a b→leB b c→leB a c:=by
    intro a b c h1 h2
    have h1:=(leB_iff a b).1 h1
    have h2:=(leB_iff b c).1 h2
    exact (leB_iff a c).2 (by omega)
  intro i
  induction i with
  | zero=>intro _;exact ⟨by simp [insD,lstB],by simp [insD,lstB],fun _=>⟨rfl,fun s h=>absurd h (Nat.not_lt_zero _)⟩,fun h=>by simp [insD] at h⟩
  | succ i ih =>
    intro hi
    obtain ⟨ih1,ih2,ih3,ih4⟩:=ih (by omega)
    simp only [insD]
    split
    · rename_i ht
      have hf:(insD g x i).1=false:=by
        cases e:(insD g x i).1 with
        | false=>rfl
        | true=>rw [e] at ht;simp at ht
      rw [hf] at ht
      simp only [Bool.not_false,cond_true,Bool.not_eq_true'] at ht
      have hxg:leB x (g i):=by
        have h1:¬ leB (g i) x:=fun h=>by rw [(aft_iff _ _).2 h] at ht;cases ht
        rw [leB_iff] at h1 ⊢
        omega
      obtain ⟨e1,e2⟩:=ih3 hf
      simp only [if_true]
      rw [lstB_snoc,lstB_snoc,e1]
      have hlt:∀ y∈lstB i g,leB y x∧leB y (g i):=by
        intro y hy
        simp only [lstB,List.mem_map,List.mem_range] at hy
        obtain ⟨s,h1,rfl⟩:=hy
        exact ⟨e2 s h1,hmono s i h1 (by omega)⟩
      refine ⟨?_,?_,fun h=>by simp at h,fun _ s hs1 hs2 y hy=>?_⟩
      · rw [lstB_succ,List.append_assoc,List.append_assoc]
        exact List.Perm.append_left _ (List.Perm.swap _ _ _)
      · rw [e1] at ih2
        rw [List.append_assoc,List.pairwise_append]
        refine ⟨ih2,by simp [hxg],fun y hy y' hy'=>?_⟩
        simp only [List.cons_append,List.nil_append,List.mem_cons,List.not_mem_nil,or_false] at hy'
        rcases hy' with rfl | rfl
        · exact (hlt y hy).1
        · exact (hlt y hy).2
      · have his:leB (g i) (g s):=hmono i s (by omega) hs1
        simp only [List.mem_append,List.mem_cons,List.not_mem_nil,or_false] at hy
        rcases hy with (hy | rfl) | rfl
        · exact htr (hlt y hy).2 his
        · exact htr hxg his
        · exact his
    · rename_i ht
      rw [lstB_snoc]
      refine ⟨?_,?_,fun h=>?_,fun h s hs1 hs2 y hy=>?_⟩
      · rw [lstB_succ,List.append_assoc]
        refine (List.Perm.append_right [g i] ih1).trans ?_
        rw [List.append_assoc]
        exact List.Perm.append_left _ List.perm_append_comm
      · rw [List.pairwise_append]
        refine ⟨ih2,by simp,fun y hy y' hy'=>?_⟩
        simp only [List.mem_cons,List.not_mem_nil,or_false] at hy'
        subst hy'
        cases hp:(insD g x i).1 with
        | true=>exact ih4 hp i (by omega) (Nat.le_refl _) y hy
        | false =>
          rw [(ih3 hp).1] at hy
          simp only [lstB,List.mem_map,List.mem_range] at hy
          obtain ⟨s,h1,rfl⟩:=hy
          exact hmono s i h1 (by omega)
      · simp only at h
        obtain ⟨e1,e2⟩:=ih3 h
        refine ⟨by rw [e1,lstB_succ],fun s hs1=>?_⟩
        rcases Nat.lt_or_ge s i with h' | h'
        · exact e2 s h'
        · obtain rfl:s=i:=by omega
          rw [h] at ht
          simp only [Bool.not_false,cond_true,Bool.not_eq_true',Bool.not_eq_false] at ht
          exact (aft_iff _ _).1 ht
      · simp only at h
        simp only [List.mem_append,List.mem_cons,List.not_mem_nil,or_false] at hy
        rcases hy with hy | rfl
        · exact ih4 h s hs1 (by omega) y hy
        · exact hmono i s (by omega) hs1
theorem insR_list (g:Nat→T_Bar) (nb:Nat) (x:T_Bar) (hs:(lstB nb g).Pairwise leB) :
    lstB (insR g nb x).1 (insR g nb x).2=srtL (lstB nb g++[x]):=by
  obtain ⟨h1,h2,h3,h4⟩:=insD_list g x nb hs nb (Nat.le_refl _)
  unfold insR
  split
  · rename_i hp
    rw [if_pos hp] at h1
    exact srtL_eq h1 h2
  · rename_i hp
    have hf:(insD g x nb).1=false:=by simpa using hp
    obtain ⟨e1,e2⟩:=h3 hf
    simp only
    rw [lstB_snoc,e1]
    refine srtL_eq (List.Perm.refl _) ?_
    rw [List.pairwise_append]
    refine ⟨hs,by simp,fun y hy y' hy'=>?_⟩
    simp only [List.mem_cons,List.not_mem_nil,or_false] at hy'
    subst hy'
    simp only [lstB,List.mem_map,List.mem_range] at hy
    obtain ⟨s,h',rfl⟩:=hy
    exact e2 s h'
def hasI (g:Nat→Int) (x:Int):Nat→Bool
  | 0=>false
  | k+1=>hasI g x k||g k==x
def inL (v:T_IntS):AV:=.p (.seq true 1 v.1 (fun i=>[.int .i64 (v.2 i)]))
def S85 (v:T_IntS) (x:Int) (k:Nat):St :=
  ⟨[inL v,.p (.int .i64 x),.p .any,.p .any,.p .any,.p (.int .i64 k)]++List.replicate 12 anyA,[],0⟩
def S112 (v:T_IntS) (x:Int) (k:Nat):St :=
  ⟨[inL v,.p (.int .i64 x)]++List.replicate 5 anyA++[.p (.int .i64 v.1),.p (.int .i64 k)]++List.replicate 10 anyA,[],0⟩
theorem p85a (v:T_IntS) (x:Int) :
    zT Tryz.f92 [rg 1,rg 1,.head] [inL v,.p (.int .i64 x)] [] (S85 v x 0) =
    some (zf72,[(AN v.1),(AP v.1 (iRw v)),(AI x),((0:Int)=(↑0:Int))]):=by kernel_rfl
theorem p85b (v:T_IntS) (x:Int) (k:Nat) :
    zM 0 [rg 4,.dec true,rg 6,.dec false,rg 3,.head] zf72 (S85 v x k) [] 1 (S85 v x (k+1)) =
    some (zf72,[((decide ((↑k:Int)<(↑v.1:Int)))=true),(IL 0 (↑k:Int)),(IT (↑k:Int) (↑v.1:Int)),((v.2 k==x)=false),(ZLo ((↑k:Int)+1)),(ZHi ((↑k:Int)+1)),(AN v.1),(AP v.1 (iRw v)),(AI x),((((↑k:Int)+1):Int)=(↑(k+1):Int))]):=by kernel_rfl
theorem p85c (v:T_IntS) (x:Int) (k:Nat) :
    zP Tryz.f92 0 [rg 4,.dec true,rg 6,.dec true,rg 1] zf72 (S85 v x k) [] 1 [] (.p (.bool true)) =
    some [((decide ((↑k:Int)<(↑v.1:Int)))=true),(IL 0 (↑k:Int)),(IT (↑k:Int) (↑v.1:Int)),((v.2 k==x)=true),(true=true)]:=by kernel_rfl
theorem p85d (v:T_IntS) (x:Int) (k:Nat) :
    zP Tryz.f92 0 [rg 4,.dec false,rg 1] zf72 (S85 v x k) [] 1 [] (.p (.bool false)) =
    some [((decide ((↑k:Int)<(↑v.1:Int)))=false),(false=false)]:=by kernel_rfl
theorem p112a (v:T_IntS) (x:Int) :
    zT Tryz.f187 [rg 1,rg 3,.head] [inL v,.p (.int .i64 x)] [] (S112 v x 0) =
    some (zf69,[(AN v.1),(AP v.1 (iRw v)),(AI x),(AI ((↑v.1:Int))),((0:Int)=(↑0:Int))]):=by kernel_rfl
theorem p112b (v:T_IntS) (x:Int) (k:Nat) :
    zM 0 [rg 1,.dec true,rg 2,rg 6,.dec false,rg 2,.head] zf69 (S112 v x k) [] 1 (S112 v x (k+1)) =
    some (zf69,[((decide ((↑k:Int)<(↑v.1:Int)))=true),(IL 0 (↑k:Int)),(IT (↑k:Int) (↑v.1:Int)),((x==v.2 k)=false),(ZLo ((↑k:Int)+1)),(ZHi ((↑k:Int)+1)),(AN v.1),(AP v.1 (iRw v)),(AI x),(AI ((↑v.1:Int))),((((↑k:Int)+1):Int)=(↑(k+1):Int))]):=by kernel_rfl
theorem p112c (v:T_IntS) (x:Int) (k:Nat) :
    zP Tryz.f187 0 [rg 1,.dec true,rg 2,rg 6,.dec true,rg 2] zf69 (S112 v x k) [] 1 [] (.p (.int .i64 k)) =
    some [((decide ((↑k:Int)<(↑v.1:Int)))=true),(IL 0 (↑k:Int)),(IT (↑k:Int) (↑v.1:Int)),((x==v.2 k)=true),(AI ((↑k:Int)))]:=by kernel_rfl
theorem p112d (v:T_IntS) (x:Int) (k:Nat) :
    zP Tryz.f187 0 [rg 1,.dec false,rg 1] zf69 (S112 v x k) [] 1 [] (.p (.int .i64 (-1))) =
    some [((decide ((↑k:Int)<(↑v.1:Int)))=false),(AI ((-1)))]:=by kernel_rfl
theorem p90 (v:T_IntS) (x r:Int) :
    zS Tryz.f144 [rg 1,rm [(2,oc [] (.p (.int .i64 r)))] 2] [inL v,.p (.int .i64 x)] [] [] (.p (.bool (decide (r≥0)))) =
    some [zE 187 [.p (.seq true 1 v.1 (iRw v)),.p (.int .i64 x)] [] (.p (.int .i64 r)),((decide (r≥0))=(decide (r≥0)))]:=by kernel_rfl
theorem hasI_hit (g:Nat→Int) (x:Int) (k:Nat) (h:(g k==x)=true):∀ n,k<n→hasI g x n=true
  | 0,h'=>by omega
  | n+1,h'=>by
    by_cases e:k=n
    · subst e;simp [hasI,h]
    · simp [hasI,hasI_hit g x k h n (by omega)]
theorem con_l2Has (v:T_IntS) (x:Int) (hn:v.1≤1048576):zE 92 [inL v,.p (.int .i64 x)] [] (.p (.bool (hasI v.2 x v.1))):=by
  refine csZ Tryz.func92 (fun c hc=>?_)
  have lp:∀ m k,k+m=v.1→hasI v.2 x k=false→zR c 92 zf72 (S85 v x k) (Post c [] (.p (.bool (hasI v.2 x v.1)))):=by
    intro m
    induction m with
    | zero =>
      intro k hk hg
      rw [show hasI v.2 x v.1=false by rw [show v.1=k by omega];exact hg]
      have hd:decide ((k:Int)<(v.1:Int))=false:=by simp;omega
      refine pkZ Tryz.func92 hc (p85d v x k) ?_
      and_intros
      all_goals (first | exact zN)
    | succ m ih =>
      intro k hk hg
      have hd:decide ((k:Int)<(v.1:Int))=true:=by simp;omega
      cases he:(v.2 k==x) with
      | true =>
        rw [hasI_hit v.2 x k he v.1 (by omega)]
        refine pkZ Tryz.func92 hc (p85c v x k) ?_
        and_intros
        all_goals (first | exact zN | (exact he))
      | false =>
        refine pcZ hc (p85b v x k) ?_ (ih (k+1) (by omega) (by simp only [hasI,hg,he];rfl))
        and_intros
        all_goals (first | exact zN | (exact he))
  refine pcZ hc (p85a v x) ?_ (lp v.1 0 (by omega) rfl)
  and_intros
  all_goals (first | exact zN)
theorem con_Index (v:T_IntS) (x:Int) (hn:v.1≤1048576):∃ r:Int,decide (r≥0)=hasI v.2 x v.1∧zE 187 [inL v,.p (.int .i64 x)] [] (.p (.int .i64 r)):=by
  have key:(∃ k,k<v.1∧hasI v.2 x k=false∧(v.2 k==x)=true)∨hasI v.2 x v.1=false:=by
    have gen:∀ n,(∃ k,k<n∧hasI v.2 x k=false∧(v.2 k==x)=true)∨hasI v.2 x n=false:=by
      intro n
      induction n with
      | zero=>exact .inr rfl
      | succ n ih =>
        rcases ih with ⟨k,h1,h2⟩ | h
        · exact .inl ⟨k,by omega,h2⟩
        · cases he:(v.2 n==x) with
          | true=>exact .inl ⟨n,by omega,h,he⟩
          | false=>exact .inr (by simp only [hasI,h,he];rfl)
    exact gen v.1
  rcases key with ⟨q,hq,hq1,hq2⟩ | hno
  · refine ⟨(q:Int),by rw [hasI_hit v.2 x q hq2 v.1 hq];simp,?_⟩
    refine csZ Tryz.func187 (fun c hc=>?_)
    have lp:∀ m k,k+m=q→zR c 187 zf69 (S112 v x k) (Post c [] (.p (.int .i64 (q:Int)))):=by
      intro m
      induction m with
      | zero =>
        intro k hk
        obtain rfl:k=q:=by omega
        have hd:decide ((k:Int)<(v.1:Int))=true:=by simp;omega
        have he:(x==v.2 k)=true:=by rw [beq_iff_eq] at hq2 ⊢;exact hq2.symm
        refine pkZ Tryz.func187 hc (p112c v x k) ?_
        and_intros
        all_goals (first | exact zN | (exact he))
      | succ m ih =>
        intro k hk
        have hd:decide ((k:Int)<(v.1:Int))=true:=by simp;omega
        have he:(x==v.2 k)=false:=by
          cases h:(v.2 k==x) with
          | true=>rw [hasI_hit v.2 x k h q (by omega)] at hq1;cases hq1
          | false =>
            simp only [beq_eq_false_iff_ne,ne_eq] at h ⊢
            exact fun e=>h e.symm
        refine pcZ hc (p112b v x k) ?_ (ih (k+1) (by omega))
        and_intros
        all_goals (first | exact zN | (exact he))
    refine pcZ hc (p112a v x) ?_ (lp q 0 (by omega))
    and_intros
    all_goals (first | exact zN)
  · refine ⟨-1,by rw [hno];rfl,?_⟩
    refine csZ Tryz.func187 (fun c hc=>?_)
    have lp:∀ m k,k+m=v.1→zR c 187 zf69 (S112 v x k) (Post c [] (.p (.int .i64 (-1)))):=by
      intro m
      induction m with
      | zero =>
        intro k hk
        have hd:decide ((k:Int)<(v.1:Int))=false:=by simp;omega
        refine pkZ Tryz.func187 hc (p112d v x k) ?_
        and_intros
        all_goals (first | exact zN)
      | succ m ih =>
        intro k hk
        have hd:decide ((k:Int)<(v.1:Int))=true:=by simp;omega
        have he:(x==v.2 k)=false:=by
          cases h:(v.2 k==x) with
          | true=>rw [hasI_hit v.2 x k h v.1 (by omega)] at hno;cases hno
          | false =>
            simp only [beq_eq_false_iff_ne,ne_eq] at h ⊢
            exact fun e=>h e.symm
        refine pcZ hc (p112b v x k) ?_ (ih (k+1) (by omega))
        and_intros
        all_goals (first | exact zN | (exact he))
    refine pcZ hc (p112a v x) ?_ (lp v.1 0 (by omega))
    and_intros
    all_goals (first | exact zN)
theorem con_Contains (v:T_IntS) (x:Int) (hn:v.1≤1048576):zE 144 [inL v,.p (.int .i64 x)] [] (.p (.bool (hasI v.2 x v.1))):=by
  obtain ⟨r,hr,hcon⟩:=con_Index v x hn
  rw [← hr]
  refine csZ Tryz.func144 (fun c hc=>?_)
  refine pkZ Tryz.func144 hc (p90 v x r) ?_
  and_intros
  all_goals (first | exact zN | (exact hcon))
open Go Go.Sort
def brX (a b:Int):T_Bar:=(if b<a then b else a,if b>a then b else a,())
def zG2:Ob:=⟨true,2,1,fun _=>[.p (.int .i64 0),.p .nil]⟩
theorem dBar (a b:Int) :
    zS Tryz.f106 [rg 1,rg 8] [.p (.int .i64 a),.p (.int .i64 b)] [] [] (.agg [.p (.int .i64 (if b<a then b else a)),.p (.int .i64 (if b>a then b else a))]) =
    some [(NT 0 1),((true=true)→ (AN 1)),(NT 0 1),(((if false=true then if b>a then b else a else if b<a then b else a):Int)=(if b<a then b else a)),(((if true=true then if b>a then b else a else if b<a then b else a):Int)=(if b>a then b else a))]:=by kernel_rfl
theorem dHas (v:T_Graph) (p:Int) :
    zS Tryz.f148 [rg 2,rm [(4,oc [] (.p (.bool (inB p 0 (v.1 - 1)))))] 1] [graphA v,.p (.int .i64 p)] [] [] (.p (.bool (inB p 0 (v.1 - 1)))) =
    some [(NT 0 1),(ZLo (v.1 - 1)),(ZHi (v.1 - 1)),zE 90 [.p (.int .i64 p),.p (.int .i64 0),.p (.int .i64 (v.1 - 1))] [] (.p (.bool (inB p 0 (v.1 - 1)))),((inB p 0 (v.1 - 1))=(inB p 0 (v.1 - 1)))]:=by kernel_rfl
theorem con_barX (a b:Int):zE 106 [.p (.int .i64 a),.p (.int .i64 b)] [] (.agg [.p (.int .i64 (brX a b).1),.p (.int .i64 (brX a b).2.1)]):=by
  refine csZ Tryz.func106 (fun c hc=>?_)
  refine pkZ Tryz.func106 hc (dBar a b) ?_
  and_intros
  all_goals (first | exact zI | simp)
theorem con_hasX (v:T_Graph) (p:Int) (h1:1≤v.1) (h2:v.1≤8):zE 148 [graphA v,.p (.int .i64 p)] [] (.p (.bool (inB p 0 (v.1 - 1)))):=by
  refine csZ Tryz.func148 (fun c hc=>?_)
  refine pkZ Tryz.func148 hc (dHas v p) ?_
  and_intros
  all_goals (first | exact zN | (exact con_within _ _ _))
theorem graph_inR {v:T_Graph} (h:isGraphF v=true):1≤v.1∧v.1≤8∧v.2.1.1≤24∧goodB v.1 v.2.1.2 v.2.1.1=true:=by
  unfold isGraphF at h
  split at h
  · rename_i h1
    simp only [inB,Bool.and_eq_true,decide_eq_true_eq] at h1
    exact ⟨h1.1.1,h1.1.2,h1.2,h⟩
  · cases h
theorem goodB_at {N:Int} {g:Nat→T_Bar}:∀ {n:Nat},goodB N g n=true→∀ k,k<n→0≤(g k).1∧(g k).1<(g k).2.1∧(g k).2.1<N∧(0<k→leB (g (k - 1)) (g k))
  | 0,_,k,hk=>absurd hk (Nat.not_lt_zero _)
  | n+1,h,k,hk=>by
    simp only [goodB,Bool.and_eq_true,Bool.not_eq_true'] at h
    by_cases e:k=n
    · subst e
      have h2:=h.2
      unfold badB at h2
      by_cases c1:(g k).1<0
      · simp [c1] at h2
      by_cases c2:(g k).1≥(g k).2.1
      · simp [c1,c2] at h2
      by_cases c3:(g k).2.1≥N
      · simp [c1,c2,c3] at h2
      refine ⟨by omega,by omega,by omega,fun h0=>?_⟩
      simp only [c1,c2,c3,decide_false,cond_false] at h2
      rw [decide_eq_true (show (k:Int)>0 by omega)] at h2
      simp only [cond_true,Bool.not_eq_false'] at h2
      rw [← aft_iff]
      rw [show ((k:Int) - 1).toNat=k - 1 by omega] at h2
      exact h2
    · exact goodB_at h.1 k (by omega)
theorem goodB_sorted {N:Int} {g:Nat→T_Bar} {n:Nat} (h:goodB N g n=true):(lstB n g).Pairwise leB:=by
  have step:=goodB_at h
  have htr:∀ {a b c:T_Bar},leB a b→leB b c→leB a c:=by
    intro a b c h1 h2
    have h1:=(leB_iff a b).1 h1
    have h2:=(leB_iff b c).1 h2
    exact (leB_iff a c).2 (by omega)
  have mono:∀ d i,i+d<n→leB (g i) (g (i+d)):=by
    intro d
    induction d with
    | zero=>intro i hi;show leB (g i) (g i);exact (leB_iff _ _).2 (by omega)
    | succ d ih=>intro i hi;exact htr (ih i (by omega)) ((step (i+(d+1)) hi).2.2.2 (by omega))
  rw [List.pairwise_iff_getElem]
  intro i j hi hj hij
  rw [lstB_len] at hi hj
  have:=mono (j - i) i (by omega)
  rw [show i+(j - i)=j by omega] at this
  simpa [lstB] using this
theorem sm_graph {v:T_Graph} (h:v.2.1.1≤1048576):smS s_Graph v:=⟨by simp [smS,smL],⟨h,fun i hi=>by simp [smS,smL]⟩,True.intro⟩
def snocI (n:Nat) (f:Nat→Int) (p:Int) (s:Nat):Int:=if s<n then f s else p
theorem rRank (g:Nat→T_Bar) (nb N m:Nat) (F T Q:Nat→Int) :
    zS Tryz.f188 [rg 1,rm [(2,oc (pebR N m F T Q) (pebO N m 0))] 3] [.p (.int .i64 N),brL g nb] [] [] (.p (.int .i64 m)) =
    some [zE 178 [.p (.int .i64 (↑N:Int)),.p (.seq true 2 nb (bRw g)),.p (.int .i64 2),.p (.int .i64 3)] (zf30 N F m T Q) (.agg [.ar 1 0 0 N,.ar 1 1 0 m,.ar 1 2 0 m]),(AI ((↑m:Int)))]:=by kernel_rfl
def bL (g:Nat→T_Bar):Nat→List (Nat×Nat)
  | 0=>[]
  | n+1=>bL g n++[brN (g n)]
theorem bL_mem (g:Nat→T_Bar) (y:Nat×Nat):∀ n,y∈bL g n↔∃ s,s<n∧brN (g s)=y
  | 0=>by
    constructor
    · intro h;cases h
    · rintro ⟨s,h,_⟩;exact absurd h (Nat.not_lt_zero _)
  | n+1=>by
    simp only [bL,List.mem_append,List.mem_singleton,bL_mem g y n]
    constructor
    · rintro (⟨s,h1,h2⟩ | h)
      · exact ⟨s,by omega,h2⟩
      · exact ⟨n,by omega,h.symm⟩
    · rintro ⟨s,h1,h2⟩
      by_cases e:s=n
      · right;rw [← e];exact h2.symm
      · exact .inl ⟨s,by omega,h2⟩
theorem acc_greedy (N k l:Nat) (g:Nat→T_Bar):∀ n,(accI N k l g n).map (fun i=>brN (g i))=Mat.greedy N k l [] (bL g n)
  | 0=>rfl
  | n+1=>by
    have ih:=acc_greedy N k l g n
    simp only [accI,bL,Mat.greedy_append,Mat.greedy]
    rw [← ih]
    split
    · rw [List.map_append];rfl
    · rfl
theorem acc_len (N k l:Nat) (g:Nat→T_Bar) (n:Nat):(accI N k l g n).length=(Mat.greedy N k l [] (bL g n)).length:=by
  rw [← acc_greedy,List.length_map]
def OkBars (N nb:Nat) (g:Nat→T_Bar):Prop:=∀ e,e<nb→0≤(g e).1∧(g e).1<(g e).2.1∧(g e).2.1<N
theorem bL_good {N nb:Nat} {g:Nat→T_Bar} (h:OkBars N nb g):∀ x∈bL g nb,Mat.GoodBar N x:=by
  intro x hx
  obtain ⟨s,h1,h2⟩:=(bL_mem g x nb).1 hx
  have:=h s h1
  rw [← h2]
  simp only [Mat.GoodBar,brN]
  omega
theorem con_planeRank {N nb:Nat} {g:Nat→T_Bar} (hb:OkBars N nb g) (hN:N≤1048576) (hnb:nb≤1048576):zE 188 [.p (.int .i64 N),brL g nb] [] (.p (.int .i64 ((accI N 2 3 g nb).length:Nat))):=by
  obtain ⟨m,F,T,Q,hc1,hp,hq⟩:=con_play (N:=N) (k:=2) (l:=3) hb (by omega) (by omega) hN hnb
  rw [← hq,qL_length]
  refine csZ Tryz.func188 (fun c hc=>?_)
  refine pkZ Tryz.func188 hc (rRank g nb N m F T Q) ?_
  and_intros
  all_goals (first | exact zN | (exact hc1) | (intro i hi;simp [All]))
theorem brX_ok {N:Nat} {a b:Int} (ha:0≤a∧a<N) (hb:0≤b∧b<N) (hab:a≠b):0≤(brX a b).1∧(brX a b).1<(brX a b).2.1∧(brX a b).2.1<N:=by
  simp only [brX]
  by_cases h:b<a
  · rw [if_pos h,if_neg (by omega)];omega
  · rw [if_neg h,if_pos (by omega)];omega
theorem bCs (v:T_Graph) :
    zS Tryz.f85 [rg 2,rg 8] [graphA v] [224] [(0,brOb v.2.1.1 v.2.1.2)] (.agg [.p (.int .i64 v.1),.ar 2 0 0 v.2.1.1]) =
    some [(NT 0 1),(NT 0 1),(NL 0 0),(NL ((0+v.2.1.1)*16) 140737488355328),(NL (0+v.2.1.1) 9223372036854775807),(NT 0 1),((true=true)→ (AN 1)),(NT 0 1),(AI v.1),(AN 0),(((0+v.2.1.1):Nat)=v.2.1.1),(AN 2),(NL v.2.1.1 (0+v.2.1.1)),(AA v.2.1.1 (fun i=>[.p (.int .i64 ((v.2.1.2 i).1)),.p (.int .i64 ((v.2.1.2 i).2.1))])),(AE v.2.1.1)]:=by kernel_rfl
theorem bSf (v:T_Graph) (a b:Int) (b1:Bool) :
    zS Tryz.f86 [rg 3,rm [(1,oc [] (.p (.bool b1)))] 32,.dec true,rm [(1,oc [(0,brOb v.2.1.1 v.2.1.2)] (.agg [.p (.int .i64 v.1),.ar 2 0 0 v.2.1.1]))] 2] [graphA v,.p (.int .i64 a),.p (.int .i64 b)] [1216] [(0,brOb v.2.1.1 v.2.1.2)] (.tup [.agg [.p (.int .i64 v.1),.ar 2 0 0 v.2.1.1],.p (.bool false)]) =
    some (zD [(NT 0 1),zE 134 [(zf80 v)] [] (.p (.bool b1)),(AG (!!b1)),(((!b1)=false)→ ((!!b1)=true)),(AG (!bif !b1 then true else decide (a<0))),(((bif !b1 then true else decide (a<0))=false)→ ((!bif !b1 then true else decide (a<0))=true)),(AG (!bif bif !b1 then true else decide (a<0) then true else decide (b<0))),(((!bif bif !b1 then true else decide (a<0) then true else decide (b<0))=true)→(NT 0 1)),(((bif bif !b1 then true else decide (a<0) then true else decide (b<0))=false)→ ((!bif bif !b1 then true else decide (a<0) then true else decide (b<0))=true)),(AG (!bif bif bif !b1 then true else decide (a<0) then true else decide (b<0) then true else decide (a≥v.1))),(((!bif bif bif !b1 then true else decide (a<0) then true else decide (b<0) then true else decide (a≥v.1))=true)→(NT 0 1)),(((bif bif bif !b1 then true else decide (a<0) then true else decide (b<0) then true else decide (a≥v.1))=false)→ ((!bif bif bif !b1 then true else decide (a<0) then true else decide (b<0) then true else decide (a≥v.1))=true)),(AG (!bif bif bif bif !b1 then true else decide (a<0) then true else decide (b<0) then true else decide (a≥v.1) then true else decide (b≥v.1))),(((bif bif bif bif !b1 then true else decide (a<0) then true else decide (b<0) then true else decide (a≥v.1) then true else decide (b≥v.1))=false)→ ((!bif bif bif bif !b1 then true else decide (a<0) then true else decide (b<0) then true else decide (a≥v.1) then true else decide (b≥v.1))=true)),(AG (!bif bif bif bif bif !b1 then true else decide (a<0) then true else decide (b<0) then true else decide (a≥v.1) then true else decide (b≥v.1) then true else a==b)),(((!bif bif bif bif bif !b1 then true else decide (a<0) then true else decide (b<0) then true else decide (a≥v.1) then true else decide (b≥v.1) then true else a==b)=true)→(NT 0 1)),(((bif bif bif bif bif !b1 then true else decide (a<0) then true else decide (b<0) then true else decide (a≥v.1) then true else decide (b≥v.1) then true else a==b)=false)→ ((!bif bif bif bif bif !b1 then true else decide (a<0) then true else decide (b<0) then true else decide (a≥v.1) then true else decide (b≥v.1) then true else a==b)=true)),((bif bif bif bif bif bif !b1 then true else decide (a<0) then true else decide (b<0) then true else decide (a≥v.1) then true else decide (b≥v.1) then true else a==b then true else decide ((↑v.2.1.1:Int)≥24))=true),zE 85 [(zf80 v)] (zf83 v) (.agg [.p (.int .i64 v.1),.ar 2 0 0 v.2.1.1]),((true=true)→ (AN 1)),(AI v.1),(AN 0),(AN v.2.1.1),(false=false),(AN 2),(NL v.2.1.1 v.2.1.1),(AA v.2.1.1 (fun i=>[.p (.int .i64 ((v.2.1.2 i).1)),.p (.int .i64 ((v.2.1.2 i).2.1))])),(AE v.2.1.1)] [0,1,2,3,4,5,6,7,6,6,8,9,10,9,9,11,12,12,13,14,15,14,14,16,17,0,18,0,19,0,20,21,22,23,24,25,26,27]):=by kernel_rfl
theorem bSt (v:T_Graph) (a b:Int) (b1:Bool) (m:Nat) (r r':Nat→T_Bar) :
    zS Tryz.f86 [rg 3,rm [(1,oc [] (.p (.bool b1)))] 32,.dec false,rm [(8,oc [(0,brOb m r)] (.agg [.p (.int .i64 v.1),.ar 2 0 0 m]))] 2] [graphA v,.p (.int .i64 a),.p (.int .i64 b)] [1440] [(0,brOb m r')] (.tup [.agg [.p (.int .i64 v.1),.ar 2 0 0 m],.p (.bool true)]) =
    some (zD [(NT 0 1),zE 134 [(zf80 v)] [] (.p (.bool b1)),(AG (!!b1)),(((!b1)=false)→ ((!!b1)=true)),(AG (!bif !b1 then true else decide (a<0))),(((bif !b1 then true else decide (a<0))=false)→ ((!bif !b1 then true else decide (a<0))=true)),(AG (!bif bif !b1 then true else decide (a<0) then true else decide (b<0))),(((!bif bif !b1 then true else decide (a<0) then true else decide (b<0))=true)→(NT 0 1)),(((bif bif !b1 then true else decide (a<0) then true else decide (b<0))=false)→ ((!bif bif !b1 then true else decide (a<0) then true else decide (b<0))=true)),(AG (!bif bif bif !b1 then true else decide (a<0) then true else decide (b<0) then true else decide (a≥v.1))),(((!bif bif bif !b1 then true else decide (a<0) then true else decide (b<0) then true else decide (a≥v.1))=true)→(NT 0 1)),(((bif bif bif !b1 then true else decide (a<0) then true else decide (b<0) then true else decide (a≥v.1))=false)→ ((!bif bif bif !b1 then true else decide (a<0) then true else decide (b<0) then true else decide (a≥v.1))=true)),(AG (!bif bif bif bif !b1 then true else decide (a<0) then true else decide (b<0) then true else decide (a≥v.1) then true else decide (b≥v.1))),(((bif bif bif bif !b1 then true else decide (a<0) then true else decide (b<0) then true else decide (a≥v.1) then true else decide (b≥v.1))=false)→ ((!bif bif bif bif !b1 then true else decide (a<0) then true else decide (b<0) then true else decide (a≥v.1) then true else decide (b≥v.1))=true)),(AG (!bif bif bif bif bif !b1 then true else decide (a<0) then true else decide (b<0) then true else decide (a≥v.1) then true else decide (b≥v.1) then true else a==b)),(((!bif bif bif bif bif !b1 then true else decide (a<0) then true else decide (b<0) then true else decide (a≥v.1) then true else decide (b≥v.1) then true else a==b)=true)→(NT 0 1)),(((bif bif bif bif bif !b1 then true else decide (a<0) then true else decide (b<0) then true else decide (a≥v.1) then true else decide (b≥v.1) then true else a==b)=false)→ ((!bif bif bif bif bif !b1 then true else decide (a<0) then true else decide (b<0) then true else decide (a≥v.1) then true else decide (b≥v.1) then true else a==b)=true)),((bif bif bif bif bif bif !b1 then true else decide (a<0) then true else decide (b<0) then true else decide (a≥v.1) then true else decide (b≥v.1) then true else a==b then true else decide ((↑v.2.1.1:Int)≥24))=false),zE 136 [(zf80 v),.agg [.p (.int .i64 (if false=true then if b>a then b else a else if b<a then b else a)),.p (.int .i64 (if true=true then if b>a then b else a else if b<a then b else a))]] (zf89 m r) (.agg [.p (.int .i64 v.1),.ar 2 0 0 m]),((true=true)→ (AN 1)),(AI v.1),(AN 0),(AN m),(true=true),(AN 2),(NL m m),(∀ i:Nat,(((i:Nat)<m)→(All []∧(([.p (.int .i64 ((r i).1)),.p (.int .i64 ((r i).2.1))]:List AV)=[.p (.int .i64 ((r' i).1)),.p (.int .i64 ((r' i).2.1))])))),(AE m)] [0,1,2,3,4,5,6,7,6,6,8,9,10,9,9,11,12,12,13,14,15,14,14,16,17,0,18,0,19,0,20,21,22,23,24,25,26,27]):=by kernel_rfl
theorem con_l2Copy (v:T_Graph) (hn:v.2.1.1≤1048576):zE 85 [graphA v] [(0,brOb v.2.1.1 v.2.1.2)] (.agg [.p (.int .i64 v.1),.ar 2 0 0 v.2.1.1]):=by
  refine csZ Tryz.func85 (fun c hc=>?_)
  refine pkZ Tryz.func85 hc (bCs v) ?_
  and_intros
  all_goals (first | exact zI | (intro j hj;simp [All];done) | (simp;try omega))
def abB (v:T_Graph) (a b:Int):Bool:=isGraphF v&&(inB a 0 (v.1 - 1)&&(inB b 0 (v.1 - 1)&&(!(a==b)&&!((v.2.1.1:Int)==24))))
def abG (v:T_Graph) (a b:Int):T_Graph:=if abB v a b=true then (v.1,(v.2.1.1+1,srtB (v.2.1.1+1) (snoc v.2.1.1 v.2.1.2 (brX a b))),()) else v
theorem abB_in {v:T_Graph} {a b:Int} (h:abB v a b=true):isGraphF v=true∧(0≤a∧a<v.1)∧(0≤b∧b<v.1)∧a≠b∧v.2.1.1<24:=by
  simp only [abB,inB,Bool.and_eq_true,decide_eq_true_eq,Bool.not_eq_true',beq_eq_false_iff_ne,ne_eq] at h
  obtain ⟨hg,⟨h1,h2⟩,⟨h3,h4⟩,h5,h6⟩:=h
  have:=graph_inR hg
  exact ⟨hg,⟨h1,by omega⟩,⟨h3,by omega⟩,h5,by omega⟩
theorem abG_n (v:T_Graph) (a b:Int):(abG v a b).2.1.1≤v.2.1.1∨(abG v a b).2.1.1≤24:=by
  unfold abG
  split
  · rename_i h
    have:=abB_in h
    right;show v.2.1.1+1≤24;omega
  · left;exact Nat.le_refl _
theorem con_AddBar_s (v:T_Graph) (hs:smS s_Graph v) (a b:Int) :
    zE 86 [graphA v,.p (.int .i64 a),.p (.int .i64 b)] [(0,brOb (abG v a b).2.1.1 (abG v a b).2.1.2)] (.tup [.agg [.p (.int .i64 (abG v a b).1),.ar 2 0 0 (abG v a b).2.1.1],.p (.bool (abB v a b))]):=by
  have hn:v.2.1.1≤1048576:=hs.2.1.1
  have cc:=con_l2Copy v hn
  have c1:=con_IsGraph_s v hs
  have hcd:(bif bif bif bif bif bif !isGraphF v then true else decide (a<0) then true else decide (b<0) then true else decide (a≥v.1) then true else decide (b≥v.1) then true else a==b then true else decide ((v.2.1.1:Int)≥24))=!abB v a b:=by
    unfold abB inB
    cases hg:isGraphF v with
    | false=>rfl
    | true =>
      have:=graph_inR hg
      have e1:decide (a≥v.1)=!decide (a≤v.1 - 1):=by
        by_cases h:a≥v.1
        · have:¬ a≤v.1 - 1:=by omega
          simp [h,this]
        · have:a≤v.1 - 1:=by omega
          simp [h,this]
      have e2:decide (b≥v.1)=!decide (b≤v.1 - 1):=by
        by_cases h:b≥v.1
        · have:¬ b≤v.1 - 1:=by omega
          simp [h,this]
        · have:b≤v.1 - 1:=by omega
          simp [h,this]
      have e3:decide (a<0)=!decide (0≤a):=by
        by_cases h:a<0
        · have:¬ 0≤a:=by omega
          simp [h,this]
        · have:0≤a:=by omega
          simp [h,this]
      have e4:decide (b<0)=!decide (0≤b):=by
        by_cases h:b<0
        · have:¬ 0≤b:=by omega
          simp [h,this]
        · have:0≤b:=by omega
          simp [h,this]
      have e5:decide ((v.2.1.1:Int)≥24)=((v.2.1.1:Int)==24):=by
        by_cases h:v.2.1.1=24
        · rw [h];rfl
        · have h1:¬ (v.2.1.1:Int)≥24:=by omega
          have h2:¬ (v.2.1.1:Int)=24:=by omega
          simp only [h1,decide_false]
          exact (beq_eq_false_iff_ne.2 h2).symm
      rw [e1,e2,e3,e4,e5]
      cases decide (0≤a)<;>cases decide (0≤b)<;>cases decide (a≤v.1 - 1)<;>cases decide (b≤v.1 - 1)<;>cases (a==b)<;>cases ((v.2.1.1:Int)==24)<;>rfl
  refine csZ Tryz.func86 (fun c hc=>?_)
  cases hb:abB v a b with
  | false =>
    rw [hb] at hcd
    have hcd':(bif bif bif bif bif bif !isGraphF v then true else decide (a<0) then true else decide (b<0) then true else decide (a≥v.1) then true else decide (b≥v.1) then true else a==b then true else decide ((v.2.1.1:Int)≥24))=true:=hcd
    rw [show abG v a b=v by simp [abG,hb]]
    refine pkD Tryz.func86 hc (bSf v a b (isGraphF v)) ?_
    and_intros
    all_goals (first | exact zH | (exact cc) | (exact c1) | (exact hcd') | (intro j hj;simp [All]))
  | true =>
    rw [hb] at hcd
    have hcd':(bif bif bif bif bif bif !isGraphF v then true else decide (a<0) then true else decide (b<0) then true else decide (a≥v.1) then true else decide (b≥v.1) then true else a==b then true else decide ((v.2.1.1:Int)≥24))=false:=hcd
    have hin:=abB_in hb
    have hgr:=graph_inR hin.1
    rw [show abG v a b=(v.1,(v.2.1.1+1,srtB (v.2.1.1+1) (snoc v.2.1.1 v.2.1.2 (brX a b))),()) by simp [abG,hb]]
    have cp:=con_l2Put v.2.1.2 v.2.1.1 v.1.toNat (brX a b) hn
    have hN:((v.1.toNat:Nat):Int)=v.1:=by omega
    rw [grG,hN] at cp
    have hl:=insR_list v.2.1.2 v.2.1.1 (brX a b) (goodB_sorted hgr.2.2.2)
    have hn':=insR_n v.2.1.2 v.2.1.1 (brX a b)
    rw [hn'] at cp hl
    rw [← lstB_snoc,← lstB_srt] at hl
    have hrow:=lstB_inj hl
    generalize srtB (v.2.1.1+1) (snoc v.2.1.1 v.2.1.2 (brX a b))=r at hrow ⊢
    generalize (insR v.2.1.2 v.2.1.1 (brX a b)).2=r0 at cp hrow
    refine pkD Tryz.func86 hc (bSt v a b (isGraphF v) (v.2.1.1+1) r0 r) ?_
    and_intros
    iterate 2 all_goals (first | exact zH | (exact c1) | (exact cp) | (exact hcd') | (intro j hj;simp [All];done) | (intro j hj;rw [hrow j hj];simp [cvtL,cvt,tg,tru,All]) | simp only [All])
def grR (N:Int) (k j:Nat):AV:=.agg [.p (.int .i64 N),.ar 2 j 0 k]
def dlX (h:Nat→T_Bar) (e i:Nat):T_Bar:=if i<e then h i else h (i+1)
theorem rmT (v:T_Graph) (e:Nat) :
    zS Tryz.f161 [rg 3,rm [(1,oc [] (.p (.bool true)))] 12,.dec false,rg 17] [graphA v,.p (.int .i64 e)] [960] [(0,brOb (v.2.1.1 - 1) (dlX v.2.1.2 e))] (.tup [grR v.1 (v.2.1.1 - 1) 0,.p (.bool true)]) =
    some (zD [(NT 0 1),zE 134 [(zf80 v)] [] (.p (.bool true)),(AG (!!true)),(((!true)=false)→ ((!!true)=true)),(AG (!bif !true then true else decide ((↑e:Int)<0))),(((!bif !true then true else decide ((↑e:Int)<0))=true)→(NT 0 1)),(((bif !true then true else decide ((↑e:Int)<0))=false)→ ((!bif !true then true else decide ((↑e:Int)<0))=true)),((bif bif !true then true else decide ((↑e:Int)<0) then true else decide ((↑e:Int)≥(↑v.2.1.1:Int)))=false),(IL 0 0),(IL 0 (↑e:Int)),(IL (↑e:Int) (↑v.2.1.1:Int)),(NL 0 0),(NL ((0+e)*16) 140737488355328),(NL (0+e) 9223372036854775807),(ZLo ((↑e:Int)+1)),(ZHi ((↑e:Int)+1)),(IL 0 ((↑e:Int)+1)),(IL ((↑e:Int)+1) (↑v.2.1.1:Int)),(IL (↑v.2.1.1:Int) (↑v.2.1.1:Int)),(NL (0+e) (0+e)),(NL ((0+e+(v.2.1.1 - (e+1)))*16) 140737488355328),(NL (0+e+(v.2.1.1 - (e+1))) 9223372036854775807),((true=true)→ (AN 1)),(AI v.1),(AN 0),(((0+e+(v.2.1.1 - (e+1))):Nat)=(v.2.1.1 - 1)),(true=true),(AN 2),(NL (v.2.1.1 - 1) (0+e+(v.2.1.1 - (e+1)))),(∀ i:Nat,(((i:Nat)<(v.2.1.1 - 1))→(All (cvtL false [(32,⟨true,2,1,(fun i_1=>[.p (.int .i64 v.1),.ar 2 960 0 (0+e+(v.2.1.1 - (e+1)))])⟩),(960,⟨false,2,(0+e+(v.2.1.1 - (e+1))),(fun i_1=>(if (i_1<0+e) then [.p (.int .i64 ((v.2.1.2 i_1).1)),.p (.int .i64 ((v.2.1.2 i_1).2.1))] else [.p (.int .i64 ((v.2.1.2 (i_1 - (0+e)+(e+1))).1)),.p (.int .i64 ((v.2.1.2 (i_1 - (0+e)+(e+1))).2.1))]))⟩),(0,⟨true,2,1,(fun i_1=>[.p (.int .i64 v.1),.p (.seq true 2 v.2.1.1 (bRw v.2.1.2))])⟩)] [960] 1 (if (i<0+e) then [.p (.int .i64 ((v.2.1.2 i).1)),.p (.int .i64 ((v.2.1.2 i).2.1))] else [.p (.int .i64 ((v.2.1.2 (i - (0+e)+(e+1))).1)),.p (.int .i64 ((v.2.1.2 (i - (0+e)+(e+1))).2.1))])).2∧(((cvtL false [(32,⟨true,2,1,(fun i_1=>[.p (.int .i64 v.1),.ar 2 960 0 (0+e+(v.2.1.1 - (e+1)))])⟩),(960,⟨false,2,(0+e+(v.2.1.1 - (e+1))),(fun i_1=>(if (i_1<0+e) then [.p (.int .i64 ((v.2.1.2 i_1).1)),.p (.int .i64 ((v.2.1.2 i_1).2.1))] else [.p (.int .i64 ((v.2.1.2 (i_1 - (0+e)+(e+1))).1)),.p (.int .i64 ((v.2.1.2 (i_1 - (0+e)+(e+1))).2.1))]))⟩),(0,⟨true,2,1,(fun i_1=>[.p (.int .i64 v.1),.p (.seq true 2 v.2.1.1 (bRw v.2.1.2))])⟩)] [960] 1 (if (i<0+e) then [.p (.int .i64 ((v.2.1.2 i).1)),.p (.int .i64 ((v.2.1.2 i).2.1))] else [.p (.int .i64 ((v.2.1.2 (i - (0+e)+(e+1))).1)),.p (.int .i64 ((v.2.1.2 (i - (0+e)+(e+1))).2.1))])).1:List AV)=[.p (.int .i64 ((dlX v.2.1.2 e i).1)),.p (.int .i64 ((dlX v.2.1.2 e i).2.1))])))),(AE ((v.2.1.1 - 1)))] [0,1,2,3,4,5,4,4,4,6,7,0,0,8,9,10,11,12,13,0,14,15,16,17,18,19,20,21,0,22,0,23,24,25,26,27,28,29,30]):=by kernel_rfl
theorem rmF (v:T_Graph) (e:Int) (b:Bool) :
    zS Tryz.f161 [rg 3,rm [(1,oc [] (.p (.bool b)))] 12,.dec true,rm [(1,oc [(0,brOb v.2.1.1 v.2.1.2)] (grR v.1 v.2.1.1 0))] 2] [graphA v,.p (.int .i64 e)] [576] [(0,brOb v.2.1.1 v.2.1.2)] (.tup [grR v.1 v.2.1.1 0,.p (.bool false)]) =
    some (zD [(NT 0 1),zE 134 [(zf80 v)] [] (.p (.bool b)),(AG (!!b)),(((!b)=false)→ ((!!b)=true)),(AG (!bif !b then true else decide (e<0))),(((!bif !b then true else decide (e<0))=true)→(NT 0 1)),(((bif !b then true else decide (e<0))=false)→ ((!bif !b then true else decide (e<0))=true)),((bif bif !b then true else decide (e<0) then true else decide (e≥(↑v.2.1.1:Int)))=true),zE 85 [(zf80 v)] (zf83 v) (.agg [.p (.int .i64 v.1),.ar 2 0 0 v.2.1.1]),((true=true)→ (AN 1)),(AI v.1),(AN 0),(AN v.2.1.1),(false=false),(AN 2),(NL v.2.1.1 v.2.1.1),(AA v.2.1.1 (fun i=>[.p (.int .i64 ((v.2.1.2 i).1)),.p (.int .i64 ((v.2.1.2 i).2.1))])),(AE v.2.1.1)] [0,1,2,3,4,5,4,4,4,6,7,0,8,0,9,0,10,11,12,13,14,15,16,17]):=by kernel_rfl
theorem dl_row (h:Nat→T_Bar) (e t:Nat):(if t<0+e then [AV.p (.int .i64 (h t).1),.p (.int .i64 (h t).2.1)] else [.p (.int .i64 (h (t - (0+e)+(e+1))).1),.p (.int .i64 (h (t - (0+e)+(e+1))).2.1)])=[.p (.int .i64 (dlX h e t).1),.p (.int .i64 (dlX h e t).2.1)]:=by
  by_cases h1:t<e
  · rw [if_pos (show t<0+e by omega)];simp [dlX,h1]
  · rw [if_neg (show ¬ t<0+e by omega),show t - (0+e)+(e+1)=t+1 by omega];simp [dlX,h1]
theorem con_RmvM (v:T_Graph) (hn:v.2.1.1≤1048576) (e:Int):∃ (m:Nat) (h:Nat→T_Bar) (ok:Bool),m≤v.2.1.1∧v.2.1.1≤m+1∧(∀ i,i<m→∃ j,j<v.2.1.1∧h i=v.2.1.2 j) ∧
    zE 161 [graphA v,.p (.int .i64 e)] [(0,brOb m h)] (.tup [grR v.1 m 0,.p (.bool ok)]):=by
  have c1:=con_IsGraph_s v (sm_graph hn)
  have c2:=con_l2Copy v hn
  by_cases hv:isGraphF v=true∧0≤e∧e<v.2.1.1
  · obtain ⟨hg,h0,h1⟩:=hv
    obtain ⟨e,rfl⟩:∃ t:Nat,e=(t:Int):=⟨e.toNat,by omega⟩
    have he:e<v.2.1.1:=by omega
    rw [hg] at c1
    have hd:(bif bif !true then true else decide ((e:Int)<0) then true else decide ((e:Int)≥(v.2.1.1:Int)))=false:=by
      rw [decide_eq_false (show ¬ ((e:Int)<0) by omega),decide_eq_false (show ¬ ((e:Int)≥(v.2.1.1:Int)) by omega)];rfl
    refine ⟨v.2.1.1 - 1,dlX v.2.1.2 e,true,by omega,by omega,fun i hi=>?_,?_⟩
    · unfold dlX
      split
      · exact ⟨i,by omega,rfl⟩
      · exact ⟨i+1,by omega,rfl⟩
    refine csZ Tryz.func161 (fun c hc=>?_)
    refine pkD Tryz.func161 hc (rmT v e) ?_
    and_intros
    all_goals (first | exact zH | (exact c1) | (exact hd) | (intro t ht;rw [dl_row];simp [cvtL,cvt,tg,tru,All];done) | (simp;done) | (simp;omega))
  · have hd:(bif bif !isGraphF v then true else decide (e<0) then true else decide (e≥(v.2.1.1:Int)))=true:=by
      cases hg:isGraphF v with
      | false=>rfl
      | true =>
        by_cases h1:e<0
        · rw [decide_eq_true h1];rfl
        · by_cases h2:e<v.2.1.1
          · exact absurd ⟨hg,by omega,h2⟩ hv
          · rw [decide_eq_true (show e≥(v.2.1.1:Int) by omega)];cases decide (e<0)<;>rfl
    refine ⟨v.2.1.1,v.2.1.2,false,Nat.le_refl _,by omega,fun i hi=>⟨i,hi,rfl⟩,?_⟩
    refine csZ Tryz.func161 (fun c hc=>?_)
    refine pkD Tryz.func161 hc (rmF v e (isGraphF v)) ?_
    and_intros
    all_goals (first | exact zH | (exact c1) | (exact c2) | (exact hd) | (intros;simp [All];done) | (simp;done) | (simp;omega))
theorem con_Rmv (v:T_Graph) (hn:v.2.1.1≤1048576) (e:Int):∃ (m:Nat) (h:Nat→T_Bar) (ok:Bool),m≤v.2.1.1∧v.2.1.1≤m+1 ∧
    zE 161 [graphA v,.p (.int .i64 e)] [(0,brOb m h)] (.tup [grR v.1 m 0,.p (.bool ok)]):=by
  obtain ⟨m,h,ok,h1,h2,_,h3⟩:=con_RmvM v hn e
  exact ⟨m,h,ok,h1,h2,h3⟩
def btI (w i:Int):Bool:=bitI .and .i64 (shrI .i64 w i) 1==1
def GSl (w M i c:Nat) (f:Nat→Int):St:=⟨[.p (.int .i64 M),.p (.int .i64 w),.p .any,.p .any,.p .any,.ar 1 0 0 c,.p (.int .i64 i)]++List.replicate 16 anyA,[(0,iOb c f)],1⟩
theorem gLz (w M:Nat) :
    zT Tryz.f214 [rg 1,rg 2,rg 1,.head] [.p (.int .i64 M),.p (.int .i64 w)] [32] (GSl w M 0 0 (fun _=>0)) =
    some (zf49,[(AI ((↑M:Int))),(AI ((↑w:Int))),(AN 0),(AN 0),((0:Int)=(↑0:Int)),(AN 1),(NL 0 0),(AA 0 (fun i=>[.p (.int .i64 0)]))]):=by kernel_rfl
theorem gLt (w M i c:Nat) (f:Nat→Int) :
    zM 0 [rg 3,.dec true,rg 5,.dec true,rg 5,rg 3,.head] zf49 (GSl w M i c f) [353] 1 (GSl w M (i+1) (c+1) (fun s=>if s<c then f s else i)) =
    some (zf49,[((decide ((↑i:Int)<(↑M:Int)))=true),(IL 0 (↑i:Int)),((bitI BinOp.and IntKind.i64 (shrI IntKind.i64 (↑w:Int) (↑i:Int)) 1==1)=true),(NL 1 1),(NL c c),(NL ((c+1)*8) 140737488355328),(NL (c+1) 9223372036854775807),(ZLo ((↑i:Int)+1)),(ZHi ((↑i:Int)+1)),(AI ((↑M:Int))),(AI ((↑w:Int))),(AN 0),(AN ((c+1))),((((↑i:Int)+1):Int)=(↑(i+1):Int)),(AN 1),(NL (c+1) (c+1)),(CV [(353,⟨false,1,(c+1),(fun i_2=>(if (i_2<c) then [.p (.int .i64 (f i_2))] else [.p (.int .i64 (↑i:Int))]))⟩),(321,⟨false,1,1,(fun i_2=>[.p (.int .i64 (↑i:Int))])⟩)] [353] 1 (c+1) (fun i_1=>if (i_1<c) then [.p (.int .i64 (f i_1))] else [.p (.int .i64 (↑i:Int))]) (fun i_1=>[.p (.int .i64 (if i_1<c then f i_1 else (↑i:Int)))]))]):=by kernel_rfl
theorem gLf (w M i c:Nat) (f:Nat→Int) :
    zM 0 [rg 3,.dec true,rg 5,.dec false,rg 3,.head] zf49 (GSl w M i c f) [0] 1 (GSl w M (i+1) c f) =
    some (zf49,[((decide ((↑i:Int)<(↑M:Int)))=true),(IL 0 (↑i:Int)),((bitI BinOp.and IntKind.i64 (shrI IntKind.i64 (↑w:Int) (↑i:Int)) 1==1)=false),(ZLo ((↑i:Int)+1)),(ZHi ((↑i:Int)+1)),(AI ((↑M:Int))),(AI ((↑w:Int))),(AN 0),(AN c),((((↑i:Int)+1):Int)=(↑(i+1):Int)),(AN 1),(NL c c),(AA c (fun i_1=>[.p (.int .i64 (f i_1))]))]):=by kernel_rfl
theorem gLe (w M i c:Nat) (f:Nat→Int) :
    zP Tryz.f214 0 [rg 3,.dec false,rg 2] zf49 (GSl w M i c f) [0] 1 [(0,iOb c f)] (.ar 1 0 0 c) =
    some [((decide ((↑i:Int)<(↑M:Int)))=false),(AN 0),(AN c),(AN 1),(NL c c),(AA c (fun i_1=>[.p (.int .i64 (f i_1))])),(AE c)]:=by kernel_rfl
def stD (w:Nat):Nat→T_IntS
  | 0=>(0,fun _=>0)
  | i+1=>if btI w i=true then ((stD w i).1+1,fun s=>if s<(stD w i).1 then (stD w i).2 s else i) else stD w i
theorem stD_n (w:Nat):∀ i,(stD w i).1≤i
  | 0=>Nat.le_refl _
  | i+1=>by
    have:=stD_n w i
    simp only [stD]
    split
    · show (stD w i).1+1≤i+1;omega
    · omega
theorem con_l3Set (w M:Nat) (hM:M≤62):zE 214 [.p (.int .i64 M),.p (.int .i64 w)] [(0,iOb (stD w M).1 (stD w M).2)] (.ar 1 0 0 (stD w M).1):=by
  refine csZ Tryz.func214 (fun c hc=>?_)
  generalize hR:stD w M=R
  have lo:∀ d i,i+d=M→zR c 214 zf49 (GSl w M i (stD w i).1 (stD w i).2) (Post c [(0,iOb R.1 R.2)] (.ar 1 0 0 R.1)):=by
    intro d
    induction d with
    | zero =>
      intro i hi
      obtain rfl:i=M:=by omega
      have hd:decide ((i:Int)<(i:Int))=false:=by simp
      rw [hR]
      refine pkZ Tryz.func214 hc (gLe w i i R.1 R.2) ?_
      and_intros
      all_goals (first | exact zN | (exact hd) | (intro t ht;simp [All]))
    | succ d ih =>
      intro i hi
      have hd:decide ((i:Int)<(M:Int))=true:=decide_eq_true (by omega)
      have hrec:=ih (i+1) (by omega)
      have hn:=stD_n w i
      cases hb:btI w i with
      | true =>
        rw [show stD w (i+1)=((stD w i).1+1,fun s=>if s<(stD w i).1 then (stD w i).2 s else i) by simp [stD,hb]] at hrec
        generalize stD w i=q at hn hrec ⊢
        refine pcZ hc (gLt w M i q.1 q.2) ?_ hrec
        and_intros
        all_goals (first | exact zN | (exact hd) | (exact hb) | (intro t ht;by_cases h':t<q.1<;>simp [h',cvtL,cvt,tg,tru,All]))
      | false =>
        rw [show stD w (i+1)=stD w i by simp [stD,hb]] at hrec
        generalize stD w i=q at hn hrec ⊢
        refine pcZ hc (gLf w M i q.1 q.2) ?_ hrec
        and_intros
        all_goals (first | exact zN | (exact hd) | (exact hb) | (intro t ht;simp [All]))
  refine pcZ hc (gLz w M) ?_ (lo M 0 (by omega))
  and_intros
  all_goals (first | exact zN | (intro t ht;exact absurd ht (Nat.not_lt_zero _)) | (intro t ht;simp [All]))
def hitB (x:T_Bar) (a b:Int):Bool:=bif bif x.1==a then x.2.1==b else false then true else bif x.1==b then x.2.1==a else false
def SOs (v:T_Graph) (a b:Int) (k n:Nat):St :=
  ⟨[graphA v,.p (.int .i64 a),.p (.int .i64 b),.pt 2 0 0 0,.p .any,.p .any,.p .any,.p (.int .i64 n),.p (.int .i64 k)]++List.replicate 48 anyA,[(0,boxG v)],1⟩
def SOi (v:T_Graph) (a b:Int) (k n:Nat):St :=
  ⟨[graphA v,.p (.int .i64 a),.p (.int .i64 b),.pt 2 0 0 0,.p .any,.p .any,.p .any,.p (.int .i64 n),.p .any,.p .any,.p .any,graphL v.2.1,.p (.int .i64 v.2.1.1),.p (.int .i64 k)]++List.replicate 29 anyA,[(0,boxG v)],1⟩
def SMso (v:T_Graph) (a n:Nat) (h:Nat→T_Bar):St :=
  ⟨[graphA v,.pt 2 0 0 0,.p .any,.ar 2 1 0 n,.p (.int .i64 a)]++List.replicate 32 anyA,[(0,boxG v),(1,brOb n h)],2⟩
def SMsi (v:T_Graph) (a b n:Nat) (h:Nat→T_Bar):St :=
  ⟨[graphA v,.pt 2 0 0 0,.p .any,.ar 2 1 0 n,.p (.int .i64 a),.p (.int .i64 b)]++List.replicate 31 anyA,[(0,boxG v),(1,brOb n h)],2⟩
def SMio (v:T_Graph) (a n:Nat) (h:Nat→T_Bar):St :=
  ⟨[graphA v,.pt 2 0 0 0,.p .any,.ar 2 1 0 n]++List.replicate 8 anyA++[.p (.int .i64 v.1),.p (.int .i64 a)]++List.replicate 23 anyA,[(0,boxG v),(1,brOb n h)],2⟩
def SMii (v:T_Graph) (a b n:Nat) (h:Nat→T_Bar):St :=
  ⟨[graphA v,.pt 2 0 0 0,.p .any,.ar 2 1 0 n,.p (.int .i64 a),.p (.int .i64 b)]++List.replicate 6 anyA++[.p (.int .i64 v.1),.p (.int .i64 a)]++List.replicate 23 anyA,[(0,boxG v),(1,brOb n h)],2⟩
theorem oSz (v:T_Graph) (a b:Int) :
    zT Tryz.f153 [rg 2,rg 1,rg 1,.head] [graphA v,.p (.int .i64 a),.p (.int .i64 b)] [0] (SOs v a b 0 0) =
    some (zf50,zD [(AI v.1),(AN v.2.1.1),(AP v.2.1.1 (bRw v.2.1.2)),(AI a),(AI b),(AN 0),((0:Int)=(↑0:Int)),((([AV.p (PV.int IntKind.i64 v.1),graphL v.2.1].length):Nat)=2),(NL 1 1)] [0,1,2,3,4,5,6,6,7,8,8,0,1,2]):=by kernel_rfl
theorem oSt (v:T_Graph) (a b:Int) (k n:Nat) :
    zM 0 [rg 5,.dec true,rg 38,.dec true,rg 3,rg 3,.head] zf50 (SOs v a b k n) [0] 1 (SOs v a b (k+1) (n+1)) =
    some (zf50,zD [(NT 0 1),((decide ((↑k:Int)<(↑v.2.1.1:Int)))=true),(IL 0 (↑k:Int)),(IT (↑k:Int) (↑v.2.1.1:Int)),(AG ((v.2.1.2 k).1==a)),((((v.2.1.2 k).1==a)=true)→(NT 0 1)),((((v.2.1.2 k).1==a)=true)→(IL 0 (↑k:Int))),((((v.2.1.2 k).1==a)=true)→(IT (↑k:Int) (↑v.2.1.1:Int))),(AG (!bif (v.2.1.2 k).1==a then (v.2.1.2 k).2.1==b else false)),(((!bif (v.2.1.2 k).1==a then (v.2.1.2 k).2.1==b else false)=true)→(NT 0 1)),(((!bif (v.2.1.2 k).1==a then (v.2.1.2 k).2.1==b else false)=true)→(IL 0 (↑k:Int))),(((!bif (v.2.1.2 k).1==a then (v.2.1.2 k).2.1==b else false)=true)→(IT (↑k:Int) (↑v.2.1.1:Int))),(AG ((!bif (v.2.1.2 k).1==a then (v.2.1.2 k).2.1==b else false)&&(v.2.1.2 k).1==b)),((((!bif (v.2.1.2 k).1==a then (v.2.1.2 k).2.1==b else false)&&(v.2.1.2 k).1==b)=true)→(NT 0 1)),((((!bif (v.2.1.2 k).1==a then (v.2.1.2 k).2.1==b else false)&&(v.2.1.2 k).1==b)=true)→(IL 0 (↑k:Int))),((((!bif (v.2.1.2 k).1==a then (v.2.1.2 k).2.1==b else false)&&(v.2.1.2 k).1==b)=true)→(IT (↑k:Int) (↑v.2.1.1:Int))),(((!bif (v.2.1.2 k).1==a then (v.2.1.2 k).2.1==b else false)=true)→((((v.2.1.2 k).1==b)=true)→ (((!bif (v.2.1.2 k).1==a then (v.2.1.2 k).2.1==b else false)&&(v.2.1.2 k).1==b)=true))),(((bif (v.2.1.2 k).1==a then (v.2.1.2 k).2.1==b else false)=false)→ ((!bif (v.2.1.2 k).1==a then (v.2.1.2 k).2.1==b else false)=true)),((bif bif (v.2.1.2 k).1==a then (v.2.1.2 k).2.1==b else false then true else bif (v.2.1.2 k).1==b then (v.2.1.2 k).2.1==a else false)=true),(ZLo ((↑n:Int)+1)),(ZHi ((↑n:Int)+1)),(ZLo ((↑k:Int)+1)),(ZHi ((↑k:Int)+1)),(AI v.1),(AN v.2.1.1),(AP v.2.1.1 (bRw v.2.1.2)),(AI a),(AI b),(AN 0),((((↑n:Int)+1):Int)=(↑(n+1):Int)),((((↑k:Int)+1):Int)=(↑(k+1):Int)),(AN 2),(NL 1 1)] [0,1,0,2,3,4,5,4,4,6,7,4,4,4,4,4,8,9,8,8,10,11,8,8,8,8,8,12,13,12,12,14,15,12,12,12,12,8,16,17,18,19,20,21,22,23,24,25,26,27,28,29,30,31,32,32,23,24,25]):=by kernel_rfl
theorem oSf (v:T_Graph) (a b:Int) (k n:Nat) :
    zM 0 [rg 5,.dec true,rg 38,.dec false,rg 3,.head] zf50 (SOs v a b k n) [0] 1 (SOs v a b (k+1) n) =
    some (zf50,zD [(NT 0 1),((decide ((↑k:Int)<(↑v.2.1.1:Int)))=true),(IL 0 (↑k:Int)),(IT (↑k:Int) (↑v.2.1.1:Int)),(AG ((v.2.1.2 k).1==a)),((((v.2.1.2 k).1==a)=true)→(NT 0 1)),((((v.2.1.2 k).1==a)=true)→(IL 0 (↑k:Int))),((((v.2.1.2 k).1==a)=true)→(IT (↑k:Int) (↑v.2.1.1:Int))),(AG (!bif (v.2.1.2 k).1==a then (v.2.1.2 k).2.1==b else false)),(((!bif (v.2.1.2 k).1==a then (v.2.1.2 k).2.1==b else false)=true)→(NT 0 1)),(((!bif (v.2.1.2 k).1==a then (v.2.1.2 k).2.1==b else false)=true)→(IL 0 (↑k:Int))),(((!bif (v.2.1.2 k).1==a then (v.2.1.2 k).2.1==b else false)=true)→(IT (↑k:Int) (↑v.2.1.1:Int))),(AG ((!bif (v.2.1.2 k).1==a then (v.2.1.2 k).2.1==b else false)&&(v.2.1.2 k).1==b)),((((!bif (v.2.1.2 k).1==a then (v.2.1.2 k).2.1==b else false)&&(v.2.1.2 k).1==b)=true)→(NT 0 1)),((((!bif (v.2.1.2 k).1==a then (v.2.1.2 k).2.1==b else false)&&(v.2.1.2 k).1==b)=true)→(IL 0 (↑k:Int))),((((!bif (v.2.1.2 k).1==a then (v.2.1.2 k).2.1==b else false)&&(v.2.1.2 k).1==b)=true)→(IT (↑k:Int) (↑v.2.1.1:Int))),(((!bif (v.2.1.2 k).1==a then (v.2.1.2 k).2.1==b else false)=true)→((((v.2.1.2 k).1==b)=true)→ (((!bif (v.2.1.2 k).1==a then (v.2.1.2 k).2.1==b else false)&&(v.2.1.2 k).1==b)=true))),(((bif (v.2.1.2 k).1==a then (v.2.1.2 k).2.1==b else false)=false)→ ((!bif (v.2.1.2 k).1==a then (v.2.1.2 k).2.1==b else false)=true)),((bif bif (v.2.1.2 k).1==a then (v.2.1.2 k).2.1==b else false then true else bif (v.2.1.2 k).1==b then (v.2.1.2 k).2.1==a else false)=false),(ZLo ((↑k:Int)+1)),(ZHi ((↑k:Int)+1)),(AI v.1),(AN v.2.1.1),(AP v.2.1.1 (bRw v.2.1.2)),(AI a),(AI b),(AN 0),(AI ((↑n:Int))),((((↑k:Int)+1):Int)=(↑(k+1):Int)),(AN 2),(NL 1 1)] [0,1,0,2,3,4,5,4,4,6,7,4,4,4,4,4,8,9,8,8,10,11,8,8,8,8,8,12,13,12,12,14,15,12,12,12,12,8,16,17,18,19,20,21,22,23,24,25,26,27,28,29,30,30,21,22,23]):=by kernel_rfl
theorem oSe (v:T_Graph) (a b:Int) (k n:Nat) :
    zP Tryz.f153 0 [rg 5,.dec false,rg 2] zf50 (SOs v a b k n) [] 1 [] (.p (.int .i64 n)) =
    some [(NT 0 1),((decide ((↑k:Int)<(↑v.2.1.1:Int)))=false),(AI ((↑n:Int)))]:=by kernel_rfl
theorem oIz (v:T_Graph) (a b:Int) :
    zT Tryz.f150 [rg 2,rg 1,rg 4,.head] [graphA v,.p (.int .i64 a),.p (.int .i64 b)] [0] (SOi v a b 0 0) =
    some (zf51,zD [(NT 0 1),(AI v.1),(AN v.2.1.1),(AP v.2.1.1 (bRw v.2.1.2)),(AI a),(AI b),(AN 0),((0:Int)=(↑0:Int)),(AI ((↑v.2.1.1:Int))),((([AV.p (PV.int IntKind.i64 v.1),graphL v.2.1].length):Nat)=2),(NL 1 1)] [0,1,2,3,4,5,6,7,2,3,8,7,9,10,10,1,2,3]):=by kernel_rfl
theorem oIt (v:T_Graph) (a b:Int) (k n:Nat) :
    zM 0 [rg 1,.dec true,rg 4,rg 22,.dec true,rg 3,rg 2,.head] zf51 (SOi v a b k n) [0] 1 (SOi v a b (k+1) (n+1)) =
    some (zf51,zD [((decide ((↑k:Int)<(↑v.2.1.1:Int)))=true),(IL 0 (↑k:Int)),(IT (↑k:Int) (↑v.2.1.1:Int)),(NT 0 1),((true=true)→ (AN 1)),(AG ((v.2.1.2 k).1==a)),((((v.2.1.2 k).1==a)=true)→(NT 0 1)),(AG (!bif (v.2.1.2 k).1==a then (v.2.1.2 k).2.1==b else false)),(((!bif (v.2.1.2 k).1==a then (v.2.1.2 k).2.1==b else false)=true)→(NT 0 1)),(AG ((!bif (v.2.1.2 k).1==a then (v.2.1.2 k).2.1==b else false)&&(v.2.1.2 k).1==b)),((((!bif (v.2.1.2 k).1==a then (v.2.1.2 k).2.1==b else false)&&(v.2.1.2 k).1==b)=true)→(NT 0 1)),(((!bif (v.2.1.2 k).1==a then (v.2.1.2 k).2.1==b else false)=true)→((((v.2.1.2 k).1==b)=true)→ (((!bif (v.2.1.2 k).1==a then (v.2.1.2 k).2.1==b else false)&&(v.2.1.2 k).1==b)=true))),(((bif (v.2.1.2 k).1==a then (v.2.1.2 k).2.1==b else false)=false)→ ((!bif (v.2.1.2 k).1==a then (v.2.1.2 k).2.1==b else false)=true)),((bif bif (v.2.1.2 k).1==a then (v.2.1.2 k).2.1==b else false then true else bif (v.2.1.2 k).1==b then (v.2.1.2 k).2.1==a else false)=true),(ZLo ((↑n:Int)+1)),(ZHi ((↑n:Int)+1)),(ZLo ((↑k:Int)+1)),(ZHi ((↑k:Int)+1)),(AI v.1),(AN v.2.1.1),(AP v.2.1.1 (bRw v.2.1.2)),(AI a),(AI b),(AN 0),((((↑n:Int)+1):Int)=(↑(n+1):Int)),(AI ((↑v.2.1.1:Int))),((((↑k:Int)+1):Int)=(↑(k+1):Int)),(AN 2),(NL 1 1)] [0,1,2,3,4,3,5,6,5,5,5,7,8,7,7,7,9,10,9,9,7,11,12,13,14,15,16,17,18,19,20,21,22,23,24,19,20,25,26,27,28,28,18,19,20]):=by kernel_rfl
theorem oIf (v:T_Graph) (a b:Int) (k n:Nat) :
    zM 0 [rg 1,.dec true,rg 4,rg 22,.dec false,rg 2,.head] zf51 (SOi v a b k n) [0] 1 (SOi v a b (k+1) n) =
    some (zf51,zD [((decide ((↑k:Int)<(↑v.2.1.1:Int)))=true),(IL 0 (↑k:Int)),(IT (↑k:Int) (↑v.2.1.1:Int)),(NT 0 1),((true=true)→ (AN 1)),(AG ((v.2.1.2 k).1==a)),((((v.2.1.2 k).1==a)=true)→(NT 0 1)),(AG (!bif (v.2.1.2 k).1==a then (v.2.1.2 k).2.1==b else false)),(((!bif (v.2.1.2 k).1==a then (v.2.1.2 k).2.1==b else false)=true)→(NT 0 1)),(AG ((!bif (v.2.1.2 k).1==a then (v.2.1.2 k).2.1==b else false)&&(v.2.1.2 k).1==b)),((((!bif (v.2.1.2 k).1==a then (v.2.1.2 k).2.1==b else false)&&(v.2.1.2 k).1==b)=true)→(NT 0 1)),(((!bif (v.2.1.2 k).1==a then (v.2.1.2 k).2.1==b else false)=true)→((((v.2.1.2 k).1==b)=true)→ (((!bif (v.2.1.2 k).1==a then (v.2.1.2 k).2.1==b else false)&&(v.2.1.2 k).1==b)=true))),(((bif (v.2.1.2 k).1==a then (v.2.1.2 k).2.1==b else false)=false)→ ((!bif (v.2.1.2 k).1==a then (v.2.1.2 k).2.1==b else false)=true)),((bif bif (v.2.1.2 k).1==a then (v.2.1.2 k).2.1==b else false then true else bif (v.2.1.2 k).1==b then (v.2.1.2 k).2.1==a else false)=false),(ZLo ((↑k:Int)+1)),(ZHi ((↑k:Int)+1)),(AI v.1),(AN v.2.1.1),(AP v.2.1.1 (bRw v.2.1.2)),(AI a),(AI b),(AN 0),(AI ((↑n:Int))),(AI ((↑v.2.1.1:Int))),((((↑k:Int)+1):Int)=(↑(k+1):Int)),(AN 2),(NL 1 1)] [0,1,2,3,4,3,5,6,5,5,5,7,8,7,7,7,9,10,9,9,7,11,12,13,14,15,16,17,18,19,20,21,22,17,18,23,24,25,26,26,16,17,18]):=by kernel_rfl
theorem oIe (v:T_Graph) (a b:Int) (k n:Nat) :
    zP Tryz.f150 0 [rg 1,.dec false,rg 2] zf51 (SOi v a b k n) [] 1 [] (.p (.int .i64 n)) =
    some [((decide ((↑k:Int)<(↑v.2.1.1:Int)))=false),(AI ((↑n:Int)))]:=by kernel_rfl
theorem mSz (v:T_Graph) :
    zT Tryz.f79 [rg 2,rg 2,rg 1,.head] [graphA v] [0,64] (SMso v 0 0 (fun _=>(0,0,()))) =
    some (zf58,zD [(AI v.1),(AN v.2.1.1),(AP v.2.1.1 (bRw v.2.1.2)),(AN 0),((0:Int)=(↑0:Int)),((([AV.p (PV.int IntKind.i64 v.1),graphL v.2.1].length):Nat)=2),(NL 1 1),(AN 2),(NL 0 0),(AA 0 (fun i=>[.p (.int .i64 0),.p (.int .i64 0)]))] [0,1,2,3,3,3,4,5,6,6,0,1,2,7,8,9]):=by kernel_rfl
theorem mSo (v:T_Graph) (a n:Nat) (h:Nat→T_Bar) (b:Bool) :
    zM 0 [rm [(6,oc [] (.p (.bool b)))] 1,.dec true,rg 3,.head] zf58 (SMso v a n h) [0,1] 1 (SMsi v a (a+1) n h) =
    some (zf9,zD [(NT 0 1),(((decide ((↑a:Int)<v.1))=true)→(NT 0 1)),(AG (decide ((↑a:Int)<v.1))),(((decide ((↑a:Int)<v.1))=true)→ zE 134 [(zf80 v)] [] (.p (.bool b))),((bif decide ((↑a:Int)<v.1) then b else false)=true),(ZLo ((↑a:Int)+1)),(ZHi ((↑a:Int)+1)),(AI v.1),(AN v.2.1.1),(AP v.2.1.1 (bRw v.2.1.2)),(AN 0),(AN n),(AI ((↑a:Int))),((((↑a:Int)+1):Int)=(↑(a+1):Int)),(AN 2),(NL 1 1),(NL n n),(AA n (fun i=>[.p (.int .i64 ((h i).1)),.p (.int .i64 ((h i).2.1))]))] [0,1,2,3,2,4,5,6,7,8,9,10,10,11,12,13,14,15,15,7,8,9,14,16,17]):=by kernel_rfl
theorem mSt (v:T_Graph) (a b n c:Nat) (h:Nat→T_Bar) :
    zM 0 [rg 4,.dec true,rm [(3,oc [] (.p (.int .i64 c)))] 1,.dec true,rg 7,rg 3,.head] zf9 (SMsi v a b n h) [0,450] 1 (SMsi v a (b+1) (n+1) (snoc n h (a,b,()))) =
    some (zf9,zD [(NT 0 1),((decide ((↑b:Int)<v.1))=true),zE 153 [(zf80 v),.p (.int .i64 (↑a:Int)),.p (.int .i64 (↑b:Int))] [] (.p (.int .i64 (↑c:Int))),(((↑c:Int)==0)=true),(NL 1 1),(NL n n),(NL ((n+1)*16) 140737488355328),(NL (n+1) 9223372036854775807),(ZLo ((↑b:Int)+1)),(ZHi ((↑b:Int)+1)),(AI v.1),(AN v.2.1.1),(AP v.2.1.1 (bRw v.2.1.2)),(AN 0),(AN ((n+1))),(AI ((↑a:Int))),((((↑b:Int)+1):Int)=(↑(b+1):Int)),(AN 2),(NL (n+1) (n+1)),(CV [(450,⟨false,2,(n+1),(fun i_1=>(if (i_1<n) then [.p (.int .i64 ((h i_1).1)),.p (.int .i64 ((h i_1).2.1))] else [.p (.int .i64 (↑a:Int)),.p (.int .i64 (↑b:Int))]))⟩),(418,⟨false,2,1,(fun i_1=>[.p (.int .i64 (↑a:Int)),.p (.int .i64 (↑b:Int))])⟩),(0,⟨true,2,1,(fun i_1=>[.p (.int .i64 v.1),.p (.seq true 2 v.2.1.1 (bRw v.2.1.2))])⟩)] [0,450] 1 (n+1) (fun i=>if (i<n) then [.p (.int .i64 ((h i).1)),.p (.int .i64 ((h i).2.1))] else [.p (.int .i64 (↑a:Int)),.p (.int .i64 (↑b:Int))]) (fun i=>[.p (.int .i64 (if i<n then (h i).1 else (↑a:Int))),.p (.int .i64 (if i<n then (h i).2.1 else (↑b:Int)))]))] [0,1,0,2,3,4,5,6,7,8,9,10,11,12,13,13,14,15,16,17,4,4,10,11,12,17,18,19]):=by kernel_rfl
theorem mSf (v:T_Graph) (a b n c:Nat) (h:Nat→T_Bar) :
    zM 0 [rg 4,.dec true,rm [(3,oc [] (.p (.int .i64 c)))] 1,.dec false,rg 3,.head] zf9 (SMsi v a b n h) [0,1] 1 (SMsi v a (b+1) n h) =
    some (zf9,zD [(NT 0 1),((decide ((↑b:Int)<v.1))=true),zE 153 [(zf80 v),.p (.int .i64 (↑a:Int)),.p (.int .i64 (↑b:Int))] [] (.p (.int .i64 (↑c:Int))),(((↑c:Int)==0)=false),(ZLo ((↑b:Int)+1)),(ZHi ((↑b:Int)+1)),(AI v.1),(AN v.2.1.1),(AP v.2.1.1 (bRw v.2.1.2)),(AN 0),(AN n),(AI ((↑a:Int))),((((↑b:Int)+1):Int)=(↑(b+1):Int)),(AN 2),(NL 1 1),(NL n n),(AA n (fun i=>[.p (.int .i64 ((h i).1)),.p (.int .i64 ((h i).2.1))]))] [0,1,0,2,3,4,5,6,7,8,9,9,10,11,12,13,14,14,6,7,8,13,15,16]):=by kernel_rfl
theorem mSx (v:T_Graph) (a b n:Nat) (h:Nat→T_Bar) :
    zM 0 [rg 4,.dec false,rg 3,.head] zf9 (SMsi v a b n h) [0,1] 1 (SMso v (a+1) n h) =
    some (zf58,zD [(NT 0 1),((decide ((↑b:Int)<v.1))=false),(ZLo ((↑a:Int)+1)),(ZHi ((↑a:Int)+1)),(AI v.1),(AN v.2.1.1),(AP v.2.1.1 (bRw v.2.1.2)),(AN 0),(AN n),((((↑a:Int)+1):Int)=(↑(a+1):Int)),(AN 2),(NL 1 1),(NL n n),(AA n (fun i=>[.p (.int .i64 ((h i).1)),.p (.int .i64 ((h i).2.1))]))] [0,1,2,3,4,5,6,7,7,8,9,10,11,11,4,5,6,10,12,13]):=by kernel_rfl
theorem mSe (v:T_Graph) (a n:Nat) (h:Nat→T_Bar) (b:Bool) :
    zP Tryz.f79 0 [rm [(6,oc [] (.p (.bool b)))] 1,.dec false,rg 2] zf58 (SMso v a n h) [1] 1 [(0,brOb n h)] (.ar 2 0 0 n) =
    some [(NT 0 1),(((decide ((↑a:Int)<v.1))=true)→(NT 0 1)),(AG (decide ((↑a:Int)<v.1))),(((decide ((↑a:Int)<v.1))=true)→ zE 134 [(zf80 v)] [] (.p (.bool b))),(AG (decide ((↑a:Int)<v.1))),((bif decide ((↑a:Int)<v.1) then b else false)=false),(AN 0),(AN n),(AN 2),(NL n n),(AA n (fun i=>[.p (.int .i64 ((h i).1)),.p (.int .i64 ((h i).2.1))])),(AE n)]:=by kernel_rfl
theorem mIn (v:T_Graph) :
    zS Tryz.f75 [rg 2,rg 2,rm [(1,oc [] (.p (.bool false)))] 1,.dec true,rg 2] [graphA v] [64] [(0,brOb 0 (fun _=>(0,0,())))] (.ar 2 0 0 0) =
    some [(NT 0 1),zE 130 [(zf80 v)] [] (.p (.bool false)),((!false)=true),(AN 0),(AN 0),(AN 2),(NL 0 0),(AA 0 (fun i=>[.p (.int .i64 0),.p (.int .i64 0)])),(AE 0)]:=by kernel_rfl
theorem mIz (v:T_Graph) :
    zT Tryz.f75 [rg 2,rg 2,rm [(1,oc [] (.p (.bool true)))] 1,.dec false,rg 3,.head] [graphA v] [0,64] (SMio v 0 0 (fun _=>(0,0,()))) =
    some (zf38,zD [(NT 0 1),zE 130 [(zf80 v)] [] (.p (.bool true)),((!true)=false),(AI v.1),(AN v.2.1.1),(AP v.2.1.1 (bRw v.2.1.2)),(AN 0),((0:Int)=(↑0:Int)),((([AV.p (PV.int IntKind.i64 v.1),graphL v.2.1].length):Nat)=2),(NL 1 1),(AN 2),(NL 0 0),(AA 0 (fun i=>[.p (.int .i64 0),.p (.int .i64 0)]))] [0,1,2,0,3,4,5,6,6,6,3,7,8,9,9,3,4,5,10,11,12]):=by kernel_rfl
theorem mIo (v:T_Graph) (a n:Nat) (h:Nat→T_Bar) :
    zM 0 [rg 1,.dec true,rg 2,rg 3,.head] zf38 (SMio v a n h) [0,1] 1 (SMii v a (a+1) n h) =
    some (zf5,zD [((decide ((↑a:Int)<v.1))=true),(ZLo ((↑a:Int)+1)),(ZHi ((↑a:Int)+1)),(AI v.1),(AN v.2.1.1),(AP v.2.1.1 (bRw v.2.1.2)),(AN 0),(AN n),(AI ((↑a:Int))),((((↑a:Int)+1):Int)=(↑(a+1):Int)),(AN 2),(NL 1 1),(NL n n),(AA n (fun i=>[.p (.int .i64 ((h i).1)),.p (.int .i64 ((h i).2.1))]))] [0,1,2,3,4,5,6,6,7,8,9,3,8,10,11,11,3,4,5,10,12,13]):=by kernel_rfl
theorem mIt (v:T_Graph) (a b n c:Nat) (h:Nat→T_Bar) :
    zM 0 [rg 4,.dec true,rm [(3,oc [] (.p (.int .i64 c)))] 1,.dec true,rg 7,rg 3,.head] zf5 (SMii v a b n h) [0,450] 1 (SMii v a (b+1) (n+1) (snoc n h (a,b,()))) =
    some (zf5,zD [(NT 0 1),((decide ((↑b:Int)<v.1))=true),zE 150 [(zf80 v),.p (.int .i64 (↑a:Int)),.p (.int .i64 (↑b:Int))] [] (.p (.int .i64 (↑c:Int))),(((↑c:Int)==0)=true),(NL 1 1),(NL n n),(NL ((n+1)*16) 140737488355328),(NL (n+1) 9223372036854775807),(ZLo ((↑b:Int)+1)),(ZHi ((↑b:Int)+1)),(AI v.1),(AN v.2.1.1),(AP v.2.1.1 (bRw v.2.1.2)),(AN 0),(AN ((n+1))),(AI ((↑a:Int))),((((↑b:Int)+1):Int)=(↑(b+1):Int)),(AN 2),(NL (n+1) (n+1)),(CV [(450,⟨false,2,(n+1),(fun i_1=>(if (i_1<n) then [.p (.int .i64 ((h i_1).1)),.p (.int .i64 ((h i_1).2.1))] else [.p (.int .i64 (↑a:Int)),.p (.int .i64 (↑b:Int))]))⟩),(418,⟨false,2,1,(fun i_1=>[.p (.int .i64 (↑a:Int)),.p (.int .i64 (↑b:Int))])⟩),(0,⟨true,2,1,(fun i_1=>[.p (.int .i64 v.1),.p (.seq true 2 v.2.1.1 (bRw v.2.1.2))])⟩)] [0,450] 1 (n+1) (fun i=>if (i<n) then [.p (.int .i64 ((h i).1)),.p (.int .i64 ((h i).2.1))] else [.p (.int .i64 (↑a:Int)),.p (.int .i64 (↑b:Int))]) (fun i=>[.p (.int .i64 (if i<n then (h i).1 else (↑a:Int))),.p (.int .i64 (if i<n then (h i).2.1 else (↑b:Int)))]))] [0,1,0,2,3,4,5,6,7,8,9,10,11,12,13,13,14,15,16,10,15,17,4,4,10,11,12,17,18,19]):=by kernel_rfl
theorem mIf (v:T_Graph) (a b n c:Nat) (h:Nat→T_Bar) :
    zM 0 [rg 4,.dec true,rm [(3,oc [] (.p (.int .i64 c)))] 1,.dec false,rg 3,.head] zf5 (SMii v a b n h) [0,1] 1 (SMii v a (b+1) n h) =
    some (zf5,zD [(NT 0 1),((decide ((↑b:Int)<v.1))=true),zE 150 [(zf80 v),.p (.int .i64 (↑a:Int)),.p (.int .i64 (↑b:Int))] [] (.p (.int .i64 (↑c:Int))),(((↑c:Int)==0)=false),(ZLo ((↑b:Int)+1)),(ZHi ((↑b:Int)+1)),(AI v.1),(AN v.2.1.1),(AP v.2.1.1 (bRw v.2.1.2)),(AN 0),(AN n),(AI ((↑a:Int))),((((↑b:Int)+1):Int)=(↑(b+1):Int)),(AN 2),(NL 1 1),(NL n n),(AA n (fun i=>[.p (.int .i64 ((h i).1)),.p (.int .i64 ((h i).2.1))]))] [0,1,0,2,3,4,5,6,7,8,9,9,10,11,12,6,11,13,14,14,6,7,8,13,15,16]):=by kernel_rfl
theorem mIx (v:T_Graph) (a b n:Nat) (h:Nat→T_Bar) :
    zM 0 [rg 4,.dec false,rg 2,.head] zf5 (SMii v a b n h) [0,1] 1 (SMio v (a+1) n h) =
    some (zf38,zD [(NT 0 1),((decide ((↑b:Int)<v.1))=false),(ZLo ((↑a:Int)+1)),(ZHi ((↑a:Int)+1)),(AI v.1),(AN v.2.1.1),(AP v.2.1.1 (bRw v.2.1.2)),(AN 0),(AN n),((((↑a:Int)+1):Int)=(↑(a+1):Int)),(AN 2),(NL 1 1),(NL n n),(AA n (fun i=>[.p (.int .i64 ((h i).1)),.p (.int .i64 ((h i).2.1))]))] [0,1,2,3,4,5,6,7,7,8,4,9,10,11,11,4,5,6,10,12,13]):=by kernel_rfl
theorem mIe (v:T_Graph) (a n:Nat) (h:Nat→T_Bar) :
    zP Tryz.f75 0 [rg 1,.dec false,rg 2] zf38 (SMio v a n h) [1] 1 [(0,brOb n h)] (.ar 2 0 0 n) =
    some [((decide ((↑a:Int)<v.1))=false),(AN 0),(AN n),(AN 2),(NL n n),(AA n (fun i=>[.p (.int .i64 ((h i).1)),.p (.int .i64 ((h i).2.1))])),(AE n)]:=by kernel_rfl
def cbN (g:Nat→T_Bar) (a b:Int):Nat→Nat
  | 0=>0
  | k+1=>if hitB (g k) a b=true then cbN g a b k+1 else cbN g a b k
theorem cbN_le (g:Nat→T_Bar) (a b:Int):∀ k,cbN g a b k≤k
  | 0=>Nat.le_refl _
  | k+1=>by
    have:=cbN_le g a b k
    simp only [cbN]
    split<;>omega
theorem con_CountBar_s (v:T_Graph) (hs:smS s_Graph v) (a b:Int):zE 153 [graphA v,.p (.int .i64 a),.p (.int .i64 b)] [] (.p (.int .i64 (cbN v.2.1.2 a b v.2.1.1))):=by
  have hn:v.2.1.1≤1048576:=hs.2.1.1
  refine csZ Tryz.func153 (fun c hc=>?_)
  have lo:∀ d k,k+d=v.2.1.1→zR c 153 zf50 (SOs v a b k (cbN v.2.1.2 a b k)) (Post c [] (.p (.int .i64 (cbN v.2.1.2 a b v.2.1.1)))):=by
    intro d
    induction d with
    | zero =>
      intro k hk
      obtain rfl:k=v.2.1.1:=by omega
      have hd:decide ((v.2.1.1:Int)<(v.2.1.1:Int))=false:=by simp
      refine pkZ Tryz.func153 hc (oSe v a b v.2.1.1 _) ?_
      and_intros
      all_goals (first | exact zN | (exact hd))
    | succ d ih =>
      intro k hk
      have hd:decide ((k:Int)<(v.2.1.1:Int))=true:=decide_eq_true (by omega)
      have hrec:=ih (k+1) (by omega)
      have hl:=cbN_le v.2.1.2 a b k
      cases hh:hitB (v.2.1.2 k) a b with
      | true =>
        rw [show cbN v.2.1.2 a b (k+1)=cbN v.2.1.2 a b k+1 by simp [cbN,hh]] at hrec
        refine pcD hc (oSt v a b k _) ?_ hrec
        and_intros
        all_goals (first | exact zH | (exact hd) | (exact hh) | (simp;omega))
      | false =>
        rw [show cbN v.2.1.2 a b (k+1)=cbN v.2.1.2 a b k by simp [cbN,hh]] at hrec
        refine pcD hc (oSf v a b k _) ?_ hrec
        and_intros
        all_goals (first | exact zH | (exact hd) | (exact hh) | (simp;omega))
  refine pcD hc (oSz v a b) ?_ (lo v.2.1.1 0 (by omega))
  and_intros
  all_goals (first | exact zN | (simp;omega))
theorem con_CountBar_i (v:T_Graph) (hs:smS s_Graph v) (a b:Int):zE 150 [graphA v,.p (.int .i64 a),.p (.int .i64 b)] [] (.p (.int .i64 (cbN v.2.1.2 a b v.2.1.1))):=by
  have hn:v.2.1.1≤1048576:=hs.2.1.1
  refine csZ Tryz.func150 (fun c hc=>?_)
  have lo:∀ d k,k+d=v.2.1.1→zR c 150 zf51 (SOi v a b k (cbN v.2.1.2 a b k)) (Post c [] (.p (.int .i64 (cbN v.2.1.2 a b v.2.1.1)))):=by
    intro d
    induction d with
    | zero =>
      intro k hk
      obtain rfl:k=v.2.1.1:=by omega
      have hd:decide ((v.2.1.1:Int)<(v.2.1.1:Int))=false:=by simp
      refine pkZ Tryz.func150 hc (oIe v a b v.2.1.1 _) ?_
      and_intros
      all_goals (first | exact zN | (exact hd))
    | succ d ih =>
      intro k hk
      have hd:decide ((k:Int)<(v.2.1.1:Int))=true:=decide_eq_true (by omega)
      have hrec:=ih (k+1) (by omega)
      have hl:=cbN_le v.2.1.2 a b k
      cases hh:hitB (v.2.1.2 k) a b with
      | true =>
        rw [show cbN v.2.1.2 a b (k+1)=cbN v.2.1.2 a b k+1 by simp [cbN,hh]] at hrec
        refine pcD hc (oIt v a b k _) ?_ hrec
        and_intros
        all_goals (first | exact zH | (exact hd) | (exact hh) | (simp;omega))
      | false =>
        rw [show cbN v.2.1.2 a b (k+1)=cbN v.2.1.2 a b k by simp [cbN,hh]] at hrec
        refine pcD hc (oIf v a b k _) ?_ hrec
        and_intros
        all_goals (first | exact zH | (exact hd) | (exact hh) | (simp;omega))
  refine pcD hc (oIz v a b) ?_ (lo v.2.1.1 0 (by omega))
  and_intros
  all_goals (first | exact zN | (simp;omega))
def msI (v:T_Graph) (a:Nat) (r:NB):Nat→NB
  | 0=>r
  | j+1=>if cbN v.2.1.2 a ((a+1+j:Nat):Int) v.2.1.1=0 then sn (msI v a r j) (a,((a+1+j:Nat):Int),()) else msI v a r j
def msO (v:T_Graph):Nat→NB
  | 0=>zNB
  | a+1=>msI v a (msO v a) (v.1.toNat - (a+1))
def msP (v:T_Graph):NB:=if isGraphF v=true then msO v v.1.toNat else zNB
theorem msI_n (v:T_Graph) (a:Nat) (r:NB):∀ j,(msI v a r j).1≤r.1+j
  | 0=>Nat.le_refl _
  | j+1=>by
    have:=msI_n v a r j
    simp only [msI]
    split
    · simp only [sn];omega
    · omega
theorem msO_n (v:T_Graph) (h:v.1.toNat≤8):∀ a,(msO v a).1≤8*a
  | 0=>Nat.le_refl _
  | a+1=>by
    have:=msO_n v h a
    have:=msI_n v a (msO v a) (v.1.toNat - (a+1))
    simp only [msO]
    omega
theorem msP_n (v:T_Graph):(msP v).1≤64:=by
  unfold msP
  split
  · rename_i h
    have hg:=graph_inR h
    have:=msO_n v (by omega) v.1.toNat
    omega
  · exact Nat.zero_le _
theorem con_Missing_s (v:T_Graph) (hs:smS s_Graph v):zE 79 [graphA v] [(0,brOb (msP v).1 (msP v).2)] (.ar 2 0 0 (msP v).1):=by
  have c1:=con_IsGraph_s v hs
  refine csZ Tryz.func79 (fun c hc=>?_)
  cases hp:isGraphF v with
  | false =>
    rw [hp] at c1
    rw [show msP v=zNB by simp [msP,hp]]
    have hd:(bif decide (((0:Nat):Int)<v.1) then false else false)=false:=by cases decide (((0:Nat):Int)<v.1)<;>rfl
    have he:zR c 79 zf58 (SMso v 0 0 (fun _=>(0,0,()))) (Post c [(0,brOb zNB.1 zNB.2)] (.ar 2 0 0 zNB.1)):=by
      refine pkZ Tryz.func79 hc (mSe v 0 0 (fun _=>(0,0,())) false) ?_
      and_intros
      all_goals (first | exact zI | (intros;exact c1) | (exact hd) | (intro t ht;exact absurd ht (Nat.not_lt_zero _)) | (intro t ht;simp [All]))
    refine pcD hc (mSz v) ?_ he
    and_intros
    all_goals (first | exact zN | (intro t ht;exact absurd ht (Nat.not_lt_zero _)) | (intro t ht;simp [All]))
  | true =>
    have hg:=graph_inR hp
    rw [hp] at c1
    rw [show msP v=msO v v.1.toNat by simp [msP,hp]]
    generalize hR:msO v v.1.toNat=R
    have li:∀ a,a<v.1.toNat→(zR c 79 zf58 (SMso v (a+1) (msO v (a+1)).1 (msO v (a+1)).2) (Post c [(0,brOb R.1 R.2)] (.ar 2 0 0 R.1))) →
        ∀ d j,j+d=v.1.toNat - (a+1)→zR c 79 zf9 (SMsi v a (a+1+j) (msI v a (msO v a) j).1 (msI v a (msO v a) j).2) (Post c [(0,brOb R.1 R.2)] (.ar 2 0 0 R.1)):=by
      intro a ha hk d
      induction d with
      | zero =>
        intro j hj
        obtain rfl:j=v.1.toNat - (a+1):=by omega
        have hd:decide (((a+1+(v.1.toNat - (a+1)):Nat):Int)<v.1)=false:=decide_eq_false (by omega)
        refine pcD hc (mSx v a (a+1+(v.1.toNat - (a+1))) _ _) ?_ hk
        and_intros
        all_goals (first | exact zN | (exact hd) | (intro t ht;simp [All]))
      | succ d ih =>
        intro j hj
        have hd:decide (((a+1+j:Nat):Int)<v.1)=true:=decide_eq_true (by omega)
        have hrec:=ih (j+1) (by omega)
        have hn:=msI_n v a (msO v a) j
        have hn2:=msO_n v (by omega) a
        have cc:=con_CountBar_s v hs a ((a+1+j:Nat):Int)
        by_cases hh:cbN v.2.1.2 a ((a+1+j:Nat):Int) v.2.1.1=0
        · have hq:((cbN v.2.1.2 a ((a+1+j:Nat):Int) v.2.1.1:Int)==0)=true:=by rw [hh];rfl
          rw [show msI v a (msO v a) (j+1)=sn (msI v a (msO v a) j) (a,((a+1+j:Nat):Int),()) by simp only [msI,hh,if_true]] at hrec
          generalize msI v a (msO v a) j=q at hn hrec ⊢
          refine pcD hc (mSt v a (a+1+j) q.1 (cbN v.2.1.2 a ((a+1+j:Nat):Int) v.2.1.1) q.2) ?_ hrec
          and_intros
          all_goals (first | exact zN | (exact hd) | (exact cc) | (exact hq) | (intro t ht;by_cases h':t<q.1<;>simp [h',snoc,cvtL,cvt,tg,tru,All]) | (simp;omega))
        · have hq:((cbN v.2.1.2 a ((a+1+j:Nat):Int) v.2.1.1:Int)==0)=false:=beq_eq_false_iff_ne.2 (fun h=>hh (Int.ofNat_eq_zero.1 h))
          rw [show msI v a (msO v a) (j+1)=msI v a (msO v a) j by simp only [msI,hh,if_false]] at hrec
          generalize msI v a (msO v a) j=q at hn hrec ⊢
          refine pcD hc (mSf v a (a+1+j) q.1 (cbN v.2.1.2 a ((a+1+j:Nat):Int) v.2.1.1) q.2) ?_ hrec
          and_intros
          all_goals (first | exact zN | (exact hd) | (exact cc) | (exact hq) | (intro t ht;simp [All]) | (simp;omega))
    have lo:∀ d a,a+d=v.1.toNat→zR c 79 zf58 (SMso v a (msO v a).1 (msO v a).2) (Post c [(0,brOb R.1 R.2)] (.ar 2 0 0 R.1)):=by
      intro d
      induction d with
      | zero =>
        intro a ha
        obtain rfl:a=v.1.toNat:=by omega
        have hd:(bif decide (((v.1.toNat:Nat):Int)<v.1) then true else false)=false:=by
          rw [show decide (((v.1.toNat:Nat):Int)<v.1)=false from decide_eq_false (by omega)];rfl
        rw [hR]
        refine pkZ Tryz.func79 hc (mSe v v.1.toNat R.1 R.2 true) ?_
        and_intros
        all_goals (first | exact zI | (exact hd) | (intros;exact c1) | (intro t ht;simp [All]))
      | succ d ih =>
        intro a ha
        have hd:(bif decide ((a:Int)<v.1) then true else false)=true:=by
          rw [show decide ((a:Int)<v.1)=true from decide_eq_true (by omega)];rfl
        refine pcD hc (mSo v a _ _ true) ?_ (li a (by omega) (ih (a+1) (by omega)) (v.1.toNat - (a+1)) 0 (by omega))
        and_intros
        all_goals (first | exact zI | (exact hd) | (intros;exact c1) | (intro t ht;simp [All]))
    refine pcD hc (mSz v) ?_ (lo v.1.toNat 0 (by omega))
    and_intros
    all_goals (first | exact zN | (intro t ht;exact absurd ht (Nat.not_lt_zero _)) | (intro t ht;simp [All]))
theorem con_Missing_i (v:T_Graph) (hs:smS s_Graph v):zE 75 [graphA v] [(0,brOb (msP v).1 (msP v).2)] (.ar 2 0 0 (msP v).1):=by
  have c1:=con_IsGraph_i v hs
  refine csZ Tryz.func75 (fun c hc=>?_)
  cases hp:isGraphF v with
  | false =>
    rw [hp] at c1
    rw [show msP v=zNB by simp [msP,hp]]
    refine pkZ Tryz.func75 hc (mIn v) ?_
    and_intros
    all_goals (first | exact zN | (intros;exact c1) | (intro t ht;exact absurd ht (Nat.not_lt_zero _)) | (intro t ht;simp [All]))
  | true =>
    have hg:=graph_inR hp
    rw [hp] at c1
    rw [show msP v=msO v v.1.toNat by simp [msP,hp]]
    generalize hR:msO v v.1.toNat=R
    have li:∀ a,a<v.1.toNat→(zR c 75 zf38 (SMio v (a+1) (msO v (a+1)).1 (msO v (a+1)).2) (Post c [(0,brOb R.1 R.2)] (.ar 2 0 0 R.1))) →
        ∀ d j,j+d=v.1.toNat - (a+1)→zR c 75 zf5 (SMii v a (a+1+j) (msI v a (msO v a) j).1 (msI v a (msO v a) j).2) (Post c [(0,brOb R.1 R.2)] (.ar 2 0 0 R.1)):=by
      intro a ha hk d
      induction d with
      | zero =>
        intro j hj
        obtain rfl:j=v.1.toNat - (a+1):=by omega
        have hd:decide (((a+1+(v.1.toNat - (a+1)):Nat):Int)<v.1)=false:=decide_eq_false (by omega)
        refine pcD hc (mIx v a (a+1+(v.1.toNat - (a+1))) _ _) ?_ hk
        and_intros
        all_goals (first | exact zN | (exact hd) | (intro t ht;simp [All]) | (simp;omega))
      | succ d ih =>
        intro j hj
        have hd:decide (((a+1+j:Nat):Int)<v.1)=true:=decide_eq_true (by omega)
        have hrec:=ih (j+1) (by omega)
        have hn:=msI_n v a (msO v a) j
        have hn2:=msO_n v (by omega) a
        have cc:=con_CountBar_i v hs a ((a+1+j:Nat):Int)
        by_cases hh:cbN v.2.1.2 a ((a+1+j:Nat):Int) v.2.1.1=0
        · have hq:((cbN v.2.1.2 a ((a+1+j:Nat):Int) v.2.1.1:Int)==0)=true:=by rw [hh];rfl
          rw [show msI v a (msO v a) (j+1)=sn (msI v a (msO v a) j) (a,((a+1+j:Nat):Int),()) by simp only [msI,hh,if_true]] at hrec
          generalize msI v a (msO v a) j=q at hn hrec ⊢
          refine pcD hc (mIt v a (a+1+j) q.1 (cbN v.2.1.2 a ((a+1+j:Nat):Int) v.2.1.1) q.2) ?_ hrec
          and_intros
          all_goals (first | exact zN | (exact hd) | (exact cc) | (exact hq) | (intro t ht;by_cases h':t<q.1<;>simp [h',snoc,cvtL,cvt,tg,tru,All]) | (simp;omega))
        · have hq:((cbN v.2.1.2 a ((a+1+j:Nat):Int) v.2.1.1:Int)==0)=false:=beq_eq_false_iff_ne.2 (fun h=>hh (Int.ofNat_eq_zero.1 h))
          rw [show msI v a (msO v a) (j+1)=msI v a (msO v a) j by simp only [msI,hh,if_false]] at hrec
          generalize msI v a (msO v a) j=q at hn hrec ⊢
          refine pcD hc (mIf v a (a+1+j) q.1 (cbN v.2.1.2 a ((a+1+j:Nat):Int) v.2.1.1) q.2) ?_ hrec
          and_intros
          all_goals (first | exact zN | (exact hd) | (exact cc) | (exact hq) | (intro t ht;simp [All]) | (simp;omega))
    have lo:∀ d a,a+d=v.1.toNat→zR c 75 zf38 (SMio v a (msO v a).1 (msO v a).2) (Post c [(0,brOb R.1 R.2)] (.ar 2 0 0 R.1)):=by
      intro d
      induction d with
      | zero =>
        intro a ha
        obtain rfl:a=v.1.toNat:=by omega
        have hd:decide (((v.1.toNat:Nat):Int)<v.1)=false:=decide_eq_false (by omega)
        rw [hR]
        refine pkZ Tryz.func75 hc (mIe v v.1.toNat R.1 R.2) ?_
        and_intros
        all_goals (first | exact zN | (exact hd) | (intros;exact c1) | (intro t ht;simp [All]))
      | succ d ih =>
        intro a ha
        have hd:decide ((a:Int)<v.1)=true:=decide_eq_true (by omega)
        refine pcD hc (mIo v a _ _) ?_ (li a (by omega) (ih (a+1) (by omega)) (v.1.toNat - (a+1)) 0 (by omega))
        and_intros
        all_goals (first | exact zN | (exact hd) | (intros;exact c1) | (intro t ht;simp [All]))
    refine pcD hc (mIz v) ?_ (lo v.1.toNat 0 (by omega))
    and_intros
    all_goals (first | exact zN | (intros;exact c1) | (intro t ht;exact absurd ht (Nat.not_lt_zero _)) | (intro t ht;simp [All]))
def SAB (N:Int) (n:Nat) (h:Nat→T_Bar):St :=
  ⟨[.p .any,.p .any,.p .any,.p .any,.p .any,.p .any,.pt 2 0 0 0,.p .any,.pt 2 1 0 0]++List.replicate 41 anyA,[(0,zG2),(1,⟨true,2,1,fun _=>[.p (.int .i64 N),.ar 2 2 0 n]⟩),(2,brOb n h)],3⟩
theorem bCi (v:T_Graph) :
    zS Tryz.f141 [rg 2,rg 8] [graphA v] [224] [(0,brOb v.2.1.1 v.2.1.2)] (.agg [.p (.int .i64 v.1),.ar 2 0 0 v.2.1.1]) =
    some [(NT 0 1),(NT 0 1),(NL 0 0),(NL ((0+v.2.1.1)*16) 140737488355328),(NL (0+v.2.1.1) 9223372036854775807),(NT 0 1),((true=true)→ (AN 1)),(NT 0 1),(AI v.1),(AN 0),(((0+v.2.1.1):Nat)=v.2.1.1),(AN 2),(NL v.2.1.1 (0+v.2.1.1)),(AA v.2.1.1 (fun i=>[.p (.int .i64 ((v.2.1.2 i).1)),.p (.int .i64 ((v.2.1.2 i).2.1))])),(AE v.2.1.1)]:=by kernel_rfl
theorem bIf (v:T_Graph) (a b:Int) (b1 b2 b3:Bool) :
    zS Tryz.f84 [rg 3,rm [(1,oc [(0,brOb v.2.1.1 v.2.1.2)] (.agg [.p (.int .i64 v.1),.ar 2 0 0 v.2.1.1]))] 2,rm [(1,oc [] (.p (.bool b1))),(4,oc [] (.p (.bool b2))),(5,oc [] (.p (.bool b3)))] 13,.dec true,rg 3] [graphA v,.p (.int .i64 a),.p (.int .i64 b)] [128] [(0,brOb v.2.1.1 v.2.1.2)] (.tup [.agg [.p (.int .i64 v.1),.ar 2 0 0 v.2.1.1],.p (.bool false)]) =
    some (zD [(NT 0 1),zE 141 [(zf80 v)] (zf83 v) (.agg [.p (.int .i64 v.1),.ar 2 0 0 v.2.1.1]),((true=true)→ (AN 1)),zE 130 [(zf80 v)] [] (.p (.bool b1)),(((!!b1)=true)→(NT 0 1)),(AG (!!b1)),(((!!b1)=true)→ zE 148 [(zf80 v),.p (.int .i64 a)] [] (.p (.bool b2))),(((!b1)=false)→ ((!!b1)=true)),(((!bif !b1 then true else !b2)=true)→(NT 0 1)),(AG (!bif !b1 then true else !b2)),(((!bif !b1 then true else !b2)=true)→ zE 148 [(zf80 v),.p (.int .i64 b)] [] (.p (.bool b3))),(((bif !b1 then true else !b2)=false)→ ((!bif !b1 then true else !b2)=true)),(AG (!bif bif !b1 then true else !b2 then true else !b3)),(((bif bif !b1 then true else !b2 then true else !b3)=false)→ ((!bif bif !b1 then true else !b2 then true else !b3)=true)),(AG (!bif bif bif !b1 then true else !b2 then true else !b3 then true else a==b)),(((!bif bif bif !b1 then true else !b2 then true else !b3 then true else a==b)=true)→(NT 0 1)),(((bif bif bif !b1 then true else !b2 then true else !b3 then true else a==b)=false)→ ((!bif bif bif !b1 then true else !b2 then true else !b3 then true else a==b)=true)),((bif bif bif bif !b1 then true else !b2 then true else !b3 then true else a==b then true else (↑v.2.1.1:Int)==24)=true),(AI v.1),(AN 0),(AN v.2.1.1),(false=false),(AN 2),(NL v.2.1.1 v.2.1.1),(AA v.2.1.1 (fun i=>[.p (.int .i64 ((v.2.1.2 i).1)),.p (.int .i64 ((v.2.1.2 i).2.1))])),(AE v.2.1.1)] [0,1,0,2,0,3,4,5,5,6,5,7,8,9,9,10,9,11,12,12,13,14,15,14,14,16,17,0,0,2,0,18,19,20,21,22,23,24,25]):=by kernel_rfl
theorem bIa (v:T_Graph) (a b:Int) (b1 b2 b3:Bool) (x:T_Bar) :
    zT Tryz.f84 [rg 3,rm [(1,oc [(0,brOb v.2.1.1 v.2.1.2)] (.agg [.p (.int .i64 v.1),.ar 2 0 0 v.2.1.1]))] 2,rm [(1,oc [] (.p (.bool b1))),(4,oc [] (.p (.bool b2))),(5,oc [] (.p (.bool b3)))] 13,.dec false,rm [(4,oc [] (.agg [.p (.int .i64 x.1),.p (.int .i64 x.2.1)]))] 4,.head] [graphA v,.p (.int .i64 a),.p (.int .i64 b)] [32,160,1248] (SAB v.1 (v.2.1.1+1) (snoc v.2.1.1 v.2.1.2 x)) =
    some ([.code (cAt (bodyOf Tryz.f84) [1,1,1,1,0]),.code (cAt (bodyOf Tryz.f84) [1,1,1,1,1])],zD [(NT 0 1),zE 141 [(zf80 v)] (zf83 v) (.agg [.p (.int .i64 v.1),.ar 2 0 0 v.2.1.1]),((true=true)→ (AN 1)),zE 130 [(zf80 v)] [] (.p (.bool b1)),(((!!b1)=true)→(NT 0 1)),(AG (!!b1)),(((!!b1)=true)→ zE 148 [(zf80 v),.p (.int .i64 a)] [] (.p (.bool b2))),(((!b1)=false)→ ((!!b1)=true)),(((!bif !b1 then true else !b2)=true)→(NT 0 1)),(AG (!bif !b1 then true else !b2)),(((!bif !b1 then true else !b2)=true)→ zE 148 [(zf80 v),.p (.int .i64 b)] [] (.p (.bool b3))),(((bif !b1 then true else !b2)=false)→ ((!bif !b1 then true else !b2)=true)),(AG (!bif bif !b1 then true else !b2 then true else !b3)),(((bif bif !b1 then true else !b2 then true else !b3)=false)→ ((!bif bif !b1 then true else !b2 then true else !b3)=true)),(AG (!bif bif bif !b1 then true else !b2 then true else !b3 then true else a==b)),(((!bif bif bif !b1 then true else !b2 then true else !b3 then true else a==b)=true)→(NT 0 1)),(((bif bif bif !b1 then true else !b2 then true else !b3 then true else a==b)=false)→ ((!bif bif bif !b1 then true else !b2 then true else !b3 then true else a==b)=true)),((bif bif bif bif !b1 then true else !b2 then true else !b3 then true else a==b then true else (↑v.2.1.1:Int)==24)=false),zE 106 [.p (.int .i64 a),.p (.int .i64 b)] [] (.agg [.p (.int .i64 x.1),.p (.int .i64 x.2.1)]),(NL 1 1),(NL v.2.1.1 v.2.1.1),(NL ((v.2.1.1+1)*16) 140737488355328),(NL (v.2.1.1+1) 9223372036854775807),(AN 0),((((List.map (fun v=>AV.p (absV v)) [Value.int IntKind.i64 0,Value.slice none 0 0]).length):Nat)=2),(AI 0),(AI v.1),(AN ((v.2.1.1+1))),(AN 2),(NL (v.2.1.1+1) (v.2.1.1+1)),(CV [(160,⟨true,2,1,(fun i_1=>[.p (.int .i64 v.1),.ar 2 1248 0 (v.2.1.1+1)])⟩),(1248,⟨false,2,(v.2.1.1+1),(fun i_1=>(if (i_1<v.2.1.1) then [.p (.int .i64 ((v.2.1.2 i_1).1)),.p (.int .i64 ((v.2.1.2 i_1).2.1))] else [.p (.int .i64 x.1),.p (.int .i64 x.2.1)]))⟩),(1216,⟨false,2,1,(fun i_1=>[.p (.int .i64 x.1),.p (.int .i64 x.2.1)])⟩),(32,⟨true,2,1,(fun i_1=>[.p (.int .i64 0),.p (.nil)])⟩),(0,⟨true,2,1,(fun i_1=>[.p (.int .i64 v.1),.p (.seq true 2 v.2.1.1 (bRw v.2.1.2))])⟩)] [32,160,1248] 1 (v.2.1.1+1) (fun i=>if (i<v.2.1.1) then [.p (.int .i64 ((v.2.1.2 i).1)),.p (.int .i64 ((v.2.1.2 i).2.1))] else [.p (.int .i64 x.1),.p (.int .i64 x.2.1)]) (fun i=>[.p (.int .i64 (if i<v.2.1.1 then (v.2.1.2 i).1 else x.1)),.p (.int .i64 (if i<v.2.1.1 then (v.2.1.2 i).2.1 else x.2.1))]))] [0,1,0,2,0,3,4,5,5,6,5,7,8,9,9,10,9,11,12,12,13,14,15,14,14,16,17,0,18,19,20,21,22,0,2,23,23,24,19,19,25,24,19,19,26,23,27,28,29,30]):=by kernel_rfl
theorem bIb (N:Int) (n:Nat) (h r:Nat→T_Bar) :
    zP Tryz.f84 0 [rm [(2,oq [2] [(0,brOb n r)] (.tup []))] 0,rg 3] [.code (cAt (bodyOf Tryz.f84) [1,1,1,1,0]),.code (cAt (bodyOf Tryz.f84) [1,1,1,1,1])] (SAB N n h) [2] 1 [(0,brOb n r)] ((zf99 N n)) =
    some [(NT 0 1),(AE n),Con Tryz.prog 132 1 (zf89 n h) [.ar 2 0 0 n,.p (.fn 133)] (zf89 n r) (.tup []),(NT 0 1),(NT 0 1),((true=true)→ (AN 1)),(NT 0 1),(AI N),(AN 0),(AN n),(true=true),(AN 2),(NL n n),(AA n (fun i=>[.p (.int .i64 ((r i).1)),.p (.int .i64 ((r i).2.1))])),(AE n)]:=by kernel_rfl
theorem con_copyGraph (v:T_Graph) (hn:v.2.1.1≤1048576):zE 141 [graphA v] [(0,brOb v.2.1.1 v.2.1.2)] (.agg [.p (.int .i64 v.1),.ar 2 0 0 v.2.1.1]):=by
  refine csZ Tryz.func141 (fun c hc=>?_)
  refine pkZ Tryz.func141 hc (bCi v) ?_
  and_intros
  all_goals (first | exact zI | (intro j hj;simp [All];done) | (simp;try omega))
theorem con_AddBar_i (v:T_Graph) (hs:smS s_Graph v) (a b:Int) :
    zE 84 [graphA v,.p (.int .i64 a),.p (.int .i64 b)] [(0,brOb (abG v a b).2.1.1 (abG v a b).2.1.2)] (.tup [.agg [.p (.int .i64 (abG v a b).1),.ar 2 0 0 (abG v a b).2.1.1],.p (.bool (abB v a b))]):=by
  have hn:v.2.1.1≤1048576:=hs.2.1.1
  have cc:=con_copyGraph v hn
  have c1:=con_IsGraph_i v hs
  have c2:isGraphF v=true→∀ p,zE 148 [graphA v,.p (.int .i64 p)] [] (.p (.bool (inB p 0 (v.1 - 1)))):=fun h p=>by
    have:=graph_inR h
    exact con_hasX v p this.1 this.2.1
  have hcd:(bif bif bif bif !isGraphF v then true else !inB a 0 (v.1 - 1) then true else !inB b 0 (v.1 - 1) then true else a==b then true else (v.2.1.1:Int)==24)=!abB v a b:=by
    unfold abB
    cases isGraphF v<;>cases inB a 0 (v.1 - 1)<;>cases inB b 0 (v.1 - 1)<;>cases (a==b)<;>cases ((v.2.1.1:Int)==24)<;>rfl
  have c2a:(!!isGraphF v)=true→zE 148 [graphA v,.p (.int .i64 a)] [] (.p (.bool (inB a 0 (v.1 - 1)))):=fun h=>c2 (by simpa using h) a
  have c2b:(!bif !isGraphF v then true else !inB a 0 (v.1 - 1))=true→zE 148 [graphA v,.p (.int .i64 b)] [] (.p (.bool (inB b 0 (v.1 - 1)))):=fun h=>c2 (by
    cases hb:isGraphF v with
    | true=>rfl
    | false=>rw [hb] at h;simp at h) b
  refine csZ Tryz.func84 (fun c hc=>?_)
  cases hb:abB v a b with
  | false =>
    rw [hb] at hcd
    have hcd':(bif bif bif bif !isGraphF v then true else !inB a 0 (v.1 - 1) then true else !inB b 0 (v.1 - 1) then true else a==b then true else (v.2.1.1:Int)==24)=true:=hcd
    rw [show abG v a b=v by simp [abG,hb]]
    refine pkD Tryz.func84 hc (bIf v a b (isGraphF v) (inB a 0 (v.1 - 1)) (inB b 0 (v.1 - 1))) ?_
    and_intros
    all_goals (first | exact zH | (exact cc) | (exact c1) | (exact c2a) | (exact c2b) | (exact hcd') | (intro j hj;simp [All]))
  | true =>
    rw [hb] at hcd
    have hcd':(bif bif bif bif !isGraphF v then true else !inB a 0 (v.1 - 1) then true else !inB b 0 (v.1 - 1) then true else a==b then true else (v.2.1.1:Int)==24)=false:=hcd
    have hin:=abB_in hb
    rw [show abG v a b=(v.1,(v.2.1.1+1,srtB (v.2.1.1+1) (snoc v.2.1.1 v.2.1.2 (brX a b))),()) by simp [abG,hb]]
    have cb:=con_barX a b
    have h2:=con_sortBars (v.2.1.1+1) (snoc v.2.1.1 v.2.1.2 (brX a b)) (by omega)
    generalize brX a b=x at cb h2 ⊢
    generalize srtB (v.2.1.1+1) (snoc v.2.1.1 v.2.1.2 x)=r at h2 ⊢
    refine pcD hc (bIa v a b (isGraphF v) (inB a 0 (v.1 - 1)) (inB b 0 (v.1 - 1)) x) ?_ (pkZ Tryz.func84 hc (bIb v.1 (v.2.1.1+1) (snoc v.2.1.1 v.2.1.2 x) r) ?_)
    ·
      and_intros
      all_goals (first | exact zH | (exact cc) | (exact c1) | (exact c2a) | (exact c2b) | (exact hcd') | (exact cb) | (intro j hj;by_cases h':j<v.2.1.1<;>simp [h',snoc,cvtL,cvt,tg,tru,All];done) | (intro j hj;simp [All];done) | (simp;try omega))
    ·
      and_intros
      all_goals (first | exact zH | (exact h2) | (intro j hj;simp [All];done) | (simp;try omega))
def dblB (g:Nat→T_Bar):Nat→Bool
  | 0=>false
  | k+1=>dblB g k||(decide (1≤k)&&q1_BarS (g ((k:Int) - 1).toNat) (g k))
def simpleF (v:T_Graph):Bool:=!dblB v.2.1.2 v.2.1.1&&isGraphF v
def S86 (v:T_Graph) (k:Nat):St :=
  ⟨[graphA v,.pt 2 0 0 0,.p .any,.p (.int .i64 k)]++List.replicate 21 anyA,[(0,boxG v)],1⟩
def S88 (v:T_Graph) (k:Nat):St :=
  ⟨[graphA v,.pt 2 0 0 0,.p .any,.p (.int .i64 k)]++List.replicate 19 anyA,[(0,boxG v)],1⟩
theorem p86a (v:T_Graph) :
    zT Tryz.f151 [rg 2,rg 1,.head] [graphA v] [0] (S86 v 1) =
    some (zf70,zD [(AI v.1),(AN v.2.1.1),(AP v.2.1.1 (bRw v.2.1.2)),(AN 0),((1:Int)=(↑1:Int)),((([AV.p (PV.int IntKind.i64 v.1),graphL v.2.1].length):Nat)=2),(NL 1 1)] [0,1,2,3,4,5,6,6,0,1,2]):=by kernel_rfl
theorem p86b (v:T_Graph) (k:Nat) :
    zM 0 [rg 5,.dec true,rg 12,.dec false,rg 3,.head] zf70 (S86 v k) [0] 1 (S86 v (k+1)) =
    some (zf70,zD [(NT 0 1),((decide ((↑k:Int)<(↑v.2.1.1:Int)))=true),(ZLo ((↑k:Int) - 1)),(ZHi ((↑k:Int) - 1)),(IL 0 ((↑k:Int) - 1)),(IT ((↑k:Int) - 1) (↑v.2.1.1:Int)),(IL 0 (↑k:Int)),(IT (↑k:Int) (↑v.2.1.1:Int)),(((v.2.1.2 ((↑k:Int) - 1).toNat).1==(v.2.1.2 k).1&&((v.2.1.2 ((↑k:Int) - 1).toNat).2.1==(v.2.1.2 k).2.1&&true))=false),(ZLo ((↑k:Int)+1)),(ZHi ((↑k:Int)+1)),(AI v.1),(AN v.2.1.1),(AP v.2.1.1 (bRw v.2.1.2)),(AN 0),((((↑k:Int)+1):Int)=(↑(k+1):Int)),(AN 2),(NL 1 1)] [0,1,0,2,3,4,5,0,6,7,8,9,10,11,12,13,14,15,16,17,17,11,12,13]):=by kernel_rfl
theorem p86c (v:T_Graph) (k:Nat) :
    zP Tryz.f151 0 [rg 5,.dec true,rg 12,.dec true,rg 1] zf70 (S86 v k) [] 1 [] (.p (.bool false)) =
    some [(NT 0 1),((decide ((↑k:Int)<(↑v.2.1.1:Int)))=true),(NT 0 1),(ZLo ((↑k:Int) - 1)),(ZHi ((↑k:Int) - 1)),(IL 0 ((↑k:Int) - 1)),(IT ((↑k:Int) - 1) (↑v.2.1.1:Int)),(NT 0 1),(IL 0 (↑k:Int)),(IT (↑k:Int) (↑v.2.1.1:Int)),(((v.2.1.2 ((↑k:Int) - 1).toNat).1==(v.2.1.2 k).1&&((v.2.1.2 ((↑k:Int) - 1).toNat).2.1==(v.2.1.2 k).2.1&&true))=true),(false=false)]:=by kernel_rfl
theorem p86d (v:T_Graph) (k:Nat) :
    zP Tryz.f151 0 [rg 5,.dec false,rm [(1,oc [] (.p (.bool (isGraphF v))))] 1] zf70 (S86 v k) [] 1 [] (.p (.bool (isGraphF v))) =
    some [(NT 0 1),((decide ((↑k:Int)<(↑v.2.1.1:Int)))=false),(NT 0 1),zE 134 [(zf80 v)] [] (.p (.bool (isGraphF v))),((isGraphF v)=(isGraphF v))]:=by kernel_rfl
theorem p88a (v:T_Graph) :
    zT Tryz.f147 [rg 2,rg 1,.head] [graphA v] [0] (S88 v 1) =
    some (zf71,zD [(AI v.1),(AN v.2.1.1),(AP v.2.1.1 (bRw v.2.1.2)),(AN 0),((1:Int)=(↑1:Int)),((([AV.p (PV.int IntKind.i64 v.1),graphL v.2.1].length):Nat)=2),(NL 1 1)] [0,1,2,3,4,5,6,6,0,1,2]):=by kernel_rfl
theorem p88b (v:T_Graph) (k:Nat) :
    zM 0 [rg 5,.dec true,rg 12,.dec false,rg 3,.head] zf71 (S88 v k) [0] 1 (S88 v (k+1)) =
    some (zf71,zD [(NT 0 1),((decide ((↑k:Int)<(↑v.2.1.1:Int)))=true),(ZLo ((↑k:Int) - 1)),(ZHi ((↑k:Int) - 1)),(IL 0 ((↑k:Int) - 1)),(IT ((↑k:Int) - 1) (↑v.2.1.1:Int)),(IL 0 (↑k:Int)),(IT (↑k:Int) (↑v.2.1.1:Int)),(((v.2.1.2 ((↑k:Int) - 1).toNat).1==(v.2.1.2 k).1&&((v.2.1.2 ((↑k:Int) - 1).toNat).2.1==(v.2.1.2 k).2.1&&true))=false),(ZLo ((↑k:Int)+1)),(ZHi ((↑k:Int)+1)),(AI v.1),(AN v.2.1.1),(AP v.2.1.1 (bRw v.2.1.2)),(AN 0),((((↑k:Int)+1):Int)=(↑(k+1):Int)),(AN 2),(NL 1 1)] [0,1,0,2,3,4,5,0,6,7,8,9,10,11,12,13,14,15,16,17,17,11,12,13]):=by kernel_rfl
theorem p88c (v:T_Graph) (k:Nat) :
    zP Tryz.f147 0 [rg 5,.dec true,rg 12,.dec true,rg 1] zf71 (S88 v k) [] 1 [] (.p (.bool true)) =
    some [(NT 0 1),((decide ((↑k:Int)<(↑v.2.1.1:Int)))=true),(NT 0 1),(ZLo ((↑k:Int) - 1)),(ZHi ((↑k:Int) - 1)),(IL 0 ((↑k:Int) - 1)),(IT ((↑k:Int) - 1) (↑v.2.1.1:Int)),(NT 0 1),(IL 0 (↑k:Int)),(IT (↑k:Int) (↑v.2.1.1:Int)),(((v.2.1.2 ((↑k:Int) - 1).toNat).1==(v.2.1.2 k).1&&((v.2.1.2 ((↑k:Int) - 1).toNat).2.1==(v.2.1.2 k).2.1&&true))=true),(true=true)]:=by kernel_rfl
theorem p88d (v:T_Graph) (k:Nat) :
    zP Tryz.f147 0 [rg 5,.dec false,rg 1] zf71 (S88 v k) [] 1 [] (.p (.bool false)) =
    some [(NT 0 1),((decide ((↑k:Int)<(↑v.2.1.1:Int)))=false),(false=false)]:=by kernel_rfl
theorem p89 (v:T_Graph) (p:Int) :
    zS Tryz.f148 [rg 2,rm [(4,oc [] (.p (.bool (inB p 0 (v.1 - 1)))))] 1] [graphA v,.p (.int .i64 p)] [] [] (.p (.bool (inB p 0 (v.1 - 1)))) =
    some [(NT 0 1),(ZLo (v.1 - 1)),(ZHi (v.1 - 1)),zE 90 [.p (.int .i64 p),.p (.int .i64 0),.p (.int .i64 (v.1 - 1))] [] (.p (.bool (inB p 0 (v.1 - 1)))),((inB p 0 (v.1 - 1))=(inB p 0 (v.1 - 1)))]:=by kernel_rfl
theorem dblB_hit (g:Nat→T_Bar) (k:Nat) (h1:1≤k) (h:q1_BarS (g ((k:Int) - 1).toNat) (g k)=true):∀ n,k<n→dblB g n=true
  | 0,h'=>by omega
  | n+1,h'=>by
    by_cases e:k=n
    · subst e;rw [dblB,h,decide_eq_true h1];simp
    · simp [dblB,dblB_hit g k h1 h n (by omega)]
theorem con_l17Simple (v:T_Graph) (hs:smS s_Graph v):zE 151 [graphA v] [] (.p (.bool (simpleF v))):=by
  refine csZ Tryz.func151 (fun c hc=>?_)
  have hn:v.2.1.1≤1048576:=hs.2.1.1
  have lp:∀ m k,1≤k→v.2.1.1≤k+m→k≤1048577→dblB v.2.1.2 (min k v.2.1.1)=false→zR c 151 zf70 (S86 v k) (Post c [] (.p (.bool (simpleF v)))):=by
    intro m
    induction m with
    | zero =>
      intro k h1 hk hk2 hg
      have hd:decide ((k:Int)<(v.2.1.1:Int))=false:=by simp;omega
      rw [show min k v.2.1.1=v.2.1.1 by omega] at hg
      rw [show simpleF v=isGraphF v by simp [simpleF,hg]]
      refine pkZ Tryz.func151 hc (p86d v k) ?_
      and_intros
      all_goals (first | exact zN | (exact con_IsGraph_s v hs))
    | succ m ih =>
      intro k h1 hk hk2 hg
      by_cases hkn:k<v.2.1.1
      · have hd:decide ((k:Int)<(v.2.1.1:Int))=true:=by simp;omega
        rw [show min k v.2.1.1=k by omega] at hg
        cases he:q1_BarS (v.2.1.2 ((k:Int) - 1).toNat) (v.2.1.2 k) with
        | true =>
          rw [show simpleF v=false by simp [simpleF,dblB_hit v.2.1.2 k h1 he v.2.1.1 hkn]]
          refine pkZ Tryz.func151 hc (p86c v k) ?_
          and_intros
          all_goals (first | exact zN | (exact he))
        | false =>
          refine pcD hc (p86b v k) ?_ (ih (k+1) (by omega) (by omega) (by omega) (by rw [show min (k+1) v.2.1.1=k+1 by omega];rw [dblB,hg,he];simp))
          and_intros
          all_goals (first | exact zN | (exact he) | (simp [All]))
      · have hd:decide ((k:Int)<(v.2.1.1:Int))=false:=by simp;omega
        rw [show min k v.2.1.1=v.2.1.1 by omega] at hg
        rw [show simpleF v=isGraphF v by simp [simpleF,hg]]
        refine pkZ Tryz.func151 hc (p86d v k) ?_
        and_intros
        all_goals (first | exact zN | (exact con_IsGraph_s v hs))
  have h0:dblB v.2.1.2 (min 1 v.2.1.1)=false:=by
    by_cases h:v.2.1.1=0
    · rw [h];rfl
    · rw [show min 1 v.2.1.1=1 by omega];simp [dblB]
  refine pcD hc (p86a v) ?_ (lp v.2.1.1 1 (by omega) (by omega) (by omega) h0)
  and_intros
  all_goals (first | exact zN | (simp [All]))
theorem con_hasDoubles (v:T_Graph) (hs:smS s_Graph v):zE 147 [graphA v] [] (.p (.bool (dblB v.2.1.2 v.2.1.1))):=by
  refine csZ Tryz.func147 (fun c hc=>?_)
  have hn:v.2.1.1≤1048576:=hs.2.1.1
  have lp:∀ m k,1≤k→v.2.1.1≤k+m→k≤1048577→dblB v.2.1.2 (min k v.2.1.1)=false→zR c 147 zf71 (S88 v k) (Post c [] (.p (.bool (dblB v.2.1.2 v.2.1.1)))):=by
    intro m
    induction m with
    | zero =>
      intro k h1 hk hk2 hg
      have hd:decide ((k:Int)<(v.2.1.1:Int))=false:=by simp;omega
      rw [show min k v.2.1.1=v.2.1.1 by omega] at hg
      rw [hg]
      refine pkZ Tryz.func147 hc (p88d v k) ?_
      and_intros
      all_goals (first | exact zN)
    | succ m ih =>
      intro k h1 hk hk2 hg
      by_cases hkn:k<v.2.1.1
      · have hd:decide ((k:Int)<(v.2.1.1:Int))=true:=by simp;omega
        rw [show min k v.2.1.1=k by omega] at hg
        cases he:q1_BarS (v.2.1.2 ((k:Int) - 1).toNat) (v.2.1.2 k) with
        | true =>
          rw [dblB_hit v.2.1.2 k h1 he v.2.1.1 hkn]
          refine pkZ Tryz.func147 hc (p88c v k) ?_
          and_intros
          all_goals (first | exact zN | (exact he))
        | false =>
          refine pcD hc (p88b v k) ?_ (ih (k+1) (by omega) (by omega) (by omega) (by rw [show min (k+1) v.2.1.1=k+1 by omega];rw [dblB,hg,he];simp))
          and_intros
          all_goals (first | exact zN | (exact he) | (simp [All]))
      · have hd:decide ((k:Int)<(v.2.1.1:Int))=false:=by simp;omega
        rw [show min k v.2.1.1=v.2.1.1 by omega] at hg
        rw [hg]
        refine pkZ Tryz.func147 hc (p88d v k) ?_
        and_intros
        all_goals (first | exact zN)
  have h0:dblB v.2.1.2 (min 1 v.2.1.1)=false:=by
    by_cases h:v.2.1.1=0
    · rw [h];rfl
    · rw [show min 1 v.2.1.1=1 by omega];simp [dblB]
  refine pcD hc (p88a v) ?_ (lp v.2.1.1 1 (by omega) (by omega) (by omega) h0)
  and_intros
  all_goals (first | exact zN | (simp [All]))
theorem con_Graphhas (v:T_Graph) (p:Int) (h1:1≤v.1) (h2:v.1≤8):zE 148 [graphA v,.p (.int .i64 p)] [] (.p (.bool (inB p 0 (v.1 - 1)))):=by
  refine csZ Tryz.func148 (fun c hc=>?_)
  refine pkZ Tryz.func148 hc (p89 v p) ?_
  and_intros
  all_goals (first | exact zN | (exact con_within _ _ _))
def badP (N:Int) (g:Nat→Int) (k:Nat):Bool :=
  bif bif decide (g k<0) then true else decide (g k≥N) then true else bif decide ((k:Int)>0) then decide (g ((k:Int) - 1).toNat≥g k) else false
def goodP (N:Int) (g:Nat→Int):Nat→Bool
  | 0=>true
  | k+1=>goodP N g k&&!badP N g k
def bothP (p:T_IntS) (b:T_Bar):Bool:=bif hasI p.2 b.1 p.1 then hasI p.2 b.2.1 p.1 else false
def freeP (p:T_IntS) (g:Nat→T_Bar):Nat→Bool
  | 0=>true
  | k+1=>freeP p g k&&!bothP p (g k)
def tailP (v:T_Pinned):Bool :=
  bif bif bif simpleF v.1 then decide ((v.2.1.1:Int)≥2) else false then decide ((v.1.2.1.1:Int)≤15) else false then decide ((v.1.2.1.1:Int)+2*(v.2.1.1:Int) - 3≤24) else false
def pinnedF (v:T_Pinned):Bool:=goodP v.1.1 v.2.1.2 v.2.1.1&&(freeP v.2.1 v.1.2.1.2 v.1.2.1.1&&tailP v)
def pinA (v:T_Pinned):AV:=.agg [.p (.int .i64 v.1.1),graphL v.1.2.1,inL v.2.1]
def boxP (v:T_Pinned):Ob:=⟨true,3,1,fun i=>[.p (.int .i64 v.1.1),graphL v.1.2.1,inL v.2.1]⟩
def S56a (v:T_Pinned) (k:Nat):St :=
  ⟨[pinA v,.pt 3 0 0 0,.p .any,.p (.int .i64 k)]++List.replicate 102 anyA,[(0,boxP v)],1⟩
def S56b (v:T_Pinned) (k:Nat):St :=
  ⟨[pinA v,.pt 3 0 0 0,.p .any,.p .any,.p (.int .i64 k)]++List.replicate 101 anyA,[(0,boxP v)],1⟩
theorem p56a (v:T_Pinned) :
    zT Tryz.f77 [rg 2,rg 1,.head] [pinA v] [0] (S56a v 0) =
    some (zf73,zD [(AI v.1.1),(AN v.1.2.1.1),(AP v.1.2.1.1 (fun i=>[.int .i64 ((v.1.2.1.2 i).1),.int .i64 ((v.1.2.1.2 i).2.1)])),(AN v.2.1.1),(AP v.2.1.1 (fun i=>[.int .i64 (v.2.1.2 i)])),(AN 0),((0:Int)=(↑0:Int)),((([AV.p (PV.int IntKind.i64 v.1.1),graphL v.1.2.1,inL v.2.1].length):Nat)=3),(NL 1 1)] [0,1,2,3,4,5,6,7,8,8,0,1,2,3,4]):=by kernel_rfl
theorem p56b (v:T_Pinned) (k:Nat) :
    zM 0 [rg 5,.dec true,rg 35,.dec false,rg 3,.head] zf73 (S56a v k) [0] 1 (S56a v (k+1)) =
    some (zf73,zD [(NT 0 1),((decide ((↑k:Int)<(↑v.2.1.1:Int)))=true),(IL 0 (↑k:Int)),(IT (↑k:Int) (↑v.2.1.1:Int)),(AG (!decide (v.2.1.2 (↑k:Int).toNat<0))),(((!decide (v.2.1.2 (↑k:Int).toNat<0))=true)→(NT 0 1)),(((!decide (v.2.1.2 (↑k:Int).toNat<0))=true)→(IL 0 (↑k:Int))),(((!decide (v.2.1.2 (↑k:Int).toNat<0))=true)→(IT (↑k:Int) (↑v.2.1.1:Int))),(((decide (v.2.1.2 (↑k:Int).toNat<0))=false)→ ((!decide (v.2.1.2 (↑k:Int).toNat<0))=true)),(AG (!bif decide (v.2.1.2 (↑k:Int).toNat<0) then true else decide (v.2.1.2 (↑k:Int).toNat≥v.1.1))),(AG ((!bif decide (v.2.1.2 (↑k:Int).toNat<0) then true else decide (v.2.1.2 (↑k:Int).toNat≥v.1.1))&&decide ((↑k:Int)>0))),((((!bif decide (v.2.1.2 (↑k:Int).toNat<0) then true else decide (v.2.1.2 (↑k:Int).toNat≥v.1.1))&&decide ((↑k:Int)>0))=true)→(NT 0 1)),((((!bif decide (v.2.1.2 (↑k:Int).toNat<0) then true else decide (v.2.1.2 (↑k:Int).toNat≥v.1.1))&&decide ((↑k:Int)>0))=true)→(ZLo ((↑k:Int) - 1))),((((!bif decide (v.2.1.2 (↑k:Int).toNat<0) then true else decide (v.2.1.2 (↑k:Int).toNat≥v.1.1))&&decide ((↑k:Int)>0))=true)→(ZHi ((↑k:Int) - 1))),((((!bif decide (v.2.1.2 (↑k:Int).toNat<0) then true else decide (v.2.1.2 (↑k:Int).toNat≥v.1.1))&&decide ((↑k:Int)>0))=true)→(IL 0 ((↑k:Int) - 1))),((((!bif decide (v.2.1.2 (↑k:Int).toNat<0) then true else decide (v.2.1.2 (↑k:Int).toNat≥v.1.1))&&decide ((↑k:Int)>0))=true)→(IT ((↑k:Int) - 1) (↑v.2.1.1:Int))),((((!bif decide (v.2.1.2 (↑k:Int).toNat<0) then true else decide (v.2.1.2 (↑k:Int).toNat≥v.1.1))&&decide ((↑k:Int)>0))=true)→(IL 0 (↑k:Int))),((((!bif decide (v.2.1.2 (↑k:Int).toNat<0) then true else decide (v.2.1.2 (↑k:Int).toNat≥v.1.1))&&decide ((↑k:Int)>0))=true)→(IT (↑k:Int) (↑v.2.1.1:Int))),(((!bif decide (v.2.1.2 (↑k:Int).toNat<0) then true else decide (v.2.1.2 (↑k:Int).toNat≥v.1.1))=true)→(((decide ((↑k:Int)>0))=true)→ (((!bif decide (v.2.1.2 (↑k:Int).toNat<0) then true else decide (v.2.1.2 (↑k:Int).toNat≥v.1.1))&&decide ((↑k:Int)>0))=true))),(((bif decide (v.2.1.2 (↑k:Int).toNat<0) then true else decide (v.2.1.2 (↑k:Int).toNat≥v.1.1))=false)→ ((!bif decide (v.2.1.2 (↑k:Int).toNat<0) then true else decide (v.2.1.2 (↑k:Int).toNat≥v.1.1))=true)),((bif bif decide (v.2.1.2 (↑k:Int).toNat<0) then true else decide (v.2.1.2 (↑k:Int).toNat≥v.1.1) then true else bif decide ((↑k:Int)>0) then decide (v.2.1.2 ((↑k:Int) - 1).toNat≥v.2.1.2 (↑k:Int).toNat) else false)=false),(ZLo ((↑k:Int)+1)),(ZHi ((↑k:Int)+1)),(AI v.1.1),(AN v.1.2.1.1),(AP v.1.2.1.1 (fun i=>[.int .i64 ((v.1.2.1.2 i).1),.int .i64 ((v.1.2.1.2 i).2.1)])),(AN v.2.1.1),(AP v.2.1.1 (fun i=>[.int .i64 (v.2.1.2 i)])),(AN 0),((((↑k:Int)+1):Int)=(↑(k+1):Int)),(AN 3),(NL 1 1)] [0,1,0,2,3,4,5,4,4,6,7,4,4,4,5,4,4,8,9,9,10,11,10,12,13,10,10,14,15,10,10,11,10,10,16,17,10,10,10,9,18,19,20,21,22,23,24,25,26,27,28,29,30,31,31,23,24,25,26,27]):=by kernel_rfl
theorem p56c (v:T_Pinned) (k:Nat) :
    zP Tryz.f77 0 [rg 5,.dec true,rg 35,.dec true,rg 1] zf73 (S56a v k) [] 1 [] (.p (.bool false)) =
    some (zD [(NT 0 1),((decide ((↑k:Int)<(↑v.2.1.1:Int)))=true),(IL 0 (↑k:Int)),(IT (↑k:Int) (↑v.2.1.1:Int)),(AG (!decide (v.2.1.2 (↑k:Int).toNat<0))),(((!decide (v.2.1.2 (↑k:Int).toNat<0))=true)→(NT 0 1)),(((!decide (v.2.1.2 (↑k:Int).toNat<0))=true)→(IL 0 (↑k:Int))),(((!decide (v.2.1.2 (↑k:Int).toNat<0))=true)→(IT (↑k:Int) (↑v.2.1.1:Int))),(((decide (v.2.1.2 (↑k:Int).toNat<0))=false)→ ((!decide (v.2.1.2 (↑k:Int).toNat<0))=true)),(AG (!bif decide (v.2.1.2 (↑k:Int).toNat<0) then true else decide (v.2.1.2 (↑k:Int).toNat≥v.1.1))),(AG ((!bif decide (v.2.1.2 (↑k:Int).toNat<0) then true else decide (v.2.1.2 (↑k:Int).toNat≥v.1.1))&&decide ((↑k:Int)>0))),((((!bif decide (v.2.1.2 (↑k:Int).toNat<0) then true else decide (v.2.1.2 (↑k:Int).toNat≥v.1.1))&&decide ((↑k:Int)>0))=true)→(NT 0 1)),((((!bif decide (v.2.1.2 (↑k:Int).toNat<0) then true else decide (v.2.1.2 (↑k:Int).toNat≥v.1.1))&&decide ((↑k:Int)>0))=true)→(ZLo ((↑k:Int) - 1))),((((!bif decide (v.2.1.2 (↑k:Int).toNat<0) then true else decide (v.2.1.2 (↑k:Int).toNat≥v.1.1))&&decide ((↑k:Int)>0))=true)→(ZHi ((↑k:Int) - 1))),((((!bif decide (v.2.1.2 (↑k:Int).toNat<0) then true else decide (v.2.1.2 (↑k:Int).toNat≥v.1.1))&&decide ((↑k:Int)>0))=true)→(IL 0 ((↑k:Int) - 1))),((((!bif decide (v.2.1.2 (↑k:Int).toNat<0) then true else decide (v.2.1.2 (↑k:Int).toNat≥v.1.1))&&decide ((↑k:Int)>0))=true)→(IT ((↑k:Int) - 1) (↑v.2.1.1:Int))),((((!bif decide (v.2.1.2 (↑k:Int).toNat<0) then true else decide (v.2.1.2 (↑k:Int).toNat≥v.1.1))&&decide ((↑k:Int)>0))=true)→(IL 0 (↑k:Int))),((((!bif decide (v.2.1.2 (↑k:Int).toNat<0) then true else decide (v.2.1.2 (↑k:Int).toNat≥v.1.1))&&decide ((↑k:Int)>0))=true)→(IT (↑k:Int) (↑v.2.1.1:Int))),(((!bif decide (v.2.1.2 (↑k:Int).toNat<0) then true else decide (v.2.1.2 (↑k:Int).toNat≥v.1.1))=true)→(((decide ((↑k:Int)>0))=true)→ (((!bif decide (v.2.1.2 (↑k:Int).toNat<0) then true else decide (v.2.1.2 (↑k:Int).toNat≥v.1.1))&&decide ((↑k:Int)>0))=true))),(((bif decide (v.2.1.2 (↑k:Int).toNat<0) then true else decide (v.2.1.2 (↑k:Int).toNat≥v.1.1))=false)→ ((!bif decide (v.2.1.2 (↑k:Int).toNat<0) then true else decide (v.2.1.2 (↑k:Int).toNat≥v.1.1))=true)),((bif bif decide (v.2.1.2 (↑k:Int).toNat<0) then true else decide (v.2.1.2 (↑k:Int).toNat≥v.1.1) then true else bif decide ((↑k:Int)>0) then decide (v.2.1.2 ((↑k:Int) - 1).toNat≥v.2.1.2 (↑k:Int).toNat) else false)=true),(false=false)] [0,1,0,2,3,4,5,4,4,6,7,4,4,4,5,4,4,8,9,9,10,11,10,12,13,10,10,14,15,10,10,11,10,10,16,17,10,10,10,9,18,19,20,21]):=by kernel_rfl
theorem p56d (v:T_Pinned) (k:Nat) :
    zM 0 [rg 5,.dec false,rg 1,.head] zf73 (S56a v k) [0] 1 (S56b v 0) =
    some (zf59,zD [(NT 0 1),((decide ((↑k:Int)<(↑v.2.1.1:Int)))=false),(AI v.1.1),(AN v.1.2.1.1),(AP v.1.2.1.1 (fun i=>[.int .i64 ((v.1.2.1.2 i).1),.int .i64 ((v.1.2.1.2 i).2.1)])),(AN v.2.1.1),(AP v.2.1.1 (fun i=>[.int .i64 (v.2.1.2 i)])),(AN 0),((0:Int)=(↑0:Int)),(AN 3),(NL 1 1)] [0,1,2,3,4,5,6,7,8,9,10,10,2,3,4,5,6]):=by kernel_rfl
theorem p56e (v:T_Pinned) (k:Nat) :
    zM 0 [rg 6,.dec true,rm [(9,oc [] (.p (.bool (hasI v.2.1.2 (v.1.2.1.2 k).1 v.2.1.1)))),(10,oc [] (.p (.bool (hasI v.2.1.2 (v.1.2.1.2 k).2.1 v.2.1.1))))] 1,.dec false,rg 3,.head] zf59 (S56b v k) [0] 1 (S56b v (k+1)) =
    some (zf59,zD [(NT 0 1),((decide ((↑k:Int)<(↑v.1.2.1.1:Int)))=true),(IL 0 (↑k:Int)),(IT (↑k:Int) (↑v.1.2.1.1:Int)),zE 92 [.p (.seq true 1 v.2.1.1 (fun i=>[.int .i64 (v.2.1.2 i)])),.p (.int .i64 ((v.1.2.1.2 k).1))] [] (.p (.bool (hasI v.2.1.2 (v.1.2.1.2 k).1 v.2.1.1))),(AG (hasI v.2.1.2 (v.1.2.1.2 k).1 v.2.1.1)),(((hasI v.2.1.2 (v.1.2.1.2 k).1 v.2.1.1)=true)→(NT 0 1)),(((hasI v.2.1.2 (v.1.2.1.2 k).1 v.2.1.1)=true)→(IL 0 (↑k:Int))),(((hasI v.2.1.2 (v.1.2.1.2 k).1 v.2.1.1)=true)→(IT (↑k:Int) (↑v.1.2.1.1:Int))),(((hasI v.2.1.2 (v.1.2.1.2 k).1 v.2.1.1)=true)→ zE 92 [.p (.seq true 1 v.2.1.1 (fun i=>[.int .i64 (v.2.1.2 i)])),.p (.int .i64 ((v.1.2.1.2 k).2.1))] [] (.p (.bool (hasI v.2.1.2 (v.1.2.1.2 k).2.1 v.2.1.1)))),((bif hasI v.2.1.2 (v.1.2.1.2 k).1 v.2.1.1 then hasI v.2.1.2 (v.1.2.1.2 k).2.1 v.2.1.1 else false)=false),(ZLo ((↑k:Int)+1)),(ZHi ((↑k:Int)+1)),(AI v.1.1),(AN v.1.2.1.1),(AP v.1.2.1.1 (fun i=>[.int .i64 ((v.1.2.1.2 i).1),.int .i64 ((v.1.2.1.2 i).2.1)])),(AN v.2.1.1),(AP v.2.1.1 (fun i=>[.int .i64 (v.2.1.2 i)])),(AN 0),((((↑k:Int)+1):Int)=(↑(k+1):Int)),(AN 3),(NL 1 1)] [0,1,0,0,2,3,4,5,6,5,5,6,5,5,7,8,5,5,5,5,9,5,10,11,12,13,14,15,16,17,18,19,20,21,21,13,14,15,16,17]):=by kernel_rfl
theorem p56f (v:T_Pinned) (k:Nat) :
    zP Tryz.f77 0 [rg 6,.dec true,rm [(9,oc [] (.p (.bool (hasI v.2.1.2 (v.1.2.1.2 k).1 v.2.1.1)))),(10,oc [] (.p (.bool (hasI v.2.1.2 (v.1.2.1.2 k).2.1 v.2.1.1))))] 1,.dec true,rg 1] zf59 (S56b v k) [] 1 [] (.p (.bool false)) =
    some (zD [(NT 0 1),((decide ((↑k:Int)<(↑v.1.2.1.1:Int)))=true),(IL 0 (↑k:Int)),(IT (↑k:Int) (↑v.1.2.1.1:Int)),zE 92 [.p (.seq true 1 v.2.1.1 (fun i=>[.int .i64 (v.2.1.2 i)])),.p (.int .i64 ((v.1.2.1.2 k).1))] [] (.p (.bool (hasI v.2.1.2 (v.1.2.1.2 k).1 v.2.1.1))),(AG (hasI v.2.1.2 (v.1.2.1.2 k).1 v.2.1.1)),(((hasI v.2.1.2 (v.1.2.1.2 k).1 v.2.1.1)=true)→(NT 0 1)),(((hasI v.2.1.2 (v.1.2.1.2 k).1 v.2.1.1)=true)→(IL 0 (↑k:Int))),(((hasI v.2.1.2 (v.1.2.1.2 k).1 v.2.1.1)=true)→(IT (↑k:Int) (↑v.1.2.1.1:Int))),(((hasI v.2.1.2 (v.1.2.1.2 k).1 v.2.1.1)=true)→ zE 92 [.p (.seq true 1 v.2.1.1 (fun i=>[.int .i64 (v.2.1.2 i)])),.p (.int .i64 ((v.1.2.1.2 k).2.1))] [] (.p (.bool (hasI v.2.1.2 (v.1.2.1.2 k).2.1 v.2.1.1)))),((bif hasI v.2.1.2 (v.1.2.1.2 k).1 v.2.1.1 then hasI v.2.1.2 (v.1.2.1.2 k).2.1 v.2.1.1 else false)=true),(false=false)] [0,1,0,0,2,3,4,5,6,5,5,6,5,5,7,8,5,5,5,5,9,5,10,11]):=by kernel_rfl
theorem p56g (v:T_Pinned) (k:Nat) :
    zP Tryz.f77 0 [rg 6,.dec false,rm [(2,oc [] (.p (.bool (simpleF v.1))))] 27] zf59 (S56b v k) [] 1 [] (.p (.bool (tailP v))) =
    some (zD [(NT 0 1),((decide ((↑k:Int)<(↑v.1.2.1.1:Int)))=false),zE 151 [(zf78 v)] [] (.p (.bool (simpleF v.1))),(AG (simpleF v.1)),(((simpleF v.1)=true)→(NT 0 1)),(AG (bif simpleF v.1 then decide ((↑v.2.1.1:Int)≥2) else false)),(((bif simpleF v.1 then decide ((↑v.2.1.1:Int)≥2) else false)=true)→(NT 0 1)),(AG (bif bif simpleF v.1 then decide ((↑v.2.1.1:Int)≥2) else false then decide ((↑v.1.2.1.1:Int)≤15) else false)),(((bif bif simpleF v.1 then decide ((↑v.2.1.1:Int)≥2) else false then decide ((↑v.1.2.1.1:Int)≤15) else false)=true)→(NT 0 1)),(((bif bif simpleF v.1 then decide ((↑v.2.1.1:Int)≥2) else false then decide ((↑v.1.2.1.1:Int)≤15) else false)=true)→(ZLo (2*(↑v.2.1.1:Int)))),(((bif bif simpleF v.1 then decide ((↑v.2.1.1:Int)≥2) else false then decide ((↑v.1.2.1.1:Int)≤15) else false)=true)→(ZHi (2*(↑v.2.1.1:Int)))),(((bif bif simpleF v.1 then decide ((↑v.2.1.1:Int)≥2) else false then decide ((↑v.1.2.1.1:Int)≤15) else false)=true)→(ZLo ((↑v.1.2.1.1:Int)+2*(↑v.2.1.1:Int)))),(((bif bif simpleF v.1 then decide ((↑v.2.1.1:Int)≥2) else false then decide ((↑v.1.2.1.1:Int)≤15) else false)=true)→(ZHi ((↑v.1.2.1.1:Int)+2*(↑v.2.1.1:Int)))),(((bif bif simpleF v.1 then decide ((↑v.2.1.1:Int)≥2) else false then decide ((↑v.1.2.1.1:Int)≤15) else false)=true)→(ZLo ((↑v.1.2.1.1:Int)+2*(↑v.2.1.1:Int) - 3))),(((bif bif simpleF v.1 then decide ((↑v.2.1.1:Int)≥2) else false then decide ((↑v.1.2.1.1:Int)≤15) else false)=true)→(ZHi ((↑v.1.2.1.1:Int)+2*(↑v.2.1.1:Int) - 3))),((bif bif bif simpleF v.1 then decide ((↑v.2.1.1:Int)≥2) else false then decide ((↑v.1.2.1.1:Int)≤15) else false then decide ((↑v.1.2.1.1:Int)+2*(↑v.2.1.1:Int) - 3≤24) else false)=(tailP v))] [0,1,0,2,3,4,3,3,3,5,5,6,5,5,5,7,7,8,7,7,8,7,7,9,10,7,7,11,12,7,13,14,7,7,15]):=by kernel_rfl
theorem goodP_bad (N:Int) (g:Nat→Int) (k:Nat) (h:badP N g k=true):∀ n,k<n→goodP N g n=false
  | 0,h'=>by omega
  | n+1,h'=>by
    by_cases e:k=n
    · subst e;rw [goodP,h];simp
    · rw [goodP,goodP_bad N g k h n (by omega)];simp
theorem freeP_bad (p:T_IntS) (g:Nat→T_Bar) (k:Nat) (h:bothP p (g k)=true):∀ n,k<n→freeP p g n=false
  | 0,h'=>by omega
  | n+1,h'=>by
    by_cases e:k=n
    · subst e;rw [freeP,h];simp
    · rw [freeP,freeP_bad p g k h n (by omega)];simp
theorem con_IsPinned_s (v:T_Pinned) (hs:smS s_Pinned v):zE 77 [pinA v] [] (.p (.bool (pinnedF v))):=by
  refine csZ Tryz.func77 (fun c hc=>?_)
  have hg:smS s_Graph v.1:=hs.1
  have hnb:v.1.2.1.1≤1048576:=hs.1.2.1.1
  have hni:v.2.1.1≤1048576:=hs.2.1.1
  have lp2:goodP v.1.1 v.2.1.2 v.2.1.1=true→∀ m k,k+m=v.1.2.1.1→freeP v.2.1 v.1.2.1.2 k=true→zR c 77 zf59 (S56b v k) (Post c [] (.p (.bool (pinnedF v)))):=by
    intro hgood m
    induction m with
    | zero =>
      intro k hk hf
      rw [show pinnedF v=tailP v by rw [pinnedF,hgood,show v.1.2.1.1=k by omega,hf];rfl]
      have hd:decide ((k:Int)<(v.1.2.1.1:Int))=false:=by simp;omega
      refine pkD Tryz.func77 hc (p56g v k) ?_
      and_intros
      all_goals (first | exact zI | (exact con_l17Simple v.1 hg))
    | succ m ih =>
      intro k hk hf
      have hd:decide ((k:Int)<(v.1.2.1.1:Int))=true:=by simp;omega
      cases he:bothP v.2.1 (v.1.2.1.2 k) with
      | true =>
        rw [show pinnedF v=false by rw [pinnedF,freeP_bad v.2.1 v.1.2.1.2 k he v.1.2.1.1 (by omega)];simp]
        refine pkD Tryz.func77 hc (p56f v k) ?_
        and_intros
        all_goals (first | exact zI | (intros;exact con_l2Has v.2.1 _ hni) | (exact he))
      | false =>
        refine pcD hc (p56e v k) ?_ (ih (k+1) (by omega) (by rw [freeP,hf,he];rfl))
        and_intros
        all_goals (first | exact zI | (intros;exact con_l2Has v.2.1 _ hni) | (exact he) | (simp [All]))
  have lp1:∀ m k,k+m=v.2.1.1→goodP v.1.1 v.2.1.2 k=true→zR c 77 zf73 (S56a v k) (Post c [] (.p (.bool (pinnedF v)))):=by
    intro m
    induction m with
    | zero =>
      intro k hk hgd
      have hd:decide ((k:Int)<(v.2.1.1:Int))=false:=by simp;omega
      refine pcD hc (p56d v k) ?_ (lp2 (by rw [show v.2.1.1=k by omega];exact hgd) v.1.2.1.1 0 (by omega) rfl)
      and_intros
      all_goals (first | exact zN | (simp [All]))
    | succ m ih =>
      intro k hk hgd
      have hkn:k<v.2.1.1:=by omega
      have hd:decide ((k:Int)<(v.2.1.1:Int))=true:=by simp;omega
      cases he:badP v.1.1 v.2.1.2 k with
      | true =>
        rw [show pinnedF v=false by rw [pinnedF,goodP_bad _ _ k he v.2.1.1 (by omega)];rfl]
        refine pkD Tryz.func77 hc (p56c v k) ?_
        and_intros
        all_goals (first | exact zH | (exact he) | (intro h;have:=idx_lt h hkn;omega))
      | false =>
        refine pcD hc (p56b v k) ?_ (ih (k+1) (by omega) (by rw [goodP,hgd,he];rfl))
        and_intros
        all_goals (first | exact zH | (exact he) | (intro h;have:=idx_lt h hkn;omega) | (simp [All]))
  refine pcD hc (p56a v) ?_ (lp1 v.2.1.1 0 (by omega) rfl)
  and_intros
  all_goals (first | exact zN | (simp [All]))
def headP (v:T_Pinned):Bool :=
  bif bif bif bif !isGraphF v.1 then true else dblB v.1.2.1.2 v.1.2.1.1 then true else decide ((v.2.1.1:Int)<2) then true else decide ((v.1.2.1.1:Int)>15) then true else decide ((v.1.2.1.1:Int)+2*(v.2.1.1:Int) - 3>24)
def S57a (v:T_Pinned) (k:Nat):St :=
  ⟨[pinA v,.pt 3 0 0 0,.p .any,.pt 2 1 0 0]++List.replicate 38 anyA++[inL v.2.1,.p (.int .i64 v.2.1.1),.p (.int .i64 k)]++List.replicate 43 anyA,[(0,boxP v),(1,boxG v.1)],2⟩
def S57b (v:T_Pinned) (k:Nat):St :=
  ⟨[pinA v,.pt 3 0 0 0,.p .any,.p .any]++List.replicate 65 anyA++[graphL v.1.2.1,.p (.int .i64 v.1.2.1.1),.p (.int .i64 k)]++List.replicate 16 anyA,[(0,boxP v)],1⟩
theorem p57z (v:T_Pinned) :
    zS Tryz.f73 [rg 2,rg 4,rm [(1,oc [] (.p (.bool (isGraphF v.1)))),(3,oc [] (.p (.bool (dblB v.1.2.1.2 v.1.2.1.1))))] 25,.dec true,rg 1] [pinA v] [] [] (.p (.bool false)) =
    some (zD [(NT 0 1),((true=true)→ (AN 1)),zE 130 [(zf78 v)] [] (.p (.bool (isGraphF v.1))),(((!!isGraphF v.1)=true)→(NT 0 1)),(AG (!!isGraphF v.1)),(((!!isGraphF v.1)=true)→ zE 147 [(zf78 v)] [] (.p (.bool (dblB v.1.2.1.2 v.1.2.1.1)))),(((!isGraphF v.1)=false)→ ((!!isGraphF v.1)=true)),(AG (!bif !isGraphF v.1 then true else dblB v.1.2.1.2 v.1.2.1.1)),(((!bif !isGraphF v.1 then true else dblB v.1.2.1.2 v.1.2.1.1)=true)→(NT 0 1)),(((bif !isGraphF v.1 then true else dblB v.1.2.1.2 v.1.2.1.1)=false)→ ((!bif !isGraphF v.1 then true else dblB v.1.2.1.2 v.1.2.1.1)=true)),(AG (!bif bif !isGraphF v.1 then true else dblB v.1.2.1.2 v.1.2.1.1 then true else decide ((↑v.2.1.1:Int)<2))),(((!bif bif !isGraphF v.1 then true else dblB v.1.2.1.2 v.1.2.1.1 then true else decide ((↑v.2.1.1:Int)<2))=true)→(NT 0 1)),(((bif bif !isGraphF v.1 then true else dblB v.1.2.1.2 v.1.2.1.1 then true else decide ((↑v.2.1.1:Int)<2))=false)→ ((!bif bif !isGraphF v.1 then true else dblB v.1.2.1.2 v.1.2.1.1 then true else decide ((↑v.2.1.1:Int)<2))=true)),(AG (!bif bif bif !isGraphF v.1 then true else dblB v.1.2.1.2 v.1.2.1.1 then true else decide ((↑v.2.1.1:Int)<2) then true else decide ((↑v.1.2.1.1:Int)>15))),(((!bif bif bif !isGraphF v.1 then true else dblB v.1.2.1.2 v.1.2.1.1 then true else decide ((↑v.2.1.1:Int)<2) then true else decide ((↑v.1.2.1.1:Int)>15))=true)→(NT 0 1)),(((!bif bif bif !isGraphF v.1 then true else dblB v.1.2.1.2 v.1.2.1.1 then true else decide ((↑v.2.1.1:Int)<2) then true else decide ((↑v.1.2.1.1:Int)>15))=true)→(ZLo (2*(↑v.2.1.1:Int)))),(((!bif bif bif !isGraphF v.1 then true else dblB v.1.2.1.2 v.1.2.1.1 then true else decide ((↑v.2.1.1:Int)<2) then true else decide ((↑v.1.2.1.1:Int)>15))=true)→(ZHi (2*(↑v.2.1.1:Int)))),(((!bif bif bif !isGraphF v.1 then true else dblB v.1.2.1.2 v.1.2.1.1 then true else decide ((↑v.2.1.1:Int)<2) then true else decide ((↑v.1.2.1.1:Int)>15))=true)→(ZLo ((↑v.1.2.1.1:Int)+2*(↑v.2.1.1:Int)))),(((!bif bif bif !isGraphF v.1 then true else dblB v.1.2.1.2 v.1.2.1.1 then true else decide ((↑v.2.1.1:Int)<2) then true else decide ((↑v.1.2.1.1:Int)>15))=true)→(ZHi ((↑v.1.2.1.1:Int)+2*(↑v.2.1.1:Int)))),(((!bif bif bif !isGraphF v.1 then true else dblB v.1.2.1.2 v.1.2.1.1 then true else decide ((↑v.2.1.1:Int)<2) then true else decide ((↑v.1.2.1.1:Int)>15))=true)→(ZLo ((↑v.1.2.1.1:Int)+2*(↑v.2.1.1:Int) - 3))),(((!bif bif bif !isGraphF v.1 then true else dblB v.1.2.1.2 v.1.2.1.1 then true else decide ((↑v.2.1.1:Int)<2) then true else decide ((↑v.1.2.1.1:Int)>15))=true)→(ZHi ((↑v.1.2.1.1:Int)+2*(↑v.2.1.1:Int) - 3))),(((bif bif bif !isGraphF v.1 then true else dblB v.1.2.1.2 v.1.2.1.1 then true else decide ((↑v.2.1.1:Int)<2) then true else decide ((↑v.1.2.1.1:Int)>15))=false)→ ((!bif bif bif !isGraphF v.1 then true else dblB v.1.2.1.2 v.1.2.1.1 then true else decide ((↑v.2.1.1:Int)<2) then true else decide ((↑v.1.2.1.1:Int)>15))=true)),((bif bif bif bif !isGraphF v.1 then true else dblB v.1.2.1.2 v.1.2.1.1 then true else decide ((↑v.2.1.1:Int)<2) then true else decide ((↑v.1.2.1.1:Int)>15) then true else decide ((↑v.1.2.1.1:Int)+2*(↑v.2.1.1:Int) - 3>24))=true),(false=false)] [0,0,1,0,2,3,4,5,6,7,8,7,7,9,10,11,10,10,12,13,14,13,13,14,13,13,15,16,13,13,17,18,13,19,20,13,21,22,23]):=by kernel_rfl
theorem p57a (v:T_Pinned) :
    zT Tryz.f73 [rg 2,rg 4,rm [(1,oc [] (.p (.bool (isGraphF v.1)))),(3,oc [] (.p (.bool (dblB v.1.2.1.2 v.1.2.1.1))))] 25,.dec false,rg 4,.head] [pinA v] [0,128] (S57a v 0) =
    some (zf39,zD [(NT 0 1),((true=true)→ (AN 1)),zE 130 [(zf78 v)] [] (.p (.bool (isGraphF v.1))),(((!!isGraphF v.1)=true)→(NT 0 1)),(AG (!!isGraphF v.1)),(((!!isGraphF v.1)=true)→ zE 147 [(zf78 v)] [] (.p (.bool (dblB v.1.2.1.2 v.1.2.1.1)))),(((!isGraphF v.1)=false)→ ((!!isGraphF v.1)=true)),(AG (!bif !isGraphF v.1 then true else dblB v.1.2.1.2 v.1.2.1.1)),(((!bif !isGraphF v.1 then true else dblB v.1.2.1.2 v.1.2.1.1)=true)→(NT 0 1)),(((bif !isGraphF v.1 then true else dblB v.1.2.1.2 v.1.2.1.1)=false)→ ((!bif !isGraphF v.1 then true else dblB v.1.2.1.2 v.1.2.1.1)=true)),(AG (!bif bif !isGraphF v.1 then true else dblB v.1.2.1.2 v.1.2.1.1 then true else decide ((↑v.2.1.1:Int)<2))),(((!bif bif !isGraphF v.1 then true else dblB v.1.2.1.2 v.1.2.1.1 then true else decide ((↑v.2.1.1:Int)<2))=true)→(NT 0 1)),(((bif bif !isGraphF v.1 then true else dblB v.1.2.1.2 v.1.2.1.1 then true else decide ((↑v.2.1.1:Int)<2))=false)→ ((!bif bif !isGraphF v.1 then true else dblB v.1.2.1.2 v.1.2.1.1 then true else decide ((↑v.2.1.1:Int)<2))=true)),(AG (!bif bif bif !isGraphF v.1 then true else dblB v.1.2.1.2 v.1.2.1.1 then true else decide ((↑v.2.1.1:Int)<2) then true else decide ((↑v.1.2.1.1:Int)>15))),(((!bif bif bif !isGraphF v.1 then true else dblB v.1.2.1.2 v.1.2.1.1 then true else decide ((↑v.2.1.1:Int)<2) then true else decide ((↑v.1.2.1.1:Int)>15))=true)→(NT 0 1)),(((!bif bif bif !isGraphF v.1 then true else dblB v.1.2.1.2 v.1.2.1.1 then true else decide ((↑v.2.1.1:Int)<2) then true else decide ((↑v.1.2.1.1:Int)>15))=true)→(ZLo (2*(↑v.2.1.1:Int)))),(((!bif bif bif !isGraphF v.1 then true else dblB v.1.2.1.2 v.1.2.1.1 then true else decide ((↑v.2.1.1:Int)<2) then true else decide ((↑v.1.2.1.1:Int)>15))=true)→(ZHi (2*(↑v.2.1.1:Int)))),(((!bif bif bif !isGraphF v.1 then true else dblB v.1.2.1.2 v.1.2.1.1 then true else decide ((↑v.2.1.1:Int)<2) then true else decide ((↑v.1.2.1.1:Int)>15))=true)→(ZLo ((↑v.1.2.1.1:Int)+2*(↑v.2.1.1:Int)))),(((!bif bif bif !isGraphF v.1 then true else dblB v.1.2.1.2 v.1.2.1.1 then true else decide ((↑v.2.1.1:Int)<2) then true else decide ((↑v.1.2.1.1:Int)>15))=true)→(ZHi ((↑v.1.2.1.1:Int)+2*(↑v.2.1.1:Int)))),(((!bif bif bif !isGraphF v.1 then true else dblB v.1.2.1.2 v.1.2.1.1 then true else decide ((↑v.2.1.1:Int)<2) then true else decide ((↑v.1.2.1.1:Int)>15))=true)→(ZLo ((↑v.1.2.1.1:Int)+2*(↑v.2.1.1:Int) - 3))),(((!bif bif bif !isGraphF v.1 then true else dblB v.1.2.1.2 v.1.2.1.1 then true else decide ((↑v.2.1.1:Int)<2) then true else decide ((↑v.1.2.1.1:Int)>15))=true)→(ZHi ((↑v.1.2.1.1:Int)+2*(↑v.2.1.1:Int) - 3))),(((bif bif bif !isGraphF v.1 then true else dblB v.1.2.1.2 v.1.2.1.1 then true else decide ((↑v.2.1.1:Int)<2) then true else decide ((↑v.1.2.1.1:Int)>15))=false)→ ((!bif bif bif !isGraphF v.1 then true else dblB v.1.2.1.2 v.1.2.1.1 then true else decide ((↑v.2.1.1:Int)<2) then true else decide ((↑v.1.2.1.1:Int)>15))=true)),((bif bif bif bif !isGraphF v.1 then true else dblB v.1.2.1.2 v.1.2.1.1 then true else decide ((↑v.2.1.1:Int)<2) then true else decide ((↑v.1.2.1.1:Int)>15) then true else decide ((↑v.1.2.1.1:Int)+2*(↑v.2.1.1:Int) - 3>24))=false),(AI v.1.1),(AN v.1.2.1.1),(AP v.1.2.1.1 (fun i=>[.int .i64 ((v.1.2.1.2 i).1),.int .i64 ((v.1.2.1.2 i).2.1)])),(AN v.2.1.1),(AP v.2.1.1 (fun i=>[.int .i64 (v.2.1.2 i)])),(AN 0),(AI ((↑v.2.1.1:Int))),((0:Int)=(↑0:Int)),((([AV.p (PV.int IntKind.i64 v.1.1),graphL v.1.2.1,inL v.2.1].length):Nat)=3),(NL 1 1),((((List.map (fun v=>AV.p (absV v)) [Value.int IntKind.i64 0,Value.slice none 0 0]).length):Nat)=2)] [0,0,1,0,2,3,4,5,6,7,8,7,7,9,10,11,10,10,12,13,14,13,13,14,13,13,15,16,13,13,17,18,13,19,20,13,21,22,0,23,24,25,26,27,28,28,26,27,29,30,31,32,32,23,24,25,26,27,33,32,32,23,24,25]):=by kernel_rfl
theorem p57b (v:T_Pinned) (k:Nat) :
    zM 0 [rg 1,.dec true,rg 5,rm [(2,oc [] (.p (.bool (inB (v.2.1.2 k) 0 (v.1.1 - 1)))))] 15,.dec false,rg 2,.head] zf39 (S57a v k) [0,1] 1 (S57a v (k+1)) =
    some (zf39,zD [((decide ((↑k:Int)<(↑v.2.1.1:Int)))=true),(IL 0 (↑k:Int)),(IT (↑k:Int) (↑v.2.1.1:Int)),(NT 0 1),zE 148 [(zf78 v),.p (.int .i64 (v.2.1.2 k))] [] (.p (.bool (inB (v.2.1.2 k) 0 (v.1.1 - 1)))),(AG (!!inB (v.2.1.2 k) 0 (v.1.1 - 1))),(AG (!!inB (v.2.1.2 k) 0 (v.1.1 - 1)&&decide ((↑k:Int)>0))),(((!!inB (v.2.1.2 k) 0 (v.1.1 - 1)&&decide ((↑k:Int)>0))=true)→(NT 0 1)),(((!!inB (v.2.1.2 k) 0 (v.1.1 - 1)&&decide ((↑k:Int)>0))=true)→(ZLo ((↑k:Int) - 1))),(((!!inB (v.2.1.2 k) 0 (v.1.1 - 1)&&decide ((↑k:Int)>0))=true)→(ZHi ((↑k:Int) - 1))),(((!!inB (v.2.1.2 k) 0 (v.1.1 - 1)&&decide ((↑k:Int)>0))=true)→(IL 0 ((↑k:Int) - 1))),(((!!inB (v.2.1.2 k) 0 (v.1.1 - 1)&&decide ((↑k:Int)>0))=true)→(IT ((↑k:Int) - 1) (↑v.2.1.1:Int))),(((!!inB (v.2.1.2 k) 0 (v.1.1 - 1))=true)→(((decide ((↑k:Int)>0))=true)→ ((!!inB (v.2.1.2 k) 0 (v.1.1 - 1)&&decide ((↑k:Int)>0))=true))),(((!inB (v.2.1.2 k) 0 (v.1.1 - 1))=false)→ ((!!inB (v.2.1.2 k) 0 (v.1.1 - 1))=true)),((bif !inB (v.2.1.2 k) 0 (v.1.1 - 1) then true else bif decide ((↑k:Int)>0) then decide (v.2.1.2 ((↑k:Int) - 1).toNat≥v.2.1.2 (↑k:Int).toNat) else false)=false),(ZLo ((↑k:Int)+1)),(ZHi ((↑k:Int)+1)),(AI v.1.1),(AN v.1.2.1.1),(AP v.1.2.1.1 (fun i=>[.int .i64 ((v.1.2.1.2 i).1),.int .i64 ((v.1.2.1.2 i).2.1)])),(AN v.2.1.1),(AP v.2.1.1 (fun i=>[.int .i64 (v.2.1.2 i)])),(AN 0),(AI ((↑v.2.1.1:Int))),((((↑k:Int)+1):Int)=(↑(k+1):Int)),(AN 3),(NL 1 1),(AN 2)] [0,1,2,3,4,5,5,6,7,6,8,9,6,6,10,11,6,6,6,5,12,13,14,15,16,17,18,19,20,21,22,22,20,21,23,24,25,26,26,17,18,19,20,21,27,26,26,17,18,19]):=by kernel_rfl
theorem p57c (v:T_Pinned) (k:Nat) :
    zP Tryz.f73 0 [rg 1,.dec true,rg 5,rm [(2,oc [] (.p (.bool (inB (v.2.1.2 k) 0 (v.1.1 - 1)))))] 15,.dec true,rg 1] zf39 (S57a v k) [] 1 [] (.p (.bool false)) =
    some (zD [((decide ((↑k:Int)<(↑v.2.1.1:Int)))=true),(IL 0 (↑k:Int)),(IT (↑k:Int) (↑v.2.1.1:Int)),(NT 0 1),zE 148 [(zf78 v),.p (.int .i64 (v.2.1.2 k))] [] (.p (.bool (inB (v.2.1.2 k) 0 (v.1.1 - 1)))),(AG (!!inB (v.2.1.2 k) 0 (v.1.1 - 1))),(AG (!!inB (v.2.1.2 k) 0 (v.1.1 - 1)&&decide ((↑k:Int)>0))),(((!!inB (v.2.1.2 k) 0 (v.1.1 - 1)&&decide ((↑k:Int)>0))=true)→(NT 0 1)),(((!!inB (v.2.1.2 k) 0 (v.1.1 - 1)&&decide ((↑k:Int)>0))=true)→(ZLo ((↑k:Int) - 1))),(((!!inB (v.2.1.2 k) 0 (v.1.1 - 1)&&decide ((↑k:Int)>0))=true)→(ZHi ((↑k:Int) - 1))),(((!!inB (v.2.1.2 k) 0 (v.1.1 - 1)&&decide ((↑k:Int)>0))=true)→(IL 0 ((↑k:Int) - 1))),(((!!inB (v.2.1.2 k) 0 (v.1.1 - 1)&&decide ((↑k:Int)>0))=true)→(IT ((↑k:Int) - 1) (↑v.2.1.1:Int))),(((!!inB (v.2.1.2 k) 0 (v.1.1 - 1))=true)→(((decide ((↑k:Int)>0))=true)→ ((!!inB (v.2.1.2 k) 0 (v.1.1 - 1)&&decide ((↑k:Int)>0))=true))),(((!inB (v.2.1.2 k) 0 (v.1.1 - 1))=false)→ ((!!inB (v.2.1.2 k) 0 (v.1.1 - 1))=true)),((bif !inB (v.2.1.2 k) 0 (v.1.1 - 1) then true else bif decide ((↑k:Int)>0) then decide (v.2.1.2 ((↑k:Int) - 1).toNat≥v.2.1.2 (↑k:Int).toNat) else false)=true),(false=false)] [0,1,2,3,4,5,5,6,7,6,8,9,6,6,10,11,6,6,6,5,12,13,14,15]):=by kernel_rfl
theorem p57d (v:T_Pinned) (k:Nat) :
    zM 0 [rg 1,.dec false,rg 4,.head] zf39 (S57a v k) [0] 1 (S57b v 0) =
    some (zf28,zD [((decide ((↑k:Int)<(↑v.2.1.1:Int)))=false),(NT 0 1),(AI v.1.1),(AN v.1.2.1.1),(AP v.1.2.1.1 (fun i=>[.int .i64 ((v.1.2.1.2 i).1),.int .i64 ((v.1.2.1.2 i).2.1)])),(AN v.2.1.1),(AP v.2.1.1 (fun i=>[.int .i64 (v.2.1.2 i)])),(AN 0),(AI ((↑v.1.2.1.1:Int))),((0:Int)=(↑0:Int)),(AN 3),(NL 1 1)] [0,1,2,3,4,5,6,7,3,4,8,9,10,11,11,2,3,4,5,6]):=by kernel_rfl
theorem p57e (v:T_Pinned) (k:Nat) :
    zM 0 [rg 1,.dec true,rg 4,rm [(4,oc [] (.p (.bool (hasI v.2.1.2 (v.1.2.1.2 k).1 v.2.1.1)))),(5,oc [] (.p (.bool (hasI v.2.1.2 (v.1.2.1.2 k).2.1 v.2.1.1))))] 1,.dec false,rg 2,.head] zf28 (S57b v k) [0] 1 (S57b v (k+1)) =
    some (zf28,zD [((decide ((↑k:Int)<(↑v.1.2.1.1:Int)))=true),(IL 0 (↑k:Int)),(IT (↑k:Int) (↑v.1.2.1.1:Int)),(NT 0 1),((true=true)→ (AN 1)),zE 144 [.p (.seq true 1 v.2.1.1 (fun i=>[.int .i64 (v.2.1.2 i)])),.p (.int .i64 ((v.1.2.1.2 k).1))] [] (.p (.bool (hasI v.2.1.2 (v.1.2.1.2 k).1 v.2.1.1))),(AG (hasI v.2.1.2 (v.1.2.1.2 k).1 v.2.1.1)),(((hasI v.2.1.2 (v.1.2.1.2 k).1 v.2.1.1)=true)→(NT 0 1)),(((hasI v.2.1.2 (v.1.2.1.2 k).1 v.2.1.1)=true)→ zE 144 [.p (.seq true 1 v.2.1.1 (fun i=>[.int .i64 (v.2.1.2 i)])),.p (.int .i64 ((v.1.2.1.2 k).2.1))] [] (.p (.bool (hasI v.2.1.2 (v.1.2.1.2 k).2.1 v.2.1.1)))),((bif hasI v.2.1.2 (v.1.2.1.2 k).1 v.2.1.1 then hasI v.2.1.2 (v.1.2.1.2 k).2.1 v.2.1.1 else false)=false),(ZLo ((↑k:Int)+1)),(ZHi ((↑k:Int)+1)),(AI v.1.1),(AN v.1.2.1.1),(AP v.1.2.1.1 (fun i=>[.int .i64 ((v.1.2.1.2 i).1),.int .i64 ((v.1.2.1.2 i).2.1)])),(AN v.2.1.1),(AP v.2.1.1 (fun i=>[.int .i64 (v.2.1.2 i)])),(AN 0),(AI ((↑v.1.2.1.1:Int))),((((↑k:Int)+1):Int)=(↑(k+1):Int)),(AN 3),(NL 1 1)] [0,1,2,3,4,3,3,5,6,7,6,7,6,6,8,6,9,10,11,12,13,14,15,16,17,13,14,18,19,20,21,21,12,13,14,15,16]):=by kernel_rfl
theorem p57f (v:T_Pinned) (k:Nat) :
    zP Tryz.f73 0 [rg 1,.dec true,rg 4,rm [(4,oc [] (.p (.bool (hasI v.2.1.2 (v.1.2.1.2 k).1 v.2.1.1)))),(5,oc [] (.p (.bool (hasI v.2.1.2 (v.1.2.1.2 k).2.1 v.2.1.1))))] 1,.dec true,rg 1] zf28 (S57b v k) [] 1 [] (.p (.bool false)) =
    some (zD [((decide ((↑k:Int)<(↑v.1.2.1.1:Int)))=true),(IL 0 (↑k:Int)),(IT (↑k:Int) (↑v.1.2.1.1:Int)),(NT 0 1),((true=true)→ (AN 1)),zE 144 [.p (.seq true 1 v.2.1.1 (fun i=>[.int .i64 (v.2.1.2 i)])),.p (.int .i64 ((v.1.2.1.2 k).1))] [] (.p (.bool (hasI v.2.1.2 (v.1.2.1.2 k).1 v.2.1.1))),(AG (hasI v.2.1.2 (v.1.2.1.2 k).1 v.2.1.1)),(((hasI v.2.1.2 (v.1.2.1.2 k).1 v.2.1.1)=true)→(NT 0 1)),(((hasI v.2.1.2 (v.1.2.1.2 k).1 v.2.1.1)=true)→ zE 144 [.p (.seq true 1 v.2.1.1 (fun i=>[.int .i64 (v.2.1.2 i)])),.p (.int .i64 ((v.1.2.1.2 k).2.1))] [] (.p (.bool (hasI v.2.1.2 (v.1.2.1.2 k).2.1 v.2.1.1)))),((bif hasI v.2.1.2 (v.1.2.1.2 k).1 v.2.1.1 then hasI v.2.1.2 (v.1.2.1.2 k).2.1 v.2.1.1 else false)=true),(false=false)] [0,1,2,3,4,3,3,5,6,7,6,7,6,6,8,6,9,10]):=by kernel_rfl
theorem p57g (v:T_Pinned) (k:Nat) :
    zP Tryz.f73 0 [rg 1,.dec false,rg 1] zf28 (S57b v k) [] 1 [] (.p (.bool true)) =
    some [((decide ((↑k:Int)<(↑v.1.2.1.1:Int)))=false),(true=true)]:=by kernel_rfl
theorem dge (a b:Int):decide (a≥b)=!decide (a<b):=by
  by_cases h:a<b
  · have:¬ (a≥b):=by omega
    rw [decide_eq_true h,decide_eq_false this];rfl
  · have:a≥b:=by omega
    rw [decide_eq_false h,decide_eq_true this];rfl
theorem dle (a b:Int):decide (a≤b)=!decide (a>b):=dge b a
theorem headP_tail (v:T_Pinned):headP v=!tailP v:=by
  unfold headP tailP simpleF
  rw [dge,dle,dle]
  generalize decide ((v.2.1.1:Int)<2)=x
  generalize decide ((v.1.2.1.1:Int)>15)=y
  generalize decide ((v.1.2.1.1:Int)+2*(v.2.1.1:Int) - 3>24)=z
  cases isGraphF v.1<;>cases dblB v.1.2.1.2 v.1.2.1.1<;>cases x<;>cases y<;>cases z<;>rfl
theorem bad_in (N:Int) (g:Nat→Int) (k:Nat) {b:Bool} (h:badP N g k=b) :
    (bif !inB (g k) 0 (N - 1) then true else bif decide ((k:Int)>0) then decide (g ((k:Int) - 1).toNat≥g k) else false)=b:=by
  rw [← h]
  unfold badP inB
  by_cases h1:g k<0
  · have h2:¬ (0≤g k):=by omega
    simp [h1,h2]
  · have h2:0≤g k:=by omega
    by_cases h3:g k≥N
    · have h4:¬ (g k≤N - 1):=by omega
      simp [h1,h2,h3,h4]
    · have h4:g k≤N - 1:=by omega
      simp [h1,h2,h3,h4]
theorem con_IsPinned_i (v:T_Pinned) (hs:smS s_Pinned v):zE 73 [pinA v] [] (.p (.bool (pinnedF v))):=by
  refine csZ Tryz.func73 (fun c hc=>?_)
  have hg:smS s_Graph v.1:=hs.1
  have hnb:v.1.2.1.1≤1048576:=hs.1.2.1.1
  have hni:v.2.1.1≤1048576:=hs.2.1.1
  cases ht:headP v with
  | true =>
    rw [show pinnedF v=false by rw [pinnedF,show tailP v=false by have:=headP_tail v;rw [ht] at this;simpa using this];simp]
    have ht':=ht
    unfold headP at ht'
    refine pkD Tryz.func73 hc (p57z v) ?_
    and_intros
    all_goals (first | exact zH | (exact con_IsGraph_i v.1 hg) | (exact con_hasDoubles v.1 hg) | (intros;exact con_hasDoubles v.1 hg) | (intro h;simpa using h) | (exact ht'))
  | false =>
  have htl:tailP v=true:=by have:=headP_tail v;rw [ht] at this;simpa using this
  have ht':=ht
  unfold headP at ht'
  have hgr:isGraphF v.1=true:=by
    cases e:isGraphF v.1 with
    | true=>rfl
    | false=>rw [tailP,simpleF,e] at htl;simp at htl
  have hN:inB v.1.1 1 8=true:=by
    unfold isGraphF at hgr
    split at hgr
    · next h=>exact h.1
    · cases hgr
  have hN1:1≤v.1.1∧v.1.1≤8:=by simpa [inB] using hN
  have lp2:goodP v.1.1 v.2.1.2 v.2.1.1=true→∀ m k,k+m=v.1.2.1.1→freeP v.2.1 v.1.2.1.2 k=true→zR c 73 zf28 (S57b v k) (Post c [] (.p (.bool (pinnedF v)))):=by
    intro hgood m
    induction m with
    | zero =>
      intro k hk hf
      rw [show pinnedF v=true by rw [pinnedF,hgood,show v.1.2.1.1=k by omega,hf,htl];rfl]
      have hd:decide ((k:Int)<(v.1.2.1.1:Int))=false:=by simp;omega
      refine pkZ Tryz.func73 hc (p57g v k) ?_
      and_intros
      all_goals (first | exact zN | simp)
    | succ m ih =>
      intro k hk hf
      have hd:decide ((k:Int)<(v.1.2.1.1:Int))=true:=by simp;omega
      cases he:bothP v.2.1 (v.1.2.1.2 k) with
      | true =>
        rw [show pinnedF v=false by rw [pinnedF,freeP_bad v.2.1 v.1.2.1.2 k he v.1.2.1.1 (by omega)];simp]
        refine pkD Tryz.func73 hc (p57f v k) ?_
        and_intros
        all_goals (first | exact zI | (intros;exact con_Contains v.2.1 _ hni) | (exact he))
      | false =>
        refine pcD hc (p57e v k) ?_ (ih (k+1) (by omega) (by rw [freeP,hf,he];rfl))
        and_intros
        all_goals (first | exact zI | (intros;exact con_Contains v.2.1 _ hni) | (exact he) | (simp [All]))
  have lp1:∀ m k,k+m=v.2.1.1→goodP v.1.1 v.2.1.2 k=true→zR c 73 zf39 (S57a v k) (Post c [] (.p (.bool (pinnedF v)))):=by
    intro m
    induction m with
    | zero =>
      intro k hk hgd
      have hd:decide ((k:Int)<(v.2.1.1:Int))=false:=by simp;omega
      refine pcD hc (p57d v k) ?_ (lp2 (by rw [show v.2.1.1=k by omega];exact hgd) v.1.2.1.1 0 (by omega) rfl)
      and_intros
      all_goals (first | exact zN | (simp [All]))
    | succ m ih =>
      intro k hk hgd
      have hkn:k<v.2.1.1:=by omega
      have hd:decide ((k:Int)<(v.2.1.1:Int))=true:=by simp;omega
      cases he:badP v.1.1 v.2.1.2 k with
      | true =>
        rw [show pinnedF v=false by rw [pinnedF,goodP_bad _ _ k he v.2.1.1 (by omega)];rfl]
        have he':=bad_in v.1.1 v.2.1.2 k he
        refine pkD Tryz.func73 hc (p57c v k) ?_
        and_intros
        all_goals (first | exact zH | (exact con_Graphhas v.1 _ hN1.1 hN1.2) | (exact he') | (intro h;have:=idx_lt h hkn;omega))
      | false =>
        have he':=bad_in v.1.1 v.2.1.2 k he
        refine pcD hc (p57b v k) ?_ (ih (k+1) (by omega) (by rw [goodP,hgd,he];rfl))
        and_intros
        all_goals (first | exact zH | (exact con_Graphhas v.1 _ hN1.1 hN1.2) | (exact he') | (intro h;have:=idx_lt h hkn;omega) | (simp [All]))
  refine pcD hc (p57a v) ?_ (lp1 v.2.1.1 0 (by omega) rfl)
  and_intros
  all_goals (first | exact zH | (exact con_IsGraph_i v.1 hg) | (intros;exact con_hasDoubles v.1 hg) | (exact ht') | (simp [All]) | (intro h;simpa using h))
end Go.Proofs.YtkepkjbofchckaaGreat.Mach
