/- What the law Em needs, part 3 of 6: the abstract machine and the contracts of the functions. Conditions: as each theorem says. -/
import Derived.Shelf.SlLaysF0
import Derived.Shelf.SlGeneric
import Derived.Shelf.SlSortCmp.InsertionK
import Derived.Ground.SlsfProg
import Derived.Sort.Grow
import Derived.Sort.Row
import Derived.Shelf.SlSortCmp.NoneTotal
import Derived.Test.YtkepkjbofchckaaGreatEmP2
namespace Go.Proofs.YtkepkjbofchckaaGreat.Mach
open Go
set_option linter.unusedVariables false
set_option linter.unusedSimpArgs false
def grG (g:Nat→T_Bar) (nb N:Nat):AV:=.agg [.p (.int .i64 N),brL g nb]
def bxG (g:Nat→T_Bar) (nb N:Nat):Ob:=⟨true,2,1,fun _=>[.p (.int .i64 N),brL g nb]⟩
def bx0:Ob:=⟨true,3,1,fun _=>[.p .nil,.p .nil,.p .nil]⟩
def bxP (N m j:Nat):Ob:=⟨true,3,1,fun _=>[.ar 1 j 0 N,.ar 1 ⟨j+1,none⟩ 0 m,.ar 1 ⟨j+2,none⟩ 0 m]⟩
def bxD (N m:Nat) (F T Q:Nat→Int):Ob:=⟨true,3,1,fun _=>[inD N F,inD m T,inD m Q]⟩
def pebD (N m:Nat) (F T Q:Nat→Int):AV:=.agg [inD N F,inD m T,inD m Q]
def bOb (n:Nat) (S:Nat→Bool):Ob:=⟨false,1,n,fun i=>[.p (.bool (S i))]⟩
def SSc (g:Nat→T_Bar) (nb N m:Nat) (F T Q FR F1 T1:Nat→Int) (a u:Int):St :=
  ⟨[grG g nb N,pebD N m F T Q,inD N FR,.p (.int .i64 a),.p (.int .i64 u),.pt 2 0 0 0,.pt 3 1 0 0,.p .any,.p .any,.p .any,.pt 3 2 0 0,.pt 3 3 0 0]++List.replicate 51 anyA,
   [(0,bxG g nb N),(1,bxD N m F T Q),(2,bx0),(3,bxP N m 4),(4,iOb N F1),(5,iOb m T1),(6,iOb m Q)],7⟩
def SSl (g:Nat→T_Bar) (nb N m:Nat) (F T Q FR F1 T1:Nat→Int) (a u at':Int):St :=
  ⟨[grG g nb N,pebD N m F T Q,inD N FR,.p (.int .i64 a),.p (.int .i64 u),.pt 2 0 0 0,.pt 3 1 0 0,.p .any,.p .any,.p .any,.pt 3 2 0 0,.pt 3 3 0 0,.p (.int .i64 at')]++List.replicate 50 anyA,
   [(0,bxG g nb N),(1,bxD N m F T Q),(2,bx0),(3,bxP N m 4),(4,iOb N F1),(5,iOb m T1),(6,iOb m Q)],7⟩
def SF0 (g:Nat→T_Bar) (nb N m:Nat) (F T Q:Nat→Int) (a b:Int) (i:Nat):St :=
  ⟨[grG g nb N,pebO N m 0,.p (.int .i64 a),.p (.int .i64 b),.pt 2 3 0 0,.pt 3 4 0 0,.p .any,.p .any,.pt 3 5 0 0,.p .any,.ar 1 6 0 N,.p (.int .i64 i)]++List.replicate 94 anyA,
   [(0,iOb N F),(1,iOb m T),(2,iOb m Q),(3,bxG g nb N),(4,bxP N m 0),(5,bx0),(6,iOb N (fun s=>if s<i then -1 else 0))],7⟩
def SF1 (g:Nat→T_Bar) (nb N m:Nat) (F T Q td FR:Nat→Int) (SN:Nat→Bool) (a b:Int) (i tn:Nat):St :=
  ⟨[grG g nb N,pebO N m 0,.p (.int .i64 a),.p (.int .i64 b),.pt 2 3 0 0,.pt 3 4 0 0,.p .any,.p .any,.pt 3 5 0 0,.p .any,.ar 1 6 0 N,.p .any,.ar 1 8 0 tn,.ar 1 7 0 N,.p (.int .i64 i)]++List.replicate 91 anyA,
   [(0,iOb N F),(1,iOb m T),(2,iOb m Q),(3,bxG g nb N),(4,bxP N m 0),(5,bx0),(6,iOb N FR),(7,bOb N SN),(8,iOb tn td)],9⟩
def SF2 (g:Nat→T_Bar) (nb N m:Nat) (F T Q td FR:Nat→Int) (SN:Nat→Bool) (a b v:Int) (i j tn:Nat):St :=
  ⟨[grG g nb N,pebO N m 0,.p (.int .i64 a),.p (.int .i64 b),.pt 2 3 0 0,.pt 3 4 0 0,.p .any,.p .any,.pt 3 5 0 0,.p .any,.ar 1 6 0 N,.p .any,.ar 1 8 0 tn,.ar 1 7 0 N,.p (.int .i64 i),.p (.int .i64 v),.p (.int .i64 j)]++List.replicate 89 anyA,
   [(0,iOb N F),(1,iOb m T),(2,iOb m Q),(3,bxG g nb N),(4,bxP N m 0),(5,bx0),(6,iOb N FR),(7,bOb N SN),(8,iOb tn td)],9⟩
def SF3 (g:Nat→T_Bar) (nb N m:Nat) (F T Q FR:Nat→Int) (a b u:Int):St :=
  ⟨[grG g nb N,pebO N m 0,.p (.int .i64 a),.p (.int .i64 b),.pt 2 3 0 0,.pt 3 4 0 0,.p .any,.p .any,.pt 3 5 0 0,.p .any,.ar 1 6 0 N,.p .any,.p .any,.p .any,.p .any,.p .any,.p .any,.p (.int .i64 u)]++List.replicate 88 anyA,
   [(0,iOb N F),(1,iOb m T),(2,iOb m Q),(3,bxG g nb N),(4,bxP N m 0),(5,bx0),(6,iOb N FR)],7⟩
def pebR3 (N m:Nat) (F T Q F' T' Q':Nat→Int):Hp:=[(0,iOb N F),(1,iOb m T),(2,iOb m Q),(3,iOb N F'),(4,iOb m T'),(5,iOb m Q')]
theorem qOt (x:T_Bar) (v:Int) :
    zS Tryz.f231 [rg 2,rg 8] [brA x,.p (.int .i64 v)] [] [] (.p (.int .i64 (x.1+x.2.1 - v))) =
    some [(NT 0 1),(NT 0 1),(ZLo (x.1+x.2.1)),(ZHi (x.1+x.2.1)),(ZLo (x.1+x.2.1 - v)),(ZHi (x.1+x.2.1 - v)),(AI ((x.1+x.2.1 - v)))]:=by kernel_rfl
theorem qCp (N m:Nat) (F T Q:Nat→Int) :
    zS Tryz.f207 [rg 2,rg 14] [pebD N m F T Q] [160,288,416] (pebR N m F T Q) (pebO N m 0) =
    some (zD [(NT 0 1),(NL 0 0),(NL ((0+N)*8) 140737488355328),(NL (0+N) 9223372036854775807),(NL ((0+m)*8) 140737488355328),(NL (0+m) 9223372036854775807),((true=true)→ (AN 1)),(AN 0),(((0+N):Nat)=N),(((0+m):Nat)=m),(AN 1),(NL N (0+N)),(AA N (fun i=>[.p (.int .i64 (F i))])),(NL m (0+m)),(AA m (fun i=>[.p (.int .i64 (T i))])),(AA m (fun i=>[.p (.int .i64 (Q i))])),(AE N),(AE m)] [0,1,2,3,0,1,4,5,0,1,4,5,0,6,0,7,8,7,9,7,9,10,11,12,10,13,14,10,13,15,16,17,17]):=by kernel_rfl
theorem qSz (g:Nat→T_Bar) (nb N m:Nat) (F T Q FR:Nat→Int) (a u:Int) :
    zT Tryz.f232 [rg 3,rm [(1,oc (pebR N m F T Q) (pebO N m 0))] 2,rg 11,.head] [grG g nb N,pebD N m F T Q,inD N FR,.p (.int .i64 a),.p (.int .i64 u)] [0,32,64,160,128,129,130] (SSc g nb N m F T Q FR (fun s=>if s=u.toNat then F s - 1 else F s) T a u) =
    some ([.code (cAt (bodyOf Tryz.f232) [1,1,1,0]),.code (cAt (bodyOf Tryz.f232) [1,1,1,1])],zD [(NT 0 1),zE 207 [(zf60 N F m T Q)] (zf34 N F m T Q) (.agg [.ar 1 0 0 N,.ar 1 1 0 m,.ar 1 2 0 m]),((true=true)→ (AN 1)),(IL 0 u),(IT u (↑N:Int)),(NT u.toNat N),(ZLo (F u.toNat - 1)),(ZHi (F u.toNat - 1)),((false=true)→ ((N:Nat)=1)),(AI ((↑N:Int))),(AN nb),(AP nb (bRw g)),(AN N),(AP N (fun i=>[.int .i64 (F i)])),(AN m),(AP m (fun i=>[.int .i64 (T i)])),(AP m (fun i=>[.int .i64 (Q i)])),(AP N (fun i=>[.int .i64 (FR i)])),(AI a),(AI u),(AN 0),((([AV.p (PV.int IntKind.i64 (↑N:Int)),brL g nb].length):Nat)=2),(NL 1 1),((([inD N F,inD m T,inD m Q].length):Nat)=3),((((List.map (fun v=>AV.p (absV v)) [Value.slice none 0 0,Value.slice none 0 0,Value.slice none 0 0]).length):Nat)=3),(AN 1),(NL N N),(CV [(128,⟨false,1,N,(fun i_1=>(if (i_1=u.toNat) then [.p (.int .i64 (F u.toNat - 1))] else [.p (.int .i64 (F i_1))]))⟩),(160,⟨true,3,1,(fun i_1=>[.ar 1 128 0 N,.ar 1 129 0 m,.ar 1 130 0 m])⟩),(130,⟨false,1,m,(fun i_1=>[.p (.int .i64 (Q i_1))])⟩),(129,⟨false,1,m,(fun i_1=>[.p (.int .i64 (T i_1))])⟩),(64,⟨true,3,1,(fun i_1=>[.p (.nil),.p (.nil),.p (.nil)])⟩),(32,⟨true,3,1,(fun i_1=>[.p (.seq true 1 N (fun i_2=>[.int .i64 (F i_2)])),.p (.seq true 1 m (fun i_2=>[.int .i64 (T i_2)])),.p (.seq true 1 m (fun i_2=>[.int .i64 (Q i_2)]))])⟩),(0,⟨true,2,1,(fun i_1=>[.p (.int .i64 (↑N:Int)),.p (.seq true 2 nb (bRw g))])⟩)] [0,32,64,160,128,129,130] 1 N (fun i=>if (i=u.toNat) then [.p (.int .i64 (F u.toNat - 1))] else [.p (.int .i64 (F i))]) (fun i=>[.p (.int .i64 (if i=u.toNat then F i - 1 else F i))])),(NL m m),(AA m (fun i=>[.p (.int .i64 (T i))])),(AA m (fun i=>[.p (.int .i64 (Q i))]))] [0,1,0,2,0,0,3,4,5,6,7,3,4,5,8,9,10,11,12,13,14,15,14,16,12,17,18,19,20,20,20,20,21,22,22,9,10,11,23,22,22,12,13,14,15,14,16,24,22,22,24,22,22,20,12,20,14,20,14,25,26,27,25,28,29,25,28,30]):=by kernel_rfl
theorem qSa (g:Nat→T_Bar) (nb N m:Nat) (F T Q FR F1 T1:Nat→Int) (a u:Int) :
    zM 0 [rg 11,rg 2,.head] [.code (cAt (bodyOf Tryz.f232) [1,1,1,0]),.code (cAt (bodyOf Tryz.f232) [1,1,1,1])] (SSc g nb N m F T Q FR F1 T1 a u) [0,1,2,3,4,5,6] 1 (SSl g nb N m F T Q FR (fun s=>if s=a.toNat then F1 s+1 else F1 s) T1 a u u) =
    some (zf29,zD [(NT 0 1),(IL 0 a),(IT a (↑N:Int)),(NT a.toNat N),(ZLo (F1 a.toNat+1)),(ZHi (F1 a.toNat+1)),((false=true)→ ((N:Nat)=1)),(AI ((↑N:Int))),(AN nb),(AP nb (bRw g)),(AN N),(AP N (fun i=>[.int .i64 (F i)])),(AN m),(AP m (fun i=>[.int .i64 (T i)])),(AP m (fun i=>[.int .i64 (Q i)])),(AP N (fun i=>[.int .i64 (FR i)])),(AI a),(AI u),(AN 0),(AN 2),(NL 1 1),(AN 3),(AN 1),(NL N N),(CV [(4,⟨false,1,N,(fun i_1=>(if (i_1=a.toNat) then [.p (.int .i64 (F1 a.toNat+1))] else [.p (.int .i64 (F1 i_1))]))⟩),(0,⟨true,2,1,(fun i_1=>[.p (.int .i64 (↑N:Int)),.p (.seq true 2 nb (bRw g))])⟩),(1,⟨true,3,1,(fun i_1=>[.p (.seq true 1 N (fun i_2=>[.int .i64 (F i_2)])),.p (.seq true 1 m (fun i_2=>[.int .i64 (T i_2)])),.p (.seq true 1 m (fun i_2=>[.int .i64 (Q i_2)]))])⟩),(2,⟨true,3,1,(fun i_1=>[.p (.nil),.p (.nil),.p (.nil)])⟩),(3,⟨true,3,1,(fun i_1=>[.ar 1 4 0 N,.ar 1 5 0 m,.ar 1 6 0 m])⟩),(5,⟨false,1,m,(fun i_1=>[.p (.int .i64 (T1 i_1))])⟩),(6,⟨false,1,m,(fun i_1=>[.p (.int .i64 (Q i_1))])⟩)] [0,1,2,3,4,5,6] 1 N (fun i=>if (i=a.toNat) then [.p (.int .i64 (F1 a.toNat+1))] else [.p (.int .i64 (F1 i))]) (fun i=>[.p (.int .i64 (if i=a.toNat then F1 i+1 else F1 i))])),(NL m m),(AA m (fun i=>[.p (.int .i64 (T1 i))])),(AA m (fun i=>[.p (.int .i64 (Q i))]))] [0,0,1,2,3,4,5,1,2,3,6,7,8,9,10,11,12,13,12,14,10,15,16,17,18,18,18,18,17,19,20,20,7,8,9,21,20,20,10,11,12,13,12,14,21,20,20,21,20,20,18,10,18,12,18,12,22,23,24,22,25,26,22,25,27]):=by kernel_rfl
theorem qSl (g:Nat→T_Bar) (nb N m:Nat) (F T Q FR F1 T1:Nat→Int) (a u at' w:Int) :
    zM 0 [rg 3,.dec true,rg 5,rm [(10,oc [] (.p (.int .i64 w)))] 1,rg 6,rg 2,.head] zf29 (SSl g nb N m F T Q FR F1 T1 a u at') [0,1,2,3,4,5,6] 1 (SSl g nb N m F T Q FR F1 (fun s=>if s=(FR at'.toNat).toNat then at' else T1 s) a u w) =
    some (zf29,zD [((at' != a)=true),(IL 0 (at')),(IT (at') (↑N:Int)),(NT 0 1),(IL 0 (FR at'.toNat)),(IT (FR at'.toNat) (↑m:Int)),(IL 0 (Q (FR at'.toNat).toNat)),(IT (Q (FR at'.toNat).toNat) (↑nb:Int)),zE 231 [.agg [.p (.int .i64 ((g (Q (FR at'.toNat).toNat).toNat).1)),.p (.int .i64 ((g (Q (FR at'.toNat).toNat).toNat).2.1))],.p (.int .i64 at')] [] (.p (.int .i64 w)),(NT ((FR at'.toNat).toNat) m),((false=true)→ ((m:Nat)=1)),(AI ((↑N:Int))),(AN nb),(AP nb (bRw g)),(AN N),(AP N (fun i=>[.int .i64 (F i)])),(AN m),(AP m (fun i=>[.int .i64 (T i)])),(AP m (fun i=>[.int .i64 (Q i)])),(AP N (fun i=>[.int .i64 (FR i)])),(AI a),(AI u),(AN 0),(AI w),(AN 2),(NL 1 1),(AN 3),(AN 1),(NL N N),(AA N (fun i=>[.p (.int .i64 (F1 i))])),(NL m m),(CV [(5,⟨false,1,m,(fun i_1=>(if (i_1=(FR at'.toNat).toNat) then [.p (.int .i64 at')] else [.p (.int .i64 (T1 i_1))]))⟩),(0,⟨true,2,1,(fun i_1=>[.p (.int .i64 (↑N:Int)),.p (.seq true 2 nb (bRw g))])⟩),(1,⟨true,3,1,(fun i_1=>[.p (.seq true 1 N (fun i_2=>[.int .i64 (F i_2)])),.p (.seq true 1 m (fun i_2=>[.int .i64 (T i_2)])),.p (.seq true 1 m (fun i_2=>[.int .i64 (Q i_2)]))])⟩),(2,⟨true,3,1,(fun i_1=>[.p (.nil),.p (.nil),.p (.nil)])⟩),(3,⟨true,3,1,(fun i_1=>[.ar 1 4 0 N,.ar 1 5 0 m,.ar 1 6 0 m])⟩),(4,⟨false,1,N,(fun i_1=>[.p (.int .i64 (F1 i_1))])⟩),(6,⟨false,1,m,(fun i_1=>[.p (.int .i64 (Q i_1))])⟩)] [0,1,2,3,4,5,6] 1 m (fun i=>if (i=(FR at'.toNat).toNat) then [.p (.int .i64 at')] else [.p (.int .i64 (T1 i))]) (fun i=>[.p (.int .i64 (if i=(FR at'.toNat).toNat then at' else T1 i))])),(AA m (fun i=>[.p (.int .i64 (Q i))]))] [0,1,2,3,3,4,5,6,7,8,3,4,5,9,10,11,12,13,14,15,16,17,16,18,14,19,20,21,22,22,22,22,23,24,25,25,11,12,13,26,25,25,14,15,16,17,16,18,26,25,25,26,25,25,22,14,22,16,22,16,27,28,29,27,30,31,27,30,32]):=by kernel_rfl
theorem qSe (g:Nat→T_Bar) (nb N m:Nat) (F T Q FR F1 T1:Nat→Int) (a u at':Int) :
    zP Tryz.f232 0 [rg 3,.dec false,rg 2] zf29 (SSl g nb N m F T Q FR F1 T1 a u at') [4,5,6] 1 (pebR N m F1 T1 Q) (pebO N m 0) =
    some (zD [((at' != a)=false),(NT 0 1),((true=true)→ (AN 1)),(AN 0),(AN N),(AN m),(AN 1),(NL N N),(AA N (fun i=>[.p (.int .i64 (F1 i))])),(NL m m),(AA m (fun i=>[.p (.int .i64 (T1 i))])),(AA m (fun i=>[.p (.int .i64 (Q i))])),(AE N),(AE m)] [0,1,1,2,1,3,4,3,5,3,5,6,7,8,6,9,10,6,9,11,12,13,13]):=by kernel_rfl
theorem qFz (g:Nat→T_Bar) (nb N m:Nat) (F T Q:Nat→Int) (a b:Int) :
    zM 3 [rg 4,rg 4,rg 1,.head] [.code (bodyOf Tryz.f222)] (start Tryz.f222 (pebR N m F T Q) 3 [grG g nb N,pebO N m 0,.p (.int .i64 a),.p (.int .i64 b)]) [0,1,2,3,35,67,195] 1 (SF0 g nb N m F T Q a b 0) =
    some (zf61,zD [(NT 0 1),(IL 0 (↑N:Int)),(IL (↑N:Int) (↑N:Int)),(IL ((↑N:Int)*(↑8:Int)) 281474976710656),(ZHi (↑N:Int)),(AI ((↑N:Int))),(AN nb),(AP nb (bRw g)),(AN 0),(AN N),(AN m),(AI a),(AI b),((0:Int)=(↑0:Int)),(AN 1),(NL N N),(AA N (fun i=>[.p (.int .i64 (F i))])),(NL m m),(AA m (fun i=>[.p (.int .i64 (T i))])),(AA m (fun i=>[.p (.int .i64 (Q i))])),((([AV.p (PV.int IntKind.i64 (↑N:Int)),brL g nb].length):Nat)=2),(NL 1 1),((([AV.ar 1 (Id.mk 0 none) 0 N,AV.ar 1 (Id.mk 1 none) 0 m,AV.ar 1 (Id.mk 2 none) 0 m].length):Nat)=3),((((List.map (fun v=>AV.p (absV v)) [Value.slice none 0 0,Value.slice none 0 0,Value.slice none 0 0]).length):Nat)=3),(∀ i:Nat,(((i:Nat)<N)→(All []∧(([.p (.int .i64 0)]:List AV)=[.p (.int .i64 (if i<0 then -1 else 0))]))))] [0,1,2,3,4,5,6,7,8,9,8,10,8,10,11,12,8,8,8,8,9,13,14,15,16,14,17,18,14,17,19,20,21,21,5,6,7,22,21,21,8,9,8,10,8,10,23,21,21,14,15,24]):=by kernel_rfl
theorem qF0 (g:Nat→T_Bar) (nb N m:Nat) (F T Q:Nat→Int) (a b:Int) (i:Nat) :
    zM 3 [rg 4,.dec true,rg 4,rg 3,.head] zf61 (SF0 g nb N m F T Q a b i) [0,1,2,3,4,5,6] 1 (SF0 g nb N m F T Q a b (i+1)) =
    some (zf61,zD [(NT 0 1),((decide ((↑i:Int)<(↑N:Int)))=true),(IL 0 (↑i:Int)),(IT (↑i:Int) (↑N:Int)),(NT i N),((false=true)→ ((N:Nat)=1)),(ZLo ((↑i:Int)+1)),(ZHi ((↑i:Int)+1)),(AI ((↑N:Int))),(AN nb),(AP nb (bRw g)),(AN 0),(AN N),(AN m),(AI a),(AI b),((((↑i:Int)+1):Int)=(↑(i+1):Int)),(AN 1),(NL N N),(AA N (fun i_1=>[.p (.int .i64 (F i_1))])),(NL m m),(AA m (fun i_1=>[.p (.int .i64 (T i_1))])),(AA m (fun i_1=>[.p (.int .i64 (Q i_1))])),(AN 2),(NL 1 1),(AN 3),(CV [(6,⟨false,1,N,(fun i_2=>(if (i_2=i) then [.p (.int .i64 (-1))] else [.p (.int .i64 (if i_2<i then -1 else 0))]))⟩),(0,⟨false,1,N,(fun i_2=>[.p (.int .i64 (F i_2))])⟩),(1,⟨false,1,m,(fun i_2=>[.p (.int .i64 (T i_2))])⟩),(2,⟨false,1,m,(fun i_2=>[.p (.int .i64 (Q i_2))])⟩),(3,⟨true,2,1,(fun i_2=>[.p (.int .i64 (↑N:Int)),.p (.seq true 2 nb (bRw g))])⟩),(4,⟨true,3,1,(fun i_2=>[.ar 1 0 0 N,.ar 1 1 0 m,.ar 1 2 0 m])⟩),(5,⟨true,3,1,(fun i_2=>[.p (.nil),.p (.nil),.p (.nil)])⟩)] [0,1,2,3,4,5,6] 1 N (fun i_1=>if (i_1=i) then [.p (.int .i64 (-1))] else [.p (.int .i64 (if i_1<i then -1 else 0))]) (fun i_1=>[.p (.int .i64 (if i_1<i+1 then -1 else 0))]))] [0,1,2,3,4,5,6,7,8,9,10,11,12,11,13,11,13,14,15,11,11,11,11,12,16,17,18,19,17,20,21,17,20,22,23,24,24,8,9,10,25,24,24,11,12,11,13,11,13,25,24,24,17,18,26]):=by kernel_rfl
theorem qF01 (g:Nat→T_Bar) (nb N m:Nat) (F T Q:Nat→Int) (a b:Int) (i:Nat) :
    zM 3 [rg 4,.dec false,rg 3,rg 4,rg 4,rg 1,.head] zf61 (SF0 g nb N m F T Q a b i) [0,1,2,3,4,5,6,295,167] 1 (SF1 g nb N m F T Q (fun _=>a) (fun _=>-1) (fun s=>if s=a.toNat then true else false) a b 0 1) =
    some (zf22,zD [(NT 0 1),((decide ((↑i:Int)<(↑N:Int)))=false),(IL 0 (↑N:Int)),(IL (↑N:Int) (↑N:Int)),(IL ((↑N:Int)*(↑1:Int)) 281474976710656),(ZHi (↑N:Int)),(IL 0 a),(IT a (↑N:Int)),(NT a.toNat N),((false=true)→ ((N:Nat)=1)),(AI ((↑N:Int))),(AN nb),(AP nb (bRw g)),(AN 0),(AN N),(AN m),(AI a),(AI b),(AN 1),((0:Int)=(↑0:Int)),(NL N N),(AA N (fun i_1=>[.p (.int .i64 (F i_1))])),(NL m m),(AA m (fun i_1=>[.p (.int .i64 (T i_1))])),(AA m (fun i_1=>[.p (.int .i64 (Q i_1))])),(AN 2),(NL 1 1),(AN 3),(∀ i_1:Nat,(((i_1:Nat)<N)→(All []∧(([.p (.int .i64 (if i_1<i then -1 else 0))]:List AV)=[.p (.int .i64 (-1))])))),(CV [(295,⟨false,1,N,(fun i_2=>(if (i_2=a.toNat) then [.p (.bool true)] else [.p (.bool false)]))⟩),(167,⟨false,1,1,(fun i_2=>[.p (.int .i64 a)])⟩),(0,⟨false,1,N,(fun i_2=>[.p (.int .i64 (F i_2))])⟩),(1,⟨false,1,m,(fun i_2=>[.p (.int .i64 (T i_2))])⟩),(2,⟨false,1,m,(fun i_2=>[.p (.int .i64 (Q i_2))])⟩),(3,⟨true,2,1,(fun i_2=>[.p (.int .i64 (↑N:Int)),.p (.seq true 2 nb (bRw g))])⟩),(4,⟨true,3,1,(fun i_2=>[.ar 1 0 0 N,.ar 1 1 0 m,.ar 1 2 0 m])⟩),(5,⟨true,3,1,(fun i_2=>[.p (.nil),.p (.nil),.p (.nil)])⟩),(6,⟨false,1,N,(fun i_2=>[.p (.int .i64 (if i_2<i then -1 else 0))])⟩)] [0,1,2,3,4,5,6,295,167] 1 N (fun i_1=>if (i_1=a.toNat) then [.p (.bool true)] else [.p (.bool false)]) (fun i_1=>[.p (.bool (if i_1=a.toNat then true else false))])),(AA 1 (fun i_1=>[.p (.int .i64 a)]))] [0,1,0,2,3,4,5,6,7,8,9,10,11,12,13,14,13,15,13,15,16,17,13,13,13,13,14,13,18,13,14,19,18,20,21,18,22,23,18,22,24,25,26,26,10,11,12,27,26,26,13,14,13,15,13,15,27,26,26,18,20,28,18,20,29,18,26,30]):=by kernel_rfl
theorem qF1 (g:Nat→T_Bar) (nb N m:Nat) (F T Q td FR:Nat→Int) (SN:Nat→Bool) (a b:Int) (i tn:Nat) :
    zM 3 [rg 4,.dec true,rg 5,rg 1,.head] zf22 (SF1 g nb N m F T Q td FR SN a b i tn) [0,1,2,3,4,5,6,7,8] 1 (SF2 g nb N m F T Q td FR SN a b (td i) i 0 tn) =
    some (zf10,zD [((decide ((↑i:Int)<(↑tn:Int)))=true),(IL 0 (↑i:Int)),(IT (↑i:Int) (↑tn:Int)),(NT i tn),(AI ((↑N:Int))),(AN nb),(AP nb (bRw g)),(AN 0),(AN N),(AN m),(AI a),(AI b),(AN tn),(AI ((↑i:Int))),(AI ((td i))),((0:Int)=(↑0:Int)),(AN 1),(NL N N),(AA N (fun i_1=>[.p (.int .i64 (F i_1))])),(NL m m),(AA m (fun i_1=>[.p (.int .i64 (T i_1))])),(AA m (fun i_1=>[.p (.int .i64 (Q i_1))])),(AN 2),(NL 1 1),(AN 3),(AA N (fun i_1=>[.p (.int .i64 (FR i_1))])),(AA N (fun i_1=>[.p (.bool (SN i_1))])),(NL tn tn),(AA tn (fun i_1=>[.p (.int .i64 (td i_1))]))] [0,1,2,3,4,5,6,7,8,7,9,7,9,10,11,7,7,7,7,8,7,12,7,8,13,14,15,16,17,18,16,19,20,16,19,21,22,23,23,4,5,6,24,23,23,7,8,7,9,7,9,24,23,23,16,17,25,16,17,26,16,27,28]):=by kernel_rfl
theorem qF1e (g:Nat→T_Bar) (nb N m:Nat) (F T Q td FR:Nat→Int) (SN:Nat→Bool) (a b:Int) (i tn:Nat) :
    zP Tryz.f222 3 [rg 4,.dec false,rg 3] zf22 (SF1 g nb N m F T Q td FR SN a b i tn) [0,1,2] 1 (pebR N m F T Q) (.tup [pebO N m 0,.p (.bool false)]) =
    some (zD [((decide ((↑i:Int)<(↑tn:Int)))=false),(NT 0 1),((true=true)→ (AN 1)),(AN 0),(AN N),(AN m),(false=false),(AN 1),(NL N N),(AA N (fun i_1=>[.p (.int .i64 (F i_1))])),(NL m m),(AA m (fun i_1=>[.p (.int .i64 (T i_1))])),(AA m (fun i_1=>[.p (.int .i64 (Q i_1))])),(AE N),(AE m)] [0,1,1,2,1,3,4,3,5,3,5,6,7,8,9,7,10,11,7,10,12,13,14,14]):=by kernel_rfl
theorem qF2e (g:Nat→T_Bar) (nb N m:Nat) (F T Q td FR:Nat→Int) (SN:Nat→Bool) (a b v:Int) (i j tn:Nat) :
    zM 3 [rg 5,.dec false,rg 3,.head] zf10 (SF2 g nb N m F T Q td FR SN a b v i j tn) [0,1,2,3,4,5,6,7,8] 1 (SF1 g nb N m F T Q td FR SN a b (i+1) tn) =
    some (zf22,zD [(NT 0 1),((decide ((↑j:Int)<(↑m:Int)))=false),(ZLo ((↑i:Int)+1)),(ZHi ((↑i:Int)+1)),(AI ((↑N:Int))),(AN nb),(AP nb (bRw g)),(AN 0),(AN N),(AN m),(AI a),(AI b),(AN tn),((((↑i:Int)+1):Int)=(↑(i+1):Int)),(AN 1),(NL N N),(AA N (fun i_1=>[.p (.int .i64 (F i_1))])),(NL m m),(AA m (fun i_1=>[.p (.int .i64 (T i_1))])),(AA m (fun i_1=>[.p (.int .i64 (Q i_1))])),(AN 2),(NL 1 1),(AN 3),(AA N (fun i_1=>[.p (.int .i64 (FR i_1))])),(AA N (fun i_1=>[.p (.bool (SN i_1))])),(NL tn tn),(AA tn (fun i_1=>[.p (.int .i64 (td i_1))]))] [0,1,2,3,4,5,6,7,8,7,9,7,9,10,11,7,7,7,7,8,7,12,7,8,13,14,15,16,14,17,18,14,17,19,20,21,21,4,5,6,22,21,21,7,8,7,9,7,9,22,21,21,14,15,23,14,15,24,14,25,26]):=by kernel_rfl
theorem qF2a (g:Nat→T_Bar) (nb N m:Nat) (F T Q td FR:Nat→Int) (SN:Nat→Bool) (a b v:Int) (i j tn:Nat) :
    zM 3 [rg 5,.dec true,rg 7,.dec true,rg 3,.head] zf10 (SF2 g nb N m F T Q td FR SN a b v i j tn) [0,1,2,3,4,5,6,7,8] 1 (SF2 g nb N m F T Q td FR SN a b v i (j+1) tn) =
    some (zf10,zD [(NT 0 1),((decide ((↑j:Int)<(↑m:Int)))=true),(IL 0 (↑j:Int)),(IT (↑j:Int) (↑m:Int)),(NT j m),((T j != v)=true),(ZLo ((↑j:Int)+1)),(ZHi ((↑j:Int)+1)),(AI ((↑N:Int))),(AN nb),(AP nb (bRw g)),(AN 0),(AN N),(AN m),(AI a),(AI b),(AN tn),(AI ((↑i:Int))),(AI v),((((↑j:Int)+1):Int)=(↑(j+1):Int)),(AN 1),(NL N N),(AA N (fun i_1=>[.p (.int .i64 (F i_1))])),(NL m m),(AA m (fun i_1=>[.p (.int .i64 (T i_1))])),(AA m (fun i_1=>[.p (.int .i64 (Q i_1))])),(AN 2),(NL 1 1),(AN 3),(AA N (fun i_1=>[.p (.int .i64 (FR i_1))])),(AA N (fun i_1=>[.p (.bool (SN i_1))])),(NL tn tn),(AA tn (fun i_1=>[.p (.int .i64 (td i_1))]))] [0,1,0,2,3,4,5,6,7,8,9,10,11,12,11,13,11,13,14,15,11,11,11,11,12,11,16,11,12,17,18,19,20,21,22,20,23,24,20,23,25,26,27,27,8,9,10,28,27,27,11,12,11,13,11,13,28,27,27,20,21,29,20,21,30,20,31,32]):=by kernel_rfl
theorem qF2b (g:Nat→T_Bar) (nb N m:Nat) (F T Q td FR:Nat→Int) (SN:Nat→Bool) (a b v u:Int) (i j tn:Nat) :
    zM 3 [rg 5,.dec true,rg 7,.dec false,rm [(10,oc [] (.p (.int .i64 u)))] 1,rg 4,.dec true,rg 3,.head] zf10 (SF2 g nb N m F T Q td FR SN a b v i j tn) [0,1,2,3,4,5,6,7,8] 1 (SF2 g nb N m F T Q td FR SN a b v i (j+1) tn) =
    some (zf10,zD [(NT 0 1),((decide ((↑j:Int)<(↑m:Int)))=true),(IL 0 (↑j:Int)),(IT (↑j:Int) (↑m:Int)),(NT j m),((T j != v)=false),(IL 0 (Q j)),(IT (Q j) (↑nb:Int)),zE 231 [(zf108 g Q j),.p (.int .i64 v)] [] (.p (.int .i64 u)),(IL 0 u),(IT u (↑N:Int)),(NT u.toNat N),((SN u.toNat)=true),(ZLo ((↑j:Int)+1)),(ZHi ((↑j:Int)+1)),(AI ((↑N:Int))),(AN nb),(AP nb (bRw g)),(AN 0),(AN N),(AN m),(AI a),(AI b),(AN tn),(AI ((↑i:Int))),(AI v),((((↑j:Int)+1):Int)=(↑(j+1):Int)),(AN 1),(NL N N),(AA N (fun i_1=>[.p (.int .i64 (F i_1))])),(NL m m),(AA m (fun i_1=>[.p (.int .i64 (T i_1))])),(AA m (fun i_1=>[.p (.int .i64 (Q i_1))])),(AN 2),(NL 1 1),(AN 3),(AA N (fun i_1=>[.p (.int .i64 (FR i_1))])),(AA N (fun i_1=>[.p (.bool (SN i_1))])),(NL tn tn),(AA tn (fun i_1=>[.p (.int .i64 (td i_1))]))] [0,1,0,2,3,4,5,0,0,2,3,4,6,7,8,9,10,11,12,13,14,15,16,17,18,19,18,20,18,20,21,22,18,18,18,18,19,18,23,18,19,24,25,26,27,28,29,27,30,31,27,30,32,33,34,34,15,16,17,35,34,34,18,19,18,20,18,20,35,34,34,27,28,36,27,28,37,27,38,39]):=by kernel_rfl
theorem qF2c (g:Nat→T_Bar) (nb N m:Nat) (F T Q td FR:Nat→Int) (SN:Nat→Bool) (a b v u:Int) (i j tn:Nat) :
    zM 3 [rg 5,.dec true,rg 7,.dec false,rm [(10,oc [] (.p (.int .i64 u)))] 1,rg 4,.dec false,rg 4,rg 5,rg 11,.dec false,rg 5,rg 3,.head] zf10 (SF2 g nb N m F T Q td FR SN a b v i j tn) [0,1,2,3,4,5,6,7,1641] 1 (SF2 g nb N m F T Q (fun s=>if s<tn then td s else u) (fun s=>if s=u.toNat then j else FR s) (fun s=>if s=u.toNat then true else SN s) a b v i (j+1) (tn+1)) =
    some (zf10,zD [(NT 0 1),((decide ((↑j:Int)<(↑m:Int)))=true),(IL 0 (↑j:Int)),(IT (↑j:Int) (↑m:Int)),(NT j m),((T j != v)=false),(IL 0 (Q j)),(IT (Q j) (↑nb:Int)),zE 231 [(zf108 g Q j),.p (.int .i64 v)] [] (.p (.int .i64 u)),(IL 0 u),(IT u (↑N:Int)),(NT u.toNat N),((SN u.toNat)=false),((false=true)→ ((N:Nat)=1)),(AG (u != b)),(((u != b)=true)→(NT 0 1)),(((u != b)=true)→(IL 0 u)),(((u != b)=true)→(IT u (↑N:Int))),(((u != b)=true)→(NT u.toNat N)),((bif u != b then decide (F (u.toNat+0)>0) else false)=false),(NL 1 1),(NL tn tn),(NL ((tn+1)*8) 140737488355328),(NL (tn+1) 9223372036854775807),(ZLo ((↑j:Int)+1)),(ZHi ((↑j:Int)+1)),(AI ((↑N:Int))),(AN nb),(AP nb (bRw g)),(AN 0),(AN N),(AN m),(AI a),(AI b),(AN ((tn+1))),(AI ((↑i:Int))),(AI v),((((↑j:Int)+1):Int)=(↑(j+1):Int)),(AN 1),(NL N N),(AA N (fun i_1=>[.p (.int .i64 (F i_1))])),(NL m m),(AA m (fun i_1=>[.p (.int .i64 (T i_1))])),(AA m (fun i_1=>[.p (.int .i64 (Q i_1))])),(AN 2),(AN 3),(CV [(1641,⟨false,1,(tn+1),(fun i_2=>(if (i_2<tn) then [.p (.int .i64 (td i_2))] else [.p (.int .i64 u)]))⟩),(1609,⟨false,1,1,(fun i_2=>[.p (.int .i64 u)])⟩),(6,⟨false,1,N,(fun i_2=>(if (i_2=u.toNat) then [.p (.int .i64 (↑j:Int))] else [.p (.int .i64 (FR i_2))]))⟩),(7,⟨false,1,N,(fun i_2=>(if (i_2=u.toNat) then [.p (.bool true)] else [.p (.bool (SN i_2))]))⟩),(0,⟨false,1,N,(fun i_2=>[.p (.int .i64 (F i_2))])⟩),(1,⟨false,1,m,(fun i_2=>[.p (.int .i64 (T i_2))])⟩),(2,⟨false,1,m,(fun i_2=>[.p (.int .i64 (Q i_2))])⟩),(3,⟨true,2,1,(fun i_2=>[.p (.int .i64 (↑N:Int)),.p (.seq true 2 nb (bRw g))])⟩),(4,⟨true,3,1,(fun i_2=>[.ar 1 0 0 N,.ar 1 1 0 m,.ar 1 2 0 m])⟩),(5,⟨true,3,1,(fun i_2=>[.p (.nil),.p (.nil),.p (.nil)])⟩)] [0,1,2,3,4,5,6,7,1641] 1 N (fun i_1=>if (i_1=u.toNat) then [.p (.int .i64 (↑j:Int))] else [.p (.int .i64 (FR i_1))]) (fun i_1=>[.p (.int .i64 (if i_1=u.toNat then (↑j:Int) else FR i_1))])),(CV [(1641,⟨false,1,(tn+1),(fun i_2=>(if (i_2<tn) then [.p (.int .i64 (td i_2))] else [.p (.int .i64 u)]))⟩),(1609,⟨false,1,1,(fun i_2=>[.p (.int .i64 u)])⟩),(6,⟨false,1,N,(fun i_2=>(if (i_2=u.toNat) then [.p (.int .i64 (↑j:Int))] else [.p (.int .i64 (FR i_2))]))⟩),(7,⟨false,1,N,(fun i_2=>(if (i_2=u.toNat) then [.p (.bool true)] else [.p (.bool (SN i_2))]))⟩),(0,⟨false,1,N,(fun i_2=>[.p (.int .i64 (F i_2))])⟩),(1,⟨false,1,m,(fun i_2=>[.p (.int .i64 (T i_2))])⟩),(2,⟨false,1,m,(fun i_2=>[.p (.int .i64 (Q i_2))])⟩),(3,⟨true,2,1,(fun i_2=>[.p (.int .i64 (↑N:Int)),.p (.seq true 2 nb (bRw g))])⟩),(4,⟨true,3,1,(fun i_2=>[.ar 1 0 0 N,.ar 1 1 0 m,.ar 1 2 0 m])⟩),(5,⟨true,3,1,(fun i_2=>[.p (.nil),.p (.nil),.p (.nil)])⟩)] [0,1,2,3,4,5,6,7,1641] 1 N (fun i_1=>if (i_1=u.toNat) then [.p (.bool true)] else [.p (.bool (SN i_1))]) (fun i_1=>[.p (.bool (if i_1=u.toNat then true else SN i_1))])),(NL (tn+1) (tn+1)),(CV [(1641,⟨false,1,(tn+1),(fun i_2=>(if (i_2<tn) then [.p (.int .i64 (td i_2))] else [.p (.int .i64 u)]))⟩),(1609,⟨false,1,1,(fun i_2=>[.p (.int .i64 u)])⟩),(6,⟨false,1,N,(fun i_2=>(if (i_2=u.toNat) then [.p (.int .i64 (↑j:Int))] else [.p (.int .i64 (FR i_2))]))⟩),(7,⟨false,1,N,(fun i_2=>(if (i_2=u.toNat) then [.p (.bool true)] else [.p (.bool (SN i_2))]))⟩),(0,⟨false,1,N,(fun i_2=>[.p (.int .i64 (F i_2))])⟩),(1,⟨false,1,m,(fun i_2=>[.p (.int .i64 (T i_2))])⟩),(2,⟨false,1,m,(fun i_2=>[.p (.int .i64 (Q i_2))])⟩),(3,⟨true,2,1,(fun i_2=>[.p (.int .i64 (↑N:Int)),.p (.seq true 2 nb (bRw g))])⟩),(4,⟨true,3,1,(fun i_2=>[.ar 1 0 0 N,.ar 1 1 0 m,.ar 1 2 0 m])⟩),(5,⟨true,3,1,(fun i_2=>[.p (.nil),.p (.nil),.p (.nil)])⟩)] [0,1,2,3,4,5,6,7,1641] 1 (tn+1) (fun i_1=>if (i_1<tn) then [.p (.int .i64 (td i_1))] else [.p (.int .i64 u)]) (fun i_1=>[.p (.int .i64 (if i_1<tn then td i_1 else u))]))] [0,1,0,2,3,4,5,0,0,2,3,4,6,7,8,9,10,11,12,9,10,11,13,9,10,11,13,14,15,14,14,16,17,14,18,14,14,19,20,21,22,23,24,25,26,27,28,29,30,29,31,29,31,32,33,29,29,29,29,30,29,34,29,30,35,36,37,38,39,40,38,41,42,38,41,43,44,20,20,26,27,28,45,20,20,29,30,29,31,29,31,45,20,20,38,39,46,38,39,47,38,48,49]):=by kernel_rfl
theorem qF2d (g:Nat→T_Bar) (nb N m:Nat) (F T Q td FR:Nat→Int) (SN:Nat→Bool) (a b v u:Int) (i j tn:Nat) :
    zM 3 [rg 5,.dec true,rg 7,.dec false,rm [(10,oc [] (.p (.int .i64 u)))] 1,rg 4,.dec false,rg 4,rg 5,rg 11,.dec true,.head] zf10 (SF2 g nb N m F T Q td FR SN a b v i j tn) [0,1,2,3,4,5,6] 1 (SF3 g nb N m F T Q (fun s=>if s=u.toNat then j else FR s) a b u) =
    some (zf2,zD [(NT 0 1),((decide ((↑j:Int)<(↑m:Int)))=true),(IL 0 (↑j:Int)),(IT (↑j:Int) (↑m:Int)),(NT j m),((T j != v)=false),(IL 0 (Q j)),(IT (Q j) (↑nb:Int)),zE 231 [(zf108 g Q j),.p (.int .i64 v)] [] (.p (.int .i64 u)),(IL 0 u),(IT u (↑N:Int)),(NT u.toNat N),((SN u.toNat)=false),((false=true)→ ((N:Nat)=1)),(AG (u != b)),(((u != b)=true)→(NT 0 1)),(((u != b)=true)→(IL 0 u)),(((u != b)=true)→(IT u (↑N:Int))),(((u != b)=true)→(NT u.toNat N)),((bif u != b then decide (F (u.toNat+0)>0) else false)=true),(AI ((↑N:Int))),(AN nb),(AP nb (bRw g)),(AN 0),(AN N),(AN m),(AI a),(AI b),(AI u),(AN 1),(NL N N),(AA N (fun i_1=>[.p (.int .i64 (F i_1))])),(NL m m),(AA m (fun i_1=>[.p (.int .i64 (T i_1))])),(AA m (fun i_1=>[.p (.int .i64 (Q i_1))])),(AN 2),(NL 1 1),(AN 3),(CV [(6,⟨false,1,N,(fun i_2=>(if (i_2=u.toNat) then [.p (.int .i64 (↑j:Int))] else [.p (.int .i64 (FR i_2))]))⟩),(7,⟨false,1,N,(fun i_2=>(if (i_2=u.toNat) then [.p (.bool true)] else [.p (.bool (SN i_2))]))⟩),(0,⟨false,1,N,(fun i_2=>[.p (.int .i64 (F i_2))])⟩),(1,⟨false,1,m,(fun i_2=>[.p (.int .i64 (T i_2))])⟩),(2,⟨false,1,m,(fun i_2=>[.p (.int .i64 (Q i_2))])⟩),(3,⟨true,2,1,(fun i_2=>[.p (.int .i64 (↑N:Int)),.p (.seq true 2 nb (bRw g))])⟩),(4,⟨true,3,1,(fun i_2=>[.ar 1 0 0 N,.ar 1 1 0 m,.ar 1 2 0 m])⟩),(5,⟨true,3,1,(fun i_2=>[.p (.nil),.p (.nil),.p (.nil)])⟩),(8,⟨false,1,tn,(fun i_2=>[.p (.int .i64 (td i_2))])⟩)] [0,1,2,3,4,5,6] 1 N (fun i_1=>if (i_1=u.toNat) then [.p (.int .i64 (↑j:Int))] else [.p (.int .i64 (FR i_1))]) (fun i_1=>[.p (.int .i64 (if i_1=u.toNat then (↑j:Int) else FR i_1))]))] [0,1,0,2,3,4,5,0,0,2,3,4,6,7,8,9,10,11,12,9,10,11,13,9,10,11,13,14,15,14,14,16,17,14,18,14,14,19,20,21,22,23,24,23,25,23,25,26,27,23,23,23,23,24,28,29,30,31,29,32,33,29,32,34,35,36,36,20,21,22,37,36,36,23,24,23,25,23,25,37,36,36,29,30,38]):=by kernel_rfl
theorem qF3 (g:Nat→T_Bar) (nb N m:Nat) (F T Q FR F1 T1:Nat→Int) (a b u:Int) :
    zP Tryz.f222 3 [rm [(5,oc (pebR N m F1 T1 Q) (pebO N m 0))] 2] zf2 (SF3 g nb N m F T Q FR a b u) [0,1,2,167,168,169] 1 (pebR3 N m F T Q F1 T1 Q) (.tup [pebO N m 3,.p (.bool true)]) =
    some (zD [(NT 0 1),(AN 1),(NL N N),(NL m m),zE 232 [(zf101 N nb g),(zf60 N F m T Q),.p (.seq true 1 N (fun i=>[.int .i64 (FR i)])),.p (.int .i64 a),.p (.int .i64 u)] (zf34 N F1 m T1 Q) (.agg [.ar 1 0 0 N,.ar 1 1 0 m,.ar 1 2 0 m]),((true=true)→ (AN 1)),(AN 0),(AN N),(AN m),(true=true),(AA N (fun i=>[.p (.int .i64 (F i))])),(AA m (fun i=>[.p (.int .i64 (T i))])),(AA m (fun i=>[.p (.int .i64 (Q i))])),(AA N (fun i=>[.p (.int .i64 (F1 i))])),(AA m (fun i=>[.p (.int .i64 (T1 i))])),(AE N),(AE m)] [0,0,1,2,1,3,1,3,1,2,4,0,5,0,6,7,6,8,6,8,9,1,2,10,1,3,11,1,3,12,1,2,13,1,3,14,1,3,12,15,16,16,15,16,16]):=by kernel_rfl
theorem con_l4Other (x:T_Bar) (v:Int) (h1:0≤x.1∧x.1≤1048576) (h2:0≤x.2.1∧x.2.1≤1048576) (h3:0≤v∧v≤1048576):zE 231 [brA x,.p (.int .i64 v)] [] (.p (.int .i64 (x.1+x.2.1 - v))):=by
  refine csZ Tryz.func231 (fun c hc=>?_)
  refine pkZ Tryz.func231 hc (qOt x v) ?_
  and_intros
  all_goals (first | exact zN | simp)
theorem con_l4Copy (N m:Nat) (F T Q:Nat→Int) (hN:N≤1048576) (hm:m≤1048576):zE 207 [pebD N m F T Q] (pebR N m F T Q) (pebO N m 0):=by
  refine csZ Tryz.func207 (fun c hc=>?_)
  refine pkD Tryz.func207 hc (qCp N m F T Q) ?_
  and_intros
  all_goals (first | exact zI | (intro i hi;simp [All]))
theorem oth_sum {x:T_Bar} {y z:Int} (h:y=x.1∨y=x.2.1) (hz:othF x y=z):x.1+x.2.1 - z=y∧x.1+x.2.1 - y=z:=by
  unfold othF at hz
  by_cases e:x.1=y
  · rw [if_pos e] at hz;omega
  · rw [if_neg e] at hz
    rcases h with h | h
    · exact absurd h.symm e
    · omega
theorem run_shift {N nb m:Nat} {g:Nat→T_Bar} {F F0 F1 T Q td FR:Nat→Int} {a b u:Int} {tn:Nat} (h:BInv N m g F T Q td (fun s=>FR (td s).toNat) a b tn) (hN:N≤1048576) (hm:m≤1048576) (hnb:nb≤1048576)
    (hq:∀ j,j<m→0≤Q j∧Q j<nb) (hbar:∀ e,e<nb→0≤(g e).1∧(g e).1<(g e).2.1∧(g e).2.1<N) (hT:∀ j,j<m→T j=(g (Q j).toNat).1∨T j=(g (Q j).toNat).2.1) :
    ∀ s,s<tn→∀ T':Nat→Int,TInv m g T Q td (fun s=>FR (td s).toNat) T' u s→∃ T'' s',(∀ c,c.n=0→zR c 232 zf29 (SSl g nb N m F0 T Q FR F1 T' a u (td s)) (Post c (pebR N m F1 T'' Q) (pebO N m 0))) ∧
      TInv m g T Q td (fun s=>FR (td s).toNat) T'' u s'∧td s'=a:=by
  intro s
  induction s using Nat.strongRecOn with
  | ind s ih =>
    intro hs T' ht
    by_cases he:td s=a
    · refine ⟨T',s,fun c hc=>?_,ht,he⟩
      have hb:(td s != a)=false:=by simp [he]
      refine pkD Tryz.func232 hc (qSe g nb N m F0 T Q FR F1 T' a u (td s)) ?_
      and_intros
      all_goals (first | exact zI | (exact hb) | (intro i hi;simp [All]))
    · have hs1:1≤s:=by
        cases s with
        | zero=>exact absurd h.td0 he
        | succ s=>omega
      obtain ⟨j,hj,hVs,s',hs',hk,ht',hTj,hoth⟩:=ht.step h hs hs1
      have hVs:FR (td s).toNat=(j:Int):=hVs
      obtain ⟨T'',s'',hrun,h1,h2⟩:=ih s' hs' (by omega) _ ht'
      refine ⟨T'',s'',fun c hc=>?_,h1,h2⟩
      have hb:(td s != a)=true:=by simp [he]
      have hqj:=hq j hj
      have hbj:=hbar (Q j).toNat (by omega)
      have hrs:=h.rng s hs
      have hsum:=(oth_sum (by rw [← hTj];exact hT j hj) hoth).1
      have hcon:=con_l4Other (g (Q j).toNat) (td s) (by omega) (by omega) (by omega)
      rw [hsum] at hcon
      refine pcD hc (qSl g nb N m F0 T Q FR F1 T' a u (td s) (td s')) ?_ (by rw [hVs];simp only [Int.toNat_natCast];exact hrun c hc)
      and_intros
      all_goals (first | exact zI | (exact hb) | (rw [hVs];simp only [Int.toNat_natCast];omega) | (rw [hVs];simp only [Int.toNat_natCast];exact hcon) | (intro i hi;simp [All];done) | (simp only [hVs,Int.toNat_natCast];intro i hi;by_cases h:i=j<;>simp [h,cvtL,cvt,tg,tru,All]))
theorem BInv.congrV {N m:Nat} {g:Nat→T_Bar} {F T Q td V V':Nat→Int} {a b:Int} {tn:Nat} (h:BInv N m g F T Q td V a b tn) (hv:∀ s,s<tn→V s=V' s):BInv N m g F T Q td V' a b tn :=
  ⟨h.n1,h.td0,h.rng,h.inj,fun s h1 h2=>by rw [← hv s h2];exact h.par s h1 h2⟩
theorem con_l4Shift {N k nb m:Nat} {g:Nat→T_Bar} {F T Q td FR:Nat→Int} {a b u:Int} {tn:Nat} (hp:PInv N k nb m g F T Q) (hk:k≤1048576) (hN:N≤1048576) (hm:m≤1048576) (hnb:nb≤1048576)
    (h:BInv N m g F T Q td (fun s=>FR (td s).toNat) a b (tn+1)) (htn:td tn=u) (ha:0≤a∧a<N) (hu:0≤u∧u<N) (hua:u≠a) :
    ∃ T'' s',zE 232 [grG g nb N,pebD N m F T Q,inD N FR,.p (.int .i64 a),.p (.int .i64 u)] (pebR N m (fun x=>if x=a.toNat then (if x=u.toNat then F x - 1 else F x)+1 else (if x=u.toNat then F x - 1 else F x)) T'' Q) (pebO N m 0) ∧
      TInv m g T Q td (fun s=>FR (td s).toNat) T'' u s'∧td s'=a:=by
  have ht0:TInv m g T Q td (fun s=>FR (td s).toNat) T u tn:=⟨fun _ _ _=>rfl,hp.t,fun x=>by rw [htn];omega⟩
  obtain ⟨T'',s',hrun,h1,h2⟩:=run_shift (nb:=nb) (F0:=F) (F1:=fun x=>if x=a.toNat then (if x=u.toNat then F x - 1 else F x)+1 else (if x=u.toNat then F x - 1 else F x)) h hN hm hnb hp.q hp.bars hp.t tn (by omega) T ht0
  refine ⟨T'',s',?_,h1,h2⟩
  rw [htn] at hrun
  have hFa:=hp.le (v:=a.toNat) (by omega)
  have hFu:=hp.le (v:=u.toNat) (by omega)
  have hcc:=con_l4Copy N m F T Q hN hm
  refine csZ Tryz.func232 (fun c hc=>?_)
  have hrun':=hrun c hc
  refine pcD hc (qSz g nb N m F T Q FR a u) ?_ ?_
  ·
    and_intros
    all_goals (first | exact zI | (exact hcc) | (intro i hi;simp [All];done) | (intro i hi;by_cases h:i=u.toNat<;>simp [h,cvtL,cvt,tg,tru,All]))
  · have hF1:(fun s=>if s=u.toNat then F s - 1 else F s) a.toNat=F a.toNat:=by
      show (if a.toNat=u.toNat then F a.toNat - 1 else F a.toNat)=_
      rw [if_neg (by omega)]
    obtain ⟨F1,hF1d⟩:∃ F1:Nat→Int,F1=(fun s=>if s=u.toNat then F s - 1 else F s):=⟨_,rfl⟩
    have hFF:(fun x=>if x=a.toNat then (if x=u.toNat then F x - 1 else F x)+1 else (if x=u.toNat then F x - 1 else F x))=(fun s=>if s=a.toNat then F1 s+1 else F1 s):=by
      subst hF1d;rfl
    rw [hFF] at hrun' ⊢
    rw [← hF1d] at hF1 ⊢
    refine pcD hc (qSa g nb N m F T Q FR F1 T a u) ?_ hrun'
    and_intros
    all_goals (first | exact zI | (rw [hF1];omega) | (intro i hi;simp [All];done) | (intro i hi;by_cases h:i=a.toNat<;>simp [h,cvtL,cvt,tg,tru,All]))
inductive FindR (N k nb m:Nat) (g:Nat→T_Bar) (F T Q:Nat→Int) (a b:Int):Hp→AV→Prop
  | yes (F' T':Nat→Int) (h:Moved N k nb m g F T Q a b F' T' true):FindR N k nb m g F T Q a b (pebR3 N m F T Q F' T' Q) (.tup [pebO N m 3,.p (.bool true)])
  | no (h:Moved N k nb m g F T Q a b F T false):FindR N k nb m g F T Q a b (pebR N m F T Q) (.tup [pebO N m 0,.p (.bool false)])
def OutS (N k nb m:Nat) (g:Nat→T_Bar) (F T Q:Nat→Int) (a b:Int) (i tn:Nat) (td FR:Nat→Int) (SN:Nat→Bool):Prop :=
  ∃ H' res,(∀ c,c.n=3→zR c 222 [.code (cAt (bodyOf Tryz.f222) [1,1,1,1,1,1,0,1,0,0]),.inLoop (cAt (bodyOf Tryz.f222) [1,1,1,1,1,1,0,1,0,0]),.inBlock 2,.code (cAt (bodyOf Tryz.f222) [1,1,1,1,1,1,1])] (SF1 g nb N m F T Q td FR SN a b i tn) (Post c H' res))∧FindR N k nb m g F T Q a b H' res
def MidS (N k nb m:Nat) (g:Nat→T_Bar) (F T Q:Nat→Int) (a b:Int) (i j tn:Nat) (td FR:Nat→Int) (SN:Nat→Bool):Prop :=
  ∃ H' res,(∀ c,c.n=3→zR c 222 [.code (cAt (bodyOf Tryz.f222) [1,1,1,1,1,1,0,1,0,0,1,0,0,1,1,0,0]),.inLoop (cAt (bodyOf Tryz.f222) [1,1,1,1,1,1,0,1,0,0,1,0,0,1,1,0,0]),.inBlock 4,.inBlock 3,.code (cAt (bodyOf Tryz.f222) [1,1,1,1,1,1,0,1,0,0,1,1]),.inLoop (cAt (bodyOf Tryz.f222) [1,1,1,1,1,1,0,1,0,0]),.inBlock 2,.code (cAt (bodyOf Tryz.f222) [1,1,1,1,1,1,1])] (SF2 g nb N m F T Q td FR SN a b (td i) i j tn) (Post c H' res))∧FindR N k nb m g F T Q a b H' res
def SeenI (N:Nat) (td:Nat→Int) (SN:Nat→Bool) (tn:Nat):Prop:=∀ x:Nat,x<N→(SN x=true↔∃ s,s<tn∧td s=x)
theorem mid_s {N k nb m:Nat} {g:Nat→T_Bar} {F T Q:Nat→Int} {a b:Int} (hp:PInv N k nb m g F T Q) (hk:k≤1048576) (hN:N≤1048576) (hm:m≤1048576) (hnb:nb≤1048576)
    (ha:0≤a∧a<N) (hb:0≤b∧b<N) (hab:a≠b) (i:Nat)
    (ih:∀ tn td FR SN,i+1≤tn→BInv N m g F T Q td (fun s=>FR (td s).toNat) a b tn→SeenI N td SN tn→BZero F td b tn→BClo m g T Q td (i+1) 0 tn→OutS N k nb m g F T Q a b (i+1) tn td FR SN) :
    ∀ e j tn td FR SN,j+e=m→i<tn→BInv N m g F T Q td (fun s=>FR (td s).toNat) a b tn→SeenI N td SN tn→BZero F td b tn→BClo m g T Q td i j tn→MidS N k nb m g F T Q a b i j tn td FR SN:=by
  intro e
  induction e with
  | zero =>
    intro j tn td FR SN hj hi hbi hsn hz hcl
    have htn:=pigeon N tn td hbi.rng hbi.inj
    obtain ⟨H',res,hrun,hmv⟩:=ih tn td FR SN (by omega) hbi hsn hz (fun i' j' hij hi' hT=>by
      rcases hij with ⟨h1,h2⟩ | ⟨h1,h2⟩
      · by_cases e:i'=i
        · exact hcl i' j' (.inr ⟨e,by omega⟩) hi' hT
        · exact hcl i' j' (.inl ⟨by omega,h2⟩) hi' hT
      · omega)
    refine ⟨H',res,fun c hc=>?_,hmv⟩
    have hd:decide ((j:Int)<(m:Int))=false:=by simp;omega
    refine pcD hc (qF2e g nb N m F T Q td FR SN a b (td i) i j tn) ?_ (hrun c hc)
    and_intros
    all_goals (first | exact zN | (intro i hi;simp [All]))
  | succ e ihe =>
    intro j tn td FR SN hj hi hbi hsn hz hcl
    have htn:=pigeon N tn td hbi.rng hbi.inj
    have hjm:j<m:=by omega
    have hd:decide ((j:Int)<(m:Int))=true:=by simp;omega
    have hq:=hp.q j hjm
    have hbar:=hp.bars (Q j).toNat (by omega)
    have hrg:=hbi.rng i hi
    by_cases hT:T j=td i
    · have ht1:(T j != td i)=false:=by simp [hT]
      obtain ⟨v,hv⟩:∃ v,othF (g (Q j).toNat) (td i)=v:=⟨_,rfl⟩
      have hvr:0≤v∧v<N:=by rw [← hv];exact othF_in hbar
      have hsum:=(oth_sum (by rw [← hT];exact hp.t j hjm) hv).2
      have hcon:=con_l4Other (g (Q j).toNat) (td i) (by omega) (by omega) (by omega)
      rw [hsum] at hcon
      cases hh:SN v.toNat with
      | true =>
        obtain ⟨s,hs1,hs2⟩:=(hsn v.toNat (by omega)).1 hh
        obtain ⟨H',res,hrun,hmv⟩:=ihe (j+1) tn td FR SN (by omega) hi hbi hsn hz (fun i' j' hij hi' hTT=>by
          by_cases e:i'=i∧j'=j
          · obtain ⟨rfl,rfl⟩:=e
            exact ⟨s,hs1,by rw [hs2,hv];omega⟩
          · exact hcl i' j' (by omega) hi' hTT)
        refine ⟨H',res,fun c hc=>?_,hmv⟩
        refine pcD hc (qF2b g nb N m F T Q td FR SN a b (td i) v i j tn) ?_ (hrun c hc)
        and_intros
        all_goals (first | exact zN | (exact ht1) | (exact hcon) | (exact hh) | (intro i hi;simp [All]))
      | false =>
        have hno:∀ s,s<tn→td s≠v:=by
          intro s hs e
          have:=(hsn v.toNat (by omega)).2 ⟨s,hs,by omega⟩
          rw [hh] at this;cases this
        have hadd0:=hbi.add hi hjm hT hv hvr hno
        have hadd:BInv N m g F T Q (fun s=>if s<tn then td s else v) (fun s=>(fun x=>if x=v.toNat then (j:Int) else FR x) ((fun s=>if s<tn then td s else v) s).toNat) a b (tn+1):=by
          refine hadd0.congrV (fun s hs=>?_)
          show (if s<tn then FR (td s).toNat else (j:Int))=(if (if s<tn then td s else v).toNat=v.toNat then (j:Int) else FR (if s<tn then td s else v).toNat)
          by_cases e:s<tn
          · have h1:=hno s e
            have h2:=hbi.rng s e
            rw [if_pos e,if_pos e,if_neg (show ¬ (td s).toNat=v.toNat by omega)]
          · rw [if_neg e,if_neg e,if_pos rfl]
        have hF:=hp.le (v:=v.toNat) (by omega)
        cases hcd:(bif v != b then decide (F v.toNat>0) else false) with
        | false =>
          have hzv:v=b∨F v.toNat=0:=by
            by_cases e:v=b
            · exact .inl e
            · right
              have:(v != b)=true:=by simp [e]
              rw [this] at hcd
              simp at hcd
              omega
          obtain ⟨H',res,hrun,hmv⟩:=ihe (j+1) (tn+1) (fun s=>if s<tn then td s else v) (fun x=>if x=v.toNat then (j:Int) else FR x) (fun s=>if s=v.toNat then true else SN s) (by omega) (by omega) hadd (fun x hx=>by
            show (if x=v.toNat then true else SN x)=true↔∃ s,s<tn+1∧(if s<tn then td s else v)=x
            by_cases e:x=v.toNat
            · rw [if_pos e]
              exact ⟨fun _=>⟨tn,by omega,by rw [if_neg (Nat.lt_irrefl tn)];omega⟩,fun _=>rfl⟩
            · rw [if_neg e,hsn x hx]
              constructor
              · rintro ⟨s,h1,h2⟩;exact ⟨s,by omega,by rw [if_pos h1];exact h2⟩
              · rintro ⟨s,h1,h2⟩
                by_cases e2:s<tn
                · rw [if_pos e2] at h2;exact ⟨s,e2,h2⟩
                · rw [if_neg e2] at h2;omega) (fun s h1 h2=>by
            show (if s<tn then td s else v)=b∨F (if s<tn then td s else v).toNat=0
            by_cases e:s<tn
            · rw [if_pos e];exact hz s h1 e
            · rw [if_neg e];exact hzv) (fun i' j' hij hi' hTT=>by
            have hi2:i'<tn:=by omega
            have hTT':T j'=td i':=by rw [hTT];show (if i'<tn then td i' else v)=_;rw [if_pos hi2]
            show ∃ s,s<tn+1∧(if s<tn then td s else v)=othF (g (Q j').toNat) (if i'<tn then td i' else v)
            rw [if_pos hi2]
            by_cases e:i'=i∧j'=j
            · obtain ⟨rfl,rfl⟩:=e
              exact ⟨tn,by omega,by rw [if_neg (Nat.lt_irrefl tn),hv]⟩
            · obtain ⟨s,h1,h2⟩:=hcl i' j' (by omega) hi2 hTT'
              exact ⟨s,by omega,by rw [if_pos h1];exact h2⟩)
          refine ⟨H',res,fun c hc=>?_,hmv⟩
          have hrun':=hrun c hc
          simp only [hi,if_true] at hrun'
          refine pcD hc (qF2c g nb N m F T Q td FR SN a b (td i) v i j tn) ?_ hrun'
          and_intros
          all_goals (first | exact zI | (exact ht1) | (exact hcon) | (exact hh) | (exact hcd) | (intros;omega) | (intro i hi;simp [All];done) | (intro i hi;by_cases h:i<tn<;>simp [h,cvtL,cvt,tg,tru,All];done) | (intro i hi;by_cases h:i=v.toNat<;>simp [h,cvtL,cvt,tg,tru,All]))
        | true =>
          have hvb:v≠b:=by
            intro e
            rw [show (v != b)=false by simp [e]] at hcd
            cases hcd
          have hFv:F v.toNat≠0:=by
            intro e
            rw [show (v != b)=true by simp [hvb]] at hcd
            simp [e] at hcd
          have hva:v≠a:=by
            have:=hno 0 (by have:=hbi.n1;omega)
            rw [hbi.td0] at this
            exact Ne.symm this
          obtain ⟨T'',s',hcs,h1,h2⟩:=con_l4Shift (td:=fun s=>if s<tn then td s else v) (FR:=fun x=>if x=v.toNat then (j:Int) else FR x) (tn:=tn) hp hk hN hm hnb hadd (by show (if tn<tn then td tn else v)=v;rw [if_neg (Nat.lt_irrefl tn)]) ha hvr hva
          refine ⟨_,_,fun c hc=>?_,.yes _ T'' (moved_yes hp ha hb hab hvr hva hvb hFv h1 h2)⟩
          refine pcD hc (qF2d g nb N m F T Q td FR SN a b (td i) v i j tn) ?_ ?_
          ·
            and_intros
            all_goals (first | exact zI | (exact ht1) | (exact hcon) | (exact hh) | (exact hcd) | (intros;omega) | (intro i hi;simp [All];done) | (intro i hi;by_cases h:i=v.toNat<;>simp [h,cvtL,cvt,tg,tru,All]))
          · refine pkD Tryz.func222 hc (qF3 g nb N m F T Q (fun s=>if s=v.toNat then (j:Int) else FR s) _ T'' a b v) ?_
            and_intros
            all_goals (first | exact zI | (exact hcs) | (intro i hi;simp [All]))
    · have ht1:(T j != td i)=true:=by simp [hT]
      obtain ⟨H',res,hrun,hmv⟩:=ihe (j+1) tn td FR SN (by omega) hi hbi hsn hz (fun i' j' hij hi' hTT=>by
        by_cases e:i'=i∧j'=j
        · obtain ⟨rfl,rfl⟩:=e
          exact absurd hTT hT
        · exact hcl i' j' (by omega) hi' hTT)
      refine ⟨H',res,fun c hc=>?_,hmv⟩
      refine pcD hc (qF2a g nb N m F T Q td FR SN a b (td i) i j tn) ?_ (hrun c hc)
      and_intros
      all_goals (first | exact zN | (exact ht1) | (intro i hi;simp [All]))
theorem out_s {N k nb m:Nat} {g:Nat→T_Bar} {F T Q:Nat→Int} {a b:Int} (hp:PInv N k nb m g F T Q) (hk:k≤1048576) (hN:N≤1048576) (hm:m≤1048576) (hnb:nb≤1048576)
    (ha:0≤a∧a<N) (hb:0≤b∧b<N) (hab:a≠b):∀ d i tn td FR SN,N+1≤i+d→i≤tn→BInv N m g F T Q td (fun s=>FR (td s).toNat) a b tn→SeenI N td SN tn→BZero F td b tn→BClo m g T Q td i 0 tn→OutS N k nb m g F T Q a b i tn td FR SN:=by
  intro d
  induction d with
  | zero =>
    intro i tn td FR SN hd hi hbi _ _ _
    have:=pigeon N tn td hbi.rng hbi.inj
    omega
  | succ d ih =>
    intro i tn td FR SN hd hi hbi hsn hz hcl
    have htn:=pigeon N tn td hbi.rng hbi.inj
    by_cases hit:i<tn
    · have hd':decide ((i:Int)<(tn:Int))=true:=by simp;omega
      obtain ⟨H',res,hrun,hmv⟩:=mid_s hp hk hN hm hnb ha hb hab i (fun tn td FR SN h1 h2 h3 h4 h5=>ih (i+1) tn td FR SN (by omega) h1 h2 h3 h4 h5) m 0 tn td FR SN (by omega) hit hbi hsn hz hcl
      refine ⟨H',res,fun c hc=>?_,hmv⟩
      refine pcD hc (qF1 g nb N m F T Q td FR SN a b i tn) ?_ (hrun c hc)
      and_intros
      all_goals (first | exact zN | (intro i hi;simp [All]))
    · have hd':decide ((i:Int)<(tn:Int))=false:=by simp;omega
      obtain rfl:i=tn:=by omega
      refine ⟨_,_,fun c hc=>?_,.no (moved_no hp hbi hz hcl)⟩
      refine pkD Tryz.func222 hc (qF1e g nb N m F T Q td FR SN a b i i) ?_
      and_intros
      all_goals (first | exact zI | (intro i hi;simp [All]))
theorem con_l4Find {N k nb m:Nat} {g:Nat→T_Bar} {F T Q:Nat→Int} {a b:Int} (hp:PInv N k nb m g F T Q) (hk:k≤1048576) (hN:N≤1048576) (hm:m≤1048576) (hnb:nb≤1048576)
    (ha:0≤a∧a<N) (hb:0≤b∧b<N) (hab:a≠b):∃ H' res,Con Tryz.prog 222 3 (pebR N m F T Q) [grG g nb N,pebO N m 0,.p (.int .i64 a),.p (.int .i64 b)] H' res∧FindR N k nb m g F T Q a b H' res:=by
  obtain ⟨H',res,hrun,hmv⟩:=out_s hp hk hN hm hnb ha hb hab (N+1) 0 1 (fun _=>a) (fun _=>-1) (fun s=>if s=a.toNat then true else false) (by omega) (by omega)
    ⟨by omega,rfl,fun s hs=>ha,fun s s' h1 h2=>by omega,fun s h1 h2=>by omega⟩ (fun x hx=>by
      show (if x=a.toNat then true else false)=true↔∃ s,s<1∧a=x
      by_cases e:x=a.toNat
      · rw [if_pos e];exact ⟨fun _=>⟨0,by omega,by omega⟩,fun _=>rfl⟩
      · rw [if_neg e];exact ⟨(fun h=>by cases h),(fun ⟨s,h1,h2⟩=>by omega)⟩) (fun s h1 h2=>by omega) (fun i' j' h=>by omega)
  refine ⟨H',res,?_,hmv⟩
  refine csZ Tryz.func222 (fun c hc=>?_)
  have lp0:∀ d i,i+d=N→zR c 222 zf61 (SF0 g nb N m F T Q a b i) (Post c H' res):=by
    intro d
    induction d with
    | zero =>
      intro i hi
      obtain rfl:i=N:=by omega
      have hd:decide ((i:Int)<(i:Int))=false:=by simp
      refine pcD hc (qF01 g nb i m F T Q a b i) ?_ (hrun c hc)
      and_intros
      iterate 2 all_goals (first | exact zI | (intro j hj;simp [All];done) | (intro j hj;simp [hj,All];done) | (intro j hj;by_cases h:j=a.toNat<;>simp [h,cvtL,cvt,tg,tru,All]) | simp only [All])
    | succ d ih =>
      intro i hi
      have hd:decide ((i:Int)<(N:Int))=true:=by simp;omega
      refine pcD hc (qF0 g nb N m F T Q a b i) ?_ (ih (i+1) (by omega))
      and_intros
      all_goals (first | exact zI | (intro j hj;simp [All];done) | (intro j hj;by_cases h:j=i<;>simp [h,Nat.lt_succ_iff_lt_or_eq,cvtL,cvt,tg,tru,All]))
  refine pcD hc (qFz g nb N m F T Q a b) ?_ (lp0 N 0 (by omega))
  and_intros
  iterate 2 all_goals (first | exact zN | (intro i hi;simp [All]) | simp only [All])
def aft (a b:T_Bar):Bool:=bif decide (a.1<b.1) then true else bif a.1==b.1 then decide (a.2.1≤b.2.1) else false
def cmpI (x y:Int):Int:=if x<y then -1 else if x>y then 1 else 0
def cmpB (a b:T_Bar):Int:=if cmpI a.1 b.1=0 then cmpI a.2.1 b.2.1 else cmpI a.1 b.1
def badB (N:Int) (g:Nat→T_Bar) (k:Nat):Bool :=
  bif bif bif decide ((g k).1<0) then true else decide ((g k).1≥(g k).2.1) then true else decide ((g k).2.1≥N) then true
    else bif decide ((k:Int)>0) then !aft (g ((k:Int) - 1).toNat) (g k) else false
def goodB (N:Int) (g:Nat→T_Bar):Nat→Bool
  | 0=>true
  | k+1=>goodB N g k&&!badB N g k
def isGraphF (v:T_Graph):Bool:=if inB v.1 1 8=true∧v.2.1.1≤24 then goodB v.1 v.2.1.2 v.2.1.1 else false
def barA (a:T_Bar):AV:=.agg [.p (.int .i64 a.1),.p (.int .i64 a.2.1)]
def graphL (v:T_BarS):AV:=.p (.seq true 2 v.1 (fun i=>[.int .i64 (v.2 i).1,.int .i64 (v.2 i).2.1]))
def graphA (v:T_Graph):AV:=.agg [.p (.int .i64 v.1),graphL v.2.1]
def boxG (v:T_Graph):Ob:=⟨true,2,1,fun i=>[.p (.int .i64 v.1),graphL v.2.1]⟩
def S48 (v:T_Graph) (k:Nat):St :=
  ⟨[graphA v,.pt 2 0 0 0,.p .any,.p (.int .i64 k)]++List.replicate 55 anyA,[(0,boxG v)],1⟩
def S51 (v:T_Graph) (k:Nat):St :=
  ⟨[graphA v,.pt 2 0 0 0]++List.replicate 14 anyA++[graphL v.2.1,.p (.int .i64 v.2.1.1),.p (.int .i64 k)]++List.replicate 37 anyA,[(0,boxG v)],1⟩
theorem p57 (a b:T_Bar) :
    zS Tryz.f176 [rg 3,rg 20] [barA a,barA b] [] [] (.p (.bool (aft a b))) =
    some (zD [(NT 0 1),(AG (!decide (a.1<b.1))),(((!decide (a.1<b.1))=true)→(NT 0 1)),(AG (!decide (a.1<b.1)&&a.1==b.1)),(((!decide (a.1<b.1)&&a.1==b.1)=true)→(NT 0 1)),(((!decide (a.1<b.1))=true)→(((a.1==b.1)=true)→ ((!decide (a.1<b.1)&&a.1==b.1)=true))),(((decide (a.1<b.1))=false)→ ((!decide (a.1<b.1))=true)),((bif decide (a.1<b.1) then true else bif a.1==b.1 then decide (a.2.1≤b.2.1) else false)=(aft a b))] [0,0,1,2,1,2,1,1,1,3,4,3,4,3,3,1,5,6,7]):=by kernel_rfl
theorem p62a (x y:Int) :
    zS Tryz.f175 [rg 1,rg 4,.dec true,rg 1] [.p (.int .i64 x),.p (.int .i64 y)] [] [] (.p (.int .i64 (-1))) =
    some [((decide (x<y))=true),(AI ((-1)))]:=by kernel_rfl
theorem p62b (x y:Int) :
    zS Tryz.f175 [rg 1,rg 4,.dec false,rg 4,.dec true,rg 1] [.p (.int .i64 x),.p (.int .i64 y)] [] [] (.p (.int .i64 1)) =
    some [((decide (x<y))=false),((decide (x>y))=true),(AI 1)]:=by kernel_rfl
theorem p62c (x y:Int) :
    zS Tryz.f175 [rg 1,rg 4,.dec false,rg 4,.dec false,rg 1] [.p (.int .i64 x),.p (.int .i64 y)] [] [] (.p (.int .i64 0)) =
    some [((decide (x<y))=false),((decide (x>y))=false),(AI 0)]:=by kernel_rfl
theorem p59a (a b:T_Bar) :
    zS Tryz.f133 [rg 3,rm [(4,oc [] (.p (.int .i64 (cmpI a.1 b.1))))] 1,rg 2,.dec true,rg 2] [barA a,barA b] [] [] (.p (.int .i64 (cmpI a.1 b.1))) =
    some [(NT 0 1),(NT 0 1),zE 175 [.p (.int .i64 a.1),.p (.int .i64 b.1)] [] (.p (.int .i64 (cmpI a.1 b.1))),((cmpI a.1 b.1 != 0)=true),(AI ((cmpI a.1 b.1)))]:=by kernel_rfl
theorem p59b (a b:T_Bar) :
    zS Tryz.f133 [rg 3,rm [(4,oc [] (.p (.int .i64 (cmpI a.1 b.1))))] 1,rg 2,.dec false,rm [(4,oc [] (.p (.int .i64 (cmpI a.2.1 b.2.1))))] 1] [barA a,barA b] [] [] (.p (.int .i64 (cmpI a.2.1 b.2.1))) =
    some [(NT 0 1),(NT 0 1),zE 175 [.p (.int .i64 a.1),.p (.int .i64 b.1)] [] (.p (.int .i64 (cmpI a.1 b.1))),((cmpI a.1 b.1 != 0)=false),(NT 0 1),(NT 0 1),zE 175 [.p (.int .i64 a.2.1),.p (.int .i64 b.2.1)] [] (.p (.int .i64 (cmpI a.2.1 b.2.1))),(AI ((cmpI a.2.1 b.2.1)))]:=by kernel_rfl
theorem p48z (v:T_Graph) :
    zS Tryz.f134 [rg 2,rm [(2,oc [] (.p (.bool (inB v.1 1 8))))] 7,.dec true,rg 1] [graphA v] [] [] (.p (.bool false)) =
    some (zD [(NT 0 1),zE 121 [.p (.int .i64 v.1),.p (.int .i64 1),.p (.int .i64 8)] [] (.p (.bool (inB v.1 1 8))),(AG (!!inB v.1 1 8)),(((!!inB v.1 1 8)=true)→(NT 0 1)),(((!inB v.1 1 8)=false)→ ((!!inB v.1 1 8)=true)),((bif !inB v.1 1 8 then true else decide ((↑v.2.1.1:Int)>24))=true),(false=false)] [0,1,2,3,2,2,4,5,6]):=by kernel_rfl
theorem p48a (v:T_Graph) :
    zT Tryz.f134 [rg 2,rm [(2,oc [] (.p (.bool (inB v.1 1 8))))] 7,.dec false,rg 1,.head] [graphA v] [0] (S48 v 0) =
    some (zf62,zD [(NT 0 1),zE 121 [.p (.int .i64 v.1),.p (.int .i64 1),.p (.int .i64 8)] [] (.p (.bool (inB v.1 1 8))),(AG (!!inB v.1 1 8)),(((!!inB v.1 1 8)=true)→(NT 0 1)),(((!inB v.1 1 8)=false)→ ((!!inB v.1 1 8)=true)),((bif !inB v.1 1 8 then true else decide ((↑v.2.1.1:Int)>24))=false),(AI v.1),(AN v.2.1.1),(AP v.2.1.1 (bRw v.2.1.2)),(AN 0),((0:Int)=(↑0:Int)),((([AV.p (PV.int IntKind.i64 v.1),graphL v.2.1].length):Nat)=2),(NL 1 1)] [0,1,2,3,2,2,4,5,6,7,8,9,10,11,12,12,6,7,8]):=by kernel_rfl
theorem p48b (v:T_Graph) (k:Nat) :
    zM 0 [rg 5,.dec true,rg 7,rm [(28,oc [] (.p (.bool (aft (v.2.1.2 ((k:Int) - 1).toNat) (v.2.1.2 k)))))] 3,.dec false,rg 3,.head] zf62 (S48 v k) [0] 1 (S48 v (k+1)) =
    some (zf62,zD [(NT 0 1),((decide ((↑k:Int)<(↑v.2.1.1:Int)))=true),(IL 0 (↑k:Int)),(IT (↑k:Int) (↑v.2.1.1:Int)),((true=true)→ (AN 1)),(AG (!decide ((vKz v k).1<0))),(((!decide ((vKz v k).1<0))=true)→(NT 0 1)),(((decide ((vKz v k).1<0))=false)→ ((!decide ((vKz v k).1<0))=true)),(AG (!bif decide ((vKz v k).1<0) then true else decide ((vKz v k).1≥(vKz v k).2.1))),(((!bif decide ((vKz v k).1<0) then true else decide ((vKz v k).1≥(vKz v k).2.1))=true)→(NT 0 1)),(((bif decide ((vKz v k).1<0) then true else decide ((vKz v k).1≥(vKz v k).2.1))=false)→ ((!bif decide ((vKz v k).1<0) then true else decide ((vKz v k).1≥(vKz v k).2.1))=true)),(AG (!bif bif decide ((vKz v k).1<0) then true else decide ((vKz v k).1≥(vKz v k).2.1) then true else decide ((vKz v k).2.1≥v.1))),(AG ((!bif bif decide ((vKz v k).1<0) then true else decide ((vKz v k).1≥(vKz v k).2.1) then true else decide ((vKz v k).2.1≥v.1))&&decide ((↑k:Int)>0))),((((!bif bif decide ((vKz v k).1<0) then true else decide ((vKz v k).1≥(vKz v k).2.1) then true else decide ((vKz v k).2.1≥v.1))&&decide ((↑k:Int)>0))=true)→(NT 0 1)),((((!bif bif decide ((vKz v k).1<0) then true else decide ((vKz v k).1≥(vKz v k).2.1) then true else decide ((vKz v k).2.1≥v.1))&&decide ((↑k:Int)>0))=true)→(ZLo ((↑k:Int) - 1))),((((!bif bif decide ((vKz v k).1<0) then true else decide ((vKz v k).1≥(vKz v k).2.1) then true else decide ((vKz v k).2.1≥v.1))&&decide ((↑k:Int)>0))=true)→(ZHi ((↑k:Int) - 1))),((((!bif bif decide ((vKz v k).1<0) then true else decide ((vKz v k).1≥(vKz v k).2.1) then true else decide ((vKz v k).2.1≥v.1))&&decide ((↑k:Int)>0))=true)→(IL 0 ((↑k:Int) - 1))),((((!bif bif decide ((vKz v k).1<0) then true else decide ((vKz v k).1≥(vKz v k).2.1) then true else decide ((vKz v k).2.1≥v.1))&&decide ((↑k:Int)>0))=true)→(IT ((↑k:Int) - 1) (↑v.2.1.1:Int))),((((!bif bif decide ((vKz v k).1<0) then true else decide ((vKz v k).1≥(vKz v k).2.1) then true else decide ((vKz v k).2.1≥v.1))&&decide ((↑k:Int)>0))=true)→ zE 176 [(zf98 v k),(zf110 v k)] [] (.p (.bool (aft (v.2.1.2 ((↑k:Int) - 1).toNat) (v.2.1.2 k))))),(((!bif bif decide ((vKz v k).1<0) then true else decide ((vKz v k).1≥(vKz v k).2.1) then true else decide ((vKz v k).2.1≥v.1))=true)→(((decide ((↑k:Int)>0))=true)→ (((!bif bif decide ((vKz v k).1<0) then true else decide ((vKz v k).1≥(vKz v k).2.1) then true else decide ((vKz v k).2.1≥v.1))&&decide ((↑k:Int)>0))=true))),(((bif bif decide ((vKz v k).1<0) then true else decide ((vKz v k).1≥(vKz v k).2.1) then true else decide ((vKz v k).2.1≥v.1))=false)→ ((!bif bif decide ((vKz v k).1<0) then true else decide ((vKz v k).1≥(vKz v k).2.1) then true else decide ((vKz v k).2.1≥v.1))=true)),((bif bif bif decide ((vKz v k).1<0) then true else decide ((vKz v k).1≥(vKz v k).2.1) then true else decide ((vKz v k).2.1≥v.1) then true else bif decide ((↑k:Int)>0) then !aft (v.2.1.2 ((↑k:Int) - 1).toNat) (v.2.1.2 k) else false)=false),(ZLo ((↑k:Int)+1)),(ZHi ((↑k:Int)+1)),(AI v.1),(AN v.2.1.1),(AP v.2.1.1 (bRw v.2.1.2)),(AN 0),((((↑k:Int)+1):Int)=(↑(k+1):Int)),(AN 2),(NL 1 1)] [0,1,0,2,3,0,4,0,5,6,5,6,5,5,7,8,9,8,9,8,8,10,11,11,12,13,12,14,15,12,12,16,17,12,13,12,12,18,12,11,19,20,21,22,23,24,25,26,27,28,29,30,30,24,25,26]):=by kernel_rfl
theorem p48c (v:T_Graph) (k:Nat) :
    zP Tryz.f134 0 [rg 5,.dec true,rg 7,rm [(28,oc [] (.p (.bool (aft (v.2.1.2 ((k:Int) - 1).toNat) (v.2.1.2 k)))))] 3,.dec true,rg 1] zf62 (S48 v k) [] 1 [] (.p (.bool false)) =
    some (zD [(NT 0 1),((decide ((↑k:Int)<(↑v.2.1.1:Int)))=true),(IL 0 (↑k:Int)),(IT (↑k:Int) (↑v.2.1.1:Int)),((true=true)→ (AN 1)),(AG (!decide ((vKz v k).1<0))),(((!decide ((vKz v k).1<0))=true)→(NT 0 1)),(((decide ((vKz v k).1<0))=false)→ ((!decide ((vKz v k).1<0))=true)),(AG (!bif decide ((vKz v k).1<0) then true else decide ((vKz v k).1≥(vKz v k).2.1))),(((!bif decide ((vKz v k).1<0) then true else decide ((vKz v k).1≥(vKz v k).2.1))=true)→(NT 0 1)),(((bif decide ((vKz v k).1<0) then true else decide ((vKz v k).1≥(vKz v k).2.1))=false)→ ((!bif decide ((vKz v k).1<0) then true else decide ((vKz v k).1≥(vKz v k).2.1))=true)),(AG (!bif bif decide ((vKz v k).1<0) then true else decide ((vKz v k).1≥(vKz v k).2.1) then true else decide ((vKz v k).2.1≥v.1))),(AG ((!bif bif decide ((vKz v k).1<0) then true else decide ((vKz v k).1≥(vKz v k).2.1) then true else decide ((vKz v k).2.1≥v.1))&&decide ((↑k:Int)>0))),((((!bif bif decide ((vKz v k).1<0) then true else decide ((vKz v k).1≥(vKz v k).2.1) then true else decide ((vKz v k).2.1≥v.1))&&decide ((↑k:Int)>0))=true)→(NT 0 1)),((((!bif bif decide ((vKz v k).1<0) then true else decide ((vKz v k).1≥(vKz v k).2.1) then true else decide ((vKz v k).2.1≥v.1))&&decide ((↑k:Int)>0))=true)→(ZLo ((↑k:Int) - 1))),((((!bif bif decide ((vKz v k).1<0) then true else decide ((vKz v k).1≥(vKz v k).2.1) then true else decide ((vKz v k).2.1≥v.1))&&decide ((↑k:Int)>0))=true)→(ZHi ((↑k:Int) - 1))),((((!bif bif decide ((vKz v k).1<0) then true else decide ((vKz v k).1≥(vKz v k).2.1) then true else decide ((vKz v k).2.1≥v.1))&&decide ((↑k:Int)>0))=true)→(IL 0 ((↑k:Int) - 1))),((((!bif bif decide ((vKz v k).1<0) then true else decide ((vKz v k).1≥(vKz v k).2.1) then true else decide ((vKz v k).2.1≥v.1))&&decide ((↑k:Int)>0))=true)→(IT ((↑k:Int) - 1) (↑v.2.1.1:Int))),((((!bif bif decide ((vKz v k).1<0) then true else decide ((vKz v k).1≥(vKz v k).2.1) then true else decide ((vKz v k).2.1≥v.1))&&decide ((↑k:Int)>0))=true)→ zE 176 [(zf98 v k),(zf110 v k)] [] (.p (.bool (aft (v.2.1.2 ((↑k:Int) - 1).toNat) (v.2.1.2 k))))),(((!bif bif decide ((vKz v k).1<0) then true else decide ((vKz v k).1≥(vKz v k).2.1) then true else decide ((vKz v k).2.1≥v.1))=true)→(((decide ((↑k:Int)>0))=true)→ (((!bif bif decide ((vKz v k).1<0) then true else decide ((vKz v k).1≥(vKz v k).2.1) then true else decide ((vKz v k).2.1≥v.1))&&decide ((↑k:Int)>0))=true))),(((bif bif decide ((vKz v k).1<0) then true else decide ((vKz v k).1≥(vKz v k).2.1) then true else decide ((vKz v k).2.1≥v.1))=false)→ ((!bif bif decide ((vKz v k).1<0) then true else decide ((vKz v k).1≥(vKz v k).2.1) then true else decide ((vKz v k).2.1≥v.1))=true)),((bif bif bif decide ((vKz v k).1<0) then true else decide ((vKz v k).1≥(vKz v k).2.1) then true else decide ((vKz v k).2.1≥v.1) then true else bif decide ((↑k:Int)>0) then !aft (v.2.1.2 ((↑k:Int) - 1).toNat) (v.2.1.2 k) else false)=true),(false=false)] [0,1,0,2,3,0,4,0,5,6,5,6,5,5,7,8,9,8,9,8,8,10,11,11,12,13,12,14,15,12,12,16,17,12,13,12,12,18,12,11,19,20,21,22]):=by kernel_rfl
theorem p48d (v:T_Graph) (k:Nat) :
    zP Tryz.f134 0 [rg 5,.dec false,rg 1] zf62 (S48 v k) [] 1 [] (.p (.bool true)) =
    some [(NT 0 1),((decide ((↑k:Int)<(↑v.2.1.1:Int)))=false),(true=true)]:=by kernel_rfl
theorem p51z (v:T_Graph) :
    zS Tryz.f130 [rg 2,rm [(2,oc [] (.p (.bool (inB v.1 1 8))))] 7,.dec true,rg 1] [graphA v] [] [] (.p (.bool false)) =
    some (zD [(NT 0 1),zE 90 [.p (.int .i64 v.1),.p (.int .i64 1),.p (.int .i64 8)] [] (.p (.bool (inB v.1 1 8))),(AG (!!inB v.1 1 8)),(((!!inB v.1 1 8)=true)→(NT 0 1)),(((!inB v.1 1 8)=false)→ ((!!inB v.1 1 8)=true)),((bif !inB v.1 1 8 then true else decide ((↑v.2.1.1:Int)>24))=true),(false=false)] [0,1,2,3,2,2,4,5,6]):=by kernel_rfl
theorem p51a (v:T_Graph) :
    zT Tryz.f130 [rg 2,rm [(2,oc [] (.p (.bool (inB v.1 1 8))))] 7,.dec false,rg 4,.head] [graphA v] [0] (S51 v 0) =
    some (zf63,zD [(NT 0 1),zE 90 [.p (.int .i64 v.1),.p (.int .i64 1),.p (.int .i64 8)] [] (.p (.bool (inB v.1 1 8))),(AG (!!inB v.1 1 8)),(((!!inB v.1 1 8)=true)→(NT 0 1)),(((!inB v.1 1 8)=false)→ ((!!inB v.1 1 8)=true)),((bif !inB v.1 1 8 then true else decide ((↑v.2.1.1:Int)>24))=false),(AI v.1),(AN v.2.1.1),(AP v.2.1.1 (bRw v.2.1.2)),(AN 0),(AI ((↑v.2.1.1:Int))),((0:Int)=(↑0:Int)),((([AV.p (PV.int IntKind.i64 v.1),graphL v.2.1].length):Nat)=2),(NL 1 1)] [0,1,2,3,2,2,4,5,0,6,7,8,9,7,8,10,11,12,13,13,6,7,8]):=by kernel_rfl
theorem p51b (v:T_Graph) (k:Nat) :
    zM 0 [rg 1,.dec true,rg 6,rm [(28,oc [] (.p (.int .i64 (cmpB (v.2.1.2 ((k:Int) - 1).toNat) (v.2.1.2 k)))))] 3,.dec false,rg 2,.head] zf63 (S51 v k) [0] 1 (S51 v (k+1)) =
    some (zf63,zD [((decide ((↑k:Int)<(↑v.2.1.1:Int)))=true),(IL 0 (↑k:Int)),(IT (↑k:Int) (↑v.2.1.1:Int)),(NT 0 1),((true=true)→ (AN 1)),(AG (!decide ((vKz v k).1<0))),(((!decide ((vKz v k).1<0))=true)→(NT 0 1)),(((decide ((vKz v k).1<0))=false)→ ((!decide ((vKz v k).1<0))=true)),(AG (!bif decide ((vKz v k).1<0) then true else decide ((vKz v k).1≥(vKz v k).2.1))),(((!bif decide ((vKz v k).1<0) then true else decide ((vKz v k).1≥(vKz v k).2.1))=true)→(NT 0 1)),(((bif decide ((vKz v k).1<0) then true else decide ((vKz v k).1≥(vKz v k).2.1))=false)→ ((!bif decide ((vKz v k).1<0) then true else decide ((vKz v k).1≥(vKz v k).2.1))=true)),(AG (!bif bif decide ((vKz v k).1<0) then true else decide ((vKz v k).1≥(vKz v k).2.1) then true else decide ((vKz v k).2.1≥v.1))),(AG ((!bif bif decide ((vKz v k).1<0) then true else decide ((vKz v k).1≥(vKz v k).2.1) then true else decide ((vKz v k).2.1≥v.1))&&decide ((↑k:Int)>0))),((((!bif bif decide ((vKz v k).1<0) then true else decide ((vKz v k).1≥(vKz v k).2.1) then true else decide ((vKz v k).2.1≥v.1))&&decide ((↑k:Int)>0))=true)→(NT 0 1)),((((!bif bif decide ((vKz v k).1<0) then true else decide ((vKz v k).1≥(vKz v k).2.1) then true else decide ((vKz v k).2.1≥v.1))&&decide ((↑k:Int)>0))=true)→(ZLo ((↑k:Int) - 1))),((((!bif bif decide ((vKz v k).1<0) then true else decide ((vKz v k).1≥(vKz v k).2.1) then true else decide ((vKz v k).2.1≥v.1))&&decide ((↑k:Int)>0))=true)→(ZHi ((↑k:Int) - 1))),((((!bif bif decide ((vKz v k).1<0) then true else decide ((vKz v k).1≥(vKz v k).2.1) then true else decide ((vKz v k).2.1≥v.1))&&decide ((↑k:Int)>0))=true)→(IL 0 ((↑k:Int) - 1))),((((!bif bif decide ((vKz v k).1<0) then true else decide ((vKz v k).1≥(vKz v k).2.1) then true else decide ((vKz v k).2.1≥v.1))&&decide ((↑k:Int)>0))=true)→(IT ((↑k:Int) - 1) (↑v.2.1.1:Int))),((((!bif bif decide ((vKz v k).1<0) then true else decide ((vKz v k).1≥(vKz v k).2.1) then true else decide ((vKz v k).2.1≥v.1))&&decide ((↑k:Int)>0))=true)→ zE 133 [(zf98 v k),(zf110 v k)] [] (.p (.int .i64 (cmpB (v.2.1.2 ((↑k:Int) - 1).toNat) (v.2.1.2 k))))),(((!bif bif decide ((vKz v k).1<0) then true else decide ((vKz v k).1≥(vKz v k).2.1) then true else decide ((vKz v k).2.1≥v.1))=true)→(((decide ((↑k:Int)>0))=true)→ (((!bif bif decide ((vKz v k).1<0) then true else decide ((vKz v k).1≥(vKz v k).2.1) then true else decide ((vKz v k).2.1≥v.1))&&decide ((↑k:Int)>0))=true))),(((bif bif decide ((vKz v k).1<0) then true else decide ((vKz v k).1≥(vKz v k).2.1) then true else decide ((vKz v k).2.1≥v.1))=false)→ ((!bif bif decide ((vKz v k).1<0) then true else decide ((vKz v k).1≥(vKz v k).2.1) then true else decide ((vKz v k).2.1≥v.1))=true)),((bif bif bif decide ((vKz v k).1<0) then true else decide ((vKz v k).1≥(vKz v k).2.1) then true else decide ((vKz v k).2.1≥v.1) then true else bif decide ((↑k:Int)>0) then decide (cmpB (v.2.1.2 ((↑k:Int) - 1).toNat) (v.2.1.2 k)>0) else false)=false),(ZLo ((↑k:Int)+1)),(ZHi ((↑k:Int)+1)),(AI v.1),(AN v.2.1.1),(AP v.2.1.1 (bRw v.2.1.2)),(AN 0),(AI ((↑v.2.1.1:Int))),((((↑k:Int)+1):Int)=(↑(k+1):Int)),(AN 2),(NL 1 1)] [0,1,2,3,4,3,5,6,5,6,5,5,7,8,9,8,9,8,8,10,11,11,12,13,12,14,15,12,12,16,17,12,13,12,12,18,12,11,19,20,21,22,23,24,25,26,27,25,26,28,29,30,31,31,24,25,26]):=by kernel_rfl
theorem p51c (v:T_Graph) (k:Nat) :
    zP Tryz.f130 0 [rg 1,.dec true,rg 6,rm [(28,oc [] (.p (.int .i64 (cmpB (v.2.1.2 ((k:Int) - 1).toNat) (v.2.1.2 k)))))] 3,.dec true,rg 1] zf63 (S51 v k) [] 1 [] (.p (.bool false)) =
    some (zD [((decide ((↑k:Int)<(↑v.2.1.1:Int)))=true),(IL 0 (↑k:Int)),(IT (↑k:Int) (↑v.2.1.1:Int)),(NT 0 1),((true=true)→ (AN 1)),(AG (!decide ((vKz v k).1<0))),(((!decide ((vKz v k).1<0))=true)→(NT 0 1)),(((decide ((vKz v k).1<0))=false)→ ((!decide ((vKz v k).1<0))=true)),(AG (!bif decide ((vKz v k).1<0) then true else decide ((vKz v k).1≥(vKz v k).2.1))),(((!bif decide ((vKz v k).1<0) then true else decide ((vKz v k).1≥(vKz v k).2.1))=true)→(NT 0 1)),(((bif decide ((vKz v k).1<0) then true else decide ((vKz v k).1≥(vKz v k).2.1))=false)→ ((!bif decide ((vKz v k).1<0) then true else decide ((vKz v k).1≥(vKz v k).2.1))=true)),(AG (!bif bif decide ((vKz v k).1<0) then true else decide ((vKz v k).1≥(vKz v k).2.1) then true else decide ((vKz v k).2.1≥v.1))),(AG ((!bif bif decide ((vKz v k).1<0) then true else decide ((vKz v k).1≥(vKz v k).2.1) then true else decide ((vKz v k).2.1≥v.1))&&decide ((↑k:Int)>0))),((((!bif bif decide ((vKz v k).1<0) then true else decide ((vKz v k).1≥(vKz v k).2.1) then true else decide ((vKz v k).2.1≥v.1))&&decide ((↑k:Int)>0))=true)→(NT 0 1)),((((!bif bif decide ((vKz v k).1<0) then true else decide ((vKz v k).1≥(vKz v k).2.1) then true else decide ((vKz v k).2.1≥v.1))&&decide ((↑k:Int)>0))=true)→(ZLo ((↑k:Int) - 1))),((((!bif bif decide ((vKz v k).1<0) then true else decide ((vKz v k).1≥(vKz v k).2.1) then true else decide ((vKz v k).2.1≥v.1))&&decide ((↑k:Int)>0))=true)→(ZHi ((↑k:Int) - 1))),((((!bif bif decide ((vKz v k).1<0) then true else decide ((vKz v k).1≥(vKz v k).2.1) then true else decide ((vKz v k).2.1≥v.1))&&decide ((↑k:Int)>0))=true)→(IL 0 ((↑k:Int) - 1))),((((!bif bif decide ((vKz v k).1<0) then true else decide ((vKz v k).1≥(vKz v k).2.1) then true else decide ((vKz v k).2.1≥v.1))&&decide ((↑k:Int)>0))=true)→(IT ((↑k:Int) - 1) (↑v.2.1.1:Int))),((((!bif bif decide ((vKz v k).1<0) then true else decide ((vKz v k).1≥(vKz v k).2.1) then true else decide ((vKz v k).2.1≥v.1))&&decide ((↑k:Int)>0))=true)→ zE 133 [(zf98 v k),(zf110 v k)] [] (.p (.int .i64 (cmpB (v.2.1.2 ((↑k:Int) - 1).toNat) (v.2.1.2 k))))),(((!bif bif decide ((vKz v k).1<0) then true else decide ((vKz v k).1≥(vKz v k).2.1) then true else decide ((vKz v k).2.1≥v.1))=true)→(((decide ((↑k:Int)>0))=true)→ (((!bif bif decide ((vKz v k).1<0) then true else decide ((vKz v k).1≥(vKz v k).2.1) then true else decide ((vKz v k).2.1≥v.1))&&decide ((↑k:Int)>0))=true))),(((bif bif decide ((vKz v k).1<0) then true else decide ((vKz v k).1≥(vKz v k).2.1) then true else decide ((vKz v k).2.1≥v.1))=false)→ ((!bif bif decide ((vKz v k).1<0) then true else decide ((vKz v k).1≥(vKz v k).2.1) then true else decide ((vKz v k).2.1≥v.1))=true)),((bif bif bif decide ((vKz v k).1<0) then true else decide ((vKz v k).1≥(vKz v k).2.1) then true else decide ((vKz v k).2.1≥v.1) then true else bif decide ((↑k:Int)>0) then decide (cmpB (v.2.1.2 ((↑k:Int) - 1).toNat) (v.2.1.2 k)>0) else false)=true),(false=false)] [0,1,2,3,4,3,5,6,5,6,5,5,7,8,9,8,9,8,8,10,11,11,12,13,12,14,15,12,12,16,17,12,13,12,12,18,12,11,19,20,21,22]):=by kernel_rfl
theorem p51d (v:T_Graph) (k:Nat) :
    zP Tryz.f130 0 [rg 1,.dec false,rg 1] zf63 (S51 v k) [] 1 [] (.p (.bool true)) =
    some [((decide ((↑k:Int)<(↑v.2.1.1:Int)))=false),(true=true)]:=by kernel_rfl
theorem con_l2After (a b:T_Bar):zE 176 [barA a,barA b] [] (.p (.bool (aft a b))):=by
  refine csZ Tryz.func176 (fun c hc=>?_)
  refine pkD Tryz.func176 hc (p57 a b) ?_
  and_intros
  all_goals (first | exact zH)
theorem con_compareInts (x y:Int):zE 175 [.p (.int .i64 x),.p (.int .i64 y)] [] (.p (.int .i64 (cmpI x y))):=by
  refine csZ Tryz.func175 (fun c hc=>?_)
  by_cases h1:x<y
  · rw [show cmpI x y = -1 by simp [cmpI,h1]]
    refine pkZ Tryz.func175 hc (p62a x y) ?_
    and_intros
    all_goals (first | exact zN | (simp;omega))
  · by_cases h2:x>y
    · rw [show cmpI x y=1 by simp only [cmpI,h1,h2,if_true,if_false]]
      refine pkZ Tryz.func175 hc (p62b x y) ?_
      and_intros
      all_goals (first | exact zN | (simp;omega))
    · rw [show cmpI x y=0 by simp only [cmpI,h1,h2,if_false]]
      refine pkZ Tryz.func175 hc (p62c x y) ?_
      and_intros
      all_goals (first | exact zN | (simp;omega))
theorem con_compareBars (a b:T_Bar):zE 133 [barA a,barA b] [] (.p (.int .i64 (cmpB a b))):=by
  refine csZ Tryz.func133 (fun c hc=>?_)
  by_cases h1:cmpI a.1 b.1=0
  · rw [show cmpB a b=cmpI a.2.1 b.2.1 by simp [cmpB,h1]]
    refine pkZ Tryz.func133 hc (p59b a b) ?_
    and_intros
    all_goals (first | exact zN | (exact con_compareInts _ _) | (simp [h1]))
  · rw [show cmpB a b=cmpI a.1 b.1 by simp [cmpB,h1]]
    refine pkZ Tryz.func133 hc (p59a a b) ?_
    and_intros
    all_goals (first | exact zN | (exact con_compareInts _ _) | (simp [h1]))
theorem cmpB_gt (a b:T_Bar):decide (cmpB a b>0)=!aft a b:=by
  simp only [cmpB,cmpI,aft]
  by_cases h1:a.1<b.1
  · simp [h1]
  · by_cases h2:a.1>b.1
    · have h3:¬ a.1=b.1:=by omega
      simp [h1,h2,h3]
    · have h3:a.1=b.1:=by omega
      simp only [h1,h2,h3,if_true,if_false]
      by_cases h4:a.2.1<b.2.1
      · have:a.2.1≤b.2.1:=by omega
        simp [h4,this]
      · by_cases h5:a.2.1>b.2.1
        · have:¬ a.2.1≤b.2.1:=by omega
          simp [h4,h5,this]
        · have:a.2.1≤b.2.1:=by omega
          simp [h4,h5,this]
theorem goodB_bad (N:Int) (g:Nat→T_Bar) (k:Nat) (h:badB N g k=true):∀ n,k<n→goodB N g n=false
  | 0,h'=>by omega
  | n+1,h'=>by
    by_cases e:k=n
    · subst e;simp [goodB,h]
    · simp [goodB,goodB_bad N g k h n (by omega)]
theorem idx_lt {b:Bool} {k n:Nat} (h:(b&&decide ((k:Int)>0))=true) (hk:k<n):0≤(k:Int) - 1∧(k:Int) - 1<n∧-9223372036854775808≤(k:Int) - 1∧(k:Int) - 1≤n:=by
  simp at h
  omega
theorem con_IsGraph_s (v:T_Graph) (hs:smS s_Graph v):zE 134 [graphA v] [] (.p (.bool (isGraphF v))):=by
  refine csZ Tryz.func134 (fun c hc=>?_)
  have hn:v.2.1.1≤1048576:=hs.2.1.1
  by_cases hz:inB v.1 1 8=true∧v.2.1.1≤24
  · rw [show isGraphF v=goodB v.1 v.2.1.2 v.2.1.1 by rw [isGraphF,if_pos hz]]
    have lp:∀ m k,k+m=v.2.1.1→goodB v.1 v.2.1.2 k=true→zR c 134 zf62 (S48 v k) (Post c [] (.p (.bool (goodB v.1 v.2.1.2 v.2.1.1)))):=by
      intro m
      induction m with
      | zero =>
        intro k hk hg
        rw [show goodB v.1 v.2.1.2 v.2.1.1=true by rw [show v.2.1.1=k by omega];exact hg]
        have hd:decide ((k:Int)<(v.2.1.1:Int))=false:=by simp;omega
        refine pkZ Tryz.func134 hc (p48d v k) ?_
        and_intros
        all_goals (first | exact zN)
      | succ m ih =>
        intro k hk hg
        have hd:decide ((k:Int)<(v.2.1.1:Int))=true:=by simp;omega
        have hkn:k<v.2.1.1:=by omega
        cases he:badB v.1 v.2.1.2 k with
        | true =>
          rw [goodB_bad _ _ k he v.2.1.1 (by omega)]
          refine pkD Tryz.func134 hc (p48c v k) ?_
          and_intros
          all_goals (first | exact zH | (intros;exact con_l2After _ _) | (exact he) | (intro h;have:=idx_lt h hkn;omega))
        | false =>
          refine pcD hc (p48b v k) ?_ (ih (k+1) (by omega) (by simp [goodB,hg,he]))
          and_intros
          all_goals (first | exact zH | (intros;exact con_l2After _ _) | (exact he) | (intro h;have:=idx_lt h hkn;omega) | (simp [All]))
    refine pcD hc (p48a v) ?_ (lp v.2.1.1 0 (by omega) rfl)
    and_intros
    all_goals (first | exact zH | (exact con_l1In _ _ _) | (simp [hz.1];omega) | (simp [All]))
  · rw [show isGraphF v=false by rw [isGraphF,if_neg hz]]
    have hb:(bif !inB v.1 1 8 then true else decide ((v.2.1.1:Int)>24))=true:=by
      cases hi:inB v.1 1 8 with
      | false=>rfl
      | true =>
        have:¬ v.2.1.1≤24:=fun h=>hz ⟨hi,h⟩
        simp;omega
    refine pkD Tryz.func134 hc (p48z v) ?_
    and_intros
    all_goals (first | exact zH | (exact con_l1In _ _ _))
theorem con_IsGraph_i (v:T_Graph) (hs:smS s_Graph v):zE 130 [graphA v] [] (.p (.bool (isGraphF v))):=by
  refine csZ Tryz.func130 (fun c hc=>?_)
  have hn:v.2.1.1≤1048576:=hs.2.1.1
  by_cases hz:inB v.1 1 8=true∧v.2.1.1≤24
  · rw [show isGraphF v=goodB v.1 v.2.1.2 v.2.1.1 by rw [isGraphF,if_pos hz]]
    have lp:∀ m k,k+m=v.2.1.1→goodB v.1 v.2.1.2 k=true→zR c 130 zf63 (S51 v k) (Post c [] (.p (.bool (goodB v.1 v.2.1.2 v.2.1.1)))):=by
      intro m
      induction m with
      | zero =>
        intro k hk hg
        rw [show goodB v.1 v.2.1.2 v.2.1.1=true by rw [show v.2.1.1=k by omega];exact hg]
        have hd:decide ((k:Int)<(v.2.1.1:Int))=false:=by simp;omega
        refine pkZ Tryz.func130 hc (p51d v k) ?_
        and_intros
        all_goals (first | exact zN)
      | succ m ih =>
        intro k hk hg
        have hd:decide ((k:Int)<(v.2.1.1:Int))=true:=by simp;omega
        have hkn:k<v.2.1.1:=by omega
        cases he:badB v.1 v.2.1.2 k with
        | true =>
          rw [goodB_bad _ _ k he v.2.1.1 (by omega)]
          have he2:=he
          rw [badB,← cmpB_gt] at he2
          refine pkD Tryz.func130 hc (p51c v k) ?_
          and_intros
          all_goals (first | exact zH | (intros;exact con_compareBars _ _) | (exact he2) | (intro h;have:=idx_lt h hkn;omega))
        | false =>
          have he2:=he
          rw [badB,← cmpB_gt] at he2
          refine pcD hc (p51b v k) ?_ (ih (k+1) (by omega) (by simp [goodB,hg,he]))
          and_intros
          all_goals (first | exact zH | (intros;exact con_compareBars _ _) | (exact he2) | (intro h;have:=idx_lt h hkn;omega) | (simp [All]))
    refine pcD hc (p51a v) ?_ (lp v.2.1.1 0 (by omega) rfl)
    and_intros
    all_goals (first | exact zH | (exact con_within _ _ _) | (simp [hz.1];omega) | (simp [All]))
  · rw [show isGraphF v=false by rw [isGraphF,if_neg hz]]
    have hb:(bif !inB v.1 1 8 then true else decide ((v.2.1.1:Int)>24))=true:=by
      cases hi:inB v.1 1 8 with
      | false=>rfl
      | true =>
        have:¬ v.2.1.1≤24:=fun h=>hz ⟨hi,h⟩
        simp;omega
    refine pkD Tryz.func130 hc (p51z v) ?_
    and_intros
    all_goals (first | exact zH | (exact con_within _ _ _))
def SH (g:Nat→T_Bar) (nb N m:Nat) (F0 T0 F T Q:Nat→Int) (a b want:Int):St :=
  ⟨[grG g nb N,pebD N m F0 T0 Q,.p (.int .i64 a),.p (.int .i64 b),.p (.int .i64 want),.pt 2 0 0 0,.pt 3 1 0 0,.p .any,.p .any,.p .any,.pt 3 2 0 0,.p .any,.pt 3 3 0 0]++List.replicate 40 anyA,
   [(0,bxG g nb N),(1,bxD N m F0 T0 Q),(2,bx0),(3,bxP N m 4),(4,iOb N F),(5,iOb m T),(6,iOb m Q)],7⟩
def SNc (g:Nat→T_Bar) (nb N k:Nat):St :=
  ⟨[.p .any,.p (.int .i64 k),.pt 2 0 0 0,.p .any,.pt 3 1 0 0,.p .any,.pt 3 2 0 0]++List.replicate 27 anyA,
   [(0,bxG g nb N),(1,bx0),(2,⟨true,3,1,fun _=>[.ar 1 3 0 0,.ar 1 4 0 0,.ar 1 5 0 0]⟩),(3,iOb 0 (fun _=>k)),(4,iOb 0 (fun _=>0)),(5,iOb 0 (fun _=>0))],6⟩
def SN0 (g:Nat→T_Bar) (nb N k i:Nat):St :=
  ⟨[.p .any,.p (.int .i64 k),.pt 2 0 0 0,.p .any,.pt 3 1 0 0,.p .any,.pt 3 2 0 0,.p (.int .i64 i)]++List.replicate 26 anyA,
   [(0,bxG g nb N),(1,bx0),(2,⟨true,3,1,fun _=>[.ar 1 3 0 i,.ar 1 4 0 0,.ar 1 5 0 0]⟩),(3,iOb i (fun _=>k)),(4,iOb 0 (fun _=>0)),(5,iOb 0 (fun _=>0))],6⟩
theorem qHz (g:Nat→T_Bar) (nb N m:Nat) (F T Q:Nat→Int) (a b want:Int) :
    zT Tryz.f208 [rg 4,rm [(1,oc (pebR N m F T Q) (pebO N m 0))] 2,.head] [grG g nb N,pebD N m F T Q,.p (.int .i64 a),.p (.int .i64 b),.p (.int .i64 want)] [0,32,64,192,160,161,162] (SH g nb N m F T F T Q a b want) =
    some (zf80,zD [(NT 0 1),zE 207 [(zf60 N F m T Q)] (zf34 N F m T Q) (.agg [.ar 1 0 0 N,.ar 1 1 0 m,.ar 1 2 0 m]),((true=true)→ (AN 1)),(AI ((↑N:Int))),(AN nb),(AP nb (bRw g)),(AN N),(AP N (fun i=>[.int .i64 (F i)])),(AN m),(AP m (fun i=>[.int .i64 (T i)])),(AP m (fun i=>[.int .i64 (Q i)])),(AI a),(AI b),(AI want),(AN 0),((([AV.p (PV.int IntKind.i64 (↑N:Int)),brL g nb].length):Nat)=2),(NL 1 1),((([inD N F,inD m T,inD m Q].length):Nat)=3),((((List.map (fun v=>AV.p (absV v)) [Value.slice none 0 0,Value.slice none 0 0,Value.slice none 0 0]).length):Nat)=3),(AN 1),(NL N N),(AA N (fun i=>[.p (.int .i64 (F i))])),(NL m m),(AA m (fun i=>[.p (.int .i64 (T i))])),(AA m (fun i=>[.p (.int .i64 (Q i))]))] [0,1,0,2,3,4,5,6,7,8,9,8,10,11,12,13,14,14,14,14,15,16,16,3,4,5,17,16,16,6,7,8,9,8,10,18,16,16,18,16,16,14,6,14,8,14,8,19,20,21,19,22,23,19,22,24]):=by kernel_rfl
theorem qHa (g:Nat→T_Bar) (nb N m:Nat) (F0 T0 F T Q F1 T1:Nat→Int) (a b want:Int) :
    zM 0 [rg 13,.dec true,rm [(4,oq [4,5,6] (pebR3 N m F T Q F1 T1 Q) (.tup [pebO N m 3,.p (.bool true)]))] 6,rg 2,.dec false,rg 2,.dec false,rg 2,.head] zf80 (SH g nb N m F0 T0 F T Q a b want) [0,1,2,3,551,552,553] 1 (SH g nb N m F0 T0 F1 T1 Q a b want) =
    some (zf80,zD [(NT 0 1),(IL 0 a),(IT a (↑N:Int)),(NT a.toNat N),(IL 0 b),(IT b (↑N:Int)),(NT b.toNat N),(ZLo (F a.toNat+F b.toNat)),(ZHi (F a.toNat+F b.toNat)),((decide (F (a.toNat+0)+F (b.toNat+0)<want))=true),(AE N),(AE m),Con Tryz.prog 222 3 (zf34 N F m T Q) [(zf101 N nb g),.agg [.ar 1 0 0 N,.ar 1 1 0 m,.ar 1 2 0 m],.p (.int .i64 a),.p (.int .i64 b)] (zf16 N F m T Q F1 T1) (.tup [.agg [.ar 1 3 0 N,.ar 1 4 0 m,.ar 1 5 0 m],.p (.bool true)]),((true=true)→ (AN 1)),((!true)=false),(AI ((↑N:Int))),(AN nb),(AP nb (bRw g)),(AN N),(AP N (fun i=>[.int .i64 (F0 i)])),(AN m),(AP m (fun i=>[.int .i64 (T0 i)])),(AP m (fun i=>[.int .i64 (Q i)])),(AI a),(AI b),(AI want),(AN 0),(AN 2),(NL 1 1),(AN 3),(AN 1),(NL N N),(AA N (fun i=>[.p (.int .i64 (F1 i))])),(NL m m),(AA m (fun i=>[.p (.int .i64 (T1 i))])),(AA m (fun i=>[.p (.int .i64 (Q i))]))] [0,1,2,3,0,4,5,6,7,8,9,0,0,10,11,11,12,0,13,14,14,0,0,13,15,16,17,18,19,20,21,20,22,23,24,25,26,26,26,26,27,28,28,15,16,17,29,28,28,18,19,20,21,20,22,29,28,28,29,28,28,26,18,26,20,26,20,30,31,32,30,33,34,30,33,35]):=by kernel_rfl
theorem qHb (g:Nat→T_Bar) (nb N m:Nat) (F0 T0 F T Q F1 T1:Nat→Int) (a b want:Int) :
    zM 0 [rg 13,.dec true,rm [(4,oq [4,5,6] (pebR N m F T Q) (.tup [pebO N m 0,.p (.bool false)]))] 6,rg 2,.dec true,rm [(4,oq [4,5,6] (pebR3 N m F T Q F1 T1 Q) (.tup [pebO N m 3,.p (.bool true)]))] 5,rg 2,.dec false,rg 2,.head] zf80 (SH g nb N m F0 T0 F T Q a b want) [0,1,2,3,967,968,969] 1 (SH g nb N m F0 T0 F1 T1 Q a b want) =
    some (zf80,zD [(NT 0 1),(IL 0 a),(IT a (↑N:Int)),(NT a.toNat N),(IL 0 b),(IT b (↑N:Int)),(NT b.toNat N),(ZLo (F a.toNat+F b.toNat)),(ZHi (F a.toNat+F b.toNat)),((decide (F (a.toNat+0)+F (b.toNat+0)<want))=true),(AE N),(AE m),Con Tryz.prog 222 3 (zf34 N F m T Q) [(zf101 N nb g),.agg [.ar 1 0 0 N,.ar 1 1 0 m,.ar 1 2 0 m],.p (.int .i64 a),.p (.int .i64 b)] (zf34 N F m T Q) ((zf111 N m)),((true=true)→ (AN 1)),((!false)=true),Con Tryz.prog 222 3 (zf34 N F m T Q) [(zf101 N nb g),.agg [.ar 1 0 0 N,.ar 1 1 0 m,.ar 1 2 0 m],.p (.int .i64 b),.p (.int .i64 a)] (zf16 N F m T Q F1 T1) (.tup [.agg [.ar 1 3 0 N,.ar 1 4 0 m,.ar 1 5 0 m],.p (.bool true)]),((!true)=false),(AI ((↑N:Int))),(AN nb),(AP nb (bRw g)),(AN N),(AP N (fun i=>[.int .i64 (F0 i)])),(AN m),(AP m (fun i=>[.int .i64 (T0 i)])),(AP m (fun i=>[.int .i64 (Q i)])),(AI a),(AI b),(AI want),(AN 0),(AN 2),(NL 1 1),(AN 3),(AN 1),(NL N N),(AA N (fun i=>[.p (.int .i64 (F1 i))])),(NL m m),(AA m (fun i=>[.p (.int .i64 (T1 i))])),(AA m (fun i=>[.p (.int .i64 (Q i))]))] [0,1,2,3,0,4,5,6,7,8,9,0,0,10,11,11,12,0,13,14,0,0,10,11,11,15,0,13,16,0,0,13,17,18,19,20,21,22,23,22,24,25,26,27,28,28,28,28,29,30,30,17,18,19,31,30,30,20,21,22,23,22,24,31,30,30,31,30,30,28,20,28,22,28,22,32,33,34,32,35,36,32,35,37]):=by kernel_rfl
theorem qHc (g:Nat→T_Bar) (nb N m:Nat) (F0 T0 F T Q:Nat→Int) (a b want:Int) :
    zP Tryz.f208 0 [rg 13,.dec true,rm [(4,oq [4,5,6] (pebR N m F T Q) (.tup [pebO N m 0,.p (.bool false)]))] 6,rg 2,.dec true,rm [(4,oq [4,5,6] (pebR N m F T Q) (.tup [pebO N m 0,.p (.bool false)]))] 5,rg 2,.dec true,rg 3] zf80 (SH g nb N m F0 T0 F T Q a b want) [4,5,6] 1 (pebR N m F T Q) (.tup [pebO N m 0,.p (.bool false)]) =
    some (zD [(NT 0 1),(IL 0 a),(IT a (↑N:Int)),(NT a.toNat N),(IL 0 b),(IT b (↑N:Int)),(NT b.toNat N),(ZLo (F a.toNat+F b.toNat)),(ZHi (F a.toNat+F b.toNat)),((decide (F (a.toNat+0)+F (b.toNat+0)<want))=true),(AE N),(AE m),Con Tryz.prog 222 3 (zf34 N F m T Q) [(zf101 N nb g),.agg [.ar 1 0 0 N,.ar 1 1 0 m,.ar 1 2 0 m],.p (.int .i64 a),.p (.int .i64 b)] (zf34 N F m T Q) ((zf111 N m)),((true=true)→ (AN 1)),((!false)=true),Con Tryz.prog 222 3 (zf34 N F m T Q) [(zf101 N nb g),.agg [.ar 1 0 0 N,.ar 1 1 0 m,.ar 1 2 0 m],.p (.int .i64 b),.p (.int .i64 a)] (zf34 N F m T Q) ((zf111 N m)),(AN 0),(AN N),(AN m),(false=false),(AN 1),(NL N N),(AA N (fun i=>[.p (.int .i64 (F i))])),(NL m m),(AA m (fun i=>[.p (.int .i64 (T i))])),(AA m (fun i=>[.p (.int .i64 (Q i))]))] [0,1,2,3,0,4,5,6,7,8,9,0,0,10,11,11,12,0,13,14,0,0,10,11,11,15,0,13,14,0,0,13,0,16,17,16,18,16,18,19,20,21,22,20,23,24,20,23,25,10,11,11]):=by kernel_rfl
theorem qHd (g:Nat→T_Bar) (nb N m:Nat) (F0 T0 F T Q:Nat→Int) (a b want:Int) :
    zP Tryz.f208 0 [rg 13,.dec false,rg 3] zf80 (SH g nb N m F0 T0 F T Q a b want) [4,5,6] 1 (pebR N m F T Q) (.tup [pebO N m 0,.p (.bool true)]) =
    some [(NT 0 1),(IL 0 a),(IT a (↑N:Int)),(NT a.toNat N),(NT 0 1),(IL 0 b),(IT b (↑N:Int)),(NT b.toNat N),(ZLo (F a.toNat+F b.toNat)),(ZHi (F a.toNat+F b.toNat)),((decide (F (a.toNat+0)+F (b.toNat+0)<want))=false),(NT 0 1),(NT 0 1),((true=true)→ (AN 1)),(NT 0 1),(AN 0),(AN N),(AN 0),(AN m),(AN 0),(AN m),(true=true),(AN 1),(NL N N),(AA N (fun i=>[.p (.int .i64 (F i))])),(AN 1),(NL m m),(AA m (fun i=>[.p (.int .i64 (T i))])),(AN 1),(NL m m),(AA m (fun i=>[.p (.int .i64 (Q i))])),(AE N),(AE m),(AE m)]:=by kernel_rfl
theorem qNy (g:Nat→T_Bar) (nb N k:Nat) :
    zT Tryz.f179 [rg 3,rg 6,.head] [grG g nb N,.p (.int .i64 k)] [0,32,224,96,128,160] (SNc g nb N k) =
    some (zf92,zD [(NT 0 1),((true=true)→ (AN 1)),(AI ((↑k:Int))),(AN 0),((([AV.p (PV.int IntKind.i64 (↑N:Int)),brL g nb].length):Nat)=2),(NL 1 1),(AI ((↑N:Int))),(AN nb),(AP nb (bRw g)),((((List.map (fun v=>AV.p (absV v)) [Value.slice none 0 0,Value.slice none 0 0,Value.slice none 0 0]).length):Nat)=3),(AN 1),(NL 0 0),(∀ i:Nat,(((i:Nat)<0)→(All []∧(([.p (.int .i64 0)]:List AV)=[.p (.int .i64 (↑k:Int))])))),(AA 0 (fun i=>[.p (.int .i64 0)]))] [0,1,2,3,3,3,4,5,5,6,7,8,9,5,5,9,5,5,3,3,3,3,3,3,10,11,12,10,11,13,10,11,13]):=by kernel_rfl
theorem qNa (g:Nat→T_Bar) (nb N k:Nat) :
    zM 0 [rm [(1,oc [] (.p (.bool true))),(3,oc [] (.p (.bool true)))] 2,.dec false,rg 1,.head] zf92 (SNc g nb N k) [0,1,2,3,4,5] 1 (SN0 g nb N k 0) =
    some (zf38,zD [(NT 0 1),zE 134 [(zf101 N nb g)] [] (.p (.bool true)),(AG (!!true)),(((!!true)=true)→ zE 121 [.p (.int .i64 (↑k:Int)),.p (.int .i64 1),.p (.int .i64 3)] [] (.p (.bool true))),(((!true)=false)→ ((!!true)=true)),((bif !true then true else !true)=false),(AI ((↑k:Int))),(AN 0),((0:Int)=(↑0:Int)),(AN 2),(NL 1 1),(AI ((↑N:Int))),(AN nb),(AP nb (bRw g)),(AN 3),(AN 1),(NL 0 0),(AA 0 (fun i=>[.p (.int .i64 (↑k:Int))])),(AA 0 (fun i=>[.p (.int .i64 0)]))] [0,1,2,3,2,4,5,6,7,7,7,8,9,10,10,11,12,13,14,10,10,14,10,10,7,7,7,7,7,7,15,16,17,15,16,18,15,16,18]):=by kernel_rfl
theorem qNl (g:Nat→T_Bar) (nb N k i:Nat) :
    zM 0 [rg 4,.dec true,rg 7,rg 3,.head] zf38 (SN0 g nb N k i) [0,1,2,262,4,5] 1 (SN0 g nb N k (i+1)) =
    some (zf38,zD [(NT 0 1),((decide ((↑i:Int)<(↑N:Int)))=true),(NL 1 1),(NL i i),(NL ((i+1)*8) 140737488355328),(NL (i+1) 9223372036854775807),((true=true)→ (AN 1)),(ZLo ((↑i:Int)+1)),(ZHi ((↑i:Int)+1)),(AI ((↑k:Int))),(AN 0),((((↑i:Int)+1):Int)=(↑(i+1):Int)),(AN 2),(AI ((↑N:Int))),(AN nb),(AP nb (bRw g)),(AN 3),(AN ((i+1))),(AN 1),(NL (i+1) (i+1)),(CV [(2,⟨true,3,1,(fun i_2=>[.ar 1 262 0 (i+1),.ar 1 4 0 0,.ar 1 5 0 0])⟩),(262,⟨false,1,(i+1),(fun i_2=>(if (i_2<i) then [.p (.int .i64 (↑k:Int))] else [.p (.int .i64 (↑k:Int))]))⟩),(230,⟨false,1,1,(fun i_2=>[.p (.int .i64 (↑k:Int))])⟩),(0,⟨true,2,1,(fun i_2=>[.p (.int .i64 (↑N:Int)),.p (.seq true 2 nb (bRw g))])⟩),(1,⟨true,3,1,(fun i_2=>[.p (.nil),.p (.nil),.p (.nil)])⟩),(4,⟨false,1,0,(fun i_2=>[.p (.int .i64 0)])⟩),(5,⟨false,1,0,(fun i_2=>[.p (.int .i64 0)])⟩)] [0,1,2,262,4,5] 1 (i+1) (fun i_1=>if (i_1<i) then [.p (.int .i64 (↑k:Int))] else [.p (.int .i64 (↑k:Int))]) (fun i_1=>[.p (.int .i64 (↑k:Int))])),(NL 0 0),(AA 0 (fun i_1=>[.p (.int .i64 0)]))] [0,1,0,2,3,4,5,0,6,7,8,9,10,10,10,11,12,2,2,13,14,15,16,2,2,16,2,2,10,17,10,10,10,10,18,19,20,18,21,22,18,21,22]):=by kernel_rfl
theorem qNe (g:Nat→T_Bar) (nb N k i:Nat) :
    zP Tryz.f179 0 [rg 4,.dec false,rg 3] zf38 (SN0 g nb N k i) [3,4,5] 1 (pebR i 0 (fun _=>k) (fun _=>0) (fun _=>0)) (.tup [pebO i 0 0,.p (.bool true)]) =
    some (zD [(NT 0 1),((decide ((↑i:Int)<(↑N:Int)))=false),((true=true)→ (AN 1)),(AN 0),(AN i),(true=true),(AN 1),(NL i i),(AA i (fun i_1=>[.p (.int .i64 (↑k:Int))])),(NL 0 0),(AA 0 (fun i_1=>[.p (.int .i64 0)])),(AE i),(AE 0)] [0,1,0,0,2,0,3,4,3,3,3,3,5,6,7,8,6,9,10,6,9,10,11,12,12]):=by kernel_rfl
theorem con_l4Gather {N k nb m l:Nat} {g:Nat→T_Bar} {F0 T0 Q:Nat→Int} {a b:Int} (hp0:PInv N k nb m g F0 T0 Q) (hk:k≤1048576) (hN:N≤1048576) (hm:m≤1048576) (hnb:nb≤1048576)
    (ha:0≤a∧a<N) (hb:0≤b∧b<N) (hab:a≠b):∃ F' T' r,zE 208 [grG g nb N,pebD N m F0 T0 Q,.p (.int .i64 a),.p (.int .i64 b),.p (.int .i64 ((l:Int)+1))] (pebR N m F' T' Q) (.tup [pebO N m 0,.p (.bool r)]) ∧
      PInv N k nb m g F' T' Q∧(r=true→(l:Int)+1≤F' a.toNat+F' b.toNat)∧(r=false→¬ Mat.Sparse N k l (plL g Q m++[(a.toNat,b.toNat)])):=by
  have lp:∀ d F T,PInv N k nb m g F T Q→(l:Int)+1≤F a.toNat+F b.toNat+(d:Nat)→∃ F' T' r,(∀ c,c.n=0→zR c 208 zf80 (SH g nb N m F0 T0 F T Q a b ((l:Int)+1)) (Post c (pebR N m F' T' Q) (.tup [pebO N m 0,.p (.bool r)]))) ∧
      PInv N k nb m g F' T' Q∧(r=true→(l:Int)+1≤F' a.toNat+F' b.toNat)∧(r=false→¬ Mat.Sparse N k l (plL g Q m++[(a.toNat,b.toNat)])):=by
    intro d
    induction d with
    | zero =>
      intro F T hp hw
      have hd:decide (F a.toNat+F b.toNat<(l:Int)+1)=false:=by simp;omega
      have l1:=hp.le (v:=a.toNat) (by omega)
      have l2:=hp.le (v:=b.toNat) (by omega)
      refine ⟨F,T,true,fun c hc=>?_,hp,(fun _=>by omega),(fun h=>by cases h)⟩
      refine pkZ Tryz.func208 hc (qHd g nb N m F0 T0 F T Q a b ((l:Int)+1)) ?_
      and_intros
      all_goals (first | exact zI | (exact hd) | (intro i hi;simp [All]))
    | succ d ih =>
      intro F T hp hw
      have l1:=hp.le (v:=a.toNat) (by omega)
      have l2:=hp.le (v:=b.toNat) (by omega)
      by_cases hs:F a.toNat+F b.toNat<(l:Int)+1
      · have hd:decide (F a.toNat+F b.toNat<(l:Int)+1)=true:=by simp;omega
        obtain ⟨H1,r1,hc1,hf1⟩:=con_l4Find hp hk hN hm hnb ha hb hab
        cases hf1 with
        | yes F1 T1 hm1 =>
          obtain ⟨y1,y2⟩:=hm1.yes rfl
          obtain ⟨F',T',r,hrun,h1,h2,h3⟩:=ih F1 T1 hm1.inv (by omega)
          refine ⟨F',T',r,fun c hc=>?_,h1,h2,h3⟩
          refine pcD hc (qHa g nb N m F0 T0 F T Q F1 T1 a b ((l:Int)+1)) ?_ (hrun c hc)
          and_intros
          all_goals (first | exact zI | (exact hd) | (exact hc1) | (intro i hi;simp [All]))
        | no hm1 =>
          obtain ⟨H2,r2,hc2,hf2⟩:=con_l4Find hp hk hN hm hnb hb ha (Ne.symm hab)
          cases hf2 with
          | yes F2 T2 hm2 =>
            obtain ⟨y1,y2⟩:=hm2.yes rfl
            obtain ⟨F',T',r,hrun,h1,h2,h3⟩:=ih F2 T2 hm2.inv (by omega)
            refine ⟨F',T',r,fun c hc=>?_,h1,h2,h3⟩
            refine pcD hc (qHb g nb N m F0 T0 F T Q F2 T2 a b ((l:Int)+1)) ?_ (hrun c hc)
            and_intros
            all_goals (first | exact zI | (exact hd) | (exact hc1) | (exact hc2) | (intro i hi;simp [All]))
          | no hm2 =>
            refine ⟨F,T,false,fun c hc=>?_,hp,(fun h=>by cases h),fun _=>gather_no hp ha hb hab (by omega) hm1 hm2⟩
            refine pkD Tryz.func208 hc (qHc g nb N m F0 T0 F T Q a b ((l:Int)+1)) ?_
            and_intros
            all_goals (first | exact zI | (exact hd) | (exact hc1) | (exact hc2) | (intro i hi;simp [All]))
      · have hd:decide (F a.toNat+F b.toNat<(l:Int)+1)=false:=by simp;omega
        refine ⟨F,T,true,fun c hc=>?_,hp,(fun _=>by omega),(fun h=>by cases h)⟩
        refine pkZ Tryz.func208 hc (qHd g nb N m F0 T0 F T Q a b ((l:Int)+1)) ?_
        and_intros
        all_goals (first | exact zI | (exact hd) | (intro i hi;simp [All]))
  have l1:=hp0.le (v:=a.toNat) (by omega)
  have l2:=hp0.le (v:=b.toNat) (by omega)
  obtain ⟨F',T',r,hrun,h⟩:=lp (l+1) F0 T0 hp0 (by omega)
  refine ⟨F',T',r,?_,h⟩
  have hcc:=con_l4Copy N m F0 T0 Q hN hm
  refine csZ Tryz.func208 (fun c hc=>?_)
  refine pcD hc (qHz g nb N m F0 T0 Q a b ((l:Int)+1)) ?_ (hrun c hc)
  and_intros
  all_goals (first | exact zI | (exact hcc) | (intro i hi;simp [All]))
theorem run_new {g:Nat→T_Bar} {nb N k:Nat} (hN:N≤1048576) (hk:1≤k∧k≤3) (hg:isGraphF ((N:Int),(nb,g),())=true) (hnb:nb≤1048576) (c:Cx) (hc:c.n=0) {items:List Item} (hit:items=zf92) :
    zR c 179 items (SNc g nb N k) (Post c (pebR N 0 (fun _=>k) (fun _=>0) (fun _=>0)) (.tup [pebO N 0 0,.p (.bool true)])):=by
  subst hit
  have hsm:smS s_Graph ((N:Int),(nb,g),()):=⟨by simp [smS,smL],⟨hnb,fun i hi=>by simp [smS,smL]⟩,True.intro⟩
  have hcg:=con_IsGraph_s ((N:Int),(nb,g),()) hsm
  rw [hg] at hcg
  have hci:=con_l1In k 1 3
  rw [show inB k 1 3=true by simp [inB];omega] at hci
  have lp0:∀ d i,i+d=N→zR c 179 zf38 (SN0 g nb N k i) (Post c (pebR N 0 (fun _=>k) (fun _=>0) (fun _=>0)) (.tup [pebO N 0 0,.p (.bool true)])):=by
    intro d
    induction d with
    | zero =>
      intro i hi
      obtain rfl:i=N:=by omega
      have hd:decide ((i:Int)<(i:Int))=false:=by simp
      refine pkD Tryz.func179 hc (qNe g nb i k i) ?_
      and_intros
      all_goals (first | exact zI | (intro i hi;simp [All]))
    | succ d ih =>
      intro i hi
      have hd:decide ((i:Int)<(N:Int))=true:=by simp;omega
      refine pcD hc (qNl g nb N k i) ?_ (ih (i+1) (by omega))
      and_intros
      all_goals (first | exact zI | (intro j hj;simp [All];done) | (intro j hj;by_cases h:j<i<;>simp [h,cvtL,cvt,tg,tru,All]))
  refine pcD hc (qNa g nb N k) ?_ (lp0 N 0 (by omega))
  and_intros
  all_goals (first | exact zH | (exact hcg) | (intros;exact hci) | (intro i hi;simp [All]))
theorem con_NewPebbles {N k nb:Nat} {g:Nat→T_Bar} (hN:N≤1048576) (hk:1≤k∧k≤3) (hg:isGraphF ((N:Int),(nb,g),())=true) (hnb:nb≤1048576) :
    zE 179 [grG g nb N,.p (.int .i64 k)] (pebR N 0 (fun _=>k) (fun _=>0) (fun _=>0)) (.tup [pebO N 0 0,.p (.bool true)]):=by
  refine csZ Tryz.func179 (fun c hc=>?_)
  refine pcD hc (qNy g nb N k) ?_ (run_new hN hk hg hnb c hc rfl)
  and_intros
  iterate 2 all_goals (first | exact zI | (intro i hi;simp [All]) | simp only [All])
end Go.Proofs.YtkepkjbofchckaaGreat.Mach
namespace Go.Proofs
open Go Go.Shelf Go.RowKit Go.Lib Go.Sort
set_option linter.unusedVariables false
set_option linter.unusedSimpArgs false
shelf_lay_g SlLaysF0.n6 Slsf 6 at Tryz 132 as Tryz.sortBar
end Go.Proofs
namespace Go.Proofs.YtkepkjbofchckaaGreat.Mach
open Go Go.Shelf Go.RowKit Go.Lib Go.Sort
set_option linter.unusedVariables false
set_option linter.unusedSimpArgs false
def encB (x:T_Bar):List Value:=[.int .i64 x.1,.int .i64 x.2.1]
theorem cmpI_1 {x y:Int} (h:x<y):cmpI x y = -1:=by simp [cmpI,h]
theorem cmpI_2 {x y:Int} (h:y<x):cmpI x y=1:=by
  have h3:¬ x<y:=by omega
  simp [cmpI,h3,h]
theorem cmpI_3 {x y:Int} (h:¬ x<y) (h':¬ y<x):cmpI x y=0:=by simp [cmpI,h,h']
theorem cmp_int (x y:Int) (W:World):Calls Tryz.prog 175 #[.int .i64 x,.int .i64 y] W fun e w'=>e=.returned (.int .i64 (cmpI x y))∧w'=W:=by
  go_enter Tryz.func175,Tryz.ntmps175
  by_cases h1:x<y
  · have hc:=cmpI_1 h1
    go_wp2
    go_ret
    exact ⟨by first | rfl | (rw [hc];rfl),rfl⟩
  · by_cases h2:y<x
    · have hc:=cmpI_2 h2
      go_wp2
      go_ret
      exact ⟨by first | rfl | (rw [hc];rfl),rfl⟩
    · have hc:=cmpI_3 h1 h2
      go_wp2
      go_ret
      exact ⟨by first | rfl | (rw [hc];rfl),rfl⟩
set_option maxRecDepth 10000 in
set_option maxHeartbeats 1000000 in
theorem cmp_bars4 (a b c d:Int) (W:World):Calls Tryz.prog 133 #[.agg #[.int .i64 a,.int .i64 b],.agg #[.int .i64 c,.int .i64 d]] W fun e w'=>e=.returned (.int .i64 (if cmpI a c=0 then cmpI b d else cmpI a c))∧∃ q os',w'=grow (W.drewN q) os':=by
  have c1:=fun W'=>cmp_int a c W'
  have c2:=fun W'=>cmp_int b d W'
  generalize cmpI a c=r1 at c1 ⊢
  generalize cmpI b d=r2 at c2 ⊢
  by_cases h:r1=0
  · have h9:(if r1=0 then r2 else r1)=r2:=if_pos h
    have c1':∀ W':World,Calls Tryz.prog 175 #[.int .i64 a,.int .i64 c] W' fun e w'=>e=.returned (.int .i64 0)∧w'=W':=by rw [← h];exact c1
    rw [h9]
    clear c1 h9 h
    go_enter Tryz.func133,Tryz.ntmps133
    go_wp2_with fail
    go_at_call 175
    refine (c1' _).mono ?_
    rintro e w' ⟨rfl,rfl⟩
    go_wp2_with fail
    go_at_call 175
    refine (c2 _).mono ?_
    rintro e w' ⟨rfl,rfl⟩
    go_wp2
    go_ret
    exact ⟨rfl,0,_,by rw [alloc_eq_grow,alloc_eq_grow,grow_grow];rfl⟩
  · have h9:(if r1=0 then r2 else r1)=r1:=if_neg h
    rw [h9]
    clear h9
    go_enter Tryz.func133,Tryz.ntmps133
    clear c2
    go_wp2_with fail
    go_at_call 175
    refine (c1 _).mono ?_
    rintro e w' ⟨rfl,rfl⟩
    go_wp2
    go_ret
    exact ⟨rfl,0,_,by rw [alloc_eq_grow,alloc_eq_grow,grow_grow];rfl⟩
theorem cmp_bars (x y:T_Bar) (W:World):Calls Tryz.prog 133 #[.agg #[.int .i64 x.1,.int .i64 x.2.1],.agg #[.int .i64 y.1,.int .i64 y.2.1]] W fun e w'=>e=.returned (.int .i64 (cmpB x y))∧∃ q os',w'=grow (W.drewN q) os' :=
  cmp_bars4 x.1 x.2.1 y.1 y.2.1 W
open Go Go.Shelf Go.RowKit Go.Sort
def sW (w:World) (b base q:Nat) (F:Array Value) (os:Array Obj):World:=grow (putRow id (Sort.ahead w q) b base F) os
theorem sW_at {w:World} {b base q:Nat} {F:Array Value} {os:Array Obj} {cells:Array Value} {el:TypeId} {fr:Nat×Nat} (hb:w.heap[b]? = some (.cells cells el fr)) :
    (sW w b base q F os).heap[b]? = some (.cells (putCells id base F cells) el fr):=by
  have hlt:b<w.heap.size:=by
    rcases Nat.lt_or_ge b w.heap.size with h | h
    · exact h
    · rw [Array.getElem?_eq_none h] at hb;cases hb
  rw [sW,heap_grow_old _ _ (by rw [size_putRow];exact hlt)]
  simp only [putRow,mapBlock,heap_ahead,Array.getElem?_modify,if_true,hb,Option.map_some,onCells]
theorem sW_ne {w:World} {b base q c:Nat} {F:Array Value} {os:Array Obj} (hne:c≠b) (hlt:c<w.heap.size) :
    (sW w b base q F os).heap[c]? = w.heap[c]?:=by
  rw [sW,heap_grow_old _ _ (by rw [size_putRow];exact hlt)]
  simp only [putRow,mapBlock,heap_ahead,Array.getElem?_modify,if_neg (Ne.symm hne)]
theorem putCells_size (base:Nat) (F cells:Array Value):(putCells id base F cells).size=cells.size:=by simp [putCells]
theorem putCells_in (base:Nat) (F cells:Array Value) (t:Nat) (h:t<F.size) (hs:base+t<cells.size):(putCells id base F cells)[base+t]? = some F[t]!:=by
  simp only [putCells,Array.getElem?_mapIdx,Array.getElem?_eq_getElem hs,Option.map_some,id]
  rw [if_pos ⟨by omega,by omega⟩,show base+t - base=t by omega]
theorem look_one {ob ob':Ob} {o:Id} (h:lk [(0,ob)] o=some ob') (hb:ob.bx=false:=by rfl):o=0∧ob'=ob:=by
  unfold lk at h
  split at h
  · rename_i ob1 h1
    obtain ⟨oo,m⟩:=o
    simp only [List.lookup] at h1
    split at h1
    · rename_i h2
      cases h1
      have h2:oo=0:=by simpa using h2
      obtain ⟨h3,h4⟩:=vw_plain (isF_nb hb) h
      simp only at h3
      subst h2;subst h3
      exact ⟨rfl,h4⟩
    · cases h1
  · cases h
theorem lk_one (ob:Ob) (hb:ob.bx=false:=by rfl):lk [(0,ob)] 0=some ob:=lk_plain (H:=[(0,ob)]) (o:=0) rfl (isF_nb hb)
theorem own_one (β:Id→Option Addr) (ob:Ob) (b:Nat) (hb:ob.bx=false:=by rfl):ownOf β [(0,ob)] b↔∃ a,β 0=some a∧a.block=b:=by
  constructor
  · rintro ⟨o,ob',a,h1,h2,h3⟩
    obtain ⟨rfl,_⟩:=look_one h1 hb
    exact ⟨a,h2,h3⟩
  · rintro ⟨a,h1,h2⟩
    exact ⟨0,ob,a,lk_one ob hb,h1,h2⟩
theorem ow_one (X:Nat→Prop) (β:Id→Option Addr) (ob ob':Ob) (hb:ob.bx=false:=by rfl) (hb':ob'.bx=false:=by rfl):ow X β [(0,ob)]=ow X β [(0,ob')]:=by
  funext t b
  simp only [ow,own_one β ob b hb,own_one β ob' b hb']
theorem sW_post {w:World} {β:Id→Option Addr} {X:Nat→Prop} {z n:Nat} {fo f':Nat→List AV} {b base q:Nat} {F:Array Value} {os:Array Obj} {cells:Array Value} {el:TypeId} {res:AV} {v:Value}
    (hβ:β 0=some ⟨b,base,none⟩) (hh:w.heap[b]? = some (.cells cells el (0,0)))
    (hS:Sep β [(0,⟨false,z,n,fo⟩)])
    (hsz:base+n*z≤cells.size) (hF:F.size=n*z)
    (hrow:∀ i,i<n→∀ j,j<z→One (F[i*z+j]!)∧∀ (w:World) (own:Bool→Nat→Prop),VR w β own ((f' i).getD j anyA) (F[i*z+j]!))
    (hv:∀ own:Bool→Nat→Prop,VR (sW w b base q F os) β own res v) :
    ∃ v' β',Ending.returned v=.returned v'∧HR (sW w b base q F os) β' (fr X β' [(0,⟨false,z,n,f'⟩)]) [(0,⟨false,z,n,f'⟩)]∧Sep β' [(0,⟨false,z,n,f'⟩)] ∧
      VR (sW w b base q F os) β' (fr X β' [(0,⟨false,z,n,f'⟩)]) res v'∧Ext w (ow X β [(0,⟨false,z,n,fo⟩)]) (sW w b base q F os) (ow X β' [(0,⟨false,z,n,f'⟩)]) ∧
      (∀ o a,β o=some a→β' o=some a)∧(∀ b,ownOf β' [(0,⟨false,z,n,f'⟩)] b→ownOf β [(0,⟨false,z,n,fo⟩)] b∨w.heap.size≤b)∧∀ k,β' k≠none→β k≠none∨(1≤k.o∧k.o<1+32):=by
  have hown:ownOf β [(0,⟨false,z,n,fo⟩)] b:=(own_one _ _ _).2 ⟨_,hβ,rfl⟩
  refine ⟨v,β,rfl,?_,?_,hv _,?_,fun o a h=>h,fun b' h=>.inl ?_,fun k h=>.inl h⟩
  · intro o ob hl
    obtain ⟨rfl,rfl⟩:=look_one hl
    refine .inr (.inl ⟨b,base,_,el,hβ,sW_at hh,?_⟩)
    intro i hi j hj
    change i<n at hi
    change j<z at hj
    show ∃ v,(putCells id base F cells)[base+(i*z+j)]? = some v∧One v∧_
    have hlt:i*z+j<n*z:=by
      have h1:=Nat.mul_le_mul_right z (show i+1≤n from hi)
      rw [Nat.add_mul,Nat.one_mul] at h1
      have h2:j<z:=hj
      omega
    exact ⟨F[i*z+j]!,putCells_in base F cells _ (by omega) (by omega),(hrow i hi j hj).1,(hrow i hi j hj).2 _ _⟩
  · intro o o' ob ob' a a' h1 h2 h3 h4 h5
    obtain ⟨rfl,rfl⟩:=look_one h1
    obtain ⟨rfl,rfl⟩:=look_one h2
    rfl
  · rw [ow_one X β ⟨false,z,n,f'⟩ ⟨false,z,n,fo⟩]
    refine ⟨rfl,rfl,rfl,by rw [sW,size_grow,size_putRow];exact Nat.le_add_right _ _,fun t c hc hn=>?_,fun t c hc h=>h,fun c cs e f h=>?_,fun c es ck h=>?_⟩
    · refine sW_ne (fun h=>hn ?_) hc
      subst h
      exact .inl hown
    · by_cases hcb:c=b
      · subst hcb
        rw [hh] at h
        injection h with h
        injection h with h1 h2 h3
        subst h1
        exact ⟨_,_,_,sW_at hh,by rw [putCells_size];exact Nat.le_refl _⟩
      · have hlt:c<w.heap.size:=by
          rcases Nat.lt_or_ge c w.heap.size with h' | h'
          · exact h'
          · rw [Array.getElem?_eq_none h'] at h;cases h
        exact ⟨cs,e,f,by rw [sW_ne hcb hlt];exact h,Nat.le_refl _⟩
    · by_cases hcb:c=b
      · subst hcb
        rw [hh] at h
        cases h
      · have hlt:c<w.heap.size:=by
          rcases Nat.lt_or_ge c w.heap.size with h' | h'
          · exact h'
          · rw [Array.getElem?_eq_none h'] at h;cases h
        exact ⟨es,ck,by rw [sW_ne hcb hlt];exact h⟩
  · rw [own_one _ _ _ rfl] at h ⊢;exact h
theorem vr_int {w:World} {β:Id→Option Addr} {own:Bool→Nat→Prop} {k:IntKind} {x:Int} {v:Value} (h:VR w β own (.p (.int k x)) v):v=.int k x:=by
  cases h with
  | p _ _ hp=>cases hp;rfl
open Go
def brOb (n:Nat) (h:Nat→T_Bar):Ob:=⟨false,2,n,fun i=>[.p (.int .i64 (h i).1),.p (.int .i64 (h i).2.1)]⟩
def bxB (x:T_Bar):Ob:=⟨true,2,1,fun _=>[.p (.int .i64 x.1),.p (.int .i64 x.2.1)]⟩
def SL (g:Nat→T_Bar) (nb N:Nat) (x:T_Bar) (i n:Nat) (pl:Bool) (h:Nat→T_Bar):St :=
  ⟨[grG g nb N,brA x,.pt 2 0 0 0,.pt 2 1 0 0,.pt 2 2 0 0,.pt 2 3 0 0,.p (.bool pl),.p (.int .i64 i)]++List.replicate 48 anyA,
   [(0,bxG g nb N),(1,bxB x),(2,⟨true,2,1,fun _=>[.p (.int .i64 0),.p .nil]⟩),(3,⟨true,2,1,fun _=>[.p (.int .i64 N),.ar 2 4 0 n]⟩),(4,brOb n h)],5⟩
def snoc (n:Nat) (h:Nat→T_Bar) (x:T_Bar) (s:Nat):T_Bar:=(if s<n then (h s).1 else x.1,if s<n then (h s).2.1 else x.2.1,())
abbrev NB:=Nat×(Nat→T_Bar)
def zNB:NB:=(0,fun _=>(0,0,()))
def sn (r:NB) (x:T_Bar):NB:=(r.1+1,snoc r.1 r.2 x)
theorem rLz (g:Nat→T_Bar) (nb N:Nat) (x:T_Bar) :
    zT Tryz.f136 [rg 3,rg 6,rg 1,rg 1,.head] [grG g nb N,brA x] [0,32,64,224,160] (SL g nb N x 0 0 false (fun _=>(0,0,()))) =
    some (zf39,zD [(NT 0 1),((true=true)→ (AN 1)),(AI ((↑N:Int))),(AN nb),(AP nb (bRw g)),(AI x.1),(AI x.2.1),(AN 0),(false=false),((0:Int)=(↑0:Int)),((([AV.p (PV.int IntKind.i64 (↑N:Int)),brL g nb].length):Nat)=2),(NL 1 1),((([AV.p (PV.int IntKind.i64 x.1),AV.p (PV.int IntKind.i64 x.2.1)].length):Nat)=2),((((List.map (fun v=>AV.p (absV v)) [Value.int IntKind.i64 0,Value.slice none 0 0]).length):Nat)=2),(AI 0),(AN 2),(NL 0 0),(AA 0 (fun i=>[.p (.int .i64 0),.p (.int .i64 0)]))] [0,0,1,2,3,4,5,6,7,7,7,7,8,9,10,11,11,2,3,4,12,11,11,5,6,13,11,11,14,13,11,11,2,7,7,15,16,17]):=by kernel_rfl
theorem rLa (g:Nat→T_Bar) (nb N:Nat) (x:T_Bar) (i n:Nat) (pl:Bool) (h:Nat→T_Bar) :
    zM 0 [rg 5,.dec true,rm [(9,oc [] (.p (.bool (aft (g i) x))))] 2,.dec true,rg 7,rg 1,rg 11,rg 3,.head] zf39 (SL g nb N x i n pl h) [0,1,2,3,1061] 1 (SL g nb N x (i+1) (n+1+1) true (snoc (n+1) (snoc n h x) (g i))) =
    some (zf39,zD [(NT 0 1),((decide ((↑i:Int)<(↑nb:Int)))=true),(AG (!pl)),(((!pl)=true)→(NT 0 1)),(((!pl)=true)→(IL 0 (↑i:Int))),(((!pl)=true)→(IT (↑i:Int) (↑nb:Int))),(((!pl)=true)→ zE 176 [.agg [.p (.int .i64 ((g i).1)),.p (.int .i64 ((g i).2.1))],.agg [.p (.int .i64 x.1),.p (.int .i64 x.2.1)]] [] (.p (.bool (aft (g i) x)))),((bif !pl then !aft (g i) x else false)=true),(NL 1 1),(NL n n),(NL ((n+1)*16) 140737488355328),(NL (n+1) 9223372036854775807),((true=true)→ (AN 1)),(IL 0 (↑i:Int)),(IT (↑i:Int) (↑nb:Int)),(NL (n+1) (n+1)),(NL ((n+1+1)*16) 140737488355328),(NL (n+1+1) 9223372036854775807),(ZLo ((↑i:Int)+1)),(ZHi ((↑i:Int)+1)),(AI ((↑N:Int))),(AN nb),(AP nb (bRw g)),(AI x.1),(AI x.2.1),(AN 0),(true=true),((((↑i:Int)+1):Int)=(↑(i+1):Int)),(AN 2),(AI 0),(AN ((n+1+1))),(NL (n+1+1) (n+1+1)),(CV [(3,⟨true,2,1,(fun i_2=>[.p (.int .i64 (↑N:Int)),.ar 2 1061 0 (n+1+1)])⟩),(1061,⟨false,2,(n+1+1),(fun i_2=>(if (i_2<n+1) then (if (i_2<n) then [.p (.int .i64 ((h i_2).1)),.p (.int .i64 ((h i_2).2.1))] else [.p (.int .i64 x.1),.p (.int .i64 x.2.1)]) else [.p (.int .i64 ((g i).1)),.p (.int .i64 ((g i).2.1))]))⟩),(1029,⟨false,2,1,(fun i_2=>[.p (.int .i64 ((g i).1)),.p (.int .i64 ((g i).2.1))])⟩),(645,⟨false,2,1,(fun i_2=>[.p (.int .i64 x.1),.p (.int .i64 x.2.1)])⟩),(0,⟨true,2,1,(fun i_2=>[.p (.int .i64 (↑N:Int)),.p (.seq true 2 nb (bRw g))])⟩),(1,⟨true,2,1,(fun i_2=>[.p (.int .i64 x.1),.p (.int .i64 x.2.1)])⟩),(2,⟨true,2,1,(fun i_2=>[.p (.int .i64 0),.p (.nil)])⟩)] [0,1,2,3,1061] 1 (n+1+1) (fun i_1=>if (i_1<n+1) then (if (i_1<n) then [.p (.int .i64 ((h i_1).1)),.p (.int .i64 ((h i_1).2.1))] else [.p (.int .i64 x.1),.p (.int .i64 x.2.1)]) else [.p (.int .i64 ((g i).1)),.p (.int .i64 ((g i).2.1))]) (fun i_1=>[.p (.int .i64 (if i_1<n+1 then if i_1<n then (h i_1).1 else x.1 else (g i).1)),.p (.int .i64 (if i_1<n+1 then if i_1<n then (h i_1).2.1 else x.2.1 else (g i).2.1))]))] [0,1,2,3,2,2,4,5,2,3,2,2,6,2,2,7,0,0,8,9,10,11,0,12,0,0,13,14,8,15,16,17,0,12,18,19,20,21,22,23,24,25,25,25,25,26,27,28,8,8,20,21,22,28,8,8,23,24,28,8,8,29,28,8,8,20,25,30,28,31,32]):=by kernel_rfl
theorem rLb (g:Nat→T_Bar) (nb N:Nat) (x:T_Bar) (i n:Nat) (pl:Bool) (h:Nat→T_Bar) :
    zM 0 [rg 5,.dec true,rm [(9,oc [] (.p (.bool (aft (g i) x))))] 2,.dec false,rg 11,rg 3,.head] zf39 (SL g nb N x i n pl h) [0,1,2,3,805] 1 (SL g nb N x (i+1) (n+1) pl (snoc n h (g i))) =
    some (zf39,zD [(NT 0 1),((decide ((↑i:Int)<(↑nb:Int)))=true),(AG (!pl)),(((!pl)=true)→(NT 0 1)),(((!pl)=true)→(IL 0 (↑i:Int))),(((!pl)=true)→(IT (↑i:Int) (↑nb:Int))),(((!pl)=true)→ zE 176 [.agg [.p (.int .i64 ((g i).1)),.p (.int .i64 ((g i).2.1))],.agg [.p (.int .i64 x.1),.p (.int .i64 x.2.1)]] [] (.p (.bool (aft (g i) x)))),((bif !pl then !aft (g i) x else false)=false),(IL 0 (↑i:Int)),(IT (↑i:Int) (↑nb:Int)),(NL 1 1),(NL n n),(NL ((n+1)*16) 140737488355328),(NL (n+1) 9223372036854775807),((true=true)→ (AN 1)),(ZLo ((↑i:Int)+1)),(ZHi ((↑i:Int)+1)),(AI ((↑N:Int))),(AN nb),(AP nb (bRw g)),(AI x.1),(AI x.2.1),(AN 0),(pl=pl),((((↑i:Int)+1):Int)=(↑(i+1):Int)),(AN 2),(AI 0),(AN ((n+1))),(NL (n+1) (n+1)),(CV [(3,⟨true,2,1,(fun i_2=>[.p (.int .i64 (↑N:Int)),.ar 2 805 0 (n+1)])⟩),(805,⟨false,2,(n+1),(fun i_2=>(if (i_2<n) then [.p (.int .i64 ((h i_2).1)),.p (.int .i64 ((h i_2).2.1))] else [.p (.int .i64 ((g i).1)),.p (.int .i64 ((g i).2.1))]))⟩),(773,⟨false,2,1,(fun i_2=>[.p (.int .i64 ((g i).1)),.p (.int .i64 ((g i).2.1))])⟩),(0,⟨true,2,1,(fun i_2=>[.p (.int .i64 (↑N:Int)),.p (.seq true 2 nb (bRw g))])⟩),(1,⟨true,2,1,(fun i_2=>[.p (.int .i64 x.1),.p (.int .i64 x.2.1)])⟩),(2,⟨true,2,1,(fun i_2=>[.p (.int .i64 0),.p (.nil)])⟩)] [0,1,2,3,805] 1 (n+1) (fun i_1=>if (i_1<n) then [.p (.int .i64 ((h i_1).1)),.p (.int .i64 ((h i_1).2.1))] else [.p (.int .i64 ((g i).1)),.p (.int .i64 ((g i).2.1))]) (fun i_1=>[.p (.int .i64 (if i_1<n then (h i_1).1 else (g i).1)),.p (.int .i64 (if i_1<n then (h i_1).2.1 else (g i).2.1))]))] [0,1,2,3,2,2,4,5,2,3,2,2,6,2,2,7,0,0,8,9,10,11,12,13,0,14,15,16,17,18,19,20,21,22,22,22,22,23,24,25,10,10,17,18,19,25,10,10,20,21,25,10,10,26,25,10,10,17,22,27,25,28,29]):=by kernel_rfl
theorem rLc (g:Nat→T_Bar) (nb N:Nat) (x:T_Bar) (i n:Nat) (pl:Bool) (h:Nat→T_Bar) :
    zP Tryz.f136 0 [rg 5,.dec false,rg 2,.dec true,rg 7,rg 2] zf39 (SL g nb N x i n pl h) [357] 1 [(0,brOb (n+1) (snoc n h x))] (.agg [.p (.int .i64 N),.ar 2 0 0 (n+1)]) =
    some (zD [(NT 0 1),((decide ((↑i:Int)<(↑nb:Int)))=false),((!pl)=true),(NL 1 1),(NL n n),(NL ((n+1)*16) 140737488355328),(NL (n+1) 9223372036854775807),((true=true)→ (AN 1)),(AI ((↑N:Int))),(AN 0),(AN ((n+1))),(AN 2),(NL (n+1) (n+1)),(CV [(2,⟨true,2,1,(fun i_2=>[.p (.int .i64 (↑N:Int)),.ar 2 357 0 (n+1)])⟩),(3,⟨true,2,1,(fun i_2=>[.p (.int .i64 (↑N:Int)),.ar 2 357 0 (n+1)])⟩),(357,⟨false,2,(n+1),(fun i_2=>(if (i_2<n) then [.p (.int .i64 ((h i_2).1)),.p (.int .i64 ((h i_2).2.1))] else [.p (.int .i64 x.1),.p (.int .i64 x.2.1)]))⟩),(325,⟨false,2,1,(fun i_2=>[.p (.int .i64 x.1),.p (.int .i64 x.2.1)])⟩),(0,⟨true,2,1,(fun i_2=>[.p (.int .i64 (↑N:Int)),.p (.seq true 2 nb (bRw g))])⟩),(1,⟨true,2,1,(fun i_2=>[.p (.int .i64 x.1),.p (.int .i64 x.2.1)])⟩)] [357] 1 (n+1) (fun i_1=>if (i_1<n) then [.p (.int .i64 ((h i_1).1)),.p (.int .i64 ((h i_1).2.1))] else [.p (.int .i64 x.1),.p (.int .i64 x.2.1)]) (fun i_1=>[.p (.int .i64 (if i_1<n then (h i_1).1 else x.1)),.p (.int .i64 (if i_1<n then (h i_1).2.1 else x.2.1))])),(AE ((n+1)))] [0,1,2,0,0,3,4,5,6,0,7,0,0,7,0,8,9,10,11,12,13,14]):=by kernel_rfl
theorem rLd (g:Nat→T_Bar) (nb N:Nat) (x:T_Bar) (i n:Nat) (pl:Bool) (h:Nat→T_Bar) :
    zP Tryz.f136 0 [rg 5,.dec false,rg 2,.dec false,rg 2] zf39 (SL g nb N x i n pl h) [4] 1 [(0,brOb n h)] (.agg [.p (.int .i64 N),.ar 2 0 0 n]) =
    some [(NT 0 1),((decide ((↑i:Int)<(↑nb:Int)))=false),((!pl)=false),(NT 0 1),(NT 0 1),((true=true)→ (AN 1)),(NT 0 1),(AI ((↑N:Int))),(AN 0),(AN n),(AN 2),(NL n n),(AA n (fun i_1=>[.p (.int .i64 ((h i_1).1)),.p (.int .i64 ((h i_1).2.1))])),(AE n)]:=by kernel_rfl
theorem snoc_lt {n:Nat} {h:Nat→T_Bar} {x:T_Bar} {s:Nat} (hs:s<n):snoc n h x s=h s:=by
  simp only [snoc,hs,if_true]
theorem snoc_ge {n:Nat} {h:Nat→T_Bar} {x:T_Bar} {s:Nat} (hs:¬ s<n):snoc n h x s=x:=by
  simp only [snoc,hs,if_false]
theorem snoc_mem (n:Nat) (h:Nat→T_Bar) (x y:T_Bar):(∃ s,s<n+1∧snoc n h x s=y)↔(∃ s,s<n∧h s=y)∨x=y:=by
  constructor
  · rintro ⟨s,h1,h2⟩
    by_cases e:s<n
    · rw [snoc_lt e] at h2;exact .inl ⟨s,e,h2⟩
    · rw [snoc_ge e] at h2;exact .inr h2
  · rintro (⟨s,h1,h2⟩ | h2)
    · exact ⟨s,by omega,by rw [snoc_lt h1];exact h2⟩
    · exact ⟨n,by omega,by rw [snoc_ge (Nat.lt_irrefl n)];exact h2⟩
def insD (g:Nat→T_Bar) (x:T_Bar):Nat→Bool×Nat×(Nat→T_Bar)
  | 0=>(false,0,fun _=>(0,0,()))
  | i+1 =>
    if (bif !(insD g x i).1 then !aft (g i) x else false)=true then (true,(insD g x i).2.1+1+1,snoc ((insD g x i).2.1+1) (snoc (insD g x i).2.1 (insD g x i).2.2 x) (g i))
    else ((insD g x i).1,(insD g x i).2.1+1,snoc (insD g x i).2.1 (insD g x i).2.2 (g i))
def insR (g:Nat→T_Bar) (nb:Nat) (x:T_Bar):Nat×(Nat→T_Bar) :=
  if (insD g x nb).1=true then ((insD g x nb).2.1,(insD g x nb).2.2) else ((insD g x nb).2.1+1,snoc (insD g x nb).2.1 (insD g x nb).2.2 x)
theorem insD_n (g:Nat→T_Bar) (x:T_Bar):∀ i,(insD g x i).2.1=i+(if (insD g x i).1=true then 1 else 0)
  | 0=>rfl
  | i+1=>by
    have ih:=insD_n g x i
    simp only [insD]
    split
    · rename_i h
      have hf:(insD g x i).1=false:=by
        cases e:(insD g x i).1 with
        | false=>rfl
        | true=>rw [e] at h;simp at h
      rw [hf] at ih
      simp only [if_true]
      simp at ih
      omega
    · simp only
      omega
theorem insD_mem (g:Nat→T_Bar) (x y:T_Bar):∀ i,(∃ s,s<(insD g x i).2.1∧(insD g x i).2.2 s=y)↔(∃ s,s<i∧g s=y)∨((insD g x i).1=true∧x=y)
  | 0=>by
    constructor
    · rintro ⟨s,h1,_⟩;exact absurd h1 (Nat.not_lt_zero _)
    · rintro (⟨s,h1,_⟩ | ⟨h1,_⟩)
      · exact absurd h1 (Nat.not_lt_zero _)
      · cases h1
  | i+1=>by
    have ih:=insD_mem g x y i
    have step:(∃ s,s<i+1∧g s=y)↔(∃ s,s<i∧g s=y)∨g i=y:=by
      constructor
      · rintro ⟨s,h1,h2⟩
        by_cases e:s=i
        · right;rw [← e];exact h2
        · exact .inl ⟨s,by omega,h2⟩
      · rintro (⟨s,h1,h2⟩ | h2)
        · exact ⟨s,by omega,h2⟩
        · exact ⟨i,by omega,h2⟩
    simp only [insD]
    split
    · rename_i h
      have hf:(insD g x i).1=false:=by
        cases e:(insD g x i).1 with
        | false=>rfl
        | true=>rw [e] at h;simp at h
      simp only [snoc_mem,ih,step,hf]
      constructor
      · rintro ((( h | ⟨h,_⟩) | h) | h)
        · exact .inl (.inl h)
        · cases h
        · exact .inr ⟨trivial,h⟩
        · exact .inl (.inr h)
      · rintro ((h | h) | ⟨_,h⟩)
        · exact .inl (.inl (.inl h))
        · exact .inr h
        · exact .inl (.inr h)
    · simp only [snoc_mem,ih,step]
      constructor
      · rintro ((h | h) | h)
        · exact .inl (.inl h)
        · exact .inr h
        · exact .inl (.inr h)
      · rintro ((h | h) | h)
        · exact .inl (.inl h)
        · exact .inr h
        · exact .inl (.inr h)
theorem insR_mem (g:Nat→T_Bar) (nb:Nat) (x y:T_Bar):(∃ s,s<(insR g nb x).1∧(insR g nb x).2 s=y)↔(∃ s,s<nb∧g s=y)∨x=y:=by
  have h:=insD_mem g x y nb
  unfold insR
  split
  · rename_i hp
    simp only [h,hp,true_and]
  · rename_i hp
    simp only [snoc_mem,h]
    constructor
    · rintro ((h | ⟨h,_⟩) | h)
      · exact .inl h
      · exact absurd h hp
      · exact .inr h
    · rintro (h | h)
      · exact .inl (.inl h)
      · exact .inr h
theorem insR_n (g:Nat→T_Bar) (nb:Nat) (x:T_Bar):(insR g nb x).1=nb+1:=by
  have h:=insD_n g x nb
  unfold insR
  split
  · rename_i hp;rw [if_pos hp] at h;exact h
  · rename_i hp;rw [if_neg hp] at h;show (insD g x nb).2.1+1=nb+1;omega
theorem con_l2Put (g:Nat→T_Bar) (nb N:Nat) (x:T_Bar) (hnb:nb≤1048576):zE 136 [grG g nb N,brA x] [(0,brOb (insR g nb x).1 (insR g nb x).2)] (.agg [.p (.int .i64 N),.ar 2 0 0 (insR g nb x).1]):=by
  refine csZ Tryz.func136 (fun c hc=>?_)
  have lp:∀ d i,i+d=nb→zR c 136 zf39 (SL g nb N x i (insD g x i).2.1 (insD g x i).1 (insD g x i).2.2) (Post c [(0,brOb (insR g nb x).1 (insR g nb x).2)] (.agg [.p (.int .i64 N),.ar 2 0 0 (insR g nb x).1])):=by
    intro d
    induction d with
    | zero =>
      intro i hi
      obtain rfl:i=nb:=by omega
      have hd:decide ((i:Int)<(i:Int))=false:=by simp
      have hn:=insD_n g x i
      have hle:(insD g x i).2.1≤i+1:=by split at hn<;>omega
      cases hp:(insD g x i).1 with
      | true =>
        rw [show insR g i x=((insD g x i).2.1,(insD g x i).2.2) by simp [insR,hp]]
        refine pkZ Tryz.func136 hc (rLd g i N x i (insD g x i).2.1 true (insD g x i).2.2) ?_
        and_intros
        all_goals (first | exact zI | (intro i hi;simp [All]))
      | false =>
        rw [show insR g i x=((insD g x i).2.1+1,snoc (insD g x i).2.1 (insD g x i).2.2 x) by simp [insR,hp]]
        refine pkD Tryz.func136 hc (rLc g i N x i (insD g x i).2.1 false (insD g x i).2.2) ?_
        and_intros
        all_goals (first | exact zI | (intro j hj;simp [All];done) | (intro j hj;by_cases h:j<(insD g x i).2.1<;>simp [h,snoc,cvtL,cvt,tg,tru,All]))
    | succ d ih =>
      intro i hi
      have hd:decide ((i:Int)<(nb:Int))=true:=by simp;omega
      have hn:=insD_n g x i
      have hle:(insD g x i).2.1≤i+1:=by split at hn<;>omega
      have hca:=con_l2After (g i) x
      have hs:insD g x (i+1)=if (bif !(insD g x i).1 then !aft (g i) x else false)=true then (true,(insD g x i).2.1+1+1,snoc ((insD g x i).2.1+1) (snoc (insD g x i).2.1 (insD g x i).2.2 x) (g i)) else ((insD g x i).1,(insD g x i).2.1+1,snoc (insD g x i).2.1 (insD g x i).2.2 (g i)):=rfl
      have hih:=ih (i+1) (by omega)
      cases ht:(bif !(insD g x i).1 then !aft (g i) x else false) with
      | true =>
        rw [hs,if_pos ht] at hih
        refine pcD hc (rLa g nb N x i (insD g x i).2.1 (insD g x i).1 (insD g x i).2.2) ?_ hih
        and_intros
        all_goals (first | exact zI | (intros;exact hca) | (exact ht) | (intro j hj;simp [All];done) | (intro j hj;by_cases h:j<(insD g x i).2.1+1<;>by_cases h':j<(insD g x i).2.1<;>simp [h,h',snoc,cvtL,cvt,tg,tru,All]) | (simp;omega))
      | false =>
        rw [hs,if_neg (by rw [ht];simp)] at hih
        refine pcD hc (rLb g nb N x i (insD g x i).2.1 (insD g x i).1 (insD g x i).2.2) ?_ hih
        and_intros
        all_goals (first | exact zI | (intros;exact hca) | (exact ht) | (intro j hj;simp [All];done) | (intro j hj;by_cases h:j<(insD g x i).2.1<;>simp [h,snoc,cvtL,cvt,tg,tru,All]))
  refine pcD hc (rLz g nb N x) ?_ (lp nb 0 (by omega))
  and_intros
  all_goals (first | exact zI | (intro i hi;simp [All]))
open Go Go.Shelf Go.RowKit Go.Lib Go.Sort
def ltB (x y:T_Bar):Bool:=ltOf cmpB x y
theorem ltB_iff (x y:T_Bar):ltB x y=true↔x.1<y.1∨(x.1=y.1∧x.2.1<y.2.1):=by
  rw [show ltB x y=decide (cmpB x y<0) from rfl,decide_eq_true_iff]
  unfold cmpB
  rcases Int.lt_trichotomy x.1 y.1 with h | h | h
  · rw [cmpI_1 h];simp;omega
  · rw [cmpI_3 (x:=x.1) (y:=y.1) (by omega) (by omega)]
    simp only [if_true]
    rcases Int.lt_trichotomy x.2.1 y.2.1 with h' | h' | h'
    · rw [cmpI_1 h'];simp;omega
    · rw [cmpI_3 (x:=x.2.1) (y:=y.2.1) (by omega) (by omega)];simp;omega
    · rw [cmpI_2 h'];simp;omega
  · rw [cmpI_2 h];simp;omega
theorem swoB:SWO (ltOf cmpB) where
  irrefl x:=by
    cases h:ltOf cmpB x x with
    | false=>rfl
    | true=>have:=(ltB_iff x x).1 h;omega
  trans x y z h1 h2:=by
    have h1:=(ltB_iff x y).1 h1
    have h2:=(ltB_iff y z).1 h2
    exact (ltB_iff x z).2 (by omega)
  ntrans x y z h1 h2:=by
    cases h:ltOf cmpB x z with
    | false=>rfl
    | true =>
      have h3:=(ltB_iff x z).1 h
      have e1:¬ (x.1<y.1∨(x.1=y.1∧x.2.1<y.2.1)):=fun h'=>by rw [show ltOf cmpB x y=true from (ltB_iff x y).2 h'] at h1;cases h1
      have e2:¬ (y.1<z.1∨(y.1=z.1∧y.2.1<z.2.1)):=fun h'=>by rw [show ltOf cmpB y z=true from (ltB_iff y z).2 h'] at h2;cases h2
      omega
theorem totB (x y:T_Bar) (h1:ltOf cmpB x y=false) (h2:ltOf cmpB y x=false):x=y:=by
  have e1:¬ (x.1<y.1∨(x.1=y.1∧x.2.1<y.2.1)):=fun h'=>by rw [show ltOf cmpB x y=true from (ltB_iff x y).2 h'] at h1;cases h1
  have e2:¬ (y.1<x.1∨(y.1=x.1∧y.2.1<x.2.1)):=fun h'=>by rw [show ltOf cmpB y x=true from (ltB_iff y x).2 h'] at h2;cases h2
  obtain ⟨a,b,⟨⟩⟩:=x
  obtain ⟨c,d,⟨⟩⟩:=y
  simp only [Prod.mk.injEq,and_true] at e1 e2 ⊢
  omega
def lstB (n:Nat) (h:Nat→T_Bar):List T_Bar:=(List.range n).map h
def srtL (l:List T_Bar):List T_Bar:=l.mergeSort fun x y=>!(ltOf cmpB) y x
def srtB (n:Nat) (h:Nat→T_Bar) (i:Nat):T_Bar:=(srtL (lstB n h)).getD i (0,0,())
theorem encB_len (x:T_Bar):(encB x).length=2:=rfl
theorem encB_one (x:T_Bar):∀ v∈encB x,v.oneCell'=true:=by
  intro v hv
  simp only [encB,List.mem_cons,List.not_mem_nil,or_false] at hv
  rcases hv with rfl | rfl<;>rfl
theorem srtL_len (l:List T_Bar):(srtL l).length=l.length:=by simp [srtL]
theorem lstB_len (n:Nat) (h:Nat→T_Bar):(lstB n h).length=n:=by simp [lstB]
theorem con_sortBars (n:Nat) (h:Nat→T_Bar) (hn:n≤1048576) :
    Con Tryz.prog 132 1 [(0,brOb n h)] [.ar 2 0 0 n,.p (.fn 133)] [(0,brOb n (srtB n h))] (.tup []):=by
  refine ⟨by kernel_rfl,fun w β X vals hX hH hS hd hl ha=>?_⟩
  obtain ⟨v0,v1,rfl⟩:∃ v0 v1,vals = #[v0,v1]:=by
    rcases vals with ⟨l⟩
    match l,hl with
    | [a,b],_=>exact ⟨a,b,rfl⟩
  have h0:VR w β (ow X β [(0,brOb n h)]) (.ar 2 0 0 n) v0:=ha 0 (by simp)
  have h1:VR w β (ow X β [(0,brOb n h)]) (.p (.fn 133)) v1:=ha 1 (by simp)
  have e1:v1=.func (.func 133) #[] #[]:=by
    cases h1 with
    | p _ _ hp=>cases hp;rfl
  subst e1
  have hnil:∀ (w':World) (own:Bool→Nat→Prop),VR w' β own (.tup []) (.tuple #[]):=fun w' own=>.tup [] #[] rfl (fun j hj=>absurd hj (Nat.not_lt_zero _))
  rcases Nat.eq_zero_or_pos n with rfl | hpos
  · obtain ⟨p,cap,rfl⟩:∃ p cap,v0=.slice p 0 cap:=by
      cases h0 with
      | ar0=>exact ⟨_,_,rfl⟩
      | ar=>exact ⟨_,_,rfl⟩
    refine (AnyF.slices_SortFunc_none (P:=Tryz.prog) (ρ:=Tryz.sortBar_ren) { Tryz.sortBar with } p cap _ w).mono ?_
    rintro e w' ⟨rfl,rfl⟩
    refine ⟨_,β,rfl,?_,?_,hnil _ _,?_,fun o a h=>h,fun b' h'=>.inl ?_,fun k h=>.inl h⟩
    · intro o ob hl
      obtain ⟨rfl,rfl⟩:=look_one hl
      rcases hH 0 _ (lk_one _) with ⟨hb,_⟩ | ⟨b,base,cells,el,hβ,hh,_⟩ | hm
      · exact .inl ⟨hb,rfl⟩
      · exact .inr (.inl ⟨b,base,cells,el,hβ,hh,fun i hi=>absurd hi (Nat.not_lt_zero _)⟩)
      · exact absurd hm.2.1 (by simp [brOb])
    · intro o o' ob ob' a a' h1 h2 h3 h4 h5
      obtain ⟨rfl,rfl⟩:=look_one h1
      obtain ⟨rfl,rfl⟩:=look_one h2
      rfl
    · rw [ow_one X β (brOb 0 (srtB 0 h)) (brOb 0 h)]
      exact Ext.refl _ _
    · rw [own_one _ _ _ rfl] at h' ⊢;exact h'
  · cases h0 with
    | ar0=>exact absurd hpos (Nat.lt_irrefl 0)
    | ar _ _ _ _ b base c cells elem fr' hβ hh hsz hc =>
      rcases hH 0 _ (lk_one _) with ⟨hb,_⟩ | ⟨b',base',cells',el',hβ',hh',hrw⟩ | hm
      · rw [hb] at hβ;cases hβ
      · rw [hβ] at hβ'
        injection hβ' with hβ'
        injection hβ' with i1 i2 _
        subst i1;subst i2
        rw [hh] at hh'
        injection hh' with hh'
        injection hh' with i1 i2 i3
        subst i1;subst i2;subst i3
        have hcell:∀ i,i<n→cells[base+(i*2+0)]? = some (.int .i64 (h i).1)∧cells[base+(i*2+1)]? = some (.int .i64 (h i).2.1):=by
          intro i hi
          obtain ⟨u,hu1,hu2,hu3⟩:=hrw i hi 0 (by simp [brOb])
          obtain ⟨u',hu1',hu2',hu3'⟩:=hrw i hi 1 (by simp [brOb])
          have:=vr_int (k:=.i64) (x:=(h i).1) hu3
          subst this
          have:=vr_int (k:=.i64) (x:=(h i).2.1) hu3'
          subst this
          exact ⟨hu1,hu1'⟩
        have hend:base+n*2≤cells.size:=by
          have:=(hcell (n - 1) (by omega)).2
          rcases Nat.lt_or_ge (base+((n - 1)*2+1)) cells.size with h' | h'
          · omega
          · rw [Array.getElem?_eq_none h'] at this;cases this
        have hdz:((lstB n h).toArray).size=n:=by simp [lstB]
        have hdi:∀ i,i<n→((lstB n h).toArray)[i]! = h i:=by
          intro i hi
          rw [getElem!_pos _ i (by rw [hdz];exact hi)]
          simp [lstB]
        have hHK:HoldsK encB 2 w b base (lstB n h).toArray:=by
          intro t ht
          rw [size_flatK,hdz] at ht
          rw [get_flatK _ _ _ _ (by rw [hdz];exact ht),hdi (t / 2) (by omega)]
          have hc:=hcell (t / 2) (by omega)
          rcases Nat.mod_two_eq_zero_or_one t with h2 | h2
          · refine ⟨?_,by simp [World.frozen?,hh]⟩
            rw [h2]
            have:base+t=base+(t / 2*2+0):=by omega
            simp only [World.cell?,hh]
            rw [this,hc.1];rfl
          · refine ⟨?_,by simp [World.frozen?,hh]⟩
            rw [h2]
            have:base+t=base+(t / 2*2+1):=by omega
            simp only [World.cell?,hh]
            rw [this,hc.2];rfl
        have hblk:b<w.heap.size:=by
          rcases Nat.lt_or_ge b w.heap.size with h' | h'
          · exact h'
          · rw [Array.getElem?_eq_none h'] at hh;cases hh
        have eg:∀ args w,(callFunc 133 args).run Tryz.prog w=.ok (.enter 133 args) w:=enters_of Tryz.func133 (by kernel_rfl) rfl
        have hcmp:CmpLays Tryz.prog 133 #[] encB 2 cmpB b base (lstB n h).toArray.size w:=fun _ _ _ _ x y=>cmp_bars x y _
        have hcon:=AnyQ.slices_SortFunc_total Tryz.sortBar 2 Tryz.isAgg91 Tryz.sizeOf91 encB encB_len encB_one cmpB swoB 133 #[] b base c (lstB n h).toArray w eg hcmp hHK hblk (by rw [hdz];omega) totB
        rw [hdz] at hcon
        change Calls Tryz.prog 132 _ _ _ at hcon
        rw [show base+0*2=base by omega]
        refine hcon.mono ?_
        rintro e w' ⟨rfl,q,os,rfl⟩
        refine sW_post (F:=flatK encB 2 (srtL (lstB n h)).toArray) hβ hh hS hend (by rw [size_flatK];simp [srtL_len,lstB_len]) (fun i hi j hj=>?_) (hnil _)
        have hs:((srtL (lstB n h)).toArray).size=n:=by simp [srtL_len,lstB_len]
        have hi2:i*2+j<n*2:=by omega
        rw [get_flatK _ _ _ _ (by rw [hs];exact hi2),show (i*2+j) / 2=i by omega,show (i*2+j) % 2=j by omega]
        have hgi:(srtL (lstB n h)).toArray[i]! = srtB n h i:=by
          rw [getElem!_pos _ i (by rw [hs];exact hi),srtB]
          simp [List.getD_eq_getElem?_getD,List.getElem?_eq_getElem (show i<(srtL (lstB n h)).length by rw [srtL_len,lstB_len];exact hi)]
        rw [hgi]
        rcases (show j=0∨j=1 by omega) with rfl | rfl
        · exact ⟨rfl,fun w' own=>.p _ _ (.int _ _)⟩
        · exact ⟨rfl,fun w' own=>.p _ _ (.int _ _)⟩
      · exact absurd hm.2.1 (by simp [brOb])
def leB (x y:T_Bar):Prop:=ltB y x=false
theorem leB_iff (x y:T_Bar):leB x y↔x.1<y.1∨(x.1=y.1∧x.2.1≤y.2.1):=by
  have h:=ltB_iff y x
  unfold leB
  cases hb:ltB y x with
  | false=>rw [hb] at h;simp only [Bool.false_eq_true,false_iff] at h;simp only [true_iff];omega
  | true=>rw [hb] at h;simp only [true_iff] at h;simp only [Bool.true_eq_false,false_iff];omega
theorem aft_iff (x y:T_Bar):aft x y=true↔leB x y:=by
  rw [leB_iff]
  unfold aft
  by_cases h1:x.1<y.1
  · simp [h1]
  · by_cases h2:x.1=y.1<;>simp [h1,h2]
theorem leB_antisymm (x y:T_Bar) (h1:leB x y) (h2:leB y x):x=y:=totB x y h2 h1
theorem srtL_sorted (l:List T_Bar):(srtL l).Pairwise leB:=by
  have h:=List.pairwise_mergeSort (le:=fun x y=>!(ltOf cmpB) y x) (fun a b c h1 h2=>by
    simp only [Bool.not_eq_true'] at *
    have h1:=(leB_iff a b).1 h1
    have h2:=(leB_iff b c).1 h2
    exact (leB_iff a c).2 (by omega)) (fun a b=>by
    simp only [Bool.or_eq_true,Bool.not_eq_true']
    rcases (show (a.1<b.1∨(a.1=b.1∧a.2.1≤b.2.1))∨(b.1<a.1∨(b.1=a.1∧b.2.1≤a.2.1)) by omega) with h | h
    · exact .inl ((leB_iff a b).2 h)
    · exact .inr ((leB_iff b a).2 h)) l
  exact h.imp (fun {a b} h=>show ltOf cmpB b a=false by simpa using h)
theorem srtL_perm (l:List T_Bar):(srtL l).Perm l:=List.mergeSort_perm l _
theorem srtL_eq {l m:List T_Bar} (hp:m.Perm l) (hs:m.Pairwise leB):m=srtL l :=
  List.Perm.eq_of_pairwise (le:=leB) (fun a b _ _ h1 h2=>leB_antisymm a b h1 h2) hs (srtL_sorted l) (hp.trans (srtL_perm l).symm)
theorem lstB_succ (n:Nat) (h:Nat→T_Bar):lstB (n+1) h=lstB n h++[h n]:=by simp [lstB,List.range_succ]
theorem lstB_congr {n:Nat} {h h':Nat→T_Bar} (he:∀ i,i<n→h i=h' i):lstB n h=lstB n h':=by
  simp only [lstB]
  exact List.map_congr_left (fun a ha=>he a (List.mem_range.1 ha))
theorem lstB_snoc (n:Nat) (h:Nat→T_Bar) (x:T_Bar):lstB (n+1) (snoc n h x)=lstB n h++[x]:=by
  rw [lstB_succ,lstB_congr (h':=h) (fun i hi=>snoc_lt hi),snoc_ge (Nat.lt_irrefl n)]
theorem lstB_inj {n:Nat} {h h':Nat→T_Bar} (he:lstB n h=lstB n h') (i:Nat) (hi:i<n):h i=h' i:=by
  have:(lstB n h)[i]? = (lstB n h')[i]?:=by rw [he]
  simpa [lstB,hi] using this
theorem lstB_srt (n:Nat) (h:Nat→T_Bar):lstB n (srtB n h)=srtL (lstB n h):=by
  refine List.ext_getElem? (fun i=>?_)
  rcases Nat.lt_or_ge i n with hi | hi
  · have:i<(srtL (lstB n h)).length:=by rw [srtL_len,lstB_len];exact hi
    simp only [lstB,List.getElem?_map,List.getElem?_range hi,Option.map_some]
    rw [show srtL (List.map h (List.range n))=srtL (lstB n h) from rfl,List.getElem?_eq_getElem this]
    simp [srtB,List.getD_eq_getElem?_getD,List.getElem?_eq_getElem this]
  · rw [List.getElem?_eq_none (by rw [lstB_len];exact hi),List.getElem?_eq_none (by rw [srtL_len,lstB_len];exact hi)]
theorem insD_list (g:Nat→T_Bar) (x:T_Bar) (nb:Nat) (hs:(lstB nb g).Pairwise leB):∀ i,i≤nb →
    (lstB (insD g x i).2.1 (insD g x i).2.2).Perm (lstB i g++(if (insD g x i).1=true then [x] else [])) ∧
    (lstB (insD g x i).2.1 (insD g x i).2.2).Pairwise leB∧((insD g x i).1=false→(lstB (insD g x i).2.1 (insD g x i).2.2)=lstB i g∧∀ s,s<i→leB (g s) x) ∧
    ((insD g x i).1=true→∀ s,s<nb→i≤s→∀ y∈lstB (insD g x i).2.1 (insD g x i).2.2,leB y (g s)):=by
  have hmono:∀ s s',s<s'→s'<nb→leB (g s) (g s'):=by
    intro s s' h1 h2
    have:=List.pairwise_iff_getElem.1 hs s s' (by rw [lstB_len];omega) (by rw [lstB_len];omega) h1
    simpa [lstB] using this
  have htr:∀ {a b c:T_Bar},leB a b→leB b c→leB a c:=by
    intro a b c h1 h2
    have h1:=(leB_iff a b).1 h1
    have h2:=(leB_iff b c).1 h2
    exact (leB_iff a c).2 (by omega)
  intro i
  induction i with
  | zero=>intro _;exact ⟨by simp [insD,lstB],by simp [insD,lstB],fun _=>⟨rfl,fun s h=>absurd h (Nat.not_lt_zero _)⟩,fun h=>by simp [insD] at h⟩
  | succ i ih =>
    intro hi
    obtain ⟨ih1,ih2,ih3,ih4⟩:=ih (by omega)
    simp only [insD]
    split
    · rename_i ht
      have hf:(insD g x i).1=false:=by
        cases e:(insD g x i).1 with
        | false=>rfl
        | true=>rw [e] at ht;simp at ht
      rw [hf] at ht
      simp only [Bool.not_false,cond_true,Bool.not_eq_true'] at ht
      have hxg:leB x (g i):=by
        have h1:¬ leB (g i) x:=fun h=>by rw [(aft_iff _ _).2 h] at ht;cases ht
        rw [leB_iff] at h1 ⊢
        omega
      obtain ⟨e1,e2⟩:=ih3 hf
      simp only [if_true]
      rw [lstB_snoc,lstB_snoc,e1]
      have hlt:∀ y∈lstB i g,leB y x∧leB y (g i):=by
        intro y hy
        simp only [lstB,List.mem_map,List.mem_range] at hy
        obtain ⟨s,h1,rfl⟩:=hy
        exact ⟨e2 s h1,hmono s i h1 (by omega)⟩
      refine ⟨?_,?_,fun h=>by simp at h,fun _ s hs1 hs2 y hy=>?_⟩
      · rw [lstB_succ,List.append_assoc,List.append_assoc]
        exact List.Perm.append_left _ (List.Perm.swap _ _ _)
      · rw [e1] at ih2
        rw [List.append_assoc,List.pairwise_append]
        refine ⟨ih2,by simp [hxg],fun y hy y' hy'=>?_⟩
        simp only [List.cons_append,List.nil_append,List.mem_cons,List.not_mem_nil,or_false] at hy'
        rcases hy' with rfl | rfl
        · exact (hlt y hy).1
        · exact (hlt y hy).2
      · have his:leB (g i) (g s):=hmono i s (by omega) hs1
        simp only [List.mem_append,List.mem_cons,List.not_mem_nil,or_false] at hy
        rcases hy with (hy | rfl) | rfl
        · exact htr (hlt y hy).2 his
        · exact htr hxg his
        · exact his
    · rename_i ht
      rw [lstB_snoc]
      refine ⟨?_,?_,fun h=>?_,fun h s hs1 hs2 y hy=>?_⟩
      · rw [lstB_succ,List.append_assoc]
        refine (List.Perm.append_right [g i] ih1).trans ?_
        rw [List.append_assoc]
        exact List.Perm.append_left _ List.perm_append_comm
      · rw [List.pairwise_append]
        refine ⟨ih2,by simp,fun y hy y' hy'=>?_⟩
        simp only [List.mem_cons,List.not_mem_nil,or_false] at hy'
        subst hy'
        cases hp:(insD g x i).1 with
        | true=>exact ih4 hp i (by omega) (Nat.le_refl _) y hy
        | false =>
          rw [(ih3 hp).1] at hy
          simp only [lstB,List.mem_map,List.mem_range] at hy
          obtain ⟨s,h1,rfl⟩:=hy
          exact hmono s i h1 (by omega)
      · simp only at h
        obtain ⟨e1,e2⟩:=ih3 h
        refine ⟨by rw [e1,lstB_succ],fun s hs1=>?_⟩
        rcases Nat.lt_or_ge s i with h' | h'
        · exact e2 s h'
        · obtain rfl:s=i:=by omega
          rw [h] at ht
          simp only [Bool.not_false,cond_true,Bool.not_eq_true',Bool.not_eq_false] at ht
          exact (aft_iff _ _).1 ht
      · simp only at h
        simp only [List.mem_append,List.mem_cons,List.not_mem_nil,or_false] at hy
        rcases hy with hy | rfl
        · exact ih4 h s hs1 (by omega) y hy
        · exact hmono i s (by omega) hs1
theorem insR_list (g:Nat→T_Bar) (nb:Nat) (x:T_Bar) (hs:(lstB nb g).Pairwise leB) :
    lstB (insR g nb x).1 (insR g nb x).2=srtL (lstB nb g++[x]):=by
  obtain ⟨h1,h2,h3,h4⟩:=insD_list g x nb hs nb (Nat.le_refl _)
  unfold insR
  split
  · rename_i hp
    rw [if_pos hp] at h1
    exact srtL_eq h1 h2
  · rename_i hp
    have hf:(insD g x nb).1=false:=by simpa using hp
    obtain ⟨e1,e2⟩:=h3 hf
    simp only
    rw [lstB_snoc,e1]
    refine srtL_eq (List.Perm.refl _) ?_
    rw [List.pairwise_append]
    refine ⟨hs,by simp,fun y hy y' hy'=>?_⟩
    simp only [List.mem_cons,List.not_mem_nil,or_false] at hy'
    subst hy'
    simp only [lstB,List.mem_map,List.mem_range] at hy
    obtain ⟨s,h',rfl⟩:=hy
    exact e2 s h'
def hasI (g:Nat→Int) (x:Int):Nat→Bool
  | 0=>false
  | k+1=>hasI g x k||g k==x
def inL (v:T_IntS):AV:=.p (.seq true 1 v.1 (fun i=>[.int .i64 (v.2 i)]))
def S85 (v:T_IntS) (x:Int) (k:Nat):St :=
  ⟨[inL v,.p (.int .i64 x),.p .any,.p .any,.p .any,.p (.int .i64 k)]++List.replicate 12 anyA,[],0⟩
def S112 (v:T_IntS) (x:Int) (k:Nat):St :=
  ⟨[inL v,.p (.int .i64 x)]++List.replicate 5 anyA++[.p (.int .i64 v.1),.p (.int .i64 k)]++List.replicate 10 anyA,[],0⟩
theorem p85a (v:T_IntS) (x:Int) :
    zT Tryz.f92 [rg 1,rg 1,.head] [inL v,.p (.int .i64 x)] [] (S85 v x 0) =
    some (zf89,[(AN v.1),(AP v.1 (iRw v)),(AI x),((0:Int)=(↑0:Int))]):=by kernel_rfl
theorem p85b (v:T_IntS) (x:Int) (k:Nat) :
    zM 0 [rg 4,.dec true,rg 6,.dec false,rg 3,.head] zf89 (S85 v x k) [] 1 (S85 v x (k+1)) =
    some (zf89,[((decide ((↑k:Int)<(↑v.1:Int)))=true),(IL 0 (↑k:Int)),(IT (↑k:Int) (↑v.1:Int)),((v.2 k==x)=false),(ZLo ((↑k:Int)+1)),(ZHi ((↑k:Int)+1)),(AN v.1),(AP v.1 (iRw v)),(AI x),((((↑k:Int)+1):Int)=(↑(k+1):Int))]):=by kernel_rfl
theorem p85c (v:T_IntS) (x:Int) (k:Nat) :
    zP Tryz.f92 0 [rg 4,.dec true,rg 6,.dec true,rg 1] zf89 (S85 v x k) [] 1 [] (.p (.bool true)) =
    some [((decide ((↑k:Int)<(↑v.1:Int)))=true),(IL 0 (↑k:Int)),(IT (↑k:Int) (↑v.1:Int)),((v.2 k==x)=true),(true=true)]:=by kernel_rfl
theorem p85d (v:T_IntS) (x:Int) (k:Nat) :
    zP Tryz.f92 0 [rg 4,.dec false,rg 1] zf89 (S85 v x k) [] 1 [] (.p (.bool false)) =
    some [((decide ((↑k:Int)<(↑v.1:Int)))=false),(false=false)]:=by kernel_rfl
theorem p112a (v:T_IntS) (x:Int) :
    zT Tryz.f187 [rg 1,rg 3,.head] [inL v,.p (.int .i64 x)] [] (S112 v x 0) =
    some (zf81,[(AN v.1),(AP v.1 (iRw v)),(AI x),(AI ((↑v.1:Int))),((0:Int)=(↑0:Int))]):=by kernel_rfl
theorem p112b (v:T_IntS) (x:Int) (k:Nat) :
    zM 0 [rg 1,.dec true,rg 2,rg 6,.dec false,rg 2,.head] zf81 (S112 v x k) [] 1 (S112 v x (k+1)) =
    some (zf81,[((decide ((↑k:Int)<(↑v.1:Int)))=true),(IL 0 (↑k:Int)),(IT (↑k:Int) (↑v.1:Int)),((x==v.2 k)=false),(ZLo ((↑k:Int)+1)),(ZHi ((↑k:Int)+1)),(AN v.1),(AP v.1 (iRw v)),(AI x),(AI ((↑v.1:Int))),((((↑k:Int)+1):Int)=(↑(k+1):Int))]):=by kernel_rfl
theorem p112c (v:T_IntS) (x:Int) (k:Nat) :
    zP Tryz.f187 0 [rg 1,.dec true,rg 2,rg 6,.dec true,rg 2] zf81 (S112 v x k) [] 1 [] (.p (.int .i64 k)) =
    some [((decide ((↑k:Int)<(↑v.1:Int)))=true),(IL 0 (↑k:Int)),(IT (↑k:Int) (↑v.1:Int)),((x==v.2 k)=true),(AI ((↑k:Int)))]:=by kernel_rfl
theorem p112d (v:T_IntS) (x:Int) (k:Nat) :
    zP Tryz.f187 0 [rg 1,.dec false,rg 1] zf81 (S112 v x k) [] 1 [] (.p (.int .i64 (-1))) =
    some [((decide ((↑k:Int)<(↑v.1:Int)))=false),(AI ((-1)))]:=by kernel_rfl
theorem p90 (v:T_IntS) (x r:Int) :
    zS Tryz.f144 [rg 1,rm [(2,oc [] (.p (.int .i64 r)))] 2] [inL v,.p (.int .i64 x)] [] [] (.p (.bool (decide (r≥0)))) =
    some [zE 187 [.p (.seq true 1 v.1 (iRw v)),.p (.int .i64 x)] [] (.p (.int .i64 r)),((decide (r≥0))=(decide (r≥0)))]:=by kernel_rfl
theorem hasI_hit (g:Nat→Int) (x:Int) (k:Nat) (h:(g k==x)=true):∀ n,k<n→hasI g x n=true
  | 0,h'=>by omega
  | n+1,h'=>by
    by_cases e:k=n
    · subst e;simp [hasI,h]
    · simp [hasI,hasI_hit g x k h n (by omega)]
theorem con_l2Has (v:T_IntS) (x:Int) (hn:v.1≤1048576):zE 92 [inL v,.p (.int .i64 x)] [] (.p (.bool (hasI v.2 x v.1))):=by
  refine csZ Tryz.func92 (fun c hc=>?_)
  have lp:∀ m k,k+m=v.1→hasI v.2 x k=false→zR c 92 zf89 (S85 v x k) (Post c [] (.p (.bool (hasI v.2 x v.1)))):=by
    intro m
    induction m with
    | zero =>
      intro k hk hg
      rw [show hasI v.2 x v.1=false by rw [show v.1=k by omega];exact hg]
      have hd:decide ((k:Int)<(v.1:Int))=false:=by simp;omega
      refine pkZ Tryz.func92 hc (p85d v x k) ?_
      and_intros
      all_goals (first | exact zN)
    | succ m ih =>
      intro k hk hg
      have hd:decide ((k:Int)<(v.1:Int))=true:=by simp;omega
      cases he:(v.2 k==x) with
      | true =>
        rw [hasI_hit v.2 x k he v.1 (by omega)]
        refine pkZ Tryz.func92 hc (p85c v x k) ?_
        and_intros
        all_goals (first | exact zN | (exact he))
      | false =>
        refine pcZ hc (p85b v x k) ?_ (ih (k+1) (by omega) (by simp only [hasI,hg,he];rfl))
        and_intros
        all_goals (first | exact zN | (exact he))
  refine pcZ hc (p85a v x) ?_ (lp v.1 0 (by omega) rfl)
  and_intros
  all_goals (first | exact zN)
theorem con_Index (v:T_IntS) (x:Int) (hn:v.1≤1048576):∃ r:Int,decide (r≥0)=hasI v.2 x v.1∧zE 187 [inL v,.p (.int .i64 x)] [] (.p (.int .i64 r)):=by
  have key:(∃ k,k<v.1∧hasI v.2 x k=false∧(v.2 k==x)=true)∨hasI v.2 x v.1=false:=by
    have gen:∀ n,(∃ k,k<n∧hasI v.2 x k=false∧(v.2 k==x)=true)∨hasI v.2 x n=false:=by
      intro n
      induction n with
      | zero=>exact .inr rfl
      | succ n ih =>
        rcases ih with ⟨k,h1,h2⟩ | h
        · exact .inl ⟨k,by omega,h2⟩
        · cases he:(v.2 n==x) with
          | true=>exact .inl ⟨n,by omega,h,he⟩
          | false=>exact .inr (by simp only [hasI,h,he];rfl)
    exact gen v.1
  rcases key with ⟨q,hq,hq1,hq2⟩ | hno
  · refine ⟨(q:Int),by rw [hasI_hit v.2 x q hq2 v.1 hq];simp,?_⟩
    refine csZ Tryz.func187 (fun c hc=>?_)
    have lp:∀ m k,k+m=q→zR c 187 zf81 (S112 v x k) (Post c [] (.p (.int .i64 (q:Int)))):=by
      intro m
      induction m with
      | zero =>
        intro k hk
        obtain rfl:k=q:=by omega
        have hd:decide ((k:Int)<(v.1:Int))=true:=by simp;omega
        have he:(x==v.2 k)=true:=by rw [beq_iff_eq] at hq2 ⊢;exact hq2.symm
        refine pkZ Tryz.func187 hc (p112c v x k) ?_
        and_intros
        all_goals (first | exact zN | (exact he))
      | succ m ih =>
        intro k hk
        have hd:decide ((k:Int)<(v.1:Int))=true:=by simp;omega
        have he:(x==v.2 k)=false:=by
          cases h:(v.2 k==x) with
          | true=>rw [hasI_hit v.2 x k h q (by omega)] at hq1;cases hq1
          | false =>
            simp only [beq_eq_false_iff_ne,ne_eq] at h ⊢
            exact fun e=>h e.symm
        refine pcZ hc (p112b v x k) ?_ (ih (k+1) (by omega))
        and_intros
        all_goals (first | exact zN | (exact he))
    refine pcZ hc (p112a v x) ?_ (lp q 0 (by omega))
    and_intros
    all_goals (first | exact zN)
  · refine ⟨-1,by rw [hno];rfl,?_⟩
    refine csZ Tryz.func187 (fun c hc=>?_)
    have lp:∀ m k,k+m=v.1→zR c 187 zf81 (S112 v x k) (Post c [] (.p (.int .i64 (-1)))):=by
      intro m
      induction m with
      | zero =>
        intro k hk
        have hd:decide ((k:Int)<(v.1:Int))=false:=by simp;omega
        refine pkZ Tryz.func187 hc (p112d v x k) ?_
        and_intros
        all_goals (first | exact zN)
      | succ m ih =>
        intro k hk
        have hd:decide ((k:Int)<(v.1:Int))=true:=by simp;omega
        have he:(x==v.2 k)=false:=by
          cases h:(v.2 k==x) with
          | true=>rw [hasI_hit v.2 x k h v.1 (by omega)] at hno;cases hno
          | false =>
            simp only [beq_eq_false_iff_ne,ne_eq] at h ⊢
            exact fun e=>h e.symm
        refine pcZ hc (p112b v x k) ?_ (ih (k+1) (by omega))
        and_intros
        all_goals (first | exact zN | (exact he))
    refine pcZ hc (p112a v x) ?_ (lp v.1 0 (by omega))
    and_intros
    all_goals (first | exact zN)
theorem con_Contains (v:T_IntS) (x:Int) (hn:v.1≤1048576):zE 144 [inL v,.p (.int .i64 x)] [] (.p (.bool (hasI v.2 x v.1))):=by
  obtain ⟨r,hr,hcon⟩:=con_Index v x hn
  rw [← hr]
  refine csZ Tryz.func144 (fun c hc=>?_)
  refine pkZ Tryz.func144 hc (p90 v x r) ?_
  and_intros
  all_goals (first | exact zN | (exact hcon))
open Go Go.Sort
def brX (a b:Int):T_Bar:=(if b<a then b else a,if b>a then b else a,())
def difN (N:Int) (s:Nat→Int) (k:Nat):Bool:=bif !inB (s k) 0 (N - 1) then true else hasI s (s k) k
def difZ (N:Int) (s:Nat→Int) (k:Nat):Bool:=bif bif decide (s k<0) then true else decide (s k≥N) then true else hasI s (s k) k
def okD (N:Int) (s:Nat→Int):Nat→Bool
  | 0=>true
  | k+1=>okD N s k&&!difN N s k
def SDi (v:T_Graph) (u:T_IntS) (k:Nat):St :=
  ⟨[graphA v,inL u,.pt 2 0 0 0,.p .any,.p (.bool false),.p .any,.p .any,inL u,.p (.int .i64 u.1),.p (.int .i64 k)]++List.replicate 16 anyA,[(0,boxG v)],1⟩
def SDs (v:T_Graph) (u:T_IntS) (k:Nat):St :=
  ⟨[graphA v,inL u,.pt 2 0 0 0,.p .any,.p (.bool false),.p (.int .i64 k)]++List.replicate 30 anyA,[(0,boxG v)],1⟩
def rnD (g:Nat→T_Bar) (s:Nat→Int) (i:Nat):T_Bar:=brX (s (g i).1.toNat) (s (g i).2.1.toNat)
def zG2:Ob:=⟨true,2,1,fun _=>[.p (.int .i64 0),.p .nil]⟩
def SRi (v:T_Graph) (u:T_IntS) (k:Nat) (h:Nat→T_Bar):St :=
  ⟨[graphA v,inL u,.pt 2 0 0 0,.p .any,.pt 2 1 0 0,.p (.bool false),.pt 2 2 0 0]++List.replicate 23 anyA++[graphL v.2.1,.p (.int .i64 v.2.1.1),.p (.int .i64 k)]++List.replicate 24 anyA,
   [(0,boxG v),(1,zG2),(2,⟨true,2,1,fun _=>[.p (.int .i64 v.1),.ar 2 3 0 k]⟩),(3,brOb k h)],4⟩
def SRs (v:T_Graph) (u:T_IntS) (k n:Nat) (h:Nat→T_Bar):St :=
  ⟨[graphA v,inL u,.pt 2 0 0 0,.p .any,.pt 2 1 0 0,.p (.bool false),.pt 2 2 0 0,.p (.int .i64 k)]++List.replicate 58 anyA,
   [(0,boxG v),(1,zG2),(2,⟨true,2,1,fun _=>[.p (.int .i64 v.1),.ar 2 3 0 n]⟩),(3,brOb n h)],4⟩
theorem dBar (a b:Int) :
    zS Tryz.f106 [rg 1,rg 8] [.p (.int .i64 a),.p (.int .i64 b)] [] [] (.agg [.p (.int .i64 (if b<a then b else a)),.p (.int .i64 (if b>a then b else a))]) =
    some [(NT 0 1),((true=true)→ (AN 1)),(NT 0 1),(((if false=true then if b>a then b else a else if b<a then b else a):Int)=(if b<a then b else a)),(((if true=true then if b>a then b else a else if b<a then b else a):Int)=(if b>a then b else a))]:=by kernel_rfl
theorem dHas (v:T_Graph) (p:Int) :
    zS Tryz.f148 [rg 2,rm [(4,oc [] (.p (.bool (inB p 0 (v.1 - 1)))))] 1] [graphA v,.p (.int .i64 p)] [] [] (.p (.bool (inB p 0 (v.1 - 1)))) =
    some [(NT 0 1),(ZLo (v.1 - 1)),(ZHi (v.1 - 1)),zE 90 [.p (.int .i64 p),.p (.int .i64 0),.p (.int .i64 (v.1 - 1))] [] (.p (.bool (inB p 0 (v.1 - 1)))),((inB p 0 (v.1 - 1))=(inB p 0 (v.1 - 1)))]:=by kernel_rfl
theorem dDa (v:T_Graph) (u:T_IntS) :
    zT Tryz.f131 [rg 2,rg 3,.head] [graphA v,inL u] [0] (SDi v u 0) =
    some (zf82,zD [(AI v.1),(AN v.2.1.1),(AP v.2.1.1 (bRw v.2.1.2)),(AN u.1),(AP u.1 (iRw u)),(AN 0),(false=false),(AI ((↑u.1:Int))),((0:Int)=(↑0:Int)),((([AV.p (PV.int IntKind.i64 v.1),graphL v.2.1].length):Nat)=2),(NL 1 1)] [0,1,2,3,4,5,6,3,4,7,8,9,10,10,0,1,2]):=by kernel_rfl
theorem dDb (v:T_Graph) (u:T_IntS) (k:Nat) :
    zM 0 [rg 1,.dec true,rg 5,rm [(2,oc [] (.p (.bool (inB (u.2 k) 0 (v.1 - 1))))),(6,oc [] (.p (.bool (hasI u.2 (u.2 k) k))))] 1,.dec false,rg 2,.head] zf82 (SDi v u k) [0] 1 (SDi v u (k+1)) =
    some (zf82,zD [((decide ((↑k:Int)<(↑u.1:Int)))=true),(IL 0 (↑k:Int)),(IT (↑k:Int) (↑u.1:Int)),(NT 0 1),zE 148 [(zf96 v),.p (.int .i64 (u.2 k))] [] (.p (.bool (inB (u.2 k) 0 (v.1 - 1)))),(AG (!!inB (u.2 k) 0 (v.1 - 1))),(((!!inB (u.2 k) 0 (v.1 - 1))=true)→(IL 0 0)),(((!!inB (u.2 k) 0 (v.1 - 1))=true)→(IL 0 (↑k:Int))),(((!!inB (u.2 k) 0 (v.1 - 1))=true)→(IL (↑k:Int) (↑u.1:Int))),(((!!inB (u.2 k) 0 (v.1 - 1))=true)→ zE 144 [.p (.seq true 1 k (iRw u)),.p (.int .i64 (u.2 k))] [] (.p (.bool (hasI u.2 (u.2 k) k)))),(((!inB (u.2 k) 0 (v.1 - 1))=false)→ ((!!inB (u.2 k) 0 (v.1 - 1))=true)),((bif !inB (u.2 k) 0 (v.1 - 1) then true else hasI u.2 (u.2 k) k)=false),(ZLo ((↑k:Int)+1)),(ZHi ((↑k:Int)+1)),(AI v.1),(AN v.2.1.1),(AP v.2.1.1 (bRw v.2.1.2)),(AN u.1),(AP u.1 (iRw u)),(AN 0),(false=false),(AI ((↑u.1:Int))),((((↑k:Int)+1):Int)=(↑(k+1):Int)),(AN 2),(NL 1 1)] [0,1,2,3,4,5,5,6,7,8,5,5,9,10,11,12,13,14,15,16,17,18,19,20,17,18,21,22,23,24,24,14,15,16]):=by kernel_rfl
theorem dDc (v:T_Graph) (u:T_IntS) (k:Nat) :
    zP Tryz.f131 0 [rg 1,.dec true,rg 5,rm [(2,oc [] (.p (.bool (inB (u.2 k) 0 (v.1 - 1))))),(6,oc [] (.p (.bool (hasI u.2 (u.2 k) k))))] 1,.dec true,rg 1] zf82 (SDi v u k) [] 1 [] (.p (.bool false)) =
    some (zD [((decide ((↑k:Int)<(↑u.1:Int)))=true),(IL 0 (↑k:Int)),(IT (↑k:Int) (↑u.1:Int)),(NT 0 1),zE 148 [(zf96 v),.p (.int .i64 (u.2 k))] [] (.p (.bool (inB (u.2 k) 0 (v.1 - 1)))),(AG (!!inB (u.2 k) 0 (v.1 - 1))),(((!!inB (u.2 k) 0 (v.1 - 1))=true)→(IL 0 0)),(((!!inB (u.2 k) 0 (v.1 - 1))=true)→(IL 0 (↑k:Int))),(((!!inB (u.2 k) 0 (v.1 - 1))=true)→(IL (↑k:Int) (↑u.1:Int))),(((!!inB (u.2 k) 0 (v.1 - 1))=true)→ zE 144 [.p (.seq true 1 k (iRw u)),.p (.int .i64 (u.2 k))] [] (.p (.bool (hasI u.2 (u.2 k) k)))),(((!inB (u.2 k) 0 (v.1 - 1))=false)→ ((!!inB (u.2 k) 0 (v.1 - 1))=true)),((bif !inB (u.2 k) 0 (v.1 - 1) then true else hasI u.2 (u.2 k) k)=true),(false=false)] [0,1,2,3,4,5,5,6,7,8,5,5,9,10,11,12]):=by kernel_rfl
theorem dDd (v:T_Graph) (u:T_IntS) (k:Nat) :
    zP Tryz.f131 0 [rg 1,.dec false,rg 1] zf82 (SDi v u k) [] 1 [] (.p (.bool true)) =
    some [((decide ((↑k:Int)<(↑u.1:Int)))=false),(true=true)]:=by kernel_rfl
theorem dPa (v:T_Graph) (u:T_IntS) :
    zT Tryz.f135 [rg 2,rg 1,.head] [graphA v,inL u] [0] (SDs v u 0) =
    some (zf83,zD [(AI v.1),(AN v.2.1.1),(AP v.2.1.1 (bRw v.2.1.2)),(AN u.1),(AP u.1 (iRw u)),(AN 0),(false=false),((0:Int)=(↑0:Int)),((([AV.p (PV.int IntKind.i64 v.1),graphL v.2.1].length):Nat)=2),(NL 1 1)] [0,1,2,3,4,5,6,7,8,9,9,0,1,2]):=by kernel_rfl
theorem dPb (v:T_Graph) (u:T_IntS) (k:Nat) :
    zM 0 [rg 4,.dec true,rm [(22,oc [] (.p (.bool (hasI u.2 (u.2 k) k))))] 1,.dec false,rg 3,.head] zf83 (SDs v u k) [0] 1 (SDs v u (k+1)) =
    some (zf83,zD [((decide ((↑k:Int)<(↑u.1:Int)))=true),(IL 0 (↑k:Int)),(IT (↑k:Int) (↑u.1:Int)),(AG (!decide (u.2 (↑k:Int).toNat<0))),(((!decide (u.2 (↑k:Int).toNat<0))=true)→(IL 0 (↑k:Int))),(((!decide (u.2 (↑k:Int).toNat<0))=true)→(IT (↑k:Int) (↑u.1:Int))),(((!decide (u.2 (↑k:Int).toNat<0))=true)→(NT 0 1)),(((decide (u.2 (↑k:Int).toNat<0))=false)→ ((!decide (u.2 (↑k:Int).toNat<0))=true)),(AG (!bif decide (u.2 (↑k:Int).toNat<0) then true else decide (u.2 (↑k:Int).toNat≥v.1))),(((!bif decide (u.2 (↑k:Int).toNat<0) then true else decide (u.2 (↑k:Int).toNat≥v.1))=true)→(IL 0 0)),(((!bif decide (u.2 (↑k:Int).toNat<0) then true else decide (u.2 (↑k:Int).toNat≥v.1))=true)→(IL 0 (↑k:Int))),(((!bif decide (u.2 (↑k:Int).toNat<0) then true else decide (u.2 (↑k:Int).toNat≥v.1))=true)→(IL (↑k:Int) (↑u.1:Int))),(((!bif decide (u.2 (↑k:Int).toNat<0) then true else decide (u.2 (↑k:Int).toNat≥v.1))=true)→(IT (↑k:Int) (↑u.1:Int))),(((!bif decide (u.2 (↑k:Int).toNat<0) then true else decide (u.2 (↑k:Int).toNat≥v.1))=true)→ zE 92 [.p (.seq true 1 k (iRw u)),.p (.int .i64 (u.2 k))] [] (.p (.bool (hasI u.2 (u.2 k) k)))),(((bif decide (u.2 (↑k:Int).toNat<0) then true else decide (u.2 (↑k:Int).toNat≥v.1))=false)→ ((!bif decide (u.2 (↑k:Int).toNat<0) then true else decide (u.2 (↑k:Int).toNat≥v.1))=true)),((bif bif decide (u.2 (↑k:Int).toNat<0) then true else decide (u.2 (↑k:Int).toNat≥v.1) then true else hasI u.2 (u.2 k) k)=false),(ZLo ((↑k:Int)+1)),(ZHi ((↑k:Int)+1)),(AI v.1),(AN v.2.1.1),(AP v.2.1.1 (bRw v.2.1.2)),(AN u.1),(AP u.1 (iRw u)),(AN 0),(false=false),((((↑k:Int)+1):Int)=(↑(k+1):Int)),(AN 2),(NL 1 1)] [0,1,2,3,3,4,5,3,3,6,3,3,7,8,8,9,10,11,8,8,10,12,8,8,8,13,14,15,16,17,18,19,20,21,22,23,24,25,26,27,27,18,19,20]):=by kernel_rfl
theorem dPc (v:T_Graph) (u:T_IntS) (k:Nat) :
    zP Tryz.f135 0 [rg 4,.dec true,rm [(22,oc [] (.p (.bool (hasI u.2 (u.2 k) k))))] 1,.dec true,rg 1] zf83 (SDs v u k) [] 1 [] (.p (.bool false)) =
    some (zD [((decide ((↑k:Int)<(↑u.1:Int)))=true),(IL 0 (↑k:Int)),(IT (↑k:Int) (↑u.1:Int)),(AG (!decide (u.2 (↑k:Int).toNat<0))),(((!decide (u.2 (↑k:Int).toNat<0))=true)→(IL 0 (↑k:Int))),(((!decide (u.2 (↑k:Int).toNat<0))=true)→(IT (↑k:Int) (↑u.1:Int))),(((!decide (u.2 (↑k:Int).toNat<0))=true)→(NT 0 1)),(((decide (u.2 (↑k:Int).toNat<0))=false)→ ((!decide (u.2 (↑k:Int).toNat<0))=true)),(AG (!bif decide (u.2 (↑k:Int).toNat<0) then true else decide (u.2 (↑k:Int).toNat≥v.1))),(((!bif decide (u.2 (↑k:Int).toNat<0) then true else decide (u.2 (↑k:Int).toNat≥v.1))=true)→(IL 0 0)),(((!bif decide (u.2 (↑k:Int).toNat<0) then true else decide (u.2 (↑k:Int).toNat≥v.1))=true)→(IL 0 (↑k:Int))),(((!bif decide (u.2 (↑k:Int).toNat<0) then true else decide (u.2 (↑k:Int).toNat≥v.1))=true)→(IL (↑k:Int) (↑u.1:Int))),(((!bif decide (u.2 (↑k:Int).toNat<0) then true else decide (u.2 (↑k:Int).toNat≥v.1))=true)→(IT (↑k:Int) (↑u.1:Int))),(((!bif decide (u.2 (↑k:Int).toNat<0) then true else decide (u.2 (↑k:Int).toNat≥v.1))=true)→ zE 92 [.p (.seq true 1 k (iRw u)),.p (.int .i64 (u.2 k))] [] (.p (.bool (hasI u.2 (u.2 k) k)))),(((bif decide (u.2 (↑k:Int).toNat<0) then true else decide (u.2 (↑k:Int).toNat≥v.1))=false)→ ((!bif decide (u.2 (↑k:Int).toNat<0) then true else decide (u.2 (↑k:Int).toNat≥v.1))=true)),((bif bif decide (u.2 (↑k:Int).toNat<0) then true else decide (u.2 (↑k:Int).toNat≥v.1) then true else hasI u.2 (u.2 k) k)=true),(false=false)] [0,1,2,3,3,4,5,3,3,6,3,3,7,8,8,9,10,11,8,8,10,12,8,8,8,13,14,15,16]):=by kernel_rfl
theorem dPd (v:T_Graph) (u:T_IntS) (k:Nat) :
    zP Tryz.f135 0 [rg 4,.dec false,rg 1] zf83 (SDs v u k) [] 1 [] (.p (.bool true)) =
    some [((decide ((↑k:Int)<(↑u.1:Int)))=false),(true=true)]:=by kernel_rfl
theorem dRy (v:T_Graph) (u:T_IntS) (b1 b3:Bool) :
    zS Tryz.f60 [rg 3,rm [(1,oc [] (.p (.bool b1))),(11,oc [] (.p (.bool b3)))] 2,.dec true,rg 3] [graphA v,inL u] [] [(0,brOb 0 (fun _=>(0,0,())))] (zf117) =
    some (zD [(NT 0 1),zE 130 [(zf96 v)] [] (.p (.bool b1)),(AG (!!b1)),(((!!b1)=true)→(NT 0 1)),(((!b1)=false)→ ((!!b1)=true)),(((!bif !b1 then true else (↑u.1:Int) != v.1)=true)→(NT 0 1)),(AG (!bif !b1 then true else (↑u.1:Int) != v.1)),(((!bif !b1 then true else (↑u.1:Int) != v.1)=true)→ zE 131 [(zf96 v),.p (.seq true 1 u.1 (iRw u))] [] (.p (.bool b3))),(((bif !b1 then true else (↑u.1:Int) != v.1)=false)→ ((!bif !b1 then true else (↑u.1:Int) != v.1)=true)),((bif bif !b1 then true else (↑u.1:Int) != v.1 then true else !b3)=true),((true=true)→ (AN 1)),(AI 0),(AN 0),(false=false),(AE 0)] [0,1,2,2,3,2,2,4,5,6,6,7,6,8,9,0,10,0,11,12,13,12,14]):=by kernel_rfl
theorem dRz (v:T_Graph) (u:T_IntS) (b1 b3:Bool) :
    zT Tryz.f60 [rg 3,rm [(1,oc [] (.p (.bool b1))),(11,oc [] (.p (.bool b3)))] 2,.dec false,rg 5,rg 4,.head] [graphA v,inL u] [0,32,704] (SRi v u 0 (fun _=>(0,0,()))) =
    some (zf54,zD [(NT 0 1),zE 130 [(zf96 v)] [] (.p (.bool b1)),(AG (!!b1)),(((!!b1)=true)→(NT 0 1)),(((!b1)=false)→ ((!!b1)=true)),(((!bif !b1 then true else (↑u.1:Int) != v.1)=true)→(NT 0 1)),(AG (!bif !b1 then true else (↑u.1:Int) != v.1)),(((!bif !b1 then true else (↑u.1:Int) != v.1)=true)→ zE 131 [(zf96 v),.p (.seq true 1 u.1 (iRw u))] [] (.p (.bool b3))),(((bif !b1 then true else (↑u.1:Int) != v.1)=false)→ ((!bif !b1 then true else (↑u.1:Int) != v.1)=true)),((bif bif !b1 then true else (↑u.1:Int) != v.1 then true else !b3)=false),((true=true)→ (AN 1)),(AI v.1),(AN v.2.1.1),(AP v.2.1.1 (bRw v.2.1.2)),(AN u.1),(AP u.1 (iRw u)),(AN 0),(false=false),(AI ((↑v.2.1.1:Int))),((0:Int)=(↑0:Int)),((([AV.p (PV.int IntKind.i64 v.1),graphL v.2.1].length):Nat)=2),(NL 1 1),((((List.map (fun v=>AV.p (absV v)) [Value.int IntKind.i64 0,Value.slice none 0 0]).length):Nat)=2),(AI 0)] [0,1,2,2,3,2,2,4,5,6,6,7,6,8,9,0,0,10,0,11,12,13,14,15,16,16,17,16,12,13,18,19,20,21,21,11,12,13,22,21,21,23,22,21,21,11,16,16]):=by kernel_rfl
theorem dRa (v:T_Graph) (u:T_IntS) (k:Nat) (h:Nat→T_Bar) (x:T_Bar) :
    zM 0 [rg 1,.dec true,rg 4,rm [(12,oc [] (.agg [.p (.int .i64 x.1),.p (.int .i64 x.2.1)]))] 4,rg 2,.head] zf54 (SRi v u k h) [0,1,2,612] 1 (SRi v u (k+1) (snoc k h x)) =
    some (zf54,zD [((decide ((↑k:Int)<(↑v.2.1.1:Int)))=true),(IL 0 (↑k:Int)),(IT (↑k:Int) (↑v.2.1.1:Int)),(NT 0 1),((true=true)→ (AN 1)),(IL 0 ((v.2.1.2 k).1)),(IT ((v.2.1.2 k).1) (↑u.1:Int)),(IL 0 ((v.2.1.2 k).2.1)),(IT ((v.2.1.2 k).2.1) (↑u.1:Int)),zE 106 [.p (.int .i64 (u.2 (v.2.1.2 k).1.toNat)),.p (.int .i64 (u.2 (v.2.1.2 k).2.1.toNat))] [] (.agg [.p (.int .i64 x.1),.p (.int .i64 x.2.1)]),(NL 1 1),(NL k k),(NL ((k+1)*16) 140737488355328),(NL (k+1) 9223372036854775807),(ZLo ((↑k:Int)+1)),(ZHi ((↑k:Int)+1)),(AI v.1),(AN v.2.1.1),(AP v.2.1.1 (bRw v.2.1.2)),(AN u.1),(AP u.1 (iRw u)),(AN 0),(false=false),(AI ((↑v.2.1.1:Int))),((((↑k:Int)+1):Int)=(↑(k+1):Int)),(AN 2),(AI 0),(AN ((k+1))),(NL (k+1) (k+1)),(CV [(2,⟨true,2,1,(fun i_1=>[.p (.int .i64 v.1),.ar 2 612 0 (k+1)])⟩),(612,⟨false,2,(k+1),(fun i_1=>(if (i_1<k) then [.p (.int .i64 ((h i_1).1)),.p (.int .i64 ((h i_1).2.1))] else [.p (.int .i64 x.1),.p (.int .i64 x.2.1)]))⟩),(580,⟨false,2,1,(fun i_1=>[.p (.int .i64 x.1),.p (.int .i64 x.2.1)])⟩),(100,⟨true,2,1,(fun i_1=>[.p (.int .i64 ((v.2.1.2 k).1)),.p (.int .i64 ((v.2.1.2 k).2.1))])⟩),(0,⟨true,2,1,(fun i_1=>[.p (.int .i64 v.1),.p (.seq true 2 v.2.1.1 (bRw v.2.1.2))])⟩),(1,⟨true,2,1,(fun i_1=>[.p (.int .i64 0),.p (.nil)])⟩)] [0,1,2,612] 1 (k+1) (fun i=>if (i<k) then [.p (.int .i64 ((h i).1)),.p (.int .i64 ((h i).2.1))] else [.p (.int .i64 x.1),.p (.int .i64 x.2.1)]) (fun i=>[.p (.int .i64 (if i<k then (h i).1 else x.1)),.p (.int .i64 (if i<k then (h i).2.1 else x.2.1))]))] [0,1,2,3,4,3,3,5,6,3,7,8,9,10,11,12,13,3,4,14,15,16,17,18,19,20,21,21,22,21,17,18,23,24,25,10,10,16,17,18,25,10,10,26,25,10,10,16,21,27,25,28,29]):=by kernel_rfl
theorem dRb (v:T_Graph) (u:T_IntS) (k:Nat) (h r:Nat→T_Bar) :
    zP Tryz.f60 0 [rg 1,.dec false,rm [(2,oq [3] [(0,brOb k r)] (.tup []))] 0,rg 3] zf54 (SRi v u k h) [3] 1 [(0,brOb k r)] (.tup [.agg [.p (.int .i64 v.1),.ar 2 0 0 k],.p (.bool true)]) =
    some [((decide ((↑k:Int)<(↑v.2.1.1:Int)))=false),(NT 0 1),(AE k),Con Tryz.prog 132 1 (zf107 k h) [.ar 2 0 0 k,.p (.fn 133)] (zf107 k r) (.tup []),(NT 0 1),(NT 0 1),((true=true)→ (AN 1)),(NT 0 1),(AI v.1),(AN 0),(AN k),(true=true),(AN 2),(NL k k),(AA k (fun i=>[.p (.int .i64 ((r i).1)),.p (.int .i64 ((r i).2.1))])),(AE k)]:=by kernel_rfl
theorem dSy (v:T_Graph) (u:T_IntS) (b1 b3:Bool) :
    zS Tryz.f61 [rg 3,rm [(1,oc [] (.p (.bool b1))),(11,oc [] (.p (.bool b3)))] 2,.dec true,rg 3] [graphA v,inL u] [] [(0,brOb 0 (fun _=>(0,0,())))] (zf117) =
    some (zD [(NT 0 1),zE 134 [(zf96 v)] [] (.p (.bool b1)),(AG (!!b1)),(((!!b1)=true)→(NT 0 1)),(((!b1)=false)→ ((!!b1)=true)),(((!bif !b1 then true else (↑u.1:Int) != v.1)=true)→(NT 0 1)),(AG (!bif !b1 then true else (↑u.1:Int) != v.1)),(((!bif !b1 then true else (↑u.1:Int) != v.1)=true)→ zE 135 [(zf96 v),.p (.seq true 1 u.1 (iRw u))] [] (.p (.bool b3))),(((bif !b1 then true else (↑u.1:Int) != v.1)=false)→ ((!bif !b1 then true else (↑u.1:Int) != v.1)=true)),((bif bif !b1 then true else (↑u.1:Int) != v.1 then true else !b3)=true),((true=true)→ (AN 1)),(AI 0),(AN 0),(false=false),(AE 0)] [0,1,2,2,3,2,2,4,5,6,6,7,6,8,9,0,10,0,11,12,13,12,14]):=by kernel_rfl
theorem dSz (v:T_Graph) (u:T_IntS) (b1 b3:Bool) :
    zT Tryz.f61 [rg 3,rm [(1,oc [] (.p (.bool b1))),(11,oc [] (.p (.bool b3)))] 2,.dec false,rg 6,rg 1,.head] [graphA v,inL u] [0,32,736,672] (SRs v u 0 0 (fun _=>(0,0,()))) =
    some (zf55,zD [(NT 0 1),zE 134 [(zf96 v)] [] (.p (.bool b1)),(AG (!!b1)),(((!!b1)=true)→(NT 0 1)),(((!b1)=false)→ ((!!b1)=true)),(((!bif !b1 then true else (↑u.1:Int) != v.1)=true)→(NT 0 1)),(AG (!bif !b1 then true else (↑u.1:Int) != v.1)),(((!bif !b1 then true else (↑u.1:Int) != v.1)=true)→ zE 135 [(zf96 v),.p (.seq true 1 u.1 (iRw u))] [] (.p (.bool b3))),(((bif !b1 then true else (↑u.1:Int) != v.1)=false)→ ((!bif !b1 then true else (↑u.1:Int) != v.1)=true)),((bif bif !b1 then true else (↑u.1:Int) != v.1 then true else !b3)=false),((true=true)→ (AN 1)),(AI v.1),(AN v.2.1.1),(AP v.2.1.1 (bRw v.2.1.2)),(AN u.1),(AP u.1 (iRw u)),(AN 0),(false=false),((0:Int)=(↑0:Int)),((([AV.p (PV.int IntKind.i64 v.1),graphL v.2.1].length):Nat)=2),(NL 1 1),((((List.map (fun v=>AV.p (absV v)) [Value.int IntKind.i64 0,Value.slice none 0 0]).length):Nat)=2),(AI 0),(AN 2),(NL 0 0),(AA 0 (fun i=>[.p (.int .i64 0),.p (.int .i64 0)]))] [0,1,2,2,3,2,2,4,5,6,6,7,6,8,9,0,0,10,11,12,13,14,15,16,16,17,16,18,19,20,20,11,12,13,21,20,20,22,21,20,20,11,16,16,23,24,25]):=by kernel_rfl
theorem dSa (v:T_Graph) (u:T_IntS) (k n m:Nat) (h h':Nat→T_Bar) :
    zM 0 [rg 5,.dec true,rg 10,rg 10,rm [(8,oc [(0,brOb m h')] (.agg [.p (.int .i64 v.1),.ar 2 0 0 m]))] 1,rg 3,.head] zf55 (SRs v u k n h) [0,1,2,1060] 1 (SRs v u (k+1) m h') =
    some (zf55,zD [(NT 0 1),((decide ((↑k:Int)<(↑v.2.1.1:Int)))=true),(IL 0 (↑k:Int)),(IT (↑k:Int) (↑v.2.1.1:Int)),(IL 0 ((v.2.1.2 k).1)),(IT ((v.2.1.2 k).1) (↑u.1:Int)),(IL 0 ((v.2.1.2 k).2.1)),(IT ((v.2.1.2 k).2.1) (↑u.1:Int)),(AN 2),(NL n n),zE 136 [.agg [.p (.int .i64 v.1),.p (.seq true 2 n (bRw h))],.agg [.p (.int .i64 (if false=true then if u.2 (v.2.1.2 k).2.1.toNat>u.2 (v.2.1.2 k).1.toNat then u.2 (v.2.1.2 k).2.1.toNat else u.2 (v.2.1.2 k).1.toNat else if u.2 (v.2.1.2 k).2.1.toNat<u.2 (v.2.1.2 k).1.toNat then u.2 (v.2.1.2 k).2.1.toNat else u.2 (v.2.1.2 k).1.toNat)),.p (.int .i64 (if true=true then if u.2 (v.2.1.2 k).2.1.toNat>u.2 (v.2.1.2 k).1.toNat then u.2 (v.2.1.2 k).2.1.toNat else u.2 (v.2.1.2 k).1.toNat else if u.2 (v.2.1.2 k).2.1.toNat<u.2 (v.2.1.2 k).1.toNat then u.2 (v.2.1.2 k).2.1.toNat else u.2 (v.2.1.2 k).1.toNat))]] (zf107 m h') (.agg [.p (.int .i64 v.1),.ar 2 0 0 m]),((true=true)→ (AN 1)),(ZLo ((↑k:Int)+1)),(ZHi ((↑k:Int)+1)),(AI v.1),(AN v.2.1.1),(AP v.2.1.1 (bRw v.2.1.2)),(AN u.1),(AP u.1 (iRw u)),(AN 0),(false=false),((((↑k:Int)+1):Int)=(↑(k+1):Int)),(NL 1 1),(AI 0),(AN m),(NL m m),(AA m (fun i=>[.p (.int .i64 ((h' i).1)),.p (.int .i64 ((h' i).2.1))]))] [0,1,0,2,3,4,5,0,2,3,6,7,0,8,9,10,0,11,12,13,14,15,16,17,18,19,19,20,19,21,8,22,22,14,15,16,8,22,22,23,8,22,22,14,19,24,8,25,26]):=by kernel_rfl
theorem dSb (v:T_Graph) (u:T_IntS) (k n:Nat) (h r:Nat→T_Bar) :
    zP Tryz.f61 0 [rg 5,.dec false,rg 3] zf55 (SRs v u k n h) [3] 1 [(0,brOb n r)] (.tup [.agg [.p (.int .i64 v.1),.ar 2 0 0 n],.p (.bool true)]) =
    some [(NT 0 1),((decide ((↑k:Int)<(↑v.2.1.1:Int)))=false),(NT 0 1),(NT 0 1),((true=true)→ (AN 1)),(NT 0 1),(AI v.1),(AN 0),(AN n),(true=true),(AN 2),(NL n n),(∀ i:Nat,(((i:Nat)<n)→(All []∧(([.p (.int .i64 ((h i).1)),.p (.int .i64 ((h i).2.1))]:List AV)=[.p (.int .i64 ((r i).1)),.p (.int .i64 ((r i).2.1))])))),(AE n)]:=by kernel_rfl
theorem con_barX (a b:Int):zE 106 [.p (.int .i64 a),.p (.int .i64 b)] [] (.agg [.p (.int .i64 (brX a b).1),.p (.int .i64 (brX a b).2.1)]):=by
  refine csZ Tryz.func106 (fun c hc=>?_)
  refine pkZ Tryz.func106 hc (dBar a b) ?_
  and_intros
  all_goals (first | exact zI | simp)
theorem con_hasX (v:T_Graph) (p:Int) (h1:1≤v.1) (h2:v.1≤8):zE 148 [graphA v,.p (.int .i64 p)] [] (.p (.bool (inB p 0 (v.1 - 1)))):=by
  refine csZ Tryz.func148 (fun c hc=>?_)
  refine pkZ Tryz.func148 hc (dHas v p) ?_
  and_intros
  all_goals (first | exact zN | (exact con_within _ _ _))
theorem difZ_N (N:Int) (s:Nat→Int) (k:Nat):difZ N s k=difN N s k:=by
  unfold difZ difN inB
  by_cases h1:s k<0
  · have:¬ 0≤s k:=by omega
    simp [h1,this]
  · have:0≤s k:=by omega
    by_cases h2:s k≥N
    · have h3:¬ s k≤N - 1:=by omega
      simp [h1,h2,h3]
    · have h3:s k≤N - 1:=by omega
      simp [h1,h2,h3,this]
theorem okD_bad (N:Int) (s:Nat→Int) (k:Nat) (h:difN N s k=true):∀ n,k<n→okD N s n=false
  | 0,h'=>absurd h' (Nat.not_lt_zero _)
  | n+1,h'=>by
    by_cases e:k=n
    · subst e;simp [okD,h]
    · simp [okD,okD_bad N s k h n (by omega)]
theorem okD_in {N:Int} {s:Nat→Int}:∀ {n:Nat},okD N s n=true→∀ k,k<n→0≤s k∧s k<N∧∀ j,j<k→s j≠s k
  | 0,_,k,hk=>absurd hk (Nat.not_lt_zero _)
  | n+1,h,k,hk=>by
    simp only [okD,Bool.and_eq_true,Bool.not_eq_true'] at h
    by_cases e:k=n
    · subst e
      have h2:=h.2
      unfold difN at h2
      cases hb:inB (s k) 0 (N - 1) with
      | false=>rw [hb] at h2;simp at h2
      | true =>
        rw [hb] at h2
        simp only [Bool.not_true,cond_false] at h2
        simp only [inB,Bool.and_eq_true,decide_eq_true_eq] at hb
        refine ⟨hb.1,by omega,fun j hj hjk=>?_⟩
        rw [hasI_hit s (s k) j (by simpa using hjk) k hj] at h2
        cases h2
    · exact okD_in h.1 k (by omega)
theorem con_areDifferent (v:T_Graph) (u:T_IntS) (h1:1≤v.1) (h2:v.1≤8) (hn:u.1≤1048576):zE 131 [graphA v,inL u] [] (.p (.bool (okD v.1 u.2 u.1))):=by
  refine csZ Tryz.func131 (fun c hc=>?_)
  have lp:∀ m k,k+m=u.1→okD v.1 u.2 k=true→zR c 131 zf82 (SDi v u k) (Post c [] (.p (.bool (okD v.1 u.2 u.1)))):=by
    intro m
    induction m with
    | zero =>
      intro k hk hg
      obtain rfl:k=u.1:=by omega
      have hd:decide (((u.1:Nat):Int)<(u.1:Int))=false:=by simp
      rw [hg]
      refine pkZ Tryz.func131 hc (dDd v u u.1) ?_
      and_intros
      all_goals (first | exact zN)
    | succ m ih =>
      intro k hk hg
      have hd:decide ((k:Int)<(u.1:Int))=true:=by simp;omega
      have c1:=con_hasX v (u.2 k) h1 h2
      have c2:=con_Contains (k,u.2) (u.2 k) (by show k≤1048576;omega)
      cases he:difN v.1 u.2 k with
      | true =>
        rw [okD_bad v.1 u.2 k he u.1 (by omega)]
        have he':(bif !inB (u.2 k) 0 (v.1 - 1) then true else hasI u.2 (u.2 k) k)=true:=he
        refine pkD Tryz.func131 hc (dDc v u k) ?_
        and_intros
        all_goals (first | exact zH | (exact c1) | (exact he') | (intro _;exact c2) | (intros;omega))
      | false =>
        have he':(bif !inB (u.2 k) 0 (v.1 - 1) then true else hasI u.2 (u.2 k) k)=false:=he
        refine pcD hc (dDb v u k) ?_ (ih (k+1) (by omega) (by simp only [okD,hg,he];rfl))
        and_intros
        all_goals (first | exact zH | (exact c1) | (exact he') | (intro _;exact c2) | (intros;omega) | (intro j hj;simp [All]))
  refine pcD hc (dDa v u) ?_ (lp u.1 0 (by omega) rfl)
  and_intros
  all_goals (first | exact zN | (intro j hj;simp [All]))
theorem con_l7Points (v:T_Graph) (u:T_IntS) (hn:u.1≤1048576):zE 135 [graphA v,inL u] [] (.p (.bool (okD v.1 u.2 u.1))):=by
  refine csZ Tryz.func135 (fun c hc=>?_)
  have lp:∀ m k,k+m=u.1→okD v.1 u.2 k=true→zR c 135 zf83 (SDs v u k) (Post c [] (.p (.bool (okD v.1 u.2 u.1)))):=by
    intro m
    induction m with
    | zero =>
      intro k hk hg
      obtain rfl:k=u.1:=by omega
      have hd:decide (((u.1:Nat):Int)<(u.1:Int))=false:=by simp
      rw [hg]
      refine pkZ Tryz.func135 hc (dPd v u u.1) ?_
      and_intros
      all_goals (first | exact zN)
    | succ m ih =>
      intro k hk hg
      have hd:decide ((k:Int)<(u.1:Int))=true:=by simp;omega
      have c2:=con_l2Has (k,u.2) (u.2 k) (by show k≤1048576;omega)
      have hz:=difZ_N v.1 u.2 k
      cases he:difN v.1 u.2 k with
      | true =>
        rw [okD_bad v.1 u.2 k he u.1 (by omega)]
        rw [he] at hz
        unfold difZ at hz
        refine pkD Tryz.func135 hc (dPc v u k) ?_
        and_intros
        all_goals (first | exact zH | (exact hz) | (intro _;exact c2) | (intros;omega))
      | false =>
        rw [he] at hz
        unfold difZ at hz
        refine pcD hc (dPb v u k) ?_ (ih (k+1) (by omega) (by simp only [okD,hg,he];rfl))
        and_intros
        all_goals (first | exact zH | (exact hz) | (intro _;exact c2) | (intros;omega) | (intro j hj;simp [All]))
  refine pcD hc (dPa v u) ?_ (lp u.1 0 (by omega) rfl)
  and_intros
  all_goals (first | exact zN | (intro j hj;simp [All]))
def rnB (v:T_Graph) (u:T_IntS):Bool:=isGraphF v&&((u.1:Int)==v.1&&okD v.1 u.2 u.1)
def rnG (v:T_Graph) (u:T_IntS):T_Graph:=if rnB v u=true then (v.1,(v.2.1.1,srtB v.2.1.1 (rnD v.2.1.2 u.2)),()) else (0,(0,fun _=>(0,0,())),())
theorem graph_inR {v:T_Graph} (h:isGraphF v=true):1≤v.1∧v.1≤8∧v.2.1.1≤24∧goodB v.1 v.2.1.2 v.2.1.1=true:=by
  unfold isGraphF at h
  split at h
  · rename_i h1
    simp only [inB,Bool.and_eq_true,decide_eq_true_eq] at h1
    exact ⟨h1.1.1,h1.1.2,h1.2,h⟩
  · cases h
theorem goodB_at {N:Int} {g:Nat→T_Bar}:∀ {n:Nat},goodB N g n=true→∀ k,k<n→0≤(g k).1∧(g k).1<(g k).2.1∧(g k).2.1<N∧(0<k→leB (g (k - 1)) (g k))
  | 0,_,k,hk=>absurd hk (Nat.not_lt_zero _)
  | n+1,h,k,hk=>by
    simp only [goodB,Bool.and_eq_true,Bool.not_eq_true'] at h
    by_cases e:k=n
    · subst e
      have h2:=h.2
      unfold badB at h2
      by_cases c1:(g k).1<0
      · simp [c1] at h2
      by_cases c2:(g k).1≥(g k).2.1
      · simp [c1,c2] at h2
      by_cases c3:(g k).2.1≥N
      · simp [c1,c2,c3] at h2
      refine ⟨by omega,by omega,by omega,fun h0=>?_⟩
      simp only [c1,c2,c3,decide_false,cond_false] at h2
      rw [decide_eq_true (show (k:Int)>0 by omega)] at h2
      simp only [cond_true,Bool.not_eq_false'] at h2
      rw [← aft_iff]
      rw [show ((k:Int) - 1).toNat=k - 1 by omega] at h2
      exact h2
    · exact goodB_at h.1 k (by omega)
theorem goodB_sorted {N:Int} {g:Nat→T_Bar} {n:Nat} (h:goodB N g n=true):(lstB n g).Pairwise leB:=by
  have step:=goodB_at h
  have htr:∀ {a b c:T_Bar},leB a b→leB b c→leB a c:=by
    intro a b c h1 h2
    have h1:=(leB_iff a b).1 h1
    have h2:=(leB_iff b c).1 h2
    exact (leB_iff a c).2 (by omega)
  have mono:∀ d i,i+d<n→leB (g i) (g (i+d)):=by
    intro d
    induction d with
    | zero=>intro i hi;show leB (g i) (g i);exact (leB_iff _ _).2 (by omega)
    | succ d ih=>intro i hi;exact htr (ih i (by omega)) ((step (i+(d+1)) hi).2.2.2 (by omega))
  rw [List.pairwise_iff_getElem]
  intro i j hi hj hij
  rw [lstB_len] at hi hj
  have:=mono (j - i) i (by omega)
  rw [show i+(j - i)=j by omega] at this
  simpa [lstB] using this
theorem sm_graph {v:T_Graph} (h:v.2.1.1≤1048576):smS s_Graph v:=⟨by simp [smS,smL],⟨h,fun i hi=>by simp [smS,smL]⟩,True.intro⟩
theorem con_Rename_i (v:T_Graph) (hs:smS s_Graph v) (u:T_IntS) (hn:u.1≤1048576) :
    zE 60 [graphA v,inL u] [(0,brOb (rnG v u).2.1.1 (rnG v u).2.1.2)] (.tup [.agg [.p (.int .i64 (rnG v u).1),.ar 2 0 0 (rnG v u).2.1.1],.p (.bool (rnB v u))]):=by
  refine csZ Tryz.func60 (fun c hc=>?_)
  have c1:=con_IsGraph_i v hs
  have c3:isGraphF v=true→zE 131 [graphA v,inL u] [] (.p (.bool (okD v.1 u.2 u.1))):=fun h=>by
    have:=graph_inR h
    exact con_areDifferent v u this.1 this.2.1 hn
  have c3':(!bif !isGraphF v then true else (u.1:Int) != v.1)=true→zE 131 [graphA v,inL u] [] (.p (.bool (okD v.1 u.2 u.1))):=fun h=>c3 (by
    cases hb:isGraphF v with
    | true=>rfl
    | false=>rw [hb] at h;simp at h)
  have hcd:(bif bif !isGraphF v then true else (u.1:Int) != v.1 then true else !okD v.1 u.2 u.1)=!rnB v u:=by
    unfold rnB
    cases isGraphF v<;>cases h:((u.1:Int)==v.1)<;>simp [bne,h]
  cases hb:rnB v u with
  | false =>
    rw [hb] at hcd
    have hcd':(bif bif !isGraphF v then true else (u.1:Int) != v.1 then true else !okD v.1 u.2 u.1)=true:=hcd
    rw [show rnG v u=(0,(0,fun _=>(0,0,())),()) by simp [rnG,hb]]
    refine pkD Tryz.func60 hc (dRy v u (isGraphF v) (okD v.1 u.2 u.1)) ?_
    and_intros
    all_goals (first | exact zH | (exact c1) | (exact c3') | (exact hcd') | (intro j hj;exact absurd hj (Nat.not_lt_zero _)) | (intro j hj;simp [All]))
  | true =>
    rw [hb] at hcd
    have hcd':(bif bif !isGraphF v then true else (u.1:Int) != v.1 then true else !okD v.1 u.2 u.1)=false:=hcd
    have hb':=hb
    simp only [rnB,Bool.and_eq_true,beq_iff_eq] at hb'
    obtain ⟨hg,hu,hok⟩:=hb'
    obtain ⟨g1,g2,g3,g4⟩:=graph_inR hg
    rw [show rnG v u=(v.1,(v.2.1.1,srtB v.2.1.1 (rnD v.2.1.2 u.2)),()) by simp [rnG,hb]]
    generalize hr:srtB v.2.1.1 (rnD v.2.1.2 u.2)=r
    have lp:∀ m k h,k+m=v.2.1.1→lstB k h=lstB k (rnD v.2.1.2 u.2)→zR c 60 zf54 (SRi v u k h) (Post c [(0,brOb v.2.1.1 r)] (.tup [.agg [.p (.int .i64 v.1),.ar 2 0 0 v.2.1.1],.p (.bool true)])):=by
      intro m
      induction m with
      | zero =>
        intro k h hk hh
        obtain rfl:k=v.2.1.1:=by omega
        have hd:decide ((v.2.1.1:Int)<(v.2.1.1:Int))=false:=by simp
        have hsort:=con_sortBars v.2.1.1 h (by omega)
        rw [show srtB v.2.1.1 h=srtB v.2.1.1 (rnD v.2.1.2 u.2) from funext (fun i=>by simp only [srtB,hh]),hr] at hsort
        refine pkZ Tryz.func60 hc (dRb v u v.2.1.1 h r) ?_
        and_intros
        all_goals (first | exact zI | (exact hsort) | (intro j hj;simp [All]))
      | succ m ih =>
        intro k h hk hh
        have hd:decide ((k:Int)<(v.2.1.1:Int))=true:=by simp;omega
        have hat:=goodB_at g4 k (by omega)
        have cb:=con_barX (u.2 (v.2.1.2 k).1.toNat) (u.2 (v.2.1.2 k).2.1.toNat)
        refine pcD hc (dRa v u k h (rnD v.2.1.2 u.2 k)) ?_ (ih (k+1) _ (by omega) (by rw [lstB_snoc,lstB_succ,hh]))
        and_intros
        all_goals (first | exact zI | (exact cb) | (intro j hj;by_cases h':j<k<;>simp [h',snoc,cvtL,cvt,tg,tru,All]))
    refine pcD hc (dRz v u (isGraphF v) (okD v.1 u.2 u.1)) ?_ (lp v.2.1.1 0 _ (by omega) (by simp [lstB,srtL]))
    and_intros
    all_goals (first | exact zH | (exact c1) | (exact c3') | (exact hcd') | (intro j hj;exact absurd hj (Nat.not_lt_zero _)) | (intro j hj;simp [All]))
theorem con_Rename_s (v:T_Graph) (hs:smS s_Graph v) (u:T_IntS) (hn:u.1≤1048576) :
    zE 61 [graphA v,inL u] [(0,brOb (rnG v u).2.1.1 (rnG v u).2.1.2)] (.tup [.agg [.p (.int .i64 (rnG v u).1),.ar 2 0 0 (rnG v u).2.1.1],.p (.bool (rnB v u))]):=by
  refine csZ Tryz.func61 (fun c hc=>?_)
  have c1:=con_IsGraph_s v hs
  have c3:=con_l7Points v u hn
  have hcd:(bif bif !isGraphF v then true else (u.1:Int) != v.1 then true else !okD v.1 u.2 u.1)=!rnB v u:=by
    unfold rnB
    cases isGraphF v<;>cases h:((u.1:Int)==v.1)<;>simp [bne,h]
  cases hb:rnB v u with
  | false =>
    rw [hb] at hcd
    have hcd':(bif bif !isGraphF v then true else (u.1:Int) != v.1 then true else !okD v.1 u.2 u.1)=true:=hcd
    rw [show rnG v u=(0,(0,fun _=>(0,0,())),()) by simp [rnG,hb]]
    refine pkD Tryz.func61 hc (dSy v u (isGraphF v) (okD v.1 u.2 u.1)) ?_
    and_intros
    all_goals (first | exact zH | (exact c1) | (intro _;exact c3) | (exact hcd') | (intro j hj;exact absurd hj (Nat.not_lt_zero _)) | (intro j hj;simp [All]))
  | true =>
    rw [hb] at hcd
    have hcd':(bif bif !isGraphF v then true else (u.1:Int) != v.1 then true else !okD v.1 u.2 u.1)=false:=hcd
    have hb':=hb
    simp only [rnB,Bool.and_eq_true,beq_iff_eq] at hb'
    obtain ⟨hg,hu,hok⟩:=hb'
    obtain ⟨g1,g2,g3,g4⟩:=graph_inR hg
    rw [show rnG v u=(v.1,(v.2.1.1,srtB v.2.1.1 (rnD v.2.1.2 u.2)),()) by simp [rnG,hb]]
    generalize hr:srtB v.2.1.1 (rnD v.2.1.2 u.2)=r
    have lp:∀ m k h,k+m=v.2.1.1→lstB k h=srtL (lstB k (rnD v.2.1.2 u.2))→zR c 61 zf55 (SRs v u k k h) (Post c [(0,brOb v.2.1.1 r)] (.tup [.agg [.p (.int .i64 v.1),.ar 2 0 0 v.2.1.1],.p (.bool true)])):=by
      intro m
      induction m with
      | zero =>
        intro k h hk hh
        obtain rfl:k=v.2.1.1:=by omega
        have hd:decide ((v.2.1.1:Int)<(v.2.1.1:Int))=false:=by simp
        rw [← lstB_srt,hr] at hh
        have hrow:∀ i,i<v.2.1.1→h i=r i:=fun i hi=>lstB_inj hh i hi
        refine pkZ Tryz.func61 hc (dSb v u v.2.1.1 v.2.1.1 h r) ?_
        and_intros
        iterate 2 all_goals (first | exact zI | (intro j hj;simp [All];done) | (intro j hj;simp [hrow j hj,All]) | (intro j hj;rw [hrow j hj];simp [cvtL,cvt,tg,tru,All]) | simp only [All])
      | succ m ih =>
        intro k h hk hh
        have hd:decide ((k:Int)<(v.2.1.1:Int))=true:=by simp;omega
        have hat:=goodB_at g4 k (by omega)
        have hsrt:(lstB k h).Pairwise leB:=by rw [hh];exact srtL_sorted _
        have hp:=con_l2Put h k v.1.toNat (rnD v.2.1.2 u.2 k) (by omega)
        have hN:((v.1.toNat:Nat):Int)=v.1:=by omega
        have hl:=insR_list h k (rnD v.2.1.2 u.2 k) hsrt
        have hn':=insR_n h k (rnD v.2.1.2 u.2 k)
        rw [hn'] at hp hl
        have hl2:lstB (k+1) (insR h k (rnD v.2.1.2 u.2 k)).2=srtL (lstB (k+1) (rnD v.2.1.2 u.2)):=by
          rw [hl]
          refine srtL_eq ((srtL_perm _).trans ?_) (srtL_sorted _)
          rw [hh,lstB_succ]
          exact List.Perm.append_right _ (srtL_perm _)
        rw [grG,hN] at hp
        refine pcD hc (dSa v u k k (k+1) h (insR h k (rnD v.2.1.2 u.2 k)).2) ?_ (ih (k+1) _ (by omega) hl2)
        and_intros
        all_goals (first | exact zI | (exact hp) | (intro j hj;simp [All]))
    refine pcD hc (dSz v u (isGraphF v) (okD v.1 u.2 u.1)) ?_ (lp v.2.1.1 0 _ (by omega) (by simp [lstB,srtL]))
    and_intros
    all_goals (first | exact zH | (exact c1) | (intro _;exact c3) | (exact hcd') | (intro j hj;exact absurd hj (Nat.not_lt_zero _)) | (intro j hj;simp [All]))
def snocI (n:Nat) (f:Nat→Int) (p:Int) (s:Nat):Int:=if s<n then f s else p
def bL (g:Nat→T_Bar):Nat→List (Nat×Nat)
  | 0=>[]
  | n+1=>bL g n++[brN (g n)]
theorem bL_mem (g:Nat→T_Bar) (y:Nat×Nat):∀ n,y∈bL g n↔∃ s,s<n∧brN (g s)=y
  | 0=>by
    constructor
    · intro h;cases h
    · rintro ⟨s,h,_⟩;exact absurd h (Nat.not_lt_zero _)
  | n+1=>by
    simp only [bL,List.mem_append,List.mem_singleton,bL_mem g y n]
    constructor
    · rintro (⟨s,h1,h2⟩ | h)
      · exact ⟨s,by omega,h2⟩
      · exact ⟨n,by omega,h.symm⟩
    · rintro ⟨s,h1,h2⟩
      by_cases e:s=n
      · right;rw [← e];exact h2.symm
      · exact .inl ⟨s,by omega,h2⟩
theorem acc_greedy (N k l:Nat) (g:Nat→T_Bar):∀ n,(accI N k l g n).map (fun i=>brN (g i))=Mat.greedy N k l [] (bL g n)
  | 0=>rfl
  | n+1=>by
    have ih:=acc_greedy N k l g n
    simp only [accI,bL,Mat.greedy_append,Mat.greedy]
    rw [← ih]
    split
    · rw [List.map_append];rfl
    · rfl
theorem acc_len (N k l:Nat) (g:Nat→T_Bar) (n:Nat):(accI N k l g n).length=(Mat.greedy N k l [] (bL g n)).length:=by
  rw [← acc_greedy,List.length_map]
def OkBars (N nb:Nat) (g:Nat→T_Bar):Prop:=∀ e,e<nb→0≤(g e).1∧(g e).1<(g e).2.1∧(g e).2.1<N
theorem bL_good {N nb:Nat} {g:Nat→T_Bar} (h:OkBars N nb g):∀ x∈bL g nb,Mat.GoodBar N x:=by
  intro x hx
  obtain ⟨s,h1,h2⟩:=(bL_mem g x nb).1 hx
  have:=h s h1
  rw [← h2]
  simp only [Mat.GoodBar,brN]
  omega
theorem goodB_in (N:Int) (g:Nat→T_Bar):∀ n,goodB N g n=true→∀ e,e<n→badB N g e=false
  | 0,_,e,he=>by omega
  | n+1,h,e,he=>by
    simp only [goodB,Bool.and_eq_true,Bool.not_eq_true'] at h
    by_cases h':e=n
    · subst h';exact h.2
    · exact goodB_in N g n h.1 e (by omega)
theorem graph_in {N nb:Nat} {g:Nat→T_Bar} (h:isGraphF ((N:Int),(nb,g),())=true):(1≤N∧N≤8)∧nb≤24∧OkBars N nb g:=by
  unfold isGraphF at h
  split at h
  case isFalse=>cases h
  rename_i hc
  obtain ⟨h1,h2⟩:=hc
  simp only [inB,Bool.and_eq_true,decide_eq_true_eq] at h1
  refine ⟨by omega,h2,fun e he=>?_⟩
  have hb:=goodB_in (N:Int) g nb h e he
  unfold badB at hb
  by_cases a1:(g e).1<0
  · simp [a1] at hb
  by_cases a2:(g e).1≥(g e).2.1
  · simp [a2] at hb
  by_cases a3:(g e).2.1≥(N:Int)
  · simp [a3] at hb
  omega
theorem graph_cases (v:T_Graph) (h:isGraphF v=true):∃ (N nb:Nat) (g:Nat→T_Bar),v=((N:Int),(nb,g),()):=by
  obtain ⟨v1,⟨nb,g⟩,⟨⟩⟩:=v
  have h1:0≤v1:=by
    unfold isGraphF at h
    split at h
    · rename_i hc
      have:=hc.1
      simp [inB] at this
      omega
    · cases h
  exact ⟨v1.toNat,nb,g,by rw [Int.toNat_of_nonneg h1]⟩
theorem bCs (v:T_Graph) :
    zS Tryz.f85 [rg 2,rg 8] [graphA v] [224] [(0,brOb v.2.1.1 v.2.1.2)] (.agg [.p (.int .i64 v.1),.ar 2 0 0 v.2.1.1]) =
    some [(NT 0 1),(NT 0 1),(NL 0 0),(NL ((0+v.2.1.1)*16) 140737488355328),(NL (0+v.2.1.1) 9223372036854775807),(NT 0 1),((true=true)→ (AN 1)),(NT 0 1),(AI v.1),(AN 0),(((0+v.2.1.1):Nat)=v.2.1.1),(AN 2),(NL v.2.1.1 (0+v.2.1.1)),(AA v.2.1.1 (fun i=>[.p (.int .i64 ((v.2.1.2 i).1)),.p (.int .i64 ((v.2.1.2 i).2.1))])),(AE v.2.1.1)]:=by kernel_rfl
theorem bSf (v:T_Graph) (a b:Int) (b1:Bool) :
    zS Tryz.f86 [rg 3,rm [(1,oc [] (.p (.bool b1)))] 32,.dec true,rm [(1,oc [(0,brOb v.2.1.1 v.2.1.2)] (.agg [.p (.int .i64 v.1),.ar 2 0 0 v.2.1.1]))] 2] [graphA v,.p (.int .i64 a),.p (.int .i64 b)] [1216] [(0,brOb v.2.1.1 v.2.1.2)] ((zf112 v)) =
    some (zD [(NT 0 1),zE 134 [(zf96 v)] [] (.p (.bool b1)),(AG (!!b1)),(((!b1)=false)→ ((!!b1)=true)),(AG (!bif !b1 then true else decide (a<0))),(((bif !b1 then true else decide (a<0))=false)→ ((!bif !b1 then true else decide (a<0))=true)),(AG (!bif bif !b1 then true else decide (a<0) then true else decide (b<0))),(((!bif bif !b1 then true else decide (a<0) then true else decide (b<0))=true)→(NT 0 1)),(((bif bif !b1 then true else decide (a<0) then true else decide (b<0))=false)→ ((!bif bif !b1 then true else decide (a<0) then true else decide (b<0))=true)),(AG (!bif bif bif !b1 then true else decide (a<0) then true else decide (b<0) then true else decide (a≥v.1))),(((!bif bif bif !b1 then true else decide (a<0) then true else decide (b<0) then true else decide (a≥v.1))=true)→(NT 0 1)),(((bif bif bif !b1 then true else decide (a<0) then true else decide (b<0) then true else decide (a≥v.1))=false)→ ((!bif bif bif !b1 then true else decide (a<0) then true else decide (b<0) then true else decide (a≥v.1))=true)),(AG (!bif bif bif bif !b1 then true else decide (a<0) then true else decide (b<0) then true else decide (a≥v.1) then true else decide (b≥v.1))),(((bif bif bif bif !b1 then true else decide (a<0) then true else decide (b<0) then true else decide (a≥v.1) then true else decide (b≥v.1))=false)→ ((!bif bif bif bif !b1 then true else decide (a<0) then true else decide (b<0) then true else decide (a≥v.1) then true else decide (b≥v.1))=true)),(AG (!bif bif bif bif bif !b1 then true else decide (a<0) then true else decide (b<0) then true else decide (a≥v.1) then true else decide (b≥v.1) then true else a==b)),(((!bif bif bif bif bif !b1 then true else decide (a<0) then true else decide (b<0) then true else decide (a≥v.1) then true else decide (b≥v.1) then true else a==b)=true)→(NT 0 1)),(((bif bif bif bif bif !b1 then true else decide (a<0) then true else decide (b<0) then true else decide (a≥v.1) then true else decide (b≥v.1) then true else a==b)=false)→ ((!bif bif bif bif bif !b1 then true else decide (a<0) then true else decide (b<0) then true else decide (a≥v.1) then true else decide (b≥v.1) then true else a==b)=true)),((bif bif bif bif bif bif !b1 then true else decide (a<0) then true else decide (b<0) then true else decide (a≥v.1) then true else decide (b≥v.1) then true else a==b then true else decide ((↑v.2.1.1:Int)≥24))=true),zE 85 [(zf96 v)] (zf102 v) (.agg [.p (.int .i64 v.1),.ar 2 0 0 v.2.1.1]),((true=true)→ (AN 1)),(AI v.1),(AN 0),(AN v.2.1.1),(false=false),(AN 2),(NL v.2.1.1 v.2.1.1),(AA v.2.1.1 (fun i=>[.p (.int .i64 ((v.2.1.2 i).1)),.p (.int .i64 ((v.2.1.2 i).2.1))])),(AE v.2.1.1)] [0,1,2,3,4,5,6,7,6,6,8,9,10,9,9,11,12,12,13,14,15,14,14,16,17,0,18,0,19,0,20,21,22,23,24,25,26,27]):=by kernel_rfl
theorem bSt (v:T_Graph) (a b:Int) (b1:Bool) (m:Nat) (r r':Nat→T_Bar) :
    zS Tryz.f86 [rg 3,rm [(1,oc [] (.p (.bool b1)))] 32,.dec false,rm [(8,oc [(0,brOb m r)] (.agg [.p (.int .i64 v.1),.ar 2 0 0 m]))] 2] [graphA v,.p (.int .i64 a),.p (.int .i64 b)] [1440] [(0,brOb m r')] (.tup [.agg [.p (.int .i64 v.1),.ar 2 0 0 m],.p (.bool true)]) =
    some (zD [(NT 0 1),zE 134 [(zf96 v)] [] (.p (.bool b1)),(AG (!!b1)),(((!b1)=false)→ ((!!b1)=true)),(AG (!bif !b1 then true else decide (a<0))),(((bif !b1 then true else decide (a<0))=false)→ ((!bif !b1 then true else decide (a<0))=true)),(AG (!bif bif !b1 then true else decide (a<0) then true else decide (b<0))),(((!bif bif !b1 then true else decide (a<0) then true else decide (b<0))=true)→(NT 0 1)),(((bif bif !b1 then true else decide (a<0) then true else decide (b<0))=false)→ ((!bif bif !b1 then true else decide (a<0) then true else decide (b<0))=true)),(AG (!bif bif bif !b1 then true else decide (a<0) then true else decide (b<0) then true else decide (a≥v.1))),(((!bif bif bif !b1 then true else decide (a<0) then true else decide (b<0) then true else decide (a≥v.1))=true)→(NT 0 1)),(((bif bif bif !b1 then true else decide (a<0) then true else decide (b<0) then true else decide (a≥v.1))=false)→ ((!bif bif bif !b1 then true else decide (a<0) then true else decide (b<0) then true else decide (a≥v.1))=true)),(AG (!bif bif bif bif !b1 then true else decide (a<0) then true else decide (b<0) then true else decide (a≥v.1) then true else decide (b≥v.1))),(((bif bif bif bif !b1 then true else decide (a<0) then true else decide (b<0) then true else decide (a≥v.1) then true else decide (b≥v.1))=false)→ ((!bif bif bif bif !b1 then true else decide (a<0) then true else decide (b<0) then true else decide (a≥v.1) then true else decide (b≥v.1))=true)),(AG (!bif bif bif bif bif !b1 then true else decide (a<0) then true else decide (b<0) then true else decide (a≥v.1) then true else decide (b≥v.1) then true else a==b)),(((!bif bif bif bif bif !b1 then true else decide (a<0) then true else decide (b<0) then true else decide (a≥v.1) then true else decide (b≥v.1) then true else a==b)=true)→(NT 0 1)),(((bif bif bif bif bif !b1 then true else decide (a<0) then true else decide (b<0) then true else decide (a≥v.1) then true else decide (b≥v.1) then true else a==b)=false)→ ((!bif bif bif bif bif !b1 then true else decide (a<0) then true else decide (b<0) then true else decide (a≥v.1) then true else decide (b≥v.1) then true else a==b)=true)),((bif bif bif bif bif bif !b1 then true else decide (a<0) then true else decide (b<0) then true else decide (a≥v.1) then true else decide (b≥v.1) then true else a==b then true else decide ((↑v.2.1.1:Int)≥24))=false),zE 136 [(zf96 v),.agg [.p (.int .i64 (if false=true then if b>a then b else a else if b<a then b else a)),.p (.int .i64 (if true=true then if b>a then b else a else if b<a then b else a))]] (zf107 m r) (.agg [.p (.int .i64 v.1),.ar 2 0 0 m]),((true=true)→ (AN 1)),(AI v.1),(AN 0),(AN m),(true=true),(AN 2),(NL m m),(∀ i:Nat,(((i:Nat)<m)→(All []∧(([.p (.int .i64 ((r i).1)),.p (.int .i64 ((r i).2.1))]:List AV)=[.p (.int .i64 ((r' i).1)),.p (.int .i64 ((r' i).2.1))])))),(AE m)] [0,1,2,3,4,5,6,7,6,6,8,9,10,9,9,11,12,12,13,14,15,14,14,16,17,0,18,0,19,0,20,21,22,23,24,25,26,27]):=by kernel_rfl
theorem con_l2Copy (v:T_Graph) (hn:v.2.1.1≤1048576):zE 85 [graphA v] [(0,brOb v.2.1.1 v.2.1.2)] (.agg [.p (.int .i64 v.1),.ar 2 0 0 v.2.1.1]):=by
  refine csZ Tryz.func85 (fun c hc=>?_)
  refine pkZ Tryz.func85 hc (bCs v) ?_
  and_intros
  all_goals (first | exact zI | (intro j hj;simp [All];done) | (simp;try omega))
def abB (v:T_Graph) (a b:Int):Bool:=isGraphF v&&(inB a 0 (v.1 - 1)&&(inB b 0 (v.1 - 1)&&(!(a==b)&&!((v.2.1.1:Int)==24))))
def abG (v:T_Graph) (a b:Int):T_Graph:=if abB v a b=true then (v.1,(v.2.1.1+1,srtB (v.2.1.1+1) (snoc v.2.1.1 v.2.1.2 (brX a b))),()) else v
theorem abB_in {v:T_Graph} {a b:Int} (h:abB v a b=true):isGraphF v=true∧(0≤a∧a<v.1)∧(0≤b∧b<v.1)∧a≠b∧v.2.1.1<24:=by
  simp only [abB,inB,Bool.and_eq_true,decide_eq_true_eq,Bool.not_eq_true',beq_eq_false_iff_ne,ne_eq] at h
  obtain ⟨hg,⟨h1,h2⟩,⟨h3,h4⟩,h5,h6⟩:=h
  have:=graph_inR hg
  exact ⟨hg,⟨h1,by omega⟩,⟨h3,by omega⟩,h5,by omega⟩
theorem abG_n (v:T_Graph) (a b:Int):(abG v a b).2.1.1≤v.2.1.1∨(abG v a b).2.1.1≤24:=by
  unfold abG
  split
  · rename_i h
    have:=abB_in h
    right;show v.2.1.1+1≤24;omega
  · left;exact Nat.le_refl _
theorem con_AddBar_s (v:T_Graph) (hs:smS s_Graph v) (a b:Int) :
    zE 86 [graphA v,.p (.int .i64 a),.p (.int .i64 b)] [(0,brOb (abG v a b).2.1.1 (abG v a b).2.1.2)] (.tup [.agg [.p (.int .i64 (abG v a b).1),.ar 2 0 0 (abG v a b).2.1.1],.p (.bool (abB v a b))]):=by
  have hn:v.2.1.1≤1048576:=hs.2.1.1
  have cc:=con_l2Copy v hn
  have c1:=con_IsGraph_s v hs
  have hcd:(bif bif bif bif bif bif !isGraphF v then true else decide (a<0) then true else decide (b<0) then true else decide (a≥v.1) then true else decide (b≥v.1) then true else a==b then true else decide ((v.2.1.1:Int)≥24))=!abB v a b:=by
    unfold abB inB
    cases hg:isGraphF v with
    | false=>rfl
    | true =>
      have:=graph_inR hg
      have e1:decide (a≥v.1)=!decide (a≤v.1 - 1):=by
        by_cases h:a≥v.1
        · have:¬ a≤v.1 - 1:=by omega
          simp [h,this]
        · have:a≤v.1 - 1:=by omega
          simp [h,this]
      have e2:decide (b≥v.1)=!decide (b≤v.1 - 1):=by
        by_cases h:b≥v.1
        · have:¬ b≤v.1 - 1:=by omega
          simp [h,this]
        · have:b≤v.1 - 1:=by omega
          simp [h,this]
      have e3:decide (a<0)=!decide (0≤a):=by
        by_cases h:a<0
        · have:¬ 0≤a:=by omega
          simp [h,this]
        · have:0≤a:=by omega
          simp [h,this]
      have e4:decide (b<0)=!decide (0≤b):=by
        by_cases h:b<0
        · have:¬ 0≤b:=by omega
          simp [h,this]
        · have:0≤b:=by omega
          simp [h,this]
      have e5:decide ((v.2.1.1:Int)≥24)=((v.2.1.1:Int)==24):=by
        by_cases h:v.2.1.1=24
        · rw [h];rfl
        · have h1:¬ (v.2.1.1:Int)≥24:=by omega
          have h2:¬ (v.2.1.1:Int)=24:=by omega
          simp only [h1,decide_false]
          exact (beq_eq_false_iff_ne.2 h2).symm
      rw [e1,e2,e3,e4,e5]
      cases decide (0≤a)<;>cases decide (0≤b)<;>cases decide (a≤v.1 - 1)<;>cases decide (b≤v.1 - 1)<;>cases (a==b)<;>cases ((v.2.1.1:Int)==24)<;>rfl
  refine csZ Tryz.func86 (fun c hc=>?_)
  cases hb:abB v a b with
  | false =>
    rw [hb] at hcd
    have hcd':(bif bif bif bif bif bif !isGraphF v then true else decide (a<0) then true else decide (b<0) then true else decide (a≥v.1) then true else decide (b≥v.1) then true else a==b then true else decide ((v.2.1.1:Int)≥24))=true:=hcd
    rw [show abG v a b=v by simp [abG,hb]]
    refine pkD Tryz.func86 hc (bSf v a b (isGraphF v)) ?_
    and_intros
    all_goals (first | exact zH | (exact cc) | (exact c1) | (exact hcd') | (intro j hj;simp [All]))
  | true =>
    rw [hb] at hcd
    have hcd':(bif bif bif bif bif bif !isGraphF v then true else decide (a<0) then true else decide (b<0) then true else decide (a≥v.1) then true else decide (b≥v.1) then true else a==b then true else decide ((v.2.1.1:Int)≥24))=false:=hcd
    have hin:=abB_in hb
    have hgr:=graph_inR hin.1
    rw [show abG v a b=(v.1,(v.2.1.1+1,srtB (v.2.1.1+1) (snoc v.2.1.1 v.2.1.2 (brX a b))),()) by simp [abG,hb]]
    have cp:=con_l2Put v.2.1.2 v.2.1.1 v.1.toNat (brX a b) hn
    have hN:((v.1.toNat:Nat):Int)=v.1:=by omega
    rw [grG,hN] at cp
    have hl:=insR_list v.2.1.2 v.2.1.1 (brX a b) (goodB_sorted hgr.2.2.2)
    have hn':=insR_n v.2.1.2 v.2.1.1 (brX a b)
    rw [hn'] at cp hl
    rw [← lstB_snoc,← lstB_srt] at hl
    have hrow:=lstB_inj hl
    generalize srtB (v.2.1.1+1) (snoc v.2.1.1 v.2.1.2 (brX a b))=r at hrow ⊢
    generalize (insR v.2.1.2 v.2.1.1 (brX a b)).2=r0 at cp hrow
    refine pkD Tryz.func86 hc (bSt v a b (isGraphF v) (v.2.1.1+1) r0 r) ?_
    and_intros
    iterate 2 all_goals (first | exact zH | (exact c1) | (exact cp) | (exact hcd') | (intro j hj;simp [All];done) | (intro j hj;rw [hrow j hj];simp [cvtL,cvt,tg,tru,All]) | simp only [All])
def bxGr (N:Int) (k:Nat):Ob:=⟨true,2,1,fun _=>[.p (.int .i64 N),.ar 2 3 0 k]⟩
def grR (N:Int) (k j:Nat):AV:=.agg [.p (.int .i64 N),.ar 2 j 0 k]
def SSm0 (n:Nat) (f:Nat→Int) (s:Nat×Int) (N:Nat) (odd:Int) (k:Nat) (h:Nat→T_Bar) (a:Nat):St :=
  ⟨[.pt 3 0 0 0,.p (.int .i64 N),.p (.int .i64 odd),.p .any,.p .any,.p .any,.pt 2 1 0 0,.pt 2 2 0 0,.p (.int .i64 a)]++List.replicate 35 anyA,[(0,cuO n f s),(1,zG2),(2,bxGr N k),(3,brOb k h)],4⟩
def SSm1 (n:Nat) (f:Nat→Int) (s:Nat×Int) (N:Nat) (odd:Int) (k:Nat) (h:Nat→T_Bar) (a b:Nat):St :=
  ⟨[.pt 3 0 0 0,.p (.int .i64 N),.p (.int .i64 odd),.p .any,.p .any,.p .any,.pt 2 1 0 0,.pt 2 2 0 0,.p (.int .i64 a),.p (.int .i64 b)]++List.replicate 34 anyA,[(0,cuO n f s),(1,zG2),(2,bxGr N k),(3,brOb k h)],4⟩
def SGr (n:Nat) (f:Nat→Int) (s:Nat×Int) (N:Int) (k:Nat) (h:Nat→T_Bar) (q:Nat):St :=
  ⟨[.pt 3 0 0 0,.p .any,.pt 2 1 0 0,.pt 2 2 0 0,.p (.int .i64 q)]++List.replicate 35 anyA,[(0,cuO n f s),(1,zG2),(2,bxGr N k),(3,brOb k h)],4⟩
theorem dsz (n:Nat) (f:Nat→Int) (s:Nat×Int) (N:Nat) (odd:Int) :
    zM 1 [rg 1,rg 5,rg 1,.head] [.code (bodyOf Tryz.f171)] (start Tryz.f171 [(0,cuO n f s)] 1 [.pt 3 0 0 0,.p (.int .i64 N),.p (.int .i64 odd)]) [0,1,129,65] 1 (SSm0 n f s N odd 0 (fun _=>(0,0,())) 0) =
    some (zf64,zD [(NT 0 1),((true=true)→ (AN 1)),(AN 0),(AI ((↑N:Int))),(AI odd),((0:Int)=(↑0:Int)),(AN 3),(NL 1 1),(AN n),(AP n (fun i=>[.int .u8 (f i)])),(AI ((↑s.1:Int))),(AI s.2),((((List.map (fun v=>AV.p (absV v)) [Value.int IntKind.i64 0,Value.slice none 0 0]).length):Nat)=2),(AI 0),(AN 2),(NL 0 0),(AA 0 (fun i=>[.p (.int .i64 0),.p (.int .i64 0)]))] [0,1,2,3,4,2,2,5,6,7,7,8,9,10,11,12,7,7,13,12,7,7,3,2,2,14,15,16]):=by kernel_rfl
theorem dsa (n:Nat) (f:Nat→Int) (s:Nat×Int) (N:Nat) (odd:Int) (k:Nat) (h:Nat→T_Bar) (a:Nat) :
    zM 1 [rg 3,.dec true,rg 3,.head] zf64 (SSm0 n f s N odd k h a) [0,1,2,3] 1 (SSm1 n f s N odd k h a (a+1)) =
    some (zf17,zD [((decide ((↑a:Int)<(↑N:Int)))=true),(ZLo ((↑a:Int)+1)),(ZHi ((↑a:Int)+1)),(AN 0),(AI ((↑N:Int))),(AI odd),(AI ((↑a:Int))),((((↑a:Int)+1):Int)=(↑(a+1):Int)),(AN 3),(NL 1 1),(AN n),(AP n (fun i=>[.int .u8 (f i)])),(AI ((↑s.1:Int))),(AI s.2),(AN 2),(AI 0),(AN k),(NL k k),(AA k (fun i=>[.p (.int .i64 ((h i).1)),.p (.int .i64 ((h i).2.1))]))] [0,1,2,3,4,5,3,3,6,7,8,9,9,10,11,12,13,14,9,9,15,14,9,9,4,3,16,14,17,18]):=by kernel_rfl
theorem dse (n:Nat) (f:Nat→Int) (s:Nat×Int) (N:Nat) (odd:Int) (k:Nat) (h:Nat→T_Bar) (a:Nat) :
    zP Tryz.f171 1 [rg 3,.dec false,rg 2] zf64 (SSm0 n f s N odd k h a) [0,3] 1 [(0,cuO n f s),(1,brOb k h)] (grR N k 1) =
    some [((decide ((↑a:Int)<(↑N:Int)))=false),(NT 0 1),(NT 0 1),((true=true)→ (AN 1)),(NT 0 1),(AI ((↑N:Int))),(AN 0),(AN k),(AN 3),(NL 1 1),(NL 1 1),(AN n),(AP n (fun i=>[.int .u8 (f i)])),(AI ((↑s.1:Int))),(AI s.2),(AN 2),(NL k k),(AA k (fun i=>[.p (.int .i64 ((h i).1)),.p (.int .i64 ((h i).2.1))])),(∀ i:Nat,(((i:Nat)<1)→All [(false=false),(AE n)])),(AE k)]:=by kernel_rfl
theorem dsb (n:Nat) (f:Nat→Int) (s s2:Nat×Int) (N:Nat) (odd:Int) (k:Nat) (h:Nat→T_Bar) (a b:Nat) (x:Int) :
    zM 1 [rg 3,.dec true,rm [(1,⟨true,(some ⟨[0],[1000],[],1,[(0,cuO n f s2)],.p (.int .i64 x)⟩),none⟩)] 8,.dec true,rg 9,rg 3,.head] zf17 (SSm1 n f s N odd k h a b) [0,1,2,612] 1 (SSm1 n f s2 N odd (k+1) (snoc k h (a,b,())) a (b+1)) =
    some (zf17,zD [((decide ((↑b:Int)<(↑N:Int)))=true),(AE 1),Con Tryz.prog 89 1 (zf91 n f s) [.pt 3 0 0 0,.p (.int .i64 10)] (zf91 n f s2) (.p (.int .i64 x)),(AG (decide (x<odd))),(((decide (x<odd))=true)→(NT 0 1)),((bif decide (x<odd) then decide ((↑k:Int)<24) else false)=true),(NT 0 1),(NL 1 1),(NL k k),(NL ((k+1)*16) 140737488355328),(NL (k+1) 9223372036854775807),((true=true)→ (AN 1)),(ZLo ((↑b:Int)+1)),(ZHi ((↑b:Int)+1)),(AN 0),(AI ((↑N:Int))),(AI odd),(AI ((↑a:Int))),((((↑b:Int)+1):Int)=(↑(b+1):Int)),(AN 3),(AN n),(AP n (fun i=>[.int .u8 (f i)])),(AI ((↑s2.1:Int))),(AI s2.2),(AN 2),(AI 0),(AN ((k+1))),(NL (k+1) (k+1)),(∀ i:Nat,(((i:Nat)<(k+1))→(All (cvtL false [(2,⟨true,2,1,(fun i_1=>[.p (.int .i64 (↑N:Int)),.ar 2 612 0 (k+1)])⟩),(612,⟨false,2,(k+1),(fun i_1=>(if (i_1<k) then [.p (.int .i64 ((h i_1).1)),.p (.int .i64 ((h i_1).2.1))] else [.p (.int .i64 (↑a:Int)),.p (.int .i64 (↑b:Int))]))⟩),(580,⟨false,2,1,(fun i_1=>[.p (.int .i64 (↑a:Int)),.p (.int .i64 (↑b:Int))])⟩),(0,⟨true,3,1,(fun i_1=>[.p (.seq false 1 n (fun i_2=>[.int .u8 (f i_2)])),.p (.int .i64 (↑s2.1:Int)),.p (.int .i64 s2.2)])⟩),(1,⟨true,2,1,(fun i_1=>[.p (.int .i64 0),.p (.nil)])⟩)] [0,1,2,612] 1 (if (i<k) then [.p (.int .i64 ((h i).1)),.p (.int .i64 ((h i).2.1))] else [.p (.int .i64 (↑a:Int)),.p (.int .i64 (↑b:Int))])).2∧(((cvtL false [(2,⟨true,2,1,(fun i_1=>[.p (.int .i64 (↑N:Int)),.ar 2 612 0 (k+1)])⟩),(612,⟨false,2,(k+1),(fun i_1=>(if (i_1<k) then [.p (.int .i64 ((h i_1).1)),.p (.int .i64 ((h i_1).2.1))] else [.p (.int .i64 (↑a:Int)),.p (.int .i64 (↑b:Int))]))⟩),(580,⟨false,2,1,(fun i_1=>[.p (.int .i64 (↑a:Int)),.p (.int .i64 (↑b:Int))])⟩),(0,⟨true,3,1,(fun i_1=>[.p (.seq false 1 n (fun i_2=>[.int .u8 (f i_2)])),.p (.int .i64 (↑s2.1:Int)),.p (.int .i64 s2.2)])⟩),(1,⟨true,2,1,(fun i_1=>[.p (.int .i64 0),.p (.nil)])⟩)] [0,1,2,612] 1 (if (i<k) then [.p (.int .i64 ((h i).1)),.p (.int .i64 ((h i).2.1))] else [.p (.int .i64 (↑a:Int)),.p (.int .i64 (↑b:Int))])).1:List AV)=[.p (.int .i64 (if i<k then (h i).1 else (↑a:Int))),.p (.int .i64 (if i<k then (h i).2.1 else (↑b:Int)))]))))] [0,1,2,3,4,3,3,3,5,6,7,8,9,10,6,11,12,13,14,15,16,14,14,17,18,19,7,7,20,21,22,23,24,7,7,25,24,7,7,15,14,26,24,27,28]):=by kernel_rfl
theorem dsc (n:Nat) (f:Nat→Int) (s s2:Nat×Int) (N:Nat) (odd:Int) (k:Nat) (h:Nat→T_Bar) (a b:Nat) (x:Int) :
    zM 1 [rg 3,.dec true,rm [(1,⟨true,(some ⟨[0],[1000],[],1,[(0,cuO n f s2)],.p (.int .i64 x)⟩),none⟩)] 8,.dec false,rg 3,.head] zf17 (SSm1 n f s N odd k h a b) [0,1,2,3] 1 (SSm1 n f s2 N odd k h a (b+1)) =
    some (zf17,zD [((decide ((↑b:Int)<(↑N:Int)))=true),(AE 1),Con Tryz.prog 89 1 (zf91 n f s) [.pt 3 0 0 0,.p (.int .i64 10)] (zf91 n f s2) (.p (.int .i64 x)),(AG (decide (x<odd))),(((decide (x<odd))=true)→(NT 0 1)),((bif decide (x<odd) then decide ((↑k:Int)<24) else false)=false),(ZLo ((↑b:Int)+1)),(ZHi ((↑b:Int)+1)),(AN 0),(AI ((↑N:Int))),(AI odd),(AI ((↑a:Int))),((((↑b:Int)+1):Int)=(↑(b+1):Int)),(AN 3),(NL 1 1),(AN n),(AP n (fun i=>[.int .u8 (f i)])),(AI ((↑s2.1:Int))),(AI s2.2),(AN 2),(AI 0),(AN k),(NL k k),(AA k (fun i=>[.p (.int .i64 ((h i).1)),.p (.int .i64 ((h i).2.1))]))] [0,1,2,3,4,3,3,3,5,6,7,8,9,10,8,8,11,12,13,14,14,15,16,17,18,19,14,14,20,19,14,14,9,8,21,19,22,23]):=by kernel_rfl
theorem dsd (n:Nat) (f:Nat→Int) (s:Nat×Int) (N:Nat) (odd:Int) (k:Nat) (h:Nat→T_Bar) (a b:Nat) :
    zM 1 [rg 3,.dec false,rg 3,.head] zf17 (SSm1 n f s N odd k h a b) [0,1,2,3] 1 (SSm0 n f s N odd k h (a+1)) =
    some (zf64,zD [((decide ((↑b:Int)<(↑N:Int)))=false),(ZLo ((↑a:Int)+1)),(ZHi ((↑a:Int)+1)),(AN 0),(AI ((↑N:Int))),(AI odd),((((↑a:Int)+1):Int)=(↑(a+1):Int)),(AN 3),(NL 1 1),(AN n),(AP n (fun i=>[.int .u8 (f i)])),(AI ((↑s.1:Int))),(AI s.2),(AN 2),(AI 0),(AN k),(NL k k),(AA k (fun i=>[.p (.int .i64 ((h i).1)),.p (.int .i64 ((h i).2.1))]))] [0,1,2,3,4,5,3,3,6,7,8,8,9,10,11,12,13,8,8,14,13,8,8,4,3,15,13,16,17]):=by kernel_rfl
theorem dqz (n:Nat) (f:Nat→Int) (s s1 s2 s3 s4 s5:Nat×Int) (x y z t:Int) (N:Int) (k:Nat) (h:Nat→T_Bar) (q:Nat) :
    zM 1 [rg 1,rm [(2,⟨true,(some ⟨[0],[1000],[],1,[(0,cuO n f s1)],.p (.int .i64 x)⟩),none⟩),(2,⟨true,(some ⟨[0],[1000],[],1,[(0,cuO n f s2)],.p (.int .i64 y)⟩),none⟩),(1,⟨true,(some ⟨[0],[1000],[],1,[(0,cuO n f s3),(1,brOb k h)],grR N k 1⟩),none⟩)] 2,rm [(1,⟨true,(some ⟨[0],[1000],[],1,[(0,cuO n f s4)],.p (.int .i64 z)⟩),none⟩),(1,⟨true,(some ⟨[0],[1000],[],1,[(0,cuO n f s5)],.p (.int .i64 t)⟩),none⟩)] 2,.head] [.code (bodyOf Tryz.f192)] (start Tryz.f192 [(0,cuO n f s)] 1 [.pt 3 0 0 0]) [0,1,289,257] 1 (SGr n f s5 N k h q) =
    some (zf65,zD [(AE 1),Con Tryz.prog 89 1 (zf91 n f s) [.pt 3 0 0 0,.p (.int .i64 5)] (zf91 n f s1) (.p (.int .i64 x)),(ZLo (2+x)),(ZHi (2+x)),Con Tryz.prog 89 1 (zf91 n f s1) [.pt 3 0 0 0,.p (.int .i64 4)] (zf91 n f s2) (.p (.int .i64 y)),(ZLo (5+y)),(ZHi (5+y)),Con Tryz.prog 171 1 (zf91 n f s2) [.pt 3 0 0 0,.p (.int .i64 (2+x)),.p (.int .i64 (5+y))] (zf20 n f s3 k h) (.agg [.p (.int .i64 N),.ar 2 1 0 k]),(NT 0 1),((true=true)→ (AN 1)),Con Tryz.prog 89 1 (zf91 n f s3) [.pt 3 0 0 0,.p (.int .i64 3)] (zf91 n f s4) (.p (.int .i64 z)),Con Tryz.prog 89 1 (zf91 n f s4) [.pt 3 0 0 0,.p (.int .i64 2)] (zf91 n f s5) (.p (.int .i64 t)),(ZLo (z*t)),(ZHi (z*t)),(AN 0),(((z*t):Int)=(↑q:Int)),(AN 3),(NL 1 1),(AN n),(AP n (fun i=>[.int .u8 (f i)])),(AI ((↑s5.1:Int))),(AI s5.2),((((List.map (fun v=>AV.p (absV v)) [Value.int IntKind.i64 0,Value.slice none 0 0]).length):Nat)=2),(AI 0),(AI N),(AN k),(AN 2),(NL k k),(AA k (fun i=>[.p (.int .i64 ((h i).1)),.p (.int .i64 ((h i).2.1))]))] [0,1,2,3,0,4,5,6,0,7,8,9,0,10,0,11,12,13,14,14,14,15,16,17,17,18,19,20,21,22,17,17,23,22,17,17,24,14,25,26,27,28]):=by kernel_rfl
theorem dqa (n:Nat) (f:Nat→Int) (s s1 s2:Nat×Int) (N:Int) (k:Nat) (h:Nat→T_Bar) (q:Nat) (a b:Int) (M:Int) (m:Nat) (r:Nat→T_Bar) (ok:Bool) :
    zM 1 [rg 2,.dec true,rm [(3,⟨true,(some ⟨[0],[1000],[],1,[(0,cuO n f s1)],.p (.int .i64 a)⟩),none⟩)] 1,rm [(3,⟨true,(some ⟨[0],[1000],[],1,[(0,cuO n f s2)],.p (.int .i64 b)⟩),none⟩)] 1,rm [(3,oc [(0,brOb m r)] (.tup [grR M m 0,.p (.bool ok)]))] 4,rg 3,.head] zf65 (SGr n f s N k h (q+1)) [0,1,2,484] 1 (SGr n f s2 M m r q) =
    some (zf65,zD [((decide ((↑(q+1):Int)>0))=true),(NT 0 1),(AE 1),Con Tryz.prog 89 1 (zf91 n f s) [.pt 3 0 0 0,.p (.int .i64 N)] (zf91 n f s1) (.p (.int .i64 a)),Con Tryz.prog 89 1 (zf91 n f s1) [.pt 3 0 0 0,.p (.int .i64 N)] (zf91 n f s2) (.p (.int .i64 b)),(AN 2),(NL k k),zE 86 [(zf105 N k h),.p (.int .i64 a),.p (.int .i64 b)] (zf107 m r) (.tup [.agg [.p (.int .i64 M),.ar 2 0 0 m],.p (.bool ok)]),((true=true)→ (AN 1)),(ZLo ((↑(q+1):Int) - 1)),(ZHi ((↑(q+1):Int) - 1)),(AN 0),((((↑(q+1):Int) - 1):Int)=(↑q:Int)),(AN 3),(NL 1 1),(AN n),(AP n (fun i=>[.int .u8 (f i)])),(AI ((↑s2.1:Int))),(AI s2.2),(AI 0),(AI M),(AN m),(NL m m),(AA m (fun i=>[.p (.int .i64 ((r i).1)),.p (.int .i64 ((r i).2.1))]))] [0,1,2,3,1,2,4,1,5,6,7,1,8,9,10,11,11,11,12,13,14,14,15,16,17,18,5,14,14,19,5,14,14,20,11,21,5,22,23]):=by kernel_rfl
theorem dqe (n:Nat) (f:Nat→Int) (s:Nat×Int) (N:Int) (k:Nat) (h:Nat→T_Bar) :
    zP Tryz.f192 1 [rg 2,.dec false,rg 2] zf65 (SGr n f s N k h 0) [0,3] 1 [(0,cuO n f s),(1,brOb k h)] (grR N k 1) =
    some [((decide ((↑0:Int)>0))=false),(NT 0 1),(NT 0 1),((true=true)→ (AN 1)),(NT 0 1),(AI N),(AN 0),(AN k),(AN 3),(NL 1 1),(NL 1 1),(AN n),(AP n (fun i=>[.int .u8 (f i)])),(AI ((↑s.1:Int))),(AI s.2),(AN 2),(NL k k),(AA k (fun i=>[.p (.int .i64 ((h i).1)),.p (.int .i64 ((h i).2.1))])),(∀ i:Nat,(((i:Nat)<1)→All [(false=false),(AE n)])),(AE k)]:=by kernel_rfl
theorem daz (n:Nat) (f:Nat→Int) (s s1 s2 s3 s4:Nat×Int) (N:Int) (k:Nat) (h:Nat→T_Bar) (x y z:Int) :
    zP Tryz.f172 1 [rg 1,rm [(1,⟨true,(some ⟨[0],[1000],[],1,[(0,cuO n f s1),(1,brOb k h)],grR N k 1⟩),none⟩)] 2,rm [(1,⟨true,(some ⟨[0],[1000],[],1,[(0,cuO n f s2)],.p (.int .i64 x)⟩),none⟩)] 0,rg 2,.dec true,rm [(2,⟨true,(some ⟨[0],[1000],[],1,[(0,cuO n f s3)],.p (.int .i64 y)⟩),none⟩)] 2,rg 2] [.code (bodyOf Tryz.f172)] (start Tryz.f172 [(0,cuO n f s)] 1 [.pt 3 0 0 0]) [0,65] 1 [(0,cuO n f s3),(1,brOb k h)] (grR y k 1) =
    some (zD [(AE 1),Con Tryz.prog 192 1 (zf91 n f s) [.pt 3 0 0 0] (zf20 n f s1 k h) (.agg [.p (.int .i64 N),.ar 2 1 0 k]),(NT 0 1),((true=true)→ (AN 1)),Con Tryz.prog 89 1 (zf91 n f s1) [.pt 3 0 0 0,.p (.int .i64 16)] (zf91 n f s2) (.p (.int .i64 x)),((x==0)=true),(AN 1),(NL 4 4),Con Tryz.prog 193 1 (zf91 n f s2) [.pt 3 0 0 0,.p (.seq true 1 4 (fun i=>[(cellP true [(List.getD ([.p (.int .i64 0),.p (.int .i64 (-1)),.p (.int .i64 9),.p (.int .i64 3)]:List AV) (rowIx 4 i*1) (.p .any))] 0)]))] (zf91 n f s3) (.p (.int .i64 y)),(AI y),(AN 0),(AN k),(AN 3),(NL 1 1),(AN n),(AP n (fun i=>[.int .u8 (f i)])),(AI ((↑s3.1:Int))),(AI s3.2),(AN 2),(NL k k),(AA k (fun i=>[.p (.int .i64 ((h i).1)),.p (.int .i64 ((h i).2.1))])),(∀ i:Nat,(((i:Nat)<1)→All [(false=false),(AE n)])),(AE k)] [0,1,2,3,0,4,5,0,6,7,8,2,3,2,2,3,2,9,10,11,12,13,13,14,15,16,17,18,19,20,21,22]):=by kernel_rfl
theorem dao (n:Nat) (f:Nat→Int) (s s1 s2 s3 s4:Nat×Int) (N:Int) (k:Nat) (h:Nat→T_Bar) (x y z:Int) :
    zP Tryz.f172 1 [rg 1,rm [(1,⟨true,(some ⟨[0],[1000],[],1,[(0,cuO n f s1),(1,brOb k h)],grR N k 1⟩),none⟩)] 2,rm [(1,⟨true,(some ⟨[0],[1000],[],1,[(0,cuO n f s2)],.p (.int .i64 x)⟩),none⟩)] 0,rg 2,.dec false,rg 2,.dec true,rm [(3,⟨true,(some ⟨[0],[1000],[],1,[(0,cuO n f s3)],.p (.int .i64 y)⟩),none⟩),(1,⟨true,(some ⟨[0],[1000],[],1,[(0,cuO n f s4)],.p (.int .i64 z)⟩),none⟩)] 5,rg 2] [.code (bodyOf Tryz.f172)] (start Tryz.f172 [(0,cuO n f s)] 1 [.pt 3 0 0 0]) [0,609] 1 [(0,cuO n f s4),(1,brOb (k+1) (snoc k h (y,z,())))] (grR N (k+1) 1) =
    some (zD [(AE 1),Con Tryz.prog 192 1 (zf91 n f s) [.pt 3 0 0 0] (zf20 n f s1 k h) (.agg [.p (.int .i64 N),.ar 2 1 0 k]),(NT 0 1),((true=true)→ (AN 1)),Con Tryz.prog 89 1 (zf91 n f s1) [.pt 3 0 0 0,.p (.int .i64 16)] (zf91 n f s2) (.p (.int .i64 x)),((x==0)=false),((x==1)=true),Con Tryz.prog 89 1 (zf91 n f s2) [.pt 3 0 0 0,.p (.int .i64 3)] (zf91 n f s3) (.p (.int .i64 y)),Con Tryz.prog 89 1 (zf91 n f s3) [.pt 3 0 0 0,.p (.int .i64 9)] (zf91 n f s4) (.p (.int .i64 z)),(NL 1 1),(NL k k),(NL ((k+1)*16) 140737488355328),(NL (k+1) 9223372036854775807),(AI N),(AN 0),(AN ((k+1))),(AN 3),(AN n),(AP n (fun i=>[.int .u8 (f i)])),(AI ((↑s4.1:Int))),(AI s4.2),(AN 2),(NL (k+1) (k+1)),(∀ i:Nat,(((i:Nat)<(k+1))→(All (cvtL false [(1,⟨true,2,1,(fun i_1=>[.p (.int .i64 N),.ar 2 609 0 (k+1)])⟩),(97,⟨true,2,1,(fun i_1=>[.p (.int .i64 N),.ar 2 609 0 (k+1)])⟩),(609,⟨false,2,(k+1),(fun i_1=>(if (i_1<k) then [.p (.int .i64 ((h i_1).1)),.p (.int .i64 ((h i_1).2.1))] else [.p (.int .i64 y),.p (.int .i64 z)]))⟩),(577,⟨false,2,1,(fun i_1=>[.p (.int .i64 y),.p (.int .i64 z)])⟩),(0,⟨true,3,1,(fun i_1=>[.p (.seq false 1 n (fun i_2=>[.int .u8 (f i_2)])),.p (.int .i64 (↑s4.1:Int)),.p (.int .i64 s4.2)])⟩)] [0,609] 1 (if (i<k) then [.p (.int .i64 ((h i).1)),.p (.int .i64 ((h i).2.1))] else [.p (.int .i64 y),.p (.int .i64 z)])).2∧(((cvtL false [(1,⟨true,2,1,(fun i_1=>[.p (.int .i64 N),.ar 2 609 0 (k+1)])⟩),(97,⟨true,2,1,(fun i_1=>[.p (.int .i64 N),.ar 2 609 0 (k+1)])⟩),(609,⟨false,2,(k+1),(fun i_1=>(if (i_1<k) then [.p (.int .i64 ((h i_1).1)),.p (.int .i64 ((h i_1).2.1))] else [.p (.int .i64 y),.p (.int .i64 z)]))⟩),(577,⟨false,2,1,(fun i_1=>[.p (.int .i64 y),.p (.int .i64 z)])⟩),(0,⟨true,3,1,(fun i_1=>[.p (.seq false 1 n (fun i_2=>[.int .u8 (f i_2)])),.p (.int .i64 (↑s4.1:Int)),.p (.int .i64 s4.2)])⟩)] [0,609] 1 (if (i<k) then [.p (.int .i64 ((h i).1)),.p (.int .i64 ((h i).2.1))] else [.p (.int .i64 y),.p (.int .i64 z)])).1:List AV)=[.p (.int .i64 (if i<k then (h i).1 else y)),.p (.int .i64 (if i<k then (h i).2.1 else z))])))),(∀ i:Nat,(((i:Nat)<1)→All [(false=false),(AE n)])),(AE ((k+1)))] [0,1,2,3,0,4,5,6,2,0,7,0,8,9,10,11,12,2,3,2,2,3,2,13,14,15,16,9,9,17,18,19,20,21,22,23,24,25]):=by kernel_rfl
theorem dan (n:Nat) (f:Nat→Int) (s s1 s2 s3 s4:Nat×Int) (N:Int) (k:Nat) (h:Nat→T_Bar) (x y z:Int) :
    zP Tryz.f172 1 [rg 1,rm [(1,⟨true,(some ⟨[0],[1000],[],1,[(0,cuO n f s1),(1,brOb k h)],grR N k 1⟩),none⟩)] 2,rm [(1,⟨true,(some ⟨[0],[1000],[],1,[(0,cuO n f s2)],.p (.int .i64 x)⟩),none⟩)] 0,rg 2,.dec false,rg 2,.dec false,rg 2] [.code (bodyOf Tryz.f172)] (start Tryz.f172 [(0,cuO n f s)] 1 [.pt 3 0 0 0]) [0,65] 1 [(0,cuO n f s2),(1,brOb k h)] (grR N k 1) =
    some [(AE 1),Con Tryz.prog 192 1 (zf91 n f s) [.pt 3 0 0 0] (zf20 n f s1 k h) (.agg [.p (.int .i64 N),.ar 2 1 0 k]),(NT 0 1),((true=true)→ (AN 1)),(AE 1),Con Tryz.prog 89 1 (zf91 n f s1) [.pt 3 0 0 0,.p (.int .i64 16)] (zf91 n f s2) (.p (.int .i64 x)),((x==0)=false),((x==1)=false),(NT 0 1),(NT 0 1),((true=true)→ (AN 1)),(NT 0 1),(AI N),(AN 0),(AN k),(AN 3),(NL 1 1),(NL 1 1),(AN n),(AP n (fun i=>[.int .u8 (f i)])),(AI ((↑s2.1:Int))),(AI s2.2),(AN 2),(NL k k),(AA k (fun i=>[.p (.int .i64 ((h i).1)),.p (.int .i64 ((h i).2.1))])),(∀ i:Nat,(((i:Nat)<1)→All [(false=false),(AE n)])),(AE k)]:=by kernel_rfl
theorem con_l2Simple (n:Nat) (f:Nat→Int) (hn:CdOk n f) (s:Nat×Int) (hs:s.1≤n) (N:Nat) (odd:Int) (hN:N≤100):∃ (s2:Nat×Int) (k:Nat) (h:Nat→T_Bar),s2.1≤n∧k≤24 ∧
    Con Tryz.prog 171 1 [(0,cuO n f s)] [.pt 3 0 0 0,.p (.int .i64 N),.p (.int .i64 odd)] [(0,cuO n f s2),(1,brOb k h)] (grR N k 1):=by
  have lo:∀ e a,a+e=N→∀ (s:Nat×Int) (k:Nat) (h:Nat→T_Bar),s.1≤n→k≤24→∃ (s2:Nat×Int) (k2:Nat) (h2:Nat→T_Bar),s2.1≤n∧k2≤24 ∧
      ∀ c:Cx,c.n=1→zR c 171 zf64 (SSm0 n f s N odd k h a) (Post c [(0,cuO n f s2),(1,brOb k2 h2)] (grR N k2 1)):=by
    intro e
    induction e with
    | zero =>
      intro a ha s k h hs hk
      have hd:decide ((a:Int)<(N:Int))=false:=decide_eq_false (by omega)
      refine ⟨s,k,h,hs,hk,fun c hc=>?_⟩
      refine pkZ Tryz.func171 hc (dse n f s N odd k h a) ?_
      and_intros
      iterate 2 all_goals (first | exact zI | (exact hd) | (intros;simp [All];done) | (simp;done) | (simp;omega) | simp only [All])
    | succ e ih =>
      intro a ha s k h hs hk
      have li:∀ e b,b+e=N→∀ (s:Nat×Int) (k:Nat) (h:Nat→T_Bar),s.1≤n→k≤24→∃ (s2:Nat×Int) (k2:Nat) (h2:Nat→T_Bar),s2.1≤n∧k2≤24 ∧
          ∀ c:Cx,c.n=1→zR c 171 zf17 (SSm1 n f s N odd k h a b) (Post c [(0,cuO n f s2),(1,brOb k2 h2)] (grR N k2 1)):=by
        intro e
        induction e with
        | zero =>
          intro b hb s k h hs hk
          have hd:decide ((b:Int)<(N:Int))=false:=decide_eq_false (by omega)
          obtain ⟨s2,k2,h2,i1,i2,hr⟩:=ih (a+1) (by omega) s k h hs hk
          refine ⟨s2,k2,h2,i1,i2,fun c hc=>?_⟩
          refine pcD hc (dsd n f s N odd k h a b) ?_ (hr c hc)
          and_intros
          all_goals (first | exact zN | (exact hd) | (intros;simp [All];done) | (simp;done) | (simp;omega))
        | succ e ih2 =>
          intro b hb s k h hs hk
          have hd:decide ((b:Int)<(N:Int))=true:=decide_eq_true (by omega)
          obtain ⟨s1,x,h1,hx,cb⟩:=con_l1Below n f hn s hs 10 (by omega)
          cases ht:(bif decide (x<odd) then decide ((k:Int)<24) else false) with
          | true =>
            have hk2:k<24:=by
              cases hq:decide (x<odd) with
              | false=>rw [hq] at ht;cases ht
              | true=>rw [hq,cond_true,decide_eq_true_eq] at ht;omega
            obtain ⟨s2,k2,h2,i1,i2,hr⟩:=ih2 (b+1) (by omega) s1 (k+1) (snoc k h (a,b,())) h1 (by omega)
            refine ⟨s2,k2,h2,i1,i2,fun c hc=>?_⟩
            refine pcD hc (dsb n f s s1 N odd k h a b x) ?_ (hr c hc)
            and_intros
            all_goals (first | exact zI | (exact hd) | (exact ht) | (exact cb) | (intros;simp [All];done) | (simp;done) | (simp;omega) | (intro i hi;rcases (show i<k∨i=k by omega) with h' | h'<;>simp [h',snoc,cvtL,cvt,tg,tru,All]))
          | false =>
            obtain ⟨s2,k2,h2,i1,i2,hr⟩:=ih2 (b+1) (by omega) s1 k h h1 hk
            refine ⟨s2,k2,h2,i1,i2,fun c hc=>?_⟩
            refine pcD hc (dsc n f s s1 N odd k h a b x) ?_ (hr c hc)
            and_intros
            all_goals (first | exact zI | (exact hd) | (exact ht) | (exact cb) | (intros;simp [All];done) | (simp;done) | (simp;omega))
      have hd:decide ((a:Int)<(N:Int))=true:=decide_eq_true (by omega)
      obtain ⟨s2,k2,h2,i1,i2,hr⟩:=li e (a+1) (by omega) s k h hs hk
      refine ⟨s2,k2,h2,i1,i2,fun c hc=>?_⟩
      refine pcD hc (dsa n f s N odd k h a) ?_ (hr c hc)
      and_intros
      all_goals (first | exact zN | (exact hd) | (intros;simp [All];done) | (simp;done) | (simp;omega))
  obtain ⟨s2,k,h,i1,i2,hr⟩:=lo N 0 (by omega) s 0 (fun _=>(0,0,())) hs (by omega)
  refine ⟨s2,k,h,i1,i2,?_⟩
  refine csZ Tryz.func171 (fun c hc=>?_)
  refine pcD hc (dsz n f s N odd) ?_ (hr c hc)
  and_intros
  all_goals (first | exact zI | (intro i hi;exact absurd hi (Nat.not_lt_zero _)) | (intros;simp [All];done) | (simp;done) | (simp;omega))
theorem con_l2Graph (n:Nat) (f:Nat→Int) (hn:CdOk n f) (s:Nat×Int) (hs:s.1≤n):∃ (s2:Nat×Int) (N:Int) (k:Nat) (h:Nat→T_Bar),s2.1≤n∧(2≤N∧N≤6)∧k≤24 ∧
    Con Tryz.prog 192 1 [(0,cuO n f s)] [.pt 3 0 0 0] [(0,cuO n f s2),(1,brOb k h)] (grR N k 1):=by
  have lo:∀ q,q≤2→∀ (s:Nat×Int) (N:Int) (k:Nat) (h:Nat→T_Bar),s.1≤n→(2≤N∧N≤6)→k≤24→∃ (s2:Nat×Int) (k2:Nat) (h2:Nat→T_Bar),s2.1≤n∧k2≤24 ∧
      ∀ c:Cx,c.n=1→zR c 192 zf65 (SGr n f s N k h q) (Post c [(0,cuO n f s2),(1,brOb k2 h2)] (grR N k2 1)):=by
    intro q
    induction q with
    | zero =>
      intro _ s N k h hs hN hk
      refine ⟨s,k,h,hs,hk,fun c hc=>?_⟩
      refine pkZ Tryz.func192 hc (dqe n f s N k h) ?_
      and_intros
      iterate 2 all_goals (first | exact zI | (intros;simp [All];done) | (simp;done) | (simp;omega) | simp only [All])
    | succ q ih =>
      intro hq s N k h hs hN hk
      have hd:decide (((q+1:Nat):Int)>0)=true:=decide_eq_true (by omega)
      obtain ⟨s1,a,h1,ha,c1⟩:=con_l1Below n f hn s hs N (by omega)
      obtain ⟨s2,b,h2,hb,c2⟩:=con_l1Below n f hn s1 h1 N (by omega)
      have c3:=con_AddBar_s (N,(k,h),()) (sm_graph (by show k≤_;omega)) a b
      have hk2:=abG_n (N,(k,h),()) a b
      have hM:(abG (N,(k,h),()) a b).1=N:=by unfold abG;split<;>rfl
      rw [hM] at c3
      have hk3:(abG (N,(k,h),()) a b).2.1.1≤24:=by
        rcases hk2 with e | e
        · have e':(abG (N,(k,h),()) a b).2.1.1≤k:=e
          omega
        · exact e
      generalize (abG (N,(k,h),()) a b).2.1.1=m at c3 hk3
      generalize (abG (N,(k,h),()) a b).2.1.2=r at c3
      generalize abB (N,(k,h),()) a b=ok at c3
      obtain ⟨s3,k3,h3,i1,i2,hr⟩:=ih (by omega) s2 N m r h2 hN hk3
      refine ⟨s3,k3,h3,i1,i2,fun c hc=>?_⟩
      refine pcD hc (dqa n f s s1 s2 N k h q a b N m r ok) ?_ (hr c hc)
      and_intros
      all_goals (first | exact zI | (exact hd) | (exact c1) | (exact c2) | (exact c3) | (intros;simp [All];done) | (simp;done) | (simp;omega))
  obtain ⟨s1,x,h1,hx,c1⟩:=con_l1Below n f hn s hs 5 (by omega)
  obtain ⟨s2,y,h2,hy,c2⟩:=con_l1Below n f hn s1 h1 4 (by omega)
  have hx2:=hx.2.1 (by omega)
  obtain ⟨x,rfl⟩:∃ t:Nat,x=(t:Int):=⟨x.toNat,by omega⟩
  obtain ⟨s3,k,h,h3,hk,c3⟩:=con_l2Simple n f hn s2 h2 (2+x) (5+y) (by omega)
  rw [show ((2+x:Nat):Int)=2+(x:Int) by omega] at c3
  obtain ⟨s4,z,h4,hz,c4⟩:=con_l1Below n f hn s3 h3 3 (by omega)
  obtain ⟨s5,t,h5,ht,c5⟩:=con_l1Below n f hn s4 h4 2 (by omega)
  have hz2:=hz.2.1 (by omega)
  have ht2:=ht.2.1 (by omega)
  obtain ⟨q,hq,hq2⟩:∃ q:Nat,z*t=(q:Int)∧q≤2:=by
    rcases (show t=0∨t=1 by omega) with e | e
    · exact ⟨0,by rw [e];simp,by omega⟩
    · exact ⟨z.toNat,by rw [e];omega,by omega⟩
  obtain ⟨s6,k2,r2,i1,i2,hr⟩:=lo q hq2 s5 (2+(x:Int)) k h h5 (by omega) hk
  refine ⟨s6,2+(x:Int),k2,r2,i1,by omega,i2,?_⟩
  refine csZ Tryz.func192 (fun c hc=>?_)
  refine pcD hc (dqz n f s s1 s2 s3 s4 s5 x y z t (2+(x:Int)) k h q) ?_ (hr c hc)
  and_intros
  all_goals (first | exact zI | (exact c1) | (exact c2) | (exact c3) | (exact c4) | (exact c5) | (exact hq) | (rw [hq];omega) | (intros;simp [All];done) | (simp;done) | (simp;omega))
theorem con_l2Any (n:Nat) (f:Nat→Int) (hn:CdOk n f) (s:Nat×Int) (hs:s.1≤n):∃ (s2:Nat×Int) (N:Int) (k:Nat) (h:Nat→T_Bar),s2.1≤n∧k≤25 ∧
    Con Tryz.prog 172 1 [(0,cuO n f s)] [.pt 3 0 0 0] [(0,cuO n f s2),(1,brOb k h)] (grR N k 1):=by
  obtain ⟨s1,N,k,h,h1,hN,hk,c1⟩:=con_l2Graph n f hn s hs
  obtain ⟨s2,x,h2,hx,c2⟩:=con_l1Below n f hn s1 h1 16 (by omega)
  by_cases e0:x=0
  · obtain ⟨s3,y,h3,hy,c3⟩:=con_pick n f hn s2 h2 [0,-1,9,3] (by simp)
    refine ⟨s3,y,k,h,h3,by omega,?_⟩
    refine csZ Tryz.func172 (fun c hc=>?_)
    refine pkD Tryz.func172 hc (daz n f s s1 s2 s3 s3 N k h x y 0) ?_
    and_intros
    iterate 2 all_goals (first | exact zI | (exact c1) | (exact c2) | (exact c3) | (intros;simp [All];done) | (simp [e0];done) | (simp;omega) | simp only [All])
  · have b0:(x==0)=false:=beq_eq_false_iff_ne.2 e0
    by_cases e1:x=1
    · obtain ⟨s3,y,h3,hy,c3⟩:=con_l1Below n f hn s2 h2 3 (by omega)
      obtain ⟨s4,z,h4,hz,c4⟩:=con_l1Below n f hn s3 h3 9 (by omega)
      refine ⟨s4,N,k+1,snoc k h (y,z,()),h4,by omega,?_⟩
      refine csZ Tryz.func172 (fun c hc=>?_)
      refine pkD Tryz.func172 hc (dao n f s s1 s2 s3 s4 N k h x y z) ?_
      and_intros
      iterate 2 all_goals (first | exact zI | (exact c1) | (exact c2) | (exact c3) | (exact c4) | (exact b0) | (intros;simp [All];done) | (simp [e1];done) | (simp;omega) | (intro i hi;rcases (show i<k∨i=k by omega) with h' | h'<;>simp [h',snoc,cvtL,cvt,tg,tru,All]) | simp only [All])
    · have b1:(x==1)=false:=beq_eq_false_iff_ne.2 e1
      refine ⟨s2,N,k,h,h2,by omega,?_⟩
      refine csZ Tryz.func172 (fun c hc=>?_)
      refine pkZ Tryz.func172 hc (dan n f s s1 s2 s2 s2 N k h x 0 0) ?_
      and_intros
      iterate 2 all_goals (first | exact zI | (exact c1) | (exact c2) | (exact b0) | (exact b1) | (intros;simp [All];done) | (simp;done) | (simp;omega) | simp only [All])
theorem bCi (v:T_Graph) :
    zS Tryz.f141 [rg 2,rg 8] [graphA v] [224] [(0,brOb v.2.1.1 v.2.1.2)] (.agg [.p (.int .i64 v.1),.ar 2 0 0 v.2.1.1]) =
    some [(NT 0 1),(NT 0 1),(NL 0 0),(NL ((0+v.2.1.1)*16) 140737488355328),(NL (0+v.2.1.1) 9223372036854775807),(NT 0 1),((true=true)→ (AN 1)),(NT 0 1),(AI v.1),(AN 0),(((0+v.2.1.1):Nat)=v.2.1.1),(AN 2),(NL v.2.1.1 (0+v.2.1.1)),(AA v.2.1.1 (fun i=>[.p (.int .i64 ((v.2.1.2 i).1)),.p (.int .i64 ((v.2.1.2 i).2.1))])),(AE v.2.1.1)]:=by kernel_rfl
theorem con_copyGraph (v:T_Graph) (hn:v.2.1.1≤1048576):zE 141 [graphA v] [(0,brOb v.2.1.1 v.2.1.2)] (.agg [.p (.int .i64 v.1),.ar 2 0 0 v.2.1.1]):=by
  refine csZ Tryz.func141 (fun c hc=>?_)
  refine pkZ Tryz.func141 hc (bCi v) ?_
  and_intros
  all_goals (first | exact zI | (intro j hj;simp [All];done) | (simp;try omega))
abbrev NLs:=Nat×(Nat→Int)
def snJ (n:Nat) (h:Nat→Int) (x:Int) (s:Nat):Int:=if s<n then h s else x
def snL (r:NLs) (x:Int):NLs:=(r.1+1,snJ r.1 r.2 x)
def zNL:NLs:=(0,fun _=>0)
def rlOb (n:Nat) (C:Nat→NLs):Ob:=⟨false,1,n,fun i=>[.p (.seq false 1 (C i).1 (fun s=>[.int .i64 ((C i).2 s)]))]⟩
def rlL (r:NLs):AV:=.p (.seq true 1 r.1 (fun s=>[.int .i64 (r.2 s)]))
def brLs (g:Nat→T_Bar) (nb:Nat):AV:=.p (.seq true 2 nb (fun i=>[.int .i64 (g i).1,.int .i64 (g i).2.1]))
def cgO (v:T_Graph):Ob:=⟨true,2,1,fun _=>[.p (.int .i64 v.1),.p (.seq false 2 v.2.1.1 (fun i=>[.int .i64 (v.2.1.2 i).1,.int .i64 (v.2.1.2 i).2.1]))]⟩
def cbO (N:Int) (o n:Nat):Ob:=⟨true,2,1,fun _=>[.p (.int .i64 N),.ar 2 o 0 n]⟩
def ctO (a b t:Nat):Ob:=⟨true,1,1,fun _=>[.clo 142 [.pt 2 a 0 0,.pt 2 b 0 0,.pt 1 t 0 0]]⟩
def SKf (n:Nat) (h b:Nat→T_Bar) (k:Nat):St :=
  ⟨[brLs h n,brLs b n,.p (.fn 133)]++List.replicate 8 anyA++[brLs h n,.p (.int .i64 n),.p (.int .i64 k)]++List.replicate 25 anyA,[],0⟩
def SKb (v u:T_Graph) (k:Nat):St :=
  ⟨[graphA v,graphA u,.pt 2 0 0 0,.pt 2 1 0 0,.p .any,.p (.int .i64 k)]++List.replicate 36 anyA,[(0,boxG v),(1,boxG u)],2⟩
def SKt (v:T_Graph) (r:NLs) (k o:Nat) (b:Nat→T_Bar):St :=
  ⟨[rlL r,.pt 2 0 0 0,.pt 2 1 0 0,.pt 1 2 0 0]++List.replicate 23 anyA++[.p (.int .i64 v.1),.p (.int .i64 k)]++List.replicate 14 anyA,
   [(0,cgO v),(1,cbO v.1 4 v.2.1.1),(2,ctO 0 1 2),(4,brOb v.2.1.1 b)],5⟩
def SKo (n:Int) (i m:Nat) (C:Nat→NLs):St :=
  ⟨[.p (.int .i64 n),.p .any,.p .any,.ar 1 0 0 m,.p (.int .i64 i)]++List.replicate 43 anyA,[(0,rlOb m C)],1⟩
def SKp (n:Int) (i m k q:Nat) (C D:Nat→NLs):St :=
  ⟨[.p (.int .i64 n),.p .any,.p .any,.ar 1 0 0 m,.p (.int .i64 i),.ar 1 1 0 q,.p (.int .i64 k)]++List.replicate 41 anyA,[(0,rlOb m C),(1,rlOb q D)],2⟩
def SKq (n:Int) (i m k q x:Nat) (C D:Nat→NLs):St :=
  ⟨[.p (.int .i64 n),.p .any,.p .any,.ar 1 0 0 m,.p (.int .i64 i),.ar 1 1 0 q,.p (.int .i64 k),.p (.int .i64 x)]++List.replicate 40 anyA,[(0,rlOb m C),(1,rlOb q D)],2⟩
def SKc (v:T_Graph) (i m:Nat) (C:Nat→NLs) (b:Nat→T_Bar):St :=
  ⟨[graphA v,.pt 2 0 0 0,.pt 2 1 0 0,.p (.bool false),.pt 2 2 0 0,.ar 1 3 0 m,.p (.int .i64 i)]++List.replicate 36 anyA,
   [(0,boxG v),(1,zG2),(2,cbO v.1 4 v.2.1.1),(3,rlOb m C),(4,brOb v.2.1.1 b)],5⟩
def nqB (a b:T_Bar):Bool:=!((a.1==b.1)&&((a.2.1==b.2.1)&&true))
theorem cFz (n:Nat) (h b:Nat→T_Bar) :
    zT Tryz.f143 [rg 1,rg 3,.head] [brLs h n,brLs b n,.p (.fn 133)] [] (SKf n h b 0) =
    some (zf84,zD [(AN n),(AP n (bRw h)),(AP n (bRw b)),(133=133),(AI ((↑n:Int))),((0:Int)=(↑0:Int))] [0,1,0,2,3,0,1,4,5]):=by kernel_rfl
theorem cFa (n:Nat) (h b:Nat→T_Bar) (k:Nat) (q:Int) :
    zM 0 [rg 1,.dec true,rg 6,rg 4,.dec false,rg 6,rm [(3,oc [] (.p (.int .i64 q)))] 1,rg 2,.dec false,rg 2,.head] zf84 (SKf n h b k) [] 1 (SKf n h b (k+1)) =
    some (zf84,zD [((decide ((↑k:Int)<(↑n:Int)))=true),(IL 0 (↑k:Int)),(IT (↑k:Int) (↑n:Int)),(NT 0 1),((true=true)→ (AN 1)),((decide ((↑k:Int)≥(↑n:Int)))=false),zE 133 [.agg [.p (.int .i64 ((h k).1)),.p (.int .i64 ((h k).2.1))],.agg [.p (.int .i64 ((b k).1)),.p (.int .i64 ((b k).2.1))]] [] (.p (.int .i64 q)),((q != 0)=false),(ZLo ((↑k:Int)+1)),(ZHi ((↑k:Int)+1)),(AN n),(AP n (bRw h)),(AP n (bRw b)),(133=133),(AI ((↑n:Int))),((((↑k:Int)+1):Int)=(↑(k+1):Int))] [0,1,2,3,4,5,1,2,3,4,3,3,6,7,8,9,10,11,10,12,13,10,11,14,15]):=by kernel_rfl
theorem cFb (n:Nat) (h b:Nat→T_Bar) (k:Nat) (q:Int) :
    zP Tryz.f143 0 [rg 1,.dec true,rg 6,rg 4,.dec false,rg 6,rm [(3,oc [] (.p (.int .i64 q)))] 1,rg 2,.dec true,rg 2] zf84 (SKf n h b k) [] 1 [] (.p (.int .i64 q)) =
    some (zD [((decide ((↑k:Int)<(↑n:Int)))=true),(IL 0 (↑k:Int)),(IT (↑k:Int) (↑n:Int)),(NT 0 1),((true=true)→ (AN 1)),((decide ((↑k:Int)≥(↑n:Int)))=false),zE 133 [.agg [.p (.int .i64 ((h k).1)),.p (.int .i64 ((h k).2.1))],.agg [.p (.int .i64 ((b k).1)),.p (.int .i64 ((b k).2.1))]] [] (.p (.int .i64 q)),((q != 0)=true),(AI q)] [0,1,2,3,4,5,1,2,3,4,3,3,6,7,8]):=by kernel_rfl
theorem cFe (n:Nat) (h b:Nat→T_Bar) (k:Nat) :
    zP Tryz.f143 0 [rg 1,.dec false,rg 5,.dec false,rg 1] zf84 (SKf n h b k) [] 1 [] (.p (.int .i64 0)) =
    some [((decide ((↑k:Int)<(↑n:Int)))=false),((decide ((↑n:Int)<(↑n:Int)))=false),(AI 0)]:=by kernel_rfl
theorem cBz (v u:T_Graph) :
    zT Tryz.f146 [rg 3,rg 1,.head] [graphA v,graphA u] [0,32] (SKb v u 0) =
    some (zf85,zD [(AI v.1),(AN v.2.1.1),(AP v.2.1.1 (bRw v.2.1.2)),(AI u.1),(AN u.2.1.1),(AP u.2.1.1 (fun i=>[.int .i64 ((u.2.1.2 i).1),.int .i64 ((u.2.1.2 i).2.1)])),(AN 0),((0:Int)=(↑0:Int)),((([AV.p (PV.int IntKind.i64 v.1),graphL v.2.1].length):Nat)=2),(NL 1 1),((([AV.p (PV.int IntKind.i64 u.1),graphL u.2.1].length):Nat)=2)] [0,1,2,3,4,5,6,6,7,8,9,9,0,1,2,10,9,9,3,4,5]):=by kernel_rfl
theorem cBa (v u:T_Graph) (k:Nat) :
    zM 0 [rg 12,.dec true,rg 11,.dec false,rg 3,.head] zf85 (SKb v u k) [0,1] 1 (SKb v u (k+1)) =
    some (zf85,zD [(NT 0 1),(AG (decide ((↑k:Int)<(↑v.2.1.1:Int)))),(((decide ((↑k:Int)<(↑v.2.1.1:Int)))=true)→(NT 0 1)),((bif decide ((↑k:Int)<(↑v.2.1.1:Int)) then decide ((↑k:Int)<(↑u.2.1.1:Int)) else false)=true),(IL 0 (↑k:Int)),(IT (↑k:Int) (↑v.2.1.1:Int)),(IT (↑k:Int) (↑u.2.1.1:Int)),((!((v.2.1.2 k).1==(u.2.1.2 k).1&&((v.2.1.2 k).2.1==(u.2.1.2 k).2.1&&true)))=false),(ZLo ((↑k:Int)+1)),(ZHi ((↑k:Int)+1)),(AI v.1),(AN v.2.1.1),(AP v.2.1.1 (bRw v.2.1.2)),(AI u.1),(AN u.2.1.1),(AP u.2.1.1 (fun i=>[.int .i64 ((u.2.1.2 i).1),.int .i64 ((u.2.1.2 i).2.1)])),(AN 0),((((↑k:Int)+1):Int)=(↑(k+1):Int)),(AN 2),(NL 1 1)] [0,1,2,1,1,1,1,3,0,4,5,0,4,6,7,8,9,10,11,12,13,14,15,16,16,17,18,19,19,10,11,12,18,19,19,13,14,15]):=by kernel_rfl
theorem cBb (v u:T_Graph) (k:Nat) (q:Bool) :
    zP Tryz.f146 0 [rg 12,.dec true,rg 11,.dec true,rm [(10,oc [] (.p (.bool q)))] 1] zf85 (SKb v u k) [] 1 [] (.p (.bool q)) =
    some (zD [(NT 0 1),(AG (decide ((↑k:Int)<(↑v.2.1.1:Int)))),(((decide ((↑k:Int)<(↑v.2.1.1:Int)))=true)→(NT 0 1)),((bif decide ((↑k:Int)<(↑v.2.1.1:Int)) then decide ((↑k:Int)<(↑u.2.1.1:Int)) else false)=true),(IL 0 (↑k:Int)),(IT (↑k:Int) (↑v.2.1.1:Int)),(IT (↑k:Int) (↑u.2.1.1:Int)),((!((v.2.1.2 k).1==(u.2.1.2 k).1&&((v.2.1.2 k).2.1==(u.2.1.2 k).2.1&&true)))=true),zE 176 [(zf110 v k),(zf110 u k)] [] (.p (.bool q)),(q=q)] [0,1,2,1,1,1,1,3,0,4,5,0,4,6,7,0,4,5,0,4,6,8,9]):=by kernel_rfl
theorem cBe (v u:T_Graph) (k:Nat) :
    zP Tryz.f146 0 [rg 12,.dec false,rg 1] zf85 (SKb v u k) [] 1 [] (.p (.bool false)) =
    some (zD [(NT 0 1),(AG (decide ((↑k:Int)<(↑v.2.1.1:Int)))),(((decide ((↑k:Int)<(↑v.2.1.1:Int)))=true)→(NT 0 1)),((bif decide ((↑k:Int)<(↑v.2.1.1:Int)) then decide ((↑k:Int)<(↑u.2.1.1:Int)) else false)=false),(false=false)] [0,1,2,1,1,1,1,3,4]):=by kernel_rfl
theorem cTa (v:T_Graph) (r:NLs) (b h:Nat→T_Bar) (q:Int) :
    zP Tryz.f142 4 [rg 5,.dec true,rm [(2,oc [(0,brOb v.2.1.1 h)] (zf114 v))] 6,rm [(4,oc [] (.p (.int .i64 q)))] 1,.dec true,rg 2] [.code (bodyOf Tryz.f142)] (start Tryz.f142 ([(0,cgO v),(1,cbO v.1 3 v.2.1.1),(2,ctO 0 1 2),(3,brOb v.2.1.1 b)]) 4 [rlL r,.pt 2 0 0 0,.pt 2 1 0 0,.pt 1 2 0 0]) [0,1,2,99999,228] 1 [(0,cgO v),(1,cbO v.1 4 v.2.1.1),(2,ctO 0 1 2),(4,brOb v.2.1.1 h)] (.tup []) =
    some (zD [(NT 0 1),(((↑r.1:Int)==v.1)=true),zE 60 [(zf96 v),.p (.seq true 1 r.1 (iRw r))] (zf106 v h) ((zf114 v)),((true=true)→ (AN 1)),(AN 2),(NL v.2.1.1 v.2.1.1),zE 143 [.p (.seq true 2 v.2.1.1 (bRw h)),.p (.seq true 2 v.2.1.1 (bRw b)),.p (.fn 133)] [] (.p (.int .i64 q)),((decide (q<0))=true),(NL 1 1),(AI v.1),(AN v.2.1.1),(AP v.2.1.1 (bRw v.2.1.2)),(AN 0),(AN 1),(AA v.2.1.1 (fun i=>[.p (.int .i64 ((h i).1)),.p (.int .i64 ((h i).2.1))])),(∀ i:Nat,(((i:Nat)<1)→All [(false=false),(AE v.2.1.1)])),(AE 1),(AE v.2.1.1)] [0,1,0,2,0,3,0,0,4,5,4,5,6,7,0,0,3,4,8,8,9,10,11,4,8,8,9,12,10,13,8,8,12,12,12,4,5,14,15,16,16,17]):=by kernel_rfl
theorem cTb (v:T_Graph) (r:NLs) (b h:Nat→T_Bar) (q:Int) :
    zP Tryz.f142 4 [rg 5,.dec true,rm [(2,oc [(0,brOb v.2.1.1 h)] (zf114 v))] 6,rm [(4,oc [] (.p (.int .i64 q)))] 1,.dec false] [.code (bodyOf Tryz.f142)] (start Tryz.f142 ([(0,cgO v),(1,cbO v.1 3 v.2.1.1),(2,ctO 0 1 2),(3,brOb v.2.1.1 b)]) 4 [rlL r,.pt 2 0 0 0,.pt 2 1 0 0,.pt 1 2 0 0]) [0,1,2,99999,3] 1 [(0,cgO v),(1,cbO v.1 4 v.2.1.1),(2,ctO 0 1 2),(4,brOb v.2.1.1 b)] (.tup []) =
    some (zD [(NT 0 1),(((↑r.1:Int)==v.1)=true),zE 60 [(zf96 v),.p (.seq true 1 r.1 (iRw r))] (zf106 v h) ((zf114 v)),((true=true)→ (AN 1)),(AN 2),(NL v.2.1.1 v.2.1.1),zE 143 [.p (.seq true 2 v.2.1.1 (bRw h)),.p (.seq true 2 v.2.1.1 (bRw b)),.p (.fn 133)] [] (.p (.int .i64 q)),((decide (q<0))=false),(NL 1 1),(AI v.1),(AN v.2.1.1),(AP v.2.1.1 (bRw v.2.1.2)),(AN 0),(AN 1),(AA v.2.1.1 (fun i=>[.p (.int .i64 ((b i).1)),.p (.int .i64 ((b i).2.1))])),(∀ i:Nat,(((i:Nat)<1)→All [(false=false),(AE v.2.1.1)])),(AE 1),(AE v.2.1.1)] [0,1,0,2,0,3,0,0,4,5,4,5,6,7,4,8,8,9,10,11,4,8,8,9,12,10,13,8,8,12,12,12,4,5,14,15,16,16,17]):=by kernel_rfl
theorem cTz (v:T_Graph) (r:NLs) (b:Nat→T_Bar) :
    zM 4 [rg 5,.dec false,rg 3,.head] [.code (bodyOf Tryz.f142)] (start Tryz.f142 ([(0,cgO v),(1,cbO v.1 3 v.2.1.1),(2,ctO 0 1 2),(3,brOb v.2.1.1 b)]) 4 [rlL r,.pt 2 0 0 0,.pt 2 1 0 0,.pt 1 2 0 0]) [0,1,2,99999,3] 1 (SKt v r 0 4 b) =
    some (zf103,zD [(NT 0 1),(((↑r.1:Int)==v.1)=false),(AN r.1),(AP r.1 (iRw r)),(AN 0),(AI v.1),((0:Int)=(↑0:Int)),(AN 2),(NL 1 1),(AN v.2.1.1),(AP v.2.1.1 (bRw v.2.1.2)),(AN 1),(NL v.2.1.1 v.2.1.1),(AA v.2.1.1 (fun i=>[.p (.int .i64 ((b i).1)),.p (.int .i64 ((b i).2.1))]))] [0,1,0,2,3,4,4,4,5,6,7,8,8,5,9,10,7,8,8,5,4,9,11,8,8,4,4,4,7,12,13]):=by kernel_rfl
theorem cTr (v:T_Graph) (r:NLs) (k:Nat) (b h:Nat→T_Bar) :
    zM 4 [rg 1,.dec true,rg 2,rm [(2,oc [] (.p (.bool false)))] 1,.dec true,rm [(2,oc [(0,iOb r.1 r.2)] (.ar 1 0 0 r.1)),(3,⟨true,(some ⟨[0,1,2,4],[1000],[],1,[(0,cgO v),(1,cbO v.1 4 v.2.1.1),(2,ctO 0 1 2),(4,brOb v.2.1.1 h)],.tup []⟩),none⟩)] 0,rg 2,.head] zf103 (SKt v r k 4 b) [0,1,2,99999,421] 1 (SKt v r (k+1) 4 h) =
    some (zf103,zD [((decide ((↑k:Int)<v.1))=true),zE 144 [.p (.seq true 1 r.1 (iRw r)),.p (.int .i64 (↑k:Int))] [] (.p (.bool false)),((!false)=true),(NT 0 1),zE 91 [.p (.seq true 1 r.1 (iRw r))] [(0,⟨false,1,r.1,(fun i=>[.p (.int .i64 (r.2 i))])⟩)] (.ar 1 0 0 r.1),(NL 1 1),(NL r.1 r.1),(NL ((r.1+1)*8) 140737488355328),(NL (r.1+1) 9223372036854775807),(AE 1),(AE v.2.1.1),(AN 1),(NL (r.1+1) (r.1+1)),Con Tryz.prog 142 4 (zf6 v b) [.p (.seq true 1 (r.1+1) (fun i=>[(cellP true (if (i<r.1) then [.p (.int .i64 (r.2 i))] else [.p (.int .i64 (↑k:Int))]) 0)])),.pt 2 0 0 0,.pt 2 1 0 0,.pt 1 2 0 0] (zf7 v h) (.tup []),(ZLo ((↑k:Int)+1)),(ZHi ((↑k:Int)+1)),(AN r.1),(AP r.1 (iRw r)),(AN 0),(AI v.1),((((↑k:Int)+1):Int)=(↑(k+1):Int)),(AN 2),(AN v.2.1.1),(AP v.2.1.1 (bRw v.2.1.2)),(NL v.2.1.1 v.2.1.1),(AA v.2.1.1 (fun i=>[.p (.int .i64 ((h i).1)),.p (.int .i64 ((h i).2.1))]))] [0,1,2,3,4,5,6,7,8,9,9,9,10,11,12,13,14,15,16,17,18,18,18,19,20,21,5,5,19,22,23,21,5,5,19,18,22,11,5,5,18,18,18,21,24,25]):=by kernel_rfl
theorem cTs (v:T_Graph) (r:NLs) (k:Nat) (b:Nat→T_Bar) :
    zM 4 [rg 1,.dec true,rg 2,rm [(2,oc [] (.p (.bool true)))] 1,.dec false,rg 2,.head] zf103 (SKt v r k 4 b) [0,1,2,99999,4] 1 (SKt v r (k+1) 4 b) =
    some (zf103,zD [((decide ((↑k:Int)<v.1))=true),zE 144 [.p (.seq true 1 r.1 (iRw r)),.p (.int .i64 (↑k:Int))] [] (.p (.bool true)),((!true)=false),(ZLo ((↑k:Int)+1)),(ZHi ((↑k:Int)+1)),(AN r.1),(AP r.1 (iRw r)),(AN 0),(AI v.1),((((↑k:Int)+1):Int)=(↑(k+1):Int)),(AN 2),(NL 1 1),(AN v.2.1.1),(AP v.2.1.1 (bRw v.2.1.2)),(AN 1),(NL v.2.1.1 v.2.1.1),(AA v.2.1.1 (fun i=>[.p (.int .i64 ((b i).1)),.p (.int .i64 ((b i).2.1))]))] [0,1,2,3,4,5,6,7,7,7,8,9,10,11,11,8,12,13,10,11,11,8,7,12,14,11,11,7,7,7,10,15,16]):=by kernel_rfl
theorem cTe (v:T_Graph) (r:NLs) (k:Nat) (b:Nat→T_Bar) :
    zP Tryz.f142 4 [rg 1,.dec false] zf103 (SKt v r k 4 b) [0,1,2,99999,4] 1 [(0,cgO v),(1,cbO v.1 4 v.2.1.1),(2,ctO 0 1 2),(4,brOb v.2.1.1 b)] (.tup []) =
    some (zD [((decide ((↑k:Int)<v.1))=false),(AN 2),(NL 1 1),(AI v.1),(AN v.2.1.1),(AP v.2.1.1 (bRw v.2.1.2)),(AN 0),(AN 1),(NL v.2.1.1 v.2.1.1),(AA v.2.1.1 (fun i=>[.p (.int .i64 ((b i).1)),.p (.int .i64 ((b i).2.1))])),(∀ i:Nat,(((i:Nat)<1)→All [(false=false),(AE v.2.1.1)])),(AE 1),(AE v.2.1.1)] [0,1,2,2,3,4,5,1,2,2,3,6,4,7,2,2,6,6,6,1,8,9,10,11,11,12]):=by kernel_rfl
theorem cIy (v:T_Graph) (b0:Bool) :
    zS Tryz.f68 [rg 3,rm [(1,oc [] (.p (.bool b0)))] 6,.dec true,rg 3] [graphA v] [] [(0,brOb 0 (fun _=>(0,0,())))] (zf117) =
    some [(NT 0 1),zE 130 [(zf96 v)] [] (.p (.bool b0)),(AG (!!b0)),(((!!b0)=true)→(NT 0 1)),(AG (!!b0)),(((!b0)=false)→ ((!!b0)=true)),((bif !b0 then true else decide (v.1>5))=true),(NT 0 1),((true=true)→ (AN 1)),(NT 0 1),(AI 0),(AN 0),(false=false),(AN 0),(AE 0)]:=by kernel_rfl
theorem cIz (v:T_Graph) (b0:Bool) (b h:Nat→T_Bar) :
    zS Tryz.f68 [rg 3,rm [(1,oc [] (.p (.bool b0)))] 6,.dec false,rm [(1,oc [(0,brOb v.2.1.1 b)] (.agg [.p (.int .i64 v.1),.ar 2 0 0 v.2.1.1]))] 2,rg 1,rg 2,rm [(2,⟨true,(some ⟨[0,416,480,384],[0],[],1,[(0,cgO v),(1,cbO v.1 4 v.2.1.1),(2,ctO 0 1 2),(4,brOb v.2.1.1 h)],.tup []⟩),none⟩)] 0,rg 3] [graphA v] [640] [(0,brOb v.2.1.1 h)] ((zf114 v)) =
    some (zD [(NT 0 1),zE 130 [(zf96 v)] [] (.p (.bool b0)),(AG (!!b0)),(((!!b0)=true)→(NT 0 1)),(((!b0)=false)→ ((!!b0)=true)),((bif !b0 then true else decide (v.1>5))=false),zE 141 [(zf96 v)] (zf106 v b) (.agg [.p (.int .i64 v.1),.ar 2 0 0 v.2.1.1]),((true=true)→ (AN 1)),(AE 1),(AE v.2.1.1),(AN 1),(NL 0 0),Con Tryz.prog 142 4 (zf6 v b) [.p (.seq true 1 0 (fun i=>[.int .i64 0])),.pt 2 0 0 0,.pt 2 1 0 0,.pt 1 2 0 0] (zf7 v h) (.tup []),(AI v.1),(AN 0),(AN v.2.1.1),(true=true),(AN 2),(NL v.2.1.1 v.2.1.1),(AA v.2.1.1 (fun i=>[.p (.int .i64 ((h i).1)),.p (.int .i64 ((h i).2.1))]))] [0,1,2,3,2,4,5,0,6,0,7,0,7,0,8,8,8,9,10,11,12,0,0,7,0,13,14,15,16,17,18,19,9]):=by kernel_rfl
theorem cOz (n:Int) :
    zT Tryz.f145 [rg 1,rg 3,rg 1,.head] [.p (.int .i64 n)] [64] (SKo n 0 1 (fun _=>zNL)) =
    some (zf66,[(AI n),(AN 0),(AN 1),((0:Int)=(↑0:Int)),(AN 1),(NL 1 1),(∀ i:Nat,(((i:Nat)<1)→(All [(AN 1),((0:Nat)≤0)]∧(([.p (.seq false 1 0 (fun i_1=>[.int .i64 0]))]:List AV)=[.p (.seq false 1 0 (iRw zNL))]))))]):=by kernel_rfl
theorem cOa (n:Int) (i m:Nat) (C:Nat→NLs) :
    zM 0 [rg 3,.dec true,rg 2,rg 1,.head] zf66 (SKo n i m C) [0,97] 1 (SKp n i m 0 0 C (fun _=>zNL)) =
    some (zf8,[((decide ((↑i:Int)<n))=true),(AI n),(AN 0),(AN m),(AI ((↑i:Int))),(AN 0),(AN 0),((0:Int)=(↑0:Int)),(AN 1),(NL m m),(AA m (fun i_1=>[.p (.seq false 1 ((C i_1).1) (fun i_2=>[.int .i64 ((C i_1).2 i_2)]))])),(AN 1),(NL 0 0),(∀ i_1:Nat,(((i_1:Nat)<0)→(All []∧(([.p (.nil)]:List AV)=[.p (.seq false 1 0 (iRw zNL))]))))]):=by kernel_rfl
theorem cOb (n:Int) (i m k q:Nat) (C D:Nat→NLs) :
    zM 0 [rg 4,.dec true,rg 1,.head] zf8 (SKp n i m k q C D) [0,1] 1 (SKq n i m k q 0 C D) =
    some (zf3,[((decide ((↑k:Int)<(↑m:Int)))=true),(AI n),(AN 0),(AN m),(AI ((↑i:Int))),(AN 0),(AN q),(AI ((↑k:Int))),((0:Int)=(↑0:Int)),(AN 1),(NL m m),(AA m (fun i_1=>[.p (.seq false 1 ((C i_1).1) (fun i_2=>[.int .i64 ((C i_1).2 i_2)]))])),(AN 1),(NL q q),(AA q (fun i_1=>[.p (.seq false 1 ((D i_1).1) (fun i_2=>[.int .i64 ((D i_1).2 i_2)]))]))]):=by kernel_rfl
theorem cOc (n:Int) (i m k q x:Nat) (C D:Nat→NLs) (E:Nat→NLs) :
    zM 0 [rg 3,.dec true,rm [(5,oc [] (.p (.bool false)))] 1,.dec true,rg 13,rg 3,.head] zf3 (SKq n i m k q x C D) [0,674] 1 (SKq n i m k (q+1) (x+1) C E) =
    some (zf3,[((decide ((↑x:Int)<n))=true),(IL 0 (↑k:Int)),(IT (↑k:Int) (↑m:Int)),(NT k m),zE 92 [.p (.seq true 1 ((C k).1) (fun i_1=>[.int .i64 ((C k).2 i_1)])),.p (.int .i64 (↑x:Int))] [] (.p (.bool false)),((!false)=true),(IL 0 (↑k:Int)),(IT (↑k:Int) (↑m:Int)),(NT k m),(NL 0 0),(NL ((0+(C k).1)*8) 140737488355328),(NL (0+(C k).1) 9223372036854775807),(NL 1 1),(NL (0+(C k).1) (0+(C k).1)),(NL ((0+(C k).1+1)*8) 140737488355328),(NL (0+(C k).1+1) 9223372036854775807),(NL 1 1),(NL q q),(NL ((q+1)*24) 140737488355328),(NL (q+1) 9223372036854775807),(ZLo ((↑x:Int)+1)),(ZHi ((↑x:Int)+1)),(AI n),(AN 0),(AN m),(AI ((↑i:Int))),(AN 0),(AN ((q+1))),(AI ((↑k:Int))),((((↑x:Int)+1):Int)=(↑(x+1):Int)),(AN 1),(NL m m),(AA m (fun i_1=>[.p (.seq false 1 ((C i_1).1) (fun i_2=>[.int .i64 ((C i_1).2 i_2)]))])),(AN 1),(NL (q+1) (q+1)),(CV [(674,⟨false,1,(q+1),(fun i_2=>(if (i_2<q) then [.p (.seq false 1 ((D i_2).1) (fun i_3=>[.int .i64 ((D i_2).2 i_3)]))] else [.ar 1 610 0 (0+(C k).1+1)]))⟩),(642,⟨false,1,1,(fun i_2=>[.ar 1 610 0 (0+(C k).1+1)])⟩),(610,⟨false,1,(0+(C k).1+1),(fun i_2=>(if (i_2<0+(C k).1) then [.p (.int .i64 ((C k).2 i_2))] else [.p (.int .i64 (↑x:Int))]))⟩),(578,⟨false,1,1,(fun i_2=>[.p (.int .i64 (↑x:Int))])⟩),(0,⟨false,1,m,(fun i_2=>[.p (.seq false 1 ((C i_2).1) (fun i_3=>[.int .i64 ((C i_2).2 i_3)]))])⟩)] [0,674] 1 (q+1) (fun i_1=>if (i_1<q) then [.p (.seq false 1 ((D i_1).1) (fun i_2=>[.int .i64 ((D i_1).2 i_2)]))] else [.ar 1 610 0 (0+(C k).1+1)]) (fun i_1=>[.p (.seq false 1 ((E i_1).1) (fun i_2=>[.int .i64 ((E i_1).2 i_2)]))]))]):=by kernel_rfl
theorem cOd (n:Int) (i m k q x:Nat) (C D:Nat→NLs) :
    zM 0 [rg 3,.dec true,rm [(5,oc [] (.p (.bool true)))] 1,.dec false,rg 3,.head] zf3 (SKq n i m k q x C D) [0,1] 1 (SKq n i m k q (x+1) C D) =
    some (zf3,[((decide ((↑x:Int)<n))=true),(IL 0 (↑k:Int)),(IT (↑k:Int) (↑m:Int)),(NT k m),zE 92 [.p (.seq true 1 ((C k).1) (fun i_1=>[.int .i64 ((C k).2 i_1)])),.p (.int .i64 (↑x:Int))] [] (.p (.bool true)),((!true)=false),(ZLo ((↑x:Int)+1)),(ZHi ((↑x:Int)+1)),(AI n),(AN 0),(AN m),(AI ((↑i:Int))),(AN 0),(AN q),(AI ((↑k:Int))),((((↑x:Int)+1):Int)=(↑(x+1):Int)),(AN 1),(NL m m),(AA m (fun i_1=>[.p (.seq false 1 ((C i_1).1) (fun i_2=>[.int .i64 ((C i_1).2 i_2)]))])),(AN 1),(NL q q),(AA q (fun i_1=>[.p (.seq false 1 ((D i_1).1) (fun i_2=>[.int .i64 ((D i_1).2 i_2)]))]))]):=by kernel_rfl
theorem cOe (n:Int) (i m k q x:Nat) (C D:Nat→NLs) :
    zM 0 [rg 3,.dec false,rg 3,.head] zf3 (SKq n i m k q x C D) [0,1] 1 (SKp n i m (k+1) q C D) =
    some (zf8,[((decide ((↑x:Int)<n))=false),(ZLo ((↑k:Int)+1)),(ZHi ((↑k:Int)+1)),(AI n),(AN 0),(AN m),(AI ((↑i:Int))),(AN 0),(AN q),((((↑k:Int)+1):Int)=(↑(k+1):Int)),(AN 1),(NL m m),(AA m (fun i_1=>[.p (.seq false 1 ((C i_1).1) (fun i_2=>[.int .i64 ((C i_1).2 i_2)]))])),(AN 1),(NL q q),(AA q (fun i_1=>[.p (.seq false 1 ((D i_1).1) (fun i_2=>[.int .i64 ((D i_1).2 i_2)]))]))]):=by kernel_rfl
theorem cOf (n:Int) (i m k q:Nat) (C D:Nat→NLs) :
    zM 0 [rg 4,.dec false,rg 2,rg 3,.head] zf8 (SKp n i m k q C D) [1] 1 (SKo n (i+1) q D) =
    some (zf66,[((decide ((↑k:Int)<(↑m:Int)))=false),(ZLo ((↑i:Int)+1)),(ZHi ((↑i:Int)+1)),(AI n),(AN 0),(AN q),((((↑i:Int)+1):Int)=(↑(i+1):Int)),(AN 1),(NL q q),(AA q (fun i_1=>[.p (.seq false 1 ((D i_1).1) (fun i_2=>[.int .i64 ((D i_1).2 i_2)]))]))]):=by kernel_rfl
theorem cOg (n:Int) (i m:Nat) (C:Nat→NLs) :
    zP Tryz.f145 0 [rg 3,.dec false,rg 2] zf66 (SKo n i m C) [0] 1 [(0,rlOb m C)] (.ar 1 0 0 m) =
    some [((decide ((↑i:Int)<n))=false),(AN 0),(AN m),(AN 1),(NL m m),(AA m (fun i_1=>[.p (.seq false 1 ((C i_1).1) (fun i_2=>[.int .i64 ((C i_1).2 i_2)]))])),(∀ i_1:Nat,(((i_1:Nat)<m)→All [(false=false),(AE (((C i_1).1)))]))]:=by kernel_rfl
theorem cSy (v:T_Graph) (b0:Bool) :
    zS Tryz.f69 [rg 3,rm [(1,oc [] (.p (.bool b0)))] 6,.dec true,rg 3] [graphA v] [] [(0,brOb 0 (fun _=>(0,0,())))] (zf117) =
    some [(NT 0 1),zE 134 [(zf96 v)] [] (.p (.bool b0)),(AG (!!b0)),(((!!b0)=true)→(NT 0 1)),(AG (!!b0)),(((!b0)=false)→ ((!!b0)=true)),((bif !b0 then true else decide (v.1>5))=true),(NT 0 1),((true=true)→ (AN 1)),(NT 0 1),(AI 0),(AN 0),(false=false),(AN 0),(AE 0)]:=by kernel_rfl
theorem cSz (v:T_Graph) (b0:Bool) (b:Nat→T_Bar) (m:Nat) (C:Nat→NLs) :
    zT Tryz.f69 [rg 3,rm [(1,oc [] (.p (.bool b0)))] 6,.dec false,rm [(1,oc [(0,brOb v.2.1.1 b)] (.agg [.p (.int .i64 v.1),.ar 2 0 0 v.2.1.1]))] 2,rm [(2,oc [(0,rlOb m C)] (.ar 1 0 0 m))] 1,rg 1,.head] [graphA v] [0,32,416,544,384] (SKc v 0 m C b) =
    some (zf31,zD [(NT 0 1),zE 134 [(zf96 v)] [] (.p (.bool b0)),(AG (!!b0)),(((!!b0)=true)→(NT 0 1)),(((!b0)=false)→ ((!!b0)=true)),((bif !b0 then true else decide (v.1>5))=false),zE 85 [(zf96 v)] (zf106 v b) (.agg [.p (.int .i64 v.1),.ar 2 0 0 v.2.1.1]),((true=true)→ (AN 1)),zE 145 [.p (.int .i64 v.1)] (zf104 m C) (.ar 1 0 0 m),(AI v.1),(AN v.2.1.1),(AP v.2.1.1 (bRw v.2.1.2)),(AN 0),(false=false),(AN m),((0:Int)=(↑0:Int)),((([AV.p (PV.int IntKind.i64 v.1),graphL v.2.1].length):Nat)=2),(NL 1 1),((((List.map (fun v=>AV.p (absV v)) [Value.int IntKind.i64 0,Value.slice none 0 0]).length):Nat)=2),(AI 0),(AN 1),(NL m m),(AA m (fun i=>[.p (.seq false 1 ((C i).1) (fun i_1=>[.int .i64 ((C i).2 i_1)]))])),(AN 2),(NL v.2.1.1 v.2.1.1),(AA v.2.1.1 (fun i=>[.p (.int .i64 ((b i).1)),.p (.int .i64 ((b i).2.1))]))] [0,1,2,3,2,4,5,0,6,0,7,0,8,9,10,11,12,12,13,12,12,14,15,16,17,17,9,10,11,18,17,17,19,18,17,17,9,12,10,20,21,22,23,24,25]):=by kernel_rfl
theorem cSa (v:T_Graph) (i m:Nat) (C:Nat→NLs) (b h:Nat→T_Bar) :
    zM 0 [rg 4,.dec true,rm [(5,oc [(0,brOb v.2.1.1 h)] (zf114 v))] 6,rm [(2,oc [] (.p (.bool true)))] 0,.dec true,rg 2,rg 3,.head] zf31 (SKc v i m C b) [0,1,2,3,293] 1 (SKc v (i+1) m C h) =
    some (zf31,zD [((decide ((↑i:Int)<(↑m:Int)))=true),(NT 0 1),(IL 0 (↑i:Int)),(IT (↑i:Int) (↑m:Int)),(NT i m),zE 61 [(zf94 v),.p (.seq true 1 ((C i).1) (fun i_1=>[.int .i64 ((C i).2 i_1)]))] [(0,⟨false,2,v.2.1.1,(fun i_1=>[.p (.int .i64 ((h i_1).1)),.p (.int .i64 ((h i_1).2.1))])⟩)] ((zf114 v)),((true=true)→ (AN 1)),(AN 2),(NL v.2.1.1 v.2.1.1),zE 146 [(zf99 v h),(zf99 v b)] [] (.p (.bool true)),(true=true),(ZLo ((↑i:Int)+1)),(ZHi ((↑i:Int)+1)),(AI v.1),(AN v.2.1.1),(AP v.2.1.1 (bRw v.2.1.2)),(AN 0),(false=false),(AN m),((((↑i:Int)+1):Int)=(↑(i+1):Int)),(NL 1 1),(AI 0),(AN 1),(NL m m),(AA m (fun i_1=>[.p (.seq false 1 ((C i_1).1) (fun i_2=>[.int .i64 ((C i_1).2 i_2)]))])),(AA v.2.1.1 (fun i_1=>[.p (.int .i64 ((h i_1).1)),.p (.int .i64 ((h i_1).2.1))]))] [0,1,2,3,4,5,1,6,1,1,7,8,7,8,9,10,1,1,6,11,12,13,14,15,16,16,17,16,16,18,19,7,20,20,13,14,15,7,20,20,21,7,20,20,13,16,14,22,23,24,7,8,25]):=by kernel_rfl
theorem cSb (v:T_Graph) (i m:Nat) (C:Nat→NLs) (b h:Nat→T_Bar) :
    zM 0 [rg 4,.dec true,rm [(5,oc [(0,brOb v.2.1.1 h)] (zf114 v))] 6,rm [(2,oc [] (.p (.bool false)))] 0,.dec false,rg 3,.head] zf31 (SKc v i m C b) [0,1,2,3,4] 1 (SKc v (i+1) m C b) =
    some (zf31,zD [((decide ((↑i:Int)<(↑m:Int)))=true),(NT 0 1),(IL 0 (↑i:Int)),(IT (↑i:Int) (↑m:Int)),(NT i m),zE 61 [(zf94 v),.p (.seq true 1 ((C i).1) (fun i_1=>[.int .i64 ((C i).2 i_1)]))] [(0,⟨false,2,v.2.1.1,(fun i_1=>[.p (.int .i64 ((h i_1).1)),.p (.int .i64 ((h i_1).2.1))])⟩)] ((zf114 v)),((true=true)→ (AN 1)),(AN 2),(NL v.2.1.1 v.2.1.1),zE 146 [(zf99 v h),(zf99 v b)] [] (.p (.bool false)),(false=false),(ZLo ((↑i:Int)+1)),(ZHi ((↑i:Int)+1)),(AI v.1),(AN v.2.1.1),(AP v.2.1.1 (bRw v.2.1.2)),(AN 0),(AN m),((((↑i:Int)+1):Int)=(↑(i+1):Int)),(NL 1 1),(AI 0),(AN 1),(NL m m),(AA m (fun i_1=>[.p (.seq false 1 ((C i_1).1) (fun i_2=>[.int .i64 ((C i_1).2 i_2)]))])),(AA v.2.1.1 (fun i_1=>[.p (.int .i64 ((b i_1).1)),.p (.int .i64 ((b i_1).2.1))]))] [0,1,2,3,4,5,1,6,1,1,7,8,7,8,9,10,11,12,13,14,15,16,16,10,16,16,17,18,7,19,19,13,14,15,7,19,19,20,7,19,19,13,16,14,21,22,23,7,8,24]):=by kernel_rfl
theorem cSe (v:T_Graph) (i m:Nat) (C:Nat→NLs) (b:Nat→T_Bar) :
    zP Tryz.f69 0 [rg 4,.dec false,rg 3] zf31 (SKc v i m C b) [4] 1 [(0,brOb v.2.1.1 b)] ((zf114 v)) =
    some [((decide ((↑i:Int)<(↑m:Int)))=false),(NT 0 1),(NT 0 1),((true=true)→ (AN 1)),(NT 0 1),(AI v.1),(AN 0),(AN v.2.1.1),(true=true),(AN 2),(NL v.2.1.1 v.2.1.1),(AA v.2.1.1 (fun i_1=>[.p (.int .i64 ((b i_1).1)),.p (.int .i64 ((b i_1).2.1))])),(AE v.2.1.1)]:=by kernel_rfl
def bfD (h b:Nat→T_Bar):Nat→Nat→Bool
  | 0,_=>false
  | d+1,i=>if nqB (h i) (b i)=true then aft (h i) (b i) else bfD h b d (i+1)
def cmD (h b:Nat→T_Bar):Nat→Nat→Int
  | 0,_=>0
  | d+1,i=>if cmpB (h i) (b i)=0 then cmD h b d (i+1) else cmpB (h i) (b i)
theorem cmp_nq (x y:T_Bar):(nqB x y=true↔cmpB x y≠0)∧(nqB x y=true→(decide (cmpB x y<0)=aft x y)):=by
  unfold nqB cmpB cmpI aft
  by_cases h1:x.1=y.1
  · have e1:(x.1==y.1)=true:=beq_iff_eq.2 h1
    by_cases h2:x.2.1=y.2.1
    · simp [h1,h2]
    · have e2:(x.2.1==y.2.1)=false:=beq_eq_false_iff_ne.2 h2
      rcases Int.lt_or_gt_of_ne h2 with h3 | h3
      · simp [h1,e2,h3,show x.2.1≤y.2.1 by omega]
      · simp [h1,e2,h3,show ¬ x.2.1<y.2.1 by omega,show ¬ x.2.1≤y.2.1 by omega]
  · have e1:(x.1==y.1)=false:=beq_eq_false_iff_ne.2 h1
    rcases Int.lt_or_gt_of_ne h1 with h3 | h3
    · simp [e1,h3]
    · simp [e1,h3,show ¬ x.1<y.1 by omega]
theorem cm_bf (h b:Nat→T_Bar):∀ d i,decide (cmD h b d i<0)=bfD h b d i
  | 0,i=>by simp [cmD,bfD]
  | d+1,i=>by
    obtain ⟨h1,h2⟩:=cmp_nq (h i) (b i)
    have e1:cmD h b (d+1) i=if cmpB (h i) (b i)=0 then cmD h b d (i+1) else cmpB (h i) (b i):=rfl
    have e2:bfD h b (d+1) i=if nqB (h i) (b i)=true then aft (h i) (b i) else bfD h b d (i+1):=rfl
    by_cases e:cmpB (h i) (b i)=0
    · rw [if_pos e] at e1
      rw [if_neg (fun h=>h1.1 h e)] at e2
      rw [e1,e2]
      exact cm_bf h b d (i+1)
    · rw [if_neg e] at e1
      rw [if_pos (h1.2 e)] at e2
      rw [e1,e2]
      exact h2 (h1.2 e)
theorem con_CmpF (n:Nat) (h b:Nat→T_Bar) (hn:n≤1048576):zE 143 [brLs h n,brLs b n,.p (.fn 133)] [] (.p (.int .i64 (cmD h b n 0))):=by
  refine csZ Tryz.func143 (fun c hc=>?_)
  have lo:∀ d k,k+d=n→zR c 143 zf84 (SKf n h b k) (Post c [] (.p (.int .i64 (cmD h b d k)))):=by
    intro d
    induction d with
    | zero =>
      intro k hk
      obtain rfl:k=n:=by omega
      have hd:decide ((k:Int)<(k:Int))=false:=by simp
      refine pkZ Tryz.func143 hc (cFe k h b k) ?_
      and_intros
      all_goals (first | exact zN | (exact hd))
    | succ d ih =>
      intro k hk
      have hrec:=ih (k+1) (by omega)
      have hd:decide ((k:Int)<(n:Int))=true:=decide_eq_true (by omega)
      have hd2:decide ((k:Int)≥(n:Int))=false:=decide_eq_false (by omega)
      have cc:=con_compareBars (h k) (b k)
      simp only [cmD]
      by_cases e:cmpB (h k) (b k)=0
      · rw [if_pos e]
        have hq:(cmpB (h k) (b k) != 0)=false:=by simp [e]
        refine pcD hc (cFa n h b k (cmpB (h k) (b k))) ?_ hrec
        and_intros
        all_goals (first | exact zI | (exact hd) | (exact hd2) | (exact cc) | (exact hq) | (intro t ht;simp [All]))
      · rw [if_neg e]
        have hq:(cmpB (h k) (b k) != 0)=true:=by simp [e]
        refine pkD Tryz.func143 hc (cFb n h b k (cmpB (h k) (b k))) ?_
        and_intros
        all_goals (first | exact zI | (exact hd) | (exact hd2) | (exact cc) | (exact hq))
  refine pcD hc (cFz n h b) ?_ (lo n 0 (by omega))
  and_intros
  all_goals (first | exact zN | (intro t ht;simp [All]))
theorem con_Before (v u:T_Graph) (he:v.2.1.1=u.2.1.1) (hn:u.2.1.1≤1048576):zE 146 [graphA v,graphA u] [] (.p (.bool (bfD v.2.1.2 u.2.1.2 u.2.1.1 0))):=by
  refine csZ Tryz.func146 (fun c hc=>?_)
  have lo:∀ d k,k+d=u.2.1.1→zR c 146 zf85 (SKb v u k) (Post c [] (.p (.bool (bfD v.2.1.2 u.2.1.2 d k)))):=by
    intro d
    induction d with
    | zero =>
      intro k hk
      have hd:(bif decide ((k:Int)<(v.2.1.1:Int)) then decide ((k:Int)<(u.2.1.1:Int)) else false)=false:=by
        rw [decide_eq_false (show ¬ (k:Int)<(v.2.1.1:Int) by omega)];rfl
      refine pkD Tryz.func146 hc (cBe v u k) ?_
      and_intros
      all_goals (first | exact zI | (exact hd) | (simp;omega))
    | succ d ih =>
      intro k hk
      have hrec:=ih (k+1) (by omega)
      have hd:(bif decide ((k:Int)<(v.2.1.1:Int)) then decide ((k:Int)<(u.2.1.1:Int)) else false)=true:=by
        rw [decide_eq_true (show (k:Int)<(v.2.1.1:Int) by omega),decide_eq_true (show (k:Int)<(u.2.1.1:Int) by omega)];rfl
      have cc:=con_l2After (v.2.1.2 k) (u.2.1.2 k)
      simp only [bfD]
      by_cases e:nqB (v.2.1.2 k) (u.2.1.2 k)=true
      · rw [if_pos e]
        refine pkD Tryz.func146 hc (cBb v u k (aft (v.2.1.2 k) (u.2.1.2 k))) ?_
        and_intros
        all_goals (first | exact zI | (exact hd) | (exact e) | (exact cc))
      · rw [if_neg e]
        have e':nqB (v.2.1.2 k) (u.2.1.2 k)=false:=by simpa using e
        refine pcD hc (cBa v u k) ?_ hrec
        and_intros
        all_goals (first | exact zI | (exact hd) | (exact e') | (intro t ht;simp [All]))
  refine pcD hc (cBz v u) ?_ (lo u.2.1.1 0 (by omega))
  and_intros
  all_goals (first | exact zN | (intro t ht;simp [All]))
def foldK {α:Type} (f:Nat→α→α):Nat→α→α
  | 0,a=>a
  | n+1,a=>f n (foldK f n a)
theorem foldK_congr {α:Type} {f g:Nat→α→α}:∀ n a,(∀ i,i<n→∀ b,f i b=g i b)→foldK f n a=foldK g n a
  | 0,_,_=>rfl
  | n+1,a,h=>by simp only [foldK];rw [foldK_congr n a (fun i hi b=>h i (by omega) b),h n (by omega)]
def upB (v:T_Graph) (s:Nat→Int) (b:Nat→T_Bar):Nat→T_Bar :=
  if bfD (srtB v.2.1.1 (rnD v.2.1.2 s)) b v.2.1.1 0=true then srtB v.2.1.1 (rnD v.2.1.2 s) else b
def dfs (v:T_Graph):Nat→NLs→(Nat→T_Bar)→(Nat→T_Bar)
  | 0=>fun r b=>upB v r.2 b
  | d+1=>fun r b=>foldK (fun k b=>if hasI r.2 k r.1=true then b else dfs v d (snL r k) b) v.1.toNat b
abbrev LL:=Nat×(Nat→NLs)
def snR (q:Nat) (D:Nat→NLs) (x:NLs) (s:Nat):NLs:=if s<q then D s else x
def exI (r:NLs) (a:LL):Nat→LL
  | 0=>a
  | x+1=>if hasI r.2 x r.1=true then exI r a x else ((exI r a x).1+1,snR (exI r a x).1 (exI r a x).2 (snL r x))
def exK (N:Nat) (O:LL):Nat→LL
  | 0=>(0,fun _=>zNL)
  | k+1=>exI (O.2 k) (exK N O k) N
def orD (N:Nat):Nat→LL
  | 0=>(1,fun _=>zNL)
  | i+1=>exK N (orD N i) (orD N i).1
def foldL {α:Type} (f:NLs→α→α) (L:LL) (a:α):α:=foldK (fun i a=>f (L.2 i) a) L.1 a
theorem foldL_sn {α:Type} (f:NLs→α→α) (L:LL) (x:NLs) (a:α):foldL f (L.1+1,snR L.1 L.2 x) a=f x (foldL f L a):=by
  unfold foldL
  show f (snR L.1 L.2 x L.1) (foldK _ L.1 a)=_
  rw [show snR L.1 L.2 x L.1=x by simp [snR]]
  congr 1
  exact foldK_congr L.1 a (fun i hi b=>by simp [snR,hi])
theorem foldL_exI {α:Type} (f:NLs→α→α) (r:NLs) (L:LL) (a:α):∀ x,foldL f (exI r L x) a=foldK (fun k b=>if hasI r.2 k r.1=true then b else f (snL r k) b) x (foldL f L a)
  | 0=>rfl
  | x+1=>by
    have ih:=foldL_exI f r L a x
    simp only [exI,foldK]
    split
    · exact ih
    · rw [foldL_sn,ih]
theorem foldL_exK (v:T_Graph) (d:Nat) (O:LL) (a:Nat→T_Bar):∀ k,foldL (dfs v d) (exK v.1.toNat O k) a=foldK (fun i b=>dfs v (d+1) (O.2 i) b) k a
  | 0=>rfl
  | k+1=>by
    have ih:=foldL_exK v d O a k
    simp only [exK,foldK]
    rw [foldL_exI,ih]
    rfl
theorem orders_dfs (v:T_Graph) (a:Nat→T_Bar):∀ i d,foldL (dfs v d) (orD v.1.toNat i) a=dfs v (i+d) zNL a
  | 0,d=>by rw [Nat.zero_add];rfl
  | i+1,d=>by
    rw [orD,foldL_exK]
    have:=orders_dfs v a i (d+1)
    unfold foldL at this
    rw [this,show i+(d+1)=i+1+d by omega]
theorem exI_n (r:NLs) (a:LL):∀ x,(exI r a x).1≤a.1+x
  | 0=>Nat.le_refl _
  | x+1=>by
    have:=exI_n r a x
    simp only [exI]
    split
    · omega
    · show (exI r a x).1+1≤_;omega
theorem exK_n (N:Nat) (O:LL):∀ k,(exK N O k).1≤k*N
  | 0=>Nat.zero_le _
  | k+1=>by
    have:=exK_n N O k
    have:=exI_n (O.2 k) (exK N O k) N
    simp only [exK]
    rw [Nat.add_mul];omega
theorem orD_n (N:Nat) (hN:N≤5):∀ i,(orD N i).1≤5 ^ i
  | 0=>Nat.le_refl _
  | i+1=>by
    have h1:=orD_n N hN i
    have h2:=exK_n N (orD N i) (orD N i).1
    have h3:=Nat.mul_le_mul h1 hN
    rw [Nat.pow_succ]
    exact Nat.le_trans h2 h3
theorem exI_all (P:NLs→Prop) (r:NLs) (a:LL) (n:Nat) (ha:∀ i,i<a.1→P (a.2 i)) (hr:∀ x:Nat,x<n→hasI r.2 x r.1=false→P (snL r x)):∀ x,x≤n→∀ i,i<(exI r a x).1→P ((exI r a x).2 i)
  | 0,_=>ha
  | x+1,hx=>by
    have ih:=exI_all P r a n ha hr x (by omega)
    simp only [exI]
    split
    · exact ih
    · rename_i h
      intro i hi
      show P (snR _ _ _ i)
      unfold snR
      split
      · rename_i h';exact ih i h'
      · exact hr x (by omega) (by simpa using h)
theorem exK_all (P Q:NLs→Prop) (N:Nat) (O:LL) (hO:∀ i,i<O.1→Q (O.2 i)) (hr:∀ r,Q r→∀ x:Nat,x<N→hasI r.2 x r.1=false→P (snL r x)):∀ k,k≤O.1→∀ i,i<(exK N O k).1→P ((exK N O k).2 i)
  | 0,_=>fun i hi=>absurd hi (Nat.not_lt_zero _)
  | k+1,hk=>exI_all P (O.2 k) (exK N O k) N (exK_all P Q N O hO hr k (by omega)) (fun x hx hh=>hr _ (hO k (by omega)) x hx hh) N (Nat.le_refl _)
theorem hasI_congrJ (f g:Nat→Int) (x:Int):∀ n,(∀ i,i<n→f i=g i)→hasI f x n=hasI g x n
  | 0,_=>rfl
  | n+1,h=>by simp only [hasI];rw [hasI_congrJ f g x n (fun i hi=>h i (by omega)),h n (by omega)]
theorem okD_congrJ (N:Int) (f g:Nat→Int):∀ n,(∀ i,i<n→f i=g i)→okD N f n=okD N g n
  | 0,_=>rfl
  | n+1,h=>by
    simp only [okD,difN]
    rw [okD_congrJ N f g n (fun i hi=>h i (by omega)),h n (by omega),hasI_congrJ f g (g n) n (fun i hi=>h i (by omega))]
def okNL (v:T_Graph) (i:Nat) (r:NLs):Prop:=r.1=i∧okD v.1 r.2 i=true
theorem okNL_sn {v:T_Graph} {i:Nat} {r:NLs} (h:okNL v i r) {x:Nat} (hx:x<v.1.toNat) (hh:hasI r.2 x r.1=false):okNL v (i+1) (snL r x):=by
  obtain ⟨rfl,h2⟩:=h
  refine ⟨rfl,?_⟩
  have e1:∀ j,j<r.1→(snL r x).2 j=r.2 j:=fun j hj=>by show (if j<r.1 then _ else _)=_;rw [if_pos hj]
  have e2:(snL r x).2 r.1=x:=by show (if r.1<r.1 then _ else _)=_;rw [if_neg (Nat.lt_irrefl _)]
  simp only [okD,difN]
  rw [okD_congrJ v.1 (snL r x).2 r.2 r.1 e1,h2,e2,hasI_congrJ (snL r x).2 r.2 x r.1 e1,hh]
  have:inB (x:Int) 0 (v.1 - 1)=true:=by simp [inB];omega
  rw [this];rfl
theorem orD_ok (v:T_Graph):∀ i,∀ j,j<(orD v.1.toNat i).1→okNL v i ((orD v.1.toNat i).2 j)
  | 0=>fun j hj=>⟨rfl,rfl⟩
  | i+1=>exK_all (okNL v (i+1)) (okNL v i) v.1.toNat (orD v.1.toNat i) (orD_ok v i) (fun r hr x hx hh=>okNL_sn hr hx hh) _ (Nat.le_refl _)
theorem rn_ok {v:T_Graph} (hg:isGraphF v=true) {r:NLs} (h:okNL v v.1.toNat r):rnB v r=true∧rnG v r=(v.1,(v.2.1.1,srtB v.2.1.1 (rnD v.2.1.2 r.2)),()):=by
  obtain ⟨h1,h2⟩:=h
  have:=graph_inR hg
  have hb:rnB v r=true:=by
    simp only [rnB,Bool.and_eq_true,beq_iff_eq]
    refine ⟨hg,?_,?_⟩
    · show (r.1:Int)=v.1;rw [h1];omega
    · show okD v.1 r.2 r.1=true;rw [h1];exact h2
  exact ⟨hb,by simp [rnG,hb]⟩
theorem con_try (v:T_Graph) (hg:isGraphF v=true):∀ (d:Nat) (r:NLs) (b:Nat→T_Bar),okNL v r.1 r→r.1+d=v.1.toNat →
    Con Tryz.prog 142 4 [(0,cgO v),(1,cbO v.1 3 v.2.1.1),(2,ctO 0 1 2),(3,brOb v.2.1.1 b)] [rlL r,.pt 2 0 0 0,.pt 2 1 0 0,.pt 1 2 0 0]
      [(0,cgO v),(1,cbO v.1 4 v.2.1.1),(2,ctO 0 1 2),(4,brOb v.2.1.1 (dfs v d r b))] (.tup [])
  | 0,r,b,hok,hd=>by
    have gi:=graph_inR hg
    have hok':okNL v v.1.toNat r:=by
      have:r.1=v.1.toNat:=by omega
      rw [← this];exact hok
    obtain ⟨e1,e2⟩:=rn_ok hg hok'
    have c1:=con_Rename_i v (sm_graph (by omega)) r (by omega)
    rw [e1,e2] at c1
    have c2:=con_CmpF v.2.1.1 (srtB v.2.1.1 (rnD v.2.1.2 r.2)) b (by omega)
    have hlen:((r.1:Int)==v.1)=true:=beq_iff_eq.2 (by omega)
    have hcb:=cm_bf (srtB v.2.1.1 (rnD v.2.1.2 r.2)) b v.2.1.1 0
    show Con _ _ _ _ _ [_,_,_,(4,brOb v.2.1.1 (upB v r.2 b))] _
    unfold upB
    generalize srtB v.2.1.1 (rnD v.2.1.2 r.2)=h at *
    refine csZ Tryz.func142 (fun c hc=>?_)
    by_cases hb:bfD h b v.2.1.1 0=true
    · rw [if_pos hb]
      rw [hb] at hcb
      refine pkD Tryz.func142 hc (cTa v r b h (cmD h b v.2.1.1 0)) ?_
      and_intros
      iterate 2 all_goals (first | exact zI | (exact hlen) | (exact c1) | (exact c2) | (exact hcb) | (intros;simp [All,ntAL,ntA,ntP,ntL];done) | simp only [All])
    · rw [if_neg hb]
      rw [show bfD h b v.2.1.1 0=false by simpa using hb] at hcb
      refine pkD Tryz.func142 hc (cTb v r b h (cmD h b v.2.1.1 0)) ?_
      and_intros
      iterate 2 all_goals (first | exact zI | (exact hlen) | (exact c1) | (exact c2) | (exact hcb) | (intros;simp [All,ntAL,ntA,ntP,ntL];done) | simp only [All])
  | d+1,r,b,hok,hd=>by
    have ih:=con_try v hg d
    have gi:=graph_inR hg
    have hlen:((r.1:Int)==v.1)=false:=beq_eq_false_iff_ne.2 (by omega)
    refine csZ Tryz.func142 (fun c hc=>?_)
    have hR:foldK (fun k b=>if hasI r.2 k r.1=true then b else dfs v d (snL r k) b) v.1.toNat b=dfs v (d+1) r b:=rfl
    generalize dfs v (d+1) r b=R at hR ⊢
    have lo:∀ m k,k+m=v.1.toNat→zR c 142 zf103 (SKt v r k 4 (foldK (fun k b=>if hasI r.2 k r.1=true then b else dfs v d (snL r k) b) k b)) (Post c [(0,cgO v),(1,cbO v.1 4 v.2.1.1),(2,ctO 0 1 2),(4,brOb v.2.1.1 R)] (.tup [])):=by
      intro m
      induction m with
      | zero =>
        intro k hk
        obtain rfl:k=v.1.toNat:=by omega
        have hd0:decide (((v.1.toNat:Nat):Int)<v.1)=false:=decide_eq_false (by omega)
        rw [hR]
        refine pkD Tryz.func142 hc (cTe v r v.1.toNat R) ?_
        and_intros
        iterate 2 all_goals (first | exact zN | (exact hd0) | (intros;simp [All,ntAL,ntA,ntP,ntL];done) | simp only [All])
      | succ m ihm =>
        intro k hk
        have hrec:=ihm (k+1) (by omega)
        have hd0:decide ((k:Int)<v.1)=true:=decide_eq_true (by omega)
        have ch:=con_Contains r k (by omega)
        rw [show foldK (fun k b=>if hasI r.2 k r.1=true then b else dfs v d (snL r k) b) (k+1) b=(if hasI r.2 k r.1=true then foldK (fun k b=>if hasI r.2 k r.1=true then b else dfs v d (snL r k) b) k b else dfs v d (snL r k) (foldK (fun k b=>if hasI r.2 k r.1=true then b else dfs v d (snL r k) b) k b)) from rfl] at hrec
        generalize foldK (fun k b=>if hasI r.2 k r.1=true then b else dfs v d (snL r k) b) k b=B at hrec ⊢
        by_cases hh:hasI r.2 k r.1=true
        · rw [if_pos hh] at hrec
          rw [hh] at ch
          refine pcD hc (cTs v r k B) ?_ hrec
          and_intros
          all_goals (first | exact zN | (exact hd0) | (exact ch) | (intros;simp [All,ntAL,ntA,ntP,ntL];done))
        · rw [if_neg hh] at hrec
          have hh':hasI r.2 k r.1=false:=by simpa using hh
          rw [hh'] at ch
          have cc:=con_copyInts r.1 r.2 (by omega)
          have ci:=ih (snL r k) B (okNL_sn hok (by omega) hh') (by show r.1+1+d=_;omega)
          refine pcD hc (cTr v r k B (dfs v d (snL r k) B)) ?_ hrec
          repeat' (first | exact aN | apply aI)
          all_goals (first | exact zN | (exact hd0) | (exact ch) | (exact cc) | (refine Con.arg_ext ci ?_;refine ⟨rfl,fun i hi=>?_,rfl,rfl,rfl,trivial⟩;by_cases h':i<r.1<;>simp [h',snL,snJ,cellP,tg,tru]) | (intros;simp [All,ntAL,ntA,ntP,ntL];done))
    refine pcD hc (cTz v r b) ?_ (lo v.1.toNat 0 (by omega))
    and_intros
    all_goals (first | exact zN | (exact hlen) | (intros;simp [All,ntAL,ntA,ntP,ntL];done))
theorem con_Orders (N:Nat) (hN:N≤5):zE 145 [.p (.int .i64 N)] [(0,rlOb (orD N N).1 (orD N N).2)] (.ar 1 0 0 (orD N N).1):=by
  refine csZ Tryz.func145 (fun c hc=>?_)
  generalize hR:orD N N=R
  have P5:∀ i,i≤5→5 ^ i≤3125:=by
    intro i hi
    have:5 ^ i≤5 ^ 5:=Nat.pow_le_pow_right (by omega) hi
    exact this
  have lens:∀ i,∀ j,j<(orD N i).1→((orD N i).2 j).1=i:=by
    have hv:((N:Int),((0,fun _=>(0,0,())):T_BarS),()).1.toNat=N:=Int.toNat_natCast N
    intro i j hj
    have:=orD_ok ((N:Int),((0,fun _=>(0,0,())):T_BarS),()) i j (by rw [hv];exact hj)
    rw [hv] at this
    exact this.1
  have lx:∀ i,i<N→∀ k,k<(orD N i).1→∀ A:LL,A.1+N≤20000 →
      (zR c 145 zf8 (SKp N i (orD N i).1 (k+1) (exI ((orD N i).2 k) A N).1 (orD N i).2 (exI ((orD N i).2 k) A N).2) (Post c [(0,rlOb R.1 R.2)] (.ar 1 0 0 R.1))) →
      ∀ m x,x+m=N→zR c 145 zf3 (SKq N i (orD N i).1 k (exI ((orD N i).2 k) A x).1 x (orD N i).2 (exI ((orD N i).2 k) A x).2) (Post c [(0,rlOb R.1 R.2)] (.ar 1 0 0 R.1)):=by
    intro i hi k hk A hA hnext m
    induction m with
    | zero =>
      intro x hx
      obtain rfl:x=N:=by omega
      have hd:decide ((x:Int)<(x:Int))=false:=by simp
      have hO:=orD_n x hN i
      have h5:=P5 i (by omega)
      refine pcZ hc (cOe x i (orD x i).1 k (exI ((orD x i).2 k) A x).1 x (orD x i).2 (exI ((orD x i).2 k) A x).2) ?_ hnext
      and_intros
      all_goals (first | exact zN | (exact hd) | (intros;simp [All];done))
    | succ m ih =>
      intro x hx
      have hrec:=ih (x+1) (by omega)
      have hd:decide ((x:Int)<(N:Int))=true:=decide_eq_true (by omega)
      have hlen:=lens i k hk
      have hO:=orD_n N hN i
      have h5:=P5 i (by omega)
      have hA':=exI_n ((orD N i).2 k) A x
      have ch:=con_l2Has ((orD N i).2 k) x (by omega)
      simp only [exI] at hrec
      generalize exI ((orD N i).2 k) A x=B at hA' hrec ⊢
      generalize orD N i=O at *
      by_cases hh:hasI (O.2 k).2 x (O.2 k).1=true
      · rw [if_pos hh] at hrec
        rw [hh] at ch
        refine pcZ hc (cOd N i O.1 k B.1 x O.2 B.2) ?_ hrec
        and_intros
        all_goals (first | exact zN | (exact hd) | (exact ch) | (intros;simp [All];done))
      · rw [if_neg hh] at hrec
        have hh':hasI (O.2 k).2 x (O.2 k).1=false:=by simpa using hh
        rw [hh'] at ch
        refine pcZ hc (cOc N i O.1 k B.1 x O.2 B.2 (snR B.1 B.2 (snL (O.2 k) x))) ?_ hrec
        and_intros
        all_goals (first | exact zN | (exact hd) | (exact ch) | (intro t ht;simp [All];done) | (intro t ht;by_cases h:t<B.1;(simp [h,snR,cvtL,cvt,tg,tru,All]);(simp only [h,if_false];simp [h,snR,snL,cvtL,cvt,lendP,cellP,tab,idx,idx1,lkk,idO,idM,Ob.isF,List.lookup,tg,tru,All];funext s;by_cases h2:s<(O.2 k).1<;>simp [h2,snJ,cellP,tg])))
  have lk:∀ i,i<N→(zR c 145 zf66 (SKo N (i+1) (orD N (i+1)).1 (orD N (i+1)).2) (Post c [(0,rlOb R.1 R.2)] (.ar 1 0 0 R.1))) →
      ∀ m k,k+m=(orD N i).1→zR c 145 zf8 (SKp N i (orD N i).1 k (exK N (orD N i) k).1 (orD N i).2 (exK N (orD N i) k).2) (Post c [(0,rlOb R.1 R.2)] (.ar 1 0 0 R.1)):=by
    intro i hi hnext m
    induction m with
    | zero =>
      intro k hk
      obtain rfl:k=(orD N i).1:=by omega
      have hd:decide (((orD N i).1:Int)<((orD N i).1:Int))=false:=by simp
      rw [orD] at hnext
      refine pcZ hc (cOf N i (orD N i).1 (orD N i).1 (exK N (orD N i) (orD N i).1).1 (orD N i).2 (exK N (orD N i) (orD N i).1).2) ?_ hnext
      and_intros
      all_goals (first | exact zN | (exact hd) | (intros;simp [All];done))
    | succ m ih =>
      intro k hk
      have hrec:=ih (k+1) (by omega)
      have hd:decide ((k:Int)<((orD N i).1:Int))=true:=decide_eq_true (by omega)
      have hO:=orD_n N hN i
      have h5:=P5 i (by omega)
      have hK:=exK_n N (orD N i) k
      have hK2:k*N≤3125*5:=Nat.mul_le_mul (by omega) hN
      refine pcZ hc (cOb N i (orD N i).1 k (exK N (orD N i) k).1 (orD N i).2 (exK N (orD N i) k).2) ?_ (lx i hi k (by omega) (exK N (orD N i) k) (by omega) hrec N 0 (by omega))
      and_intros
      all_goals (first | exact zN | (exact hd) | (intros;simp [All];done))
  have lo:∀ m i,i+m=N→zR c 145 zf66 (SKo N i (orD N i).1 (orD N i).2) (Post c [(0,rlOb R.1 R.2)] (.ar 1 0 0 R.1)):=by
    intro m
    induction m with
    | zero =>
      intro i hi
      obtain rfl:i=N:=by omega
      have hd:decide ((i:Int)<(i:Int))=false:=by simp
      rw [hR]
      refine pkZ Tryz.func145 hc (cOg i i R.1 R.2) ?_
      and_intros
      iterate 2 all_goals (first | exact zN | (exact hd) | (intros;simp [All,ntAL,ntA,ntP,ntL];done) | simp only [All])
    | succ m ih =>
      intro i hi
      have hrec:=ih (i+1) (by omega)
      have hd:decide ((i:Int)<(N:Int))=true:=decide_eq_true (by omega)
      refine pcZ hc (cOa N i (orD N i).1 (orD N i).2) ?_ (lk i (by omega) hrec (orD N i).1 0 (by omega))
      and_intros
      iterate 2 all_goals (first | exact zN | (exact hd) | (intro t ht;exact absurd ht (Nat.not_lt_zero _)) | (intros;simp [All];done) | simp only [All])
  refine pcZ hc (cOz N) ?_ (lo N 0 (by omega))
  repeat' (first | exact aN | apply aI)
  iterate 2 all_goals (first | exact zN | (intro t ht;exact ⟨⟨trivial,Nat.le_refl _,trivial⟩,rfl⟩) | simp only [All])
def cnQ (v:T_Graph):Bool:=isGraphF v&&decide (v.1≤5)
def cnG (v:T_Graph):T_Graph:=if cnQ v=true then (v.1,(v.2.1.1,dfs v v.1.toNat zNL v.2.1.2),()) else (0,(0,fun _=>(0,0,())),())
theorem cnG_n (v:T_Graph):(cnG v).2.1.1≤24:=by
  unfold cnG
  split
  · rename_i h
    simp only [cnQ,Bool.and_eq_true] at h
    exact (graph_inR h.1).2.2.1
  · exact Nat.zero_le _
theorem cn_dec (v:T_Graph):(bif !isGraphF v then true else decide (v.1>5))=!cnQ v:=by
  unfold cnQ
  cases isGraphF v with
  | false=>rfl
  | true =>
    by_cases h:v.1>5
    · simp [h,show ¬ v.1≤5 by omega]
    · simp [h,show v.1≤5 by omega]
theorem con_Canon_i (v:T_Graph) (hs:smS s_Graph v):zE 68 [graphA v] [(0,brOb (cnG v).2.1.1 (cnG v).2.1.2)] (.tup [.agg [.p (.int .i64 (cnG v).1),.ar 2 0 0 (cnG v).2.1.1],.p (.bool (cnQ v))]):=by
  have c1:=con_IsGraph_i v hs
  have hd:=cn_dec v
  refine csZ Tryz.func68 (fun c hc=>?_)
  cases hb:cnQ v with
  | false =>
    rw [show cnG v=(0,(0,fun _=>(0,0,())),()) by simp [cnG,hb]]
    have hd':(bif !isGraphF v then true else decide (v.1>5))=true:=by rw [hd,hb];rfl
    refine pkZ Tryz.func68 hc (cIy v (isGraphF v)) ?_
    and_intros
    all_goals (first | exact zH | (exact c1) | (exact hd') | (intro t ht;exact absurd ht (Nat.not_lt_zero _)))
  | true =>
    have hd':(bif !isGraphF v then true else decide (v.1>5))=false:=by rw [hd,hb];rfl
    rw [show cnG v=(v.1,(v.2.1.1,dfs v v.1.toNat zNL v.2.1.2),()) by simp [cnG,hb]]
    simp only [cnQ,Bool.and_eq_true,decide_eq_true_eq] at hb
    have gi:=graph_inR hb.1
    have c2:=con_copyGraph v (by omega)
    have c3:=con_try v hb.1 v.1.toNat zNL v.2.1.2 ⟨rfl,rfl⟩ (by show 0+v.1.toNat=_;omega)
    refine pkD Tryz.func68 hc (cIz v (isGraphF v) v.2.1.2 (dfs v v.1.toNat zNL v.2.1.2)) ?_
    repeat' (first | exact aN | apply aI)
    all_goals (first | exact zH | (exact c1) | (exact hd') | (exact c2) | (refine Con.arg_ext c3 ?_;refine ⟨rfl,fun i hi=>absurd hi (Nat.not_lt_zero _),rfl,rfl,rfl,trivial⟩) | (intros;simp [All,ntAL,ntA,ntP,ntL];done))
theorem con_Canon_s (v:T_Graph) (hs:smS s_Graph v):zE 69 [graphA v] [(0,brOb (cnG v).2.1.1 (cnG v).2.1.2)] (.tup [.agg [.p (.int .i64 (cnG v).1),.ar 2 0 0 (cnG v).2.1.1],.p (.bool (cnQ v))]):=by
  have c1:=con_IsGraph_s v hs
  have hd:=cn_dec v
  refine csZ Tryz.func69 (fun c hc=>?_)
  cases hb:cnQ v with
  | false =>
    rw [show cnG v=(0,(0,fun _=>(0,0,())),()) by simp [cnG,hb]]
    have hd':(bif !isGraphF v then true else decide (v.1>5))=true:=by rw [hd,hb];rfl
    refine pkZ Tryz.func69 hc (cSy v (isGraphF v)) ?_
    and_intros
    all_goals (first | exact zH | (exact c1) | (exact hd') | (intro t ht;exact absurd ht (Nat.not_lt_zero _)))
  | true =>
    have hd':(bif !isGraphF v then true else decide (v.1>5))=false:=by rw [hd,hb];rfl
    rw [show cnG v=(v.1,(v.2.1.1,dfs v v.1.toNat zNL v.2.1.2),()) by simp [cnG,hb]]
    simp only [cnQ,Bool.and_eq_true,decide_eq_true_eq] at hb
    have gi:=graph_inR hb.1
    have c2:=con_l2Copy v (by omega)
    have c3:=con_Orders v.1.toNat (by omega)
    have hN:((v.1.toNat:Nat):Int)=v.1:=by omega
    rw [hN] at c3
    have hod:=orders_dfs v v.2.1.2 v.1.toNat 0
    rw [Nat.add_zero] at hod
    have hok:=orD_ok v v.1.toNat
    have hOn:=orD_n v.1.toNat (by omega) v.1.toNat
    have h5:5 ^ v.1.toNat≤5 ^ 5:=Nat.pow_le_pow_right (by omega) (by omega)
    generalize orD v.1.toNat v.1.toNat=O at *
    generalize dfs v v.1.toNat zNL v.2.1.2=R at *
    have lo:∀ d k,k+d=O.1→zR c 69 zf31 (SKc v k O.1 O.2 (foldK (fun i a=>dfs v 0 (O.2 i) a) k v.2.1.2)) (Post c [(0,brOb v.2.1.1 R)] (.tup [.agg [.p (.int .i64 v.1),.ar 2 0 0 v.2.1.1],.p (.bool true)])):=by
      intro d
      induction d with
      | zero =>
        intro k hk
        obtain rfl:k=O.1:=by omega
        have hd0:decide ((O.1:Int)<(O.1:Int))=false:=by simp
        rw [show foldK (fun i a=>dfs v 0 (O.2 i) a) O.1 v.2.1.2=R from hod]
        refine pkZ Tryz.func69 hc (cSe v O.1 O.1 O.2 R) ?_
        and_intros
        all_goals (first | exact zI | (exact hd0) | (intros;simp [All,ntAL,ntA,ntP,ntL];done))
      | succ d ih =>
        intro k hk
        have hrec:=ih (k+1) (by omega)
        have hd0:decide ((k:Int)<(O.1:Int))=true:=decide_eq_true (by omega)
        have hok':=hok k (by omega)
        obtain ⟨e1,e2⟩:=rn_ok hb.1 hok'
        have c4:=con_Rename_s v hs (O.2 k) (by have:=hok'.1;omega)
        rw [e1,e2] at c4
        rw [show foldK (fun i a=>dfs v 0 (O.2 i) a) (k+1) v.2.1.2=upB v (O.2 k).2 (foldK (fun i a=>dfs v 0 (O.2 i) a) k v.2.1.2) from rfl] at hrec
        generalize foldK (fun i a=>dfs v 0 (O.2 i) a) k v.2.1.2=B at hrec ⊢
        unfold upB at hrec
        generalize srtB v.2.1.1 (rnD v.2.1.2 (O.2 k).2)=h at *
        have c5:=con_Before (v.1,(v.2.1.1,h),()) (v.1,(v.2.1.1,B),()) rfl (by show v.2.1.1≤_;omega)
        change Con _ _ _ _ _ _ (.p (.bool (bfD h B v.2.1.1 0))) at c5
        by_cases hh:bfD h B v.2.1.1 0=true
        · rw [if_pos hh] at hrec
          rw [hh] at c5
          refine pcD hc (cSa v k O.1 O.2 B h) ?_ hrec
          and_intros
          all_goals (first | exact zI | (exact hd0) | (exact c4) | (exact c5) | (intros;simp [All];done))
        · rw [if_neg hh] at hrec
          have hh':bfD h B v.2.1.1 0=false:=by simpa using hh
          rw [hh'] at c5
          refine pcD hc (cSb v k O.1 O.2 B h) ?_ hrec
          and_intros
          all_goals (first | exact zI | (exact hd0) | (exact c4) | (exact c5) | (intros;simp [All];done))
    refine pcD hc (cSz v (isGraphF v) v.2.1.2 O.1 O.2) ?_ (lo O.1 0 (by omega))
    and_intros
    all_goals (first | exact zH | (exact c1) | (exact hd') | (exact c2) | (exact c3) | (intros;simp [All];done))
end Go.Proofs.YtkepkjbofchckaaGreat.Mach
namespace Go.Proofs.YtkepkjbofchckaaGreat.Mat
set_option linter.unusedVariables false
set_option linter.unusedSimpArgs false
noncomputable def rk (N:Nat) (L:List (Nat×Nat)):Nat:=(greedy N 2 3 [] L).length
def Imp (N:Nat) (I:List (Nat×Nat)) (a b:Nat):Prop:=∃ R,Tight N I R∧R a=true∧R b=true
theorem cnt_tri (A B C:Nat→Bool):∀ l,cnt A l+cnt B l+cnt C l≤cnt (uni (uni A B) C) l+cnt (cap2 A B) l+cnt (cap2 A C) l+cnt (cap2 B C) l
  | []=>by simp [cnt]
  | x::l=>by
    have:=cnt_tri A B C l
    simp only [cnt,inn,uni,cap2] at *
    cases A x.1<;>cases B x.1<;>cases C x.1<;>cases A x.2<;>cases B x.2<;>cases C x.2<;>simp<;>omega
theorem card_tri (A B C:Nat→Bool):∀ n,cardR A n+cardR B n+cardR C n+cardR (cap2 (cap2 A B) C) n=cardR (uni (uni A B) C) n+cardR (cap2 A B) n+cardR (cap2 A C) n+cardR (cap2 B C) n
  | 0=>rfl
  | n+1=>by
    have:=card_tri A B C n
    simp only [cardR,uni,cap2] at *
    cases A n<;>cases B n<;>cases C n<;>simp<;>omega
theorem cnt_zero_of {N:Nat} {I:List (Nat×Nat)} (hI:Sparse N 2 3 I) {R:Nat→Bool} (h:cardR R N≤1):cnt R I=0:=by
  have:=hI R
  by_cases e:0<cnt R I
  · have:=this e;omega
  · omega
theorem tight_union2 {N:Nat} {I:List (Nat×Nat)} (hI:Sparse N 2 3 I) {R S:Nat→Bool} (h1:Tight N I R) (h2:Tight N I S) (h:2≤cardR (cap2 R S) N):Tight N I (uni R S):=by
  have c1:=card_uni R S N
  have c2:=cnt_uni R S I
  have c3:=cnt_mono R (uni R S) (fun v h=>by simp [uni,h]) I
  have c4:=hI (uni R S)
  have c5:=hI (cap2 R S)
  unfold Tight at *
  by_cases e:0<cnt (cap2 R S) I
  · have:=c5 e;have:=c4 (by omega);omega
  · have:=c4 (by omega);omega
theorem card_none (R:Nat→Bool):∀ n,(∀ v,v<n→R v=false)→cardR R n=0
  | 0,_=>rfl
  | n+1,h=>by simp [cardR,card_none R n (fun v hv=>h v (by omega)),h n (by omega)]
theorem card_one_only (R:Nat→Bool) (a:Nat) (ra:R a=true):∀ n,a<n→cardR R n≤1→∀ v,v<n→R v=true→v=a:=by
  intro n ha h v hv hr
  by_cases e:v=a
  · exact e
  · have:=card_two R v a hr ra e n hv ha
    omega
theorem tight_tri {N:Nat} {I:List (Nat×Nat)} (hI:Sparse N 2 3 I) {a b c:Nat} (ha:a<N) (hb:b<N) (hc:c<N) (hab:a≠b) (hac:a≠c) (hbc:b≠c)
    (h1:Imp N I a b) (h2:Imp N I a c) (h3:Imp N I b c):∃ R,Tight N I R∧R a=true∧R b=true∧R c=true:=by
  obtain ⟨A,tA,a1,a2⟩:=h1
  obtain ⟨B,tB,b1,b2⟩:=h2
  obtain ⟨C,tC,c1,c2⟩:=h3
  by_cases k1:2≤cardR (cap2 A B) N
  · exact ⟨_,tight_union2 hI tA tB k1,by simp [uni,a1],by simp [uni,a2],by simp [uni,b2]⟩
  by_cases k2:2≤cardR (cap2 A C) N
  · exact ⟨_,tight_union2 hI tA tC k2,by simp [uni,a1],by simp [uni,a2],by simp [uni,c2]⟩
  by_cases k3:2≤cardR (cap2 B C) N
  · exact ⟨_,tight_union2 hI tB tC k3,by simp [uni,b1],by simp [uni,c1],by simp [uni,b2]⟩
  cases ca:C a with
  | true=>exact ⟨C,tC,ca,c1,c2⟩
  | false =>
    have e1:cardR (cap2 (cap2 A B) C) N=0:=by
      refine card_none _ _ (fun v hv=>?_)
      cases e:cap2 (cap2 A B) C v with
      | false=>rfl
      | true =>
        simp only [cap2,Bool.and_eq_true] at e
        have:=card_one_only (cap2 A B) a (by simp [cap2,a1,b1]) N ha (by omega) v hv (by simp [cap2,e.1.1,e.1.2])
        subst this
        rw [ca] at e
        exact absurd e.2 (by simp)
    have f1:=cnt_tri A B C I
    have f2:=card_tri A B C N
    have g1:=card_one (cap2 A B) a (by simp [cap2,a1,b1]) N ha
    have g2:=card_one (cap2 A C) b (by simp [cap2,a2,c1]) N hb
    have g3:=card_one (cap2 B C) c (by simp [cap2,b2,c2]) N hc
    have z1:=cnt_zero_of hI (R:=cap2 A B) (by omega)
    have z2:=cnt_zero_of hI (R:=cap2 A C) (by omega)
    have z3:=cnt_zero_of hI (R:=cap2 B C) (by omega)
    have c4:=hI (uni (uni A B) C)
    have m1:=cnt_mono A (uni (uni A B) C) (fun v h=>by simp [uni,h]) I
    refine ⟨uni (uni A B) C,?_,by simp [uni,a1],by simp [uni,a2],by simp [uni,b2]⟩
    have d1:=card_two A a b a1 a2 hab N ha hb
    unfold Tight at *
    have:=c4 (by omega)
    omega
theorem ground_tight {N:Nat} {I:List (Nat×Nat)} (hI:Sparse N 2 3 I) (gr:Nat→Nat):∀ m,2≤m→(∀ i,i<m→gr i<N)→(∀ i j,i<j→j<m→gr i≠gr j) →
    (∀ i,1≤i→i<m→Imp N I (gr 0) (gr i))→(∀ i,2≤i→i<m→Imp N I (gr 1) (gr i))→∃ R,Tight N I R∧∀ i,i<m→R (gr i)=true
  | 0,h,_,_,_,_=>absurd h (by omega)
  | 1,h,_,_,_,_=>absurd h (by omega)
  | 2,_,hN,hd,h0,h1=>by
    obtain ⟨R,t,r1,r2⟩:=h0 1 (Nat.le_refl _) (by omega)
    refine ⟨R,t,fun i hi=>?_⟩
    rcases (show i=0∨i=1 by omega) with rfl | rfl
    · exact r1
    · exact r2
  | m+3,_,hN,hd,h0,h1=>by
    obtain ⟨R,t,r⟩:=ground_tight hI gr (m+2) (by omega) (fun i hi=>hN i (by omega)) (fun i j h1 h2=>hd i j h1 (by omega)) (fun i h1 h2=>h0 i h1 (by omega)) (fun i h2 h3=>h1 i h2 (by omega))
    obtain ⟨T,tt,t0,t1,t2⟩:=tight_tri hI (hN 0 (by omega)) (hN 1 (by omega)) (hN (m+2) (by omega)) (hd 0 1 (by omega) (by omega)) (hd 0 (m+2) (by omega) (by omega)) (hd 1 (m+2) (by omega) (by omega))
      (h0 1 (Nat.le_refl _) (by omega)) (h0 (m+2) (by omega) (by omega)) (h1 (m+2) (by omega) (by omega))
    refine ⟨_,tight_union hI t tt (gr 0) (gr 1) (hd 0 1 (by omega) (by omega)) (hN 0 (by omega)) (hN 1 (by omega)) (r 0 (by omega)) (r 1 (by omega)) t0 t1,fun i hi=>?_⟩
    rcases Nat.lt_or_ge i (m+2) with h | h
    · simp [uni,r i h]
    · obtain rfl:i=m+2:=by omega
      simp [uni,t2]
theorem not_sparse_of_tight {N:Nat} {I:List (Nat×Nat)} {R:Nat→Bool} (h:Tight N I R) {x:Nat×Nat} (hx:inn R x=true):¬ Sparse N 2 3 (I++[x]):=by
  intro hs
  have h1:=hs R
  rw [cnt_append] at h1
  have hc:cnt R [x]=1:=by simp [cnt,hx]
  rw [hc] at h1
  have:=h1 (by omega)
  unfold Tight at h
  omega
theorem greedy_skip {N:Nat} {I:List (Nat×Nat)}:∀ xs:List (Nat×Nat),(∀ x∈xs,∃ R,Tight N I R∧inn R x=true)→greedy N 2 3 I xs=I
  | [],_=>rfl
  | x::xs,h=>by
    obtain ⟨R,t,r⟩:=h x (by simp)
    simp only [greedy]
    rw [if_neg (not_sparse_of_tight t r)]
    exact greedy_skip xs (fun y hy=>h y (by simp [hy]))
structure Grd (N m:Nat) (gr:Nat→Nat) (S:List (Nat×Nat)):Prop where
  two:2≤m
  lt:∀ i,i<m→gr i<N
  ne:∀ i j,i<j→j<m→gr i≠gr j
  b0:∀ i,1≤i→i<m→(gr 0,gr i)∈S
  b1:∀ i,2≤i→i<m→(gr 1,gr i)∈S
theorem Grd.tight {N m:Nat} {gr:Nat→Nat} {S L:List (Nat×Nat)} (h:Grd N m gr S) (hL:∀ x∈L,GoodBar N x) (hs:∀ x∈S,x∈L) :
    ∃ R,Tight N (greedy N 2 3 [] L) R∧∀ i,i<m→R (gr i)=true:=by
  have ht:=greedy_tight L [] hL (sparse_nil N 2 3)
  have imp:∀ x∈S,Imp N (greedy N 2 3 [] L) x.1 x.2:=by
    intro x hx
    obtain ⟨R,t,r⟩:=ht x (hs x hx)
    simp only [inn,Bool.and_eq_true] at r
    exact ⟨R,t,r.1,r.2⟩
  exact ground_tight (greedy_sparse N 2 3 L [] (sparse_nil N 2 3)) gr m h.two h.lt h.ne (fun i h1 h2=>imp _ (h.b0 i h1 h2)) (fun i h1 h2=>imp _ (h.b1 i h1 h2))
theorem Grd.same {N m:Nat} {gr:Nat→Nat} {S L M:List (Nat×Nat)} (h:Grd N m gr S) (hL:∀ x∈L,GoodBar N x) (hM:∀ x∈M,GoodBar N x) (hs:∀ x∈S,x∈L) (hLM:∀ x∈L,x∈M)
    (hML:∀ x∈M,x∈L∨∃ i j,i<m∧j<m∧x=(gr i,gr j)):rk N M=rk N L:=by
  obtain ⟨R,t,r⟩:=h.tight hL hs
  have e1:rk N M=rk N (L++M):=rank_same M (L++M) hM (fun x=>by
    simp only [List.mem_append]
    exact ⟨fun h=>.inr h,fun h'=>h'.elim (hLM x) id⟩)
  rw [e1]
  unfold rk
  rw [greedy_append,greedy_skip M (fun x hx=>?_)]
  rcases hML x hx with h' | ⟨i,j,hi,hj,rfl⟩
  · exact greedy_tight L [] hL (sparse_nil N 2 3) x h'
  · exact ⟨R,t,by simp [inn,r i hi,r j hj]⟩
end Go.Proofs.YtkepkjbofchckaaGreat.Mat
