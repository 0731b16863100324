/- What the law Se needs, part 3 of 5: the abstract machine and the contracts of the functions. Conditions: as each theorem says. -/
import Derived.Shelf.SlSortCmp.NoneTotal
import Derived.Shelf.SlGeneric
import Derived.Ground.SlgmProg
import Derived.Ground.SlgnProg
import Derived.Shelf.SortM.Plain
import Derived.Shelf.SortM.SortNone
import Derived.Shelf.SlicesG.CompactI
import Derived.Test.YtkkjoghiigiokaaGreatSeP2
namespace Go.Proofs.YtkkjoghiigiokaaGreat.Mach
open Go
set_option linter.unusedVariables false
set_option linter.unusedSimpArgs false
def SG (g:Nat→T_Bar) (nb N m:Nat) (F T Q:Nat→Int) (a b want:Int):St :=
  ⟨[brL g nb,.pt 3 0 0 0,.p (.int .i64 a),.p (.int .i64 b),.p (.int .i64 want)]++List.replicate 37 anyA,pebH N m F T Q,4⟩
def pebH2 (N m:Nat) (F T Q:Nat→Int):Hp:=[(0,⟨true,3,1,fun _=>[.ar 1 1 0 N,.ar 1 4 0 m,.ar 1 5 0 m]⟩),(1,iOb N F),(4,iOb m T),(5,iOb m Q)]
theorem pGz (g:Nat→T_Bar) (nb N m:Nat) (F T Q:Nat→Int) (a b want:Int) :
    zM 4 [rg 1,.head] [.code (bodyOf Tryz.f378)] (start Tryz.f378 (pebH N m F T Q) 4 [brL g nb,.pt 3 0 0 0,.p (.int .i64 a),.p (.int .i64 b),.p (.int .i64 want)]) [0,1,2,3] 1 (SG g nb N m F T Q a b want) =
    some (zf88,[(AN nb),(AP nb (bRw g)),(AN 0),(AI a),(AI b),(AI want),(AN 3),(NL 1 1),(NL 1 1),(AN 0),(AN N),(AN 0),(AN m),(AN 0),(AN m),(AN 1),(NL N N),(AA N (fun i=>[.p (.int .i64 (F i))])),(AN 1),(NL m m),(AA m (fun i=>[.p (.int .i64 (T i))])),(AN 1),(NL m m),(AA m (fun i=>[.p (.int .i64 (Q i))]))]):=by kernel_rfl
theorem pGa (g:Nat→T_Bar) (nb N m:Nat) (F T Q F1 T1:Nat→Int) (a b want:Int) :
    zM 4 [rg 17,.dec true,rm [(4,oq [0,1,2,3] (pebH N m F1 T1 Q) (.p (.bool true))),(2,gF),(0,gF),(0,gF),(0,gF),(0,gF),(0,gF),(0,gF)] 0,.dec false,.head] zf88 (SG g nb N m F T Q a b want) [0,1,2,3] 1 (SG g nb N m F1 T1 Q a b want) =
    some (zf88,zD [(NT 0 1),(IL 0 a),(IT a (↑N:Int)),(NT a.toNat N),(IL 0 b),(IT b (↑N:Int)),(NT b.toNat N),(ZLo (F a.toNat+F b.toNat)),(ZHi (F a.toNat+F b.toNat)),((decide (F (a.toNat+0)+F (b.toNat+0)<want))=true),(AE 1),(AE N),(AE m),Con Tryz.prog 408 4 (zf18 N m F T Q) [.p (.seq true 2 nb (bRw g)),.pt 3 0 0 0,.p (.int .i64 a),.p (.int .i64 b)] (zf18 N m F1 T1 Q) (.p (.bool true)),((!true)=false),(false=false),(AN nb),(AP nb (bRw g)),(AN 0),(AI a),(AI b),(AI want),(AN 3),(NL 1 1),(AN N),(AN m),(AN 1),(NL N N),(AA N (fun i=>[.p (.int .i64 (F1 i))])),(NL m m),(AA m (fun i=>[.p (.int .i64 (T1 i))])),(AA m (fun i=>[.p (.int .i64 (Q i))]))] [0,1,2,3,0,4,5,6,7,8,9,10,11,12,12,13,14,14,14,14,14,14,14,15,16,17,18,19,20,21,22,23,23,18,24,18,25,18,25,26,27,28,26,29,30,26,29,31]):=by kernel_rfl
theorem pGb (g:Nat→T_Bar) (nb N m:Nat) (F T Q F1 T1 F2 T2:Nat→Int) (a b want:Int) :
    zM 4 [rg 17,.dec true,rm [(4,oq [0,1,2,3] (pebH N m F1 T1 Q) (.p (.bool false))),(2,gT),(0,gT),(0,gT),(0,gT),(0,⟨true,(some ⟨[0,1,2,3],[],[],1,pebH N m F2 T2 Q,.p (.bool true)⟩),some true⟩),(0,gT),(0,gT)] 0,.dec false,.head] zf88 (SG g nb N m F T Q a b want) [0,1,2,3] 1 (SG g nb N m F2 T2 Q a b want) =
    some (zf88,zD [(NT 0 1),(IL 0 a),(IT a (↑N:Int)),(NT a.toNat N),(IL 0 b),(IT b (↑N:Int)),(NT b.toNat N),(ZLo (F a.toNat+F b.toNat)),(ZHi (F a.toNat+F b.toNat)),((decide (F (a.toNat+0)+F (b.toNat+0)<want))=true),(AE 1),(AE N),(AE m),Con Tryz.prog 408 4 (zf18 N m F T Q) [.p (.seq true 2 nb (bRw g)),.pt 3 0 0 0,.p (.int .i64 a),.p (.int .i64 b)] (zf18 N m F1 T1 Q) (.p (.bool false)),((!false)=true),Con Tryz.prog 408 4 (zf18 N m F1 T1 Q) [.p (.seq true 2 nb (bRw g)),.pt 3 0 0 0,.p (.int .i64 b),.p (.int .i64 a)] (zf18 N m F2 T2 Q) (.p (.bool true)),((!true)=false),(AN nb),(AP nb (bRw g)),(AN 0),(AI a),(AI b),(AI want),(AN 3),(NL 1 1),(AN N),(AN m),(AN 1),(NL N N),(AA N (fun i=>[.p (.int .i64 (F2 i))])),(NL m m),(AA m (fun i=>[.p (.int .i64 (T2 i))])),(AA m (fun i=>[.p (.int .i64 (Q i))]))] [0,1,2,3,0,4,5,6,7,8,9,10,11,12,12,13,14,14,14,14,14,10,11,12,12,15,14,14,16,17,18,19,20,21,22,23,24,24,19,25,19,26,19,26,27,28,29,27,30,31,27,30,32]):=by kernel_rfl
theorem pGc (g:Nat→T_Bar) (nb N m:Nat) (F T Q F1 T1 F2 T2:Nat→Int) (a b want:Int) :
    zP Tryz.f378 4 [rg 17,.dec true,rm [(4,oq [0,1,2,3] (pebH N m F1 T1 Q) (.p (.bool false))),(2,gT),(0,gT),(0,gT),(0,gT),(0,⟨true,(some ⟨[0,1,2,3],[],[],1,pebH N m F2 T2 Q,.p (.bool false)⟩),some true⟩),(0,gT),(0,gT)] 0,.dec true,rg 1] zf88 (SG g nb N m F T Q a b want) [0,1,2,3] 1 (pebH N m F2 T2 Q) (.p (.bool false)) =
    some (zD [(NT 0 1),(IL 0 a),(IT a (↑N:Int)),(NT a.toNat N),(IL 0 b),(IT b (↑N:Int)),(NT b.toNat N),(ZLo (F a.toNat+F b.toNat)),(ZHi (F a.toNat+F b.toNat)),((decide (F (a.toNat+0)+F (b.toNat+0)<want))=true),(AE 1),(AE N),(AE m),Con Tryz.prog 408 4 (zf18 N m F T Q) [.p (.seq true 2 nb (bRw g)),.pt 3 0 0 0,.p (.int .i64 a),.p (.int .i64 b)] (zf18 N m F1 T1 Q) (.p (.bool false)),((!false)=true),Con Tryz.prog 408 4 (zf18 N m F1 T1 Q) [.p (.seq true 2 nb (bRw g)),.pt 3 0 0 0,.p (.int .i64 b),.p (.int .i64 a)] (zf18 N m F2 T2 Q) (.p (.bool false)),(false=false),(AN 3),(NL 1 1),(AN 0),(AN N),(AN m),(AN 1),(NL N N),(AA N (fun i=>[.p (.int .i64 (F2 i))])),(NL m m),(AA m (fun i=>[.p (.int .i64 (T2 i))])),(AA m (fun i=>[.p (.int .i64 (Q i))]))] [0,1,2,3,0,4,5,6,7,8,9,10,11,12,12,13,14,14,14,14,14,10,11,12,12,15,14,14,14,16,17,18,18,19,20,19,21,19,21,22,23,24,22,25,26,22,25,27,10,11,12,12]):=by kernel_rfl
theorem pGd (g:Nat→T_Bar) (nb N m:Nat) (F T Q:Nat→Int) (a b want:Int) :
    zP Tryz.f378 4 [rg 17,.dec false,rg 1] zf88 (SG g nb N m F T Q a b want) [0,1,2,3] 1 (pebH N m F T Q) (.p (.bool true)) =
    some [(NT 0 1),(IL 0 a),(IT a (↑N:Int)),(NT a.toNat N),(NT 0 1),(IL 0 b),(IT b (↑N:Int)),(NT b.toNat N),(ZLo (F a.toNat+F b.toNat)),(ZHi (F a.toNat+F b.toNat)),((decide (F (a.toNat+0)+F (b.toNat+0)<want))=false),(true=true),(AN 3),(NL 1 1),(NL 1 1),(AN 0),(AN N),(AN 0),(AN m),(AN 0),(AN m),(AN 1),(NL N N),(AA N (fun i=>[.p (.int .i64 (F i))])),(AN 1),(NL m m),(AA m (fun i=>[.p (.int .i64 (T i))])),(AN 1),(NL m m),(AA m (fun i=>[.p (.int .i64 (Q i))])),(AE 1),(AE N),(AE m),(AE m)]:=by kernel_rfl
theorem pPf (g:Nat→T_Bar) (nb N m:Nat) (F T Q F1 T1:Nat→Int) (l:Int) (e:Nat) :
    zP Tryz.f344 4 [rg 1,rg 6,rm [(8,oq [0,1,2,3] (pebH N m F1 T1 Q) (.p (.bool false)))] 1,.dec true,rg 1] [.code (bodyOf Tryz.f344)] (start Tryz.f344 (pebH N m F T Q) 4 [brL g nb,.p (.int .i64 l),.pt 3 0 0 0,.p (.int .i64 e)]) [0,1,2,3] 1 (pebH N m F1 T1 Q) (.p (.bool false)) =
    some (zD [(IL 0 (↑e:Int)),(IT (↑e:Int) (↑nb:Int)),(NT 0 1),((true=true)→ (AN 1)),(ZLo (l+1)),(ZHi (l+1)),(AE 1),(AE N),(AE m),Con Tryz.prog 378 4 (zf18 N m F T Q) [.p (.seq true 2 nb (bRw g)),.pt 3 0 0 0,.p (.int .i64 ((g e).1)),.p (.int .i64 ((g e).2.1)),.p (.int .i64 (l+1))] (zf18 N m F1 T1 Q) (.p (.bool false)),((!false)=true),(false=false),(AN 3),(NL 1 1),(AN 0),(AN N),(AN m),(AN 1),(NL N N),(AA N (fun i=>[.p (.int .i64 (F1 i))])),(NL m m),(AA m (fun i=>[.p (.int .i64 (T1 i))])),(AA m (fun i=>[.p (.int .i64 (Q i))]))] [0,1,2,3,2,2,4,5,6,7,8,8,9,10,11,12,13,13,14,15,14,16,14,16,17,18,19,17,20,21,17,20,22,6,7,8,8]):=by kernel_rfl
theorem pPa (g:Nat→T_Bar) (nb N m:Nat) (F T Q F1 T1:Nat→Int) (l:Int) (e:Nat) :
    zP Tryz.f344 4 [rg 1,rg 6,rm [(8,oq [0,1,2,3] (pebH N m F1 T1 Q) (.p (.bool true)))] 1,.dec false,rg 3,rg 9,.dec false,rg 10,rg 11,rg 11,rg 1] [.code (bodyOf Tryz.f344)] (start Tryz.f344 (pebH N m F T Q) 4 [brL g nb,.p (.int .i64 l),.pt 3 0 0 0,.p (.int .i64 e)]) [0,1,2,3,1476,1828] 1 (pebH2 N (m+1) (fun s=>if s=(g e).1.toNat then F1 s - 1 else F1 s) (fun s=>if s<m then T1 s else (g e).1) (fun s=>if s<m then Q s else e)) (.p (.bool true)) =
    some (zD [(IL 0 (↑e:Int)),(IT (↑e:Int) (↑nb:Int)),(NT 0 1),((true=true)→ (AN 1)),(ZLo (l+1)),(ZHi (l+1)),(AE 1),(AE N),(AE m),Con Tryz.prog 378 4 (zf18 N m F T Q) [.p (.seq true 2 nb (bRw g)),.pt 3 0 0 0,.p (.int .i64 ((g e).1)),.p (.int .i64 ((g e).2.1)),.p (.int .i64 (l+1))] (zf18 N m F1 T1 Q) (.p (.bool true)),((!true)=false),(IL 0 ((g e).1)),(IT ((g e).1) (↑N:Int)),(NT ((g e).1.toNat) N),((F1 (g e).1.toNat==0)=false),(ZLo (F1 (g e).1.toNat - 1)),(ZHi (F1 (g e).1.toNat - 1)),((false=true)→ ((N:Nat)=1)),(NL 1 1),(NL m m),(NL ((m+1)*8) 140737488355328),(NL (m+1) 9223372036854775807),(true=true),(AN 3),(AN 0),(AN N),(AN ((m+1))),(AN 1),(NL N N),(CV [(0,⟨true,3,1,(fun i_1=>[.ar 1 1 0 N,.ar 1 1476 0 (m+1),.ar 1 1828 0 (m+1)])⟩),(1828,⟨false,1,(m+1),(fun i_1=>(if (i_1<m) then [.p (.int .i64 (Q i_1))] else [.p (.int .i64 (↑e:Int))]))⟩),(1796,⟨false,1,1,(fun i_1=>[.p (.int .i64 (↑e:Int))])⟩),(1476,⟨false,1,(m+1),(fun i_1=>(if (i_1<m) then [.p (.int .i64 (T1 i_1))] else [.p (.int .i64 ((g e).1))]))⟩),(1444,⟨false,1,1,(fun i_1=>[.p (.int .i64 ((g e).1))])⟩),(1,⟨false,1,N,(fun i_1=>(if (i_1=(g e).1.toNat) then [.p (.int .i64 (F1 (g e).1.toNat - 1))] else [.p (.int .i64 (F1 i_1))]))⟩),(164,⟨true,2,1,(fun i_1=>[.p (.int .i64 ((g e).1)),.p (.int .i64 ((g e).2.1))])⟩)] [0,1,2,3,1476,1828] 1 N (fun i=>if (i=(g e).1.toNat) then [.p (.int .i64 (F1 (g e).1.toNat - 1))] else [.p (.int .i64 (F1 i))]) (fun i=>[.p (.int .i64 (if i=(g e).1.toNat then F1 i - 1 else F1 i))])),(NL (m+1) (m+1)),(CV [(0,⟨true,3,1,(fun i_1=>[.ar 1 1 0 N,.ar 1 1476 0 (m+1),.ar 1 1828 0 (m+1)])⟩),(1828,⟨false,1,(m+1),(fun i_1=>(if (i_1<m) then [.p (.int .i64 (Q i_1))] else [.p (.int .i64 (↑e:Int))]))⟩),(1796,⟨false,1,1,(fun i_1=>[.p (.int .i64 (↑e:Int))])⟩),(1476,⟨false,1,(m+1),(fun i_1=>(if (i_1<m) then [.p (.int .i64 (T1 i_1))] else [.p (.int .i64 ((g e).1))]))⟩),(1444,⟨false,1,1,(fun i_1=>[.p (.int .i64 ((g e).1))])⟩),(1,⟨false,1,N,(fun i_1=>(if (i_1=(g e).1.toNat) then [.p (.int .i64 (F1 (g e).1.toNat - 1))] else [.p (.int .i64 (F1 i_1))]))⟩),(164,⟨true,2,1,(fun i_1=>[.p (.int .i64 ((g e).1)),.p (.int .i64 ((g e).2.1))])⟩)] [0,1,2,3,1476,1828] 1 (m+1) (fun i=>if (i<m) then [.p (.int .i64 (T1 i))] else [.p (.int .i64 ((g e).1))]) (fun i=>[.p (.int .i64 (if i<m then T1 i else (g e).1))])),(CV [(0,⟨true,3,1,(fun i_1=>[.ar 1 1 0 N,.ar 1 1476 0 (m+1),.ar 1 1828 0 (m+1)])⟩),(1828,⟨false,1,(m+1),(fun i_1=>(if (i_1<m) then [.p (.int .i64 (Q i_1))] else [.p (.int .i64 (↑e:Int))]))⟩),(1796,⟨false,1,1,(fun i_1=>[.p (.int .i64 (↑e:Int))])⟩),(1476,⟨false,1,(m+1),(fun i_1=>(if (i_1<m) then [.p (.int .i64 (T1 i_1))] else [.p (.int .i64 ((g e).1))]))⟩),(1444,⟨false,1,1,(fun i_1=>[.p (.int .i64 ((g e).1))])⟩),(1,⟨false,1,N,(fun i_1=>(if (i_1=(g e).1.toNat) then [.p (.int .i64 (F1 (g e).1.toNat - 1))] else [.p (.int .i64 (F1 i_1))]))⟩),(164,⟨true,2,1,(fun i_1=>[.p (.int .i64 ((g e).1)),.p (.int .i64 ((g e).2.1))])⟩)] [0,1,2,3,1476,1828] 1 (m+1) (fun i=>if (i<m) then [.p (.int .i64 (Q i))] else [.p (.int .i64 (↑e:Int))]) (fun i=>[.p (.int .i64 (if i<m then Q i else (↑e:Int)))])),(AE ((m+1)))] [0,1,2,3,2,2,4,5,6,7,8,8,9,10,2,2,2,11,12,13,14,2,11,12,13,15,16,11,12,13,17,2,18,19,20,21,2,3,2,18,19,20,21,2,3,22,23,18,18,24,25,24,26,24,26,27,28,29,27,30,31,27,30,32,6,7,33,33]):=by kernel_rfl
theorem pPb (g:Nat→T_Bar) (nb N m:Nat) (F T Q F1 T1:Nat→Int) (l:Int) (e:Nat) :
    zP Tryz.f344 4 [rg 1,rg 6,rm [(8,oq [0,1,2,3] (pebH N m F1 T1 Q) (.p (.bool true)))] 1,.dec false,rg 3,rg 9,.dec true,rg 3,rg 10,rg 11,rg 11,rg 1] [.code (bodyOf Tryz.f344)] (start Tryz.f344 (pebH N m F T Q) 4 [brL g nb,.p (.int .i64 l),.pt 3 0 0 0,.p (.int .i64 e)]) [0,1,2,3,1572,1924] 1 (pebH2 N (m+1) (fun s=>if s=(g e).2.1.toNat then F1 s - 1 else F1 s) (fun s=>if s<m then T1 s else (g e).2.1) (fun s=>if s<m then Q s else e)) (.p (.bool true)) =
    some (zD [(IL 0 (↑e:Int)),(IT (↑e:Int) (↑nb:Int)),(NT 0 1),((true=true)→ (AN 1)),(ZLo (l+1)),(ZHi (l+1)),(AE 1),(AE N),(AE m),Con Tryz.prog 378 4 (zf18 N m F T Q) [.p (.seq true 2 nb (bRw g)),.pt 3 0 0 0,.p (.int .i64 ((g e).1)),.p (.int .i64 ((g e).2.1)),.p (.int .i64 (l+1))] (zf18 N m F1 T1 Q) (.p (.bool true)),((!true)=false),(IL 0 ((g e).1)),(IT ((g e).1) (↑N:Int)),(NT ((g e).1.toNat) N),((F1 (g e).1.toNat==0)=true),(IL 0 ((g e).2.1)),(IT ((g e).2.1) (↑N:Int)),(NT ((g e).2.1.toNat) N),(ZLo (F1 (g e).2.1.toNat - 1)),(ZHi (F1 (g e).2.1.toNat - 1)),((false=true)→ ((N:Nat)=1)),(NL 1 1),(NL m m),(NL ((m+1)*8) 140737488355328),(NL (m+1) 9223372036854775807),(true=true),(AN 3),(AN 0),(AN N),(AN ((m+1))),(AN 1),(NL N N),(CV [(0,⟨true,3,1,(fun i_1=>[.ar 1 1 0 N,.ar 1 1572 0 (m+1),.ar 1 1924 0 (m+1)])⟩),(1924,⟨false,1,(m+1),(fun i_1=>(if (i_1<m) then [.p (.int .i64 (Q i_1))] else [.p (.int .i64 (↑e:Int))]))⟩),(1892,⟨false,1,1,(fun i_1=>[.p (.int .i64 (↑e:Int))])⟩),(1572,⟨false,1,(m+1),(fun i_1=>(if (i_1<m) then [.p (.int .i64 (T1 i_1))] else [.p (.int .i64 ((g e).2.1))]))⟩),(1540,⟨false,1,1,(fun i_1=>[.p (.int .i64 ((g e).2.1))])⟩),(1,⟨false,1,N,(fun i_1=>(if (i_1=(g e).2.1.toNat) then [.p (.int .i64 (F1 (g e).2.1.toNat - 1))] else [.p (.int .i64 (F1 i_1))]))⟩),(164,⟨true,2,1,(fun i_1=>[.p (.int .i64 ((g e).1)),.p (.int .i64 ((g e).2.1))])⟩)] [0,1,2,3,1572,1924] 1 N (fun i=>if (i=(g e).2.1.toNat) then [.p (.int .i64 (F1 (g e).2.1.toNat - 1))] else [.p (.int .i64 (F1 i))]) (fun i=>[.p (.int .i64 (if i=(g e).2.1.toNat then F1 i - 1 else F1 i))])),(NL (m+1) (m+1)),(CV [(0,⟨true,3,1,(fun i_1=>[.ar 1 1 0 N,.ar 1 1572 0 (m+1),.ar 1 1924 0 (m+1)])⟩),(1924,⟨false,1,(m+1),(fun i_1=>(if (i_1<m) then [.p (.int .i64 (Q i_1))] else [.p (.int .i64 (↑e:Int))]))⟩),(1892,⟨false,1,1,(fun i_1=>[.p (.int .i64 (↑e:Int))])⟩),(1572,⟨false,1,(m+1),(fun i_1=>(if (i_1<m) then [.p (.int .i64 (T1 i_1))] else [.p (.int .i64 ((g e).2.1))]))⟩),(1540,⟨false,1,1,(fun i_1=>[.p (.int .i64 ((g e).2.1))])⟩),(1,⟨false,1,N,(fun i_1=>(if (i_1=(g e).2.1.toNat) then [.p (.int .i64 (F1 (g e).2.1.toNat - 1))] else [.p (.int .i64 (F1 i_1))]))⟩),(164,⟨true,2,1,(fun i_1=>[.p (.int .i64 ((g e).1)),.p (.int .i64 ((g e).2.1))])⟩)] [0,1,2,3,1572,1924] 1 (m+1) (fun i=>if (i<m) then [.p (.int .i64 (T1 i))] else [.p (.int .i64 ((g e).2.1))]) (fun i=>[.p (.int .i64 (if i<m then T1 i else (g e).2.1))])),(CV [(0,⟨true,3,1,(fun i_1=>[.ar 1 1 0 N,.ar 1 1572 0 (m+1),.ar 1 1924 0 (m+1)])⟩),(1924,⟨false,1,(m+1),(fun i_1=>(if (i_1<m) then [.p (.int .i64 (Q i_1))] else [.p (.int .i64 (↑e:Int))]))⟩),(1892,⟨false,1,1,(fun i_1=>[.p (.int .i64 (↑e:Int))])⟩),(1572,⟨false,1,(m+1),(fun i_1=>(if (i_1<m) then [.p (.int .i64 (T1 i_1))] else [.p (.int .i64 ((g e).2.1))]))⟩),(1540,⟨false,1,1,(fun i_1=>[.p (.int .i64 ((g e).2.1))])⟩),(1,⟨false,1,N,(fun i_1=>(if (i_1=(g e).2.1.toNat) then [.p (.int .i64 (F1 (g e).2.1.toNat - 1))] else [.p (.int .i64 (F1 i_1))]))⟩),(164,⟨true,2,1,(fun i_1=>[.p (.int .i64 ((g e).1)),.p (.int .i64 ((g e).2.1))])⟩)] [0,1,2,3,1572,1924] 1 (m+1) (fun i=>if (i<m) then [.p (.int .i64 (Q i))] else [.p (.int .i64 (↑e:Int))]) (fun i=>[.p (.int .i64 (if i<m then Q i else (↑e:Int)))])),(AE ((m+1)))] [0,1,2,3,2,2,4,5,6,7,8,8,9,10,2,2,2,11,12,13,14,2,2,15,16,17,18,19,15,16,17,20,2,21,22,23,24,2,3,2,21,22,23,24,2,3,25,26,21,21,27,28,27,29,27,29,30,31,32,30,33,34,30,33,35,6,7,36,36]):=by kernel_rfl
def brN (x:T_Bar):Nat×Nat:=(x.1.toNat,x.2.1.toNat)
def plL (g:Nat→T_Bar) (Q:Nat→Int):Nat→List (Nat×Nat)
  | 0=>[]
  | m+1=>plL g Q m++[brN (g (Q m).toNat)]
def gmL (g:Nat→T_Bar) (T Q:Nat→Int):Nat→List Mat.PB
  | 0=>[]
  | m+1=>gmL g T Q m++[((T m).toNat,brN (g (Q m).toNat))]
theorem barsOf_app:∀ a b:List Mat.PB,Mat.barsOf (a++b)=Mat.barsOf a++Mat.barsOf b
  | [],_=>rfl
  | p::a,b=>by simp only [List.cons_append,Mat.barsOf,barsOf_app a b]
theorem tc_app (v:Nat):∀ a b:List Mat.PB,Mat.tc v (a++b)=Mat.tc v a+Mat.tc v b
  | [],b=>by simp [Mat.tc]
  | p::a,b=>by simp only [List.cons_append,Mat.tc,tc_app v a b];omega
theorem barsOf_gm (g:Nat→T_Bar) (T Q:Nat→Int):∀ m,Mat.barsOf (gmL g T Q m)=plL g Q m
  | 0=>rfl
  | m+1=>by simp only [gmL,plL,barsOf_app,barsOf_gm g T Q m,Mat.barsOf]
theorem tc_gm (g:Nat→T_Bar) (T Q:Nat→Int) (v:Nat):∀ m,(∀ j,j<m→0≤T j)→(Mat.tc v (gmL g T Q m):Int)=tcI T m v
  | 0,_=>rfl
  | m+1,h=>by
    have ih:=tc_gm g T Q v m (fun j hj=>h j (by omega))
    have h1:=h m (by omega)
    simp only [gmL,tc_app,Mat.tc,tcI]
    by_cases e:T m=v
    · have e':((T m).toNat==v)=true:=by simp;omega
      rw [e',if_pos e];simp;omega
    · have e':((T m).toNat==v)=false:=by simp;omega
      rw [e',if_neg e];simp;omega
theorem mem_gm (g:Nat→T_Bar) (T Q:Nat→Int) (p:Mat.PB):∀ m,p∈gmL g T Q m→∃ j,j<m∧p=((T j).toNat,brN (g (Q j).toNat))
  | 0,h=>by cases h
  | m+1,h=>by
    simp only [gmL,List.mem_append,List.mem_singleton] at h
    rcases h with h | h
    · obtain ⟨j,h1,h2⟩:=mem_gm g T Q p m h
      exact ⟨j,by omega,h2⟩
    · exact ⟨m,by omega,h⟩
theorem PInv.t0 {N k nb m:Nat} {g:Nat→T_Bar} {F T Q:Nat→Int} (h:PInv N k nb m g F T Q):∀ j,j<m→0≤T j∧T j<N:=by
  intro j hj
  have h1:=h.q j hj
  have h2:=h.bars (Q j).toNat (by omega)
  rcases h.t j hj with e | e<;>rw [e]<;>omega
theorem PInv.game {N k nb m:Nat} {g:Nat→T_Bar} {F T Q:Nat→Int} (h:PInv N k nb m g F T Q) (l:Nat):Mat.Game N k l (fun v=>(F v).toNat) (gmL g T Q m):=by
  refine ⟨fun p hp=>?_,fun p hp=>?_,fun v hv=>?_⟩
  · obtain ⟨j,h1,rfl⟩:=mem_gm g T Q p m hp
    simp only [brN]
    rcases h.t j h1 with e | e
    · left;rw [e]
    · right;rw [e]
  · obtain ⟨j,h1,rfl⟩:=mem_gm g T Q p m hp
    have h2:=h.q j h1
    have h3:=h.bars (Q j).toNat (by omega)
    simp only [brN,Mat.GoodBar]
    omega
  · have h1:=h.sum v hv
    have h2:=h.f0 v hv
    have h3:=tc_gm g T Q v m (fun j hj=>(h.t0 j hj).1)
    show (F v).toNat+Mat.tc v (gmL g T Q m)=k
    omega
theorem gather_no {N k nb m l:Nat} {g:Nat→T_Bar} {F T Q:Nat→Int} {a b:Int} (hp:PInv N k nb m g F T Q) (ha:0≤a∧a<N) (hb:0≤b∧b<N) (hab:a≠b) (hs:F a.toNat+F b.toNat≤l)
    {F1 T1 F2 T2:Nat→Int} (h1:Moved N k nb m g F T Q a b F1 T1 false) (h2:Moved N k nb m g F T Q b a F2 T2 false):¬ Mat.Sparse N k l (plL g Q m++[(a.toNat,b.toNat)]):=by
  obtain ⟨_,_,R1,r1,c1,z1⟩:=h1.no rfl
  obtain ⟨_,_,R2,r2,c2,z2⟩:=h2.no rfl
  have f1:=hp.f0 a.toNat (by omega)
  have f2:=hp.f0 b.toNat (by omega)
  rw [← barsOf_gm g T Q m]
  refine (hp.game l).reject a.toNat b.toNat ⟨by show a.toNat≠b.toNat;omega,by show a.toNat<N;omega,by show b.toNat<N;omega⟩ (by show (F a.toNat).toNat+(F b.toNat).toNat≤l;omega) (fun v=>R1 v||R2 v) (by simp [r1]) (by simp [r2]) (fun p hpm hR=>?_) (fun v hR v1 v2=>?_)
  · obtain ⟨j,h3,rfl⟩:=mem_gm g T Q p m hpm
    have key:∀ R:Nat→Bool,R (T j).toNat=true→R (othF (g (Q j).toNat) (T j)).toNat=true→R (g (Q j).toNat).1.toNat=true∧R (g (Q j).toNat).2.1.toNat=true:=by
      intro R k1 k2
      unfold othF at k2
      by_cases e:(g (Q j).toNat).1=T j
      · rw [if_pos e] at k2
        exact ⟨by rw [e];exact k1,k2⟩
      · rw [if_neg e] at k2
        rcases hp.t j h3 with e' | e'
        · exact absurd e'.symm e
        · exact ⟨k2,by rw [← e'];exact k1⟩
    simp only [Mat.inn,brN]
    simp only [Bool.or_eq_true] at hR
    rcases hR with hR | hR
    · obtain ⟨k1,k2⟩:=key R1 hR (c1 j h3 hR)
      simp [k1,k2]
    · obtain ⟨k1,k2⟩:=key R2 hR (c2 j h3 hR)
      simp [k1,k2]
  · simp only [Bool.or_eq_true] at hR
    have:F v=0:=by
      rcases hR with hR | hR
      · exact z1 v hR (by omega) (by omega)
      · exact z2 v hR (by omega) (by omega)
    show (F v).toNat=0
    rw [this];rfl
theorem con_gather {N k nb m l:Nat} {g:Nat→T_Bar} {F T Q:Nat→Int} {a b:Int} (hp:PInv N k nb m g F T Q) (hk:k≤1048576) (hN:N≤1048576) (hm:m≤1048576) (hnb:nb≤1048576)
    (ha:0≤a∧a<N) (hb:0≤b∧b<N) (hab:a≠b):∃ F' T' r,Con Tryz.prog 378 4 (pebH N m F T Q) [brL g nb,.pt 3 0 0 0,.p (.int .i64 a),.p (.int .i64 b),.p (.int .i64 ((l:Int)+1))] (pebH N m F' T' Q) (.p (.bool r)) ∧
      PInv N k nb m g F' T' Q∧(r=true→(l:Int)+1≤F' a.toNat+F' b.toNat)∧(r=false→¬ Mat.Sparse N k l (plL g Q m++[(a.toNat,b.toNat)])):=by
  have lp:∀ d F T,PInv N k nb m g F T Q→(l:Int)+1≤F a.toNat+F b.toNat+(d:Nat)→∃ F' T' r,(∀ c,c.n=4→zR c 378 zf88 (SG g nb N m F T Q a b ((l:Int)+1)) (Post c (pebH N m F' T' Q) (.p (.bool r)))) ∧
      PInv N k nb m g F' T' Q∧(r=true→(l:Int)+1≤F' a.toNat+F' b.toNat)∧(r=false→¬ Mat.Sparse N k l (plL g Q m++[(a.toNat,b.toNat)])):=by
    intro d
    induction d with
    | zero =>
      intro F T hp hw
      have hd:decide (F a.toNat+F b.toNat<(l:Int)+1)=false:=by simp;omega
      have l1:=hp.le (v:=a.toNat) (by omega)
      have l2:=hp.le (v:=b.toNat) (by omega)
      refine ⟨F,T,true,fun c hc=>?_,hp,(fun _=>by omega),(fun h=>by cases h)⟩
      refine pkZ Tryz.func378 hc (pGd g nb N m F T Q a b ((l:Int)+1)) ?_
      and_intros
      all_goals (first | exact zN | (exact hd) | (intro i hi;simp [All]))
    | succ d ih =>
      intro F T hp hw
      have l1:=hp.le (v:=a.toNat) (by omega)
      have l2:=hp.le (v:=b.toNat) (by omega)
      by_cases hs:F a.toNat+F b.toNat<(l:Int)+1
      · have hd:decide (F a.toNat+F b.toNat<(l:Int)+1)=true:=by simp;omega
        obtain ⟨F1,T1,r1,hc1,hm1⟩:=con_moveTo hp hk hN hm hnb ha hb hab
        cases r1 with
        | true =>
          obtain ⟨y1,y2⟩:=hm1.yes rfl
          obtain ⟨F',T',r,hrun,h1,h2,h3⟩:=ih F1 T1 hm1.inv (by omega)
          refine ⟨F',T',r,fun c hc=>?_,h1,h2,h3⟩
          refine pcD hc (pGa g nb N m F T Q F1 T1 a b ((l:Int)+1)) ?_ (hrun c hc)
          and_intros
          all_goals (first | exact zN | (exact hd) | (exact hc1) | (intro i hi;simp [All]))
        | false =>
          obtain ⟨n1,n2,_⟩:=hm1.no rfl
          subst n1;subst n2
          obtain ⟨F2,T2,r2,hc2,hm2⟩:=con_moveTo hp hk hN hm hnb hb ha (Ne.symm hab)
          cases r2 with
          | true =>
            obtain ⟨y1,y2⟩:=hm2.yes rfl
            obtain ⟨F',T',r,hrun,h1,h2,h3⟩:=ih F2 T2 hm2.inv (by omega)
            refine ⟨F',T',r,fun c hc=>?_,h1,h2,h3⟩
            refine pcD hc (pGb g nb N m F1 T1 Q F1 T1 F2 T2 a b ((l:Int)+1)) ?_ (hrun c hc)
            and_intros
            all_goals (first | exact zN | (exact hd) | (exact hc1) | (exact hc2) | (intro i hi;simp [All]))
          | false =>
            refine ⟨F2,T2,false,fun c hc=>?_,hm2.inv,(fun h=>by cases h),fun _=>gather_no hp ha hb hab (by omega) hm1 hm2⟩
            refine pkD Tryz.func378 hc (pGc g nb N m F1 T1 Q F1 T1 F2 T2 a b ((l:Int)+1)) ?_
            and_intros
            all_goals (first | exact zN | (exact hd) | (exact hc1) | (exact hc2) | (intro i hi;simp [All]))
      · have hd:decide (F a.toNat+F b.toNat<(l:Int)+1)=false:=by simp;omega
        refine ⟨F,T,true,fun c hc=>?_,hp,(fun _=>by omega),(fun h=>by cases h)⟩
        refine pkZ Tryz.func378 hc (pGd g nb N m F T Q a b ((l:Int)+1)) ?_
        and_intros
        all_goals (first | exact zN | (exact hd) | (intro i hi;simp [All]))
  have l1:=hp.le (v:=a.toNat) (by omega)
  have l2:=hp.le (v:=b.toNat) (by omega)
  obtain ⟨F',T',r,hrun,h⟩:=lp (l+1) F T hp (by omega)
  refine ⟨F',T',r,?_,h⟩
  refine csZ Tryz.func378 (fun c hc=>?_)
  refine pcZ hc (pGz g nb N m F T Q a b ((l:Int)+1)) ?_ (hrun c hc)
  and_intros
  all_goals (first | exact zN | (intro i hi;simp [All]))
theorem tcI_congr {T T':Nat→Int} (x:Int):∀ m,(∀ j,j<m→T j=T' j)→tcI T m x=tcI T' m x
  | 0,_=>rfl
  | m+1,h=>by simp only [tcI];rw [tcI_congr x m (fun j hj=>h j (by omega)),h m (by omega)]
theorem PInv.placed {N k nb m:Nat} {g:Nat→T_Bar} {F T Q:Nat→Int} (hp:PInv N k nb m g F T Q) (e:Nat) (he:e<nb) (tl:Int) (ht:tl=(g e).1∨tl=(g e).2.1) (hf:1≤F tl.toNat) :
    PInv N k nb (m+1) g (fun s=>if s=tl.toNat then F s - 1 else F s) (fun s=>if s<m then T s else tl) (fun s=>if s<m then Q s else e):=by
  have hb:=hp.bars e he
  have h0:0≤tl∧tl<N:=by rcases ht with h | h<;>rw [h]<;>omega
  refine ⟨hp.bars,fun j hj=>?_,fun j hj=>?_,fun v hv=>?_,fun v hv=>?_⟩
  · show 0≤(if j<m then Q j else (e:Int))∧(if j<m then Q j else (e:Int))<nb
    by_cases h:j<m
    · rw [if_pos h];exact hp.q j h
    · rw [if_neg h];omega
  · show (if j<m then T j else tl)=(g (if j<m then Q j else (e:Int)).toNat).1∨(if j<m then T j else tl)=(g (if j<m then Q j else (e:Int)).toNat).2.1
    by_cases h:j<m
    · rw [if_pos h,if_pos h];exact hp.t j h
    · rw [if_neg h,if_neg h];exact ht
  · have:=hp.f0 v hv
    show 0≤(if v=tl.toNat then F v - 1 else F v)
    by_cases h:v=tl.toNat
    · rw [if_pos h,h];omega
    · rw [if_neg h];exact this
  · have h1:=hp.sum v hv
    show (if v=tl.toNat then F v - 1 else F v)+(tcI (fun s=>if s<m then T s else tl) m v+(if (if m<m then T m else tl)=(v:Int) then 1 else 0))=k
    rw [tcI_congr (T':=T) v m (fun j hj=>by show (if j<m then T j else tl)=T j;rw [if_pos hj])]
    simp only [Nat.lt_irrefl,if_false]
    by_cases h:v=tl.toNat
    · rw [if_pos h,if_pos (by omega)];omega
    · rw [if_neg h,if_neg (by omega)];omega
theorem con_place {N k nb m l:Nat} {g:Nat→T_Bar} {F T Q:Nat→Int} (hp:PInv N k nb m g F T Q) (hk:k≤1048576) (hl:l≤1048576) (hN:N≤1048576) (hm:m≤1048576) (hnb:nb≤1048576) (e:Nat) (he:e<nb)
    (hsp:Mat.Sparse N k l (plL g Q m)) :
    (∃ F' T',Con Tryz.prog 344 4 (pebH N m F T Q) [brL g nb,.p (.int .i64 l),.pt 3 0 0 0,.p (.int .i64 e)] (pebH2 N (m+1) F' T' (fun s=>if s<m then Q s else e)) (.p (.bool true)) ∧
      PInv N k nb (m+1) g F' T' (fun s=>if s<m then Q s else e)∧Mat.Sparse N k l (plL g Q m++[brN (g e)])) ∨
    (∃ F' T',Con Tryz.prog 344 4 (pebH N m F T Q) [brL g nb,.p (.int .i64 l),.pt 3 0 0 0,.p (.int .i64 e)] (pebH N m F' T' Q) (.p (.bool false))∧¬ Mat.Sparse N k l (plL g Q m++[brN (g e)])):=by
  have hbar:=hp.bars e he
  obtain ⟨F1,T1,r,hc1,h1,h2,h3⟩:=con_gather (l:=l) (a:=(g e).1) (b:=(g e).2.1) hp hk hN hm hnb (by omega) (by omega) (by omega)
  have hlA:=h1.le (v:=(g e).1.toNat) (by omega)
  have hlB:=h1.le (v:=(g e).2.1.toNat) (by omega)
  cases r with
  | false =>
    right
    refine ⟨F1,T1,?_,h3 rfl⟩
    refine csZ Tryz.func344 (fun c hc=>?_)
    refine pkD Tryz.func344 hc (pPf g nb N m F T Q F1 T1 l e) ?_
    and_intros
    all_goals (first | exact zI | (exact hc1) | (intro i hi;simp [All]))
  | true =>
    left
    have hw:=h2 rfl
    have hacc:Mat.Sparse N k l (plL g Q m++[brN (g e)]):=by
      have:=(h1.game l).accept (by rw [barsOf_gm];exact hsp) (g e).1.toNat (g e).2.1.toNat ⟨by show (g e).1.toNat≠(g e).2.1.toNat;omega,by show (g e).1.toNat<N;omega,by show (g e).2.1.toNat<N;omega⟩
        (by show l+1≤(F1 (g e).1.toNat).toNat+(F1 (g e).2.1.toNat).toNat;omega)
      rw [barsOf_gm] at this
      exact this
    by_cases hz:F1 (g e).1.toNat=0
    · have hzb:(F1 (g e).1.toNat==0)=true:=by simp [hz]
      refine ⟨_,_,?_,h1.placed e he (g e).2.1 (.inr rfl) (by omega),hacc⟩
      refine csZ Tryz.func344 (fun c hc=>?_)
      refine pkD Tryz.func344 hc (pPb g nb N m F T Q F1 T1 l e) ?_
      and_intros
      all_goals (first | exact zI | (exact hc1) | (exact hzb) | (intro i hi;simp [All];done) | (intro i hi;by_cases h:i<m<;>simp [h,cvtL,cvt,tg,tru,All];done) | (intro i hi;by_cases h:i=(g e).2.1.toNat<;>simp [h,cvtL,cvt,tg,tru,All]))
    · have hzb:(F1 (g e).1.toNat==0)=false:=by simp [hz]
      refine ⟨_,_,?_,h1.placed e he (g e).1 (.inl rfl) (by omega),hacc⟩
      refine csZ Tryz.func344 (fun c hc=>?_)
      refine pkD Tryz.func344 hc (pPa g nb N m F T Q F1 T1 l e) ?_
      and_intros
      all_goals (first | exact zI | (exact hc1) | (exact hzb) | (intro i hi;simp [All];done) | (intro i hi;by_cases h:i<m<;>simp [h,cvtL,cvt,tg,tru,All];done) | (intro i hi;by_cases h:i=(g e).1.toNat<;>simp [h,cvtL,cvt,tg,tru,All]))
def inD (n:Nat) (F:Nat→Int):AV:=.p (.seq true 1 n (fun i=>[.int .i64 (F i)]))
def pebO (N m:Nat) (j:Nat):AV:=.agg [.ar 1 j 0 N,.ar 1 ⟨j+1,none⟩ 0 m,.ar 1 ⟨j+2,none⟩ 0 m]
def pebR (N m:Nat) (F T Q:Nat→Int):Hp:=[(0,iOb N F),(1,iOb m T),(2,iOb m Q)]
def SY0 (g:Nat→T_Bar) (nb N k l i:Nat):St :=
  ⟨[.p (.int .i64 N),brL g nb,.p (.int .i64 k),.p (.int .i64 l),.p .any,.p .any,.p .any,.p .any,.pt 3 0 0 0,.pt 3 1 0 0,.p .any,.p .any,.p .any,.p (.int .i64 N),.p (.int .i64 i)]++List.replicate 22 anyA,
   [(0,⟨true,3,1,fun _=>[.p .nil,.p .nil,.p .nil]⟩),(1,⟨true,3,1,fun _=>[.ar 1 2 0 i,.ar 1 3 0 0,.ar 1 4 0 0]⟩),(2,iOb i (fun _=>k)),(3,iOb 0 (fun _=>0)),(4,iOb 0 (fun _=>0))],5⟩
def SY1 (g:Nat→T_Bar) (nb N m k l e:Nat) (F T Q:Nat→Int):St :=
  ⟨[.p (.int .i64 N),brL g nb,.p (.int .i64 k),.p (.int .i64 l),.p .any,.p .any,.p .any,.p .any,.pt 3 0 0 0,.pt 3 1 0 0]++List.replicate 14 anyA++[.p (.int .i64 nb),.p (.int .i64 e)]++List.replicate 11 anyA,
   [(0,⟨true,3,1,fun _=>[.p .nil,.p .nil,.p .nil]⟩),(1,⟨true,3,1,fun _=>[.ar 1 2 0 N,.ar 1 3 0 m,.ar 1 4 0 m]⟩),(2,iOb N F),(3,iOb m T),(4,iOb m Q)],5⟩
theorem pCi (n:Nat) (F:Nat→Int) :
    zS Tryz.f165 [rg 1,rg 4] [inD n F] [96] [(0,iOb n F)] (.ar 1 0 0 n) =
    some [(NL 0 0),(NL ((0+n)*8) 140737488355328),(NL (0+n) 9223372036854775807),(AN 0),(((0+n):Nat)=n),(AN 1),(NL n (0+n)),(AA n (fun i=>[.p (.int .i64 (F i))])),(AE n)]:=by kernel_rfl
theorem pCp (N m m':Nat) (F T Q:Nat→Int) :
    zS Tryz.f343 [rg 2,rm [(2,oc [(0,iOb N F)] (.ar 1 0 0 N)),(2,oc [(0,iOb m T)] (.ar 1 0 0 m)),(2,oc [(0,iOb m Q)] (.ar 1 0 0 m))] 2] [.agg [inD N F,inD m T,inD m Q]] [128,224,320] (pebR N m F T Q) (pebO N m 0) =
    some (zD [(NT 0 1),zE 165 [.p (.seq true 1 N (fun i=>[.int .i64 (F i)]))] [(0,⟨false,1,N,(fun i=>[.p (.int .i64 (F i))])⟩)] (.ar 1 0 0 N),zE 165 [.p (.seq true 1 m (fun i=>[.int .i64 (T i)]))] [(0,⟨false,1,m,(fun i=>[.p (.int .i64 (T i))])⟩)] (.ar 1 0 0 m),zE 165 [.p (.seq true 1 m (fun i=>[.int .i64 (Q i)]))] [(0,⟨false,1,m,(fun i=>[.p (.int .i64 (Q i))])⟩)] (.ar 1 0 0 m),((true=true)→ (AN 1)),(AN 0),(AN N),(AN m),(AN 1),(NL N N),(AA N (fun i=>[.p (.int .i64 (F i))])),(NL m m),(AA m (fun i=>[.p (.int .i64 (T i))])),(AA m (fun i=>[.p (.int .i64 (Q i))])),(AE N),(AE m)] [0,1,0,2,0,3,0,4,0,5,6,5,7,5,7,8,9,10,8,11,12,8,11,13,14,15,15]):=by kernel_rfl
theorem pYz (g:Nat→T_Bar) (nb N k l:Nat) :
    zT Tryz.f293 [rg 1,rg 3,rg 2,.head] [.p (.int .i64 N),brL g nb,.p (.int .i64 k),.p (.int .i64 l)] [0,64] (SY0 g nb N k l 0) =
    some (zf57,zD [(NT 0 1),((true=true)→ (AN 1)),(AI ((↑N:Int))),(AN nb),(AP nb (bRw g)),(AI ((↑k:Int))),(AI ((↑l:Int))),(AN 0),((0:Int)=(↑0:Int)),((((List.map (fun v=>AV.p (absV v)) [Value.slice none 0 0,Value.slice none 0 0,Value.slice none 0 0]).length):Nat)=3),(NL 1 1)] [0,1,2,3,4,5,6,7,7,2,8,9,10,10,9,10,10,7,7,7,7,7,7]):=by kernel_rfl
theorem pY0 (g:Nat→T_Bar) (nb N k l i:Nat) :
    zM 0 [rg 1,.dec true,rg 7,rg 2,.head] zf57 (SY0 g nb N k l i) [0,1,165,3,4] 1 (SY0 g nb N k l (i+1)) =
    some (zf57,zD [((decide ((↑i:Int)<(↑N:Int)))=true),(NT 0 1),(NL 1 1),(NL i i),(NL ((i+1)*8) 140737488355328),(NL (i+1) 9223372036854775807),((true=true)→ (AN 1)),(ZLo ((↑i:Int)+1)),(ZHi ((↑i:Int)+1)),(AI ((↑N:Int))),(AN nb),(AP nb (bRw g)),(AI ((↑k:Int))),(AI ((↑l:Int))),(AN 0),((((↑i:Int)+1):Int)=(↑(i+1):Int)),(AN 3),(AN ((i+1))),(AN 1),(NL (i+1) (i+1)),(CV [(1,⟨true,3,1,(fun i_2=>[.ar 1 165 0 (i+1),.ar 1 3 0 0,.ar 1 4 0 0])⟩),(165,⟨false,1,(i+1),(fun i_2=>(if (i_2<i) then [.p (.int .i64 (↑k:Int))] else [.p (.int .i64 (↑k:Int))]))⟩),(133,⟨false,1,1,(fun i_2=>[.p (.int .i64 (↑k:Int))])⟩),(0,⟨true,3,1,(fun i_2=>[.p (.nil),.p (.nil),.p (.nil)])⟩),(3,⟨false,1,0,(fun i_2=>[.p (.int .i64 0)])⟩),(4,⟨false,1,0,(fun i_2=>[.p (.int .i64 0)])⟩)] [0,1,165,3,4] 1 (i+1) (fun i_1=>if (i_1<i) then [.p (.int .i64 (↑k:Int))] else [.p (.int .i64 (↑k:Int))]) (fun i_1=>[.p (.int .i64 (↑k:Int))])),(NL 0 0),(AA 0 (fun i_1=>[.p (.int .i64 0)]))] [0,1,2,3,4,5,1,6,7,8,9,10,11,12,13,14,14,9,15,16,2,2,16,2,2,14,17,14,14,14,14,18,19,20,18,21,22,18,21,22]):=by kernel_rfl
theorem pY01 (g:Nat→T_Bar) (nb N k l i:Nat) :
    zM 0 [rg 1,.dec false,rg 3,.head] zf57 (SY0 g nb N k l i) [0,1,2,3,4] 1 (SY1 g nb N 0 k l 0 (fun _=>k) (fun _=>0) (fun _=>0)) =
    some (zf37,zD [((decide ((↑i:Int)<(↑N:Int)))=false),(AI ((↑N:Int))),(AN nb),(AP nb (bRw g)),(AI ((↑k:Int))),(AI ((↑l:Int))),(AN 0),(AI ((↑nb:Int))),((0:Int)=(↑0:Int)),(AN 3),(NL 1 1),((i:Nat)=N),(AN 1),(NL N i),(AA N (fun i_1=>[.p (.int .i64 (↑k:Int))])),(NL 0 0),(AA 0 (fun i_1=>[.p (.int .i64 0)]))] [0,1,2,3,4,5,6,6,7,8,9,10,10,9,10,10,6,11,6,6,6,6,12,13,14,12,15,16,12,15,16]):=by kernel_rfl
theorem pY1t (g:Nat→T_Bar) (nb N m k l e:Nat) (F T Q F1 T1:Nat→Int) :
    zM 0 [rg 1,.dec true,rg 2,rm [(1,oc (pebR N m F T Q) (pebO N m 0))] 2,rm [(3,oq [165,133,134,135] (pebH2 N (m+1) F1 T1 (fun s=>if s<m then Q s else e)) (.p (.bool true)))] 0,.dec true,rg 2,rg 2,.head] zf37 (SY1 g nb N m k l e F T Q) [0,1,133,325,326] 1 (SY1 g nb N (m+1) k l (e+1) F1 T1 (fun s=>if s<m then Q s else e)) =
    some (zf37,zD [((decide ((↑e:Int)<(↑nb:Int)))=true),(NT 0 1),(AN 1),(NL N N),(NL m m),zE 343 [(zf58 N F m T Q)] (zf34 N F m T Q) (.agg [.ar 1 0 0 N,.ar 1 1 0 m,.ar 1 2 0 m]),((true=true)→ (AN 1)),(AE 1),(AE N),(AE m),Con Tryz.prog 344 4 (zf18 N m F T Q) [.p (.seq true 2 nb (bRw g)),.p (.int .i64 (↑l:Int)),.pt 3 0 0 0,.p (.int .i64 (↑e:Int))] [(0,⟨true,3,1,(fun i=>[.ar 1 1 0 N,.ar 1 4 0 (m+1),.ar 1 5 0 (m+1)])⟩),(1,⟨false,1,N,(fun i=>[.p (.int .i64 (F1 i))])⟩),(4,⟨false,1,(m+1),(fun i=>[.p (.int .i64 (T1 i))])⟩),(5,⟨false,1,(m+1),(fun i=>[.p (.int .i64 (if i<m then Q i else (↑e:Int)))])⟩)] (.p (.bool true)),(true=true),(ZLo ((↑e:Int)+1)),(ZHi ((↑e:Int)+1)),(AI ((↑N:Int))),(AN nb),(AP nb (bRw g)),(AI ((↑k:Int))),(AI ((↑l:Int))),(AN 0),(AI ((↑nb:Int))),((((↑e:Int)+1):Int)=(↑(e+1):Int)),(AN 3),(NL 1 1),(AN N),(AN ((m+1))),(AA N (fun i=>[.p (.int .i64 (F1 i))])),(NL (m+1) (m+1)),(AA ((m+1)) (fun i=>[.p (.int .i64 (T1 i))])),(AA ((m+1)) (fun i=>[.p (.int .i64 (if i<m then Q i else (↑e:Int)))]))] [0,1,2,3,2,4,2,4,5,1,6,7,8,9,9,10,11,1,1,6,12,13,14,15,16,17,18,19,19,20,21,22,23,23,22,23,23,19,24,19,25,19,25,2,3,26,2,27,28,2,27,29]):=by kernel_rfl
theorem pY1f (g:Nat→T_Bar) (nb N m k l e:Nat) (F T Q F1 T1:Nat→Int) :
    zM 0 [rg 1,.dec true,rg 2,rm [(1,oc (pebR N m F T Q) (pebO N m 0))] 2,rm [(3,oq [165,133,134,135] (pebH N m F1 T1 Q) (.p (.bool false)))] 0,.dec false,rg 2,.head] zf37 (SY1 g nb N m k l e F T Q) [0,1,2,3,4] 1 (SY1 g nb N m k l (e+1) F T Q) =
    some (zf37,zD [((decide ((↑e:Int)<(↑nb:Int)))=true),(NT 0 1),(AN 1),(NL N N),(NL m m),zE 343 [(zf58 N F m T Q)] (zf34 N F m T Q) (.agg [.ar 1 0 0 N,.ar 1 1 0 m,.ar 1 2 0 m]),((true=true)→ (AN 1)),(AE 1),(AE N),(AE m),Con Tryz.prog 344 4 (zf18 N m F T Q) [.p (.seq true 2 nb (bRw g)),.p (.int .i64 (↑l:Int)),.pt 3 0 0 0,.p (.int .i64 (↑e:Int))] (zf18 N m F1 T1 Q) (.p (.bool false)),(false=false),(ZLo ((↑e:Int)+1)),(ZHi ((↑e:Int)+1)),(AI ((↑N:Int))),(AN nb),(AP nb (bRw g)),(AI ((↑k:Int))),(AI ((↑l:Int))),(AN 0),(AI ((↑nb:Int))),((((↑e:Int)+1):Int)=(↑(e+1):Int)),(AN 3),(NL 1 1),(AN N),(AN m),(AA N (fun i=>[.p (.int .i64 (F i))])),(AA m (fun i=>[.p (.int .i64 (T i))])),(AA m (fun i=>[.p (.int .i64 (Q i))]))] [0,1,2,3,2,4,2,4,5,1,6,7,8,9,9,10,11,12,13,14,15,16,17,18,19,19,20,21,22,23,23,22,23,23,19,24,19,25,19,25,2,3,26,2,4,27,2,4,28]):=by kernel_rfl
theorem pY2 (g:Nat→T_Bar) (nb N m k l e:Nat) (F T Q:Nat→Int) :
    zP Tryz.f293 0 [rg 1,.dec false,rg 2] zf37 (SY1 g nb N m k l e F T Q) [2,3,4] 1 (pebR N m F T Q) (pebO N m 0) =
    some (zD [((decide ((↑e:Int)<(↑nb:Int)))=false),(NT 0 1),((true=true)→ (AN 1)),(AN 0),(AN N),(AN m),(AN 1),(NL N N),(AA N (fun i=>[.p (.int .i64 (F i))])),(NL m m),(AA m (fun i=>[.p (.int .i64 (T i))])),(AA m (fun i=>[.p (.int .i64 (Q i))])),(AE N),(AE m)] [0,1,1,2,1,3,4,3,5,3,5,6,7,8,6,9,10,6,9,11,12,13,13]):=by kernel_rfl
theorem con_copyInts (n:Nat) (F:Nat→Int) (hn:n≤1048576):zE 165 [inD n F] [(0,iOb n F)] (.ar 1 0 0 n):=by
  refine csZ Tryz.func165 (fun c hc=>?_)
  refine pkZ Tryz.func165 hc (pCi n F) ?_
  and_intros
  all_goals (first | exact zN | (intro i hi;simp [All]))
theorem con_copyPebbles (N m:Nat) (F T Q:Nat→Int) (hN:N≤1048576) (hm:m≤1048576):zE 343 [.agg [inD N F,inD m T,inD m Q]] (pebR N m F T Q) (pebO N m 0):=by
  refine csZ Tryz.func343 (fun c hc=>?_)
  refine pkD Tryz.func343 hc (pCp N m m F T Q) ?_
  and_intros
  all_goals (first | exact zI | (exact con_copyInts N F hN) | (exact con_copyInts m T hm) | (exact con_copyInts m Q hm) | (intro i hi;simp [All]))
open Classical in
noncomputable def accI (N k l:Nat) (g:Nat→T_Bar):Nat→List Nat
  | 0=>[]
  | e+1=>if Mat.Sparse N k l ((accI N k l g e).map (fun i=>brN (g i))++[brN (g e)]) then accI N k l g e++[e] else accI N k l g e
theorem accI_sparse (N k l:Nat) (g:Nat→T_Bar):∀ e,Mat.Sparse N k l ((accI N k l g e).map (fun i=>brN (g i)))
  | 0=>Mat.sparse_nil N k l
  | e+1=>by
    simp only [accI]
    split
    · rename_i h;rw [List.map_append];exact h
    · exact accI_sparse N k l g e
def qL (Q:Nat→Int):Nat→List Nat
  | 0=>[]
  | m+1=>qL Q m++[(Q m).toNat]
theorem qL_length (Q:Nat→Int):∀ m,(qL Q m).length=m
  | 0=>rfl
  | m+1=>by simp [qL,qL_length Q m]
theorem qL_congr {Q Q':Nat→Int}:∀ m,(∀ j,j<m→Q j=Q' j)→qL Q m=qL Q' m
  | 0,_=>rfl
  | m+1,h=>by simp only [qL];rw [qL_congr m (fun j hj=>h j (by omega)),h m (by omega)]
theorem plL_qL (g:Nat→T_Bar) (Q:Nat→Int):∀ m,plL g Q m=(qL Q m).map (fun i=>brN (g i))
  | 0=>rfl
  | m+1=>by simp only [plL,qL,plL_qL g Q m,List.map_append,List.map_cons,List.map_nil]
theorem accI_len (N k l:Nat) (g:Nat→T_Bar):∀ e,(accI N k l g e).length≤e
  | 0=>Nat.le_refl _
  | e+1=>by
    have:=accI_len N k l g e
    simp only [accI]
    split
    · simp;omega
    · omega
theorem PInv.start {N k nb:Nat} {g:Nat→T_Bar} (hb:∀ e,e<nb→0≤(g e).1∧(g e).1<(g e).2.1∧(g e).2.1<N):PInv N k nb 0 g (fun _=>(k:Int)) (fun _=>0) (fun _=>0) :=
  ⟨hb,fun j hj=>absurd hj (Nat.not_lt_zero _),fun j hj=>absurd hj (Nat.not_lt_zero _),fun v _=>by show (0:Int)≤k;omega,fun v _=>by show (k:Int)+0=k;omega⟩
theorem con_play {N k l nb:Nat} {g:Nat→T_Bar} (hb:∀ e,e<nb→0≤(g e).1∧(g e).1<(g e).2.1∧(g e).2.1<N) (hk:k≤1048576) (hl:l≤1048576) (hN:N≤1048576) (hnb:nb≤1048576) :
    ∃ m F T Q,zE 293 [.p (.int .i64 N),brL g nb,.p (.int .i64 k),.p (.int .i64 l)] (pebR N m F T Q) (pebO N m 0)∧PInv N k nb m g F T Q∧qL Q m=accI N k l g nb:=by
  have lp1:∀ d e m F T Q,e+d=nb→PInv N k nb m g F T Q→qL Q m=accI N k l g e →
      ∃ m' F' T' Q',(∀ c,c.n=0→zR c 293 zf37 (SY1 g nb N m k l e F T Q) (Post c (pebR N m' F' T' Q') (pebO N m' 0)))∧PInv N k nb m' g F' T' Q'∧qL Q' m'=accI N k l g nb:=by
    intro d
    induction d with
    | zero =>
      intro e m F T Q he hp hq
      obtain rfl:e=nb:=by omega
      refine ⟨m,F,T,Q,fun c hc=>?_,hp,hq⟩
      have hd:decide ((e:Int)<(e:Int))=false:=by simp
      refine pkD Tryz.func293 hc (pY2 g e N m k l e F T Q) ?_
      and_intros
      all_goals (first | exact zI | (intro i hi;simp [All]))
    | succ d ih =>
      intro e m F T Q he hp hq
      have hd:decide ((e:Int)<(nb:Int))=true:=by simp;omega
      have hm:m≤1048576:=by
        have:=accI_len N k l g e
        rw [← hq,qL_length] at this
        omega
      have hsp:Mat.Sparse N k l (plL g Q m):=by rw [plL_qL,hq];exact accI_sparse N k l g e
      have hcc:=con_copyPebbles N m F T Q hN hm
      rcases con_place hp hk hl hN hm hnb e (by omega) hsp with ⟨F1,T1,hc1,hp1,hs1⟩ | ⟨F1,T1,hc1,hs1⟩
      · obtain ⟨m',F',T',Q',hrun,h1,h2⟩:=ih (e+1) (m+1) F1 T1 _ (by omega) hp1 (by
          simp only [accI]
          rw [← hq,← plL_qL,if_pos hs1]
          simp only [qL,Nat.lt_irrefl,if_false,Int.toNat_natCast]
          rw [qL_congr (Q':=Q) m (fun j hj=>by simp only [hj,if_true])])
        refine ⟨m',F',T',Q',fun c hc=>?_,h1,h2⟩
        refine pcD hc (pY1t g nb N m k l e F T Q F1 T1) ?_ (hrun c hc)
        and_intros
        all_goals (first | exact zI | (exact hcc) | (exact hc1) | (intro i hi;simp [All]))
      · obtain ⟨m',F',T',Q',hrun,h1,h2⟩:=ih (e+1) m F T Q (by omega) hp (by
          simp only [accI]
          rw [← hq,← plL_qL,if_neg hs1])
        refine ⟨m',F',T',Q',fun c hc=>?_,h1,h2⟩
        refine pcD hc (pY1f g nb N m k l e F T Q F1 T1) ?_ (hrun c hc)
        and_intros
        all_goals (first | exact zI | (exact hcc) | (exact hc1) | (intro i hi;simp [All]))
  obtain ⟨m',F',T',Q',hrun,h1,h2⟩:=lp1 nb 0 0 _ _ _ (by omega) (PInv.start hb) rfl
  refine ⟨m',F',T',Q',?_,h1,h2⟩
  refine csZ Tryz.func293 (fun c hc=>?_)
  have lp0:∀ d i,i+d=N→zR c 293 zf57 (SY0 g nb N k l i) (Post c (pebR N m' F' T' Q') (pebO N m' 0)):=by
    intro d
    induction d with
    | zero =>
      intro i hi
      obtain rfl:i=N:=by omega
      have hd:decide ((i:Int)<(i:Int))=false:=by simp
      refine pcD hc (pY01 g nb i k l i) ?_ (hrun c hc)
      and_intros
      all_goals (first | exact zN | (intro i hi;simp [All]))
    | succ d ih =>
      intro i hi
      have hd:decide ((i:Int)<(N:Int))=true:=by simp;omega
      refine pcD hc (pY0 g nb N k l i) ?_ (ih (i+1) (by omega))
      and_intros
      all_goals (first | exact zI | (intro j hj;simp [All];done) | (intro j hj;by_cases h:j<i<;>simp [h,cvtL,cvt,tg,tru,All]))
  refine pcD hc (pYz g nb N k l) ?_ (lp0 N 0 (by omega))
  and_intros
  all_goals (first | exact zI | (intro i hi;simp [All]))
def grG (g:Nat→T_Bar) (nb N:Nat):AV:=.agg [.p (.int .i64 N),brL g nb]
def bxG (g:Nat→T_Bar) (nb N:Nat):Ob:=⟨true,2,1,fun _=>[.p (.int .i64 N),brL g nb]⟩
def bx0:Ob:=⟨true,3,1,fun _=>[.p .nil,.p .nil,.p .nil]⟩
def bxP (N m j:Nat):Ob:=⟨true,3,1,fun _=>[.ar 1 j 0 N,.ar 1 ⟨j+1,none⟩ 0 m,.ar 1 ⟨j+2,none⟩ 0 m]⟩
def bxD (N m:Nat) (F T Q:Nat→Int):Ob:=⟨true,3,1,fun _=>[inD N F,inD m T,inD m Q]⟩
def pebD (N m:Nat) (F T Q:Nat→Int):AV:=.agg [inD N F,inD m T,inD m Q]
def bOb (n:Nat) (S:Nat→Bool):Ob:=⟨false,1,n,fun i=>[.p (.bool (S i))]⟩
def SSc (g:Nat→T_Bar) (nb N m:Nat) (F T Q FR F1 T1:Nat→Int) (a u:Int):St :=
  ⟨[grG g nb N,pebD N m F T Q,inD N FR,.p (.int .i64 a),.p (.int .i64 u),.pt 2 0 0 0,.pt 3 1 0 0,.p .any,.p .any,.p .any,.pt 3 2 0 0,.pt 3 3 0 0]++List.replicate 51 anyA,
   [(0,bxG g nb N),(1,bxD N m F T Q),(2,bx0),(3,bxP N m 4),(4,iOb N F1),(5,iOb m T1),(6,iOb m Q)],7⟩
def SSl (g:Nat→T_Bar) (nb N m:Nat) (F T Q FR F1 T1:Nat→Int) (a u at':Int):St :=
  ⟨[grG g nb N,pebD N m F T Q,inD N FR,.p (.int .i64 a),.p (.int .i64 u),.pt 2 0 0 0,.pt 3 1 0 0,.p .any,.p .any,.p .any,.pt 3 2 0 0,.pt 3 3 0 0,.p (.int .i64 at')]++List.replicate 50 anyA,
   [(0,bxG g nb N),(1,bxD N m F T Q),(2,bx0),(3,bxP N m 4),(4,iOb N F1),(5,iOb m T1),(6,iOb m Q)],7⟩
def SF0 (g:Nat→T_Bar) (nb N m:Nat) (F T Q:Nat→Int) (a b:Int) (i:Nat):St :=
  ⟨[grG g nb N,pebO N m 0,.p (.int .i64 a),.p (.int .i64 b),.pt 2 3 0 0,.pt 3 4 0 0,.p .any,.p .any,.pt 3 5 0 0,.p .any,.ar 1 6 0 N,.p (.int .i64 i)]++List.replicate 94 anyA,
   [(0,iOb N F),(1,iOb m T),(2,iOb m Q),(3,bxG g nb N),(4,bxP N m 0),(5,bx0),(6,iOb N (fun s=>if s<i then -1 else 0))],7⟩
def SF1 (g:Nat→T_Bar) (nb N m:Nat) (F T Q td FR:Nat→Int) (SN:Nat→Bool) (a b:Int) (i tn:Nat):St :=
  ⟨[grG g nb N,pebO N m 0,.p (.int .i64 a),.p (.int .i64 b),.pt 2 3 0 0,.pt 3 4 0 0,.p .any,.p .any,.pt 3 5 0 0,.p .any,.ar 1 6 0 N,.p .any,.ar 1 8 0 tn,.ar 1 7 0 N,.p (.int .i64 i)]++List.replicate 91 anyA,
   [(0,iOb N F),(1,iOb m T),(2,iOb m Q),(3,bxG g nb N),(4,bxP N m 0),(5,bx0),(6,iOb N FR),(7,bOb N SN),(8,iOb tn td)],9⟩
def SF2 (g:Nat→T_Bar) (nb N m:Nat) (F T Q td FR:Nat→Int) (SN:Nat→Bool) (a b v:Int) (i j tn:Nat):St :=
  ⟨[grG g nb N,pebO N m 0,.p (.int .i64 a),.p (.int .i64 b),.pt 2 3 0 0,.pt 3 4 0 0,.p .any,.p .any,.pt 3 5 0 0,.p .any,.ar 1 6 0 N,.p .any,.ar 1 8 0 tn,.ar 1 7 0 N,.p (.int .i64 i),.p (.int .i64 v),.p (.int .i64 j)]++List.replicate 89 anyA,
   [(0,iOb N F),(1,iOb m T),(2,iOb m Q),(3,bxG g nb N),(4,bxP N m 0),(5,bx0),(6,iOb N FR),(7,bOb N SN),(8,iOb tn td)],9⟩
def SF3 (g:Nat→T_Bar) (nb N m:Nat) (F T Q FR:Nat→Int) (a b u:Int):St :=
  ⟨[grG g nb N,pebO N m 0,.p (.int .i64 a),.p (.int .i64 b),.pt 2 3 0 0,.pt 3 4 0 0,.p .any,.p .any,.pt 3 5 0 0,.p .any,.ar 1 6 0 N,.p .any,.p .any,.p .any,.p .any,.p .any,.p .any,.p (.int .i64 u)]++List.replicate 88 anyA,
   [(0,iOb N F),(1,iOb m T),(2,iOb m Q),(3,bxG g nb N),(4,bxP N m 0),(5,bx0),(6,iOb N FR)],7⟩
def pebR3 (N m:Nat) (F T Q F' T' Q':Nat→Int):Hp:=[(0,iOb N F),(1,iOb m T),(2,iOb m Q),(3,iOb N F'),(4,iOb m T'),(5,iOb m Q')]
theorem qOt (x:T_Bar) (v:Int) :
    zS Tryz.f324 [rg 2,rg 8] [brA x,.p (.int .i64 v)] [] [] (.p (.int .i64 (x.1+x.2.1 - v))) =
    some [(NT 0 1),(NT 0 1),(ZLo (x.1+x.2.1)),(ZHi (x.1+x.2.1)),(ZLo (x.1+x.2.1 - v)),(ZHi (x.1+x.2.1 - v)),(AI ((x.1+x.2.1 - v)))]:=by kernel_rfl
theorem qCp (N m:Nat) (F T Q:Nat→Int) :
    zS Tryz.f340 [rg 2,rg 14] [pebD N m F T Q] [160,288,416] (pebR N m F T Q) (pebO N m 0) =
    some (zD [(NT 0 1),(NL 0 0),(NL ((0+N)*8) 140737488355328),(NL (0+N) 9223372036854775807),(NL ((0+m)*8) 140737488355328),(NL (0+m) 9223372036854775807),((true=true)→ (AN 1)),(AN 0),(((0+N):Nat)=N),(((0+m):Nat)=m),(AN 1),(NL N (0+N)),(AA N (fun i=>[.p (.int .i64 (F i))])),(NL m (0+m)),(AA m (fun i=>[.p (.int .i64 (T i))])),(AA m (fun i=>[.p (.int .i64 (Q i))])),(AE N),(AE m)] [0,1,2,3,0,1,4,5,0,1,4,5,0,6,0,7,8,7,9,7,9,10,11,12,10,13,14,10,13,15,16,17,17]):=by kernel_rfl
theorem qSz (g:Nat→T_Bar) (nb N m:Nat) (F T Q FR:Nat→Int) (a u:Int) :
    zT Tryz.f407 [rg 3,rm [(1,oc (pebR N m F T Q) (pebO N m 0))] 2,rg 11,.head] [grG g nb N,pebD N m F T Q,inD N FR,.p (.int .i64 a),.p (.int .i64 u)] [0,32,64,160,128,129,130] (SSc g nb N m F T Q FR (fun s=>if s=u.toNat then F s - 1 else F s) T a u) =
    some ([.code (cAt (bodyOf Tryz.f407) [1,1,1,0]),.code (cAt (bodyOf Tryz.f407) [1,1,1,1])],zD [(NT 0 1),zE 340 [(zf58 N F m T Q)] (zf34 N F m T Q) (.agg [.ar 1 0 0 N,.ar 1 1 0 m,.ar 1 2 0 m]),((true=true)→ (AN 1)),(IL 0 u),(IT u (↑N:Int)),(NT u.toNat N),(ZLo (F u.toNat - 1)),(ZHi (F u.toNat - 1)),((false=true)→ ((N:Nat)=1)),(AI ((↑N:Int))),(AN nb),(AP nb (bRw g)),(AN N),(AP N (fun i=>[.int .i64 (F i)])),(AN m),(AP m (fun i=>[.int .i64 (T i)])),(AP m (fun i=>[.int .i64 (Q i)])),(AP N (fun i=>[.int .i64 (FR i)])),(AI a),(AI u),(AN 0),((([AV.p (PV.int IntKind.i64 (↑N:Int)),brL g nb].length):Nat)=2),(NL 1 1),((([inD N F,inD m T,inD m Q].length):Nat)=3),((((List.map (fun v=>AV.p (absV v)) [Value.slice none 0 0,Value.slice none 0 0,Value.slice none 0 0]).length):Nat)=3),(AN 1),(NL N N),(CV [(128,⟨false,1,N,(fun i_1=>(if (i_1=u.toNat) then [.p (.int .i64 (F u.toNat - 1))] else [.p (.int .i64 (F i_1))]))⟩),(160,⟨true,3,1,(fun i_1=>[.ar 1 128 0 N,.ar 1 129 0 m,.ar 1 130 0 m])⟩),(130,⟨false,1,m,(fun i_1=>[.p (.int .i64 (Q i_1))])⟩),(129,⟨false,1,m,(fun i_1=>[.p (.int .i64 (T i_1))])⟩),(64,⟨true,3,1,(fun i_1=>[.p (.nil),.p (.nil),.p (.nil)])⟩),(32,⟨true,3,1,(fun i_1=>[.p (.seq true 1 N (fun i_2=>[.int .i64 (F i_2)])),.p (.seq true 1 m (fun i_2=>[.int .i64 (T i_2)])),.p (.seq true 1 m (fun i_2=>[.int .i64 (Q i_2)]))])⟩),(0,⟨true,2,1,(fun i_1=>[.p (.int .i64 (↑N:Int)),.p (.seq true 2 nb (bRw g))])⟩)] [0,32,64,160,128,129,130] 1 N (fun i=>if (i=u.toNat) then [.p (.int .i64 (F u.toNat - 1))] else [.p (.int .i64 (F i))]) (fun i=>[.p (.int .i64 (if i=u.toNat then F i - 1 else F i))])),(NL m m),(AA m (fun i=>[.p (.int .i64 (T i))])),(AA m (fun i=>[.p (.int .i64 (Q i))]))] [0,1,0,2,0,0,3,4,5,6,7,3,4,5,8,9,10,11,12,13,14,15,14,16,12,17,18,19,20,20,20,20,21,22,22,9,10,11,23,22,22,12,13,14,15,14,16,24,22,22,24,22,22,20,12,20,14,20,14,25,26,27,25,28,29,25,28,30]):=by kernel_rfl
theorem qSa (g:Nat→T_Bar) (nb N m:Nat) (F T Q FR F1 T1:Nat→Int) (a u:Int) :
    zM 0 [rg 11,rg 2,.head] [.code (cAt (bodyOf Tryz.f407) [1,1,1,0]),.code (cAt (bodyOf Tryz.f407) [1,1,1,1])] (SSc g nb N m F T Q FR F1 T1 a u) [0,1,2,3,4,5,6] 1 (SSl g nb N m F T Q FR (fun s=>if s=a.toNat then F1 s+1 else F1 s) T1 a u u) =
    some (zf28,zD [(NT 0 1),(IL 0 a),(IT a (↑N:Int)),(NT a.toNat N),(ZLo (F1 a.toNat+1)),(ZHi (F1 a.toNat+1)),((false=true)→ ((N:Nat)=1)),(AI ((↑N:Int))),(AN nb),(AP nb (bRw g)),(AN N),(AP N (fun i=>[.int .i64 (F i)])),(AN m),(AP m (fun i=>[.int .i64 (T i)])),(AP m (fun i=>[.int .i64 (Q i)])),(AP N (fun i=>[.int .i64 (FR i)])),(AI a),(AI u),(AN 0),(AN 2),(NL 1 1),(AN 3),(AN 1),(NL N N),(CV [(4,⟨false,1,N,(fun i_1=>(if (i_1=a.toNat) then [.p (.int .i64 (F1 a.toNat+1))] else [.p (.int .i64 (F1 i_1))]))⟩),(0,⟨true,2,1,(fun i_1=>[.p (.int .i64 (↑N:Int)),.p (.seq true 2 nb (bRw g))])⟩),(1,⟨true,3,1,(fun i_1=>[.p (.seq true 1 N (fun i_2=>[.int .i64 (F i_2)])),.p (.seq true 1 m (fun i_2=>[.int .i64 (T i_2)])),.p (.seq true 1 m (fun i_2=>[.int .i64 (Q i_2)]))])⟩),(2,⟨true,3,1,(fun i_1=>[.p (.nil),.p (.nil),.p (.nil)])⟩),(3,⟨true,3,1,(fun i_1=>[.ar 1 4 0 N,.ar 1 5 0 m,.ar 1 6 0 m])⟩),(5,⟨false,1,m,(fun i_1=>[.p (.int .i64 (T1 i_1))])⟩),(6,⟨false,1,m,(fun i_1=>[.p (.int .i64 (Q i_1))])⟩)] [0,1,2,3,4,5,6] 1 N (fun i=>if (i=a.toNat) then [.p (.int .i64 (F1 a.toNat+1))] else [.p (.int .i64 (F1 i))]) (fun i=>[.p (.int .i64 (if i=a.toNat then F1 i+1 else F1 i))])),(NL m m),(AA m (fun i=>[.p (.int .i64 (T1 i))])),(AA m (fun i=>[.p (.int .i64 (Q i))]))] [0,0,1,2,3,4,5,1,2,3,6,7,8,9,10,11,12,13,12,14,10,15,16,17,18,18,18,18,17,19,20,20,7,8,9,21,20,20,10,11,12,13,12,14,21,20,20,21,20,20,18,10,18,12,18,12,22,23,24,22,25,26,22,25,27]):=by kernel_rfl
theorem qSl (g:Nat→T_Bar) (nb N m:Nat) (F T Q FR F1 T1:Nat→Int) (a u at' w:Int) :
    zM 0 [rg 3,.dec true,rg 5,rm [(10,oc [] (.p (.int .i64 w)))] 1,rg 6,rg 2,.head] zf28 (SSl g nb N m F T Q FR F1 T1 a u at') [0,1,2,3,4,5,6] 1 (SSl g nb N m F T Q FR F1 (fun s=>if s=(FR at'.toNat).toNat then at' else T1 s) a u w) =
    some (zf28,zD [((at' != a)=true),(IL 0 (at')),(IT (at') (↑N:Int)),(NT 0 1),(IL 0 (FR at'.toNat)),(IT (FR at'.toNat) (↑m:Int)),(IL 0 (Q (FR at'.toNat).toNat)),(IT (Q (FR at'.toNat).toNat) (↑nb:Int)),zE 324 [.agg [.p (.int .i64 ((g (Q (FR at'.toNat).toNat).toNat).1)),.p (.int .i64 ((g (Q (FR at'.toNat).toNat).toNat).2.1))],.p (.int .i64 at')] [] (.p (.int .i64 w)),(NT ((FR at'.toNat).toNat) m),((false=true)→ ((m:Nat)=1)),(AI ((↑N:Int))),(AN nb),(AP nb (bRw g)),(AN N),(AP N (fun i=>[.int .i64 (F i)])),(AN m),(AP m (fun i=>[.int .i64 (T i)])),(AP m (fun i=>[.int .i64 (Q i)])),(AP N (fun i=>[.int .i64 (FR i)])),(AI a),(AI u),(AN 0),(AI w),(AN 2),(NL 1 1),(AN 3),(AN 1),(NL N N),(AA N (fun i=>[.p (.int .i64 (F1 i))])),(NL m m),(CV [(5,⟨false,1,m,(fun i_1=>(if (i_1=(FR at'.toNat).toNat) then [.p (.int .i64 at')] else [.p (.int .i64 (T1 i_1))]))⟩),(0,⟨true,2,1,(fun i_1=>[.p (.int .i64 (↑N:Int)),.p (.seq true 2 nb (bRw g))])⟩),(1,⟨true,3,1,(fun i_1=>[.p (.seq true 1 N (fun i_2=>[.int .i64 (F i_2)])),.p (.seq true 1 m (fun i_2=>[.int .i64 (T i_2)])),.p (.seq true 1 m (fun i_2=>[.int .i64 (Q i_2)]))])⟩),(2,⟨true,3,1,(fun i_1=>[.p (.nil),.p (.nil),.p (.nil)])⟩),(3,⟨true,3,1,(fun i_1=>[.ar 1 4 0 N,.ar 1 5 0 m,.ar 1 6 0 m])⟩),(4,⟨false,1,N,(fun i_1=>[.p (.int .i64 (F1 i_1))])⟩),(6,⟨false,1,m,(fun i_1=>[.p (.int .i64 (Q i_1))])⟩)] [0,1,2,3,4,5,6] 1 m (fun i=>if (i=(FR at'.toNat).toNat) then [.p (.int .i64 at')] else [.p (.int .i64 (T1 i))]) (fun i=>[.p (.int .i64 (if i=(FR at'.toNat).toNat then at' else T1 i))])),(AA m (fun i=>[.p (.int .i64 (Q i))]))] [0,1,2,3,3,4,5,6,7,8,3,4,5,9,10,11,12,13,14,15,16,17,16,18,14,19,20,21,22,22,22,22,23,24,25,25,11,12,13,26,25,25,14,15,16,17,16,18,26,25,25,26,25,25,22,14,22,16,22,16,27,28,29,27,30,31,27,30,32]):=by kernel_rfl
theorem qSe (g:Nat→T_Bar) (nb N m:Nat) (F T Q FR F1 T1:Nat→Int) (a u at':Int) :
    zP Tryz.f407 0 [rg 3,.dec false,rg 2] zf28 (SSl g nb N m F T Q FR F1 T1 a u at') [4,5,6] 1 (pebR N m F1 T1 Q) (pebO N m 0) =
    some (zD [((at' != a)=false),(NT 0 1),((true=true)→ (AN 1)),(AN 0),(AN N),(AN m),(AN 1),(NL N N),(AA N (fun i=>[.p (.int .i64 (F1 i))])),(NL m m),(AA m (fun i=>[.p (.int .i64 (T1 i))])),(AA m (fun i=>[.p (.int .i64 (Q i))])),(AE N),(AE m)] [0,1,1,2,1,3,4,3,5,3,5,6,7,8,6,9,10,6,9,11,12,13,13]):=by kernel_rfl
theorem qFz (g:Nat→T_Bar) (nb N m:Nat) (F T Q:Nat→Int) (a b:Int) :
    zM 3 [rg 4,rg 4,rg 1,.head] [.code (bodyOf Tryz.f377)] (start Tryz.f377 (pebR N m F T Q) 3 [grG g nb N,pebO N m 0,.p (.int .i64 a),.p (.int .i64 b)]) [0,1,2,3,35,67,195] 1 (SF0 g nb N m F T Q a b 0) =
    some (zf59,zD [(NT 0 1),(IL 0 (↑N:Int)),(IL (↑N:Int) (↑N:Int)),(IL ((↑N:Int)*(↑8:Int)) 281474976710656),(ZHi (↑N:Int)),(AI ((↑N:Int))),(AN nb),(AP nb (bRw g)),(AN 0),(AN N),(AN m),(AI a),(AI b),((0:Int)=(↑0:Int)),(AN 1),(NL N N),(AA N (fun i=>[.p (.int .i64 (F i))])),(NL m m),(AA m (fun i=>[.p (.int .i64 (T i))])),(AA m (fun i=>[.p (.int .i64 (Q i))])),((([AV.p (PV.int IntKind.i64 (↑N:Int)),brL g nb].length):Nat)=2),(NL 1 1),((([AV.ar 1 (Id.mk 0 none) 0 N,AV.ar 1 (Id.mk 1 none) 0 m,AV.ar 1 (Id.mk 2 none) 0 m].length):Nat)=3),((((List.map (fun v=>AV.p (absV v)) [Value.slice none 0 0,Value.slice none 0 0,Value.slice none 0 0]).length):Nat)=3),(∀ i:Nat,(((i:Nat)<N)→(All []∧(([.p (.int .i64 0)]:List AV)=[.p (.int .i64 (if i<0 then -1 else 0))]))))] [0,1,2,3,4,5,6,7,8,9,8,10,8,10,11,12,8,8,8,8,9,13,14,15,16,14,17,18,14,17,19,20,21,21,5,6,7,22,21,21,8,9,8,10,8,10,23,21,21,14,15,24]):=by kernel_rfl
theorem qF0 (g:Nat→T_Bar) (nb N m:Nat) (F T Q:Nat→Int) (a b:Int) (i:Nat) :
    zM 3 [rg 4,.dec true,rg 4,rg 3,.head] zf59 (SF0 g nb N m F T Q a b i) [0,1,2,3,4,5,6] 1 (SF0 g nb N m F T Q a b (i+1)) =
    some (zf59,zD [(NT 0 1),((decide ((↑i:Int)<(↑N:Int)))=true),(IL 0 (↑i:Int)),(IT (↑i:Int) (↑N:Int)),(NT i N),((false=true)→ ((N:Nat)=1)),(ZLo ((↑i:Int)+1)),(ZHi ((↑i:Int)+1)),(AI ((↑N:Int))),(AN nb),(AP nb (bRw g)),(AN 0),(AN N),(AN m),(AI a),(AI b),((((↑i:Int)+1):Int)=(↑(i+1):Int)),(AN 1),(NL N N),(AA N (fun i_1=>[.p (.int .i64 (F i_1))])),(NL m m),(AA m (fun i_1=>[.p (.int .i64 (T i_1))])),(AA m (fun i_1=>[.p (.int .i64 (Q i_1))])),(AN 2),(NL 1 1),(AN 3),(CV [(6,⟨false,1,N,(fun i_2=>(if (i_2=i) then [.p (.int .i64 (-1))] else [.p (.int .i64 (if i_2<i then -1 else 0))]))⟩),(0,⟨false,1,N,(fun i_2=>[.p (.int .i64 (F i_2))])⟩),(1,⟨false,1,m,(fun i_2=>[.p (.int .i64 (T i_2))])⟩),(2,⟨false,1,m,(fun i_2=>[.p (.int .i64 (Q i_2))])⟩),(3,⟨true,2,1,(fun i_2=>[.p (.int .i64 (↑N:Int)),.p (.seq true 2 nb (bRw g))])⟩),(4,⟨true,3,1,(fun i_2=>[.ar 1 0 0 N,.ar 1 1 0 m,.ar 1 2 0 m])⟩),(5,⟨true,3,1,(fun i_2=>[.p (.nil),.p (.nil),.p (.nil)])⟩)] [0,1,2,3,4,5,6] 1 N (fun i_1=>if (i_1=i) then [.p (.int .i64 (-1))] else [.p (.int .i64 (if i_1<i then -1 else 0))]) (fun i_1=>[.p (.int .i64 (if i_1<i+1 then -1 else 0))]))] [0,1,2,3,4,5,6,7,8,9,10,11,12,11,13,11,13,14,15,11,11,11,11,12,16,17,18,19,17,20,21,17,20,22,23,24,24,8,9,10,25,24,24,11,12,11,13,11,13,25,24,24,17,18,26]):=by kernel_rfl
theorem qF01 (g:Nat→T_Bar) (nb N m:Nat) (F T Q:Nat→Int) (a b:Int) (i:Nat) :
    zM 3 [rg 4,.dec false,rg 3,rg 4,rg 4,rg 1,.head] zf59 (SF0 g nb N m F T Q a b i) [0,1,2,3,4,5,6,295,167] 1 (SF1 g nb N m F T Q (fun _=>a) (fun _=>-1) (fun s=>if s=a.toNat then true else false) a b 0 1) =
    some (zf19,zD [(NT 0 1),((decide ((↑i:Int)<(↑N:Int)))=false),(IL 0 (↑N:Int)),(IL (↑N:Int) (↑N:Int)),(IL ((↑N:Int)*(↑1:Int)) 281474976710656),(ZHi (↑N:Int)),(IL 0 a),(IT a (↑N:Int)),(NT a.toNat N),((false=true)→ ((N:Nat)=1)),(AI ((↑N:Int))),(AN nb),(AP nb (bRw g)),(AN 0),(AN N),(AN m),(AI a),(AI b),(AN 1),((0:Int)=(↑0:Int)),(NL N N),(AA N (fun i_1=>[.p (.int .i64 (F i_1))])),(NL m m),(AA m (fun i_1=>[.p (.int .i64 (T i_1))])),(AA m (fun i_1=>[.p (.int .i64 (Q i_1))])),(AN 2),(NL 1 1),(AN 3),(∀ i_1:Nat,(((i_1:Nat)<N)→(All []∧(([.p (.int .i64 (if i_1<i then -1 else 0))]:List AV)=[.p (.int .i64 (-1))])))),(CV [(295,⟨false,1,N,(fun i_2=>(if (i_2=a.toNat) then [.p (.bool true)] else [.p (.bool false)]))⟩),(167,⟨false,1,1,(fun i_2=>[.p (.int .i64 a)])⟩),(0,⟨false,1,N,(fun i_2=>[.p (.int .i64 (F i_2))])⟩),(1,⟨false,1,m,(fun i_2=>[.p (.int .i64 (T i_2))])⟩),(2,⟨false,1,m,(fun i_2=>[.p (.int .i64 (Q i_2))])⟩),(3,⟨true,2,1,(fun i_2=>[.p (.int .i64 (↑N:Int)),.p (.seq true 2 nb (bRw g))])⟩),(4,⟨true,3,1,(fun i_2=>[.ar 1 0 0 N,.ar 1 1 0 m,.ar 1 2 0 m])⟩),(5,⟨true,3,1,(fun i_2=>[.p (.nil),.p (.nil),.p (.nil)])⟩),(6,⟨false,1,N,(fun i_2=>[.p (.int .i64 (if i_2<i then -1 else 0))])⟩)] [0,1,2,3,4,5,6,295,167] 1 N (fun i_1=>if (i_1=a.toNat) then [.p (.bool true)] else [.p (.bool false)]) (fun i_1=>[.p (.bool (if i_1=a.toNat then true else false))])),(AA 1 (fun i_1=>[.p (.int .i64 a)]))] [0,1,0,2,3,4,5,6,7,8,9,10,11,12,13,14,13,15,13,15,16,17,13,13,13,13,14,13,18,13,14,19,18,20,21,18,22,23,18,22,24,25,26,26,10,11,12,27,26,26,13,14,13,15,13,15,27,26,26,18,20,28,18,20,29,18,26,30]):=by kernel_rfl
theorem qF1 (g:Nat→T_Bar) (nb N m:Nat) (F T Q td FR:Nat→Int) (SN:Nat→Bool) (a b:Int) (i tn:Nat) :
    zM 3 [rg 4,.dec true,rg 5,rg 1,.head] zf19 (SF1 g nb N m F T Q td FR SN a b i tn) [0,1,2,3,4,5,6,7,8] 1 (SF2 g nb N m F T Q td FR SN a b (td i) i 0 tn) =
    some (zf7,zD [((decide ((↑i:Int)<(↑tn:Int)))=true),(IL 0 (↑i:Int)),(IT (↑i:Int) (↑tn:Int)),(NT i tn),(AI ((↑N:Int))),(AN nb),(AP nb (bRw g)),(AN 0),(AN N),(AN m),(AI a),(AI b),(AN tn),(AI ((↑i:Int))),(AI ((td i))),((0:Int)=(↑0:Int)),(AN 1),(NL N N),(AA N (fun i_1=>[.p (.int .i64 (F i_1))])),(NL m m),(AA m (fun i_1=>[.p (.int .i64 (T i_1))])),(AA m (fun i_1=>[.p (.int .i64 (Q i_1))])),(AN 2),(NL 1 1),(AN 3),(AA N (fun i_1=>[.p (.int .i64 (FR i_1))])),(AA N (fun i_1=>[.p (.bool (SN i_1))])),(NL tn tn),(AA tn (fun i_1=>[.p (.int .i64 (td i_1))]))] [0,1,2,3,4,5,6,7,8,7,9,7,9,10,11,7,7,7,7,8,7,12,7,8,13,14,15,16,17,18,16,19,20,16,19,21,22,23,23,4,5,6,24,23,23,7,8,7,9,7,9,24,23,23,16,17,25,16,17,26,16,27,28]):=by kernel_rfl
theorem qF1e (g:Nat→T_Bar) (nb N m:Nat) (F T Q td FR:Nat→Int) (SN:Nat→Bool) (a b:Int) (i tn:Nat) :
    zP Tryz.f377 3 [rg 4,.dec false,rg 3] zf19 (SF1 g nb N m F T Q td FR SN a b i tn) [0,1,2] 1 (pebR N m F T Q) (.tup [pebO N m 0,.p (.bool false)]) =
    some (zD [((decide ((↑i:Int)<(↑tn:Int)))=false),(NT 0 1),((true=true)→ (AN 1)),(AN 0),(AN N),(AN m),(false=false),(AN 1),(NL N N),(AA N (fun i_1=>[.p (.int .i64 (F i_1))])),(NL m m),(AA m (fun i_1=>[.p (.int .i64 (T i_1))])),(AA m (fun i_1=>[.p (.int .i64 (Q i_1))])),(AE N),(AE m)] [0,1,1,2,1,3,4,3,5,3,5,6,7,8,9,7,10,11,7,10,12,13,14,14]):=by kernel_rfl
theorem qF2e (g:Nat→T_Bar) (nb N m:Nat) (F T Q td FR:Nat→Int) (SN:Nat→Bool) (a b v:Int) (i j tn:Nat) :
    zM 3 [rg 5,.dec false,rg 3,.head] zf7 (SF2 g nb N m F T Q td FR SN a b v i j tn) [0,1,2,3,4,5,6,7,8] 1 (SF1 g nb N m F T Q td FR SN a b (i+1) tn) =
    some (zf19,zD [(NT 0 1),((decide ((↑j:Int)<(↑m:Int)))=false),(ZLo ((↑i:Int)+1)),(ZHi ((↑i:Int)+1)),(AI ((↑N:Int))),(AN nb),(AP nb (bRw g)),(AN 0),(AN N),(AN m),(AI a),(AI b),(AN tn),((((↑i:Int)+1):Int)=(↑(i+1):Int)),(AN 1),(NL N N),(AA N (fun i_1=>[.p (.int .i64 (F i_1))])),(NL m m),(AA m (fun i_1=>[.p (.int .i64 (T i_1))])),(AA m (fun i_1=>[.p (.int .i64 (Q i_1))])),(AN 2),(NL 1 1),(AN 3),(AA N (fun i_1=>[.p (.int .i64 (FR i_1))])),(AA N (fun i_1=>[.p (.bool (SN i_1))])),(NL tn tn),(AA tn (fun i_1=>[.p (.int .i64 (td i_1))]))] [0,1,2,3,4,5,6,7,8,7,9,7,9,10,11,7,7,7,7,8,7,12,7,8,13,14,15,16,14,17,18,14,17,19,20,21,21,4,5,6,22,21,21,7,8,7,9,7,9,22,21,21,14,15,23,14,15,24,14,25,26]):=by kernel_rfl
theorem qF2a (g:Nat→T_Bar) (nb N m:Nat) (F T Q td FR:Nat→Int) (SN:Nat→Bool) (a b v:Int) (i j tn:Nat) :
    zM 3 [rg 5,.dec true,rg 7,.dec true,rg 3,.head] zf7 (SF2 g nb N m F T Q td FR SN a b v i j tn) [0,1,2,3,4,5,6,7,8] 1 (SF2 g nb N m F T Q td FR SN a b v i (j+1) tn) =
    some (zf7,zD [(NT 0 1),((decide ((↑j:Int)<(↑m:Int)))=true),(IL 0 (↑j:Int)),(IT (↑j:Int) (↑m:Int)),(NT j m),((T j != v)=true),(ZLo ((↑j:Int)+1)),(ZHi ((↑j:Int)+1)),(AI ((↑N:Int))),(AN nb),(AP nb (bRw g)),(AN 0),(AN N),(AN m),(AI a),(AI b),(AN tn),(AI ((↑i:Int))),(AI v),((((↑j:Int)+1):Int)=(↑(j+1):Int)),(AN 1),(NL N N),(AA N (fun i_1=>[.p (.int .i64 (F i_1))])),(NL m m),(AA m (fun i_1=>[.p (.int .i64 (T i_1))])),(AA m (fun i_1=>[.p (.int .i64 (Q i_1))])),(AN 2),(NL 1 1),(AN 3),(AA N (fun i_1=>[.p (.int .i64 (FR i_1))])),(AA N (fun i_1=>[.p (.bool (SN i_1))])),(NL tn tn),(AA tn (fun i_1=>[.p (.int .i64 (td i_1))]))] [0,1,0,2,3,4,5,6,7,8,9,10,11,12,11,13,11,13,14,15,11,11,11,11,12,11,16,11,12,17,18,19,20,21,22,20,23,24,20,23,25,26,27,27,8,9,10,28,27,27,11,12,11,13,11,13,28,27,27,20,21,29,20,21,30,20,31,32]):=by kernel_rfl
theorem qF2b (g:Nat→T_Bar) (nb N m:Nat) (F T Q td FR:Nat→Int) (SN:Nat→Bool) (a b v u:Int) (i j tn:Nat) :
    zM 3 [rg 5,.dec true,rg 7,.dec false,rm [(10,oc [] (.p (.int .i64 u)))] 1,rg 4,.dec true,rg 3,.head] zf7 (SF2 g nb N m F T Q td FR SN a b v i j tn) [0,1,2,3,4,5,6,7,8] 1 (SF2 g nb N m F T Q td FR SN a b v i (j+1) tn) =
    some (zf7,zD [(NT 0 1),((decide ((↑j:Int)<(↑m:Int)))=true),(IL 0 (↑j:Int)),(IT (↑j:Int) (↑m:Int)),(NT j m),((T j != v)=false),(IL 0 (Q j)),(IT (Q j) (↑nb:Int)),zE 324 [(zf100 g Q j),.p (.int .i64 v)] [] (.p (.int .i64 u)),(IL 0 u),(IT u (↑N:Int)),(NT u.toNat N),((SN u.toNat)=true),(ZLo ((↑j:Int)+1)),(ZHi ((↑j:Int)+1)),(AI ((↑N:Int))),(AN nb),(AP nb (bRw g)),(AN 0),(AN N),(AN m),(AI a),(AI b),(AN tn),(AI ((↑i:Int))),(AI v),((((↑j:Int)+1):Int)=(↑(j+1):Int)),(AN 1),(NL N N),(AA N (fun i_1=>[.p (.int .i64 (F i_1))])),(NL m m),(AA m (fun i_1=>[.p (.int .i64 (T i_1))])),(AA m (fun i_1=>[.p (.int .i64 (Q i_1))])),(AN 2),(NL 1 1),(AN 3),(AA N (fun i_1=>[.p (.int .i64 (FR i_1))])),(AA N (fun i_1=>[.p (.bool (SN i_1))])),(NL tn tn),(AA tn (fun i_1=>[.p (.int .i64 (td i_1))]))] [0,1,0,2,3,4,5,0,0,2,3,4,6,7,8,9,10,11,12,13,14,15,16,17,18,19,18,20,18,20,21,22,18,18,18,18,19,18,23,18,19,24,25,26,27,28,29,27,30,31,27,30,32,33,34,34,15,16,17,35,34,34,18,19,18,20,18,20,35,34,34,27,28,36,27,28,37,27,38,39]):=by kernel_rfl
theorem qF2c (g:Nat→T_Bar) (nb N m:Nat) (F T Q td FR:Nat→Int) (SN:Nat→Bool) (a b v u:Int) (i j tn:Nat) :
    zM 3 [rg 5,.dec true,rg 7,.dec false,rm [(10,oc [] (.p (.int .i64 u)))] 1,rg 4,.dec false,rg 4,rg 5,rg 11,.dec false,rg 5,rg 3,.head] zf7 (SF2 g nb N m F T Q td FR SN a b v i j tn) [0,1,2,3,4,5,6,7,1641] 1 (SF2 g nb N m F T Q (fun s=>if s<tn then td s else u) (fun s=>if s=u.toNat then j else FR s) (fun s=>if s=u.toNat then true else SN s) a b v i (j+1) (tn+1)) =
    some (zf7,zD [(NT 0 1),((decide ((↑j:Int)<(↑m:Int)))=true),(IL 0 (↑j:Int)),(IT (↑j:Int) (↑m:Int)),(NT j m),((T j != v)=false),(IL 0 (Q j)),(IT (Q j) (↑nb:Int)),zE 324 [(zf100 g Q j),.p (.int .i64 v)] [] (.p (.int .i64 u)),(IL 0 u),(IT u (↑N:Int)),(NT u.toNat N),((SN u.toNat)=false),((false=true)→ ((N:Nat)=1)),(AG (u != b)),(((u != b)=true)→(NT 0 1)),(((u != b)=true)→(IL 0 u)),(((u != b)=true)→(IT u (↑N:Int))),(((u != b)=true)→(NT u.toNat N)),((bif u != b then decide (F (u.toNat+0)>0) else false)=false),(NL 1 1),(NL tn tn),(NL ((tn+1)*8) 140737488355328),(NL (tn+1) 9223372036854775807),(ZLo ((↑j:Int)+1)),(ZHi ((↑j:Int)+1)),(AI ((↑N:Int))),(AN nb),(AP nb (bRw g)),(AN 0),(AN N),(AN m),(AI a),(AI b),(AN ((tn+1))),(AI ((↑i:Int))),(AI v),((((↑j:Int)+1):Int)=(↑(j+1):Int)),(AN 1),(NL N N),(AA N (fun i_1=>[.p (.int .i64 (F i_1))])),(NL m m),(AA m (fun i_1=>[.p (.int .i64 (T i_1))])),(AA m (fun i_1=>[.p (.int .i64 (Q i_1))])),(AN 2),(AN 3),(CV [(1641,⟨false,1,(tn+1),(fun i_2=>(if (i_2<tn) then [.p (.int .i64 (td i_2))] else [.p (.int .i64 u)]))⟩),(1609,⟨false,1,1,(fun i_2=>[.p (.int .i64 u)])⟩),(6,⟨false,1,N,(fun i_2=>(if (i_2=u.toNat) then [.p (.int .i64 (↑j:Int))] else [.p (.int .i64 (FR i_2))]))⟩),(7,⟨false,1,N,(fun i_2=>(if (i_2=u.toNat) then [.p (.bool true)] else [.p (.bool (SN i_2))]))⟩),(0,⟨false,1,N,(fun i_2=>[.p (.int .i64 (F i_2))])⟩),(1,⟨false,1,m,(fun i_2=>[.p (.int .i64 (T i_2))])⟩),(2,⟨false,1,m,(fun i_2=>[.p (.int .i64 (Q i_2))])⟩),(3,⟨true,2,1,(fun i_2=>[.p (.int .i64 (↑N:Int)),.p (.seq true 2 nb (bRw g))])⟩),(4,⟨true,3,1,(fun i_2=>[.ar 1 0 0 N,.ar 1 1 0 m,.ar 1 2 0 m])⟩),(5,⟨true,3,1,(fun i_2=>[.p (.nil),.p (.nil),.p (.nil)])⟩)] [0,1,2,3,4,5,6,7,1641] 1 N (fun i_1=>if (i_1=u.toNat) then [.p (.int .i64 (↑j:Int))] else [.p (.int .i64 (FR i_1))]) (fun i_1=>[.p (.int .i64 (if i_1=u.toNat then (↑j:Int) else FR i_1))])),(CV [(1641,⟨false,1,(tn+1),(fun i_2=>(if (i_2<tn) then [.p (.int .i64 (td i_2))] else [.p (.int .i64 u)]))⟩),(1609,⟨false,1,1,(fun i_2=>[.p (.int .i64 u)])⟩),(6,⟨false,1,N,(fun i_2=>(if (i_2=u.toNat) then [.p (.int .i64 (↑j:Int))] else [.p (.int .i64 (FR i_2))]))⟩),(7,⟨false,1,N,(fun i_2=>(if (i_2=u.toNat) then [.p (.bool true)] else [.p (.bool (SN i_2))]))⟩),(0,⟨false,1,N,(fun i_2=>[.p (.int .i64 (F i_2))])⟩),(1,⟨false,1,m,(fun i_2=>[.p (.int .i64 (T i_2))])⟩),(2,⟨false,1,m,(fun i_2=>[.p (.int .i64 (Q i_2))])⟩),(3,⟨true,2,1,(fun i_2=>[.p (.int .i64 (↑N:Int)),.p (.seq true 2 nb (bRw g))])⟩),(4,⟨true,3,1,(fun i_2=>[.ar 1 0 0 N,.ar 1 1 0 m,.ar 1 2 0 m])⟩),(5,⟨true,3,1,(fun i_2=>[.p (.nil),.p (.nil),.p (.nil)])⟩)] [0,1,2,3,4,5,6,7,1641] 1 N (fun i_1=>if (i_1=u.toNat) then [.p (.bool true)] else [.p (.bool (SN i_1))]) (fun i_1=>[.p (.bool (if i_1=u.toNat then true else SN i_1))])),(NL (tn+1) (tn+1)),(CV [(1641,⟨false,1,(tn+1),(fun i_2=>(if (i_2<tn) then [.p (.int .i64 (td i_2))] else [.p (.int .i64 u)]))⟩),(1609,⟨false,1,1,(fun i_2=>[.p (.int .i64 u)])⟩),(6,⟨false,1,N,(fun i_2=>(if (i_2=u.toNat) then [.p (.int .i64 (↑j:Int))] else [.p (.int .i64 (FR i_2))]))⟩),(7,⟨false,1,N,(fun i_2=>(if (i_2=u.toNat) then [.p (.bool true)] else [.p (.bool (SN i_2))]))⟩),(0,⟨false,1,N,(fun i_2=>[.p (.int .i64 (F i_2))])⟩),(1,⟨false,1,m,(fun i_2=>[.p (.int .i64 (T i_2))])⟩),(2,⟨false,1,m,(fun i_2=>[.p (.int .i64 (Q i_2))])⟩),(3,⟨true,2,1,(fun i_2=>[.p (.int .i64 (↑N:Int)),.p (.seq true 2 nb (bRw g))])⟩),(4,⟨true,3,1,(fun i_2=>[.ar 1 0 0 N,.ar 1 1 0 m,.ar 1 2 0 m])⟩),(5,⟨true,3,1,(fun i_2=>[.p (.nil),.p (.nil),.p (.nil)])⟩)] [0,1,2,3,4,5,6,7,1641] 1 (tn+1) (fun i_1=>if (i_1<tn) then [.p (.int .i64 (td i_1))] else [.p (.int .i64 u)]) (fun i_1=>[.p (.int .i64 (if i_1<tn then td i_1 else u))]))] [0,1,0,2,3,4,5,0,0,2,3,4,6,7,8,9,10,11,12,9,10,11,13,9,10,11,13,14,15,14,14,16,17,14,18,14,14,19,20,21,22,23,24,25,26,27,28,29,30,29,31,29,31,32,33,29,29,29,29,30,29,34,29,30,35,36,37,38,39,40,38,41,42,38,41,43,44,20,20,26,27,28,45,20,20,29,30,29,31,29,31,45,20,20,38,39,46,38,39,47,38,48,49]):=by kernel_rfl
theorem qF2d (g:Nat→T_Bar) (nb N m:Nat) (F T Q td FR:Nat→Int) (SN:Nat→Bool) (a b v u:Int) (i j tn:Nat) :
    zM 3 [rg 5,.dec true,rg 7,.dec false,rm [(10,oc [] (.p (.int .i64 u)))] 1,rg 4,.dec false,rg 4,rg 5,rg 11,.dec true,.head] zf7 (SF2 g nb N m F T Q td FR SN a b v i j tn) [0,1,2,3,4,5,6] 1 (SF3 g nb N m F T Q (fun s=>if s=u.toNat then j else FR s) a b u) =
    some (zf2,zD [(NT 0 1),((decide ((↑j:Int)<(↑m:Int)))=true),(IL 0 (↑j:Int)),(IT (↑j:Int) (↑m:Int)),(NT j m),((T j != v)=false),(IL 0 (Q j)),(IT (Q j) (↑nb:Int)),zE 324 [(zf100 g Q j),.p (.int .i64 v)] [] (.p (.int .i64 u)),(IL 0 u),(IT u (↑N:Int)),(NT u.toNat N),((SN u.toNat)=false),((false=true)→ ((N:Nat)=1)),(AG (u != b)),(((u != b)=true)→(NT 0 1)),(((u != b)=true)→(IL 0 u)),(((u != b)=true)→(IT u (↑N:Int))),(((u != b)=true)→(NT u.toNat N)),((bif u != b then decide (F (u.toNat+0)>0) else false)=true),(AI ((↑N:Int))),(AN nb),(AP nb (bRw g)),(AN 0),(AN N),(AN m),(AI a),(AI b),(AI u),(AN 1),(NL N N),(AA N (fun i_1=>[.p (.int .i64 (F i_1))])),(NL m m),(AA m (fun i_1=>[.p (.int .i64 (T i_1))])),(AA m (fun i_1=>[.p (.int .i64 (Q i_1))])),(AN 2),(NL 1 1),(AN 3),(CV [(6,⟨false,1,N,(fun i_2=>(if (i_2=u.toNat) then [.p (.int .i64 (↑j:Int))] else [.p (.int .i64 (FR i_2))]))⟩),(7,⟨false,1,N,(fun i_2=>(if (i_2=u.toNat) then [.p (.bool true)] else [.p (.bool (SN i_2))]))⟩),(0,⟨false,1,N,(fun i_2=>[.p (.int .i64 (F i_2))])⟩),(1,⟨false,1,m,(fun i_2=>[.p (.int .i64 (T i_2))])⟩),(2,⟨false,1,m,(fun i_2=>[.p (.int .i64 (Q i_2))])⟩),(3,⟨true,2,1,(fun i_2=>[.p (.int .i64 (↑N:Int)),.p (.seq true 2 nb (bRw g))])⟩),(4,⟨true,3,1,(fun i_2=>[.ar 1 0 0 N,.ar 1 1 0 m,.ar 1 2 0 m])⟩),(5,⟨true,3,1,(fun i_2=>[.p (.nil),.p (.nil),.p (.nil)])⟩),(8,⟨false,1,tn,(fun i_2=>[.p (.int .i64 (td i_2))])⟩)] [0,1,2,3,4,5,6] 1 N (fun i_1=>if (i_1=u.toNat) then [.p (.int .i64 (↑j:Int))] else [.p (.int .i64 (FR i_1))]) (fun i_1=>[.p (.int .i64 (if i_1=u.toNat then (↑j:Int) else FR i_1))]))] [0,1,0,2,3,4,5,0,0,2,3,4,6,7,8,9,10,11,12,9,10,11,13,9,10,11,13,14,15,14,14,16,17,14,18,14,14,19,20,21,22,23,24,23,25,23,25,26,27,23,23,23,23,24,28,29,30,31,29,32,33,29,32,34,35,36,36,20,21,22,37,36,36,23,24,23,25,23,25,37,36,36,29,30,38]):=by kernel_rfl
theorem qF3 (g:Nat→T_Bar) (nb N m:Nat) (F T Q FR F1 T1:Nat→Int) (a b u:Int) :
    zP Tryz.f377 3 [rm [(5,oc (pebR N m F1 T1 Q) (pebO N m 0))] 2] zf2 (SF3 g nb N m F T Q FR a b u) [0,1,2,167,168,169] 1 (pebR3 N m F T Q F1 T1 Q) (.tup [pebO N m 3,.p (.bool true)]) =
    some (zD [(NT 0 1),(AN 1),(NL N N),(NL m m),zE 407 [(zf94 N nb g),(zf58 N F m T Q),.p (.seq true 1 N (fun i=>[.int .i64 (FR i)])),.p (.int .i64 a),.p (.int .i64 u)] (zf34 N F1 m T1 Q) (.agg [.ar 1 0 0 N,.ar 1 1 0 m,.ar 1 2 0 m]),((true=true)→ (AN 1)),(AN 0),(AN N),(AN m),(true=true),(AA N (fun i=>[.p (.int .i64 (F i))])),(AA m (fun i=>[.p (.int .i64 (T i))])),(AA m (fun i=>[.p (.int .i64 (Q i))])),(AA N (fun i=>[.p (.int .i64 (F1 i))])),(AA m (fun i=>[.p (.int .i64 (T1 i))])),(AE N),(AE m)] [0,0,1,2,1,3,1,3,1,2,4,0,5,0,6,7,6,8,6,8,9,1,2,10,1,3,11,1,3,12,1,2,13,1,3,14,1,3,12,15,16,16,15,16,16]):=by kernel_rfl
def brOb (n:Nat) (h:Nat→T_Bar):Ob:=⟨false,2,n,fun i=>[.p (.int .i64 (h i).1),.p (.int .i64 (h i).2.1)]⟩
def bxB (x:T_Bar):Ob:=⟨true,2,1,fun _=>[.p (.int .i64 x.1),.p (.int .i64 x.2.1)]⟩
def SL (g:Nat→T_Bar) (nb N:Nat) (x:T_Bar) (i n:Nat) (pl:Bool) (h:Nat→T_Bar):St :=
  ⟨[grG g nb N,brA x,.pt 2 0 0 0,.pt 2 1 0 0,.pt 2 2 0 0,.pt 2 3 0 0,.p (.bool pl),.p (.int .i64 i)]++List.replicate 48 anyA,
   [(0,bxG g nb N),(1,bxB x),(2,⟨true,2,1,fun _=>[.p (.int .i64 0),.p .nil]⟩),(3,⟨true,2,1,fun _=>[.p (.int .i64 N),.ar 2 4 0 n]⟩),(4,brOb n h)],5⟩
def snoc (n:Nat) (h:Nat→T_Bar) (x:T_Bar) (s:Nat):T_Bar:=(if s<n then (h s).1 else x.1,if s<n then (h s).2.1 else x.2.1,())
abbrev NB:=Nat×(Nat→T_Bar)
def zNB:NB:=(0,fun _=>(0,0,()))
def sn (r:NB) (x:T_Bar):NB:=(r.1+1,snoc r.1 r.2 x)
theorem rLz (g:Nat→T_Bar) (nb N:Nat) (x:T_Bar) :
    zT Tryz.f216 [rg 3,rg 6,rg 1,rg 1,.head] [grG g nb N,brA x] [0,32,64,224,160] (SL g nb N x 0 0 false (fun _=>(0,0,()))) =
    some (zf38,zD [(NT 0 1),((true=true)→ (AN 1)),(AI ((↑N:Int))),(AN nb),(AP nb (bRw g)),(AI x.1),(AI x.2.1),(AN 0),(false=false),((0:Int)=(↑0:Int)),((([AV.p (PV.int IntKind.i64 (↑N:Int)),brL g nb].length):Nat)=2),(NL 1 1),((([AV.p (PV.int IntKind.i64 x.1),AV.p (PV.int IntKind.i64 x.2.1)].length):Nat)=2),((((List.map (fun v=>AV.p (absV v)) [Value.int IntKind.i64 0,Value.slice none 0 0]).length):Nat)=2),(AI 0),(AN 2),(NL 0 0),(AA 0 (fun i=>[.p (.int .i64 0),.p (.int .i64 0)]))] [0,0,1,2,3,4,5,6,7,7,7,7,8,9,10,11,11,2,3,4,12,11,11,5,6,13,11,11,14,13,11,11,2,7,7,15,16,17]):=by kernel_rfl
theorem rLa (g:Nat→T_Bar) (nb N:Nat) (x:T_Bar) (i n:Nat) (pl:Bool) (h:Nat→T_Bar) :
    zM 0 [rg 5,.dec true,rm [(9,oc [] (.p (.bool (aft (g i) x))))] 2,.dec true,rg 7,rg 1,rg 11,rg 3,.head] zf38 (SL g nb N x i n pl h) [0,1,2,3,1061] 1 (SL g nb N x (i+1) (n+1+1) true (snoc (n+1) (snoc n h x) (g i))) =
    some (zf38,zD [(NT 0 1),((decide ((↑i:Int)<(↑nb:Int)))=true),(AG (!pl)),(((!pl)=true)→(NT 0 1)),(((!pl)=true)→(IL 0 (↑i:Int))),(((!pl)=true)→(IT (↑i:Int) (↑nb:Int))),(((!pl)=true)→ zE 168 [.agg [.p (.int .i64 ((g i).1)),.p (.int .i64 ((g i).2.1))],.agg [.p (.int .i64 x.1),.p (.int .i64 x.2.1)]] [] (.p (.bool (aft (g i) x)))),((bif !pl then !aft (g i) x else false)=true),(NL 1 1),(NL n n),(NL ((n+1)*16) 140737488355328),(NL (n+1) 9223372036854775807),((true=true)→ (AN 1)),(IL 0 (↑i:Int)),(IT (↑i:Int) (↑nb:Int)),(NL (n+1) (n+1)),(NL ((n+1+1)*16) 140737488355328),(NL (n+1+1) 9223372036854775807),(ZLo ((↑i:Int)+1)),(ZHi ((↑i:Int)+1)),(AI ((↑N:Int))),(AN nb),(AP nb (bRw g)),(AI x.1),(AI x.2.1),(AN 0),(true=true),((((↑i:Int)+1):Int)=(↑(i+1):Int)),(AN 2),(AI 0),(AN ((n+1+1))),(NL (n+1+1) (n+1+1)),(CV [(3,⟨true,2,1,(fun i_2=>[.p (.int .i64 (↑N:Int)),.ar 2 1061 0 (n+1+1)])⟩),(1061,⟨false,2,(n+1+1),(fun i_2=>(if (i_2<n+1) then (if (i_2<n) then [.p (.int .i64 ((h i_2).1)),.p (.int .i64 ((h i_2).2.1))] else [.p (.int .i64 x.1),.p (.int .i64 x.2.1)]) else [.p (.int .i64 ((g i).1)),.p (.int .i64 ((g i).2.1))]))⟩),(1029,⟨false,2,1,(fun i_2=>[.p (.int .i64 ((g i).1)),.p (.int .i64 ((g i).2.1))])⟩),(645,⟨false,2,1,(fun i_2=>[.p (.int .i64 x.1),.p (.int .i64 x.2.1)])⟩),(0,⟨true,2,1,(fun i_2=>[.p (.int .i64 (↑N:Int)),.p (.seq true 2 nb (bRw g))])⟩),(1,⟨true,2,1,(fun i_2=>[.p (.int .i64 x.1),.p (.int .i64 x.2.1)])⟩),(2,⟨true,2,1,(fun i_2=>[.p (.int .i64 0),.p (.nil)])⟩)] [0,1,2,3,1061] 1 (n+1+1) (fun i_1=>if (i_1<n+1) then (if (i_1<n) then [.p (.int .i64 ((h i_1).1)),.p (.int .i64 ((h i_1).2.1))] else [.p (.int .i64 x.1),.p (.int .i64 x.2.1)]) else [.p (.int .i64 ((g i).1)),.p (.int .i64 ((g i).2.1))]) (fun i_1=>[.p (.int .i64 (if i_1<n+1 then if i_1<n then (h i_1).1 else x.1 else (g i).1)),.p (.int .i64 (if i_1<n+1 then if i_1<n then (h i_1).2.1 else x.2.1 else (g i).2.1))]))] [0,1,2,3,2,2,4,5,2,3,2,2,6,2,2,7,0,0,8,9,10,11,0,12,0,0,13,14,8,15,16,17,0,12,18,19,20,21,22,23,24,25,25,25,25,26,27,28,8,8,20,21,22,28,8,8,23,24,28,8,8,29,28,8,8,20,25,30,28,31,32]):=by kernel_rfl
theorem rLb (g:Nat→T_Bar) (nb N:Nat) (x:T_Bar) (i n:Nat) (pl:Bool) (h:Nat→T_Bar) :
    zM 0 [rg 5,.dec true,rm [(9,oc [] (.p (.bool (aft (g i) x))))] 2,.dec false,rg 11,rg 3,.head] zf38 (SL g nb N x i n pl h) [0,1,2,3,805] 1 (SL g nb N x (i+1) (n+1) pl (snoc n h (g i))) =
    some (zf38,zD [(NT 0 1),((decide ((↑i:Int)<(↑nb:Int)))=true),(AG (!pl)),(((!pl)=true)→(NT 0 1)),(((!pl)=true)→(IL 0 (↑i:Int))),(((!pl)=true)→(IT (↑i:Int) (↑nb:Int))),(((!pl)=true)→ zE 168 [.agg [.p (.int .i64 ((g i).1)),.p (.int .i64 ((g i).2.1))],.agg [.p (.int .i64 x.1),.p (.int .i64 x.2.1)]] [] (.p (.bool (aft (g i) x)))),((bif !pl then !aft (g i) x else false)=false),(IL 0 (↑i:Int)),(IT (↑i:Int) (↑nb:Int)),(NL 1 1),(NL n n),(NL ((n+1)*16) 140737488355328),(NL (n+1) 9223372036854775807),((true=true)→ (AN 1)),(ZLo ((↑i:Int)+1)),(ZHi ((↑i:Int)+1)),(AI ((↑N:Int))),(AN nb),(AP nb (bRw g)),(AI x.1),(AI x.2.1),(AN 0),(pl=pl),((((↑i:Int)+1):Int)=(↑(i+1):Int)),(AN 2),(AI 0),(AN ((n+1))),(NL (n+1) (n+1)),(CV [(3,⟨true,2,1,(fun i_2=>[.p (.int .i64 (↑N:Int)),.ar 2 805 0 (n+1)])⟩),(805,⟨false,2,(n+1),(fun i_2=>(if (i_2<n) then [.p (.int .i64 ((h i_2).1)),.p (.int .i64 ((h i_2).2.1))] else [.p (.int .i64 ((g i).1)),.p (.int .i64 ((g i).2.1))]))⟩),(773,⟨false,2,1,(fun i_2=>[.p (.int .i64 ((g i).1)),.p (.int .i64 ((g i).2.1))])⟩),(0,⟨true,2,1,(fun i_2=>[.p (.int .i64 (↑N:Int)),.p (.seq true 2 nb (bRw g))])⟩),(1,⟨true,2,1,(fun i_2=>[.p (.int .i64 x.1),.p (.int .i64 x.2.1)])⟩),(2,⟨true,2,1,(fun i_2=>[.p (.int .i64 0),.p (.nil)])⟩)] [0,1,2,3,805] 1 (n+1) (fun i_1=>if (i_1<n) then [.p (.int .i64 ((h i_1).1)),.p (.int .i64 ((h i_1).2.1))] else [.p (.int .i64 ((g i).1)),.p (.int .i64 ((g i).2.1))]) (fun i_1=>[.p (.int .i64 (if i_1<n then (h i_1).1 else (g i).1)),.p (.int .i64 (if i_1<n then (h i_1).2.1 else (g i).2.1))]))] [0,1,2,3,2,2,4,5,2,3,2,2,6,2,2,7,0,0,8,9,10,11,12,13,0,14,15,16,17,18,19,20,21,22,22,22,22,23,24,25,10,10,17,18,19,25,10,10,20,21,25,10,10,26,25,10,10,17,22,27,25,28,29]):=by kernel_rfl
theorem rLc (g:Nat→T_Bar) (nb N:Nat) (x:T_Bar) (i n:Nat) (pl:Bool) (h:Nat→T_Bar) :
    zP Tryz.f216 0 [rg 5,.dec false,rg 2,.dec true,rg 7,rg 2] zf38 (SL g nb N x i n pl h) [357] 1 [(0,brOb (n+1) (snoc n h x))] (.agg [.p (.int .i64 N),.ar 2 0 0 (n+1)]) =
    some (zD [(NT 0 1),((decide ((↑i:Int)<(↑nb:Int)))=false),((!pl)=true),(NL 1 1),(NL n n),(NL ((n+1)*16) 140737488355328),(NL (n+1) 9223372036854775807),((true=true)→ (AN 1)),(AI ((↑N:Int))),(AN 0),(AN ((n+1))),(AN 2),(NL (n+1) (n+1)),(CV [(2,⟨true,2,1,(fun i_2=>[.p (.int .i64 (↑N:Int)),.ar 2 357 0 (n+1)])⟩),(3,⟨true,2,1,(fun i_2=>[.p (.int .i64 (↑N:Int)),.ar 2 357 0 (n+1)])⟩),(357,⟨false,2,(n+1),(fun i_2=>(if (i_2<n) then [.p (.int .i64 ((h i_2).1)),.p (.int .i64 ((h i_2).2.1))] else [.p (.int .i64 x.1),.p (.int .i64 x.2.1)]))⟩),(325,⟨false,2,1,(fun i_2=>[.p (.int .i64 x.1),.p (.int .i64 x.2.1)])⟩),(0,⟨true,2,1,(fun i_2=>[.p (.int .i64 (↑N:Int)),.p (.seq true 2 nb (bRw g))])⟩),(1,⟨true,2,1,(fun i_2=>[.p (.int .i64 x.1),.p (.int .i64 x.2.1)])⟩)] [357] 1 (n+1) (fun i_1=>if (i_1<n) then [.p (.int .i64 ((h i_1).1)),.p (.int .i64 ((h i_1).2.1))] else [.p (.int .i64 x.1),.p (.int .i64 x.2.1)]) (fun i_1=>[.p (.int .i64 (if i_1<n then (h i_1).1 else x.1)),.p (.int .i64 (if i_1<n then (h i_1).2.1 else x.2.1))])),(AE ((n+1)))] [0,1,2,0,0,3,4,5,6,0,7,0,0,7,0,8,9,10,11,12,13,14]):=by kernel_rfl
theorem rLd (g:Nat→T_Bar) (nb N:Nat) (x:T_Bar) (i n:Nat) (pl:Bool) (h:Nat→T_Bar) :
    zP Tryz.f216 0 [rg 5,.dec false,rg 2,.dec false,rg 2] zf38 (SL g nb N x i n pl h) [4] 1 [(0,brOb n h)] (.agg [.p (.int .i64 N),.ar 2 0 0 n]) =
    some [(NT 0 1),((decide ((↑i:Int)<(↑nb:Int)))=false),((!pl)=false),(NT 0 1),(NT 0 1),((true=true)→ (AN 1)),(NT 0 1),(AI ((↑N:Int))),(AN 0),(AN n),(AN 2),(NL n n),(AA n (fun i_1=>[.p (.int .i64 ((h i_1).1)),.p (.int .i64 ((h i_1).2.1))])),(AE n)]:=by kernel_rfl
theorem snoc_lt {n:Nat} {h:Nat→T_Bar} {x:T_Bar} {s:Nat} (hs:s<n):snoc n h x s=h s:=by
  simp only [snoc,hs,if_true]
theorem snoc_ge {n:Nat} {h:Nat→T_Bar} {x:T_Bar} {s:Nat} (hs:¬ s<n):snoc n h x s=x:=by
  simp only [snoc,hs,if_false]
def insD (g:Nat→T_Bar) (x:T_Bar):Nat→Bool×Nat×(Nat→T_Bar)
  | 0=>(false,0,fun _=>(0,0,()))
  | i+1 =>
    if (bif !(insD g x i).1 then !aft (g i) x else false)=true then (true,(insD g x i).2.1+1+1,snoc ((insD g x i).2.1+1) (snoc (insD g x i).2.1 (insD g x i).2.2 x) (g i))
    else ((insD g x i).1,(insD g x i).2.1+1,snoc (insD g x i).2.1 (insD g x i).2.2 (g i))
def insR (g:Nat→T_Bar) (nb:Nat) (x:T_Bar):Nat×(Nat→T_Bar) :=
  if (insD g x nb).1=true then ((insD g x nb).2.1,(insD g x nb).2.2) else ((insD g x nb).2.1+1,snoc (insD g x nb).2.1 (insD g x nb).2.2 x)
theorem insD_n (g:Nat→T_Bar) (x:T_Bar):∀ i,(insD g x i).2.1=i+(if (insD g x i).1=true then 1 else 0)
  | 0=>rfl
  | i+1=>by
    have ih:=insD_n g x i
    simp only [insD]
    split
    · rename_i h
      have hf:(insD g x i).1=false:=by
        cases e:(insD g x i).1 with
        | false=>rfl
        | true=>rw [e] at h;simp at h
      rw [hf] at ih
      simp only [if_true]
      simp at ih
      omega
    · simp only
      omega
theorem insR_n (g:Nat→T_Bar) (nb:Nat) (x:T_Bar):(insR g nb x).1=nb+1:=by
  have h:=insD_n g x nb
  unfold insR
  split
  · rename_i hp;rw [if_pos hp] at h;exact h
  · rename_i hp;rw [if_neg hp] at h;show (insD g x nb).2.1+1=nb+1;omega
theorem con_l2Put (g:Nat→T_Bar) (nb N:Nat) (x:T_Bar) (hnb:nb≤1048576):zE 216 [grG g nb N,brA x] [(0,brOb (insR g nb x).1 (insR g nb x).2)] (.agg [.p (.int .i64 N),.ar 2 0 0 (insR g nb x).1]):=by
  refine csZ Tryz.func216 (fun c hc=>?_)
  have lp:∀ d i,i+d=nb→zR c 216 zf38 (SL g nb N x i (insD g x i).2.1 (insD g x i).1 (insD g x i).2.2) (Post c [(0,brOb (insR g nb x).1 (insR g nb x).2)] (.agg [.p (.int .i64 N),.ar 2 0 0 (insR g nb x).1])):=by
    intro d
    induction d with
    | zero =>
      intro i hi
      obtain rfl:i=nb:=by omega
      have hd:decide ((i:Int)<(i:Int))=false:=by simp
      have hn:=insD_n g x i
      have hle:(insD g x i).2.1≤i+1:=by split at hn<;>omega
      cases hp:(insD g x i).1 with
      | true =>
        rw [show insR g i x=((insD g x i).2.1,(insD g x i).2.2) by simp [insR,hp]]
        refine pkZ Tryz.func216 hc (rLd g i N x i (insD g x i).2.1 true (insD g x i).2.2) ?_
        and_intros
        all_goals (first | exact zI | (intro i hi;simp [All]))
      | false =>
        rw [show insR g i x=((insD g x i).2.1+1,snoc (insD g x i).2.1 (insD g x i).2.2 x) by simp [insR,hp]]
        refine pkD Tryz.func216 hc (rLc g i N x i (insD g x i).2.1 false (insD g x i).2.2) ?_
        and_intros
        all_goals (first | exact zI | (intro j hj;simp [All];done) | (intro j hj;by_cases h:j<(insD g x i).2.1<;>simp [h,snoc,cvtL,cvt,tg,tru,All]))
    | succ d ih =>
      intro i hi
      have hd:decide ((i:Int)<(nb:Int))=true:=by simp;omega
      have hn:=insD_n g x i
      have hle:(insD g x i).2.1≤i+1:=by split at hn<;>omega
      have hca:=con_l2After (g i) x
      have hs:insD g x (i+1)=if (bif !(insD g x i).1 then !aft (g i) x else false)=true then (true,(insD g x i).2.1+1+1,snoc ((insD g x i).2.1+1) (snoc (insD g x i).2.1 (insD g x i).2.2 x) (g i)) else ((insD g x i).1,(insD g x i).2.1+1,snoc (insD g x i).2.1 (insD g x i).2.2 (g i)):=rfl
      have hih:=ih (i+1) (by omega)
      cases ht:(bif !(insD g x i).1 then !aft (g i) x else false) with
      | true =>
        rw [hs,if_pos ht] at hih
        refine pcD hc (rLa g nb N x i (insD g x i).2.1 (insD g x i).1 (insD g x i).2.2) ?_ hih
        and_intros
        all_goals (first | exact zI | (intros;exact hca) | (exact ht) | (intro j hj;simp [All];done) | (intro j hj;by_cases h:j<(insD g x i).2.1+1<;>by_cases h':j<(insD g x i).2.1<;>simp [h,h',snoc,cvtL,cvt,tg,tru,All]) | (simp;omega))
      | false =>
        rw [hs,if_neg (by rw [ht];simp)] at hih
        refine pcD hc (rLb g nb N x i (insD g x i).2.1 (insD g x i).1 (insD g x i).2.2) ?_ hih
        and_intros
        all_goals (first | exact zI | (intros;exact hca) | (exact ht) | (intro j hj;simp [All];done) | (intro j hj;by_cases h:j<(insD g x i).2.1<;>simp [h,snoc,cvtL,cvt,tg,tru,All]))
  refine pcD hc (rLz g nb N x) ?_ (lp nb 0 (by omega))
  and_intros
  all_goals (first | exact zI | (intro i hi;simp [All]))
open Go Go.Shelf Go.RowKit Go.Lib Go.Sort
def ltB (x y:T_Bar):Bool:=ltOf cmpB x y
theorem ltB_iff (x y:T_Bar):ltB x y=true↔x.1<y.1∨(x.1=y.1∧x.2.1<y.2.1):=by
  rw [show ltB x y=decide (cmpB x y<0) from rfl,decide_eq_true_iff]
  unfold cmpB
  rcases Int.lt_trichotomy x.1 y.1 with h | h | h
  · rw [cmpI_1 h];simp;omega
  · rw [cmpI_3 (x:=x.1) (y:=y.1) (by omega) (by omega)]
    simp only [if_true]
    rcases Int.lt_trichotomy x.2.1 y.2.1 with h' | h' | h'
    · rw [cmpI_1 h'];simp;omega
    · rw [cmpI_3 (x:=x.2.1) (y:=y.2.1) (by omega) (by omega)];simp;omega
    · rw [cmpI_2 h'];simp;omega
  · rw [cmpI_2 h];simp;omega
theorem swoB:SWO (ltOf cmpB) where
  irrefl x:=by
    cases h:ltOf cmpB x x with
    | false=>rfl
    | true=>have:=(ltB_iff x x).1 h;omega
  trans x y z h1 h2:=by
    have h1:=(ltB_iff x y).1 h1
    have h2:=(ltB_iff y z).1 h2
    exact (ltB_iff x z).2 (by omega)
  ntrans x y z h1 h2:=by
    cases h:ltOf cmpB x z with
    | false=>rfl
    | true =>
      have h3:=(ltB_iff x z).1 h
      have e1:¬ (x.1<y.1∨(x.1=y.1∧x.2.1<y.2.1)):=fun h'=>by rw [show ltOf cmpB x y=true from (ltB_iff x y).2 h'] at h1;cases h1
      have e2:¬ (y.1<z.1∨(y.1=z.1∧y.2.1<z.2.1)):=fun h'=>by rw [show ltOf cmpB y z=true from (ltB_iff y z).2 h'] at h2;cases h2
      omega
theorem totB (x y:T_Bar) (h1:ltOf cmpB x y=false) (h2:ltOf cmpB y x=false):x=y:=by
  have e1:¬ (x.1<y.1∨(x.1=y.1∧x.2.1<y.2.1)):=fun h'=>by rw [show ltOf cmpB x y=true from (ltB_iff x y).2 h'] at h1;cases h1
  have e2:¬ (y.1<x.1∨(y.1=x.1∧y.2.1<x.2.1)):=fun h'=>by rw [show ltOf cmpB y x=true from (ltB_iff y x).2 h'] at h2;cases h2
  obtain ⟨a,b,⟨⟩⟩:=x
  obtain ⟨c,d,⟨⟩⟩:=y
  simp only [Prod.mk.injEq,and_true] at e1 e2 ⊢
  omega
def lstB (n:Nat) (h:Nat→T_Bar):List T_Bar:=(List.range n).map h
def srtL (l:List T_Bar):List T_Bar:=l.mergeSort fun x y=>!(ltOf cmpB) y x
def srtB (n:Nat) (h:Nat→T_Bar) (i:Nat):T_Bar:=(srtL (lstB n h)).getD i (0,0,())
theorem encB_len (x:T_Bar):(encB x).length=2:=rfl
theorem encB_one (x:T_Bar):∀ v∈encB x,v.oneCell'=true:=by
  intro v hv
  simp only [encB,List.mem_cons,List.not_mem_nil,or_false] at hv
  rcases hv with rfl | rfl<;>rfl
theorem srtL_len (l:List T_Bar):(srtL l).length=l.length:=by simp [srtL]
theorem lstB_len (n:Nat) (h:Nat→T_Bar):(lstB n h).length=n:=by simp [lstB]
theorem con_sortBars (n:Nat) (h:Nat→T_Bar) (hn:n≤1048576) :
    Con Tryz.prog 312 1 [(0,brOb n h)] [.ar 2 0 0 n,.p (.fn 180)] [(0,brOb n (srtB n h))] (.tup []):=by
  refine ⟨by kernel_rfl,fun w β X vals hX hH hS hd hl ha=>?_⟩
  obtain ⟨v0,v1,rfl⟩:∃ v0 v1,vals = #[v0,v1]:=by
    rcases vals with ⟨l⟩
    match l,hl with
    | [a,b],_=>exact ⟨a,b,rfl⟩
  have h0:VR w β (ow X β [(0,brOb n h)]) (.ar 2 0 0 n) v0:=ha 0 (by simp)
  have h1:VR w β (ow X β [(0,brOb n h)]) (.p (.fn 180)) v1:=ha 1 (by simp)
  have e1:v1=.func (.func 180) #[] #[]:=by
    cases h1 with
    | p _ _ hp=>cases hp;rfl
  subst e1
  have hnil:∀ (w':World) (own:Bool→Nat→Prop),VR w' β own (.tup []) (.tuple #[]):=fun w' own=>.tup [] #[] rfl (fun j hj=>absurd hj (Nat.not_lt_zero _))
  rcases Nat.eq_zero_or_pos n with rfl | hpos
  · obtain ⟨p,cap,rfl⟩:∃ p cap,v0=.slice p 0 cap:=by
      cases h0 with
      | ar0=>exact ⟨_,_,rfl⟩
      | ar=>exact ⟨_,_,rfl⟩
    refine (AnyF.slices_SortFunc_none (P:=Tryz.prog) (ρ:=Tryz.sortBar_ren) { Tryz.sortBar with } p cap _ w).mono ?_
    rintro e w' ⟨rfl,rfl⟩
    refine ⟨_,β,rfl,?_,?_,hnil _ _,?_,fun o a h=>h,fun b' h'=>.inl ?_,fun k h=>.inl h⟩
    · intro o ob hl
      obtain ⟨rfl,rfl⟩:=look_one hl
      rcases hH 0 _ (lk_one _) with ⟨hb,_⟩ | ⟨b,base,cells,el,hβ,hh,_⟩ | hm
      · exact .inl ⟨hb,rfl⟩
      · exact .inr (.inl ⟨b,base,cells,el,hβ,hh,fun i hi=>absurd hi (Nat.not_lt_zero _)⟩)
      · exact absurd hm.2.1 (by simp [brOb])
    · intro o o' ob ob' a a' h1 h2 h3 h4 h5
      obtain ⟨rfl,rfl⟩:=look_one h1
      obtain ⟨rfl,rfl⟩:=look_one h2
      rfl
    · rw [ow_one X β (brOb 0 (srtB 0 h)) (brOb 0 h)]
      exact Ext.refl _ _
    · rw [own_one _ _ _ rfl] at h' ⊢;exact h'
  · cases h0 with
    | ar0=>exact absurd hpos (Nat.lt_irrefl 0)
    | ar _ _ _ _ b base c cells elem fr' hβ hh hsz hc =>
      rcases hH 0 _ (lk_one _) with ⟨hb,_⟩ | ⟨b',base',cells',el',hβ',hh',hrw⟩ | hm
      · rw [hb] at hβ;cases hβ
      · rw [hβ] at hβ'
        injection hβ' with hβ'
        injection hβ' with i1 i2 _
        subst i1;subst i2
        rw [hh] at hh'
        injection hh' with hh'
        injection hh' with i1 i2 i3
        subst i1;subst i2;subst i3
        have hcell:∀ i,i<n→cells[base+(i*2+0)]? = some (.int .i64 (h i).1)∧cells[base+(i*2+1)]? = some (.int .i64 (h i).2.1):=by
          intro i hi
          obtain ⟨u,hu1,hu2,hu3⟩:=hrw i hi 0 (by simp [brOb])
          obtain ⟨u',hu1',hu2',hu3'⟩:=hrw i hi 1 (by simp [brOb])
          have:=vr_int (k:=.i64) (x:=(h i).1) hu3
          subst this
          have:=vr_int (k:=.i64) (x:=(h i).2.1) hu3'
          subst this
          exact ⟨hu1,hu1'⟩
        have hend:base+n*2≤cells.size:=by
          have:=(hcell (n - 1) (by omega)).2
          rcases Nat.lt_or_ge (base+((n - 1)*2+1)) cells.size with h' | h'
          · omega
          · rw [Array.getElem?_eq_none h'] at this;cases this
        have hdz:((lstB n h).toArray).size=n:=by simp [lstB]
        have hdi:∀ i,i<n→((lstB n h).toArray)[i]! = h i:=by
          intro i hi
          rw [getElem!_pos _ i (by rw [hdz];exact hi)]
          simp [lstB]
        have hHK:HoldsK encB 2 w b base (lstB n h).toArray:=by
          intro t ht
          rw [size_flatK,hdz] at ht
          rw [get_flatK _ _ _ _ (by rw [hdz];exact ht),hdi (t / 2) (by omega)]
          have hc:=hcell (t / 2) (by omega)
          rcases Nat.mod_two_eq_zero_or_one t with h2 | h2
          · refine ⟨?_,by simp [World.frozen?,hh]⟩
            rw [h2]
            have:base+t=base+(t / 2*2+0):=by omega
            simp only [World.cell?,hh]
            rw [this,hc.1];rfl
          · refine ⟨?_,by simp [World.frozen?,hh]⟩
            rw [h2]
            have:base+t=base+(t / 2*2+1):=by omega
            simp only [World.cell?,hh]
            rw [this,hc.2];rfl
        have hblk:b<w.heap.size:=by
          rcases Nat.lt_or_ge b w.heap.size with h' | h'
          · exact h'
          · rw [Array.getElem?_eq_none h'] at hh;cases hh
        have eg:∀ args w,(callFunc 180 args).run Tryz.prog w=.ok (.enter 180 args) w:=enters_of Tryz.func180 (by kernel_rfl) rfl
        have hcmp:CmpLays Tryz.prog 180 #[] encB 2 cmpB b base (lstB n h).toArray.size w:=fun _ _ _ _ x y=>cmp_bars x y _
        have hcon:=AnyQ.slices_SortFunc_total Tryz.sortBar 2 Tryz.isAgg121 Tryz.sizeOf121 encB encB_len encB_one cmpB swoB 180 #[] b base c (lstB n h).toArray w eg hcmp hHK hblk (by rw [hdz];omega) totB
        rw [hdz] at hcon
        change Calls Tryz.prog 312 _ _ _ at hcon
        rw [show base+0*2=base by omega]
        refine hcon.mono ?_
        rintro e w' ⟨rfl,q,os,rfl⟩
        refine sW_post (F:=flatK encB 2 (srtL (lstB n h)).toArray) hβ hh hS hend (by rw [size_flatK];simp [srtL_len,lstB_len]) (fun i hi j hj=>?_) (hnil _)
        have hs:((srtL (lstB n h)).toArray).size=n:=by simp [srtL_len,lstB_len]
        have hi2:i*2+j<n*2:=by omega
        rw [get_flatK _ _ _ _ (by rw [hs];exact hi2),show (i*2+j) / 2=i by omega,show (i*2+j) % 2=j by omega]
        have hgi:(srtL (lstB n h)).toArray[i]! = srtB n h i:=by
          rw [getElem!_pos _ i (by rw [hs];exact hi),srtB]
          simp [List.getD_eq_getElem?_getD,List.getElem?_eq_getElem (show i<(srtL (lstB n h)).length by rw [srtL_len,lstB_len];exact hi)]
        rw [hgi]
        rcases (show j=0∨j=1 by omega) with rfl | rfl
        · exact ⟨rfl,fun w' own=>.p _ _ (.int _ _)⟩
        · exact ⟨rfl,fun w' own=>.p _ _ (.int _ _)⟩
      · exact absurd hm.2.1 (by simp [brOb])
def leB (x y:T_Bar):Prop:=ltB y x=false
theorem leB_iff (x y:T_Bar):leB x y↔x.1<y.1∨(x.1=y.1∧x.2.1≤y.2.1):=by
  have h:=ltB_iff y x
  unfold leB
  cases hb:ltB y x with
  | false=>rw [hb] at h;simp only [Bool.false_eq_true,false_iff] at h;simp only [true_iff];omega
  | true=>rw [hb] at h;simp only [true_iff] at h;simp only [Bool.true_eq_false,false_iff];omega
theorem aft_iff (x y:T_Bar):aft x y=true↔leB x y:=by
  rw [leB_iff]
  unfold aft
  by_cases h1:x.1<y.1
  · simp [h1]
  · by_cases h2:x.1=y.1<;>simp [h1,h2]
theorem leB_antisymm (x y:T_Bar) (h1:leB x y) (h2:leB y x):x=y:=totB x y h2 h1
theorem srtL_sorted (l:List T_Bar):(srtL l).Pairwise leB:=by
  have h:=List.pairwise_mergeSort (le:=fun x y=>!(ltOf cmpB) y x) (fun a b c h1 h2=>by
    simp only [Bool.not_eq_true'] at *
    have h1:=(leB_iff a b).1 h1
    have h2:=(leB_iff b c).1 h2
    exact (leB_iff a c).2 (by omega)) (fun a b=>by
    simp only [Bool.or_eq_true,Bool.not_eq_true']
    rcases (show (a.1<b.1∨(a.1=b.1∧a.2.1≤b.2.1))∨(b.1<a.1∨(b.1=a.1∧b.2.1≤a.2.1)) by omega) with h | h
    · exact .inl ((leB_iff a b).2 h)
    · exact .inr ((leB_iff b a).2 h)) l
  exact h.imp (fun {a b} h=>show ltOf cmpB b a=false by simpa using h)
theorem srtL_perm (l:List T_Bar):(srtL l).Perm l:=List.mergeSort_perm l _
theorem srtL_eq {l m:List T_Bar} (hp:m.Perm l) (hs:m.Pairwise leB):m=srtL l :=
  List.Perm.eq_of_pairwise (le:=leB) (fun a b _ _ h1 h2=>leB_antisymm a b h1 h2) hs (srtL_sorted l) (hp.trans (srtL_perm l).symm)
theorem lstB_succ (n:Nat) (h:Nat→T_Bar):lstB (n+1) h=lstB n h++[h n]:=by simp [lstB,List.range_succ]
theorem lstB_congr {n:Nat} {h h':Nat→T_Bar} (he:∀ i,i<n→h i=h' i):lstB n h=lstB n h':=by
  simp only [lstB]
  exact List.map_congr_left (fun a ha=>he a (List.mem_range.1 ha))
theorem lstB_snoc (n:Nat) (h:Nat→T_Bar) (x:T_Bar):lstB (n+1) (snoc n h x)=lstB n h++[x]:=by
  rw [lstB_succ,lstB_congr (h':=h) (fun i hi=>snoc_lt hi),snoc_ge (Nat.lt_irrefl n)]
theorem lstB_inj {n:Nat} {h h':Nat→T_Bar} (he:lstB n h=lstB n h') (i:Nat) (hi:i<n):h i=h' i:=by
  have:(lstB n h)[i]? = (lstB n h')[i]?:=by rw [he]
  simpa [lstB,hi] using this
theorem lstB_srt (n:Nat) (h:Nat→T_Bar):lstB n (srtB n h)=srtL (lstB n h):=by
  refine List.ext_getElem? (fun i=>?_)
  rcases Nat.lt_or_ge i n with hi | hi
  · have:i<(srtL (lstB n h)).length:=by rw [srtL_len,lstB_len];exact hi
    simp only [lstB,List.getElem?_map,List.getElem?_range hi,Option.map_some]
    rw [show srtL (List.map h (List.range n))=srtL (lstB n h) from rfl,List.getElem?_eq_getElem this]
    simp [srtB,List.getD_eq_getElem?_getD,List.getElem?_eq_getElem this]
  · rw [List.getElem?_eq_none (by rw [lstB_len];exact hi),List.getElem?_eq_none (by rw [srtL_len,lstB_len];exact hi)]
theorem insD_list (g:Nat→T_Bar) (x:T_Bar) (nb:Nat) (hs:(lstB nb g).Pairwise leB):∀ i,i≤nb →
    (lstB (insD g x i).2.1 (insD g x i).2.2).Perm (lstB i g++(if (insD g x i).1=true then [x] else [])) ∧
    (lstB (insD g x i).2.1 (insD g x i).2.2).Pairwise leB∧((insD g x i).1=false→(lstB (insD g x i).2.1 (insD g x i).2.2)=lstB i g∧∀ s,s<i→leB (g s) x) ∧
    ((insD g x i).1=true→∀ s,s<nb→i≤s→∀ y∈lstB (insD g x i).2.1 (insD g x i).2.2,leB y (g s)):=by
  have hmono:∀ s s',s<s'→s'<nb→leB (g s) (g s'):=by
    intro s s' h1 h2
    have:=List.pairwise_iff_getElem.1 hs s s' (by rw [lstB_len];omega) (by rw [lstB_len];omega) h1
    simpa [lstB] using this
  have htr:∀ {a b c:T_Bar},leB a b→leB b c→leB a c:=by
    intro a b c h1 h2
    have h1:=(leB_iff a b).1 h1
    have h2:=(leB_iff b c).1 h2
    exact (leB_iff a c).2 (by omega)
  intro i
  induction i with
  | zero=>intro _;exact ⟨by simp [insD,lstB],by simp [insD,lstB],fun _=>⟨rfl,fun s h=>absurd h (Nat.not_lt_zero _)⟩,fun h=>by simp [insD] at h⟩
  | succ i ih =>
    intro hi
    obtain ⟨ih1,ih2,ih3,ih4⟩:=ih (by omega)
    simp only [insD]
    split
    · rename_i ht
      have hf:(insD g x i).1=false:=by
        cases e:(insD g x i).1 with
        | false=>rfl
        | true=>rw [e] at ht;simp at ht
      rw [hf] at ht
      simp only [Bool.not_false,cond_true,Bool.not_eq_true'] at ht
      have hxg:leB x (g i):=by
        have h1:¬ leB (g i) x:=fun h=>by rw [(aft_iff _ _).2 h] at ht;cases ht
        rw [leB_iff] at h1 ⊢
        omega
      obtain ⟨e1,e2⟩:=ih3 hf
      simp only [if_true]
      rw [lstB_snoc,lstB_snoc,e1]
      have hlt:∀ y∈lstB i g,leB y x∧leB y (g i):=by
        intro y hy
        simp only [lstB,List.mem_map,List.mem_range] at hy
        obtain ⟨s,h1,rfl⟩:=hy
        exact ⟨e2 s h1,hmono s i h1 (by omega)⟩
      refine ⟨?_,?_,fun h=>by simp at h,fun _ s hs1 hs2 y hy=>?_⟩
      · rw [lstB_succ,List.append_assoc,List.append_assoc]
        exact List.Perm.append_left _ (List.Perm.swap _ _ _)
      · rw [e1] at ih2
        rw [List.append_assoc,List.pairwise_append]
        refine ⟨ih2,by simp [hxg],fun y hy y' hy'=>?_⟩
        simp only [List.cons_append,List.nil_append,List.mem_cons,List.not_mem_nil,or_false] at hy'
        rcases hy' with rfl | rfl
        · exact (hlt y hy).1
        · exact (hlt y hy).2
      · have his:leB (g i) (g s):=hmono i s (by omega) hs1
        simp only [List.mem_append,List.mem_cons,List.not_mem_nil,or_false] at hy
        rcases hy with (hy | rfl) | rfl
        · exact htr (hlt y hy).2 his
        · exact htr hxg his
        · exact his
    · rename_i ht
      rw [lstB_snoc]
      refine ⟨?_,?_,fun h=>?_,fun h s hs1 hs2 y hy=>?_⟩
      · rw [lstB_succ,List.append_assoc]
        refine (List.Perm.append_right [g i] ih1).trans ?_
        rw [List.append_assoc]
        exact List.Perm.append_left _ List.perm_append_comm
      · rw [List.pairwise_append]
        refine ⟨ih2,by simp,fun y hy y' hy'=>?_⟩
        simp only [List.mem_cons,List.not_mem_nil,or_false] at hy'
        subst hy'
        cases hp:(insD g x i).1 with
        | true=>exact ih4 hp i (by omega) (Nat.le_refl _) y hy
        | false =>
          rw [(ih3 hp).1] at hy
          simp only [lstB,List.mem_map,List.mem_range] at hy
          obtain ⟨s,h1,rfl⟩:=hy
          exact hmono s i h1 (by omega)
      · simp only at h
        obtain ⟨e1,e2⟩:=ih3 h
        refine ⟨by rw [e1,lstB_succ],fun s hs1=>?_⟩
        rcases Nat.lt_or_ge s i with h' | h'
        · exact e2 s h'
        · obtain rfl:s=i:=by omega
          rw [h] at ht
          simp only [Bool.not_false,cond_true,Bool.not_eq_true',Bool.not_eq_false] at ht
          exact (aft_iff _ _).1 ht
      · simp only at h
        simp only [List.mem_append,List.mem_cons,List.not_mem_nil,or_false] at hy
        rcases hy with hy | rfl
        · exact ih4 h s hs1 (by omega) y hy
        · exact hmono i s (by omega) hs1
theorem insR_list (g:Nat→T_Bar) (nb:Nat) (x:T_Bar) (hs:(lstB nb g).Pairwise leB) :
    lstB (insR g nb x).1 (insR g nb x).2=srtL (lstB nb g++[x]):=by
  obtain ⟨h1,h2,h3,h4⟩:=insD_list g x nb hs nb (Nat.le_refl _)
  unfold insR
  split
  · rename_i hp
    rw [if_pos hp] at h1
    exact srtL_eq h1 h2
  · rename_i hp
    have hf:(insD g x nb).1=false:=by simpa using hp
    obtain ⟨e1,e2⟩:=h3 hf
    simp only
    rw [lstB_snoc,e1]
    refine srtL_eq (List.Perm.refl _) ?_
    rw [List.pairwise_append]
    refine ⟨hs,by simp,fun y hy y' hy'=>?_⟩
    simp only [List.mem_cons,List.not_mem_nil,or_false] at hy'
    subst hy'
    simp only [lstB,List.mem_map,List.mem_range] at hy
    obtain ⟨s,h',rfl⟩:=hy
    exact e2 s h'
open Go Go.Sort
def brX (a b:Int):T_Bar:=(if b<a then b else a,if b>a then b else a,())
theorem dBar (a b:Int) :
    zS Tryz.f290 [rg 1,rg 8] [.p (.int .i64 a),.p (.int .i64 b)] [] [] (.agg [.p (.int .i64 (if b<a then b else a)),.p (.int .i64 (if b>a then b else a))]) =
    some [(NT 0 1),((true=true)→ (AN 1)),(NT 0 1),(((if false=true then if b>a then b else a else if b<a then b else a):Int)=(if b<a then b else a)),(((if true=true then if b>a then b else a else if b<a then b else a):Int)=(if b>a then b else a))]:=by kernel_rfl
theorem dHas (v:T_Graph) (p:Int) :
    zS Tryz.f205 [rg 2,rm [(4,oc [] (.p (.bool (inB p 0 (v.1 - 1)))))] 1] [graphA v,.p (.int .i64 p)] [] [] (.p (.bool (inB p 0 (v.1 - 1)))) =
    some [(NT 0 1),(ZLo (v.1 - 1)),(ZHi (v.1 - 1)),zE 179 [.p (.int .i64 p),.p (.int .i64 0),.p (.int .i64 (v.1 - 1))] [] (.p (.bool (inB p 0 (v.1 - 1)))),((inB p 0 (v.1 - 1))=(inB p 0 (v.1 - 1)))]:=by kernel_rfl
theorem con_barX (a b:Int):zE 290 [.p (.int .i64 a),.p (.int .i64 b)] [] (.agg [.p (.int .i64 (brX a b).1),.p (.int .i64 (brX a b).2.1)]):=by
  refine csZ Tryz.func290 (fun c hc=>?_)
  refine pkZ Tryz.func290 hc (dBar a b) ?_
  and_intros
  all_goals (first | exact zI | simp)
theorem con_hasX (v:T_Graph) (p:Int) (h1:1≤v.1) (h2:v.1≤8):zE 205 [graphA v,.p (.int .i64 p)] [] (.p (.bool (inB p 0 (v.1 - 1)))):=by
  refine csZ Tryz.func205 (fun c hc=>?_)
  refine pkZ Tryz.func205 hc (dHas v p) ?_
  and_intros
  all_goals (first | exact zN | (exact con_within _ _ _))
theorem graph_inR {v:T_Graph} (h:isGraphF v=true):1≤v.1∧v.1≤8∧v.2.1.1≤24∧goodB v.1 v.2.1.2 v.2.1.1=true:=by
  unfold isGraphF at h
  split at h
  · rename_i h1
    simp only [inB,Bool.and_eq_true,decide_eq_true_eq] at h1
    exact ⟨h1.1.1,h1.1.2,h1.2,h⟩
  · cases h
theorem goodB_at {N:Int} {g:Nat→T_Bar}:∀ {n:Nat},goodB N g n=true→∀ k,k<n→0≤(g k).1∧(g k).1<(g k).2.1∧(g k).2.1<N∧(0<k→leB (g (k - 1)) (g k))
  | 0,_,k,hk=>absurd hk (Nat.not_lt_zero _)
  | n+1,h,k,hk=>by
    simp only [goodB,Bool.and_eq_true,Bool.not_eq_true'] at h
    by_cases e:k=n
    · subst e
      have h2:=h.2
      unfold badB at h2
      by_cases c1:(g k).1<0
      · simp [c1] at h2
      by_cases c2:(g k).1≥(g k).2.1
      · simp [c1,c2] at h2
      by_cases c3:(g k).2.1≥N
      · simp [c1,c2,c3] at h2
      refine ⟨by omega,by omega,by omega,fun h0=>?_⟩
      simp only [c1,c2,c3,decide_false,cond_false] at h2
      rw [decide_eq_true (show (k:Int)>0 by omega)] at h2
      simp only [cond_true,Bool.not_eq_false'] at h2
      rw [← aft_iff]
      rw [show ((k:Int) - 1).toNat=k - 1 by omega] at h2
      exact h2
    · exact goodB_at h.1 k (by omega)
theorem goodB_sorted {N:Int} {g:Nat→T_Bar} {n:Nat} (h:goodB N g n=true):(lstB n g).Pairwise leB:=by
  have step:=goodB_at h
  have htr:∀ {a b c:T_Bar},leB a b→leB b c→leB a c:=by
    intro a b c h1 h2
    have h1:=(leB_iff a b).1 h1
    have h2:=(leB_iff b c).1 h2
    exact (leB_iff a c).2 (by omega)
  have mono:∀ d i,i+d<n→leB (g i) (g (i+d)):=by
    intro d
    induction d with
    | zero=>intro i hi;show leB (g i) (g i);exact (leB_iff _ _).2 (by omega)
    | succ d ih=>intro i hi;exact htr (ih i (by omega)) ((step (i+(d+1)) hi).2.2.2 (by omega))
  rw [List.pairwise_iff_getElem]
  intro i j hi hj hij
  rw [lstB_len] at hi hj
  have:=mono (j - i) i (by omega)
  rw [show i+(j - i)=j by omega] at this
  simpa [lstB] using this
theorem sm_graph {v:T_Graph} (h:v.2.1.1≤1048576):smS s_Graph v:=⟨by simp [smS,smL],⟨h,fun i hi=>by simp [smS,smL]⟩,True.intro⟩
def aaS (v:T_Graph) (u:T_IntS) (k:Nat):St :=
  ⟨[graphA v,inL u,.pt 2 0 0 0,.p .any,.p .any,.p .any,.p .any,inL u,.p (.int .i64 u.1),.p (.int .i64 k)]++List.replicate 29 anyA,[(0,boxG v)],1⟩
def abS (v:T_Graph) (u:T_IntS) (k:Nat):St :=
  ⟨[graphA v,inL u,.pt 2 0 0 0,.p .any,.p .any,.p (.int .i64 k)]++List.replicate 38 anyA,[(0,boxG v)],1⟩
theorem ahw (v:T_Graph) (p:Int) (b:Bool) :
    zS Tryz.f205 [rg 2,rm [(3,oF),(0,oc [] (.p (.bool b)))] 1] [graphA v,.p (.int .i64 p)] [] [] (.p (.bool b)) =
    some [(NT 0 1),zE 179 [.p (.int .i64 p),.p (.int .i64 0),.p (.int .i64 (IntKind.i64.wrap (v.1 - 1)))] [] (.p (.bool b)),(b=b)]:=by kernel_rfl
theorem aaz (v:T_Graph) (u:T_IntS) :
    zT Tryz.f107 [rg 2,rg 3,.head] [graphA v,inL u] [0] (aaS v u 0) =
    some (zf86,zD [(AI v.1),(AN v.2.1.1),(AP v.2.1.1 (bRw v.2.1.2)),(AN u.1),(AP u.1 (iRw u)),(AN 0),(AI ((↑u.1:Int))),((0:Int)=(↑0:Int)),((([AV.p (PV.int IntKind.i64 v.1),graphL v.2.1].length):Nat)=2),(NL 1 1)] [0,1,2,3,4,5,3,4,6,7,8,9,9,0,1,2]):=by kernel_rfl
theorem aab (v:T_Graph) (u:T_IntS) (k:Nat) (b:Bool) :
    zM 0 [rg 1,.dec true,rg 5,rm [(2,oc [] (.p (.bool b)))] 14,.dec false,rg 2,.head] zf86 (aaS v u k) [0] 1 (aaS v u (k+1)) =
    some (zf86,zD [((decide ((↑k:Int)<(↑u.1:Int)))=true),(IL 0 (↑k:Int)),(IT (↑k:Int) (↑u.1:Int)),(NT 0 1),zE 205 [(zf91 v),.p (.int .i64 (u.2 k))] [] (.p (.bool b)),(AG (!!b)),(AG (!!b&&decide ((↑k:Int)>0))),(((!!b&&decide ((↑k:Int)>0))=true)→(ZLo ((↑k:Int) - 1))),(((!!b&&decide ((↑k:Int)>0))=true)→(ZHi ((↑k:Int) - 1))),(((!!b&&decide ((↑k:Int)>0))=true)→(IL 0 ((↑k:Int) - 1))),(((!!b&&decide ((↑k:Int)>0))=true)→(IT ((↑k:Int) - 1) (↑u.1:Int))),(((!!b)=true)→(((decide ((↑k:Int)>0))=true)→ ((!!b&&decide ((↑k:Int)>0))=true))),(((!b)=false)→ ((!!b)=true)),((bif !b then true else bif decide ((↑k:Int)>0) then decide (u.2 ((↑k:Int) - 1).toNat≥u.2 (↑k:Int).toNat) else false)=false),(ZLo ((↑k:Int)+1)),(ZHi ((↑k:Int)+1)),(AI v.1),(AN v.2.1.1),(AP v.2.1.1 (bRw v.2.1.2)),(AN u.1),(AP u.1 (iRw u)),(AN 0),(AI ((↑u.1:Int))),((((↑k:Int)+1):Int)=(↑(k+1):Int)),(AN 2),(NL 1 1)] [0,1,2,3,4,5,5,6,7,8,6,6,9,10,6,6,6,5,11,12,13,14,15,16,17,18,19,20,21,19,20,22,23,24,25,25,16,17,18]):=by kernel_rfl
theorem aac (v:T_Graph) (u:T_IntS) (k:Nat) (b:Bool) :
    zP Tryz.f107 0 [rg 1,.dec true,rg 5,rm [(2,oc [] (.p (.bool b)))] 14,.dec true,rg 1] zf86 (aaS v u k) [] 1 [] (.p (.bool false)) =
    some (zD [((decide ((↑k:Int)<(↑u.1:Int)))=true),(IL 0 (↑k:Int)),(IT (↑k:Int) (↑u.1:Int)),(NT 0 1),zE 205 [(zf91 v),.p (.int .i64 (u.2 k))] [] (.p (.bool b)),(AG (!!b)),(AG (!!b&&decide ((↑k:Int)>0))),(((!!b&&decide ((↑k:Int)>0))=true)→(ZLo ((↑k:Int) - 1))),(((!!b&&decide ((↑k:Int)>0))=true)→(ZHi ((↑k:Int) - 1))),(((!!b&&decide ((↑k:Int)>0))=true)→(IL 0 ((↑k:Int) - 1))),(((!!b&&decide ((↑k:Int)>0))=true)→(IT ((↑k:Int) - 1) (↑u.1:Int))),(((!!b)=true)→(((decide ((↑k:Int)>0))=true)→ ((!!b&&decide ((↑k:Int)>0))=true))),(((!b)=false)→ ((!!b)=true)),((bif !b then true else bif decide ((↑k:Int)>0) then decide (u.2 ((↑k:Int) - 1).toNat≥u.2 (↑k:Int).toNat) else false)=true),(false=false)] [0,1,2,3,4,5,5,6,7,8,6,6,9,10,6,6,6,5,11,12,13,14]):=by kernel_rfl
theorem aad (v:T_Graph) (u:T_IntS) (k:Nat) (b1 b2:Bool) :
    zP Tryz.f107 0 [rg 1,.dec false,rm [(1,oc [] (.p (.bool b1))),(2,oc [] (.p (.bool b2)))] 3] zf86 (aaS v u k) [] 1 [] (.p (.bool (bif b1 then !b2 else false))) =
    some [((decide ((↑k:Int)<(↑u.1:Int)))=false),(NT 0 1),zE 62 [(zf91 v)] [] (.p (.bool b1)),((b1=true)→(NT 0 1)),(AG b1),((b1=true)→ zE 217 [(zf91 v)] [] (.p (.bool b2))),(AG b1),(AG b1),((bif b1 then !b2 else false)=(bif b1 then !b2 else false))]:=by kernel_rfl
theorem abz (v:T_Graph) (u:T_IntS) :
    zT Tryz.f100 [rg 2,rg 1,.head] [graphA v,inL u] [0] (abS v u 0) =
    some (zf87,zD [(AI v.1),(AN v.2.1.1),(AP v.2.1.1 (bRw v.2.1.2)),(AN u.1),(AP u.1 (iRw u)),(AN 0),((0:Int)=(↑0:Int)),((([AV.p (PV.int IntKind.i64 v.1),graphL v.2.1].length):Nat)=2),(NL 1 1)] [0,1,2,3,4,5,6,7,8,8,0,1,2]):=by kernel_rfl
theorem abb (v:T_Graph) (u:T_IntS) (k:Nat) :
    zM 0 [rg 4,.dec true,rg 30,.dec false,rg 3,.head] zf87 (abS v u k) [0] 1 (abS v u (k+1)) =
    some (zf87,zD [((decide ((↑k:Int)<(↑u.1:Int)))=true),(IL 0 (↑k:Int)),(IT (↑k:Int) (↑u.1:Int)),(AG (!decide (u.2 (↑k:Int).toNat<0))),(((!decide (u.2 (↑k:Int).toNat<0))=true)→(IL 0 (↑k:Int))),(((!decide (u.2 (↑k:Int).toNat<0))=true)→(IT (↑k:Int) (↑u.1:Int))),(((!decide (u.2 (↑k:Int).toNat<0))=true)→(NT 0 1)),(((decide (u.2 (↑k:Int).toNat<0))=false)→ ((!decide (u.2 (↑k:Int).toNat<0))=true)),(AG (!bif decide (u.2 (↑k:Int).toNat<0) then true else decide (u.2 (↑k:Int).toNat≥v.1))),(AG ((!bif decide (u.2 (↑k:Int).toNat<0) then true else decide (u.2 (↑k:Int).toNat≥v.1))&&decide ((↑k:Int)>0))),((((!bif decide (u.2 (↑k:Int).toNat<0) then true else decide (u.2 (↑k:Int).toNat≥v.1))&&decide ((↑k:Int)>0))=true)→(ZLo ((↑k:Int) - 1))),((((!bif decide (u.2 (↑k:Int).toNat<0) then true else decide (u.2 (↑k:Int).toNat≥v.1))&&decide ((↑k:Int)>0))=true)→(ZHi ((↑k:Int) - 1))),((((!bif decide (u.2 (↑k:Int).toNat<0) then true else decide (u.2 (↑k:Int).toNat≥v.1))&&decide ((↑k:Int)>0))=true)→(IL 0 ((↑k:Int) - 1))),((((!bif decide (u.2 (↑k:Int).toNat<0) then true else decide (u.2 (↑k:Int).toNat≥v.1))&&decide ((↑k:Int)>0))=true)→(IT ((↑k:Int) - 1) (↑u.1:Int))),((((!bif decide (u.2 (↑k:Int).toNat<0) then true else decide (u.2 (↑k:Int).toNat≥v.1))&&decide ((↑k:Int)>0))=true)→(IL 0 (↑k:Int))),((((!bif decide (u.2 (↑k:Int).toNat<0) then true else decide (u.2 (↑k:Int).toNat≥v.1))&&decide ((↑k:Int)>0))=true)→(IT (↑k:Int) (↑u.1:Int))),(((!bif decide (u.2 (↑k:Int).toNat<0) then true else decide (u.2 (↑k:Int).toNat≥v.1))=true)→(((decide ((↑k:Int)>0))=true)→ (((!bif decide (u.2 (↑k:Int).toNat<0) then true else decide (u.2 (↑k:Int).toNat≥v.1))&&decide ((↑k:Int)>0))=true))),(((bif decide (u.2 (↑k:Int).toNat<0) then true else decide (u.2 (↑k:Int).toNat≥v.1))=false)→ ((!bif decide (u.2 (↑k:Int).toNat<0) then true else decide (u.2 (↑k:Int).toNat≥v.1))=true)),((bif bif decide (u.2 (↑k:Int).toNat<0) then true else decide (u.2 (↑k:Int).toNat≥v.1) then true else bif decide ((↑k:Int)>0) then decide (u.2 ((↑k:Int) - 1).toNat≥u.2 (↑k:Int).toNat) else false)=false),(ZLo ((↑k:Int)+1)),(ZHi ((↑k:Int)+1)),(AI v.1),(AN v.2.1.1),(AP v.2.1.1 (bRw v.2.1.2)),(AN u.1),(AP u.1 (iRw u)),(AN 0),((((↑k:Int)+1):Int)=(↑(k+1):Int)),(AN 2),(NL 1 1)] [0,1,2,3,3,4,5,3,3,6,3,3,7,8,8,9,10,11,9,9,12,13,9,9,9,14,15,9,9,9,8,16,17,18,19,20,21,22,23,24,25,26,27,28,29,29,21,22,23]):=by kernel_rfl
theorem abc (v:T_Graph) (u:T_IntS) (k:Nat) :
    zP Tryz.f100 0 [rg 4,.dec true,rg 30,.dec true,rg 1] zf87 (abS v u k) [] 1 [] (.p (.bool false)) =
    some (zD [((decide ((↑k:Int)<(↑u.1:Int)))=true),(IL 0 (↑k:Int)),(IT (↑k:Int) (↑u.1:Int)),(AG (!decide (u.2 (↑k:Int).toNat<0))),(((!decide (u.2 (↑k:Int).toNat<0))=true)→(IL 0 (↑k:Int))),(((!decide (u.2 (↑k:Int).toNat<0))=true)→(IT (↑k:Int) (↑u.1:Int))),(((!decide (u.2 (↑k:Int).toNat<0))=true)→(NT 0 1)),(((decide (u.2 (↑k:Int).toNat<0))=false)→ ((!decide (u.2 (↑k:Int).toNat<0))=true)),(AG (!bif decide (u.2 (↑k:Int).toNat<0) then true else decide (u.2 (↑k:Int).toNat≥v.1))),(AG ((!bif decide (u.2 (↑k:Int).toNat<0) then true else decide (u.2 (↑k:Int).toNat≥v.1))&&decide ((↑k:Int)>0))),((((!bif decide (u.2 (↑k:Int).toNat<0) then true else decide (u.2 (↑k:Int).toNat≥v.1))&&decide ((↑k:Int)>0))=true)→(ZLo ((↑k:Int) - 1))),((((!bif decide (u.2 (↑k:Int).toNat<0) then true else decide (u.2 (↑k:Int).toNat≥v.1))&&decide ((↑k:Int)>0))=true)→(ZHi ((↑k:Int) - 1))),((((!bif decide (u.2 (↑k:Int).toNat<0) then true else decide (u.2 (↑k:Int).toNat≥v.1))&&decide ((↑k:Int)>0))=true)→(IL 0 ((↑k:Int) - 1))),((((!bif decide (u.2 (↑k:Int).toNat<0) then true else decide (u.2 (↑k:Int).toNat≥v.1))&&decide ((↑k:Int)>0))=true)→(IT ((↑k:Int) - 1) (↑u.1:Int))),((((!bif decide (u.2 (↑k:Int).toNat<0) then true else decide (u.2 (↑k:Int).toNat≥v.1))&&decide ((↑k:Int)>0))=true)→(IL 0 (↑k:Int))),((((!bif decide (u.2 (↑k:Int).toNat<0) then true else decide (u.2 (↑k:Int).toNat≥v.1))&&decide ((↑k:Int)>0))=true)→(IT (↑k:Int) (↑u.1:Int))),(((!bif decide (u.2 (↑k:Int).toNat<0) then true else decide (u.2 (↑k:Int).toNat≥v.1))=true)→(((decide ((↑k:Int)>0))=true)→ (((!bif decide (u.2 (↑k:Int).toNat<0) then true else decide (u.2 (↑k:Int).toNat≥v.1))&&decide ((↑k:Int)>0))=true))),(((bif decide (u.2 (↑k:Int).toNat<0) then true else decide (u.2 (↑k:Int).toNat≥v.1))=false)→ ((!bif decide (u.2 (↑k:Int).toNat<0) then true else decide (u.2 (↑k:Int).toNat≥v.1))=true)),((bif bif decide (u.2 (↑k:Int).toNat<0) then true else decide (u.2 (↑k:Int).toNat≥v.1) then true else bif decide ((↑k:Int)>0) then decide (u.2 ((↑k:Int) - 1).toNat≥u.2 (↑k:Int).toNat) else false)=true),(false=false)] [0,1,2,3,3,4,5,3,3,6,3,3,7,8,8,9,10,11,9,9,12,13,9,9,9,14,15,9,9,9,8,16,17,18,19]):=by kernel_rfl
theorem abd (v:T_Graph) (u:T_IntS) (k:Nat) (b:Bool) :
    zP Tryz.f100 0 [rg 4,.dec false,rm [(1,oc [] (.p (.bool b)))] 1] zf87 (abS v u k) [] 1 [] (.p (.bool b)) =
    some [((decide ((↑k:Int)<(↑u.1:Int)))=false),(NT 0 1),zE 209 [(zf91 v)] [] (.p (.bool b)),(b=b)]:=by kernel_rfl
def anF (v:T_Graph) (u:T_IntS):Bool:=goodP v.1 u.2 u.1&&simpleF v
theorem con_Ghas (v:T_Graph) (p:Int):∃ b,zE 205 [graphA v,.p (.int .i64 p)] [] (.p (.bool b)):=by
  refine ⟨inB p 0 (IntKind.i64.wrap (v.1 - 1)),?_⟩
  refine csZ Tryz.func205 (fun c hc=>?_)
  refine pkZ Tryz.func205 hc (ahw v p (inB p 0 (IntKind.i64.wrap (v.1 - 1)))) ?_
  and_intros
  all_goals (first | exact zN | (exact con_within _ _ _))
theorem con_Anch_s (v:T_Graph) (hs:smS s_Graph v) (u:T_IntS) (hu:u.1≤1048576):zE 100 [graphA v,inL u] [] (.p (.bool (anF v u))):=by
  have c1:=con_l17Simple v hs
  refine csZ Tryz.func100 (fun c hc=>?_)
  have lo:∀ d k,k+d=u.1→goodP v.1 u.2 k=true→zR c 100 zf87 (abS v u k) (Post c [] (.p (.bool (anF v u)))):=by
    intro d
    induction d with
    | zero =>
      intro k hk hg
      have hd:decide ((k:Int)<(u.1:Int))=false:=decide_eq_false (by omega)
      rw [show anF v u=simpleF v by unfold anF;rw [show u.1=k by omega,hg];rfl]
      refine pkZ Tryz.func100 hc (abd v u k (simpleF v)) ?_
      and_intros
      all_goals (first | exact zN | (exact hd) | (exact c1))
    | succ d ih =>
      intro k hk hg
      have hd:decide ((k:Int)<(u.1:Int))=true:=decide_eq_true (by omega)
      cases he:badP v.1 u.2 k with
      | true =>
        rw [show anF v u=false by unfold anF;rw [goodP_bad v.1 u.2 k he u.1 (by omega)];rfl]
        have he':=he
        unfold badP at he'
        refine pkD Tryz.func100 hc (abc v u k) ?_
        and_intros
        all_goals (first | exact zH | (exact hd) | (exact he') | (intro h;simp at h;omega))
      | false =>
        have he':=he
        unfold badP at he'
        refine pcD hc (abb v u k) ?_ (ih (k+1) (by omega) (by rw [goodP,hg,he];rfl))
        and_intros
        all_goals (first | exact zH | (exact hd) | (exact he') | (intro h;simp at h;omega))
  refine pcD hc (abz v u) ?_ (lo u.1 0 (by omega) rfl)
  and_intros
  all_goals (first | exact zN | (simp;done))
theorem con_Anch_i (v:T_Graph) (hs:smS s_Graph v) (u:T_IntS) (hu:u.1≤1048576):zE 107 [graphA v,inL u] [] (.p (.bool (anF v u))):=by
  have c1:=con_IsGraph_i v hs
  have c2:=con_hasDoubles v hs
  have hsim:simpleF v=(bif isGraphF v then !dblB v.2.1.2 v.2.1.1 else false):=by
    unfold simpleF
    cases isGraphF v<;>cases dblB v.2.1.2 v.2.1.1<;>rfl
  refine csZ Tryz.func107 (fun c hc=>?_)
  cases hgr:isGraphF v with
  | false =>
    rw [hgr] at c1 hsim
    rw [show anF v u=false by unfold anF;rw [hsim];simp]
    have lo:∀ d k,k+d=u.1→zR c 107 zf86 (aaS v u k) (Post c [] (.p (.bool false))):=by
      intro d
      induction d with
      | zero =>
        intro k hk
        have hd:decide ((k:Int)<(u.1:Int))=false:=decide_eq_false (by omega)
        refine pkZ Tryz.func107 hc (aad v u k false (dblB v.2.1.2 v.2.1.1)) ?_
        and_intros
        all_goals (first | exact zI | (exact hd) | (exact c1) | (intros;exact c2))
      | succ d ih =>
        intro k hk
        have hd:decide ((k:Int)<(u.1:Int))=true:=decide_eq_true (by omega)
        obtain ⟨b,hb⟩:=con_Ghas v (u.2 k)
        cases he:(bif !b then true else bif decide ((k:Int)>0) then decide (u.2 ((k:Int) - 1).toNat≥u.2 k) else false) with
        | true =>
          refine pkD Tryz.func107 hc (aac v u k b) ?_
          and_intros
          all_goals (first | exact zH | (exact hd) | (exact hb) | (exact he) | (intro h;simp at h;omega))
        | false =>
          refine pcD hc (aab v u k b) ?_ (ih (k+1) (by omega))
          and_intros
          all_goals (first | exact zH | (exact hd) | (exact hb) | (exact he) | (intro h;simp at h;omega))
    refine pcD hc (aaz v u) ?_ (lo u.1 0 (by omega))
    and_intros
    all_goals (first | exact zN | (simp;done))
  | true =>
    rw [hgr] at c1 hsim
    have hN:1≤v.1∧v.1≤8:=by have:=graph_inR hgr;omega
    have lo:∀ d k,k+d=u.1→goodP v.1 u.2 k=true→zR c 107 zf86 (aaS v u k) (Post c [] (.p (.bool (anF v u)))):=by
      intro d
      induction d with
      | zero =>
        intro k hk hg
        have hd:decide ((k:Int)<(u.1:Int))=false:=decide_eq_false (by omega)
        rw [show anF v u=(bif true then !dblB v.2.1.2 v.2.1.1 else false) by unfold anF;rw [show u.1=k by omega,hg,hsim];rfl]
        refine pkZ Tryz.func107 hc (aad v u k true (dblB v.2.1.2 v.2.1.1)) ?_
        and_intros
        all_goals (first | exact zI | (exact hd) | (exact c1) | (intros;exact c2))
      | succ d ih =>
        intro k hk hg
        have hd:decide ((k:Int)<(u.1:Int))=true:=decide_eq_true (by omega)
        have hb:=con_Graphhas v (u.2 k) hN.1 hN.2
        cases he:badP v.1 u.2 k with
        | true =>
          rw [show anF v u=false by unfold anF;rw [goodP_bad v.1 u.2 k he u.1 (by omega)];rfl]
          have he':=bad_in v.1 u.2 k he
          refine pkD Tryz.func107 hc (aac v u k (inB (u.2 k) 0 (v.1 - 1))) ?_
          and_intros
          all_goals (first | exact zH | (exact hd) | (exact hb) | (exact he') | (intro h;simp at h;omega))
        | false =>
          have he':=bad_in v.1 u.2 k he
          refine pcD hc (aab v u k (inB (u.2 k) 0 (v.1 - 1))) ?_ (ih (k+1) (by omega) (by rw [goodP,hg,he];rfl))
          and_intros
          all_goals (first | exact zH | (exact hd) | (exact hb) | (exact he') | (intro h;simp at h;omega))
    refine pcD hc (aaz v u) ?_ (lo u.1 0 (by omega) rfl)
    and_intros
    all_goals (first | exact zN | (simp;done))
theorem con_l4Other (x:T_Bar) (v:Int) (h1:0≤x.1∧x.1≤1048576) (h2:0≤x.2.1∧x.2.1≤1048576) (h3:0≤v∧v≤1048576):zE 324 [brA x,.p (.int .i64 v)] [] (.p (.int .i64 (x.1+x.2.1 - v))):=by
  refine csZ Tryz.func324 (fun c hc=>?_)
  refine pkZ Tryz.func324 hc (qOt x v) ?_
  and_intros
  all_goals (first | exact zN | simp)
theorem con_l4Copy (N m:Nat) (F T Q:Nat→Int) (hN:N≤1048576) (hm:m≤1048576):zE 340 [pebD N m F T Q] (pebR N m F T Q) (pebO N m 0):=by
  refine csZ Tryz.func340 (fun c hc=>?_)
  refine pkD Tryz.func340 hc (qCp N m F T Q) ?_
  and_intros
  all_goals (first | exact zI | (intro i hi;simp [All]))
theorem oth_sum {x:T_Bar} {y z:Int} (h:y=x.1∨y=x.2.1) (hz:othF x y=z):x.1+x.2.1 - z=y∧x.1+x.2.1 - y=z:=by
  unfold othF at hz
  by_cases e:x.1=y
  · rw [if_pos e] at hz;omega
  · rw [if_neg e] at hz
    rcases h with h | h
    · exact absurd h.symm e
    · omega
theorem run_shift {N nb m:Nat} {g:Nat→T_Bar} {F F0 F1 T Q td FR:Nat→Int} {a b u:Int} {tn:Nat} (h:BInv N m g F T Q td (fun s=>FR (td s).toNat) a b tn) (hN:N≤1048576) (hm:m≤1048576) (hnb:nb≤1048576)
    (hq:∀ j,j<m→0≤Q j∧Q j<nb) (hbar:∀ e,e<nb→0≤(g e).1∧(g e).1<(g e).2.1∧(g e).2.1<N) (hT:∀ j,j<m→T j=(g (Q j).toNat).1∨T j=(g (Q j).toNat).2.1) :
    ∀ s,s<tn→∀ T':Nat→Int,TInv m g T Q td (fun s=>FR (td s).toNat) T' u s→∃ T'' s',(∀ c,c.n=0→zR c 407 zf28 (SSl g nb N m F0 T Q FR F1 T' a u (td s)) (Post c (pebR N m F1 T'' Q) (pebO N m 0))) ∧
      TInv m g T Q td (fun s=>FR (td s).toNat) T'' u s'∧td s'=a:=by
  intro s
  induction s using Nat.strongRecOn with
  | ind s ih =>
    intro hs T' ht
    by_cases he:td s=a
    · refine ⟨T',s,fun c hc=>?_,ht,he⟩
      have hb:(td s != a)=false:=by simp [he]
      refine pkD Tryz.func407 hc (qSe g nb N m F0 T Q FR F1 T' a u (td s)) ?_
      and_intros
      all_goals (first | exact zI | (exact hb) | (intro i hi;simp [All]))
    · have hs1:1≤s:=by
        cases s with
        | zero=>exact absurd h.td0 he
        | succ s=>omega
      obtain ⟨j,hj,hVs,s',hs',hk,ht',hTj,hoth⟩:=ht.step h hs hs1
      have hVs:FR (td s).toNat=(j:Int):=hVs
      obtain ⟨T'',s'',hrun,h1,h2⟩:=ih s' hs' (by omega) _ ht'
      refine ⟨T'',s'',fun c hc=>?_,h1,h2⟩
      have hb:(td s != a)=true:=by simp [he]
      have hqj:=hq j hj
      have hbj:=hbar (Q j).toNat (by omega)
      have hrs:=h.rng s hs
      have hsum:=(oth_sum (by rw [← hTj];exact hT j hj) hoth).1
      have hcon:=con_l4Other (g (Q j).toNat) (td s) (by omega) (by omega) (by omega)
      rw [hsum] at hcon
      refine pcD hc (qSl g nb N m F0 T Q FR F1 T' a u (td s) (td s')) ?_ (by rw [hVs];simp only [Int.toNat_natCast];exact hrun c hc)
      and_intros
      all_goals (first | exact zI | (exact hb) | (rw [hVs];simp only [Int.toNat_natCast];omega) | (rw [hVs];simp only [Int.toNat_natCast];exact hcon) | (intro i hi;simp [All];done) | (simp only [hVs,Int.toNat_natCast];intro i hi;by_cases h:i=j<;>simp [h,cvtL,cvt,tg,tru,All]))
theorem BInv.congrV {N m:Nat} {g:Nat→T_Bar} {F T Q td V V':Nat→Int} {a b:Int} {tn:Nat} (h:BInv N m g F T Q td V a b tn) (hv:∀ s,s<tn→V s=V' s):BInv N m g F T Q td V' a b tn :=
  ⟨h.n1,h.td0,h.rng,h.inj,fun s h1 h2=>by rw [← hv s h2];exact h.par s h1 h2⟩
theorem con_l4Shift {N k nb m:Nat} {g:Nat→T_Bar} {F T Q td FR:Nat→Int} {a b u:Int} {tn:Nat} (hp:PInv N k nb m g F T Q) (hk:k≤1048576) (hN:N≤1048576) (hm:m≤1048576) (hnb:nb≤1048576)
    (h:BInv N m g F T Q td (fun s=>FR (td s).toNat) a b (tn+1)) (htn:td tn=u) (ha:0≤a∧a<N) (hu:0≤u∧u<N) (hua:u≠a) :
    ∃ T'' s',zE 407 [grG g nb N,pebD N m F T Q,inD N FR,.p (.int .i64 a),.p (.int .i64 u)] (pebR N m (fun x=>if x=a.toNat then (if x=u.toNat then F x - 1 else F x)+1 else (if x=u.toNat then F x - 1 else F x)) T'' Q) (pebO N m 0) ∧
      TInv m g T Q td (fun s=>FR (td s).toNat) T'' u s'∧td s'=a:=by
  have ht0:TInv m g T Q td (fun s=>FR (td s).toNat) T u tn:=⟨fun _ _ _=>rfl,hp.t,fun x=>by rw [htn];omega⟩
  obtain ⟨T'',s',hrun,h1,h2⟩:=run_shift (nb:=nb) (F0:=F) (F1:=fun x=>if x=a.toNat then (if x=u.toNat then F x - 1 else F x)+1 else (if x=u.toNat then F x - 1 else F x)) h hN hm hnb hp.q hp.bars hp.t tn (by omega) T ht0
  refine ⟨T'',s',?_,h1,h2⟩
  rw [htn] at hrun
  have hFa:=hp.le (v:=a.toNat) (by omega)
  have hFu:=hp.le (v:=u.toNat) (by omega)
  have hcc:=con_l4Copy N m F T Q hN hm
  refine csZ Tryz.func407 (fun c hc=>?_)
  have hrun':=hrun c hc
  refine pcD hc (qSz g nb N m F T Q FR a u) ?_ ?_
  ·
    and_intros
    all_goals (first | exact zI | (exact hcc) | (intro i hi;simp [All];done) | (intro i hi;by_cases h:i=u.toNat<;>simp [h,cvtL,cvt,tg,tru,All]))
  · have hF1:(fun s=>if s=u.toNat then F s - 1 else F s) a.toNat=F a.toNat:=by
      show (if a.toNat=u.toNat then F a.toNat - 1 else F a.toNat)=_
      rw [if_neg (by omega)]
    obtain ⟨F1,hF1d⟩:∃ F1:Nat→Int,F1=(fun s=>if s=u.toNat then F s - 1 else F s):=⟨_,rfl⟩
    have hFF:(fun x=>if x=a.toNat then (if x=u.toNat then F x - 1 else F x)+1 else (if x=u.toNat then F x - 1 else F x))=(fun s=>if s=a.toNat then F1 s+1 else F1 s):=by
      subst hF1d;rfl
    rw [hFF] at hrun' ⊢
    rw [← hF1d] at hF1 ⊢
    refine pcD hc (qSa g nb N m F T Q FR F1 T a u) ?_ hrun'
    and_intros
    all_goals (first | exact zI | (rw [hF1];omega) | (intro i hi;simp [All];done) | (intro i hi;by_cases h:i=a.toNat<;>simp [h,cvtL,cvt,tg,tru,All]))
inductive FindR (N k nb m:Nat) (g:Nat→T_Bar) (F T Q:Nat→Int) (a b:Int):Hp→AV→Prop
  | yes (F' T':Nat→Int) (h:Moved N k nb m g F T Q a b F' T' true):FindR N k nb m g F T Q a b (pebR3 N m F T Q F' T' Q) (.tup [pebO N m 3,.p (.bool true)])
  | no (h:Moved N k nb m g F T Q a b F T false):FindR N k nb m g F T Q a b (pebR N m F T Q) (.tup [pebO N m 0,.p (.bool false)])
def OutS (N k nb m:Nat) (g:Nat→T_Bar) (F T Q:Nat→Int) (a b:Int) (i tn:Nat) (td FR:Nat→Int) (SN:Nat→Bool):Prop :=
  ∃ H' res,(∀ c,c.n=3→zR c 377 [.code (cAt (bodyOf Tryz.f377) [1,1,1,1,1,1,0,1,0,0]),.inLoop (cAt (bodyOf Tryz.f377) [1,1,1,1,1,1,0,1,0,0]),.inBlock 2,.code (cAt (bodyOf Tryz.f377) [1,1,1,1,1,1,1])] (SF1 g nb N m F T Q td FR SN a b i tn) (Post c H' res))∧FindR N k nb m g F T Q a b H' res
def MidS (N k nb m:Nat) (g:Nat→T_Bar) (F T Q:Nat→Int) (a b:Int) (i j tn:Nat) (td FR:Nat→Int) (SN:Nat→Bool):Prop :=
  ∃ H' res,(∀ c,c.n=3→zR c 377 [.code (cAt (bodyOf Tryz.f377) [1,1,1,1,1,1,0,1,0,0,1,0,0,1,1,0,0]),.inLoop (cAt (bodyOf Tryz.f377) [1,1,1,1,1,1,0,1,0,0,1,0,0,1,1,0,0]),.inBlock 4,.inBlock 3,.code (cAt (bodyOf Tryz.f377) [1,1,1,1,1,1,0,1,0,0,1,1]),.inLoop (cAt (bodyOf Tryz.f377) [1,1,1,1,1,1,0,1,0,0]),.inBlock 2,.code (cAt (bodyOf Tryz.f377) [1,1,1,1,1,1,1])] (SF2 g nb N m F T Q td FR SN a b (td i) i j tn) (Post c H' res))∧FindR N k nb m g F T Q a b H' res
def SeenI (N:Nat) (td:Nat→Int) (SN:Nat→Bool) (tn:Nat):Prop:=∀ x:Nat,x<N→(SN x=true↔∃ s,s<tn∧td s=x)
theorem mid_s {N k nb m:Nat} {g:Nat→T_Bar} {F T Q:Nat→Int} {a b:Int} (hp:PInv N k nb m g F T Q) (hk:k≤1048576) (hN:N≤1048576) (hm:m≤1048576) (hnb:nb≤1048576)
    (ha:0≤a∧a<N) (hb:0≤b∧b<N) (hab:a≠b) (i:Nat)
    (ih:∀ tn td FR SN,i+1≤tn→BInv N m g F T Q td (fun s=>FR (td s).toNat) a b tn→SeenI N td SN tn→BZero F td b tn→BClo m g T Q td (i+1) 0 tn→OutS N k nb m g F T Q a b (i+1) tn td FR SN) :
    ∀ e j tn td FR SN,j+e=m→i<tn→BInv N m g F T Q td (fun s=>FR (td s).toNat) a b tn→SeenI N td SN tn→BZero F td b tn→BClo m g T Q td i j tn→MidS N k nb m g F T Q a b i j tn td FR SN:=by
  intro e
  induction e with
  | zero =>
    intro j tn td FR SN hj hi hbi hsn hz hcl
    have htn:=pigeon N tn td hbi.rng hbi.inj
    obtain ⟨H',res,hrun,hmv⟩:=ih tn td FR SN (by omega) hbi hsn hz (fun i' j' hij hi' hT=>by
      rcases hij with ⟨h1,h2⟩ | ⟨h1,h2⟩
      · by_cases e:i'=i
        · exact hcl i' j' (.inr ⟨e,by omega⟩) hi' hT
        · exact hcl i' j' (.inl ⟨by omega,h2⟩) hi' hT
      · omega)
    refine ⟨H',res,fun c hc=>?_,hmv⟩
    have hd:decide ((j:Int)<(m:Int))=false:=by simp;omega
    refine pcD hc (qF2e g nb N m F T Q td FR SN a b (td i) i j tn) ?_ (hrun c hc)
    and_intros
    all_goals (first | exact zN | (intro i hi;simp [All]))
  | succ e ihe =>
    intro j tn td FR SN hj hi hbi hsn hz hcl
    have htn:=pigeon N tn td hbi.rng hbi.inj
    have hjm:j<m:=by omega
    have hd:decide ((j:Int)<(m:Int))=true:=by simp;omega
    have hq:=hp.q j hjm
    have hbar:=hp.bars (Q j).toNat (by omega)
    have hrg:=hbi.rng i hi
    by_cases hT:T j=td i
    · have ht1:(T j != td i)=false:=by simp [hT]
      obtain ⟨v,hv⟩:∃ v,othF (g (Q j).toNat) (td i)=v:=⟨_,rfl⟩
      have hvr:0≤v∧v<N:=by rw [← hv];exact othF_in hbar
      have hsum:=(oth_sum (by rw [← hT];exact hp.t j hjm) hv).2
      have hcon:=con_l4Other (g (Q j).toNat) (td i) (by omega) (by omega) (by omega)
      rw [hsum] at hcon
      cases hh:SN v.toNat with
      | true =>
        obtain ⟨s,hs1,hs2⟩:=(hsn v.toNat (by omega)).1 hh
        obtain ⟨H',res,hrun,hmv⟩:=ihe (j+1) tn td FR SN (by omega) hi hbi hsn hz (fun i' j' hij hi' hTT=>by
          by_cases e:i'=i∧j'=j
          · obtain ⟨rfl,rfl⟩:=e
            exact ⟨s,hs1,by rw [hs2,hv];omega⟩
          · exact hcl i' j' (by omega) hi' hTT)
        refine ⟨H',res,fun c hc=>?_,hmv⟩
        refine pcD hc (qF2b g nb N m F T Q td FR SN a b (td i) v i j tn) ?_ (hrun c hc)
        and_intros
        all_goals (first | exact zN | (exact ht1) | (exact hcon) | (exact hh) | (intro i hi;simp [All]))
      | false =>
        have hno:∀ s,s<tn→td s≠v:=by
          intro s hs e
          have:=(hsn v.toNat (by omega)).2 ⟨s,hs,by omega⟩
          rw [hh] at this;cases this
        have hadd0:=hbi.add hi hjm hT hv hvr hno
        have hadd:BInv N m g F T Q (fun s=>if s<tn then td s else v) (fun s=>(fun x=>if x=v.toNat then (j:Int) else FR x) ((fun s=>if s<tn then td s else v) s).toNat) a b (tn+1):=by
          refine hadd0.congrV (fun s hs=>?_)
          show (if s<tn then FR (td s).toNat else (j:Int))=(if (if s<tn then td s else v).toNat=v.toNat then (j:Int) else FR (if s<tn then td s else v).toNat)
          by_cases e:s<tn
          · have h1:=hno s e
            have h2:=hbi.rng s e
            rw [if_pos e,if_pos e,if_neg (show ¬ (td s).toNat=v.toNat by omega)]
          · rw [if_neg e,if_neg e,if_pos rfl]
        have hF:=hp.le (v:=v.toNat) (by omega)
        cases hcd:(bif v != b then decide (F v.toNat>0) else false) with
        | false =>
          have hzv:v=b∨F v.toNat=0:=by
            by_cases e:v=b
            · exact .inl e
            · right
              have:(v != b)=true:=by simp [e]
              rw [this] at hcd
              simp at hcd
              omega
          obtain ⟨H',res,hrun,hmv⟩:=ihe (j+1) (tn+1) (fun s=>if s<tn then td s else v) (fun x=>if x=v.toNat then (j:Int) else FR x) (fun s=>if s=v.toNat then true else SN s) (by omega) (by omega) hadd (fun x hx=>by
            show (if x=v.toNat then true else SN x)=true↔∃ s,s<tn+1∧(if s<tn then td s else v)=x
            by_cases e:x=v.toNat
            · rw [if_pos e]
              exact ⟨fun _=>⟨tn,by omega,by rw [if_neg (Nat.lt_irrefl tn)];omega⟩,fun _=>rfl⟩
            · rw [if_neg e,hsn x hx]
              constructor
              · rintro ⟨s,h1,h2⟩;exact ⟨s,by omega,by rw [if_pos h1];exact h2⟩
              · rintro ⟨s,h1,h2⟩
                by_cases e2:s<tn
                · rw [if_pos e2] at h2;exact ⟨s,e2,h2⟩
                · rw [if_neg e2] at h2;omega) (fun s h1 h2=>by
            show (if s<tn then td s else v)=b∨F (if s<tn then td s else v).toNat=0
            by_cases e:s<tn
            · rw [if_pos e];exact hz s h1 e
            · rw [if_neg e];exact hzv) (fun i' j' hij hi' hTT=>by
            have hi2:i'<tn:=by omega
            have hTT':T j'=td i':=by rw [hTT];show (if i'<tn then td i' else v)=_;rw [if_pos hi2]
            show ∃ s,s<tn+1∧(if s<tn then td s else v)=othF (g (Q j').toNat) (if i'<tn then td i' else v)
            rw [if_pos hi2]
            by_cases e:i'=i∧j'=j
            · obtain ⟨rfl,rfl⟩:=e
              exact ⟨tn,by omega,by rw [if_neg (Nat.lt_irrefl tn),hv]⟩
            · obtain ⟨s,h1,h2⟩:=hcl i' j' (by omega) hi2 hTT'
              exact ⟨s,by omega,by rw [if_pos h1];exact h2⟩)
          refine ⟨H',res,fun c hc=>?_,hmv⟩
          have hrun':=hrun c hc
          simp only [hi,if_true] at hrun'
          refine pcD hc (qF2c g nb N m F T Q td FR SN a b (td i) v i j tn) ?_ hrun'
          and_intros
          all_goals (first | exact zI | (exact ht1) | (exact hcon) | (exact hh) | (exact hcd) | (intros;omega) | (intro i hi;simp [All];done) | (intro i hi;by_cases h:i<tn<;>simp [h,cvtL,cvt,tg,tru,All];done) | (intro i hi;by_cases h:i=v.toNat<;>simp [h,cvtL,cvt,tg,tru,All]))
        | true =>
          have hvb:v≠b:=by
            intro e
            rw [show (v != b)=false by simp [e]] at hcd
            cases hcd
          have hFv:F v.toNat≠0:=by
            intro e
            rw [show (v != b)=true by simp [hvb]] at hcd
            simp [e] at hcd
          have hva:v≠a:=by
            have:=hno 0 (by have:=hbi.n1;omega)
            rw [hbi.td0] at this
            exact Ne.symm this
          obtain ⟨T'',s',hcs,h1,h2⟩:=con_l4Shift (td:=fun s=>if s<tn then td s else v) (FR:=fun x=>if x=v.toNat then (j:Int) else FR x) (tn:=tn) hp hk hN hm hnb hadd (by show (if tn<tn then td tn else v)=v;rw [if_neg (Nat.lt_irrefl tn)]) ha hvr hva
          refine ⟨_,_,fun c hc=>?_,.yes _ T'' (moved_yes hp ha hb hab hvr hva hvb hFv h1 h2)⟩
          refine pcD hc (qF2d g nb N m F T Q td FR SN a b (td i) v i j tn) ?_ ?_
          ·
            and_intros
            all_goals (first | exact zI | (exact ht1) | (exact hcon) | (exact hh) | (exact hcd) | (intros;omega) | (intro i hi;simp [All];done) | (intro i hi;by_cases h:i=v.toNat<;>simp [h,cvtL,cvt,tg,tru,All]))
          · refine pkD Tryz.func377 hc (qF3 g nb N m F T Q (fun s=>if s=v.toNat then (j:Int) else FR s) _ T'' a b v) ?_
            and_intros
            all_goals (first | exact zI | (exact hcs) | (intro i hi;simp [All]))
    · have ht1:(T j != td i)=true:=by simp [hT]
      obtain ⟨H',res,hrun,hmv⟩:=ihe (j+1) tn td FR SN (by omega) hi hbi hsn hz (fun i' j' hij hi' hTT=>by
        by_cases e:i'=i∧j'=j
        · obtain ⟨rfl,rfl⟩:=e
          exact absurd hTT hT
        · exact hcl i' j' (by omega) hi' hTT)
      refine ⟨H',res,fun c hc=>?_,hmv⟩
      refine pcD hc (qF2a g nb N m F T Q td FR SN a b (td i) i j tn) ?_ (hrun c hc)
      and_intros
      all_goals (first | exact zN | (exact ht1) | (intro i hi;simp [All]))
theorem out_s {N k nb m:Nat} {g:Nat→T_Bar} {F T Q:Nat→Int} {a b:Int} (hp:PInv N k nb m g F T Q) (hk:k≤1048576) (hN:N≤1048576) (hm:m≤1048576) (hnb:nb≤1048576)
    (ha:0≤a∧a<N) (hb:0≤b∧b<N) (hab:a≠b):∀ d i tn td FR SN,N+1≤i+d→i≤tn→BInv N m g F T Q td (fun s=>FR (td s).toNat) a b tn→SeenI N td SN tn→BZero F td b tn→BClo m g T Q td i 0 tn→OutS N k nb m g F T Q a b i tn td FR SN:=by
  intro d
  induction d with
  | zero =>
    intro i tn td FR SN hd hi hbi _ _ _
    have:=pigeon N tn td hbi.rng hbi.inj
    omega
  | succ d ih =>
    intro i tn td FR SN hd hi hbi hsn hz hcl
    have htn:=pigeon N tn td hbi.rng hbi.inj
    by_cases hit:i<tn
    · have hd':decide ((i:Int)<(tn:Int))=true:=by simp;omega
      obtain ⟨H',res,hrun,hmv⟩:=mid_s hp hk hN hm hnb ha hb hab i (fun tn td FR SN h1 h2 h3 h4 h5=>ih (i+1) tn td FR SN (by omega) h1 h2 h3 h4 h5) m 0 tn td FR SN (by omega) hit hbi hsn hz hcl
      refine ⟨H',res,fun c hc=>?_,hmv⟩
      refine pcD hc (qF1 g nb N m F T Q td FR SN a b i tn) ?_ (hrun c hc)
      and_intros
      all_goals (first | exact zN | (intro i hi;simp [All]))
    · have hd':decide ((i:Int)<(tn:Int))=false:=by simp;omega
      obtain rfl:i=tn:=by omega
      refine ⟨_,_,fun c hc=>?_,.no (moved_no hp hbi hz hcl)⟩
      refine pkD Tryz.func377 hc (qF1e g nb N m F T Q td FR SN a b i i) ?_
      and_intros
      all_goals (first | exact zI | (intro i hi;simp [All]))
theorem con_l4Find {N k nb m:Nat} {g:Nat→T_Bar} {F T Q:Nat→Int} {a b:Int} (hp:PInv N k nb m g F T Q) (hk:k≤1048576) (hN:N≤1048576) (hm:m≤1048576) (hnb:nb≤1048576)
    (ha:0≤a∧a<N) (hb:0≤b∧b<N) (hab:a≠b):∃ H' res,Con Tryz.prog 377 3 (pebR N m F T Q) [grG g nb N,pebO N m 0,.p (.int .i64 a),.p (.int .i64 b)] H' res∧FindR N k nb m g F T Q a b H' res:=by
  obtain ⟨H',res,hrun,hmv⟩:=out_s hp hk hN hm hnb ha hb hab (N+1) 0 1 (fun _=>a) (fun _=>-1) (fun s=>if s=a.toNat then true else false) (by omega) (by omega)
    ⟨by omega,rfl,fun s hs=>ha,fun s s' h1 h2=>by omega,fun s h1 h2=>by omega⟩ (fun x hx=>by
      show (if x=a.toNat then true else false)=true↔∃ s,s<1∧a=x
      by_cases e:x=a.toNat
      · rw [if_pos e];exact ⟨fun _=>⟨0,by omega,by omega⟩,fun _=>rfl⟩
      · rw [if_neg e];exact ⟨(fun h=>by cases h),(fun ⟨s,h1,h2⟩=>by omega)⟩) (fun s h1 h2=>by omega) (fun i' j' h=>by omega)
  refine ⟨H',res,?_,hmv⟩
  refine csZ Tryz.func377 (fun c hc=>?_)
  have lp0:∀ d i,i+d=N→zR c 377 zf59 (SF0 g nb N m F T Q a b i) (Post c H' res):=by
    intro d
    induction d with
    | zero =>
      intro i hi
      obtain rfl:i=N:=by omega
      have hd:decide ((i:Int)<(i:Int))=false:=by simp
      refine pcD hc (qF01 g nb i m F T Q a b i) ?_ (hrun c hc)
      and_intros
      iterate 2 all_goals (first | exact zI | (intro j hj;simp [All];done) | (intro j hj;simp [hj,All];done) | (intro j hj;by_cases h:j=a.toNat<;>simp [h,cvtL,cvt,tg,tru,All]) | simp only [All])
    | succ d ih =>
      intro i hi
      have hd:decide ((i:Int)<(N:Int))=true:=by simp;omega
      refine pcD hc (qF0 g nb N m F T Q a b i) ?_ (ih (i+1) (by omega))
      and_intros
      all_goals (first | exact zI | (intro j hj;simp [All];done) | (intro j hj;by_cases h:j=i<;>simp [h,Nat.lt_succ_iff_lt_or_eq,cvtL,cvt,tg,tru,All]))
  refine pcD hc (qFz g nb N m F T Q a b) ?_ (lp0 N 0 (by omega))
  and_intros
  iterate 2 all_goals (first | exact zN | (intro i hi;simp [All]) | simp only [All])
def SH (g:Nat→T_Bar) (nb N m:Nat) (F0 T0 F T Q:Nat→Int) (a b want:Int):St :=
  ⟨[grG g nb N,pebD N m F0 T0 Q,.p (.int .i64 a),.p (.int .i64 b),.p (.int .i64 want),.pt 2 0 0 0,.pt 3 1 0 0,.p .any,.p .any,.p .any,.pt 3 2 0 0,.p .any,.pt 3 3 0 0]++List.replicate 40 anyA,
   [(0,bxG g nb N),(1,bxD N m F0 T0 Q),(2,bx0),(3,bxP N m 4),(4,iOb N F),(5,iOb m T),(6,iOb m Q)],7⟩
def SNc (g:Nat→T_Bar) (nb N k:Nat):St :=
  ⟨[.p .any,.p (.int .i64 k),.pt 2 0 0 0,.p .any,.pt 3 1 0 0,.p .any,.pt 3 2 0 0]++List.replicate 27 anyA,
   [(0,bxG g nb N),(1,bx0),(2,⟨true,3,1,fun _=>[.ar 1 3 0 0,.ar 1 4 0 0,.ar 1 5 0 0]⟩),(3,iOb 0 (fun _=>k)),(4,iOb 0 (fun _=>0)),(5,iOb 0 (fun _=>0))],6⟩
def SN0 (g:Nat→T_Bar) (nb N k i:Nat):St :=
  ⟨[.p .any,.p (.int .i64 k),.pt 2 0 0 0,.p .any,.pt 3 1 0 0,.p .any,.pt 3 2 0 0,.p (.int .i64 i)]++List.replicate 26 anyA,
   [(0,bxG g nb N),(1,bx0),(2,⟨true,3,1,fun _=>[.ar 1 3 0 i,.ar 1 4 0 0,.ar 1 5 0 0]⟩),(3,iOb i (fun _=>k)),(4,iOb 0 (fun _=>0)),(5,iOb 0 (fun _=>0))],6⟩
theorem qHz (g:Nat→T_Bar) (nb N m:Nat) (F T Q:Nat→Int) (a b want:Int) :
    zT Tryz.f341 [rg 4,rm [(1,oc (pebR N m F T Q) (pebO N m 0))] 2,.head] [grG g nb N,pebD N m F T Q,.p (.int .i64 a),.p (.int .i64 b),.p (.int .i64 want)] [0,32,64,192,160,161,162] (SH g nb N m F T F T Q a b want) =
    some (zf81,zD [(NT 0 1),zE 340 [(zf58 N F m T Q)] (zf34 N F m T Q) (.agg [.ar 1 0 0 N,.ar 1 1 0 m,.ar 1 2 0 m]),((true=true)→ (AN 1)),(AI ((↑N:Int))),(AN nb),(AP nb (bRw g)),(AN N),(AP N (fun i=>[.int .i64 (F i)])),(AN m),(AP m (fun i=>[.int .i64 (T i)])),(AP m (fun i=>[.int .i64 (Q i)])),(AI a),(AI b),(AI want),(AN 0),((([AV.p (PV.int IntKind.i64 (↑N:Int)),brL g nb].length):Nat)=2),(NL 1 1),((([inD N F,inD m T,inD m Q].length):Nat)=3),((((List.map (fun v=>AV.p (absV v)) [Value.slice none 0 0,Value.slice none 0 0,Value.slice none 0 0]).length):Nat)=3),(AN 1),(NL N N),(AA N (fun i=>[.p (.int .i64 (F i))])),(NL m m),(AA m (fun i=>[.p (.int .i64 (T i))])),(AA m (fun i=>[.p (.int .i64 (Q i))]))] [0,1,0,2,3,4,5,6,7,8,9,8,10,11,12,13,14,14,14,14,15,16,16,3,4,5,17,16,16,6,7,8,9,8,10,18,16,16,18,16,16,14,6,14,8,14,8,19,20,21,19,22,23,19,22,24]):=by kernel_rfl
theorem qHa (g:Nat→T_Bar) (nb N m:Nat) (F0 T0 F T Q F1 T1:Nat→Int) (a b want:Int) :
    zM 0 [rg 13,.dec true,rm [(4,oq [4,5,6] (pebR3 N m F T Q F1 T1 Q) (.tup [pebO N m 3,.p (.bool true)]))] 6,rg 2,.dec false,rg 2,.dec false,rg 2,.head] zf81 (SH g nb N m F0 T0 F T Q a b want) [0,1,2,3,551,552,553] 1 (SH g nb N m F0 T0 F1 T1 Q a b want) =
    some (zf81,zD [(NT 0 1),(IL 0 a),(IT a (↑N:Int)),(NT a.toNat N),(IL 0 b),(IT b (↑N:Int)),(NT b.toNat N),(ZLo (F a.toNat+F b.toNat)),(ZHi (F a.toNat+F b.toNat)),((decide (F (a.toNat+0)+F (b.toNat+0)<want))=true),(AE N),(AE m),Con Tryz.prog 377 3 (zf34 N F m T Q) [(zf94 N nb g),.agg [.ar 1 0 0 N,.ar 1 1 0 m,.ar 1 2 0 m],.p (.int .i64 a),.p (.int .i64 b)] (zf15 N F m T Q F1 T1) (.tup [.agg [.ar 1 3 0 N,.ar 1 4 0 m,.ar 1 5 0 m],.p (.bool true)]),((true=true)→ (AN 1)),((!true)=false),(AI ((↑N:Int))),(AN nb),(AP nb (bRw g)),(AN N),(AP N (fun i=>[.int .i64 (F0 i)])),(AN m),(AP m (fun i=>[.int .i64 (T0 i)])),(AP m (fun i=>[.int .i64 (Q i)])),(AI a),(AI b),(AI want),(AN 0),(AN 2),(NL 1 1),(AN 3),(AN 1),(NL N N),(AA N (fun i=>[.p (.int .i64 (F1 i))])),(NL m m),(AA m (fun i=>[.p (.int .i64 (T1 i))])),(AA m (fun i=>[.p (.int .i64 (Q i))]))] [0,1,2,3,0,4,5,6,7,8,9,0,0,10,11,11,12,0,13,14,14,0,0,13,15,16,17,18,19,20,21,20,22,23,24,25,26,26,26,26,27,28,28,15,16,17,29,28,28,18,19,20,21,20,22,29,28,28,29,28,28,26,18,26,20,26,20,30,31,32,30,33,34,30,33,35]):=by kernel_rfl
theorem qHb (g:Nat→T_Bar) (nb N m:Nat) (F0 T0 F T Q F1 T1:Nat→Int) (a b want:Int) :
    zM 0 [rg 13,.dec true,rm [(4,oq [4,5,6] (pebR N m F T Q) (.tup [pebO N m 0,.p (.bool false)]))] 6,rg 2,.dec true,rm [(4,oq [4,5,6] (pebR3 N m F T Q F1 T1 Q) (.tup [pebO N m 3,.p (.bool true)]))] 5,rg 2,.dec false,rg 2,.head] zf81 (SH g nb N m F0 T0 F T Q a b want) [0,1,2,3,967,968,969] 1 (SH g nb N m F0 T0 F1 T1 Q a b want) =
    some (zf81,zD [(NT 0 1),(IL 0 a),(IT a (↑N:Int)),(NT a.toNat N),(IL 0 b),(IT b (↑N:Int)),(NT b.toNat N),(ZLo (F a.toNat+F b.toNat)),(ZHi (F a.toNat+F b.toNat)),((decide (F (a.toNat+0)+F (b.toNat+0)<want))=true),(AE N),(AE m),Con Tryz.prog 377 3 (zf34 N F m T Q) [(zf94 N nb g),.agg [.ar 1 0 0 N,.ar 1 1 0 m,.ar 1 2 0 m],.p (.int .i64 a),.p (.int .i64 b)] (zf34 N F m T Q) ((zf103 N m)),((true=true)→ (AN 1)),((!false)=true),Con Tryz.prog 377 3 (zf34 N F m T Q) [(zf94 N nb g),.agg [.ar 1 0 0 N,.ar 1 1 0 m,.ar 1 2 0 m],.p (.int .i64 b),.p (.int .i64 a)] (zf15 N F m T Q F1 T1) (.tup [.agg [.ar 1 3 0 N,.ar 1 4 0 m,.ar 1 5 0 m],.p (.bool true)]),((!true)=false),(AI ((↑N:Int))),(AN nb),(AP nb (bRw g)),(AN N),(AP N (fun i=>[.int .i64 (F0 i)])),(AN m),(AP m (fun i=>[.int .i64 (T0 i)])),(AP m (fun i=>[.int .i64 (Q i)])),(AI a),(AI b),(AI want),(AN 0),(AN 2),(NL 1 1),(AN 3),(AN 1),(NL N N),(AA N (fun i=>[.p (.int .i64 (F1 i))])),(NL m m),(AA m (fun i=>[.p (.int .i64 (T1 i))])),(AA m (fun i=>[.p (.int .i64 (Q i))]))] [0,1,2,3,0,4,5,6,7,8,9,0,0,10,11,11,12,0,13,14,0,0,10,11,11,15,0,13,16,0,0,13,17,18,19,20,21,22,23,22,24,25,26,27,28,28,28,28,29,30,30,17,18,19,31,30,30,20,21,22,23,22,24,31,30,30,31,30,30,28,20,28,22,28,22,32,33,34,32,35,36,32,35,37]):=by kernel_rfl
theorem qHc (g:Nat→T_Bar) (nb N m:Nat) (F0 T0 F T Q:Nat→Int) (a b want:Int) :
    zP Tryz.f341 0 [rg 13,.dec true,rm [(4,oq [4,5,6] (pebR N m F T Q) (.tup [pebO N m 0,.p (.bool false)]))] 6,rg 2,.dec true,rm [(4,oq [4,5,6] (pebR N m F T Q) (.tup [pebO N m 0,.p (.bool false)]))] 5,rg 2,.dec true,rg 3] zf81 (SH g nb N m F0 T0 F T Q a b want) [4,5,6] 1 (pebR N m F T Q) (.tup [pebO N m 0,.p (.bool false)]) =
    some (zD [(NT 0 1),(IL 0 a),(IT a (↑N:Int)),(NT a.toNat N),(IL 0 b),(IT b (↑N:Int)),(NT b.toNat N),(ZLo (F a.toNat+F b.toNat)),(ZHi (F a.toNat+F b.toNat)),((decide (F (a.toNat+0)+F (b.toNat+0)<want))=true),(AE N),(AE m),Con Tryz.prog 377 3 (zf34 N F m T Q) [(zf94 N nb g),.agg [.ar 1 0 0 N,.ar 1 1 0 m,.ar 1 2 0 m],.p (.int .i64 a),.p (.int .i64 b)] (zf34 N F m T Q) ((zf103 N m)),((true=true)→ (AN 1)),((!false)=true),Con Tryz.prog 377 3 (zf34 N F m T Q) [(zf94 N nb g),.agg [.ar 1 0 0 N,.ar 1 1 0 m,.ar 1 2 0 m],.p (.int .i64 b),.p (.int .i64 a)] (zf34 N F m T Q) ((zf103 N m)),(AN 0),(AN N),(AN m),(false=false),(AN 1),(NL N N),(AA N (fun i=>[.p (.int .i64 (F i))])),(NL m m),(AA m (fun i=>[.p (.int .i64 (T i))])),(AA m (fun i=>[.p (.int .i64 (Q i))]))] [0,1,2,3,0,4,5,6,7,8,9,0,0,10,11,11,12,0,13,14,0,0,10,11,11,15,0,13,14,0,0,13,0,16,17,16,18,16,18,19,20,21,22,20,23,24,20,23,25,10,11,11]):=by kernel_rfl
theorem qHd (g:Nat→T_Bar) (nb N m:Nat) (F0 T0 F T Q:Nat→Int) (a b want:Int) :
    zP Tryz.f341 0 [rg 13,.dec false,rg 3] zf81 (SH g nb N m F0 T0 F T Q a b want) [4,5,6] 1 (pebR N m F T Q) (.tup [pebO N m 0,.p (.bool true)]) =
    some [(NT 0 1),(IL 0 a),(IT a (↑N:Int)),(NT a.toNat N),(NT 0 1),(IL 0 b),(IT b (↑N:Int)),(NT b.toNat N),(ZLo (F a.toNat+F b.toNat)),(ZHi (F a.toNat+F b.toNat)),((decide (F (a.toNat+0)+F (b.toNat+0)<want))=false),(NT 0 1),(NT 0 1),((true=true)→ (AN 1)),(NT 0 1),(AN 0),(AN N),(AN 0),(AN m),(AN 0),(AN m),(true=true),(AN 1),(NL N N),(AA N (fun i=>[.p (.int .i64 (F i))])),(AN 1),(NL m m),(AA m (fun i=>[.p (.int .i64 (T i))])),(AN 1),(NL m m),(AA m (fun i=>[.p (.int .i64 (Q i))])),(AE N),(AE m),(AE m)]:=by kernel_rfl
theorem qNy (g:Nat→T_Bar) (nb N k:Nat) :
    zT Tryz.f280 [rg 3,rg 6,.head] [grG g nb N,.p (.int .i64 k)] [0,32,224,96,128,160] (SNc g nb N k) =
    some (zf89,zD [(NT 0 1),((true=true)→ (AN 1)),(AI ((↑k:Int))),(AN 0),((([AV.p (PV.int IntKind.i64 (↑N:Int)),brL g nb].length):Nat)=2),(NL 1 1),(AI ((↑N:Int))),(AN nb),(AP nb (bRw g)),((((List.map (fun v=>AV.p (absV v)) [Value.slice none 0 0,Value.slice none 0 0,Value.slice none 0 0]).length):Nat)=3),(AN 1),(NL 0 0),(∀ i:Nat,(((i:Nat)<0)→(All []∧(([.p (.int .i64 0)]:List AV)=[.p (.int .i64 (↑k:Int))])))),(AA 0 (fun i=>[.p (.int .i64 0)]))] [0,1,2,3,3,3,4,5,5,6,7,8,9,5,5,9,5,5,3,3,3,3,3,3,10,11,12,10,11,13,10,11,13]):=by kernel_rfl
theorem qNa (g:Nat→T_Bar) (nb N k:Nat) :
    zM 0 [rm [(1,oc [] (.p (.bool true))),(3,oc [] (.p (.bool true)))] 2,.dec false,rg 1,.head] zf89 (SNc g nb N k) [0,1,2,3,4,5] 1 (SN0 g nb N k 0) =
    some (zf39,zD [(NT 0 1),zE 53 [(zf94 N nb g)] [] (.p (.bool true)),(AG (!!true)),(((!!true)=true)→ zE 167 [.p (.int .i64 (↑k:Int)),.p (.int .i64 1),.p (.int .i64 3)] [] (.p (.bool true))),(((!true)=false)→ ((!!true)=true)),((bif !true then true else !true)=false),(AI ((↑k:Int))),(AN 0),((0:Int)=(↑0:Int)),(AN 2),(NL 1 1),(AI ((↑N:Int))),(AN nb),(AP nb (bRw g)),(AN 3),(AN 1),(NL 0 0),(AA 0 (fun i=>[.p (.int .i64 (↑k:Int))])),(AA 0 (fun i=>[.p (.int .i64 0)]))] [0,1,2,3,2,4,5,6,7,7,7,8,9,10,10,11,12,13,14,10,10,14,10,10,7,7,7,7,7,7,15,16,17,15,16,18,15,16,18]):=by kernel_rfl
theorem qNl (g:Nat→T_Bar) (nb N k i:Nat) :
    zM 0 [rg 4,.dec true,rg 7,rg 3,.head] zf39 (SN0 g nb N k i) [0,1,2,262,4,5] 1 (SN0 g nb N k (i+1)) =
    some (zf39,zD [(NT 0 1),((decide ((↑i:Int)<(↑N:Int)))=true),(NL 1 1),(NL i i),(NL ((i+1)*8) 140737488355328),(NL (i+1) 9223372036854775807),((true=true)→ (AN 1)),(ZLo ((↑i:Int)+1)),(ZHi ((↑i:Int)+1)),(AI ((↑k:Int))),(AN 0),((((↑i:Int)+1):Int)=(↑(i+1):Int)),(AN 2),(AI ((↑N:Int))),(AN nb),(AP nb (bRw g)),(AN 3),(AN ((i+1))),(AN 1),(NL (i+1) (i+1)),(CV [(2,⟨true,3,1,(fun i_2=>[.ar 1 262 0 (i+1),.ar 1 4 0 0,.ar 1 5 0 0])⟩),(262,⟨false,1,(i+1),(fun i_2=>(if (i_2<i) then [.p (.int .i64 (↑k:Int))] else [.p (.int .i64 (↑k:Int))]))⟩),(230,⟨false,1,1,(fun i_2=>[.p (.int .i64 (↑k:Int))])⟩),(0,⟨true,2,1,(fun i_2=>[.p (.int .i64 (↑N:Int)),.p (.seq true 2 nb (bRw g))])⟩),(1,⟨true,3,1,(fun i_2=>[.p (.nil),.p (.nil),.p (.nil)])⟩),(4,⟨false,1,0,(fun i_2=>[.p (.int .i64 0)])⟩),(5,⟨false,1,0,(fun i_2=>[.p (.int .i64 0)])⟩)] [0,1,2,262,4,5] 1 (i+1) (fun i_1=>if (i_1<i) then [.p (.int .i64 (↑k:Int))] else [.p (.int .i64 (↑k:Int))]) (fun i_1=>[.p (.int .i64 (↑k:Int))])),(NL 0 0),(AA 0 (fun i_1=>[.p (.int .i64 0)]))] [0,1,0,2,3,4,5,0,6,7,8,9,10,10,10,11,12,2,2,13,14,15,16,2,2,16,2,2,10,17,10,10,10,10,18,19,20,18,21,22,18,21,22]):=by kernel_rfl
theorem qNe (g:Nat→T_Bar) (nb N k i:Nat) :
    zP Tryz.f280 0 [rg 4,.dec false,rg 3] zf39 (SN0 g nb N k i) [3,4,5] 1 (pebR i 0 (fun _=>k) (fun _=>0) (fun _=>0)) (.tup [pebO i 0 0,.p (.bool true)]) =
    some (zD [(NT 0 1),((decide ((↑i:Int)<(↑N:Int)))=false),((true=true)→ (AN 1)),(AN 0),(AN i),(true=true),(AN 1),(NL i i),(AA i (fun i_1=>[.p (.int .i64 (↑k:Int))])),(NL 0 0),(AA 0 (fun i_1=>[.p (.int .i64 0)])),(AE i),(AE 0)] [0,1,0,0,2,0,3,4,3,3,3,3,5,6,7,8,6,9,10,6,9,10,11,12,12]):=by kernel_rfl
theorem con_l4Gather {N k nb m l:Nat} {g:Nat→T_Bar} {F0 T0 Q:Nat→Int} {a b:Int} (hp0:PInv N k nb m g F0 T0 Q) (hk:k≤1048576) (hN:N≤1048576) (hm:m≤1048576) (hnb:nb≤1048576)
    (ha:0≤a∧a<N) (hb:0≤b∧b<N) (hab:a≠b):∃ F' T' r,zE 341 [grG g nb N,pebD N m F0 T0 Q,.p (.int .i64 a),.p (.int .i64 b),.p (.int .i64 ((l:Int)+1))] (pebR N m F' T' Q) (.tup [pebO N m 0,.p (.bool r)]) ∧
      PInv N k nb m g F' T' Q∧(r=true→(l:Int)+1≤F' a.toNat+F' b.toNat)∧(r=false→¬ Mat.Sparse N k l (plL g Q m++[(a.toNat,b.toNat)])):=by
  have lp:∀ d F T,PInv N k nb m g F T Q→(l:Int)+1≤F a.toNat+F b.toNat+(d:Nat)→∃ F' T' r,(∀ c,c.n=0→zR c 341 zf81 (SH g nb N m F0 T0 F T Q a b ((l:Int)+1)) (Post c (pebR N m F' T' Q) (.tup [pebO N m 0,.p (.bool r)]))) ∧
      PInv N k nb m g F' T' Q∧(r=true→(l:Int)+1≤F' a.toNat+F' b.toNat)∧(r=false→¬ Mat.Sparse N k l (plL g Q m++[(a.toNat,b.toNat)])):=by
    intro d
    induction d with
    | zero =>
      intro F T hp hw
      have hd:decide (F a.toNat+F b.toNat<(l:Int)+1)=false:=by simp;omega
      have l1:=hp.le (v:=a.toNat) (by omega)
      have l2:=hp.le (v:=b.toNat) (by omega)
      refine ⟨F,T,true,fun c hc=>?_,hp,(fun _=>by omega),(fun h=>by cases h)⟩
      refine pkZ Tryz.func341 hc (qHd g nb N m F0 T0 F T Q a b ((l:Int)+1)) ?_
      and_intros
      all_goals (first | exact zI | (exact hd) | (intro i hi;simp [All]))
    | succ d ih =>
      intro F T hp hw
      have l1:=hp.le (v:=a.toNat) (by omega)
      have l2:=hp.le (v:=b.toNat) (by omega)
      by_cases hs:F a.toNat+F b.toNat<(l:Int)+1
      · have hd:decide (F a.toNat+F b.toNat<(l:Int)+1)=true:=by simp;omega
        obtain ⟨H1,r1,hc1,hf1⟩:=con_l4Find hp hk hN hm hnb ha hb hab
        cases hf1 with
        | yes F1 T1 hm1 =>
          obtain ⟨y1,y2⟩:=hm1.yes rfl
          obtain ⟨F',T',r,hrun,h1,h2,h3⟩:=ih F1 T1 hm1.inv (by omega)
          refine ⟨F',T',r,fun c hc=>?_,h1,h2,h3⟩
          refine pcD hc (qHa g nb N m F0 T0 F T Q F1 T1 a b ((l:Int)+1)) ?_ (hrun c hc)
          and_intros
          all_goals (first | exact zI | (exact hd) | (exact hc1) | (intro i hi;simp [All]))
        | no hm1 =>
          obtain ⟨H2,r2,hc2,hf2⟩:=con_l4Find hp hk hN hm hnb hb ha (Ne.symm hab)
          cases hf2 with
          | yes F2 T2 hm2 =>
            obtain ⟨y1,y2⟩:=hm2.yes rfl
            obtain ⟨F',T',r,hrun,h1,h2,h3⟩:=ih F2 T2 hm2.inv (by omega)
            refine ⟨F',T',r,fun c hc=>?_,h1,h2,h3⟩
            refine pcD hc (qHb g nb N m F0 T0 F T Q F2 T2 a b ((l:Int)+1)) ?_ (hrun c hc)
            and_intros
            all_goals (first | exact zI | (exact hd) | (exact hc1) | (exact hc2) | (intro i hi;simp [All]))
          | no hm2 =>
            refine ⟨F,T,false,fun c hc=>?_,hp,(fun h=>by cases h),fun _=>gather_no hp ha hb hab (by omega) hm1 hm2⟩
            refine pkD Tryz.func341 hc (qHc g nb N m F0 T0 F T Q a b ((l:Int)+1)) ?_
            and_intros
            all_goals (first | exact zI | (exact hd) | (exact hc1) | (exact hc2) | (intro i hi;simp [All]))
      · have hd:decide (F a.toNat+F b.toNat<(l:Int)+1)=false:=by simp;omega
        refine ⟨F,T,true,fun c hc=>?_,hp,(fun _=>by omega),(fun h=>by cases h)⟩
        refine pkZ Tryz.func341 hc (qHd g nb N m F0 T0 F T Q a b ((l:Int)+1)) ?_
        and_intros
        all_goals (first | exact zI | (exact hd) | (intro i hi;simp [All]))
  have l1:=hp0.le (v:=a.toNat) (by omega)
  have l2:=hp0.le (v:=b.toNat) (by omega)
  obtain ⟨F',T',r,hrun,h⟩:=lp (l+1) F0 T0 hp0 (by omega)
  refine ⟨F',T',r,?_,h⟩
  have hcc:=con_l4Copy N m F0 T0 Q hN hm
  refine csZ Tryz.func341 (fun c hc=>?_)
  refine pcD hc (qHz g nb N m F0 T0 Q a b ((l:Int)+1)) ?_ (hrun c hc)
  and_intros
  all_goals (first | exact zI | (exact hcc) | (intro i hi;simp [All]))
theorem run_new {g:Nat→T_Bar} {nb N k:Nat} (hN:N≤1048576) (hk:1≤k∧k≤3) (hg:isGraphF ((N:Int),(nb,g),())=true) (hnb:nb≤1048576) (c:Cx) (hc:c.n=0) {items:List Item} (hit:items=zf89) :
    zR c 280 items (SNc g nb N k) (Post c (pebR N 0 (fun _=>k) (fun _=>0) (fun _=>0)) (.tup [pebO N 0 0,.p (.bool true)])):=by
  subst hit
  have hsm:smS s_Graph ((N:Int),(nb,g),()):=⟨by simp [smS,smL],⟨hnb,fun i hi=>by simp [smS,smL]⟩,True.intro⟩
  have hcg:=con_IsGraph_s ((N:Int),(nb,g),()) hsm
  rw [hg] at hcg
  have hci:=con_l1In k 1 3
  rw [show inB k 1 3=true by simp [inB];omega] at hci
  have lp0:∀ d i,i+d=N→zR c 280 zf39 (SN0 g nb N k i) (Post c (pebR N 0 (fun _=>k) (fun _=>0) (fun _=>0)) (.tup [pebO N 0 0,.p (.bool true)])):=by
    intro d
    induction d with
    | zero =>
      intro i hi
      obtain rfl:i=N:=by omega
      have hd:decide ((i:Int)<(i:Int))=false:=by simp
      refine pkD Tryz.func280 hc (qNe g nb i k i) ?_
      and_intros
      all_goals (first | exact zI | (intro i hi;simp [All]))
    | succ d ih =>
      intro i hi
      have hd:decide ((i:Int)<(N:Int))=true:=by simp;omega
      refine pcD hc (qNl g nb N k i) ?_ (ih (i+1) (by omega))
      and_intros
      all_goals (first | exact zI | (intro j hj;simp [All];done) | (intro j hj;by_cases h:j<i<;>simp [h,cvtL,cvt,tg,tru,All]))
  refine pcD hc (qNa g nb N k) ?_ (lp0 N 0 (by omega))
  and_intros
  all_goals (first | exact zH | (exact hcg) | (intros;exact hci) | (intro i hi;simp [All]))
theorem con_NewPebbles {N k nb:Nat} {g:Nat→T_Bar} (hN:N≤1048576) (hk:1≤k∧k≤3) (hg:isGraphF ((N:Int),(nb,g),())=true) (hnb:nb≤1048576) :
    zE 280 [grG g nb N,.p (.int .i64 k)] (pebR N 0 (fun _=>k) (fun _=>0) (fun _=>0)) (.tup [pebO N 0 0,.p (.bool true)]):=by
  refine csZ Tryz.func280 (fun c hc=>?_)
  refine pcD hc (qNy g nb N k) ?_ (run_new hN hk hg hnb c hc rfl)
  and_intros
  iterate 2 all_goals (first | exact zI | (intro i hi;simp [All]) | simp only [All])
def OkBars (N nb:Nat) (g:Nat→T_Bar):Prop:=∀ e,e<nb→0≤(g e).1∧(g e).1<(g e).2.1∧(g e).2.1<N
theorem goodB_in (N:Int) (g:Nat→T_Bar):∀ n,goodB N g n=true→∀ e,e<n→badB N g e=false
  | 0,_,e,he=>by omega
  | n+1,h,e,he=>by
    simp only [goodB,Bool.and_eq_true,Bool.not_eq_true'] at h
    by_cases h':e=n
    · subst h';exact h.2
    · exact goodB_in N g n h.1 e (by omega)
theorem graph_in {N nb:Nat} {g:Nat→T_Bar} (h:isGraphF ((N:Int),(nb,g),())=true):(1≤N∧N≤8)∧nb≤24∧OkBars N nb g:=by
  unfold isGraphF at h
  split at h
  case isFalse=>cases h
  rename_i hc
  obtain ⟨h1,h2⟩:=hc
  simp only [inB,Bool.and_eq_true,decide_eq_true_eq] at h1
  refine ⟨by omega,h2,fun e he=>?_⟩
  have hb:=goodB_in (N:Int) g nb h e he
  unfold badB at hb
  by_cases a1:(g e).1<0
  · simp [a1] at hb
  by_cases a2:(g e).1≥(g e).2.1
  · simp [a2] at hb
  by_cases a3:(g e).2.1≥(N:Int)
  · simp [a3] at hb
  omega
theorem graph_cases (v:T_Graph) (h:isGraphF v=true):∃ (N nb:Nat) (g:Nat→T_Bar),v=((N:Int),(nb,g),()):=by
  obtain ⟨v1,⟨nb,g⟩,⟨⟩⟩:=v
  have h1:0≤v1:=by
    unfold isGraphF at h
    split at h
    · rename_i hc
      have:=hc.1
      simp [inB] at this
      omega
    · cases h
  exact ⟨v1.toNat,nb,g,by rw [Int.toNat_of_nonneg h1]⟩
theorem aft_or (a b:T_Bar):aft a b=true↔a.1<b.1∨(a.1=b.1∧a.2.1≤b.2.1):=by
  unfold aft
  by_cases h1:a.1<b.1
  · simp [h1]
  · by_cases h2:a.1=b.1
    · simp [h2]
    · have:(a.1==b.1)=false:=beq_eq_false_iff_ne.2 h2
      simp [h1,h2]
def AscB (n:Nat) (h:Nat→T_Bar):Prop:=∀ s,s+1<n→aft (h s) (h (s+1))=true
theorem isG_of {N nb:Nat} {g:Nat→T_Bar} (hN:1≤N∧N≤8) (hnb:nb≤24) (hok:OkBars N nb g) (ha:AscB nb g):isGraphF ((N:Int),(nb,g),())=true:=by
  have hgood:∀ k,k≤nb→goodB (N:Int) g k=true:=by
    intro k
    induction k with
    | zero=>intro _;rfl
    | succ k ih =>
      intro hk
      rw [goodB,ih (by omega),Bool.true_and,Bool.not_eq_true']
      have hb:=hok k (by omega)
      have a1:decide ((g k).1<0)=false:=decide_eq_false (by omega)
      have a2:decide ((g k).1≥(g k).2.1)=false:=decide_eq_false (by omega)
      have a3:decide ((g k).2.1≥(N:Int))=false:=decide_eq_false (by omega)
      unfold badB
      rw [a1,a2,a3]
      simp only [cond_false]
      by_cases h0:k=0
      · subst h0;rfl
      · have:=ha (k - 1) (by omega)
        rw [show k - 1+1=k by omega] at this
        rw [show ((k:Int) - 1).toNat=k - 1 by omega,this]
        cases decide ((k:Int)>0)<;>rfl
  have hin:inB (N:Int) 1 8=true:=by simp [inB];omega
  rw [isGraphF,if_pos ⟨hin,hnb⟩]
  exact hgood nb (Nat.le_refl _)
theorem bad_parts {N:Int} {g:Nat→T_Bar} {k:Nat} (h:badB N g k=false):0≤(g k).1∧(g k).1<(g k).2.1∧(g k).2.1<N∧(0<k→aft (g (k - 1)) (g k)=true):=by
  unfold badB at h
  by_cases h1:(g k).1<0
  · rw [decide_eq_true h1] at h;cases h
  by_cases h2:(g k).1≥(g k).2.1
  · rw [decide_eq_false h1,decide_eq_true h2] at h;cases h
  by_cases h3:(g k).2.1≥N
  · rw [decide_eq_false h1,decide_eq_false h2,decide_eq_true h3] at h;cases h
  rw [decide_eq_false h1,decide_eq_false h2,decide_eq_false h3] at h
  refine ⟨by omega,by omega,by omega,fun hk=>?_⟩
  rw [decide_eq_true (show (k:Int)>0 by omega)] at h
  rw [show ((k:Int) - 1).toNat=k - 1 by omega] at h
  simpa using h
theorem asc_of {N nb:Nat} {g:Nat→T_Bar} (hg:isGraphF ((N:Int),(nb,g),())=true):AscB nb g:=by
  have h:=(graph_inR hg).2.2.2
  intro s hs
  have:=(bad_parts (goodB_in (N:Int) g nb h (s+1) hs)).2.2.2 (by omega)
  rwa [show s+1 - 1=s by omega] at this
theorem aft_trans {a b c:T_Bar} (h1:aft a b=true) (h2:aft b c=true):aft a c=true:=by
  rw [aft_or] at *
  omega
theorem asc_steps {n:Nat} {g:Nat→T_Bar} (h:AscB n g):∀ d i,i+(d+1)<n→aft (g i) (g (i+(d+1)))=true
  | 0,i,hi=>h i hi
  | d+1,i,hi=>aft_trans (asc_steps h d i (by omega)) (h (i+(d+1)) (by omega))
theorem asc_lt {n:Nat} {g:Nat→T_Bar} (h:AscB n g) {i j:Nat} (hij:i<j) (hj:j<n):aft (g i) (g j)=true:=by
  have:=asc_steps h (j - i - 1) i (by omega)
  rwa [show i+(j - i - 1+1)=j by omega] at this
def hasV (x:T_Bar) (v:Int):Bool:=bif x.1==v then true else x.2.1==v
def nrD (g:Nat→T_Bar) (v:Int):Nat→T_IntS
  | 0=>(0,fun _=>0)
  | k+1=>if hasV (g k) v=true then ((nrD g v k).1+1,fun s=>if s<(nrD g v k).1 then (nrD g v k).2 s else othF (g k) v) else nrD g v k
def drD (g:Nat→T_Bar) (v:Int):Nat→NB
  | 0=>zNB
  | k+1=>if hasV (g k) v=true then drD g v k else sn (drD g v k) (g k)
theorem nrD_n (g:Nat→T_Bar) (v:Int):∀ k,(nrD g v k).1+(drD g v k).1=k
  | 0=>rfl
  | k+1=>by
    have:=nrD_n g v k
    simp only [nrD,drD]
    split
    · show (nrD g v k).1+1+_=_;omega
    · simp only [sn];omega
theorem hasV_iff (x:T_Bar) (v:Int):hasV x v=true↔x.1=v∨x.2.1=v:=by
  unfold hasV
  by_cases h:x.1=v
  · have e:(x.1==v)=true:=beq_iff_eq.2 h
    simp [e,h]
  · have e:(x.1==v)=false:=beq_eq_false_iff_ne.2 h
    simp [e,h]
end Go.Proofs.YtkkjoghiigiokaaGreat.Mach
namespace Go.Proofs
open Go Go.Shelf Go.RowKit Go.Lib Go.Sort
set_option linter.unusedVariables false
set_option linter.unusedSimpArgs false
shelf_lay_g SlLaysM.n5 Slgm 5 at Tryz 276 as Tryz.sortInt
end Go.Proofs
namespace Go.Proofs.YtkkjoghiigiokaaGreat.Mach
open Go Go.Shelf Go.RowKit Go.Lib Go.Sort
set_option linter.unusedVariables false
set_option linter.unusedSimpArgs false
open Go
def ST0 (N m:Nat) (F T Q:Nat→Int) (x:Int) (i:Nat):St :=
  ⟨[pebD N m F T Q,.p (.int .i64 x),.pt 3 0 0 0,.p .any,.p .any,.p (.int .i64 (tcI T i x)),.p (.int .i64 i)]++List.replicate 17 anyA,[(0,bxD N m F T Q)],1⟩
def SI0 (g:Nat→T_Bar) (nb N k m:Nat) (F T Q:Nat→Int) (i:Nat):St :=
  ⟨[grG g nb N,.p (.int .i64 k),pebD N m F T Q,.pt 2 0 0 0,.p .any,.pt 3 1 0 0,.p .any,.p (.int .i64 i)]++List.replicate 115 anyA,[(0,bxG g nb N),(1,bxD N m F T Q)],2⟩
def SI1 (g:Nat→T_Bar) (nb N k m:Nat) (F T Q:Nat→Int) (i:Nat):St :=
  ⟨[grG g nb N,.p (.int .i64 k),pebD N m F T Q,.pt 2 0 0 0,.p .any,.pt 3 1 0 0,.p .any,.p .any,.p .any,.p (.int .i64 i)]++List.replicate 113 anyA,[(0,bxG g nb N),(1,bxD N m F T Q)],2⟩
def SRu (g:Nat→T_Bar) (nb N k l m:Nat) (F T Q:Nat→Int) (i:Nat):St :=
  ⟨[grG g nb N,.p (.int .i64 k),.p (.int .i64 l),.pt 2 0 0 0,.p .any,.p .any,.pt 3 1 0 0,.p .any,.pt 3 2 0 0,.p .any,.p (.int .i64 i)]++List.replicate 32 anyA,
   [(0,bxG g nb N),(1,bx0),(2,bxP N m 3),(3,iOb N F),(4,iOb m T),(5,iOb m Q)],6⟩
def badI (g:Nat→T_Bar) (nb:Nat) (T Q:Nat→Int) (i:Nat):Bool :=
  bif bif bif decide (Q i<0) then true else decide (Q i≥(nb:Int)) then true else bif decide ((i:Int)>0) then decide (Q ((i:Int) - 1).toNat≥Q i) else false then true
    else bif T i != (g (Q i).toNat).1 then T i != (g (Q i).toNat).2.1 else false
theorem nRi (k l:Nat) :
    zS Tryz.f189 [rg 1,rm [(1,oc [] (.p (.bool true))),(5,oc [] (.p (.bool true)))] 2] [.p (.int .i64 k),.p (.int .i64 l)] [] [] (.p (.bool true)) =
    some (zD [zE 179 [.p (.int .i64 (↑k:Int)),.p (.int .i64 1),.p (.int .i64 3)] [] (.p (.bool true)),(AG true),((true=true)→(ZLo (2*(↑k:Int)))),((true=true)→(ZHi (2*(↑k:Int)))),((true=true)→(ZLo (2*(↑k:Int) - 1))),((true=true)→(ZHi (2*(↑k:Int) - 1))),((true=true)→ zE 179 [.p (.int .i64 (↑l:Int)),.p (.int .i64 0),.p (.int .i64 (2*(↑k:Int) - 1))] [] (.p (.bool true))),((bif true then true else false)=true)] [0,1,2,3,1,4,5,1,1,6,1,7]):=by kernel_rfl
theorem nRs (k l:Nat) :
    zS Tryz.f176 [rg 1,rm [(1,oc [] (.p (.bool true)))] 11] [.p (.int .i64 k),.p (.int .i64 l)] [] [] (.p (.bool true)) =
    some (zD [zE 167 [.p (.int .i64 (↑k:Int)),.p (.int .i64 1),.p (.int .i64 3)] [] (.p (.bool true)),(AG true),(AG (bif true then decide ((↑l:Int)≥0) else false)),(((bif true then decide ((↑l:Int)≥0) else false)=true)→(ZLo (2*(↑k:Int)))),(((bif true then decide ((↑l:Int)≥0) else false)=true)→(ZHi (2*(↑k:Int)))),((bif bif true then decide ((↑l:Int)≥0) else false then decide ((↑l:Int)<2*(↑k:Int)) else false)=true)] [0,1,1,2,3,4,2,2,2,5]):=by kernel_rfl
theorem nUi (g:Nat→T_Bar) (nb N k l m:Nat) (F T Q:Nat→Int) :
    zS Tryz.f185 [rg 3,rm [(1,oc [] (.p (.bool true))),(4,oc [] (.p (.bool true)))] 2,.dec false,rm [(6,oc (pebR N m F T Q) (pebO N m 0))] 2] [grG g nb N,.p (.int .i64 k),.p (.int .i64 l)] [576,577,578] (pebR N m F T Q) (.tup [pebO N m 0,.p (.bool true)]) =
    some (zD [(NT 0 1),zE 62 [(zf94 N nb g)] [] (.p (.bool true)),(AG (!!true)),(((!!true)=true)→ zE 189 [.p (.int .i64 (↑k:Int)),.p (.int .i64 (↑l:Int))] [] (.p (.bool true))),(((!true)=false)→ ((!!true)=true)),((bif !true then true else !true)=false),zE 293 [.p (.int .i64 (↑N:Int)),.p (.seq true 2 nb (bRw g)),.p (.int .i64 (↑k:Int)),.p (.int .i64 (↑l:Int))] (zf34 N F m T Q) (.agg [.ar 1 0 0 N,.ar 1 1 0 m,.ar 1 2 0 m]),((true=true)→ (AN 1)),(AN 0),(AN N),(AN m),(true=true),(AN 1),(NL N N),(AA N (fun i=>[.p (.int .i64 (F i))])),(NL m m),(AA m (fun i=>[.p (.int .i64 (T i))])),(AA m (fun i=>[.p (.int .i64 (Q i))])),(AE N),(AE m)] [0,1,2,2,3,2,4,5,0,0,6,0,7,0,8,9,8,10,8,10,11,12,13,14,12,15,16,12,15,17,18,19,19]):=by kernel_rfl
theorem nKi (g:Nat→T_Bar) (nb N k l m:Nat) (F T Q:Nat→Int) :
    zS Tryz.f288 [rg 2,rm [(3,oc (pebR N m F T Q) (.tup [pebO N m 0,.p (.bool true)]))] 6,rg 2,.dec false,rg 4] [grG g nb N,.p (.int .i64 k),.p (.int .i64 l)] [] [] (.p (.int .i64 m)) =
    some [(NT 0 1),zE 185 [(zf94 N nb g),.p (.int .i64 (↑k:Int)),.p (.int .i64 (↑l:Int))] (zf34 N F m T Q) ((zf104 N m)),(NT 0 1),((true=true)→ (AN 1)),((!true)=false),(NT 0 1),(AI ((↑m:Int)))]:=by kernel_rfl
theorem nKs (g:Nat→T_Bar) (nb N k l m:Nat) (F T Q:Nat→Int) :
    zS Tryz.f282 [rg 2,rm [(3,oc (pebR N m F T Q) (.tup [pebO N m 0,.p (.bool true)]))] 6,rg 2,.dec false,rg 4] [grG g nb N,.p (.int .i64 k),.p (.int .i64 l)] [] [] (.p (.int .i64 m)) =
    some [(NT 0 1),zE 169 [(zf94 N nb g),.p (.int .i64 (↑k:Int)),.p (.int .i64 (↑l:Int))] (zf34 N F m T Q) ((zf104 N m)),(NT 0 1),((true=true)→ (AN 1)),((!true)=false),(NT 0 1),(AI ((↑m:Int)))]:=by kernel_rfl
theorem nTz (N m:Nat) (F T Q:Nat→Int) (x:Int) :
    zT Tryz.f376 [rg 2,rg 1,rg 1,.head] [pebD N m F T Q,.p (.int .i64 x)] [0] (ST0 N m F T Q x 0) =
    some (zf60,zD [(AN N),(AP N (fun i=>[.int .i64 (F i)])),(AN m),(AP m (fun i=>[.int .i64 (T i)])),(AP m (fun i=>[.int .i64 (Q i)])),(AI x),(AN 0),((0:Int)=(tcI T 0 x)),((0:Int)=(↑0:Int)),((([inD N F,inD m T,inD m Q].length):Nat)=3),(NL 1 1)] [0,1,2,3,2,4,5,6,7,8,9,10,10,0,1,2,3,2,4]):=by kernel_rfl
theorem nTt (N m:Nat) (F T Q:Nat→Int) (x:Int) (i:Nat) :
    zM 0 [rg 5,.dec true,rg 7,.dec true,rg 3,rg 3,.head] zf60 (ST0 N m F T Q x i) [0] 1 (ST0 N m F T Q x (i+1)) =
    some (zf60,zD [(NT 0 1),((decide ((↑i:Int)<(↑m:Int)))=true),(IL 0 (↑i:Int)),(IT (↑i:Int) (↑m:Int)),((T i==x)=true),(ZLo (tcI T i x+1)),(ZHi (tcI T i x+1)),(ZLo ((↑i:Int)+1)),(ZHi ((↑i:Int)+1)),(AN N),(AP N (fun i_1=>[.int .i64 (F i_1)])),(AN m),(AP m (fun i_1=>[.int .i64 (T i_1)])),(AP m (fun i_1=>[.int .i64 (Q i_1)])),(AI x),(AN 0),(((tcI T i x+1):Int)=(tcI T (i+1) x)),((((↑i:Int)+1):Int)=(↑(i+1):Int)),(AN 3),(NL 1 1)] [0,1,0,2,3,4,5,6,7,8,9,10,11,12,11,13,14,15,16,17,18,19,19,9,10,11,12,11,13]):=by kernel_rfl
theorem nTf (N m:Nat) (F T Q:Nat→Int) (x:Int) (i:Nat) :
    zM 0 [rg 5,.dec true,rg 7,.dec false,rg 3,.head] zf60 (ST0 N m F T Q x i) [0] 1 (ST0 N m F T Q x (i+1)) =
    some (zf60,zD [(NT 0 1),((decide ((↑i:Int)<(↑m:Int)))=true),(IL 0 (↑i:Int)),(IT (↑i:Int) (↑m:Int)),((T i==x)=false),(ZLo ((↑i:Int)+1)),(ZHi ((↑i:Int)+1)),(AN N),(AP N (fun i_1=>[.int .i64 (F i_1)])),(AN m),(AP m (fun i_1=>[.int .i64 (T i_1)])),(AP m (fun i_1=>[.int .i64 (Q i_1)])),(AI x),(AN 0),(((tcI T i x):Int)=(tcI T (i+1) x)),((((↑i:Int)+1):Int)=(↑(i+1):Int)),(AN 3),(NL 1 1)] [0,1,0,2,3,4,5,6,7,8,9,10,9,11,12,13,14,15,16,17,17,7,8,9,10,9,11]):=by kernel_rfl
theorem nTe (N m:Nat) (F T Q:Nat→Int) (x:Int) (i:Nat) :
    zP Tryz.f376 0 [rg 5,.dec false,rg 2] zf60 (ST0 N m F T Q x i) [] 1 [] (.p (.int .i64 (tcI T i x))) =
    some [(NT 0 1),((decide ((↑i:Int)<(↑m:Int)))=false),(AI ((tcI T i x)))]:=by kernel_rfl
theorem nJz (g:Nat→T_Bar) (nb N k m:Nat) (F T Q:Nat→Int) :
    zT Tryz.f339 [rg 3,rm [(1,oc [] (.p (.bool true))),(3,oc [] (.p (.bool true)))] 19,.dec false,rg 1,.head] [grG g nb N,.p (.int .i64 k),pebD N m F T Q] [0,32] (SI0 g nb N k m F T Q 0) =
    some (zf61,zD [(NT 0 1),zE 53 [(zf94 N nb g)] [] (.p (.bool true)),(AG (!!true)),(((!!true)=true)→ zE 167 [.p (.int .i64 (↑k:Int)),.p (.int .i64 1),.p (.int .i64 3)] [] (.p (.bool true))),(((!true)=false)→ ((!!true)=true)),(AG (!bif !true then true else !true)),(((!bif !true then true else !true)=true)→(NT 0 1)),(((bif !true then true else !true)=false)→ ((!bif !true then true else !true)=true)),(AG (!bif bif !true then true else !true then true else (↑N:Int) != (↑N:Int))),(((!bif bif !true then true else !true then true else (↑N:Int) != (↑N:Int))=true)→(NT 0 1)),(((bif bif !true then true else !true then true else (↑N:Int) != (↑N:Int))=false)→ ((!bif bif !true then true else !true then true else (↑N:Int) != (↑N:Int))=true)),((bif bif bif !true then true else !true then true else (↑N:Int) != (↑N:Int) then true else (↑m:Int) != (↑m:Int))=false),(AI ((↑N:Int))),(AN nb),(AP nb (bRw g)),(AI ((↑k:Int))),(AN N),(AP N (fun i=>[.int .i64 (F i)])),(AN m),(AP m (fun i=>[.int .i64 (T i)])),(AP m (fun i=>[.int .i64 (Q i)])),(AN 0),((0:Int)=(↑0:Int)),((([AV.p (PV.int IntKind.i64 (↑N:Int)),brL g nb].length):Nat)=2),(NL 1 1),((([inD N F,inD m T,inD m Q].length):Nat)=3)] [0,1,2,3,2,4,5,6,5,5,6,5,5,7,8,9,8,8,9,8,8,8,10,11,12,13,14,15,16,17,18,19,18,20,21,21,22,23,24,24,12,13,14,25,24,24,16,17,18,19,18,20]):=by kernel_rfl
theorem nI0 (g:Nat→T_Bar) (nb N k m:Nat) (F T Q:Nat→Int) (i:Nat) :
    zM 0 [rg 5,.dec true,rg 6,rg 51,.dec false,rg 3,.head] zf61 (SI0 g nb N k m F T Q i) [0,1] 1 (SI0 g nb N k m F T Q (i+1)) =
    some (zf61,zD [(NT 0 1),((decide ((↑i:Int)<(↑m:Int)))=true),(IL 0 (↑i:Int)),(IT (↑i:Int) (↑m:Int)),(AG (!decide (Q (↑i:Int).toNat<0))),(((!decide (Q (↑i:Int).toNat<0))=true)→(NT 0 1)),(((decide (Q (↑i:Int).toNat<0))=false)→ ((!decide (Q (↑i:Int).toNat<0))=true)),(AG (!bif decide (Q (↑i:Int).toNat<0) then true else decide (Q (↑i:Int).toNat≥(↑nb:Int)))),(AG ((!bif decide (Q (↑i:Int).toNat<0) then true else decide (Q (↑i:Int).toNat≥(↑nb:Int)))&&decide ((↑i:Int)>0))),((((!bif decide (Q (↑i:Int).toNat<0) then true else decide (Q (↑i:Int).toNat≥(↑nb:Int)))&&decide ((↑i:Int)>0))=true)→(NT 0 1)),((((!bif decide (Q (↑i:Int).toNat<0) then true else decide (Q (↑i:Int).toNat≥(↑nb:Int)))&&decide ((↑i:Int)>0))=true)→(ZLo ((↑i:Int) - 1))),((((!bif decide (Q (↑i:Int).toNat<0) then true else decide (Q (↑i:Int).toNat≥(↑nb:Int)))&&decide ((↑i:Int)>0))=true)→(ZHi ((↑i:Int) - 1))),((((!bif decide (Q (↑i:Int).toNat<0) then true else decide (Q (↑i:Int).toNat≥(↑nb:Int)))&&decide ((↑i:Int)>0))=true)→(IL 0 ((↑i:Int) - 1))),((((!bif decide (Q (↑i:Int).toNat<0) then true else decide (Q (↑i:Int).toNat≥(↑nb:Int)))&&decide ((↑i:Int)>0))=true)→(IT ((↑i:Int) - 1) (↑m:Int))),(((!bif decide (Q (↑i:Int).toNat<0) then true else decide (Q (↑i:Int).toNat≥(↑nb:Int)))=true)→(((decide ((↑i:Int)>0))=true)→ (((!bif decide (Q (↑i:Int).toNat<0) then true else decide (Q (↑i:Int).toNat≥(↑nb:Int)))&&decide ((↑i:Int)>0))=true))),(((bif decide (Q (↑i:Int).toNat<0) then true else decide (Q (↑i:Int).toNat≥(↑nb:Int)))=false)→ ((!bif decide (Q (↑i:Int).toNat<0) then true else decide (Q (↑i:Int).toNat≥(↑nb:Int)))=true)),(AG (!bif bif decide (Q (↑i:Int).toNat<0) then true else decide (Q (↑i:Int).toNat≥(↑nb:Int)) then true else bif decide ((↑i:Int)>0) then decide (Q ((↑i:Int) - 1).toNat≥Q (↑i:Int).toNat) else false)),(((!bif bif decide (Q (↑i:Int).toNat<0) then true else decide (Q (↑i:Int).toNat≥(↑nb:Int)) then true else bif decide ((↑i:Int)>0) then decide (Q ((↑i:Int) - 1).toNat≥Q (↑i:Int).toNat) else false)=true)→(NT 0 1)),(((!bif bif decide (Q (↑i:Int).toNat<0) then true else decide (Q (↑i:Int).toNat≥(↑nb:Int)) then true else bif decide ((↑i:Int)>0) then decide (Q ((↑i:Int) - 1).toNat≥Q (↑i:Int).toNat) else false)=true)→(IL 0 (↑i:Int))),(((!bif bif decide (Q (↑i:Int).toNat<0) then true else decide (Q (↑i:Int).toNat≥(↑nb:Int)) then true else bif decide ((↑i:Int)>0) then decide (Q ((↑i:Int) - 1).toNat≥Q (↑i:Int).toNat) else false)=true)→(IT (↑i:Int) (↑m:Int))),(((!bif bif decide (Q (↑i:Int).toNat<0) then true else decide (Q (↑i:Int).toNat≥(↑nb:Int)) then true else bif decide ((↑i:Int)>0) then decide (Q ((↑i:Int) - 1).toNat≥Q (↑i:Int).toNat) else false)=true)→(IL 0 (Q i))),(((!bif bif decide (Q (↑i:Int).toNat<0) then true else decide (Q (↑i:Int).toNat≥(↑nb:Int)) then true else bif decide ((↑i:Int)>0) then decide (Q ((↑i:Int) - 1).toNat≥Q (↑i:Int).toNat) else false)=true)→(IT (Q i) (↑nb:Int))),(AG ((!bif bif decide (Q (↑i:Int).toNat<0) then true else decide (Q (↑i:Int).toNat≥(↑nb:Int)) then true else bif decide ((↑i:Int)>0) then decide (Q ((↑i:Int) - 1).toNat≥Q (↑i:Int).toNat) else false)&&T i != (g (Q i).toNat).1)),((((!bif bif decide (Q (↑i:Int).toNat<0) then true else decide (Q (↑i:Int).toNat≥(↑nb:Int)) then true else bif decide ((↑i:Int)>0) then decide (Q ((↑i:Int) - 1).toNat≥Q (↑i:Int).toNat) else false)&&T i != (g (Q i).toNat).1)=true)→(NT 0 1)),((((!bif bif decide (Q (↑i:Int).toNat<0) then true else decide (Q (↑i:Int).toNat≥(↑nb:Int)) then true else bif decide ((↑i:Int)>0) then decide (Q ((↑i:Int) - 1).toNat≥Q (↑i:Int).toNat) else false)&&T i != (g (Q i).toNat).1)=true)→(IL 0 (↑i:Int))),((((!bif bif decide (Q (↑i:Int).toNat<0) then true else decide (Q (↑i:Int).toNat≥(↑nb:Int)) then true else bif decide ((↑i:Int)>0) then decide (Q ((↑i:Int) - 1).toNat≥Q (↑i:Int).toNat) else false)&&T i != (g (Q i).toNat).1)=true)→(IT (↑i:Int) (↑m:Int))),((((!bif bif decide (Q (↑i:Int).toNat<0) then true else decide (Q (↑i:Int).toNat≥(↑nb:Int)) then true else bif decide ((↑i:Int)>0) then decide (Q ((↑i:Int) - 1).toNat≥Q (↑i:Int).toNat) else false)&&T i != (g (Q i).toNat).1)=true)→(IL 0 (Q i))),((((!bif bif decide (Q (↑i:Int).toNat<0) then true else decide (Q (↑i:Int).toNat≥(↑nb:Int)) then true else bif decide ((↑i:Int)>0) then decide (Q ((↑i:Int) - 1).toNat≥Q (↑i:Int).toNat) else false)&&T i != (g (Q i).toNat).1)=true)→(IT (Q i) (↑nb:Int))),(((!bif bif decide (Q (↑i:Int).toNat<0) then true else decide (Q (↑i:Int).toNat≥(↑nb:Int)) then true else bif decide ((↑i:Int)>0) then decide (Q ((↑i:Int) - 1).toNat≥Q (↑i:Int).toNat) else false)=true)→(((T i != (g (Q i).toNat).1)=true)→ (((!bif bif decide (Q (↑i:Int).toNat<0) then true else decide (Q (↑i:Int).toNat≥(↑nb:Int)) then true else bif decide ((↑i:Int)>0) then decide (Q ((↑i:Int) - 1).toNat≥Q (↑i:Int).toNat) else false)&&T i != (g (Q i).toNat).1)=true))),(((bif bif decide (Q (↑i:Int).toNat<0) then true else decide (Q (↑i:Int).toNat≥(↑nb:Int)) then true else bif decide ((↑i:Int)>0) then decide (Q ((↑i:Int) - 1).toNat≥Q (↑i:Int).toNat) else false)=false)→ ((!bif bif decide (Q (↑i:Int).toNat<0) then true else decide (Q (↑i:Int).toNat≥(↑nb:Int)) then true else bif decide ((↑i:Int)>0) then decide (Q ((↑i:Int) - 1).toNat≥Q (↑i:Int).toNat) else false)=true)),((bif bif bif decide (Q (↑i:Int).toNat<0) then true else decide (Q (↑i:Int).toNat≥(↑nb:Int)) then true else bif decide ((↑i:Int)>0) then decide (Q ((↑i:Int) - 1).toNat≥Q (↑i:Int).toNat) else false then true else bif T i != (g (Q i).toNat).1 then T i != (g (Q i).toNat).2.1 else false)=false),(ZLo ((↑i:Int)+1)),(ZHi ((↑i:Int)+1)),(AI ((↑N:Int))),(AN nb),(AP nb (bRw g)),(AI ((↑k:Int))),(AN N),(AP N (fun i_1=>[.int .i64 (F i_1)])),(AN m),(AP m (fun i_1=>[.int .i64 (T i_1)])),(AP m (fun i_1=>[.int .i64 (Q i_1)])),(AN 0),((((↑i:Int)+1):Int)=(↑(i+1):Int)),(AN 2),(NL 1 1),(AN 3)] [0,1,0,2,3,4,5,4,4,4,6,7,7,8,9,8,10,11,8,8,12,13,8,8,8,7,14,15,16,17,16,16,18,19,16,16,17,16,16,20,21,16,16,16,16,16,22,23,22,22,24,25,22,22,23,22,22,26,27,22,22,22,22,16,28,29,30,31,32,33,34,35,36,37,38,39,40,39,41,42,42,43,44,45,45,33,34,35,46,45,45,37,38,39,40,39,41]):=by kernel_rfl
theorem nI01 (g:Nat→T_Bar) (nb N k m:Nat) (F T Q:Nat→Int) (i:Nat) :
    zM 0 [rg 5,.dec false,rg 1,.head] zf61 (SI0 g nb N k m F T Q i) [0,1] 1 (SI1 g nb N k m F T Q 0) =
    some (zf40,zD [(NT 0 1),((decide ((↑i:Int)<(↑m:Int)))=false),(AI ((↑N:Int))),(AN nb),(AP nb (bRw g)),(AI ((↑k:Int))),(AN N),(AP N (fun i_1=>[.int .i64 (F i_1)])),(AN m),(AP m (fun i_1=>[.int .i64 (T i_1)])),(AP m (fun i_1=>[.int .i64 (Q i_1)])),(AN 0),((0:Int)=(↑0:Int)),(AN 2),(NL 1 1),(AN 3)] [0,1,2,3,4,5,6,7,8,9,8,10,11,11,12,13,14,14,2,3,4,15,14,14,6,7,8,9,8,10]):=by kernel_rfl
theorem nI1 (g:Nat→T_Bar) (nb N k m:Nat) (F T Q:Nat→Int) (i:Nat) :
    zM 0 [rg 4,.dec true,rm [(14,oc [] (.p (.int .i64 (tcI T m i))))] 4,.dec false,rg 3,.head] zf40 (SI1 g nb N k m F T Q i) [0,1] 1 (SI1 g nb N k m F T Q (i+1)) =
    some (zf40,zD [(NT 0 1),((decide ((↑i:Int)<(↑N:Int)))=true),(IL 0 (↑i:Int)),(IT (↑i:Int) (↑N:Int)),(AG (!decide (F (↑i:Int).toNat<0))),(((!decide (F (↑i:Int).toNat<0))=true)→(NT 0 1)),(((!decide (F (↑i:Int).toNat<0))=true)→(IL 0 (↑i:Int))),(((!decide (F (↑i:Int).toNat<0))=true)→(IT (↑i:Int) (↑N:Int))),(((!decide (F (↑i:Int).toNat<0))=true)→ zE 376 [.agg [.p (.seq true 1 N (fun i_1=>[.int .i64 (F i_1)])),.p (.seq true 1 m (fun i_1=>[.int .i64 (T i_1)])),.p (.seq true 1 m (fun i_1=>[.int .i64 (Q i_1)]))],.p (.int .i64 (↑i:Int))] [] (.p (.int .i64 (tcI T m (↑i:Int))))),(((!decide (F (↑i:Int).toNat<0))=true)→(ZLo (F i+tcI T m (↑i:Int)))),(((!decide (F (↑i:Int).toNat<0))=true)→(ZHi (F i+tcI T m (↑i:Int)))),(((decide (F (↑i:Int).toNat<0))=false)→ ((!decide (F (↑i:Int).toNat<0))=true)),((bif decide (F (↑i:Int).toNat<0) then true else F i+tcI T m (↑i:Int) != (↑k:Int))=false),(ZLo ((↑i:Int)+1)),(ZHi ((↑i:Int)+1)),(AI ((↑N:Int))),(AN nb),(AP nb (bRw g)),(AI ((↑k:Int))),(AN N),(AP N (fun i_1=>[.int .i64 (F i_1)])),(AN m),(AP m (fun i_1=>[.int .i64 (T i_1)])),(AP m (fun i_1=>[.int .i64 (Q i_1)])),(AN 0),((((↑i:Int)+1):Int)=(↑(i+1):Int)),(AN 2),(NL 1 1),(AN 3)] [0,1,0,2,3,4,5,4,4,6,7,4,5,4,4,8,4,4,9,10,4,4,11,12,13,14,15,16,17,18,19,20,21,22,21,23,24,24,25,26,27,27,15,16,17,28,27,27,19,20,21,22,21,23]):=by kernel_rfl
theorem nJe (g:Nat→T_Bar) (nb N k m:Nat) (F T Q:Nat→Int) (i:Nat) :
    zP Tryz.f339 0 [rg 4,.dec false,rg 1] zf40 (SI1 g nb N k m F T Q i) [] 1 [] (.p (.bool true)) =
    some [(NT 0 1),((decide ((↑i:Int)<(↑N:Int)))=false),(true=true)]:=by kernel_rfl
theorem nPf (g:Nat→T_Bar) (nb N k l m e:Nat) (F T Q F1 T1:Nat→Int) :
    zS Tryz.f281 [rg 4,rm [(3,oc [] (.p (.bool true))),(4,oc [] (.p (.bool true)))] 31,.dec false,rg 7,rm [(8,oc (pebR N m F1 T1 Q) (.tup [pebO N m 0,.p (.bool false)]))] 6,rg 2,.dec true,rm [(1,oc (pebR N m F T Q) (pebO N m 0))] 2] [grG g nb N,.p (.int .i64 k),.p (.int .i64 l),pebD N m F T Q,.p (.int .i64 e)] [2208,2209,2210] (pebR N m F T Q) (.tup [pebO N m 0,.p (.bool false)]) =
    some (zD [(NT 0 1),zE 339 [(zf94 N nb g),.p (.int .i64 (↑k:Int)),(zf58 N F m T Q)] [] (.p (.bool true)),(AG (!!true)),(((!!true)=true)→ zE 176 [.p (.int .i64 (↑k:Int)),.p (.int .i64 (↑l:Int))] [] (.p (.bool true))),(((!true)=false)→ ((!!true)=true)),(AG (!bif !true then true else !true)),(((bif !true then true else !true)=false)→ ((!bif !true then true else !true)=true)),(AG (!bif bif !true then true else !true then true else decide ((↑e:Int)<0))),(((!bif bif !true then true else !true then true else decide ((↑e:Int)<0))=true)→(NT 0 1)),(((bif bif !true then true else !true then true else decide ((↑e:Int)<0))=false)→ ((!bif bif !true then true else !true then true else decide ((↑e:Int)<0))=true)),(AG (!bif bif bif !true then true else !true then true else decide ((↑e:Int)<0) then true else decide ((↑e:Int)≥(↑nb:Int)))),(((!bif bif bif !true then true else !true then true else decide ((↑e:Int)<0) then true else decide ((↑e:Int)≥(↑nb:Int)))=true)→(NT 0 1)),(AG ((!bif bif bif !true then true else !true then true else decide ((↑e:Int)<0) then true else decide ((↑e:Int)≥(↑nb:Int)))&&decide ((↑m:Int)>0))),((((!bif bif bif !true then true else !true then true else decide ((↑e:Int)<0) then true else decide ((↑e:Int)≥(↑nb:Int)))&&decide ((↑m:Int)>0))=true)→(NT 0 1)),((((!bif bif bif !true then true else !true then true else decide ((↑e:Int)<0) then true else decide ((↑e:Int)≥(↑nb:Int)))&&decide ((↑m:Int)>0))=true)→(ZLo ((↑m:Int) - 1))),((((!bif bif bif !true then true else !true then true else decide ((↑e:Int)<0) then true else decide ((↑e:Int)≥(↑nb:Int)))&&decide ((↑m:Int)>0))=true)→(ZHi ((↑m:Int) - 1))),((((!bif bif bif !true then true else !true then true else decide ((↑e:Int)<0) then true else decide ((↑e:Int)≥(↑nb:Int)))&&decide ((↑m:Int)>0))=true)→(IL 0 ((↑m:Int) - 1))),((((!bif bif bif !true then true else !true then true else decide ((↑e:Int)<0) then true else decide ((↑e:Int)≥(↑nb:Int)))&&decide ((↑m:Int)>0))=true)→(IT ((↑m:Int) - 1) (↑m:Int))),(((!bif bif bif !true then true else !true then true else decide ((↑e:Int)<0) then true else decide ((↑e:Int)≥(↑nb:Int)))=true)→(((decide ((↑m:Int)>0))=true)→ (((!bif bif bif !true then true else !true then true else decide ((↑e:Int)<0) then true else decide ((↑e:Int)≥(↑nb:Int)))&&decide ((↑m:Int)>0))=true))),(((bif bif bif !true then true else !true then true else decide ((↑e:Int)<0) then true else decide ((↑e:Int)≥(↑nb:Int)))=false)→ ((!bif bif bif !true then true else !true then true else decide ((↑e:Int)<0) then true else decide ((↑e:Int)≥(↑nb:Int)))=true)),((bif bif bif bif !true then true else !true then true else decide ((↑e:Int)<0) then true else decide ((↑e:Int)≥(↑nb:Int)) then true else bif decide ((↑m:Int)>0) then decide (Q ((↑m:Int) - 1).toNat≥(↑e:Int)) else false)=false),(IL 0 (↑e:Int)),(IT (↑e:Int) (↑nb:Int)),((true=true)→ (AN 1)),(ZLo ((↑l:Int)+1)),(ZHi ((↑l:Int)+1)),zE 341 [(zf94 N nb g),(zf58 N F m T Q),.p (.int .i64 ((g e).1)),.p (.int .i64 ((g e).2.1)),.p (.int .i64 ((↑l:Int)+1))] (zf34 N F1 m T1 Q) ((zf103 N m)),((!false)=true),zE 340 [(zf58 N F m T Q)] (zf34 N F m T Q) (.agg [.ar 1 0 0 N,.ar 1 1 0 m,.ar 1 2 0 m]),(AN 0),(AN N),(AN m),(false=false),(AN 1),(NL N N),(AA N (fun i=>[.p (.int .i64 (F i))])),(NL m m),(AA m (fun i=>[.p (.int .i64 (T i))])),(AA m (fun i=>[.p (.int .i64 (Q i))])),(AE N),(AE m)] [0,0,1,2,2,3,2,4,5,6,7,8,7,7,7,9,10,11,10,10,10,12,13,12,13,12,12,14,15,12,12,16,17,12,12,12,10,18,19,20,0,21,22,0,23,0,0,0,0,24,25,26,0,23,27,0,28,0,23,0,29,30,29,31,29,31,32,33,34,35,33,36,37,33,36,38,39,40,40]):=by kernel_rfl
theorem nPa (g:Nat→T_Bar) (nb N k l m e:Nat) (F T Q F1 T1:Nat→Int) :
    zS Tryz.f281 [rg 4,rm [(3,oc [] (.p (.bool true))),(4,oc [] (.p (.bool true)))] 31,.dec false,rg 7,rm [(8,oc (pebR N m F1 T1 Q) (.tup [pebO N m 0,.p (.bool true)]))] 6,rg 2,.dec false,rg 3,rg 7,.dec false,rg 11,rg 7,rg 7,rg 3] [grG g nb N,.p (.int .i64 k),.p (.int .i64 l),pebD N m F T Q,.p (.int .i64 e)] [1888,2976,3200] (pebR N (m+1) (fun s=>if s=(g e).1.toNat then F1 s - 1 else F1 s) (fun s=>if s<m then T1 s else (g e).1) (fun s=>if s<m then Q s else e)) (.tup [pebO N (m+1) 0,.p (.bool true)]) =
    some (zD [(NT 0 1),zE 339 [(zf94 N nb g),.p (.int .i64 (↑k:Int)),(zf58 N F m T Q)] [] (.p (.bool true)),(AG (!!true)),(((!!true)=true)→ zE 176 [.p (.int .i64 (↑k:Int)),.p (.int .i64 (↑l:Int))] [] (.p (.bool true))),(((!true)=false)→ ((!!true)=true)),(AG (!bif !true then true else !true)),(((bif !true then true else !true)=false)→ ((!bif !true then true else !true)=true)),(AG (!bif bif !true then true else !true then true else decide ((↑e:Int)<0))),(((!bif bif !true then true else !true then true else decide ((↑e:Int)<0))=true)→(NT 0 1)),(((bif bif !true then true else !true then true else decide ((↑e:Int)<0))=false)→ ((!bif bif !true then true else !true then true else decide ((↑e:Int)<0))=true)),(AG (!bif bif bif !true then true else !true then true else decide ((↑e:Int)<0) then true else decide ((↑e:Int)≥(↑nb:Int)))),(((!bif bif bif !true then true else !true then true else decide ((↑e:Int)<0) then true else decide ((↑e:Int)≥(↑nb:Int)))=true)→(NT 0 1)),(AG ((!bif bif bif !true then true else !true then true else decide ((↑e:Int)<0) then true else decide ((↑e:Int)≥(↑nb:Int)))&&decide ((↑m:Int)>0))),((((!bif bif bif !true then true else !true then true else decide ((↑e:Int)<0) then true else decide ((↑e:Int)≥(↑nb:Int)))&&decide ((↑m:Int)>0))=true)→(NT 0 1)),((((!bif bif bif !true then true else !true then true else decide ((↑e:Int)<0) then true else decide ((↑e:Int)≥(↑nb:Int)))&&decide ((↑m:Int)>0))=true)→(ZLo ((↑m:Int) - 1))),((((!bif bif bif !true then true else !true then true else decide ((↑e:Int)<0) then true else decide ((↑e:Int)≥(↑nb:Int)))&&decide ((↑m:Int)>0))=true)→(ZHi ((↑m:Int) - 1))),((((!bif bif bif !true then true else !true then true else decide ((↑e:Int)<0) then true else decide ((↑e:Int)≥(↑nb:Int)))&&decide ((↑m:Int)>0))=true)→(IL 0 ((↑m:Int) - 1))),((((!bif bif bif !true then true else !true then true else decide ((↑e:Int)<0) then true else decide ((↑e:Int)≥(↑nb:Int)))&&decide ((↑m:Int)>0))=true)→(IT ((↑m:Int) - 1) (↑m:Int))),(((!bif bif bif !true then true else !true then true else decide ((↑e:Int)<0) then true else decide ((↑e:Int)≥(↑nb:Int)))=true)→(((decide ((↑m:Int)>0))=true)→ (((!bif bif bif !true then true else !true then true else decide ((↑e:Int)<0) then true else decide ((↑e:Int)≥(↑nb:Int)))&&decide ((↑m:Int)>0))=true))),(((bif bif bif !true then true else !true then true else decide ((↑e:Int)<0) then true else decide ((↑e:Int)≥(↑nb:Int)))=false)→ ((!bif bif bif !true then true else !true then true else decide ((↑e:Int)<0) then true else decide ((↑e:Int)≥(↑nb:Int)))=true)),((bif bif bif bif !true then true else !true then true else decide ((↑e:Int)<0) then true else decide ((↑e:Int)≥(↑nb:Int)) then true else bif decide ((↑m:Int)>0) then decide (Q ((↑m:Int) - 1).toNat≥(↑e:Int)) else false)=false),(IL 0 (↑e:Int)),(IT (↑e:Int) (↑nb:Int)),((true=true)→ (AN 1)),(ZLo ((↑l:Int)+1)),(ZHi ((↑l:Int)+1)),zE 341 [(zf94 N nb g),(zf58 N F m T Q),.p (.int .i64 ((g e).1)),.p (.int .i64 ((g e).2.1)),.p (.int .i64 ((↑l:Int)+1))] (zf34 N F1 m T1 Q) ((zf104 N m)),((!true)=false),(IL 0 ((g e).1)),(IT ((g e).1) (↑N:Int)),(NT ((g e).1.toNat) N),((F1 (g e).1.toNat==0)=false),(ZLo (F1 (g e).1.toNat - 1)),(ZHi (F1 (g e).1.toNat - 1)),((false=true)→ ((N:Nat)=1)),(NL 1 1),(NL m m),(NL ((m+1)*8) 140737488355328),(NL (m+1) 9223372036854775807),(AN 0),(AN N),(AN ((m+1))),(true=true),(AN 1),(NL N N),(CV [(64,⟨true,3,1,(fun i_1=>[.ar 1 1888 0 N,.ar 1 2976 0 (m+1),.ar 1 3200 0 (m+1)])⟩),(2016,⟨true,3,1,(fun i_1=>[.ar 1 1888 0 N,.ar 1 2976 0 (m+1),.ar 1 3200 0 (m+1)])⟩),(3200,⟨false,1,(m+1),(fun i_1=>(if (i_1<m) then [.p (.int .i64 (Q i_1))] else [.p (.int .i64 (↑e:Int))]))⟩),(3168,⟨false,1,1,(fun i_1=>[.p (.int .i64 (↑e:Int))])⟩),(2976,⟨false,1,(m+1),(fun i_1=>(if (i_1<m) then [.p (.int .i64 (T1 i_1))] else [.p (.int .i64 ((g e).1))]))⟩),(2944,⟨false,1,1,(fun i_1=>[.p (.int .i64 ((g e).1))])⟩),(1888,⟨false,1,N,(fun i_1=>(if (i_1=(g e).1.toNat) then [.p (.int .i64 (F1 (g e).1.toNat - 1))] else [.p (.int .i64 (F1 i_1))]))⟩),(1568,⟨true,2,1,(fun i_1=>[.p (.int .i64 ((g e).1)),.p (.int .i64 ((g e).2.1))])⟩),(32,⟨true,3,1,(fun i_1=>[.p (.seq true 1 N (fun i_2=>[.int .i64 (F i_2)])),.p (.seq true 1 m (fun i_2=>[.int .i64 (T i_2)])),.p (.seq true 1 m (fun i_2=>[.int .i64 (Q i_2)]))])⟩),(0,⟨true,2,1,(fun i_1=>[.p (.int .i64 (↑N:Int)),.p (.seq true 2 nb (bRw g))])⟩)] [1888,2976,3200] 1 N (fun i=>if (i=(g e).1.toNat) then [.p (.int .i64 (F1 (g e).1.toNat - 1))] else [.p (.int .i64 (F1 i))]) (fun i=>[.p (.int .i64 (if i=(g e).1.toNat then F1 i - 1 else F1 i))])),(NL (m+1) (m+1)),(CV [(64,⟨true,3,1,(fun i_1=>[.ar 1 1888 0 N,.ar 1 2976 0 (m+1),.ar 1 3200 0 (m+1)])⟩),(2016,⟨true,3,1,(fun i_1=>[.ar 1 1888 0 N,.ar 1 2976 0 (m+1),.ar 1 3200 0 (m+1)])⟩),(3200,⟨false,1,(m+1),(fun i_1=>(if (i_1<m) then [.p (.int .i64 (Q i_1))] else [.p (.int .i64 (↑e:Int))]))⟩),(3168,⟨false,1,1,(fun i_1=>[.p (.int .i64 (↑e:Int))])⟩),(2976,⟨false,1,(m+1),(fun i_1=>(if (i_1<m) then [.p (.int .i64 (T1 i_1))] else [.p (.int .i64 ((g e).1))]))⟩),(2944,⟨false,1,1,(fun i_1=>[.p (.int .i64 ((g e).1))])⟩),(1888,⟨false,1,N,(fun i_1=>(if (i_1=(g e).1.toNat) then [.p (.int .i64 (F1 (g e).1.toNat - 1))] else [.p (.int .i64 (F1 i_1))]))⟩),(1568,⟨true,2,1,(fun i_1=>[.p (.int .i64 ((g e).1)),.p (.int .i64 ((g e).2.1))])⟩),(32,⟨true,3,1,(fun i_1=>[.p (.seq true 1 N (fun i_2=>[.int .i64 (F i_2)])),.p (.seq true 1 m (fun i_2=>[.int .i64 (T i_2)])),.p (.seq true 1 m (fun i_2=>[.int .i64 (Q i_2)]))])⟩),(0,⟨true,2,1,(fun i_1=>[.p (.int .i64 (↑N:Int)),.p (.seq true 2 nb (bRw g))])⟩)] [1888,2976,3200] 1 (m+1) (fun i=>if (i<m) then [.p (.int .i64 (T1 i))] else [.p (.int .i64 ((g e).1))]) (fun i=>[.p (.int .i64 (if i<m then T1 i else (g e).1))])),(CV [(64,⟨true,3,1,(fun i_1=>[.ar 1 1888 0 N,.ar 1 2976 0 (m+1),.ar 1 3200 0 (m+1)])⟩),(2016,⟨true,3,1,(fun i_1=>[.ar 1 1888 0 N,.ar 1 2976 0 (m+1),.ar 1 3200 0 (m+1)])⟩),(3200,⟨false,1,(m+1),(fun i_1=>(if (i_1<m) then [.p (.int .i64 (Q i_1))] else [.p (.int .i64 (↑e:Int))]))⟩),(3168,⟨false,1,1,(fun i_1=>[.p (.int .i64 (↑e:Int))])⟩),(2976,⟨false,1,(m+1),(fun i_1=>(if (i_1<m) then [.p (.int .i64 (T1 i_1))] else [.p (.int .i64 ((g e).1))]))⟩),(2944,⟨false,1,1,(fun i_1=>[.p (.int .i64 ((g e).1))])⟩),(1888,⟨false,1,N,(fun i_1=>(if (i_1=(g e).1.toNat) then [.p (.int .i64 (F1 (g e).1.toNat - 1))] else [.p (.int .i64 (F1 i_1))]))⟩),(1568,⟨true,2,1,(fun i_1=>[.p (.int .i64 ((g e).1)),.p (.int .i64 ((g e).2.1))])⟩),(32,⟨true,3,1,(fun i_1=>[.p (.seq true 1 N (fun i_2=>[.int .i64 (F i_2)])),.p (.seq true 1 m (fun i_2=>[.int .i64 (T i_2)])),.p (.seq true 1 m (fun i_2=>[.int .i64 (Q i_2)]))])⟩),(0,⟨true,2,1,(fun i_1=>[.p (.int .i64 (↑N:Int)),.p (.seq true 2 nb (bRw g))])⟩)] [1888,2976,3200] 1 (m+1) (fun i=>if (i<m) then [.p (.int .i64 (Q i))] else [.p (.int .i64 (↑e:Int))]) (fun i=>[.p (.int .i64 (if i<m then Q i else (↑e:Int)))])),(AE N),(AE ((m+1)))] [0,0,1,2,2,3,2,4,5,6,7,8,7,7,7,9,10,11,10,10,10,12,13,12,13,12,12,14,15,12,12,16,17,12,12,12,10,18,19,20,0,21,22,0,23,0,0,0,0,24,25,26,0,23,27,0,0,0,28,29,30,31,0,0,28,29,30,32,33,28,29,30,34,0,35,36,37,38,0,23,0,35,36,37,38,0,23,0,0,23,0,39,40,39,41,39,41,42,43,44,45,43,46,47,43,46,48,49,50,50]):=by kernel_rfl
theorem nPb (g:Nat→T_Bar) (nb N k l m e:Nat) (F T Q F1 T1:Nat→Int) :
    zS Tryz.f281 [rg 4,rm [(3,oc [] (.p (.bool true))),(4,oc [] (.p (.bool true)))] 31,.dec false,rg 7,rm [(8,oc (pebR N m F1 T1 Q) (.tup [pebO N m 0,.p (.bool true)]))] 6,rg 2,.dec false,rg 3,rg 7,.dec true,rg 3,rg 11,rg 7,rg 7,rg 3] [grG g nb N,.p (.int .i64 k),.p (.int .i64 l),pebD N m F T Q,.p (.int .i64 e)] [1888,3072,3296] (pebR N (m+1) (fun s=>if s=(g e).2.1.toNat then F1 s - 1 else F1 s) (fun s=>if s<m then T1 s else (g e).2.1) (fun s=>if s<m then Q s else e)) (.tup [pebO N (m+1) 0,.p (.bool true)]) =
    some (zD [(NT 0 1),zE 339 [(zf94 N nb g),.p (.int .i64 (↑k:Int)),(zf58 N F m T Q)] [] (.p (.bool true)),(AG (!!true)),(((!!true)=true)→ zE 176 [.p (.int .i64 (↑k:Int)),.p (.int .i64 (↑l:Int))] [] (.p (.bool true))),(((!true)=false)→ ((!!true)=true)),(AG (!bif !true then true else !true)),(((bif !true then true else !true)=false)→ ((!bif !true then true else !true)=true)),(AG (!bif bif !true then true else !true then true else decide ((↑e:Int)<0))),(((!bif bif !true then true else !true then true else decide ((↑e:Int)<0))=true)→(NT 0 1)),(((bif bif !true then true else !true then true else decide ((↑e:Int)<0))=false)→ ((!bif bif !true then true else !true then true else decide ((↑e:Int)<0))=true)),(AG (!bif bif bif !true then true else !true then true else decide ((↑e:Int)<0) then true else decide ((↑e:Int)≥(↑nb:Int)))),(((!bif bif bif !true then true else !true then true else decide ((↑e:Int)<0) then true else decide ((↑e:Int)≥(↑nb:Int)))=true)→(NT 0 1)),(AG ((!bif bif bif !true then true else !true then true else decide ((↑e:Int)<0) then true else decide ((↑e:Int)≥(↑nb:Int)))&&decide ((↑m:Int)>0))),((((!bif bif bif !true then true else !true then true else decide ((↑e:Int)<0) then true else decide ((↑e:Int)≥(↑nb:Int)))&&decide ((↑m:Int)>0))=true)→(NT 0 1)),((((!bif bif bif !true then true else !true then true else decide ((↑e:Int)<0) then true else decide ((↑e:Int)≥(↑nb:Int)))&&decide ((↑m:Int)>0))=true)→(ZLo ((↑m:Int) - 1))),((((!bif bif bif !true then true else !true then true else decide ((↑e:Int)<0) then true else decide ((↑e:Int)≥(↑nb:Int)))&&decide ((↑m:Int)>0))=true)→(ZHi ((↑m:Int) - 1))),((((!bif bif bif !true then true else !true then true else decide ((↑e:Int)<0) then true else decide ((↑e:Int)≥(↑nb:Int)))&&decide ((↑m:Int)>0))=true)→(IL 0 ((↑m:Int) - 1))),((((!bif bif bif !true then true else !true then true else decide ((↑e:Int)<0) then true else decide ((↑e:Int)≥(↑nb:Int)))&&decide ((↑m:Int)>0))=true)→(IT ((↑m:Int) - 1) (↑m:Int))),(((!bif bif bif !true then true else !true then true else decide ((↑e:Int)<0) then true else decide ((↑e:Int)≥(↑nb:Int)))=true)→(((decide ((↑m:Int)>0))=true)→ (((!bif bif bif !true then true else !true then true else decide ((↑e:Int)<0) then true else decide ((↑e:Int)≥(↑nb:Int)))&&decide ((↑m:Int)>0))=true))),(((bif bif bif !true then true else !true then true else decide ((↑e:Int)<0) then true else decide ((↑e:Int)≥(↑nb:Int)))=false)→ ((!bif bif bif !true then true else !true then true else decide ((↑e:Int)<0) then true else decide ((↑e:Int)≥(↑nb:Int)))=true)),((bif bif bif bif !true then true else !true then true else decide ((↑e:Int)<0) then true else decide ((↑e:Int)≥(↑nb:Int)) then true else bif decide ((↑m:Int)>0) then decide (Q ((↑m:Int) - 1).toNat≥(↑e:Int)) else false)=false),(IL 0 (↑e:Int)),(IT (↑e:Int) (↑nb:Int)),((true=true)→ (AN 1)),(ZLo ((↑l:Int)+1)),(ZHi ((↑l:Int)+1)),zE 341 [(zf94 N nb g),(zf58 N F m T Q),.p (.int .i64 ((g e).1)),.p (.int .i64 ((g e).2.1)),.p (.int .i64 ((↑l:Int)+1))] (zf34 N F1 m T1 Q) ((zf104 N m)),((!true)=false),(IL 0 ((g e).1)),(IT ((g e).1) (↑N:Int)),(NT ((g e).1.toNat) N),((F1 (g e).1.toNat==0)=true),(IL 0 ((g e).2.1)),(IT ((g e).2.1) (↑N:Int)),(NT ((g e).2.1.toNat) N),(ZLo (F1 (g e).2.1.toNat - 1)),(ZHi (F1 (g e).2.1.toNat - 1)),((false=true)→ ((N:Nat)=1)),(NL 1 1),(NL m m),(NL ((m+1)*8) 140737488355328),(NL (m+1) 9223372036854775807),(AN 0),(AN N),(AN ((m+1))),(true=true),(AN 1),(NL N N),(CV [(64,⟨true,3,1,(fun i_1=>[.ar 1 1888 0 N,.ar 1 3072 0 (m+1),.ar 1 3296 0 (m+1)])⟩),(2016,⟨true,3,1,(fun i_1=>[.ar 1 1888 0 N,.ar 1 3072 0 (m+1),.ar 1 3296 0 (m+1)])⟩),(3296,⟨false,1,(m+1),(fun i_1=>(if (i_1<m) then [.p (.int .i64 (Q i_1))] else [.p (.int .i64 (↑e:Int))]))⟩),(3264,⟨false,1,1,(fun i_1=>[.p (.int .i64 (↑e:Int))])⟩),(3072,⟨false,1,(m+1),(fun i_1=>(if (i_1<m) then [.p (.int .i64 (T1 i_1))] else [.p (.int .i64 ((g e).2.1))]))⟩),(3040,⟨false,1,1,(fun i_1=>[.p (.int .i64 ((g e).2.1))])⟩),(1888,⟨false,1,N,(fun i_1=>(if (i_1=(g e).2.1.toNat) then [.p (.int .i64 (F1 (g e).2.1.toNat - 1))] else [.p (.int .i64 (F1 i_1))]))⟩),(1568,⟨true,2,1,(fun i_1=>[.p (.int .i64 ((g e).1)),.p (.int .i64 ((g e).2.1))])⟩),(32,⟨true,3,1,(fun i_1=>[.p (.seq true 1 N (fun i_2=>[.int .i64 (F i_2)])),.p (.seq true 1 m (fun i_2=>[.int .i64 (T i_2)])),.p (.seq true 1 m (fun i_2=>[.int .i64 (Q i_2)]))])⟩),(0,⟨true,2,1,(fun i_1=>[.p (.int .i64 (↑N:Int)),.p (.seq true 2 nb (bRw g))])⟩)] [1888,3072,3296] 1 N (fun i=>if (i=(g e).2.1.toNat) then [.p (.int .i64 (F1 (g e).2.1.toNat - 1))] else [.p (.int .i64 (F1 i))]) (fun i=>[.p (.int .i64 (if i=(g e).2.1.toNat then F1 i - 1 else F1 i))])),(NL (m+1) (m+1)),(CV [(64,⟨true,3,1,(fun i_1=>[.ar 1 1888 0 N,.ar 1 3072 0 (m+1),.ar 1 3296 0 (m+1)])⟩),(2016,⟨true,3,1,(fun i_1=>[.ar 1 1888 0 N,.ar 1 3072 0 (m+1),.ar 1 3296 0 (m+1)])⟩),(3296,⟨false,1,(m+1),(fun i_1=>(if (i_1<m) then [.p (.int .i64 (Q i_1))] else [.p (.int .i64 (↑e:Int))]))⟩),(3264,⟨false,1,1,(fun i_1=>[.p (.int .i64 (↑e:Int))])⟩),(3072,⟨false,1,(m+1),(fun i_1=>(if (i_1<m) then [.p (.int .i64 (T1 i_1))] else [.p (.int .i64 ((g e).2.1))]))⟩),(3040,⟨false,1,1,(fun i_1=>[.p (.int .i64 ((g e).2.1))])⟩),(1888,⟨false,1,N,(fun i_1=>(if (i_1=(g e).2.1.toNat) then [.p (.int .i64 (F1 (g e).2.1.toNat - 1))] else [.p (.int .i64 (F1 i_1))]))⟩),(1568,⟨true,2,1,(fun i_1=>[.p (.int .i64 ((g e).1)),.p (.int .i64 ((g e).2.1))])⟩),(32,⟨true,3,1,(fun i_1=>[.p (.seq true 1 N (fun i_2=>[.int .i64 (F i_2)])),.p (.seq true 1 m (fun i_2=>[.int .i64 (T i_2)])),.p (.seq true 1 m (fun i_2=>[.int .i64 (Q i_2)]))])⟩),(0,⟨true,2,1,(fun i_1=>[.p (.int .i64 (↑N:Int)),.p (.seq true 2 nb (bRw g))])⟩)] [1888,3072,3296] 1 (m+1) (fun i=>if (i<m) then [.p (.int .i64 (T1 i))] else [.p (.int .i64 ((g e).2.1))]) (fun i=>[.p (.int .i64 (if i<m then T1 i else (g e).2.1))])),(CV [(64,⟨true,3,1,(fun i_1=>[.ar 1 1888 0 N,.ar 1 3072 0 (m+1),.ar 1 3296 0 (m+1)])⟩),(2016,⟨true,3,1,(fun i_1=>[.ar 1 1888 0 N,.ar 1 3072 0 (m+1),.ar 1 3296 0 (m+1)])⟩),(3296,⟨false,1,(m+1),(fun i_1=>(if (i_1<m) then [.p (.int .i64 (Q i_1))] else [.p (.int .i64 (↑e:Int))]))⟩),(3264,⟨false,1,1,(fun i_1=>[.p (.int .i64 (↑e:Int))])⟩),(3072,⟨false,1,(m+1),(fun i_1=>(if (i_1<m) then [.p (.int .i64 (T1 i_1))] else [.p (.int .i64 ((g e).2.1))]))⟩),(3040,⟨false,1,1,(fun i_1=>[.p (.int .i64 ((g e).2.1))])⟩),(1888,⟨false,1,N,(fun i_1=>(if (i_1=(g e).2.1.toNat) then [.p (.int .i64 (F1 (g e).2.1.toNat - 1))] else [.p (.int .i64 (F1 i_1))]))⟩),(1568,⟨true,2,1,(fun i_1=>[.p (.int .i64 ((g e).1)),.p (.int .i64 ((g e).2.1))])⟩),(32,⟨true,3,1,(fun i_1=>[.p (.seq true 1 N (fun i_2=>[.int .i64 (F i_2)])),.p (.seq true 1 m (fun i_2=>[.int .i64 (T i_2)])),.p (.seq true 1 m (fun i_2=>[.int .i64 (Q i_2)]))])⟩),(0,⟨true,2,1,(fun i_1=>[.p (.int .i64 (↑N:Int)),.p (.seq true 2 nb (bRw g))])⟩)] [1888,3072,3296] 1 (m+1) (fun i=>if (i<m) then [.p (.int .i64 (Q i))] else [.p (.int .i64 (↑e:Int))]) (fun i=>[.p (.int .i64 (if i<m then Q i else (↑e:Int)))])),(AE N),(AE ((m+1)))] [0,0,1,2,2,3,2,4,5,6,7,8,7,7,7,9,10,11,10,10,10,12,13,12,13,12,12,14,15,12,12,16,17,12,12,12,10,18,19,20,0,21,22,0,23,0,0,0,0,24,25,26,0,23,27,0,0,0,28,29,30,31,0,0,0,32,33,34,35,36,32,33,34,37,0,38,39,40,41,0,23,0,38,39,40,41,0,23,0,0,23,0,42,43,42,44,42,44,45,46,47,48,46,49,50,46,49,51,52,53,53]):=by kernel_rfl
theorem nUz (g:Nat→T_Bar) (nb N k l:Nat) :
    zT Tryz.f169 [rg 3,rm [(2,oc (pebR N 0 (fun _=>k) (fun _=>0) (fun _=>0)) (.tup [pebO N 0 0,.p (.bool true)]))] 6,rm [(5,oc [] (.p (.bool true)))] 2,.dec false,rg 1,.head] [grG g nb N,.p (.int .i64 k),.p (.int .i64 l)] [0,32,288,160,161,162] (SRu g nb N k l 0 (fun _=>k) (fun _=>0) (fun _=>0) 0) =
    some (zf41,zD [(NT 0 1),zE 280 [(zf94 N nb g),.p (.int .i64 (↑k:Int))] [(0,⟨false,1,N,(fun i=>[.p (.int .i64 (↑k:Int))])⟩),(1,⟨false,1,0,(fun i=>[.p (.int .i64 0)])⟩),(2,⟨false,1,0,(fun i=>[.p (.int .i64 0)])⟩)] (.tup [.agg [.ar 1 0 0 N,.ar 1 1 0 0,.ar 1 2 0 0],.p (.bool true)]),((true=true)→ (AN 1)),(AG (!!true)),(((!!true)=true)→ zE 176 [.p (.int .i64 (↑k:Int)),.p (.int .i64 (↑l:Int))] [] (.p (.bool true))),(((!true)=false)→ ((!!true)=true)),((bif !true then true else !true)=false),(AI ((↑N:Int))),(AN nb),(AP nb (bRw g)),(AI ((↑k:Int))),(AI ((↑l:Int))),(AN 0),((0:Int)=(↑0:Int)),((([AV.p (PV.int IntKind.i64 (↑N:Int)),brL g nb].length):Nat)=2),(NL 1 1),((((List.map (fun v=>AV.p (absV v)) [Value.slice none 0 0,Value.slice none 0 0,Value.slice none 0 0]).length):Nat)=3),(AN N),(AN 1),(NL N N),(AA N (fun i=>[.p (.int .i64 (↑k:Int))])),(NL 0 0),(AA 0 (fun i=>[.p (.int .i64 0)]))] [0,1,0,2,3,3,4,3,5,6,7,8,9,10,11,12,12,12,13,14,15,15,7,8,9,16,15,15,16,15,15,12,17,12,12,12,12,18,19,20,18,21,22,18,21,22]):=by kernel_rfl
theorem nUl (g:Nat→T_Bar) (nb N k l m m':Nat) (F T Q F' T' Q':Nat→Int) (i:Nat) (r:Bool) :
    zM 0 [rg 5,.dec true,rm [(5,oc (pebR N m' F' T' Q') (.tup [pebO N m' 0,.p (.bool r)]))] 4,rg 3,.head] zf41 (SRu g nb N k l m F T Q i) [0,1,2,326,327,328] 1 (SRu g nb N k l m' F' T' Q' (i+1)) =
    some (zf41,zD [(NT 0 1),((decide ((↑i:Int)<(↑nb:Int)))=true),(AN 1),(NL N N),(NL m m),zE 281 [(zf92 N nb g),.p (.int .i64 (↑k:Int)),.p (.int .i64 (↑l:Int)),.agg [.p (.seq true 1 N (fun i_1=>[.int .i64 (F i_1)])),.p (.seq true 1 m (fun i_1=>[.int .i64 (T i_1)])),.p (.seq true 1 m (fun i_1=>[.int .i64 (Q i_1)]))],.p (.int .i64 (↑i:Int))] [(0,⟨false,1,N,(fun i_1=>[.p (.int .i64 (F' i_1))])⟩),(1,⟨false,1,m',(fun i_1=>[.p (.int .i64 (T' i_1))])⟩),(2,⟨false,1,m',(fun i_1=>[.p (.int .i64 (Q' i_1))])⟩)] (.tup [.agg [.ar 1 0 0 N,.ar 1 1 0 m',.ar 1 2 0 m'],.p (.bool r)]),((true=true)→ (AN 1)),(ZLo ((↑i:Int)+1)),(ZHi ((↑i:Int)+1)),(AI ((↑N:Int))),(AN nb),(AP nb (bRw g)),(AI ((↑k:Int))),(AI ((↑l:Int))),(AN 0),((((↑i:Int)+1):Int)=(↑(i+1):Int)),(AN 2),(NL 1 1),(AN 3),(AN N),(AN (m')),(AA N (fun i_1=>[.p (.int .i64 (F' i_1))])),(NL (m') (m')),(AA (m') (fun i_1=>[.p (.int .i64 (T' i_1))])),(AA (m') (fun i_1=>[.p (.int .i64 (Q' i_1))]))] [0,1,0,0,2,3,2,4,2,4,5,0,6,7,8,9,10,11,12,13,14,14,14,15,16,17,17,9,10,11,18,17,17,18,17,17,14,19,14,20,14,20,2,3,21,2,22,23,2,22,24]):=by kernel_rfl
theorem nUe (g:Nat→T_Bar) (nb N k l m:Nat) (F T Q:Nat→Int) (i:Nat) :
    zP Tryz.f169 0 [rg 5,.dec false,rg 3] zf41 (SRu g nb N k l m F T Q i) [3,4,5] 1 (pebR N m F T Q) (.tup [pebO N m 0,.p (.bool true)]) =
    some (zD [(NT 0 1),((decide ((↑i:Int)<(↑nb:Int)))=false),((true=true)→ (AN 1)),(AN 0),(AN N),(AN m),(true=true),(AN 1),(NL N N),(AA N (fun i_1=>[.p (.int .i64 (F i_1))])),(NL m m),(AA m (fun i_1=>[.p (.int .i64 (T i_1))])),(AA m (fun i_1=>[.p (.int .i64 (Q i_1))])),(AE N),(AE m)] [0,1,0,0,2,0,3,4,3,5,3,5,6,7,8,9,7,10,11,7,10,12,13,14,14]):=by kernel_rfl
theorem con_IsRange_i (k l:Nat) (hk:1≤k∧k≤3) (hl:l+1≤2*k):zE 189 [.p (.int .i64 k),.p (.int .i64 l)] [] (.p (.bool true)):=by
  have h1:=con_within k 1 3
  rw [show inB k 1 3=true by simp [inB];omega] at h1
  have h2:=con_within l 0 (2*(k:Int) - 1)
  rw [show inB l 0 (2*(k:Int) - 1)=true by simp [inB];omega] at h2
  refine csZ Tryz.func189 (fun c hc=>?_)
  refine pkD Tryz.func189 hc (nRi k l) ?_
  and_intros
  all_goals (first | exact zI | (exact h1) | (intros;exact h2) | (intros;omega) | (simp;done))
theorem con_IsRange_s (k l:Nat) (hk:1≤k∧k≤3) (hl:l+1≤2*k):zE 176 [.p (.int .i64 k),.p (.int .i64 l)] [] (.p (.bool true)):=by
  have h1:=con_l1In k 1 3
  rw [show inB k 1 3=true by simp [inB];omega] at h1
  refine csZ Tryz.func176 (fun c hc=>?_)
  refine pkD Tryz.func176 hc (nRs k l) ?_
  and_intros
  all_goals (first | exact zI | (exact h1) | (intros;omega) | (simp;omega))
def NonN (Q:Nat→Int) (m:Nat):Prop:=∀ j,j<m→0≤Q j
theorem con_RunPebbles_i {N nb:Nat} {g:Nat→T_Bar} (hg:isGraphF ((N:Int),(nb,g),())=true) (k l:Nat) (hk:1≤k∧k≤3) (hl:l+1≤2*k) :
    ∃ m F T Q,zE 185 [grG g nb N,.p (.int .i64 k),.p (.int .i64 l)] (pebR N m F T Q) (.tup [pebO N m 0,.p (.bool true)])∧m≤24∧NonN Q m∧qL Q m=accI N k l g nb:=by
  obtain ⟨hN,hnb,hok⟩:=graph_in hg
  have hsm:smS s_Graph ((N:Int),(nb,g),()):=⟨by simp [smS,smL],⟨by show nb≤1048576;omega,fun i hi=>by simp [smS,smL]⟩,True.intro⟩
  have hcg:=con_IsGraph_i ((N:Int),(nb,g),()) hsm
  rw [hg] at hcg
  have hr:=con_IsRange_i k l hk hl
  obtain ⟨m,F,T,Q,hc1,hp,hq⟩:=con_play (N:=N) (k:=k) (l:=l) hok (by omega) (by omega) (by omega) (by omega)
  have hm:m≤24:=by
    have:=accI_len N k l g nb
    rw [← hq,qL_length] at this;omega
  refine ⟨m,F,T,Q,?_,hm,fun j hj=>(hp.q j hj).1,hq⟩
  refine csZ Tryz.func185 (fun c hc=>?_)
  refine pkD Tryz.func185 hc (nUi g nb N k l m F T Q) ?_
  and_intros
  all_goals (first | exact zH | (exact hcg) | (intros;exact hr) | (exact hc1) | (simp;done) | (intro i hi;simp [All]))
theorem con_RankOf_i {N nb:Nat} {g:Nat→T_Bar} (hg:isGraphF ((N:Int),(nb,g),())=true) (k l:Nat) (hk:1≤k∧k≤3) (hl:l+1≤2*k) :
    zE 288 [grG g nb N,.p (.int .i64 k),.p (.int .i64 l)] [] (.p (.int .i64 ((accI N k l g nb).length:Nat))):=by
  obtain ⟨m,F,T,Q,hrun,hm,hn,hq⟩:=con_RunPebbles_i hg k l hk hl
  rw [← hq,qL_length]
  refine csZ Tryz.func288 (fun c hc=>?_)
  refine pkZ Tryz.func288 hc (nKi g nb N k l m F T Q) ?_
  and_intros
  all_goals (first | exact zI | (exact hrun) | (simp;done) | (intro i hi;simp [All]))
theorem con_l4Tail (N m:Nat) (F T Q:Nat→Int) (x:Int) (hm:m≤1048576):zE 376 [pebD N m F T Q,.p (.int .i64 x)] [] (.p (.int .i64 (tcI T m x))):=by
  have hle:∀ i,0≤tcI T i x∧tcI T i x≤i:=by
    intro i
    induction i with
    | zero=>simp [tcI]
    | succ i ih=>simp only [tcI];split<;>omega
  refine csZ Tryz.func376 (fun c hc=>?_)
  have lp:∀ d i,i+d=m→zR c 376 zf60 (ST0 N m F T Q x i) (Post c [] (.p (.int .i64 (tcI T m x)))):=by
    intro d
    induction d with
    | zero =>
      intro i hi
      have hi':i=m:=by omega
      have hd:decide ((i:Int)<(m:Int))=false:=by simp;omega
      rw [show tcI T m x=tcI T i x by rw [hi']]
      refine pkZ Tryz.func376 hc (nTe N m F T Q x i) ?_
      and_intros
      all_goals (first | exact zN | (exact hd) | (simp;done))
    | succ d ih =>
      intro i hi
      have hd:decide ((i:Int)<(m:Int))=true:=by simp;omega
      have hl:=hle i
      by_cases h:T i=x
      · have hb:(T i==x)=true:=by simp [h]
        refine pcD hc (nTt N m F T Q x i) ?_ (ih (i+1) (by omega))
        and_intros
        all_goals (first | exact zN | (exact hb) | (simp only [tcI,h,if_true];done) | (simp only [tcI,h,if_true];omega) | (intro j hj;simp [All]))
      · have hb:(T i==x)=false:=by simp [h]
        refine pcD hc (nTf N m F T Q x i) ?_ (ih (i+1) (by omega))
        and_intros
        all_goals (first | exact zN | (exact hb) | (simp only [tcI,h,if_false];omega) | (intro j hj;simp [All]))
  refine pcD hc (nTz N m F T Q x) ?_ (lp m 0 (by omega))
  and_intros
  all_goals (first | exact zN | (intro j hj;simp [All]))
def Asc (Q:Nat→Int) (m:Nat):Prop:=∀ j,j+1<m→Q j<Q (j+1)
theorem badI_f {N k nb m:Nat} {g:Nat→T_Bar} {F T Q:Nat→Int} (hp:PInv N k nb m g F T Q) (ha:Asc Q m) (i:Nat) (hi:i<m):badI g nb T Q i=false:=by
  have h1:=hp.q i hi
  have h2:=hp.t i hi
  have a1:decide (Q i<0)=false:=by simp;omega
  have a2:decide (Q i≥(nb:Int))=false:=by simp;omega
  have a3:(bif decide ((i:Int)>0) then decide (Q ((i:Int) - 1).toNat≥Q i) else false)=false:=by
    by_cases h:i=0
    · subst h;rfl
    · have:=ha (i - 1) (by omega)
      have e:((i:Int) - 1).toNat=i - 1:=by omega
      rw [show i - 1+1=i by omega] at this
      rw [e]
      have h4:decide (Q (i - 1)≥Q i)=false:=by simp;omega
      rw [h4]
      cases decide ((i:Int)>0)<;>rfl
  have a4:(bif T i != (g (Q i).toNat).1 then T i != (g (Q i).toNat).2.1 else false)=false:=by
    rcases h2 with e | e
    · rw [show (T i != (g (Q i).toNat).1)=false by simp [e]];rfl
    · rw [show (T i != (g (Q i).toNat).2.1)=false by simp [e]]
      cases (T i != (g (Q i).toNat).1)<;>rfl
  unfold badI
  rw [a1,a2,a3,a4]
  rfl
theorem con_IsPebbles {N k nb m:Nat} {g:Nat→T_Bar} {F T Q:Nat→Int} (hp:PInv N k nb m g F T Q) (ha:Asc Q m) (hg:isGraphF ((N:Int),(nb,g),())=true) (hk:1≤k∧k≤3) (hm:m≤1048576) :
    zE 339 [grG g nb N,.p (.int .i64 k),pebD N m F T Q] [] (.p (.bool true)):=by
  obtain ⟨hN,hnb,hok⟩:=graph_in hg
  have hsm:smS s_Graph ((N:Int),(nb,g),()):=⟨by simp [smS,smL],⟨by show nb≤1048576;omega,fun i hi=>by simp [smS,smL]⟩,True.intro⟩
  have hcg:=con_IsGraph_s ((N:Int),(nb,g),()) hsm
  rw [hg] at hcg
  have h1:=con_l1In k 1 3
  rw [show inB k 1 3=true by simp [inB];omega] at h1
  refine csZ Tryz.func339 (fun c hc=>?_)
  have lp1:∀ d i,i+d=N→zR c 339 zf40 (SI1 g nb N k m F T Q i) (Post c [] (.p (.bool true))):=by
    intro d
    induction d with
    | zero =>
      intro i hi
      have hd:decide ((i:Int)<(N:Int))=false:=by simp;omega
      refine pkZ Tryz.func339 hc (nJe g nb N k m F T Q i) ?_
      and_intros
      all_goals (first | exact zN | (exact hd) | (simp;done))
    | succ d ih =>
      intro i hi
      have hd:decide ((i:Int)<(N:Int))=true:=by simp;omega
      have ht:=con_l4Tail N m F T Q i hm
      have hf0:=hp.f0 i (by omega)
      have hsum:=hp.sum i (by omega)
      have htn:=tcI_nonneg T i m
      have hb:(bif decide (F i<0) then true else F i+tcI T m i != (k:Int))=false:=by
        have h4:decide (F i<0)=false:=by simp;omega
        rw [h4]
        simp [hsum]
      refine pcD hc (nI1 g nb N k m F T Q i) ?_ (ih (i+1) (by omega))
      and_intros
      all_goals (first | exact zH | (intros;exact ht) | (exact hb) | (intros;omega) | (intro j hj;simp [All]))
  have lp0:∀ d i,i+d=m→zR c 339 zf61 (SI0 g nb N k m F T Q i) (Post c [] (.p (.bool true))):=by
    intro d
    induction d with
    | zero =>
      intro i hi
      have hd:decide ((i:Int)<(m:Int))=false:=by simp;omega
      refine pcD hc (nI01 g nb N k m F T Q i) ?_ (lp1 N 0 (by omega))
      and_intros
      all_goals (first | exact zN | (exact hd) | (intro j hj;simp [All]))
    | succ d ih =>
      intro i hi
      have him:i<m:=by omega
      have hd:decide ((i:Int)<(m:Int))=true:=by simp;omega
      have hbad:=badI_f hp ha i him
      have hq:=hp.q i him
      refine pcD hc (nI0 g nb N k m F T Q i) ?_ (ih (i+1) (by omega))
      and_intros
      all_goals (first | exact zH | (exact hbad) | (intros;omega) | (intro h;have:=idx_lt h him;omega) | (intro h;show (0:Int)≤Q i∧Q i<nb;omega) | (intro j hj;simp [All]))
  refine pcD hc (nJz g nb N k m F T Q) ?_ (lp0 m 0 (by omega))
  and_intros
  all_goals (first | exact zH | (exact hcg) | (intros;exact h1) | (simp;done) | (intro j hj;simp [All]))
theorem con_PlaceBar {N k nb m l e:Nat} {g:Nat→T_Bar} {F T Q:Nat→Int} (hp:PInv N k nb m g F T Q) (ha:Asc Q m) (hlt:∀ j,j<m→Q j<e) (hg:isGraphF ((N:Int),(nb,g),())=true) (hk:1≤k∧k≤3) (hl:l+1≤2*k) (hm:m≤1000) (he:e<nb)
    (hsp:Mat.Sparse N k l (plL g Q m)) :
    (∃ F' T',zE 281 [grG g nb N,.p (.int .i64 k),.p (.int .i64 l),pebD N m F T Q,.p (.int .i64 (e:Nat))] (pebR N (m+1) F' T' (fun s=>if s<m then Q s else e)) (.tup [pebO N (m+1) 0,.p (.bool true)]) ∧
      PInv N k nb (m+1) g F' T' (fun s=>if s<m then Q s else e)∧Mat.Sparse N k l (plL g Q m++[brN (g e)])) ∨
    (zE 281 [grG g nb N,.p (.int .i64 k),.p (.int .i64 l),pebD N m F T Q,.p (.int .i64 (e:Nat))] (pebR N m F T Q) (.tup [pebO N m 0,.p (.bool false)])∧¬ Mat.Sparse N k l (plL g Q m++[brN (g e)])):=by
  obtain ⟨hN,hnb,hok⟩:=graph_in hg
  have hbar:=hok e he
  have hip:=con_IsPebbles hp ha hg hk (by omega)
  have hir:=con_IsRange_s k l hk hl
  have hcc:=con_l4Copy N m F T Q (by omega) (by omega)
  have hb:(bif bif bif bif !true then true else !true then true else decide ((e:Int)<0) then true else decide ((e:Int)≥(nb:Int)) then true else bif decide ((m:Int)>0) then decide (Q ((m:Int) - 1).toNat≥(e:Int)) else false)=false:=by
    have b1:decide ((e:Int)<0)=false:=decide_eq_false (by omega)
    have b2:decide ((e:Int)≥(nb:Int))=false:=by simp;omega
    have b3:(bif decide ((m:Int)>0) then decide (Q ((m:Int) - 1).toNat≥(e:Int)) else false)=false:=by
      by_cases h:m=0
      · subst h;rfl
      · have:=hlt ((m:Int) - 1).toNat (by omega)
        have h4:decide (Q ((m:Int) - 1).toNat≥(e:Int))=false:=decide_eq_false (by omega)
        rw [h4]
        cases decide ((m:Int)>0)<;>rfl
    rw [b1,b2,b3];rfl
  obtain ⟨F1,T1,r,hc1,h1,h2,h3⟩:=con_l4Gather (l:=l) (a:=(g e).1) (b:=(g e).2.1) hp (by omega) (by omega) (by omega) (by omega) (by omega) (by omega) (by omega)
  have hlA:=h1.le (v:=(g e).1.toNat) (by omega)
  have hlB:=h1.le (v:=(g e).2.1.toNat) (by omega)
  cases r with
  | false =>
    right
    refine ⟨?_,h3 rfl⟩
    refine csZ Tryz.func281 (fun c hc=>?_)
    refine pkD Tryz.func281 hc (nPf g nb N k l m e F T Q F1 T1) ?_
    and_intros
    all_goals (first | exact zH | (exact hip) | (intros;exact hir) | (exact hb) | (exact hc1) | (exact hcc) | (simp;done) | (intro h;have:=idx_lt h (Nat.lt_succ_self m);omega) | (intro i hi;simp [All]))
  | true =>
    left
    have hw:=h2 rfl
    have hacc:Mat.Sparse N k l (plL g Q m++[brN (g e)]):=by
      have:=(h1.game l).accept (by rw [barsOf_gm];exact hsp) (g e).1.toNat (g e).2.1.toNat ⟨by show (g e).1.toNat≠(g e).2.1.toNat;omega,by show (g e).1.toNat<N;omega,by show (g e).2.1.toNat<N;omega⟩
        (by show l+1≤(F1 (g e).1.toNat).toNat+(F1 (g e).2.1.toNat).toNat;omega)
      rw [barsOf_gm] at this
      exact this
    by_cases hz:F1 (g e).1.toNat=0
    · have hzb:(F1 (g e).1.toNat==0)=true:=by simp [hz]
      refine ⟨_,_,?_,h1.placed e he (g e).2.1 (.inr rfl) (by omega),hacc⟩
      refine csZ Tryz.func281 (fun c hc=>?_)
      refine pkD Tryz.func281 hc (nPb g nb N k l m e F T Q F1 T1) ?_
      and_intros
      all_goals (first | exact zH | (exact hip) | (intros;exact hir) | (exact hb) | (exact hc1) | (exact hzb) | (simp;done) | (intro h;have:=idx_lt h (Nat.lt_succ_self m);omega) | (intro i hi;simp [All];done) | (intro i hi;by_cases h:i<m<;>simp [h,cvtL,cvt,tg,tru,All];done) | (intro i hi;by_cases h:i=(g e).2.1.toNat<;>simp [h,cvtL,cvt,tg,tru,All]))
    · have hzb:(F1 (g e).1.toNat==0)=false:=by simp [hz]
      refine ⟨_,_,?_,h1.placed e he (g e).1 (.inl rfl) (by omega),hacc⟩
      refine csZ Tryz.func281 (fun c hc=>?_)
      refine pkD Tryz.func281 hc (nPa g nb N k l m e F T Q F1 T1) ?_
      and_intros
      all_goals (first | exact zH | (exact hip) | (intros;exact hir) | (exact hb) | (exact hc1) | (exact hzb) | (simp;done) | (intro h;have:=idx_lt h (Nat.lt_succ_self m);omega) | (intro i hi;simp [All];done) | (intro i hi;by_cases h:i<m<;>simp [h,cvtL,cvt,tg,tru,All];done) | (intro i hi;by_cases h:i=(g e).1.toNat<;>simp [h,cvtL,cvt,tg,tru,All]))
theorem con_RunPebbles_s {N nb:Nat} {g:Nat→T_Bar} (hg:isGraphF ((N:Int),(nb,g),())=true) (k l:Nat) (hk:1≤k∧k≤3) (hl:l+1≤2*k) :
    ∃ m F T Q,zE 169 [grG g nb N,.p (.int .i64 k),.p (.int .i64 l)] (pebR N m F T Q) (.tup [pebO N m 0,.p (.bool true)])∧m≤24∧NonN Q m∧qL Q m=accI N k l g nb:=by
  obtain ⟨hN,hnb,hok⟩:=graph_in hg
  have hr:=con_IsRange_s k l hk hl
  have hn:=con_NewPebbles (nb:=nb) (g:=g) (N:=N) (k:=k) (by omega) hk hg (by omega)
  have lp:∀ d i m F T Q,i+d=nb→PInv N k nb m g F T Q→Asc Q m→(∀ j,j<m→Q j<(i:Nat))→qL Q m=accI N k l g i →
      ∃ m' F' T' Q',(∀ c,c.n=0→zR c 169 zf41 (SRu g nb N k l m F T Q i) (Post c (pebR N m' F' T' Q') (.tup [pebO N m' 0,.p (.bool true)])))∧NonN Q' m'∧qL Q' m'=accI N k l g nb:=by
    intro d
    induction d with
    | zero =>
      intro i m F T Q hi hp ha hlt hq
      have hi':i=nb:=by omega
      refine ⟨m,F,T,Q,fun c hc=>?_,fun j hj=>(hp.q j hj).1,by rw [hq,hi']⟩
      have hd:decide ((i:Int)<(nb:Int))=false:=by simp;omega
      refine pkD Tryz.func169 hc (nUe g nb N k l m F T Q i) ?_
      and_intros
      all_goals (first | exact zI | (exact hd) | (intro j hj;simp [All]))
    | succ d ih =>
      intro i m F T Q hi hp ha hlt hq
      have hd:decide ((i:Int)<(nb:Int))=true:=by simp;omega
      have hm:m≤24:=by
        have:=accI_len N k l g i
        rw [← hq,qL_length] at this;omega
      have hsp:Mat.Sparse N k l (plL g Q m):=by rw [plL_qL,hq];exact accI_sparse N k l g i
      rcases con_PlaceBar (e:=i) hp ha hlt hg hk hl (by omega) (by omega) hsp with ⟨F1,T1,hc1,hp1,hs1⟩ | ⟨hc1,hs1⟩
      · obtain ⟨m',F',T',Q',hrun,h2⟩:=ih (i+1) (m+1) F1 T1 _ (by omega) hp1 (fun j hj=>by
          show (if j<m then Q j else (i:Int))<(if j+1<m then Q (j+1) else (i:Int))
          rw [if_pos (show j<m by omega)]
          by_cases h:j+1<m
          · rw [if_pos h];exact ha j h
          · rw [if_neg h];exact hlt j (by omega)) (fun j hj=>by
          show (if j<m then Q j else (i:Int))<((i+1:Nat):Int)
          by_cases h:j<m
          · rw [if_pos h];have:=hlt j h;omega
          · rw [if_neg h];omega) (by
          simp only [accI]
          rw [← hq,← plL_qL,if_pos hs1]
          simp only [qL,Nat.lt_irrefl,if_false,Int.toNat_natCast]
          rw [qL_congr (Q':=Q) m (fun j hj=>by simp only [hj,if_true])])
        refine ⟨m',F',T',Q',fun c hc=>?_,h2⟩
        refine pcD hc (nUl g nb N k l m (m+1) F T Q F1 T1 (fun s=>if s<m then Q s else i) i true) ?_ (hrun c hc)
        and_intros
        all_goals (first | exact zI | (exact hd) | (exact hc1) | (intro j hj;simp [All]))
      · obtain ⟨m',F',T',Q',hrun,h2⟩:=ih (i+1) m F T Q (by omega) hp ha (fun j hj=>by have:=hlt j hj;omega) (by
          simp only [accI]
          rw [← hq,← plL_qL,if_neg hs1])
        refine ⟨m',F',T',Q',fun c hc=>?_,h2⟩
        refine pcD hc (nUl g nb N k l m m F T Q F T Q i false) ?_ (hrun c hc)
        and_intros
        all_goals (first | exact zI | (exact hd) | (exact hc1) | (intro j hj;simp [All]))
  obtain ⟨m,F,T,Q,hrun,hnn,hq⟩:=lp nb 0 0 _ _ _ (by omega) (PInv.start hok) (fun j hj=>by omega) (fun j hj=>absurd hj (Nat.not_lt_zero _)) rfl
  have hm:m≤24:=by
    have:=accI_len N k l g nb
    rw [← hq,qL_length] at this;omega
  refine ⟨m,F,T,Q,?_,hm,hnn,hq⟩
  refine csZ Tryz.func169 (fun c hc=>?_)
  refine pcD hc (nUz g nb N k l) ?_ (hrun c hc)
  and_intros
  all_goals (first | exact zH | (exact hn) | (intros;exact hr) | (simp;done) | (intro j hj;simp [All]))
theorem con_RankOf_s {N nb:Nat} {g:Nat→T_Bar} (hg:isGraphF ((N:Int),(nb,g),())=true) (k l:Nat) (hk:1≤k∧k≤3) (hl:l+1≤2*k) :
    zE 282 [grG g nb N,.p (.int .i64 k),.p (.int .i64 l)] [] (.p (.int .i64 ((accI N k l g nb).length:Nat))):=by
  obtain ⟨m,F,T,Q,hrun,hm,hn,hq⟩:=con_RunPebbles_s hg k l hk hl
  rw [← hq,qL_length]
  refine csZ Tryz.func282 (fun c hc=>?_)
  refine pkZ Tryz.func282 hc (nKs g nb N k l m F T Q) ?_
  and_intros
  all_goals (first | exact zI | (exact hrun) | (simp;done) | (intro i hi;simp [All]))
def z2:Ob:=⟨true,2,1,fun _=>[.p (.int .i64 0),.p .nil]⟩
def gbx (n:Int) (j c:Nat):Ob:=⟨true,2,1,fun _=>[.p (.int .i64 n),.ar 2 j 0 c]⟩
def maxI (n:Int):Int:=if 2*n - 3>0 then 2*n - 3 else 0
theorem eFy_s (v:T_Graph) :
    zS Tryz.f173 [rg 2,rm [(1,oc [] (.p (.bool false)))] 1,.dec true,rg 1] [graphA v] [] [] (.p (.int .i64 (-1))) =
    some [(NT 0 1),zE 53 [(zf91 v)] [] (.p (.bool false)),((!false)=true),(AI ((-1)))]:=by kernel_rfl
theorem eFz_s (g:Nat→T_Bar) (nb N r:Nat) :
    zS Tryz.f173 [rg 2,rm [(1,oc [] (.p (.bool true)))] 1,.dec false,rm [(6,oc [] (.p (.int .i64 r)))] 2] [grG g nb N] [] [] (.p (.int .i64 (maxI N - r))) =
    some [(NT 0 1),zE 53 [(zf94 N nb g)] [] (.p (.bool true)),((!true)=false),(NT 0 1),(ZLo (2*(↑N:Int))),(ZHi (2*(↑N:Int))),(ZLo (2*(↑N:Int) - 3)),(ZHi (2*(↑N:Int) - 3)),(NT 0 1),zE 282 [(zf94 N nb g),.p (.int .i64 2),.p (.int .i64 3)] [] (.p (.int .i64 (↑r:Int))),(ZLo ((if true=true then if 2*(↑N:Int) - 3>0 then 2*(↑N:Int) - 3 else 0 else if 2*(↑N:Int) - 3<0 then 2*(↑N:Int) - 3 else 0) - (↑r:Int))),(ZHi ((if true=true then if 2*(↑N:Int) - 3>0 then 2*(↑N:Int) - 3 else 0 else if 2*(↑N:Int) - 3<0 then 2*(↑N:Int) - 3 else 0) - (↑r:Int))),((((if true=true then if 2*(↑N:Int) - 3>0 then 2*(↑N:Int) - 3 else 0 else if 2*(↑N:Int) - 3<0 then 2*(↑N:Int) - 3 else 0) - (↑r:Int)):Int)=(maxI (↑N:Int) - (↑r:Int)))]:=by kernel_rfl
theorem eFy_i (v:T_Graph) :
    zS Tryz.f186 [rg 2,rm [(1,oc [] (.p (.bool false)))] 1,.dec true,rg 1] [graphA v] [] [] (.p (.int .i64 (-1))) =
    some [(NT 0 1),zE 62 [(zf91 v)] [] (.p (.bool false)),((!false)=true),(AI ((-1)))]:=by kernel_rfl
theorem eFz_i (g:Nat→T_Bar) (nb N r:Nat) :
    zS Tryz.f186 [rg 2,rm [(1,oc [] (.p (.bool true)))] 1,.dec false,rm [(6,oc [] (.p (.int .i64 r)))] 2] [grG g nb N] [] [] (.p (.int .i64 (maxI N - r))) =
    some [(NT 0 1),zE 62 [(zf94 N nb g)] [] (.p (.bool true)),((!true)=false),(NT 0 1),(ZLo (2*(↑N:Int))),(ZHi (2*(↑N:Int))),(ZLo (2*(↑N:Int) - 3)),(ZHi (2*(↑N:Int) - 3)),(NT 0 1),zE 288 [(zf94 N nb g),.p (.int .i64 2),.p (.int .i64 3)] [] (.p (.int .i64 (↑r:Int))),(ZLo ((if true=true then if 2*(↑N:Int) - 3>0 then 2*(↑N:Int) - 3 else 0 else if 2*(↑N:Int) - 3<0 then 2*(↑N:Int) - 3 else 0) - (↑r:Int))),(ZHi ((if true=true then if 2*(↑N:Int) - 3>0 then 2*(↑N:Int) - 3 else 0 else if 2*(↑N:Int) - 3<0 then 2*(↑N:Int) - 3 else 0) - (↑r:Int))),((((if true=true then if 2*(↑N:Int) - 3>0 then 2*(↑N:Int) - 3 else 0 else if 2*(↑N:Int) - 3<0 then 2*(↑N:Int) - 3 else 0) - (↑r:Int)):Int)=(maxI (↑N:Int) - (↑r:Int)))]:=by kernel_rfl
theorem eR_s (v:T_Graph) (x:Int) :
    zS Tryz.f57 [rg 2,rm [(1,oc [] (.p (.int .i64 x)))] 2] [graphA v] [] [] (.p (.bool (x==0))) =
    some [(NT 0 1),zE 173 [(zf91 v)] [] (.p (.int .i64 x)),((x==0)=(x==0))]:=by kernel_rfl
theorem eR_i (v:T_Graph) (x:Int) :
    zS Tryz.f67 [rg 2,rm [(1,oc [] (.p (.int .i64 x)))] 2] [graphA v] [] [] (.p (.bool (x==0))) =
    some [(NT 0 1),zE 186 [(zf91 v)] [] (.p (.int .i64 x)),((x==0)=(x==0))]:=by kernel_rfl
noncomputable def rkG (v:T_Graph):Nat:=(accI v.1.toNat 2 3 v.2.1.2 v.2.1.1).length
noncomputable def frGr (v:T_Graph):Int:=if isGraphF v=true then maxI v.1 - (rkG v:Int) else -1
theorem maxI_b {n:Int} (h:n≤8):0≤maxI n∧maxI n≤13:=by
  unfold maxI;split<;>omega
theorem con_FreedomOf_s (v:T_Graph) (hs:smS s_Graph v):zE 173 [graphA v] [] (.p (.int .i64 (frGr v))):=by
  have hcg:=con_IsGraph_s v hs
  cases hg:isGraphF v with
  | false =>
    rw [hg] at hcg
    rw [show frGr v = -1 by simp [frGr,hg]]
    refine csZ Tryz.func173 (fun c hc=>?_)
    refine pkZ Tryz.func173 hc (eFy_s v) ?_
    and_intros
    all_goals (first | exact zN | (intros;exact hcg) | (simp;done))
  | true =>
    rw [hg] at hcg
    obtain ⟨N,nb,g,rfl⟩:=graph_cases v hg
    obtain ⟨hN,hnb,_⟩:=graph_in hg
    have hr:=con_RankOf_s hg 2 3 (by omega) (by omega)
    have hl:=accI_len N 2 3 g nb
    have hm:=maxI_b (n:=(N:Int)) (by omega)
    rw [show frGr ((N:Int),(nb,g),())=maxI N - ((accI N 2 3 g nb).length:Nat) by simp [frGr,hg,rkG]]
    refine csZ Tryz.func173 (fun c hc=>?_)
    refine pkZ Tryz.func173 hc (eFz_s g nb N (accI N 2 3 g nb).length) ?_
    and_intros
    all_goals (first | exact zN | (intros;exact hcg) | (exact hr) | (simp only [if_true];show _≤maxI N - _;omega) | (simp only [if_true];show maxI N - _≤_;omega) | (simp;done) | (simp only [if_true];rfl))
theorem con_FreedomOf_i (v:T_Graph) (hs:smS s_Graph v):zE 186 [graphA v] [] (.p (.int .i64 (frGr v))):=by
  have hcg:=con_IsGraph_i v hs
  cases hg:isGraphF v with
  | false =>
    rw [hg] at hcg
    rw [show frGr v = -1 by simp [frGr,hg]]
    refine csZ Tryz.func186 (fun c hc=>?_)
    refine pkZ Tryz.func186 hc (eFy_i v) ?_
    and_intros
    all_goals (first | exact zN | (intros;exact hcg) | (simp;done))
  | true =>
    rw [hg] at hcg
    obtain ⟨N,nb,g,rfl⟩:=graph_cases v hg
    obtain ⟨hN,hnb,_⟩:=graph_in hg
    have hr:=con_RankOf_i hg 2 3 (by omega) (by omega)
    have hl:=accI_len N 2 3 g nb
    have hm:=maxI_b (n:=(N:Int)) (by omega)
    rw [show frGr ((N:Int),(nb,g),())=maxI N - ((accI N 2 3 g nb).length:Nat) by simp [frGr,hg,rkG]]
    refine csZ Tryz.func186 (fun c hc=>?_)
    refine pkZ Tryz.func186 hc (eFz_i g nb N (accI N 2 3 g nb).length) ?_
    and_intros
    all_goals (first | exact zN | (intros;exact hcg) | (exact hr) | (simp only [if_true];show _≤maxI N - _;omega) | (simp only [if_true];show maxI N - _≤_;omega) | (simp;done) | (simp only [if_true];rfl))
theorem con_IsRigid_s (v:T_Graph) (hs:smS s_Graph v):zE 57 [graphA v] [] (.p (.bool (frGr v==0))):=by
  have hf:=con_FreedomOf_s v hs
  refine csZ Tryz.func57 (fun c hc=>?_)
  refine pkZ Tryz.func57 hc (eR_s v _) ?_
  and_intros
  all_goals (first | exact zN | (exact hf) | (simp;done))
theorem con_IsRigid_i (v:T_Graph) (hs:smS s_Graph v):zE 67 [graphA v] [] (.p (.bool (frGr v==0))):=by
  have hf:=con_FreedomOf_i v hs
  refine csZ Tryz.func67 (fun c hc=>?_)
  refine pkZ Tryz.func67 hc (eR_i v _) ?_
  and_intros
  all_goals (first | exact zN | (exact hf) | (simp;done))
def NRs (g:Nat→T_Bar) (nb N:Nat) (v i c:Nat) (f:Nat→Int):St :=
  ⟨[grG g nb N,.p (.int .i64 v),.pt 2 0 0 0,.p .any,.p .any,.ar 1 1 0 c,.p (.int .i64 i)]++List.replicate 37 anyA,[(0,bxG g nb N),(1,iOb c f)],2⟩
theorem nrz (g:Nat→T_Bar) (nb N v:Nat) :
    zT Tryz.f283 [rg 2,rg 2,rg 1,.head] [grG g nb N,.p (.int .i64 v)] [0,64] (NRs g nb N v 0 0 (fun _=>0)) =
    some (zf62,zD [(AI ((↑N:Int))),(AN nb),(AP nb (bRw g)),(AI ((↑v:Int))),(AN 0),((0:Int)=(↑0:Int)),((([AV.p (PV.int IntKind.i64 (↑N:Int)),brL g nb].length):Nat)=2),(NL 1 1),(AN 1),(NL 0 0),(AA 0 (fun i=>[.p (.int .i64 0)]))] [0,1,2,3,4,4,4,5,6,7,7,0,1,2,8,9,10]):=by kernel_rfl
theorem nrt (g:Nat→T_Bar) (nb N v i c:Nat) (f:Nat→Int) (o:Int) :
    zM 0 [rg 5,.dec true,rg 18,.dec true,rm [(7,oc [] (.p (.int .i64 o)))] 3,rg 3,.head] zf62 (NRs g nb N v i c f) [0,1026] 1 (NRs g nb N v (i+1) (c+1) (fun s=>if s<c then f s else o)) =
    some (zf62,zD [(NT 0 1),((decide ((↑i:Int)<(↑nb:Int)))=true),(IL 0 (↑i:Int)),(IT (↑i:Int) (↑nb:Int)),(AG (!(g i).1==(↑v:Int))),(((!(g i).1==(↑v:Int))=true)→(NT 0 1)),(((!(g i).1==(↑v:Int))=true)→(IL 0 (↑i:Int))),(((!(g i).1==(↑v:Int))=true)→(IT (↑i:Int) (↑nb:Int))),((((g i).1==(↑v:Int))=false)→ ((!(g i).1==(↑v:Int))=true)),((bif (g i).1==(↑v:Int) then true else (g i).2.1==(↑v:Int))=true),zE 324 [.agg [.p (.int .i64 ((g i).1)),.p (.int .i64 ((g i).2.1))],.p (.int .i64 (↑v:Int))] [] (.p (.int .i64 o)),(NL 1 1),(NL c c),(NL ((c+1)*8) 140737488355328),(NL (c+1) 9223372036854775807),(ZLo ((↑i:Int)+1)),(ZHi ((↑i:Int)+1)),(AI ((↑N:Int))),(AN nb),(AP nb (bRw g)),(AI ((↑v:Int))),(AN 0),(AN ((c+1))),((((↑i:Int)+1):Int)=(↑(i+1):Int)),(AN 2),(AN 1),(NL (c+1) (c+1)),(CV [(1026,⟨false,1,(c+1),(fun i_2=>(if (i_2<c) then [.p (.int .i64 (f i_2))] else [.p (.int .i64 o)]))⟩),(994,⟨false,1,1,(fun i_2=>[.p (.int .i64 o)])⟩),(0,⟨true,2,1,(fun i_2=>[.p (.int .i64 (↑N:Int)),.p (.seq true 2 nb (bRw g))])⟩)] [0,1026] 1 (c+1) (fun i_1=>if (i_1<c) then [.p (.int .i64 (f i_1))] else [.p (.int .i64 o)]) (fun i_1=>[.p (.int .i64 (if i_1<c then f i_1 else o))]))] [0,1,0,2,3,4,5,4,4,6,7,4,4,4,4,8,9,0,2,3,10,11,12,13,14,15,16,17,18,19,20,21,21,22,23,24,11,11,17,18,19,25,26,27]):=by kernel_rfl
theorem nrf (g:Nat→T_Bar) (nb N v i c:Nat) (f:Nat→Int) :
    zM 0 [rg 5,.dec true,rg 18,.dec false,rg 3,.head] zf62 (NRs g nb N v i c f) [0,1] 1 (NRs g nb N v (i+1) c f) =
    some (zf62,zD [(NT 0 1),((decide ((↑i:Int)<(↑nb:Int)))=true),(IL 0 (↑i:Int)),(IT (↑i:Int) (↑nb:Int)),(AG (!(g i).1==(↑v:Int))),(((!(g i).1==(↑v:Int))=true)→(NT 0 1)),(((!(g i).1==(↑v:Int))=true)→(IL 0 (↑i:Int))),(((!(g i).1==(↑v:Int))=true)→(IT (↑i:Int) (↑nb:Int))),((((g i).1==(↑v:Int))=false)→ ((!(g i).1==(↑v:Int))=true)),((bif (g i).1==(↑v:Int) then true else (g i).2.1==(↑v:Int))=false),(ZLo ((↑i:Int)+1)),(ZHi ((↑i:Int)+1)),(AI ((↑N:Int))),(AN nb),(AP nb (bRw g)),(AI ((↑v:Int))),(AN 0),(AN c),((((↑i:Int)+1):Int)=(↑(i+1):Int)),(AN 2),(NL 1 1),(AN 1),(NL c c),(AA c (fun i_1=>[.p (.int .i64 (f i_1))]))] [0,1,0,2,3,4,5,4,4,6,7,4,4,4,4,8,9,10,11,12,13,14,15,16,16,17,18,19,20,20,12,13,14,21,22,23]):=by kernel_rfl
theorem nre (g:Nat→T_Bar) (nb N v i c:Nat) (f:Nat→Int) :
    zP Tryz.f283 0 [rg 5,.dec false,rg 2] zf62 (NRs g nb N v i c f) [1] 1 [(0,iOb c f)] (.ar 1 0 0 c) =
    some [(NT 0 1),((decide ((↑i:Int)<(↑nb:Int)))=false),(AN 0),(AN c),(AN 1),(NL c c),(AA c (fun i_1=>[.p (.int .i64 (f i_1))])),(AE c)]:=by kernel_rfl
def WBs (N:Int) (n:Nat) (h:Nat→T_Bar):St :=
  ⟨[.p .any,.p .any,.p .any,.p .any,.pt 2 0 0 0,.pt 2 1 0 0]++List.replicate 11 anyA,[(0,z2),(1,gbx N 2 n),(2,brOb n h)],3⟩
theorem whs (b:T_Bar) (p:Int) :
    zS Tryz.f222 [rg 2,rg 11] [brA b,.p (.int .i64 p)] [] [] (.p (.bool (hasV b p))) =
    some (zD [(NT 0 1),(AG (!b.1==p)),(((!b.1==p)=true)→(NT 0 1)),(((b.1==p)=false)→ ((!b.1==p)=true)),((bif b.1==p then true else b.2.1==p)=(hasV b p))] [0,1,2,1,1,3,4]):=by kernel_rfl
theorem wcp (N n:Nat) (h:Nat→T_Bar) :
    zS Tryz.f63 [rg 2,rg 8] [grG h n N] [224] [(0,brOb n h)] (.agg [.p (.int .i64 N),.ar 2 0 0 n]) =
    some [(NT 0 1),(NT 0 1),(NL 0 0),(NL ((0+n)*16) 140737488355328),(NL (0+n) 9223372036854775807),(NT 0 1),((true=true)→ (AN 1)),(NT 0 1),(AI ((↑N:Int))),(AN 0),(((0+n):Nat)=n),(AN 2),(NL n (0+n)),(AA n (fun i=>[.p (.int .i64 ((h i).1)),.p (.int .i64 ((h i).2.1))])),(AE n)]:=by kernel_rfl
theorem wba (N n:Nat) (h:Nat→T_Bar) (x:T_Bar) :
    zT Tryz.f225 [rg 2,rm [(1,oc [(0,brOb n h)] (.agg [.p (.int .i64 N),.ar 2 0 0 n]))] 2,rg 6,.head] [grG h n N,.p (.seq true 2 1 (fun _=>[.int .i64 x.1,.int .i64 x.2.1]))] [32,128,288] (WBs N (n+1) (snoc n h x)) =
    some ([.code (cAt (bodyOf Tryz.f225) [1,1,1,0]),.code (cAt (bodyOf Tryz.f225) [1,1,1,1])],zD [(NT 0 1),zE 63 [(zf94 N n h)] (zf99 n h) (.agg [.p (.int .i64 (↑N:Int)),.ar 2 0 0 n]),((true=true)→ (AN 1)),(NL n n),(NL ((n+1)*16) 140737488355328),(NL (n+1) 9223372036854775807),(AN 0),((((List.map (fun v=>AV.p (absV v)) [Value.int IntKind.i64 0,Value.slice none 0 0]).length):Nat)=2),(NL 1 1),(AI 0),(AI ((↑N:Int))),(AN ((n+1))),(AN 2),(NL (n+1) (n+1)),(CV [(128,⟨true,2,1,(fun i_1=>[.p (.int .i64 (↑N:Int)),.ar 2 288 0 (n+1)])⟩),(288,⟨false,2,(n+1),(fun i_1=>(if (i_1<n) then [.p (.int .i64 ((h i_1).1)),.p (.int .i64 ((h i_1).2.1))] else [.p (.int .i64 x.1),.p (.int .i64 x.2.1)]))⟩),(32,⟨true,2,1,(fun i_1=>[.p (.int .i64 0),.p (.nil)])⟩),(0,⟨true,2,1,(fun i_1=>[.p (.int .i64 (↑N:Int)),.p (.seq true 2 n (bRw h))])⟩)] [32,128,288] 1 (n+1) (fun i=>if (i<n) then [.p (.int .i64 ((h i).1)),.p (.int .i64 ((h i).2.1))] else [.p (.int .i64 x.1),.p (.int .i64 x.2.1)]) (fun i=>[.p (.int .i64 (if i<n then (h i).1 else x.1)),.p (.int .i64 (if i<n then (h i).2.1 else x.2.1))]))] [0,1,0,2,0,3,4,5,0,2,6,6,7,8,8,9,7,8,8,10,6,11,12,13,14]):=by kernel_rfl
theorem wbb (N n:Nat) (h r:Nat→T_Bar) :
    zP Tryz.f225 0 [rm [(2,oq [2] [(0,brOb n r)] (.tup []))] 0,rg 2] [.code (cAt (bodyOf Tryz.f225) [1,1,1,0]),.code (cAt (bodyOf Tryz.f225) [1,1,1,1])] (WBs N n h) [2] 1 [(0,brOb n r)] (.agg [.p (.int .i64 N),.ar 2 0 0 n]) =
    some [(NT 0 1),(AE n),Con Tryz.prog 312 1 (zf99 n h) [.ar 2 0 0 n,.p (.fn 180)] (zf99 n r) (.tup []),(NT 0 1),(NT 0 1),((true=true)→ (AN 1)),(NT 0 1),(AI ((↑N:Int))),(AN 0),(AN n),(AN 2),(NL n n),(AA n (fun i=>[.p (.int .i64 ((r i).1)),.p (.int .i64 ((r i).2.1))])),(AE n)]:=by kernel_rfl
theorem oth_sumV {x:T_Bar} {v:Int} (h:hasV x v=true):x.1+x.2.1 - v=othF x v:=by
  rw [hasV_iff] at h
  unfold othF
  split<;>omega
theorem con_Near {N nb:Nat} {g:Nat→T_Bar} (hok:OkBars N nb g) (hN:N≤8) (hnb:nb≤24) (v:Nat) (hv:v≤8) :
    zE 283 [grG g nb N,.p (.int .i64 v)] [(0,iOb (nrD g v nb).1 (nrD g v nb).2)] (.ar 1 0 0 (nrD g v nb).1):=by
  refine csZ Tryz.func283 (fun c hc=>?_)
  generalize hR:nrD g v nb=R
  have lo:∀ d i,i+d=nb→zR c 283 zf62 (NRs g nb N v i (nrD g v i).1 (nrD g v i).2) (Post c [(0,iOb R.1 R.2)] (.ar 1 0 0 R.1)):=by
    intro d
    induction d with
    | zero =>
      intro i hi
      obtain rfl:i=nb:=by omega
      have hd:decide ((i:Int)<(i:Int))=false:=by simp
      rw [hR]
      refine pkZ Tryz.func283 hc (nre g i N v i R.1 R.2) ?_
      and_intros
      all_goals (first | exact zN | (exact hd) | (intro t ht;simp [All]))
    | succ d ih =>
      intro i hi
      have hd:decide ((i:Int)<(nb:Int))=true:=decide_eq_true (by omega)
      have hrec:=ih (i+1) (by omega)
      have hn:=nrD_n g v i
      have hb:=hok i (by omega)
      have ho:=con_l4Other (g i) v (by omega) (by omega) (by omega)
      cases hh:hasV (g i) v with
      | true =>
        rw [oth_sumV hh] at ho
        rw [show nrD g v (i+1)=((nrD g v i).1+1,fun s=>if s<(nrD g v i).1 then (nrD g v i).2 s else othF (g i) v) by simp [nrD,hh]] at hrec
        generalize nrD g v i=q at hrec hn ⊢
        refine pcD hc (nrt g nb N v i q.1 q.2 (othF (g i) v)) ?_ hrec
        and_intros
        all_goals (first | exact zH | (exact hd) | (exact hh) | (exact ho) | (simp;done) | (simp;omega) | (intro t ht;by_cases h':t<q.1<;>(simp [h',cvtL,cvt,tg,tru,All];done)) | (intro t ht;simp [All]))
      | false =>
        rw [show nrD g v (i+1)=nrD g v i by simp [nrD,hh]] at hrec
        generalize nrD g v i=q at hrec hn ⊢
        refine pcD hc (nrf g nb N v i q.1 q.2) ?_ hrec
        and_intros
        all_goals (first | exact zH | (exact hd) | (exact hh) | (simp;done) | (simp;omega) | (intro t ht;simp [All]))
  refine pcD hc (nrz g nb N v) ?_ (lo nb 0 (by omega))
  and_intros
  all_goals (first | exact zN | (simp;done) | (intro t ht;exact absurd ht (Nat.not_lt_zero _)) | (intro t ht;simp [All]))
theorem con_hasV (b:T_Bar) (p:Int):zE 222 [brA b,.p (.int .i64 p)] [] (.p (.bool (hasV b p))):=by
  refine csZ Tryz.func222 (fun c hc=>?_)
  refine pkD Tryz.func222 hc (whs b p) ?_
  and_intros
  all_goals (first | exact zH)
theorem con_copyG (N n:Nat) (h:Nat→T_Bar) (hn:n≤1048576):zE 63 [grG h n N] [(0,brOb n h)] (.agg [.p (.int .i64 N),.ar 2 0 0 n]):=by
  refine csZ Tryz.func63 (fun c hc=>?_)
  refine pkZ Tryz.func63 hc (wcp N n h) ?_
  and_intros
  all_goals (first | exact zI | (intro j hj;simp [All];done) | (simp;try omega))
theorem con_withOne (N n:Nat) (h:Nat→T_Bar) (x:T_Bar) (hn:n≤1000):zE 225 [grG h n N,.p (.seq true 2 1 (fun _=>[.int .i64 x.1,.int .i64 x.2.1]))]
    [(0,brOb (n+1) (srtB (n+1) (snoc n h x)))] (.agg [.p (.int .i64 N),.ar 2 0 0 (n+1)]):=by
  have h1:=con_copyG N n h (by omega)
  have h2:=con_sortBars (n+1) (snoc n h x) (by omega)
  generalize srtB (n+1) (snoc n h x)=r at h2 ⊢
  refine csZ Tryz.func225 (fun c hc=>?_)
  refine pcD hc (wba N n h x) ?_ (pkZ Tryz.func225 hc (wbb N (n+1) (snoc n h x) r) ?_)
  ·
    and_intros
    all_goals (first | exact zI | (exact h1) | (intro j hj;by_cases h':j<n<;>simp [h',snoc,cvtL,cvt,tg,tru,All];done) | (intro j hj;simp [All];done) | (simp;try omega))
  ·
    and_intros
    all_goals (first | exact zH | (exact h2) | (intro j hj;simp [All];done) | (simp;try omega))
open Go Go.Sort
def hitB (x:T_Bar) (a b:Int):Bool:=bif bif x.1==a then x.2.1==b else false then true else bif x.1==b then x.2.1==a else false
def SOs (v:T_Graph) (a b:Int) (k n:Nat):St :=
  ⟨[graphA v,.p (.int .i64 a),.p (.int .i64 b),.pt 2 0 0 0,.p .any,.p .any,.p .any,.p (.int .i64 n),.p (.int .i64 k)]++List.replicate 48 anyA,[(0,boxG v)],1⟩
def SOi (v:T_Graph) (a b:Int) (k n:Nat):St :=
  ⟨[graphA v,.p (.int .i64 a),.p (.int .i64 b),.pt 2 0 0 0,.p .any,.p .any,.p .any,.p (.int .i64 n),.p .any,.p .any,.p .any,graphL v.2.1,.p (.int .i64 v.2.1.1),.p (.int .i64 k)]++List.replicate 29 anyA,[(0,boxG v)],1⟩
def SMso (v:T_Graph) (a n:Nat) (h:Nat→T_Bar):St :=
  ⟨[graphA v,.pt 2 0 0 0,.p .any,.ar 2 1 0 n,.p (.int .i64 a)]++List.replicate 32 anyA,[(0,boxG v),(1,brOb n h)],2⟩
def SMsi (v:T_Graph) (a b n:Nat) (h:Nat→T_Bar):St :=
  ⟨[graphA v,.pt 2 0 0 0,.p .any,.ar 2 1 0 n,.p (.int .i64 a),.p (.int .i64 b)]++List.replicate 31 anyA,[(0,boxG v),(1,brOb n h)],2⟩
def SMio (v:T_Graph) (a n:Nat) (h:Nat→T_Bar):St :=
  ⟨[graphA v,.pt 2 0 0 0,.p .any,.ar 2 1 0 n]++List.replicate 8 anyA++[.p (.int .i64 v.1),.p (.int .i64 a)]++List.replicate 23 anyA,[(0,boxG v),(1,brOb n h)],2⟩
def SMii (v:T_Graph) (a b n:Nat) (h:Nat→T_Bar):St :=
  ⟨[graphA v,.pt 2 0 0 0,.p .any,.ar 2 1 0 n,.p (.int .i64 a),.p (.int .i64 b)]++List.replicate 6 anyA++[.p (.int .i64 v.1),.p (.int .i64 a)]++List.replicate 23 anyA,[(0,boxG v),(1,brOb n h)],2⟩
theorem oSz (v:T_Graph) (a b:Int) :
    zT Tryz.f196 [rg 2,rg 1,rg 1,.head] [graphA v,.p (.int .i64 a),.p (.int .i64 b)] [0] (SOs v a b 0 0) =
    some (zf63,zD [(AI v.1),(AN v.2.1.1),(AP v.2.1.1 (bRw v.2.1.2)),(AI a),(AI b),(AN 0),((0:Int)=(↑0:Int)),((([AV.p (PV.int IntKind.i64 v.1),graphL v.2.1].length):Nat)=2),(NL 1 1)] [0,1,2,3,4,5,6,6,7,8,8,0,1,2]):=by kernel_rfl
theorem oSt (v:T_Graph) (a b:Int) (k n:Nat) :
    zM 0 [rg 5,.dec true,rg 38,.dec true,rg 3,rg 3,.head] zf63 (SOs v a b k n) [0] 1 (SOs v a b (k+1) (n+1)) =
    some (zf63,zD [(NT 0 1),((decide ((↑k:Int)<(↑v.2.1.1:Int)))=true),(IL 0 (↑k:Int)),(IT (↑k:Int) (↑v.2.1.1:Int)),(AG ((v.2.1.2 k).1==a)),((((v.2.1.2 k).1==a)=true)→(NT 0 1)),((((v.2.1.2 k).1==a)=true)→(IL 0 (↑k:Int))),((((v.2.1.2 k).1==a)=true)→(IT (↑k:Int) (↑v.2.1.1:Int))),(AG (!bif (v.2.1.2 k).1==a then (v.2.1.2 k).2.1==b else false)),(((!bif (v.2.1.2 k).1==a then (v.2.1.2 k).2.1==b else false)=true)→(NT 0 1)),(((!bif (v.2.1.2 k).1==a then (v.2.1.2 k).2.1==b else false)=true)→(IL 0 (↑k:Int))),(((!bif (v.2.1.2 k).1==a then (v.2.1.2 k).2.1==b else false)=true)→(IT (↑k:Int) (↑v.2.1.1:Int))),(AG ((!bif (v.2.1.2 k).1==a then (v.2.1.2 k).2.1==b else false)&&(v.2.1.2 k).1==b)),((((!bif (v.2.1.2 k).1==a then (v.2.1.2 k).2.1==b else false)&&(v.2.1.2 k).1==b)=true)→(NT 0 1)),((((!bif (v.2.1.2 k).1==a then (v.2.1.2 k).2.1==b else false)&&(v.2.1.2 k).1==b)=true)→(IL 0 (↑k:Int))),((((!bif (v.2.1.2 k).1==a then (v.2.1.2 k).2.1==b else false)&&(v.2.1.2 k).1==b)=true)→(IT (↑k:Int) (↑v.2.1.1:Int))),(((!bif (v.2.1.2 k).1==a then (v.2.1.2 k).2.1==b else false)=true)→((((v.2.1.2 k).1==b)=true)→ (((!bif (v.2.1.2 k).1==a then (v.2.1.2 k).2.1==b else false)&&(v.2.1.2 k).1==b)=true))),(((bif (v.2.1.2 k).1==a then (v.2.1.2 k).2.1==b else false)=false)→ ((!bif (v.2.1.2 k).1==a then (v.2.1.2 k).2.1==b else false)=true)),((bif bif (v.2.1.2 k).1==a then (v.2.1.2 k).2.1==b else false then true else bif (v.2.1.2 k).1==b then (v.2.1.2 k).2.1==a else false)=true),(ZLo ((↑n:Int)+1)),(ZHi ((↑n:Int)+1)),(ZLo ((↑k:Int)+1)),(ZHi ((↑k:Int)+1)),(AI v.1),(AN v.2.1.1),(AP v.2.1.1 (bRw v.2.1.2)),(AI a),(AI b),(AN 0),((((↑n:Int)+1):Int)=(↑(n+1):Int)),((((↑k:Int)+1):Int)=(↑(k+1):Int)),(AN 2),(NL 1 1)] [0,1,0,2,3,4,5,4,4,6,7,4,4,4,4,4,8,9,8,8,10,11,8,8,8,8,8,12,13,12,12,14,15,12,12,12,12,8,16,17,18,19,20,21,22,23,24,25,26,27,28,29,30,31,32,32,23,24,25]):=by kernel_rfl
theorem oSf (v:T_Graph) (a b:Int) (k n:Nat) :
    zM 0 [rg 5,.dec true,rg 38,.dec false,rg 3,.head] zf63 (SOs v a b k n) [0] 1 (SOs v a b (k+1) n) =
    some (zf63,zD [(NT 0 1),((decide ((↑k:Int)<(↑v.2.1.1:Int)))=true),(IL 0 (↑k:Int)),(IT (↑k:Int) (↑v.2.1.1:Int)),(AG ((v.2.1.2 k).1==a)),((((v.2.1.2 k).1==a)=true)→(NT 0 1)),((((v.2.1.2 k).1==a)=true)→(IL 0 (↑k:Int))),((((v.2.1.2 k).1==a)=true)→(IT (↑k:Int) (↑v.2.1.1:Int))),(AG (!bif (v.2.1.2 k).1==a then (v.2.1.2 k).2.1==b else false)),(((!bif (v.2.1.2 k).1==a then (v.2.1.2 k).2.1==b else false)=true)→(NT 0 1)),(((!bif (v.2.1.2 k).1==a then (v.2.1.2 k).2.1==b else false)=true)→(IL 0 (↑k:Int))),(((!bif (v.2.1.2 k).1==a then (v.2.1.2 k).2.1==b else false)=true)→(IT (↑k:Int) (↑v.2.1.1:Int))),(AG ((!bif (v.2.1.2 k).1==a then (v.2.1.2 k).2.1==b else false)&&(v.2.1.2 k).1==b)),((((!bif (v.2.1.2 k).1==a then (v.2.1.2 k).2.1==b else false)&&(v.2.1.2 k).1==b)=true)→(NT 0 1)),((((!bif (v.2.1.2 k).1==a then (v.2.1.2 k).2.1==b else false)&&(v.2.1.2 k).1==b)=true)→(IL 0 (↑k:Int))),((((!bif (v.2.1.2 k).1==a then (v.2.1.2 k).2.1==b else false)&&(v.2.1.2 k).1==b)=true)→(IT (↑k:Int) (↑v.2.1.1:Int))),(((!bif (v.2.1.2 k).1==a then (v.2.1.2 k).2.1==b else false)=true)→((((v.2.1.2 k).1==b)=true)→ (((!bif (v.2.1.2 k).1==a then (v.2.1.2 k).2.1==b else false)&&(v.2.1.2 k).1==b)=true))),(((bif (v.2.1.2 k).1==a then (v.2.1.2 k).2.1==b else false)=false)→ ((!bif (v.2.1.2 k).1==a then (v.2.1.2 k).2.1==b else false)=true)),((bif bif (v.2.1.2 k).1==a then (v.2.1.2 k).2.1==b else false then true else bif (v.2.1.2 k).1==b then (v.2.1.2 k).2.1==a else false)=false),(ZLo ((↑k:Int)+1)),(ZHi ((↑k:Int)+1)),(AI v.1),(AN v.2.1.1),(AP v.2.1.1 (bRw v.2.1.2)),(AI a),(AI b),(AN 0),(AI ((↑n:Int))),((((↑k:Int)+1):Int)=(↑(k+1):Int)),(AN 2),(NL 1 1)] [0,1,0,2,3,4,5,4,4,6,7,4,4,4,4,4,8,9,8,8,10,11,8,8,8,8,8,12,13,12,12,14,15,12,12,12,12,8,16,17,18,19,20,21,22,23,24,25,26,27,28,29,30,30,21,22,23]):=by kernel_rfl
theorem oSe (v:T_Graph) (a b:Int) (k n:Nat) :
    zP Tryz.f196 0 [rg 5,.dec false,rg 2] zf63 (SOs v a b k n) [] 1 [] (.p (.int .i64 n)) =
    some [(NT 0 1),((decide ((↑k:Int)<(↑v.2.1.1:Int)))=false),(AI ((↑n:Int)))]:=by kernel_rfl
theorem oIz (v:T_Graph) (a b:Int) :
    zT Tryz.f309 [rg 2,rg 1,rg 4,.head] [graphA v,.p (.int .i64 a),.p (.int .i64 b)] [0] (SOi v a b 0 0) =
    some (zf64,zD [(NT 0 1),(AI v.1),(AN v.2.1.1),(AP v.2.1.1 (bRw v.2.1.2)),(AI a),(AI b),(AN 0),((0:Int)=(↑0:Int)),(AI ((↑v.2.1.1:Int))),((([AV.p (PV.int IntKind.i64 v.1),graphL v.2.1].length):Nat)=2),(NL 1 1)] [0,1,2,3,4,5,6,7,2,3,8,7,9,10,10,1,2,3]):=by kernel_rfl
theorem oIt (v:T_Graph) (a b:Int) (k n:Nat) :
    zM 0 [rg 1,.dec true,rg 4,rg 22,.dec true,rg 3,rg 2,.head] zf64 (SOi v a b k n) [0] 1 (SOi v a b (k+1) (n+1)) =
    some (zf64,zD [((decide ((↑k:Int)<(↑v.2.1.1:Int)))=true),(IL 0 (↑k:Int)),(IT (↑k:Int) (↑v.2.1.1:Int)),(NT 0 1),((true=true)→ (AN 1)),(AG ((v.2.1.2 k).1==a)),((((v.2.1.2 k).1==a)=true)→(NT 0 1)),(AG (!bif (v.2.1.2 k).1==a then (v.2.1.2 k).2.1==b else false)),(((!bif (v.2.1.2 k).1==a then (v.2.1.2 k).2.1==b else false)=true)→(NT 0 1)),(AG ((!bif (v.2.1.2 k).1==a then (v.2.1.2 k).2.1==b else false)&&(v.2.1.2 k).1==b)),((((!bif (v.2.1.2 k).1==a then (v.2.1.2 k).2.1==b else false)&&(v.2.1.2 k).1==b)=true)→(NT 0 1)),(((!bif (v.2.1.2 k).1==a then (v.2.1.2 k).2.1==b else false)=true)→((((v.2.1.2 k).1==b)=true)→ (((!bif (v.2.1.2 k).1==a then (v.2.1.2 k).2.1==b else false)&&(v.2.1.2 k).1==b)=true))),(((bif (v.2.1.2 k).1==a then (v.2.1.2 k).2.1==b else false)=false)→ ((!bif (v.2.1.2 k).1==a then (v.2.1.2 k).2.1==b else false)=true)),((bif bif (v.2.1.2 k).1==a then (v.2.1.2 k).2.1==b else false then true else bif (v.2.1.2 k).1==b then (v.2.1.2 k).2.1==a else false)=true),(ZLo ((↑n:Int)+1)),(ZHi ((↑n:Int)+1)),(ZLo ((↑k:Int)+1)),(ZHi ((↑k:Int)+1)),(AI v.1),(AN v.2.1.1),(AP v.2.1.1 (bRw v.2.1.2)),(AI a),(AI b),(AN 0),((((↑n:Int)+1):Int)=(↑(n+1):Int)),(AI ((↑v.2.1.1:Int))),((((↑k:Int)+1):Int)=(↑(k+1):Int)),(AN 2),(NL 1 1)] [0,1,2,3,4,3,5,6,5,5,5,7,8,7,7,7,9,10,9,9,7,11,12,13,14,15,16,17,18,19,20,21,22,23,24,19,20,25,26,27,28,28,18,19,20]):=by kernel_rfl
theorem oIf (v:T_Graph) (a b:Int) (k n:Nat) :
    zM 0 [rg 1,.dec true,rg 4,rg 22,.dec false,rg 2,.head] zf64 (SOi v a b k n) [0] 1 (SOi v a b (k+1) n) =
    some (zf64,zD [((decide ((↑k:Int)<(↑v.2.1.1:Int)))=true),(IL 0 (↑k:Int)),(IT (↑k:Int) (↑v.2.1.1:Int)),(NT 0 1),((true=true)→ (AN 1)),(AG ((v.2.1.2 k).1==a)),((((v.2.1.2 k).1==a)=true)→(NT 0 1)),(AG (!bif (v.2.1.2 k).1==a then (v.2.1.2 k).2.1==b else false)),(((!bif (v.2.1.2 k).1==a then (v.2.1.2 k).2.1==b else false)=true)→(NT 0 1)),(AG ((!bif (v.2.1.2 k).1==a then (v.2.1.2 k).2.1==b else false)&&(v.2.1.2 k).1==b)),((((!bif (v.2.1.2 k).1==a then (v.2.1.2 k).2.1==b else false)&&(v.2.1.2 k).1==b)=true)→(NT 0 1)),(((!bif (v.2.1.2 k).1==a then (v.2.1.2 k).2.1==b else false)=true)→((((v.2.1.2 k).1==b)=true)→ (((!bif (v.2.1.2 k).1==a then (v.2.1.2 k).2.1==b else false)&&(v.2.1.2 k).1==b)=true))),(((bif (v.2.1.2 k).1==a then (v.2.1.2 k).2.1==b else false)=false)→ ((!bif (v.2.1.2 k).1==a then (v.2.1.2 k).2.1==b else false)=true)),((bif bif (v.2.1.2 k).1==a then (v.2.1.2 k).2.1==b else false then true else bif (v.2.1.2 k).1==b then (v.2.1.2 k).2.1==a else false)=false),(ZLo ((↑k:Int)+1)),(ZHi ((↑k:Int)+1)),(AI v.1),(AN v.2.1.1),(AP v.2.1.1 (bRw v.2.1.2)),(AI a),(AI b),(AN 0),(AI ((↑n:Int))),(AI ((↑v.2.1.1:Int))),((((↑k:Int)+1):Int)=(↑(k+1):Int)),(AN 2),(NL 1 1)] [0,1,2,3,4,3,5,6,5,5,5,7,8,7,7,7,9,10,9,9,7,11,12,13,14,15,16,17,18,19,20,21,22,17,18,23,24,25,26,26,16,17,18]):=by kernel_rfl
theorem oIe (v:T_Graph) (a b:Int) (k n:Nat) :
    zP Tryz.f309 0 [rg 1,.dec false,rg 2] zf64 (SOi v a b k n) [] 1 [] (.p (.int .i64 n)) =
    some [((decide ((↑k:Int)<(↑v.2.1.1:Int)))=false),(AI ((↑n:Int)))]:=by kernel_rfl
theorem mSz (v:T_Graph) :
    zT Tryz.f215 [rg 2,rg 2,rg 1,.head] [graphA v] [0,64] (SMso v 0 0 (fun _=>(0,0,()))) =
    some (zf65,zD [(AI v.1),(AN v.2.1.1),(AP v.2.1.1 (bRw v.2.1.2)),(AN 0),((0:Int)=(↑0:Int)),((([AV.p (PV.int IntKind.i64 v.1),graphL v.2.1].length):Nat)=2),(NL 1 1),(AN 2),(NL 0 0),(AA 0 (fun i=>[.p (.int .i64 0),.p (.int .i64 0)]))] [0,1,2,3,3,3,4,5,6,6,0,1,2,7,8,9]):=by kernel_rfl
theorem mSo (v:T_Graph) (a n:Nat) (h:Nat→T_Bar) (b:Bool) :
    zM 0 [rm [(6,oc [] (.p (.bool b)))] 1,.dec true,rg 3,.head] zf65 (SMso v a n h) [0,1] 1 (SMsi v a (a+1) n h) =
    some (zf16,zD [(NT 0 1),(((decide ((↑a:Int)<v.1))=true)→(NT 0 1)),(AG (decide ((↑a:Int)<v.1))),(((decide ((↑a:Int)<v.1))=true)→ zE 53 [(zf91 v)] [] (.p (.bool b))),((bif decide ((↑a:Int)<v.1) then b else false)=true),(ZLo ((↑a:Int)+1)),(ZHi ((↑a:Int)+1)),(AI v.1),(AN v.2.1.1),(AP v.2.1.1 (bRw v.2.1.2)),(AN 0),(AN n),(AI ((↑a:Int))),((((↑a:Int)+1):Int)=(↑(a+1):Int)),(AN 2),(NL 1 1),(NL n n),(AA n (fun i=>[.p (.int .i64 ((h i).1)),.p (.int .i64 ((h i).2.1))]))] [0,1,2,3,2,4,5,6,7,8,9,10,10,11,12,13,14,15,15,7,8,9,14,16,17]):=by kernel_rfl
theorem mSt (v:T_Graph) (a b n c:Nat) (h:Nat→T_Bar) :
    zM 0 [rg 4,.dec true,rm [(3,oc [] (.p (.int .i64 c)))] 1,.dec true,rg 7,rg 3,.head] zf16 (SMsi v a b n h) [0,450] 1 (SMsi v a (b+1) (n+1) (snoc n h (a,b,()))) =
    some (zf16,zD [(NT 0 1),((decide ((↑b:Int)<v.1))=true),zE 196 [(zf91 v),.p (.int .i64 (↑a:Int)),.p (.int .i64 (↑b:Int))] [] (.p (.int .i64 (↑c:Int))),(((↑c:Int)==0)=true),(NL 1 1),(NL n n),(NL ((n+1)*16) 140737488355328),(NL (n+1) 9223372036854775807),(ZLo ((↑b:Int)+1)),(ZHi ((↑b:Int)+1)),(AI v.1),(AN v.2.1.1),(AP v.2.1.1 (bRw v.2.1.2)),(AN 0),(AN ((n+1))),(AI ((↑a:Int))),((((↑b:Int)+1):Int)=(↑(b+1):Int)),(AN 2),(NL (n+1) (n+1)),(CV [(450,⟨false,2,(n+1),(fun i_1=>(if (i_1<n) then [.p (.int .i64 ((h i_1).1)),.p (.int .i64 ((h i_1).2.1))] else [.p (.int .i64 (↑a:Int)),.p (.int .i64 (↑b:Int))]))⟩),(418,⟨false,2,1,(fun i_1=>[.p (.int .i64 (↑a:Int)),.p (.int .i64 (↑b:Int))])⟩),(0,⟨true,2,1,(fun i_1=>[.p (.int .i64 v.1),.p (.seq true 2 v.2.1.1 (bRw v.2.1.2))])⟩)] [0,450] 1 (n+1) (fun i=>if (i<n) then [.p (.int .i64 ((h i).1)),.p (.int .i64 ((h i).2.1))] else [.p (.int .i64 (↑a:Int)),.p (.int .i64 (↑b:Int))]) (fun i=>[.p (.int .i64 (if i<n then (h i).1 else (↑a:Int))),.p (.int .i64 (if i<n then (h i).2.1 else (↑b:Int)))]))] [0,1,0,2,3,4,5,6,7,8,9,10,11,12,13,13,14,15,16,17,4,4,10,11,12,17,18,19]):=by kernel_rfl
theorem mSf (v:T_Graph) (a b n c:Nat) (h:Nat→T_Bar) :
    zM 0 [rg 4,.dec true,rm [(3,oc [] (.p (.int .i64 c)))] 1,.dec false,rg 3,.head] zf16 (SMsi v a b n h) [0,1] 1 (SMsi v a (b+1) n h) =
    some (zf16,zD [(NT 0 1),((decide ((↑b:Int)<v.1))=true),zE 196 [(zf91 v),.p (.int .i64 (↑a:Int)),.p (.int .i64 (↑b:Int))] [] (.p (.int .i64 (↑c:Int))),(((↑c:Int)==0)=false),(ZLo ((↑b:Int)+1)),(ZHi ((↑b:Int)+1)),(AI v.1),(AN v.2.1.1),(AP v.2.1.1 (bRw v.2.1.2)),(AN 0),(AN n),(AI ((↑a:Int))),((((↑b:Int)+1):Int)=(↑(b+1):Int)),(AN 2),(NL 1 1),(NL n n),(AA n (fun i=>[.p (.int .i64 ((h i).1)),.p (.int .i64 ((h i).2.1))]))] [0,1,0,2,3,4,5,6,7,8,9,9,10,11,12,13,14,14,6,7,8,13,15,16]):=by kernel_rfl
theorem mSx (v:T_Graph) (a b n:Nat) (h:Nat→T_Bar) :
    zM 0 [rg 4,.dec false,rg 3,.head] zf16 (SMsi v a b n h) [0,1] 1 (SMso v (a+1) n h) =
    some (zf65,zD [(NT 0 1),((decide ((↑b:Int)<v.1))=false),(ZLo ((↑a:Int)+1)),(ZHi ((↑a:Int)+1)),(AI v.1),(AN v.2.1.1),(AP v.2.1.1 (bRw v.2.1.2)),(AN 0),(AN n),((((↑a:Int)+1):Int)=(↑(a+1):Int)),(AN 2),(NL 1 1),(NL n n),(AA n (fun i=>[.p (.int .i64 ((h i).1)),.p (.int .i64 ((h i).2.1))]))] [0,1,2,3,4,5,6,7,7,8,9,10,11,11,4,5,6,10,12,13]):=by kernel_rfl
theorem mSe (v:T_Graph) (a n:Nat) (h:Nat→T_Bar) (b:Bool) :
    zP Tryz.f215 0 [rm [(6,oc [] (.p (.bool b)))] 1,.dec false,rg 2] zf65 (SMso v a n h) [1] 1 [(0,brOb n h)] (.ar 2 0 0 n) =
    some [(NT 0 1),(((decide ((↑a:Int)<v.1))=true)→(NT 0 1)),(AG (decide ((↑a:Int)<v.1))),(((decide ((↑a:Int)<v.1))=true)→ zE 53 [(zf91 v)] [] (.p (.bool b))),(AG (decide ((↑a:Int)<v.1))),((bif decide ((↑a:Int)<v.1) then b else false)=false),(AN 0),(AN n),(AN 2),(NL n n),(AA n (fun i=>[.p (.int .i64 ((h i).1)),.p (.int .i64 ((h i).2.1))])),(AE n)]:=by kernel_rfl
theorem mIn (v:T_Graph) :
    zS Tryz.f224 [rg 2,rg 2,rm [(1,oc [] (.p (.bool false)))] 1,.dec true,rg 2] [graphA v] [64] [(0,brOb 0 (fun _=>(0,0,())))] (.ar 2 0 0 0) =
    some [(NT 0 1),zE 62 [(zf91 v)] [] (.p (.bool false)),((!false)=true),(AN 0),(AN 0),(AN 2),(NL 0 0),(AA 0 (fun i=>[.p (.int .i64 0),.p (.int .i64 0)])),(AE 0)]:=by kernel_rfl
theorem mIz (v:T_Graph) :
    zT Tryz.f224 [rg 2,rg 2,rm [(1,oc [] (.p (.bool true)))] 1,.dec false,rg 3,.head] [graphA v] [0,64] (SMio v 0 0 (fun _=>(0,0,()))) =
    some (zf42,zD [(NT 0 1),zE 62 [(zf91 v)] [] (.p (.bool true)),((!true)=false),(AI v.1),(AN v.2.1.1),(AP v.2.1.1 (bRw v.2.1.2)),(AN 0),((0:Int)=(↑0:Int)),((([AV.p (PV.int IntKind.i64 v.1),graphL v.2.1].length):Nat)=2),(NL 1 1),(AN 2),(NL 0 0),(AA 0 (fun i=>[.p (.int .i64 0),.p (.int .i64 0)]))] [0,1,2,0,3,4,5,6,6,6,3,7,8,9,9,3,4,5,10,11,12]):=by kernel_rfl
theorem mIo (v:T_Graph) (a n:Nat) (h:Nat→T_Bar) :
    zM 0 [rg 1,.dec true,rg 2,rg 3,.head] zf42 (SMio v a n h) [0,1] 1 (SMii v a (a+1) n h) =
    some (zf10,zD [((decide ((↑a:Int)<v.1))=true),(ZLo ((↑a:Int)+1)),(ZHi ((↑a:Int)+1)),(AI v.1),(AN v.2.1.1),(AP v.2.1.1 (bRw v.2.1.2)),(AN 0),(AN n),(AI ((↑a:Int))),((((↑a:Int)+1):Int)=(↑(a+1):Int)),(AN 2),(NL 1 1),(NL n n),(AA n (fun i=>[.p (.int .i64 ((h i).1)),.p (.int .i64 ((h i).2.1))]))] [0,1,2,3,4,5,6,6,7,8,9,3,8,10,11,11,3,4,5,10,12,13]):=by kernel_rfl
theorem mIt (v:T_Graph) (a b n c:Nat) (h:Nat→T_Bar) :
    zM 0 [rg 4,.dec true,rm [(3,oc [] (.p (.int .i64 c)))] 1,.dec true,rg 7,rg 3,.head] zf10 (SMii v a b n h) [0,450] 1 (SMii v a (b+1) (n+1) (snoc n h (a,b,()))) =
    some (zf10,zD [(NT 0 1),((decide ((↑b:Int)<v.1))=true),zE 309 [(zf91 v),.p (.int .i64 (↑a:Int)),.p (.int .i64 (↑b:Int))] [] (.p (.int .i64 (↑c:Int))),(((↑c:Int)==0)=true),(NL 1 1),(NL n n),(NL ((n+1)*16) 140737488355328),(NL (n+1) 9223372036854775807),(ZLo ((↑b:Int)+1)),(ZHi ((↑b:Int)+1)),(AI v.1),(AN v.2.1.1),(AP v.2.1.1 (bRw v.2.1.2)),(AN 0),(AN ((n+1))),(AI ((↑a:Int))),((((↑b:Int)+1):Int)=(↑(b+1):Int)),(AN 2),(NL (n+1) (n+1)),(CV [(450,⟨false,2,(n+1),(fun i_1=>(if (i_1<n) then [.p (.int .i64 ((h i_1).1)),.p (.int .i64 ((h i_1).2.1))] else [.p (.int .i64 (↑a:Int)),.p (.int .i64 (↑b:Int))]))⟩),(418,⟨false,2,1,(fun i_1=>[.p (.int .i64 (↑a:Int)),.p (.int .i64 (↑b:Int))])⟩),(0,⟨true,2,1,(fun i_1=>[.p (.int .i64 v.1),.p (.seq true 2 v.2.1.1 (bRw v.2.1.2))])⟩)] [0,450] 1 (n+1) (fun i=>if (i<n) then [.p (.int .i64 ((h i).1)),.p (.int .i64 ((h i).2.1))] else [.p (.int .i64 (↑a:Int)),.p (.int .i64 (↑b:Int))]) (fun i=>[.p (.int .i64 (if i<n then (h i).1 else (↑a:Int))),.p (.int .i64 (if i<n then (h i).2.1 else (↑b:Int)))]))] [0,1,0,2,3,4,5,6,7,8,9,10,11,12,13,13,14,15,16,10,15,17,4,4,10,11,12,17,18,19]):=by kernel_rfl
theorem mIf (v:T_Graph) (a b n c:Nat) (h:Nat→T_Bar) :
    zM 0 [rg 4,.dec true,rm [(3,oc [] (.p (.int .i64 c)))] 1,.dec false,rg 3,.head] zf10 (SMii v a b n h) [0,1] 1 (SMii v a (b+1) n h) =
    some (zf10,zD [(NT 0 1),((decide ((↑b:Int)<v.1))=true),zE 309 [(zf91 v),.p (.int .i64 (↑a:Int)),.p (.int .i64 (↑b:Int))] [] (.p (.int .i64 (↑c:Int))),(((↑c:Int)==0)=false),(ZLo ((↑b:Int)+1)),(ZHi ((↑b:Int)+1)),(AI v.1),(AN v.2.1.1),(AP v.2.1.1 (bRw v.2.1.2)),(AN 0),(AN n),(AI ((↑a:Int))),((((↑b:Int)+1):Int)=(↑(b+1):Int)),(AN 2),(NL 1 1),(NL n n),(AA n (fun i=>[.p (.int .i64 ((h i).1)),.p (.int .i64 ((h i).2.1))]))] [0,1,0,2,3,4,5,6,7,8,9,9,10,11,12,6,11,13,14,14,6,7,8,13,15,16]):=by kernel_rfl
theorem mIx (v:T_Graph) (a b n:Nat) (h:Nat→T_Bar) :
    zM 0 [rg 4,.dec false,rg 2,.head] zf10 (SMii v a b n h) [0,1] 1 (SMio v (a+1) n h) =
    some (zf42,zD [(NT 0 1),((decide ((↑b:Int)<v.1))=false),(ZLo ((↑a:Int)+1)),(ZHi ((↑a:Int)+1)),(AI v.1),(AN v.2.1.1),(AP v.2.1.1 (bRw v.2.1.2)),(AN 0),(AN n),((((↑a:Int)+1):Int)=(↑(a+1):Int)),(AN 2),(NL 1 1),(NL n n),(AA n (fun i=>[.p (.int .i64 ((h i).1)),.p (.int .i64 ((h i).2.1))]))] [0,1,2,3,4,5,6,7,7,8,4,9,10,11,11,4,5,6,10,12,13]):=by kernel_rfl
theorem mIe (v:T_Graph) (a n:Nat) (h:Nat→T_Bar) :
    zP Tryz.f224 0 [rg 1,.dec false,rg 2] zf42 (SMio v a n h) [1] 1 [(0,brOb n h)] (.ar 2 0 0 n) =
    some [((decide ((↑a:Int)<v.1))=false),(AN 0),(AN n),(AN 2),(NL n n),(AA n (fun i=>[.p (.int .i64 ((h i).1)),.p (.int .i64 ((h i).2.1))])),(AE n)]:=by kernel_rfl
def cbN (g:Nat→T_Bar) (a b:Int):Nat→Nat
  | 0=>0
  | k+1=>if hitB (g k) a b=true then cbN g a b k+1 else cbN g a b k
theorem cbN_le (g:Nat→T_Bar) (a b:Int):∀ k,cbN g a b k≤k
  | 0=>Nat.le_refl _
  | k+1=>by
    have:=cbN_le g a b k
    simp only [cbN]
    split<;>omega
theorem con_CountBar_s (v:T_Graph) (hs:smS s_Graph v) (a b:Int):zE 196 [graphA v,.p (.int .i64 a),.p (.int .i64 b)] [] (.p (.int .i64 (cbN v.2.1.2 a b v.2.1.1))):=by
  have hn:v.2.1.1≤1048576:=hs.2.1.1
  refine csZ Tryz.func196 (fun c hc=>?_)
  have lo:∀ d k,k+d=v.2.1.1→zR c 196 zf63 (SOs v a b k (cbN v.2.1.2 a b k)) (Post c [] (.p (.int .i64 (cbN v.2.1.2 a b v.2.1.1)))):=by
    intro d
    induction d with
    | zero =>
      intro k hk
      obtain rfl:k=v.2.1.1:=by omega
      have hd:decide ((v.2.1.1:Int)<(v.2.1.1:Int))=false:=by simp
      refine pkZ Tryz.func196 hc (oSe v a b v.2.1.1 _) ?_
      and_intros
      all_goals (first | exact zN | (exact hd))
    | succ d ih =>
      intro k hk
      have hd:decide ((k:Int)<(v.2.1.1:Int))=true:=decide_eq_true (by omega)
      have hrec:=ih (k+1) (by omega)
      have hl:=cbN_le v.2.1.2 a b k
      cases hh:hitB (v.2.1.2 k) a b with
      | true =>
        rw [show cbN v.2.1.2 a b (k+1)=cbN v.2.1.2 a b k+1 by simp [cbN,hh]] at hrec
        refine pcD hc (oSt v a b k _) ?_ hrec
        and_intros
        all_goals (first | exact zH | (exact hd) | (exact hh) | (simp;omega))
      | false =>
        rw [show cbN v.2.1.2 a b (k+1)=cbN v.2.1.2 a b k by simp [cbN,hh]] at hrec
        refine pcD hc (oSf v a b k _) ?_ hrec
        and_intros
        all_goals (first | exact zH | (exact hd) | (exact hh) | (simp;omega))
  refine pcD hc (oSz v a b) ?_ (lo v.2.1.1 0 (by omega))
  and_intros
  all_goals (first | exact zN | (simp;omega))
theorem con_CountBar_i (v:T_Graph) (hs:smS s_Graph v) (a b:Int):zE 309 [graphA v,.p (.int .i64 a),.p (.int .i64 b)] [] (.p (.int .i64 (cbN v.2.1.2 a b v.2.1.1))):=by
  have hn:v.2.1.1≤1048576:=hs.2.1.1
  refine csZ Tryz.func309 (fun c hc=>?_)
  have lo:∀ d k,k+d=v.2.1.1→zR c 309 zf64 (SOi v a b k (cbN v.2.1.2 a b k)) (Post c [] (.p (.int .i64 (cbN v.2.1.2 a b v.2.1.1)))):=by
    intro d
    induction d with
    | zero =>
      intro k hk
      obtain rfl:k=v.2.1.1:=by omega
      have hd:decide ((v.2.1.1:Int)<(v.2.1.1:Int))=false:=by simp
      refine pkZ Tryz.func309 hc (oIe v a b v.2.1.1 _) ?_
      and_intros
      all_goals (first | exact zN | (exact hd))
    | succ d ih =>
      intro k hk
      have hd:decide ((k:Int)<(v.2.1.1:Int))=true:=decide_eq_true (by omega)
      have hrec:=ih (k+1) (by omega)
      have hl:=cbN_le v.2.1.2 a b k
      cases hh:hitB (v.2.1.2 k) a b with
      | true =>
        rw [show cbN v.2.1.2 a b (k+1)=cbN v.2.1.2 a b k+1 by simp [cbN,hh]] at hrec
        refine pcD hc (oIt v a b k _) ?_ hrec
        and_intros
        all_goals (first | exact zH | (exact hd) | (exact hh) | (simp;omega))
      | false =>
        rw [show cbN v.2.1.2 a b (k+1)=cbN v.2.1.2 a b k by simp [cbN,hh]] at hrec
        refine pcD hc (oIf v a b k _) ?_ hrec
        and_intros
        all_goals (first | exact zH | (exact hd) | (exact hh) | (simp;omega))
  refine pcD hc (oIz v a b) ?_ (lo v.2.1.1 0 (by omega))
  and_intros
  all_goals (first | exact zN | (simp;omega))
def msI (v:T_Graph) (a:Nat) (r:NB):Nat→NB
  | 0=>r
  | j+1=>if cbN v.2.1.2 a ((a+1+j:Nat):Int) v.2.1.1=0 then sn (msI v a r j) (a,((a+1+j:Nat):Int),()) else msI v a r j
def msO (v:T_Graph):Nat→NB
  | 0=>zNB
  | a+1=>msI v a (msO v a) (v.1.toNat - (a+1))
def msP (v:T_Graph):NB:=if isGraphF v=true then msO v v.1.toNat else zNB
theorem msI_n (v:T_Graph) (a:Nat) (r:NB):∀ j,(msI v a r j).1≤r.1+j
  | 0=>Nat.le_refl _
  | j+1=>by
    have:=msI_n v a r j
    simp only [msI]
    split
    · simp only [sn];omega
    · omega
theorem msO_n (v:T_Graph) (h:v.1.toNat≤8):∀ a,(msO v a).1≤8*a
  | 0=>Nat.le_refl _
  | a+1=>by
    have:=msO_n v h a
    have:=msI_n v a (msO v a) (v.1.toNat - (a+1))
    simp only [msO]
    omega
theorem msP_n (v:T_Graph):(msP v).1≤64:=by
  unfold msP
  split
  · rename_i h
    have hg:=graph_inR h
    have:=msO_n v (by omega) v.1.toNat
    omega
  · exact Nat.zero_le _
theorem con_Missing_s (v:T_Graph) (hs:smS s_Graph v):zE 215 [graphA v] [(0,brOb (msP v).1 (msP v).2)] (.ar 2 0 0 (msP v).1):=by
  have c1:=con_IsGraph_s v hs
  refine csZ Tryz.func215 (fun c hc=>?_)
  cases hp:isGraphF v with
  | false =>
    rw [hp] at c1
    rw [show msP v=zNB by simp [msP,hp]]
    have hd:(bif decide (((0:Nat):Int)<v.1) then false else false)=false:=by cases decide (((0:Nat):Int)<v.1)<;>rfl
    have he:zR c 215 zf65 (SMso v 0 0 (fun _=>(0,0,()))) (Post c [(0,brOb zNB.1 zNB.2)] (.ar 2 0 0 zNB.1)):=by
      refine pkZ Tryz.func215 hc (mSe v 0 0 (fun _=>(0,0,())) false) ?_
      and_intros
      all_goals (first | exact zI | (intros;exact c1) | (exact hd) | (intro t ht;exact absurd ht (Nat.not_lt_zero _)) | (intro t ht;simp [All]))
    refine pcD hc (mSz v) ?_ he
    and_intros
    all_goals (first | exact zN | (intro t ht;exact absurd ht (Nat.not_lt_zero _)) | (intro t ht;simp [All]))
  | true =>
    have hg:=graph_inR hp
    rw [hp] at c1
    rw [show msP v=msO v v.1.toNat by simp [msP,hp]]
    generalize hR:msO v v.1.toNat=R
    have li:∀ a,a<v.1.toNat→(zR c 215 zf65 (SMso v (a+1) (msO v (a+1)).1 (msO v (a+1)).2) (Post c [(0,brOb R.1 R.2)] (.ar 2 0 0 R.1))) →
        ∀ d j,j+d=v.1.toNat - (a+1)→zR c 215 zf16 (SMsi v a (a+1+j) (msI v a (msO v a) j).1 (msI v a (msO v a) j).2) (Post c [(0,brOb R.1 R.2)] (.ar 2 0 0 R.1)):=by
      intro a ha hk d
      induction d with
      | zero =>
        intro j hj
        obtain rfl:j=v.1.toNat - (a+1):=by omega
        have hd:decide (((a+1+(v.1.toNat - (a+1)):Nat):Int)<v.1)=false:=decide_eq_false (by omega)
        refine pcD hc (mSx v a (a+1+(v.1.toNat - (a+1))) _ _) ?_ hk
        and_intros
        all_goals (first | exact zN | (exact hd) | (intro t ht;simp [All]))
      | succ d ih =>
        intro j hj
        have hd:decide (((a+1+j:Nat):Int)<v.1)=true:=decide_eq_true (by omega)
        have hrec:=ih (j+1) (by omega)
        have hn:=msI_n v a (msO v a) j
        have hn2:=msO_n v (by omega) a
        have cc:=con_CountBar_s v hs a ((a+1+j:Nat):Int)
        by_cases hh:cbN v.2.1.2 a ((a+1+j:Nat):Int) v.2.1.1=0
        · have hq:((cbN v.2.1.2 a ((a+1+j:Nat):Int) v.2.1.1:Int)==0)=true:=by rw [hh];rfl
          rw [show msI v a (msO v a) (j+1)=sn (msI v a (msO v a) j) (a,((a+1+j:Nat):Int),()) by simp only [msI,hh,if_true]] at hrec
          generalize msI v a (msO v a) j=q at hn hrec ⊢
          refine pcD hc (mSt v a (a+1+j) q.1 (cbN v.2.1.2 a ((a+1+j:Nat):Int) v.2.1.1) q.2) ?_ hrec
          and_intros
          all_goals (first | exact zN | (exact hd) | (exact cc) | (exact hq) | (intro t ht;by_cases h':t<q.1<;>simp [h',snoc,cvtL,cvt,tg,tru,All]) | (simp;omega))
        · have hq:((cbN v.2.1.2 a ((a+1+j:Nat):Int) v.2.1.1:Int)==0)=false:=beq_eq_false_iff_ne.2 (fun h=>hh (Int.ofNat_eq_zero.1 h))
          rw [show msI v a (msO v a) (j+1)=msI v a (msO v a) j by simp only [msI,hh,if_false]] at hrec
          generalize msI v a (msO v a) j=q at hn hrec ⊢
          refine pcD hc (mSf v a (a+1+j) q.1 (cbN v.2.1.2 a ((a+1+j:Nat):Int) v.2.1.1) q.2) ?_ hrec
          and_intros
          all_goals (first | exact zN | (exact hd) | (exact cc) | (exact hq) | (intro t ht;simp [All]) | (simp;omega))
    have lo:∀ d a,a+d=v.1.toNat→zR c 215 zf65 (SMso v a (msO v a).1 (msO v a).2) (Post c [(0,brOb R.1 R.2)] (.ar 2 0 0 R.1)):=by
      intro d
      induction d with
      | zero =>
        intro a ha
        obtain rfl:a=v.1.toNat:=by omega
        have hd:(bif decide (((v.1.toNat:Nat):Int)<v.1) then true else false)=false:=by
          rw [show decide (((v.1.toNat:Nat):Int)<v.1)=false from decide_eq_false (by omega)];rfl
        rw [hR]
        refine pkZ Tryz.func215 hc (mSe v v.1.toNat R.1 R.2 true) ?_
        and_intros
        all_goals (first | exact zI | (exact hd) | (intros;exact c1) | (intro t ht;simp [All]))
      | succ d ih =>
        intro a ha
        have hd:(bif decide ((a:Int)<v.1) then true else false)=true:=by
          rw [show decide ((a:Int)<v.1)=true from decide_eq_true (by omega)];rfl
        refine pcD hc (mSo v a _ _ true) ?_ (li a (by omega) (ih (a+1) (by omega)) (v.1.toNat - (a+1)) 0 (by omega))
        and_intros
        all_goals (first | exact zI | (exact hd) | (intros;exact c1) | (intro t ht;simp [All]))
    refine pcD hc (mSz v) ?_ (lo v.1.toNat 0 (by omega))
    and_intros
    all_goals (first | exact zN | (intro t ht;exact absurd ht (Nat.not_lt_zero _)) | (intro t ht;simp [All]))
theorem con_Missing_i (v:T_Graph) (hs:smS s_Graph v):zE 224 [graphA v] [(0,brOb (msP v).1 (msP v).2)] (.ar 2 0 0 (msP v).1):=by
  have c1:=con_IsGraph_i v hs
  refine csZ Tryz.func224 (fun c hc=>?_)
  cases hp:isGraphF v with
  | false =>
    rw [hp] at c1
    rw [show msP v=zNB by simp [msP,hp]]
    refine pkZ Tryz.func224 hc (mIn v) ?_
    and_intros
    all_goals (first | exact zN | (intros;exact c1) | (intro t ht;exact absurd ht (Nat.not_lt_zero _)) | (intro t ht;simp [All]))
  | true =>
    have hg:=graph_inR hp
    rw [hp] at c1
    rw [show msP v=msO v v.1.toNat by simp [msP,hp]]
    generalize hR:msO v v.1.toNat=R
    have li:∀ a,a<v.1.toNat→(zR c 224 zf42 (SMio v (a+1) (msO v (a+1)).1 (msO v (a+1)).2) (Post c [(0,brOb R.1 R.2)] (.ar 2 0 0 R.1))) →
        ∀ d j,j+d=v.1.toNat - (a+1)→zR c 224 zf10 (SMii v a (a+1+j) (msI v a (msO v a) j).1 (msI v a (msO v a) j).2) (Post c [(0,brOb R.1 R.2)] (.ar 2 0 0 R.1)):=by
      intro a ha hk d
      induction d with
      | zero =>
        intro j hj
        obtain rfl:j=v.1.toNat - (a+1):=by omega
        have hd:decide (((a+1+(v.1.toNat - (a+1)):Nat):Int)<v.1)=false:=decide_eq_false (by omega)
        refine pcD hc (mIx v a (a+1+(v.1.toNat - (a+1))) _ _) ?_ hk
        and_intros
        all_goals (first | exact zN | (exact hd) | (intro t ht;simp [All]) | (simp;omega))
      | succ d ih =>
        intro j hj
        have hd:decide (((a+1+j:Nat):Int)<v.1)=true:=decide_eq_true (by omega)
        have hrec:=ih (j+1) (by omega)
        have hn:=msI_n v a (msO v a) j
        have hn2:=msO_n v (by omega) a
        have cc:=con_CountBar_i v hs a ((a+1+j:Nat):Int)
        by_cases hh:cbN v.2.1.2 a ((a+1+j:Nat):Int) v.2.1.1=0
        · have hq:((cbN v.2.1.2 a ((a+1+j:Nat):Int) v.2.1.1:Int)==0)=true:=by rw [hh];rfl
          rw [show msI v a (msO v a) (j+1)=sn (msI v a (msO v a) j) (a,((a+1+j:Nat):Int),()) by simp only [msI,hh,if_true]] at hrec
          generalize msI v a (msO v a) j=q at hn hrec ⊢
          refine pcD hc (mIt v a (a+1+j) q.1 (cbN v.2.1.2 a ((a+1+j:Nat):Int) v.2.1.1) q.2) ?_ hrec
          and_intros
          all_goals (first | exact zN | (exact hd) | (exact cc) | (exact hq) | (intro t ht;by_cases h':t<q.1<;>simp [h',snoc,cvtL,cvt,tg,tru,All]) | (simp;omega))
        · have hq:((cbN v.2.1.2 a ((a+1+j:Nat):Int) v.2.1.1:Int)==0)=false:=beq_eq_false_iff_ne.2 (fun h=>hh (Int.ofNat_eq_zero.1 h))
          rw [show msI v a (msO v a) (j+1)=msI v a (msO v a) j by simp only [msI,hh,if_false]] at hrec
          generalize msI v a (msO v a) j=q at hn hrec ⊢
          refine pcD hc (mIf v a (a+1+j) q.1 (cbN v.2.1.2 a ((a+1+j:Nat):Int) v.2.1.1) q.2) ?_ hrec
          and_intros
          all_goals (first | exact zN | (exact hd) | (exact cc) | (exact hq) | (intro t ht;simp [All]) | (simp;omega))
    have lo:∀ d a,a+d=v.1.toNat→zR c 224 zf42 (SMio v a (msO v a).1 (msO v a).2) (Post c [(0,brOb R.1 R.2)] (.ar 2 0 0 R.1)):=by
      intro d
      induction d with
      | zero =>
        intro a ha
        obtain rfl:a=v.1.toNat:=by omega
        have hd:decide (((v.1.toNat:Nat):Int)<v.1)=false:=decide_eq_false (by omega)
        rw [hR]
        refine pkZ Tryz.func224 hc (mIe v v.1.toNat R.1 R.2) ?_
        and_intros
        all_goals (first | exact zN | (exact hd) | (intros;exact c1) | (intro t ht;simp [All]))
      | succ d ih =>
        intro a ha
        have hd:decide ((a:Int)<v.1)=true:=decide_eq_true (by omega)
        refine pcD hc (mIo v a _ _) ?_ (li a (by omega) (ih (a+1) (by omega)) (v.1.toNat - (a+1)) 0 (by omega))
        and_intros
        all_goals (first | exact zN | (exact hd) | (intros;exact c1) | (intro t ht;simp [All]))
    refine pcD hc (mIz v) ?_ (lo v.1.toNat 0 (by omega))
    and_intros
    all_goals (first | exact zN | (intros;exact c1) | (intro t ht;exact absurd ht (Nat.not_lt_zero _)) | (intro t ht;simp [All]))
def rSt (s:Nat→Bool) (a b:Nat):Nat→Bool:=fun v=>if v=a∨v=b then s a||s b else s v
def rRd (g:Nat→T_Bar) (s:Nat→Bool):Nat→Nat→Bool
  | 0=>s
  | k+1=>rSt (rRd g s k) (g k).1.toNat (g k).2.1.toNat
def rAg (g:Nat→T_Bar) (s:Nat→Bool):Nat→Bool
  | 0=>false
  | k+1=>rAg g s k||(rRd g s k (g k).1.toNat != rRd g s k (g k).2.1.toNat)
def rIt (g:Nat→T_Bar) (nb:Nat) (s:Nat→Bool):Nat→Nat→Bool
  | 0=>s
  | n+1=>rRd g (rIt g nb s n) nb
theorem rSt_same {s:Nat→Bool} {a b:Nat} (h:(s a != s b)=false):rSt s a b=s:=by
  have h:s a=s b:=by simpa using h
  funext v
  unfold rSt
  split
  · rename_i hv
    rcases hv with rfl | rfl
    · rw [← h,Bool.or_self]
    · rw [h,Bool.or_self]
  · rfl
theorem rSt_mono {s:Nat→Bool} {a b v:Nat} (h:s v=true):rSt s a b v=true:=by
  unfold rSt
  split
  · rename_i hv
    rcases hv with rfl | rfl
    · rw [h,Bool.true_or]
    · rw [h,Bool.or_true]
  · exact h
theorem rSt_on {s:Nat→Bool} {a b:Nat} (h:(s a||s b)=true):rSt s a b=fun v=>if v=b then true else if v=a then true else s v:=by
  funext v
  unfold rSt
  by_cases h1:v=b
  · rw [if_pos (.inr h1),if_pos h1,h]
  · by_cases h2:v=a
    · rw [if_pos (.inl h2),if_neg h1,if_pos h2,h]
    · rw [if_neg (by rintro (h | h)<;>contradiction),if_neg h1,if_neg h2]
theorem rSt_off {s:Nat→Bool} {a b:Nat} (h:(s a||s b)=false):rSt s a b=s:=by
  simp only [Bool.or_eq_false_iff] at h
  exact rSt_same (by rw [h.1,h.2];rfl)
theorem rRd_mono (g:Nat→T_Bar) (s:Nat→Bool) (v:Nat) (h:s v=true):∀ k,rRd g s k v=true
  | 0=>h
  | k+1=>rSt_mono (rRd_mono g s v h k)
theorem rRd_same (g:Nat→T_Bar) (s:Nat→Bool):∀ k,rAg g s k=false→rRd g s k=s
  | 0,_=>rfl
  | k+1,h=>by
    simp only [rAg,Bool.or_eq_false_iff] at h
    show rSt (rRd g s k) _ _=s
    rw [rSt_same h.2,rRd_same g s k h.1]
def cnT (s:Nat→Bool):Nat→Nat
  | 0=>0
  | n+1=>cnT s n+(if s n then 1 else 0)
theorem cnT_le (s:Nat→Bool):∀ n,cnT s n≤n
  | 0=>Nat.le_refl _
  | n+1=>by have:=cnT_le s n;simp only [cnT];split<;>omega
theorem cnT_mono {s t:Nat→Bool} (h:∀ v,s v=true→t v=true):∀ n,cnT s n≤cnT t n
  | 0=>Nat.le_refl _
  | n+1=>by
    have:=cnT_mono h n
    simp only [cnT]
    by_cases hs:s n=true
    · rw [if_pos hs,if_pos (h n hs)];omega
    · rw [if_neg hs];omega
theorem cnT_lt {s t:Nat→Bool} (h:∀ v,s v=true→t v=true) {v:Nat} (h1:s v=false) (h2:t v=true):∀ n,v<n→cnT s n<cnT t n
  | 0,hv=>absurd hv (Nat.not_lt_zero _)
  | n+1,hv=>by
    have hm:=cnT_mono h n
    simp only [cnT]
    by_cases hn:v=n
    · subst hn
      simp only [h1,h2]
      simp;omega
    · have:=cnT_lt h h1 h2 n (by omega)
      by_cases hs:s n=true
      · rw [if_pos hs,if_pos (h n hs)];omega
      · rw [if_neg hs];omega
theorem rAg_grow {g:Nat→T_Bar} {N:Nat} (s:Nat→Bool):∀ k,(∀ i,i<k→(g i).1.toNat<N∧(g i).2.1.toNat<N)→rAg g s k=true→cnT s N<cnT (rRd g s k) N
  | 0,_,h=>by cases h
  | k+1,hg,h=>by
    simp only [rAg] at h
    have hk:=hg k (Nat.lt_succ_self k)
    have hm:∀ v,rRd g s k v=true→rRd g s (k+1) v=true:=fun v hv=>rSt_mono hv
    by_cases h1:rAg g s k=true
    · exact Nat.lt_of_lt_of_le (rAg_grow s k (fun i hi=>hg i (by omega)) h1) (cnT_mono hm N)
    · have h1:rAg g s k=false:=by simpa using h1
      rw [h1,Bool.false_or] at h
      have e:=rRd_same g s k h1
      rw [e] at h
      have hs:∀ v,s v=true→rRd g s (k+1) v=true:=fun v hv=>rRd_mono g s v hv (k+1)
      have e2:rRd g s (k+1)=rSt s (g k).1.toNat (g k).2.1.toNat:=by show rSt (rRd g s k) _ _=_;rw [e]
      cases ha:s (g k).1.toNat
      · have hb:s (g k).2.1.toNat=true:=by rw [ha] at h;simpa using h
        exact cnT_lt hs ha (by rw [e2];unfold rSt;rw [if_pos (.inl rfl),ha,hb];rfl) N hk.1
      · have hb:s (g k).2.1.toNat=false:=by rw [ha] at h;simpa using h
        exact cnT_lt hs hb (by rw [e2];unfold rSt;rw [if_pos (.inr rfl),ha,hb];rfl) N hk.2
theorem rIt_fix {g:Nat→T_Bar} {nb:Nat} {s:Nat→Bool} {j:Nat} (h:rAg g (rIt g nb s j) nb=false):∀ d,rIt g nb s (j+d)=rIt g nb s j
  | 0=>rfl
  | d+1=>by
    show rRd g (rIt g nb s (j+d)) nb=_
    rw [rIt_fix h d,rRd_same g _ nb h]
theorem rIt_cnt {g:Nat→T_Bar} {nb N:Nat} {s:Nat→Bool} (hg:∀ i,i<nb→(g i).1.toNat<N∧(g i).2.1.toNat<N) (h0:1≤cnT s N) :
    ∀ j,(∀ i,i<j→rAg g (rIt g nb s i) nb=true)→j+1≤cnT (rIt g nb s j) N
  | 0,_=>by simp only [rIt];omega
  | j+1,h=>by
    have:=rIt_cnt hg h0 j (fun i hi=>h i (by omega))
    have h2:=rAg_grow (N:=N) (rIt g nb s j) nb hg (h j (by omega))
    show j+1+1≤cnT (rRd g (rIt g nb s j) nb) N
    omega
theorem rIt_end {g:Nat→T_Bar} {nb N:Nat} {s:Nat→Bool} (hg:∀ i,i<nb→(g i).1.toNat<N∧(g i).2.1.toNat<N) (h0:1≤cnT s N) {j:Nat}
    (hj:∀ i,i<j→rAg g (rIt g nb s i) nb=true) (h:rAg g (rIt g nb s j) nb=false):rIt g nb s (j+1)=rIt g nb s N:=by
  have h1:=rIt_cnt hg h0 j hj
  have h2:=cnT_le (rIt g nb s j) N
  have e:=rIt_fix h (N - j)
  rw [show j+(N - j)=N from by omega] at e
  rw [e,rIt_fix h 1]
theorem cnT_one {N v:Nat} (h:v<N):1≤cnT (fun u=>decide (u=v)) N:=by
  have:∀ n,v<n→1≤cnT (fun u=>decide (u=v)) n:=by
    intro n
    induction n with
    | zero=>intro h;omega
    | succ n ih =>
      intro h
      simp only [cnT]
      by_cases hv:v=n
      · subst hv;simp
      · have:=ih (by omega);omega
  exact this N h
def sameB (a b:T_Bar):Bool:=bif a.1==b.1 then a.2.1==b.2.1 else false
def dbF (g:Nat→T_Bar):Nat→Bool
  | 0=>false
  | k+1=>bif dbF g k then true else bif decide (0<k) then sameB (g (k - 1)) (g k) else false
theorem dbF_ne {g:Nat→T_Bar}:∀ n,dbF g n=false→∀ i,i+1<n→sameB (g i) (g (i+1))=false
  | 0,_,i,hi=>absurd hi (Nat.not_lt_zero _)
  | n+1,h,i,hi=>by
    simp only [dbF] at h
    cases h1:dbF g n with
    | true=>rw [h1] at h;cases h
    | false =>
      by_cases hn:i+1<n
      · exact dbF_ne n h1 i hn
      · obtain rfl:n=i+1:=by omega
        rw [h1,decide_eq_true (show 0<i+1 by omega)] at h
        exact h
def LtB (a b:T_Bar):Prop:=a.1<b.1∨a.1=b.1∧a.2.1<b.2.1
theorem aft_ne {a b:T_Bar} (h:aft a b=true) (hn:sameB a b=false):LtB a b:=by
  unfold aft at h
  unfold sameB at hn
  unfold LtB
  by_cases h1:a.1<b.1
  · exact .inl h1
  · rw [decide_eq_false h1] at h
    by_cases h2:a.1=b.1
    · have e:(a.1==b.1)=true:=beq_iff_eq.2 h2
      rw [e] at h hn
      have h3:a.2.1≤b.2.1:=of_decide_eq_true h
      have h4:¬ a.2.1=b.2.1:=beq_eq_false_iff_ne.1 hn
      right;omega
    · have e:(a.1==b.1)=false:=beq_eq_false_iff_ne.2 h2
      rw [e] at h;cases h
theorem lt_steps {g:Nat→T_Bar} {n:Nat} (h:∀ i,i+1<n→LtB (g i) (g (i+1))):∀ d i,i+(d+1)<n→LtB (g i) (g (i+(d+1)))
  | 0,i,hi=>h i hi
  | d+1,i,hi=>by
    have h1:=lt_steps h d i (by omega)
    have h2:=h (i+(d+1)) (by omega)
    unfold LtB at h1 h2 ⊢
    rw [show i+(d+1+1)=i+(d+1)+1 by omega]
    omega
theorem hit_eq {x:T_Bar} {a b:Int} (hx:x.1<x.2.1) (hab:a<b):hitB x a b=true↔x.1=a∧x.2.1=b:=by
  unfold hitB
  by_cases h1:x.1=a
  · have e1:(x.1==a)=true:=beq_iff_eq.2 h1
    by_cases h2:x.2.1=b
    · have e2:(x.2.1==b)=true:=beq_iff_eq.2 h2
      simp [e1,e2,h1,h2]
    · have e2:(x.2.1==b)=false:=beq_eq_false_iff_ne.2 h2
      have e3:(x.1==b)=false:=beq_eq_false_iff_ne.2 (by omega)
      simp [e1,e2,e3,h2]
  · have e1:(x.1==a)=false:=beq_eq_false_iff_ne.2 h1
    by_cases h3:x.1=b
    · have e3:(x.1==b)=true:=beq_iff_eq.2 h3
      have e4:(x.2.1==a)=false:=beq_eq_false_iff_ne.2 (by omega)
      simp [e1,e3,e4,h1]
    · have e3:(x.1==b)=false:=beq_eq_false_iff_ne.2 h3
      simp [e1,e3,h1]
theorem cbN_none {g:Nat→T_Bar} {a b:Int}:∀ k,(∀ i,i<k→¬ (hitB (g i) a b=true))→cbN g a b k=0
  | 0,_=>rfl
  | k+1,h=>by
    simp only [cbN]
    rw [if_neg (h k (by omega)),cbN_none k (fun i hi=>h i (by omega))]
theorem cbN_one {g:Nat→T_Bar} {a b:Int} (hab:a<b) {n:Nat} (hlt:∀ i,i<n→(g i).1<(g i).2.1) (hs:∀ i,i+1<n→LtB (g i) (g (i+1))):∀ k,k≤n→cbN g a b k≤1
  | 0,_=>Nat.zero_le _
  | k+1,hk=>by
    simp only [cbN]
    split
    · rename_i hh
      have h1:=(hit_eq (hlt k (by omega)) hab).1 hh
      rw [cbN_none k (fun i hi h2=>?_)]
      · exact Nat.le_refl _
      · have h3:=(hit_eq (hlt i (by omega)) hab).1 h2
        have h4:=lt_steps hs (k - i - 1) i (by omega)
        rw [show i+(k - i - 1+1)=k by omega] at h4
        unfold LtB at h4
        omega
    · exact cbN_one hab hlt hs k (by omega)
theorem cbN_sum {g:Nat→T_Bar} {n:Nat} (hb:∀ i,i<n→0≤(g i).1∧(g i).1<(g i).2.1∧(g i).2.1<3):∀ k,k≤n→cbN g 0 1 k+cbN g 0 2 k+cbN g 1 2 k=k
  | 0,_=>rfl
  | k+1,hk=>by
    have ih:=cbN_sum hb k (by omega)
    have h:=hb k (by omega)
    have h01:=hit_eq (x:=g k) (a:=0) (b:=1) h.2.1 (by omega)
    have h02:=hit_eq (x:=g k) (a:=0) (b:=2) h.2.1 (by omega)
    have h12:=hit_eq (x:=g k) (a:=1) (b:=2) h.2.1 (by omega)
    simp only [cbN]
    have hc:(g k).1=0∧(g k).2.1=1∨(g k).1=0∧(g k).2.1=2∨(g k).1=1∧(g k).2.1=2:=by omega
    rcases hc with hc | hc | hc
    · rw [if_pos (h01.2 hc),if_neg (fun h=>by have:=h02.1 h;omega),if_neg (fun h=>by have:=h12.1 h;omega)];omega
    · rw [if_neg (fun h=>by have:=h01.1 h;omega),if_pos (h02.2 hc),if_neg (fun h=>by have:=h12.1 h;omega)];omega
    · rw [if_neg (fun h=>by have:=h01.1 h;omega),if_neg (fun h=>by have:=h02.1 h;omega),if_pos (h12.2 hc)];omega
theorem missing_few {N nb:Nat} {g:Nat→T_Bar} (hg:isGraphF ((N:Int),(nb,g),())=true) (hd:dbF g nb=false) (h3:N≤3) :
    decide ((((msP ((N:Int),(nb,g),())).1:Nat):Int)>0)=decide ((nb:Int)<((N*(N - 1) / 2:Nat):Int)):=by
  have hgi:=graph_inR hg
  have h1:1≤N:=by have:=hgi.1;simp only at this;omega
  have hbad:∀ i,i<nb→badB (N:Int) g i=false:=goodB_in (N:Int) g nb hgi.2.2.2
  have hb:∀ i,i<nb→0≤(g i).1∧(g i).1<(g i).2.1∧(g i).2.1<(N:Int):=fun i hi=>by have:=bad_parts (hbad i hi);exact ⟨this.1,this.2.1,this.2.2.1⟩
  have hs:∀ i,i+1<nb→LtB (g i) (g (i+1)):=fun i hi=>aft_ne ((bad_parts (hbad (i+1) hi)).2.2.2 (by omega)) (dbF_ne nb hd i hi)
  have hlt:∀ i,i<nb→(g i).1<(g i).2.1:=fun i hi=>(hb i hi).2.1
  have hsum:=cbN_sum (g:=g) (n:=nb) (fun i hi=>by have:=hb i hi;omega) nb (Nat.le_refl _)
  have c01:=cbN_one (a:=0) (b:=1) (by omega) hlt hs nb (Nat.le_refl _)
  have c02:=cbN_one (a:=0) (b:=2) (by omega) hlt hs nb (Nat.le_refl _)
  have c12:=cbN_one (a:=1) (b:=2) (by omega) hlt hs nb (Nat.le_refl _)
  have z02:N≤2→cbN g 0 2 nb=0:=fun h=>cbN_none nb (fun i hi hh=>by have:=(hit_eq (hlt i hi) (by omega)).1 hh;have:=hb i hi;omega)
  have z12:N≤2→cbN g 1 2 nb=0:=fun h=>cbN_none nb (fun i hi hh=>by have:=(hit_eq (hlt i hi) (by omega)).1 hh;have:=hb i hi;omega)
  have z01:N≤1→cbN g 0 1 nb=0:=fun h=>cbN_none nb (fun i hi hh=>by have:=(hit_eq (hlt i hi) (by omega)).1 hh;have:=hb i hi;omega)
  rw [show msP ((N:Int),(nb,g),())=msO ((N:Int),(nb,g),()) N by simp [msP,hg]]
  have hN:N=1∨N=2∨N=3:=by omega
  rw [decide_eq_decide]
  rcases hN with rfl | rfl | rfl
  · have:=z01 (by omega);have:=z02 (by omega);have:=z12 (by omega)
    simp [msO,msI,zNB]
    all_goals (try omega)
  · have:=z02 (by omega);have:=z12 (by omega)
    simp [msO,msI,zNB,sn]
    split<;>simp_all<;>(try omega)
  · simp [msO,msI,zNB,sn]
    split<;>split<;>split<;>simp_all<;>(try omega)
end Go.Proofs.YtkkjoghiigiokaaGreat.Mach
