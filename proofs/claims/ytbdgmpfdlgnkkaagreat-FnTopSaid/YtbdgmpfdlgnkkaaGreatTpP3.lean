/- What the law Tp needs, part 3 of 7: the abstract machine and the contracts of the functions. Conditions: as each theorem says. -/
import Derived.Shelf.SlLaysF0
import Derived.Shelf.SlGeneric
import Derived.Shelf.SlSortCmp.InsertionK
import Derived.Ground.SlsfProg
import Derived.Sort.Grow
import Derived.Sort.Row
import Derived.Shelf.SlSortCmp.NoneTotal
import Derived.Ground.SlgmProg
import Derived.Ground.SlgnProg
import Derived.Shelf.SortM.Plain
import Derived.Shelf.SortM.SortNone
import Derived.Shelf.SlicesG.CompactI
import Derived.Test.YtbdgmpfdlgnkkaaGreatTpP2
set_option linter.unusedVariables false
set_option linter.unusedSimpArgs false
namespace Go.Proofs.YtbdgmpfdlgnkkaaGreat.Mach
open Go
def bi (g:Nat→aa) (nb N:Nat):AV:=.agg [.p (.int .i64 N),b4 g nb]
def lz (g:Nat→aa) (nb N:Nat):Ob:=⟨true,2,1,fun _=>[.p (.int .i64 N),b4 g nb]⟩
def Bu:Ob:=⟨true,3,1,fun _=>[.p .nil,.p .nil,.p .nil]⟩
def Cc (N m j:Nat):Ob:=⟨true,3,1,fun _=>[.ar 1 j 0 N,.ar 1 ⟨j+1,none⟩ 0 m,.ar 1 ⟨j+2,none⟩ 0 m]⟩
def EQ (N m:Nat) (F T Q:Nat→Int):Ob:=⟨true,3,1,fun _=>[gM N F,gM m T,gM m Q]⟩
def eR (N m:Nat) (F T Q:Nat→Int):AV:=.agg [gM N F,gM m T,gM m Q]
def JO (n:Nat) (S:Nat→Bool):Ob:=⟨false,1,n,fun i=>[.p (.bool (S i))]⟩
def JA (g:Nat→aa) (nb N m:Nat) (F T Q FR F1 T1:Nat→Int) (a u:Int):St :=
  ⟨[bi g nb N,eR N m F T Q,gM N FR,.p (.int .i64 a),.p (.int .i64 u),.pt 2 0 0 0,.pt 3 1 0 0,.p .any,.p .any,.p .any,.pt 3 2 0 0,.pt 3 3 0 0]++List.replicate 51 ag,
   [(0,lz g nb N),(1,EQ N m F T Q),(2,Bu),(3,Cc N m 4),(4,aY N F1),(5,aY m T1),(6,aY m Q)],7⟩
def Fx (g:Nat→aa) (nb N m:Nat) (F T Q FR F1 T1:Nat→Int) (a u at':Int):St :=
  ⟨[bi g nb N,eR N m F T Q,gM N FR,.p (.int .i64 a),.p (.int .i64 u),.pt 2 0 0 0,.pt 3 1 0 0,.p .any,.p .any,.p .any,.pt 3 2 0 0,.pt 3 3 0 0,.p (.int .i64 at')]++List.replicate 50 ag,
   [(0,lz g nb N),(1,EQ N m F T Q),(2,Bu),(3,Cc N m 4),(4,aY N F1),(5,aY m T1),(6,aY m Q)],7⟩
def GN (g:Nat→aa) (nb N m:Nat) (F T Q:Nat→Int) (a b:Int) (i:Nat):St :=
  ⟨[bi g nb N,bf N m 0,.p (.int .i64 a),.p (.int .i64 b),.pt 2 3 0 0,.pt 3 4 0 0,.p .any,.p .any,.pt 3 5 0 0,.p .any,.ar 1 6 0 N,.p (.int .i64 i)]++List.replicate 94 ag,
   [(0,aY N F),(1,aY m T),(2,aY m Q),(3,lz g nb N),(4,Cc N m 0),(5,Bu),(6,aY N (fun s=>if s<i then -1 else 0))],7⟩
def Ge (g:Nat→aa) (nb N m:Nat) (F T Q td FR:Nat→Int) (SN:Nat→Bool) (a b:Int) (i tn:Nat):St :=
  ⟨[bi g nb N,bf N m 0,.p (.int .i64 a),.p (.int .i64 b),.pt 2 3 0 0,.pt 3 4 0 0,.p .any,.p .any,.pt 3 5 0 0,.p .any,.ar 1 6 0 N,.p .any,.ar 1 8 0 tn,.ar 1 7 0 N,.p (.int .i64 i)]++List.replicate 91 ag,
   [(0,aY N F),(1,aY m T),(2,aY m Q),(3,lz g nb N),(4,Cc N m 0),(5,Bu),(6,aY N FR),(7,JO N SN),(8,aY tn td)],9⟩
def BE (g:Nat→aa) (nb N m:Nat) (F T Q td FR:Nat→Int) (SN:Nat→Bool) (a b v:Int) (i j tn:Nat):St :=
  ⟨[bi g nb N,bf N m 0,.p (.int .i64 a),.p (.int .i64 b),.pt 2 3 0 0,.pt 3 4 0 0,.p .any,.p .any,.pt 3 5 0 0,.p .any,.ar 1 6 0 N,.p .any,.ar 1 8 0 tn,.ar 1 7 0 N,.p (.int .i64 i),.p (.int .i64 v),.p (.int .i64 j)]++List.replicate 89 ag,
   [(0,aY N F),(1,aY m T),(2,aY m Q),(3,lz g nb N),(4,Cc N m 0),(5,Bu),(6,aY N FR),(7,JO N SN),(8,aY tn td)],9⟩
def JU (g:Nat→aa) (nb N m:Nat) (F T Q FR:Nat→Int) (a b u:Int):St :=
  ⟨[bi g nb N,bf N m 0,.p (.int .i64 a),.p (.int .i64 b),.pt 2 3 0 0,.pt 3 4 0 0,.p .any,.p .any,.pt 3 5 0 0,.p .any,.ar 1 6 0 N,.p .any,.p .any,.p .any,.p .any,.p .any,.p .any,.p (.int .i64 u)]++List.replicate 88 ag,
   [(0,aY N F),(1,aY m T),(2,aY m Q),(3,lz g nb N),(4,Cc N m 0),(5,Bu),(6,aY N FR)],7⟩
def wd (N m:Nat) (F T Q F' T' Q':Nat→Int):Hp:=[(0,aY N F),(1,aY m T),(2,aY m Q),(3,aY N F'),(4,aY m T'),(5,aY m Q')]
theorem KP (x:aa) (v:Int) :
    zS Tryz.f131 [rg 2,rg 8] [jZ x,jI v] [] [] (jI (x.1+x.2.1 - v)) =
    some [(NT 0 1),(NT 0 1),(ax (x.1+x.2.1)),(au (x.1+x.2.1)),(ax (x.1+x.2.1 - v)),(au (x.1+x.2.1 - v)),(AI ((x.1+x.2.1 - v)))]:=by kernel_rfl
theorem Na (N m:Nat) (F T Q:Nat→Int) :
    zS Tryz.f106 [rg 2,rg 14] [eR N m F T Q] [160,288,416] (bl N m F T Q) (bf N m 0) =
    some (zD [(NT 0 1),(NL 0 0),(NL ((0+N)*8) 140737488355328),(NL (0+N) 9223372036854775807),(NL ((0+m)*8) 140737488355328),(NL (0+m) 9223372036854775807),((true=true)→(AN 1)),(AN 0),(((0+N):Nat)=N),(((0+m):Nat)=m),(AN 1),(NL N (0+N)),(AA N (fun i=>[.p (.int .i64 (F i))])),(NL m (0+m)),(AA m (fun i=>[.p (.int .i64 (T i))])),(AA m (fun i=>[.p (.int .i64 (Q i))])),(AE N),(AE m)] [0,1,2,3,0,1,4,5,0,1,4,5,0,6,0,7,8,7,9,7,9,10,11,12,10,13,14,10,13,15,16,17,17]):=by kernel_rfl
theorem Ko (g:Nat→aa) (nb N m:Nat) (F T Q FR:Nat→Int) (a u:Int) :
    zT Tryz.f132 [rg 3,rm [(1,oc (bl N m F T Q) (bf N m 0))] 2,rg 11,.head] [bi g nb N,eR N m F T Q,gM N FR,jI a,jI u] [0,32,64,160,128,129,130] (JA g nb N m F T Q FR (fun s=>if s=u.toNat then F s - 1 else F s) T a u) =
    some ([.code (ao (ab Tryz.f132) [1,1,1,0]),.code (ao (ab Tryz.f132) [1,1,1,1])],zD [(NT 0 1),zE 106 [(lm N F m T Q)] (eb N F m T Q) (.agg [.ar 1 0 0 N,.ar 1 1 0 m,.ar 1 2 0 m]),((true=true)→(AN 1)),(IL 0 u),(IT u (N:Int)),(NT u.toNat N),(ax (F u.toNat - 1)),(au (F u.toNat - 1)),((false=true)→((N:Nat)=1)),(AI ((N:Int))),(AN nb),(AP nb (aF g)),(AN N),(AP N (fun i=>[.int .i64 (F i)])),(AN m),(AP m (fun i=>[.int .i64 (T i)])),(AP m (fun i=>[.int .i64 (Q i)])),(AP N (fun i=>[.int .i64 (FR i)])),(AI a),(AI u),(AN 0),((([AV.p (PV.int IntKind.i64 (N:Int)),b4 g nb].length):Nat)=2),(NL 1 1),((([gM N F,gM m T,gM m Q].length):Nat)=3),((((List.map (fun v=>AV.p (bZ v)) [Value.slice none 0 0,Value.slice none 0 0,Value.slice none 0 0]).length):Nat)=3),(AN 1),(NL N N),(CV [(128,⟨false,1,N,(fun i_1=>(if (i_1=u.toNat) then [.p (.int .i64 (F u.toNat - 1))] else [.p (.int .i64 (F i_1))]))⟩),(160,⟨true,3,1,(fun i_1=>[.ar 1 128 0 N,.ar 1 129 0 m,.ar 1 130 0 m])⟩),(130,⟨false,1,m,(fun i_1=>[.p (.int .i64 (Q i_1))])⟩),(129,⟨false,1,m,(fun i_1=>[.p (.int .i64 (T i_1))])⟩),(64,⟨true,3,1,(fun i_1=>[.p (.nil),.p (.nil),.p (.nil)])⟩),(32,⟨true,3,1,(fun i_1=>[.p (.seq true 1 N (fun i_2=>[.int .i64 (F i_2)])),.p (.seq true 1 m (fun i_2=>[.int .i64 (T i_2)])),.p (.seq true 1 m (fun i_2=>[.int .i64 (Q i_2)]))])⟩),(0,⟨true,2,1,(fun i_1=>[.p (.int .i64 (N:Int)),.p (.seq true 2 nb (aF g))])⟩)] [0,32,64,160,128,129,130] 1 N (fun i=>if (i=u.toNat) then [.p (.int .i64 (F u.toNat - 1))] else [.p (.int .i64 (F i))]) (fun i=>[.p (.int .i64 (if i=u.toNat then F i - 1 else F i))])),(NL m m),(AA m (fun i=>[.p (.int .i64 (T i))])),(AA m (fun i=>[.p (.int .i64 (Q i))]))] [0,1,0,2,0,0,3,4,5,6,7,3,4,5,8,9,10,11,12,13,14,15,14,16,12,17,18,19,20,20,20,20,21,22,22,9,10,11,23,22,22,12,13,14,15,14,16,24,22,22,24,22,22,20,12,20,14,20,14,25,26,27,25,28,29,25,28,30]):=by kernel_rfl
theorem KL (g:Nat→aa) (nb N m:Nat) (F T Q FR F1 T1:Nat→Int) (a u:Int) :
    zM 0 [rg 11,rg 2,.head] [.code (ao (ab Tryz.f132) [1,1,1,0]),.code (ao (ab Tryz.f132) [1,1,1,1])] (JA g nb N m F T Q FR F1 T1 a u) [0,1,2,3,4,5,6] 1 (Fx g nb N m F T Q FR (fun s=>if s=a.toNat then F1 s+1 else F1 s) T1 a u u) =
    some (AH,zD [(NT 0 1),(IL 0 a),(IT a (N:Int)),(NT a.toNat N),(ax (F1 a.toNat+1)),(au (F1 a.toNat+1)),((false=true)→((N:Nat)=1)),(AI ((N:Int))),(AN nb),(AP nb (aF g)),(AN N),(AP N (fun i=>[.int .i64 (F i)])),(AN m),(AP m (fun i=>[.int .i64 (T i)])),(AP m (fun i=>[.int .i64 (Q i)])),(AP N (fun i=>[.int .i64 (FR i)])),(AI a),(AI u),(AN 0),(AN 2),(NL 1 1),(AN 3),(AN 1),(NL N N),(CV [(4,⟨false,1,N,(fun i_1=>(if (i_1=a.toNat) then [.p (.int .i64 (F1 a.toNat+1))] else [.p (.int .i64 (F1 i_1))]))⟩),(0,⟨true,2,1,(fun i_1=>[.p (.int .i64 (N:Int)),.p (.seq true 2 nb (aF g))])⟩),(1,⟨true,3,1,(fun i_1=>[.p (.seq true 1 N (fun i_2=>[.int .i64 (F i_2)])),.p (.seq true 1 m (fun i_2=>[.int .i64 (T i_2)])),.p (.seq true 1 m (fun i_2=>[.int .i64 (Q i_2)]))])⟩),(2,⟨true,3,1,(fun i_1=>[.p (.nil),.p (.nil),.p (.nil)])⟩),(3,⟨true,3,1,(fun i_1=>[.ar 1 4 0 N,.ar 1 5 0 m,.ar 1 6 0 m])⟩),(5,⟨false,1,m,(fun i_1=>[.p (.int .i64 (T1 i_1))])⟩),(6,⟨false,1,m,(fun i_1=>[.p (.int .i64 (Q i_1))])⟩)] [0,1,2,3,4,5,6] 1 N (fun i=>if (i=a.toNat) then [.p (.int .i64 (F1 a.toNat+1))] else [.p (.int .i64 (F1 i))]) (fun i=>[.p (.int .i64 (if i=a.toNat then F1 i+1 else F1 i))])),(NL m m),(AA m (fun i=>[.p (.int .i64 (T1 i))])),(AA m (fun i=>[.p (.int .i64 (Q i))]))] [0,0,1,2,3,4,5,1,2,3,6,7,8,9,10,11,12,13,12,14,10,15,16,17,18,18,18,18,17,19,20,20,7,8,9,21,20,20,10,11,12,13,12,14,21,20,20,21,20,20,18,10,18,12,18,12,22,23,24,22,25,26,22,25,27]):=by kernel_rfl
theorem OB (g:Nat→aa) (nb N m:Nat) (F T Q FR F1 T1:Nat→Int) (a u at' w:Int) :
    zM 0 [rg 3,.dec true,rg 5,rm [(10,oc [] (jI w))] 1,rg 6,rg 2,.head] AH (Fx g nb N m F T Q FR F1 T1 a u at') [0,1,2,3,4,5,6] 1 (Fx g nb N m F T Q FR F1 (fun s=>if s=(FR at'.toNat).toNat then at' else T1 s) a u w) =
    some (AH,zD [((at' != a)=true),(IL 0 (at')),(IT (at') (N:Int)),(NT 0 1),(IL 0 (FR at'.toNat)),(IT (FR at'.toNat) (m:Int)),(IL 0 (Q (FR at'.toNat).toNat)),(IT (Q (FR at'.toNat).toNat) (nb:Int)),zE 131 [.agg [jI ((g (Q (FR at'.toNat).toNat).toNat).1),jI ((g (Q (FR at'.toNat).toNat).toNat).2.1)],jI at'] [] (jI w),(NT ((FR at'.toNat).toNat) m),((false=true)→((m:Nat)=1)),(AI ((N:Int))),(AN nb),(AP nb (aF g)),(AN N),(AP N (fun i=>[.int .i64 (F i)])),(AN m),(AP m (fun i=>[.int .i64 (T i)])),(AP m (fun i=>[.int .i64 (Q i)])),(AP N (fun i=>[.int .i64 (FR i)])),(AI a),(AI u),(AN 0),(AI w),(AN 2),(NL 1 1),(AN 3),(AN 1),(NL N N),(AA N (fun i=>[.p (.int .i64 (F1 i))])),(NL m m),(CV [(5,⟨false,1,m,(fun i_1=>(if (i_1=(FR at'.toNat).toNat) then [.p (.int .i64 at')] else [.p (.int .i64 (T1 i_1))]))⟩),(0,⟨true,2,1,(fun i_1=>[.p (.int .i64 (N:Int)),.p (.seq true 2 nb (aF g))])⟩),(1,⟨true,3,1,(fun i_1=>[.p (.seq true 1 N (fun i_2=>[.int .i64 (F i_2)])),.p (.seq true 1 m (fun i_2=>[.int .i64 (T i_2)])),.p (.seq true 1 m (fun i_2=>[.int .i64 (Q i_2)]))])⟩),(2,⟨true,3,1,(fun i_1=>[.p (.nil),.p (.nil),.p (.nil)])⟩),(3,⟨true,3,1,(fun i_1=>[.ar 1 4 0 N,.ar 1 5 0 m,.ar 1 6 0 m])⟩),(4,⟨false,1,N,(fun i_1=>[.p (.int .i64 (F1 i_1))])⟩),(6,⟨false,1,m,(fun i_1=>[.p (.int .i64 (Q i_1))])⟩)] [0,1,2,3,4,5,6] 1 m (fun i=>if (i=(FR at'.toNat).toNat) then [.p (.int .i64 at')] else [.p (.int .i64 (T1 i))]) (fun i=>[.p (.int .i64 (if i=(FR at'.toNat).toNat then at' else T1 i))])),(AA m (fun i=>[.p (.int .i64 (Q i))]))] [0,1,2,3,3,4,5,6,7,8,3,4,5,9,10,11,12,13,14,15,16,17,16,18,14,19,20,21,22,22,22,22,23,24,25,25,11,12,13,26,25,25,14,15,16,17,16,18,26,25,25,26,25,25,22,14,22,16,22,16,27,28,29,27,30,31,27,30,32]):=by kernel_rfl
theorem NK (g:Nat→aa) (nb N m:Nat) (F T Q FR F1 T1:Nat→Int) (a u at':Int) :
    zP Tryz.f132 0 [rg 3,.dec false,rg 2] AH (Fx g nb N m F T Q FR F1 T1 a u at') [4,5,6] 1 (bl N m F1 T1 Q) (bf N m 0) =
    some (zD [((at' != a)=false),(NT 0 1),((true=true)→(AN 1)),(AN 0),(AN N),(AN m),(AN 1),(NL N N),(AA N (fun i=>[.p (.int .i64 (F1 i))])),(NL m m),(AA m (fun i=>[.p (.int .i64 (T1 i))])),(AA m (fun i=>[.p (.int .i64 (Q i))])),(AE N),(AE m)] [0,1,1,2,1,3,4,3,5,3,5,6,7,8,6,9,10,6,9,11,12,13,13]):=by kernel_rfl
theorem Mt (g:Nat→aa) (nb N m:Nat) (F T Q:Nat→Int) (a b:Int) :
    zM 3 [rg 4,rg 4,rg 1,.head] [.code (ab Tryz.f121)] (start Tryz.f121 (bl N m F T Q) 3 [bi g nb N,bf N m 0,jI a,jI b]) [0,1,2,3,35,67,195] 1 (GN g nb N m F T Q a b 0) =
    some (zw,zD [(NT 0 1),(IL 0 (N:Int)),(IL (N:Int) (N:Int)),(IL ((N:Int)*(↑8:Int)) 281474976710656),(au (N:Int)),(AI ((N:Int))),(AN nb),(AP nb (aF g)),(AN 0),(AN N),(AN m),(AI a),(AI b),((0:Int)=(↑0:Int)),(AN 1),(NL N N),(AA N (fun i=>[.p (.int .i64 (F i))])),(NL m m),(AA m (fun i=>[.p (.int .i64 (T i))])),(AA m (fun i=>[.p (.int .i64 (Q i))])),((([AV.p (PV.int IntKind.i64 (N:Int)),b4 g nb].length):Nat)=2),(NL 1 1),((([AV.ar 1 (Id.mk 0 none) 0 N,AV.ar 1 (Id.mk 1 none) 0 m,AV.ar 1 (Id.mk 2 none) 0 m].length):Nat)=3),((((List.map (fun v=>AV.p (bZ v)) [Value.slice none 0 0,Value.slice none 0 0,Value.slice none 0 0]).length):Nat)=3),(∀ i:Nat,(((i:Nat)<N)→(af []∧(([.p (.int .i64 0)]:List AV)=[.p (.int .i64 (if i<0 then -1 else 0))]))))] [0,1,2,3,4,5,6,7,8,9,8,10,8,10,11,12,8,8,8,8,9,13,14,15,16,14,17,18,14,17,19,20,21,21,5,6,7,22,21,21,8,9,8,10,8,10,23,21,21,14,15,24]):=by kernel_rfl
theorem Oa (g:Nat→aa) (nb N m:Nat) (F T Q:Nat→Int) (a b:Int) (i:Nat) :
    zM 3 [rg 4,.dec true,rg 4,rg 3,.head] zw (GN g nb N m F T Q a b i) [0,1,2,3,4,5,6] 1 (GN g nb N m F T Q a b (i+1)) =
    some (zw,zD [(NT 0 1),((decide ((i:Int)<(N:Int)))=true),(IL 0 (i:Int)),(IT (i:Int) (N:Int)),(NT i N),((false=true)→((N:Nat)=1)),(ax ((i:Int)+1)),(au ((i:Int)+1)),(AI ((N:Int))),(AN nb),(AP nb (aF g)),(AN 0),(AN N),(AN m),(AI a),(AI b),((((i:Int)+1):Int)=(↑(i+1):Int)),(AN 1),(NL N N),(AA N (fun i_1=>[.p (.int .i64 (F i_1))])),(NL m m),(AA m (fun i_1=>[.p (.int .i64 (T i_1))])),(AA m (fun i_1=>[.p (.int .i64 (Q i_1))])),(AN 2),(NL 1 1),(AN 3),(CV [(6,⟨false,1,N,(fun i_2=>(if (i_2=i) then [.p (.int .i64 (-1))] else [.p (.int .i64 (if i_2<i then -1 else 0))]))⟩),(0,⟨false,1,N,(fun i_2=>[.p (.int .i64 (F i_2))])⟩),(1,⟨false,1,m,(fun i_2=>[.p (.int .i64 (T i_2))])⟩),(2,⟨false,1,m,(fun i_2=>[.p (.int .i64 (Q i_2))])⟩),(3,⟨true,2,1,(fun i_2=>[.p (.int .i64 (N:Int)),.p (.seq true 2 nb (aF g))])⟩),(4,⟨true,3,1,(fun i_2=>[.ar 1 0 0 N,.ar 1 1 0 m,.ar 1 2 0 m])⟩),(5,⟨true,3,1,(fun i_2=>[.p (.nil),.p (.nil),.p (.nil)])⟩)] [0,1,2,3,4,5,6] 1 N (fun i_1=>if (i_1=i) then [.p (.int .i64 (-1))] else [.p (.int .i64 (if i_1<i then -1 else 0))]) (fun i_1=>[.p (.int .i64 (if i_1<i+1 then -1 else 0))]))] [0,1,2,3,4,5,6,7,8,9,10,11,12,11,13,11,13,14,15,11,11,11,11,12,16,17,18,19,17,20,21,17,20,22,23,24,24,8,9,10,25,24,24,11,12,11,13,11,13,25,24,24,17,18,26]):=by kernel_rfl
theorem Hv (g:Nat→aa) (nb N m:Nat) (F T Q:Nat→Int) (a b:Int) (i:Nat) :
    zM 3 [rg 4,.dec false,rg 3,rg 4,rg 4,rg 1,.head] zw (GN g nb N m F T Q a b i) [0,1,2,3,4,5,6,295,167] 1 (Ge g nb N m F T Q (fun _=>a) (fun _=>-1) (fun s=>if s=a.toNat then true else false) a b 0 1) =
    some (B2,zD [(NT 0 1),((decide ((i:Int)<(N:Int)))=false),(IL 0 (N:Int)),(IL (N:Int) (N:Int)),(IL ((N:Int)*(↑1:Int)) 281474976710656),(au (N:Int)),(IL 0 a),(IT a (N:Int)),(NT a.toNat N),((false=true)→((N:Nat)=1)),(AI ((N:Int))),(AN nb),(AP nb (aF g)),(AN 0),(AN N),(AN m),(AI a),(AI b),(AN 1),((0:Int)=(↑0:Int)),(NL N N),(AA N (fun i_1=>[.p (.int .i64 (F i_1))])),(NL m m),(AA m (fun i_1=>[.p (.int .i64 (T i_1))])),(AA m (fun i_1=>[.p (.int .i64 (Q i_1))])),(AN 2),(NL 1 1),(AN 3),(∀ i_1:Nat,(((i_1:Nat)<N)→(af []∧(([.p (.int .i64 (if i_1<i then -1 else 0))]:List AV)=[.p (.int .i64 (-1))])))),(CV [(295,⟨false,1,N,(fun i_2=>(if (i_2=a.toNat) then [.p (.bool true)] else [.p (.bool false)]))⟩),(167,⟨false,1,1,(fun i_2=>[.p (.int .i64 a)])⟩),(0,⟨false,1,N,(fun i_2=>[.p (.int .i64 (F i_2))])⟩),(1,⟨false,1,m,(fun i_2=>[.p (.int .i64 (T i_2))])⟩),(2,⟨false,1,m,(fun i_2=>[.p (.int .i64 (Q i_2))])⟩),(3,⟨true,2,1,(fun i_2=>[.p (.int .i64 (N:Int)),.p (.seq true 2 nb (aF g))])⟩),(4,⟨true,3,1,(fun i_2=>[.ar 1 0 0 N,.ar 1 1 0 m,.ar 1 2 0 m])⟩),(5,⟨true,3,1,(fun i_2=>[.p (.nil),.p (.nil),.p (.nil)])⟩),(6,⟨false,1,N,(fun i_2=>[.p (.int .i64 (if i_2<i then -1 else 0))])⟩)] [0,1,2,3,4,5,6,295,167] 1 N (fun i_1=>if (i_1=a.toNat) then [.p (.bool true)] else [.p (.bool false)]) (fun i_1=>[.p (.bool (if i_1=a.toNat then true else false))])),(AA 1 (fun i_1=>[.p (.int .i64 a)]))] [0,1,0,2,3,4,5,6,7,8,9,10,11,12,13,14,13,15,13,15,16,17,13,13,13,13,14,13,18,13,14,19,18,20,21,18,22,23,18,22,24,25,26,26,10,11,12,27,26,26,13,14,13,15,13,15,27,26,26,18,20,28,18,20,29,18,26,30]):=by kernel_rfl
theorem LO (g:Nat→aa) (nb N m:Nat) (F T Q td FR:Nat→Int) (SN:Nat→Bool) (a b:Int) (i tn:Nat) :
    zM 3 [rg 4,.dec true,rg 5,rg 1,.head] B2 (Ge g nb N m F T Q td FR SN a b i tn) [0,1,2,3,4,5,6,7,8] 1 (BE g nb N m F T Q td FR SN a b (td i) i 0 tn) =
    some (qm,zD [((decide ((i:Int)<(tn:Int)))=true),(IL 0 (i:Int)),(IT (i:Int) (tn:Int)),(NT i tn),(AI ((N:Int))),(AN nb),(AP nb (aF g)),(AN 0),(AN N),(AN m),(AI a),(AI b),(AN tn),(AI ((i:Int))),(AI ((td i))),((0:Int)=(↑0:Int)),(AN 1),(NL N N),(AA N (fun i_1=>[.p (.int .i64 (F i_1))])),(NL m m),(AA m (fun i_1=>[.p (.int .i64 (T i_1))])),(AA m (fun i_1=>[.p (.int .i64 (Q i_1))])),(AN 2),(NL 1 1),(AN 3),(AA N (fun i_1=>[.p (.int .i64 (FR i_1))])),(AA N (fun i_1=>[.p (.bool (SN i_1))])),(NL tn tn),(AA tn (fun i_1=>[.p (.int .i64 (td i_1))]))] [0,1,2,3,4,5,6,7,8,7,9,7,9,10,11,7,7,7,7,8,7,12,7,8,13,14,15,16,17,18,16,19,20,16,19,21,22,23,23,4,5,6,24,23,23,7,8,7,9,7,9,24,23,23,16,17,25,16,17,26,16,27,28]):=by kernel_rfl
theorem Ir (g:Nat→aa) (nb N m:Nat) (F T Q td FR:Nat→Int) (SN:Nat→Bool) (a b:Int) (i tn:Nat) :
    zP Tryz.f121 3 [rg 4,.dec false,rg 3] B2 (Ge g nb N m F T Q td FR SN a b i tn) [0,1,2] 1 (bl N m F T Q) (.tup [bf N m 0,jB false]) =
    some (zD [((decide ((i:Int)<(tn:Int)))=false),(NT 0 1),((true=true)→(AN 1)),(AN 0),(AN N),(AN m),(false=false),(AN 1),(NL N N),(AA N (fun i_1=>[.p (.int .i64 (F i_1))])),(NL m m),(AA m (fun i_1=>[.p (.int .i64 (T i_1))])),(AA m (fun i_1=>[.p (.int .i64 (Q i_1))])),(AE N),(AE m)] [0,1,1,2,1,3,4,3,5,3,5,6,7,8,9,7,10,11,7,10,12,13,14,14]):=by kernel_rfl
theorem HZ (g:Nat→aa) (nb N m:Nat) (F T Q td FR:Nat→Int) (SN:Nat→Bool) (a b v:Int) (i j tn:Nat) :
    zM 3 [rg 5,.dec false,rg 3,.head] qm (BE g nb N m F T Q td FR SN a b v i j tn) [0,1,2,3,4,5,6,7,8] 1 (Ge g nb N m F T Q td FR SN a b (i+1) tn) =
    some (B2,zD [(NT 0 1),((decide ((j:Int)<(m:Int)))=false),(ax ((i:Int)+1)),(au ((i:Int)+1)),(AI ((N:Int))),(AN nb),(AP nb (aF g)),(AN 0),(AN N),(AN m),(AI a),(AI b),(AN tn),((((i:Int)+1):Int)=(↑(i+1):Int)),(AN 1),(NL N N),(AA N (fun i_1=>[.p (.int .i64 (F i_1))])),(NL m m),(AA m (fun i_1=>[.p (.int .i64 (T i_1))])),(AA m (fun i_1=>[.p (.int .i64 (Q i_1))])),(AN 2),(NL 1 1),(AN 3),(AA N (fun i_1=>[.p (.int .i64 (FR i_1))])),(AA N (fun i_1=>[.p (.bool (SN i_1))])),(NL tn tn),(AA tn (fun i_1=>[.p (.int .i64 (td i_1))]))] [0,1,2,3,4,5,6,7,8,7,9,7,9,10,11,7,7,7,7,8,7,12,7,8,13,14,15,16,14,17,18,14,17,19,20,21,21,4,5,6,22,21,21,7,8,7,9,7,9,22,21,21,14,15,23,14,15,24,14,25,26]):=by kernel_rfl
theorem Jx (g:Nat→aa) (nb N m:Nat) (F T Q td FR:Nat→Int) (SN:Nat→Bool) (a b v:Int) (i j tn:Nat) :
    zM 3 [rg 5,.dec true,rg 7,.dec true,rg 3,.head] qm (BE g nb N m F T Q td FR SN a b v i j tn) [0,1,2,3,4,5,6,7,8] 1 (BE g nb N m F T Q td FR SN a b v i (j+1) tn) =
    some (qm,zD [(NT 0 1),((decide ((j:Int)<(m:Int)))=true),(IL 0 (j:Int)),(IT (j:Int) (m:Int)),(NT j m),((T j != v)=true),(ax ((j:Int)+1)),(au ((j:Int)+1)),(AI ((N:Int))),(AN nb),(AP nb (aF g)),(AN 0),(AN N),(AN m),(AI a),(AI b),(AN tn),(AI ((i:Int))),(AI v),((((j:Int)+1):Int)=(↑(j+1):Int)),(AN 1),(NL N N),(AA N (fun i_1=>[.p (.int .i64 (F i_1))])),(NL m m),(AA m (fun i_1=>[.p (.int .i64 (T i_1))])),(AA m (fun i_1=>[.p (.int .i64 (Q i_1))])),(AN 2),(NL 1 1),(AN 3),(AA N (fun i_1=>[.p (.int .i64 (FR i_1))])),(AA N (fun i_1=>[.p (.bool (SN i_1))])),(NL tn tn),(AA tn (fun i_1=>[.p (.int .i64 (td i_1))]))] [0,1,0,2,3,4,5,6,7,8,9,10,11,12,11,13,11,13,14,15,11,11,11,11,12,11,16,11,12,17,18,19,20,21,22,20,23,24,20,23,25,26,27,27,8,9,10,28,27,27,11,12,11,13,11,13,28,27,27,20,21,29,20,21,30,20,31,32]):=by kernel_rfl
theorem If (g:Nat→aa) (nb N m:Nat) (F T Q td FR:Nat→Int) (SN:Nat→Bool) (a b v u:Int) (i j tn:Nat) :
    zM 3 [rg 5,.dec true,rg 7,.dec false,rm [(10,oc [] (jI u))] 1,rg 4,.dec true,rg 3,.head] qm (BE g nb N m F T Q td FR SN a b v i j tn) [0,1,2,3,4,5,6,7,8] 1 (BE g nb N m F T Q td FR SN a b v i (j+1) tn) =
    some (qm,zD [(NT 0 1),((decide ((j:Int)<(m:Int)))=true),(IL 0 (j:Int)),(IT (j:Int) (m:Int)),(NT j m),((T j != v)=false),(IL 0 (Q j)),(IT (Q j) (nb:Int)),zE 131 [(oy g Q j),jI v] [] (jI u),(IL 0 u),(IT u (N:Int)),(NT u.toNat N),((SN u.toNat)=true),(ax ((j:Int)+1)),(au ((j:Int)+1)),(AI ((N:Int))),(AN nb),(AP nb (aF g)),(AN 0),(AN N),(AN m),(AI a),(AI b),(AN tn),(AI ((i:Int))),(AI v),((((j:Int)+1):Int)=(↑(j+1):Int)),(AN 1),(NL N N),(AA N (fun i_1=>[.p (.int .i64 (F i_1))])),(NL m m),(AA m (fun i_1=>[.p (.int .i64 (T i_1))])),(AA m (fun i_1=>[.p (.int .i64 (Q i_1))])),(AN 2),(NL 1 1),(AN 3),(AA N (fun i_1=>[.p (.int .i64 (FR i_1))])),(AA N (fun i_1=>[.p (.bool (SN i_1))])),(NL tn tn),(AA tn (fun i_1=>[.p (.int .i64 (td i_1))]))] [0,1,0,2,3,4,5,0,0,2,3,4,6,7,8,9,10,11,12,13,14,15,16,17,18,19,18,20,18,20,21,22,18,18,18,18,19,18,23,18,19,24,25,26,27,28,29,27,30,31,27,30,32,33,34,34,15,16,17,35,34,34,18,19,18,20,18,20,35,34,34,27,28,36,27,28,37,27,38,39]):=by kernel_rfl
theorem I6 (g:Nat→aa) (nb N m:Nat) (F T Q td FR:Nat→Int) (SN:Nat→Bool) (a b v u:Int) (i j tn:Nat) :
    zM 3 [rg 5,.dec true,rg 7,.dec false,rm [(10,oc [] (jI u))] 1,rg 4,.dec false,rg 4,rg 5,rg 11,.dec false,rg 5,rg 3,.head] qm (BE g nb N m F T Q td FR SN a b v i j tn) [0,1,2,3,4,5,6,7,1641] 1 (BE g nb N m F T Q (fun s=>if s<tn then td s else u) (fun s=>if s=u.toNat then j else FR s) (fun s=>if s=u.toNat then true else SN s) a b v i (j+1) (tn+1)) =
    some (qm,zD [(NT 0 1),((decide ((j:Int)<(m:Int)))=true),(IL 0 (j:Int)),(IT (j:Int) (m:Int)),(NT j m),((T j != v)=false),(IL 0 (Q j)),(IT (Q j) (nb:Int)),zE 131 [(oy g Q j),jI v] [] (jI u),(IL 0 u),(IT u (N:Int)),(NT u.toNat N),((SN u.toNat)=false),((false=true)→((N:Nat)=1)),(AG (u != b)),(((u != b)=true)→(NT 0 1)),(((u != b)=true)→(IL 0 u)),(((u != b)=true)→(IT u (N:Int))),(((u != b)=true)→(NT u.toNat N)),((bif u != b then decide (F (u.toNat+0)>0) else false)=false),(NL 1 1),(NL tn tn),(NL ((tn+1)*8) 140737488355328),(NL (tn+1) 9223372036854775807),(ax ((j:Int)+1)),(au ((j:Int)+1)),(AI ((N:Int))),(AN nb),(AP nb (aF g)),(AN 0),(AN N),(AN m),(AI a),(AI b),(AN ((tn+1))),(AI ((i:Int))),(AI v),((((j:Int)+1):Int)=(↑(j+1):Int)),(AN 1),(NL N N),(AA N (fun i_1=>[.p (.int .i64 (F i_1))])),(NL m m),(AA m (fun i_1=>[.p (.int .i64 (T i_1))])),(AA m (fun i_1=>[.p (.int .i64 (Q i_1))])),(AN 2),(AN 3),(CV [(1641,⟨false,1,(tn+1),(fun i_2=>(if (i_2<tn) then [.p (.int .i64 (td i_2))] else [.p (.int .i64 u)]))⟩),(1609,⟨false,1,1,(fun i_2=>[.p (.int .i64 u)])⟩),(6,⟨false,1,N,(fun i_2=>(if (i_2=u.toNat) then [.p (.int .i64 (j:Int))] else [.p (.int .i64 (FR i_2))]))⟩),(7,⟨false,1,N,(fun i_2=>(if (i_2=u.toNat) then [.p (.bool true)] else [.p (.bool (SN i_2))]))⟩),(0,⟨false,1,N,(fun i_2=>[.p (.int .i64 (F i_2))])⟩),(1,⟨false,1,m,(fun i_2=>[.p (.int .i64 (T i_2))])⟩),(2,⟨false,1,m,(fun i_2=>[.p (.int .i64 (Q i_2))])⟩),(3,⟨true,2,1,(fun i_2=>[.p (.int .i64 (N:Int)),.p (.seq true 2 nb (aF g))])⟩),(4,⟨true,3,1,(fun i_2=>[.ar 1 0 0 N,.ar 1 1 0 m,.ar 1 2 0 m])⟩),(5,⟨true,3,1,(fun i_2=>[.p (.nil),.p (.nil),.p (.nil)])⟩)] [0,1,2,3,4,5,6,7,1641] 1 N (fun i_1=>if (i_1=u.toNat) then [.p (.int .i64 (j:Int))] else [.p (.int .i64 (FR i_1))]) (fun i_1=>[.p (.int .i64 (if i_1=u.toNat then (j:Int) else FR i_1))])),(CV [(1641,⟨false,1,(tn+1),(fun i_2=>(if (i_2<tn) then [.p (.int .i64 (td i_2))] else [.p (.int .i64 u)]))⟩),(1609,⟨false,1,1,(fun i_2=>[.p (.int .i64 u)])⟩),(6,⟨false,1,N,(fun i_2=>(if (i_2=u.toNat) then [.p (.int .i64 (j:Int))] else [.p (.int .i64 (FR i_2))]))⟩),(7,⟨false,1,N,(fun i_2=>(if (i_2=u.toNat) then [.p (.bool true)] else [.p (.bool (SN i_2))]))⟩),(0,⟨false,1,N,(fun i_2=>[.p (.int .i64 (F i_2))])⟩),(1,⟨false,1,m,(fun i_2=>[.p (.int .i64 (T i_2))])⟩),(2,⟨false,1,m,(fun i_2=>[.p (.int .i64 (Q i_2))])⟩),(3,⟨true,2,1,(fun i_2=>[.p (.int .i64 (N:Int)),.p (.seq true 2 nb (aF g))])⟩),(4,⟨true,3,1,(fun i_2=>[.ar 1 0 0 N,.ar 1 1 0 m,.ar 1 2 0 m])⟩),(5,⟨true,3,1,(fun i_2=>[.p (.nil),.p (.nil),.p (.nil)])⟩)] [0,1,2,3,4,5,6,7,1641] 1 N (fun i_1=>if (i_1=u.toNat) then [.p (.bool true)] else [.p (.bool (SN i_1))]) (fun i_1=>[.p (.bool (if i_1=u.toNat then true else SN i_1))])),(NL (tn+1) (tn+1)),(CV [(1641,⟨false,1,(tn+1),(fun i_2=>(if (i_2<tn) then [.p (.int .i64 (td i_2))] else [.p (.int .i64 u)]))⟩),(1609,⟨false,1,1,(fun i_2=>[.p (.int .i64 u)])⟩),(6,⟨false,1,N,(fun i_2=>(if (i_2=u.toNat) then [.p (.int .i64 (j:Int))] else [.p (.int .i64 (FR i_2))]))⟩),(7,⟨false,1,N,(fun i_2=>(if (i_2=u.toNat) then [.p (.bool true)] else [.p (.bool (SN i_2))]))⟩),(0,⟨false,1,N,(fun i_2=>[.p (.int .i64 (F i_2))])⟩),(1,⟨false,1,m,(fun i_2=>[.p (.int .i64 (T i_2))])⟩),(2,⟨false,1,m,(fun i_2=>[.p (.int .i64 (Q i_2))])⟩),(3,⟨true,2,1,(fun i_2=>[.p (.int .i64 (N:Int)),.p (.seq true 2 nb (aF g))])⟩),(4,⟨true,3,1,(fun i_2=>[.ar 1 0 0 N,.ar 1 1 0 m,.ar 1 2 0 m])⟩),(5,⟨true,3,1,(fun i_2=>[.p (.nil),.p (.nil),.p (.nil)])⟩)] [0,1,2,3,4,5,6,7,1641] 1 (tn+1) (fun i_1=>if (i_1<tn) then [.p (.int .i64 (td i_1))] else [.p (.int .i64 u)]) (fun i_1=>[.p (.int .i64 (if i_1<tn then td i_1 else u))]))] [0,1,0,2,3,4,5,0,0,2,3,4,6,7,8,9,10,11,12,9,10,11,13,9,10,11,13,14,15,14,14,16,17,14,18,14,14,19,20,21,22,23,24,25,26,27,28,29,30,29,31,29,31,32,33,29,29,29,29,30,29,34,29,30,35,36,37,38,39,40,38,41,42,38,41,43,44,20,20,26,27,28,45,20,20,29,30,29,31,29,31,45,20,20,38,39,46,38,39,47,38,48,49]):=by kernel_rfl
theorem Hz (g:Nat→aa) (nb N m:Nat) (F T Q td FR:Nat→Int) (SN:Nat→Bool) (a b v u:Int) (i j tn:Nat) :
    zM 3 [rg 5,.dec true,rg 7,.dec false,rm [(10,oc [] (jI u))] 1,rg 4,.dec false,rg 4,rg 5,rg 11,.dec true,.head] qm (BE g nb N m F T Q td FR SN a b v i j tn) [0,1,2,3,4,5,6] 1 (JU g nb N m F T Q (fun s=>if s=u.toNat then j else FR s) a b u) =
    some (JK,zD [(NT 0 1),((decide ((j:Int)<(m:Int)))=true),(IL 0 (j:Int)),(IT (j:Int) (m:Int)),(NT j m),((T j != v)=false),(IL 0 (Q j)),(IT (Q j) (nb:Int)),zE 131 [(oy g Q j),jI v] [] (jI u),(IL 0 u),(IT u (N:Int)),(NT u.toNat N),((SN u.toNat)=false),((false=true)→((N:Nat)=1)),(AG (u != b)),(((u != b)=true)→(NT 0 1)),(((u != b)=true)→(IL 0 u)),(((u != b)=true)→(IT u (N:Int))),(((u != b)=true)→(NT u.toNat N)),((bif u != b then decide (F (u.toNat+0)>0) else false)=true),(AI ((N:Int))),(AN nb),(AP nb (aF g)),(AN 0),(AN N),(AN m),(AI a),(AI b),(AI u),(AN 1),(NL N N),(AA N (fun i_1=>[.p (.int .i64 (F i_1))])),(NL m m),(AA m (fun i_1=>[.p (.int .i64 (T i_1))])),(AA m (fun i_1=>[.p (.int .i64 (Q i_1))])),(AN 2),(NL 1 1),(AN 3),(CV [(6,⟨false,1,N,(fun i_2=>(if (i_2=u.toNat) then [.p (.int .i64 (j:Int))] else [.p (.int .i64 (FR i_2))]))⟩),(7,⟨false,1,N,(fun i_2=>(if (i_2=u.toNat) then [.p (.bool true)] else [.p (.bool (SN i_2))]))⟩),(0,⟨false,1,N,(fun i_2=>[.p (.int .i64 (F i_2))])⟩),(1,⟨false,1,m,(fun i_2=>[.p (.int .i64 (T i_2))])⟩),(2,⟨false,1,m,(fun i_2=>[.p (.int .i64 (Q i_2))])⟩),(3,⟨true,2,1,(fun i_2=>[.p (.int .i64 (N:Int)),.p (.seq true 2 nb (aF g))])⟩),(4,⟨true,3,1,(fun i_2=>[.ar 1 0 0 N,.ar 1 1 0 m,.ar 1 2 0 m])⟩),(5,⟨true,3,1,(fun i_2=>[.p (.nil),.p (.nil),.p (.nil)])⟩),(8,⟨false,1,tn,(fun i_2=>[.p (.int .i64 (td i_2))])⟩)] [0,1,2,3,4,5,6] 1 N (fun i_1=>if (i_1=u.toNat) then [.p (.int .i64 (j:Int))] else [.p (.int .i64 (FR i_1))]) (fun i_1=>[.p (.int .i64 (if i_1=u.toNat then (j:Int) else FR i_1))]))] [0,1,0,2,3,4,5,0,0,2,3,4,6,7,8,9,10,11,12,9,10,11,13,9,10,11,13,14,15,14,14,16,17,14,18,14,14,19,20,21,22,23,24,23,25,23,25,26,27,23,23,23,23,24,28,29,30,31,29,32,33,29,32,34,35,36,36,20,21,22,37,36,36,23,24,23,25,23,25,37,36,36,29,30,38]):=by kernel_rfl
theorem L3 (g:Nat→aa) (nb N m:Nat) (F T Q FR F1 T1:Nat→Int) (a b u:Int) :
    zP Tryz.f121 3 [rm [(5,oc (bl N m F1 T1 Q) (bf N m 0))] 2] JK (JU g nb N m F T Q FR a b u) [0,1,2,167,168,169] 1 (wd N m F T Q F1 T1 Q) (.tup [bf N m 3,jB true]) =
    some (zD [(NT 0 1),(AN 1),(NL N N),(NL m m),zE 132 [(ak N nb g),(lm N F m T Q),.p (.seq true 1 N (fun i=>[.int .i64 (FR i)])),jI a,jI u] (eb N F1 m T1 Q) (.agg [.ar 1 0 0 N,.ar 1 1 0 m,.ar 1 2 0 m]),((true=true)→(AN 1)),(AN 0),(AN N),(AN m),(true=true),(AA N (fun i=>[.p (.int .i64 (F i))])),(AA m (fun i=>[.p (.int .i64 (T i))])),(AA m (fun i=>[.p (.int .i64 (Q i))])),(AA N (fun i=>[.p (.int .i64 (F1 i))])),(AA m (fun i=>[.p (.int .i64 (T1 i))])),(AE N),(AE m)] [0,0,1,2,1,3,1,3,1,2,4,0,5,0,6,7,6,8,6,8,9,1,2,10,1,3,11,1,3,12,1,2,13,1,3,14,1,3,12,15,16,16,15,16,16]):=by kernel_rfl
theorem kT (x:aa) (v:Int) (h1:0≤x.1∧x.1≤1048576) (h2:0≤x.2.1∧x.2.1≤1048576) (h3:0≤v∧v≤1048576):zE 131 [jZ x,.p (.int .i64 v)] [] (.p (.int .i64 (x.1+x.2.1 - v))):=by
  refine aW Tryz.func131 (fun c hc=>?_)
  refine be Tryz.func131 hc (KP x v) ?_
  and_intros
  all_goals (first | exact zN | simp)
theorem iZ (N m:Nat) (F T Q:Nat→Int) (hN:N≤1048576) (hm:m≤1048576):zE 106 [eR N m F T Q] (bl N m F T Q) (bf N m 0):=by
  refine aW Tryz.func106 (fun c hc=>?_)
  refine bz Tryz.func106 hc (Na N m F T Q) ?_
  and_intros
  all_goals (first | exact zI | (intro i hi;simp [af]))
theorem vI {x:aa} {y z:Int} (h:y=x.1∨y=x.2.1) (hz:aw x y=z):x.1+x.2.1 - z=y∧x.1+x.2.1 - y=z:=by
  unfold aw at hz
  by_cases e:x.1=y
  · rw [if_pos e] at hz;omega
  · rw [if_neg e] at hz
    rcases h with h | h
    · exact absurd h.symm e
    · omega
theorem wW {N nb m:Nat} {g:Nat→aa} {F F0 F1 T Q td FR:Nat→Int} {a b u:Int} {tn:Nat} (h:BInv N m g F T Q td (fun s=>FR (td s).toNat) a b tn) (hN:N≤1048576) (hm:m≤1048576) (hnb:nb≤1048576)
    (hq:∀ j,j<m→0≤Q j∧Q j<nb) (hbar:∀ e,e<nb→0≤(g e).1∧(g e).1<(g e).2.1∧(g e).2.1<N) (hT:∀ j,j<m→T j=(g (Q j).toNat).1∨T j=(g (Q j).toNat).2.1) :
    ∀ s,s<tn→∀ T':Nat→Int,TInv m g T Q td (fun s=>FR (td s).toNat) T' u s→∃ T'' s',(∀ c,c.n=0→zR c 132 AH (Fx g nb N m F0 T Q FR F1 T' a u (td s)) (aS c (bl N m F1 T'' Q) (bf N m 0))) ∧
      TInv m g T Q td (fun s=>FR (td s).toNat) T'' u s'∧td s'=a:=by
  intro s
  induction s using Nat.strongRecOn with
  | ind s ih =>
    intro hs T' ht
    by_cases he:td s=a
    · refine ⟨T',s,fun c hc=>?_,ht,he⟩
      have hb:(td s != a)=false:=by simp [he]
      refine bz Tryz.func132 hc (NK g nb N m F0 T Q FR F1 T' a u (td s)) ?_
      and_intros
      all_goals (first | exact zI | (exact hb) | (intro i hi;simp [af]))
    · have hs1:1≤s:=by
        cases s with
        | zero=>exact absurd h.td0 he
        | succ s=>omega
      obtain ⟨j,hj,hVs,s',hs',hk,ht',hTj,hoth⟩:=ht.step h hs hs1
      have hVs:FR (td s).toNat=(j:Int):=hVs
      obtain ⟨T'',s'',hrun,h1,h2⟩:=ih s' hs' (by omega) _ ht'
      refine ⟨T'',s'',fun c hc=>?_,h1,h2⟩
      have hb:(td s != a)=true:=by simp [he]
      have hqj:=hq j hj
      have hbj:=hbar (Q j).toNat (by omega)
      have hrs:=h.rng s hs
      have hsum:=(vI (by rw [← hTj];exact hT j hj) hoth).1
      have hcon:=kT (g (Q j).toNat) (td s) (by omega) (by omega) (by omega)
      rw [hsum] at hcon
      refine a9 hc (OB g nb N m F0 T Q FR F1 T' a u (td s) (td s')) ?_ (by rw [hVs];simp only [Int.toNat_natCast];exact hrun c hc)
      and_intros
      all_goals (first | exact zI | (exact hb) | (rw [hVs];simp only [Int.toNat_natCast];omega) | (rw [hVs];simp only [Int.toNat_natCast];exact hcon) | (intro i hi;simp [af];done) | (simp only [hVs,Int.toNat_natCast];intro i hi;by_cases h:i=j<;>simp [h,ay,bh,tg,bu,af]))
theorem BInv.congrV {N m:Nat} {g:Nat→aa} {F T Q td V V':Nat→Int} {a b:Int} {tn:Nat} (h:BInv N m g F T Q td V a b tn) (hv:∀ s,s<tn→V s=V' s):BInv N m g F T Q td V' a b tn :=
  ⟨h.n1,h.td0,h.rng,h.inj,fun s h1 h2=>by rw [← hv s h2];exact h.par s h1 h2⟩
theorem rJ {N k nb m:Nat} {g:Nat→aa} {F T Q td FR:Nat→Int} {a b u:Int} {tn:Nat} (hp:PInv N k nb m g F T Q) (hk:k≤1048576) (hN:N≤1048576) (hm:m≤1048576) (hnb:nb≤1048576)
    (h:BInv N m g F T Q td (fun s=>FR (td s).toNat) a b (tn+1)) (htn:td tn=u) (ha:0≤a∧a<N) (hu:0≤u∧u<N) (hua:u≠a) :
    ∃ T'' s',zE 132 [bi g nb N,eR N m F T Q,gM N FR,.p (.int .i64 a),.p (.int .i64 u)] (bl N m (fun x=>if x=a.toNat then (if x=u.toNat then F x - 1 else F x)+1 else (if x=u.toNat then F x - 1 else F x)) T'' Q) (bf N m 0) ∧
      TInv m g T Q td (fun s=>FR (td s).toNat) T'' u s'∧td s'=a:=by
  have ht0:TInv m g T Q td (fun s=>FR (td s).toNat) T u tn:=⟨fun _ _ _=>rfl,hp.t,fun x=>by rw [htn];omega⟩
  obtain ⟨T'',s',hrun,h1,h2⟩:=wW (nb:=nb) (F0:=F) (F1:=fun x=>if x=a.toNat then (if x=u.toNat then F x - 1 else F x)+1 else (if x=u.toNat then F x - 1 else F x)) h hN hm hnb hp.q hp.bars hp.t tn (by omega) T ht0
  refine ⟨T'',s',?_,h1,h2⟩
  rw [htn] at hrun
  have hFa:=hp.le (v:=a.toNat) (by omega)
  have hFu:=hp.le (v:=u.toNat) (by omega)
  have hcc:=iZ N m F T Q hN hm
  refine aW Tryz.func132 (fun c hc=>?_)
  have hrun':=hrun c hc
  refine a9 hc (Ko g nb N m F T Q FR a u) ?_ ?_
  ·
    and_intros
    all_goals (first | exact zI | (exact hcc) | (intro i hi;simp [af];done) | (intro i hi;by_cases h:i=u.toNat<;>simp [h,ay,bh,tg,bu,af]))
  · have hF1:(fun s=>if s=u.toNat then F s - 1 else F s) a.toNat=F a.toNat:=by
      show (if a.toNat=u.toNat then F a.toNat - 1 else F a.toNat)=_
      rw [if_neg (by omega)]
    obtain ⟨F1,hF1d⟩:∃ F1:Nat→Int,F1=(fun s=>if s=u.toNat then F s - 1 else F s):=⟨_,rfl⟩
    have hFF:(fun x=>if x=a.toNat then (if x=u.toNat then F x - 1 else F x)+1 else (if x=u.toNat then F x - 1 else F x))=(fun s=>if s=a.toNat then F1 s+1 else F1 s):=by
      subst hF1d;rfl
    rw [hFF] at hrun' ⊢
    rw [← hF1d] at hF1 ⊢
    refine a9 hc (KL g nb N m F T Q FR F1 T a u) ?_ hrun'
    and_intros
    all_goals (first | exact zI | (rw [hF1];omega) | (intro i hi;simp [af];done) | (intro i hi;by_cases h:i=a.toNat<;>simp [h,ay,bh,tg,bu,af]))
inductive FindR (N k nb m:Nat) (g:Nat→aa) (F T Q:Nat→Int) (a b:Int):Hp→AV→Prop
  | yes (F' T':Nat→Int) (h:Moved N k nb m g F T Q a b F' T' true):FindR N k nb m g F T Q a b (wd N m F T Q F' T' Q) (.tup [bf N m 3,.p (.bool true)])
  | no (h:Moved N k nb m g F T Q a b F T false):FindR N k nb m g F T Q a b (bl N m F T Q) (.tup [bf N m 0,.p (.bool false)])
def GG (N k nb m:Nat) (g:Nat→aa) (F T Q:Nat→Int) (a b:Int) (i tn:Nat) (td FR:Nat→Int) (SN:Nat→Bool):Prop :=
  ∃ H' res,(∀ c,c.n=3→zR c 121 [.code (ao (ab Tryz.f121) [1,1,1,1,1,1,0,1,0,0]),.inLoop (ao (ab Tryz.f121) [1,1,1,1,1,1,0,1,0,0]),.inBlock 2,.code (ao (ab Tryz.f121) [1,1,1,1,1,1,1])] (Ge g nb N m F T Q td FR SN a b i tn) (aS c H' res))∧FindR N k nb m g F T Q a b H' res
def Ib (N k nb m:Nat) (g:Nat→aa) (F T Q:Nat→Int) (a b:Int) (i j tn:Nat) (td FR:Nat→Int) (SN:Nat→Bool):Prop :=
  ∃ H' res,(∀ c,c.n=3→zR c 121 [.code (ao (ab Tryz.f121) [1,1,1,1,1,1,0,1,0,0,1,0,0,1,1,0,0]),.inLoop (ao (ab Tryz.f121) [1,1,1,1,1,1,0,1,0,0,1,0,0,1,1,0,0]),.inBlock 4,.inBlock 3,.code (ao (ab Tryz.f121) [1,1,1,1,1,1,0,1,0,0,1,1]),.inLoop (ao (ab Tryz.f121) [1,1,1,1,1,1,0,1,0,0]),.inBlock 2,.code (ao (ab Tryz.f121) [1,1,1,1,1,1,1])] (BE g nb N m F T Q td FR SN a b (td i) i j tn) (aS c H' res))∧FindR N k nb m g F T Q a b H' res
def Ad (N:Nat) (td:Nat→Int) (SN:Nat→Bool) (tn:Nat):Prop:=∀ x:Nat,x<N→(SN x=true↔∃ s,s<tn∧td s=x)
theorem GF {N k nb m:Nat} {g:Nat→aa} {F T Q:Nat→Int} {a b:Int} (hp:PInv N k nb m g F T Q) (hk:k≤1048576) (hN:N≤1048576) (hm:m≤1048576) (hnb:nb≤1048576)
    (ha:0≤a∧a<N) (hb:0≤b∧b<N) (hab:a≠b) (i:Nat)
    (ih:∀ tn td FR SN,i+1≤tn→BInv N m g F T Q td (fun s=>FR (td s).toNat) a b tn→Ad N td SN tn→mQ F td b tn→tH m g T Q td (i+1) 0 tn→GG N k nb m g F T Q a b (i+1) tn td FR SN) :
    ∀ e j tn td FR SN,j+e=m→i<tn→BInv N m g F T Q td (fun s=>FR (td s).toNat) a b tn→Ad N td SN tn→mQ F td b tn→tH m g T Q td i j tn→Ib N k nb m g F T Q a b i j tn td FR SN:=by
  intro e
  induction e with
  | zero =>
    intro j tn td FR SN hj hi hbi hsn hz hcl
    have htn:=eL N tn td hbi.rng hbi.inj
    obtain ⟨H',res,hrun,hmv⟩:=ih tn td FR SN (by omega) hbi hsn hz (fun i' j' hij hi' hT=>by
      rcases hij with ⟨h1,h2⟩ | ⟨h1,h2⟩
      · by_cases e:i'=i
        · exact hcl i' j' (.inr ⟨e,by omega⟩) hi' hT
        · exact hcl i' j' (.inl ⟨by omega,h2⟩) hi' hT
      · omega)
    refine ⟨H',res,fun c hc=>?_,hmv⟩
    have hd:decide ((j:Int)<(m:Int))=false:=by simp;omega
    refine a9 hc (HZ g nb N m F T Q td FR SN a b (td i) i j tn) ?_ (hrun c hc)
    and_intros
    all_goals (first | exact zN | (intro i hi;simp [af]))
  | succ e ihe =>
    intro j tn td FR SN hj hi hbi hsn hz hcl
    have htn:=eL N tn td hbi.rng hbi.inj
    have hjm:j<m:=by omega
    have hd:decide ((j:Int)<(m:Int))=true:=by simp;omega
    have hq:=hp.q j hjm
    have hbar:=hp.bars (Q j).toNat (by omega)
    have hrg:=hbi.rng i hi
    by_cases hT:T j=td i
    · have ht1:(T j != td i)=false:=by simp [hT]
      obtain ⟨v,hv⟩:∃ v,aw (g (Q j).toNat) (td i)=v:=⟨_,rfl⟩
      have hvr:0≤v∧v<N:=by rw [← hv];exact vU hbar
      have hsum:=(vI (by rw [← hT];exact hp.t j hjm) hv).2
      have hcon:=kT (g (Q j).toNat) (td i) (by omega) (by omega) (by omega)
      rw [hsum] at hcon
      cases hh:SN v.toNat with
      | true =>
        obtain ⟨s,hs1,hs2⟩:=(hsn v.toNat (by omega)).1 hh
        obtain ⟨H',res,hrun,hmv⟩:=ihe (j+1) tn td FR SN (by omega) hi hbi hsn hz (fun i' j' hij hi' hTT=>by
          by_cases e:i'=i∧j'=j
          · obtain ⟨rfl,rfl⟩:=e
            exact ⟨s,hs1,by rw [hs2,hv];omega⟩
          · exact hcl i' j' (by omega) hi' hTT)
        refine ⟨H',res,fun c hc=>?_,hmv⟩
        refine a9 hc (If g nb N m F T Q td FR SN a b (td i) v i j tn) ?_ (hrun c hc)
        and_intros
        all_goals (first | exact zN | (exact ht1) | (exact hcon) | (exact hh) | (intro i hi;simp [af]))
      | false =>
        have hno:∀ s,s<tn→td s≠v:=by
          intro s hs e
          have:=(hsn v.toNat (by omega)).2 ⟨s,hs,by omega⟩
          rw [hh] at this;cases this
        have hadd0:=hbi.add hi hjm hT hv hvr hno
        have hadd:BInv N m g F T Q (fun s=>if s<tn then td s else v) (fun s=>(fun x=>if x=v.toNat then (j:Int) else FR x) ((fun s=>if s<tn then td s else v) s).toNat) a b (tn+1):=by
          refine hadd0.congrV (fun s hs=>?_)
          show (if s<tn then FR (td s).toNat else (j:Int))=(if (if s<tn then td s else v).toNat=v.toNat then (j:Int) else FR (if s<tn then td s else v).toNat)
          by_cases e:s<tn
          · have h1:=hno s e
            have h2:=hbi.rng s e
            rw [if_pos e,if_pos e,if_neg (show ¬ (td s).toNat=v.toNat by omega)]
          · rw [if_neg e,if_neg e,if_pos rfl]
        have hF:=hp.le (v:=v.toNat) (by omega)
        cases hcd:(bif v != b then decide (F v.toNat>0) else false) with
        | false =>
          have hzv:v=b∨F v.toNat=0:=by
            by_cases e:v=b
            · exact .inl e
            · right
              have:(v != b)=true:=by simp [e]
              rw [this] at hcd
              simp at hcd
              omega
          obtain ⟨H',res,hrun,hmv⟩:=ihe (j+1) (tn+1) (fun s=>if s<tn then td s else v) (fun x=>if x=v.toNat then (j:Int) else FR x) (fun s=>if s=v.toNat then true else SN s) (by omega) (by omega) hadd (fun x hx=>by
            show (if x=v.toNat then true else SN x)=true↔∃ s,s<tn+1∧(if s<tn then td s else v)=x
            by_cases e:x=v.toNat
            · rw [if_pos e]
              exact ⟨fun _=>⟨tn,by omega,by rw [if_neg (Nat.lt_irrefl tn)];omega⟩,fun _=>rfl⟩
            · rw [if_neg e,hsn x hx]
              constructor
              · rintro ⟨s,h1,h2⟩;exact ⟨s,by omega,by rw [if_pos h1];exact h2⟩
              · rintro ⟨s,h1,h2⟩
                by_cases e2:s<tn
                · rw [if_pos e2] at h2;exact ⟨s,e2,h2⟩
                · rw [if_neg e2] at h2;omega) (fun s h1 h2=>by
            show (if s<tn then td s else v)=b∨F (if s<tn then td s else v).toNat=0
            by_cases e:s<tn
            · rw [if_pos e];exact hz s h1 e
            · rw [if_neg e];exact hzv) (fun i' j' hij hi' hTT=>by
            have hi2:i'<tn:=by omega
            have hTT':T j'=td i':=by rw [hTT];show (if i'<tn then td i' else v)=_;rw [if_pos hi2]
            show ∃ s,s<tn+1∧(if s<tn then td s else v)=aw (g (Q j').toNat) (if i'<tn then td i' else v)
            rw [if_pos hi2]
            by_cases e:i'=i∧j'=j
            · obtain ⟨rfl,rfl⟩:=e
              exact ⟨tn,by omega,by rw [if_neg (Nat.lt_irrefl tn),hv]⟩
            · obtain ⟨s,h1,h2⟩:=hcl i' j' (by omega) hi2 hTT'
              exact ⟨s,by omega,by rw [if_pos h1];exact h2⟩)
          refine ⟨H',res,fun c hc=>?_,hmv⟩
          have hrun':=hrun c hc
          simp only [hi,if_true] at hrun'
          refine a9 hc (I6 g nb N m F T Q td FR SN a b (td i) v i j tn) ?_ hrun'
          and_intros
          all_goals (first | exact zI | (exact ht1) | (exact hcon) | (exact hh) | (exact hcd) | (intros;omega) | (intro i hi;simp [af];done) | (intro i hi;by_cases h:i<tn<;>simp [h,ay,bh,tg,bu,af];done) | (intro i hi;by_cases h:i=v.toNat<;>simp [h,ay,bh,tg,bu,af]))
        | true =>
          have hvb:v≠b:=by
            intro e
            rw [show (v != b)=false by simp [e]] at hcd
            cases hcd
          have hFv:F v.toNat≠0:=by
            intro e
            rw [show (v != b)=true by simp [hvb]] at hcd
            simp [e] at hcd
          have hva:v≠a:=by
            have:=hno 0 (by have:=hbi.n1;omega)
            rw [hbi.td0] at this
            exact Ne.symm this
          obtain ⟨T'',s',hcs,h1,h2⟩:=rJ (td:=fun s=>if s<tn then td s else v) (FR:=fun x=>if x=v.toNat then (j:Int) else FR x) (tn:=tn) hp hk hN hm hnb hadd (by show (if tn<tn then td tn else v)=v;rw [if_neg (Nat.lt_irrefl tn)]) ha hvr hva
          refine ⟨_,_,fun c hc=>?_,.yes _ T'' (oX hp ha hb hab hvr hva hvb hFv h1 h2)⟩
          refine a9 hc (Hz g nb N m F T Q td FR SN a b (td i) v i j tn) ?_ ?_
          ·
            and_intros
            all_goals (first | exact zI | (exact ht1) | (exact hcon) | (exact hh) | (exact hcd) | (intros;omega) | (intro i hi;simp [af];done) | (intro i hi;by_cases h:i=v.toNat<;>simp [h,ay,bh,tg,bu,af]))
          · refine bz Tryz.func121 hc (L3 g nb N m F T Q (fun s=>if s=v.toNat then (j:Int) else FR s) _ T'' a b v) ?_
            and_intros
            all_goals (first | exact zI | (exact hcs) | (intro i hi;simp [af]))
    · have ht1:(T j != td i)=true:=by simp [hT]
      obtain ⟨H',res,hrun,hmv⟩:=ihe (j+1) tn td FR SN (by omega) hi hbi hsn hz (fun i' j' hij hi' hTT=>by
        by_cases e:i'=i∧j'=j
        · obtain ⟨rfl,rfl⟩:=e
          exact absurd hTT hT
        · exact hcl i' j' (by omega) hi' hTT)
      refine ⟨H',res,fun c hc=>?_,hmv⟩
      refine a9 hc (Jx g nb N m F T Q td FR SN a b (td i) i j tn) ?_ (hrun c hc)
      and_intros
      all_goals (first | exact zN | (exact ht1) | (intro i hi;simp [af]))
theorem Fz {N k nb m:Nat} {g:Nat→aa} {F T Q:Nat→Int} {a b:Int} (hp:PInv N k nb m g F T Q) (hk:k≤1048576) (hN:N≤1048576) (hm:m≤1048576) (hnb:nb≤1048576)
    (ha:0≤a∧a<N) (hb:0≤b∧b<N) (hab:a≠b):∀ d i tn td FR SN,N+1≤i+d→i≤tn→BInv N m g F T Q td (fun s=>FR (td s).toNat) a b tn→Ad N td SN tn→mQ F td b tn→tH m g T Q td i 0 tn→GG N k nb m g F T Q a b i tn td FR SN:=by
  intro d
  induction d with
  | zero =>
    intro i tn td FR SN hd hi hbi _ _ _
    have:=eL N tn td hbi.rng hbi.inj
    omega
  | succ d ih =>
    intro i tn td FR SN hd hi hbi hsn hz hcl
    have htn:=eL N tn td hbi.rng hbi.inj
    by_cases hit:i<tn
    · have hd':decide ((i:Int)<(tn:Int))=true:=by simp;omega
      obtain ⟨H',res,hrun,hmv⟩:=GF hp hk hN hm hnb ha hb hab i (fun tn td FR SN h1 h2 h3 h4 h5=>ih (i+1) tn td FR SN (by omega) h1 h2 h3 h4 h5) m 0 tn td FR SN (by omega) hit hbi hsn hz hcl
      refine ⟨H',res,fun c hc=>?_,hmv⟩
      refine a9 hc (LO g nb N m F T Q td FR SN a b i tn) ?_ (hrun c hc)
      and_intros
      all_goals (first | exact zN | (intro i hi;simp [af]))
    · have hd':decide ((i:Int)<(tn:Int))=false:=by simp;omega
      obtain rfl:i=tn:=by omega
      refine ⟨_,_,fun c hc=>?_,.no (qR hp hbi hz hcl)⟩
      refine bz Tryz.func121 hc (Ir g nb N m F T Q td FR SN a b i i) ?_
      and_intros
      all_goals (first | exact zI | (intro i hi;simp [af]))
theorem mK {N k nb m:Nat} {g:Nat→aa} {F T Q:Nat→Int} {a b:Int} (hp:PInv N k nb m g F T Q) (hk:k≤1048576) (hN:N≤1048576) (hm:m≤1048576) (hnb:nb≤1048576)
    (ha:0≤a∧a<N) (hb:0≤b∧b<N) (hab:a≠b):∃ H' res,Con Tryz.prog 121 3 (bl N m F T Q) [bi g nb N,bf N m 0,.p (.int .i64 a),.p (.int .i64 b)] H' res∧FindR N k nb m g F T Q a b H' res:=by
  obtain ⟨H',res,hrun,hmv⟩:=Fz hp hk hN hm hnb ha hb hab (N+1) 0 1 (fun _=>a) (fun _=>-1) (fun s=>if s=a.toNat then true else false) (by omega) (by omega)
    ⟨by omega,rfl,fun s hs=>ha,fun s s' h1 h2=>by omega,fun s h1 h2=>by omega⟩ (fun x hx=>by
      show (if x=a.toNat then true else false)=true↔∃ s,s<1∧a=x
      by_cases e:x=a.toNat
      · rw [if_pos e];exact ⟨fun _=>⟨0,by omega,by omega⟩,fun _=>rfl⟩
      · rw [if_neg e];exact ⟨(fun h=>by cases h),(fun ⟨s,h1,h2⟩=>by omega)⟩) (fun s h1 h2=>by omega) (fun i' j' h=>by omega)
  refine ⟨H',res,?_,hmv⟩
  refine aW Tryz.func121 (fun c hc=>?_)
  have lp0:∀ d i,i+d=N→zR c 121 zw (GN g nb N m F T Q a b i) (aS c H' res):=by
    intro d
    induction d with
    | zero =>
      intro i hi
      obtain rfl:i=N:=by omega
      have hd:decide ((i:Int)<(i:Int))=false:=by simp
      refine a9 hc (Hv g nb i m F T Q a b i) ?_ (hrun c hc)
      and_intros
      iterate 2 all_goals (first | exact zI | (intro j hj;simp [af];done) | (intro j hj;simp [hj,af];done) | (intro j hj;by_cases h:j=a.toNat<;>simp [h,ay,bh,tg,bu,af]) | simp only [af])
    | succ d ih =>
      intro i hi
      have hd:decide ((i:Int)<(N:Int))=true:=by simp;omega
      refine a9 hc (Oa g nb N m F T Q a b i) ?_ (ih (i+1) (by omega))
      and_intros
      all_goals (first | exact zI | (intro j hj;simp [af];done) | (intro j hj;by_cases h:j=i<;>simp [h,Nat.lt_succ_iff_lt_or_eq,ay,bh,tg,bu,af]))
  refine a9 hc (Mt g nb N m F T Q a b) ?_ (lp0 N 0 (by omega))
  and_intros
  iterate 2 all_goals (first | exact zN | (intro i hi;simp [af]) | simp only [af])
def iu (a b:aa):Bool:=bif decide (a.1<b.1) then true else bif a.1==b.1 then decide (a.2.1≤b.2.1) else false
def bS (x y:Int):Int:=if x<y then -1 else if x>y then 1 else 0
def cO (a b:aa):Int:=if bS a.1 b.1=0 then bS a.2.1 b.2.1 else bS a.1 b.1
def lg (N:Int) (g:Nat→aa) (k:Nat):Bool :=
  bif bif bif decide ((g k).1<0) then true else decide ((g k).1≥(g k).2.1) then true else decide ((g k).2.1≥N) then true
    else bif decide ((k:Int)>0) then !iu (g ((k:Int) - 1).toNat) (g k) else false
def b9 (N:Int) (g:Nat→aa):Nat→Bool
  | 0=>true
  | k+1=>b9 N g k&&!lg N g k
def ah (v:ai):Bool:=if bC v.1 1 8=true∧v.2.1.1≤24 then b9 v.1 v.2.1.2 v.2.1.1 else false
def lA (a:aa):AV:=.agg [.p (.int .i64 a.1),.p (.int .i64 a.2.1)]
def cJ (v:b5):AV:=.p (.seq true 2 v.1 (fun i=>[.int .i64 (v.2 i).1,.int .i64 (v.2 i).2.1]))
def aJ (v:ai):AV:=.agg [.p (.int .i64 v.1),cJ v.2.1]
def BI (v:ai):Ob:=⟨true,2,1,fun i=>[.p (.int .i64 v.1),cJ v.2.1]⟩
def EX (v:ai) (k:Nat):St :=
  ⟨[aJ v,.pt 2 0 0 0,.p .any,.p (.int .i64 k)]++List.replicate 55 ag,[(0,BI v)],1⟩
def Fc (v:ai) (k:Nat):St :=
  ⟨[aJ v,.pt 2 0 0 0]++List.replicate 14 ag++[cJ v.2.1,.p (.int .i64 v.2.1.1),.p (.int .i64 k)]++List.replicate 37 ag,[(0,BI v)],1⟩
theorem MK (a b:aa) :
    zS Tryz.f42 [rg 3,rg 20] [lA a,lA b] [] [] (jB (iu a b)) =
    some (zD (let A:Bool:=decide (a.1<b.1);let B:Bool:=!A&&a.1==b.1;[(NT 0 1),(AG (!A)),(((!A)=true)→(NT 0 1)),(AG B),((B=true)→(NT 0 1)),(((!A)=true)→(((a.1==b.1)=true)→(B=true))),((A=false)→((!A)=true)),((bif A then true else bif a.1==b.1 then decide (a.2.1≤b.2.1) else false)=(iu a b))]) [0,0,1,2,1,2,1,1,1,3,4,3,4,3,3,1,5,6,7]):=by kernel_rfl
theorem Hx (x y:Int) :
    zS Tryz.f93 [rg 1,rg 4,.dec true,rg 1] [jI x,jI y] [] [] (jI (-1)) =
    some [((decide (x<y))=true),(AI ((-1)))]:=by kernel_rfl
theorem IV (x y:Int) :
    zS Tryz.f93 [rg 1,rg 4,.dec false,rg 4,.dec true,rg 1] [jI x,jI y] [] [] (jI 1) =
    some [((decide (x<y))=false),((decide (x>y))=true),(AI 1)]:=by kernel_rfl
theorem IS (x y:Int) :
    zS Tryz.f93 [rg 1,rg 4,.dec false,rg 4,.dec false,rg 1] [jI x,jI y] [] [] (jI 0) =
    some [((decide (x<y))=false),((decide (x>y))=false),(AI 0)]:=by kernel_rfl
theorem Io (a b:aa) :
    zS Tryz.f59 [rg 3,rm [(4,oc [] (jI (bS a.1 b.1)))] 1,rg 2,.dec true,rg 2] [lA a,lA b] [] [] (jI (bS a.1 b.1)) =
    some [(NT 0 1),(NT 0 1),zE 93 [jI a.1,jI b.1] [] (jI (bS a.1 b.1)),((bS a.1 b.1 != 0)=true),(AI ((bS a.1 b.1)))]:=by kernel_rfl
theorem Jk (a b:aa) :
    zS Tryz.f59 [rg 3,rm [(4,oc [] (jI (bS a.1 b.1)))] 1,rg 2,.dec false,rm [(4,oc [] (jI (bS a.2.1 b.2.1)))] 1] [lA a,lA b] [] [] (jI (bS a.2.1 b.2.1)) =
    some [(NT 0 1),(NT 0 1),zE 93 [jI a.1,jI b.1] [] (jI (bS a.1 b.1)),((bS a.1 b.1 != 0)=false),(NT 0 1),(NT 0 1),zE 93 [jI a.2.1,jI b.2.1] [] (jI (bS a.2.1 b.2.1)),(AI ((bS a.2.1 b.2.1)))]:=by kernel_rfl
theorem IJ (v:ai) :
    zS Tryz.f10 [rg 2,rm [(2,oc [] (jB (bC v.1 1 8)))] 7,.dec true,rg 1] [aJ v] [] [] (jB false) =
    some (zD (let A:Bool:=bC v.1 1 8;[(NT 0 1),zE 41 [jI v.1,jI 1,jI 8] [] (jB (A)),(AG (!!A)),(((!!A)=true)→(NT 0 1)),(((!A)=false)→((!!A)=true)),((bif !A then true else decide ((v.2.1.1:Int)>24))=true),(false=false)]) [0,1,2,3,2,2,4,5,6]):=by kernel_rfl
theorem Hg (v:ai) :
    zT Tryz.f10 [rg 2,rm [(2,oc [] (jB (bC v.1 1 8)))] 7,.dec false,rg 1,.head] [aJ v] [0] (EX v 0) =
    some (yj,zD (let A:Bool:=bC v.1 1 8;[(NT 0 1),zE 41 [jI v.1,jI 1,jI 8] [] (jB (A)),(AG (!!A)),(((!!A)=true)→(NT 0 1)),(((!A)=false)→((!!A)=true)),((bif !A then true else decide ((v.2.1.1:Int)>24))=false),(AI v.1),(AN v.2.1.1),(AP v.2.1.1 (aF v.2.1.2)),(AN 0),((0:Int)=(↑0:Int)),((([AV.p (PV.int IntKind.i64 v.1),cJ v.2.1].length):Nat)=2),(NL 1 1)]) [0,1,2,3,2,2,4,5,6,7,8,9,10,11,12,12,6,7,8]):=by kernel_rfl
theorem Ht (v:ai) (k:Nat) :
    zM 0 [rg 5,.dec true,rg 7,rm [(28,oc [] (jB (iu (v.2.1.2 ((k:Int) - 1).toNat) (v.2.1.2 k))))] 3,.dec false,rg 3,.head] yj (EX v k) [0] 1 (EX v (k+1)) =
    some (yj,zD (let D:Bool:=decide ((sO v k).1<0);let B:Bool:=bif D then true else decide ((sO v k).1≥(sO v k).2.1);let A:Bool:=bif B then true else decide ((sO v k).2.1≥v.1);let E:Bool:=decide ((k:Int)>0);let C:Bool:=(!A)&&E;[(NT 0 1),((decide ((k:Int)<(v.2.1.1:Int)))=true),(IL 0 (k:Int)),(IT (k:Int) (v.2.1.1:Int)),((true=true)→(AN 1)),(AG (!D)),(((!D)=true)→(NT 0 1)),((D=false)→((!D)=true)),(AG (!B)),(((!B)=true)→(NT 0 1)),((B=false)→((!B)=true)),(AG (!A)),(AG C),((C=true)→(NT 0 1)),((C=true)→(ax ((k:Int) - 1))),((C=true)→(au ((k:Int) - 1))),((C=true)→(IL 0 ((k:Int) - 1))),((C=true)→(IT ((k:Int) - 1) (v.2.1.1:Int))),((C=true)→zE 42 [(wq v k),(pf v k)] [] (jB (iu (v.2.1.2 ((k:Int) - 1).toNat) (v.2.1.2 k)))),(((!A)=true)→((E=true)→(C=true))),((A=false)→((!A)=true)),((bif A then true else bif E then !iu (v.2.1.2 ((k:Int) - 1).toNat) (v.2.1.2 k) else false)=false),(ax ((k:Int)+1)),(au ((k:Int)+1)),(AI v.1),(AN v.2.1.1),(AP v.2.1.1 (aF v.2.1.2)),(AN 0),((((k:Int)+1):Int)=(↑(k+1):Int)),(AN 2),(NL 1 1)]) [0,1,0,2,3,0,4,0,5,6,5,6,5,5,7,8,9,8,9,8,8,10,11,11,12,13,12,14,15,12,12,16,17,12,13,12,12,18,12,11,19,20,21,22,23,24,25,26,27,28,29,30,30,24,25,26]):=by kernel_rfl
theorem HB (v:ai) (k:Nat) :
    zP Tryz.f10 0 [rg 5,.dec true,rg 7,rm [(28,oc [] (jB (iu (v.2.1.2 ((k:Int) - 1).toNat) (v.2.1.2 k))))] 3,.dec true,rg 1] yj (EX v k) [] 1 [] (jB false) =
    some (zD (let D:Bool:=decide ((sO v k).1<0);let B:Bool:=bif D then true else decide ((sO v k).1≥(sO v k).2.1);let A:Bool:=bif B then true else decide ((sO v k).2.1≥v.1);let E:Bool:=decide ((k:Int)>0);let C:Bool:=(!A)&&E;[(NT 0 1),((decide ((k:Int)<(v.2.1.1:Int)))=true),(IL 0 (k:Int)),(IT (k:Int) (v.2.1.1:Int)),((true=true)→(AN 1)),(AG (!D)),(((!D)=true)→(NT 0 1)),((D=false)→((!D)=true)),(AG (!B)),(((!B)=true)→(NT 0 1)),((B=false)→((!B)=true)),(AG (!A)),(AG C),((C=true)→(NT 0 1)),((C=true)→(ax ((k:Int) - 1))),((C=true)→(au ((k:Int) - 1))),((C=true)→(IL 0 ((k:Int) - 1))),((C=true)→(IT ((k:Int) - 1) (v.2.1.1:Int))),((C=true)→zE 42 [(wq v k),(pf v k)] [] (jB (iu (v.2.1.2 ((k:Int) - 1).toNat) (v.2.1.2 k)))),(((!A)=true)→((E=true)→(C=true))),((A=false)→((!A)=true)),((bif A then true else bif E then !iu (v.2.1.2 ((k:Int) - 1).toNat) (v.2.1.2 k) else false)=true),(false=false)]) [0,1,0,2,3,0,4,0,5,6,5,6,5,5,7,8,9,8,9,8,8,10,11,11,12,13,12,14,15,12,12,16,17,12,13,12,12,18,12,11,19,20,21,22]):=by kernel_rfl
theorem Jd (v:ai) (k:Nat) :
    zP Tryz.f10 0 [rg 5,.dec false,rg 1] yj (EX v k) [] 1 [] (jB true) =
    some [(NT 0 1),((decide ((k:Int)<(v.2.1.1:Int)))=false),(true=true)]:=by kernel_rfl
theorem G9 (v:ai) :
    zS Tryz.f23 [rg 2,rm [(2,oc [] (jB (bC v.1 1 8)))] 7,.dec true,rg 1] [aJ v] [] [] (jB false) =
    some (zD (let A:Bool:=bC v.1 1 8;[(NT 0 1),zE 58 [jI v.1,jI 1,jI 8] [] (jB (A)),(AG (!!A)),(((!!A)=true)→(NT 0 1)),(((!A)=false)→((!!A)=true)),((bif !A then true else decide ((v.2.1.1:Int)>24))=true),(false=false)]) [0,1,2,3,2,2,4,5,6]):=by kernel_rfl
theorem Jc (v:ai) :
    zT Tryz.f23 [rg 2,rm [(2,oc [] (jB (bC v.1 1 8)))] 7,.dec false,rg 4,.head] [aJ v] [0] (Fc v 0) =
    some (w8,zD (let A:Bool:=bC v.1 1 8;[(NT 0 1),zE 58 [jI v.1,jI 1,jI 8] [] (jB (A)),(AG (!!A)),(((!!A)=true)→(NT 0 1)),(((!A)=false)→((!!A)=true)),((bif !A then true else decide ((v.2.1.1:Int)>24))=false),(AI v.1),(AN v.2.1.1),(AP v.2.1.1 (aF v.2.1.2)),(AN 0),(AI ((v.2.1.1:Int))),((0:Int)=(↑0:Int)),((([AV.p (PV.int IntKind.i64 v.1),cJ v.2.1].length):Nat)=2),(NL 1 1)]) [0,1,2,3,2,2,4,5,0,6,7,8,9,7,8,10,11,12,13,13,6,7,8]):=by kernel_rfl
theorem Ja (v:ai) (k:Nat) :
    zM 0 [rg 1,.dec true,rg 6,rm [(28,oc [] (jI (cO (v.2.1.2 ((k:Int) - 1).toNat) (v.2.1.2 k))))] 3,.dec false,rg 2,.head] w8 (Fc v k) [0] 1 (Fc v (k+1)) =
    some (w8,zD (let D:Bool:=decide ((sO v k).1<0);let B:Bool:=bif D then true else decide ((sO v k).1≥(sO v k).2.1);let A:Bool:=bif B then true else decide ((sO v k).2.1≥v.1);let E:Bool:=decide ((k:Int)>0);let C:Bool:=(!A)&&E;[((decide ((k:Int)<(v.2.1.1:Int)))=true),(IL 0 (k:Int)),(IT (k:Int) (v.2.1.1:Int)),(NT 0 1),((true=true)→(AN 1)),(AG (!D)),(((!D)=true)→(NT 0 1)),((D=false)→((!D)=true)),(AG (!B)),(((!B)=true)→(NT 0 1)),((B=false)→((!B)=true)),(AG (!A)),(AG C),((C=true)→(NT 0 1)),((C=true)→(ax ((k:Int) - 1))),((C=true)→(au ((k:Int) - 1))),((C=true)→(IL 0 ((k:Int) - 1))),((C=true)→(IT ((k:Int) - 1) (v.2.1.1:Int))),((C=true)→zE 59 [(wq v k),(pf v k)] [] (jI (cO (v.2.1.2 ((k:Int) - 1).toNat) (v.2.1.2 k)))),(((!A)=true)→((E=true)→(C=true))),((A=false)→((!A)=true)),((bif A then true else bif E then decide (cO (v.2.1.2 ((k:Int) - 1).toNat) (v.2.1.2 k)>0) else false)=false),(ax ((k:Int)+1)),(au ((k:Int)+1)),(AI v.1),(AN v.2.1.1),(AP v.2.1.1 (aF v.2.1.2)),(AN 0),(AI ((v.2.1.1:Int))),((((k:Int)+1):Int)=(↑(k+1):Int)),(AN 2),(NL 1 1)]) [0,1,2,3,4,3,5,6,5,6,5,5,7,8,9,8,9,8,8,10,11,11,12,13,12,14,15,12,12,16,17,12,13,12,12,18,12,11,19,20,21,22,23,24,25,26,27,25,26,28,29,30,31,31,24,25,26]):=by kernel_rfl
theorem Hu (v:ai) (k:Nat) :
    zP Tryz.f23 0 [rg 1,.dec true,rg 6,rm [(28,oc [] (jI (cO (v.2.1.2 ((k:Int) - 1).toNat) (v.2.1.2 k))))] 3,.dec true,rg 1] w8 (Fc v k) [] 1 [] (jB false) =
    some (zD (let D:Bool:=decide ((sO v k).1<0);let B:Bool:=bif D then true else decide ((sO v k).1≥(sO v k).2.1);let A:Bool:=bif B then true else decide ((sO v k).2.1≥v.1);let E:Bool:=decide ((k:Int)>0);let C:Bool:=(!A)&&E;[((decide ((k:Int)<(v.2.1.1:Int)))=true),(IL 0 (k:Int)),(IT (k:Int) (v.2.1.1:Int)),(NT 0 1),((true=true)→(AN 1)),(AG (!D)),(((!D)=true)→(NT 0 1)),((D=false)→((!D)=true)),(AG (!B)),(((!B)=true)→(NT 0 1)),((B=false)→((!B)=true)),(AG (!A)),(AG C),((C=true)→(NT 0 1)),((C=true)→(ax ((k:Int) - 1))),((C=true)→(au ((k:Int) - 1))),((C=true)→(IL 0 ((k:Int) - 1))),((C=true)→(IT ((k:Int) - 1) (v.2.1.1:Int))),((C=true)→zE 59 [(wq v k),(pf v k)] [] (jI (cO (v.2.1.2 ((k:Int) - 1).toNat) (v.2.1.2 k)))),(((!A)=true)→((E=true)→(C=true))),((A=false)→((!A)=true)),((bif A then true else bif E then decide (cO (v.2.1.2 ((k:Int) - 1).toNat) (v.2.1.2 k)>0) else false)=true),(false=false)]) [0,1,2,3,4,3,5,6,5,6,5,5,7,8,9,8,9,8,8,10,11,11,12,13,12,14,15,12,12,16,17,12,13,12,12,18,12,11,19,20,21,22]):=by kernel_rfl
theorem HQ (v:ai) (k:Nat) :
    zP Tryz.f23 0 [rg 1,.dec false,rg 1] w8 (Fc v k) [] 1 [] (jB true) =
    some [((decide ((k:Int)<(v.2.1.1:Int)))=false),(true=true)]:=by kernel_rfl
theorem hU (a b:aa):zE 42 [lA a,lA b] [] (.p (.bool (iu a b))):=by
  refine aW Tryz.func42 (fun c hc=>?_)
  refine bz Tryz.func42 hc (MK a b) ?_
  and_intros
  all_goals (first | exact zH)
theorem fY (x y:Int):zE 93 [.p (.int .i64 x),.p (.int .i64 y)] [] (.p (.int .i64 (bS x y))):=by
  refine aW Tryz.func93 (fun c hc=>?_)
  by_cases h1:x<y
  · rw [show bS x y = -1 by simp [bS,h1]]
    refine be Tryz.func93 hc (Hx x y) ?_
    and_intros
    all_goals (first | exact zN | (simp;omega))
  · by_cases h2:x>y
    · rw [show bS x y=1 by simp only [bS,h1,h2,if_true,if_false]]
      refine be Tryz.func93 hc (IV x y) ?_
      and_intros
      all_goals (first | exact zN | (simp;omega))
    · rw [show bS x y=0 by simp only [bS,h1,h2,if_false]]
      refine be Tryz.func93 hc (IS x y) ?_
      and_intros
      all_goals (first | exact zN | (simp;omega))
theorem gh (a b:aa):zE 59 [lA a,lA b] [] (.p (.int .i64 (cO a b))):=by
  refine aW Tryz.func59 (fun c hc=>?_)
  by_cases h1:bS a.1 b.1=0
  · rw [show cO a b=bS a.2.1 b.2.1 by simp [cO,h1]]
    refine be Tryz.func59 hc (Jk a b) ?_
    and_intros
    all_goals (first | exact zN | (exact fY _ _) | (simp [h1]))
  · rw [show cO a b=bS a.1 b.1 by simp [cO,h1]]
    refine be Tryz.func59 hc (Io a b) ?_
    and_intros
    all_goals (first | exact zN | (exact fY _ _) | (simp [h1]))
theorem vv (a b:aa):decide (cO a b>0)=!iu a b:=by
  simp only [cO,bS,iu]
  by_cases h1:a.1<b.1
  · simp [h1]
  · by_cases h2:a.1>b.1
    · have h3:¬ a.1=b.1:=by omega
      simp [h1,h2,h3]
    · have h3:a.1=b.1:=by omega
      simp only [h1,h2,h3,if_true,if_false]
      by_cases h4:a.2.1<b.2.1
      · have:a.2.1≤b.2.1:=by omega
        simp [h4,this]
      · by_cases h5:a.2.1>b.2.1
        · have:¬ a.2.1≤b.2.1:=by omega
          simp [h4,h5,this]
        · have:a.2.1≤b.2.1:=by omega
          simp [h4,h5,this]
theorem j8 (N:Int) (g:Nat→aa) (k:Nat) (h:lg N g k=true):∀ n,k<n→b9 N g n=false
  | 0,h'=>by omega
  | n+1,h'=>by
    by_cases e:k=n
    · subst e;simp [b9,h]
    · simp [b9,j8 N g k h n (by omega)]
theorem ig {b:Bool} {k n:Nat} (h:(b&&decide ((k:Int)>0))=true) (hk:k<n):0≤(k:Int) - 1∧(k:Int) - 1<n∧-9223372036854775808≤(k:Int) - 1∧(k:Int) - 1≤n:=by
  simp at h
  omega
theorem bH (v:ai) (hs:cP a6 v):zE 10 [aJ v] [] (.p (.bool (ah v))):=by
  refine aW Tryz.func10 (fun c hc=>?_)
  have hn:v.2.1.1≤1048576:=hs.2.1.1
  by_cases hz:bC v.1 1 8=true∧v.2.1.1≤24
  · rw [show ah v=b9 v.1 v.2.1.2 v.2.1.1 by rw [ah,if_pos hz]]
    have lp:∀ m k,k+m=v.2.1.1→b9 v.1 v.2.1.2 k=true→zR c 10 yj (EX v k) (aS c [] (.p (.bool (b9 v.1 v.2.1.2 v.2.1.1)))):=by
      intro m
      induction m with
      | zero =>
        intro k hk hg
        rw [show b9 v.1 v.2.1.2 v.2.1.1=true by rw [show v.2.1.1=k by omega];exact hg]
        have hd:decide ((k:Int)<(v.2.1.1:Int))=false:=by simp;omega
        refine be Tryz.func10 hc (Jd v k) ?_
        and_intros
        all_goals (first | exact zN)
      | succ m ih =>
        intro k hk hg
        have hd:decide ((k:Int)<(v.2.1.1:Int))=true:=by simp;omega
        have hkn:k<v.2.1.1:=by omega
        cases he:lg v.1 v.2.1.2 k with
        | true =>
          rw [j8 _ _ k he v.2.1.1 (by omega)]
          refine bz Tryz.func10 hc (HB v k) ?_
          and_intros
          all_goals (first | exact zH | (intros;exact hU _ _) | (exact he) | (intro h;have:=ig h hkn;omega))
        | false =>
          refine a9 hc (Ht v k) ?_ (ih (k+1) (by omega) (by simp [b9,hg,he]))
          and_intros
          all_goals (first | exact zH | (intros;exact hU _ _) | (exact he) | (intro h;have:=ig h hkn;omega) | (simp [af]))
    refine a9 hc (Hg v) ?_ (lp v.2.1.1 0 (by omega) rfl)
    and_intros
    all_goals (first | exact zH | (exact dY _ _ _) | (simp [hz.1];omega) | (simp [af]))
  · rw [show ah v=false by rw [ah,if_neg hz]]
    have hb:(bif !bC v.1 1 8 then true else decide ((v.2.1.1:Int)>24))=true:=by
      cases hi:bC v.1 1 8 with
      | false=>rfl
      | true =>
        have:¬ v.2.1.1≤24:=fun h=>hz ⟨hi,h⟩
        simp;omega
    refine bz Tryz.func10 hc (IJ v) ?_
    and_intros
    all_goals (first | exact zH | (exact dY _ _ _))
theorem aQ (v:ai) (hs:cP a6 v):zE 23 [aJ v] [] (.p (.bool (ah v))):=by
  refine aW Tryz.func23 (fun c hc=>?_)
  have hn:v.2.1.1≤1048576:=hs.2.1.1
  by_cases hz:bC v.1 1 8=true∧v.2.1.1≤24
  · rw [show ah v=b9 v.1 v.2.1.2 v.2.1.1 by rw [ah,if_pos hz]]
    have lp:∀ m k,k+m=v.2.1.1→b9 v.1 v.2.1.2 k=true→zR c 23 w8 (Fc v k) (aS c [] (.p (.bool (b9 v.1 v.2.1.2 v.2.1.1)))):=by
      intro m
      induction m with
      | zero =>
        intro k hk hg
        rw [show b9 v.1 v.2.1.2 v.2.1.1=true by rw [show v.2.1.1=k by omega];exact hg]
        have hd:decide ((k:Int)<(v.2.1.1:Int))=false:=by simp;omega
        refine be Tryz.func23 hc (HQ v k) ?_
        and_intros
        all_goals (first | exact zN)
      | succ m ih =>
        intro k hk hg
        have hd:decide ((k:Int)<(v.2.1.1:Int))=true:=by simp;omega
        have hkn:k<v.2.1.1:=by omega
        cases he:lg v.1 v.2.1.2 k with
        | true =>
          rw [j8 _ _ k he v.2.1.1 (by omega)]
          have he2:=he
          rw [lg,← vv] at he2
          refine bz Tryz.func23 hc (Hu v k) ?_
          and_intros
          all_goals (first | exact zH | (intros;exact gh _ _) | (exact he2) | (intro h;have:=ig h hkn;omega))
        | false =>
          have he2:=he
          rw [lg,← vv] at he2
          refine a9 hc (Ja v k) ?_ (ih (k+1) (by omega) (by simp [b9,hg,he]))
          and_intros
          all_goals (first | exact zH | (intros;exact gh _ _) | (exact he2) | (intro h;have:=ig h hkn;omega) | (simp [af]))
    refine a9 hc (Jc v) ?_ (lp v.2.1.1 0 (by omega) rfl)
    and_intros
    all_goals (first | exact zH | (exact bp _ _ _) | (simp [hz.1];omega) | (simp [af]))
  · rw [show ah v=false by rw [ah,if_neg hz]]
    have hb:(bif !bC v.1 1 8 then true else decide ((v.2.1.1:Int)>24))=true:=by
      cases hi:bC v.1 1 8 with
      | false=>rfl
      | true =>
        have:¬ v.2.1.1≤24:=fun h=>hz ⟨hi,h⟩
        simp;omega
    refine bz Tryz.func23 hc (G9 v) ?_
    and_intros
    all_goals (first | exact zH | (exact bp _ _ _))
def SH (g:Nat→aa) (nb N m:Nat) (F0 T0 F T Q:Nat→Int) (a b want:Int):St :=
  ⟨[bi g nb N,eR N m F0 T0 Q,.p (.int .i64 a),.p (.int .i64 b),.p (.int .i64 want),.pt 2 0 0 0,.pt 3 1 0 0,.p .any,.p .any,.p .any,.pt 3 2 0 0,.p .any,.pt 3 3 0 0]++List.replicate 40 ag,
   [(0,lz g nb N),(1,EQ N m F0 T0 Q),(2,Bu),(3,Cc N m 4),(4,aY N F),(5,aY m T),(6,aY m Q)],7⟩
def Hd (g:Nat→aa) (nb N k:Nat):St :=
  ⟨[.p .any,.p (.int .i64 k),.pt 2 0 0 0,.p .any,.pt 3 1 0 0,.p .any,.pt 3 2 0 0]++List.replicate 27 ag,
   [(0,lz g nb N),(1,Bu),(2,⟨true,3,1,fun _=>[.ar 1 3 0 0,.ar 1 4 0 0,.ar 1 5 0 0]⟩),(3,aY 0 (fun _=>k)),(4,aY 0 (fun _=>0)),(5,aY 0 (fun _=>0))],6⟩
def FX (g:Nat→aa) (nb N k i:Nat):St :=
  ⟨[.p .any,.p (.int .i64 k),.pt 2 0 0 0,.p .any,.pt 3 1 0 0,.p .any,.pt 3 2 0 0,.p (.int .i64 i)]++List.replicate 26 ag,
   [(0,lz g nb N),(1,Bu),(2,⟨true,3,1,fun _=>[.ar 1 3 0 i,.ar 1 4 0 0,.ar 1 5 0 0]⟩),(3,aY i (fun _=>k)),(4,aY 0 (fun _=>0)),(5,aY 0 (fun _=>0))],6⟩
theorem Og (g:Nat→aa) (nb N m:Nat) (F T Q:Nat→Int) (a b want:Int) :
    zT Tryz.f107 [rg 4,rm [(1,oc (bl N m F T Q) (bf N m 0))] 2,.head] [bi g nb N,eR N m F T Q,jI a,jI b,jI want] [0,32,64,192,160,161,162] (SH g nb N m F T F T Q a b want) =
    some (ro,zD [(NT 0 1),zE 106 [(lm N F m T Q)] (eb N F m T Q) (.agg [.ar 1 0 0 N,.ar 1 1 0 m,.ar 1 2 0 m]),((true=true)→(AN 1)),(AI ((N:Int))),(AN nb),(AP nb (aF g)),(AN N),(AP N (fun i=>[.int .i64 (F i)])),(AN m),(AP m (fun i=>[.int .i64 (T i)])),(AP m (fun i=>[.int .i64 (Q i)])),(AI a),(AI b),(AI want),(AN 0),((([AV.p (PV.int IntKind.i64 (N:Int)),b4 g nb].length):Nat)=2),(NL 1 1),((([gM N F,gM m T,gM m Q].length):Nat)=3),((((List.map (fun v=>AV.p (bZ v)) [Value.slice none 0 0,Value.slice none 0 0,Value.slice none 0 0]).length):Nat)=3),(AN 1),(NL N N),(AA N (fun i=>[.p (.int .i64 (F i))])),(NL m m),(AA m (fun i=>[.p (.int .i64 (T i))])),(AA m (fun i=>[.p (.int .i64 (Q i))]))] [0,1,0,2,3,4,5,6,7,8,9,8,10,11,12,13,14,14,14,14,15,16,16,3,4,5,17,16,16,6,7,8,9,8,10,18,16,16,18,16,16,14,6,14,8,14,8,19,20,21,19,22,23,19,22,24]):=by kernel_rfl
theorem MG (g:Nat→aa) (nb N m:Nat) (F0 T0 F T Q F1 T1:Nat→Int) (a b want:Int) :
    zM 0 [rg 13,.dec true,rm [(4,oq [4,5,6] (wd N m F T Q F1 T1 Q) (.tup [bf N m 3,jB true]))] 6,rg 2,.dec false,rg 2,.dec false,rg 2,.head] ro (SH g nb N m F0 T0 F T Q a b want) [0,1,2,3,551,552,553] 1 (SH g nb N m F0 T0 F1 T1 Q a b want) =
    some (ro,zD [(NT 0 1),(IL 0 a),(IT a (N:Int)),(NT a.toNat N),(IL 0 b),(IT b (N:Int)),(NT b.toNat N),(ax (F a.toNat+F b.toNat)),(au (F a.toNat+F b.toNat)),((decide (F (a.toNat+0)+F (b.toNat+0)<want))=true),(AE N),(AE m),Con Tryz.prog 121 3 (eb N F m T Q) [(ak N nb g),.agg [.ar 1 0 0 N,.ar 1 1 0 m,.ar 1 2 0 m],jI a,jI b] (Fm N F m T Q F1 T1) (.tup [.agg [.ar 1 3 0 N,.ar 1 4 0 m,.ar 1 5 0 m],jB true]),((true=true)→(AN 1)),((!true)=false),(AI ((N:Int))),(AN nb),(AP nb (aF g)),(AN N),(AP N (fun i=>[.int .i64 (F0 i)])),(AN m),(AP m (fun i=>[.int .i64 (T0 i)])),(AP m (fun i=>[.int .i64 (Q i)])),(AI a),(AI b),(AI want),(AN 0),(AN 2),(NL 1 1),(AN 3),(AN 1),(NL N N),(AA N (fun i=>[.p (.int .i64 (F1 i))])),(NL m m),(AA m (fun i=>[.p (.int .i64 (T1 i))])),(AA m (fun i=>[.p (.int .i64 (Q i))]))] [0,1,2,3,0,4,5,6,7,8,9,0,0,10,11,11,12,0,13,14,14,0,0,13,15,16,17,18,19,20,21,20,22,23,24,25,26,26,26,26,27,28,28,15,16,17,29,28,28,18,19,20,21,20,22,29,28,28,29,28,28,26,18,26,20,26,20,30,31,32,30,33,34,30,33,35]):=by kernel_rfl
theorem Lp (g:Nat→aa) (nb N m:Nat) (F0 T0 F T Q F1 T1:Nat→Int) (a b want:Int) :
    zM 0 [rg 13,.dec true,rm [(4,oq [4,5,6] (bl N m F T Q) (.tup [bf N m 0,jB false]))] 6,rg 2,.dec true,rm [(4,oq [4,5,6] (wd N m F T Q F1 T1 Q) (.tup [bf N m 3,jB true]))] 5,rg 2,.dec false,rg 2,.head] ro (SH g nb N m F0 T0 F T Q a b want) [0,1,2,3,967,968,969] 1 (SH g nb N m F0 T0 F1 T1 Q a b want) =
    some (ro,zD [(NT 0 1),(IL 0 a),(IT a (N:Int)),(NT a.toNat N),(IL 0 b),(IT b (N:Int)),(NT b.toNat N),(ax (F a.toNat+F b.toNat)),(au (F a.toNat+F b.toNat)),((decide (F (a.toNat+0)+F (b.toNat+0)<want))=true),(AE N),(AE m),Con Tryz.prog 121 3 (eb N F m T Q) [(ak N nb g),.agg [.ar 1 0 0 N,.ar 1 1 0 m,.ar 1 2 0 m],jI a,jI b] (eb N F m T Q) ((vY N m)),((true=true)→(AN 1)),((!false)=true),Con Tryz.prog 121 3 (eb N F m T Q) [(ak N nb g),.agg [.ar 1 0 0 N,.ar 1 1 0 m,.ar 1 2 0 m],jI b,jI a] (Fm N F m T Q F1 T1) (.tup [.agg [.ar 1 3 0 N,.ar 1 4 0 m,.ar 1 5 0 m],jB true]),((!true)=false),(AI ((N:Int))),(AN nb),(AP nb (aF g)),(AN N),(AP N (fun i=>[.int .i64 (F0 i)])),(AN m),(AP m (fun i=>[.int .i64 (T0 i)])),(AP m (fun i=>[.int .i64 (Q i)])),(AI a),(AI b),(AI want),(AN 0),(AN 2),(NL 1 1),(AN 3),(AN 1),(NL N N),(AA N (fun i=>[.p (.int .i64 (F1 i))])),(NL m m),(AA m (fun i=>[.p (.int .i64 (T1 i))])),(AA m (fun i=>[.p (.int .i64 (Q i))]))] [0,1,2,3,0,4,5,6,7,8,9,0,0,10,11,11,12,0,13,14,0,0,10,11,11,15,0,13,16,0,0,13,17,18,19,20,21,22,23,22,24,25,26,27,28,28,28,28,29,30,30,17,18,19,31,30,30,20,21,22,23,22,24,31,30,30,31,30,30,28,20,28,22,28,22,32,33,34,32,35,36,32,35,37]):=by kernel_rfl
theorem LQ (g:Nat→aa) (nb N m:Nat) (F0 T0 F T Q:Nat→Int) (a b want:Int) :
    zP Tryz.f107 0 [rg 13,.dec true,rm [(4,oq [4,5,6] (bl N m F T Q) (.tup [bf N m 0,jB false]))] 6,rg 2,.dec true,rm [(4,oq [4,5,6] (bl N m F T Q) (.tup [bf N m 0,jB false]))] 5,rg 2,.dec true,rg 3] ro (SH g nb N m F0 T0 F T Q a b want) [4,5,6] 1 (bl N m F T Q) (.tup [bf N m 0,jB false]) =
    some (zD [(NT 0 1),(IL 0 a),(IT a (N:Int)),(NT a.toNat N),(IL 0 b),(IT b (N:Int)),(NT b.toNat N),(ax (F a.toNat+F b.toNat)),(au (F a.toNat+F b.toNat)),((decide (F (a.toNat+0)+F (b.toNat+0)<want))=true),(AE N),(AE m),Con Tryz.prog 121 3 (eb N F m T Q) [(ak N nb g),.agg [.ar 1 0 0 N,.ar 1 1 0 m,.ar 1 2 0 m],jI a,jI b] (eb N F m T Q) ((vY N m)),((true=true)→(AN 1)),((!false)=true),Con Tryz.prog 121 3 (eb N F m T Q) [(ak N nb g),.agg [.ar 1 0 0 N,.ar 1 1 0 m,.ar 1 2 0 m],jI b,jI a] (eb N F m T Q) ((vY N m)),(AN 0),(AN N),(AN m),(false=false),(AN 1),(NL N N),(AA N (fun i=>[.p (.int .i64 (F i))])),(NL m m),(AA m (fun i=>[.p (.int .i64 (T i))])),(AA m (fun i=>[.p (.int .i64 (Q i))]))] [0,1,2,3,0,4,5,6,7,8,9,0,0,10,11,11,12,0,13,14,0,0,10,11,11,15,0,13,14,0,0,13,0,16,17,16,18,16,18,19,20,21,22,20,23,24,20,23,25,10,11,11]):=by kernel_rfl
theorem JW (g:Nat→aa) (nb N m:Nat) (F0 T0 F T Q:Nat→Int) (a b want:Int) :
    zP Tryz.f107 0 [rg 13,.dec false,rg 3] ro (SH g nb N m F0 T0 F T Q a b want) [4,5,6] 1 (bl N m F T Q) (.tup [bf N m 0,jB true]) =
    some [(NT 0 1),(IL 0 a),(IT a (N:Int)),(NT a.toNat N),(NT 0 1),(IL 0 b),(IT b (N:Int)),(NT b.toNat N),(ax (F a.toNat+F b.toNat)),(au (F a.toNat+F b.toNat)),((decide (F (a.toNat+0)+F (b.toNat+0)<want))=false),(NT 0 1),(NT 0 1),((true=true)→(AN 1)),(NT 0 1),(AN 0),(AN N),(AN 0),(AN m),(AN 0),(AN m),(true=true),(AN 1),(NL N N),(AA N (fun i=>[.p (.int .i64 (F i))])),(AN 1),(NL m m),(AA m (fun i=>[.p (.int .i64 (T i))])),(AN 1),(NL m m),(AA m (fun i=>[.p (.int .i64 (Q i))])),(AE N),(AE m),(AE m)]:=by kernel_rfl
theorem LY (g:Nat→aa) (nb N k:Nat) :
    zT Tryz.f78 [rg 3,rg 6,.head] [bi g nb N,jI k] [0,32,224,96,128,160] (Hd g nb N k) =
    some (Aq,zD [(NT 0 1),((true=true)→(AN 1)),(AI ((k:Int))),(AN 0),((([AV.p (PV.int IntKind.i64 (N:Int)),b4 g nb].length):Nat)=2),(NL 1 1),(AI ((N:Int))),(AN nb),(AP nb (aF g)),((((List.map (fun v=>AV.p (bZ v)) [Value.slice none 0 0,Value.slice none 0 0,Value.slice none 0 0]).length):Nat)=3),(AN 1),(NL 0 0),(∀ i:Nat,(((i:Nat)<0)→(af []∧(([.p (.int .i64 0)]:List AV)=[.p (.int .i64 (k:Int))])))),(AA 0 (fun i=>[.p (.int .i64 0)]))] [0,1,2,3,3,3,4,5,5,6,7,8,9,5,5,9,5,5,3,3,3,3,3,3,10,11,12,10,11,13,10,11,13]):=by kernel_rfl
theorem KO (g:Nat→aa) (nb N k:Nat) :
    zM 0 [rm [(1,oc [] (jB true)),(3,oc [] (jB true))] 2,.dec false,rg 1,.head] Aq (Hd g nb N k) [0,1,2,3,4,5] 1 (FX g nb N k 0) =
    some (yH,zD [(NT 0 1),zE 10 [(ak N nb g)] [] (jB true),(AG (!!true)),(((!!true)=true)→zE 41 [jI (k:Int),jI 1,jI 3] [] (jB true)),(((!true)=false)→((!!true)=true)),((bif !true then true else !true)=false),(AI ((k:Int))),(AN 0),((0:Int)=(↑0:Int)),(AN 2),(NL 1 1),(AI ((N:Int))),(AN nb),(AP nb (aF g)),(AN 3),(AN 1),(NL 0 0),(AA 0 (fun i=>[.p (.int .i64 (k:Int))])),(AA 0 (fun i=>[.p (.int .i64 0)]))] [0,1,2,3,2,4,5,6,7,7,7,8,9,10,10,11,12,13,14,10,10,14,10,10,7,7,7,7,7,7,15,16,17,15,16,18,15,16,18]):=by kernel_rfl
theorem Nu (g:Nat→aa) (nb N k i:Nat) :
    zM 0 [rg 4,.dec true,rg 7,rg 3,.head] yH (FX g nb N k i) [0,1,2,262,4,5] 1 (FX g nb N k (i+1)) =
    some (yH,zD [(NT 0 1),((decide ((i:Int)<(N:Int)))=true),(NL 1 1),(NL i i),(NL ((i+1)*8) 140737488355328),(NL (i+1) 9223372036854775807),((true=true)→(AN 1)),(ax ((i:Int)+1)),(au ((i:Int)+1)),(AI ((k:Int))),(AN 0),((((i:Int)+1):Int)=(↑(i+1):Int)),(AN 2),(AI ((N:Int))),(AN nb),(AP nb (aF g)),(AN 3),(AN ((i+1))),(AN 1),(NL (i+1) (i+1)),(CV [(2,⟨true,3,1,(fun i_2=>[.ar 1 262 0 (i+1),.ar 1 4 0 0,.ar 1 5 0 0])⟩),(262,⟨false,1,(i+1),(fun i_2=>(if (i_2<i) then [.p (.int .i64 (k:Int))] else [.p (.int .i64 (k:Int))]))⟩),(230,⟨false,1,1,(fun i_2=>[.p (.int .i64 (k:Int))])⟩),(0,⟨true,2,1,(fun i_2=>[.p (.int .i64 (N:Int)),.p (.seq true 2 nb (aF g))])⟩),(1,⟨true,3,1,(fun i_2=>[.p (.nil),.p (.nil),.p (.nil)])⟩),(4,⟨false,1,0,(fun i_2=>[.p (.int .i64 0)])⟩),(5,⟨false,1,0,(fun i_2=>[.p (.int .i64 0)])⟩)] [0,1,2,262,4,5] 1 (i+1) (fun i_1=>if (i_1<i) then [.p (.int .i64 (k:Int))] else [.p (.int .i64 (k:Int))]) (fun i_1=>[.p (.int .i64 (k:Int))])),(NL 0 0),(AA 0 (fun i_1=>[.p (.int .i64 0)]))] [0,1,0,2,3,4,5,0,6,7,8,9,10,10,10,11,12,2,2,13,14,15,16,2,2,16,2,2,10,17,10,10,10,10,18,19,20,18,21,22,18,21,22]):=by kernel_rfl
theorem Kg (g:Nat→aa) (nb N k i:Nat) :
    zP Tryz.f78 0 [rg 4,.dec false,rg 3] yH (FX g nb N k i) [3,4,5] 1 (bl i 0 (fun _=>k) (fun _=>0) (fun _=>0)) (.tup [bf i 0 0,jB true]) =
    some (zD [(NT 0 1),((decide ((i:Int)<(N:Int)))=false),((true=true)→(AN 1)),(AN 0),(AN i),(true=true),(AN 1),(NL i i),(AA i (fun i_1=>[.p (.int .i64 (k:Int))])),(NL 0 0),(AA 0 (fun i_1=>[.p (.int .i64 0)])),(AE i),(AE 0)] [0,1,0,0,2,0,3,4,3,3,3,3,5,6,7,8,6,9,10,6,9,10,11,12,12]):=by kernel_rfl
theorem qc {N k nb m l:Nat} {g:Nat→aa} {F0 T0 Q:Nat→Int} {a b:Int} (hp0:PInv N k nb m g F0 T0 Q) (hk:k≤1048576) (hN:N≤1048576) (hm:m≤1048576) (hnb:nb≤1048576)
    (ha:0≤a∧a<N) (hb:0≤b∧b<N) (hab:a≠b):∃ F' T' r,zE 107 [bi g nb N,eR N m F0 T0 Q,.p (.int .i64 a),.p (.int .i64 b),.p (.int .i64 ((l:Int)+1))] (bl N m F' T' Q) (.tup [bf N m 0,.p (.bool r)]) ∧
      PInv N k nb m g F' T' Q∧(r=true→(l:Int)+1≤F' a.toNat+F' b.toNat)∧(r=false→¬ Mat.Sparse N k l (ov g Q m++[(a.toNat,b.toNat)])):=by
  have lp:∀ d F T,PInv N k nb m g F T Q→(l:Int)+1≤F a.toNat+F b.toNat+(d:Nat)→∃ F' T' r,(∀ c,c.n=0→zR c 107 ro (SH g nb N m F0 T0 F T Q a b ((l:Int)+1)) (aS c (bl N m F' T' Q) (.tup [bf N m 0,.p (.bool r)]))) ∧
      PInv N k nb m g F' T' Q∧(r=true→(l:Int)+1≤F' a.toNat+F' b.toNat)∧(r=false→¬ Mat.Sparse N k l (ov g Q m++[(a.toNat,b.toNat)])):=by
    intro d
    induction d with
    | zero =>
      intro F T hp hw
      have hd:decide (F a.toNat+F b.toNat<(l:Int)+1)=false:=by simp;omega
      have l1:=hp.le (v:=a.toNat) (by omega)
      have l2:=hp.le (v:=b.toNat) (by omega)
      refine ⟨F,T,true,fun c hc=>?_,hp,(fun _=>by omega),(fun h=>by cases h)⟩
      refine be Tryz.func107 hc (JW g nb N m F0 T0 F T Q a b ((l:Int)+1)) ?_
      and_intros
      all_goals (first | exact zI | (exact hd) | (intro i hi;simp [af]))
    | succ d ih =>
      intro F T hp hw
      have l1:=hp.le (v:=a.toNat) (by omega)
      have l2:=hp.le (v:=b.toNat) (by omega)
      by_cases hs:F a.toNat+F b.toNat<(l:Int)+1
      · have hd:decide (F a.toNat+F b.toNat<(l:Int)+1)=true:=by simp;omega
        obtain ⟨H1,r1,hc1,hf1⟩:=mK hp hk hN hm hnb ha hb hab
        cases hf1 with
        | yes F1 T1 hm1 =>
          obtain ⟨y1,y2⟩:=hm1.yes rfl
          obtain ⟨F',T',r,hrun,h1,h2,h3⟩:=ih F1 T1 hm1.inv (by omega)
          refine ⟨F',T',r,fun c hc=>?_,h1,h2,h3⟩
          refine a9 hc (MG g nb N m F0 T0 F T Q F1 T1 a b ((l:Int)+1)) ?_ (hrun c hc)
          and_intros
          all_goals (first | exact zI | (exact hd) | (exact hc1) | (intro i hi;simp [af]))
        | no hm1 =>
          obtain ⟨H2,r2,hc2,hf2⟩:=mK hp hk hN hm hnb hb ha (Ne.symm hab)
          cases hf2 with
          | yes F2 T2 hm2 =>
            obtain ⟨y1,y2⟩:=hm2.yes rfl
            obtain ⟨F',T',r,hrun,h1,h2,h3⟩:=ih F2 T2 hm2.inv (by omega)
            refine ⟨F',T',r,fun c hc=>?_,h1,h2,h3⟩
            refine a9 hc (Lp g nb N m F0 T0 F T Q F2 T2 a b ((l:Int)+1)) ?_ (hrun c hc)
            and_intros
            all_goals (first | exact zI | (exact hd) | (exact hc1) | (exact hc2) | (intro i hi;simp [af]))
          | no hm2 =>
            refine ⟨F,T,false,fun c hc=>?_,hp,(fun h=>by cases h),fun _=>n9 hp ha hb hab (by omega) hm1 hm2⟩
            refine bz Tryz.func107 hc (LQ g nb N m F0 T0 F T Q a b ((l:Int)+1)) ?_
            and_intros
            all_goals (first | exact zI | (exact hd) | (exact hc1) | (exact hc2) | (intro i hi;simp [af]))
      · have hd:decide (F a.toNat+F b.toNat<(l:Int)+1)=false:=by simp;omega
        refine ⟨F,T,true,fun c hc=>?_,hp,(fun _=>by omega),(fun h=>by cases h)⟩
        refine be Tryz.func107 hc (JW g nb N m F0 T0 F T Q a b ((l:Int)+1)) ?_
        and_intros
        all_goals (first | exact zI | (exact hd) | (intro i hi;simp [af]))
  have l1:=hp0.le (v:=a.toNat) (by omega)
  have l2:=hp0.le (v:=b.toNat) (by omega)
  obtain ⟨F',T',r,hrun,h⟩:=lp (l+1) F0 T0 hp0 (by omega)
  refine ⟨F',T',r,?_,h⟩
  have hcc:=iZ N m F0 T0 Q hN hm
  refine aW Tryz.func107 (fun c hc=>?_)
  refine a9 hc (Og g nb N m F0 T0 Q a b ((l:Int)+1)) ?_ (hrun c hc)
  and_intros
  all_goals (first | exact zI | (exact hcc) | (intro i hi;simp [af]))
theorem Co {g:Nat→aa} {nb N k:Nat} (hN:N≤1048576) (hk:1≤k∧k≤3) (hg:ah ((N:Int),(nb,g),())=true) (hnb:nb≤1048576) (c:Cx) (hc:c.n=0) {items:List Item} (hit:items=Aq) :
    zR c 78 items (Hd g nb N k) (aS c (bl N 0 (fun _=>k) (fun _=>0) (fun _=>0)) (.tup [bf N 0 0,.p (.bool true)])):=by
  subst hit
  have hsm:cP a6 ((N:Int),(nb,g),()):=⟨by simp [cP,j0],⟨hnb,fun i hi=>by simp [cP,j0]⟩,True.intro⟩
  have hcg:=bH ((N:Int),(nb,g),()) hsm
  rw [hg] at hcg
  have hci:=dY k 1 3
  rw [show bC k 1 3=true by simp [bC];omega] at hci
  have lp0:∀ d i,i+d=N→zR c 78 yH (FX g nb N k i) (aS c (bl N 0 (fun _=>k) (fun _=>0) (fun _=>0)) (.tup [bf N 0 0,.p (.bool true)])):=by
    intro d
    induction d with
    | zero =>
      intro i hi
      obtain rfl:i=N:=by omega
      have hd:decide ((i:Int)<(i:Int))=false:=by simp
      refine bz Tryz.func78 hc (Kg g nb i k i) ?_
      and_intros
      all_goals (first | exact zI | (intro i hi;simp [af]))
    | succ d ih =>
      intro i hi
      have hd:decide ((i:Int)<(N:Int))=true:=by simp;omega
      refine a9 hc (Nu g nb N k i) ?_ (ih (i+1) (by omega))
      and_intros
      all_goals (first | exact zI | (intro j hj;simp [af];done) | (intro j hj;by_cases h:j<i<;>simp [h,ay,bh,tg,bu,af]))
  refine a9 hc (KO g nb N k) ?_ (lp0 N 0 (by omega))
  and_intros
  all_goals (first | exact zH | (exact hcg) | (intros;exact hci) | (intro i hi;simp [af]))
theorem l6 {N k nb:Nat} {g:Nat→aa} (hN:N≤1048576) (hk:1≤k∧k≤3) (hg:ah ((N:Int),(nb,g),())=true) (hnb:nb≤1048576) :
    zE 78 [bi g nb N,.p (.int .i64 k)] (bl N 0 (fun _=>k) (fun _=>0) (fun _=>0)) (.tup [bf N 0 0,.p (.bool true)]):=by
  refine aW Tryz.func78 (fun c hc=>?_)
  refine a9 hc (LY g nb N k) ?_ (Co hN hk hg hnb c hc rfl)
  and_intros
  iterate 2 all_goals (first | exact zI | (intro i hi;simp [af]) | simp only [af])
end Go.Proofs.YtbdgmpfdlgnkkaaGreat.Mach
namespace Go.Proofs
open Go Go.Shelf Go.RowKit Go.Lib Go.Sort
shelf_lay_g SlLaysF0.n6 Slsf 6 at Tryz 115 as Tryz.sortBar
end Go.Proofs
namespace Go.Proofs.YtbdgmpfdlgnkkaaGreat.Mach
open Go Go.Shelf Go.RowKit Go.Lib Go.Sort
def vj (x:aa):List Value:=[.int .i64 x.1,.int .i64 x.2.1]
theorem uN {x y:Int} (h:x<y):bS x y = -1:=by simp [bS,h]
theorem sT {x y:Int} (h:y<x):bS x y=1:=by
  have h3:¬ x<y:=by omega
  simp [bS,h3,h]
theorem sS {x y:Int} (h:¬ x<y) (h':¬ y<x):bS x y=0:=by simp [bS,h,h']
theorem wJ (x y:Int) (W:World):Calls Tryz.prog 93 #[.int .i64 x,.int .i64 y] W fun e w'=>e=.returned (.int .i64 (bS x y))∧w'=W:=by
  go_enter Tryz.func93,Tryz.ntmps93
  by_cases h1:x<y
  · have hc:=uN h1
    go_wp2
    go_ret
    exact ⟨by first | rfl | (rw [hc];rfl),rfl⟩
  · by_cases h2:y<x
    · have hc:=sT h2
      go_wp2
      go_ret
      exact ⟨by first | rfl | (rw [hc];rfl),rfl⟩
    · have hc:=sS h1 h2
      go_wp2
      go_ret
      exact ⟨by first | rfl | (rw [hc];rfl),rfl⟩
set_option maxRecDepth 10000 in
set_option maxHeartbeats 1000000 in
theorem ye (a b c d:Int) (W:World):Calls Tryz.prog 59 #[.agg #[.int .i64 a,.int .i64 b],.agg #[.int .i64 c,.int .i64 d]] W fun e w'=>e=.returned (.int .i64 (if bS a c=0 then bS b d else bS a c))∧∃ q os',w'=grow (W.drewN q) os':=by
  have c1:=fun W'=>wJ a c W'
  have c2:=fun W'=>wJ b d W'
  generalize bS a c=r1 at c1 ⊢
  generalize bS b d=r2 at c2 ⊢
  by_cases h:r1=0
  · have h9:(if r1=0 then r2 else r1)=r2:=if_pos h
    have c1':∀ W':World,Calls Tryz.prog 93 #[.int .i64 a,.int .i64 c] W' fun e w'=>e=.returned (.int .i64 0)∧w'=W':=by rw [← h];exact c1
    rw [h9]
    clear c1 h9 h
    go_enter Tryz.func59,Tryz.ntmps59
    go_wp2_with fail
    go_at_call 93
    refine (c1' _).mono ?_
    rintro e w' ⟨rfl,rfl⟩
    go_wp2_with fail
    go_at_call 93
    refine (c2 _).mono ?_
    rintro e w' ⟨rfl,rfl⟩
    go_wp2
    go_ret
    exact ⟨rfl,0,_,by rw [alloc_eq_grow,alloc_eq_grow,grow_grow];rfl⟩
  · have h9:(if r1=0 then r2 else r1)=r1:=if_neg h
    rw [h9]
    clear h9
    go_enter Tryz.func59,Tryz.ntmps59
    clear c2
    go_wp2_with fail
    go_at_call 93
    refine (c1 _).mono ?_
    rintro e w' ⟨rfl,rfl⟩
    go_wp2
    go_ret
    exact ⟨rfl,0,_,by rw [alloc_eq_grow,alloc_eq_grow,grow_grow];rfl⟩
theorem Ax (x y:aa) (W:World):Calls Tryz.prog 59 #[.agg #[.int .i64 x.1,.int .i64 x.2.1],.agg #[.int .i64 y.1,.int .i64 y.2.1]] W fun e w'=>e=.returned (.int .i64 (cO x y))∧∃ q os',w'=grow (W.drewN q) os' :=
  ye x.1 x.2.1 y.1 y.2.1 W
open Go Go.Shelf Go.RowKit Go.Sort
def sW (w:World) (b base q:Nat) (F:Array Value) (os:Array Obj):World:=grow (putRow id (Sort.ahead w q) b base F) os
theorem z8 {w:World} {b base q:Nat} {F:Array Value} {os:Array Obj} {cells:Array Value} {el:TypeId} {fr:Nat×Nat} (hb:w.heap[b]? = some (.cells cells el fr)) :
    (sW w b base q F os).heap[b]? = some (.cells (putCells id base F cells) el fr):=by
  have hlt:b<w.heap.size:=by
    rcases Nat.lt_or_ge b w.heap.size with h | h
    · exact h
    · rw [Array.getElem?_eq_none h] at hb;cases hb
  rw [sW,heap_grow_old _ _ (by rw [size_putRow];exact hlt)]
  simp only [putRow,mapBlock,heap_ahead,Array.getElem?_modify,if_true,hb,Option.map_some,onCells]
theorem yY {w:World} {b base q c:Nat} {F:Array Value} {os:Array Obj} (hne:c≠b) (hlt:c<w.heap.size) :
    (sW w b base q F os).heap[c]? = w.heap[c]?:=by
  rw [sW,heap_grow_old _ _ (by rw [size_putRow];exact hlt)]
  simp only [putRow,mapBlock,heap_ahead,Array.getElem?_modify,if_neg (Ne.symm hne)]
theorem iN (base:Nat) (F cells:Array Value):(putCells id base F cells).size=cells.size:=by simp [putCells]
theorem rq (base:Nat) (F cells:Array Value) (t:Nat) (h:t<F.size) (hs:base+t<cells.size):(putCells id base F cells)[base+t]? = some F[t]!:=by
  simp only [putCells,Array.getElem?_mapIdx,Array.getElem?_eq_getElem hs,Option.map_some,id]
  rw [if_pos ⟨by omega,by omega⟩,show base+t - base=t by omega]
theorem cK {ob ob':Ob} {o:Id} (h:lk [(0,ob)] o=some ob') (hb:ob.bx=false:=by rfl):o=0∧ob'=ob:=by
  unfold lk at h
  split at h
  · rename_i ob1 h1
    obtain ⟨oo,m⟩:=o
    simp only [List.lookup] at h1
    split at h1
    · rename_i h2
      cases h1
      have h2:oo=0:=by simpa using h2
      obtain ⟨h3,h4⟩:=a5 (dD hb) h
      simp only at h3
      subst h2;subst h3
      exact ⟨rfl,h4⟩
    · cases h1
  · cases h
theorem mq (ob:Ob) (hb:ob.bx=false:=by rfl):lk [(0,ob)] 0=some ob:=dz (H:=[(0,ob)]) (o:=0) rfl (dD hb)
theorem iv (β:Id→Option Addr) (ob:Ob) (b:Nat) (hb:ob.bx=false:=by rfl):aU β [(0,ob)] b↔∃ a,β 0=some a∧a.block=b:=by
  constructor
  · rintro ⟨o,ob',a,h1,h2,h3⟩
    obtain ⟨rfl,_⟩:=cK h1 hb
    exact ⟨a,h2,h3⟩
  · rintro ⟨a,h1,h2⟩
    exact ⟨0,ob,a,mq ob hb,h1,h2⟩
theorem tI (X:Nat→Prop) (β:Id→Option Addr) (ob ob':Ob) (hb:ob.bx=false:=by rfl) (hb':ob'.bx=false:=by rfl):ow X β [(0,ob)]=ow X β [(0,ob')]:=by
  funext t b
  simp only [ow,iv β ob b hb,iv β ob' b hb']
theorem v3 {w:World} {β:Id→Option Addr} {X:Nat→Prop} {z n:Nat} {fo f':Nat→List AV} {b base q:Nat} {F:Array Value} {os:Array Obj} {cells:Array Value} {el:TypeId} {res:AV} {v:Value}
    (hβ:β 0=some ⟨b,base,none⟩) (hh:w.heap[b]? = some (.cells cells el (0,0)))
    (hS:Sep β [(0,⟨false,z,n,fo⟩)])
    (hsz:base+n*z≤cells.size) (hF:F.size=n*z)
    (hrow:∀ i,i<n→∀ j,j<z→One (F[i*z+j]!)∧∀ (w:World) (own:Bool→Nat→Prop),VR w β own ((f' i).getD j ag) (F[i*z+j]!))
    (hv:∀ own:Bool→Nat→Prop,VR (sW w b base q F os) β own res v) :
    ∃ v' β',Ending.returned v=.returned v'∧HR (sW w b base q F os) β' (fr X β' [(0,⟨false,z,n,f'⟩)]) [(0,⟨false,z,n,f'⟩)]∧Sep β' [(0,⟨false,z,n,f'⟩)] ∧
      VR (sW w b base q F os) β' (fr X β' [(0,⟨false,z,n,f'⟩)]) res v'∧Ext w (ow X β [(0,⟨false,z,n,fo⟩)]) (sW w b base q F os) (ow X β' [(0,⟨false,z,n,f'⟩)]) ∧
      (∀ o a,β o=some a→β' o=some a)∧(∀ b,aU β' [(0,⟨false,z,n,f'⟩)] b→aU β [(0,⟨false,z,n,fo⟩)] b∨w.heap.size≤b)∧∀ k,β' k≠none→β k≠none∨(1≤k.o∧k.o<1+32):=by
  have hown:aU β [(0,⟨false,z,n,fo⟩)] b:=(iv _ _ _).2 ⟨_,hβ,rfl⟩
  refine ⟨v,β,rfl,?_,?_,hv _,?_,fun o a h=>h,fun b' h=>.inl ?_,fun k h=>.inl h⟩
  · intro o ob hl
    obtain ⟨rfl,rfl⟩:=cK hl
    refine .inr (.inl ⟨b,base,_,el,hβ,z8 hh,?_⟩)
    intro i hi j hj
    change i<n at hi
    change j<z at hj
    show ∃ v,(putCells id base F cells)[base+(i*z+j)]? = some v∧One v∧_
    have hlt:i*z+j<n*z:=by
      have h1:=Nat.mul_le_mul_right z (show i+1≤n from hi)
      rw [Nat.add_mul,Nat.one_mul] at h1
      have h2:j<z:=hj
      omega
    exact ⟨F[i*z+j]!,rq base F cells _ (by omega) (by omega),(hrow i hi j hj).1,(hrow i hi j hj).2 _ _⟩
  · intro o o' ob ob' a a' h1 h2 h3 h4 h5
    obtain ⟨rfl,rfl⟩:=cK h1
    obtain ⟨rfl,rfl⟩:=cK h2
    rfl
  · rw [tI X β ⟨false,z,n,f'⟩ ⟨false,z,n,fo⟩]
    refine ⟨rfl,rfl,rfl,by rw [sW,size_grow,size_putRow];exact Nat.le_add_right _ _,fun t c hc hn=>?_,fun t c hc h=>h,fun c cs e f h=>?_,fun c es ck h=>?_⟩
    · refine yY (fun h=>hn ?_) hc
      subst h
      exact .inl hown
    · by_cases hcb:c=b
      · subst hcb
        rw [hh] at h
        injection h with h
        injection h with h1 h2 h3
        subst h1
        exact ⟨_,_,_,z8 hh,by rw [iN];exact Nat.le_refl _⟩
      · have hlt:c<w.heap.size:=by
          rcases Nat.lt_or_ge c w.heap.size with h' | h'
          · exact h'
          · rw [Array.getElem?_eq_none h'] at h;cases h
        exact ⟨cs,e,f,by rw [yY hcb hlt];exact h,Nat.le_refl _⟩
    · by_cases hcb:c=b
      · subst hcb
        rw [hh] at h
        cases h
      · have hlt:c<w.heap.size:=by
          rcases Nat.lt_or_ge c w.heap.size with h' | h'
          · exact h'
          · rw [Array.getElem?_eq_none h'] at h;cases h
        exact ⟨es,ck,by rw [yY hcb hlt];exact h⟩
  · rw [iv _ _ _ rfl] at h ⊢;exact h
theorem ug {w:World} {β:Id→Option Addr} {own:Bool→Nat→Prop} {k:IntKind} {x:Int} {v:Value} (h:VR w β own (.p (.int k x)) v):v=.int k x:=by
  cases h with
  | p _ _ hp=>cases hp;rfl
open Go
def aj (n:Nat) (h:Nat→aa):Ob:=⟨false,2,n,fun i=>[.p (.int .i64 (h i).1),.p (.int .i64 (h i).2.1)]⟩
def IU (x:aa):Ob:=⟨true,2,1,fun _=>[.p (.int .i64 x.1),.p (.int .i64 x.2.1)]⟩
def SL (g:Nat→aa) (nb N:Nat) (x:aa) (i n:Nat) (pl:Bool) (h:Nat→aa):St :=
  ⟨[bi g nb N,jZ x,.pt 2 0 0 0,.pt 2 1 0 0,.pt 2 2 0 0,.pt 2 3 0 0,.p (.bool pl),.p (.int .i64 i)]++List.replicate 48 ag,
   [(0,lz g nb N),(1,IU x),(2,⟨true,2,1,fun _=>[.p (.int .i64 0),.p .nil]⟩),(3,⟨true,2,1,fun _=>[.p (.int .i64 N),.ar 2 4 0 n]⟩),(4,aj n h)],5⟩
def aZ (n:Nat) (h:Nat→aa) (x:aa) (s:Nat):aa:=(if s<n then (h s).1 else x.1,if s<n then (h s).2.1 else x.2.1,())
abbrev NB:=Nat×(Nat→aa)
def Ml:NB:=(0,fun _=>(0,0,()))
def sn (r:NB) (x:aa):NB:=(r.1+1,aZ r.1 r.2 x)
theorem MR (g:Nat→aa) (nb N:Nat) (x:aa) :
    zT Tryz.f89 [rg 3,rg 6,rg 1,rg 1,.head] [bi g nb N,jZ x] [0,32,64,224,160] (SL g nb N x 0 0 false (fun _=>(0,0,()))) =
    some (rG,zD [(NT 0 1),((true=true)→(AN 1)),(AI ((N:Int))),(AN nb),(AP nb (aF g)),(AI x.1),(AI x.2.1),(AN 0),(false=false),((0:Int)=(↑0:Int)),((([AV.p (PV.int IntKind.i64 (N:Int)),b4 g nb].length):Nat)=2),(NL 1 1),((([AV.p (PV.int IntKind.i64 x.1),AV.p (PV.int IntKind.i64 x.2.1)].length):Nat)=2),((((List.map (fun v=>AV.p (bZ v)) [Value.int IntKind.i64 0,Value.slice none 0 0]).length):Nat)=2),(AI 0),(AN 2),(NL 0 0),(AA 0 (fun i=>[.p (.int .i64 0),.p (.int .i64 0)]))] [0,0,1,2,3,4,5,6,7,7,7,7,8,9,10,11,11,2,3,4,12,11,11,5,6,13,11,11,14,13,11,11,2,7,7,15,16,17]):=by kernel_rfl
theorem LH (g:Nat→aa) (nb N:Nat) (x:aa) (i n:Nat) (pl:Bool) (h:Nat→aa) :
    zM 0 [rg 5,.dec true,rm [(9,oc [] (jB (iu (g i) x)))] 2,.dec true,rg 7,rg 1,rg 11,rg 3,.head] rG (SL g nb N x i n pl h) [0,1,2,3,1061] 1 (SL g nb N x (i+1) (n+1+1) true (aZ (n+1) (aZ n h x) (g i))) =
    some (rG,zD [(NT 0 1),((decide ((i:Int)<(nb:Int)))=true),(AG (!pl)),(((!pl)=true)→(NT 0 1)),(((!pl)=true)→(IL 0 (i:Int))),(((!pl)=true)→(IT (i:Int) (nb:Int))),(((!pl)=true)→zE 42 [.agg [jI ((g i).1),jI ((g i).2.1)],.agg [jI x.1,jI x.2.1]] [] (jB (iu (g i) x))),((bif !pl then !iu (g i) x else false)=true),(NL 1 1),(NL n n),(NL ((n+1)*16) 140737488355328),(NL (n+1) 9223372036854775807),((true=true)→(AN 1)),(IL 0 (i:Int)),(IT (i:Int) (nb:Int)),(NL (n+1) (n+1)),(NL ((n+1+1)*16) 140737488355328),(NL (n+1+1) 9223372036854775807),(ax ((i:Int)+1)),(au ((i:Int)+1)),(AI ((N:Int))),(AN nb),(AP nb (aF g)),(AI x.1),(AI x.2.1),(AN 0),(true=true),((((i:Int)+1):Int)=(↑(i+1):Int)),(AN 2),(AI 0),(AN ((n+1+1))),(NL (n+1+1) (n+1+1)),(CV [(3,⟨true,2,1,(fun i_2=>[.p (.int .i64 (N:Int)),.ar 2 1061 0 (n+1+1)])⟩),(1061,⟨false,2,(n+1+1),(fun i_2=>(if (i_2<n+1) then (if (i_2<n) then [.p (.int .i64 ((h i_2).1)),.p (.int .i64 ((h i_2).2.1))] else [.p (.int .i64 x.1),.p (.int .i64 x.2.1)]) else [.p (.int .i64 ((g i).1)),.p (.int .i64 ((g i).2.1))]))⟩),(1029,⟨false,2,1,(fun i_2=>[.p (.int .i64 ((g i).1)),.p (.int .i64 ((g i).2.1))])⟩),(645,⟨false,2,1,(fun i_2=>[.p (.int .i64 x.1),.p (.int .i64 x.2.1)])⟩),(0,⟨true,2,1,(fun i_2=>[.p (.int .i64 (N:Int)),.p (.seq true 2 nb (aF g))])⟩),(1,⟨true,2,1,(fun i_2=>[.p (.int .i64 x.1),.p (.int .i64 x.2.1)])⟩),(2,⟨true,2,1,(fun i_2=>[.p (.int .i64 0),.p (.nil)])⟩)] [0,1,2,3,1061] 1 (n+1+1) (fun i_1=>if (i_1<n+1) then (if (i_1<n) then [.p (.int .i64 ((h i_1).1)),.p (.int .i64 ((h i_1).2.1))] else [.p (.int .i64 x.1),.p (.int .i64 x.2.1)]) else [.p (.int .i64 ((g i).1)),.p (.int .i64 ((g i).2.1))]) (fun i_1=>[.p (.int .i64 (if i_1<n+1 then if i_1<n then (h i_1).1 else x.1 else (g i).1)),.p (.int .i64 (if i_1<n+1 then if i_1<n then (h i_1).2.1 else x.2.1 else (g i).2.1))]))] [0,1,2,3,2,2,4,5,2,3,2,2,6,2,2,7,0,0,8,9,10,11,0,12,0,0,13,14,8,15,16,17,0,12,18,19,20,21,22,23,24,25,25,25,25,26,27,28,8,8,20,21,22,28,8,8,23,24,28,8,8,29,28,8,8,20,25,30,28,31,32]):=by kernel_rfl
theorem NP (g:Nat→aa) (nb N:Nat) (x:aa) (i n:Nat) (pl:Bool) (h:Nat→aa) :
    zM 0 [rg 5,.dec true,rm [(9,oc [] (jB (iu (g i) x)))] 2,.dec false,rg 11,rg 3,.head] rG (SL g nb N x i n pl h) [0,1,2,3,805] 1 (SL g nb N x (i+1) (n+1) pl (aZ n h (g i))) =
    some (rG,zD [(NT 0 1),((decide ((i:Int)<(nb:Int)))=true),(AG (!pl)),(((!pl)=true)→(NT 0 1)),(((!pl)=true)→(IL 0 (i:Int))),(((!pl)=true)→(IT (i:Int) (nb:Int))),(((!pl)=true)→zE 42 [.agg [jI ((g i).1),jI ((g i).2.1)],.agg [jI x.1,jI x.2.1]] [] (jB (iu (g i) x))),((bif !pl then !iu (g i) x else false)=false),(IL 0 (i:Int)),(IT (i:Int) (nb:Int)),(NL 1 1),(NL n n),(NL ((n+1)*16) 140737488355328),(NL (n+1) 9223372036854775807),((true=true)→(AN 1)),(ax ((i:Int)+1)),(au ((i:Int)+1)),(AI ((N:Int))),(AN nb),(AP nb (aF g)),(AI x.1),(AI x.2.1),(AN 0),(pl=pl),((((i:Int)+1):Int)=(↑(i+1):Int)),(AN 2),(AI 0),(AN ((n+1))),(NL (n+1) (n+1)),(CV [(3,⟨true,2,1,(fun i_2=>[.p (.int .i64 (N:Int)),.ar 2 805 0 (n+1)])⟩),(805,⟨false,2,(n+1),(fun i_2=>(if (i_2<n) then [.p (.int .i64 ((h i_2).1)),.p (.int .i64 ((h i_2).2.1))] else [.p (.int .i64 ((g i).1)),.p (.int .i64 ((g i).2.1))]))⟩),(773,⟨false,2,1,(fun i_2=>[.p (.int .i64 ((g i).1)),.p (.int .i64 ((g i).2.1))])⟩),(0,⟨true,2,1,(fun i_2=>[.p (.int .i64 (N:Int)),.p (.seq true 2 nb (aF g))])⟩),(1,⟨true,2,1,(fun i_2=>[.p (.int .i64 x.1),.p (.int .i64 x.2.1)])⟩),(2,⟨true,2,1,(fun i_2=>[.p (.int .i64 0),.p (.nil)])⟩)] [0,1,2,3,805] 1 (n+1) (fun i_1=>if (i_1<n) then [.p (.int .i64 ((h i_1).1)),.p (.int .i64 ((h i_1).2.1))] else [.p (.int .i64 ((g i).1)),.p (.int .i64 ((g i).2.1))]) (fun i_1=>[.p (.int .i64 (if i_1<n then (h i_1).1 else (g i).1)),.p (.int .i64 (if i_1<n then (h i_1).2.1 else (g i).2.1))]))] [0,1,2,3,2,2,4,5,2,3,2,2,6,2,2,7,0,0,8,9,10,11,12,13,0,14,15,16,17,18,19,20,21,22,22,22,22,23,24,25,10,10,17,18,19,25,10,10,20,21,25,10,10,26,25,10,10,17,22,27,25,28,29]):=by kernel_rfl
theorem Ms (g:Nat→aa) (nb N:Nat) (x:aa) (i n:Nat) (pl:Bool) (h:Nat→aa) :
    zP Tryz.f89 0 [rg 5,.dec false,rg 2,.dec true,rg 7,rg 2] rG (SL g nb N x i n pl h) [357] 1 [(0,aj (n+1) (aZ n h x))] (.agg [jI N,.ar 2 0 0 (n+1)]) =
    some (zD [(NT 0 1),((decide ((i:Int)<(nb:Int)))=false),((!pl)=true),(NL 1 1),(NL n n),(NL ((n+1)*16) 140737488355328),(NL (n+1) 9223372036854775807),((true=true)→(AN 1)),(AI ((N:Int))),(AN 0),(AN ((n+1))),(AN 2),(NL (n+1) (n+1)),(CV [(2,⟨true,2,1,(fun i_2=>[.p (.int .i64 (N:Int)),.ar 2 357 0 (n+1)])⟩),(3,⟨true,2,1,(fun i_2=>[.p (.int .i64 (N:Int)),.ar 2 357 0 (n+1)])⟩),(357,⟨false,2,(n+1),(fun i_2=>(if (i_2<n) then [.p (.int .i64 ((h i_2).1)),.p (.int .i64 ((h i_2).2.1))] else [.p (.int .i64 x.1),.p (.int .i64 x.2.1)]))⟩),(325,⟨false,2,1,(fun i_2=>[.p (.int .i64 x.1),.p (.int .i64 x.2.1)])⟩),(0,⟨true,2,1,(fun i_2=>[.p (.int .i64 (N:Int)),.p (.seq true 2 nb (aF g))])⟩),(1,⟨true,2,1,(fun i_2=>[.p (.int .i64 x.1),.p (.int .i64 x.2.1)])⟩)] [357] 1 (n+1) (fun i_1=>if (i_1<n) then [.p (.int .i64 ((h i_1).1)),.p (.int .i64 ((h i_1).2.1))] else [.p (.int .i64 x.1),.p (.int .i64 x.2.1)]) (fun i_1=>[.p (.int .i64 (if i_1<n then (h i_1).1 else x.1)),.p (.int .i64 (if i_1<n then (h i_1).2.1 else x.2.1))])),(AE ((n+1)))] [0,1,2,0,0,3,4,5,6,0,7,0,0,7,0,8,9,10,11,12,13,14]):=by kernel_rfl
theorem NF (g:Nat→aa) (nb N:Nat) (x:aa) (i n:Nat) (pl:Bool) (h:Nat→aa) :
    zP Tryz.f89 0 [rg 5,.dec false,rg 2,.dec false,rg 2] rG (SL g nb N x i n pl h) [4] 1 [(0,aj n h)] (.agg [jI N,.ar 2 0 0 n]) =
    some [(NT 0 1),((decide ((i:Int)<(nb:Int)))=false),((!pl)=false),(NT 0 1),(NT 0 1),((true=true)→(AN 1)),(NT 0 1),(AI ((N:Int))),(AN 0),(AN n),(AN 2),(NL n n),(AA n (fun i_1=>[.p (.int .i64 ((h i_1).1)),.p (.int .i64 ((h i_1).2.1))])),(AE n)]:=by kernel_rfl
theorem cY {n:Nat} {h:Nat→aa} {x:aa} {s:Nat} (hs:s<n):aZ n h x s=h s:=by
  simp only [aZ,hs,if_true]
theorem dO {n:Nat} {h:Nat→aa} {x:aa} {s:Nat} (hs:¬ s<n):aZ n h x s=x:=by
  simp only [aZ,hs,if_false]
theorem m8 (n:Nat) (h:Nat→aa) (x y:aa):(∃ s,s<n+1∧aZ n h x s=y)↔(∃ s,s<n∧h s=y)∨x=y:=by
  constructor
  · rintro ⟨s,h1,h2⟩
    by_cases e:s<n
    · rw [cY e] at h2;exact .inl ⟨s,e,h2⟩
    · rw [dO e] at h2;exact .inr h2
  · rintro (⟨s,h1,h2⟩ | h2)
    · exact ⟨s,by omega,by rw [cY h1];exact h2⟩
    · exact ⟨n,by omega,by rw [dO (Nat.lt_irrefl n)];exact h2⟩
def aX (g:Nat→aa) (x:aa):Nat→Bool×Nat×(Nat→aa)
  | 0=>(false,0,fun _=>(0,0,()))
  | i+1 =>
    if (bif !(aX g x i).1 then !iu (g i) x else false)=true then (true,(aX g x i).2.1+1+1,aZ ((aX g x i).2.1+1) (aZ (aX g x i).2.1 (aX g x i).2.2 x) (g i))
    else ((aX g x i).1,(aX g x i).2.1+1,aZ (aX g x i).2.1 (aX g x i).2.2 (g i))
def fy (g:Nat→aa) (nb:Nat) (x:aa):Nat×(Nat→aa) :=
  if (aX g x nb).1=true then ((aX g x nb).2.1,(aX g x nb).2.2) else ((aX g x nb).2.1+1,aZ (aX g x nb).2.1 (aX g x nb).2.2 x)
theorem qo (g:Nat→aa) (x:aa):∀ i,(aX g x i).2.1=i+(if (aX g x i).1=true then 1 else 0)
  | 0=>rfl
  | i+1=>by
    have ih:=qo g x i
    simp only [aX]
    split
    · rename_i h
      have hf:(aX g x i).1=false:=by
        cases e:(aX g x i).1 with
        | false=>rfl
        | true=>rw [e] at h;simp at h
      rw [hf] at ih
      simp only [if_true]
      simp at ih
      omega
    · simp only
      omega
theorem ry (g:Nat→aa) (x y:aa):∀ i,(∃ s,s<(aX g x i).2.1∧(aX g x i).2.2 s=y)↔(∃ s,s<i∧g s=y)∨((aX g x i).1=true∧x=y)
  | 0=>by
    constructor
    · rintro ⟨s,h1,_⟩;exact absurd h1 (Nat.not_lt_zero _)
    · rintro (⟨s,h1,_⟩ | ⟨h1,_⟩)
      · exact absurd h1 (Nat.not_lt_zero _)
      · cases h1
  | i+1=>by
    have ih:=ry g x y i
    have step:(∃ s,s<i+1∧g s=y)↔(∃ s,s<i∧g s=y)∨g i=y:=by
      constructor
      · rintro ⟨s,h1,h2⟩
        by_cases e:s=i
        · right;rw [← e];exact h2
        · exact .inl ⟨s,by omega,h2⟩
      · rintro (⟨s,h1,h2⟩ | h2)
        · exact ⟨s,by omega,h2⟩
        · exact ⟨i,by omega,h2⟩
    simp only [aX]
    split
    · rename_i h
      have hf:(aX g x i).1=false:=by
        cases e:(aX g x i).1 with
        | false=>rfl
        | true=>rw [e] at h;simp at h
      simp only [m8,ih,step,hf]
      constructor
      · rintro ((( h | ⟨h,_⟩) | h) | h)
        · exact .inl (.inl h)
        · cases h
        · exact .inr ⟨trivial,h⟩
        · exact .inl (.inr h)
      · rintro ((h | h) | ⟨_,h⟩)
        · exact .inl (.inl (.inl h))
        · exact .inr h
        · exact .inl (.inr h)
    · simp only [m8,ih,step]
      constructor
      · rintro ((h | h) | h)
        · exact .inl (.inl h)
        · exact .inr h
        · exact .inl (.inr h)
      · rintro ((h | h) | h)
        · exact .inl (.inl h)
        · exact .inr h
        · exact .inl (.inr h)
theorem Bd (g:Nat→aa) (nb:Nat) (x y:aa):(∃ s,s<(fy g nb x).1∧(fy g nb x).2 s=y)↔(∃ s,s<nb∧g s=y)∨x=y:=by
  have h:=ry g x y nb
  unfold fy
  split
  · rename_i hp
    simp only [h,hp,true_and]
  · rename_i hp
    simp only [m8,h]
    constructor
    · rintro ((h | ⟨h,_⟩) | h)
      · exact .inl h
      · exact absurd h hp
      · exact .inr h
    · rintro (h | h)
      · exact .inl (.inl h)
      · exact .inr h
theorem tV (g:Nat→aa) (nb:Nat) (x:aa):(fy g nb x).1=nb+1:=by
  have h:=qo g x nb
  unfold fy
  split
  · rename_i hp;rw [if_pos hp] at h;exact h
  · rename_i hp;rw [if_neg hp] at h;show (aX g x nb).2.1+1=nb+1;omega
theorem pg (g:Nat→aa) (nb N:Nat) (x:aa) (hnb:nb≤1048576):zE 89 [bi g nb N,jZ x] [(0,aj (fy g nb x).1 (fy g nb x).2)] (.agg [.p (.int .i64 N),.ar 2 0 0 (fy g nb x).1]):=by
  refine aW Tryz.func89 (fun c hc=>?_)
  have lp:∀ d i,i+d=nb→zR c 89 rG (SL g nb N x i (aX g x i).2.1 (aX g x i).1 (aX g x i).2.2) (aS c [(0,aj (fy g nb x).1 (fy g nb x).2)] (.agg [.p (.int .i64 N),.ar 2 0 0 (fy g nb x).1])):=by
    intro d
    induction d with
    | zero =>
      intro i hi
      obtain rfl:i=nb:=by omega
      have hd:decide ((i:Int)<(i:Int))=false:=by simp
      have hn:=qo g x i
      have hle:(aX g x i).2.1≤i+1:=by split at hn<;>omega
      cases hp:(aX g x i).1 with
      | true =>
        rw [show fy g i x=((aX g x i).2.1,(aX g x i).2.2) by simp [fy,hp]]
        refine be Tryz.func89 hc (NF g i N x i (aX g x i).2.1 true (aX g x i).2.2) ?_
        and_intros
        all_goals (first | exact zI | (intro i hi;simp [af]))
      | false =>
        rw [show fy g i x=((aX g x i).2.1+1,aZ (aX g x i).2.1 (aX g x i).2.2 x) by simp [fy,hp]]
        refine bz Tryz.func89 hc (Ms g i N x i (aX g x i).2.1 false (aX g x i).2.2) ?_
        and_intros
        all_goals (first | exact zI | (intro j hj;simp [af];done) | (intro j hj;by_cases h:j<(aX g x i).2.1<;>simp [h,aZ,ay,bh,tg,bu,af]))
    | succ d ih =>
      intro i hi
      have hd:decide ((i:Int)<(nb:Int))=true:=by simp;omega
      have hn:=qo g x i
      have hle:(aX g x i).2.1≤i+1:=by split at hn<;>omega
      have hca:=hU (g i) x
      have hs:aX g x (i+1)=if (bif !(aX g x i).1 then !iu (g i) x else false)=true then (true,(aX g x i).2.1+1+1,aZ ((aX g x i).2.1+1) (aZ (aX g x i).2.1 (aX g x i).2.2 x) (g i)) else ((aX g x i).1,(aX g x i).2.1+1,aZ (aX g x i).2.1 (aX g x i).2.2 (g i)):=rfl
      have hih:=ih (i+1) (by omega)
      cases ht:(bif !(aX g x i).1 then !iu (g i) x else false) with
      | true =>
        rw [hs,if_pos ht] at hih
        refine a9 hc (LH g nb N x i (aX g x i).2.1 (aX g x i).1 (aX g x i).2.2) ?_ hih
        and_intros
        all_goals (first | exact zI | (intros;exact hca) | (exact ht) | (intro j hj;simp [af];done) | (intro j hj;by_cases h:j<(aX g x i).2.1+1<;>by_cases h':j<(aX g x i).2.1<;>simp [h,h',aZ,ay,bh,tg,bu,af]) | (simp;omega))
      | false =>
        rw [hs,if_neg (by rw [ht];simp)] at hih
        refine a9 hc (NP g nb N x i (aX g x i).2.1 (aX g x i).1 (aX g x i).2.2) ?_ hih
        and_intros
        all_goals (first | exact zI | (intros;exact hca) | (exact ht) | (intro j hj;simp [af];done) | (intro j hj;by_cases h:j<(aX g x i).2.1<;>simp [h,aZ,ay,bh,tg,bu,af]))
  refine a9 hc (MR g nb N x) ?_ (lp nb 0 (by omega))
  and_intros
  all_goals (first | exact zI | (intro i hi;simp [af]))
open Go Go.Shelf Go.RowKit Go.Lib Go.Sort
def GR (x y:aa):Bool:=ltOf cO x y
theorem dx (x y:aa):GR x y=true↔x.1<y.1∨(x.1=y.1∧x.2.1<y.2.1):=by
  rw [show GR x y=decide (cO x y<0) from rfl,decide_eq_true_iff]
  unfold cO
  rcases Int.lt_trichotomy x.1 y.1 with h | h | h
  · rw [uN h];simp;omega
  · rw [sS (x:=x.1) (y:=y.1) (by omega) (by omega)]
    simp only [if_true]
    rcases Int.lt_trichotomy x.2.1 y.2.1 with h' | h' | h'
    · rw [uN h'];simp;omega
    · rw [sS (x:=x.2.1) (y:=y.2.1) (by omega) (by omega)];simp;omega
    · rw [sT h'];simp;omega
  · rw [sT h];simp;omega
theorem Jw:SWO (ltOf cO) where
  irrefl x:=by
    cases h:ltOf cO x x with
    | false=>rfl
    | true=>have:=(dx x x).1 h;omega
  trans x y z h1 h2:=by
    have h1:=(dx x y).1 h1
    have h2:=(dx y z).1 h2
    exact (dx x z).2 (by omega)
  ntrans x y z h1 h2:=by
    cases h:ltOf cO x z with
    | false=>rfl
    | true =>
      have h3:=(dx x z).1 h
      have e1:¬ (x.1<y.1∨(x.1=y.1∧x.2.1<y.2.1)):=fun h'=>by rw [show ltOf cO x y=true from (dx x y).2 h'] at h1;cases h1
      have e2:¬ (y.1<z.1∨(y.1=z.1∧y.2.1<z.2.1)):=fun h'=>by rw [show ltOf cO y z=true from (dx y z).2 h'] at h2;cases h2
      omega
theorem FI (x y:aa) (h1:ltOf cO x y=false) (h2:ltOf cO y x=false):x=y:=by
  have e1:¬ (x.1<y.1∨(x.1=y.1∧x.2.1<y.2.1)):=fun h'=>by rw [show ltOf cO x y=true from (dx x y).2 h'] at h1;cases h1
  have e2:¬ (y.1<x.1∨(y.1=x.1∧y.2.1<x.2.1)):=fun h'=>by rw [show ltOf cO y x=true from (dx y x).2 h'] at h2;cases h2
  obtain ⟨a,b,⟨⟩⟩:=x
  obtain ⟨c,d,⟨⟩⟩:=y
  simp only [Prod.mk.injEq,and_true] at e1 e2 ⊢
  omega
def al (n:Nat) (h:Nat→aa):List aa:=(List.range n).map h
def bw (l:List aa):List aa:=l.mergeSort fun x y=>!(ltOf cO) y x
def df (n:Nat) (h:Nat→aa) (i:Nat):aa:=(bw (al n h)).getD i (0,0,())
theorem Bg (x:aa):(vj x).length=2:=rfl
theorem zg (x:aa):∀ v∈vj x,v.oneCell'=true:=by
  intro v hv
  simp only [vj,List.mem_cons,List.not_mem_nil,or_false] at hv
  rcases hv with rfl | rfl<;>rfl
theorem cB (l:List aa):(bw l).length=l.length:=by simp [bw]
theorem aC (n:Nat) (h:Nat→aa):(al n h).length=n:=by simp [al]
theorem jt (n:Nat) (h:Nat→aa) (hn:n≤1048576) :
    Con Tryz.prog 115 1 [(0,aj n h)] [.ar 2 0 0 n,.p (.fn 59)] [(0,aj n (df n h))] (.tup []):=by
  refine ⟨by kernel_rfl,fun w β X vals hX hH hS hd hl ha=>?_⟩
  obtain ⟨v0,v1,rfl⟩:∃ v0 v1,vals = #[v0,v1]:=by
    rcases vals with ⟨l⟩
    match l,hl with
    | [a,b],_=>exact ⟨a,b,rfl⟩
  have h0:VR w β (ow X β [(0,aj n h)]) (.ar 2 0 0 n) v0:=ha 0 (by simp)
  have h1:VR w β (ow X β [(0,aj n h)]) (.p (.fn 59)) v1:=ha 1 (by simp)
  have e1:v1=.func (.func 59) #[] #[]:=by
    cases h1 with
    | p _ _ hp=>cases hp;rfl
  subst e1
  have hnil:∀ (w':World) (own:Bool→Nat→Prop),VR w' β own (.tup []) (.tuple #[]):=fun w' own=>.tup [] #[] rfl (fun j hj=>absurd hj (Nat.not_lt_zero _))
  rcases Nat.eq_zero_or_pos n with rfl | hpos
  · obtain ⟨p,cap,rfl⟩:∃ p cap,v0=.slice p 0 cap:=by
      cases h0 with
      | ar0=>exact ⟨_,_,rfl⟩
      | ar=>exact ⟨_,_,rfl⟩
    refine (AnyF.slices_SortFunc_none (P:=Tryz.prog) (ρ:=Tryz.sortBar_ren) { Tryz.sortBar with } p cap _ w).mono ?_
    rintro e w' ⟨rfl,rfl⟩
    refine ⟨_,β,rfl,?_,?_,hnil _ _,?_,fun o a h=>h,fun b' h'=>.inl ?_,fun k h=>.inl h⟩
    · intro o ob hl
      obtain ⟨rfl,rfl⟩:=cK hl
      rcases hH 0 _ (mq _) with ⟨hb,_⟩ | ⟨b,base,cells,el,hβ,hh,_⟩ | hm
      · exact .inl ⟨hb,rfl⟩
      · exact .inr (.inl ⟨b,base,cells,el,hβ,hh,fun i hi=>absurd hi (Nat.not_lt_zero _)⟩)
      · exact absurd hm.2.1 (by simp [aj])
    · intro o o' ob ob' a a' h1 h2 h3 h4 h5
      obtain ⟨rfl,rfl⟩:=cK h1
      obtain ⟨rfl,rfl⟩:=cK h2
      rfl
    · rw [tI X β (aj 0 (df 0 h)) (aj 0 h)]
      exact Ext.refl _ _
    · rw [iv _ _ _ rfl] at h' ⊢;exact h'
  · cases h0 with
    | ar0=>exact absurd hpos (Nat.lt_irrefl 0)
    | ar _ _ _ _ b base c cells elem fr' hβ hh hsz hc =>
      rcases hH 0 _ (mq _) with ⟨hb,_⟩ | ⟨b',base',cells',el',hβ',hh',hrw⟩ | hm
      · rw [hb] at hβ;cases hβ
      · rw [hβ] at hβ'
        injection hβ' with hβ'
        injection hβ' with i1 i2 _
        subst i1;subst i2
        rw [hh] at hh'
        injection hh' with hh'
        injection hh' with i1 i2 i3
        subst i1;subst i2;subst i3
        have hcell:∀ i,i<n→cells[base+(i*2+0)]? = some (.int .i64 (h i).1)∧cells[base+(i*2+1)]? = some (.int .i64 (h i).2.1):=by
          intro i hi
          obtain ⟨u,hu1,hu2,hu3⟩:=hrw i hi 0 (by simp [aj])
          obtain ⟨u',hu1',hu2',hu3'⟩:=hrw i hi 1 (by simp [aj])
          have:=ug (k:=.i64) (x:=(h i).1) hu3
          subst this
          have:=ug (k:=.i64) (x:=(h i).2.1) hu3'
          subst this
          exact ⟨hu1,hu1'⟩
        have hend:base+n*2≤cells.size:=by
          have:=(hcell (n - 1) (by omega)).2
          rcases Nat.lt_or_ge (base+((n - 1)*2+1)) cells.size with h' | h'
          · omega
          · rw [Array.getElem?_eq_none h'] at this;cases this
        have hdz:((al n h).toArray).size=n:=by simp [al]
        have hdi:∀ i,i<n→((al n h).toArray)[i]! = h i:=by
          intro i hi
          rw [getElem!_pos _ i (by rw [hdz];exact hi)]
          simp [al]
        have hHK:HoldsK vj 2 w b base (al n h).toArray:=by
          intro t ht
          rw [size_flatK,hdz] at ht
          rw [get_flatK _ _ _ _ (by rw [hdz];exact ht),hdi (t / 2) (by omega)]
          have hc:=hcell (t / 2) (by omega)
          rcases Nat.mod_two_eq_zero_or_one t with h2 | h2
          · refine ⟨?_,by simp [World.frozen?,hh]⟩
            rw [h2]
            have:base+t=base+(t / 2*2+0):=by omega
            simp only [World.cell?,hh]
            rw [this,hc.1];rfl
          · refine ⟨?_,by simp [World.frozen?,hh]⟩
            rw [h2]
            have:base+t=base+(t / 2*2+1):=by omega
            simp only [World.cell?,hh]
            rw [this,hc.2];rfl
        have hblk:b<w.heap.size:=by
          rcases Nat.lt_or_ge b w.heap.size with h' | h'
          · exact h'
          · rw [Array.getElem?_eq_none h'] at hh;cases hh
        have eg:∀ args w,(callFunc 59 args).run Tryz.prog w=.ok (.enter 59 args) w:=enters_of Tryz.func59 (by kernel_rfl) rfl
        have hcmp:CmpLays Tryz.prog 59 #[] vj 2 cO b base (al n h).toArray.size w:=fun _ _ _ _ x y=>Ax x y _
        have hcon:=AnyQ.slices_SortFunc_total Tryz.sortBar 2 Tryz.isAgg63 Tryz.sizeOf63 vj Bg zg cO Jw 59 #[] b base c (al n h).toArray w eg hcmp hHK hblk (by rw [hdz];omega) FI
        rw [hdz] at hcon
        change Calls Tryz.prog 115 _ _ _ at hcon
        rw [show base+0*2=base by omega]
        refine hcon.mono ?_
        rintro e w' ⟨rfl,q,os,rfl⟩
        refine v3 (F:=flatK vj 2 (bw (al n h)).toArray) hβ hh hS hend (by rw [size_flatK];simp [cB,aC]) (fun i hi j hj=>?_) (hnil _)
        have hs:((bw (al n h)).toArray).size=n:=by simp [cB,aC]
        have hi2:i*2+j<n*2:=by omega
        rw [get_flatK _ _ _ _ (by rw [hs];exact hi2),show (i*2+j) / 2=i by omega,show (i*2+j) % 2=j by omega]
        have hgi:(bw (al n h)).toArray[i]! = df n h i:=by
          rw [getElem!_pos _ i (by rw [hs];exact hi),df]
          simp [List.getD_eq_getElem?_getD,List.getElem?_eq_getElem (show i<(bw (al n h)).length by rw [cB,aC];exact hi)]
        rw [hgi]
        rcases (show j=0∨j=1 by omega) with rfl | rfl
        · exact ⟨rfl,fun w' own=>.p _ _ (.int _ _)⟩
        · exact ⟨rfl,fun w' own=>.p _ _ (.int _ _)⟩
      · exact absurd hm.2.1 (by simp [aj])
def jh (x y:aa):Prop:=GR y x=false
theorem bX (x y:aa):jh x y↔x.1<y.1∨(x.1=y.1∧x.2.1≤y.2.1):=by
  have h:=dx y x
  unfold jh
  cases hb:GR y x with
  | false=>rw [hb] at h;simp only [Bool.false_eq_true,false_iff] at h;simp only [true_iff];omega
  | true=>rw [hb] at h;simp only [true_iff] at h;simp only [Bool.true_eq_false,false_iff];omega
theorem lT (x y:aa):iu x y=true↔jh x y:=by
  rw [bX]
  unfold iu
  by_cases h1:x.1<y.1
  · simp [h1]
  · by_cases h2:x.1=y.1<;>simp [h1,h2]
theorem qx (x y:aa) (h1:jh x y) (h2:jh y x):x=y:=FI x y h2 h1
theorem kR (l:List aa):(bw l).Pairwise jh:=by
  have h:=List.pairwise_mergeSort (le:=fun x y=>!(ltOf cO) y x) (fun a b c h1 h2=>by
    simp only [Bool.not_eq_true'] at *
    have h1:=(bX a b).1 h1
    have h2:=(bX b c).1 h2
    exact (bX a c).2 (by omega)) (fun a b=>by
    simp only [Bool.or_eq_true,Bool.not_eq_true']
    rcases (show (a.1<b.1∨(a.1=b.1∧a.2.1≤b.2.1))∨(b.1<a.1∨(b.1=a.1∧b.2.1≤a.2.1)) by omega) with h | h
    · exact .inl ((bX a b).2 h)
    · exact .inr ((bX b a).2 h)) l
  exact h.imp (fun {a b} h=>show ltOf cO b a=false by simpa using h)
theorem e7 (l:List aa):(bw l).Perm l:=List.mergeSort_perm l _
theorem ik {l m:List aa} (hp:m.Perm l) (hs:m.Pairwise jh):m=bw l :=
  List.Perm.eq_of_pairwise (le:=jh) (fun a b _ _ h1 h2=>qx a b h1 h2) hs (kR l) (hp.trans (e7 l).symm)
theorem bI (n:Nat) (h:Nat→aa):al (n+1) h=al n h++[h n]:=by simp [al,List.range_succ]
theorem mV {n:Nat} {h h':Nat→aa} (he:∀ i,i<n→h i=h' i):al n h=al n h':=by
  simp only [al]
  exact List.map_congr_left (fun a ha=>he a (List.mem_range.1 ha))
theorem cH (n:Nat) (h:Nat→aa) (x:aa):al (n+1) (aZ n h x)=al n h++[x]:=by
  rw [bI,mV (h':=h) (fun i hi=>cY hi),dO (Nat.lt_irrefl n)]
theorem zO {n:Nat} {h h':Nat→aa} (he:al n h=al n h') (i:Nat) (hi:i<n):h i=h' i:=by
  have:(al n h)[i]? = (al n h')[i]?:=by rw [he]
  simpa [al,hi] using this
theorem ma (n:Nat) (h:Nat→aa):al n (df n h)=bw (al n h):=by
  refine List.ext_getElem? (fun i=>?_)
  rcases Nat.lt_or_ge i n with hi | hi
  · have:i<(bw (al n h)).length:=by rw [cB,aC];exact hi
    simp only [al,List.getElem?_map,List.getElem?_range hi,Option.map_some]
    rw [show bw (List.map h (List.range n))=bw (al n h) from rfl,List.getElem?_eq_getElem this]
    simp [df,List.getD_eq_getElem?_getD,List.getElem?_eq_getElem this]
  · rw [List.getElem?_eq_none (by rw [aC];exact hi),List.getElem?_eq_none (by rw [cB,aC];exact hi)]
theorem x7 (g:Nat→aa) (x:aa) (nb:Nat) (hs:(al nb g).Pairwise jh):∀ i,i≤nb →
    (al (aX g x i).2.1 (aX g x i).2.2).Perm (al i g++(if (aX g x i).1=true then [x] else [])) ∧
    (al (aX g x i).2.1 (aX g x i).2.2).Pairwise jh∧((aX g x i).1=false→(al (aX g x i).2.1 (aX g x i).2.2)=al i g∧∀ s,s<i→jh (g s) x) ∧
    ((aX g x i).1=true→∀ s,s<nb→i≤s→∀ y∈al (aX g x i).2.1 (aX g x i).2.2,jh y (g s)):=by
  have hmono:∀ s s',s<s'→s'<nb→jh (g s) (g s'):=by
    intro s s' h1 h2
    have:=List.pairwise_iff_getElem.1 hs s s' (by rw [aC];omega) (by rw [aC];omega) h1
    simpa [al] using this
  have htr:∀ {a b c:aa},jh a b→jh b c→jh a c:=by
    intro a b c h1 h2
    have h1:=(bX a b).1 h1
    have h2:=(bX b c).1 h2
    exact (bX a c).2 (by omega)
  intro i
  induction i with
  | zero=>intro _;exact ⟨by simp [aX,al],by simp [aX,al],fun _=>⟨rfl,fun s h=>absurd h (Nat.not_lt_zero _)⟩,fun h=>by simp [aX] at h⟩
  | succ i ih =>
    intro hi
    obtain ⟨ih1,ih2,ih3,ih4⟩:=ih (by omega)
    simp only [aX]
    split
    · rename_i ht
      have hf:(aX g x i).1=false:=by
        cases e:(aX g x i).1 with
        | false=>rfl
        | true=>rw [e] at ht;simp at ht
      rw [hf] at ht
      simp only [Bool.not_false,cond_true,Bool.not_eq_true'] at ht
      have hxg:jh x (g i):=by
        have h1:¬ jh (g i) x:=fun h=>by rw [(lT _ _).2 h] at ht;cases ht
        rw [bX] at h1 ⊢
        omega
      obtain ⟨e1,e2⟩:=ih3 hf
      simp only [if_true]
      rw [cH,cH,e1]
      have hlt:∀ y∈al i g,jh y x∧jh y (g i):=by
        intro y hy
        simp only [al,List.mem_map,List.mem_range] at hy
        obtain ⟨s,h1,rfl⟩:=hy
        exact ⟨e2 s h1,hmono s i h1 (by omega)⟩
      refine ⟨?_,?_,fun h=>by simp at h,fun _ s hs1 hs2 y hy=>?_⟩
      · rw [bI,List.append_assoc,List.append_assoc]
        exact List.Perm.append_left _ (List.Perm.swap _ _ _)
      · rw [e1] at ih2
        rw [List.append_assoc,List.pairwise_append]
        refine ⟨ih2,by simp [hxg],fun y hy y' hy'=>?_⟩
        simp only [List.cons_append,List.nil_append,List.mem_cons,List.not_mem_nil,or_false] at hy'
        rcases hy' with rfl | rfl
        · exact (hlt y hy).1
        · exact (hlt y hy).2
      · have his:jh (g i) (g s):=hmono i s (by omega) hs1
        simp only [List.mem_append,List.mem_cons,List.not_mem_nil,or_false] at hy
        rcases hy with (hy | rfl) | rfl
        · exact htr (hlt y hy).2 his
        · exact htr hxg his
        · exact his
    · rename_i ht
      rw [cH]
      refine ⟨?_,?_,fun h=>?_,fun h s hs1 hs2 y hy=>?_⟩
      · rw [bI,List.append_assoc]
        refine (List.Perm.append_right [g i] ih1).trans ?_
        rw [List.append_assoc]
        exact List.Perm.append_left _ List.perm_append_comm
      · rw [List.pairwise_append]
        refine ⟨ih2,by simp,fun y hy y' hy'=>?_⟩
        simp only [List.mem_cons,List.not_mem_nil,or_false] at hy'
        subst hy'
        cases hp:(aX g x i).1 with
        | true=>exact ih4 hp i (by omega) (Nat.le_refl _) y hy
        | false =>
          rw [(ih3 hp).1] at hy
          simp only [al,List.mem_map,List.mem_range] at hy
          obtain ⟨s,h1,rfl⟩:=hy
          exact hmono s i h1 (by omega)
      · simp only at h
        obtain ⟨e1,e2⟩:=ih3 h
        refine ⟨by rw [e1,bI],fun s hs1=>?_⟩
        rcases Nat.lt_or_ge s i with h' | h'
        · exact e2 s h'
        · obtain rfl:s=i:=by omega
          rw [h] at ht
          simp only [Bool.not_false,cond_true,Bool.not_eq_true',Bool.not_eq_false] at ht
          exact (lT _ _).1 ht
      · simp only at h
        simp only [List.mem_append,List.mem_cons,List.not_mem_nil,or_false] at hy
        rcases hy with hy | rfl
        · exact ih4 h s hs1 (by omega) y hy
        · exact hmono i s (by omega) hs1
theorem xJ (g:Nat→aa) (nb:Nat) (x:aa) (hs:(al nb g).Pairwise jh) :
    al (fy g nb x).1 (fy g nb x).2=bw (al nb g++[x]):=by
  obtain ⟨h1,h2,h3,h4⟩:=x7 g x nb hs nb (Nat.le_refl _)
  unfold fy
  split
  · rename_i hp
    rw [if_pos hp] at h1
    exact ik h1 h2
  · rename_i hp
    have hf:(aX g x nb).1=false:=by simpa using hp
    obtain ⟨e1,e2⟩:=h3 hf
    simp only
    rw [cH,e1]
    refine ik (List.Perm.refl _) ?_
    rw [List.pairwise_append]
    refine ⟨hs,by simp,fun y hy y' hy'=>?_⟩
    simp only [List.mem_cons,List.not_mem_nil,or_false] at hy'
    subst hy'
    simp only [al,List.mem_map,List.mem_range] at hy
    obtain ⟨s,h',rfl⟩:=hy
    exact e2 s h'
def a0 (g:Nat→Int) (x:Int):Nat→Bool
  | 0=>false
  | k+1=>a0 g x k||g k==x
def eI (v:ad):AV:=.p (.seq true 1 v.1 (fun i=>[.int .i64 (v.2 i)]))
def EK (v:ad) (x:Int) (k:Nat):St :=
  ⟨[eI v,.p (.int .i64 x),.p .any,.p .any,.p .any,.p (.int .i64 k)]++List.replicate 12 ag,[],0⟩
def vh (v:ad) (x:Int) (k:Nat):St :=
  ⟨[eI v,.p (.int .i64 x)]++List.replicate 5 ag++[.p (.int .i64 v.1),.p (.int .i64 k)]++List.replicate 10 ag,[],0⟩
theorem Iu (v:ad) (x:Int) :
    zT Tryz.f44 [rg 1,rg 1,.head] [eI v,jI x] [] (EK v x 0) =
    some (xK,[(AN v.1),(AP v.1 (c8 v)),(AI x),((0:Int)=(↑0:Int))]):=by kernel_rfl
theorem IP (v:ad) (x:Int) (k:Nat) :
    zM 0 [rg 4,.dec true,rg 6,.dec false,rg 3,.head] xK (EK v x k) [] 1 (EK v x (k+1)) =
    some (xK,[((decide ((k:Int)<(v.1:Int)))=true),(IL 0 (k:Int)),(IT (k:Int) (v.1:Int)),((v.2 k==x)=false),(ax ((k:Int)+1)),(au ((k:Int)+1)),(AN v.1),(AP v.1 (c8 v)),(AI x),((((k:Int)+1):Int)=(↑(k+1):Int))]):=by kernel_rfl
theorem Ha (v:ad) (x:Int) (k:Nat) :
    zP Tryz.f44 0 [rg 4,.dec true,rg 6,.dec true,rg 1] xK (EK v x k) [] 1 [] (jB true) =
    some [((decide ((k:Int)<(v.1:Int)))=true),(IL 0 (k:Int)),(IT (k:Int) (v.1:Int)),((v.2 k==x)=true),(true=true)]:=by kernel_rfl
theorem Jj (v:ad) (x:Int) (k:Nat) :
    zP Tryz.f44 0 [rg 4,.dec false,rg 1] xK (EK v x k) [] 1 [] (jB false) =
    some [((decide ((k:Int)<(v.1:Int)))=false),(false=false)]:=by kernel_rfl
theorem C8 (v:ad) (x:Int) :
    zT Tryz.f98 [rg 1,rg 3,.head] [eI v,jI x] [] (vh v x 0) =
    some (ut,[(AN v.1),(AP v.1 (c8 v)),(AI x),(AI ((v.1:Int))),((0:Int)=(↑0:Int))]):=by kernel_rfl
theorem C0 (v:ad) (x:Int) (k:Nat) :
    zM 0 [rg 1,.dec true,rg 2,rg 6,.dec false,rg 2,.head] ut (vh v x k) [] 1 (vh v x (k+1)) =
    some (ut,[((decide ((k:Int)<(v.1:Int)))=true),(IL 0 (k:Int)),(IT (k:Int) (v.1:Int)),((x==v.2 k)=false),(ax ((k:Int)+1)),(au ((k:Int)+1)),(AN v.1),(AP v.1 (c8 v)),(AI x),(AI ((v.1:Int))),((((k:Int)+1):Int)=(↑(k+1):Int))]):=by kernel_rfl
theorem FB (v:ad) (x:Int) (k:Nat) :
    zP Tryz.f98 0 [rg 1,.dec true,rg 2,rg 6,.dec true,rg 2] ut (vh v x k) [] 1 [] (jI k) =
    some [((decide ((k:Int)<(v.1:Int)))=true),(IL 0 (k:Int)),(IT (k:Int) (v.1:Int)),((x==v.2 k)=true),(AI ((k:Int)))]:=by kernel_rfl
theorem Gn (v:ad) (x:Int) (k:Nat) :
    zP Tryz.f98 0 [rg 1,.dec false,rg 1] ut (vh v x k) [] 1 [] (jI (-1)) =
    some [((decide ((k:Int)<(v.1:Int)))=false),(AI ((-1)))]:=by kernel_rfl
theorem MH (v:ad) (x r:Int) :
    zS Tryz.f63 [rg 1,rm [(2,oc [] (jI r))] 2] [eI v,jI x] [] [] (jB (decide (r≥0))) =
    some [zE 98 [.p (.seq true 1 v.1 (c8 v)),jI x] [] (jI r),((decide (r≥0))=(decide (r≥0)))]:=by kernel_rfl
theorem e8 (g:Nat→Int) (x:Int) (k:Nat) (h:(g k==x)=true):∀ n,k<n→a0 g x n=true
  | 0,h'=>by omega
  | n+1,h'=>by
    by_cases e:k=n
    · subst e;simp [a0,h]
    · simp [a0,e8 g x k h n (by omega)]
theorem xV (v:ad) (x:Int) (hn:v.1≤1048576):zE 44 [eI v,.p (.int .i64 x)] [] (.p (.bool (a0 v.2 x v.1))):=by
  refine aW Tryz.func44 (fun c hc=>?_)
  have lp:∀ m k,k+m=v.1→a0 v.2 x k=false→zR c 44 xK (EK v x k) (aS c [] (.p (.bool (a0 v.2 x v.1)))):=by
    intro m
    induction m with
    | zero =>
      intro k hk hg
      rw [show a0 v.2 x v.1=false by rw [show v.1=k by omega];exact hg]
      have hd:decide ((k:Int)<(v.1:Int))=false:=by simp;omega
      refine be Tryz.func44 hc (Jj v x k) ?_
      and_intros
      all_goals (first | exact zN)
    | succ m ih =>
      intro k hk hg
      have hd:decide ((k:Int)<(v.1:Int))=true:=by simp;omega
      cases he:(v.2 k==x) with
      | true =>
        rw [e8 v.2 x k he v.1 (by omega)]
        refine be Tryz.func44 hc (Ha v x k) ?_
        and_intros
        all_goals (first | exact zN | (exact he))
      | false =>
        refine cW hc (IP v x k) ?_ (ih (k+1) (by omega) (by simp only [a0,hg,he];rfl))
        and_intros
        all_goals (first | exact zN | (exact he))
  refine cW hc (Iu v x) ?_ (lp v.1 0 (by omega) rfl)
  and_intros
  all_goals (first | exact zN)
theorem w9 (v:ad) (x:Int) (hn:v.1≤1048576):∃ r:Int,decide (r≥0)=a0 v.2 x v.1∧zE 98 [eI v,.p (.int .i64 x)] [] (.p (.int .i64 r)):=by
  have key:(∃ k,k<v.1∧a0 v.2 x k=false∧(v.2 k==x)=true)∨a0 v.2 x v.1=false:=by
    have gen:∀ n,(∃ k,k<n∧a0 v.2 x k=false∧(v.2 k==x)=true)∨a0 v.2 x n=false:=by
      intro n
      induction n with
      | zero=>exact .inr rfl
      | succ n ih =>
        rcases ih with ⟨k,h1,h2⟩ | h
        · exact .inl ⟨k,by omega,h2⟩
        · cases he:(v.2 n==x) with
          | true=>exact .inl ⟨n,by omega,h,he⟩
          | false=>exact .inr (by simp only [a0,h,he];rfl)
    exact gen v.1
  rcases key with ⟨q,hq,hq1,hq2⟩ | hno
  · refine ⟨(q:Int),by rw [e8 v.2 x q hq2 v.1 hq];simp,?_⟩
    refine aW Tryz.func98 (fun c hc=>?_)
    have lp:∀ m k,k+m=q→zR c 98 ut (vh v x k) (aS c [] (.p (.int .i64 (q:Int)))):=by
      intro m
      induction m with
      | zero =>
        intro k hk
        obtain rfl:k=q:=by omega
        have hd:decide ((k:Int)<(v.1:Int))=true:=by simp;omega
        have he:(x==v.2 k)=true:=by rw [beq_iff_eq] at hq2 ⊢;exact hq2.symm
        refine be Tryz.func98 hc (FB v x k) ?_
        and_intros
        all_goals (first | exact zN | (exact he))
      | succ m ih =>
        intro k hk
        have hd:decide ((k:Int)<(v.1:Int))=true:=by simp;omega
        have he:(x==v.2 k)=false:=by
          cases h:(v.2 k==x) with
          | true=>rw [e8 v.2 x k h q (by omega)] at hq1;cases hq1
          | false =>
            simp only [beq_eq_false_iff_ne,ne_eq] at h ⊢
            exact fun e=>h e.symm
        refine cW hc (C0 v x k) ?_ (ih (k+1) (by omega))
        and_intros
        all_goals (first | exact zN | (exact he))
    refine cW hc (C8 v x) ?_ (lp q 0 (by omega))
    and_intros
    all_goals (first | exact zN)
  · refine ⟨-1,by rw [hno];rfl,?_⟩
    refine aW Tryz.func98 (fun c hc=>?_)
    have lp:∀ m k,k+m=v.1→zR c 98 ut (vh v x k) (aS c [] (.p (.int .i64 (-1)))):=by
      intro m
      induction m with
      | zero =>
        intro k hk
        have hd:decide ((k:Int)<(v.1:Int))=false:=by simp;omega
        refine be Tryz.func98 hc (Gn v x k) ?_
        and_intros
        all_goals (first | exact zN)
      | succ m ih =>
        intro k hk
        have hd:decide ((k:Int)<(v.1:Int))=true:=by simp;omega
        have he:(x==v.2 k)=false:=by
          cases h:(v.2 k==x) with
          | true=>rw [e8 v.2 x k h v.1 (by omega)] at hno;cases hno
          | false =>
            simp only [beq_eq_false_iff_ne,ne_eq] at h ⊢
            exact fun e=>h e.symm
        refine cW hc (C0 v x k) ?_ (ih (k+1) (by omega))
        and_intros
        all_goals (first | exact zN | (exact he))
    refine cW hc (C8 v x) ?_ (lp v.1 0 (by omega))
    and_intros
    all_goals (first | exact zN)
theorem dN (v:ad) (x:Int) (hn:v.1≤1048576):zE 63 [eI v,.p (.int .i64 x)] [] (.p (.bool (a0 v.2 x v.1))):=by
  obtain ⟨r,hr,hcon⟩:=w9 v x hn
  rw [← hr]
  refine aW Tryz.func63 (fun c hc=>?_)
  refine be Tryz.func63 hc (MH v x r) ?_
  and_intros
  all_goals (first | exact zN | (exact hcon))
open Go Go.Sort
def aD (a b:Int):aa:=(if b<a then b else a,if b>a then b else a,())
def ub (N:Int) (s:Nat→Int) (k:Nat):Bool:=bif !bC (s k) 0 (N - 1) then true else a0 s (s k) k
def ek (N:Int) (s:Nat→Int):Nat→Bool
  | 0=>true
  | k+1=>ek N s k&&!ub N s k
def E0 (v:ai) (u:ad) (k:Nat):St :=
  ⟨[aJ v,eI u,.pt 2 0 0 0,.p .any,.p (.bool false),.p .any,.p .any,eI u,.p (.int .i64 u.1),.p (.int .i64 k)]++List.replicate 16 ag,[(0,BI v)],1⟩
def FY:Ob:=⟨true,2,1,fun _=>[.p (.int .i64 0),.p .nil]⟩
theorem I7 (a b:Int) :
    zS Tryz.f96 [rg 1,rg 8] [jI a,jI b] [] [] ((qO b a)) =
    some [(NT 0 1),((true=true)→(AN 1)),(NT 0 1),(((if false=true then if b>a then b else a else if b<a then b else a):Int)=(if b<a then b else a)),(((if true=true then if b>a then b else a else if b<a then b else a):Int)=(if b>a then b else a))]:=by kernel_rfl
theorem H7 (v:ai) (p:Int) :
    zS Tryz.f74 [rg 2,rm [(4,oc [] (jB (bC p 0 (v.1 - 1))))] 1] [aJ v,jI p] [] [] (jB (bC p 0 (v.1 - 1))) =
    some [(NT 0 1),(ax (v.1 - 1)),(au (v.1 - 1)),zE 58 [jI p,jI 0,jI (v.1 - 1)] [] (jB (bC p 0 (v.1 - 1))),((bC p 0 (v.1 - 1))=(bC p 0 (v.1 - 1)))]:=by kernel_rfl
theorem Kr (v:ai) (u:ad) :
    zT Tryz.f36 [rg 2,rg 3,.head] [aJ v,eI u] [0] (E0 v u 0) =
    some (x9,zD [(AI v.1),(AN v.2.1.1),(AP v.2.1.1 (aF v.2.1.2)),(AN u.1),(AP u.1 (c8 u)),(AN 0),(false=false),(AI ((u.1:Int))),((0:Int)=(↑0:Int)),((([AV.p (PV.int IntKind.i64 v.1),cJ v.2.1].length):Nat)=2),(NL 1 1)] [0,1,2,3,4,5,6,3,4,7,8,9,10,10,0,1,2]):=by kernel_rfl
theorem Mi (v:ai) (u:ad) (k:Nat) :
    zM 0 [rg 1,.dec true,rg 5,rm [(2,oc [] (jB (bC (u.2 k) 0 (v.1 - 1)))),(6,oc [] (jB (a0 u.2 (u.2 k) k)))] 1,.dec false,rg 2,.head] x9 (E0 v u k) [0] 1 (E0 v u (k+1)) =
    some (x9,zD (let A:Bool:=bC (u.2 k) 0 (v.1 - 1);[((decide ((k:Int)<(u.1:Int)))=true),(IL 0 (k:Int)),(IT (k:Int) (u.1:Int)),(NT 0 1),zE 74 [(br v),jI (u.2 k)] [] (jB (A)),(AG (!!A)),(((!!A)=true)→(IL 0 0)),(((!!A)=true)→(IL 0 (k:Int))),(((!!A)=true)→(IL (k:Int) (u.1:Int))),(((!!A)=true)→zE 63 [.p (.seq true 1 k (c8 u)),jI (u.2 k)] [] (jB (a0 u.2 (u.2 k) k))),(((!A)=false)→((!!A)=true)),((bif !A then true else a0 u.2 (u.2 k) k)=false),(ax ((k:Int)+1)),(au ((k:Int)+1)),(AI v.1),(AN v.2.1.1),(AP v.2.1.1 (aF v.2.1.2)),(AN u.1),(AP u.1 (c8 u)),(AN 0),(false=false),(AI ((u.1:Int))),((((k:Int)+1):Int)=(↑(k+1):Int)),(AN 2),(NL 1 1)]) [0,1,2,3,4,5,5,6,7,8,5,5,9,10,11,12,13,14,15,16,17,18,19,20,17,18,21,22,23,24,24,14,15,16]):=by kernel_rfl
theorem Mm (v:ai) (u:ad) (k:Nat) :
    zP Tryz.f36 0 [rg 1,.dec true,rg 5,rm [(2,oc [] (jB (bC (u.2 k) 0 (v.1 - 1)))),(6,oc [] (jB (a0 u.2 (u.2 k) k)))] 1,.dec true,rg 1] x9 (E0 v u k) [] 1 [] (jB false) =
    some (zD (let A:Bool:=bC (u.2 k) 0 (v.1 - 1);[((decide ((k:Int)<(u.1:Int)))=true),(IL 0 (k:Int)),(IT (k:Int) (u.1:Int)),(NT 0 1),zE 74 [(br v),jI (u.2 k)] [] (jB (A)),(AG (!!A)),(((!!A)=true)→(IL 0 0)),(((!!A)=true)→(IL 0 (k:Int))),(((!!A)=true)→(IL (k:Int) (u.1:Int))),(((!!A)=true)→zE 63 [.p (.seq true 1 k (c8 u)),jI (u.2 k)] [] (jB (a0 u.2 (u.2 k) k))),(((!A)=false)→((!!A)=true)),((bif !A then true else a0 u.2 (u.2 k) k)=true),(false=false)]) [0,1,2,3,4,5,5,6,7,8,5,5,9,10,11,12]):=by kernel_rfl
theorem OA (v:ai) (u:ad) (k:Nat) :
    zP Tryz.f36 0 [rg 1,.dec false,rg 1] x9 (E0 v u k) [] 1 [] (jB true) =
    some [((decide ((k:Int)<(u.1:Int)))=false),(true=true)]:=by kernel_rfl
theorem dT (a b:Int):zE 96 [.p (.int .i64 a),.p (.int .i64 b)] [] (.agg [.p (.int .i64 (aD a b).1),.p (.int .i64 (aD a b).2.1)]):=by
  refine aW Tryz.func96 (fun c hc=>?_)
  refine be Tryz.func96 hc (I7 a b) ?_
  and_intros
  all_goals (first | exact zI | simp)
theorem AF (v:ai) (p:Int) (h1:1≤v.1) (h2:v.1≤8):zE 74 [aJ v,.p (.int .i64 p)] [] (.p (.bool (bC p 0 (v.1 - 1)))):=by
  refine aW Tryz.func74 (fun c hc=>?_)
  refine be Tryz.func74 hc (H7 v p) ?_
  and_intros
  all_goals (first | exact zN | (exact bp _ _ _))
theorem vM (N:Int) (s:Nat→Int) (k:Nat) (h:ub N s k=true):∀ n,k<n→ek N s n=false
  | 0,h'=>absurd h' (Nat.not_lt_zero _)
  | n+1,h'=>by
    by_cases e:k=n
    · subst e;simp [ek,h]
    · simp [ek,vM N s k h n (by omega)]
theorem eT {N:Int} {s:Nat→Int}:∀ {n:Nat},ek N s n=true→∀ k,k<n→0≤s k∧s k<N∧∀ j,j<k→s j≠s k
  | 0,_,k,hk=>absurd hk (Nat.not_lt_zero _)
  | n+1,h,k,hk=>by
    simp only [ek,Bool.and_eq_true,Bool.not_eq_true'] at h
    by_cases e:k=n
    · subst e
      have h2:=h.2
      unfold ub at h2
      cases hb:bC (s k) 0 (N - 1) with
      | false=>rw [hb] at h2;simp at h2
      | true =>
        rw [hb] at h2
        simp only [Bool.not_true,cond_false] at h2
        simp only [bC,Bool.and_eq_true,decide_eq_true_eq] at hb
        refine ⟨hb.1,by omega,fun j hj hjk=>?_⟩
        rw [e8 s (s k) j (by simpa using hjk) k hj] at h2
        cases h2
    · exact eT h.1 k (by omega)
theorem bJ (v:ai) (u:ad) (h1:1≤v.1) (h2:v.1≤8) (hn:u.1≤1048576):zE 36 [aJ v,eI u] [] (.p (.bool (ek v.1 u.2 u.1))):=by
  refine aW Tryz.func36 (fun c hc=>?_)
  have lp:∀ m k,k+m=u.1→ek v.1 u.2 k=true→zR c 36 x9 (E0 v u k) (aS c [] (.p (.bool (ek v.1 u.2 u.1)))):=by
    intro m
    induction m with
    | zero =>
      intro k hk hg
      obtain rfl:k=u.1:=by omega
      have hd:decide (((u.1:Nat):Int)<(u.1:Int))=false:=by simp
      rw [hg]
      refine be Tryz.func36 hc (OA v u u.1) ?_
      and_intros
      all_goals (first | exact zN)
    | succ m ih =>
      intro k hk hg
      have hd:decide ((k:Int)<(u.1:Int))=true:=by simp;omega
      have c1:=AF v (u.2 k) h1 h2
      have c2:=dN (k,u.2) (u.2 k) (by show k≤1048576;omega)
      cases he:ub v.1 u.2 k with
      | true =>
        rw [vM v.1 u.2 k he u.1 (by omega)]
        have he':(bif !bC (u.2 k) 0 (v.1 - 1) then true else a0 u.2 (u.2 k) k)=true:=he
        refine bz Tryz.func36 hc (Mm v u k) ?_
        and_intros
        all_goals (first | exact zH | (exact c1) | (exact he') | (intro _;exact c2) | (intros;omega))
      | false =>
        have he':(bif !bC (u.2 k) 0 (v.1 - 1) then true else a0 u.2 (u.2 k) k)=false:=he
        refine a9 hc (Mi v u k) ?_ (ih (k+1) (by omega) (by simp only [ek,hg,he];rfl))
        and_intros
        all_goals (first | exact zH | (exact c1) | (exact he') | (intro _;exact c2) | (intros;omega) | (intro j hj;simp [af]))
  refine a9 hc (Kr v u) ?_ (lp u.1 0 (by omega) rfl)
  and_intros
  all_goals (first | exact zN | (intro j hj;simp [af]))
theorem cD {v:ai} (h:ah v=true):1≤v.1∧v.1≤8∧v.2.1.1≤24∧b9 v.1 v.2.1.2 v.2.1.1=true:=by
  unfold ah at h
  split at h
  · rename_i h1
    simp only [bC,Bool.and_eq_true,decide_eq_true_eq] at h1
    exact ⟨h1.1.1,h1.1.2,h1.2,h⟩
  · cases h
theorem q9 {N:Int} {g:Nat→aa}:∀ {n:Nat},b9 N g n=true→∀ k,k<n→0≤(g k).1∧(g k).1<(g k).2.1∧(g k).2.1<N∧(0<k→jh (g (k - 1)) (g k))
  | 0,_,k,hk=>absurd hk (Nat.not_lt_zero _)
  | n+1,h,k,hk=>by
    simp only [b9,Bool.and_eq_true,Bool.not_eq_true'] at h
    by_cases e:k=n
    · subst e
      have h2:=h.2
      unfold lg at h2
      by_cases c1:(g k).1<0
      · simp [c1] at h2
      by_cases c2:(g k).1≥(g k).2.1
      · simp [c1,c2] at h2
      by_cases c3:(g k).2.1≥N
      · simp [c1,c2,c3] at h2
      refine ⟨by omega,by omega,by omega,fun h0=>?_⟩
      simp only [c1,c2,c3,decide_false,cond_false] at h2
      rw [decide_eq_true (show (k:Int)>0 by omega)] at h2
      simp only [cond_true,Bool.not_eq_false'] at h2
      rw [← lT]
      rw [show ((k:Int) - 1).toNat=k - 1 by omega] at h2
      exact h2
    · exact q9 h.1 k (by omega)
theorem jl {N:Int} {g:Nat→aa} {n:Nat} (h:b9 N g n=true):(al n g).Pairwise jh:=by
  have step:=q9 h
  have htr:∀ {a b c:aa},jh a b→jh b c→jh a c:=by
    intro a b c h1 h2
    have h1:=(bX a b).1 h1
    have h2:=(bX b c).1 h2
    exact (bX a c).2 (by omega)
  have mono:∀ d i,i+d<n→jh (g i) (g (i+d)):=by
    intro d
    induction d with
    | zero=>intro i hi;show jh (g i) (g i);exact (bX _ _).2 (by omega)
    | succ d ih=>intro i hi;exact htr (ih i (by omega)) ((step (i+(d+1)) hi).2.2.2 (by omega))
  rw [List.pairwise_iff_getElem]
  intro i j hi hj hij
  rw [aC] at hi hj
  have:=mono (j - i) i (by omega)
  rw [show i+(j - i)=j by omega] at this
  simpa [al] using this
theorem c9 {v:ai} (h:v.2.1.1≤1048576):cP a6 v:=⟨by simp [cP,j0],⟨h,fun i hi=>by simp [cP,j0]⟩,True.intro⟩
def dI (n:Nat) (f:Nat→Int) (p:Int) (s:Nat):Int:=if s<n then f s else p
theorem FA (g:Nat→aa) (nb N m:Nat) (F T Q:Nat→Int) :
    zS Tryz.f128 [rg 1,rm [(2,oc (bl N m F T Q) (bf N m 0))] 3] [jI N,b4 g nb] [] [] (jI m) =
    some [zE 99 [jI (N:Int),.p (.seq true 2 nb (aF g)),jI 2,jI 3] (eb N F m T Q) (.agg [.ar 1 0 0 N,.ar 1 1 0 m,.ar 1 2 0 m]),(AI ((m:Int)))]:=by kernel_rfl
theorem EH (g:Nat→aa) (nb N:Nat) (x:aa) (r1 r0:Nat) :
    zS Tryz.f118 [rg 2,rm [(7,oc [] (jI r1)),(2,oc [] (jI r0))] 2] [jI N,b4 g nb,jZ x] [] [] (jB (decide ((r1:Int)>(r0:Int)))) =
    some (let A:Bool:=decide ((r1:Int)>(r0:Int));[(NL 0 0),(NL ((0+nb)*16) 140737488355328),(NL (0+nb) 9223372036854775807),(NT 0 1),(NL 1 1),(NL (0+nb) (0+nb)),(NL ((0+nb+1)*16) 140737488355328),(NL (0+nb+1) 9223372036854775807),(AN 2),(NL (0+nb+1) (0+nb+1)),zE 128 [jI (N:Int),.p (.seq true 2 (0+nb+1) (fun i=>[(bG true (if (i<0+nb) then [.p (.int .i64 ((g i).1)),.p (.int .i64 ((g i).2.1))] else [.p (.int .i64 x.1),.p (.int .i64 x.2.1)]) 0),(bG true (if (i<0+nb) then [.p (.int .i64 ((g i).1)),.p (.int .i64 ((g i).2.1))] else [.p (.int .i64 x.1),.p (.int .i64 x.2.1)]) 1)]))] [] (jI (r1:Int)),zE 128 [jI (N:Int),.p (.seq true 2 nb (aF g))] [] (jI (r0:Int)),((A)=(A))]):=by kernel_rfl
def bL (g:Nat→aa):Nat→List (Nat×Nat)
  | 0=>[]
  | n+1=>bL g n++[bB (g n)]
theorem kg (g:Nat→aa) (y:Nat×Nat):∀ n,y∈bL g n↔∃ s,s<n∧bB (g s)=y
  | 0=>by
    constructor
    · intro h;cases h
    · rintro ⟨s,h,_⟩;exact absurd h (Nat.not_lt_zero _)
  | n+1=>by
    simp only [bL,List.mem_append,List.mem_singleton,kg g y n]
    constructor
    · rintro (⟨s,h1,h2⟩ | h)
      · exact ⟨s,by omega,h2⟩
      · exact ⟨n,by omega,h.symm⟩
    · rintro ⟨s,h1,h2⟩
      by_cases e:s=n
      · right;rw [← e];exact h2.symm
      · exact .inl ⟨s,by omega,h2⟩
theorem jf (N k l:Nat) (g:Nat→aa):∀ n,(aK N k l g n).map (fun i=>bB (g i))=Mat.greedy N k l [] (bL g n)
  | 0=>rfl
  | n+1=>by
    have ih:=jf N k l g n
    simp only [aK,bL,Mat.greedy_append,Mat.greedy]
    rw [← ih]
    split
    · rw [List.map_append];rfl
    · rfl
theorem dn (N k l:Nat) (g:Nat→aa) (n:Nat):(aK N k l g n).length=(Mat.greedy N k l [] (bL g n)).length:=by
  rw [← jf,List.length_map]
def aO (N nb:Nat) (g:Nat→aa):Prop:=∀ e,e<nb→0≤(g e).1∧(g e).1<(g e).2.1∧(g e).2.1<N
theorem du {N nb:Nat} {g:Nat→aa} (h:aO N nb g):∀ x∈bL g nb,Mat.GoodBar N x:=by
  intro x hx
  obtain ⟨s,h1,h2⟩:=(kg g x nb).1 hx
  have:=h s h1
  rw [← h2]
  simp only [Mat.GoodBar,bB]
  omega
theorem oe (N k l:Nat) {g g':Nat→aa}:∀ n,(∀ i,i<n→g i=g' i)→aK N k l g n=aK N k l g' n
  | 0,_=>rfl
  | n+1,h=>by
    have ih:=oe N k l n (fun i hi=>h i (by omega))
    have hb:(aK N k l g n).map (fun i=>bB (g i))=(aK N k l g' n).map (fun i=>bB (g' i)):=by
      rw [ih]
      refine List.map_congr_left (fun i hi=>?_)
      rw [h i (by
        have:∀ n,∀ i∈aK N k l g' n,i<n:=by
          intro n
          induction n with
          | zero=>intro i hi;cases hi
          | succ n ih2 =>
            intro i hi
            simp only [aK] at hi
            split at hi
            · rcases List.mem_append.1 hi with h | h
              · have:=ih2 i h;omega
              · rw [List.mem_singleton] at h;omega
            · have:=ih2 i hi;omega
        have:=this n i hi
        omega)]
    simp only [aK]
    rw [hb,h n (by omega),ih]
theorem zj (N k l:Nat) (g:Nat→aa) (n:Nat):(aK N k l g n).length≤(aK N k l g (n+1)).length:=by
  simp only [aK]
  split
  · simp
  · exact Nat.le_refl _
theorem iL {N nb:Nat} {g:Nat→aa} (hb:aO N nb g) (hN:N≤1048576) (hnb:nb≤1048576):zE 128 [.p (.int .i64 N),b4 g nb] [] (.p (.int .i64 ((aK N 2 3 g nb).length:Nat))):=by
  obtain ⟨m,F,T,Q,hc1,hp,hq⟩:=sh (N:=N) (k:=2) (l:=3) hb (by omega) (by omega) hN hnb
  rw [← hq,bE]
  refine aW Tryz.func128 (fun c hc=>?_)
  refine be Tryz.func128 hc (FA g nb N m F T Q) ?_
  and_intros
  all_goals (first | exact zN | (exact hc1) | (intro i hi;simp [af]))
theorem Cg {N nb:Nat} {g:Nat→aa} {x:aa} (hb:aO N nb g) (hx:0≤x.1∧x.1<x.2.1∧x.2.1<N):aO N (nb+1) (aZ nb g x):=by
  intro e he
  by_cases h:e<nb
  · rw [cY h];exact hb e h
  · rw [dO h];exact hx
theorem uU {N nb:Nat} {g:Nat→aa} {x:aa} (hb:aO N nb g) (hx:0≤x.1∧x.1<x.2.1∧x.2.1<N) (hN:N≤1048576) (hnb:nb≤1000000) :
    zE 118 [.p (.int .i64 N),b4 g nb,jZ x] [] (.p (.bool (decide (((aK N 2 3 (aZ nb g x) (nb+1)).length:Int)>((aK N 2 3 g nb).length:Int))))):=by
  have h0:=iL hb hN (by omega)
  have h1:=iL (Cg hb hx) hN (by omega)
  refine aW Tryz.func118 (fun c hc=>?_)
  refine be Tryz.func118 hc (EH g nb N x _ _) ?_
  repeat' (first | exact aN | apply aI)
  all_goals (first | exact zN | (exact h0) | (refine Con.arg_ext h1 ?_;simp only [b4,pI,wk,CY,beq_self_eq_true,Bool.and_self,if_true,lC,List.append_nil,List.cons_append,List.nil_append,af];refine ⟨trivial,by omega,fun i hi=>?_,trivial⟩;simp only [Nat.zero_add];by_cases h:i<nb<;>simp [h,bG,tg,bu,aZ]))
noncomputable def gS (N nb:Nat) (g:Nat→aa) (a b:Int):Bool :=
  bif a==b then true else (((aK N 2 3 (aZ nb g (aD a b)) (nb+1)).length:Nat):Int)==(((aK N 2 3 g nb).length:Nat):Int)
theorem yU {N:Nat} {a b:Int} (ha:0≤a∧a<N) (hb:0≤b∧b<N) (hab:a≠b):0≤(aD a b).1∧(aD a b).1<(aD a b).2.1∧(aD a b).2.1<N:=by
  simp only [aD]
  by_cases h:b<a
  · rw [if_pos h,if_neg (by omega)];omega
  · rw [if_neg h,if_pos (by omega)];omega
theorem mU (N:Int) (g:Nat→aa):∀ n,b9 N g n=true→∀ e,e<n→lg N g e=false
  | 0,_,e,he=>by omega
  | n+1,h,e,he=>by
    simp only [b9,Bool.and_eq_true,Bool.not_eq_true'] at h
    by_cases h':e=n
    · subst h';exact h.2
    · exact mU N g n h.1 e (by omega)
theorem aB {N nb:Nat} {g:Nat→aa} (h:ah ((N:Int),(nb,g),())=true):(1≤N∧N≤8)∧nb≤24∧aO N nb g:=by
  unfold ah at h
  split at h
  case isFalse=>cases h
  rename_i hc
  obtain ⟨h1,h2⟩:=hc
  simp only [bC,Bool.and_eq_true,decide_eq_true_eq] at h1
  refine ⟨by omega,h2,fun e he=>?_⟩
  have hb:=mU (N:Int) g nb h e he
  unfold lg at hb
  by_cases a1:(g e).1<0
  · simp [a1] at hb
  by_cases a2:(g e).1≥(g e).2.1
  · simp [a2] at hb
  by_cases a3:(g e).2.1≥(N:Int)
  · simp [a3] at hb
  omega
theorem bM (v:ai) (h:ah v=true):∃ (N nb:Nat) (g:Nat→aa),v=((N:Int),(nb,g),()):=by
  obtain ⟨v1,⟨nb,g⟩,⟨⟩⟩:=v
  have h1:0≤v1:=by
    unfold ah at h
    split at h
    · rename_i hc
      have:=hc.1
      simp [bC] at this
      omega
    · cases h
  exact ⟨v1.toNat,nb,g,by rw [Int.toNat_of_nonneg h1]⟩
theorem MI (v:ai) :
    zS Tryz.f92 [rg 2,rg 8] [aJ v] [224] [(0,aj v.2.1.1 v.2.1.2)] (.agg [jI v.1,.ar 2 0 0 v.2.1.1]) =
    some [(NT 0 1),(NT 0 1),(NL 0 0),(NL ((0+v.2.1.1)*16) 140737488355328),(NL (0+v.2.1.1) 9223372036854775807),(NT 0 1),((true=true)→(AN 1)),(NT 0 1),(AI v.1),(AN 0),(((0+v.2.1.1):Nat)=v.2.1.1),(AN 2),(NL v.2.1.1 (0+v.2.1.1)),(AA v.2.1.1 (fun i=>[.p (.int .i64 ((v.2.1.2 i).1)),.p (.int .i64 ((v.2.1.2 i).2.1))])),(AE v.2.1.1)]:=by kernel_rfl
theorem MC (v:ai) (a b:Int) (b1:Bool) :
    zS Tryz.f57 [rg 3,rm [(1,oc [] (jB b1))] 32,.dec true,rm [(1,oc [(0,aj v.2.1.1 v.2.1.2)] (.agg [jI v.1,.ar 2 0 0 v.2.1.1]))] 2] [aJ v,jI a,jI b] [1216] [(0,aj v.2.1.1 v.2.1.2)] (.tup [.agg [jI v.1,.ar 2 0 0 v.2.1.1],jB false]) =
    some (zD (let D:Bool:=bif !b1 then true else decide (a<0);let B:Bool:=bif D then true else decide (b<0);let A:Bool:=bif B then true else decide (a≥v.1);let C:Bool:=bif A then true else decide (b≥v.1);let E:Bool:=bif C then true else a==b;[(NT 0 1),zE 10 [(br v)] [] (jB b1),(AG (!!b1)),(((!b1)=false)→((!!b1)=true)),(AG (!D)),((D=false)→((!D)=true)),(AG (!B)),(((!B)=true)→(NT 0 1)),((B=false)→((!B)=true)),(AG (!A)),(((!A)=true)→(NT 0 1)),((A=false)→((!A)=true)),(AG (!C)),((C=false)→((!C)=true)),(AG (!E)),(((!E)=true)→(NT 0 1)),((E=false)→((!E)=true)),((bif E then true else decide ((v.2.1.1:Int)≥24))=true),zE 92 [(br v)] (wB v) (.agg [jI v.1,.ar 2 0 0 v.2.1.1]),((true=true)→(AN 1)),(AI v.1),(AN 0),(AN v.2.1.1),(false=false),(AN 2),(NL v.2.1.1 v.2.1.1),(AA v.2.1.1 (fun i=>[.p (.int .i64 ((v.2.1.2 i).1)),.p (.int .i64 ((v.2.1.2 i).2.1))])),(AE v.2.1.1)]) [0,1,2,3,4,5,6,7,6,6,8,9,10,9,9,11,12,12,13,14,15,14,14,16,17,0,18,0,19,0,20,21,22,23,24,25,26,27]):=by kernel_rfl
theorem Nq (v:ai) (a b:Int) (b1:Bool) (m:Nat) (r r':Nat→aa) :
    zS Tryz.f57 [rg 3,rm [(1,oc [] (jB b1))] 32,.dec false,rm [(8,oc [(0,aj m r)] (.agg [jI v.1,.ar 2 0 0 m]))] 2] [aJ v,jI a,jI b] [1440] [(0,aj m r')] (.tup [.agg [jI v.1,.ar 2 0 0 m],jB true]) =
    some (zD (let D:Bool:=bif !b1 then true else decide (a<0);let B:Bool:=bif D then true else decide (b<0);let A:Bool:=bif B then true else decide (a≥v.1);let C:Bool:=bif A then true else decide (b≥v.1);let E:Bool:=bif C then true else a==b;[(NT 0 1),zE 10 [(br v)] [] (jB b1),(AG (!!b1)),(((!b1)=false)→((!!b1)=true)),(AG (!D)),((D=false)→((!D)=true)),(AG (!B)),(((!B)=true)→(NT 0 1)),((B=false)→((!B)=true)),(AG (!A)),(((!A)=true)→(NT 0 1)),((A=false)→((!A)=true)),(AG (!C)),((C=false)→((!C)=true)),(AG (!E)),(((!E)=true)→(NT 0 1)),((E=false)→((!E)=true)),((bif E then true else decide ((v.2.1.1:Int)≥24))=false),zE 89 [(br v),.agg [jI (if false=true then if b>a then b else a else if b<a then b else a),jI (if true=true then if b>a then b else a else if b<a then b else a)]] (bg m r) (.agg [jI v.1,.ar 2 0 0 m]),((true=true)→(AN 1)),(AI v.1),(AN 0),(AN m),(true=true),(AN 2),(NL m m),(∀ i:Nat,(((i:Nat)<m)→(af []∧(([.p (.int .i64 ((r i).1)),.p (.int .i64 ((r i).2.1))]:List AV)=[.p (.int .i64 ((r' i).1)),.p (.int .i64 ((r' i).2.1))])))),(AE m)]) [0,1,2,3,4,5,6,7,6,6,8,9,10,9,9,11,12,12,13,14,15,14,14,16,17,0,18,0,19,0,20,21,22,23,24,25,26,27]):=by kernel_rfl
theorem lU (v:ai) (hn:v.2.1.1≤1048576):zE 92 [aJ v] [(0,aj v.2.1.1 v.2.1.2)] (.agg [.p (.int .i64 v.1),.ar 2 0 0 v.2.1.1]):=by
  refine aW Tryz.func92 (fun c hc=>?_)
  refine be Tryz.func92 hc (MI v) ?_
  and_intros
  all_goals (first | exact zI | (intro j hj;simp [af];done) | (simp;try omega))
def zq (v:ai) (a b:Int):Bool:=ah v&&(bC a 0 (v.1 - 1)&&(bC b 0 (v.1 - 1)&&(!(a==b)&&!((v.2.1.1:Int)==24))))
def gO (v:ai) (a b:Int):ai:=if zq v a b=true then (v.1,(v.2.1.1+1,df (v.2.1.1+1) (aZ v.2.1.1 v.2.1.2 (aD a b))),()) else v
theorem ux {v:ai} {a b:Int} (h:zq v a b=true):ah v=true∧(0≤a∧a<v.1)∧(0≤b∧b<v.1)∧a≠b∧v.2.1.1<24:=by
  simp only [zq,bC,Bool.and_eq_true,decide_eq_true_eq,Bool.not_eq_true',beq_eq_false_iff_ne,ne_eq] at h
  obtain ⟨hg,⟨h1,h2⟩,⟨h3,h4⟩,h5,h6⟩:=h
  have:=cD hg
  exact ⟨hg,⟨h1,by omega⟩,⟨h3,by omega⟩,h5,by omega⟩
theorem AT (v:ai) (a b:Int):(gO v a b).2.1.1≤v.2.1.1∨(gO v a b).2.1.1≤24:=by
  unfold gO
  split
  · rename_i h
    have:=ux h
    right;show v.2.1.1+1≤24;omega
  · left;exact Nat.le_refl _
theorem fG (v:ai) (hs:cP a6 v) (a b:Int) :
    zE 57 [aJ v,.p (.int .i64 a),.p (.int .i64 b)] [(0,aj (gO v a b).2.1.1 (gO v a b).2.1.2)] (.tup [.agg [.p (.int .i64 (gO v a b).1),.ar 2 0 0 (gO v a b).2.1.1],.p (.bool (zq v a b))]):=by
  have hn:v.2.1.1≤1048576:=hs.2.1.1
  have cc:=lU v hn
  have c1:=bH v hs
  have hcd:(bif bif bif bif bif bif !ah v then true else decide (a<0) then true else decide (b<0) then true else decide (a≥v.1) then true else decide (b≥v.1) then true else a==b then true else decide ((v.2.1.1:Int)≥24))=!zq v a b:=by
    unfold zq bC
    cases hg:ah v with
    | false=>rfl
    | true =>
      have:=cD hg
      have e1:decide (a≥v.1)=!decide (a≤v.1 - 1):=by
        by_cases h:a≥v.1
        · have:¬ a≤v.1 - 1:=by omega
          simp [h,this]
        · have:a≤v.1 - 1:=by omega
          simp [h,this]
      have e2:decide (b≥v.1)=!decide (b≤v.1 - 1):=by
        by_cases h:b≥v.1
        · have:¬ b≤v.1 - 1:=by omega
          simp [h,this]
        · have:b≤v.1 - 1:=by omega
          simp [h,this]
      have e3:decide (a<0)=!decide (0≤a):=by
        by_cases h:a<0
        · have:¬ 0≤a:=by omega
          simp [h,this]
        · have:0≤a:=by omega
          simp [h,this]
      have e4:decide (b<0)=!decide (0≤b):=by
        by_cases h:b<0
        · have:¬ 0≤b:=by omega
          simp [h,this]
        · have:0≤b:=by omega
          simp [h,this]
      have e5:decide ((v.2.1.1:Int)≥24)=((v.2.1.1:Int)==24):=by
        by_cases h:v.2.1.1=24
        · rw [h];rfl
        · have h1:¬ (v.2.1.1:Int)≥24:=by omega
          have h2:¬ (v.2.1.1:Int)=24:=by omega
          simp only [h1,decide_false]
          exact (beq_eq_false_iff_ne.2 h2).symm
      rw [e1,e2,e3,e4,e5]
      cases decide (0≤a)<;>cases decide (0≤b)<;>cases decide (a≤v.1 - 1)<;>cases decide (b≤v.1 - 1)<;>cases (a==b)<;>cases ((v.2.1.1:Int)==24)<;>rfl
  refine aW Tryz.func57 (fun c hc=>?_)
  cases hb:zq v a b with
  | false =>
    rw [hb] at hcd
    have hcd':(bif bif bif bif bif bif !ah v then true else decide (a<0) then true else decide (b<0) then true else decide (a≥v.1) then true else decide (b≥v.1) then true else a==b then true else decide ((v.2.1.1:Int)≥24))=true:=hcd
    rw [show gO v a b=v by simp [gO,hb]]
    refine bz Tryz.func57 hc (MC v a b (ah v)) ?_
    and_intros
    all_goals (first | exact zH | (exact cc) | (exact c1) | (exact hcd') | (intro j hj;simp [af]))
  | true =>
    rw [hb] at hcd
    have hcd':(bif bif bif bif bif bif !ah v then true else decide (a<0) then true else decide (b<0) then true else decide (a≥v.1) then true else decide (b≥v.1) then true else a==b then true else decide ((v.2.1.1:Int)≥24))=false:=hcd
    have hin:=ux hb
    have hgr:=cD hin.1
    rw [show gO v a b=(v.1,(v.2.1.1+1,df (v.2.1.1+1) (aZ v.2.1.1 v.2.1.2 (aD a b))),()) by simp [gO,hb]]
    have cp:=pg v.2.1.2 v.2.1.1 v.1.toNat (aD a b) hn
    have hN:((v.1.toNat:Nat):Int)=v.1:=by omega
    rw [bi,hN] at cp
    have hl:=xJ v.2.1.2 v.2.1.1 (aD a b) (jl hgr.2.2.2)
    have hn':=tV v.2.1.2 v.2.1.1 (aD a b)
    rw [hn'] at cp hl
    rw [← cH,← ma] at hl
    have hrow:=zO hl
    generalize df (v.2.1.1+1) (aZ v.2.1.1 v.2.1.2 (aD a b))=r at hrow ⊢
    generalize (fy v.2.1.2 v.2.1.1 (aD a b)).2=r0 at cp hrow
    refine bz Tryz.func57 hc (Nq v a b (ah v) (v.2.1.1+1) r0 r) ?_
    and_intros
    iterate 2 all_goals (first | exact zH | (exact c1) | (exact cp) | (exact hcd') | (intro j hj;simp [af];done) | (intro j hj;rw [hrow j hj];simp [ay,bh,tg,bu,af]) | simp only [af])
def yL (N:Int) (k:Nat):Ob:=⟨true,2,1,fun _=>[.p (.int .i64 N),.ar 2 3 0 k]⟩
def cV (N:Int) (k j:Nat):AV:=.agg [.p (.int .i64 N),.ar 2 j 0 k]
def y3 (n:Nat) (f:Nat→Int) (s:Nat×Int) (N:Nat) (odd:Int) (k:Nat) (h:Nat→aa) (a:Nat):St :=
  ⟨[.pt 3 0 0 0,.p (.int .i64 N),.p (.int .i64 odd),.p .any,.p .any,.p .any,.pt 2 1 0 0,.pt 2 2 0 0,.p (.int .i64 a)]++List.replicate 35 ag,[(0,aR n f s),(1,FY),(2,yL N k),(3,aj k h)],4⟩
def um (n:Nat) (f:Nat→Int) (s:Nat×Int) (N:Nat) (odd:Int) (k:Nat) (h:Nat→aa) (a b:Nat):St :=
  ⟨[.pt 3 0 0 0,.p (.int .i64 N),.p (.int .i64 odd),.p .any,.p .any,.p .any,.pt 2 1 0 0,.pt 2 2 0 0,.p (.int .i64 a),.p (.int .i64 b)]++List.replicate 34 ag,[(0,aR n f s),(1,FY),(2,yL N k),(3,aj k h)],4⟩
def GC (n:Nat) (f:Nat→Int) (s:Nat×Int) (N:Int) (k:Nat) (h:Nat→aa) (q:Nat):St :=
  ⟨[.pt 3 0 0 0,.p .any,.pt 2 1 0 0,.pt 2 2 0 0,.p (.int .i64 q)]++List.replicate 35 ag,[(0,aR n f s),(1,FY),(2,yL N k),(3,aj k h)],4⟩
def t5 (n:Nat) (f:Nat→Int) (s:Nat×Int) (N:Nat) (k:Nat) (h:Nat→aa) (v:Nat):St :=
  ⟨[.pt 3 0 0 0,.p (.int .i64 N),.p .any,.p .any,.pt 2 1 0 0,.pt 2 2 0 0,.p (.int .i64 v)]++List.replicate 95 ag,[(0,aR n f s),(1,FY),(2,yL N k),(3,aj k h)],4⟩
def rW (n:Nat) (f:Nat→Int) (s:Nat×Int) (N:Nat) (k:Nat) (h:Nat→aa) (v:Nat) (e:Nat) (x:aa) (w:Int):St :=
  ⟨[.pt 3 0 0 0,.p (.int .i64 N),.p .any,.p .any,.pt 2 1 0 0,.pt 2 2 0 0,.p (.int .i64 v),ag,ag,.p (.int .i64 e),.pt 2 4 0 0,.p (.int .i64 w)]++List.replicate 90 ag,[(0,aR n f s),(1,FY),(2,yL N k),(3,aj k h),(4,IU x)],5⟩
def BW (h:Nat→aa) (e i:Nat):aa:=if i<e then h i else h (i+1)
theorem My (n:Nat) (f:Nat→Int) (s:Nat×Int) (N:Nat) (odd:Int) :
    zM 1 [rg 1,rg 5,rg 1,.head] [.code (ab Tryz.f108)] (start Tryz.f108 [(0,aR n f s)] 1 [.pt 3 0 0 0,jI N,jI odd]) [0,1,129,65] 1 (y3 n f s N odd 0 (fun _=>(0,0,())) 0) =
    some (Bk,zD [(NT 0 1),((true=true)→(AN 1)),(AN 0),(AI ((N:Int))),(AI odd),((0:Int)=(↑0:Int)),(AN 3),(NL 1 1),(AN n),(AP n (fun i=>[.int .u8 (f i)])),(AI ((s.1:Int))),(AI s.2),((((List.map (fun v=>AV.p (bZ v)) [Value.int IntKind.i64 0,Value.slice none 0 0]).length):Nat)=2),(AI 0),(AN 2),(NL 0 0),(AA 0 (fun i=>[.p (.int .i64 0),.p (.int .i64 0)]))] [0,1,2,3,4,2,2,5,6,7,7,8,9,10,11,12,7,7,13,12,7,7,3,2,2,14,15,16]):=by kernel_rfl
theorem M6 (n:Nat) (f:Nat→Int) (s:Nat×Int) (N:Nat) (odd:Int) (k:Nat) (h:Nat→aa) (a:Nat) :
    zM 1 [rg 3,.dec true,rg 3,.head] Bk (y3 n f s N odd k h a) [0,1,2,3] 1 (um n f s N odd k h a (a+1)) =
    some (uK,zD [((decide ((a:Int)<(N:Int)))=true),(ax ((a:Int)+1)),(au ((a:Int)+1)),(AN 0),(AI ((N:Int))),(AI odd),(AI ((a:Int))),((((a:Int)+1):Int)=(↑(a+1):Int)),(AN 3),(NL 1 1),(AN n),(AP n (fun i=>[.int .u8 (f i)])),(AI ((s.1:Int))),(AI s.2),(AN 2),(AI 0),(AN k),(NL k k),(AA k (fun i=>[.p (.int .i64 ((h i).1)),.p (.int .i64 ((h i).2.1))]))] [0,1,2,3,4,5,3,3,6,7,8,9,9,10,11,12,13,14,9,9,15,14,9,9,4,3,16,14,17,18]):=by kernel_rfl
theorem LL (n:Nat) (f:Nat→Int) (s:Nat×Int) (N:Nat) (odd:Int) (k:Nat) (h:Nat→aa) (a:Nat) :
    zP Tryz.f108 1 [rg 3,.dec false,rg 2] Bk (y3 n f s N odd k h a) [0,3] 1 [(0,aR n f s),(1,aj k h)] (cV N k 1) =
    some [((decide ((a:Int)<(N:Int)))=false),(NT 0 1),(NT 0 1),((true=true)→(AN 1)),(NT 0 1),(AI ((N:Int))),(AN 0),(AN k),(AN 3),(NL 1 1),(NL 1 1),(AN n),(AP n (fun i=>[.int .u8 (f i)])),(AI ((s.1:Int))),(AI s.2),(AN 2),(NL k k),(AA k (fun i=>[.p (.int .i64 ((h i).1)),.p (.int .i64 ((h i).2.1))])),(∀ i:Nat,(((i:Nat)<1)→af [(false=false),(AE n)])),(AE k)]:=by kernel_rfl
theorem Oh (n:Nat) (f:Nat→Int) (s s2:Nat×Int) (N:Nat) (odd:Int) (k:Nat) (h:Nat→aa) (a b:Nat) (x:Int) :
    zM 1 [rg 3,.dec true,rm [(1,⟨true,(some ⟨[0],[1000],[],1,[(0,aR n f s2)],jI x⟩),none⟩)] 8,.dec true,rg 9,rg 3,.head] uK (um n f s N odd k h a b) [0,1,2,612] 1 (um n f s2 N odd (k+1) (aZ k h (a,b,())) a (b+1)) =
    some (uK,zD (let A:Bool:=decide (x<odd);[((decide ((b:Int)<(N:Int)))=true),(AE 1),Con Tryz.prog 53 1 (am n f s) [.pt 3 0 0 0,jI 10] (am n f s2) (jI x),(AG A),((A=true)→(NT 0 1)),((bif A then decide ((k:Int)<24) else false)=true),(NT 0 1),(NL 1 1),(NL k k),(NL ((k+1)*16) 140737488355328),(NL (k+1) 9223372036854775807),((true=true)→(AN 1)),(ax ((b:Int)+1)),(au ((b:Int)+1)),(AN 0),(AI ((N:Int))),(AI odd),(AI ((a:Int))),((((b:Int)+1):Int)=(↑(b+1):Int)),(AN 3),(AN n),(AP n (fun i=>[.int .u8 (f i)])),(AI ((s2.1:Int))),(AI s2.2),(AN 2),(AI 0),(AN ((k+1))),(NL (k+1) (k+1)),(∀ i:Nat,(((i:Nat)<(k+1))→(af (ay false [(2,⟨true,2,1,(fun i_1=>[.p (.int .i64 (N:Int)),.ar 2 612 0 (k+1)])⟩),(612,⟨false,2,(k+1),(fun i_1=>(if (i_1<k) then [.p (.int .i64 ((h i_1).1)),.p (.int .i64 ((h i_1).2.1))] else [.p (.int .i64 (a:Int)),.p (.int .i64 (b:Int))]))⟩),(580,⟨false,2,1,(fun i_1=>[.p (.int .i64 (a:Int)),.p (.int .i64 (b:Int))])⟩),(0,⟨true,3,1,(fun i_1=>[.p (.seq false 1 n (fun i_2=>[.int .u8 (f i_2)])),.p (.int .i64 (s2.1:Int)),.p (.int .i64 s2.2)])⟩),(1,⟨true,2,1,(fun i_1=>[.p (.int .i64 0),.p (.nil)])⟩)] [0,1,2,612] 1 (if (i<k) then [.p (.int .i64 ((h i).1)),.p (.int .i64 ((h i).2.1))] else [.p (.int .i64 (a:Int)),.p (.int .i64 (b:Int))])).2∧(((ay false [(2,⟨true,2,1,(fun i_1=>[.p (.int .i64 (N:Int)),.ar 2 612 0 (k+1)])⟩),(612,⟨false,2,(k+1),(fun i_1=>(if (i_1<k) then [.p (.int .i64 ((h i_1).1)),.p (.int .i64 ((h i_1).2.1))] else [.p (.int .i64 (a:Int)),.p (.int .i64 (b:Int))]))⟩),(580,⟨false,2,1,(fun i_1=>[.p (.int .i64 (a:Int)),.p (.int .i64 (b:Int))])⟩),(0,⟨true,3,1,(fun i_1=>[.p (.seq false 1 n (fun i_2=>[.int .u8 (f i_2)])),.p (.int .i64 (s2.1:Int)),.p (.int .i64 s2.2)])⟩),(1,⟨true,2,1,(fun i_1=>[.p (.int .i64 0),.p (.nil)])⟩)] [0,1,2,612] 1 (if (i<k) then [.p (.int .i64 ((h i).1)),.p (.int .i64 ((h i).2.1))] else [.p (.int .i64 (a:Int)),.p (.int .i64 (b:Int))])).1:List AV)=[.p (.int .i64 (if i<k then (h i).1 else (a:Int))),.p (.int .i64 (if i<k then (h i).2.1 else (b:Int)))]))))]) [0,1,2,3,4,3,3,3,5,6,7,8,9,10,6,11,12,13,14,15,16,14,14,17,18,19,7,7,20,21,22,23,24,7,7,25,24,7,7,15,14,26,24,27,28]):=by kernel_rfl
theorem KB (n:Nat) (f:Nat→Int) (s s2:Nat×Int) (N:Nat) (odd:Int) (k:Nat) (h:Nat→aa) (a b:Nat) (x:Int) :
    zM 1 [rg 3,.dec true,rm [(1,⟨true,(some ⟨[0],[1000],[],1,[(0,aR n f s2)],jI x⟩),none⟩)] 8,.dec false,rg 3,.head] uK (um n f s N odd k h a b) [0,1,2,3] 1 (um n f s2 N odd k h a (b+1)) =
    some (uK,zD (let A:Bool:=decide (x<odd);[((decide ((b:Int)<(N:Int)))=true),(AE 1),Con Tryz.prog 53 1 (am n f s) [.pt 3 0 0 0,jI 10] (am n f s2) (jI x),(AG A),((A=true)→(NT 0 1)),((bif A then decide ((k:Int)<24) else false)=false),(ax ((b:Int)+1)),(au ((b:Int)+1)),(AN 0),(AI ((N:Int))),(AI odd),(AI ((a:Int))),((((b:Int)+1):Int)=(↑(b+1):Int)),(AN 3),(NL 1 1),(AN n),(AP n (fun i=>[.int .u8 (f i)])),(AI ((s2.1:Int))),(AI s2.2),(AN 2),(AI 0),(AN k),(NL k k),(AA k (fun i=>[.p (.int .i64 ((h i).1)),.p (.int .i64 ((h i).2.1))]))]) [0,1,2,3,4,3,3,3,5,6,7,8,9,10,8,8,11,12,13,14,14,15,16,17,18,19,14,14,20,19,14,14,9,8,21,19,22,23]):=by kernel_rfl
theorem Kh (n:Nat) (f:Nat→Int) (s:Nat×Int) (N:Nat) (odd:Int) (k:Nat) (h:Nat→aa) (a b:Nat) :
    zM 1 [rg 3,.dec false,rg 3,.head] uK (um n f s N odd k h a b) [0,1,2,3] 1 (y3 n f s N odd k h (a+1)) =
    some (Bk,zD [((decide ((b:Int)<(N:Int)))=false),(ax ((a:Int)+1)),(au ((a:Int)+1)),(AN 0),(AI ((N:Int))),(AI odd),((((a:Int)+1):Int)=(↑(a+1):Int)),(AN 3),(NL 1 1),(AN n),(AP n (fun i=>[.int .u8 (f i)])),(AI ((s.1:Int))),(AI s.2),(AN 2),(AI 0),(AN k),(NL k k),(AA k (fun i=>[.p (.int .i64 ((h i).1)),.p (.int .i64 ((h i).2.1))]))] [0,1,2,3,4,5,3,3,6,7,8,8,9,10,11,12,13,8,8,14,13,8,8,4,3,15,13,16,17]):=by kernel_rfl
theorem LU (n:Nat) (f:Nat→Int) (s s1 s2 s3 s4 s5:Nat×Int) (x y z t:Int) (N:Int) (k:Nat) (h:Nat→aa) (q:Nat) :
    zM 1 [rg 1,rm [(2,⟨true,(some ⟨[0],[1000],[],1,[(0,aR n f s1)],jI x⟩),none⟩),(2,⟨true,(some ⟨[0],[1000],[],1,[(0,aR n f s2)],jI y⟩),none⟩),(1,⟨true,(some ⟨[0],[1000],[],1,[(0,aR n f s3),(1,aj k h)],cV N k 1⟩),none⟩)] 2,rm [(1,⟨true,(some ⟨[0],[1000],[],1,[(0,aR n f s4)],jI z⟩),none⟩),(1,⟨true,(some ⟨[0],[1000],[],1,[(0,aR n f s5)],jI t⟩),none⟩)] 2,.head] [.code (ab Tryz.f88)] (start Tryz.f88 [(0,aR n f s)] 1 [.pt 3 0 0 0]) [0,1,289,257] 1 (GC n f s5 N k h q) =
    some (AR,zD [(AE 1),Con Tryz.prog 53 1 (am n f s) [.pt 3 0 0 0,jI 5] (am n f s1) (jI x),(ax (2+x)),(au (2+x)),Con Tryz.prog 53 1 (am n f s1) [.pt 3 0 0 0,jI 4] (am n f s2) (jI y),(ax (5+y)),(au (5+y)),Con Tryz.prog 108 1 (am n f s2) [.pt 3 0 0 0,jI (2+x),jI (5+y)] (lc n f s3 k h) (.agg [jI N,.ar 2 1 0 k]),(NT 0 1),((true=true)→(AN 1)),Con Tryz.prog 53 1 (am n f s3) [.pt 3 0 0 0,jI 3] (am n f s4) (jI z),Con Tryz.prog 53 1 (am n f s4) [.pt 3 0 0 0,jI 2] (am n f s5) (jI t),(ax (z*t)),(au (z*t)),(AN 0),(((z*t):Int)=(q:Int)),(AN 3),(NL 1 1),(AN n),(AP n (fun i=>[.int .u8 (f i)])),(AI ((s5.1:Int))),(AI s5.2),((((List.map (fun v=>AV.p (bZ v)) [Value.int IntKind.i64 0,Value.slice none 0 0]).length):Nat)=2),(AI 0),(AI N),(AN k),(AN 2),(NL k k),(AA k (fun i=>[.p (.int .i64 ((h i).1)),.p (.int .i64 ((h i).2.1))]))] [0,1,2,3,0,4,5,6,0,7,8,9,0,10,0,11,12,13,14,14,14,15,16,17,17,18,19,20,21,22,17,17,23,22,17,17,24,14,25,26,27,28]):=by kernel_rfl
theorem LB (n:Nat) (f:Nat→Int) (s s1 s2:Nat×Int) (N:Int) (k:Nat) (h:Nat→aa) (q:Nat) (a b:Int) (M:Int) (m:Nat) (r:Nat→aa) (ok:Bool) :
    zM 1 [rg 2,.dec true,rm [(3,⟨true,(some ⟨[0],[1000],[],1,[(0,aR n f s1)],jI a⟩),none⟩)] 1,rm [(3,⟨true,(some ⟨[0],[1000],[],1,[(0,aR n f s2)],jI b⟩),none⟩)] 1,rm [(3,oc [(0,aj m r)] (.tup [cV M m 0,jB ok]))] 4,rg 3,.head] AR (GC n f s N k h (q+1)) [0,1,2,484] 1 (GC n f s2 M m r q) =
    some (AR,zD [((decide ((↑(q+1):Int)>0))=true),(NT 0 1),(AE 1),Con Tryz.prog 53 1 (am n f s) [.pt 3 0 0 0,jI N] (am n f s1) (jI a),Con Tryz.prog 53 1 (am n f s1) [.pt 3 0 0 0,jI N] (am n f s2) (jI b),(AN 2),(NL k k),zE 57 [(cq N k h),jI a,jI b] (bg m r) (.tup [.agg [jI M,.ar 2 0 0 m],jB ok]),((true=true)→(AN 1)),(ax ((↑(q+1):Int) - 1)),(au ((↑(q+1):Int) - 1)),(AN 0),((((↑(q+1):Int) - 1):Int)=(q:Int)),(AN 3),(NL 1 1),(AN n),(AP n (fun i=>[.int .u8 (f i)])),(AI ((s2.1:Int))),(AI s2.2),(AI 0),(AI M),(AN m),(NL m m),(AA m (fun i=>[.p (.int .i64 ((r i).1)),.p (.int .i64 ((r i).2.1))]))] [0,1,2,3,1,2,4,1,5,6,7,1,8,9,10,11,11,11,12,13,14,14,15,16,17,18,5,14,14,19,5,14,14,20,11,21,5,22,23]):=by kernel_rfl
theorem Lf (n:Nat) (f:Nat→Int) (s:Nat×Int) (N:Int) (k:Nat) (h:Nat→aa) :
    zP Tryz.f88 1 [rg 2,.dec false,rg 2] AR (GC n f s N k h 0) [0,3] 1 [(0,aR n f s),(1,aj k h)] (cV N k 1) =
    some [((decide ((↑0:Int)>0))=false),(NT 0 1),(NT 0 1),((true=true)→(AN 1)),(NT 0 1),(AI N),(AN 0),(AN k),(AN 3),(NL 1 1),(NL 1 1),(AN n),(AP n (fun i=>[.int .u8 (f i)])),(AI ((s.1:Int))),(AI s.2),(AN 2),(NL k k),(AA k (fun i=>[.p (.int .i64 ((h i).1)),.p (.int .i64 ((h i).2.1))])),(∀ i:Nat,(((i:Nat)<1)→af [(false=false),(AE n)])),(AE k)]:=by kernel_rfl
theorem LS (n:Nat) (f:Nat→Int) (s s1 s2 s3 s4:Nat×Int) (N:Int) (k:Nat) (h:Nat→aa) (x y z:Int) :
    zP Tryz.f54 1 [rg 1,rm [(1,⟨true,(some ⟨[0],[1000],[],1,[(0,aR n f s1),(1,aj k h)],cV N k 1⟩),none⟩)] 2,rm [(1,⟨true,(some ⟨[0],[1000],[],1,[(0,aR n f s2)],jI x⟩),none⟩)] 0,rg 2,.dec true,rm [(2,⟨true,(some ⟨[0],[1000],[],1,[(0,aR n f s3)],jI y⟩),none⟩)] 2,rg 2] [.code (ab Tryz.f54)] (start Tryz.f54 [(0,aR n f s)] 1 [.pt 3 0 0 0]) [0,65] 1 [(0,aR n f s3),(1,aj k h)] (cV y k 1) =
    some (zD [(AE 1),Con Tryz.prog 88 1 (am n f s) [.pt 3 0 0 0] (lc n f s1 k h) (.agg [jI N,.ar 2 1 0 k]),(NT 0 1),((true=true)→(AN 1)),Con Tryz.prog 53 1 (am n f s1) [.pt 3 0 0 0,jI 16] (am n f s2) (jI x),((x==0)=true),(AN 1),(NL 4 4),Con Tryz.prog 82 1 (am n f s2) [.pt 3 0 0 0,.p (.seq true 1 4 (fun i=>[(bG true [(List.getD ([.p (.int .i64 0),.p (.int .i64 (-1)),.p (.int .i64 9),.p (.int .i64 3)]:List AV) (bk 4 i*1) (.p .any))] 0)]))] (am n f s3) (jI y),(AI y),(AN 0),(AN k),(AN 3),(NL 1 1),(AN n),(AP n (fun i=>[.int .u8 (f i)])),(AI ((s3.1:Int))),(AI s3.2),(AN 2),(NL k k),(AA k (fun i=>[.p (.int .i64 ((h i).1)),.p (.int .i64 ((h i).2.1))])),(∀ i:Nat,(((i:Nat)<1)→af [(false=false),(AE n)])),(AE k)] [0,1,2,3,0,4,5,0,6,7,8,2,3,2,2,3,2,9,10,11,12,13,13,14,15,16,17,18,19,20,21,22]):=by kernel_rfl
theorem LE (n:Nat) (f:Nat→Int) (s s1 s2 s3 s4:Nat×Int) (N:Int) (k:Nat) (h:Nat→aa) (x y z:Int) :
    zP Tryz.f54 1 [rg 1,rm [(1,⟨true,(some ⟨[0],[1000],[],1,[(0,aR n f s1),(1,aj k h)],cV N k 1⟩),none⟩)] 2,rm [(1,⟨true,(some ⟨[0],[1000],[],1,[(0,aR n f s2)],jI x⟩),none⟩)] 0,rg 2,.dec false,rg 2,.dec true,rm [(3,⟨true,(some ⟨[0],[1000],[],1,[(0,aR n f s3)],jI y⟩),none⟩),(1,⟨true,(some ⟨[0],[1000],[],1,[(0,aR n f s4)],jI z⟩),none⟩)] 5,rg 2] [.code (ab Tryz.f54)] (start Tryz.f54 [(0,aR n f s)] 1 [.pt 3 0 0 0]) [0,609] 1 [(0,aR n f s4),(1,aj (k+1) (aZ k h (y,z,())))] (cV N (k+1) 1) =
    some (zD [(AE 1),Con Tryz.prog 88 1 (am n f s) [.pt 3 0 0 0] (lc n f s1 k h) (.agg [jI N,.ar 2 1 0 k]),(NT 0 1),((true=true)→(AN 1)),Con Tryz.prog 53 1 (am n f s1) [.pt 3 0 0 0,jI 16] (am n f s2) (jI x),((x==0)=false),((x==1)=true),Con Tryz.prog 53 1 (am n f s2) [.pt 3 0 0 0,jI 3] (am n f s3) (jI y),Con Tryz.prog 53 1 (am n f s3) [.pt 3 0 0 0,jI 9] (am n f s4) (jI z),(NL 1 1),(NL k k),(NL ((k+1)*16) 140737488355328),(NL (k+1) 9223372036854775807),(AI N),(AN 0),(AN ((k+1))),(AN 3),(AN n),(AP n (fun i=>[.int .u8 (f i)])),(AI ((s4.1:Int))),(AI s4.2),(AN 2),(NL (k+1) (k+1)),(∀ i:Nat,(((i:Nat)<(k+1))→(af (ay false [(1,⟨true,2,1,(fun i_1=>[.p (.int .i64 N),.ar 2 609 0 (k+1)])⟩),(97,⟨true,2,1,(fun i_1=>[.p (.int .i64 N),.ar 2 609 0 (k+1)])⟩),(609,⟨false,2,(k+1),(fun i_1=>(if (i_1<k) then [.p (.int .i64 ((h i_1).1)),.p (.int .i64 ((h i_1).2.1))] else [.p (.int .i64 y),.p (.int .i64 z)]))⟩),(577,⟨false,2,1,(fun i_1=>[.p (.int .i64 y),.p (.int .i64 z)])⟩),(0,⟨true,3,1,(fun i_1=>[.p (.seq false 1 n (fun i_2=>[.int .u8 (f i_2)])),.p (.int .i64 (s4.1:Int)),.p (.int .i64 s4.2)])⟩)] [0,609] 1 (if (i<k) then [.p (.int .i64 ((h i).1)),.p (.int .i64 ((h i).2.1))] else [.p (.int .i64 y),.p (.int .i64 z)])).2∧(((ay false [(1,⟨true,2,1,(fun i_1=>[.p (.int .i64 N),.ar 2 609 0 (k+1)])⟩),(97,⟨true,2,1,(fun i_1=>[.p (.int .i64 N),.ar 2 609 0 (k+1)])⟩),(609,⟨false,2,(k+1),(fun i_1=>(if (i_1<k) then [.p (.int .i64 ((h i_1).1)),.p (.int .i64 ((h i_1).2.1))] else [.p (.int .i64 y),.p (.int .i64 z)]))⟩),(577,⟨false,2,1,(fun i_1=>[.p (.int .i64 y),.p (.int .i64 z)])⟩),(0,⟨true,3,1,(fun i_1=>[.p (.seq false 1 n (fun i_2=>[.int .u8 (f i_2)])),.p (.int .i64 (s4.1:Int)),.p (.int .i64 s4.2)])⟩)] [0,609] 1 (if (i<k) then [.p (.int .i64 ((h i).1)),.p (.int .i64 ((h i).2.1))] else [.p (.int .i64 y),.p (.int .i64 z)])).1:List AV)=[.p (.int .i64 (if i<k then (h i).1 else y)),.p (.int .i64 (if i<k then (h i).2.1 else z))])))),(∀ i:Nat,(((i:Nat)<1)→af [(false=false),(AE n)])),(AE ((k+1)))] [0,1,2,3,0,4,5,6,2,0,7,0,8,9,10,11,12,2,3,2,2,3,2,13,14,15,16,9,9,17,18,19,20,21,22,23,24,25]):=by kernel_rfl
theorem Lx (n:Nat) (f:Nat→Int) (s s1 s2 s3 s4:Nat×Int) (N:Int) (k:Nat) (h:Nat→aa) (x y z:Int) :
    zP Tryz.f54 1 [rg 1,rm [(1,⟨true,(some ⟨[0],[1000],[],1,[(0,aR n f s1),(1,aj k h)],cV N k 1⟩),none⟩)] 2,rm [(1,⟨true,(some ⟨[0],[1000],[],1,[(0,aR n f s2)],jI x⟩),none⟩)] 0,rg 2,.dec false,rg 2,.dec false,rg 2] [.code (ab Tryz.f54)] (start Tryz.f54 [(0,aR n f s)] 1 [.pt 3 0 0 0]) [0,65] 1 [(0,aR n f s2),(1,aj k h)] (cV N k 1) =
    some [(AE 1),Con Tryz.prog 88 1 (am n f s) [.pt 3 0 0 0] (lc n f s1 k h) (.agg [jI N,.ar 2 1 0 k]),(NT 0 1),((true=true)→(AN 1)),(AE 1),Con Tryz.prog 53 1 (am n f s1) [.pt 3 0 0 0,jI 16] (am n f s2) (jI x),((x==0)=false),((x==1)=false),(NT 0 1),(NT 0 1),((true=true)→(AN 1)),(NT 0 1),(AI N),(AN 0),(AN k),(AN 3),(NL 1 1),(NL 1 1),(AN n),(AP n (fun i=>[.int .u8 (f i)])),(AI ((s2.1:Int))),(AI s2.2),(AN 2),(NL k k),(AA k (fun i=>[.p (.int .i64 ((h i).1)),.p (.int .i64 ((h i).2.1))])),(∀ i:Nat,(((i:Nat)<1)→af [(false=false),(AE n)])),(AE k)]:=by kernel_rfl
theorem Ow (n:Nat) (f:Nat→Int) (s:Nat×Int) (N:Nat) :
    zP Tryz.f55 1 [rg 1,rg 5,rg 2,.dec true,rg 2] [.code (ab Tryz.f55)] (start Tryz.f55 [(0,aR n f s)] 1 [.pt 3 0 0 0,jI N]) [0,65] 1 [(0,aR n f s),(1,aj 0 (fun _=>(0,0,())))] (cV N 0 1) =
    some (zD [(NT 0 1),((true=true)→(AN 1)),((decide ((N:Int)<2))=true),(AI ((N:Int))),(AN 0),(AN 3),(NL 1 1),(AN n),(AP n (fun i=>[.int .u8 (f i)])),(AI ((s.1:Int))),(AI s.2),(AN 2),(NL 0 0),(AA 0 (fun i=>[.p (.int .i64 0),.p (.int .i64 0)])),(∀ i:Nat,(((i:Nat)<1)→af [(false=false),(AE n)])),(AE 0)] [0,1,2,0,0,1,0,3,4,4,5,6,6,7,8,9,10,11,12,13,14,15]):=by kernel_rfl
theorem Kx (n:Nat) (f:Nat→Int) (s:Nat×Int) (N:Nat) (k:Nat) (h:Nat→aa) :
    zM 1 [rg 1,rg 5,rg 2,.dec false,rm [(2,oc [(0,aj k h)] (cV N k 0))] 1,rg 1,.head] [.code (ab Tryz.f55)] (start Tryz.f55 [(0,aR n f s)] 1 [.pt 3 0 0 0,jI N]) [0,1,129,321] 1 (t5 n f s N k h 2) =
    some (uM,zD [(NT 0 1),((true=true)→(AN 1)),((decide ((N:Int)<2))=false),(AN 2),(NL 0 0),zE 89 [.agg [jI (N:Int),.p (.seq true 2 0 (fun i=>[.int .i64 0,.int .i64 0]))],.agg [jI 0,jI 1]] (bg k h) (.agg [jI (N:Int),.ar 2 0 0 k]),(AN 0),(AI ((N:Int))),((2:Int)=(↑2:Int)),(AN 3),(NL 1 1),(AN n),(AP n (fun i=>[.int .u8 (f i)])),(AI ((s.1:Int))),(AI s.2),((((List.map (fun v=>AV.p (bZ v)) [Value.int IntKind.i64 0,Value.slice none 0 0]).length):Nat)=2),(AI 0),(AN k),(NL k k),(AA k (fun i=>[.p (.int .i64 ((h i).1)),.p (.int .i64 ((h i).2.1))]))] [0,1,2,0,3,4,5,0,1,6,7,6,6,8,9,10,10,11,12,13,14,15,10,10,16,15,10,10,7,6,17,3,18,19]):=by kernel_rfl
theorem KE (n:Nat) (f:Nat→Int) (s:Nat×Int) (N:Nat) (k:Nat) (h:Nat→aa) (v:Nat) :
    zP Tryz.f55 1 [rg 3,.dec false,rg 2] uM (t5 n f s N k h v) [0,3] 1 [(0,aR n f s),(1,aj k h)] (cV N k 1) =
    some [((decide ((v:Int)<(N:Int)))=false),(NT 0 1),(NT 0 1),((true=true)→(AN 1)),(NT 0 1),(AI ((N:Int))),(AN 0),(AN k),(AN 3),(NL 1 1),(NL 1 1),(AN n),(AP n (fun i=>[.int .u8 (f i)])),(AI ((s.1:Int))),(AI s.2),(AN 2),(NL k k),(AA k (fun i=>[.p (.int .i64 ((h i).1)),.p (.int .i64 ((h i).2.1))])),(∀ i:Nat,(((i:Nat)<1)→af [(false=false),(AE n)])),(AE k)]:=by kernel_rfl
theorem Oi (n:Nat) (f:Nat→Int) (s s1 s2 s3:Nat×Int) (N:Nat) (k:Nat) (h:Nat→aa) (v:Nat) (a y:Int) (b:Bool) (k1 k2:Nat) (h1 h2:Nat→aa) :
    zM 1 [rg 3,.dec true,rm [(2,⟨true,(some ⟨[0],[1000],[],1,[(0,aR n f s1)],jI a⟩),none⟩)] 1,rm [(5,⟨true,(some ⟨[0],[1000],[],1,[(0,aR n f s2)],jI y⟩),none⟩)] 4,rm [(1,⟨true,(some ⟨[0],[1000],[],1,[(0,aR n f s3)],jB b⟩),none⟩)] 4,.dec false,rm [(4,oc [(0,aj k1 h1)] (cV N k1 0)),(3,oc [(0,aj k2 h2)] (cV N k2 0))] 1,rg 3,.head] uM (t5 n f s N k h v) [0,1,2,996] 1 (t5 n f s3 N k2 h2 (v+1)) =
    some (uM,[((decide ((v:Int)<(N:Int)))=true),(AE 1),Con Tryz.prog 53 1 (am n f s) [.pt 3 0 0 0,jI (v:Int)] (am n f s1) (jI a),(ax (a+1)),(au (a+1)),(ax ((v:Int) - 1)),(au ((v:Int) - 1)),(AE 1),Con Tryz.prog 53 1 (am n f s1) [.pt 3 0 0 0,jI ((v:Int) - 1)] (am n f s2) (jI y),(ax (a+1+y)),(au (a+1+y)),(IL 0 (a+1+y)),(IT 0 (v:Int)),(AE 1),Con Tryz.prog 90 1 (am n f s2) [.pt 3 0 0 0,jI 2] (am n f s3) (jB b),(AG b),(AG b),((bif b then decide ((v:Int)>2) else false)=false),(NT 0 1),(AN 2),(NL k k),zE 89 [(ak N k h),.agg [jI a,jI (v:Int)]] (bg k1 h1) (.agg [jI (N:Int),.ar 2 0 0 k1]),(AN 2),(NL k1 k1),zE 89 [(ak N k1 h1),.agg [jI ((a+1+y) % (v:Int)),jI (v:Int)]] (bg k2 h2) (.agg [jI (N:Int),.ar 2 0 0 k2]),(NT 0 1),((true=true)→(AN 1)),(ax ((v:Int)+1)),(au ((v:Int)+1)),(AN 0),(AI ((N:Int))),(AN 0),(AN 0),((((v:Int)+1):Int)=(↑(v+1):Int)),(AN 3),(NL 1 1),(NL 1 1),(AN n),(AP n (fun i=>[.int .u8 (f i)])),(AI ((s3.1:Int))),(AI s3.2),(AN 2),(NL 1 1),(NL 1 1),(AI 0),(AN 2),(NL 1 1),(NL 1 1),(AI ((N:Int))),(AN 0),(AN k2),(AN 2),(NL k2 k2),(AA k2 (fun i=>[.p (.int .i64 ((h2 i).1)),.p (.int .i64 ((h2 i).2.1))]))]):=by kernel_rfl
theorem NX (n:Nat) (f:Nat→Int) (s s1 s2 s3 s4:Nat×Int) (N:Nat) (k:Nat) (h:Nat→aa) (v:Nat) (a y:Int) (e:Nat) :
    zM 1 [rg 3,.dec true,rm [(2,⟨true,(some ⟨[0],[1000],[],1,[(0,aR n f s1)],jI a⟩),none⟩)] 1,rm [(5,⟨true,(some ⟨[0],[1000],[],1,[(0,aR n f s2)],jI y⟩),none⟩)] 4,rm [(1,⟨true,(some ⟨[0],[1000],[],1,[(0,aR n f s3)],jB true⟩),none⟩)] 4,.dec true,rm [(4,⟨true,(some ⟨[0],[1000],[],1,[(0,aR n f s4)],jI e⟩),none⟩)] 1,rg 7,rg 1,.head] uM (t5 n f s N k h v) [0,1,2,3,1092] 1 (rW n f s4 N k h v e (h e) 0) =
    some (Da,zD [((decide ((v:Int)<(N:Int)))=true),(AE 1),Con Tryz.prog 53 1 (am n f s) [.pt 3 0 0 0,jI (v:Int)] (am n f s1) (jI a),(ax (a+1)),(au (a+1)),(ax ((v:Int) - 1)),(au ((v:Int) - 1)),Con Tryz.prog 53 1 (am n f s1) [.pt 3 0 0 0,jI ((v:Int) - 1)] (am n f s2) (jI y),(ax (a+1+y)),(au (a+1+y)),(IL 0 (a+1+y)),(IT 0 (v:Int)),Con Tryz.prog 90 1 (am n f s2) [.pt 3 0 0 0,jI 2] (am n f s3) (jB true),(AG true),((bif true then decide ((v:Int)>2) else false)=true),(NT 0 1),Con Tryz.prog 53 1 (am n f s3) [.pt 3 0 0 0,jI (k:Int)] (am n f s4) (jI (e:Int)),(IL 0 (e:Int)),(IT (e:Int) (k:Int)),(NT e k),((true=true)→(AN 1)),(AN 0),(AI ((N:Int))),(AI ((v:Int))),(AI ((e:Int))),(AI 0),(AN 3),(NL 1 1),(AN n),(AP n (fun i=>[.int .u8 (f i)])),(AI ((s4.1:Int))),(AI s4.2),(AN 2),(AN k),(NL k k),(AA k (fun i=>[.p (.int .i64 ((h i).1)),.p (.int .i64 ((h i).2.1))])),((((List.map (fun v=>AV.p (bZ v)) [Value.int IntKind.i64 0,Value.int IntKind.i64 0]).length):Nat)=2),(AI (((h e).1))),(AI (((h e).2.1)))] [0,1,2,3,4,5,6,1,7,8,9,10,11,1,12,13,13,14,15,1,16,15,17,18,19,15,20,21,22,21,21,23,24,21,25,26,27,27,28,29,30,31,32,27,27,25,32,27,27,22,21,33,32,34,35,36,27,27,37,38]):=by kernel_rfl
theorem NQ (n:Nat) (f:Nat→Int) (s:Nat×Int) (N:Nat) (k:Nat) (h:Nat→aa) (v:Nat) (e:Nat) (x:aa) (w:Int) :
    zM 1 [rg 10,.dec true,rg 3,.head] Da (rW n f s N k h v e x w) [0,1,2,3,4] 1 (rW n f s N k h v e x (w+1)) =
    some (Da,zD [(NT 0 1),(AG (!w==x.1)),(((!w==x.1)=true)→(NT 0 1)),(((w==x.1)=false)→((!w==x.1)=true)),((bif w==x.1 then true else w==x.2.1)=true),(ax (w+1)),(au (w+1)),(AN 0),(AI ((N:Int))),(AI ((v:Int))),(AI ((e:Int))),(AI ((w+1))),(AN 3),(NL 1 1),(AN n),(AP n (fun i=>[.int .u8 (f i)])),(AI ((s.1:Int))),(AI s.2),(AN 2),(AI 0),(AN k),(NL k k),(AA k (fun i=>[.p (.int .i64 ((h i).1)),.p (.int .i64 ((h i).2.1))])),(AI x.1),(AI x.2.1)] [0,1,2,1,1,3,4,5,6,7,8,7,7,9,10,7,11,12,13,13,14,15,16,17,18,13,13,19,18,13,13,8,7,20,18,21,22,18,13,13,23,24]):=by kernel_rfl
theorem MW (n:Nat) (f:Nat→Int) (s s1:Nat×Int) (N:Nat) (k:Nat) (h:Nat→aa) (v:Nat) (e:Nat) (x:aa) (w y:Int) (k0 k1 k2 k3:Nat) (h0 h1 h2 h3:Nat→aa) (ok:Bool) :
    zM 1 [rg 10,.dec false,rm [(4,⟨true,(some ⟨[0],[1000],[],1,[(0,aR n f s1)],jI y⟩),none⟩)] 1,rm [(2,oc [(0,aj k0 h0)] (.tup [cV N k0 0,jB ok]))] 4,rm [(5,oc [(0,aj k1 h1)] (cV N k1 0)),(4,oc [(0,aj k2 h2)] (cV N k2 0)),(3,oc [(0,aj k3 h3)] (cV N k3 0))] 1,rg 3,.head] Da (rW n f s N k h v e x w) [0,1,2,1189] 1 (t5 n f s1 N k3 h3 (v+1)) =
    some (uM,zD [(NT 0 1),(AG (!w==x.1)),(((!w==x.1)=true)→(NT 0 1)),(((w==x.1)=false)→((!w==x.1)=true)),((bif w==x.1 then true else w==x.2.1)=false),(AE 1),Con Tryz.prog 91 1 (am n f s) [.pt 3 0 0 0,jI (v:Int),.agg [jI x.1,jI x.2.1],jI w] (am n f s1) (jI y),(AN 2),(NL k k),zE 56 [(ak N k h),jI (e:Int)] (bg k0 h0) (.tup [.agg [jI (N:Int),.ar 2 0 0 k0],jB ok]),((true=true)→(AN 1)),(NL k0 k0),zE 89 [(ak N k0 h0),.agg [jI x.1,jI (v:Int)]] (bg k1 h1) (.agg [jI (N:Int),.ar 2 0 0 k1]),(NL k1 k1),zE 89 [(ak N k1 h1),.agg [jI x.2.1,jI (v:Int)]] (bg k2 h2) (.agg [jI (N:Int),.ar 2 0 0 k2]),(NL k2 k2),zE 89 [(ak N k2 h2),.agg [jI y,jI (v:Int)]] (bg k3 h3) (.agg [jI (N:Int),.ar 2 0 0 k3]),(ax ((v:Int)+1)),(au ((v:Int)+1)),(AN 0),(AI ((N:Int))),((((v:Int)+1):Int)=(↑(v+1):Int)),(AN 3),(NL 1 1),(AN n),(AP n (fun i=>[.int .u8 (f i)])),(AI ((s1.1:Int))),(AI s1.2),(AI 0),(AN k3),(NL k3 k3),(AA k3 (fun i=>[.p (.int .i64 ((h3 i).1)),.p (.int .i64 ((h3 i).2.1))]))] [0,1,2,1,1,3,4,0,5,6,0,7,8,9,0,10,0,0,7,11,12,0,7,13,14,7,15,16,0,10,17,18,19,20,19,19,21,22,23,23,24,25,26,27,7,23,23,28,7,23,23,20,19,29,7,30,31]):=by kernel_rfl
theorem Mk (n:Nat) (f:Nat→Int) (s s1:Nat×Int) (N:Nat) (x:aa) (o w:Int) :
    zP Tryz.f91 1 [rg 2,rm [(2,⟨true,(some ⟨[0],[1000],[],1,[(0,aR n f s1)],jI w⟩),none⟩)] 1,rg 10,.dec true,rg 2] [.code (ab Tryz.f91)] (start Tryz.f91 [(0,aR n f s)] 1 [.pt 3 0 0 0,jI N,jZ x,jI o]) [0] 1 [(0,aR n f s1)] (jI o) =
    some [(AE 1),Con Tryz.prog 53 1 (am n f s) [.pt 3 0 0 0,jI (N:Int)] (am n f s1) (jI w),(NT 0 1),(AG (!w==x.1)),(((!w==x.1)=true)→(NT 0 1)),(AG (!w==x.1)),(AG (!w==x.1)),(((w==x.1)=false)→((!w==x.1)=true)),((bif w==x.1 then true else w==x.2.1)=true),(AI o),(AN 3),(NL 1 1),(NL 1 1),(AN n),(AP n (fun i=>[.int .u8 (f i)])),(AI ((s1.1:Int))),(AI s1.2),(∀ i:Nat,(((i:Nat)<1)→af [(false=false),(AE n)]))]:=by kernel_rfl
theorem Ke (n:Nat) (f:Nat→Int) (s s1:Nat×Int) (N:Nat) (x:aa) (o w:Int) :
    zP Tryz.f91 1 [rg 2,rm [(2,⟨true,(some ⟨[0],[1000],[],1,[(0,aR n f s1)],jI w⟩),none⟩)] 1,rg 10,.dec false,rg 2] [.code (ab Tryz.f91)] (start Tryz.f91 [(0,aR n f s)] 1 [.pt 3 0 0 0,jI N,jZ x,jI o]) [0] 1 [(0,aR n f s1)] (jI w) =
    some [(AE 1),Con Tryz.prog 53 1 (am n f s) [.pt 3 0 0 0,jI (N:Int)] (am n f s1) (jI w),(NT 0 1),(AG (!w==x.1)),(((!w==x.1)=true)→(NT 0 1)),(AG (!w==x.1)),(AG (!w==x.1)),(((w==x.1)=false)→((!w==x.1)=true)),((bif w==x.1 then true else w==x.2.1)=false),(AI w),(AN 3),(NL 1 1),(NL 1 1),(AN n),(AP n (fun i=>[.int .u8 (f i)])),(AI ((s1.1:Int))),(AI s1.2),(∀ i:Nat,(((i:Nat)<1)→af [(false=false),(AE n)]))]:=by kernel_rfl
theorem K1 (n:Nat) (f:Nat→Int) (s s1 s2 s3 s4 s5:Nat×Int) (N M:Int) (k m:Nat) (h r:Nat→aa) (x y z t:Int) (ok:Bool) :
    zP Tryz.f21 1 [rg 1,rm [(1,⟨true,(some ⟨[0],[1000],[],1,[(0,aR n f s1)],jI x⟩),none⟩)] 0,rg 2,.dec true,rm [(1,⟨true,(some ⟨[0],[1000],[],1,[(0,aR n f s2),(1,aj k h)],cV N k 1⟩),none⟩)] 1] [.code (ab Tryz.f21)] (start Tryz.f21 [(0,aR n f s)] 1 [.pt 3 0 0 0]) [0,193] 1 [(0,aR n f s2),(1,aj k h)] (cV N k 1) =
    some [(AE 1),Con Tryz.prog 53 1 (am n f s) [.pt 3 0 0 0,jI 4] (am n f s1) (jI x),((x==0)=true),(AE 1),Con Tryz.prog 54 1 (am n f s1) [.pt 3 0 0 0] (lc n f s2 k h) (.agg [jI N,.ar 2 1 0 k]),(NT 0 1),((true=true)→(AN 1)),(NT 0 1),(AI N),(AN 0),(AN k),(AN 3),(NL 1 1),(NL 1 1),(AN n),(AP n (fun i=>[.int .u8 (f i)])),(AI ((s2.1:Int))),(AI s2.2),(AN 2),(NL k k),(AA k (fun i=>[.p (.int .i64 ((h i).1)),.p (.int .i64 ((h i).2.1))])),(∀ i:Nat,(((i:Nat)<1)→af [(false=false),(AE n)])),(AE k)]:=by kernel_rfl
theorem ND (n:Nat) (f:Nat→Int) (s s1 s2 s3 s4 s5:Nat×Int) (N M:Int) (k m:Nat) (h r:Nat→aa) (x y z t:Int) (ok:Bool) :
    zP Tryz.f21 1 [rg 1,rm [(1,⟨true,(some ⟨[0],[1000],[],1,[(0,aR n f s1)],jI x⟩),none⟩)] 0,rg 2,.dec false,rg 2,.dec true,rm [(2,⟨true,(some ⟨[0],[1000],[],1,[(0,aR n f s2)],jI y⟩),none⟩),(1,⟨true,(some ⟨[0],[1000],[],1,[(0,aR n f s3),(1,aj k h)],cV N k 1⟩),none⟩)] 2,rm [(5,⟨true,(some ⟨[0],[1000],[],1,[(0,aR n f s4)],jI z⟩),none⟩),(0,oc [(0,aj m r)] (.tup [cV M m 0,jB ok]))] 6,rg 2] [.code (ab Tryz.f21)] (start Tryz.f21 [(0,aR n f s)] 1 [.pt 3 0 0 0]) [0,641] 1 [(0,aR n f s4),(1,aj m r)] (cV M m 1) =
    some (zD [(AE 1),Con Tryz.prog 53 1 (am n f s) [.pt 3 0 0 0,jI 4] (am n f s1) (jI x),((x==0)=false),((x==1)=true),Con Tryz.prog 53 1 (am n f s1) [.pt 3 0 0 0,jI 5] (am n f s2) (jI y),(ax (2+y)),(au (2+y)),Con Tryz.prog 55 1 (am n f s2) [.pt 3 0 0 0,jI (2+y)] (lc n f s3 k h) (.agg [jI N,.ar 2 1 0 k]),(NT 0 1),((true=true)→(AN 1)),Con Tryz.prog 53 1 (am n f s3) [.pt 3 0 0 0,jI (k:Int)] (am n f s4) (jI z),(AN 2),(NL k k),zE 56 [(cq N k h),jI z] (bg m r) (.tup [.agg [jI M,.ar 2 0 0 m],jB ok]),(AI M),(AN 0),(AN m),(AN 3),(NL 1 1),(AN n),(AP n (fun i=>[.int .u8 (f i)])),(AI ((s4.1:Int))),(AI s4.2),(NL m m),(AA m (fun i=>[.p (.int .i64 ((r i).1)),.p (.int .i64 ((r i).2.1))])),(∀ i:Nat,(((i:Nat)<1)→af [(false=false),(AE n)])),(AE m)] [0,1,2,3,0,4,5,6,0,7,8,9,8,8,0,10,11,12,13,8,9,8,8,9,8,14,15,16,17,18,18,19,20,21,22,11,23,24,25,26]):=by kernel_rfl
theorem Oz (n:Nat) (f:Nat→Int) (s s1 s2 s3 s4 s5:Nat×Int) (N M:Int) (k m:Nat) (h r:Nat→aa) (x y z t:Int) (ok:Bool) :
    zP Tryz.f21 1 [rg 1,rm [(1,⟨true,(some ⟨[0],[1000],[],1,[(0,aR n f s1)],jI x⟩),none⟩)] 0,rg 2,.dec false,rg 2,.dec false,rg 2,.dec true,rm [(2,⟨true,(some ⟨[0],[1000],[],1,[(0,aR n f s2)],jI y⟩),none⟩),(1,⟨true,(some ⟨[0],[1000],[],1,[(0,aR n f s3),(1,aj k h)],cV N k 1⟩),none⟩)] 2,rm [(3,⟨true,(some ⟨[0],[1000],[],1,[(0,aR n f s4)],jI z⟩),none⟩)] 1,rm [(3,⟨true,(some ⟨[0],[1000],[],1,[(0,aR n f s5)],jI t⟩),none⟩)] 1,rm [(3,oc [(0,aj m r)] (.tup [cV M m 0,jB ok]))] 6,rg 2] [.code (ab Tryz.f21)] (start Tryz.f21 [(0,aR n f s)] 1 [.pt 3 0 0 0]) [0,929] 1 [(0,aR n f s5),(1,aj m r)] (cV M m 1) =
    some (zD [(AE 1),Con Tryz.prog 53 1 (am n f s) [.pt 3 0 0 0,jI 4] (am n f s1) (jI x),((x==0)=false),((x==1)=false),((x==2)=true),Con Tryz.prog 53 1 (am n f s1) [.pt 3 0 0 0,jI 5] (am n f s2) (jI y),(ax (2+y)),(au (2+y)),Con Tryz.prog 55 1 (am n f s2) [.pt 3 0 0 0,jI (2+y)] (lc n f s3 k h) (.agg [jI N,.ar 2 1 0 k]),(NT 0 1),((true=true)→(AN 1)),Con Tryz.prog 53 1 (am n f s3) [.pt 3 0 0 0,jI N] (am n f s4) (jI z),Con Tryz.prog 53 1 (am n f s4) [.pt 3 0 0 0,jI N] (am n f s5) (jI t),(AN 2),(NL k k),zE 57 [(cq N k h),jI z,jI t] (bg m r) (.tup [.agg [jI M,.ar 2 0 0 m],jB ok]),(AI M),(AN 0),(AN m),(AN 3),(NL 1 1),(AN n),(AP n (fun i=>[.int .u8 (f i)])),(AI ((s5.1:Int))),(AI s5.2),(NL m m),(AA m (fun i=>[.p (.int .i64 ((r i).1)),.p (.int .i64 ((r i).2.1))])),(∀ i:Nat,(((i:Nat)<1)→af [(false=false),(AE n)])),(AE m)] [0,1,2,3,4,0,5,6,7,0,8,9,10,9,0,11,9,0,12,9,13,14,15,9,10,9,9,10,9,16,17,18,19,20,20,21,22,23,24,13,25,26,27,28]):=by kernel_rfl
theorem Kq (n:Nat) (f:Nat→Int) (s s1 s2 s3 s4 s5:Nat×Int) (N M:Int) (k m:Nat) (h r:Nat→aa) (x y z t:Int) (ok:Bool) :
    zP Tryz.f21 1 [rg 1,rm [(1,⟨true,(some ⟨[0],[1000],[],1,[(0,aR n f s1)],jI x⟩),none⟩)] 0,rg 2,.dec false,rg 2,.dec false,rg 2,.dec false,rm [(2,⟨true,(some ⟨[0],[1000],[],1,[(0,aR n f s2)],jI y⟩),none⟩),(1,⟨true,(some ⟨[0],[1000],[],1,[(0,aR n f s3),(1,aj k h)],cV N k 1⟩),none⟩)] 1] [.code (ab Tryz.f21)] (start Tryz.f21 [(0,aR n f s)] 1 [.pt 3 0 0 0]) [0,417] 1 [(0,aR n f s3),(1,aj k h)] (cV N k 1) =
    some [(AE 1),Con Tryz.prog 53 1 (am n f s) [.pt 3 0 0 0,jI 4] (am n f s1) (jI x),((x==0)=false),((x==1)=false),((x==2)=false),(AE 1),Con Tryz.prog 53 1 (am n f s1) [.pt 3 0 0 0,jI 6] (am n f s2) (jI y),(ax (1+y)),(au (1+y)),(AE 1),Con Tryz.prog 55 1 (am n f s2) [.pt 3 0 0 0,jI (1+y)] (lc n f s3 k h) (.agg [jI N,.ar 2 1 0 k]),(NT 0 1),((true=true)→(AN 1)),(NT 0 1),(AI N),(AN 0),(AN k),(AN 3),(NL 1 1),(NL 1 1),(AN n),(AP n (fun i=>[.int .u8 (f i)])),(AI ((s3.1:Int))),(AI s3.2),(AN 2),(NL k k),(AA k (fun i=>[.p (.int .i64 ((h i).1)),.p (.int .i64 ((h i).2.1))])),(∀ i:Nat,(((i:Nat)<1)→af [(false=false),(AE n)])),(AE k)]:=by kernel_rfl
theorem Mu (v:ai) (e:Nat) :
    zS Tryz.f56 [rg 3,rm [(1,oc [] (jB true))] 12,.dec false,rg 17] [aJ v,jI e] [960] [(0,aj (v.2.1.1 - 1) (BW v.2.1.2 e))] (.tup [cV v.1 (v.2.1.1 - 1) 0,jB true]) =
    some (zD (let A:Bool:=bif !true then true else decide ((e:Int)<0);[(NT 0 1),zE 10 [(br v)] [] (jB true),(AG (!!true)),(((!true)=false)→((!!true)=true)),(AG (!A)),(((!A)=true)→(NT 0 1)),((A=false)→((!A)=true)),((bif A then true else decide ((e:Int)≥(v.2.1.1:Int)))=false),(IL 0 0),(IL 0 (e:Int)),(IL (e:Int) (v.2.1.1:Int)),(NL 0 0),(NL ((0+e)*16) 140737488355328),(NL (0+e) 9223372036854775807),(ax ((e:Int)+1)),(au ((e:Int)+1)),(IL 0 ((e:Int)+1)),(IL ((e:Int)+1) (v.2.1.1:Int)),(IL (v.2.1.1:Int) (v.2.1.1:Int)),(NL (0+e) (0+e)),(NL ((0+e+(v.2.1.1 - (e+1)))*16) 140737488355328),(NL (0+e+(v.2.1.1 - (e+1))) 9223372036854775807),((true=true)→(AN 1)),(AI v.1),(AN 0),(((0+e+(v.2.1.1 - (e+1))):Nat)=(v.2.1.1 - 1)),(true=true),(AN 2),(NL (v.2.1.1 - 1) (0+e+(v.2.1.1 - (e+1)))),(∀ i:Nat,(((i:Nat)<(v.2.1.1 - 1))→(af (ay false [(32,⟨true,2,1,(fun i_1=>[.p (.int .i64 v.1),.ar 2 960 0 (0+e+(v.2.1.1 - (e+1)))])⟩),(960,⟨false,2,(0+e+(v.2.1.1 - (e+1))),(fun i_1=>(if (i_1<0+e) then [.p (.int .i64 ((v.2.1.2 i_1).1)),.p (.int .i64 ((v.2.1.2 i_1).2.1))] else [.p (.int .i64 ((v.2.1.2 (i_1 - (0+e)+(e+1))).1)),.p (.int .i64 ((v.2.1.2 (i_1 - (0+e)+(e+1))).2.1))]))⟩),(0,⟨true,2,1,(fun i_1=>[.p (.int .i64 v.1),.p (.seq true 2 v.2.1.1 (aF v.2.1.2))])⟩)] [960] 1 (if (i<0+e) then [.p (.int .i64 ((v.2.1.2 i).1)),.p (.int .i64 ((v.2.1.2 i).2.1))] else [.p (.int .i64 ((v.2.1.2 (i - (0+e)+(e+1))).1)),.p (.int .i64 ((v.2.1.2 (i - (0+e)+(e+1))).2.1))])).2∧(((ay false [(32,⟨true,2,1,(fun i_1=>[.p (.int .i64 v.1),.ar 2 960 0 (0+e+(v.2.1.1 - (e+1)))])⟩),(960,⟨false,2,(0+e+(v.2.1.1 - (e+1))),(fun i_1=>(if (i_1<0+e) then [.p (.int .i64 ((v.2.1.2 i_1).1)),.p (.int .i64 ((v.2.1.2 i_1).2.1))] else [.p (.int .i64 ((v.2.1.2 (i_1 - (0+e)+(e+1))).1)),.p (.int .i64 ((v.2.1.2 (i_1 - (0+e)+(e+1))).2.1))]))⟩),(0,⟨true,2,1,(fun i_1=>[.p (.int .i64 v.1),.p (.seq true 2 v.2.1.1 (aF v.2.1.2))])⟩)] [960] 1 (if (i<0+e) then [.p (.int .i64 ((v.2.1.2 i).1)),.p (.int .i64 ((v.2.1.2 i).2.1))] else [.p (.int .i64 ((v.2.1.2 (i - (0+e)+(e+1))).1)),.p (.int .i64 ((v.2.1.2 (i - (0+e)+(e+1))).2.1))])).1:List AV)=[.p (.int .i64 ((BW v.2.1.2 e i).1)),.p (.int .i64 ((BW v.2.1.2 e i).2.1))])))),(AE ((v.2.1.1 - 1)))]) [0,1,2,3,4,5,4,4,4,6,7,0,0,8,9,10,11,12,13,0,14,15,16,17,18,19,20,21,0,22,0,23,24,25,26,27,28,29,30]):=by kernel_rfl
theorem Lz (v:ai) (e:Int) (b:Bool) :
    zS Tryz.f56 [rg 3,rm [(1,oc [] (jB b))] 12,.dec true,rm [(1,oc [(0,aj v.2.1.1 v.2.1.2)] (cV v.1 v.2.1.1 0))] 2] [aJ v,jI e] [576] [(0,aj v.2.1.1 v.2.1.2)] (.tup [cV v.1 v.2.1.1 0,jB false]) =
    some (zD (let A:Bool:=bif !b then true else decide (e<0);[(NT 0 1),zE 10 [(br v)] [] (jB b),(AG (!!b)),(((!b)=false)→((!!b)=true)),(AG (!A)),(((!A)=true)→(NT 0 1)),((A=false)→((!A)=true)),((bif A then true else decide (e≥(v.2.1.1:Int)))=true),zE 92 [(br v)] (wB v) (.agg [jI v.1,.ar 2 0 0 v.2.1.1]),((true=true)→(AN 1)),(AI v.1),(AN 0),(AN v.2.1.1),(false=false),(AN 2),(NL v.2.1.1 v.2.1.1),(AA v.2.1.1 (fun i=>[.p (.int .i64 ((v.2.1.2 i).1)),.p (.int .i64 ((v.2.1.2 i).2.1))])),(AE v.2.1.1)]) [0,1,2,3,4,5,4,4,4,6,7,0,8,0,9,0,10,11,12,13,14,15,16,17]):=by kernel_rfl
theorem D9 (h:Nat→aa) (e t:Nat):(if t<0+e then [AV.p (.int .i64 (h t).1),.p (.int .i64 (h t).2.1)] else [.p (.int .i64 (h (t - (0+e)+(e+1))).1),.p (.int .i64 (h (t - (0+e)+(e+1))).2.1)])=[.p (.int .i64 (BW h e t).1),.p (.int .i64 (BW h e t).2.1)]:=by
  by_cases h1:t<e
  · rw [if_pos (show t<0+e by omega)];simp [BW,h1]
  · rw [if_neg (show ¬ t<0+e by omega),show t - (0+e)+(e+1)=t+1 by omega];simp [BW,h1]
theorem sK (v:ai) (hn:v.2.1.1≤1048576) (e:Int):∃ (m:Nat) (h:Nat→aa) (ok:Bool),m≤v.2.1.1∧v.2.1.1≤m+1∧(∀ i,i<m→∃ j,j<v.2.1.1∧h i=v.2.1.2 j) ∧
    zE 56 [aJ v,.p (.int .i64 e)] [(0,aj m h)] (.tup [cV v.1 m 0,.p (.bool ok)]):=by
  have c1:=bH v (c9 hn)
  have c2:=lU v hn
  by_cases hv:ah v=true∧0≤e∧e<v.2.1.1
  · obtain ⟨hg,h0,h1⟩:=hv
    obtain ⟨e,rfl⟩:∃ t:Nat,e=(t:Int):=⟨e.toNat,by omega⟩
    have he:e<v.2.1.1:=by omega
    rw [hg] at c1
    have hd:(bif bif !true then true else decide ((e:Int)<0) then true else decide ((e:Int)≥(v.2.1.1:Int)))=false:=by
      rw [decide_eq_false (show ¬ ((e:Int)<0) by omega),decide_eq_false (show ¬ ((e:Int)≥(v.2.1.1:Int)) by omega)];rfl
    refine ⟨v.2.1.1 - 1,BW v.2.1.2 e,true,by omega,by omega,fun i hi=>?_,?_⟩
    · unfold BW
      split
      · exact ⟨i,by omega,rfl⟩
      · exact ⟨i+1,by omega,rfl⟩
    refine aW Tryz.func56 (fun c hc=>?_)
    refine bz Tryz.func56 hc (Mu v e) ?_
    and_intros
    all_goals (first | exact zH | (exact c1) | (exact hd) | (intro t ht;rw [D9];simp [ay,bh,tg,bu,af];done) | (simp;done) | (simp;omega))
  · have hd:(bif bif !ah v then true else decide (e<0) then true else decide (e≥(v.2.1.1:Int)))=true:=by
      cases hg:ah v with
      | false=>rfl
      | true =>
        by_cases h1:e<0
        · rw [decide_eq_true h1];rfl
        · by_cases h2:e<v.2.1.1
          · exact absurd ⟨hg,by omega,h2⟩ hv
          · rw [decide_eq_true (show e≥(v.2.1.1:Int) by omega)];cases decide (e<0)<;>rfl
    refine ⟨v.2.1.1,v.2.1.2,false,Nat.le_refl _,by omega,fun i hi=>⟨i,hi,rfl⟩,?_⟩
    refine aW Tryz.func56 (fun c hc=>?_)
    refine bz Tryz.func56 hc (Lz v e (ah v)) ?_
    and_intros
    all_goals (first | exact zH | (exact c1) | (exact c2) | (exact hd) | (intros;simp [af];done) | (simp;done) | (simp;omega))
theorem CI (v:ai) (hn:v.2.1.1≤1048576) (e:Int):∃ (m:Nat) (h:Nat→aa) (ok:Bool),m≤v.2.1.1∧v.2.1.1≤m+1 ∧
    zE 56 [aJ v,.p (.int .i64 e)] [(0,aj m h)] (.tup [cV v.1 m 0,.p (.bool ok)]):=by
  obtain ⟨m,h,ok,h1,h2,_,h3⟩:=sK v hn e
  exact ⟨m,h,ok,h1,h2,h3⟩
theorem Az {N k:Nat} {h:Nat→aa} {x:aa} (hb:aO N k h) (hx:0≤x.1∧x.1<x.2.1∧x.2.1<N):aO N (k+1) (aZ k h x):=fun i hi=>by
  by_cases h':i<k
  · rw [cY h'];exact hb i h'
  · rw [show i=k by omega,dO (Nat.lt_irrefl k)];exact hx
theorem C5 {N k:Nat} {h:Nat→aa} (hb:aO N k h):aO (N+1) k h:=fun i hi=>by
  have:=hb i hi
  omega
theorem fc {M:Nat} (h:Nat→aa) (k N:Nat) (x:aa) (hk:k≤1000) (hb:aO M k h) (hx:0≤x.1∧x.1<x.2.1∧x.2.1<M) :
    ∃ h2:Nat→aa,aO M (k+1) h2∧zE 89 [bi h k N,jZ x] [(0,aj (k+1) h2)] (cV N (k+1) 0):=by
  have c:=pg h k N x (by omega)
  rw [tV] at c
  refine ⟨_,fun i hi=>?_,c⟩
  have hm:=(Bd h k x ((fy h k x).2 i)).1 ⟨i,by rw [tV];exact hi,rfl⟩
  rcases hm with ⟨s,h1,h2⟩ | h1
  · rw [← h2];exact hb s h1
  · rw [← h1];exact hx
theorem iO (n:Nat) (f:Nat→Int) (hn:ff n f) (s:Nat×Int) (hs:s.1≤n) (N:Nat) (odd:Int) (hN:N≤100):∃ (s2:Nat×Int) (k:Nat) (h:Nat→aa),s2.1≤n∧k≤24∧aO N k h ∧
    Con Tryz.prog 108 1 [(0,aR n f s)] [.pt 3 0 0 0,.p (.int .i64 N),.p (.int .i64 odd)] [(0,aR n f s2),(1,aj k h)] (cV N k 1):=by
  have lo:∀ e a,a+e=N→∀ (s:Nat×Int) (k:Nat) (h:Nat→aa),s.1≤n→k≤24→aO N k h→∃ (s2:Nat×Int) (k2:Nat) (h2:Nat→aa),s2.1≤n∧k2≤24∧aO N k2 h2 ∧
      ∀ c:Cx,c.n=1→zR c 108 Bk (y3 n f s N odd k h a) (aS c [(0,aR n f s2),(1,aj k2 h2)] (cV N k2 1)):=by
    intro e
    induction e with
    | zero =>
      intro a ha s k h hs hk hb
      have hd:decide ((a:Int)<(N:Int))=false:=decide_eq_false (by omega)
      refine ⟨s,k,h,hs,hk,hb,fun c hc=>?_⟩
      refine be Tryz.func108 hc (LL n f s N odd k h a) ?_
      and_intros
      iterate 2 all_goals (first | exact zI | (exact hd) | (intros;simp [af];done) | (simp;done) | (simp;omega) | simp only [af])
    | succ e ih =>
      intro a ha s k h hs hk hb
      have li:∀ e b,a<b→b+e=N→∀ (s:Nat×Int) (k:Nat) (h:Nat→aa),s.1≤n→k≤24→aO N k h→∃ (s2:Nat×Int) (k2:Nat) (h2:Nat→aa),s2.1≤n∧k2≤24∧aO N k2 h2 ∧
          ∀ c:Cx,c.n=1→zR c 108 uK (um n f s N odd k h a b) (aS c [(0,aR n f s2),(1,aj k2 h2)] (cV N k2 1)):=by
        intro e
        induction e with
        | zero =>
          intro b hab hb2 s k h hs hk hb
          have hd:decide ((b:Int)<(N:Int))=false:=decide_eq_false (by omega)
          obtain ⟨s2,k2,h2,i1,i2,i3,hr⟩:=ih (a+1) (by omega) s k h hs hk hb
          refine ⟨s2,k2,h2,i1,i2,i3,fun c hc=>?_⟩
          refine a9 hc (Kh n f s N odd k h a b) ?_ (hr c hc)
          and_intros
          all_goals (first | exact zN | (exact hd) | (intros;simp [af];done) | (simp;done) | (simp;omega))
        | succ e ih2 =>
          intro b hab hb2 s k h hs hk hb
          have hd:decide ((b:Int)<(N:Int))=true:=decide_eq_true (by omega)
          obtain ⟨s1,x,h1,hx,cb⟩:=aq n f hn s hs 10 (by omega)
          cases ht:(bif decide (x<odd) then decide ((k:Int)<24) else false) with
          | true =>
            have hk2:k<24:=by
              cases hq:decide (x<odd) with
              | false=>rw [hq] at ht;cases ht
              | true=>rw [hq,cond_true,decide_eq_true_eq] at ht;omega
            obtain ⟨s2,k2,h2,i1,i2,i3,hr⟩:=ih2 (b+1) (by omega) (by omega) s1 (k+1) (aZ k h (a,b,())) h1 (by omega) (Az hb (by show 0≤(a:Int)∧(a:Int)<(b:Int)∧(b:Int)<(N:Int);omega))
            refine ⟨s2,k2,h2,i1,i2,i3,fun c hc=>?_⟩
            refine a9 hc (Oh n f s s1 N odd k h a b x) ?_ (hr c hc)
            and_intros
            all_goals (first | exact zI | (exact hd) | (exact ht) | (exact cb) | (intros;simp [af];done) | (simp;done) | (simp;omega) | (intro i hi;rcases (show i<k∨i=k by omega) with h' | h'<;>simp [h',aZ,ay,bh,tg,bu,af]))
          | false =>
            obtain ⟨s2,k2,h2,i1,i2,i3,hr⟩:=ih2 (b+1) (by omega) (by omega) s1 k h h1 hk hb
            refine ⟨s2,k2,h2,i1,i2,i3,fun c hc=>?_⟩
            refine a9 hc (KB n f s s1 N odd k h a b x) ?_ (hr c hc)
            and_intros
            all_goals (first | exact zI | (exact hd) | (exact ht) | (exact cb) | (intros;simp [af];done) | (simp;done) | (simp;omega))
      have hd:decide ((a:Int)<(N:Int))=true:=decide_eq_true (by omega)
      obtain ⟨s2,k2,h2,i1,i2,i3,hr⟩:=li e (a+1) (by omega) (by omega) s k h hs hk hb
      refine ⟨s2,k2,h2,i1,i2,i3,fun c hc=>?_⟩
      refine a9 hc (M6 n f s N odd k h a) ?_ (hr c hc)
      and_intros
      all_goals (first | exact zN | (exact hd) | (intros;simp [af];done) | (simp;done) | (simp;omega))
  obtain ⟨s2,k,h,i1,i2,i3,hr⟩:=lo N 0 (by omega) s 0 (fun _=>(0,0,())) hs (by omega) (fun e he=>absurd he (Nat.not_lt_zero _))
  refine ⟨s2,k,h,i1,i2,i3,?_⟩
  refine aW Tryz.func108 (fun c hc=>?_)
  refine a9 hc (My n f s N odd) ?_ (hr c hc)
  and_intros
  all_goals (first | exact zI | (intro i hi;exact absurd hi (Nat.not_lt_zero _)) | (intros;simp [af];done) | (simp;done) | (simp;omega))
theorem qg (n:Nat) (f:Nat→Int) (hn:ff n f) (s:Nat×Int) (hs:s.1≤n) (N:Nat) (hN:N≤256) (x:aa) (o:Int) (ho:0≤o∧o<N) (hN1:1≤N):∃ (s2:Nat×Int) (w:Int),s2.1≤n∧(0≤w∧w<N) ∧
    Con Tryz.prog 91 1 [(0,aR n f s)] [.pt 3 0 0 0,.p (.int .i64 N),jZ x,.p (.int .i64 o)] [(0,aR n f s2)] (.p (.int .i64 w)):=by
  obtain ⟨s1,w,h1,hw,c1⟩:=aq n f hn s hs N (by omega)
  cases hd:(bif w==x.1 then true else w==x.2.1) with
  | true =>
    refine ⟨s1,o,h1,ho,?_⟩
    refine aW Tryz.func91 (fun c hc=>?_)
    refine be Tryz.func91 hc (Mk n f s s1 N x o w) ?_
    and_intros
    iterate 2 all_goals (first | exact zH | (exact c1) | (exact hd) | (intros;simp [af];done) | (simp;done) | (intro h;simpa using h) | (simp;omega) | simp only [af])
  | false =>
    refine ⟨s1,w,h1,⟨hw.1,hw.2.1 (by omega)⟩,?_⟩
    refine aW Tryz.func91 (fun c hc=>?_)
    refine be Tryz.func91 hc (Ke n f s s1 N x o w) ?_
    and_intros
    iterate 2 all_goals (first | exact zH | (exact c1) | (exact hd) | (intros;simp [af];done) | (simp;done) | (intro h;simpa using h) | (simp;omega) | simp only [af])
theorem fJ (n:Nat) (f:Nat→Int) (hn:ff n f) (s:Nat×Int) (hs:s.1≤n) (N:Nat) (hN:N≤8):∃ (s2:Nat×Int) (k:Nat) (h:Nat→aa),s2.1≤n∧k≤24∧aO N k h ∧
    Con Tryz.prog 55 1 [(0,aR n f s)] [.pt 3 0 0 0,.p (.int .i64 N)] [(0,aR n f s2),(1,aj k h)] (cV N k 1):=by
  by_cases h2:N<2
  · have hd:decide ((N:Int)<2)=true:=decide_eq_true (by omega)
    refine ⟨s,0,fun _=>(0,0,()),hs,by omega,fun e he=>absurd he (Nat.not_lt_zero _),?_⟩
    refine aW Tryz.func55 (fun c hc=>?_)
    refine bz Tryz.func55 hc (Ow n f s N) ?_
    and_intros
    iterate 2 all_goals (first | exact zI | (exact hd) | (intro i hi;exact absurd hi (Nat.not_lt_zero _)) | (intros;simp [af];done) | (simp;done) | (simp;omega) | simp only [af])
  · have hd:decide ((N:Int)<2)=false:=decide_eq_false (by omega)
    have lo:∀ e v,v+e=N→2≤v→∀ (s:Nat×Int) (k:Nat) (h:Nat→aa),s.1≤n→1≤k∧k≤3*v→aO v k h→∃ (s2:Nat×Int) (k2:Nat) (h2:Nat→aa),s2.1≤n∧k2≤24∧aO N k2 h2 ∧
        ∀ c:Cx,c.n=1→zR c 55 uM (t5 n f s N k h v) (aS c [(0,aR n f s2),(1,aj k2 h2)] (cV N k2 1)):=by
      intro e
      induction e with
      | zero =>
        intro v hv hv2 s k h hs hk hob
        have hd:decide ((v:Int)<(N:Int))=false:=decide_eq_false (by omega)
        refine ⟨s,k,h,hs,by omega,by rw [← show v=N by omega];exact hob,fun c hc=>?_⟩
        refine be Tryz.func55 hc (KE n f s N k h v) ?_
        and_intros
        iterate 2 all_goals (first | exact zI | (exact hd) | (intros;simp [af];done) | (simp;done) | (simp;omega) | simp only [af])
      | succ e ih =>
        intro v hv hv2 s k h hs hk hob
        have hd:decide ((v:Int)<(N:Int))=true:=decide_eq_true (by omega)
        obtain ⟨s1,a,h1,ha,c1⟩:=aq n f hn s hs v (by omega)
        obtain ⟨s2,y,h2,hy,c2⟩:=aq n f hn s1 h1 ((v:Int) - 1) (by omega)
        obtain ⟨s3,b,h3,c3⟩:=uu n f hn s2 h2 2 (by omega)
        have ha2:=ha.2.1 (by omega)
        have hy2:=hy.2.1 (by omega)
        cases hb:(bif b then decide ((v:Int)>2) else false) with
        | false =>
          have hup:=C5 hob
          have hmod:=Int.emod_nonneg (a+1+y) (show (v:Int)≠0 by omega)
          have hmod2:=Int.emod_lt_of_pos (a+1+y) (show (0:Int)<v by omega)
          obtain ⟨r1,z1,p1⟩:=fc (M:=v+1) h k N (a,v,()) (by omega) hup (by show 0≤a∧a<(v:Int)∧(v:Int)<((v+1:Nat):Int);omega)
          obtain ⟨r2,z2,p2⟩:=fc (M:=v+1) r1 (k+1) N ((a+1+y) % (v:Int),v,()) (by omega) z1 (by show 0≤(a+1+y) % (v:Int)∧(a+1+y) % (v:Int)<(v:Int)∧(v:Int)<((v+1:Nat):Int);omega)
          obtain ⟨s9,k9,r9,i1,i2,i3,hr⟩:=ih (v+1) (by omega) (by omega) s3 (k+1+1) r2 h3 (by omega) z2
          refine ⟨s9,k9,r9,i1,i2,i3,fun c hc=>?_⟩
          refine cW hc (Oi n f s s1 s2 s3 N k h v a y b (k+1) (k+1+1) r1 r2) ?_ (hr c hc)
          and_intros
          all_goals (first | exact zI | (exact hd) | (exact c1) | (exact c2) | (exact c3) | (exact hb) | (exact p1) | (exact p2) | omega | (intros;simp [af];done) | (simp;done) | (simp;omega))
        | true =>
          have hbt:b=true:=by cases b;cases hb;rfl
          subst hbt
          obtain ⟨s4,e4,h4,he,c4⟩:=aq n f hn s3 h3 k (by omega)
          have he2:=he.2.1 (by omega)
          obtain ⟨ee,rfl⟩:∃ t:Nat,e4=(t:Int):=⟨e4.toNat,by omega⟩
          have fin:∀ w:Int,(0≤w∧w<v)→(bif w==(h ee).1 then true else w==(h ee).2.1)=false→∃ (s2:Nat×Int) (k2:Nat) (h2:Nat→aa),s2.1≤n∧k2≤24∧aO N k2 h2 ∧
              ∀ c:Cx,c.n=1→zR c 55 Da (rW n f s4 N k h v ee (h ee) w) (aS c [(0,aR n f s2),(1,aj k2 h2)] (cV N k2 1)):=by
            intro w hwv hw
            obtain ⟨s5,y5,h5,hy5,c5⟩:=qg n f hn s4 h4 v (by omega) (h ee) w hwv (by omega)
            obtain ⟨m,r0,ok,m1,m2,m3,c6⟩:=sK ((N:Int),(k,h),()) (by show k≤_;omega) (ee:Int)
            have m1:m≤k:=m1
            have m2:k≤m+1:=m2
            have hob0:aO (v+1) m r0:=C5 (fun i hi=>by
              obtain ⟨j,j1,j2⟩:=m3 i hi
              rw [j2];exact hob j j1)
            have hee:=hob ee (by omega)
            obtain ⟨r1,z1,p1⟩:=fc (M:=v+1) r0 m N ((h ee).1,v,()) (by omega) hob0 (by show 0≤(h ee).1∧(h ee).1<(v:Int)∧(v:Int)<((v+1:Nat):Int);omega)
            obtain ⟨r2,z2,p2⟩:=fc (M:=v+1) r1 (m+1) N ((h ee).2.1,v,()) (by omega) z1 (by show 0≤(h ee).2.1∧(h ee).2.1<(v:Int)∧(v:Int)<((v+1:Nat):Int);omega)
            obtain ⟨r3,z3,p3⟩:=fc (M:=v+1) r2 (m+1+1) N (y5,v,()) (by omega) z2 (by show 0≤y5∧y5<(v:Int)∧(v:Int)<((v+1:Nat):Int);omega)
            obtain ⟨s9,k9,r9,i1,i2,i3,hr⟩:=ih (v+1) (by omega) (by omega) s5 (m+1+1+1) r3 h5 (by omega) z3
            refine ⟨s9,k9,r9,i1,i2,i3,fun c hc=>?_⟩
            refine a9 hc (MW n f s4 s5 N k h v ee (h ee) w y5 m (m+1) (m+1+1) (m+1+1+1) r0 r1 r2 r3 ok) ?_ (hr c hc)
            and_intros
            all_goals (first | exact zH | (exact c5) | (exact c6) | (exact p1) | (exact p2) | (exact p3) | (exact hw) | (intros;simp [af];done) | (simp;done) | (intro h';simpa using h') | (simp;omega))
          have stp:∀ w:Int,0≤w∧w≤10→(bif w==(h ee).1 then true else w==(h ee).2.1)=true→(∃ (s2:Nat×Int) (k2:Nat) (h2:Nat→aa),s2.1≤n∧k2≤24∧aO N k2 h2 ∧
              ∀ c:Cx,c.n=1→zR c 55 Da (rW n f s4 N k h v ee (h ee) (w+1)) (aS c [(0,aR n f s2),(1,aj k2 h2)] (cV N k2 1)))→∃ (s2:Nat×Int) (k2:Nat) (h2:Nat→aa),s2.1≤n∧k2≤24∧aO N k2 h2 ∧
              ∀ c:Cx,c.n=1→zR c 55 Da (rW n f s4 N k h v ee (h ee) w) (aS c [(0,aR n f s2),(1,aj k2 h2)] (cV N k2 1)):=by
            intro w hw0 hw ⟨s9,k9,r9,i1,i2,i3,hr⟩
            refine ⟨s9,k9,r9,i1,i2,i3,fun c hc=>?_⟩
            refine a9 hc (NQ n f s4 N k h v ee (h ee) w) ?_ (hr c hc)
            and_intros
            all_goals (first | exact zH | (exact hw) | omega | (intros;simp [af];done) | (simp;done) | (intro h';simpa using h') | (simp;omega))
          have hit:∀ w:Int,(bif w==(h ee).1 then true else w==(h ee).2.1)=true→w=(h ee).1∨w=(h ee).2.1:=by
            intro w hw
            cases hq:(w==(h ee).1) with
            | true=>exact .inl (by simpa using hq)
            | false=>rw [hq,cond_false] at hw;exact .inr (by simpa using hw)
          have all:∃ (s2:Nat×Int) (k2:Nat) (h2:Nat→aa),s2.1≤n∧k2≤24∧aO N k2 h2 ∧
              ∀ c:Cx,c.n=1→zR c 55 Da (rW n f s4 N k h v ee (h ee) 0) (aS c [(0,aR n f s2),(1,aj k2 h2)] (cV N k2 1)):=by
            cases q0:(bif (0:Int)==(h ee).1 then true else (0:Int)==(h ee).2.1) with
            | false=>exact fin 0 (by omega) q0
            | true =>
              refine stp 0 (by omega) q0 ?_
              cases q1:(bif (0+1:Int)==(h ee).1 then true else (0+1:Int)==(h ee).2.1) with
              | false=>exact fin (0+1) (by omega) q1
              | true =>
                refine stp (0+1) (by omega) q1 ?_
                cases q2:(bif (0+1+1:Int)==(h ee).1 then true else (0+1+1:Int)==(h ee).2.1) with
                | false=>exact fin (0+1+1) (by have hv3:decide ((v:Int)>2)=true:=hb;have hv3:=of_decide_eq_true hv3;omega) q2
                | true =>
                  have:=hit _ q0;have:=hit _ q1;have:=hit _ q2
                  omega
          obtain ⟨s9,k9,r9,i1,i2,i3,hr⟩:=all
          refine ⟨s9,k9,r9,i1,i2,i3,fun c hc=>?_⟩
          refine a9 hc (NX n f s s1 s2 s3 s4 N k h v a y ee) ?_ (hr c hc)
          and_intros
          all_goals (first | exact zI | (exact hd) | (exact c1) | (exact c2) | (exact c3) | (exact hb) | (exact c4) | omega | (intros;simp [af];done) | (simp;done) | (simp;omega))
    obtain ⟨r1,z1,p1⟩:=fc (M:=2) (fun _=>(0,0,())) 0 N (0,1,()) (by omega) (fun e he=>absurd he (Nat.not_lt_zero _)) (by show (0:Int)≤0∧(0:Int)<1∧(1:Int)<((2:Nat):Int);omega)
    obtain ⟨s9,k9,r9,i1,i2,i3,hr⟩:=lo (N - 2) 2 (by omega) (by omega) s (0+1) r1 hs (by omega) z1
    refine ⟨s9,k9,r9,i1,i2,i3,?_⟩
    refine aW Tryz.func55 (fun c hc=>?_)
    refine a9 hc (Kx n f s N (0+1) r1) ?_ (hr c hc)
    and_intros
    all_goals (first | exact zI | (exact hd) | (exact p1) | (refine p1.arg_ext ?_;simp only [bi,b4,jZ,pI,wk,CY,beq_self_eq_true,Bool.and_self,if_true,lC,List.append_nil,List.cons_append,List.nil_append,af];and_intros<;>first | trivial | omega | (intro i hi;exact absurd hi (Nat.not_lt_zero _))) | (intros;simp [af];done) | (simp;done) | (simp;omega))
theorem qC (n:Nat) (f:Nat→Int) (hn:ff n f) (s:Nat×Int) (hs:s.1≤n) (N:Nat) (odd:Int) (hN:N≤100):∃ (s2:Nat×Int) (k:Nat) (h:Nat→aa),s2.1≤n∧k≤24 ∧
    Con Tryz.prog 108 1 [(0,aR n f s)] [.pt 3 0 0 0,.p (.int .i64 N),.p (.int .i64 odd)] [(0,aR n f s2),(1,aj k h)] (cV N k 1):=by
  obtain ⟨s2,k,h,i1,i2,_,c⟩:=iO n f hn s hs N odd hN
  exact ⟨s2,k,h,i1,i2,c⟩
theorem qX (n:Nat) (f:Nat→Int) (hn:ff n f) (s:Nat×Int) (hs:s.1≤n):∃ (s2:Nat×Int) (N:Int) (k:Nat) (h:Nat→aa),s2.1≤n∧(2≤N∧N≤6)∧k≤24 ∧
    Con Tryz.prog 88 1 [(0,aR n f s)] [.pt 3 0 0 0] [(0,aR n f s2),(1,aj k h)] (cV N k 1):=by
  have lo:∀ q,q≤2→∀ (s:Nat×Int) (N:Int) (k:Nat) (h:Nat→aa),s.1≤n→(2≤N∧N≤6)→k≤24→∃ (s2:Nat×Int) (k2:Nat) (h2:Nat→aa),s2.1≤n∧k2≤24 ∧
      ∀ c:Cx,c.n=1→zR c 88 AR (GC n f s N k h q) (aS c [(0,aR n f s2),(1,aj k2 h2)] (cV N k2 1)):=by
    intro q
    induction q with
    | zero =>
      intro _ s N k h hs hN hk
      refine ⟨s,k,h,hs,hk,fun c hc=>?_⟩
      refine be Tryz.func88 hc (Lf n f s N k h) ?_
      and_intros
      iterate 2 all_goals (first | exact zI | (intros;simp [af];done) | (simp;done) | (simp;omega) | simp only [af])
    | succ q ih =>
      intro hq s N k h hs hN hk
      have hd:decide (((q+1:Nat):Int)>0)=true:=decide_eq_true (by omega)
      obtain ⟨s1,a,h1,ha,c1⟩:=aq n f hn s hs N (by omega)
      obtain ⟨s2,b,h2,hb,c2⟩:=aq n f hn s1 h1 N (by omega)
      have c3:=fG (N,(k,h),()) (c9 (by show k≤_;omega)) a b
      have hk2:=AT (N,(k,h),()) a b
      have hM:(gO (N,(k,h),()) a b).1=N:=by unfold gO;split<;>rfl
      rw [hM] at c3
      have hk3:(gO (N,(k,h),()) a b).2.1.1≤24:=by
        rcases hk2 with e | e
        · have e':(gO (N,(k,h),()) a b).2.1.1≤k:=e
          omega
        · exact e
      generalize (gO (N,(k,h),()) a b).2.1.1=m at c3 hk3
      generalize (gO (N,(k,h),()) a b).2.1.2=r at c3
      generalize zq (N,(k,h),()) a b=ok at c3
      obtain ⟨s3,k3,h3,i1,i2,hr⟩:=ih (by omega) s2 N m r h2 hN hk3
      refine ⟨s3,k3,h3,i1,i2,fun c hc=>?_⟩
      refine a9 hc (LB n f s s1 s2 N k h q a b N m r ok) ?_ (hr c hc)
      and_intros
      all_goals (first | exact zI | (exact hd) | (exact c1) | (exact c2) | (exact c3) | (intros;simp [af];done) | (simp;done) | (simp;omega))
  obtain ⟨s1,x,h1,hx,c1⟩:=aq n f hn s hs 5 (by omega)
  obtain ⟨s2,y,h2,hy,c2⟩:=aq n f hn s1 h1 4 (by omega)
  have hx2:=hx.2.1 (by omega)
  obtain ⟨x,rfl⟩:∃ t:Nat,x=(t:Int):=⟨x.toNat,by omega⟩
  obtain ⟨s3,k,h,h3,hk,c3⟩:=qC n f hn s2 h2 (2+x) (5+y) (by omega)
  rw [show ((2+x:Nat):Int)=2+(x:Int) by omega] at c3
  obtain ⟨s4,z,h4,hz,c4⟩:=aq n f hn s3 h3 3 (by omega)
  obtain ⟨s5,t,h5,ht,c5⟩:=aq n f hn s4 h4 2 (by omega)
  have hz2:=hz.2.1 (by omega)
  have ht2:=ht.2.1 (by omega)
  obtain ⟨q,hq,hq2⟩:∃ q:Nat,z*t=(q:Int)∧q≤2:=by
    rcases (show t=0∨t=1 by omega) with e | e
    · exact ⟨0,by rw [e];simp,by omega⟩
    · exact ⟨z.toNat,by rw [e];omega,by omega⟩
  obtain ⟨s6,k2,r2,i1,i2,hr⟩:=lo q hq2 s5 (2+(x:Int)) k h h5 (by omega) hk
  refine ⟨s6,2+(x:Int),k2,r2,i1,by omega,i2,?_⟩
  refine aW Tryz.func88 (fun c hc=>?_)
  refine a9 hc (LU n f s s1 s2 s3 s4 s5 x y z t (2+(x:Int)) k h q) ?_ (hr c hc)
  and_intros
  all_goals (first | exact zI | (exact c1) | (exact c2) | (exact c3) | (exact c4) | (exact c5) | (exact hq) | (rw [hq];omega) | (intros;simp [af];done) | (simp;done) | (simp;omega))
theorem xN (n:Nat) (f:Nat→Int) (hn:ff n f) (s:Nat×Int) (hs:s.1≤n):∃ (s2:Nat×Int) (N:Int) (k:Nat) (h:Nat→aa),s2.1≤n∧k≤25 ∧
    Con Tryz.prog 54 1 [(0,aR n f s)] [.pt 3 0 0 0] [(0,aR n f s2),(1,aj k h)] (cV N k 1):=by
  obtain ⟨s1,N,k,h,h1,hN,hk,c1⟩:=qX n f hn s hs
  obtain ⟨s2,x,h2,hx,c2⟩:=aq n f hn s1 h1 16 (by omega)
  by_cases e0:x=0
  · obtain ⟨s3,y,h3,hy,c3⟩:=qY n f hn s2 h2 [0,-1,9,3] (by simp)
    refine ⟨s3,y,k,h,h3,by omega,?_⟩
    refine aW Tryz.func54 (fun c hc=>?_)
    refine bz Tryz.func54 hc (LS n f s s1 s2 s3 s3 N k h x y 0) ?_
    and_intros
    iterate 2 all_goals (first | exact zI | (exact c1) | (exact c2) | (exact c3) | (intros;simp [af];done) | (simp [e0];done) | (simp;omega) | simp only [af])
  · have b0:(x==0)=false:=beq_eq_false_iff_ne.2 e0
    by_cases e1:x=1
    · obtain ⟨s3,y,h3,hy,c3⟩:=aq n f hn s2 h2 3 (by omega)
      obtain ⟨s4,z,h4,hz,c4⟩:=aq n f hn s3 h3 9 (by omega)
      refine ⟨s4,N,k+1,aZ k h (y,z,()),h4,by omega,?_⟩
      refine aW Tryz.func54 (fun c hc=>?_)
      refine bz Tryz.func54 hc (LE n f s s1 s2 s3 s4 N k h x y z) ?_
      and_intros
      iterate 2 all_goals (first | exact zI | (exact c1) | (exact c2) | (exact c3) | (exact c4) | (exact b0) | (intros;simp [af];done) | (simp [e1];done) | (simp;omega) | (intro i hi;rcases (show i<k∨i=k by omega) with h' | h'<;>simp [h',aZ,ay,bh,tg,bu,af]) | simp only [af])
    · have b1:(x==1)=false:=beq_eq_false_iff_ne.2 e1
      refine ⟨s2,N,k,h,h2,by omega,?_⟩
      refine aW Tryz.func54 (fun c hc=>?_)
      refine be Tryz.func54 hc (Lx n f s s1 s2 s2 s2 N k h x 0 0) ?_
      and_intros
      iterate 2 all_goals (first | exact zI | (exact c1) | (exact c2) | (exact b0) | (exact b1) | (intros;simp [af];done) | (simp;done) | (simp;omega) | simp only [af])
theorem gE (n:Nat) (f:Nat→Int) (hn:ff n f) (s:Nat×Int) (hs:s.1≤n) (N:Nat) (hN:N≤8):∃ (s2:Nat×Int) (k:Nat) (h:Nat→aa),s2.1≤n∧k≤24 ∧
    Con Tryz.prog 55 1 [(0,aR n f s)] [.pt 3 0 0 0,.p (.int .i64 N)] [(0,aR n f s2),(1,aj k h)] (cV N k 1):=by
  obtain ⟨s2,k,h,i1,i2,_,c⟩:=fJ n f hn s hs N hN
  exact ⟨s2,k,h,i1,i2,c⟩
theorem xn (n:Nat) (f:Nat→Int) (hn:ff n f) (s:Nat×Int) (hs:s.1≤n):∃ (s2:Nat×Int) (N:Int) (k:Nat) (h:Nat→aa),s2.1≤n∧k≤25 ∧
    Con Tryz.prog 21 1 [(0,aR n f s)] [.pt 3 0 0 0] [(0,aR n f s2),(1,aj k h)] (cV N k 1):=by
  obtain ⟨s1,x,h1,hx,c1⟩:=aq n f hn s hs 4 (by omega)
  by_cases e0:x=0
  · obtain ⟨s2,N,k,h,h2,hk,c2⟩:=xN n f hn s1 h1
    refine ⟨s2,N,k,h,h2,hk,?_⟩
    refine aW Tryz.func21 (fun c hc=>?_)
    refine be Tryz.func21 hc (K1 n f s s1 s2 s2 s2 s2 N N k k h h x 0 0 0 true) ?_
    and_intros
    iterate 2 all_goals (first | exact zI | (exact c1) | (exact c2) | (intros;simp [af];done) | (simp [e0];done) | (simp;omega) | simp only [af])
  · have b0:(x==0)=false:=beq_eq_false_iff_ne.2 e0
    by_cases e1:x=1
    · obtain ⟨s2,y,h2,hy,c2⟩:=aq n f hn s1 h1 5 (by omega)
      have hy2:=hy.2.1 (by omega)
      obtain ⟨y,rfl⟩:∃ t:Nat,y=(t:Int):=⟨y.toNat,by omega⟩
      obtain ⟨s3,k,h,h3,hk,c3⟩:=gE n f hn s2 h2 (2+y) (by omega)
      rw [show ((2+y:Nat):Int)=2+(y:Int) by omega] at c3
      obtain ⟨s4,z,h4,hz,c4⟩:=aq n f hn s3 h3 k (by omega)
      obtain ⟨m,r,ok,m1,m2,c5⟩:=CI (2+(y:Int),(k,h),()) (by show k≤_;omega) z
      have m1:m≤k:=m1
      refine ⟨s4,2+(y:Int),m,r,h4,by omega,?_⟩
      refine aW Tryz.func21 (fun c hc=>?_)
      refine bz Tryz.func21 hc (ND n f s s1 s2 s3 s4 s4 (2+(y:Int)) (2+(y:Int)) k m h r x y z 0 ok) ?_
      and_intros
      iterate 2 all_goals (first | exact zI | (exact c1) | (exact c2) | (exact c3) | (exact c4) | (exact c5) | (exact b0) | (intros;simp [af];done) | (simp [e1];done) | (simp;omega) | simp only [af])
    · have b1:(x==1)=false:=beq_eq_false_iff_ne.2 e1
      by_cases e2:x=2
      · obtain ⟨s2,y,h2,hy,c2⟩:=aq n f hn s1 h1 5 (by omega)
        have hy2:=hy.2.1 (by omega)
        obtain ⟨y,rfl⟩:∃ t:Nat,y=(t:Int):=⟨y.toNat,by omega⟩
        obtain ⟨s3,k,h,h3,hk,c3⟩:=gE n f hn s2 h2 (2+y) (by omega)
        rw [show ((2+y:Nat):Int)=2+(y:Int) by omega] at c3
        obtain ⟨s4,z,h4,hz,c4⟩:=aq n f hn s3 h3 (2+(y:Int)) (by omega)
        obtain ⟨s5,t,h5,ht,c5⟩:=aq n f hn s4 h4 (2+(y:Int)) (by omega)
        have c6:=fG (2+(y:Int),(k,h),()) (c9 (by show k≤_;omega)) z t
        have hk2:=AT (2+(y:Int),(k,h),()) z t
        have hM:(gO (2+(y:Int),(k,h),()) z t).1=2+(y:Int):=by unfold gO;split<;>rfl
        rw [hM] at c6
        have hk3:(gO (2+(y:Int),(k,h),()) z t).2.1.1≤24:=by
          rcases hk2 with e | e
          · have e':(gO (2+(y:Int),(k,h),()) z t).2.1.1≤k:=e
            omega
          · exact e
        generalize (gO (2+(y:Int),(k,h),()) z t).2.1.1=m at c6 hk3
        generalize (gO (2+(y:Int),(k,h),()) z t).2.1.2=r at c6
        generalize zq (2+(y:Int),(k,h),()) z t=ok at c6
        refine ⟨s5,2+(y:Int),m,r,h5,by omega,?_⟩
        refine aW Tryz.func21 (fun c hc=>?_)
        refine bz Tryz.func21 hc (Oz n f s s1 s2 s3 s4 s5 (2+(y:Int)) (2+(y:Int)) k m h r x y z t ok) ?_
        and_intros
        iterate 2 all_goals (first | exact zI | (exact c1) | (exact c2) | (exact c3) | (exact c4) | (exact c5) | (exact c6) | (exact b0) | (exact b1) | (intros;simp [af];done) | (simp [e2];done) | (simp;omega) | simp only [af])
      · have b2:(x==2)=false:=beq_eq_false_iff_ne.2 e2
        obtain ⟨s2,y,h2,hy,c2⟩:=aq n f hn s1 h1 6 (by omega)
        have hy2:=hy.2.1 (by omega)
        obtain ⟨y,rfl⟩:∃ t:Nat,y=(t:Int):=⟨y.toNat,by omega⟩
        obtain ⟨s3,k,h,h3,hk,c3⟩:=gE n f hn s2 h2 (1+y) (by omega)
        rw [show ((1+y:Nat):Int)=1+(y:Int) by omega] at c3
        refine ⟨s3,1+(y:Int),k,h,h3,by omega,?_⟩
        refine aW Tryz.func21 (fun c hc=>?_)
        refine be Tryz.func21 hc (Kq n f s s1 s2 s3 s3 s3 (1+(y:Int)) (1+(y:Int)) k k h h x y 0 0 true) ?_
        and_intros
        iterate 2 all_goals (first | exact zI | (exact c1) | (exact c2) | (exact c3) | (exact b0) | (exact b1) | (exact b2) | (intros;simp [af];done) | (simp;done) | (simp;omega) | simp only [af])
theorem t7 (a b:aa):iu a b=true↔a.1<b.1∨(a.1=b.1∧a.2.1≤b.2.1):=by
  unfold iu
  by_cases h1:a.1<b.1
  · simp [h1]
  · by_cases h2:a.1=b.1
    · simp [h2]
    · have:(a.1==b.1)=false:=beq_eq_false_iff_ne.2 h2
      simp [h1,h2]
def nQ (n:Nat) (h:Nat→aa):Prop:=∀ s,s+1<n→iu (h s) (h (s+1))=true
theorem xh {n:Nat} {h:Nat→aa} {x:aa} (ha:nQ n h) (hx:0<n→iu (h (n - 1)) x=true):nQ (n+1) (aZ n h x):=by
  intro s hs
  rw [cY (show s<n by omega)]
  by_cases h1:s+1<n
  · rw [cY h1];exact ha s h1
  · obtain rfl:n=s+1:=by omega
    rw [dO (Nat.lt_irrefl _)]
    exact hx (by omega)
theorem sV {N nb:Nat} {g:Nat→aa} (hN:1≤N∧N≤8) (hnb:nb≤24) (hok:aO N nb g) (ha:nQ nb g):ah ((N:Int),(nb,g),())=true:=by
  have hgood:∀ k,k≤nb→b9 (N:Int) g k=true:=by
    intro k
    induction k with
    | zero=>intro _;rfl
    | succ k ih =>
      intro hk
      rw [b9,ih (by omega),Bool.true_and,Bool.not_eq_true']
      have hb:=hok k (by omega)
      have a1:decide ((g k).1<0)=false:=decide_eq_false (by omega)
      have a2:decide ((g k).1≥(g k).2.1)=false:=decide_eq_false (by omega)
      have a3:decide ((g k).2.1≥(N:Int))=false:=decide_eq_false (by omega)
      unfold lg
      rw [a1,a2,a3]
      simp only [cond_false]
      by_cases h0:k=0
      · subst h0;rfl
      · have:=ha (k - 1) (by omega)
        rw [show k - 1+1=k by omega] at this
        rw [show ((k:Int) - 1).toNat=k - 1 by omega,this]
        cases decide ((k:Int)>0)<;>rfl
  have hin:bC (N:Int) 1 8=true:=by simp [bC];omega
  rw [ah,if_pos ⟨hin,hnb⟩]
  exact hgood nb (Nat.le_refl _)
theorem xe {N:Int} {g:Nat→aa} {k:Nat} (h:lg N g k=false):0≤(g k).1∧(g k).1<(g k).2.1∧(g k).2.1<N∧(0<k→iu (g (k - 1)) (g k)=true):=by
  unfold lg at h
  by_cases h1:(g k).1<0
  · rw [decide_eq_true h1] at h;cases h
  by_cases h2:(g k).1≥(g k).2.1
  · rw [decide_eq_false h1,decide_eq_true h2] at h;cases h
  by_cases h3:(g k).2.1≥N
  · rw [decide_eq_false h1,decide_eq_false h2,decide_eq_true h3] at h;cases h
  rw [decide_eq_false h1,decide_eq_false h2,decide_eq_false h3] at h
  refine ⟨by omega,by omega,by omega,fun hk=>?_⟩
  rw [decide_eq_true (show (k:Int)>0 by omega)] at h
  rw [show ((k:Int) - 1).toNat=k - 1 by omega] at h
  simpa using h
theorem u9 {N nb:Nat} {g:Nat→aa} (hg:ah ((N:Int),(nb,g),())=true):nQ nb g:=by
  have h:=(cD hg).2.2.2
  intro s hs
  have:=(xe (mU (N:Int) g nb h (s+1) hs)).2.2.2 (by omega)
  rwa [show s+1 - 1=s by omega] at this
theorem yi {a b c:aa} (h1:iu a b=true) (h2:iu b c=true):iu a c=true:=by
  rw [t7] at *
  omega
theorem oR {n:Nat} {g:Nat→aa} (h:nQ n g):∀ d i,i+(d+1)<n→iu (g i) (g (i+(d+1)))=true
  | 0,i,hi=>h i hi
  | d+1,i,hi=>yi (oR h d i (by omega)) (h (i+(d+1)) (by omega))
theorem yK {n:Nat} {g:Nat→aa} (h:nQ n g) {i j:Nat} (hij:i<j) (hj:j<n):iu (g i) (g j)=true:=by
  have:=oR h (j - i - 1) i (by omega)
  rwa [show i+(j - i - 1+1)=j by omega] at this
def bc (x:aa) (v:Int):Bool:=bif x.1==v then true else x.2.1==v
def bq (g:Nat→aa) (v:Int):Nat→ad
  | 0=>(0,fun _=>0)
  | k+1=>if bc (g k) v=true then ((bq g v k).1+1,fun s=>if s<(bq g v k).1 then (bq g v k).2 s else aw (g k) v) else bq g v k
def ba (g:Nat→aa) (v:Int):Nat→NB
  | 0=>Ml
  | k+1=>if bc (g k) v=true then ba g v k else sn (ba g v k) (g k)
theorem iM (g:Nat→aa) (v:Int):∀ k,(bq g v k).1+(ba g v k).1=k
  | 0=>rfl
  | k+1=>by
    have:=iM g v k
    simp only [bq,ba]
    split
    · show (bq g v k).1+1+_=_;omega
    · simp only [sn];omega
theorem fk (x:aa) (v:Int):bc x v=true↔x.1=v∨x.2.1=v:=by
  unfold bc
  by_cases h:x.1=v
  · have e:(x.1==v)=true:=beq_iff_eq.2 h
    simp [e,h]
  · have e:(x.1==v)=false:=beq_eq_false_iff_ne.2 h
    simp [e,h]
theorem EA {a b:aa} {v:Int} (ha:a.1<a.2.1) (hb:b.1<b.2.1) (h:iu a b=true) (h1:bc a v=true) (h2:bc b v=true):aw a v≤aw b v:=by
  rw [fk] at h1 h2
  rw [t7] at h
  unfold aw
  split<;>split<;>omega
theorem A8 {N nb:Nat} {g:Nat→aa} (v:Int) (hok:aO N nb g) (ha:nQ nb g):∀ k,k≤nb →
    (∀ s,s<(bq g v k).1→∃ j,j<k∧bc (g j) v=true∧(bq g v k).2 s=aw (g j) v)∧∀ s t,s<t→t<(bq g v k).1→(bq g v k).2 s≤(bq g v k).2 t
  | 0,_=>⟨fun s hs=>absurd hs (Nat.not_lt_zero _),fun s t _ ht=>absurd ht (Nat.not_lt_zero _)⟩
  | k+1,hk=>by
    obtain ⟨h1,h2⟩:=A8 v hok ha k (by omega)
    by_cases hh:bc (g k) v=true
    · rw [show bq g v (k+1)=((bq g v k).1+1,fun s=>if s<(bq g v k).1 then (bq g v k).2 s else aw (g k) v) by simp [bq,hh]]
      refine ⟨fun s hs=>?_,fun s t hst ht=>?_⟩
      · simp only at hs ⊢
        by_cases hl:s<(bq g v k).1
        · obtain ⟨j,g1,g2,g3⟩:=h1 s hl
          exact ⟨j,by omega,g2,by rw [if_pos hl,g3]⟩
        · exact ⟨k,by omega,hh,by rw [if_neg hl]⟩
      · simp only at ht ⊢
        have hs:s<(bq g v k).1:=by omega
        rw [if_pos hs]
        by_cases hl:t<(bq g v k).1
        · rw [if_pos hl];exact h2 s t hst hl
        · rw [if_neg hl]
          obtain ⟨j,g1,g2,g3⟩:=h1 s hs
          rw [g3]
          exact EA (hok j (by omega)).2.1 (hok k (by omega)).2.1 (yK ha g1 (by omega)) g2 hh
    · have e:bc (g k) v=false:=by simpa using hh
      rw [show bq g v (k+1)=bq g v k by simp [bq,e]]
      refine ⟨fun s hs=>?_,h2⟩
      obtain ⟨j,g1,g2,g3⟩:=h1 s hs
      exact ⟨j,by omega,g2,g3⟩
theorem ze {N nb:Nat} {g:Nat→aa} (v:Int) (hok:aO N nb g) (ha:nQ nb g):∀ k,k≤nb →
    (∀ s,s<(ba g v k).1→∃ j,j<k∧(ba g v k).2 s=g j)∧nQ (ba g v k).1 (ba g v k).2
  | 0,_=>⟨fun s hs=>absurd hs (Nat.not_lt_zero _),fun s hs=>absurd hs (Nat.not_lt_zero _)⟩
  | k+1,hk=>by
    obtain ⟨h1,h2⟩:=ze v hok ha k (by omega)
    by_cases hh:bc (g k) v=true
    · rw [show ba g v (k+1)=ba g v k by simp [ba,hh]]
      refine ⟨fun s hs=>?_,h2⟩
      obtain ⟨j,g1,g3⟩:=h1 s hs
      exact ⟨j,by omega,g3⟩
    · have e:bc (g k) v=false:=by simpa using hh
      rw [show ba g v (k+1)=sn (ba g v k) (g k) by simp [ba,e]]
      refine ⟨fun s hs=>?_,xh h2 (fun h0=>?_)⟩
      · by_cases hl:s<(ba g v k).1
        · obtain ⟨j,g1,g3⟩:=h1 s hl
          exact ⟨j,by omega,by show aZ _ _ _ s=_;rw [cY hl,g3]⟩
        · exact ⟨k,by omega,by show aZ _ _ _ s=_;rw [dO hl]⟩
      · obtain ⟨j,g1,g3⟩:=h1 ((ba g v k).1 - 1) (by omega)
        rw [g3]
        exact yK ha g1 (by omega)
theorem ol {N nb:Nat} {g:Nat→aa} (hg:ah ((N:Int),(nb,g),())=true) (v:Int):ah ((N:Int),((ba g v nb).1,(ba g v nb).2),())=true:=by
  obtain ⟨h1,h2,h3⟩:=aB hg
  obtain ⟨h4,h5⟩:=ze v h3 (u9 hg) nb (Nat.le_refl _)
  have:=iM g v nb
  refine sV h1 (by omega) (fun e he=>?_) h5
  obtain ⟨j,h6,h7⟩:=h4 e he
  rw [h7];exact h3 j h6
end Go.Proofs.YtbdgmpfdlgnkkaaGreat.Mach
namespace Go.Proofs
open Go Go.Shelf Go.RowKit Go.Lib Go.Sort
shelf_lay_g SlLaysM.n5 Slgm 5 at Tryz 114 as Tryz.sortInt
end Go.Proofs
namespace Go.Proofs.YtbdgmpfdlgnkkaaGreat.Mach
open Go Go.Shelf Go.RowKit Go.Lib Go.Sort
def eJ (n:Nat) (h:Nat→Int):Ob:=⟨false,1,n,fun i=>[.p (.int .i64 (h i))]⟩
def jj (n:Nat) (h:Nat→Int):List Int:=(List.range n).map h
def wR (l:List Int):List Int:=l.mergeSort fun x y=>decide (x≤y)
def BM (l:List Int) (i:Nat):Int:=l.getD i 0
theorem m9 (n:Nat) (h:Nat→Int):(jj n h).length=n:=by simp [jj]
theorem zK (l:List Int):(wR l).length=l.length:=by simp [wR]
theorem xb (w:World) (b base:Nat) (l:List Int):putRow (Value.int .i64) w b base l.toArray=putRow id w b base (l.map (Value.int .i64)).toArray:=by
  unfold putRow
  congr 1
  funext c
  unfold putCells
  congr 1
  funext k x
  have e1:l.toArray.size=(l.map (Value.int .i64)).toArray.size:=by simp
  rw [← e1]
  split
  · rename_i h
    have hk:k - base<l.length:=by have:=h.2;simp at this;omega
    rw [getElem!_pos _ _ (by simpa using hk),getElem!_pos _ _ (by simpa using hk)]
    simp
  · rfl
theorem zQ {w:World} {β:Id→Option Addr} {own:Bool→Nat→Prop} {x:Int} {v:Value} (h:VR w β own (.p (.int .i64 x)) v):v=.int .i64 x:=ug h
theorem xr {w:World} {β:Id→Option Addr} {own:Bool→Nat→Prop} {n b base:Nat} {h:Nat→Int} {cells:Array Value} {el:TypeId} (hh:w.heap[b]? = some (.cells cells el (0,0)))
    (hrw:∀ i,i<n→∃ v,cells[base+i]? = some v∧One v∧VR w β own (.p (.int .i64 (h i))) v) (hpos:0<n) :
    Holds (Value.int .i64) w b base (jj n h).toArray∧base+n≤cells.size:=by
  have hcell:∀ i,i<n→cells[base+i]? = some (.int .i64 (h i)):=by
    intro i hi
    obtain ⟨u,hu1,hu2,hu3⟩:=hrw i hi
    have:=zQ (x:=h i) hu3
    subst this
    exact hu1
  refine ⟨fun t ht=>?_,?_⟩
  · have ht':t<n:=by simpa [jj] using ht
    refine ⟨?_,by simp [World.frozen?,hh]⟩
    simp only [World.cell?,hh]
    rw [hcell t ht',getElem!_pos (jj n h).toArray t ht]
    simp [jj]
  · have:=hcell (n - 1) (by omega)
    rcases Nat.lt_or_ge (base+(n - 1)) cells.size with h' | h'
    · omega
    · rw [Array.getElem?_eq_none h'] at this;cases this
theorem zm (f:FuncId) (hen:cT Tryz.prog f=true) (n:Nat) (h:Nat→Int) (l:List Int) (hl:l.length=n) (res:AV)
    (h0:n=0→∀ (w:World) (p:Option Addr) (cp:Nat),Calls Tryz.prog f #[.slice p 0 cp] w fun e w'=>(∃ v,e=.returned v∧((∀ (w:World) (β:Id→Option Addr) (own:Bool→Nat→Prop),VR w β own res v)∨(v=.slice p 0 cp∧res=.ar 1 0 0 0)))∧w'=w)
    (h1:0<n→∀ (w:World) (b base c:Nat),n≤c→b<w.heap.size→Holds (Value.int .i64) w b base (jj n h).toArray →
      Calls Tryz.prog f #[.slice (some ⟨b,base,none⟩) n c] w fun e w'=>(∃ v q os,e=.returned v∧w'=grow (putRow (Value.int .i64) (Sort.ahead w q) b base l.toArray) os ∧
        ∀ (w:World) (β:Id→Option Addr) (own:Bool→Nat→Prop) (cells:Array Value) (el:TypeId),β 0=some ⟨b,base,none⟩→w.heap[b]? = some (.cells cells el (0,0))→base+c≤cells.size→VR w β own res v)) :
    Con Tryz.prog f 1 [(0,eJ n h)] [.ar 1 0 0 n] [(0,eJ n (BM l))] res:=by
  refine ⟨hen,fun w β X vals hX hH hS hd hlen ha=>?_⟩
  obtain ⟨v0,rfl⟩:∃ v0,vals = #[v0]:=by
    rcases vals with ⟨l⟩
    match l,hlen with
    | [a],_=>exact ⟨a,rfl⟩
  have hv0:VR w β (ow X β [(0,eJ n h)]) (.ar 1 0 0 n) v0:=ha 0 (by simp)
  rcases Nat.eq_zero_or_pos n with rfl | hpos
  · obtain ⟨p,cap,rfl⟩:∃ p cap,v0=.slice p 0 cap:=by
      cases hv0 with
      | ar0=>exact ⟨_,_,rfl⟩
      | ar=>exact ⟨_,_,rfl⟩
    refine (h0 rfl w p cap).mono ?_
    rintro e w' ⟨⟨v,rfl,hv⟩,rfl⟩
    have hv':VR w' β (fr X β [(0,eJ 0 (BM l))]) res v:=by
      rcases hv with hv | ⟨rfl,rfl⟩
      · exact hv _ _ _
      · cases hv0 with
        | ar0=>exact .ar0 _ _ _ _
        | ar _ _ _ _ b base c cells elem fr' hβ hh hsz hc=>exact .ar _ _ _ _ b base _ cells elem fr' hβ hh hsz hc
    refine ⟨_,β,rfl,?_,?_,hv',?_,fun o a h=>h,fun b' h'=>.inl ?_,fun k h=>.inl h⟩
    · intro o ob hl
      obtain ⟨rfl,rfl⟩:=cK hl
      rcases hH 0 _ (mq _) with ⟨hb,_⟩ | ⟨b,base,cells,el,hβ,hh,_⟩ | hm
      · exact .inl ⟨hb,rfl⟩
      · exact .inr (.inl ⟨b,base,cells,el,hβ,hh,fun i hi=>absurd hi (Nat.not_lt_zero _)⟩)
      · exact absurd hm.2.1 (by simp [eJ])
    · intro o o' ob ob' a a' h1 h2 h3 h4 h5
      obtain ⟨rfl,rfl⟩:=cK h1
      obtain ⟨rfl,rfl⟩:=cK h2
      rfl
    · rw [tI X β (eJ 0 (BM l)) (eJ 0 h)]
      exact Ext.refl _ _
    · rw [iv _ _ _ rfl] at h' ⊢;exact h'
  · cases hv0 with
    | ar0=>exact absurd hpos (Nat.lt_irrefl 0)
    | ar _ _ _ _ b base c cells elem fr' hβ hh hsz hc =>
      rcases hH 0 _ (mq _) with ⟨hb,_⟩ | ⟨b',base',cells',el',hβ',hh',hrw⟩ | hm
      · rw [hb] at hβ;cases hβ
      · rw [hβ] at hβ'
        injection hβ' with hβ'
        injection hβ' with i1 i2 _
        subst i1;subst i2
        rw [hh] at hh'
        injection hh' with hh'
        injection hh' with i1 i2 i3
        subst i1;subst i2;subst i3
        have hrw':∀ i,i<n→∃ v,cells[base+i]? = some v∧One v∧VR w β (ow X β [(0,eJ n h)]) (.p (.int .i64 (h i))) v:=by
          intro i hi
          obtain ⟨v,k1,k2,k3⟩:=hrw i hi 0 (by simp [eJ])
          have e:base+(i*(eJ n h).z+0)=base+i:=by simp [eJ]
          exact ⟨v,by rw [← e];exact k1,k2,k3⟩
        obtain ⟨hHo,hend⟩:=xr (n:=n) (h:=h) hh hrw' hpos
        have hblk:b<w.heap.size:=by
          rcases Nat.lt_or_ge b w.heap.size with h' | h'
          · exact h'
          · rw [Array.getElem?_eq_none h'] at hh;cases hh
        have hcon:=h1 hpos w b base c hc hblk hHo
        rw [show base+0*1=base by omega]
        refine hcon.mono ?_
        rintro e w' ⟨v,q,os,rfl,rfl,hv⟩
        rw [xb]
        refine v3 (F:=(l.map (Value.int .i64)).toArray) hβ hh hS (by simpa using hend) (by simp [hl]) (fun i hi j hj=>?_) (fun own=>hv _ _ _ _ _ hβ (z8 hh) (by rw [iN];omega))
        obtain rfl:j=0:=by omega
        have e:((l.map (Value.int .i64)).toArray)[i*1+0]! = .int .i64 (BM l i):=by
          rw [getElem!_pos _ _ (by simp [hl];omega)]
          simp [BM,List.getD_eq_getElem?_getD,List.getElem?_eq_getElem (show i<l.length by omega)]
        rw [e]
        exact ⟨rfl,fun w' own=>.p _ _ (.int _ _)⟩
      · exact absurd hm.2.1 (by simp [eJ])
theorem yl (n:Nat) (h:Nat→Int) (hn:n≤1048576) :
    Con Tryz.prog 114 1 [(0,eJ n h)] [.ar 1 0 0 n] [(0,eJ n (BM (wR (jj n h))))] (.tup []):=by
  have hnil:∀ (w:World) (β:Id→Option Addr) (own:Bool→Nat→Prop),VR w β own (.tup []) (.tuple #[]):=fun w' β own=>.tup [] #[] rfl (fun j hj=>absurd hj (Nat.not_lt_zero _))
  refine zm _ (by kernel_rfl) n h _ (by rw [zK,m9]) _ (fun h0 w p cap=>?_) (fun hpos w b base c hc hb hH=>?_)
  · refine (AnyM.slices_Sort_int_none (P:=Tryz.prog) Tryz.sortInt p cap w).mono ?_
    rintro e w' ⟨rfl,rfl⟩
    exact ⟨⟨_,rfl,.inl hnil⟩,rfl⟩
  · have hcon:=AnyM.slices_Sort_int (P:=Tryz.prog) Tryz.sortInt b base c (jj n h) w hH hb (by rw [m9];omega)
    rw [m9] at hcon
    change Calls Tryz.prog 114 _ _ _ at hcon
    refine hcon.mono ?_
    rintro e w' ⟨rfl,q,os,rfl⟩
    exact ⟨_,q,os,rfl,rfl,fun w β own _ _ _ _ _=>hnil _ _ _⟩
open Go
theorem Jo (a b:Int) :
    zS Tryz.f96 [rg 1,rg 8] [jI a,jI b] [] [] ((qO b a)) =
    some [(NT 0 1),((true=true)→(AN 1)),(NT 0 1),(((if false=true then if b>a then b else a else if b<a then b else a):Int)=(if b<a then b else a)),(((if true=true then if b>a then b else a else if b<a then b else a):Int)=(if b>a then b else a))]:=by kernel_rfl
theorem HW (g:Nat→aa) (nb N:Nat) (p:Int) :
    zS Tryz.f74 [rg 2,rm [(4,oc [] (jB (bC p 0 ((N:Int) - 1))))] 1] [bi g nb N,jI p] [] [] (jB (bC p 0 ((N:Int) - 1))) =
    some [(NT 0 1),(ax ((N:Int) - 1)),(au ((N:Int) - 1)),zE 58 [jI p,jI 0,jI ((N:Int) - 1)] [] (jB (bC p 0 ((N:Int) - 1))),((bC p 0 ((N:Int) - 1))=(bC p 0 ((N:Int) - 1)))]:=by kernel_rfl
theorem Nm (g:Nat→aa) (nb N:Nat) (a b:Int) (r:Bool) :
    zS Tryz.f100 [rg 2,rm [(1,oc [] (jB true)),(3,oc [] (jB true)),(4,oc [] (jB true)),(12,oc [] (qO b a)),(0,oc [] (jB r))] 4] [bi g nb N,jI a,jI b] [] [] (jB (bif a==b then true else !r)) =
    some (zD (let B:Bool:=bif true then true else false;let A:Bool:=bif B then true else false;let C:Bool:=(A)&&!a==b;[(NT 0 1),zE 23 [(ak N nb g)] [] (jB true),((true=true)→(NT 0 1)),(AG true),((true=true)→zE 74 [(ak N nb g),jI a] [] (jB true)),((B=true)→(NT 0 1)),(AG B),((B=true)→zE 74 [(ak N nb g),jI b] [] (jB true)),(AG A),(AG C),((C=true)→(NT 0 1)),((C=true)→zE 96 [jI a,jI b] [] ((qO b a))),((C=true)→zE 118 [jI (N:Int),.p (.seq true 2 nb (aF g)),(qO b a)] [] (jB r)),((A=true)→(((a==b)=false)→(C=true))),((bif A then bif a==b then true else !r else false)=(bif a==b then true else !r))]) [0,1,2,3,3,4,3,5,6,6,7,6,8,8,8,9,10,9,10,9,9,11,9,9,9,12,9,8,13,8,14]):=by kernel_rfl
theorem lG (a b:Int):zE 96 [.p (.int .i64 a),.p (.int .i64 b)] [] (jZ (aD a b)):=by
  refine aW Tryz.func96 (fun c hc=>?_)
  refine be Tryz.func96 hc (Jo a b) ?_
  and_intros
  all_goals (first | exact zI | simp)
theorem lJ {N nb:Nat} {g:Nat→aa} (hN:1≤N∧N≤8) {p:Int} (hp:0≤p∧p<N):zE 74 [bi g nb N,.p (.int .i64 p)] [] (.p (.bool true)):=by
  have hw:=bp p 0 ((N:Int) - 1)
  have ht:bC p 0 ((N:Int) - 1)=true:=by simp [bC];omega
  rw [show (true:Bool)=bC p 0 ((N:Int) - 1) from ht.symm]
  refine aW Tryz.func74 (fun c hc=>?_)
  refine be Tryz.func74 hc (HW g nb N p) ?_
  and_intros
  all_goals (first | exact zN | (exact hw))
theorem fR {N nb:Nat} {g:Nat→aa} (hg:ah ((N:Int),(nb,g),())=true) (hok:aO N nb g) (hN:1≤N∧N≤8) (hnb:nb≤24) {a b:Int} (ha:0≤a∧a<N) (hb:0≤b∧b<N) :
    zE 100 [bi g nb N,.p (.int .i64 a),.p (.int .i64 b)] [] (.p (.bool (gS N nb g a b))):=by
  have hsm:cP a6 ((N:Int),(nb,g),()):=⟨by simp [cP,j0],⟨by show nb≤1048576;omega,fun i hi=>by simp [cP,j0]⟩,True.intro⟩
  have hcg:=aQ ((N:Int),(nb,g),()) hsm
  rw [hg] at hcg
  have h1:=lJ (g:=g) (nb:=nb) hN ha
  have h2:=lJ (g:=g) (nb:=nb) hN hb
  have h3:=lG a b
  have h4:a≠b→zE 118 [.p (.int .i64 N),b4 g nb,jZ (aD a b)] [] (.p (.bool (decide (((aK N 2 3 (aZ nb g (aD a b)) (nb+1)).length:Int)>((aK N 2 3 g nb).length:Int))))) :=
    fun hab=>uU hok (yU ha hb hab) (by omega) (by omega)
  have hmono:(aK N 2 3 g nb).length≤(aK N 2 3 (aZ nb g (aD a b)) (nb+1)).length:=by
    have e:=oe N 2 3 (g:=g) (g':=aZ nb g (aD a b)) nb (fun i hi=>(cY hi).symm)
    rw [e]
    exact zj N 2 3 _ nb
  have he:gS N nb g a b=(bif a==b then true else !decide (((aK N 2 3 (aZ nb g (aD a b)) (nb+1)).length:Int)>((aK N 2 3 g nb).length:Int))):=by
    unfold gS
    cases a==b with
    | true=>rfl
    | false =>
      simp only [cond_false]
      by_cases h:(aK N 2 3 (aZ nb g (aD a b)) (nb+1)).length=(aK N 2 3 g nb).length
      · rw [h];simp
      · have h':¬ (((aK N 2 3 (aZ nb g (aD a b)) (nb+1)).length:Nat):Int)=(((aK N 2 3 g nb).length:Nat):Int):=by omega
        have h'':(((aK N 2 3 (aZ nb g (aD a b)) (nb+1)).length:Nat):Int)>(((aK N 2 3 g nb).length:Nat):Int):=by omega
        rw [decide_eq_true h'']
        simpa using h'
  rw [he]
  refine aW Tryz.func100 (fun c hc=>?_)
  refine bz Tryz.func100 hc (Nm g nb N a b _) ?_
  and_intros
  all_goals (first | exact zH | (exact hcg) | (intros;exact h1) | (intros;exact h2) | (intros;exact h3) | (intro h;exact h4 (by simpa using h)) | (intro _ h;simpa using h) | (simp;done))
end Go.Proofs.YtbdgmpfdlgnkkaaGreat.Mach
