/- What the law Lk needs, part 4 of 4: the abstract machine and the contracts of the functions. Conditions: as each theorem says. -/
import Derived.Shelf.SlGeneric
import Derived.Ground.SlgmProg
import Derived.Ground.SlgnProg
import Derived.Shelf.SortM.Plain
import Derived.Shelf.SortM.SortNone
import Derived.Shelf.SlicesG.CompactI
import Derived.WalkKit
import Derived.Test.YtkkjoghiigiokaaGreatLkP3
namespace Go.Proofs.YtkkjoghiigiokaaGreat.Mach
open Go
set_option linter.unusedVariables false
set_option linter.unusedSimpArgs false
abbrev PlF:=Nat→T_Place
def psL (t:Bool) (n:Nat) (P:Nat→PlF) (np:Nat):AV:=.p (.seq t 1 n (fun i=>[.seq t 2 np (fun v=>[.int .i64 (P i v).1,.int .i64 (P i v).2.1])]))
def psO (n:Nat) (P:Nat→PlF) (np:Nat):Ob:=⟨false,1,n,fun i=>[.p (.seq false 2 np (fun v=>[.int .i64 (P i v).1,.int .i64 (P i v).2.1]))]⟩
def pzO (np:Nat) (a:PlF):Ob:=⟨false,2,np,fun i=>[.p (.int .i64 (a i).1),.p (.int .i64 (a i).2.1)]⟩
def fzL (m:Nat) (f:Nat→Int):AV:=.p (.seq false 1 m (fun s=>[.int .i64 (f s)]))
def fxO (m:Nat) (f:Nat→Int):Ob:=⟨true,1,1,fun _=>[fzL m f]⟩
def axO (o np:Nat):Ob:=⟨true,1,1,fun _=>[.ar 2 o 0 np]⟩
def oxO (o n:Nat):Ob:=⟨true,1,1,fun _=>[.ar 1 o 0 n]⟩
def txO:Ob:=⟨true,1,1,fun _=>[.clo 272 [.pt 1 0 0 0,.pt 4 1 0 0,.pt 1 2 0 0,.pt 1 3 0 0,.pt 1 4 0 0]]⟩
def tsF (g:Nat→T_Bar) (nb:Nat) (N:Int) (pl:PlF) (np:Nat) (w:T_IntS):Ob :=
  ⟨true,4,1,fun _=>[.p (.int .i64 N),.p (.seq false 2 nb (fun i=>[.int .i64 (g i).1,.int .i64 (g i).2.1])),.p (.seq false 2 np (fun i=>[.int .i64 (pl i).1,.int .i64 (pl i).2.1])),.p (.seq false 1 w.1 (fun i=>[.int .i64 (w.2 i)]))]⟩
def fmO (n:Nat) (P:Nat→PlF) (np:Nat):Ob:=⟨true,0,n,fun i=>[.p (.seq false 2 np (fun v=>[.int .i64 (P i v).1,.int .i64 (P i v).2.1]))]⟩
def poO (F n np:Nat):Ob:=⟨false,1,n,fun i=>[.ar 2 ⟨F,some i⟩ 0 np]⟩
def pxH (g:Nat→T_Bar) (nb:Nat) (N:Int) (pl:PlF) (np:Nat) (K:T_IntS) (m:Nat) (f:Nat→Int) (n:Nat) (P:Nat→PlF) (a:PlF):Hp :=
  [(0,fxO m f),(1,tsF g nb N pl np K),(2,axO 5 np),(3,oxO 7 n),(4,txO),(5,pzO np a),(6,fmO n P np),(7,poO 6 n np)]
def pyH (g:Nat→T_Bar) (nb:Nat) (N:Int) (pl:PlF) (np:Nat) (K:T_IntS) (m:Nat) (f:Nat→Int) (n:Nat) (P:Nat→PlF) (a:PlF):Hp :=
  [(0,fxO m f),(1,tsF g nb N pl np K),(2,axO 5 np),(3,oxO 8 n),(4,txO),(5,pzO np a),(8,poO 9 n np),(9,fmO n P np)]
def pmH (g:Nat→T_Bar) (nb:Nat) (N:Int) (pl:PlF) (np:Nat) (K:T_IntS) (m:Nat) (f:Nat→Int) (P:Nat→PlF):Hp :=
  [(0,fxO m f),(1,tsO g nb N pl np K),(2,axO 5 np),(3,oxO 6 0),(4,txO),(5,pzO np pl),(6,poO 7 0 np),(7,fmO 0 P np)]
def snP (n:Nat) (P:Nat→PlF) (a:PlF) (s:Nat):PlF:=if s<n then P s else a
def upP (a:PlF) (r:Nat) (x y:Nat) (v:Nat):T_Place:=if v=r then ((x:Int),(y:Int),()) else a v
def pxA (i:Nat):List AV:=[.p (.int .i64 i),.pt 1 0 0 0,.pt 4 1 0 0,.pt 1 2 0 0,.pt 1 3 0 0,.pt 1 4 0 0]
def pxS (g:Nat→T_Bar) (nb:Nat) (N:Int) (pl:PlF) (np:Nat) (K:T_IntS) (m:Nat) (f:Nat→Int) (n:Nat) (P:Nat→PlF) (a:PlF) (i y:Nat):St :=
  ⟨pxA i++List.replicate 16 anyA++[.p (.int .i64 y)]++List.replicate 20 anyA,pyH g nb N pl np K m f n P a,10⟩
def pxT (g:Nat→T_Bar) (nb:Nat) (N:Int) (pl:PlF) (np:Nat) (K:T_IntS) (m:Nat) (f:Nat→Int) (n:Nat) (P:Nat→PlF) (a:PlF) (i y x:Nat):St :=
  ⟨pxA i++[anyA,.p (.int .i64 y)]++List.replicate 14 anyA++[.p (.int .i64 y),anyA,anyA,.p (.int .i64 x)]++List.replicate 17 anyA,pyH g nb N pl np K m f n P a,10⟩
def pmS (g:Nat→T_Bar) (nb:Nat) (N:Int) (pl:PlF) (np:Nat) (K:T_IntS) (m:Nat) (f:Nat→Int):St :=
  ⟨[tsA g nb N pl np K,.pt 4 1 0 0,anyA,anyA,.pt 1 3 0 0,.pt 1 0 0 0,.pt 1 2 0 0,.pt 1 4 0 0]++List.replicate 16 anyA,pmH g nb N pl np K m f (fun _ _=>(0,0,())),8⟩
def spS (g:Nat→T_Bar) (nb:Nat) (N:Int) (pl:PlF) (np:Nat) (K:T_IntS) (m:Nat) (f:Nat→Int) (n:Nat) (P:Nat→PlF) (k:Nat):St :=
  ⟨[tsA g nb N pl np K,.pt 4 0 0 0,anyA,anyA,.ar 1 1 0 n,fzL m f,.p (.int .i64 k)]++List.replicate 52 anyA,[(0,tsO g nb N pl np K),(1,psO n P np)],2⟩
def spT (g:Nat→T_Bar) (nb:Nat) (N:Int) (pl:PlF) (np:Nat) (K:T_IntS) (m:Nat) (f:Nat→Int) (n:Nat) (P:Nat→PlF) (k:Nat) (a:PlF) (q:Nat) (i:Int):St :=
  ⟨[tsA g nb N pl np K,.pt 4 0 0 0,anyA,anyA,.ar 1 1 0 n,fzL m f,.p (.int .i64 k),.ar 2 2 0 np,.p (.int .i64 q),.p (.int .i64 i)]++List.replicate 49 anyA,[(0,tsO g nb N pl np K),(1,psO n P np),(2,pzO np a)],3⟩
def pwS (b n:Int) (r:Int) (k:Nat):St :=
  ⟨[.p (.int .i64 b),.p (.int .i64 n),anyA,anyA,anyA,.p (.int .i64 r),.p (.int .i64 k)]++List.replicate 9 anyA,[],0⟩
theorem pTa (g:Nat→T_Bar) (nb:Nat) (N:Int) (pl:PlF) (np:Nat) (K:T_IntS) (m:Nat) (f:Nat→Int) (n:Nat) (P:Nat→PlF) (a:PlF) (i:Nat) :
    zP Tryz.f272 8 [rg 4,.dec true,rm [(2,oc [] (.p (.bool true)))] 0,.dec true,rg 7] [.code (bodyOf Tryz.f272)] (start Tryz.f272 (pxH g nb N pl np K m f n P a) 8 (pxA i)) [0,1,2,3,4,5,99998,99999,392,.ins 6 n 328] 1 (pyH g nb N pl np K m f (n+1) (snP n P a) a) (.tup []) =
    some (zD [(NT 0 1),(((↑i:Int)==(↑m:Int))=true),(AN 2),(NL np np),zE 273 [(zf22 N nb g np pl K),.p (.seq true 2 np (bRw a))] [] (.p (.bool true)),(true=true),(NL 0 0),(NL ((0+np)*16) 140737488355328),(NL (0+np) 9223372036854775807),(NL 1 1),(NL n n),(NL ((n+1)*24) 140737488355328),(NL (n+1) 9223372036854775807),((true=true)→ (AN 1)),(AN 1),(AN m),(AP m (fun i_1=>[.int .i64 (f i_1)])),(AN 4),(AI N),(AN nb),(AP nb (bRw g)),(AN np),(AP np (bRw pl)),(AN K.1),(AP K.1 (iRw K)),(AN 0),(AN ((n+1))),(AA np (fun i_1=>[.p (.int .i64 ((a i_1).1)),.p (.int .i64 ((a i_1).2.1))])),(NL (n+1) (n+1)),(CV [(3,⟨true,1,1,(fun i_2=>[.ar 1 392 0 (n+1)])⟩),(392,⟨false,1,(n+1),(fun i_2=>(if (i_2<n) then [.ar 2 ⟨6,some i_2⟩ 0 np] else [.ar 2 328 0 (0+np)]))⟩),(360,⟨false,1,1,(fun i_2=>[.ar 2 328 0 (0+np)])⟩),(328,⟨false,2,(0+np),(fun i_2=>[.p (.int .i64 ((a i_2).1)),.p (.int .i64 ((a i_2).2.1))])⟩),(0,⟨true,1,1,(fun i_2=>[.p (.seq false 1 m (fun i_3=>[.int .i64 (f i_3)]))])⟩),(1,⟨true,4,1,(fun i_2=>[.p (.int .i64 N),.p (.seq false 2 nb (bRw g)),.p (.seq false 2 np (bRw pl)),.p (.seq false 1 K.1 (iRw K))])⟩),(2,⟨true,1,1,(fun i_2=>[.ar 2 5 0 np])⟩),(4,⟨true,1,1,(fun i_2=>[.clo 272 [.pt 1 0 0 0,.pt 4 1 0 0,.pt 1 2 0 0,.pt 1 3 0 0,.pt 1 4 0 0]])⟩),(5,⟨false,2,np,(fun i_2=>[.p (.int .i64 ((a i_2).1)),.p (.int .i64 ((a i_2).2.1))])⟩),(6,⟨true,0,n,(fun i_2=>[.p (.seq false 2 np (fun i_3=>[.int .i64 ((P i_2 i_3).1),.int .i64 ((P i_2 i_3).2.1)]))])⟩)] [0,1,2,3,4,5,99998,99999,392,.ins 6 n 328] 1 (n+1) (fun i_1=>if (i_1<n) then [.ar 2 ⟨6,some i_1⟩ 0 np] else [.ar 2 328 0 (0+np)]) (fun i_1=>[.ar 2 ⟨9,some i_1⟩ 0 np])),(∀ i_1:Nat,(((i_1:Nat)<(n+1))→(((i_1:Nat)≠n)→(((i_1:Nat)<n)∧All [(AN 2),((np:Nat)≤np),(∀ r:Nat,(((r:Nat)<np)→(([.int .i64 ((P i_1 r).1),.int .i64 ((P i_1 r).2.1)]:List PV)=[.int .i64 ((snP n P a i_1 r).1),.int .i64 ((snP n P a i_1 r).2.1)])))])))),(((n:Nat)<(n+1))→ All [(AN 2),((np:Nat)≤(0+np)),(∀ r:Nat,(((r:Nat)<np)→(([.int .i64 ((a r).1),.int .i64 ((a r).2.1)]:List PV)=[.int .i64 ((snP n P a n r).1),.int .i64 ((snP n P a n r).2.1)])))]),(∀ i_1:Nat,(((i_1:Nat)<1)→All [(false=false),(AE m)])),(∀ i_1:Nat,(((i_1:Nat)<1)→All [(false=false),(AE nb),(false=false),(AE np),(false=false),(AE K.1)])),(AE 1),(AE np),(AE ((n+1))),(∀ i_1:Nat,(((i_1:Nat)<(n+1))→All [(false=false),(AE np)]))] [0,1,0,0,2,3,4,5,0,0,3,6,7,8,9,10,11,12,0,13,14,9,9,15,16,17,9,9,18,19,20,21,22,23,24,14,9,9,25,21,14,9,9,25,26,14,9,9,25,25,25,25,25,2,3,27,14,28,29,30,31,32,33,34,34,34,35,36,37]):=by kernel_rfl
theorem pTb (g:Nat→T_Bar) (nb:Nat) (N:Int) (pl:PlF) (np:Nat) (K:T_IntS) (m:Nat) (f:Nat→Int) (n:Nat) (P:Nat→PlF) (a:PlF) (i:Nat) :
    zP Tryz.f272 8 [rg 4,.dec true,rm [(2,oc [] (.p (.bool false)))] 0,.dec false] [.code (bodyOf Tryz.f272)] (start Tryz.f272 (pxH g nb N pl np K m f n P a) 8 (pxA i)) [0,1,2,3,4,5,99998,99999,7,6] 1 (pyH g nb N pl np K m f n P a) (.tup []) =
    some (zD [(NT 0 1),(((↑i:Int)==(↑m:Int))=true),(AN 2),(NL np np),zE 273 [(zf22 N nb g np pl K),.p (.seq true 2 np (bRw a))] [] (.p (.bool false)),(false=false),(AN 1),(NL 1 1),(AN m),(AP m (fun i_1=>[.int .i64 (f i_1)])),(AN 4),(AI N),(AN nb),(AP nb (bRw g)),(AN np),(AP np (bRw pl)),(AN K.1),(AP K.1 (iRw K)),(AN 0),(AN n),(AA np (fun i_1=>[.p (.int .i64 ((a i_1).1)),.p (.int .i64 ((a i_1).2.1))])),(NL n n),(AA n (fun i_1=>[.ar 2 ⟨9,some i_1⟩ 0 np])),(∀ i_1:Nat,(((i_1:Nat)<n)→All [(AN 2),((np:Nat)≤np),(AP np (fun r=>[.int .i64 ((P i_1 r).1),.int .i64 ((P i_1 r).2.1)]))])),(∀ i_1:Nat,(((i_1:Nat)<1)→All [(false=false),(AE m)])),(∀ i_1:Nat,(((i_1:Nat)<1)→All [(false=false),(AE nb),(false=false),(AE np),(false=false),(AE K.1)])),(AE 1),(AE np),(AE n),(∀ i_1:Nat,(((i_1:Nat)<n)→All [(false=false),(AE np)]))] [0,1,0,0,2,3,4,5,6,7,7,8,9,10,7,7,11,12,13,14,15,16,17,6,7,7,18,14,6,7,7,18,19,6,7,7,18,18,18,18,18,2,3,20,6,21,22,21,23,24,25,26,26,26,27,28,29]):=by kernel_rfl
theorem pTz (g:Nat→T_Bar) (nb:Nat) (N:Int) (pl:PlF) (np:Nat) (K:T_IntS) (m:Nat) (f:Nat→Int) (n:Nat) (P:Nat→PlF) (a:PlF) (i:Nat) :
    zM 8 [rg 4,.dec false,rg 1,.head] [.code (bodyOf Tryz.f272)] (start Tryz.f272 (pxH g nb N pl np K m f n P a) 8 (pxA i)) [0,1,2,3,4,5,99998,99999,7,6] 1 (pxS g nb N pl np K m f n P a i 0) =
    some (zf95,zD [(NT 0 1),(((↑i:Int)==(↑m:Int))=false),(AI ((↑i:Int))),(AN 0),((0:Int)=(↑0:Int)),(AN 1),(NL 1 1),(AN m),(AP m (fun i_1=>[.int .i64 (f i_1)])),(AN 4),(AI N),(AN nb),(AP nb (bRw g)),(AN np),(AP np (bRw pl)),(AN K.1),(AP K.1 (iRw K)),(AN n),(AN 2),(NL np np),(AA np (fun i_1=>[.p (.int .i64 ((a i_1).1)),.p (.int .i64 ((a i_1).2.1))])),(NL n n),(AA n (fun i_1=>[.ar 2 ⟨9,some i_1⟩ 0 np])),(∀ i_1:Nat,(((i_1:Nat)<n)→All [(AN 2),((np:Nat)≤np),(AP np (fun r=>[.int .i64 ((P i_1 r).1),.int .i64 ((P i_1 r).2.1)]))]))] [0,1,2,3,3,3,3,3,4,5,6,6,7,8,9,6,6,10,11,12,13,14,15,16,5,6,6,3,13,5,6,6,3,17,5,6,6,3,3,3,3,3,18,19,20,5,21,22,21,23]):=by kernel_rfl
theorem pTo (g:Nat→T_Bar) (nb:Nat) (N:Int) (pl:PlF) (np:Nat) (K:T_IntS) (m:Nat) (f:Nat→Int) (n:Nat) (P:Nat→PlF) (a:PlF) (i y:Nat) :
    zM 8 [rg 1,.dec true,rg 2,rg 1,.head] zf95 (pxS g nb N pl np K m f n P a i y) [0,1,2,3,4,5,99998,99999,8,9] 1 (pxT g nb N pl np K m f n P a i y 0) =
    some (zf21,zD [((decide ((↑y:Int)<5))=true),(AI ((↑i:Int))),(AN 0),(AI ((↑y:Int))),((0:Int)=(↑0:Int)),(AN 1),(NL 1 1),(AN m),(AP m (fun i_1=>[.int .i64 (f i_1)])),(AN 4),(AI N),(AN nb),(AP nb (bRw g)),(AN np),(AP np (bRw pl)),(AN K.1),(AP K.1 (iRw K)),(AN n),(AN 2),(NL np np),(AA np (fun i_1=>[.p (.int .i64 ((a i_1).1)),.p (.int .i64 ((a i_1).2.1))])),(NL n n),(AA n (fun i_1=>[.ar 2 ⟨9,some i_1⟩ 0 np])),(∀ i_1:Nat,(((i_1:Nat)<n)→All [(AN 2),((np:Nat)≤np),(AP np (fun r=>[.int .i64 ((P i_1 r).1),.int .i64 ((P i_1 r).2.1)]))]))] [0,1,2,2,2,2,2,3,3,4,5,6,6,7,8,9,6,6,10,11,12,13,14,15,16,5,6,6,2,13,5,6,6,2,17,5,6,6,2,2,2,2,2,18,19,20,5,21,22,21,23]):=by kernel_rfl
theorem pTi (g:Nat→T_Bar) (nb:Nat) (N:Int) (pl:PlF) (np:Nat) (K:T_IntS) (m:Nat) (f:Nat→Int) (n:Nat) (P:Nat→PlF) (a:PlF) (i y x:Nat) :
    zM 8 [rg 1,.dec true,rg 2,rg 10,.head] zf21 (pxT g nb N pl np K m f n P a i y x) [0,1,2,3,4,5,99998,99999,8,9] 1 (pxT g nb N pl np K m f n P (upP a (f i).toNat x y) i y x) =
    some (zf15,zD [((decide ((↑x:Int)<5))=true),(NT 0 1),(IL 0 (↑i:Int)),(IT (↑i:Int) (↑m:Int)),(IL 0 (f i)),(IT (f i) (↑np:Int)),(NT ((f i).toNat) np),((false=true)→ ((np:Nat)=1)),(AI ((↑i:Int))),(AN 0),(AI ((↑y:Int))),(AI ((↑x:Int))),(AN 1),(NL 1 1),(AN m),(AP m (fun i_1=>[.int .i64 (f i_1)])),(AN 4),(AI N),(AN nb),(AP nb (bRw g)),(AN np),(AP np (bRw pl)),(AN K.1),(AP K.1 (iRw K)),(AN n),(AN 2),(NL np np),(CV [(5,⟨false,2,np,(fun i_2=>(if (i_2=(f i).toNat) then [.p (.int .i64 (↑x:Int)),.p (.int .i64 (↑y:Int))] else [.p (.int .i64 ((a i_2).1)),.p (.int .i64 ((a i_2).2.1))]))⟩),(0,⟨true,1,1,(fun i_2=>[.p (.seq false 1 m (fun i_3=>[.int .i64 (f i_3)]))])⟩),(1,⟨true,4,1,(fun i_2=>[.p (.int .i64 N),.p (.seq false 2 nb (bRw g)),.p (.seq false 2 np (bRw pl)),.p (.seq false 1 K.1 (iRw K))])⟩),(2,⟨true,1,1,(fun i_2=>[.ar 2 5 0 np])⟩),(3,⟨true,1,1,(fun i_2=>[.ar 1 8 0 n])⟩),(4,⟨true,1,1,(fun i_2=>[.clo 272 [.pt 1 0 0 0,.pt 4 1 0 0,.pt 1 2 0 0,.pt 1 3 0 0,.pt 1 4 0 0]])⟩),(8,⟨false,1,n,(fun i_2=>[.ar 2 ⟨9,some i_2⟩ 0 np])⟩),(9,⟨true,0,n,(fun i_2=>[.p (.seq false 2 np (fun i_3=>[.int .i64 ((P i_2 i_3).1),.int .i64 ((P i_2 i_3).2.1)]))])⟩)] [0,1,2,3,4,5,99998,99999,8,9] 1 np (fun i_1=>if (i_1=(f i).toNat) then [.p (.int .i64 (↑x:Int)),.p (.int .i64 (↑y:Int))] else [.p (.int .i64 ((a i_1).1)),.p (.int .i64 ((a i_1).2.1))]) (fun i_1=>[.p (.int .i64 ((upP a (f i).toNat x y i_1).1)),.p (.int .i64 ((upP a (f i).toNat x y i_1).2.1))])),(NL n n),(AA n (fun i_1=>[.ar 2 ⟨9,some i_1⟩ 0 np])),(∀ i_1:Nat,(((i_1:Nat)<n)→All [(AN 2),((np:Nat)≤np),(AP np (fun r=>[.int .i64 ((P i_1 r).1),.int .i64 ((P i_1 r).2.1)]))]))] [0,1,1,2,3,4,5,6,7,8,9,9,9,9,9,10,10,11,12,13,13,14,15,16,13,13,17,18,19,20,21,22,23,12,13,13,9,20,12,13,13,9,24,12,13,13,9,9,9,9,9,25,26,27,12,28,29,28,30]):=by kernel_rfl
theorem pTk (g:Nat→T_Bar) (nb:Nat) (N:Int) (pl:PlF) (np:Nat) (K:T_IntS) (m:Nat) (f:Nat→Int) (n:Nat) (P:Nat→PlF) (a:PlF) (i y x q:Nat) (Q:Nat→PlF) (b:PlF) :
    zM 8 [rm [(3,⟨true,(some ⟨[0,1,2,3,4,5,9,8],[1000],[],1,(pyH g nb N pl np K m f q Q b),.tup []⟩),none⟩)] 0,rg 2,.head] zf15 (pxT g nb N pl np K m f n P a i y x) [0,1,2,3,4,5,99998,99999,106,107] 1 (pxT g nb N pl np K m f q Q b i y (x+1)) =
    some (zf21,zD [(NT 0 1),(ZLo ((↑i:Int)+1)),(ZHi ((↑i:Int)+1)),(AE 1),(AE np),(AE n),Con Tryz.prog 272 8 [(0,⟨true,1,1,(fun i_1=>[.p (.seq false 1 m (fun i_2=>[.int .i64 (f i_2)]))])⟩),(1,⟨true,4,1,(fun i_1=>[.p (.int .i64 N),.p (.seq false 2 nb (bRw g)),.p (.seq false 2 np (bRw pl)),.p (.seq false 1 K.1 (iRw K))])⟩),(2,⟨true,1,1,(fun i_1=>[.ar 2 5 0 np])⟩),(3,⟨true,1,1,(fun i_1=>[.ar 1 7 0 n])⟩),(4,⟨true,1,1,(fun i_1=>[.clo 272 [.pt 1 0 0 0,.pt 4 1 0 0,.pt 1 2 0 0,.pt 1 3 0 0,.pt 1 4 0 0]])⟩),(5,⟨false,2,np,(fun i_1=>[.p (.int .i64 ((a i_1).1)),.p (.int .i64 ((a i_1).2.1))])⟩),(6,⟨true,0,n,(fun i_1=>[.p (.seq false 2 np (fun i_2=>[.int .i64 ((P i_1 i_2).1),.int .i64 ((P i_1 i_2).2.1)]))])⟩),(7,⟨false,1,n,(fun i_1=>[.ar 2 ⟨6,some i_1⟩ 0 np])⟩)] [.p (.int .i64 ((↑i:Int)+1)),.pt 1 0 0 0,.pt 4 1 0 0,.pt 1 2 0 0,.pt 1 3 0 0,.pt 1 4 0 0] [(0,⟨true,1,1,(fun i_1=>[.p (.seq false 1 m (fun i_2=>[.int .i64 (f i_2)]))])⟩),(1,⟨true,4,1,(fun i_1=>[.p (.int .i64 N),.p (.seq false 2 nb (bRw g)),.p (.seq false 2 np (bRw pl)),.p (.seq false 1 K.1 (iRw K))])⟩),(2,⟨true,1,1,(fun i_1=>[.ar 2 5 0 np])⟩),(3,⟨true,1,1,(fun i_1=>[.ar 1 8 0 q])⟩),(4,⟨true,1,1,(fun i_1=>[.clo 272 [.pt 1 0 0 0,.pt 4 1 0 0,.pt 1 2 0 0,.pt 1 3 0 0,.pt 1 4 0 0]])⟩),(5,⟨false,2,np,(fun i_1=>[.p (.int .i64 ((b i_1).1)),.p (.int .i64 ((b i_1).2.1))])⟩),(8,⟨false,1,q,(fun i_1=>[.ar 2 ⟨9,some i_1⟩ 0 np])⟩),(9,⟨true,0,q,(fun i_1=>[.p (.seq false 2 np (fun i_2=>[.int .i64 ((Q i_1 i_2).1),.int .i64 ((Q i_1 i_2).2.1)]))])⟩)] (.tup []),(ZLo ((↑x:Int)+1)),(ZHi ((↑x:Int)+1)),(AI ((↑i:Int))),(AN 0),(AI ((↑y:Int))),((((↑x:Int)+1):Int)=(↑(x+1):Int)),(AN 1),(NL 1 1),(AN m),(AP m (fun i_1=>[.int .i64 (f i_1)])),(AN 4),(AI N),(AN nb),(AP nb (bRw g)),(AN np),(AP np (bRw pl)),(AN K.1),(AP K.1 (iRw K)),(AN q),(AN 2),(NL np np),(AA np (fun i_1=>[.p (.int .i64 ((b i_1).1)),.p (.int .i64 ((b i_1).2.1))])),(NL q q),(AA q (fun i_1=>[.ar 2 ⟨9,some i_1⟩ 0 np])),(∀ i_1:Nat,(((i_1:Nat)<q)→All [(AN 2),((np:Nat)≤np),(AP np (fun r=>[.int .i64 ((Q i_1 r).1),.int .i64 ((Q i_1 r).2.1)]))]))] [0,1,2,3,3,3,3,3,4,5,6,7,8,9,10,10,10,10,10,11,11,12,13,14,14,15,16,17,14,14,18,19,20,21,22,23,24,13,14,14,10,21,13,14,14,10,25,13,14,14,10,10,10,10,10,26,27,28,13,29,30,29,31]):=by kernel_rfl
theorem pTj (g:Nat→T_Bar) (nb:Nat) (N:Int) (pl:PlF) (np:Nat) (K:T_IntS) (m:Nat) (f:Nat→Int) (n:Nat) (P:Nat→PlF) (a:PlF) (i y x:Nat) :
    zM 8 [rg 1,.dec false,rg 2,.head] zf21 (pxT g nb N pl np K m f n P a i y x) [0,1,2,3,4,5,99998,99999,8,9] 1 (pxS g nb N pl np K m f n P a i (y+1)) =
    some (zf95,zD [((decide ((↑x:Int)<5))=false),(ZLo ((↑y:Int)+1)),(ZHi ((↑y:Int)+1)),(AI ((↑i:Int))),(AN 0),((((↑y:Int)+1):Int)=(↑(y+1):Int)),(AN 1),(NL 1 1),(AN m),(AP m (fun i_1=>[.int .i64 (f i_1)])),(AN 4),(AI N),(AN nb),(AP nb (bRw g)),(AN np),(AP np (bRw pl)),(AN K.1),(AP K.1 (iRw K)),(AN n),(AN 2),(NL np np),(AA np (fun i_1=>[.p (.int .i64 ((a i_1).1)),.p (.int .i64 ((a i_1).2.1))])),(NL n n),(AA n (fun i_1=>[.ar 2 ⟨9,some i_1⟩ 0 np])),(∀ i_1:Nat,(((i_1:Nat)<n)→All [(AN 2),((np:Nat)≤np),(AP np (fun r=>[.int .i64 ((P i_1 r).1),.int .i64 ((P i_1 r).2.1)]))]))] [0,1,2,3,4,4,4,4,4,5,6,7,7,8,9,10,7,7,11,12,13,14,15,16,17,6,7,7,4,14,6,7,7,4,18,6,7,7,4,4,4,4,4,19,20,21,6,22,23,22,24]):=by kernel_rfl
theorem pTe (g:Nat→T_Bar) (nb:Nat) (N:Int) (pl:PlF) (np:Nat) (K:T_IntS) (m:Nat) (f:Nat→Int) (n:Nat) (P:Nat→PlF) (a:PlF) (i y:Nat) :
    zP Tryz.f272 8 [rg 1,.dec false] zf95 (pxS g nb N pl np K m f n P a i y) [0,1,2,3,4,5,99998,99999,8,9] 1 (pyH g nb N pl np K m f n P a) (.tup []) =
    some (zD [((decide ((↑y:Int)<5))=false),(AN 1),(NL 1 1),(AN m),(AP m (fun i_1=>[.int .i64 (f i_1)])),(AN 4),(AI N),(AN nb),(AP nb (bRw g)),(AN np),(AP np (bRw pl)),(AN K.1),(AP K.1 (iRw K)),(AN 0),(AN n),(AN 2),(NL np np),(AA np (fun i_1=>[.p (.int .i64 ((a i_1).1)),.p (.int .i64 ((a i_1).2.1))])),(NL n n),(AA n (fun i_1=>[.ar 2 ⟨9,some i_1⟩ 0 np])),(∀ i_1:Nat,(((i_1:Nat)<n)→All [(AN 2),((np:Nat)≤np),(AP np (fun r=>[.int .i64 ((P i_1 r).1),.int .i64 ((P i_1 r).2.1)]))])),(∀ i_1:Nat,(((i_1:Nat)<1)→All [(false=false),(AE m)])),(∀ i_1:Nat,(((i_1:Nat)<1)→All [(false=false),(AE nb),(false=false),(AE np),(false=false),(AE K.1)])),(AE 1),(AE np),(AE n),(∀ i_1:Nat,(((i_1:Nat)<n)→All [(false=false),(AE np)]))] [0,1,2,2,3,4,5,2,2,6,7,8,9,10,11,12,1,2,2,13,9,1,2,2,13,14,1,2,2,13,13,13,13,13,15,16,17,1,18,19,18,20,21,22,23,23,23,24,25,26]):=by kernel_rfl
theorem pIy (g:Nat→T_Bar) (nb:Nat) (N:Int) (pl:PlF) (np:Nat) (K:T_IntS) :
    zS Tryz.f159 [rg 3,rg 3,rm [(1,oc [] (.p (.bool false)))] 1,.dec true,rg 3] [tsA g nb N pl np K] [] [] (.tup [psL false 0 (fun _ _=>(0,0,())) np,.p (.bool false)]) =
    some [(NT 0 1),((true=true)→ (AN 1)),(NT 0 1),zE 270 [(zf25 N nb g np pl K)] [] (.p (.bool false)),((!false)=true),(NT 0 1),(AN 1),(NL 0 0),(AN 0),(∀ i:Nat,(((i:Nat)<0)→(([.nil]:List PV)=[.seq false 2 np (fun i_1=>[.int .i64 0,.int .i64 0])]))),(false=false),(false=false),(∀ i:Nat,(((i:Nat)<0)→All [(false=false),(AE np)]))]:=by kernel_rfl
theorem pIz (g:Nat→T_Bar) (nb:Nat) (N:Int) (pl:PlF) (np:Nat) (K:T_IntS) (m:Nat) (f:Nat→Int) :
    zT Tryz.f159 [rg 3,rg 3,rm [(1,oc [] (.p (.bool true)))] 1,.dec false,rm [(1,oc [(0,iOb m f)] (.ar 1 0 0 m))] 2,rg 7,rg 1,rg 2,.head] [tsA g nb N pl np K] [352,0,576,128,640,544,96] (pmS g nb N pl np K m f) =
    some (zf93,zD [(NT 0 1),((true=true)→ (AN 1)),zE 270 [(zf25 N nb g np pl K)] [] (.p (.bool true)),((!true)=false),zE 271 [(zf25 N nb g np pl K)] [(0,⟨false,1,m,(fun i=>[.p (.int .i64 (f i))])⟩)] (.ar 1 0 0 m),(NL 0 0),(NL ((0+np)*16) 140737488355328),(NL (0+np) 9223372036854775807),(AI N),(AN nb),(AP nb (bRw g)),(AN np),(AP np (bRw pl)),(AN K.1),(AP K.1 (iRw K)),(AN 0),((((List.map (fun v=>AV.p (absV v)) [Value.slice none 0 0]).length):Nat)=1),(NL 1 1),(AN 1),(NL m m),(AN m),(AP m (fun i=>[.int .i64 (f i)])),((([AV.p (PV.int IntKind.i64 N),brL g nb,pcL pl np,inL K].length):Nat)=4),(((0+np):Nat)=np),((((List.map (fun v=>AV.p (absV v)) [Value.nilFunc]).length):Nat)=1),(AN 2),(NL np (0+np)),(AA np (fun i=>[.p (.int .i64 ((pl i).1)),.p (.int .i64 ((pl i).2.1))])),(∀ i:Nat,(((i:Nat)<0)→(All []∧(([.p (.nil)]:List AV)=[.ar 2 ⟨7,some i⟩ 0 np]))))] [0,1,0,2,3,0,4,0,1,0,5,6,7,0,1,0,1,8,9,10,11,12,13,14,15,15,15,15,15,16,17,17,18,19,20,21,22,17,17,8,9,10,11,12,13,14,16,17,17,15,23,16,17,17,15,15,24,17,17,15,15,15,15,15,25,26,27,18,5,28,15]):=by kernel_rfl
theorem pIe (g:Nat→T_Bar) (nb:Nat) (N:Int) (pl:PlF) (np:Nat) (K:T_IntS) (m:Nat) (f:Nat→Int) (q:Nat) (Q:Nat→PlF) (b:PlF) :
    zP Tryz.f159 0 [rm [(1,⟨true,(some ⟨[0,1,2,3,4,5,7,6],[0],[],1,(pyH g nb N pl np K m f q Q b),.tup []⟩),none⟩)] 0,rg 3] zf93 (pmS g nb N pl np K m f) [] 2 [] (.tup [psL false q Q np,.p (.bool true)]) =
    some [(NT 0 1),(AE 1),(AE 1),(AE 1),(AE 1),(AE 1),(AE np),(AE 0),Con Tryz.prog 272 8 [(0,⟨true,1,1,(fun i=>[.p (.seq false 1 m (fun i_1=>[.int .i64 (f i_1)]))])⟩),(1,⟨true,4,1,(fun i=>[.p (.int .i64 N),.p (.seq false 2 nb (bRw g)),.p (.seq false 2 np (bRw pl)),.p (.seq false 1 K.1 (iRw K))])⟩),(2,⟨true,1,1,(fun i=>[.ar 2 5 0 np])⟩),(3,⟨true,1,1,(fun i=>[.ar 1 7 0 0])⟩),(4,⟨true,1,1,(fun i=>[.clo 272 [.pt 1 0 0 0,.pt 4 1 0 0,.pt 1 2 0 0,.pt 1 3 0 0,.pt 1 4 0 0]])⟩),(5,⟨false,2,np,(fun i=>[.p (.int .i64 ((pl i).1)),.p (.int .i64 ((pl i).2.1))])⟩),(6,⟨true,0,0,(fun i=>[.p (.seq false 2 np (fun i_1=>[.int .i64 0,.int .i64 0]))])⟩),(7,⟨false,1,0,(fun i=>[.ar 2 ⟨6,some i⟩ 0 np])⟩)] [.p (.int .i64 0),.pt 1 0 0 0,.pt 4 1 0 0,.pt 1 2 0 0,.pt 1 3 0 0,.pt 1 4 0 0] [(0,⟨true,1,1,(fun i=>[.p (.seq false 1 m (fun i_1=>[.int .i64 (f i_1)]))])⟩),(1,⟨true,4,1,(fun i=>[.p (.int .i64 N),.p (.seq false 2 nb (bRw g)),.p (.seq false 2 np (bRw pl)),.p (.seq false 1 K.1 (iRw K))])⟩),(2,⟨true,1,1,(fun i=>[.ar 2 5 0 np])⟩),(3,⟨true,1,1,(fun i=>[.ar 1 8 0 q])⟩),(4,⟨true,1,1,(fun i=>[.clo 272 [.pt 1 0 0 0,.pt 4 1 0 0,.pt 1 2 0 0,.pt 1 3 0 0,.pt 1 4 0 0]])⟩),(5,⟨false,2,np,(fun i=>[.p (.int .i64 ((b i).1)),.p (.int .i64 ((b i).2.1))])⟩),(8,⟨false,1,q,(fun i=>[.ar 2 ⟨9,some i⟩ 0 np])⟩),(9,⟨true,0,q,(fun i=>[.p (.seq false 2 np (fun i_1=>[.int .i64 ((Q i i_1).1),.int .i64 ((Q i i_1).2.1)]))])⟩)] (.tup []),(NT 0 1),(AN 1),(NL q q),(∀ i:Nat,(((i:Nat)<q)→All [((i:Nat)<q),(AN 2),((np:Nat)≤np)])),(AN q),(AP q (fun i=>[.seq false 2 np (fun i_1=>[.int .i64 ((Q i i_1).1),.int .i64 ((Q i i_1).2.1)])])),(true=true),(false=false),(∀ i:Nat,(((i:Nat)<q)→All [(false=false),(AE np)]))]:=by kernel_rfl
theorem pwz (b n:Int) :
    zT Tryz.f266 [rg 1,rg 1,rg 1,.head] [.p (.int .i64 b),.p (.int .i64 n)] [] (pwS b n 1 0) =
    some (zf73,[(AI b),(AI n),(AI 1),((0:Int)=(↑0:Int))]):=by kernel_rfl
theorem pwt (b n:Int) (r:Int) (k:Nat) :
    zM 0 [rg 3,.dec true,rg 4,rg 3,.head] zf73 (pwS b n r k) [] 1 (pwS b n (r*b) (k+1)) =
    some (zf73,[((decide ((↑k:Int)<n))=true),(ZLo (r*b)),(ZHi (r*b)),(ZLo ((↑k:Int)+1)),(ZHi ((↑k:Int)+1)),(AI b),(AI n),(AI ((r*b))),((((↑k:Int)+1):Int)=(↑(k+1):Int))]):=by kernel_rfl
theorem pwe (b n:Int) (r:Int) (k:Nat) :
    zP Tryz.f266 0 [rg 3,.dec false,rg 2] zf73 (pwS b n r k) [] 1 [] (.p (.int .i64 r)) =
    some [((decide ((↑k:Int)<n))=false),(AI r)]:=by kernel_rfl
theorem pSy (g:Nat→T_Bar) (nb:Nat) (N:Int) (pl:PlF) (np:Nat) (K:T_IntS) (m:Nat) (f:Nat→Int) :
    zS Tryz.f155 [rg 3,rg 2,rm [(1,oc [(0,iOb m f)] (.ar 1 0 0 m))] 1,rm [(1,oc [] (.p (.bool false)))] 1,.dec true,rg 3] [tsA g nb N pl np K] [] [] (.tup [psL false 0 (fun _ _=>(0,0,())) np,.p (.bool false)]) =
    some [(NT 0 1),zE 264 [(zf25 N nb g np pl K)] [(0,⟨false,1,m,(fun i=>[.p (.int .i64 (f i))])⟩)] (.ar 1 0 0 m),(NT 0 1),zE 265 [(zf25 N nb g np pl K)] [] (.p (.bool false)),((!false)=true),(AN 1),(NL 0 0),(AN 0),(∀ i:Nat,(((i:Nat)<0)→(([.nil]:List PV)=[.seq false 2 np (fun i_1=>[.int .i64 0,.int .i64 0])]))),(false=false),(false=false),(∀ i:Nat,(((i:Nat)<0)→All [(false=false),(AE np)]))]:=by kernel_rfl
theorem pSz (g:Nat→T_Bar) (nb:Nat) (N:Int) (pl:PlF) (np:Nat) (K:T_IntS) (m:Nat) (f:Nat→Int) :
    zT Tryz.f155 [rg 3,rg 2,rm [(1,oc [(0,iOb m f)] (.ar 1 0 0 m))] 1,rm [(1,oc [] (.p (.bool true)))] 1,.dec false,rg 1,.head] [tsA g nb N pl np K] [0,96] (spS g nb N pl np K m f 0 (fun _ _=>(0,0,())) 0) =
    some (zf43,zD [(NT 0 1),zE 264 [(zf25 N nb g np pl K)] [(0,⟨false,1,m,(fun i=>[.p (.int .i64 (f i))])⟩)] (.ar 1 0 0 m),zE 265 [(zf25 N nb g np pl K)] [] (.p (.bool true)),((!true)=false),(AI N),(AN nb),(AP nb (bRw g)),(AN np),(AP np (bRw pl)),(AN K.1),(AP K.1 (iRw K)),(AN 0),(AN 1),(NL m m),(AN m),(AP m (fun i=>[.int .i64 (f i)])),((0:Int)=(↑0:Int)),((([AV.p (PV.int IntKind.i64 N),brL g nb,pcL pl np,inL K].length):Nat)=4),(NL 1 1),(NL 0 0),(∀ i:Nat,(((i:Nat)<0)→(All []∧(([.p (.nil)]:List AV)=[.p (.seq false 2 np (fun i_1=>[.int .i64 0,.int .i64 0]))]))))] [0,1,0,2,3,4,5,6,7,8,9,10,11,11,11,12,13,14,15,16,17,18,18,4,5,6,7,8,9,10,12,19,20]):=by kernel_rfl
theorem pSa (g:Nat→T_Bar) (nb:Nat) (N:Int) (pl:PlF) (np:Nat) (K:T_IntS) (m:Nat) (f:Nat→Int) (n:Nat) (P:Nat→PlF) (k w:Nat) :
    zM 0 [rm [(3,oc [] (.p (.int .i64 w)))] 1,.dec true,rg 6,rg 2,rg 4,.head] zf43 (spS g nb N pl np K m f n P k) [0,1,290] 1 (spT g nb N pl np K m f n P k pl k ((m:Int) - 1)) =
    some (zf11,zD [zE 266 [.p (.int .i64 25),.p (.int .i64 (↑m:Int))] [] (.p (.int .i64 (↑w:Int))),((decide ((↑k:Int)<(↑w:Int)))=true),(NT 0 1),(NL 0 0),(NL ((0+np)*16) 140737488355328),(NL (0+np) 9223372036854775807),(ZLo ((↑m:Int) - 1)),(ZHi ((↑m:Int) - 1)),(AI N),(AN nb),(AP nb (bRw g)),(AN np),(AP np (bRw pl)),(AN K.1),(AP K.1 (iRw K)),(AN 0),(AN n),(AN m),(AP m (fun i=>[.int .i64 (f i)])),(AI ((↑k:Int))),(((0+np):Nat)=np),(AI (((↑m:Int) - 1))),(AN 4),(NL 1 1),(AN 1),(NL n n),(AA n (fun i=>[.p (.seq false 2 np (fun i_1=>[.int .i64 ((P i i_1).1),.int .i64 ((P i i_1).2.1)]))])),(AN 2),(NL np (0+np)),(AA np (fun i=>[.p (.int .i64 ((pl i).1)),.p (.int .i64 ((pl i).2.1))]))] [0,1,2,3,4,5,6,7,8,9,10,11,12,13,14,15,15,16,17,18,19,15,20,19,21,22,23,23,8,9,10,11,12,13,14,24,25,26,27,28,29]):=by kernel_rfl
theorem pSb (g:Nat→T_Bar) (nb:Nat) (N:Int) (pl:PlF) (np:Nat) (K:T_IntS) (m:Nat) (f:Nat→Int) (n:Nat) (P:Nat→PlF) (k:Nat) (a:PlF) (q i:Nat) :
    zM 0 [rg 2,.dec true,rg 13,rg 3,rg 3,.head] zf11 (spT g nb N pl np K m f n P k a q i) [0,1,2] 1 (spT g nb N pl np K m f n P k (upP a (f i).toNat (q % 5) (q / 5 % 5)) (q / 25) ((i:Int) - 1)) =
    some (zf11,zD [((decide ((↑i:Int)≥0))=true),(IL 0 (↑i:Int)),(IT (↑i:Int) (↑m:Int)),(IL 0 (↑q:Int)),(IT 0 5),(ZHi ((↑q:Int) / 5)),(IL 0 ((↑q:Int) / 5)),(IL 0 (f i)),(IT (f i) (↑np:Int)),(NT ((f i).toNat) np),((false=true)→ ((np:Nat)=1)),(IT 0 25),(ZHi ((↑q:Int) / 25)),(ZLo ((↑i:Int) - 1)),(ZHi ((↑i:Int) - 1)),(AI N),(AN nb),(AP nb (bRw g)),(AN np),(AP np (bRw pl)),(AN K.1),(AP K.1 (iRw K)),(AN 0),(AN n),(AN m),(AP m (fun i_1=>[.int .i64 (f i_1)])),(AI ((↑k:Int))),((((↑q:Int) / 25):Int)=(↑(q / 25):Int)),(AI (((↑i:Int) - 1))),(AN 4),(NL 1 1),(AN 1),(NL n n),(AA n (fun i_1=>[.p (.seq false 2 np (fun i_2=>[.int .i64 ((P i_1 i_2).1),.int .i64 ((P i_1 i_2).2.1)]))])),(AN 2),(NL np np),(CV [(2,⟨false,2,np,(fun i_2=>(if (i_2=(f i).toNat) then [.p (.int .i64 ((↑q:Int) % 5)),.p (.int .i64 ((↑q:Int) / 5 % 5))] else [.p (.int .i64 ((a i_2).1)),.p (.int .i64 ((a i_2).2.1))]))⟩),(0,⟨true,4,1,(fun i_2=>[.p (.int .i64 N),.p (.seq true 2 nb (bRw g)),.p (.seq true 2 np (bRw pl)),.p (.seq true 1 K.1 (iRw K))])⟩),(1,⟨false,1,n,(fun i_2=>[.p (.seq false 2 np (fun i_3=>[.int .i64 ((P i_2 i_3).1),.int .i64 ((P i_2 i_3).2.1)]))])⟩)] [0,1,2] 1 np (fun i_1=>if (i_1=(f i).toNat) then [.p (.int .i64 ((↑q:Int) % 5)),.p (.int .i64 ((↑q:Int) / 5 % 5))] else [.p (.int .i64 ((a i_1).1)),.p (.int .i64 ((a i_1).2.1))]) (fun i_1=>[.p (.int .i64 ((upP a (f i).toNat (q % 5) (q / 5 % 5) i_1).1)),.p (.int .i64 ((upP a (f i).toNat (q % 5) (q / 5 % 5) i_1).2.1))]))] [0,1,2,3,4,3,4,5,6,4,7,8,9,10,3,11,12,13,14,15,16,17,18,19,20,21,22,22,23,24,25,26,22,18,27,28,29,30,30,15,16,17,18,19,20,21,31,32,33,34,35,36]):=by kernel_rfl
theorem pSc (g:Nat→T_Bar) (nb:Nat) (N:Int) (pl:PlF) (np:Nat) (K:T_IntS) (m:Nat) (f:Nat→Int) (n:Nat) (P:Nat→PlF) (k:Nat) (a:PlF) (q:Nat) :
    zM 0 [rg 2,.dec false,rm [(2,oc [] (.p (.bool true)))] 0,.dec true,rg 5,rg 3,.head] zf11 (spT g nb N pl np K m f n P k a q (-1)) [0,259] 1 (spS g nb N pl np K m f (n+1) (snP n P a) (k+1)) =
    some (zf43,[((decide (-1≥0))=false),(NT 0 1),(AN 2),(NL np np),zE 267 [(zf25 N nb g np pl K),.p (.seq true 2 np (bRw a))] [] (.p (.bool true)),(true=true),(NL 1 1),(NL n n),(NL ((n+1)*24) 140737488355328),(NL (n+1) 9223372036854775807),(ZLo ((↑k:Int)+1)),(ZHi ((↑k:Int)+1)),(AI N),(AN nb),(AP nb (bRw g)),(AN np),(AP np (bRw pl)),(AN K.1),(AP K.1 (iRw K)),(AN 0),(AN 0),(AN ((n+1))),(AN m),(AP m (fun i=>[.int .i64 (f i)])),((((↑k:Int)+1):Int)=(↑(k+1):Int)),(AN 4),(NL 1 1),(NL 1 1),(AI N),(AN nb),(AP nb (bRw g)),(AN np),(AP np (bRw pl)),(AN K.1),(AP K.1 (iRw K)),(AN 1),(NL (n+1) (n+1)),(CV [(259,⟨false,1,(n+1),(fun i_1=>(if (i_1<n) then [.p (.seq false 2 np (fun i_2=>[.int .i64 ((P i_1 i_2).1),.int .i64 ((P i_1 i_2).2.1)]))] else [.ar 2 2 0 np]))⟩),(227,⟨false,1,1,(fun i_1=>[.ar 2 2 0 np])⟩),(0,⟨true,4,1,(fun i_1=>[.p (.int .i64 N),.p (.seq true 2 nb (bRw g)),.p (.seq true 2 np (bRw pl)),.p (.seq true 1 K.1 (iRw K))])⟩),(2,⟨false,2,np,(fun i_1=>[.p (.int .i64 ((a i_1).1)),.p (.int .i64 ((a i_1).2.1))])⟩)] [0,259] 1 (n+1) (fun i=>if (i<n) then [.p (.seq false 2 np (fun i_1=>[.int .i64 ((P i i_1).1),.int .i64 ((P i i_1).2.1)]))] else [.ar 2 2 0 np]) (fun i=>[.p (.seq false 2 np (fun i_1=>[.int .i64 ((snP n P a i i_1).1),.int .i64 ((snP n P a i i_1).2.1)]))]))]):=by kernel_rfl
theorem pSd (g:Nat→T_Bar) (nb:Nat) (N:Int) (pl:PlF) (np:Nat) (K:T_IntS) (m:Nat) (f:Nat→Int) (n:Nat) (P:Nat→PlF) (k:Nat) (a:PlF) (q:Nat) :
    zM 0 [rg 2,.dec false,rm [(2,oc [] (.p (.bool false)))] 0,.dec false,rg 3,.head] zf11 (spT g nb N pl np K m f n P k a q (-1)) [0,1] 1 (spS g nb N pl np K m f n P (k+1)) =
    some (zf43,[((decide (-1≥0))=false),(NT 0 1),(AN 2),(NL np np),zE 267 [(zf25 N nb g np pl K),.p (.seq true 2 np (bRw a))] [] (.p (.bool false)),(false=false),(ZLo ((↑k:Int)+1)),(ZHi ((↑k:Int)+1)),(AI N),(AN nb),(AP nb (bRw g)),(AN np),(AP np (bRw pl)),(AN K.1),(AP K.1 (iRw K)),(AN 0),(AN 0),(AN n),(AN m),(AP m (fun i=>[.int .i64 (f i)])),((((↑k:Int)+1):Int)=(↑(k+1):Int)),(AN 4),(NL 1 1),(NL 1 1),(AI N),(AN nb),(AP nb (bRw g)),(AN np),(AP np (bRw pl)),(AN K.1),(AP K.1 (iRw K)),(AN 1),(NL n n),(AA n (fun i=>[.p (.seq false 2 np (fun i_1=>[.int .i64 ((P i i_1).1),.int .i64 ((P i i_1).2.1)]))]))]):=by kernel_rfl
theorem pSe (g:Nat→T_Bar) (nb:Nat) (N:Int) (pl:PlF) (np:Nat) (K:T_IntS) (m:Nat) (f:Nat→Int) (n:Nat) (P:Nat→PlF) (k w:Nat) :
    zP Tryz.f155 0 [rm [(3,oc [] (.p (.int .i64 w)))] 1,.dec false,rg 3] zf43 (spS g nb N pl np K m f n P k) [] 1 [] (.tup [psL false n P np,.p (.bool true)]) =
    some [zE 266 [.p (.int .i64 25),.p (.int .i64 (↑m:Int))] [] (.p (.int .i64 (↑w:Int))),((decide ((↑k:Int)<(↑w:Int)))=false),(AN 1),(NL n n),(AN n),(AP n (fun i=>[.seq false 2 np (fun i_1=>[.int .i64 ((P i i_1).1),.int .i64 ((P i i_1).2.1)])])),(true=true),(false=false),(∀ i:Nat,(((i:Nat)<n)→All [(false=false),(AE np)]))]:=by kernel_rfl
def eqP (a b:T_Place):Bool:=a.1==b.1&&(a.2.1==b.2.1&&true)
def pqB (pl P:Nat→T_Place) (K:T_IntS) (v:Nat):Bool:=bif plP P v then !(hasI K.2 (v:Int) K.1&&!(eqP (P v) (pl v))) else false
def sqE (g:Nat→T_Bar) (pl P:Nat→T_Place) (k:Nat):Bool:=sqF pl (g k).1.toNat (g k).2.1.toNat==sqF P (g k).1.toNat (g k).2.1.toNat
def poB (g:Nat→T_Bar) (nb:Nat) (pl:Nat→T_Place) (np:Nat) (K:T_IntS) (P:Nat→T_Place):Bool:=allB (pqB pl P K) np&&allB (sqE g pl P) nb
theorem con_pose_i {g:Nat→T_Bar} {nb:Nat} {N:Int} {pl:Nat→T_Place} {np:Nat} {K:T_IntS} (hl:lkB g nb N pl np K=true) (P:Nat→T_Place) :
    zE 273 [tsA g nb N pl np K,pcL P np] [] (.p (.bool (poB g nb pl np K P))):=by
  obtain ⟨hf,hN,hnp,hk0,hk1,hk2,hgd,hin⟩:=lk_ok hl
  subst hN
  obtain ⟨f1,f2,f3,f4,hok,hb⟩:=fw_ok hf
  have hpl:InG pl np:=(fw_parts hf).2.2.2.2.1
  have cl:=con_lk_i g nb np pl np K (by omega) (by omega)
  rw [hl] at cl
  refine csZ Tryz.func273 (fun c hc=>?_)
  have l1:InG P np→allB (pqB pl P K) np=true→∀ d k,k+d=nb→allB (sqE g pl P) k=true→zR c 273 zf32 (ipB g nb np pl np K P np k) (Post c [] (.p (.bool (poB g nb pl np K P)))):=by
    intro hP h0 d
    induction d with
    | zero =>
      intro k hk h1
      have hd:decide ((k:Int)<(nb:Int))=false:=decide_eq_false (by omega)
      rw [show poB g nb pl np K P=true by unfold poB;rw [h0,show nb=k by omega,h1];rfl]
      refine pkZ Tryz.func273 hc (ipe g nb np pl np K P np k) ?_
      and_intros
      all_goals (first | exact zN | (exact hd))
    | succ d ih =>
      intro k hk h1
      have hd:decide ((k:Int)<(nb:Int))=true:=decide_eq_true (by omega)
      have hbk:=hok k (by omega)
      have c1:=con_sqa (g:=g) (nb:=nb) (N:=np) hpl (x:=(g k).1) (y:=(g k).2.1) (by omega) (by omega)
      have c2:=con_sqb hP (x:=(g k).1) (y:=(g k).2.1) (by omega) (by omega)
      cases he:sqE g pl P k with
      | true =>
        have hrec:=ih (k+1) (by omega) (by rw [allB,h1,he];rfl)
        have hx:(sqF pl (g k).1.toNat (g k).2.1.toNat != sqF P (g k).1.toNat (g k).2.1.toNat)=!(sqE g pl P k):=rfl
        rw [he] at hx
        refine pcD hc (ipd g nb np pl np K P np k (sqF pl (g k).1.toNat (g k).2.1.toNat) (sqF P (g k).1.toNat (g k).2.1.toNat)) ?_ hrec
        and_intros
        all_goals (first | exact zI | (exact hd) | (exact c1) | (exact c2) | (exact hx))
      | false =>
        rw [show poB g nb pl np K P=false by unfold poB;rw [all_no (show k<nb by omega) he,Bool.and_false]]
        have hx:(sqF pl (g k).1.toNat (g k).2.1.toNat != sqF P (g k).1.toNat (g k).2.1.toNat)=!(sqE g pl P k):=rfl
        rw [he] at hx
        refine pkD Tryz.func273 hc (ipf g nb np pl np K P np k (sqF pl (g k).1.toNat (g k).2.1.toNat) (sqF P (g k).1.toNat (g k).2.1.toNat)) ?_
        and_intros
        all_goals (first | exact zI | (exact hd) | (exact c1) | (exact c2) | (exact hx))
  have l0:∀ d k,k+d=np→allB (pqB pl P K) k=true→zR c 273 zf52 (ipA g nb np pl np K P np k) (Post c [] (.p (.bool (poB g nb pl np K P)))):=by
    intro d
    induction d with
    | zero =>
      intro k hk h1
      have hd:decide ((k:Int)<(np:Int))=false:=decide_eq_false (by omega)
      rw [show k=np by omega] at h1 hd ⊢
      have hP:InG P np:=fun v hv=>by
        have:=(all_iff _ _).1 h1 v hv
        unfold pqB plP at this
        cases hb1:inB (P v).1 0 4 with
        | false=>rw [hb1] at this;cases this
        | true =>
          cases hb2:inB (P v).2.1 0 4 with
          | false=>rw [hb1,hb2] at this;cases this
          | true=>exact ⟨inB_iff.1 hb1,inB_iff.1 hb2⟩
      refine pcD hc (ipc g nb np pl np K P np np) ?_ (l1 hP h1 nb 0 (by omega) rfl)
      and_intros
      all_goals (first | exact zI | (exact hd))
    | succ d ih =>
      intro k hk h1
      have hd:decide ((k:Int)<(np:Int))=true:=decide_eq_true (by omega)
      have c1:=con_isPlace P k
      have c2:=con_Contains K (k:Int) (by omega)
      have hx:(bif !(plP P k) then true else bif hasI K.2 (k:Int) K.1 then !(eqP (P k) (pl k)) else false)=!(pqB pl P K k):=by
        unfold pqB
        cases plP P k<;>cases hasI K.2 (k:Int) K.1<;>cases eqP (P k) (pl k)<;>rfl
      cases he:pqB pl P K k with
      | true =>
        have hrec:=ih (k+1) (by omega) (by rw [allB,h1,he];rfl)
        rw [he] at hx
        refine pcD hc (ipt g nb np pl np K P np k (plP P k) (hasI K.2 (k:Int) K.1)) ?_ hrec
        and_intros
        all_goals (first | exact zH | (exact hd) | (exact c1) | (intro _;exact c2) | (exact hx))
      | false =>
        rw [show poB g nb pl np K P=false by unfold poB;rw [all_no (show k<np by omega) he];rfl]
        rw [he] at hx
        refine pkD Tryz.func273 hc (ipx g nb np pl np K P np k (plP P k) (hasI K.2 (k:Int) K.1)) ?_
        and_intros
        all_goals (first | exact zH | (exact hd) | (exact c1) | (intro _;exact c2) | (exact hx))
  refine pcD hc (ipz g nb np pl np K P np) ?_ (l0 np 0 (by omega) rfl)
  and_intros
  all_goals (first | exact zH | (exact cl) | (simp;done))
theorem qT_all (f h:Nat→Int):∀ n,qT_IntS f h n=allB (fun i=>f i==h i) n
  | 0=>rfl
  | n+1=>by rw [qT_IntS,allB,qT_all f h n];rfl
theorem qTB_refl (g:Nat→T_Bar):∀ n,qT_BarS g g n=true
  | 0=>rfl
  | n+1=>by rw [qT_BarS,qTB_refl g n];simp [q1_BarS]
theorem allB_congr {p q:Nat→Bool}:∀ n,(∀ i,i<n→p i=q i)→allB p n=allB q n
  | 0,_=>rfl
  | n+1,h=>by rw [allB,allB,allB_congr n (fun i hi=>h i (by omega)),h n (by omega)]
theorem sq_zero {x:Int} (h:x*x=0):x=0:=by
  rcases Int.mul_eq_zero.1 h with h | h<;>exact h
theorem sqF_zero {P:Nat→T_Place} {a b:Nat} (h:sqF P a b=0):(P a).1=(P b).1∧(P a).2.1=(P b).2.1:=by
  unfold sqF at h
  have h1:0≤((P a).1 - (P b).1)*((P a).1 - (P b).1):=Had.mul_self_nn _
  have h2:0≤((P a).2.1 - (P b).2.1)*((P a).2.1 - (P b).2.1):=Had.mul_self_nn _
  have:=sq_zero (x:=(P a).1 - (P b).1) (by omega)
  have:=sq_zero (x:=(P a).2.1 - (P b).2.1) (by omega)
  omega
theorem eB_sq {g:Nat→T_Bar} {P:Nat→T_Place} {i:Nat}:eB g P i=(sqF P (g i).1.toNat (g i).2.1.toNat==0):=by
  rw [Bool.eq_iff_iff,beq_iff_eq]
  unfold eB
  simp only [Bool.and_eq_true,beq_iff_eq,and_true]
  constructor
  · rintro ⟨h1,h2⟩
    unfold sqF
    rw [h1,h2];simp
  · exact sqF_zero
def gdB5 (pl P:Nat→T_Place) (K:T_IntS) (i:Nat):Bool:=eqP (P (K.2 i).toNat) (pl (K.2 i).toNat)
theorem hasI_ex (f:Nat→Int) (x:Int):∀ n,hasI f x n=true↔∃ i,i<n∧f i=x
  | 0=>by simp [hasI]
  | n+1=>by
    simp only [hasI,Bool.or_eq_true,beq_iff_eq,hasI_ex f x n]
    constructor
    · rintro (⟨i,h1,h2⟩ | h)
      · exact ⟨i,by omega,h2⟩
      · exact ⟨n,by omega,h⟩
    · rintro ⟨i,h1,h2⟩
      by_cases e:i=n
      · right;rw [← e];exact h2
      · left;exact ⟨i,by omega,h2⟩
theorem po_eq {g:Nat→T_Bar} {nb np:Nat} {pl:Nat→T_Place} {K:T_IntS} (hl:lkB g nb np pl np K=true) (P:Nat→T_Place) :
    poB g nb pl np K P=(allB (gdB5 pl P K) K.1&&(fwB g nb np P np&&allB (sqE g pl P) nb)):=by
  obtain ⟨hf,hN,hnp,hk0,hk1,hk2,hgd,hin⟩:=lk_ok hl
  obtain ⟨p1,p2,p3,p4,p5,p6⟩:=fw_parts hf
  rw [Bool.eq_iff_iff]
  unfold poB
  simp only [Bool.and_eq_true,all_iff]
  constructor
  · rintro ⟨h1,h2⟩
    have hpp:∀ v,v<np→plP P v=true∧(hasI K.2 (v:Int) K.1=true→eqP (P v) (pl v)=true):=fun v hv=>by
      have:=h1 v hv
      unfold pqB at this
      cases hb1:plP P v with
      | false=>rw [hb1] at this;cases this
      | true =>
        refine ⟨rfl,fun hh=>?_⟩
        rw [hb1,hh] at this
        cases he:eqP (P v) (pl v) with
        | false=>rw [he] at this;cases this
        | true=>rfl
    refine ⟨fun i hi=>?_,?_,h2⟩
    · have hk:=hin i hi
      have:=(hpp (K.2 i).toNat (by omega)).2 ((hasI_ex _ _ _).2 ⟨i,hi,by omega⟩)
      exact this
    · unfold fwB
      simp only [Bool.and_eq_true,decide_eq_true_eq,all_iff]
      refine ⟨⟨p1,p2,p3,trivial⟩,fun i hi=>(hpp i hi).1,fun i hi=>?_⟩
      have h6:=p6 i hi
      have h2i:=h2 i hi
      unfold sqE at h2i
      rw [beq_iff_eq] at h2i
      unfold brP at h6 ⊢
      rw [eB_sq] at h6 ⊢
      rw [← h2i]
      exact h6
  · rintro ⟨h1,h2,h3⟩
    obtain ⟨q1,q2,q3,q4,q5,q6⟩:=fw_parts h2
    refine ⟨fun v hv=>?_,h3⟩
    have hp:plP P v=true:=by
      have:=q5 v hv
      unfold plP
      rw [inB_iff.2 this.1,inB_iff.2 this.2];rfl
    unfold pqB
    rw [hp]
    cases hh:hasI K.2 (v:Int) K.1 with
    | false=>rfl
    | true =>
      obtain ⟨i,hi,he⟩:=(hasI_ex _ _ _).1 hh
      have:=h1 i hi
      unfold gdB5 at this
      rw [show (K.2 i).toNat=v by omega] at this
      rw [this];rfl
theorem con_Same {g:Nat→T_Bar} {nb N:Nat} {pl:Nat→T_Place} {np:Nat} (hf:fwB g nb N pl np=true) (P:Nat→T_Place) :
    zE 333 [frA g nb N pl np,frA g nb N P np] [] (.p (.bool (fwB g nb N P np&&allB (sqE g pl P) nb))):=by
  obtain ⟨h1,h2,h3,h4,hok,hb⟩:=fw_ok hf
  have c1:=con_IsFramework_s g nb N pl np (by omega)
  have c2:=con_IsFramework_s g nb N P np (by omega)
  rw [hf] at c1
  refine csZ Tryz.func333 (fun c hc=>?_)
  cases hg:fwB g nb N P np with
  | false =>
    rw [hg] at c2
    refine pkD Tryz.func333 hc (asf g nb N pl np P) ?_
    and_intros
    all_goals (first | exact zN | (exact c1) | (intros;exact c2) | (simp;done))
  | true =>
    rw [hg] at c2
    have c3:=con_EqualGraphs_s (N,(nb,g),()) (N,(nb,g),()) (by show nb≤_;omega)
    rw [show eqGr (N,(nb,g),()) (N,(nb,g),())=true by simp [eqGr,q_BarS,qTB_refl]] at c3
    have c4:=con_SqL hf
    have c5:=con_SqL hg
    have c6:=con_ls_l6Same_IntS (nb,(slD g pl nb).2) (nb,(slD g P nb).2) (by show nb≤_;omega)
    rw [show q_IntS (nb,(slD g pl nb).2) (nb,(slD g P nb).2)=(true&&allB (sqE g pl P) nb) by
      rw [Bool.true_and]
      show (if nb=nb then qT_IntS _ _ nb else false)=_
      rw [if_pos rfl,qT_all]
      exact allB_congr nb (fun i hi=>by show ((slD g pl nb).2 i==(slD g P nb).2 i)=_;rw [slD_at g pl nb i hi,slD_at g P nb i hi];rfl)] at c6
    generalize (true&&allB (sqE g pl P) nb)=r at c6 ⊢
    refine pkD Tryz.func333 hc (ast g nb N pl np P nb nb (slD g pl nb).2 (slD g P nb).2 r) ?_
    and_intros
    all_goals (first | exact zN | (exact c1) | (intros;exact c2) | (intros;exact c3) | (intros;exact c4) | (intros;exact c5) | (intros;exact c6) | (simp;done))
theorem con_pose_s {g:Nat→T_Bar} {nb:Nat} {N:Int} {pl:Nat→T_Place} {np:Nat} {K:T_IntS} (hl:lkB g nb N pl np K=true) (P:Nat→T_Place) :
    zE 267 [tsA g nb N pl np K,pcL P np] [] (.p (.bool (poB g nb pl np K P))):=by
  obtain ⟨hf,hN,hnp,hk0,hk1,hk2,hgd,hin⟩:=lk_ok hl
  subst hN
  rw [po_eq hl]
  have cl:=con_lk_s g nb np pl np K (by have:=fw_ok hf;omega) (by omega)
  rw [hl] at cl
  have cs:=con_Same hf P
  refine csZ Tryz.func267 (fun c hc=>?_)
  have l0:∀ d k,k+d=K.1→allB (gdB5 pl P K) k=true→zR c 267 zf68 (isQ5 g nb np pl np K P np k) (Post c [] (.p (.bool (allB (gdB5 pl P K) K.1&&(fwB g nb np P np&&allB (sqE g pl P) nb))))):=by
    intro d
    induction d with
    | zero =>
      intro k hk h1
      have hd:decide ((k:Int)<(K.1:Int))=false:=decide_eq_false (by omega)
      rw [show allB (gdB5 pl P K) K.1=true by rw [show K.1=k by omega];exact h1,Bool.true_and]
      refine pkZ Tryz.func267 hc (ise g nb np pl np K P np k _) ?_
      and_intros
      all_goals (first | exact zN | (exact hd) | (exact cs))
    | succ d ih =>
      intro k hk h1
      have hd:decide ((k:Int)<(K.1:Int))=true:=decide_eq_true (by omega)
      have hkk:=hin k (by omega)
      have hx:(!(eqP (P (K.2 k).toNat) (pl (K.2 k).toNat)))=!(gdB5 pl P K k):=rfl
      cases he:gdB5 pl P K k with
      | true =>
        have hrec:=ih (k+1) (by omega) (by rw [allB,h1,he];rfl)
        rw [he] at hx
        refine pcD hc (ist g nb np pl np K P np k) ?_ hrec
        and_intros
        all_goals (first | exact zN | (exact hd) | (exact hx) | (simp;omega))
      | false =>
        rw [all_no (show k<K.1 by omega) he]
        rw [he] at hx
        refine pkD Tryz.func267 hc (isx g nb np pl np K P np k) ?_
        and_intros
        all_goals (first | exact zN | (exact hd) | (exact hx) | (simp;omega))
  refine pcD hc (isz g nb np pl np K P np) ?_ (l0 K.1 0 (by omega) rfl)
  and_intros
  all_goals (first | exact zH | (exact cl) | (simp;done))
open Go Go.Sort
def w5S (u:T_IntS) (x:Int) (c:Nat) (f:Nat→Int) (p:Bool) (i:Nat):St :=
  ⟨[inL u,.p (.int .i64 x),.p .any,.p .any,.p .any,.ar 1 0 0 c,.p (.bool p),.p (.int .i64 i)]++List.replicate 41 anyA,[(0,iOb c f)],1⟩
theorem w5z (u:T_IntS) (x:Int) :
    zT Tryz.f213 [rg 1,rg 2,rg 1,rg 1,.head] [inL u,.p (.int .i64 x)] [32] (w5S u x 0 (fun _=>0) false 0) =
    some (zf54,[(AN u.1),(AP u.1 (iRw u)),(AI x),(AN 0),(AN 0),(false=false),((0:Int)=(↑0:Int)),(AN 1),(NL 0 0),(AA 0 (fun i=>[.p (.int .i64 0)]))]):=by kernel_rfl
theorem w5t (u:T_IntS) (x:Int) (c:Nat) (f:Nat→Int) (i:Nat) :
    zM 0 [rg 4,.dec true,rg 6,.dec false,rg 10,.dec true,rg 5,rg 1,rg 8,rg 3,.head] zf54 (w5S u x c f false i) [1025] 1 (w5S u x (c+1+1) (fun s=>if s<c+1 then (if s<c then f s else x) else u.2 i) true (i+1)) =
    some (zf54,zD [((decide ((↑i:Int)<(↑u.1:Int)))=true),(IL 0 (↑i:Int)),(IT (↑i:Int) (↑u.1:Int)),((u.2 i==x)=false),(AG (decide (u.2 (↑i:Int).toNat>x))),((bif decide (u.2 (↑i:Int).toNat>x) then !false else false)=true),(NL 1 1),(NL c c),(NL ((c+1)*8) 140737488355328),(NL (c+1) 9223372036854775807),(NL (c+1) (c+1)),(NL ((c+1+1)*8) 140737488355328),(NL (c+1+1) 9223372036854775807),(ZLo ((↑i:Int)+1)),(ZHi ((↑i:Int)+1)),(AN u.1),(AP u.1 (iRw u)),(AI x),(AN 0),(AN ((c+1+1))),(true=true),((((↑i:Int)+1):Int)=(↑(i+1):Int)),(AN 1),(NL (c+1+1) (c+1+1)),(CV [(1025,⟨false,1,(c+1+1),(fun i_2=>(if (i_2<c+1) then (if (i_2<c) then [.p (.int .i64 (f i_2))] else [.p (.int .i64 x)]) else [.p (.int .i64 (u.2 i))]))⟩),(993,⟨false,1,1,(fun i_2=>[.p (.int .i64 (u.2 i))])⟩),(705,⟨false,1,1,(fun i_2=>[.p (.int .i64 x)])⟩)] [1025] 1 (c+1+1) (fun i_1=>if (i_1<c+1) then (if (i_1<c) then [.p (.int .i64 (f i_1))] else [.p (.int .i64 x)]) else [.p (.int .i64 (u.2 i))]) (fun i_1=>[.p (.int .i64 (if i_1<c+1 then if i_1<c then f i_1 else x else u.2 i))]))] [0,1,2,3,1,2,4,4,5,6,7,8,9,1,2,6,10,11,12,13,14,15,16,17,18,19,20,21,22,23,24]):=by kernel_rfl
theorem w5f (u:T_IntS) (x:Int) (c:Nat) (f:Nat→Int) (p:Bool) (i:Nat) :
    zM 0 [rg 4,.dec true,rg 6,.dec false,rg 10,.dec false,rg 8,rg 3,.head] zf54 (w5S u x c f p i) [833] 1 (w5S u x (c+1) (fun s=>if s<c then f s else u.2 i) p (i+1)) =
    some (zf54,zD [((decide ((↑i:Int)<(↑u.1:Int)))=true),(IL 0 (↑i:Int)),(IT (↑i:Int) (↑u.1:Int)),((u.2 i==x)=false),(AG (decide (u.2 (↑i:Int).toNat>x))),((bif decide (u.2 (↑i:Int).toNat>x) then !p else false)=false),(NL 1 1),(NL c c),(NL ((c+1)*8) 140737488355328),(NL (c+1) 9223372036854775807),(ZLo ((↑i:Int)+1)),(ZHi ((↑i:Int)+1)),(AN u.1),(AP u.1 (iRw u)),(AI x),(AN 0),(AN ((c+1))),(p=p),((((↑i:Int)+1):Int)=(↑(i+1):Int)),(AN 1),(NL (c+1) (c+1)),(CV [(833,⟨false,1,(c+1),(fun i_2=>(if (i_2<c) then [.p (.int .i64 (f i_2))] else [.p (.int .i64 (u.2 i))]))⟩),(801,⟨false,1,1,(fun i_2=>[.p (.int .i64 (u.2 i))])⟩)] [833] 1 (c+1) (fun i_1=>if (i_1<c) then [.p (.int .i64 (f i_1))] else [.p (.int .i64 (u.2 i))]) (fun i_1=>[.p (.int .i64 (if i_1<c then f i_1 else u.2 i))]))] [0,1,2,3,1,2,4,4,5,1,2,6,7,8,9,10,11,12,13,14,15,16,17,18,19,20,21]):=by kernel_rfl
theorem w5a (u:T_IntS) (x:Int) (c:Nat) (f:Nat→Int) (i:Nat) :
    zP Tryz.f213 0 [rg 4,.dec false,rg 2,.dec true,rg 5,rg 2] zf54 (w5S u x c f false i) [289] 1 [(0,iOb (c+1) (fun s=>if s<c then f s else x))] (.ar 1 0 0 (c+1)) =
    some [((decide ((↑i:Int)<(↑u.1:Int)))=false),((!false)=true),(NL 1 1),(NL c c),(NL ((c+1)*8) 140737488355328),(NL (c+1) 9223372036854775807),(AN 0),(AN ((c+1))),(AN 1),(NL (c+1) (c+1)),(CV [(289,⟨false,1,(c+1),(fun i_2=>(if (i_2<c) then [.p (.int .i64 (f i_2))] else [.p (.int .i64 x)]))⟩),(257,⟨false,1,1,(fun i_2=>[.p (.int .i64 x)])⟩)] [289] 1 (c+1) (fun i_1=>if (i_1<c) then [.p (.int .i64 (f i_1))] else [.p (.int .i64 x)]) (fun i_1=>[.p (.int .i64 (if i_1<c then f i_1 else x))])),(AE ((c+1)))]:=by kernel_rfl
theorem w5b (u:T_IntS) (x:Int) (c:Nat) (f:Nat→Int) (i:Nat) :
    zP Tryz.f213 0 [rg 4,.dec false,rg 2,.dec false,rg 2] zf54 (w5S u x c f true i) [0] 1 [(0,iOb c f)] (.ar 1 0 0 c) =
    some [((decide ((↑i:Int)<(↑u.1:Int)))=false),((!true)=false),(AN 0),(AN c),(AN 1),(NL c c),(AA c (fun i_1=>[.p (.int .i64 (f i_1))])),(AE c)]:=by kernel_rfl
end Go.Proofs.YtkkjoghiigiokaaGreat.Mach
namespace Go.Proofs
open Go Go.Shelf Go.RowKit Go.Lib Go.Sort
set_option linter.unusedVariables false
set_option linter.unusedSimpArgs false
shelf_lay_g SlLaysM.n5 Slgm 5 at Tryz 276 as Tryz.sortInt
end Go.Proofs
namespace Go.Proofs.YtkkjoghiigiokaaGreat.Mach
open Go Go.Shelf Go.RowKit Go.Lib Go.Sort
set_option linter.unusedVariables false
set_option linter.unusedSimpArgs false
def numOb (n:Nat) (h:Nat→Int):Ob:=⟨false,1,n,fun i=>[.p (.int .i64 (h i))]⟩
def lstI (n:Nat) (h:Nat→Int):List Int:=(List.range n).map h
def srtI (l:List Int):List Int:=l.mergeSort fun x y=>decide (x≤y)
def atI (l:List Int) (i:Nat):Int:=l.getD i 0
theorem lstI_len (n:Nat) (h:Nat→Int):(lstI n h).length=n:=by simp [lstI]
theorem srtI_len (l:List Int):(srtI l).length=l.length:=by simp [srtI]
theorem putRow_id (w:World) (b base:Nat) (l:List Int):putRow (Value.int .i64) w b base l.toArray=putRow id w b base (l.map (Value.int .i64)).toArray:=by
  unfold putRow
  congr 1
  funext c
  unfold putCells
  congr 1
  funext k x
  have e1:l.toArray.size=(l.map (Value.int .i64)).toArray.size:=by simp
  rw [← e1]
  split
  · rename_i h
    have hk:k - base<l.length:=by have:=h.2;simp at this;omega
    rw [getElem!_pos _ _ (by simpa using hk),getElem!_pos _ _ (by simpa using hk)]
    simp
  · rfl
theorem int_cell {w:World} {β:Id→Option Addr} {own:Bool→Nat→Prop} {x:Int} {v:Value} (h:VR w β own (.p (.int .i64 x)) v):v=.int .i64 x:=vr_int h
theorem row_holds {w:World} {β:Id→Option Addr} {own:Bool→Nat→Prop} {n b base:Nat} {h:Nat→Int} {cells:Array Value} {el:TypeId} (hh:w.heap[b]? = some (.cells cells el (0,0)))
    (hrw:∀ i,i<n→∃ v,cells[base+i]? = some v∧One v∧VR w β own (.p (.int .i64 (h i))) v) (hpos:0<n) :
    Holds (Value.int .i64) w b base (lstI n h).toArray∧base+n≤cells.size:=by
  have hcell:∀ i,i<n→cells[base+i]? = some (.int .i64 (h i)):=by
    intro i hi
    obtain ⟨u,hu1,hu2,hu3⟩:=hrw i hi
    have:=int_cell (x:=h i) hu3
    subst this
    exact hu1
  refine ⟨fun t ht=>?_,?_⟩
  · have ht':t<n:=by simpa [lstI] using ht
    refine ⟨?_,by simp [World.frozen?,hh]⟩
    simp only [World.cell?,hh]
    rw [hcell t ht',getElem!_pos (lstI n h).toArray t ht]
    simp [lstI]
  · have:=hcell (n - 1) (by omega)
    rcases Nat.lt_or_ge (base+(n - 1)) cells.size with h' | h'
    · omega
    · rw [Array.getElem?_eq_none h'] at this;cases this
theorem con_rowI (f:FuncId) (hen:enterable Tryz.prog f=true) (n:Nat) (h:Nat→Int) (l:List Int) (hl:l.length=n) (res:AV)
    (h0:n=0→∀ (w:World) (p:Option Addr) (cp:Nat),Calls Tryz.prog f #[.slice p 0 cp] w fun e w'=>(∃ v,e=.returned v∧((∀ (w:World) (β:Id→Option Addr) (own:Bool→Nat→Prop),VR w β own res v)∨(v=.slice p 0 cp∧res=.ar 1 0 0 0)))∧w'=w)
    (h1:0<n→∀ (w:World) (b base c:Nat),n≤c→b<w.heap.size→Holds (Value.int .i64) w b base (lstI n h).toArray →
      Calls Tryz.prog f #[.slice (some ⟨b,base,none⟩) n c] w fun e w'=>(∃ v q os,e=.returned v∧w'=grow (putRow (Value.int .i64) (Sort.ahead w q) b base l.toArray) os ∧
        ∀ (w:World) (β:Id→Option Addr) (own:Bool→Nat→Prop) (cells:Array Value) (el:TypeId),β 0=some ⟨b,base,none⟩→w.heap[b]? = some (.cells cells el (0,0))→base+c≤cells.size→VR w β own res v)) :
    Con Tryz.prog f 1 [(0,numOb n h)] [.ar 1 0 0 n] [(0,numOb n (atI l))] res:=by
  refine ⟨hen,fun w β X vals hX hH hS hd hlen ha=>?_⟩
  obtain ⟨v0,rfl⟩:∃ v0,vals = #[v0]:=by
    rcases vals with ⟨l⟩
    match l,hlen with
    | [a],_=>exact ⟨a,rfl⟩
  have hv0:VR w β (ow X β [(0,numOb n h)]) (.ar 1 0 0 n) v0:=ha 0 (by simp)
  rcases Nat.eq_zero_or_pos n with rfl | hpos
  · obtain ⟨p,cap,rfl⟩:∃ p cap,v0=.slice p 0 cap:=by
      cases hv0 with
      | ar0=>exact ⟨_,_,rfl⟩
      | ar=>exact ⟨_,_,rfl⟩
    refine (h0 rfl w p cap).mono ?_
    rintro e w' ⟨⟨v,rfl,hv⟩,rfl⟩
    have hv':VR w' β (fr X β [(0,numOb 0 (atI l))]) res v:=by
      rcases hv with hv | ⟨rfl,rfl⟩
      · exact hv _ _ _
      · cases hv0 with
        | ar0=>exact .ar0 _ _ _ _
        | ar _ _ _ _ b base c cells elem fr' hβ hh hsz hc=>exact .ar _ _ _ _ b base _ cells elem fr' hβ hh hsz hc
    refine ⟨_,β,rfl,?_,?_,hv',?_,fun o a h=>h,fun b' h'=>.inl ?_,fun k h=>.inl h⟩
    · intro o ob hl
      obtain ⟨rfl,rfl⟩:=look_one hl
      rcases hH 0 _ (lk_one _) with ⟨hb,_⟩ | ⟨b,base,cells,el,hβ,hh,_⟩ | hm
      · exact .inl ⟨hb,rfl⟩
      · exact .inr (.inl ⟨b,base,cells,el,hβ,hh,fun i hi=>absurd hi (Nat.not_lt_zero _)⟩)
      · exact absurd hm.2.1 (by simp [numOb])
    · intro o o' ob ob' a a' h1 h2 h3 h4 h5
      obtain ⟨rfl,rfl⟩:=look_one h1
      obtain ⟨rfl,rfl⟩:=look_one h2
      rfl
    · rw [ow_one X β (numOb 0 (atI l)) (numOb 0 h)]
      exact Ext.refl _ _
    · rw [own_one _ _ _ rfl] at h' ⊢;exact h'
  · cases hv0 with
    | ar0=>exact absurd hpos (Nat.lt_irrefl 0)
    | ar _ _ _ _ b base c cells elem fr' hβ hh hsz hc =>
      rcases hH 0 _ (lk_one _) with ⟨hb,_⟩ | ⟨b',base',cells',el',hβ',hh',hrw⟩ | hm
      · rw [hb] at hβ;cases hβ
      · rw [hβ] at hβ'
        injection hβ' with hβ'
        injection hβ' with i1 i2 _
        subst i1;subst i2
        rw [hh] at hh'
        injection hh' with hh'
        injection hh' with i1 i2 i3
        subst i1;subst i2;subst i3
        have hrw':∀ i,i<n→∃ v,cells[base+i]? = some v∧One v∧VR w β (ow X β [(0,numOb n h)]) (.p (.int .i64 (h i))) v:=by
          intro i hi
          obtain ⟨v,k1,k2,k3⟩:=hrw i hi 0 (by simp [numOb])
          have e:base+(i*(numOb n h).z+0)=base+i:=by simp [numOb]
          exact ⟨v,by rw [← e];exact k1,k2,k3⟩
        obtain ⟨hHo,hend⟩:=row_holds (n:=n) (h:=h) hh hrw' hpos
        have hblk:b<w.heap.size:=by
          rcases Nat.lt_or_ge b w.heap.size with h' | h'
          · exact h'
          · rw [Array.getElem?_eq_none h'] at hh;cases hh
        have hcon:=h1 hpos w b base c hc hblk hHo
        rw [show base+0*1=base by omega]
        refine hcon.mono ?_
        rintro e w' ⟨v,q,os,rfl,rfl,hv⟩
        rw [putRow_id]
        refine sW_post (F:=(l.map (Value.int .i64)).toArray) hβ hh hS (by simpa using hend) (by simp [hl]) (fun i hi j hj=>?_) (fun own=>hv _ _ _ _ _ hβ (sW_at hh) (by rw [putCells_size];omega))
        obtain rfl:j=0:=by omega
        have e:((l.map (Value.int .i64)).toArray)[i*1+0]! = .int .i64 (atI l i):=by
          rw [getElem!_pos _ _ (by simp [hl];omega)]
          simp [atI,List.getD_eq_getElem?_getD,List.getElem?_eq_getElem (show i<l.length by omega)]
        rw [e]
        exact ⟨rfl,fun w' own=>.p _ _ (.int _ _)⟩
      · exact absurd hm.2.1 (by simp [numOb])
theorem con_SortI (n:Nat) (h:Nat→Int) (hn:n≤1048576) :
    Con Tryz.prog 276 1 [(0,numOb n h)] [.ar 1 0 0 n] [(0,numOb n (atI (srtI (lstI n h))))] (.tup []):=by
  have hnil:∀ (w:World) (β:Id→Option Addr) (own:Bool→Nat→Prop),VR w β own (.tup []) (.tuple #[]):=fun w' β own=>.tup [] #[] rfl (fun j hj=>absurd hj (Nat.not_lt_zero _))
  refine con_rowI _ (by kernel_rfl) n h _ (by rw [srtI_len,lstI_len]) _ (fun h0 w p cap=>?_) (fun hpos w b base c hc hb hH=>?_)
  · refine (AnyM.slices_Sort_int_none (P:=Tryz.prog) Tryz.sortInt p cap w).mono ?_
    rintro e w' ⟨rfl,rfl⟩
    exact ⟨⟨_,rfl,.inl hnil⟩,rfl⟩
  · have hcon:=AnyM.slices_Sort_int (P:=Tryz.prog) Tryz.sortInt b base c (lstI n h) w hH hb (by rw [lstI_len];omega)
    rw [lstI_len] at hcon
    change Calls Tryz.prog 276 _ _ _ at hcon
    refine hcon.mono ?_
    rintro e w' ⟨rfl,q,os,rfl⟩
    exact ⟨_,q,os,rfl,rfl,fun w β own _ _ _ _ _=>hnil _ _ _⟩
open Go
def nH (n m:Nat) (M:Nat→Nat→Int) (r:Nat) (p:Nat→Int) (R:Nat→Int):Hp:=[(0,ooOb 1 m (cM n M)),(1,ffOb m (cM n M)),(2,iOb r p),(3,iOb n R)]
def N0 (n m:Nat) (M:Nat→Nat→Int) (r:Nat) (p:Nat→Int) (d:Int) (i:Nat) (R:Nat→Int):St :=
  ⟨[.p .any,.p (.int .i64 n),.p .any,.p .any,.p .any,.ar 1 0 0 m,.ar 1 2 0 r,.p (.int .i64 d),.ar 1 3 0 n]++List.replicate 17 anyA++[.p (.int .i64 n),.p (.int .i64 i)]++List.replicate 65 anyA,nH n m M r p R,4⟩
def N1 (n m:Nat) (M:Nat→Nat→Int) (r:Nat) (p:Nat→Int) (d:Int) (i:Nat) (R:Nat→Int):St :=
  ⟨[.p .any,.p (.int .i64 n),.p .any,.p .any,.p .any,.ar 1 0 0 m,.p .any,.p (.int .i64 d),.ar 1 3 0 n]++List.replicate 25 anyA++[.ar 1 2 0 r,.p (.int .i64 r),.p (.int .i64 i)]++List.replicate 56 anyA,nH n m M r p R,4⟩
def nK (n m:Nat) (M:Nat→Nat→Int) (R:Nat→Int) (q:Nat) (W:Nat→Nat→Int):Hp:=[(0,ooOb 1 m (cM n M)),(1,ffOb m (cM n M)),(2,iOb n R),(3,ooOb 4 q (cM n W)),(4,ffOb q (cM n W))]
def N2 (n m:Nat) (M:Nat→Nat→Int) (d:Int) (R:Nat→Int) (c q:Nat) (W:Nat→Nat→Int):St :=
  ⟨[.p .any,.p (.int .i64 n),.p .any,.p .any,.p .any,.ar 1 0 0 m,.p .any,.p (.int .i64 d),.ar 1 2 0 n,.p .any,.p .any,.p .any,.ar 1 3 0 q]++List.replicate 34 anyA++[.p (.int .i64 n),.p (.int .i64 c)]++List.replicate 44 anyA,nK n m M R q W,5⟩
def N3 (n m:Nat) (M:Nat→Nat→Int) (d:Int) (R:Nat→Int) (c q:Nat) (W:Nat→Nat→Int) (k:Nat) (v:Nat→Int):St :=
  ⟨[.p .any,.p (.int .i64 n),.p .any,.p .any,.p .any,.ar 1 0 0 m,.p .any,.p (.int .i64 d),.ar 1 2 0 n,.p .any,.p .any,.p .any,.ar 1 3 0 q,.p (.int .i64 c),.ar 1 5 0 n]++List.replicate 32 anyA++[.p (.int .i64 n),.p (.int .i64 c)]++List.replicate 13 anyA++[.p (.int .i64 n),.p (.int .i64 k)]++List.replicate 29 anyA,nK n m M R q W++[(5,iOb n v)],6⟩
def sK (n m:Nat) (M:Nat→Nat→Int) (r:Nat) (p:Nat→Int) (q:Nat) (W:Nat→Nat→Int):Hp:=[(0,ooOb 1 m (cM n M)),(1,ffOb m (cM n M)),(2,iOb r p),(3,ooOb 4 q (cM n W)),(4,ffOb q (cM n W))]
def L0 (n m:Nat) (M:Nat→Nat→Int) (r:Nat) (p:Nat→Int) (c q:Nat) (W:Nat→Nat→Int):St :=
  ⟨[.p .any,.p (.int .i64 n),.p .any,.p .any,.p .any,.ar 1 3 0 q,.ar 1 0 0 m,.ar 1 2 0 r,.p (.int .i64 c)]++List.replicate 111 anyA,sK n m M r p q W,5⟩
def L2 (n m:Nat) (M:Nat→Nat→Int) (r:Nat) (p:Nat→Int) (c q:Nat) (W:Nat→Nat→Int) (d:Int) (v:Nat→Int) (i:Nat):St :=
  ⟨[.p .any,.p (.int .i64 n),.p .any,.p .any,.p .any,.ar 1 3 0 q,.ar 1 0 0 m,.ar 1 2 0 r,.p (.int .i64 c),.p (.int .i64 d),.p .any,.p .any,.p .any,.ar 1 5 0 n,.p (.int .i64 i)]++List.replicate 105 anyA,sK n m M r p q W++[(5,iOb n v)],6⟩
theorem na (n m:Nat) (M:Nat→Nat→Int) (r:Nat) (p:Nat→Int) (d:Int) (i:Nat) (R R':Nat→Int) :
    zM 0 [rg 1,.dec true,rg 2,rg 4,rg 2,.head] zf55 (N0 n m M r p d i R) [0,1,2,3] 1 (N0 n m M r p d (i+1) R') =
    some (zf55,[((decide ((↑i:Int)<(↑n:Int)))=true),(IL 0 (↑i:Int)),(IT (↑i:Int) (↑n:Int)),(NT i n),((false=true)→ ((n:Nat)=1)),(ZLo ((↑i:Int)+1)),(ZHi ((↑i:Int)+1)),(AI ((↑n:Int))),(AN 0),(AN m),(AN 0),(AN r),(AI d),(AN 0),(AN n),(AI ((↑n:Int))),((((↑i:Int)+1):Int)=(↑(i+1):Int)),(AN 1),(NL m m),(AA m (fun i_1=>[.ar 1 ⟨1,some i_1⟩ 0 n])),(NL m m),(∀ i_1:Nat,(((i_1:Nat)<m)→All [(AN 1),((n:Nat)≤n),(AP n (fun r_1=>[.int .i64 ((cM n M i_1).2 r_1)]))])),(AN 1),(NL r r),(AA r (fun i_1=>[.p (.int .i64 (p i_1))])),(AN 1),(NL n n),(CV [(3,⟨false,1,n,(fun i_2=>(if (i_2=i) then [.p (.int .i64 (-1))] else [.p (.int .i64 (R i_2))]))⟩),(0,⟨false,1,m,(fun i_2=>[.ar 1 ⟨1,some i_2⟩ 0 n])⟩),(1,⟨true,0,m,(fun i_2=>[.p (.seq false 1 n (fun i_3=>[.int .i64 ((cM n M i_2).2 i_3)]))])⟩),(2,⟨false,1,r,(fun i_2=>[.p (.int .i64 (p i_2))])⟩)] [0,1,2,3] 1 n (fun i_1=>if (i_1=i) then [.p (.int .i64 (-1))] else [.p (.int .i64 (R i_1))]) (fun i_1=>[.p (.int .i64 (R' i_1))]))]):=by kernel_rfl
theorem nb (n m:Nat) (M:Nat→Nat→Int) (r:Nat) (p:Nat→Int) (d:Int) (i:Nat) (R R':Nat→Int) :
    zM 0 [rg 1,.dec false,rg 3,.head] zf55 (N0 n m M r p d i R) [0,1,2,3] 1 (N1 n m M r p d 0 R') =
    some ([.code (cAt (bodyOf Tryz.f318) [1,1,1,1,0,1,0,0]),.inLoop (cAt (bodyOf Tryz.f318) [1,1,1,1,0,1,0,0]),.inBlock 2,.code (cAt (bodyOf Tryz.f318) [1,1,1,1,1])],[((decide ((↑i:Int)<(↑n:Int)))=false),(AI ((↑n:Int))),(AN 0),(AN m),(AI d),(AN 0),(AN n),(AN 0),(AN r),(AI ((↑r:Int))),((0:Int)=(↑0:Int)),(AN 1),(NL m m),(AA m (fun i_1=>[.ar 1 ⟨1,some i_1⟩ 0 n])),(NL m m),(∀ i_1:Nat,(((i_1:Nat)<m)→All [(AN 1),((n:Nat)≤n),(AP n (fun r_1=>[.int .i64 ((cM n M i_1).2 r_1)]))])),(AN 1),(NL r r),(AA r (fun i_1=>[.p (.int .i64 (p i_1))])),(AN 1),(NL n n),(∀ i_1:Nat,(((i_1:Nat)<n)→(All []∧(([.p (.int .i64 (R i_1))]:List AV)=[.p (.int .i64 (R' i_1))]))))]):=by kernel_rfl
theorem ne (n m:Nat) (M:Nat→Nat→Int) (d:Int) (R:Nat→Int) (c q:Nat) (W:Nat→Nat→Int) :
    zM 0 [rg 1,.dec true,rg 2,rg 5,.dec true,rg 2,.head] zf30 (N2 n m M d R c q W) [0,1,2,3,4] 1 (N2 n m M d R (c+1) q W) =
    some (zf30,[((decide ((↑c:Int)<(↑n:Int)))=true),(IL 0 (↑c:Int)),(IT (↑c:Int) (↑n:Int)),(NT c n),((decide (R ((↑c:Int).toNat+0)≥0))=true),(ZLo ((↑c:Int)+1)),(ZHi ((↑c:Int)+1)),(AI ((↑n:Int))),(AN 0),(AN m),(AI d),(AN 0),(AN n),(AN 0),(AN q),(AI ((↑n:Int))),((((↑c:Int)+1):Int)=(↑(c+1):Int)),(AN 1),(NL m m),(AA m (fun i=>[.ar 1 ⟨1,some i⟩ 0 n])),(NL m m),(∀ i:Nat,(((i:Nat)<m)→All [(AN 1),((n:Nat)≤n),(AP n (fun r=>[.int .i64 ((cM n M i).2 r)]))])),(AN 1),(NL n n),(AA n (fun i=>[.p (.int .i64 (R i))])),(AN 1),(NL q q),(AA q (fun i=>[.ar 1 ⟨4,some i⟩ 0 n])),(NL q q),(∀ i:Nat,(((i:Nat)<q)→All [(AN 1),((n:Nat)≤n),(AP n (fun r=>[.int .i64 ((cM n W i).2 r)]))]))]):=by kernel_rfl
theorem ng (n m:Nat) (M:Nat→Nat→Int) (d:Int) (R:Nat→Int) (c q:Nat) (W:Nat→Nat→Int) (k:Nat) (v v':Nat→Int) :
    zM 0 [rg 1,.dec true,rg 2,rg 5,.dec true,rg 15,rg 2,.head] zf3 (N3 n m M d R c q W k v) [0,1,2,3,4,5] 1 (N3 n m M d R c q W (k+1) v') =
    some (zf3,[((decide ((↑k:Int)<(↑n:Int)))=true),(IL 0 (↑k:Int)),(IT (↑k:Int) (↑n:Int)),(NT k n),((decide (R ((↑k:Int).toNat+0)≥0))=true),(IL 0 (↑k:Int)),(IT (↑k:Int) (↑n:Int)),(NT k n),(IL 0 (R k)),(IT (R k) (↑m:Int)),(NT ((R k).toNat) m),(IL 0 (↑c:Int)),(IT (↑c:Int) (↑n:Int)),(NT ((R k).toNat) m),(NT c n),(ZLo (0 - (cM n M (R k).toNat).2 c)),(ZHi (0 - (cM n M (R k).toNat).2 c)),(IL 0 (↑k:Int)),(IT (↑k:Int) (↑n:Int)),(NT k n),((false=true)→ ((n:Nat)=1)),(ZLo ((↑k:Int)+1)),(ZHi ((↑k:Int)+1)),(AI ((↑n:Int))),(AN 0),(AN m),(AI d),(AN 0),(AN n),(AN 0),(AN q),(AI ((↑c:Int))),(AN 0),(AN n),(AI ((↑n:Int))),(AI ((↑c:Int))),(AI ((↑n:Int))),((((↑k:Int)+1):Int)=(↑(k+1):Int)),(AN 1),(NL m m),(AA m (fun i=>[.ar 1 ⟨1,some i⟩ 0 n])),(NL m m),(∀ i:Nat,(((i:Nat)<m)→All [(AN 1),((n:Nat)≤n),(AP n (fun r=>[.int .i64 ((cM n M i).2 r)]))])),(AN 1),(NL n n),(AA n (fun i=>[.p (.int .i64 (R i))])),(AN 1),(NL q q),(AA q (fun i=>[.ar 1 ⟨4,some i⟩ 0 n])),(NL q q),(∀ i:Nat,(((i:Nat)<q)→All [(AN 1),((n:Nat)≤n),(AP n (fun r=>[.int .i64 ((cM n W i).2 r)]))])),(AN 1),(NL n n),(CV [(5,⟨false,1,n,(fun i_1=>(if (i_1=k) then [.p (.int .i64 (0 - (cM n M (R k).toNat).2 c))] else [.p (.int .i64 (v i_1))]))⟩),(0,⟨false,1,m,(fun i_1=>[.ar 1 ⟨1,some i_1⟩ 0 n])⟩),(1,⟨true,0,m,(fun i_1=>[.p (.seq false 1 n (fun i_2=>[.int .i64 ((cM n M i_1).2 i_2)]))])⟩),(2,⟨false,1,n,(fun i_1=>[.p (.int .i64 (R i_1))])⟩),(3,⟨false,1,q,(fun i_1=>[.ar 1 ⟨4,some i_1⟩ 0 n])⟩),(4,⟨true,0,q,(fun i_1=>[.p (.seq false 1 n (fun i_2=>[.int .i64 ((cM n W i_1).2 i_2)]))])⟩)] [0,1,2,3,4,5] 1 n (fun i=>if (i=k) then [.p (.int .i64 (0 - (cM n M (R k).toNat).2 c))] else [.p (.int .i64 (v i))]) (fun i=>[.p (.int .i64 (v' i))]))]):=by kernel_rfl
theorem la (n m:Nat) (M:Nat→Nat→Int) (r:Nat) (p:Nat→Int) (c q:Nat) (W:Nat→Nat→Int) :
    zM 0 [rg 3,.dec true,rm [(2,oc [] (.p (.bool true)))] 0,.dec true,rg 3,.head] zf56 (L0 n m M r p c q W) [0,1,2,3,4] 1 (L0 n m M r p (c+1) q W) =
    some (zf56,[((decide ((↑c:Int)<(↑n:Int)))=true),(AN 1),(NL r r),zE 172 [.p (.seq true 1 r (fun i=>[.int .i64 (p i)])),.p (.int .i64 (↑c:Int))] [] (.p (.bool true)),(true=true),(ZLo ((↑c:Int)+1)),(ZHi ((↑c:Int)+1)),(AI ((↑n:Int))),(AN 0),(AN q),(AN 0),(AN m),(AN 0),(AN r),((((↑c:Int)+1):Int)=(↑(c+1):Int)),(AN 1),(NL m m),(AA m (fun i=>[.ar 1 ⟨1,some i⟩ 0 n])),(NL m m),(∀ i:Nat,(((i:Nat)<m)→All [(AN 1),((n:Nat)≤n),(AP n (fun r_1=>[.int .i64 ((cM n M i).2 r_1)]))])),(AN 1),(NL r r),(AA r (fun i=>[.p (.int .i64 (p i))])),(AN 1),(NL q q),(AA q (fun i=>[.ar 1 ⟨4,some i⟩ 0 n])),(NL q q),(∀ i:Nat,(((i:Nat)<q)→All [(AN 1),((n:Nat)≤n),(AP n (fun r_1=>[.int .i64 ((cM n W i).2 r_1)]))]))]):=by kernel_rfl
theorem le (n m:Nat) (M:Nat→Nat→Int) (r:Nat) (p:Nat→Int) (c q:Nat) (W:Nat→Nat→Int) (d:Int) (v v':Nat→Int) (i:Nat) :
    zM 0 [rg 4,.dec true,rm [(24,oF)] 3,rg 3,.head] zf9 (L2 n m M r p c q W d v i) [0,1,2,3,4,5] 1 (L2 n m M r p c q W d v' (i+1)) =
    some (zf9,[((decide ((↑i:Int)<(↑r:Int)))=true),(IL 0 (↑i:Int)),(IT (↑i:Int) (↑r:Int)),(NT i r),(IL 0 (↑i:Int)),(IT (↑i:Int) (↑m:Int)),(NT i m),(IL 0 (↑c:Int)),(IT (↑c:Int) (↑n:Int)),(NT i m),(NT c n),(ZLo ((cM n M i).2 c*d)),(ZHi ((cM n M i).2 c*d)),(IL 0 (↑i:Int)),(IT (↑i:Int) (↑m:Int)),(NT i m),(IL 0 (↑i:Int)),(IT (↑i:Int) (↑r:Int)),(NT i r),(IL 0 (p i)),(IT (p i) (↑n:Int)),(NT i m),(NT ((p i).toNat) n),((((cM n M i).2 (p i).toNat):Int)≠0),(ZLo (0 - IntKind.i64.wrap (((cM n M i).2 c*d).tdiv ((cM n M i).2 (p i).toNat)))),(ZHi (0 - IntKind.i64.wrap (((cM n M i).2 c*d).tdiv ((cM n M i).2 (p i).toNat)))),(IL 0 (p i)),(IT (p i) (↑n:Int)),(NT ((p i).toNat) n),((false=true)→ ((n:Nat)=1)),(ZLo ((↑i:Int)+1)),(ZHi ((↑i:Int)+1)),(AI ((↑n:Int))),(AN 0),(AN q),(AN 0),(AN m),(AN 0),(AN r),(AI ((↑c:Int))),(AI d),(AN 0),(AN n),((((↑i:Int)+1):Int)=(↑(i+1):Int)),(AN 1),(NL m m),(AA m (fun i_1=>[.ar 1 ⟨1,some i_1⟩ 0 n])),(NL m m),(∀ i_1:Nat,(((i_1:Nat)<m)→All [(AN 1),((n:Nat)≤n),(AP n (fun r_1=>[.int .i64 ((cM n M i_1).2 r_1)]))])),(AN 1),(NL r r),(AA r (fun i_1=>[.p (.int .i64 (p i_1))])),(AN 1),(NL q q),(AA q (fun i_1=>[.ar 1 ⟨4,some i_1⟩ 0 n])),(NL q q),(∀ i_1:Nat,(((i_1:Nat)<q)→All [(AN 1),((n:Nat)≤n),(AP n (fun r_1=>[.int .i64 ((cM n W i_1).2 r_1)]))])),(AN 1),(NL n n),(CV [(5,⟨false,1,n,(fun i_2=>(if (i_2=(p i).toNat) then [.p (.int .i64 (0 - IntKind.i64.wrap (((cM n M i).2 c*d).tdiv ((cM n M i).2 (p i).toNat))))] else [.p (.int .i64 (v i_2))]))⟩),(0,⟨false,1,m,(fun i_2=>[.ar 1 ⟨1,some i_2⟩ 0 n])⟩),(1,⟨true,0,m,(fun i_2=>[.p (.seq false 1 n (fun i_3=>[.int .i64 ((cM n M i_2).2 i_3)]))])⟩),(2,⟨false,1,r,(fun i_2=>[.p (.int .i64 (p i_2))])⟩),(3,⟨false,1,q,(fun i_2=>[.ar 1 ⟨4,some i_2⟩ 0 n])⟩),(4,⟨true,0,q,(fun i_2=>[.p (.seq false 1 n (fun i_3=>[.int .i64 ((cM n W i_2).2 i_3)]))])⟩)] [0,1,2,3,4,5] 1 n (fun i_1=>if (i_1=(p i).toNat) then [.p (.int .i64 (0 - IntKind.i64.wrap (((cM n M i).2 c*d).tdiv ((cM n M i).2 (p i).toNat))))] else [.p (.int .i64 (v i_1))]) (fun i_1=>[.p (.int .i64 (v' i_1))]))]):=by kernel_rfl
theorem lf (n m:Nat) (M:Nat→Nat→Int) (r:Nat) (p:Nat→Int) (c q:Nat) (W W':Nat→Nat→Int) (d:Int) (v w:Nat→Int) (i:Nat) :
    zM 0 [rg 4,.dec false,rm [(2,oc [(0,iOb n w)] (.ar 1 0 0 n))] 3,rg 3,.head] zf9 (L2 n m M r p c q W d v i) [0,1,2,262,.ins 4 q 198] 1 (L0 n m M r p (c+1) (q+1) W') =
    some (zf56,[((decide ((↑i:Int)<(↑r:Int)))=false),(AN 1),(NL n n),zE 353 [.p (.seq true 1 n (fun i_1=>[.int .i64 (v i_1)]))] [(0,⟨false,1,n,(fun i_1=>[.p (.int .i64 (w i_1))])⟩)] (.ar 1 0 0 n),(NL 1 1),(NL q q),(NL ((q+1)*24) 140737488355328),(NL (q+1) 9223372036854775807),(ZLo ((↑c:Int)+1)),(ZHi ((↑c:Int)+1)),(AI ((↑n:Int))),(AN 0),(AN ((q+1))),(AN 0),(AN m),(AN 0),(AN r),((((↑c:Int)+1):Int)=(↑(c+1):Int)),(AN 1),(NL m m),(AA m (fun i_1=>[.ar 1 ⟨1,some i_1⟩ 0 n])),(NL m m),(∀ i_1:Nat,(((i_1:Nat)<m)→All [(AN 1),((n:Nat)≤n),(AP n (fun r_1=>[.int .i64 ((cM n M i_1).2 r_1)]))])),(AN 1),(NL r r),(AA r (fun i_1=>[.p (.int .i64 (p i_1))])),(AN 1),(NL (q+1) (q+1)),(CV [(262,⟨false,1,(q+1),(fun i_2=>(if (i_2<q) then [.ar 1 ⟨4,some i_2⟩ 0 n] else [.ar 1 198 0 n]))⟩),(230,⟨false,1,1,(fun i_2=>[.ar 1 198 0 n])⟩),(198,⟨false,1,n,(fun i_2=>[.p (.int .i64 (w i_2))])⟩),(0,⟨false,1,m,(fun i_2=>[.ar 1 ⟨1,some i_2⟩ 0 n])⟩),(1,⟨true,0,m,(fun i_2=>[.p (.seq false 1 n (fun i_3=>[.int .i64 ((cM n M i_2).2 i_3)]))])⟩),(2,⟨false,1,r,(fun i_2=>[.p (.int .i64 (p i_2))])⟩),(4,⟨true,0,q,(fun i_2=>[.p (.seq false 1 n (fun i_3=>[.int .i64 ((cM n W i_2).2 i_3)]))])⟩),(5,⟨false,1,n,(fun i_2=>[.p (.int .i64 (v i_2))])⟩)] [0,1,2,262,.ins 4 q 198] 1 (q+1) (fun i_1=>if (i_1<q) then [.ar 1 ⟨4,some i_1⟩ 0 n] else [.ar 1 198 0 n]) (fun i_1=>[.ar 1 ⟨4,some i_1⟩ 0 n])),(∀ i_1:Nat,(((i_1:Nat)<(q+1))→(((i_1:Nat)≠q)→(((i_1:Nat)<q)∧All [(AN 1),((n:Nat)≤n),(∀ r_1:Nat,(((r_1:Nat)<n)→(([.int .i64 ((cM n W i_1).2 r_1)]:List PV)=[.int .i64 ((cM n W' i_1).2 r_1)])))])))),(((q:Nat)<(q+1))→ All [(AN 1),((n:Nat)≤n),(∀ r_1:Nat,(((r_1:Nat)<n)→(([.int .i64 (w r_1)]:List PV)=[.int .i64 ((cM n W' q).2 r_1)])))])]):=by kernel_rfl
end Go.Proofs.YtkkjoghiigiokaaGreat.Mach
namespace Go.Proofs.YtkkjoghiigiokaaGreat.Trv
def One (n:Nat) (x y u w:Nat→Int) (num den:Int):Prop:=∀ i,i<n→u i*den = -num*y i∧w i*den=num*x i
structure All2 (n:Nat) (x y u w:Nat→Int):Prop where
  ch:∀ a b,a<n→b<a→(x a - x b)*(u a - u b)+(y a - y b)*(w a - w b)=0
  same:∀ a b,a<n→b<a→x a=x b→y a=y b→u a=u b∧w a=w b
  flat:∀ a b,a<n→b<a→1≤b→x a*y b=y a*x b→x b*u a+y b*w a=x a*u b+y a*w b∧x b*w a - y b*u a=x a*w b - y a*u b
end Go.Proofs.YtkkjoghiigiokaaGreat.Trv
namespace Go.Proofs.YtkkjoghiigiokaaGreat.Mach
open Go
set_option linter.unusedVariables false
set_option linter.unusedSimpArgs false
def smq (v:T_IntS) (i:Nat):Bool:=inB (v.2 i) (-10000000000) 10000000000
def smB (v:T_IntS) (n:Int):Bool:=bif allB (smq v) v.1 then (v.1:Int)==n else false
def velB (g:Nat→T_Bar) (nb:Nat) (N:Int) (pl:Nat→T_Place) (np:Nat) (v:T_IntS):Bool:=bif fwB g nb N pl np then smB v (2*N) else false
structure VOk (g:Nat→T_Bar) (nb N:Nat) (pl:Nat→T_Place) (np:Nat) (v:T_IntS):Prop where
  hf:fwB g nb N pl np=true
  hl:v.1=2*N
  hN:1≤N∧N≤6
  hnp:np=N
  hnb:nb≤15
  sm:∀ j,j<2*N→-10000000000≤v.2 j∧v.2 j≤10000000000
  px:∀ i,i<N→(0≤(pl i).1∧(pl i).1≤4)∧(0≤(pl i).2.1∧(pl i).2.1≤4)
  vel:velB g nb N pl np v=true
  gr:isGraphF ((N:Int),(nb,g),())=true
def plA (x:T_Place):AV:=.agg [.p (.int .i64 x.1),.p (.int .i64 x.2.1)]
theorem onS (x:T_Place) (b1 b2:Bool) :
    zS Tryz.f316 [rg 2,rm [(2,oc [] (.p (.bool b1))),(3,oc [] (.p (.bool b2)))] 2] [plA x] [] [] (.p (.bool (bif b1 then b2 else false))) =
    some [(NT 0 1),zE 167 [.p (.int .i64 x.1),.p (.int .i64 0),.p (.int .i64 4)] [] (.p (.bool b1)),(AG b1),((b1=true)→(NT 0 1)),(AG b1),((b1=true)→ zE 167 [.p (.int .i64 x.2.1),.p (.int .i64 0),.p (.int .i64 4)] [] (.p (.bool b2))),(AG b1),((bif b1 then b2 else false)=(bif b1 then b2 else false))]:=by kernel_rfl
def okP (x:T_Place):Prop:=(0≤x.1∧x.1≤4)∧(0≤x.2.1∧x.2.1≤4)
theorem con_On {x:T_Place} (h:okP x):zE 316 [plA x] [] (.p (.bool true)):=by
  have h1:=con_l1In x.1 0 4
  have h2:=con_l1In x.2.1 0 4
  rw [inB_iff.2 h.1] at h1
  rw [inB_iff.2 h.2] at h2
  refine csZ Tryz.func316 (fun c hc=>?_)
  refine pkZ Tryz.func316 hc (onS x true true) ?_
  and_intros
  all_goals (first | exact zI | (exact h1) | (intro _;exact h2) | (intro h;exact h) | rfl)
def ltA (x:T_Place):AV:=.agg [.p (.int .i64 x.1),.p (.int .i64 x.2.1)]
def nrS (P Q:PlF) (n k:Nat):St :=
  ⟨[pcL P n,pcL Q n]++List.replicate 11 anyA++[pcL P n,.p (.int .i64 n),.p (.int .i64 k)]++List.replicate 35 anyA,[],0⟩
def neS (P Q:PlF) (n k:Nat):St :=
  ⟨[pcL P n,pcL Q n,anyA,anyA,anyA,.p (.int .i64 k)]++List.replicate 27 anyA,[],0⟩
def rqS5 (n:Nat) (P:Nat→PlF) (np:Nat) (s:Nat) (c:Nat) (q:Nat→Int) (r:Nat→Int) (k:Nat):St :=
  ⟨[psL true n P np,.p (.int .i64 s),anyA,anyA,anyA,anyA,.ar 1 0 0 c,.ar 1 1 0 c,.p (.int .i64 k)]++List.replicate 44 anyA,[(0,iOb c q),(1,iOb c r)],2⟩
def rcT (n:Nat) (P:Nat→PlF) (np:Nat) (s:Nat) (c:Nat) (q:Nat→Int) (r:Nat→Int) (k j:Nat):St :=
  ⟨[psL true n P np,.p (.int .i64 s),anyA,anyA,anyA,anyA,.ar 1 0 0 c,.ar 1 1 0 c,.p (.int .i64 k),.p (.int .i64 j)]++List.replicate 43 anyA,[(0,iOb c q),(1,iOb c r)],2⟩
def rsO (r:Nat) (R:Nat→T_IntS):Ob:=⟨false,1,r,fun i=>[.p (.seq false 1 (R i).1 (fun s=>[.int .i64 ((R i).2 s)]))]⟩
def rsL (r:Nat) (R:Nat→T_IntS):AV:=.p (.seq false 1 r (fun i=>[.seq false 1 (R i).1 (fun s=>[.int .i64 ((R i).2 s)])]))
def snR5 (r:Nat) (R:Nat→T_IntS) (x:T_IntS) (s:Nat):T_IntS:=if s<r then R s else x
def boO (n:Nat) (s:Nat→Bool):Ob:=⟨false,1,n,fun i=>[.p (.bool (s i))]⟩
def upB5 (s:Nat→Bool) (j:Nat) (v:Nat):Bool:=if v=j then true else s v
def rmS (n:Nat) (P:Nat→PlF) (np:Nat) (r:Nat) (R:Nat→T_IntS) (s:Nat→Bool) (i:Nat):St :=
  ⟨[anyA,anyA,anyA,anyA,.ar 1 0 0 r,psL false n P np,anyA,.ar 1 1 0 n]++List.replicate 17 anyA++[.p (.int .i64 n),.p (.int .i64 i)]++List.replicate 57 anyA,[(0,rsO r R),(1,boO n s)],2⟩
def rmT (n:Nat) (P:Nat→PlF) (np:Nat) (r:Nat) (R:Nat→T_IntS) (s:Nat→Bool) (i:Nat) (c:Nat) (q:Nat→Int) (k:Nat):St :=
  ⟨[anyA,anyA,anyA,anyA,.ar 1 0 0 r,psL false n P np,anyA,.ar 1 1 0 n,anyA,.ar 1 2 0 c,.p (.int .i64 k)]++List.replicate 14 anyA++[.p (.int .i64 n),.p (.int .i64 i)]++List.replicate 57 anyA,[(0,rsO r R),(1,boO n s),(2,iOb c q)],3⟩
def rmU (n:Nat) (P:Nat→PlF) (np:Nat) (r:Nat) (R:Nat→T_IntS) (s:Nat→Bool) (i:Nat) (c:Nat) (q:Nat→Int) (k j:Nat):St :=
  ⟨[anyA,anyA,anyA,anyA,.ar 1 0 0 r,psL false n P np,anyA,.ar 1 1 0 n,anyA,.ar 1 2 0 c,.p (.int .i64 k)]++List.replicate 14 anyA++[.p (.int .i64 n),.p (.int .i64 i)]++List.replicate 18 anyA++[.p (.int .i64 n),.p (.int .i64 j)]++List.replicate 37 anyA,[(0,rsO r R),(1,boO n s),(2,iOb c q)],3⟩
def srS (n:Nat) (P:Nat→PlF) (np:Nat) (r:Nat) (R:Nat→T_IntS) (d:Nat) (D:Nat→Int) (i:Nat):St :=
  ⟨[anyA,anyA,anyA,anyA,.ar 1 0 0 r,psL false n P np,anyA,.ar 1 1 0 d,.p (.int .i64 i)]++List.replicate 59 anyA,[(0,rsO r R),(1,iOb d D)],2⟩
def srT (n:Nat) (P:Nat→PlF) (np:Nat) (r:Nat) (R:Nat→T_IntS) (d:Nat) (D:Nat→Int) (i:Nat) (c:Nat) (q:Nat→Int) (e:Nat) (S:Nat→Int) (k:Nat):St :=
  ⟨[anyA,anyA,anyA,anyA,.ar 1 0 0 r,psL false n P np,anyA,.ar 1 1 0 d,.p (.int .i64 i),fzL c q,anyA,.ar 1 2 0 e,.p (.int .i64 k)]++List.replicate 55 anyA,[(0,rsO r R),(1,iOb d D),(2,iOb e S)],3⟩
def snI5 (c:Nat) (f:Nat→Int) (x:Int) (s:Nat):Int:=if s<c then f s else x
def ixS (n:Nat) (P:Nat→PlF) (np:Nat) (Q:PlF) (i:Nat):St :=
  ⟨[psL true n P np,pcL Q np,anyA,anyA,anyA,anyA,anyA,psL true n P np,.p (.int .i64 n),.p (.int .i64 i)]++List.replicate 9 anyA,[],0⟩
def iyS (n:Nat) (P:Nat→PlF) (np:Nat) (Q:PlF) (i:Nat):St :=
  ⟨[psL true n P np,pcL Q np,anyA,anyA,anyA,.p (.int .i64 i)]++List.replicate 39 anyA,[],0⟩
def iyT (n:Nat) (P:Nat→PlF) (np:Nat) (Q:PlF) (i:Nat) (b:Bool) (k:Nat):St :=
  ⟨[psL true n P np,pcL Q np,anyA,anyA,anyA,.p (.int .i64 i),.p (.bool b),.p (.int .i64 k)]++List.replicate 37 anyA,[],0⟩
def rfS (r:Nat) (R:Nat→T_IntS) (x:Int) (i:Nat):St :=
  ⟨List.replicate 7 anyA++[.p (.int .i64 x)]++List.replicate 20 anyA++[rsL r R,.p (.int .i64 r),.p (.int .i64 i)]++List.replicate 9 anyA,[],0⟩
def rgS (r:Nat) (R:Nat→T_IntS) (b:Bool) (x:Int) (i:Nat):St :=
  ⟨[anyA,anyA,anyA,rsL r R,.p (.bool b),anyA,anyA,.p (.int .i64 x),.p (.int .i64 i)]++List.replicate 37 anyA,[],0⟩
def z0:Nat→Int:=fun _=>0
theorem nrq5 (P Q:PlF) (n:Nat) :
    zT Tryz.f275 [rg 1,rg 5,.dec false,rg 3,.head] [pcL P n,pcL Q n] [] (nrS P Q n 0) =
    some (zf74,zD [(((↑n:Int) != (↑n:Int))=false),(AN n),(AP n (bRw P)),(AP n (bRw Q)),(AI ((↑n:Int))),((0:Int)=(↑0:Int))] [0,1,2,1,3,1,2,4,5]):=by kernel_rfl
theorem nrb (P Q:PlF) (n k:Nat) (b1 b2 b3 b4:Bool) :
    zM 0 [rg 1,.dec true,rg 6,rg 6,rm [(1,oc [] (.p (.bool b1))),(3,oc [] (.p (.bool b2))),(8,oc [] (.p (.bool b3))),(8,oc [] (.p (.bool b4)))] 2,.dec false,rg 2,.head] zf74 (nrS P Q n k) [] 1 (nrS P Q n (k+1)) =
    some (zf74,zD [((decide ((↑k:Int)<(↑n:Int)))=true),(IL 0 (↑k:Int)),(IT (↑k:Int) (↑n:Int)),(NT 0 1),((true=true)→ (AN 1)),zE 233 [.agg [.p (.int .i64 ((P k).1)),.p (.int .i64 ((P k).2.1))]] [] (.p (.bool b1)),(((!!b1)=true)→(NT 0 1)),(AG (!!b1)),(((!!b1)=true)→ zE 233 [.agg [.p (.int .i64 ((Q k).1)),.p (.int .i64 ((Q k).2.1))]] [] (.p (.bool b2))),(((!b1)=false)→ ((!!b1)=true)),(AG (!bif !b1 then true else !b2)),(((!bif !b1 then true else !b2)=true)→(NT 0 1)),(((!bif !b1 then true else !b2)=true)→(ZLo ((P k).1 - (Q k).1))),(((!bif !b1 then true else !b2)=true)→(ZHi ((P k).1 - (Q k).1))),(((!bif !b1 then true else !b2)=true)→ zE 179 [.p (.int .i64 ((P k).1 - (Q k).1)),.p (.int .i64 (-1)),.p (.int .i64 1)] [] (.p (.bool b3))),(((bif !b1 then true else !b2)=false)→ ((!bif !b1 then true else !b2)=true)),(AG (!bif bif !b1 then true else !b2 then true else !b3)),(((!bif bif !b1 then true else !b2 then true else !b3)=true)→(NT 0 1)),(((!bif bif !b1 then true else !b2 then true else !b3)=true)→(ZLo ((P k).2.1 - (Q k).2.1))),(((!bif bif !b1 then true else !b2 then true else !b3)=true)→(ZHi ((P k).2.1 - (Q k).2.1))),(((!bif bif !b1 then true else !b2 then true else !b3)=true)→ zE 179 [.p (.int .i64 ((P k).2.1 - (Q k).2.1)),.p (.int .i64 (-1)),.p (.int .i64 1)] [] (.p (.bool b4))),(((bif bif !b1 then true else !b2 then true else !b3)=false)→ ((!bif bif !b1 then true else !b2 then true else !b3)=true)),((bif bif bif !b1 then true else !b2 then true else !b3 then true else !b4)=false),(ZLo ((↑k:Int)+1)),(ZHi ((↑k:Int)+1)),(AN n),(AP n (bRw P)),(AP n (bRw Q)),(AI ((↑n:Int))),((((↑k:Int)+1):Int)=(↑(k+1):Int))] [0,1,2,3,4,1,2,3,4,3,5,6,7,8,7,9,10,11,10,11,10,10,12,13,10,14,10,15,16,17,16,17,16,16,18,19,16,20,16,21,22,23,24,25,26,25,27,25,26,28,29]):=by kernel_rfl
theorem nrc (P Q:PlF) (n k:Nat) (b1 b2 b3 b4:Bool) :
    zP Tryz.f275 0 [rg 1,.dec true,rg 6,rg 6,rm [(1,oc [] (.p (.bool b1))),(3,oc [] (.p (.bool b2))),(8,oc [] (.p (.bool b3))),(8,oc [] (.p (.bool b4)))] 2,.dec true,rg 1] zf74 (nrS P Q n k) [] 1 [] (.p (.bool false)) =
    some (zD [((decide ((↑k:Int)<(↑n:Int)))=true),(IL 0 (↑k:Int)),(IT (↑k:Int) (↑n:Int)),(NT 0 1),((true=true)→ (AN 1)),zE 233 [.agg [.p (.int .i64 ((P k).1)),.p (.int .i64 ((P k).2.1))]] [] (.p (.bool b1)),(((!!b1)=true)→(NT 0 1)),(AG (!!b1)),(((!!b1)=true)→ zE 233 [.agg [.p (.int .i64 ((Q k).1)),.p (.int .i64 ((Q k).2.1))]] [] (.p (.bool b2))),(((!b1)=false)→ ((!!b1)=true)),(AG (!bif !b1 then true else !b2)),(((!bif !b1 then true else !b2)=true)→(NT 0 1)),(((!bif !b1 then true else !b2)=true)→(ZLo ((P k).1 - (Q k).1))),(((!bif !b1 then true else !b2)=true)→(ZHi ((P k).1 - (Q k).1))),(((!bif !b1 then true else !b2)=true)→ zE 179 [.p (.int .i64 ((P k).1 - (Q k).1)),.p (.int .i64 (-1)),.p (.int .i64 1)] [] (.p (.bool b3))),(((bif !b1 then true else !b2)=false)→ ((!bif !b1 then true else !b2)=true)),(AG (!bif bif !b1 then true else !b2 then true else !b3)),(((!bif bif !b1 then true else !b2 then true else !b3)=true)→(NT 0 1)),(((!bif bif !b1 then true else !b2 then true else !b3)=true)→(ZLo ((P k).2.1 - (Q k).2.1))),(((!bif bif !b1 then true else !b2 then true else !b3)=true)→(ZHi ((P k).2.1 - (Q k).2.1))),(((!bif bif !b1 then true else !b2 then true else !b3)=true)→ zE 179 [.p (.int .i64 ((P k).2.1 - (Q k).2.1)),.p (.int .i64 (-1)),.p (.int .i64 1)] [] (.p (.bool b4))),(((bif bif !b1 then true else !b2 then true else !b3)=false)→ ((!bif bif !b1 then true else !b2 then true else !b3)=true)),((bif bif bif !b1 then true else !b2 then true else !b3 then true else !b4)=true),(false=false)] [0,1,2,3,4,1,2,3,4,3,5,6,7,8,7,9,10,11,10,11,10,10,12,13,10,14,10,15,16,17,16,17,16,16,18,19,16,20,16,21,22,23]):=by kernel_rfl
theorem nrp5 (P Q:PlF) (n k:Nat) :
    zP Tryz.f275 0 [rg 1,.dec false,rg 1] zf74 (nrS P Q n k) [] 1 [] (.p (.bool true)) =
    some [((decide ((↑k:Int)<(↑n:Int)))=false),(true=true)]:=by kernel_rfl
theorem nst (x y:T_Place) (b1 b2 b3 b4:Bool) :
    zS Tryz.f364 [rg 3,rm [(1,oc [] (.p (.bool b1))),(2,oc [] (.p (.bool b2))),(7,oc [] (.p (.bool b3))),(7,oc [] (.p (.bool b4)))] 2] [ltA x,ltA y] [] [] (.p (.bool (bif bif bif b1 then b2 else false then b3 else false then b4 else false))) =
    some (zD [(NT 0 1),zE 316 [.agg [.p (.int .i64 x.1),.p (.int .i64 x.2.1)]] [] (.p (.bool b1)),((b1=true)→(NT 0 1)),(AG b1),((b1=true)→ zE 316 [.agg [.p (.int .i64 y.1),.p (.int .i64 y.2.1)]] [] (.p (.bool b2))),(AG (bif b1 then b2 else false)),(((bif b1 then b2 else false)=true)→(NT 0 1)),(((bif b1 then b2 else false)=true)→(ZLo (x.1 - y.1))),(((bif b1 then b2 else false)=true)→(ZHi (x.1 - y.1))),(((bif b1 then b2 else false)=true)→ zE 167 [.p (.int .i64 (x.1 - y.1)),.p (.int .i64 (-1)),.p (.int .i64 1)] [] (.p (.bool b3))),(AG (bif bif b1 then b2 else false then b3 else false)),(((bif bif b1 then b2 else false then b3 else false)=true)→(NT 0 1)),(((bif bif b1 then b2 else false then b3 else false)=true)→(ZLo (x.2.1 - y.2.1))),(((bif bif b1 then b2 else false then b3 else false)=true)→(ZHi (x.2.1 - y.2.1))),(((bif bif b1 then b2 else false then b3 else false)=true)→ zE 167 [.p (.int .i64 (x.2.1 - y.2.1)),.p (.int .i64 (-1)),.p (.int .i64 1)] [] (.p (.bool b4))),((bif bif bif b1 then b2 else false then b3 else false then b4 else false)=(bif bif bif b1 then b2 else false then b3 else false then b4 else false))] [0,1,2,3,4,3,5,6,5,6,5,5,7,8,5,9,5,10,11,10,11,10,10,12,13,10,14,10,15]):=by kernel_rfl
theorem nez (P Q:PlF) (n:Nat) :
    zT Tryz.f334 [rg 1,rg 1,.head] [pcL P n,pcL Q n] [] (neS P Q n 0) =
    some (zf84,[(AN n),(AP n (bRw P)),(AN n),(AP n (bRw Q)),((0:Int)=(↑0:Int))]):=by kernel_rfl
theorem neb (P Q:PlF) (n k:Nat) :
    zM 0 [rg 10,.dec true,rm [(8,oc [] (.p (.bool true)))] 1,.dec false,rg 3,.head] zf84 (neS P Q n k) [] 1 (neS P Q n (k+1)) =
    some (zf84,zD [(AG (decide ((↑k:Int)<(↑n:Int)))),((bif decide ((↑k:Int)<(↑n:Int)) then decide ((↑k:Int)<(↑n:Int)) else false)=true),(IL 0 (↑k:Int)),(IT (↑k:Int) (↑n:Int)),zE 364 [.agg [.p (.int .i64 ((P k).1)),.p (.int .i64 ((P k).2.1))],.agg [.p (.int .i64 ((Q k).1)),.p (.int .i64 ((Q k).2.1))]] [] (.p (.bool true)),((!true)=false),(ZLo ((↑k:Int)+1)),(ZHi ((↑k:Int)+1)),(AN n),(AP n (bRw P)),(AP n (bRw Q)),((((↑k:Int)+1):Int)=(↑(k+1):Int))] [0,0,0,0,1,2,3,2,3,4,5,6,7,8,9,8,10,11]):=by kernel_rfl
theorem nec (P Q:PlF) (n k:Nat) :
    zP Tryz.f334 0 [rg 10,.dec true,rm [(8,oc [] (.p (.bool false)))] 1,.dec true,rg 1] zf84 (neS P Q n k) [] 1 [] (.p (.bool false)) =
    some (zD [(AG (decide ((↑k:Int)<(↑n:Int)))),((bif decide ((↑k:Int)<(↑n:Int)) then decide ((↑k:Int)<(↑n:Int)) else false)=true),(IL 0 (↑k:Int)),(IT (↑k:Int) (↑n:Int)),zE 364 [.agg [.p (.int .i64 ((P k).1)),.p (.int .i64 ((P k).2.1))],.agg [.p (.int .i64 ((Q k).1)),.p (.int .i64 ((Q k).2.1))]] [] (.p (.bool false)),((!false)=true),(false=false)] [0,0,0,0,1,2,3,2,3,4,5,6]):=by kernel_rfl
theorem nee (P Q:PlF) (n k:Nat) :
    zP Tryz.f334 0 [rg 10,.dec false,rg 6] zf84 (neS P Q n k) [] 1 [] (.p (.bool ((n:Int)==(n:Int)))) =
    some (zD [(AG (decide ((↑k:Int)<(↑n:Int)))),((bif decide ((↑k:Int)<(↑n:Int)) then decide ((↑k:Int)<(↑n:Int)) else false)=false),(((↑n:Int)==(↑n:Int))=((↑n:Int)==(↑n:Int)))] [0,0,0,0,1,2]):=by kernel_rfl
theorem rqz5 (n:Nat) (P:Nat→PlF) (np:Nat) (s:Nat) :
    zT Tryz.f268 [rg 2,rg 3,rg 2,rg 1,.head] [psL true n P np,.p (.int .i64 s)] [96,160] (rqS5 n P np s 1 (fun _=>(s:Int)) (fun _=>-1) 0) =
    some (zf57,[(AN n),(AP n (fun i=>[.seq true 2 np (fun i_1=>[.int .i64 ((P i i_1).1),.int .i64 ((P i i_1).2.1)])])),(AI ((↑s:Int))),(AN 0),(AN 1),(AN 0),(AN 1),((0:Int)=(↑0:Int)),(AN 1),(NL 1 1),(AA 1 (fun i=>[.p (.int .i64 (↑s:Int))])),(AN 1),(NL 1 1),(AA 1 (fun i=>[.p (.int .i64 (-1))]))]):=by kernel_rfl
theorem rca (n:Nat) (P:Nat→PlF) (np:Nat) (s c:Nat) (q r:Nat→Int) (k:Nat) :
    zM 0 [rg 4,.dec true,rg 1,.head] zf57 (rqS5 n P np s c q r k) [0,1] 1 (rcT n P np s c q r k 0) =
    some (zf17,[((decide ((↑k:Int)<(↑c:Int)))=true),(AN n),(AP n (fun i=>[.seq true 2 np (fun i_1=>[.int .i64 ((P i i_1).1),.int .i64 ((P i i_1).2.1)])])),(AI ((↑s:Int))),(AN 0),(AN c),(AN 0),(AN c),(AI ((↑k:Int))),((0:Int)=(↑0:Int)),(AN 1),(NL c c),(AA c (fun i=>[.p (.int .i64 (q i))])),(AN 1),(NL c c),(AA c (fun i=>[.p (.int .i64 (r i))]))]):=by kernel_rfl
theorem rcb (n:Nat) (P:Nat→PlF) (np:Nat) (s c:Nat) (q r:Nat→Int) (k j:Nat) :
    zM 0 [rg 4,.dec true,rm [(2,oc [] (.p (.bool false))),(13,oc [] (.p (.bool true)))] 1,.dec true,rg 5,rg 5,rg 3,.head] zf17 (rcT n P np s c q r k j) [802,962] 1 (rcT n P np s (c+1) (snI5 c q j) (snI5 c r k) k (j+1)) =
    some (zf17,zD [((decide ((↑j:Int)<(↑n:Int)))=true),(AN 1),(NL c c),zE 172 [.p (.seq true 1 c (fun i=>[.int .i64 (q i)])),.p (.int .i64 (↑j:Int))] [] (.p (.bool false)),(AG (!false)),(((!false)=true)→(IL 0 (↑k:Int))),(((!false)=true)→(IT (↑k:Int) (↑c:Int))),(((!false)=true)→(NT k c)),(((!false)=true)→(IL 0 (q k))),(((!false)=true)→(IT (q k) (↑n:Int))),(((!false)=true)→(IL 0 (↑j:Int))),(((!false)=true)→(IT (↑j:Int) (↑n:Int))),(((!false)=true)→ zE 334 [.p (.seq true 2 np (fun i=>[.int .i64 ((P (q k).toNat i).1),.int .i64 ((P (q k).toNat i).2.1)])),.p (.seq true 2 np (fun i=>[.int .i64 ((P j i).1),.int .i64 ((P j i).2.1)]))] [] (.p (.bool true))),((bif !false then true else false)=true),(NL 1 1),(NL ((c+1)*8) 140737488355328),(NL (c+1) 9223372036854775807),(ZLo ((↑j:Int)+1)),(ZHi ((↑j:Int)+1)),(AN n),(AP n (fun i=>[.seq true 2 np (fun i_1=>[.int .i64 ((P i i_1).1),.int .i64 ((P i i_1).2.1)])])),(AI ((↑s:Int))),(AN 0),(AN ((c+1))),(AI ((↑k:Int))),((((↑j:Int)+1):Int)=(↑(j+1):Int)),(NL (c+1) (c+1)),(CV [(962,⟨false,1,(c+1),(fun i_1=>(if (i_1<c) then [.p (.int .i64 (r i_1))] else [.p (.int .i64 (↑k:Int))]))⟩),(930,⟨false,1,1,(fun i_1=>[.p (.int .i64 (↑k:Int))])⟩),(802,⟨false,1,(c+1),(fun i_1=>(if (i_1<c) then [.p (.int .i64 (q i_1))] else [.p (.int .i64 (↑j:Int))]))⟩),(770,⟨false,1,1,(fun i_1=>[.p (.int .i64 (↑j:Int))])⟩)] [802,962] 1 (c+1) (fun i=>if (i<c) then [.p (.int .i64 (q i))] else [.p (.int .i64 (↑j:Int))]) (fun i=>[.p (.int .i64 (snI5 c q (↑j:Int) i))])),(CV [(962,⟨false,1,(c+1),(fun i_1=>(if (i_1<c) then [.p (.int .i64 (r i_1))] else [.p (.int .i64 (↑k:Int))]))⟩),(930,⟨false,1,1,(fun i_1=>[.p (.int .i64 (↑k:Int))])⟩),(802,⟨false,1,(c+1),(fun i_1=>(if (i_1<c) then [.p (.int .i64 (q i_1))] else [.p (.int .i64 (↑j:Int))]))⟩),(770,⟨false,1,1,(fun i_1=>[.p (.int .i64 (↑j:Int))])⟩)] [802,962] 1 (c+1) (fun i=>if (i<c) then [.p (.int .i64 (r i))] else [.p (.int .i64 (↑k:Int))]) (fun i=>[.p (.int .i64 (snI5 c r (↑k:Int) i))]))] [0,1,2,3,4,4,5,6,4,7,4,4,8,9,4,4,4,10,11,4,4,4,12,4,13,14,2,15,16,14,2,15,16,17,18,19,20,21,22,23,22,23,24,25,1,26,27,1,26,28]):=by kernel_rfl
theorem rcc (n:Nat) (P:Nat→PlF) (np:Nat) (s c:Nat) (q r:Nat→Int) (k j:Nat) (b1 b2:Bool) :
    zM 0 [rg 4,.dec true,rm [(2,oc [] (.p (.bool b1))),(13,oc [] (.p (.bool b2)))] 1,.dec false,rg 3,.head] zf17 (rcT n P np s c q r k j) [0,1] 1 (rcT n P np s c q r k (j+1)) =
    some (zf17,zD [((decide ((↑j:Int)<(↑n:Int)))=true),(AN 1),(NL c c),zE 172 [.p (.seq true 1 c (fun i=>[.int .i64 (q i)])),.p (.int .i64 (↑j:Int))] [] (.p (.bool b1)),(AG (!b1)),(((!b1)=true)→(IL 0 (↑k:Int))),(((!b1)=true)→(IT (↑k:Int) (↑c:Int))),(((!b1)=true)→(NT k c)),(((!b1)=true)→(IL 0 (q k))),(((!b1)=true)→(IT (q k) (↑n:Int))),(((!b1)=true)→(IL 0 (↑j:Int))),(((!b1)=true)→(IT (↑j:Int) (↑n:Int))),(((!b1)=true)→ zE 334 [.p (.seq true 2 np (fun i=>[.int .i64 ((P (q k).toNat i).1),.int .i64 ((P (q k).toNat i).2.1)])),.p (.seq true 2 np (fun i=>[.int .i64 ((P j i).1),.int .i64 ((P j i).2.1)]))] [] (.p (.bool b2))),((bif !b1 then b2 else false)=false),(ZLo ((↑j:Int)+1)),(ZHi ((↑j:Int)+1)),(AN n),(AP n (fun i=>[.seq true 2 np (fun i_1=>[.int .i64 ((P i i_1).1),.int .i64 ((P i i_1).2.1)])])),(AI ((↑s:Int))),(AN 0),(AN c),(AI ((↑k:Int))),((((↑j:Int)+1):Int)=(↑(j+1):Int)),(AA c (fun i=>[.p (.int .i64 (q i))])),(AA c (fun i=>[.p (.int .i64 (r i))]))] [0,1,2,3,4,4,5,6,4,7,4,4,8,9,4,4,4,10,11,4,4,4,12,4,13,14,15,16,17,18,19,20,19,20,21,22,1,2,23,1,2,24]):=by kernel_rfl
theorem rcd (n:Nat) (P:Nat→PlF) (np:Nat) (s c:Nat) (q r:Nat→Int) (k j:Nat) :
    zM 0 [rg 4,.dec false,rg 3,.head] zf17 (rcT n P np s c q r k j) [0,1] 1 (rqS5 n P np s c q r (k+1)) =
    some (zf57,[((decide ((↑j:Int)<(↑n:Int)))=false),(ZLo ((↑k:Int)+1)),(ZHi ((↑k:Int)+1)),(AN n),(AP n (fun i=>[.seq true 2 np (fun i_1=>[.int .i64 ((P i i_1).1),.int .i64 ((P i i_1).2.1)])])),(AI ((↑s:Int))),(AN 0),(AN c),(AN 0),(AN c),((((↑k:Int)+1):Int)=(↑(k+1):Int)),(AN 1),(NL c c),(AA c (fun i=>[.p (.int .i64 (q i))])),(AN 1),(NL c c),(AA c (fun i=>[.p (.int .i64 (r i))]))]):=by kernel_rfl
theorem rqe5 (n:Nat) (P:Nat→PlF) (np:Nat) (s c:Nat) (q r:Nat→Int) (k:Nat) :
    zP Tryz.f268 0 [rg 4,.dec false,rg 4] zf57 (rqS5 n P np s c q r k) [0,1] 1 [(0,iOb c q),(1,iOb c r)] (.tup [.ar 1 0 0 c,.ar 1 1 0 c]) =
    some [((decide ((↑k:Int)<(↑c:Int)))=false),(AN 0),(AN c),(AN 0),(AN c),(AN 1),(NL c c),(AA c (fun i=>[.p (.int .i64 (q i))])),(AN 1),(NL c c),(AA c (fun i=>[.p (.int .i64 (r i))])),(AE c),(AE c)]:=by kernel_rfl
theorem pss (g:Nat→T_Bar) (nb:Nat) (N:Int) (pl:PlF) (np:Nat) (K:T_IntS) (n:Nat) (P:Nat→PlF) (b:Bool) :
    zS Tryz.f274 [rg 3,rm [(1,oc [] (.tup [psL false n P np,.p (.bool b)]))] 5,rg 9] [tsA g nb N pl np K] [] [] (.tup [psL false n P np,.p (.bool (bif b then decide ((n:Int)≤100) else false))]) =
    some [(NT 0 1),zE 159 [(zf25 N nb g np pl K)] [] ((zf89 n np P b)),(AG b),(AG b),(AG b),(AN n),(AP n (fun i=>[.seq false 2 np (fun i_1=>[.int .i64 ((P i i_1).1),.int .i64 ((P i i_1).2.1)])])),((bif b then decide ((↑n:Int)≤100) else false)=(bif b then decide ((↑n:Int)≤100) else false)),(false=false),(∀ i:Nat,(((i:Nat)<n)→All [(false=false),(AE np)]))]:=by kernel_rfl
theorem rmy (g:Nat→T_Bar) (nb:Nat) (N:Int) (pl:PlF) (np:Nat) (K:T_IntS) (n:Nat) (P:Nat→PlF) :
    zS Tryz.f161 [rg 3,rg 2,rm [(1,oc [] (.tup [psL false n P np,.p (.bool false)]))] 5,rg 2,.dec true,rg 3] [tsA g nb N pl np K] [] [] (.tup [rsL 0 (fun _=>(0,z0)),.p (.bool false)]) =
    some [(NT 0 1),zE 274 [(zf25 N nb g np pl K)] [] ((zf87 n np P)),((!false)=true),(AN 1),(NL 0 0),(AN 0),(∀ i:Nat,(((i:Nat)<0)→(([.nil]:List PV)=[.seq false 1 0 (fun i_1=>[.int .i64 ((0,z0).2 i_1)])]))),(false=false),(false=false),(∀ i:Nat,(((i:Nat)<0)→All [(false=false),(AE 0)]))]:=by kernel_rfl
theorem rmq5 (g:Nat→T_Bar) (nb:Nat) (N:Int) (pl:PlF) (np:Nat) (K:T_IntS) (n:Nat) (P:Nat→PlF) :
    zT Tryz.f161 [rg 3,rg 2,rm [(1,oc [] (.tup [psL false n P np,.p (.bool true)]))] 5,rg 2,.dec false,rg 4,rg 3,.head] [tsA g nb N pl np K] [96,512] (rmS n P np 0 (fun _=>(0,z0)) (fun _=>false) 0) =
    some (zf35,[(NT 0 1),zE 274 [(zf25 N nb g np pl K)] [] ((zf88 n np P)),((!true)=false),(IL 0 (↑n:Int)),(IL (↑n:Int) (↑n:Int)),(IL ((↑n:Int)*(↑1:Int)) 281474976710656),(ZHi (↑n:Int)),(AN 0),(AN 0),(AN n),(AP n (fun i=>[.seq false 2 np (fun i_1=>[.int .i64 ((P i i_1).1),.int .i64 ((P i i_1).2.1)])])),(AN 0),(AN n),(AI ((↑n:Int))),((0:Int)=(↑0:Int)),(AN 1),(NL 0 0),(∀ i:Nat,(((i:Nat)<0)→(All []∧(([.p (.nil)]:List AV)=[.p (.seq false 1 0 (fun i_1=>[.int .i64 ((0,z0).2 i_1)]))])))),(AN 1),(NL n n),(AA n (fun i=>[.p (.bool false)]))]):=by kernel_rfl
theorem rma (n:Nat) (P:Nat→PlF) (np r:Nat) (R:Nat→T_IntS) (s:Nat→Bool) (i:Nat) :
    zM 0 [rg 1,.dec true,rg 2,rg 4,.dec true,rg 2,.head] zf35 (rmS n P np r R s i) [0,1] 1 (rmS n P np r R s (i+1)) =
    some (zf35,[((decide ((↑i:Int)<(↑n:Int)))=true),(IL 0 (↑i:Int)),(IT (↑i:Int) (↑n:Int)),(NT i n),((s i)=true),(ZLo ((↑i:Int)+1)),(ZHi ((↑i:Int)+1)),(AN 0),(AN r),(AN n),(AP n (fun i_1=>[.seq false 2 np (fun i_2=>[.int .i64 ((P i_1 i_2).1),.int .i64 ((P i_1 i_2).2.1)])])),(AN 0),(AN n),(AI ((↑n:Int))),((((↑i:Int)+1):Int)=(↑(i+1):Int)),(AN 1),(NL r r),(AA r (fun i_1=>[.p (.seq false 1 ((R i_1).1) (fun i_2=>[.int .i64 ((R i_1).2 i_2)]))])),(AN 1),(NL n n),(AA n (fun i_1=>[.p (.bool (s i_1))]))]):=by kernel_rfl
theorem rmb (n:Nat) (P:Nat→PlF) (np r:Nat) (R:Nat→T_IntS) (s:Nat→Bool) (i:Nat) :
    zM 0 [rg 1,.dec true,rg 2,rg 4,.dec false,rg 4,rg 3,rg 1,.head] zf35 (rmS n P np r R s i) [0,1,386] 1 (rmT n P np r R (upB5 s i) i 1 (fun _=>(i:Int)) 0) =
    some (zf4,zD [((decide ((↑i:Int)<(↑n:Int)))=true),(IL 0 (↑i:Int)),(IT (↑i:Int) (↑n:Int)),(NT i n),((s i)=false),((false=true)→ ((n:Nat)=1)),(AN 0),(AN r),(AN n),(AP n (fun i_1=>[.seq false 2 np (fun i_2=>[.int .i64 ((P i_1 i_2).1),.int .i64 ((P i_1 i_2).2.1)])])),(AN 1),((0:Int)=(↑0:Int)),(AI ((↑n:Int))),(AI ((↑i:Int))),(NL r r),(AA r (fun i_1=>[.p (.seq false 1 ((R i_1).1) (fun i_2=>[.int .i64 ((R i_1).2 i_2)]))])),(NL n n),(∀ i_1:Nat,(((i_1:Nat)<n)→(All (cvtL false [(386,⟨false,1,1,(fun i_2=>[.p (.int .i64 (↑i:Int))])⟩),(1,⟨false,1,n,(fun i_2=>(if (i_2=i) then [.p (.bool true)] else [.p (.bool (s i_2))]))⟩),(0,⟨false,1,r,(fun i_2=>[.p (.seq false 1 ((R i_2).1) (fun i_3=>[.int .i64 ((R i_2).2 i_3)]))])⟩)] [0,1,386] 1 (if (i_1=i) then [.p (.bool true)] else [.p (.bool (s i_1))])).2∧(((cvtL false [(386,⟨false,1,1,(fun i_2=>[.p (.int .i64 (↑i:Int))])⟩),(1,⟨false,1,n,(fun i_2=>(if (i_2=i) then [.p (.bool true)] else [.p (.bool (s i_2))]))⟩),(0,⟨false,1,r,(fun i_2=>[.p (.seq false 1 ((R i_2).1) (fun i_3=>[.int .i64 ((R i_2).2 i_3)]))])⟩)] [0,1,386] 1 (if (i_1=i) then [.p (.bool true)] else [.p (.bool (s i_1))])).1:List AV)=[.p (.bool (upB5 s i i_1))])))),(NL 1 1),(AA 1 (fun i_1=>[.p (.int .i64 (↑i:Int))]))] [0,1,2,3,4,1,2,3,5,6,7,8,9,6,8,6,10,11,12,13,10,14,15,10,16,17,10,18,19]):=by kernel_rfl
theorem rmc (n:Nat) (P:Nat→PlF) (np r:Nat) (R:Nat→T_IntS) (s:Nat→Bool) (i c:Nat) (q:Nat→Int) (k:Nat) :
    zM 0 [rg 4,.dec true,rg 3,.head] zf4 (rmT n P np r R s i c q k) [0,1,2] 1 (rmU n P np r R s i c q k 0) =
    some (zf2,[((decide ((↑k:Int)<(↑c:Int)))=true),(AN 0),(AN r),(AN n),(AP n (fun i_1=>[.seq false 2 np (fun i_2=>[.int .i64 ((P i_1 i_2).1),.int .i64 ((P i_1 i_2).2.1)])])),(AN 0),(AN n),(AN 0),(AN c),(AI ((↑k:Int))),(AI ((↑n:Int))),(AI ((↑i:Int))),(AI ((↑n:Int))),((0:Int)=(↑0:Int)),(AN 1),(NL r r),(AA r (fun i_1=>[.p (.seq false 1 ((R i_1).1) (fun i_2=>[.int .i64 ((R i_1).2 i_2)]))])),(AN 1),(NL n n),(AA n (fun i_1=>[.p (.bool (s i_1))])),(AN 1),(NL c c),(AA c (fun i_1=>[.p (.int .i64 (q i_1))]))]):=by kernel_rfl
theorem rmd (n:Nat) (P:Nat→PlF) (np r:Nat) (R:Nat→T_IntS) (s:Nat→Bool) (i c:Nat) (q:Nat→Int) (k j:Nat) (b:Bool) :
    zM 0 [rg 1,.dec true,rg 2,rm [(17,oc [] (.p (.bool b)))] 1,.dec true,rg 4,rg 5,rg 2,.head] zf2 (rmU n P np r R s i c q k j) [0,1,931] 1 (rmU n P np r R (upB5 s j) i (c+1) (snI5 c q j) k (j+1)) =
    some (zf2,zD [((decide ((↑j:Int)<(↑n:Int)))=true),(IL 0 (↑j:Int)),(IT (↑j:Int) (↑n:Int)),(NT j n),(AG (!s j)),(((!s j)=true)→(IL 0 (↑k:Int))),(((!s j)=true)→(IT (↑k:Int) (↑c:Int))),(((!s j)=true)→(NT k c)),(((!s j)=true)→(IL 0 (q k))),(((!s j)=true)→(IT (q k) (↑n:Int))),(((!s j)=true)→(IL 0 (↑j:Int))),(((!s j)=true)→(IT (↑j:Int) (↑n:Int))),(((!s j)=true)→ zE 275 [.p (.seq true 2 np (fun i_1=>[.int .i64 ((P (q k).toNat i_1).1),.int .i64 ((P (q k).toNat i_1).2.1)])),.p (.seq true 2 np (fun i_1=>[.int .i64 ((P j i_1).1),.int .i64 ((P j i_1).2.1)]))] [] (.p (.bool b))),((bif !s j then b else false)=true),((false=true)→ ((n:Nat)=1)),(NL 1 1),(NL c c),(NL ((c+1)*8) 140737488355328),(NL (c+1) 9223372036854775807),(ZLo ((↑j:Int)+1)),(ZHi ((↑j:Int)+1)),(AN 0),(AN r),(AN n),(AP n (fun i_1=>[.seq false 2 np (fun i_2=>[.int .i64 ((P i_1 i_2).1),.int .i64 ((P i_1 i_2).2.1)])])),(AN ((c+1))),(AI ((↑k:Int))),(AI ((↑n:Int))),(AI ((↑i:Int))),((((↑j:Int)+1):Int)=(↑(j+1):Int)),(AN 1),(NL r r),(AA r (fun i_1=>[.p (.seq false 1 ((R i_1).1) (fun i_2=>[.int .i64 ((R i_1).2 i_2)]))])),(NL n n),(CV [(931,⟨false,1,(c+1),(fun i_2=>(if (i_2<c) then [.p (.int .i64 (q i_2))] else [.p (.int .i64 (↑j:Int))]))⟩),(899,⟨false,1,1,(fun i_2=>[.p (.int .i64 (↑j:Int))])⟩),(1,⟨false,1,n,(fun i_2=>(if (i_2=j) then [.p (.bool true)] else [.p (.bool (s i_2))]))⟩),(0,⟨false,1,r,(fun i_2=>[.p (.seq false 1 ((R i_2).1) (fun i_3=>[.int .i64 ((R i_2).2 i_3)]))])⟩)] [0,1,931] 1 n (fun i_1=>if (i_1=j) then [.p (.bool true)] else [.p (.bool (s i_1))]) (fun i_1=>[.p (.bool (upB5 s j i_1))])),(NL (c+1) (c+1)),(CV [(931,⟨false,1,(c+1),(fun i_2=>(if (i_2<c) then [.p (.int .i64 (q i_2))] else [.p (.int .i64 (↑j:Int))]))⟩),(899,⟨false,1,1,(fun i_2=>[.p (.int .i64 (↑j:Int))])⟩),(1,⟨false,1,n,(fun i_2=>(if (i_2=j) then [.p (.bool true)] else [.p (.bool (s i_2))]))⟩),(0,⟨false,1,r,(fun i_2=>[.p (.seq false 1 ((R i_2).1) (fun i_3=>[.int .i64 ((R i_2).2 i_3)]))])⟩)] [0,1,931] 1 (c+1) (fun i_1=>if (i_1<c) then [.p (.int .i64 (q i_1))] else [.p (.int .i64 (↑j:Int))]) (fun i_1=>[.p (.int .i64 (snI5 c q (↑j:Int) i_1))]))] [0,1,2,3,4,4,5,6,4,7,4,4,8,9,4,4,4,10,11,4,4,4,12,4,13,1,2,3,14,15,16,17,18,19,20,21,22,23,24,21,23,21,25,26,27,28,27,29,30,31,32,30,33,34,30,35,36]):=by kernel_rfl
theorem rmp5 (n:Nat) (P:Nat→PlF) (np r:Nat) (R:Nat→T_IntS) (s:Nat→Bool) (i c:Nat) (q:Nat→Int) (k j:Nat) (b:Bool) :
    zM 0 [rg 1,.dec true,rg 2,rm [(17,oc [] (.p (.bool b)))] 1,.dec false,rg 2,.head] zf2 (rmU n P np r R s i c q k j) [0,1,2] 1 (rmU n P np r R s i c q k (j+1)) =
    some (zf2,zD [((decide ((↑j:Int)<(↑n:Int)))=true),(IL 0 (↑j:Int)),(IT (↑j:Int) (↑n:Int)),(NT j n),(AG (!s j)),(((!s j)=true)→(IL 0 (↑k:Int))),(((!s j)=true)→(IT (↑k:Int) (↑c:Int))),(((!s j)=true)→(NT k c)),(((!s j)=true)→(IL 0 (q k))),(((!s j)=true)→(IT (q k) (↑n:Int))),(((!s j)=true)→(IL 0 (↑j:Int))),(((!s j)=true)→(IT (↑j:Int) (↑n:Int))),(((!s j)=true)→ zE 275 [.p (.seq true 2 np (fun i_1=>[.int .i64 ((P (q k).toNat i_1).1),.int .i64 ((P (q k).toNat i_1).2.1)])),.p (.seq true 2 np (fun i_1=>[.int .i64 ((P j i_1).1),.int .i64 ((P j i_1).2.1)]))] [] (.p (.bool b))),((bif !s j then b else false)=false),(ZLo ((↑j:Int)+1)),(ZHi ((↑j:Int)+1)),(AN 0),(AN r),(AN n),(AP n (fun i_1=>[.seq false 2 np (fun i_2=>[.int .i64 ((P i_1 i_2).1),.int .i64 ((P i_1 i_2).2.1)])])),(AN c),(AI ((↑k:Int))),(AI ((↑n:Int))),(AI ((↑i:Int))),((((↑j:Int)+1):Int)=(↑(j+1):Int)),(AN 1),(NL r r),(AA r (fun i_1=>[.p (.seq false 1 ((R i_1).1) (fun i_2=>[.int .i64 ((R i_1).2 i_2)]))])),(NL n n),(AA n (fun i_1=>[.p (.bool (s i_1))])),(NL c c),(AA c (fun i_1=>[.p (.int .i64 (q i_1))]))] [0,1,2,3,4,4,5,6,4,7,4,4,8,9,4,4,4,10,11,4,4,4,12,4,13,14,15,16,17,18,19,16,18,16,20,21,22,23,22,24,25,26,27,25,28,29,25,30,31]):=by kernel_rfl
theorem rmf (n:Nat) (P:Nat→PlF) (np r:Nat) (R:Nat→T_IntS) (s:Nat→Bool) (i c:Nat) (q:Nat→Int) (k j:Nat) :
    zM 0 [rg 1,.dec false,rg 3,.head] zf2 (rmU n P np r R s i c q k j) [0,1,2] 1 (rmT n P np r R s i c q (k+1)) =
    some (zf4,[((decide ((↑j:Int)<(↑n:Int)))=false),(ZLo ((↑k:Int)+1)),(ZHi ((↑k:Int)+1)),(AN 0),(AN r),(AN n),(AP n (fun i_1=>[.seq false 2 np (fun i_2=>[.int .i64 ((P i_1 i_2).1),.int .i64 ((P i_1 i_2).2.1)])])),(AN 0),(AN n),(AN 0),(AN c),((((↑k:Int)+1):Int)=(↑(k+1):Int)),(AI ((↑n:Int))),(AI ((↑i:Int))),(AN 1),(NL r r),(AA r (fun i_1=>[.p (.seq false 1 ((R i_1).1) (fun i_2=>[.int .i64 ((R i_1).2 i_2)]))])),(AN 1),(NL n n),(AA n (fun i_1=>[.p (.bool (s i_1))])),(AN 1),(NL c c),(AA c (fun i_1=>[.p (.int .i64 (q i_1))]))]):=by kernel_rfl
theorem rmg (n:Nat) (P:Nat→PlF) (np r:Nat) (R:Nat→T_IntS) (s:Nat→Bool) (i c:Nat) (q h:Nat→Int) (k:Nat) :
    zM 0 [rg 4,.dec false,rm [(1,oq [2] [(0,iOb c h)] (.tup []))] 0,rg 5,rg 2,.head] zf4 (rmT n P np r R s i c q k) [291,1] 1 (rmS n P np (r+1) (snR5 r R (c,h)) s (i+1)) =
    some (zf35,[((decide ((↑k:Int)<(↑c:Int)))=false),(AE c),Con Tryz.prog 276 1 [(0,⟨false,1,c,(fun i_1=>[.p (.int .i64 (q i_1))])⟩)] [.ar 1 0 0 c] [(0,⟨false,1,c,(fun i_1=>[.p (.int .i64 (h i_1))])⟩)] (.tup []),(NL 1 1),(NL r r),(NL ((r+1)*24) 140737488355328),(NL (r+1) 9223372036854775807),(ZLo ((↑i:Int)+1)),(ZHi ((↑i:Int)+1)),(AN 0),(AN ((r+1))),(AN n),(AP n (fun i_1=>[.seq false 2 np (fun i_2=>[.int .i64 ((P i_1 i_2).1),.int .i64 ((P i_1 i_2).2.1)])])),(AN 0),(AN n),(AI ((↑n:Int))),((((↑i:Int)+1):Int)=(↑(i+1):Int)),(AN 1),(NL (r+1) (r+1)),(CV [(291,⟨false,1,(r+1),(fun i_2=>(if (i_2<r) then [.p (.seq false 1 ((R i_2).1) (fun i_3=>[.int .i64 ((R i_2).2 i_3)]))] else [.ar 1 2 0 c]))⟩),(259,⟨false,1,1,(fun i_2=>[.ar 1 2 0 c])⟩),(2,⟨false,1,c,(fun i_2=>[.p (.int .i64 (h i_2))])⟩),(1,⟨false,1,n,(fun i_2=>[.p (.bool (s i_2))])⟩)] [291,1] 1 (r+1) (fun i_1=>if (i_1<r) then [.p (.seq false 1 ((R i_1).1) (fun i_2=>[.int .i64 ((R i_1).2 i_2)]))] else [.ar 1 2 0 c]) (fun i_1=>[.p (.seq false 1 ((snR5 r R (c,h) i_1).1) (fun i_2=>[.int .i64 ((snR5 r R (c,h) i_1).2 i_2)]))])),(AN 1),(NL n n),(AA n (fun i_1=>[.p (.bool (s i_1))]))]):=by kernel_rfl
theorem rmh (n:Nat) (P:Nat→PlF) (np r:Nat) (R:Nat→T_IntS) (s:Nat→Bool) (i:Nat) :
    zP Tryz.f161 0 [rg 1,.dec false,rg 3] zf35 (rmS n P np r R s i) [] 1 [] (.tup [rsL r R,.p (.bool true)]) =
    some [((decide ((↑i:Int)<(↑n:Int)))=false),(AN 1),(NL r r),(AN r),(AP r (fun i_1=>[.seq false 1 ((R i_1).1) (fun i_2=>[.int .i64 ((R i_1).2 i_2)])])),(true=true),(false=false),(∀ i_1:Nat,(((i_1:Nat)<r)→All [(false=false),(AE (((R i_1).1)))]))]:=by kernel_rfl
theorem sry (g:Nat→T_Bar) (nb:Nat) (N:Int) (pl:PlF) (np:Nat) (K:T_IntS) (n:Nat) (P:Nat→PlF) (b:Bool) :
    zS Tryz.f157 [rg 3,rg 2,rm [(1,oc [] (.tup [psL false n P np,.p (.bool b)]))] 5,rg 7,.dec true,rg 3] [tsA g nb N pl np K] [] [] (.tup [rsL 0 (fun _=>(0,z0)),.p (.bool false)]) =
    some [(NT 0 1),zE 155 [(zf25 N nb g np pl K)] [] ((zf89 n np P b)),(AG (!!b)),(AG (!!b)),(((!b)=false)→ ((!!b)=true)),((bif !b then true else decide ((↑n:Int)>100))=true),(AN 1),(NL 0 0),(AN 0),(∀ i:Nat,(((i:Nat)<0)→(([.nil]:List PV)=[.seq false 1 0 (fun i_1=>[.int .i64 ((0,z0).2 i_1)])]))),(false=false),(false=false),(∀ i:Nat,(((i:Nat)<0)→All [(false=false),(AE 0)]))]:=by kernel_rfl
theorem srz (g:Nat→T_Bar) (nb:Nat) (N:Int) (pl:PlF) (np:Nat) (K:T_IntS) (n:Nat) (P:Nat→PlF) (b:Bool) :
    zT Tryz.f157 [rg 3,rg 2,rm [(1,oc [] (.tup [psL false n P np,.p (.bool b)]))] 5,rg 7,.dec false,rg 2,rg 1,.head] [tsA g nb N pl np K] [96,608] (srS n P np 0 (fun _=>(0,z0)) 0 z0 0) =
    some (zf36,[(NT 0 1),zE 155 [(zf25 N nb g np pl K)] [] ((zf89 n np P b)),(AG (!!b)),(AG (!!b)),(((!b)=false)→ ((!!b)=true)),((bif !b then true else decide ((↑n:Int)>100))=false),(AN 0),(AN 0),(AN n),(AP n (fun i=>[.seq false 2 np (fun i_1=>[.int .i64 ((P i i_1).1),.int .i64 ((P i i_1).2.1)])])),(AN 0),(AN 0),((0:Int)=(↑0:Int)),(AN 1),(NL 0 0),(∀ i:Nat,(((i:Nat)<0)→(All []∧(([.p (.nil)]:List AV)=[.p (.seq false 1 0 (fun i_1=>[.int .i64 ((0,z0).2 i_1)]))])))),(AN 1),(NL 0 0),(∀ i:Nat,(((i:Nat)<0)→(All []∧(([.p (.int .i64 0)]:List AV)=[.p (.int .i64 (z0 i))]))))]):=by kernel_rfl
theorem sra (n:Nat) (P:Nat→PlF) (np r:Nat) (R:Nat→T_IntS) (d:Nat) (D:Nat→Int) (i:Nat) :
    zM 0 [rg 4,.dec true,rm [(2,oc [] (.p (.bool true)))] 0,.dec true,rg 3,.head] zf36 (srS n P np r R d D i) [0,1] 1 (srS n P np r R d D (i+1)) =
    some (zf36,[((decide ((↑i:Int)<(↑n:Int)))=true),(AN 1),(NL d d),zE 172 [.p (.seq true 1 d (fun i_1=>[.int .i64 (D i_1)])),.p (.int .i64 (↑i:Int))] [] (.p (.bool true)),(true=true),(ZLo ((↑i:Int)+1)),(ZHi ((↑i:Int)+1)),(AN 0),(AN r),(AN n),(AP n (fun i_1=>[.seq false 2 np (fun i_2=>[.int .i64 ((P i_1 i_2).1),.int .i64 ((P i_1 i_2).2.1)])])),(AN 0),(AN d),((((↑i:Int)+1):Int)=(↑(i+1):Int)),(AN 1),(NL r r),(AA r (fun i_1=>[.p (.seq false 1 ((R i_1).1) (fun i_2=>[.int .i64 ((R i_1).2 i_2)]))])),(AN 1),(NL d d),(AA d (fun i_1=>[.p (.int .i64 (D i_1))]))]):=by kernel_rfl
theorem srb (n:Nat) (P:Nat→PlF) (np r:Nat) (R:Nat→T_IntS) (d:Nat) (D:Nat→Int) (i c:Nat) (q t:Nat→Int) :
    zM 0 [rg 4,.dec true,rm [(2,oc [] (.p (.bool false)))] 0,.dec false,rm [(2,oc [(0,iOb c q),(1,iOb c t)] (.tup [.ar 1 0 0 c,.ar 1 1 0 c]))] 5,rg 2,rg 1,.head] zf36 (srS n P np r R d D i) [0,1,482] 1 (srT n P np r R d D i c q 0 z0 0) =
    some (zf7,[((decide ((↑i:Int)<(↑n:Int)))=true),(AN 1),(NL d d),zE 172 [.p (.seq true 1 d (fun i_1=>[.int .i64 (D i_1)])),.p (.int .i64 (↑i:Int))] [] (.p (.bool false)),(false=false),zE 268 [.p (.seq true 1 n (fun i_1=>[.seq true 2 np (fun i_2=>[.int .i64 ((P i_1 i_2).1),.int .i64 ((P i_1 i_2).2.1)])])),.p (.int .i64 (↑i:Int))] [(0,⟨false,1,c,(fun i_1=>[.p (.int .i64 (q i_1))])⟩),(1,⟨false,1,c,(fun i_1=>[.p (.int .i64 (t i_1))])⟩)] (.tup [.ar 1 0 0 c,.ar 1 1 0 c]),(AN 0),(AN r),(AN n),(AP n (fun i_1=>[.seq false 2 np (fun i_2=>[.int .i64 ((P i_1 i_2).1),.int .i64 ((P i_1 i_2).2.1)])])),(AN 0),(AN d),(AI ((↑i:Int))),(AN 1),(NL c c),(AN c),(AP c (fun i_1=>[.int .i64 (q i_1)])),(AN 0),(AN 0),((0:Int)=(↑0:Int)),(AN 1),(NL r r),(AA r (fun i_1=>[.p (.seq false 1 ((R i_1).1) (fun i_2=>[.int .i64 ((R i_1).2 i_2)]))])),(AN 1),(NL d d),(AA d (fun i_1=>[.p (.int .i64 (D i_1))])),(AN 1),(NL 0 0),(∀ i_1:Nat,(((i_1:Nat)<0)→(All []∧(([.p (.int .i64 0)]:List AV)=[.p (.int .i64 (z0 i_1))]))))]):=by kernel_rfl
theorem src (n:Nat) (P:Nat→PlF) (np r:Nat) (R:Nat→T_IntS) (d:Nat) (D:Nat→Int) (i c:Nat) (q:Nat→Int) (e:Nat) (S:Nat→Int) (k e2:Nat) (S2 S3:Nat→Int) :
    zM 0 [rg 4,.dec true,rm [(5,oc [(0,iOb e2 S2)] (.ar 1 0 0 e2))] 1,rg 8,rg 3,.head] zf7 (srT n P np r R d D i c q e S k) [0,547,291] 1 (srT n P np r R (d+1) (snI5 d D (q k)) i c q e2 S3 (k+1)) =
    some (zf7,[((decide ((↑k:Int)<(↑c:Int)))=true),(IL 0 (↑k:Int)),(IT (↑k:Int) (↑c:Int)),(AN 1),(NL e e),zE 213 [.p (.seq true 1 e (fun i_1=>[.int .i64 (S i_1)])),.p (.int .i64 (q k))] [(0,⟨false,1,e2,(fun i_1=>[.p (.int .i64 (S2 i_1))])⟩)] (.ar 1 0 0 e2),(IL 0 (↑k:Int)),(IT (↑k:Int) (↑c:Int)),(NL 1 1),(NL d d),(NL ((d+1)*8) 140737488355328),(NL (d+1) 9223372036854775807),(ZLo ((↑k:Int)+1)),(ZHi ((↑k:Int)+1)),(AN 0),(AN r),(AN n),(AP n (fun i_1=>[.seq false 2 np (fun i_2=>[.int .i64 ((P i_1 i_2).1),.int .i64 ((P i_1 i_2).2.1)])])),(AN 0),(AN ((d+1))),(AI ((↑i:Int))),(AN c),(AP c (fun i_1=>[.int .i64 (q i_1)])),(AN 0),(AN e2),((((↑k:Int)+1):Int)=(↑(k+1):Int)),(AN 1),(NL r r),(AA r (fun i_1=>[.p (.seq false 1 ((R i_1).1) (fun i_2=>[.int .i64 ((R i_1).2 i_2)]))])),(AN 1),(NL (d+1) (d+1)),(CV [(547,⟨false,1,(d+1),(fun i_2=>(if (i_2<d) then [.p (.int .i64 (D i_2))] else [.p (.int .i64 (q k))]))⟩),(515,⟨false,1,1,(fun i_2=>[.p (.int .i64 (q k))])⟩),(291,⟨false,1,e2,(fun i_2=>[.p (.int .i64 (S2 i_2))])⟩),(0,⟨false,1,r,(fun i_2=>[.p (.seq false 1 ((R i_2).1) (fun i_3=>[.int .i64 ((R i_2).2 i_3)]))])⟩),(2,⟨false,1,e,(fun i_2=>[.p (.int .i64 (S i_2))])⟩)] [0,547,291] 1 (d+1) (fun i_1=>if (i_1<d) then [.p (.int .i64 (D i_1))] else [.p (.int .i64 (q k))]) (fun i_1=>[.p (.int .i64 (snI5 d D (q k) i_1))])),(AN 1),(NL e2 e2),(∀ i_1:Nat,(((i_1:Nat)<e2)→(All []∧(([.p (.int .i64 (S2 i_1))]:List AV)=[.p (.int .i64 (S3 i_1))]))))]):=by kernel_rfl
theorem srd (n:Nat) (P:Nat→PlF) (np r:Nat) (R:Nat→T_IntS) (d:Nat) (D:Nat→Int) (i c:Nat) (q:Nat→Int) (e:Nat) (S:Nat→Int) (k:Nat) :
    zM 0 [rg 4,.dec false,rg 5,rg 3,.head] zf7 (srT n P np r R d D i c q e S k) [227,1] 1 (srS n P np (r+1) (snR5 r R (e,S)) d D (i+1)) =
    some (zf36,[((decide ((↑k:Int)<(↑c:Int)))=false),(NL 1 1),(NL r r),(NL ((r+1)*24) 140737488355328),(NL (r+1) 9223372036854775807),(ZLo ((↑i:Int)+1)),(ZHi ((↑i:Int)+1)),(AN 0),(AN ((r+1))),(AN n),(AP n (fun i_1=>[.seq false 2 np (fun i_2=>[.int .i64 ((P i_1 i_2).1),.int .i64 ((P i_1 i_2).2.1)])])),(AN 0),(AN d),((((↑i:Int)+1):Int)=(↑(i+1):Int)),(AN 1),(NL (r+1) (r+1)),(CV [(227,⟨false,1,(r+1),(fun i_2=>(if (i_2<r) then [.p (.seq false 1 ((R i_2).1) (fun i_3=>[.int .i64 ((R i_2).2 i_3)]))] else [.ar 1 2 0 e]))⟩),(195,⟨false,1,1,(fun i_2=>[.ar 1 2 0 e])⟩),(1,⟨false,1,d,(fun i_2=>[.p (.int .i64 (D i_2))])⟩),(2,⟨false,1,e,(fun i_2=>[.p (.int .i64 (S i_2))])⟩)] [227,1] 1 (r+1) (fun i_1=>if (i_1<r) then [.p (.seq false 1 ((R i_1).1) (fun i_2=>[.int .i64 ((R i_1).2 i_2)]))] else [.ar 1 2 0 e]) (fun i_1=>[.p (.seq false 1 ((snR5 r R (e,S) i_1).1) (fun i_2=>[.int .i64 ((snR5 r R (e,S) i_1).2 i_2)]))])),(AN 1),(NL d d),(AA d (fun i_1=>[.p (.int .i64 (D i_1))]))]):=by kernel_rfl
theorem sre (n:Nat) (P:Nat→PlF) (np r:Nat) (R:Nat→T_IntS) (d:Nat) (D:Nat→Int) (i:Nat) :
    zP Tryz.f157 0 [rg 4,.dec false,rg 3] zf36 (srS n P np r R d D i) [] 1 [] (.tup [rsL r R,.p (.bool true)]) =
    some [((decide ((↑i:Int)<(↑n:Int)))=false),(AN 1),(NL r r),(AN r),(AP r (fun i_1=>[.seq false 1 ((R i_1).1) (fun i_2=>[.int .i64 ((R i_1).2 i_2)])])),(true=true),(false=false),(∀ i_1:Nat,(((i_1:Nat)<r)→All [(false=false),(AE (((R i_1).1)))]))]:=by kernel_rfl
theorem ixz (n:Nat) (P:Nat→PlF) (np:Nat) (Q:PlF) :
    zT Tryz.f277 [rg 1,rg 3,.head] [psL true n P np,pcL Q np] [] (ixS n P np Q 0) =
    some (zf85,zD [(AN n),(AP n (fun i=>[.seq true 2 np (fun i_1=>[.int .i64 ((P i i_1).1),.int .i64 ((P i i_1).2.1)])])),(AN np),(AP np (bRw Q)),(AI ((↑n:Int))),((0:Int)=(↑0:Int))] [0,1,2,3,0,1,4,5]):=by kernel_rfl
theorem ixa (n:Nat) (P:Nat→PlF) (np:Nat) (Q:PlF) (i:Nat) :
    zM 0 [rg 1,.dec true,rg 5,rm [(2,oc [] (.p (.bool false)))] 0,.dec false,rg 2,.head] zf85 (ixS n P np Q i) [] 1 (ixS n P np Q (i+1)) =
    some (zf85,zD [((decide ((↑i:Int)<(↑n:Int)))=true),(IL 0 (↑i:Int)),(IT (↑i:Int) (↑n:Int)),zE 338 [.p (.seq true 2 np (fun i_1=>[.int .i64 ((P i i_1).1),.int .i64 ((P i i_1).2.1)])),.p (.seq true 2 np (bRw Q))] [] (.p (.bool false)),(false=false),(ZLo ((↑i:Int)+1)),(ZHi ((↑i:Int)+1)),(AN n),(AP n (fun i_1=>[.seq true 2 np (fun i_2=>[.int .i64 ((P i_1 i_2).1),.int .i64 ((P i_1 i_2).2.1)])])),(AN np),(AP np (bRw Q)),(AI ((↑n:Int))),((((↑i:Int)+1):Int)=(↑(i+1):Int))] [0,1,2,3,4,5,6,7,8,9,10,7,8,11,12]):=by kernel_rfl
theorem ixb (n:Nat) (P:Nat→PlF) (np:Nat) (Q:PlF) (i:Nat) :
    zP Tryz.f277 0 [rg 1,.dec true,rg 5,rm [(2,oc [] (.p (.bool true)))] 0,.dec true,rg 2] zf85 (ixS n P np Q i) [] 1 [] (.p (.int .i64 i)) =
    some [((decide ((↑i:Int)<(↑n:Int)))=true),(IL 0 (↑i:Int)),(IT (↑i:Int) (↑n:Int)),zE 338 [.p (.seq true 2 np (fun i_1=>[.int .i64 ((P i i_1).1),.int .i64 ((P i i_1).2.1)])),.p (.seq true 2 np (bRw Q))] [] (.p (.bool true)),(true=true),(AI ((↑i:Int)))]:=by kernel_rfl
theorem ixe (n:Nat) (P:Nat→PlF) (np:Nat) (Q:PlF) (i:Nat) :
    zP Tryz.f277 0 [rg 1,.dec false,rg 1] zf85 (ixS n P np Q i) [] 1 [] (.p (.int .i64 (-1))) =
    some [((decide ((↑i:Int)<(↑n:Int)))=false),(AI ((-1)))]:=by kernel_rfl
theorem iyz (n:Nat) (P:Nat→PlF) (np:Nat) (Q:PlF) :
    zT Tryz.f269 [rg 1,rg 1,.head] [psL true n P np,pcL Q np] [] (iyS n P np Q 0) =
    some (zf86,[(AN n),(AP n (fun i=>[.seq true 2 np (fun i_1=>[.int .i64 ((P i i_1).1),.int .i64 ((P i i_1).2.1)])])),(AN np),(AP np (bRw Q)),((0:Int)=(↑0:Int))]):=by kernel_rfl
theorem iya (n:Nat) (P:Nat→PlF) (np:Nat) (Q:PlF) (i:Nat) :
    zM 0 [rg 4,.dec true,rg 9,rg 1,.head] zf86 (iyS n P np Q i) [] 1 (iyT n P np Q i ((np:Int)==(np:Int)) 0) =
    some (zf14,[((decide ((↑i:Int)<(↑n:Int)))=true),(IL 0 (↑i:Int)),(IT (↑i:Int) (↑n:Int)),(AN n),(AP n (fun i_1=>[.seq true 2 np (fun i_2=>[.int .i64 ((P i_1 i_2).1),.int .i64 ((P i_1 i_2).2.1)])])),(AN np),(AP np (bRw Q)),(AI ((↑i:Int))),(((↑np:Int)==(↑np:Int))=((↑np:Int)==(↑np:Int))),((0:Int)=(↑0:Int))]):=by kernel_rfl
theorem iyb (n:Nat) (P:Nat→PlF) (np:Nat) (Q:PlF) (i:Nat) (b:Bool) (k:Nat) :
    zM 0 [rg 7,.dec true,rg 13,rg 3,.head] zf14 (iyT n P np Q i b k) [] 1 (iyT n P np Q i (eqP (P i k) (Q k)) (k+1)) =
    some (zf14,[(AG (decide ((↑k:Int)<(↑np:Int)))),((bif decide ((↑k:Int)<(↑np:Int)) then b else false)=true),(IL 0 (↑i:Int)),(IT (↑i:Int) (↑n:Int)),(IL 0 (↑k:Int)),(IT (↑k:Int) (↑np:Int)),(IL 0 (↑k:Int)),(IT (↑k:Int) (↑np:Int)),(ZLo ((↑k:Int)+1)),(ZHi ((↑k:Int)+1)),(AN n),(AP n (fun i_1=>[.seq true 2 np (fun i_2=>[.int .i64 ((P i_1 i_2).1),.int .i64 ((P i_1 i_2).2.1)])])),(AN np),(AP np (bRw Q)),(AI ((↑i:Int))),(((P i k).1==(Q k).1&&((P i k).2.1==(Q k).2.1&&true))=(eqP (P i k) (Q k))),((((↑k:Int)+1):Int)=(↑(k+1):Int))]):=by kernel_rfl
theorem iyc (n:Nat) (P:Nat→PlF) (np:Nat) (Q:PlF) (i:Nat) (k:Nat) :
    zP Tryz.f269 0 [rg 7,.dec false,rg 1,.dec true,rg 2] zf14 (iyT n P np Q i true k) [] 1 [] (.p (.int .i64 i)) =
    some [(AG (decide ((↑k:Int)<(↑np:Int)))),((bif decide ((↑k:Int)<(↑np:Int)) then true else false)=false),(true=true),(AI ((↑i:Int)))]:=by kernel_rfl
theorem iyd (n:Nat) (P:Nat→PlF) (np:Nat) (Q:PlF) (i:Nat) (k:Nat) :
    zM 0 [rg 7,.dec false,rg 1,.dec false,rg 3,.head] zf14 (iyT n P np Q i false k) [] 1 (iyS n P np Q (i+1)) =
    some (zf86,[(AG (decide ((↑k:Int)<(↑np:Int)))),((bif decide ((↑k:Int)<(↑np:Int)) then false else false)=false),(false=false),(ZLo ((↑i:Int)+1)),(ZHi ((↑i:Int)+1)),(AN n),(AP n (fun i_1=>[.seq true 2 np (fun i_2=>[.int .i64 ((P i_1 i_2).1),.int .i64 ((P i_1 i_2).2.1)])])),(AN np),(AP np (bRw Q)),((((↑i:Int)+1):Int)=(↑(i+1):Int))]):=by kernel_rfl
theorem iye (n:Nat) (P:Nat→PlF) (np:Nat) (Q:PlF) (i:Nat) :
    zP Tryz.f269 0 [rg 4,.dec false,rg 1] zf86 (iyS n P np Q i) [] 1 [] (.p (.int .i64 (-1))) =
    some [((decide ((↑i:Int)<(↑n:Int)))=false),(AI ((-1)))]:=by kernel_rfl
theorem rfy (g:Nat→T_Bar) (nb:Nat) (N:Int) (pl:PlF) (np:Nat) (K:T_IntS) (r:Nat) (R:Nat→T_IntS) :
    zS Tryz.f162 [rg 2,rm [(1,oc [] (.tup [rsL r R,.p (.bool false)]))] 5,rg 2,.dec true,rg 2] [tsA g nb N pl np K] [] [] (fzL 0 z0) =
    some [(NT 0 1),zE 161 [(zf25 N nb g np pl K)] [] (.tup [.p (.seq false 1 r (fun i=>[.seq false 1 ((R i).1) (fun i_1=>[.int .i64 ((R i).2 i_1)])])),.p (.bool false)]),((!false)=true),(AN 1),(NL 0 0),(AN 0),(∀ i:Nat,(((i:Nat)<0)→(([.int .i64 0]:List PV)=[.int .i64 (z0 i)]))),(false=false),(AE 0)]:=by kernel_rfl
theorem rfz (g:Nat→T_Bar) (nb:Nat) (N:Int) (pl:PlF) (np:Nat) (K:T_IntS) (r:Nat) (R:Nat→T_IntS) (n:Nat) (P:Nat→PlF) (b:Bool) (x:Int) :
    zT Tryz.f162 [rg 2,rm [(1,oc [] (.tup [rsL r R,.p (.bool true)]))] 5,rg 2,.dec false,rm [(1,oc [] (.tup [psL false n P np,.p (.bool b)]))] 5,rm [(4,oc [] (.p (.int .i64 x)))] 1,rg 3,.head] [tsA g nb N pl np K] [] (rfS r R x 0) =
    some (zf37,[(NT 0 1),zE 161 [(zf25 N nb g np pl K)] [] (.tup [.p (.seq false 1 r (fun i=>[.seq false 1 ((R i).1) (fun i_1=>[.int .i64 ((R i).2 i_1)])])),.p (.bool true)]),((!true)=false),(NT 0 1),zE 159 [(zf25 N nb g np pl K)] [] ((zf89 n np P b)),(NT 0 1),zE 277 [.p (.seq true 1 n (fun i=>[.seq true 2 np (fun i_1=>[.int .i64 ((P i i_1).1),.int .i64 ((P i i_1).2.1)])])),.p (.seq true 2 np (bRw pl))] [] (.p (.int .i64 x)),(AI x),(AN r),(AP r (fun i=>[.seq false 1 ((R i).1) (fun i_1=>[.int .i64 ((R i).2 i_1)])])),(AI ((↑r:Int))),((0:Int)=(↑0:Int))]):=by kernel_rfl
theorem rfa (r:Nat) (R:Nat→T_IntS) (x:Int) (i:Nat) :
    zM 0 [rg 1,.dec true,rg 3,rm [(2,oc [] (.p (.bool false)))] 0,.dec false,rg 2,.head] zf37 (rfS r R x i) [] 1 (rfS r R x (i+1)) =
    some (zf37,[((decide ((↑i:Int)<(↑r:Int)))=true),(IL 0 (↑i:Int)),(IT (↑i:Int) (↑r:Int)),zE 184 [.p (.seq true 1 ((R i).1) (fun i_1=>[.int .i64 ((R i).2 i_1)])),.p (.int .i64 x)] [] (.p (.bool false)),(false=false),(ZLo ((↑i:Int)+1)),(ZHi ((↑i:Int)+1)),(AI x),(AN r),(AP r (fun i_1=>[.seq false 1 ((R i_1).1) (fun i_2=>[.int .i64 ((R i_1).2 i_2)])])),(AI ((↑r:Int))),((((↑i:Int)+1):Int)=(↑(i+1):Int))]):=by kernel_rfl
theorem rfb (r:Nat) (R:Nat→T_IntS) (x:Int) (i:Nat) :
    zP Tryz.f162 0 [rg 1,.dec true,rg 3,rm [(2,oc [] (.p (.bool true)))] 0,.dec true,rg 2] zf37 (rfS r R x i) [] 1 [] (fzL (R i).1 (R i).2) =
    some [((decide ((↑i:Int)<(↑r:Int)))=true),(IL 0 (↑i:Int)),(IT (↑i:Int) (↑r:Int)),zE 184 [.p (.seq true 1 ((R i).1) (fun i_1=>[.int .i64 ((R i).2 i_1)])),.p (.int .i64 x)] [] (.p (.bool true)),(true=true),(AN (((R i).1))),(AP (((R i).1)) (fun i_1=>[.int .i64 ((R i).2 i_1)])),(false=false),(AE (((R i).1)))]:=by kernel_rfl
theorem rfe (r:Nat) (R:Nat→T_IntS) (x:Int) (i:Nat) :
    zP Tryz.f162 0 [rg 1,.dec false,rg 2] zf37 (rfS r R x i) [] 1 [] (fzL 0 z0) =
    some [((decide ((↑i:Int)<(↑r:Int)))=false),(AN 1),(NL 0 0),(AN 0),(∀ i_1:Nat,(((i_1:Nat)<0)→(([.int .i64 0]:List PV)=[.int .i64 (z0 i_1)]))),(false=false),(AE 0)]:=by kernel_rfl
theorem rgz (g:Nat→T_Bar) (nb:Nat) (N:Int) (pl:PlF) (np:Nat) (K:T_IntS) (r:Nat) (R:Nat→T_IntS) (b0:Bool) (n:Nat) (P:Nat→PlF) (b:Bool) (x:Int) :
    zT Tryz.f158 [rg 2,rm [(1,oc [] (.tup [rsL r R,.p (.bool b0)]))] 5,rm [(1,oc [] (.tup [psL false n P np,.p (.bool b)]))] 5,rm [(4,oc [] (.p (.int .i64 x)))] 1,rg 1,.head] [tsA g nb N pl np K] [] (rgS r R b0 x 0) =
    some (zf44,[(NT 0 1),zE 157 [(zf25 N nb g np pl K)] [] (.tup [.p (.seq false 1 r (fun i=>[.seq false 1 ((R i).1) (fun i_1=>[.int .i64 ((R i).2 i_1)])])),.p (.bool b0)]),(NT 0 1),zE 155 [(zf25 N nb g np pl K)] [] ((zf89 n np P b)),(NT 0 1),zE 269 [.p (.seq true 1 n (fun i=>[.seq true 2 np (fun i_1=>[.int .i64 ((P i i_1).1),.int .i64 ((P i i_1).2.1)])])),.p (.seq true 2 np (bRw pl))] [] (.p (.int .i64 x)),(AN r),(AP r (fun i=>[.seq false 1 ((R i).1) (fun i_1=>[.int .i64 ((R i).2 i_1)])])),(b0=b0),(AI x),((0:Int)=(↑0:Int))]):=by kernel_rfl
theorem rga (r:Nat) (R:Nat→T_IntS) (x:Int) (i:Nat) :
    zM 0 [rg 7,.dec true,rm [(5,oc [] (.p (.bool false)))] 0,.dec false,rg 3,.head] zf44 (rgS r R true x i) [] 1 (rgS r R true x (i+1)) =
    some (zf44,[(AG (decide ((↑i:Int)<(↑r:Int)))),((bif decide ((↑i:Int)<(↑r:Int)) then true else false)=true),(IL 0 (↑i:Int)),(IT (↑i:Int) (↑r:Int)),zE 172 [.p (.seq true 1 ((R i).1) (fun i_1=>[.int .i64 ((R i).2 i_1)])),.p (.int .i64 x)] [] (.p (.bool false)),(false=false),(ZLo ((↑i:Int)+1)),(ZHi ((↑i:Int)+1)),(AN r),(AP r (fun i_1=>[.seq false 1 ((R i_1).1) (fun i_2=>[.int .i64 ((R i_1).2 i_2)])])),(true=true),(AI x),((((↑i:Int)+1):Int)=(↑(i+1):Int))]):=by kernel_rfl
theorem rgb (r:Nat) (R:Nat→T_IntS) (x:Int) (i:Nat) :
    zP Tryz.f158 0 [rg 7,.dec true,rm [(5,oc [] (.p (.bool true)))] 0,.dec true,rg 7] zf44 (rgS r R true x i) [] 1 [] (fzL (R i).1 (R i).2) =
    some [(AG (decide ((↑i:Int)<(↑r:Int)))),((bif decide ((↑i:Int)<(↑r:Int)) then true else false)=true),(IL 0 (↑i:Int)),(IT (↑i:Int) (↑r:Int)),zE 172 [.p (.seq true 1 ((R i).1) (fun i_1=>[.int .i64 ((R i).2 i_1)])),.p (.int .i64 x)] [] (.p (.bool true)),(true=true),(IL 0 (↑i:Int)),(IT (↑i:Int) (↑r:Int)),(NL 0 0),(NL ((0+(R i).1)*8) 140737488355328),(NL (0+(R i).1) 9223372036854775807),(AN 1),(NL (0+(R i).1) (0+(R i).1)),(((0+(R i).1):Nat)=((R i).1)),(AP ((0+(R i).1)) (fun i_1=>[.int .i64 ((R i).2 i_1)])),(false=false),(AE (((R i).1)))]:=by kernel_rfl
theorem rge (r:Nat) (R:Nat→T_IntS) (b:Bool) (x:Int) (i:Nat) :
    zP Tryz.f158 0 [rg 7,.dec false,rg 2] zf44 (rgS r R b x i) [] 1 [] (fzL 0 z0) =
    some [(AG (decide ((↑i:Int)<(↑r:Int)))),((bif decide ((↑i:Int)<(↑r:Int)) then b else false)=false),(AN 1),(NL 0 0),(AN 0),(∀ i_1:Nat,(((i_1:Nat)<0)→(([.int .i64 0]:List PV)=[.int .i64 (z0 i_1)]))),(false=false),(AE 0)]:=by kernel_rfl
def lsF (n:Nat) (ss:List ByteArray) (i:Nat):ByteArray:=ss.getD (rowIx n i) sE
def stA (s:ByteArray):AV:=.p (.str s)
theorem cell_ls:∀ (ss:List ByteArray) (n i:Nat),rowIx n i<ss.length→cellP true [(List.getD (ss.map stA) (rowIx n i*1) (.p .any))] 0=.str (lsF n ss i):=by
  intro ss n i h
  unfold lsF
  rw [Nat.mul_one]
  generalize rowIx n i=k at h ⊢
  rw [List.getD_eq_getElem?_getD,List.getD_eq_getElem?_getD,List.getElem?_map]
  rw [List.getElem?_eq_getElem h]
  rfl
def lsP (n:Nat) (ss:List ByteArray):AV:=.p (.seq true 1 n (fun i=>[cellP true [(List.getD (ss.map stA) (rowIx n i*1) (.p .any))] 0]))
theorem ls_mem (n:Nat) (ss:List ByteArray) (h:ss.length=n) (B:Nat) (hs:∀ s∈ss,s.size≤B):∀ i,i<n→(lsF n ss i).size≤B:=by
  intro i hi
  unfold lsF
  rw [rowIx_lt hi]
  have:ss.getD i sE=ss[i]:=by rw [List.getD_eq_getElem?_getD,List.getElem?_eq_getElem (by omega)];rfl
  rw [this]
  exact hs _ (List.getElem_mem _)
theorem con_line_ls (n:Nat) (ss:List ByteArray) (h:ss.length=n) (h3:n≤1000) (B:Nat) (hB:B≤1099511627776) (hs:∀ s∈ss,s.size≤B) :
    zE 108 [lsP n ss] [] (.p (.str (joinB sSp (lsF n ss) n))):=by
  have hc:=con_line n (lsF n ss) B (by omega) hB (ls_mem n ss h B hs)
  refine hc.arg_ext ?_
  simp only [lsP,strL,wkL,wk,wkP,beq_self_eq_true,Bool.and_self,if_true,ikEq,List.append_nil,List.cons_append,List.nil_append,All]
  have hcell:∀ i,i<n→cellP true [(List.getD (ss.map stA) (rowIx n i*1) (.p .any))] 0=.str (lsF n ss i):=fun i hi=>cell_ls ss n i (by rw [rowIx_lt hi];omega)
  and_intros<;>first | trivial | omega | (intro i hi;rw [hcell i hi])
theorem con_ifSo_ls (s:ByteArray) (is:Bool) (n:Nat) (ss:List ByteArray) (h:ss.length=n) (h3:n≤1000) (B:Nat) (hB:B≤1099511627776) (hz:s.size≤B) (hs:∀ s∈ss,s.size≤B) :
    zE 114 [.p (.str s),.p (.bool is),lsP n ss] [] (.p (.str (soB s is n (lsF n ss)))):=by
  have hc:=con_ifSo s is n (lsF n ss) B (by omega) hB hz (ls_mem n ss h B hs)
  refine hc.arg_ext ?_
  simp only [lsP,strL,wkL,wk,wkP,beq_self_eq_true,Bool.and_self,if_true,ikEq,List.append_nil,List.cons_append,List.nil_append,All]
  have hcell:∀ i,i<n→cellP true [(List.getD (ss.map stA) (rowIx n i*1) (.p .any))] 0=.str (lsF n ss i):=fun i hi=>cell_ls ss n i (by rw [rowIx_lt hi];omega)
  and_intros<;>first | trivial | omega | (intro i hi;rw [hcell i hi])
theorem join_2 (by_:ByteArray) (f:Nat→ByteArray):joinB by_ f 2=(f 0++by_)++f 1:=by
  show (if 0<1 then (sE++f 0)++by_ else _)++f 1=_
  rw [if_pos (by omega),sE_app]
theorem join_s (by_:ByteArray) (f:Nat→ByteArray) (n:Nat):joinB by_ f (n+2)=(joinB by_ f (n+1)++by_)++f (n+1):=by
  show (if 0<n+1 then joinB by_ f (n+1)++by_ else _)++f (n+1)=_
  rw [if_pos (by omega)]
def xdFree:ByteArray:=⟨#[102,114,101,101,100,111,109]⟩
def xsFree:ByteArray:=⟨#[32,102,114,101,101,100,111,109,32]⟩
def xE:ByteArray:=⟨#[]⟩
def lfS (nb n:Nat) (M:Nat→Nat→Int) (m:Nat) (f:Nat→Int) (B:Nat→Nat→Int) (i:Nat):St :=
  ⟨[anyA,anyA,anyA,fzL m f,.ar 1 0 0 i]++List.replicate 13 anyA++[rsL nb (cM n M),.p (.int .i64 nb),.p (.int .i64 i)]++List.replicate 39 anyA,[(0,rsO i (cM (2*m) B))],1⟩
def lfT (nb n:Nat) (M:Nat→Nat→Int) (m:Nat) (f:Nat→Int) (B:Nat→Nat→Int) (i k:Nat):St :=
  ⟨[anyA,anyA,anyA,fzL m f,.ar 1 0 0 i,anyA,fzL n (M i),.ar 1 1 0 (2*k)]++List.replicate 10 anyA++[rsL nb (cM n M),.p (.int .i64 nb),.p (.int .i64 i)]++List.replicate 4 anyA++[fzL m f,.p (.int .i64 m),.p (.int .i64 k)]++List.replicate 32 anyA,[(0,rsO i (cM (2*m) B)),(1,iOb (2*k) (B i))],2⟩
def lgS (nb n:Nat) (M:Nat→Nat→Int) (m:Nat) (f:Nat→Int) (B:Nat→Nat→Int) (i:Nat):St :=
  ⟨[anyA,anyA,anyA,.ar 1 0 0 i,rsL nb (cM n M),fzL m f,.p (.int .i64 i)]++List.replicate 67 anyA,[(0,rsO i (cM (2*m) B))],1⟩
def lgT (nb n:Nat) (M:Nat→Nat→Int) (m:Nat) (f:Nat→Int) (B:Nat→Nat→Int) (i k:Nat):St :=
  ⟨[anyA,anyA,anyA,.ar 1 0 0 i,rsL nb (cM n M),fzL m f,.p (.int .i64 i),.ar 1 1 0 (2*k),.p (.int .i64 k)]++List.replicate 65 anyA,[(0,rsO i (cM (2*m) B)),(1,iOb (2*k) (B i))],2⟩
def xdPos:ByteArray:=⟨#[112,111,115,101,115]⟩
def xdRms:ByteArray:=⟨#[114,111,111,109,115]⟩
def xdRom:ByteArray:=⟨#[114,111,111,109]⟩
def xsPos:ByteArray:=⟨#[112,111,115,101,115,32]⟩
def xsRms:ByteArray:=⟨#[32,114,111,111,109,115,32]⟩
def xsRom:ByteArray:=⟨#[32,114,111,111,109,32]⟩
theorem lfn (g:Nat→T_Bar) (nb:Nat) (N:Int) (pl:PlF) (np:Nat) (K:T_IntS) :
    zS Tryz.f160 [rg 2,rm [(1,oc [] (.p (.bool false)))] 1,.dec true,rg 1] [tsA g nb N pl np K] [] [] (.p (.int .i64 (-1))) =
    some [(NT 0 1),zE 270 [(zf25 N nb g np pl K)] [] (.p (.bool false)),((!false)=true),(AI ((-1)))]:=by kernel_rfl
theorem lfz (g:Nat→T_Bar) (nb:Nat) (N:Int) (pl:PlF) (np:Nat) (K:T_IntS) (m:Nat) (f:Nat→Int) (n:Nat) (M B:Nat→Nat→Int) :
    zM 0 [rg 2,rm [(1,oc [] (.p (.bool true)))] 1,.dec false,rm [(1,oc [(0,iOb m f)] (.ar 1 0 0 m))] 1,rg 2,rm [(2,oc [(0,ooOb 1 nb (cM n M)),(1,ffOb nb (cM n M))] (.ar 1 0 0 nb))] 2,.head] [.code (bodyOf Tryz.f160)] (start Tryz.f160 [] 0 [tsA g nb N pl np K]) [256] 2 (lfS nb n M m f B 0) =
    some (zf45,[(NT 0 1),zE 270 [(zf25 N nb g np pl K)] [] (.p (.bool true)),((!true)=false),(NT 0 1),zE 271 [(zf25 N nb g np pl K)] [(0,⟨false,1,m,(fun i=>[.p (.int .i64 (f i))])⟩)] (.ar 1 0 0 m),(NT 0 1),zE 235 [.agg [.p (.int .i64 N),.p (.seq true 2 nb (bRw g)),.p (.seq true 2 np (bRw pl))]] [(0,⟨false,1,nb,(fun i=>[.ar 1 ⟨1,some i⟩ 0 n])⟩),(1,⟨true,0,nb,(fun i=>[.p (.seq false 1 n (fun i_1=>[.int .i64 ((cM n M i).2 i_1)]))])⟩)] (.ar 1 0 0 nb),(AN 1),(NL m m),(AE m),(AN m),(AP m (fun i=>[.int .i64 (f i)])),(AN 0),(AN 0),(AN 1),(NL nb nb),(∀ i:Nat,(((i:Nat)<nb)→All [((i:Nat)<nb),(AN 1),((n:Nat)≤n)])),(AN nb),(AP nb (fun i=>[.seq false 1 n (fun i_1=>[.int .i64 ((cM n M i).2 i_1)])])),(AI ((↑nb:Int))),((0:Int)=(↑0:Int)),(AN 1),(NL 0 0),(∀ i:Nat,(((i:Nat)<0)→(All []∧(([.p (.nil)]:List AV)=[.p (.seq false 1 (2*m) (fun i_1=>[.int .i64 ((cM (2*m) B i).2 i_1)]))]))))]):=by kernel_rfl
theorem lfa (nb n:Nat) (M:Nat→Nat→Int) (m:Nat) (f:Nat→Int) (B:Nat→Nat→Int) (i:Nat) :
    zM 0 [rg 1,.dec true,rg 3,rg 2,rg 3,.head] zf45 (lfS nb n M m f B i) [0,129] 1 (lfT nb n M m f B i 0) =
    some (zf8,[((decide ((↑i:Int)<(↑nb:Int)))=true),(IL 0 (↑i:Int)),(IT (↑i:Int) (↑nb:Int)),(AN m),(AP m (fun i_1=>[.int .i64 (f i_1)])),(AN 0),(AN i),(AN n),(∀ i_1:Nat,(((i_1:Nat)<n)→(([.int .i64 ((cM n M i).2 i_1)]:List PV)=[.int .i64 (M i i_1)]))),(AN 0),(AN 0),(AN nb),(AP nb (fun i_1=>[.seq false 1 n (fun i_2=>[.int .i64 ((cM n M i_1).2 i_2)])])),(AI ((↑nb:Int))),(AI ((↑i:Int))),(AN m),(AP m (fun i_1=>[.int .i64 (f i_1)])),(AI ((↑m:Int))),((0:Int)=(↑0:Int)),(AN 1),(NL i i),(AA i (fun i_1=>[.p (.seq false 1 (2*m) (fun i_2=>[.int .i64 ((cM (2*m) B i_1).2 i_2)]))])),(AN 1),(NL 0 0),(∀ i_1:Nat,(((i_1:Nat)<0)→(All []∧(([.p (.int .i64 0)]:List AV)=[.p (.int .i64 (B i i_1))]))))]):=by kernel_rfl
theorem lfb (nb n:Nat) (M:Nat→Nat→Int) (m:Nat) (f:Nat→Int) (B:Nat→Nat→Int) (i k:Nat) :
    zM 0 [rg 1,.dec true,rg 3,rg 15,rg 2,.head] zf8 (lfT nb n M m f B i k) [0,546] 1 (lfT nb n M m f B i (k+1)) =
    some (zf8,[((decide ((↑k:Int)<(↑m:Int)))=true),(IL 0 (↑k:Int)),(IT (↑k:Int) (↑m:Int)),(ZLo (2*f k)),(ZHi (2*f k)),(IL 0 (2*f k)),(IT (2*f k) (↑n:Int)),(ZLo (2*f k)),(ZHi (2*f k)),(ZLo (2*f k+1)),(ZHi (2*f k+1)),(IL 0 (2*f k+1)),(IT (2*f k+1) (↑n:Int)),(NL 2 2),(NL (2*k) (2*k)),(NL ((2*k+2)*8) 140737488355328),(NL (2*k+2) 9223372036854775807),(ZLo ((↑k:Int)+1)),(ZHi ((↑k:Int)+1)),(AN m),(AP m (fun i_1=>[.int .i64 (f i_1)])),(AN 0),(AN i),(AN n),(AP n (fun i_1=>[.int .i64 (M i i_1)])),(AN 0),(((2*k+2):Nat)=(2*(k+1))),(AN nb),(AP nb (fun i_1=>[.seq false 1 n (fun i_2=>[.int .i64 ((cM n M i_1).2 i_2)])])),(AI ((↑nb:Int))),(AI ((↑i:Int))),(AN m),(AP m (fun i_1=>[.int .i64 (f i_1)])),(AI ((↑m:Int))),((((↑k:Int)+1):Int)=(↑(k+1):Int)),(AN 1),(NL i i),(AA i (fun i_1=>[.p (.seq false 1 (2*m) (fun i_2=>[.int .i64 ((cM (2*m) B i_1).2 i_2)]))])),(AN 1),(NL (2*(k+1)) (2*k+2)),(CV [(546,⟨false,1,(2*k+2),(fun i_2=>(if (i_2<2*k) then [.p (.int .i64 (B i i_2))] else [(List.getD ([(List.getD ([.p (.int .i64 (M i (2*f k).toNat)),.p (.int .i64 (M i (2*f k+1).toNat))]:List AV) (rowIx 2 (i_2 - 2*k)*1) (.p .any))]:List AV) 0 (.p .any))]))⟩),(514,⟨false,1,2,(fun i_2=>[(List.getD ([.p (.int .i64 (M i (2*f k).toNat)),.p (.int .i64 (M i (2*f k+1).toNat))]:List AV) (rowIx 2 i_2*1) (.p .any))])⟩),(0,⟨false,1,i,(fun i_2=>[.p (.seq false 1 (2*m) (fun i_3=>[.int .i64 ((cM (2*m) B i_2).2 i_3)]))])⟩)] [0,546] 1 (2*(k+1)) (fun i_1=>if (i_1<2*k) then [.p (.int .i64 (B i i_1))] else [(List.getD ([(List.getD ([.p (.int .i64 (M i (2*f k).toNat)),.p (.int .i64 (M i (2*f k+1).toNat))]:List AV) (rowIx 2 (i_1 - 2*k)*1) (.p .any))]:List AV) 0 (.p .any))]) (fun i_1=>[.p (.int .i64 (B i i_1))]))]):=by kernel_rfl
theorem lfc (nb n:Nat) (M:Nat→Nat→Int) (m:Nat) (f:Nat→Int) (B:Nat→Nat→Int) (i:Nat) :
    zM 0 [rg 1,.dec false,rg 5,rg 2,.head] zf8 (lfT nb n M m f B i m) [130] 1 (lfS nb n M m f B (i+1)) =
    some (zf45,[((decide ((↑m:Int)<(↑m:Int)))=false),(NL 1 1),(NL i i),(NL ((i+1)*24) 140737488355328),(NL (i+1) 9223372036854775807),(ZLo ((↑i:Int)+1)),(ZHi ((↑i:Int)+1)),(AN m),(AP m (fun i_1=>[.int .i64 (f i_1)])),(AN 0),(AN ((i+1))),(AN nb),(AP nb (fun i_1=>[.seq false 1 n (fun i_2=>[.int .i64 ((cM n M i_1).2 i_2)])])),(AI ((↑nb:Int))),((((↑i:Int)+1):Int)=(↑(i+1):Int)),(AN 1),(NL (i+1) (i+1)),(CV [(130,⟨false,1,(i+1),(fun i_2=>(if (i_2<i) then [.p (.seq false 1 (2*m) (fun i_3=>[.int .i64 ((cM (2*m) B i_2).2 i_3)]))] else [.ar 1 1 0 (2*m)]))⟩),(98,⟨false,1,1,(fun i_2=>[.ar 1 1 0 (2*m)])⟩),(1,⟨false,1,(2*m),(fun i_2=>[.p (.int .i64 (B i i_2))])⟩)] [130] 1 (i+1) (fun i_1=>if (i_1<i) then [.p (.seq false 1 (2*m) (fun i_2=>[.int .i64 ((cM (2*m) B i_1).2 i_2)]))] else [.ar 1 1 0 (2*m)]) (fun i_1=>[.p (.seq false 1 (2*m) (fun i_2=>[.int .i64 ((cM (2*m) B i_1).2 i_2)]))]))]):=by kernel_rfl
theorem lfe (nb n:Nat) (M:Nat→Nat→Int) (m:Nat) (f:Nat→Int) (B:Nat→Nat→Int) (r:Nat) :
    zP Tryz.f160 0 [rg 1,.dec false,rm [(7,oc [] (.p (.int .i64 r)))] 2] zf45 (lfS nb n M m f B nb) [] 1 [] (.p (.int .i64 (2*(m:Int) - (r:Int)))) =
    some (zD [((decide ((↑nb:Int)<(↑nb:Int)))=false),(ZLo (2*(↑m:Int))),(ZHi (2*(↑m:Int))),(AN 1),(NL nb nb),zE 234 [.p (.seq true 1 nb (fun i=>[.seq true 1 (2*m) (fun i_1=>[.int .i64 ((cM (2*m) B i).2 i_1)])])),.p (.int .i64 (2*(↑m:Int)))] [] (.p (.int .i64 (↑r:Int))),(ZLo (2*(↑m:Int) - (↑r:Int))),(ZHi (2*(↑m:Int) - (↑r:Int))),(AI ((2*(↑m:Int) - (↑r:Int))))] [0,1,2,1,2,3,4,5,6,7,8]):=by kernel_rfl
theorem lgn (g:Nat→T_Bar) (nb:Nat) (N:Int) (pl:PlF) (np:Nat) (K:T_IntS) :
    zS Tryz.f156 [rg 2,rm [(1,oc [] (.p (.bool false)))] 1,.dec true,rg 1] [tsA g nb N pl np K] [] [] (.p (.int .i64 (-1))) =
    some [(NT 0 1),zE 265 [(zf25 N nb g np pl K)] [] (.p (.bool false)),((!false)=true),(AI ((-1)))]:=by kernel_rfl
theorem lgz (g:Nat→T_Bar) (nb:Nat) (N:Int) (pl:PlF) (np:Nat) (K:T_IntS) (m:Nat) (f:Nat→Int) (n:Nat) (M B:Nat→Nat→Int) :
    zM 0 [rg 2,rm [(1,oc [] (.p (.bool true)))] 1,.dec false,rg 2,rm [(2,oc [(0,ooOb 1 nb (cM n M)),(1,ffOb nb (cM n M))] (.ar 1 0 0 nb))] 1,rm [(1,oc [(0,iOb m f)] (.ar 1 0 0 m))] 1,rg 1,.head] [.code (bodyOf Tryz.f156)] (start Tryz.f156 [] 0 [tsA g nb N pl np K]) [160] 2 (lgS nb n M m f B 0) =
    some (zf38,[(NT 0 1),zE 265 [(zf25 N nb g np pl K)] [] (.p (.bool true)),((!true)=false),(NT 0 1),zE 227 [.agg [.p (.int .i64 N),.p (.seq true 2 nb (bRw g)),.p (.seq true 2 np (bRw pl))]] [(0,⟨false,1,nb,(fun i=>[.ar 1 ⟨1,some i⟩ 0 n])⟩),(1,⟨true,0,nb,(fun i=>[.p (.seq false 1 n (fun i_1=>[.int .i64 ((cM n M i).2 i_1)]))])⟩)] (.ar 1 0 0 nb),(NT 0 1),zE 264 [(zf25 N nb g np pl K)] [(0,⟨false,1,m,(fun i=>[.p (.int .i64 (f i))])⟩)] (.ar 1 0 0 m),(AN 0),(AN 0),(AN 1),(NL nb nb),(∀ i:Nat,(((i:Nat)<nb)→All [((i:Nat)<nb),(AN 1),((n:Nat)≤n)])),(AN nb),(AP nb (fun i=>[.seq false 1 n (fun i_1=>[.int .i64 ((cM n M i).2 i_1)])])),(AN 1),(NL m m),(AE m),(AN m),(AP m (fun i=>[.int .i64 (f i)])),((0:Int)=(↑0:Int)),(AN 1),(NL 0 0),(∀ i:Nat,(((i:Nat)<0)→(All []∧(([.p (.nil)]:List AV)=[.p (.seq false 1 (2*m) (fun i_1=>[.int .i64 ((cM (2*m) B i).2 i_1)]))]))))]):=by kernel_rfl
theorem lga (nb n:Nat) (M:Nat→Nat→Int) (m:Nat) (f:Nat→Int) (B:Nat→Nat→Int) (i:Nat) :
    zM 0 [rg 4,.dec true,rg 2,rg 1,.head] zf38 (lgS nb n M m f B i) [0,129] 1 (lgT nb n M m f B i 0) =
    some (zf10,[((decide ((↑i:Int)<(↑nb:Int)))=true),(AN 0),(AN i),(AN nb),(AP nb (fun i_1=>[.seq false 1 n (fun i_2=>[.int .i64 ((cM n M i_1).2 i_2)])])),(AN m),(AP m (fun i_1=>[.int .i64 (f i_1)])),(AI ((↑i:Int))),(AN 0),(AN 0),((0:Int)=(↑0:Int)),(AN 1),(NL i i),(AA i (fun i_1=>[.p (.seq false 1 (2*m) (fun i_2=>[.int .i64 ((cM (2*m) B i_1).2 i_2)]))])),(AN 1),(NL 0 0),(∀ i_1:Nat,(((i_1:Nat)<0)→(All []∧(([.p (.int .i64 0)]:List AV)=[.p (.int .i64 (B i i_1))]))))]):=by kernel_rfl
theorem lgb (nb n:Nat) (M:Nat→Nat→Int) (m:Nat) (f:Nat→Int) (B:Nat→Nat→Int) (i k:Nat) :
    zM 0 [rg 4,.dec true,rg 27,rg 3,.head] zf10 (lgT nb n M m f B i k) [0,930] 1 (lgT nb n M m f B i (k+1)) =
    some (zf10,zD [((decide ((↑k:Int)<(↑m:Int)))=true),(IL 0 (↑i:Int)),(IT (↑i:Int) (↑nb:Int)),(IL 0 (↑k:Int)),(IT (↑k:Int) (↑m:Int)),(ZLo (2*f k)),(ZHi (2*f k)),(IL 0 (2*f k)),(IT (2*f k) (↑n:Int)),(ZLo (2*f k+1)),(ZHi (2*f k+1)),(IL 0 (2*f k+1)),(IT (2*f k+1) (↑n:Int)),(NL 2 2),(NL (2*k) (2*k)),(NL ((2*k+2)*8) 140737488355328),(NL (2*k+2) 9223372036854775807),(ZLo ((↑k:Int)+1)),(ZHi ((↑k:Int)+1)),(AN 0),(AN i),(AN nb),(AP nb (fun i_1=>[.seq false 1 n (fun i_2=>[.int .i64 ((cM n M i_1).2 i_2)])])),(AN m),(AP m (fun i_1=>[.int .i64 (f i_1)])),(AI ((↑i:Int))),(((2*k+2):Nat)=(2*(k+1))),((((↑k:Int)+1):Int)=(↑(k+1):Int)),(AN 1),(NL i i),(AA i (fun i_1=>[.p (.seq false 1 (2*m) (fun i_2=>[.int .i64 ((cM (2*m) B i_1).2 i_2)]))])),(NL (2*(k+1)) (2*k+2)),(CV [(930,⟨false,1,(2*k+2),(fun i_2=>(if (i_2<2*k) then [.p (.int .i64 (B i i_2))] else [(List.getD ([(List.getD ([.p (.int .i64 ((cM n M i).2 (2*f k).toNat)),.p (.int .i64 ((cM n M i).2 (2*f k+1).toNat))]:List AV) (rowIx 2 (i_2 - 2*k)*1) (.p .any))]:List AV) 0 (.p .any))]))⟩),(898,⟨false,1,2,(fun i_2=>[(List.getD ([.p (.int .i64 ((cM n M i).2 (2*f k).toNat)),.p (.int .i64 ((cM n M i).2 (2*f k+1).toNat))]:List AV) (rowIx 2 i_2*1) (.p .any))])⟩),(0,⟨false,1,i,(fun i_2=>[.p (.seq false 1 (2*m) (fun i_3=>[.int .i64 ((cM (2*m) B i_2).2 i_3)]))])⟩)] [0,930] 1 (2*(k+1)) (fun i_1=>if (i_1<2*k) then [.p (.int .i64 (B i i_1))] else [(List.getD ([(List.getD ([.p (.int .i64 ((cM n M i).2 (2*f k).toNat)),.p (.int .i64 ((cM n M i).2 (2*f k+1).toNat))]:List AV) (rowIx 2 (i_1 - 2*k)*1) (.p .any))]:List AV) 0 (.p .any))]) (fun i_1=>[.p (.int .i64 (B i i_1))]))] [0,1,2,3,4,5,6,7,8,1,2,3,4,5,6,9,10,11,12,13,14,15,16,17,18,19,20,21,22,23,24,25,19,26,27,28,29,30,28,31,32]):=by kernel_rfl
theorem lgc (nb n:Nat) (M:Nat→Nat→Int) (m:Nat) (f:Nat→Int) (B:Nat→Nat→Int) (i:Nat) :
    zM 0 [rg 4,.dec false,rg 5,rg 3,.head] zf10 (lgT nb n M m f B i m) [226] 1 (lgS nb n M m f B (i+1)) =
    some (zf38,[((decide ((↑m:Int)<(↑m:Int)))=false),(NL 1 1),(NL i i),(NL ((i+1)*24) 140737488355328),(NL (i+1) 9223372036854775807),(ZLo ((↑i:Int)+1)),(ZHi ((↑i:Int)+1)),(AN 0),(AN ((i+1))),(AN nb),(AP nb (fun i_1=>[.seq false 1 n (fun i_2=>[.int .i64 ((cM n M i_1).2 i_2)])])),(AN m),(AP m (fun i_1=>[.int .i64 (f i_1)])),((((↑i:Int)+1):Int)=(↑(i+1):Int)),(AN 1),(NL (i+1) (i+1)),(CV [(226,⟨false,1,(i+1),(fun i_2=>(if (i_2<i) then [.p (.seq false 1 (2*m) (fun i_3=>[.int .i64 ((cM (2*m) B i_2).2 i_3)]))] else [.ar 1 1 0 (2*m)]))⟩),(194,⟨false,1,1,(fun i_2=>[.ar 1 1 0 (2*m)])⟩),(1,⟨false,1,(2*m),(fun i_2=>[.p (.int .i64 (B i i_2))])⟩)] [226] 1 (i+1) (fun i_1=>if (i_1<i) then [.p (.seq false 1 (2*m) (fun i_2=>[.int .i64 ((cM (2*m) B i_1).2 i_2)]))] else [.ar 1 1 0 (2*m)]) (fun i_1=>[.p (.seq false 1 (2*m) (fun i_2=>[.int .i64 ((cM (2*m) B i_1).2 i_2)]))]))]):=by kernel_rfl
theorem lge (nb n:Nat) (M:Nat→Nat→Int) (m:Nat) (f:Nat→Int) (B:Nat→Nat→Int) (A:Nat→Nat→Int) (r:Nat) (p:Nat→Int) :
    zP Tryz.f156 0 [rg 4,.dec false,rm [(1,oc (mH (2*m) nb A r p) (.tup [.ar 1 0 0 nb,.ar 1 2 0 r]))] 5,rg 7] zf38 (lgS nb n M m f B nb) [] 1 [] (.p (.int .i64 (2*(m:Int) - (r:Int)))) =
    some [((decide ((↑nb:Int)<(↑nb:Int)))=false),(AN 1),(NL nb nb),zE 226 [.p (.seq true 1 nb (fun i=>[.seq true 1 (2*m) (fun i_1=>[.int .i64 ((cM (2*m) B i).2 i_1)])]))] [(0,⟨false,1,nb,(fun i=>[.ar 1 ⟨1,some i⟩ 0 (2*m)])⟩),(1,⟨true,0,nb,(fun i=>[.p (.seq false 1 (2*m) (fun i_1=>[.int .i64 ((cM (2*m) A i).2 i_1)]))])⟩),(2,⟨false,1,r,(fun i=>[.p (.int .i64 (p i))])⟩)] (.tup [.ar 1 0 0 nb,.ar 1 2 0 r]),(ZLo (2*(↑m:Int))),(ZHi (2*(↑m:Int))),(ZLo (2*(↑m:Int) - (↑r:Int))),(ZHi (2*(↑m:Int) - (↑r:Int))),(AI ((2*(↑m:Int) - (↑r:Int))))]:=by kernel_rfl
theorem llN (g:Nat→T_Bar) (nb:Nat) (N:Int) (pl:PlF) (np:Nat) (K:T_IntS) (n:Nat) (P:Nat→PlF) :
    zS Tryz.f46 [rg 2,rm [(1,oc [] (.tup [psL false n P np,.p (.bool false)]))] 5,rg 2,.dec true,rg 1] [tsA g nb N pl np K] [] [] (.p (.str xE)) =
    some [(NT 0 1),zE 159 [(zf25 N nb g np pl K)] [] ((zf87 n np P)),((!false)=true),(ByteArray.mk #[]=xE)]:=by kernel_rfl
theorem llR (g:Nat→T_Bar) (nb:Nat) (N:Int) (pl:PlF) (np:Nat) (K:T_IntS) (n:Nat) (P:Nat→PlF) (fd:Int) (r:Nat) (R:Nat→T_IntS) (b:Bool) (c:Nat) (q:Nat→Int) (fn ff fr fc s1 s2:ByteArray) :
    zS Tryz.f46 [rg 2,rm [(1,oc [] (.tup [psL false n P np,.p (.bool true)]))] 5,rg 2,.dec false,rm [(2,oc [] (.p (.str fn))),(1,oc [] (.p (.int .i64 fd))),(0,oc [] (.p (.str ff))),(1,oc [] (.p (.str s1)))] 1,rm [(1,oc [] (.tup [rsL r R,.p (.bool b)]))] 5,rm [(4,oc [] (.p (.str fr))),(1,oc [] (fzL c q)),(1,oc [] (.p (.str fc))),(1,oc [] (.p (.str s2)))] 1] [tsA g nb N pl np K] [] [] (.p (.str s2)) =
    some [(NT 0 1),zE 159 [(zf25 N nb g np pl K)] [] ((zf88 n np P)),((!true)=false),zE 129 [.p (.int .i64 (↑n:Int))] [] (.p (.str fn)),(NT 0 1),zE 160 [(zf25 N nb g np pl K)] [] (.p (.int .i64 fd)),zE 129 [.p (.int .i64 fd)] [] (.p (.str ff)),(AN 1),(NL 4 4),zE 108 [.p (.seq true 1 4 (fun i=>[(cellP true [(List.getD ([.p (.str (ByteArray.mk #[112,111,115,101,115])),.p (.str fn),.p (.str (ByteArray.mk #[102,114,101,101,100,111,109])),.p (.str ff)]:List AV) (rowIx 4 i*1) (.p .any))] 0)]))] [] (.p (.str s1)),(NT 0 1),zE 161 [(zf25 N nb g np pl K)] [] (.tup [.p (.seq false 1 r (fun i=>[.seq false 1 ((R i).1) (fun i_1=>[.int .i64 ((R i).2 i_1)])])),.p (.bool b)]),zE 129 [.p (.int .i64 (↑r:Int))] [] (.p (.str fr)),(NT 0 1),zE 162 [(zf25 N nb g np pl K)] [] (.p (.seq false 1 c (fun i=>[.int .i64 (q i)]))),zE 129 [.p (.int .i64 (↑c:Int))] [] (.p (.str fc)),(AN 1),(NL 4 4),zE 114 [.p (.str s1),.p (.bool b),.p (.seq true 1 4 (fun i=>[(cellP true [(List.getD ([.p (.str (ByteArray.mk #[114,111,111,109,115])),.p (.str fr),.p (.str (ByteArray.mk #[114,111,111,109])),.p (.str fc)]:List AV) (rowIx 4 i*1) (.p .any))] 0)]))] [] (.p (.str s2)),(s2=s2)]:=by kernel_rfl
theorem lsM (g:Nat→T_Bar) (nb:Nat) (N:Int) (pl:PlF) (np:Nat) (K:T_IntS) (n:Nat) (P:Nat→PlF) :
    zS Tryz.f44 [rg 2,rm [(1,oc [] (.tup [psL false n P np,.p (.bool false)]))] 5,rg 2,.dec true,rg 1] [tsA g nb N pl np K] [] [] (.p (.str xE)) =
    some [(NT 0 1),zE 155 [(zf25 N nb g np pl K)] [] ((zf87 n np P)),((!false)=true),(ByteArray.mk #[]=xE)]:=by kernel_rfl
theorem lsT (g:Nat→T_Bar) (nb:Nat) (N:Int) (pl:PlF) (np:Nat) (K:T_IntS) (n:Nat) (P:Nat→PlF) (fd:Int) (r:Nat) (R:Nat→T_IntS) (c:Nat) (q:Nat→Int) (fn ff fr fc:ByteArray) :
    zS Tryz.f44 [rg 2,rm [(1,oc [] (.tup [psL false n P np,.p (.bool true)]))] 5,rg 2,.dec false,rm [(2,oc [] (.p (.str fn))),(3,oc [] (.p (.int .i64 fd))),(0,oc [] (.p (.str ff)))] 2,rm [(1,oc [] (.tup [rsL r R,.p (.bool true)]))] 5,rg 1,.dec true,rm [(4,oc [] (.p (.str fr))),(3,oc [] (fzL c q)),(1,oc [] (.p (.str fc)))] 2,rg 2] [tsA g nb N pl np K] [] [] (.p (.str (((((((xsPos++fn)++xsFree)++ff)++xsRms)++fr)++xsRom)++fc))) =
    some [(NT 0 1),zE 155 [(zf25 N nb g np pl K)] [] ((zf88 n np P)),((!true)=false),zE 118 [.p (.int .i64 (↑n:Int))] [] (.p (.str fn)),(NL ((ByteArray.mk #[112,111,115,101,115,32]).size+fn.size) 9223372036854775807),(NL ((ByteArray.mk #[112,111,115,101,115,32]++fn).size+(ByteArray.mk #[32,102,114,101,101,100,111,109,32]).size) 9223372036854775807),(NT 0 1),zE 156 [(zf25 N nb g np pl K)] [] (.p (.int .i64 fd)),zE 118 [.p (.int .i64 fd)] [] (.p (.str ff)),(NL ((ByteArray.mk #[112,111,115,101,115,32]++fn++ByteArray.mk #[32,102,114,101,101,100,111,109,32]).size+ff.size) 9223372036854775807),(NT 0 1),zE 157 [(zf25 N nb g np pl K)] [] (.tup [.p (.seq false 1 r (fun i=>[.seq false 1 ((R i).1) (fun i_1=>[.int .i64 ((R i).2 i_1)])])),.p (.bool true)]),(true=true),(NL ((ByteArray.mk #[112,111,115,101,115,32]++fn++ByteArray.mk #[32,102,114,101,101,100,111,109,32]++ff).size+(ByteArray.mk #[32,114,111,111,109,115,32]).size) 9223372036854775807),zE 118 [.p (.int .i64 (↑r:Int))] [] (.p (.str fr)),(NL ((ByteArray.mk #[112,111,115,101,115,32]++fn++ByteArray.mk #[32,102,114,101,101,100,111,109,32]++ff++ByteArray.mk #[32,114,111,111,109,115,32]).size+fr.size) 9223372036854775807),(NL ((ByteArray.mk #[112,111,115,101,115,32]++fn++ByteArray.mk #[32,102,114,101,101,100,111,109,32]++ff++ByteArray.mk #[32,114,111,111,109,115,32]++fr).size+(ByteArray.mk #[32,114,111,111,109,32]).size) 9223372036854775807),(NT 0 1),zE 158 [(zf25 N nb g np pl K)] [] (.p (.seq false 1 c (fun i=>[.int .i64 (q i)]))),zE 118 [.p (.int .i64 (↑c:Int))] [] (.p (.str fc)),(NL ((ByteArray.mk #[112,111,115,101,115,32]++fn++ByteArray.mk #[32,102,114,101,101,100,111,109,32]++ff++ByteArray.mk #[32,114,111,111,109,115,32]++fr++ByteArray.mk #[32,114,111,111,109,32]).size+fc.size) 9223372036854775807),(ByteArray.mk #[112,111,115,101,115,32]++fn++ByteArray.mk #[32,102,114,101,101,100,111,109,32]++ff++ByteArray.mk #[32,114,111,111,109,115,32]++fr++ByteArray.mk #[32,114,111,111,109,32]++fc=xsPos++fn++xsFree++ff++xsRms++fr++xsRom++fc)]:=by kernel_rfl
theorem lsG (g:Nat→T_Bar) (nb:Nat) (N:Int) (pl:PlF) (np:Nat) (K:T_IntS) (n:Nat) (P:Nat→PlF) (fd:Int) (r:Nat) (R:Nat→T_IntS) (fn ff:ByteArray) :
    zS Tryz.f44 [rg 2,rm [(1,oc [] (.tup [psL false n P np,.p (.bool true)]))] 5,rg 2,.dec false,rm [(2,oc [] (.p (.str fn))),(3,oc [] (.p (.int .i64 fd))),(0,oc [] (.p (.str ff)))] 2,rm [(1,oc [] (.tup [rsL r R,.p (.bool false)]))] 5,rg 1,.dec false,rg 2] [tsA g nb N pl np K] [] [] (.p (.str (((xsPos++fn)++xsFree)++ff))) =
    some [(NT 0 1),zE 155 [(zf25 N nb g np pl K)] [] ((zf88 n np P)),((!true)=false),zE 118 [.p (.int .i64 (↑n:Int))] [] (.p (.str fn)),(NL ((ByteArray.mk #[112,111,115,101,115,32]).size+fn.size) 9223372036854775807),(NL ((ByteArray.mk #[112,111,115,101,115,32]++fn).size+(ByteArray.mk #[32,102,114,101,101,100,111,109,32]).size) 9223372036854775807),(NT 0 1),zE 156 [(zf25 N nb g np pl K)] [] (.p (.int .i64 fd)),zE 118 [.p (.int .i64 fd)] [] (.p (.str ff)),(NL ((ByteArray.mk #[112,111,115,101,115,32]++fn++ByteArray.mk #[32,102,114,101,101,100,111,109,32]).size+ff.size) 9223372036854775807),(NT 0 1),zE 157 [(zf25 N nb g np pl K)] [] (.tup [.p (.seq false 1 r (fun i=>[.seq false 1 ((R i).1) (fun i_1=>[.int .i64 ((R i).2 i_1)])])),.p (.bool false)]),(false=false),(ByteArray.mk #[112,111,115,101,115,32]++fn++ByteArray.mk #[32,102,114,101,101,100,111,109,32]++ff=xsPos++fn++xsFree++ff)]:=by kernel_rfl
def fK {α:Type} (f:Nat→α→α):Nat→α→α
  | 0,a=>a
  | n+1,a=>f n (fK f n a)
theorem fK_congr {α:Type} {f g:Nat→α→α}:∀ n a,(∀ i,i<n→∀ b,f i b=g i b)→fK f n a=fK g n a
  | 0,_,_=>rfl
  | n+1,a,h=>by simp only [fK];rw [fK_congr n a (fun i hi b=>h i (by omega) b),h n (by omega)]
theorem fK_add {α:Type} (f:Nat→α→α) (a:α) (p:Nat):∀ q,fK f (p+q) a=fK (fun c=>f (p+c)) q (fK f p a)
  | 0=>rfl
  | q+1=>by rw [← Nat.add_assoc,fK,fK_add f a p q,fK]
theorem fK_five {α:Type} (G:Nat→α→α) (a:α):∀ n,fK (fun y s=>fK (fun x s=>G (5*y+x) s) 5 s) n a=fK G (5*n) a
  | 0=>rfl
  | n+1=>by rw [fK,fK_five G a n,Nat.mul_succ,fK_add]
abbrev PL:=Nat×(Nat→PlF)
def zPL:PL:=(0,fun _ _=>(0,0,()))
def snPL (L:PL) (a:PlF):PL:=(L.1+1,snP L.1 L.2 a)
def tryP (pb:PlF→Bool) (L:PL) (a:PlF):PL:=if pb a=true then snPL L a else L
def psD (pb:PlF→Bool) (f:Nat→Int):Nat→Nat→PL×PlF→PL×PlF
  | 0,_,s=>(tryP pb s.1 s.2,s.2)
  | d+1,i,s=>fK (fun y s=>fK (fun x s=>psD pb f d (i+1) (s.1,upP s.2 (f i).toNat x y)) 5 s) 5 s
def pcG (f:Nat→Int) (i:Nat):Nat→Nat→PlF→PlF
  | 0,_,a=>a
  | d+1,c,a=>pcG f i d (c / 25) (upP a (f (i+d)).toNat (c % 5) (c / 5 % 5))
def Dif (f:Nat→Int) (m:Nat):Prop:=∀ i j,i<j→j<m→(f i).toNat≠(f j).toNat
theorem upP_comm {a:PlF} {r s x y x' y':Nat} (h:r≠s):upP (upP a r x y) s x' y'=upP (upP a s x' y') r x y:=by
  funext v
  unfold upP
  by_cases h1:v=r
  · rw [if_pos h1,if_neg (by omega),if_pos h1]
  · rw [if_neg h1,if_neg h1]
theorem pcG_top {f:Nat→Int} {m:Nat} (hd:Dif f m):∀ d i k c a,i+d<m→k<25→c<25 ^ d→pcG f i (d+1) (k*25 ^ d+c) a=pcG f (i+1) d c (upP a (f i).toNat (k % 5) (k / 5))
  | 0,i,k,c,a,_,hk,hc=>by
    have:c=0:=by simpa using hc
    subst this
    show upP a (f (i+0)).toNat ((k*1+0) % 5) ((k*1+0) / 5 % 5)=_
    rw [Nat.mul_one,Nat.add_zero,Nat.add_zero,show k / 5 % 5=k / 5 by omega];rfl
  | d+1,i,k,c,a,hm,hk,hc=>by
    rw [Nat.pow_succ] at hc
    have e1:(k*25 ^ (d+1)+c) / 25=k*25 ^ d+c / 25:=by rw [Nat.pow_succ,← Nat.mul_assoc];omega
    have e2:(k*25 ^ (d+1)+c) % 5=c % 5:=by rw [Nat.pow_succ,← Nat.mul_assoc];omega
    have e3:(k*25 ^ (d+1)+c) / 5 % 5=c / 5 % 5:=by rw [Nat.pow_succ,← Nat.mul_assoc];omega
    rw [pcG,e1,e2,e3,pcG_top hd d i k (c / 25) _ (by omega) hk (by omega)]
    show _=pcG f (i+1) d (c / 25) (upP (upP a _ _ _) (f (i+1+d)).toNat (c % 5) (c / 5 % 5))
    rw [show i+(d+1)=i+1+d by omega,upP_comm (hd i (i+1+d) (by omega) (by omega))]
theorem pcG_congr {f:Nat→Int} {i:Nat}:∀ d c (a b:PlF),(∀ v,(∀ j,i≤j→j<i+d→v≠(f j).toNat)→a v=b v)→pcG f i d c a=pcG f i d c b
  | 0,c,a,b,h=>funext fun v=>h v (fun j h1 h2=>by omega)
  | d+1,c,a,b,h=>by
    rw [pcG,pcG]
    refine pcG_congr d (c / 25) _ _ (fun v hv=>?_)
    unfold upP
    by_cases e:v=(f (i+d)).toNat
    · rw [if_pos e,if_pos e]
    · rw [if_neg e,if_neg e]
      refine h v (fun j h1 h2=>?_)
      by_cases e2:j=i+d
      · rw [e2];exact e
      · exact hv j h1 (by omega)
theorem fK_inv {α:Type} {f:Nat→α→α} (I:Nat→α→Prop):∀ n a,I 0 a→(∀ k b,k<n→I k b→I (k+1) (f k b))→I n (fK f n a)
  | 0,_,h0,_=>h0
  | n+1,a,h0,hs=>hs n _ (by omega) (fK_inv I n a h0 (fun k b hk hb=>hs k b (by omega) hb))
theorem psD_ok (pb:PlF→Bool) {f:Nat→Int} {m:Nat} (hd:Dif f m):∀ d i (L:PL) (a:PlF),i+d=m →
    (psD pb f d i (L,a)).1=fK (fun c L=>tryP pb L (pcG f i d c a)) (25 ^ d) L∧∀ v,(∀ j,i≤j→j<i+d→v≠(f j).toNat)→(psD pb f d i (L,a)).2 v=a v
  | 0,i,L,a,_=>⟨rfl,fun _ _=>rfl⟩
  | d+1,i,L,a,hm=>by
    let G:Nat→PL×PlF→PL×PlF:=fun k s=>psD pb f d (i+1) (s.1,upP s.2 (f i).toNat (k % 5) (k / 5))
    have e0:psD pb f (d+1) i (L,a)=fK G 25 (L,a):=by
      have:=fK_five G (L,a) 5
      rw [← this]
      show fK _ 5 _=fK _ 5 _
      refine fK_congr 5 _ (fun y hy s=>fK_congr 5 s (fun x hx s=>?_))
      show _=psD pb f d (i+1) (s.1,upP s.2 (f i).toNat ((5*y+x) % 5) ((5*y+x) / 5))
      rw [show (5*y+x) % 5=x by omega,show (5*y+x) / 5=y by omega]
    have key:=fK_inv (f:=G) (fun k s=>s.1=fK (fun c L=>tryP pb L (pcG f i (d+1) c a)) (k*25 ^ d) L∧∀ v,(∀ j,i≤j→j<i+(d+1)→v≠(f j).toNat)→s.2 v=a v) 25 (L,a)
      ⟨by rw [Nat.zero_mul];rfl,fun _ _=>rfl⟩ (fun k s hk hs=>by
        obtain ⟨h1,h2⟩:=hs
        obtain ⟨q1,q2⟩:=psD_ok pb hd d (i+1) s.1 (upP s.2 (f i).toNat (k % 5) (k / 5)) (by omega)
        refine ⟨?_,fun v hv=>?_⟩
        · show (psD pb f d (i+1) (s.1,upP s.2 (f i).toNat (k % 5) (k / 5))).1=_
          rw [q1,Nat.add_mul,Nat.one_mul,fK_add,← h1]
          refine fK_congr _ _ (fun c hc L=>?_)
          rw [← pcG_top hd d i k c s.2 (by omega) hk hc,pcG_congr (d+1) (k*25 ^ d+c) s.2 a h2]
        · show (psD pb f d (i+1) (s.1,upP s.2 (f i).toNat (k % 5) (k / 5))).2 v=_
          rw [q2 v (fun j h3 h4=>hv j (by omega) (by omega))]
          unfold upP
          rw [if_neg (hv i (Nat.le_refl _) (by omega))]
          exact h2 v hv)
    rw [e0]
    refine ⟨?_,key.2⟩
    rw [key.1,Nat.pow_succ,Nat.mul_comm]
def spC (pb:PlF→Bool) (f:Nat→Int) (m:Nat) (pl:PlF) (k:Nat):PL:=fK (fun c L=>tryP pb L (pcG f 0 m c pl)) k zPL
theorem psD_sp (pb:PlF→Bool) {f:Nat→Int} {m:Nat} (hd:Dif f m) (pl:PlF):(psD pb f m 0 (zPL,pl)).1=spC pb f m pl (25 ^ m):=(psD_ok pb hd m 0 zPL pl (by omega)).1
theorem tryP_n (pb:PlF→Bool) (L:PL) (a:PlF):(tryP pb L a).1≤L.1+1:=by
  unfold tryP
  split
  · exact Nat.le_refl _
  · omega
theorem spC_n (pb:PlF→Bool) (f:Nat→Int) (m:Nat) (pl:PlF) (k:Nat):(spC pb f m pl k).1≤k :=
  fK_inv (fun k (L:PL)=>L.1≤k) k zPL (Nat.le_refl _) (fun k L _ h=>Nat.le_trans (tryP_n _ _ _) (by omega))
theorem psD_n (pb:PlF→Bool) (f:Nat→Int):∀ d i (s:PL×PlF),(psD pb f d i s).1.1≤s.1.1+25 ^ d
  | 0,i,s=>tryP_n _ _ _
  | d+1,i,s=>by
    have:=fK_inv (f:=fun y s=>fK (fun x s=>psD pb f d (i+1) (s.1,upP s.2 (f i).toNat x y)) 5 s) (fun y (t:PL×PlF)=>t.1.1≤s.1.1+y*(5*25 ^ d)) 5 s (by omega) (fun y t _ ht=>by
      have:=fK_inv (f:=fun x s=>psD pb f d (i+1) (s.1,upP s.2 (f i).toNat x y)) (fun x (u:PL×PlF)=>u.1.1≤t.1.1+x*25 ^ d) 5 t (by omega) (fun x u _ hu=>by
        have:=psD_n pb f d (i+1) (u.1,upP u.2 (f i).toNat x y)
        have e:(x+1)*25 ^ d=x*25 ^ d+25 ^ d:=Nat.succ_mul _ _
        simp only at this
        omega)
      have e:(y+1)*(5*25 ^ d)=y*(5*25 ^ d)+5*25 ^ d:=Nat.succ_mul _ _
      omega)
    have e:25 ^ (d+1)=25 ^ d*25:=Nat.pow_succ _ _
    show (fK _ 5 s).1.1≤_
    omega
theorem spC_all (pb:PlF→Bool) (f:Nat→Int) (m:Nat) (pl:PlF) (k:Nat):∀ i,i<(spC pb f m pl k).1→pb ((spC pb f m pl k).2 i)=true :=
  fK_inv (fun _ (L:PL)=>∀ i,i<L.1→pb (L.2 i)=true) k zPL (fun i hi=>absurd hi (Nat.not_lt_zero _)) (fun c L _ h i hi=>by
    unfold tryP at hi ⊢
    by_cases hp:pb (pcG f 0 m c pl)=true
    · rw [if_pos hp] at hi ⊢
      show pb (snP L.1 L.2 _ i)=true
      unfold snP
      split
      · rename_i h';exact h i h'
      · exact hp
    · rw [if_neg hp] at hi ⊢
      exact h i hi)
theorem flt_mono (p:Nat→Bool) (a:Nat):∀ d,(flt p a).1≤(flt p (a+d)).1
  | 0=>Nat.le_refl _
  | d+1=>by
    have:=flt_mono p a d
    cases h:p (a+d) with
    | true=>rw [show a+(d+1)=a+d+1 from rfl,flt_t h];exact Nat.le_succ_of_le this
    | false=>rw [show a+(d+1)=a+d+1 from rfl,flt_f h];exact this
theorem flt_sum (p:Nat→Bool):∀ n,(flt p n).1+(flt (fun i=>!p i) n).1=n
  | 0=>rfl
  | n+1=>by
    have:=flt_sum p n
    cases h:p n with
    | true=>rw [flt_t h,flt_f (p:=fun i=>!p i) (by rw [h];rfl)];show _+1+_=_;omega
    | false=>rw [flt_f h,flt_t (p:=fun i=>!p i) (by rw [h];rfl)];show _+(_+1)=_;omega
theorem flt_pos {p:Nat→Bool} {N:Nat} {u:T_IntS} (hin:∀ i,i<u.1→0≤u.2 i∧u.2 i<(N:Int)∧∀ j,j<i→u.2 j<u.2 i) (hp:∀ i,i<u.1→p (u.2 i).toNat=true):∀ i,i<u.1→i≤(flt p (u.2 i).toNat).1
  | 0,_=>Nat.zero_le _
  | i+1,h=>by
    have h1:=flt_pos hin hp i (by omega)
    have h2:=hin i (by omega)
    have h3:=hin (i+1) h
    have h4:=h3.2.2 i (by omega)
    have h5:=flt_mono p ((u.2 i).toNat+1) ((u.2 (i+1)).toNat - ((u.2 i).toNat+1))
    rw [show (u.2 i).toNat+1+((u.2 (i+1)).toNat - ((u.2 i).toNat+1))=(u.2 (i+1)).toNat by omega,flt_t (hp i (by omega))] at h5
    exact Nat.le_trans (Nat.succ_le_succ h1) h5
theorem flt_rn (p:Nat→Bool):∀ n,∀ i,i<(flt p n).1→0≤(flt p n).2 i∧(flt p n).2 i<(n:Int)∧p ((flt p n).2 i).toNat=true∧∀ j,j<i→(flt p n).2 j<(flt p n).2 i
  | 0,i,h=>absurd h (Nat.not_lt_zero _)
  | n+1,i,h=>by
    have ih:=flt_rn p n
    cases hp:p n with
    | false =>
      rw [flt_f hp] at h ⊢
      obtain ⟨h1,h2,h3,h4⟩:=ih i h
      exact ⟨h1,by omega,h3,h4⟩
    | true =>
      rw [flt_t hp] at h ⊢
      simp only at h ⊢
      by_cases e:i<(flt p n).1
      · rw [if_pos e]
        obtain ⟨h1,h2,h3,h4⟩:=ih i e
        refine ⟨h1,by omega,h3,fun j hj=>?_⟩
        rw [if_pos (by omega)]
        exact h4 j hj
      · rw [if_neg e]
        refine ⟨by omega,by omega,by rw [show ((n:Nat):Int).toNat=n by omega];exact hp,fun j hj=>?_⟩
        rw [if_pos (by omega)]
        exact (ih j (by omega)).2.1
theorem fj_ok {g:Nat→T_Bar} {nb:Nat} {N:Int} {pl:Nat→T_Place} {np:Nat} {K:T_IntS} (hl:lkB g nb N pl np K=true) :
    (fjF g nb N pl np K).1≤2∧(∀ i,i<(fjF g nb N pl np K).1→0≤(fjF g nb N pl np K).2 i∧(fjF g nb N pl np K).2 i<(np:Int))∧Dif (fjF g nb N pl np K).2 (fjF g nb N pl np K).1:=by
  obtain ⟨hf,hN,hnp,hk0,hk1,hk2,hgd,hin⟩:=lk_ok hl
  have e:fjF g nb N pl np K=flt (fjP K) np:=by unfold fjF;rw [if_pos hl]
  rw [e]
  refine ⟨?_,fun i hi=>?_,fun i j hij hj=>?_⟩
  · have h1:=flt_sum (fjP K) np
    have hp:∀ i,i<K.1→(fun v=>!fjP K v) (K.2 i).toNat=true:=fun i hi=>by
      show (!fjP K _)=true
      have:=hin i hi
      unfold fjP
      rw [show (((K.2 i).toNat:Nat):Int)=K.2 i by omega,(hasI_ex _ _ _).2 ⟨i,hi,rfl⟩];rfl
    have h2:=flt_pos (p:=fun v=>!fjP K v) hin hp (K.1 - 1) (by omega)
    have h3:=hin (K.1 - 1) (by omega)
    have h4:=flt_mono (fun v=>!fjP K v) ((K.2 (K.1 - 1)).toNat+1) (np - ((K.2 (K.1 - 1)).toNat+1))
    rw [show (K.2 (K.1 - 1)).toNat+1+(np - ((K.2 (K.1 - 1)).toNat+1))=np by omega,flt_t (hp (K.1 - 1) (by omega))] at h4
    simp only at h4
    omega
  · have:=flt_rn (fjP K) np i hi
    omega
  · have h1:=flt_rn (fjP K) np i (by omega)
    have h2:=flt_rn (fjP K) np j hj
    have:=h2.2.2.2 i hij
    omega
theorem con_TryP {g:Nat→T_Bar} {nb:Nat} {N:Int} {pl:Nat→T_Place} {np:Nat} {K:T_IntS} (hl:lkB g nb N pl np K=true) {m:Nat} {f:Nat→Int} (hm:m≤2) (hfr:∀ i,i<m→0≤f i∧f i<(np:Int)) :
    ∀ (d i:Nat) (n:Nat) (P:Nat→PlF) (a:PlF) {S:PL×PlF},i+d=m→n+25 ^ d≤1000→psD (poB g nb pl np K) f d i ((n,P),a)=S →
      Con Tryz.prog 272 8 (pxH g nb N pl np K m f n P a) (pxA i) (pyH g nb N pl np K m f S.1.1 S.1.2 S.2) (.tup [])
  | 0,i,n,P,a,S,hd,hn,hS=>by
    have cp:=con_pose_i hl a
    have hnp:=(lk_ok hl).2.2.1
    have hlen:((i:Int)==(m:Int))=true:=beq_iff_eq.2 (by omega)
    subst hS
    show Con _ _ _ _ _ (pyH g nb N pl np K m f (tryP (poB g nb pl np K) (n,P) a).1 (tryP (poB g nb pl np K) (n,P) a).2 a) _
    refine csZ Tryz.func272 (fun c hc=>?_)
    unfold tryP
    cases hb:poB g nb pl np K a with
    | true =>
      rw [if_pos rfl]
      rw [hb] at cp
      refine pkD Tryz.func272 hc (pTa g nb N pl np K m f n P a i) ?_
      repeat' (first | exact aN | apply aI)
      iterate 2 all_goals (first | exact zH | (exact hlen) | (exact cp) | (intro t ht;by_cases h':t<n;exact ⟨by simp [h',cvtL,cvt,tg,tru,idx,idx1,idO,idM,All,Nat.ne_of_lt h'],by simp [h',cvtL,cvt,tg,tru,idx,idx1,idO,idM]⟩;rw [show t=n by omega];exact ⟨by simp [cvtL,cvt,tg,tru,idx,idx1,idO,idM,All],by simp [cvtL,cvt,tg,tru,idx,idx1,idO,idM]⟩) | (intro t ht hne;have h':t<n:=(by omega);exact ⟨h',by simp [snPL,snP,h',All]⟩) | (intro _;simp [snPL,snP,All];done) | (intros;simp [All,ntAL,ntA,ntP,ntL];done) | simp only [All])
    | false =>
      rw [if_neg Bool.false_ne_true]
      rw [hb] at cp
      refine pkD Tryz.func272 hc (pTb g nb N pl np K m f n P a i) ?_
      and_intros
      iterate 2 all_goals (first | exact zN | (exact hlen) | (exact cp) | (intros;simp [All,ntAL,ntA,ntP,ntL];done) | (simp;done) | (simp;omega) | simp only [All])
  | d+1,i,n,P,a,S,hd,hn,hS=>by
    have ih:=con_TryP hl hm hfr d
    have hnp:=(lk_ok hl).2.2.1
    have hlen:((i:Int)==(m:Int))=false:=beq_eq_false_iff_ne.2 (by omega)
    have hfi:=hfr i (by omega)
    refine csZ Tryz.func272 (fun c hc=>?_)
    have e25:25 ^ (d+1)=25 ^ d*25:=Nat.pow_succ _ _
    let F:Nat→Nat→PL×PlF→PL×PlF:=fun y x s=>psD (poB g nb pl np K) f d (i+1) (s.1,upP s.2 (f i).toNat x y)
    have l1:∀ y,y<5→∀ (T:PL×PlF),T.1.1+5*25 ^ d≤1000→∀ {R:Ending→World→Prop},zR c 272 zf95 (pxS g nb N pl np K m f (fK (F y) 5 T).1.1 (fK (F y) 5 T).1.2 (fK (F y) 5 T).2 i (y+1)) R →
        ∀ e x,x+e=5→zR c 272 zf21 (pxT g nb N pl np K m f (fK (F y) x T).1.1 (fK (F y) x T).1.2 (fK (F y) x T).2 i y x) R:=by
      intro y hy T hT R hR e
      induction e with
      | zero =>
        intro x hx
        rw [show x=5 by omega]
        have hd5:decide (((5:Nat):Int)<5)=false:=by decide
        refine pcD hc (pTj g nb N pl np K m f _ _ _ i y 5) ?_ hR
        and_intros
        iterate 2 all_goals (first | exact zN | (exact hd5) | (intros;simp [All,ntAL,ntA,ntP,ntL];done) | (simp;done) | (simp;omega) | simp only [All])
      | succ e ihe =>
        intro x hx
        have hdx:decide ((x:Int)<5)=true:=decide_eq_true (by omega)
        have hrec:=ihe (x+1) (by omega)
        have hcnt:=fK_inv (f:=F y) (fun x (u:PL×PlF)=>u.1.1≤T.1.1+x*25 ^ d) x T (by omega) (fun x u _ hu=>by
          have:=psD_n (poB g nb pl np K) f d (i+1) (u.1,upP u.2 (f i).toNat x y)
          have e:(x+1)*25 ^ d=x*25 ^ d+25 ^ d:=Nat.succ_mul _ _
          simp only at this
          show (psD _ _ _ _ _).1.1≤_
          omega)
        have hx25:x*25 ^ d+25 ^ d≤5*25 ^ d:=by rw [← Nat.succ_mul];exact Nat.mul_le_mul_right _ (by omega)
        rw [show fK (F y) (x+1) T=F y x (fK (F y) x T) from rfl] at hrec
        generalize fK (F y) x T=B at hrec hcnt ⊢
        have ci:=ih (i+1) B.1.1 B.1.2 (upP B.2 (f i).toNat x y) (S:=F y x B) (by omega) (by omega) rfl
        generalize F y x B=D at hrec ci
        refine pcD hc (pTi g nb N pl np K m f B.1.1 B.1.2 B.2 i y x) ?_ ?_
        ·
          and_intros
          iterate 2 all_goals (first | exact zI | (exact hdx) | (intro t ht;by_cases h':t=(f i).toNat<;>(simp [h',upP,cvtL,cvt,tg,tru,All];done)) | (intros;simp [All,ntAL,ntA,ntP,ntL];done) | (simp;done) | (simp;omega) | simp only [All])
        · refine pcD hc (pTk g nb N pl np K m f B.1.1 B.1.2 (upP B.2 (f i).toNat x y) i y x D.1.1 D.1.2 D.2) ?_ hrec
          and_intros
          iterate 2 all_goals (first | exact zN | (exact ci) | (intros;simp [All,ntAL,ntA,ntP,ntL];done) | (simp;done) | (simp;omega) | simp only [All])
    let G:Nat→PL×PlF→PL×PlF:=fun y s=>fK (F y) 5 s
    have hS':fK G 5 ((n,P),a)=S:=hS
    have hz:((n,P),a).1.1=n:=rfl
    have lo:∀ e y,y+e=5→zR c 272 zf95 (pxS g nb N pl np K m f (fK G y ((n,P),a)).1.1 (fK G y ((n,P),a)).1.2 (fK G y ((n,P),a)).2 i y) (Post c (pyH g nb N pl np K m f S.1.1 S.1.2 S.2) (.tup [])):=by
      intro e
      induction e with
      | zero =>
        intro y hy
        rw [show y=5 by omega,hS']
        have hd5:decide (((5:Nat):Int)<5)=false:=by decide
        refine pkD Tryz.func272 hc (pTe g nb N pl np K m f _ _ _ i 5) ?_
        and_intros
        iterate 2 all_goals (first | exact zN | (exact hd5) | (intros;simp [All,ntAL,ntA,ntP,ntL];done) | (simp;done) | (simp;omega) | simp only [All])
      | succ e ihe =>
        intro y hy
        have hdy:decide ((y:Int)<5)=true:=decide_eq_true (by omega)
        have hrec:=ihe (y+1) (by omega)
        have hcnt:=fK_inv (f:=G) (fun y (u:PL×PlF)=>u.1.1≤n+y*(5*25 ^ d)) y ((n,P),a) (by show n≤_;omega) (fun y t _ ht=>by
          have:=fK_inv (f:=F y) (fun x (u:PL×PlF)=>u.1.1≤t.1.1+x*25 ^ d) 5 t (by omega) (fun x u _ hu=>by
            have:=psD_n (poB g nb pl np K) f d (i+1) (u.1,upP u.2 (f i).toNat x y)
            have e:(x+1)*25 ^ d=x*25 ^ d+25 ^ d:=Nat.succ_mul _ _
            simp only at this
            show (psD _ _ _ _ _).1.1≤_
            omega)
          have e:(y+1)*(5*25 ^ d)=y*(5*25 ^ d)+5*25 ^ d:=Nat.succ_mul _ _
          show (fK (F y) 5 t).1.1≤_
          omega)
        have hy25:y*(5*25 ^ d)+5*25 ^ d≤5*(5*25 ^ d):=by rw [← Nat.succ_mul];exact Nat.mul_le_mul_right _ (by omega)
        rw [show fK G (y+1) ((n,P),a)=fK (F y) 5 (fK G y ((n,P),a)) from rfl] at hrec
        generalize fK G y ((n,P),a)=B at hrec hcnt ⊢
        refine pcD hc (pTo g nb N pl np K m f B.1.1 B.1.2 B.2 i y) ?_ (l1 y (by omega) B (by omega) hrec 5 0 (by omega))
        and_intros
        iterate 2 all_goals (first | exact zN | (exact hdy) | (intros;simp [All,ntAL,ntA,ntP,ntL];done) | (simp;done) | (simp;omega) | simp only [All])
    refine pcD hc (pTz g nb N pl np K m f n P a i) ?_ (lo 5 0 (by omega))
    and_intros
    iterate 2 all_goals (first | exact zN | (exact hlen) | (intros;simp [All,ntAL,ntA,ntP,ntL];done) | (simp;done) | (simp;omega) | simp only [All])
def psF (g:Nat→T_Bar) (nb:Nat) (N:Int) (pl:Nat→T_Place) (np:Nat) (K:T_IntS):PL :=
  if lkB g nb N pl np K=true then spC (poB g nb pl np K) (fjF g nb N pl np K).2 (fjF g nb N pl np K).1 pl (25 ^ (fjF g nb N pl np K).1) else zPL
theorem con_Poses_i (g:Nat→T_Bar) (nb:Nat) (N:Int) (pl:Nat→T_Place) (np:Nat) (K:T_IntS) (hn:nb≤1048576∧np≤1048576) (hK:K.1≤1048576) :
    zE 159 [tsA g nb N pl np K] [] (.tup [psL false (psF g nb N pl np K).1 (psF g nb N pl np K).2 np,.p (.bool (lkB g nb N pl np K))]):=by
  have cl:=con_lk_i g nb N pl np K hn hK
  refine csZ Tryz.func159 (fun c hc=>?_)
  unfold psF
  cases hl:lkB g nb N pl np K with
  | false =>
    rw [hl] at cl
    rw [if_neg Bool.false_ne_true]
    refine pkZ Tryz.func159 hc (pIy g nb N pl np K) ?_
    and_intros
    iterate 2 all_goals (first | exact zI | (exact cl) | (intro t ht;exact absurd ht (Nat.not_lt_zero _)) | (intro t ht;simp [All]) | simp only [All])
  | true =>
    rw [hl] at cl
    rw [if_pos rfl]
    have cj:=con_fj_i g nb N pl np K hn hK
    obtain ⟨hm,hfr,hdf⟩:=fj_ok hl
    have hnp:=(lk_ok hl).2.2.1
    rw [← psD_sp (poB g nb pl np K) hdf pl]
    generalize (fjF g nb N pl np K).2=f at *
    generalize (fjF g nb N pl np K).1=m at *
    have h25:25 ^ m≤625:=by
      have:m=0∨m=1∨m=2:=by omega
      rcases this with h | h | h<;>subst h<;>decide
    have ct:=con_TryP hl hm hfr m 0 0 (fun _ _=>(0,0,())) pl (S:=psD (poB g nb pl np K) f m 0 (zPL,pl)) (by omega) (by omega) rfl
    generalize psD (poB g nb pl np K) f m 0 (zPL,pl)=S at ct ⊢
    refine pcD hc (pIz g nb N pl np K m f) ?_ ?_
    ·
      and_intros
      iterate 2 all_goals (first | exact zI | (exact cl) | (exact cj) | (intro t ht;exact absurd ht (Nat.not_lt_zero _)) | (intros;simp [All,ntAL,ntA,ntP,ntL];done) | (simp;done) | (simp;omega) | simp only [All])
    · refine pkZ Tryz.func159 hc (pIe g nb N pl np K m f S.1.1 S.1.2 S.2) ?_
      and_intros
      iterate 2 all_goals (first | exact zN | (exact ct) | (intros;simp [All,ntAL,ntA,ntP,ntL];done) | (simp;done) | (simp;omega) | simp only [All])
theorem con_pow (m:Nat) (hm:m≤2):zE 266 [.p (.int .i64 25),.p (.int .i64 m)] [] (.p (.int .i64 ((25 ^ m:Nat):Int))):=by
  refine csZ Tryz.func266 (fun c hc=>?_)
  have lo:∀ d k,k+d=m→zR c 266 zf73 (pwS 25 m ((25 ^ k:Nat):Int) k) (Post c [] (.p (.int .i64 ((25 ^ m:Nat):Int)))):=by
    intro d
    induction d with
    | zero =>
      intro k hk
      have hd:decide ((k:Int)<(m:Int))=false:=decide_eq_false (by omega)
      rw [show k=m by omega] at hd ⊢
      refine pkZ Tryz.func266 hc (pwe 25 m ((25 ^ m:Nat):Int) m) ?_
      and_intros
      all_goals (first | exact zN | (exact hd))
    | succ d ih =>
      intro k hk
      have hd:decide ((k:Int)<(m:Int))=true:=decide_eq_true (by omega)
      have hrec:=ih (k+1) (by omega)
      rw [show ((25 ^ (k+1):Nat):Int)=((25 ^ k:Nat):Int)*25 by rw [Nat.pow_succ];omega] at hrec
      have:k=0∨k=1:=by omega
      have hk25:((25 ^ k:Nat):Int)≤25∧0≤((25 ^ k:Nat):Int):=by rcases this with h | h<;>subst h<;>decide
      generalize ((25 ^ k:Nat):Int)=r at *
      refine pcZ hc (pwt 25 m r k) ?_ hrec
      and_intros
      all_goals (first | exact zN | (exact hd))
  refine pcZ hc (pwz 25 m) ?_ (lo m 0 (by omega))
  and_intros
  all_goals (first | exact zN)
theorem con_Poses_s (g:Nat→T_Bar) (nb:Nat) (N:Int) (pl:Nat→T_Place) (np:Nat) (K:T_IntS) (hn:nb≤1048576∧np≤1048576) (hK:K.1≤1048576) :
    zE 155 [tsA g nb N pl np K] [] (.tup [psL false (psF g nb N pl np K).1 (psF g nb N pl np K).2 np,.p (.bool (lkB g nb N pl np K))]):=by
  have cl:=con_lk_s g nb N pl np K hn hK
  have cj:=con_fj_s g nb N pl np K hn hK
  refine csZ Tryz.func155 (fun c hc=>?_)
  unfold psF
  cases hl:lkB g nb N pl np K with
  | false =>
    rw [hl] at cl
    rw [if_neg Bool.false_ne_true]
    refine pkZ Tryz.func155 hc (pSy g nb N pl np K (fjF g nb N pl np K).1 (fjF g nb N pl np K).2) ?_
    and_intros
    iterate 2 all_goals (first | exact zN | (exact cl) | (exact cj) | (intro t ht;exact absurd ht (Nat.not_lt_zero _)) | (intro t ht;simp [All]) | simp only [All])
  | true =>
    rw [hl] at cl
    rw [if_pos rfl]
    obtain ⟨hm,hfr,hdf⟩:=fj_ok hl
    have hnp:=(lk_ok hl).2.2.1
    generalize (fjF g nb N pl np K).2=f at *
    generalize (fjF g nb N pl np K).1=m at *
    have cw:=con_pow m hm
    have h25:25 ^ m≤625:=by
      have:m=0∨m=1∨m=2:=by omega
      rcases this with h | h | h<;>subst h<;>decide
    generalize hX:spC (poB g nb pl np K) f m pl (25 ^ m)=X
    generalize hQ:Post c [] (.tup [psL false X.1 X.2 np,.p (.bool true)])=R
    have l1:∀ n P k,n≤k→k<25 ^ m→zR c 155 zf43 (spS g nb N pl np K m f (tryP (poB g nb pl np K) (n,P) (pcG f 0 m k pl)).1 (tryP (poB g nb pl np K) (n,P) (pcG f 0 m k pl)).2 (k+1)) R →
        ∀ (i q:Nat) (a:PlF),i≤m→q≤625→pcG f 0 i q a=pcG f 0 m k pl→zR c 155 zf11 (spT g nb N pl np K m f n P k a q ((i:Int) - 1)) R:=by
      intro n P k hnk hk hR i
      induction i with
      | zero =>
        intro q a _ hq he
        have he':a=pcG f 0 m k pl:=he
        rw [← he'] at hR
        have cp:=con_pose_s hl a
        have hd:decide ((-1:Int)≥0)=false:=by decide
        unfold tryP at hR
        rw [show ((0:Nat):Int) - 1 = -1 from rfl]
        cases hb:poB g nb pl np K a with
        | true =>
          rw [if_pos hb] at hR
          rw [hb] at cp
          refine pcZ hc (pSc g nb N pl np K m f n P k a q) ?_ hR
          and_intros
          all_goals (first | exact zN | (exact hd) | (exact cp) | (intro t ht;by_cases h':t<n<;>(simp [h',snPL,snP,cvtL,cvt,lendP,cellP,tab,idx,idx1,lkk,idO,idM,Ob.isF,List.lookup,tg,tru,All];done)) | (intros;simp [All,ntAL,ntA,ntP,ntL];done) | (simp;done) | (simp;omega))
        | false =>
          rw [if_neg (by rw [hb];exact Bool.false_ne_true)] at hR
          rw [hb] at cp
          refine pcZ hc (pSd g nb N pl np K m f n P k a q) ?_ hR
          and_intros
          all_goals (first | exact zN | (exact hd) | (exact cp) | (intros;simp [All,ntAL,ntA,ntP,ntL];done) | (simp;done) | (simp;omega))
      | succ i ih =>
        intro q a hi hq he
        rw [pcG,Nat.zero_add] at he
        have hrec:=ih (q / 25) _ (by omega) (by omega) he
        have hfi:=hfr i (by omega)
        have hd:decide ((i:Int)≥0)=true:=decide_eq_true (by omega)
        rw [show ((i+1:Nat):Int) - 1=(i:Int) by omega]
        refine pcD hc (pSb g nb N pl np K m f n P k a q i) ?_ hrec
        and_intros
        all_goals (first | exact zI | (exact hd) | (intro t ht;by_cases h':t=(f i).toNat<;>(simp [h',upP,cvtL,cvt,tg,tru,All];done)) | (intros;simp [All,ntAL,ntA,ntP,ntL];done) | (simp;done) | (simp;omega))
    have lo:∀ d k,k+d=25 ^ m→zR c 155 zf43 (spS g nb N pl np K m f (spC (poB g nb pl np K) f m pl k).1 (spC (poB g nb pl np K) f m pl k).2 k) R:=by
      intro d
      induction d with
      | zero =>
        intro k hk
        have hd:decide ((k:Int)<((25 ^ m:Nat):Int))=false:=decide_eq_false (by omega)
        rw [show k=25 ^ m by omega,hX]
        rw [show k=25 ^ m by omega] at hd
        rw [← hQ]
        refine pkZ Tryz.func155 hc (pSe g nb N pl np K m f X.1 X.2 (25 ^ m) (25 ^ m)) ?_
        and_intros
        iterate 2 all_goals (first | exact zN | (exact cw) | (exact hd) | (intros;simp [All,ntAL,ntA,ntP,ntL];done) | simp only [All])
      | succ d ih =>
        intro k hk
        have hd:decide ((k:Int)<((25 ^ m:Nat):Int))=true:=decide_eq_true (by omega)
        have hrec:=ih (k+1) (by omega)
        have hn:=spC_n (poB g nb pl np K) f m pl k
        rw [show spC (poB g nb pl np K) f m pl (k+1)=tryP (poB g nb pl np K) (spC (poB g nb pl np K) f m pl k) (pcG f 0 m k pl) from rfl] at hrec
        generalize spC (poB g nb pl np K) f m pl k=L at hrec hn ⊢
        refine pcD hc (pSa g nb N pl np K m f L.1 L.2 k (25 ^ m)) ?_ (l1 L.1 L.2 k hn (by omega) hrec m k pl (Nat.le_refl _) (by omega) rfl)
        and_intros
        all_goals (first | exact zN | (exact cw) | (exact hd) | (intros;simp [All,ntAL,ntA,ntP,ntL];done) | (simp;done) | (simp;omega))
    refine pcD hc (pSz g nb N pl np K m f) ?_ (lo (25 ^ m) 0 (by omega))
    and_intros
    iterate 2 all_goals (first | exact zN | (exact cl) | (exact cj) | (intro t ht;exact absurd ht (Nat.not_lt_zero _)) | (intros;simp [All,ntAL,ntA,ntP,ntL];done) | (simp;done) | (simp;omega) | simp only [All])
def DifL (N:Nat) (q:T_IntS):Prop:=∀ i,i<q.1→0≤q.2 i∧q.2 i<(N:Int)∧∀ j,j<i→q.2 j≠q.2 i
def hB (q:T_IntS) (v:Nat):Bool:=hasI q.2 (v:Int) q.1
def snL5 (q:T_IntS) (x:Int):T_IntS:=(q.1+1,snI5 q.1 q.2 x)
theorem hB_iff {q:T_IntS} {v:Nat}:hB q v=true↔∃ i,i<q.1∧q.2 i=(v:Int):=hasI_ex _ _ _
theorem hB_sn (q:T_IntS) (x v:Nat):hB (snL5 q x) v=(hB q v||decide (v=x)):=by
  unfold hB snL5
  simp only [hasI]
  rw [hasI_congr _ q.2 (v:Int) q.1 (fun i hi=>by unfold snI5;rw [if_pos hi])]
  congr 1
  unfold snI5
  rw [if_neg (Nat.lt_irrefl _),Bool.eq_iff_iff]
  simp only [beq_iff_eq,decide_eq_true_eq]
  omega
theorem hB_pre (n:Nat) (f:Nat→Int) (v:Nat):hB (n+1,f) v=(hB (n,f) v||decide ((v:Int)=f n)):=by
  unfold hB
  simp only [hasI]
  congr 1
  rw [Bool.eq_iff_iff]
  simp only [beq_iff_eq,decide_eq_true_eq]
  exact eq_comm
theorem flt_congr {p q:Nat→Bool}:∀ n,(∀ i,i<n→p i=q i)→flt p n=flt q n
  | 0,_=>rfl
  | n+1,h=>by
    have ih:=flt_congr n (fun i hi=>h i (by omega))
    cases hp:p n with
    | true=>rw [flt_t hp,flt_t (by rw [← h n (by omega)];exact hp),ih]
    | false=>rw [flt_f hp,flt_f (by rw [← h n (by omega)];exact hp),ih]
theorem flt_add {p:Nat→Bool} {x:Nat} (hp:p x=false):∀ N,x<N→(flt (fun t=>p t||decide (t=x)) N).1=(flt p N).1+1
  | 0,h=>absurd h (Nat.not_lt_zero _)
  | N+1,h=>by
    by_cases e:x=N
    · subst e
      rw [flt_t (p:=fun t=>p t||decide (t=x)) (by simp),flt_f hp]
      show (flt _ x).1+1=_
      rw [flt_congr (q:=p) x (fun i hi=>by rw [decide_eq_false (show ¬ i=x by omega),Bool.or_false])]
    · have ih:=flt_add hp N (by omega)
      have en:(p N||decide (N=x))=p N:=by rw [decide_eq_false (show ¬ N=x by omega),Bool.or_false]
      cases hq:p N with
      | true=>rw [flt_t (p:=fun t=>p t||decide (t=x)) (by rw [en,hq]),flt_t hq];show (flt _ N).1+1=(flt p N).1+1+1;rw [ih]
      | false=>rw [flt_f (p:=fun t=>p t||decide (t=x)) (by rw [en,hq]),flt_f hq];exact ih
theorem flt_none:∀ N,flt (fun _=>false) N=(0,z0)
  | 0=>rfl
  | N+1=>by rw [flt_f (p:=fun _=>false) rfl];exact flt_none N
theorem difL_n {N:Nat} (f:Nat→Int):∀ n,DifL N (n,f)→(flt (hB (n,f)) N).1=n
  | 0,_=>by
    rw [show flt (hB (0,f)) N=flt (fun _=>false) N from flt_congr N (fun _ _=>rfl),flt_none]
  | n+1,h=>by
    have ih:=difL_n f n (fun i hi=>h i (Nat.lt_succ_of_lt hi))
    have hn:=h n (Nat.lt_succ_self n)
    simp only at hn
    have hx:hB (n,f) (f n).toNat=false:=by
      cases hb:hB (n,f) (f n).toNat with
      | false=>rfl
      | true =>
        obtain ⟨j,h1,h2⟩:=hB_iff.1 hb
        exact absurd (show f j=f n by simp only at h2;omega) (hn.2.2 j h1)
    rw [flt_congr (q:=fun t=>hB (n,f) t||decide (t=(f n).toNat)) N (fun i _=>by
      rw [hB_pre]
      congr 1
      rw [decide_eq_decide];omega),flt_add hx N (by omega),ih]
theorem difL_le {N:Nat} {q:T_IntS} (h:DifL N q):q.1≤N:=by
  have h1:=difL_n q.2 q.1 h
  have h2:=flt_n (hB q) N
  have e:hB (q.1,q.2)=hB q:=rfl
  rw [e] at h1
  omega
theorem difL_sn {N:Nat} {q:T_IntS} (h:DifL N q) {x:Nat} (hx:x<N) (hn:hB q x=false):DifL N (snL5 q x):=fun i hi=>by
  show 0≤snI5 q.1 q.2 x i∧snI5 q.1 q.2 x i<(N:Int)∧∀ j,j<i→snI5 q.1 q.2 x j≠snI5 q.1 q.2 x i
  have hi:i<q.1+1:=hi
  unfold snI5
  by_cases e:i<q.1
  · rw [if_pos e]
    obtain ⟨h1,h2,h3⟩:=h i e
    refine ⟨h1,h2,fun j hj=>?_⟩
    rw [if_pos (by omega)]
    exact h3 j hj
  · rw [if_neg e]
    refine ⟨by omega,by omega,fun j hj=>?_⟩
    rw [if_pos (by omega)]
    intro he
    rw [hB_iff.2 ⟨j,by omega,he⟩] at hn
    cases hn
theorem difL_one {N i:Nat} (h:i<N):DifL N (1,fun _=>(i:Int)):=fun j hj=>by
  simp only at hj
  exact ⟨by simp only;omega,by simp only;omega,fun k hk=>by omega⟩
theorem flt_has5 (p:Nat→Bool) (e:Nat):∀ n,hasI (flt p n).2 (e:Int) (flt p n).1=(decide (e<n)&&p e)
  | 0=>by simp [flt,hasI]
  | n+1=>by
    have h:=flt_has5 p e n
    cases hp:p n with
    | true =>
      rw [flt_t hp]
      show (hasI (fun s=>if s<(flt p n).1 then (flt p n).2 s else (n:Int)) (e:Int) (flt p n).1||(if (flt p n).1<(flt p n).1 then (flt p n).2 (flt p n).1 else (n:Int))==(e:Int))=_
      rw [hasI_congr _ (flt p n).2 _ _ (fun i hi=>if_pos hi),h,if_neg (Nat.lt_irrefl _)]
      by_cases he:e=n
      · subst he;simp [hp]
      · have h1:((n:Int)==(e:Int))=false:=beq_eq_false_iff_ne.2 (by omega)
        rw [h1,Bool.or_false]
        by_cases h2:e<n
        · rw [decide_eq_true h2,decide_eq_true (show e<n+1 by omega)]
        · rw [decide_eq_false h2,decide_eq_false (show ¬ e<n+1 by omega)]
    | false =>
      rw [flt_f hp,h]
      by_cases he:e=n
      · subst he;simp [hp]
      · by_cases h2:e<n
        · rw [decide_eq_true h2,decide_eq_true (show e<n+1 by omega)]
        · rw [decide_eq_false h2,decide_eq_false (show ¬ e<n+1 by omega)]
theorem lst_mem {n:Nat} {h:Nat→Int} {x:Int}:x∈lstI n h↔∃ i,i<n∧h i=x:=by simp [lstI]
theorem lst_lt {n:Nat} {h:Nat→Int} (ha:∀ i,i<n→∀ j,j<i→h j<h i):(lstI n h).Pairwise (· < ·):=by
  unfold lstI
  rw [List.pairwise_map]
  exact List.Pairwise.imp_of_mem (R:=(· < ·)) (fun {a b} ha' hb hab=>ha b (by simpa using hb) a hab) List.pairwise_lt_range
theorem lst_nodup {n:Nat} {h:Nat→Int} (ha:∀ i,i<n→∀ j,j<i→h j≠h i):(lstI n h).Nodup:=by
  unfold lstI List.Nodup
  rw [List.pairwise_map]
  exact List.Pairwise.imp_of_mem (R:=(· < ·)) (fun {a b} ha' hb hab=>ha b (by simpa using hb) a hab) List.pairwise_lt_range
theorem srt_flt {N:Nat} {q:T_IntS} (h:DifL N q):srtI (lstI q.1 q.2)=lstI (flt (hB q) N).1 (flt (hB q) N).2:=by
  have hasc:=flt_rn (hB q) N
  have hlt:=lst_lt (h:=(flt (hB q) N).2) (n:=(flt (hB q) N).1) (fun i hi j hj=>(hasc i hi).2.2.2 j hj)
  have hs:=List.pairwise_mergeSort (le:=fun x y:Int=>decide (x≤y)) (fun a b c h1 h2=>by simp only [decide_eq_true_eq] at h1 h2 ⊢;omega) (fun a b=>by simp only [Bool.or_eq_true,decide_eq_true_eq];omega) (lstI q.1 q.2)
  refine List.Perm.eq_of_pairwise (le:=fun x y:Int=>x≤y) (fun a b _ _ h1 h2=>by omega) (hs.imp (fun {a b} h=>by simpa using h)) (hlt.imp (fun {a b} h=>by omega)) ?_
  refine (List.mergeSort_perm _ _).trans ?_
  refine (List.perm_ext_iff_of_nodup (lst_nodup (fun i hi=>(h i hi).2.2)) (hlt.imp (fun {a b} h=>by omega))).2 (fun x=>?_)
  rw [lst_mem,lst_mem]
  constructor
  · rintro ⟨i,h1,h2⟩
    have hi:=h i h1
    have:=(flt_has5 (hB q) x.toNat N)
    rw [decide_eq_true (show x.toNat<N by omega),Bool.true_and,hB_iff.2 ⟨i,h1,by omega⟩] at this
    obtain ⟨s,h3,h4⟩:=(hasI_ex _ _ _).1 this
    exact ⟨s,h3,by omega⟩
  · rintro ⟨s,h1,h2⟩
    have hs:=hasc s h1
    obtain ⟨i,h3,h4⟩:=hB_iff.1 hs.2.2.1
    exact ⟨i,h3,by omega⟩
def bfR (M:Nat→Nat→Bool) (k:Nat):Nat→T_IntS→T_IntS
  | 0,q=>q
  | j+1,q=>if (!hB (bfR M k j q) j&&M ((bfR M k j q).2 k).toNat j)=true then snL5 (bfR M k j q) j else bfR M k j q
def bfL (M:Nat→Nat→Bool) (n:Nat):Nat→Nat→T_IntS→T_IntS
  | 0,_,q=>q
  | d+1,k,q=>if k<q.1 then bfL M n d (k+1) (bfR M k n q) else q
structure RowOk (M:Nat→Nat→Bool) (n k j:Nat) (q r:T_IntS):Prop where
  dif:DifL n r
  le:q.1≤r.1
  old:∀ i,i<q.1→r.2 i=q.2 i
  up:∀ t,hB q t=true→hB r t=true
  near:∀ t,t<j→M (q.2 k).toNat t=true→hB r t=true
  inC:∀ C:Nat→Prop,(∀ u t,t<n→C u→M u t=true→C t)→(∀ t,hB q t=true→C t)→∀ t,hB r t=true→C t
theorem bfR_ok {M:Nat→Nat→Bool} {n k:Nat} {q:T_IntS} (hq:DifL n q) (hk:k<q.1):∀ j,j≤n→RowOk M n k j q (bfR M k j q)
  | 0,_=>⟨hq,Nat.le_refl _,fun _ _=>rfl,fun _ h=>h,fun t ht=>absurd ht (Nat.not_lt_zero _),fun _ _ h=>h⟩
  | j+1,hj=>by
    have ih:=bfR_ok (M:=M) hq hk j (by omega)
    rw [bfR]
    by_cases hc:(!hB (bfR M k j q) j&&M ((bfR M k j q).2 k).toNat j)=true
    · rw [if_pos hc]
      simp only [Bool.and_eq_true,Bool.not_eq_true'] at hc
      rw [ih.old k hk] at hc
      refine ⟨difL_sn ih.dif (by omega) hc.1,Nat.le_succ_of_le ih.le,fun i hi=>?_,fun t ht=>?_,fun t ht hm=>?_,fun C hC hin t ht=>?_⟩
      · show snI5 _ _ _ i=_
        unfold snI5
        have:=ih.le
        rw [if_pos (by omega)]
        exact ih.old i hi
      · rw [hB_sn,ih.up t ht];rfl
      · rw [hB_sn]
        by_cases e:t=j
        · rw [decide_eq_true e,Bool.or_true]
        · rw [ih.near t (by omega) hm];rfl
      · rw [hB_sn,Bool.or_eq_true,decide_eq_true_eq] at ht
        rcases ht with ht | ht
        · exact ih.inC C hC hin t ht
        · rw [ht]
          refine hC (q.2 k).toNat j (by omega) (hin _ (hB_iff.2 ⟨k,hk,?_⟩)) hc.2
          have:=hq k hk
          omega
    · rw [if_neg hc]
      refine ⟨ih.dif,ih.le,ih.old,ih.up,fun t ht hm=>?_,ih.inC⟩
      by_cases e:t=j
      · subst e
        cases hb:hB (bfR M k t q) t with
        | true=>rfl
        | false=>rw [hb,ih.old k hk,hm] at hc;exact absurd rfl hc
      · exact ih.near t (by omega) hm
structure EndOk (M:Nat→Nat→Bool) (n:Nat) (q Q:T_IntS):Prop where
  dif:DifL n Q
  up:∀ t,hB q t=true→hB Q t=true
  clo:∀ u t,t<n→hB Q u=true→M u t=true→hB Q t=true
  inC:∀ C:Nat→Prop,(∀ u t,t<n→C u→M u t=true→C t)→(∀ t,hB q t=true→C t)→∀ t,hB Q t=true→C t
theorem bfL_ok {M:Nat→Nat→Bool} {n:Nat}:∀ d k (q:T_IntS),k+d=n+1→k≤q.1→DifL n q→(∀ i,i<k→∀ t,t<n→M (q.2 i).toNat t=true→hB q t=true)→EndOk M n q (bfL M n d k q)
  | 0,k,q,hd,hk,hq,_=>by have:=difL_le hq;omega
  | d+1,k,q,hd,hk,hq,hcl=>by
    rw [bfL]
    by_cases h:k<q.1
    · rw [if_pos h]
      have r:=bfR_ok (M:=M) hq h n (Nat.le_refl _)
      have ih:=bfL_ok (M:=M) d (k+1) (bfR M k n q) (by omega) (by have:=r.le;omega) r.dif (fun i hi t ht hm=>by
        rw [r.old i (by omega)] at hm
        by_cases e:i=k
        · rw [e] at hm;exact r.near t ht hm
        · exact r.up t (hcl i (by omega) t ht hm))
      exact ⟨ih.dif,fun t ht=>ih.up t (r.up t ht),ih.clo,fun C hC hin=>ih.inC C hC (r.inC C hC hin)⟩
    · rw [if_neg h]
      refine ⟨hq,fun _ h=>h,fun u t ht hu hm=>?_,fun _ _ h=>h⟩
      obtain ⟨i,h1,h2⟩:=hB_iff.1 hu
      exact hcl i (by omega) t ht (by rw [show (q.2 i).toNat=u by omega];exact hm)
def nzI (n:Nat) (f:Nat→Int) (s:Nat):Int:=if s<n then f s else 0
def nzL (q:T_IntS):T_IntS:=(q.1,nzI q.1 q.2)
theorem at_nz (n:Nat) (f:Nat→Int):atI (lstI n f)=nzI n f:=by
  funext s
  unfold atI nzI
  by_cases h:s<n
  · rw [if_pos h];simp [lstI,h]
  · rw [if_neg h]
    have:¬ s<(lstI n f).length:=by rw [lstI_len];exact h
    rw [List.getD_eq_getElem?_getD,List.getElem?_eq_none (by omega)];rfl
abbrev RmL:=Nat×(Nat→T_IntS)
def oneQ (i:Nat):T_IntS:=(1,fun _=>(i:Int))
def rmQ (M:Nat→Nat→Bool) (n i:Nat):T_IntS:=bfL M n (n+1) 0 (oneQ i)
def rmF (M:Nat→Nat→Bool) (n:Nat):Nat→RmL×(Nat→Bool)
  | 0=>((0,fun _=>(0,z0)),fun _=>false)
  | i+1=>if (rmF M n i).2 i=true then rmF M n i else
    (((rmF M n i).1.1+1,snR5 (rmF M n i).1.1 (rmF M n i).1.2 (nzL (flt (hB (rmQ M n i)) n))),fun v=>(rmF M n i).2 v||hB (rmQ M n i) v)
theorem rmQ_ok (M:Nat→Nat→Bool) {n i:Nat} (hi:i<n):EndOk M n (oneQ i) (rmQ M n i) :=
  bfL_ok (n+1) 0 (oneQ i) (by omega) (Nat.zero_le _) (difL_one hi) (fun j hj=>absurd hj (Nat.not_lt_zero _))
def Clo (M:Nat→Nat→Bool) (n:Nat) (D:Nat→Bool):Prop:=∀ u t,u<n→t<n→D u=true→M u t=true→D t=true
theorem rmF_clo {M:Nat→Nat→Bool} {n:Nat}:∀ i,i≤n→Clo M n (rmF M n i).2
  | 0,_=>fun u t _ _ h _=>by cases h
  | i+1,hi=>by
    have ih:=rmF_clo (M:=M) (n:=n) i (by omega)
    rw [rmF]
    split
    · exact ih
    · have e:=rmQ_ok M (show i<n by omega)
      intro u t hu ht h hm
      simp only [Bool.or_eq_true] at h ⊢
      rcases h with h | h
      · exact .inl (ih u t hu ht h hm)
      · exact .inr (e.clo u t ht h hm)
theorem rmF_n {M:Nat→Nat→Bool} {n:Nat}:∀ i,(rmF M n i).1.1≤i
  | 0=>Nat.le_refl _
  | i+1=>by
    have:=rmF_n (M:=M) (n:=n) i
    rw [rmF]
    split
    · omega
    · show _+1≤_;omega
theorem flt_pre (p:Nat→Bool) (v:Nat):∀ d,(flt p v).1≤(flt p (v+d)).1∧∀ i,i<(flt p v).1→(flt p (v+d)).2 i=(flt p v).2 i
  | 0=>⟨Nat.le_refl _,fun _ _=>rfl⟩
  | d+1=>by
    have ih:=flt_pre p v d
    rw [← Nat.add_assoc]
    cases hb:p (v+d) with
    | false=>rw [flt_f hb];exact ih
    | true =>
      rw [flt_t hb]
      refine ⟨by show _≤(flt p (v+d)).1+1;omega,fun i hi=>?_⟩
      show (if i<(flt p (v+d)).1 then (flt p (v+d)).2 i else ((v+d:Nat):Int))=_
      rw [if_pos (by omega)]
      exact ih.2 i hi
theorem flt_at {p:Nat→Bool} {v N:Nat} (hb:p v=true) (hv:v<N):(flt p v).1<(flt p N).1∧(flt p N).2 (flt p v).1=v:=by
  have h:=flt_pre p (v+1) (N - (v+1))
  rw [show v+1+(N - (v+1))=N by omega] at h
  have e:=flt_t hb
  have e1:(flt p (v+1)).1=(flt p v).1+1:=by rw [e]
  refine ⟨by omega,?_⟩
  rw [h.2 _ (by omega),e]
  show (if (flt p v).1<(flt p v).1 then (flt p v).2 (flt p v).1 else (v:Int))=v
  rw [if_neg (Nat.lt_irrefl _)]
theorem flt_gap {p:Nat→Bool} {a:Nat}:∀ d,(∀ t:Nat,a≤t→t<a+d→p t=false)→flt p (a+d)=flt p a
  | 0,_=>rfl
  | d+1,h=>by
    rw [← Nat.add_assoc,flt_f (h (a+d) (by omega) (by omega))]
    exact flt_gap d (fun t h1 h2=>h t h1 (by omega))
theorem con_5WithF {p p':Nat→Bool} {x N:Nat} (hN:N≤1048576) (hx:x<N) (hbx:p x=false) (hq:∀ t,p' t=(p t||decide (t=x))) :
    zE 213 [inL (flt p N),.p (.int .i64 x)] [(0,iOb (flt p' N).1 (flt p' N).2)] (.ar 1 0 0 (flt p' N).1):=by
  have hqx:p' x=true:=by rw [hq x];simp
  have hqn:∀ t:Nat,t≠x→p' t=p t:=fun t hne=>by rw [hq t,decide_eq_false hne,Bool.or_false]
  have low:flt p' x=flt p x:=flt_congr x (fun t ht=>hqn t (by omega))
  have gapN:∀ v:Nat,x<v→(∀ t:Nat,x≤t→t<v→p t=false)→flt p' v=((flt p v).1+1,fun s=>if s<(flt p v).1 then (flt p v).2 s else (x:Int)):=by
    intro v hv hc
    have e1:=flt_gap (p:=p) (a:=x) (v - x) (fun t h1 h2=>hc t h1 (by omega))
    rw [show x+(v - x)=v by omega] at e1
    have e2:=flt_gap (p:=p') (a:=x+1) (v - (x+1)) (fun t h1 h2=>by rw [hqn t (by omega)];exact hc t (by omega) (by omega))
    rw [show x+1+(v - (x+1))=v by omega] at e2
    rw [e2,flt_t hqx,low,e1]
  have hn:=flt_n p N
  refine csZ Tryz.func213 (fun c hc=>?_)
  generalize hX:flt p' N=X
  generalize hU:flt p N=U at hn
  have Q':∀ d v,v+d=N→x<v→zR c 213 zf54 (w5S U x (flt p' v).1 (flt p' v).2 true (flt p v).1) (Post c [(0,iOb X.1 X.2)] (.ar 1 0 0 X.1)):=by
    intro d
    induction d with
    | zero =>
      intro v hv _
      obtain rfl:v=N:=by omega
      rw [hX,hU]
      have hd:decide ((U.1:Int)<(U.1:Int))=false:=decide_eq_false (by omega)
      refine pkZ Tryz.func213 hc (w5b U x X.1 X.2 U.1) ?_
      and_intros
      all_goals (first | exact zN | (exact hd) | (intro t ht;simp [All]))
    | succ d ih =>
      intro v hv hxv
      have hrec:=ih (v+1) (by omega) (by omega)
      have hbv:=hqn v (by omega)
      cases hbw:p v with
      | false =>
        rw [hbw] at hbv
        rw [flt_f hbw,flt_f hbv] at hrec
        exact hrec
      | true =>
        rw [hbw] at hbv
        have hat:=flt_at hbw (show v<N by omega)
        rw [hU] at hat
        rw [flt_t hbw,flt_t hbv] at hrec
        have hl:=flt_n p' v
        generalize (flt p v).1=k at hat hrec ⊢
        generalize flt p' v=R at hrec hl ⊢
        have hd:decide ((k:Int)<(U.1:Int))=true:=decide_eq_true (by omega)
        have hne:(U.2 k==(x:Int))=false:=by rw [hat.2];exact beq_eq_false_iff_ne.2 (by omega)
        have hgt:(bif decide (U.2 k>(x:Int)) then !true else false)=false:=by cases decide (U.2 k>(x:Int))<;>rfl
        refine pcD hc (w5f U x R.1 R.2 true k) ?_ (by rw [hat.2];exact hrec)
        and_intros
        all_goals (first | exact zN | (exact hd) | (exact hne) | (exact hgt) | (intro t ht;by_cases h':t<R.1<;>(simp [h',cvtL,cvt,tg,tru,All];done)) | (simp;omega))
  have Q:∀ d v,v+d=N→(∀ t:Nat,x≤t→t<v→p t=false)→zR c 213 zf54 (w5S U x (flt p v).1 (flt p v).2 false (flt p v).1) (Post c [(0,iOb X.1 X.2)] (.ar 1 0 0 X.1)):=by
    intro d
    induction d with
    | zero =>
      intro v hv hcl
      obtain rfl:v=N:=by omega
      have e:=gapN v hx hcl
      rw [hX,hU] at e
      rw [hU]
      rw [show X.1=U.1+1 by rw [e],show X.2=(fun s=>if s<U.1 then U.2 s else (x:Int)) by rw [e]]
      have hd:decide ((U.1:Int)<(U.1:Int))=false:=decide_eq_false (by omega)
      refine pkZ Tryz.func213 hc (w5a U x U.1 U.2 U.1) ?_
      and_intros
      all_goals (first | exact zN | (exact hd) | (intro t ht;by_cases h':t<U.1<;>(simp [h',cvtL,cvt,tg,tru,All];done)) | (intro t ht;simp [All];done) | (simp;omega))
    | succ d ih =>
      intro v hv hcl
      cases hbw:p v with
      | false =>
        have hrec:=ih (v+1) (by omega) (fun t h1 h2=>by
          by_cases e:t=v
          · rw [e];exact hbw
          · exact hcl t h1 (by omega))
        rw [flt_f hbw] at hrec
        exact hrec
      | true =>
        have hvx:v≠x:=fun e=>by rw [e,hbx] at hbw;cases hbw
        have hat:=flt_at hbw (show v<N by omega)
        rw [hU] at hat
        have hl:=flt_n p v
        by_cases hlt:v<x
        · have hrec:=ih (v+1) (by omega) (fun t h1 h2=>absurd h2 (by omega))
          rw [flt_t hbw] at hrec
          generalize flt p v=R at hrec hl hat ⊢
          have hd:decide ((R.1:Int)<(U.1:Int))=true:=decide_eq_true (by omega)
          have hne:(U.2 R.1==(x:Int))=false:=by rw [hat.2];exact beq_eq_false_iff_ne.2 (by omega)
          have hgt:(bif decide (U.2 R.1>(x:Int)) then !false else false)=false:=by rw [hat.2,decide_eq_false (show ¬ ((v:Int)>(x:Int)) by omega)];rfl
          refine pcD hc (w5f U x R.1 R.2 false R.1) ?_ (by rw [hat.2];exact hrec)
          and_intros
          all_goals (first | exact zN | (exact hd) | (exact hne) | (exact hgt) | (intro t ht;by_cases h':t<R.1<;>(simp [h',cvtL,cvt,tg,tru,All];done)) | (simp;omega))
        · have hrec:=Q' d (v+1) (by omega) (by omega)
          have e:=gapN v (by omega) hcl
          have hbv:=hqn v hvx
          rw [hbw] at hbv
          rw [flt_t hbw,flt_t hbv,e] at hrec
          generalize flt p v=R at hrec hl hat ⊢
          have hd:decide ((R.1:Int)<(U.1:Int))=true:=decide_eq_true (by omega)
          have hne:(U.2 R.1==(x:Int))=false:=by rw [hat.2];exact beq_eq_false_iff_ne.2 (by omega)
          have hgt:(bif decide (U.2 R.1>(x:Int)) then !false else false)=true:=by rw [hat.2,decide_eq_true (show ((v:Int)>(x:Int)) by omega)];rfl
          refine pcD hc (w5t U x R.1 R.2 R.1) ?_ (by rw [hat.2];exact hrec)
          and_intros
          all_goals (first | exact zN | (exact hd) | (exact hne) | (exact hgt) | (intro t ht;by_cases h':t<R.1<;>by_cases h2:t<R.1+1<;>(simp [h',h2,cvtL,cvt,tg,tru,All];done)) | (intro t ht;by_cases h':t<R.1<;>by_cases h2:t<R.1+1<;>(simp [h',h2,cvtL,cvt,tg,tru,All];omega)) | (intro t ht;simp [All];done) | (simp;omega))
  refine pcZ hc (w5z U x) ?_ (Q N 0 (by omega) (fun t _ h2=>absurd h2 (Nat.not_lt_zero _)))
  and_intros
  all_goals (first | exact zN | (intro t ht;exact absurd ht (Nat.not_lt_zero _)) | (intro t ht;simp [All];done) | (simp;done))
def nrB (x y:T_Place):Bool:=bif inB (x.1 - y.1) (-1) 1 then inB (x.2.1 - y.2.1) (-1) 1 else false
def nrP (P Q:PlF) (n:Nat):Bool:=allB (fun v=>nrB (P v) (Q v)) n
theorem inB_sym (a b:Int):inB (a - b) (-1) 1=inB (b - a) (-1) 1:=by
  rw [Bool.eq_iff_iff,inB_iff,inB_iff];omega
theorem nrB_sym (x y:T_Place):nrB x y=nrB y x:=by unfold nrB;rw [inB_sym,inB_sym x.2.1]
theorem nrP_sym (P Q:PlF) (n:Nat):nrP P Q n=nrP Q P n:=allB_congr n (fun i _=>nrB_sym _ _)
theorem plP_in {P:PlF} {n v:Nat} (h:InG P n) (hv:v<n):plP P v=true:=by
  have:=h v hv
  unfold plP
  rw [inB_iff.2 this.1,inB_iff.2 this.2];rfl
theorem con_near_i {P Q:PlF} {n:Nat} (hP:InG P n) (hQ:InG Q n) (hn:n≤1048576):zE 275 [pcL P n,pcL Q n] [] (.p (.bool (nrP P Q n))):=by
  refine csZ Tryz.func275 (fun c hc=>?_)
  have lo:∀ d k,k+d=n→allB (fun v=>nrB (P v) (Q v)) k=true→zR c 275 zf74 (nrS P Q n k) (Post c [] (.p (.bool (nrP P Q n)))):=by
    intro d
    induction d with
    | zero =>
      intro k hk h1
      have hd:decide ((k:Int)<(n:Int))=false:=decide_eq_false (by omega)
      rw [show nrP P Q n=true by unfold nrP;rw [show n=k by omega];exact h1]
      refine pkZ Tryz.func275 hc (nrp5 P Q n k) ?_
      and_intros
      all_goals (first | exact zN | (exact hd))
    | succ d ih =>
      intro k hk h1
      have hd:decide ((k:Int)<(n:Int))=true:=decide_eq_true (by omega)
      have c1:=con_isPlace P k
      have c2:=con_isPlace Q k
      rw [plP_in hP (by omega)] at c1
      rw [plP_in hQ (by omega)] at c2
      have p1:=hP k (by omega)
      have p2:=hQ k (by omega)
      have c3:=con_within ((P k).1 - (Q k).1) (-1) 1
      have c4:=con_within ((P k).2.1 - (Q k).2.1) (-1) 1
      have hx:(bif bif bif !true then true else !true then true else !(inB ((P k).1 - (Q k).1) (-1) 1) then true else !(inB ((P k).2.1 - (Q k).2.1) (-1) 1))=!(nrB (P k) (Q k)):=by
        unfold nrB
        cases inB ((P k).1 - (Q k).1) (-1) 1<;>rfl
      cases he:nrB (P k) (Q k) with
      | true =>
        have hrec:=ih (k+1) (by omega) (by rw [allB,h1];exact he)
        rw [he] at hx
        refine pcD hc (nrb P Q n k true true (inB ((P k).1 - (Q k).1) (-1) 1) (inB ((P k).2.1 - (Q k).2.1) (-1) 1)) ?_ hrec
        and_intros
        all_goals (first | exact zH | (exact hd) | (exact c1) | (intro _;exact c2) | (intro _;exact c3) | (intro _;exact c4) | (exact hx))
      | false =>
        rw [show nrP P Q n=false from all_no (show k<n by omega) he]
        rw [he] at hx
        refine pkD Tryz.func275 hc (nrc P Q n k true true (inB ((P k).1 - (Q k).1) (-1) 1) (inB ((P k).2.1 - (Q k).2.1) (-1) 1)) ?_
        and_intros
        all_goals (first | exact zH | (exact hd) | (exact c1) | (intro _;exact c2) | (intro _;exact c3) | (intro _;exact c4) | (exact hx))
  refine pcD hc (nrq5 P Q n) ?_ (lo n 0 (by omega) rfl)
  and_intros
  all_goals (first | exact zN | (simp;done))
theorem con_near_s {P Q:PlF} {n:Nat} (hP:InG P n) (hQ:InG Q n) (hn:n≤1048576):zE 334 [pcL P n,pcL Q n] [] (.p (.bool (nrP P Q n))):=by
  have cst:∀ k,k<n→zE 364 [ltA (P k),ltA (Q k)] [] (.p (.bool (nrB (P k) (Q k)))):=by
    intro k hk
    have p1:=hP k hk
    have p2:=hQ k hk
    have c1:=con_On (x:=P k) p1
    have c2:=con_On (x:=Q k) p2
    have c3:=con_l1In ((P k).1 - (Q k).1) (-1) 1
    have c4:=con_l1In ((P k).2.1 - (Q k).2.1) (-1) 1
    refine csZ Tryz.func364 (fun c hc=>?_)
    rw [show nrB (P k) (Q k)=(bif bif bif true then true else false then inB ((P k).1 - (Q k).1) (-1) 1 else false then inB ((P k).2.1 - (Q k).2.1) (-1) 1 else false) by unfold nrB;rfl]
    refine pkD Tryz.func364 hc (nst (P k) (Q k) true true (inB ((P k).1 - (Q k).1) (-1) 1) (inB ((P k).2.1 - (Q k).2.1) (-1) 1)) ?_
    and_intros
    all_goals (first | exact zI | (exact c1) | (intro _;exact c2) | (intro _;exact c3) | (intro _;exact c4))
  refine csZ Tryz.func334 (fun c hc=>?_)
  have lo:∀ d k,k+d=n→allB (fun v=>nrB (P v) (Q v)) k=true→zR c 334 zf84 (neS P Q n k) (Post c [] (.p (.bool (nrP P Q n)))):=by
    intro d
    induction d with
    | zero =>
      intro k hk h1
      have hd:(bif decide ((k:Int)<(n:Int)) then decide ((k:Int)<(n:Int)) else false)=false:=by rw [decide_eq_false (show ¬ ((k:Int)<(n:Int)) by omega)];rfl
      rw [show nrP P Q n=((n:Int)==(n:Int)) by unfold nrP;rw [show n=k by omega,h1];exact (beq_self_eq_true _).symm]
      refine pkD Tryz.func334 hc (nee P Q n k) ?_
      and_intros
      all_goals (first | exact zN | (exact hd))
    | succ d ih =>
      intro k hk h1
      have hd:(bif decide ((k:Int)<(n:Int)) then decide ((k:Int)<(n:Int)) else false)=true:=by rw [decide_eq_true (show ((k:Int)<(n:Int)) by omega)];rfl
      have c1:=cst k (by omega)
      cases he:nrB (P k) (Q k) with
      | true =>
        have hrec:=ih (k+1) (by omega) (by rw [allB,h1];exact he)
        rw [he] at c1
        refine pcD hc (neb P Q n k) ?_ hrec
        and_intros
        all_goals (first | exact zN | (exact hd) | (exact c1))
      | false =>
        rw [show nrP P Q n=false from all_no (show k<n by omega) he]
        rw [he] at c1
        refine pkD Tryz.func334 hc (nec P Q n k) ?_
        and_intros
        all_goals (first | exact zN | (exact hd) | (exact c1))
  refine pcZ hc (nez P Q n) ?_ (lo n 0 (by omega) rfl)
  and_intros
  all_goals (first | exact zN)
def nrM (P:Nat→PlF) (np i j:Nat):Bool:=nrP (P i) (P j) np
def bfRr (M:Nat→Nat→Bool) (k:Nat) (q:T_IntS) (r:Nat→Int):Nat→Nat→Int
  | 0=>r
  | j+1=>if (!hB (bfR M k j q) j&&M ((bfR M k j q).2 k).toNat j)=true then snI5 (bfR M k j q).1 (bfRr M k q r j) k else bfRr M k q r j
def bfLr (M:Nat→Nat→Bool) (n:Nat):Nat→Nat→T_IntS→(Nat→Int)→Nat→Int
  | 0,_,_,r=>r
  | d+1,k,q,r=>if k<q.1 then bfLr M n d (k+1) (bfR M k n q) (bfRr M k q r n) else r
def rmT0 (M:Nat→Nat→Bool) (n i:Nat):Nat→Int:=bfLr M n (n+1) 0 (oneQ i) (fun _=>-1)
theorem con_Reach {n:Nat} {P:Nat→PlF} {np:Nat} (hP:∀ i,i<n→InG (P i) np) (hn:n≤100) (hnp:np≤6) {s:Nat} (hs:s<n) :
    zE 268 [psL true n P np,.p (.int .i64 s)] [(0,iOb (rmQ (nrM P np) n s).1 (rmQ (nrM P np) n s).2),(1,iOb (rmQ (nrM P np) n s).1 (rmT0 (nrM P np) n s))] (.tup [.ar 1 0 0 (rmQ (nrM P np) n s).1,.ar 1 1 0 (rmQ (nrM P np) n s).1]):=by
  refine csZ Tryz.func268 (fun c hc=>?_)
  generalize hQ:rmQ (nrM P np) n s=Q
  generalize hT:rmT0 (nrM P np) n s=T
  generalize hR:Post c [(0,iOb Q.1 Q.2),(1,iOb Q.1 T)] (.tup [.ar 1 0 0 Q.1,.ar 1 1 0 Q.1])=R
  generalize hM:nrM P np=M at hQ hT
  have inner:∀ (q:T_IntS) (r:Nat→Int) (k:Nat),k<q.1→DifL n q→zR c 268 zf57 (rqS5 n P np s (bfR M k n q).1 (bfR M k n q).2 (bfRr M k q r n) (k+1)) R →
      ∀ e j,j+e=n→zR c 268 zf17 (rcT n P np s (bfR M k j q).1 (bfR M k j q).2 (bfRr M k q r j) k j) R:=by
    intro q r k hk hq hr e
    induction e with
    | zero =>
      intro j hj
      obtain rfl:j=n:=by omega
      have hd:decide ((j:Int)<(j:Int))=false:=decide_eq_false (by omega)
      have hle:=difL_le hq
      refine pcZ hc (rcd j P np s _ _ _ k j) ?_ hr
      and_intros
      all_goals (first | exact zN | (exact hd) | (intros;simp [All,ntAL,ntA,ntP,ntL];done) | (simp;done) | (simp;omega))
    | succ e ih =>
      intro j hj
      have hd:decide ((j:Int)<(n:Int))=true:=decide_eq_true (by omega)
      have hrec:=ih (j+1) (by omega)
      have ro:=bfR_ok (M:=M) hq hk j (by omega)
      rw [bfR,bfRr] at hrec
      generalize bfR M k j q=u at hrec ro ⊢
      generalize bfRr M k q r j=v at hrec ⊢
      have hle:=difL_le ro.dif
      have hk2:k<u.1:=Nat.lt_of_lt_of_le hk ro.le
      have hx:=ro.dif k hk2
      have c1:=con_l2Has u (j:Int) (by omega)
      change Con _ _ _ _ _ _ (.p (.bool (hB u j))) at c1
      have c2:=con_near_s (P:=P (u.2 k).toNat) (Q:=P j) (hP _ (by omega)) (hP j (by omega)) (by omega)
      change Con _ _ _ _ _ _ (.p (.bool (nrM P np (u.2 k).toNat j))) at c2
      rw [hM] at c2
      by_cases hcc:(!hB u j&&M (u.2 k).toNat j)=true
      · rw [if_pos hcc,if_pos hcc] at hrec
        simp only [Bool.and_eq_true,Bool.not_eq_true'] at hcc
        rw [hcc.1] at c1
        rw [hcc.2] at c2
        refine pcD hc (rcb n P np s u.1 u.2 v k j) ?_ hrec
        and_intros
        all_goals (first | exact zI | (exact hd) | (exact c1) | (intros;exact c2) | (intro t ht;by_cases h':t<u.1<;>(simp [h',snI5,cvtL,cvt,tg,tru,All];done)) | (intros;simp [All,ntAL,ntA,ntP,ntL];done) | (simp;done) | (simp;omega))
      · rw [if_neg hcc,if_neg hcc] at hrec
        have hcd:(bif !(hB u j) then M (u.2 k).toNat j else false)=false:=by
          cases h1:hB u j with
          | true=>rfl
          | false =>
            rw [h1] at hcc
            cases h2:M (u.2 k).toNat j with
            | true=>rw [h2] at hcc;exact absurd rfl hcc
            | false=>rfl
        refine pcD hc (rcc n P np s u.1 u.2 v k j (hB u j) (M (u.2 k).toNat j)) ?_ hrec
        and_intros
        all_goals (first | exact zI | (exact hd) | (exact c1) | (intros;exact c2) | (exact hcd) | (intros;simp [All,ntAL,ntA,ntP,ntL];done) | (simp;done) | (simp;omega))
  have outer:∀ d k (q:T_IntS) (r:Nat→Int),k+d=n+1→k≤q.1→DifL n q→bfL M n d k q=Q→bfLr M n d k q r=T→zR c 268 zf57 (rqS5 n P np s q.1 q.2 r k) R:=by
    intro d
    induction d with
    | zero=>intro k q r hd hk hq _ _;have:=difL_le hq;omega
    | succ d ih =>
      intro k q r hd hk hq hqQ hrT
      have hle:=difL_le hq
      rw [bfL] at hqQ
      rw [bfLr] at hrT
      by_cases h:k<q.1
      · rw [if_pos h] at hqQ hrT
        have hdk:decide ((k:Int)<(q.1:Int))=true:=decide_eq_true (by omega)
        have ro:=bfR_ok (M:=M) hq h n (Nat.le_refl _)
        have:=ro.le
        refine pcZ hc (rca n P np s q.1 q.2 r k) ?_ (inner q r k h hq (ih (k+1) _ _ (by omega) (by omega) ro.dif hqQ hrT) n 0 (by omega))
        and_intros
        all_goals (first | exact zN | (exact hdk) | (intros;simp [All,ntAL,ntA,ntP,ntL];done) | (simp;done) | (simp;omega))
      · rw [if_neg h] at hqQ hrT
        have hdk:decide ((k:Int)<(q.1:Int))=false:=decide_eq_false (by omega)
        subst hqQ
        subst hrT
        rw [← hR]
        refine pkZ Tryz.func268 hc (rqe5 n P np s q.1 q.2 r k) ?_
        and_intros
        all_goals (first | exact zN | (exact hdk) | (intros;simp [All,ntAL,ntA,ntP,ntL];done) | (simp;done) | (simp;omega))
  refine pcZ hc (rqz5 n P np s) ?_ (outer (n+1) 0 (oneQ s) (fun _=>-1) (by omega) (Nat.zero_le _) (difL_one hs) (by rw [← hQ];rfl) (by rw [← hT];rfl))
  and_intros
  all_goals (first | exact zN | (intro t ht;rw [show t=0 by omega];simp [cvtL,cvt,tg,tru,All];done) | (intros;simp [All,ntAL,ntA,ntP,ntL];done) | (simp;done))
theorem po_in {g:Nat→T_Bar} {nb np:Nat} {pl:PlF} {K:T_IntS} {P:PlF} (h:poB g nb pl np K P=true):InG P np:=fun v hv=>by
  unfold poB at h
  have:=(all_iff _ _).1 (Bool.and_eq_true .. ▸ h).1 v hv
  unfold pqB plP at this
  cases hb1:inB (P v).1 0 4 with
  | false=>rw [hb1] at this;cases this
  | true =>
    cases hb2:inB (P v).2.1 0 4 with
    | false=>rw [hb1,hb2] at this;cases this
    | true=>exact ⟨inB_iff.1 hb1,inB_iff.1 hb2⟩
theorem ps_in {g:Nat→T_Bar} {nb:Nat} {N:Int} {pl:PlF} {np:Nat} {K:T_IntS}:∀ i,i<(psF g nb N pl np K).1→InG ((psF g nb N pl np K).2 i) np:=fun i hi=>by
  unfold psF at hi ⊢
  split at hi
  · rename_i hl
    rw [if_pos hl]
    exact po_in (spC_all _ _ _ _ _ i hi)
  · exact absurd hi (Nat.not_lt_zero _)
def rmOk (g:Nat→T_Bar) (nb:Nat) (N:Int) (pl:PlF) (np:Nat) (K:T_IntS):Bool:=bif lkB g nb N pl np K then decide (((psF g nb N pl np K).1:Int)≤100) else false
def rmG (g:Nat→T_Bar) (nb:Nat) (N:Int) (pl:PlF) (np:Nat) (K:T_IntS):RmL :=
  if rmOk g nb N pl np K=true then (rmF (nrM (psF g nb N pl np K).2 np) (psF g nb N pl np K).1 (psF g nb N pl np K).1).1 else (0,fun _=>(0,z0))
theorem con_poses (g:Nat→T_Bar) (nb:Nat) (N:Int) (pl:PlF) (np:Nat) (K:T_IntS) (hn:nb≤1048576∧np≤1048576) (hK:K.1≤1048576) :
    zE 274 [tsA g nb N pl np K] [] (.tup [psL false (psF g nb N pl np K).1 (psF g nb N pl np K).2 np,.p (.bool (rmOk g nb N pl np K))]):=by
  have cp:=con_Poses_i g nb N pl np K hn hK
  refine csZ Tryz.func274 (fun c hc=>?_)
  unfold rmOk
  refine pkZ Tryz.func274 hc (pss g nb N pl np K (psF g nb N pl np K).1 (psF g nb N pl np K).2 (lkB g nb N pl np K)) ?_
  and_intros
  iterate 2 all_goals (first | exact zN | (exact cp) | (intros;simp [All,ntAL,ntA,ntP,ntL];done) | simp only [All])
theorem con_Rooms_i (g:Nat→T_Bar) (nb:Nat) (N:Int) (pl:PlF) (np:Nat) (K:T_IntS) (hn:nb≤1048576∧np≤1048576) (hK:K.1≤1048576) :
    zE 161 [tsA g nb N pl np K] [] (.tup [rsL (rmG g nb N pl np K).1 (rmG g nb N pl np K).2,.p (.bool (rmOk g nb N pl np K))]):=by
  have cp:=con_poses g nb N pl np K hn hK
  have hin:=ps_in (g:=g) (nb:=nb) (N:=N) (pl:=pl) (np:=np) (K:=K)
  refine csZ Tryz.func161 (fun c hc=>?_)
  unfold rmG
  cases hl:rmOk g nb N pl np K with
  | false =>
    rw [hl] at cp
    rw [if_neg Bool.false_ne_true]
    refine pkZ Tryz.func161 hc (rmy g nb N pl np K (psF g nb N pl np K).1 (psF g nb N pl np K).2) ?_
    and_intros
    iterate 2 all_goals (first | exact zN | (exact cp) | (intro t ht;exact absurd ht (Nat.not_lt_zero _)) | (intro t ht;simp [All]) | simp only [All])
  | true =>
    rw [hl] at cp
    rw [if_pos rfl]
    have hnn:(psF g nb N pl np K).1≤100∧np≤6:=by
      unfold rmOk at hl
      cases hk:lkB g nb N pl np K with
      | false=>rw [hk] at hl;cases hl
      | true =>
        rw [hk] at hl
        have:=of_decide_eq_true hl
        exact ⟨by omega,(lk_ok hk).2.2.1⟩
    generalize (psF g nb N pl np K).1=n at *
    generalize (psF g nb N pl np K).2=P at *
    generalize hM:nrM P np=M
    have hsym:∀ u t,u<n→t<n→M u t=true→M t u=true:=fun u t _ _ h=>by
      rw [← hM] at h ⊢
      unfold nrM at h ⊢
      rw [nrP_sym];exact h
    generalize hX:(rmF M n n).1=X
    generalize hR:Post c [] (.tup [rsL X.1 X.2,.p (.bool true)])=R
    have inner:∀ (r:Nat) (Q:Nat→T_IntS) (D:Nat→Bool) (i:Nat) (q:T_IntS) (k:Nat),k<q.1→DifL n q→Clo M n D→(∀ t,hB q t=true→t<n∧D t=false) →
        zR c 161 zf4 (rmT n P np r Q (fun v=>D v||hB (bfR M k n q) v) i (bfR M k n q).1 (bfR M k n q).2 (k+1)) R →
        ∀ e j,j+e=n→zR c 161 zf2 (rmU n P np r Q (fun v=>D v||hB (bfR M k j q) v) i (bfR M k j q).1 (bfR M k j q).2 k j) R:=by
      intro r Q D i q k hk hq hD hqD hr e
      induction e with
      | zero =>
        intro j hj
        obtain rfl:j=n:=by omega
        have hd:decide ((j:Int)<(j:Int))=false:=decide_eq_false (by omega)
        have hle:=difL_le hq
        refine pcZ hc (rmf j P np r Q _ i _ _ k j) ?_ hr
        and_intros
        all_goals (first | exact zN | (exact hd) | (intros;simp [All,ntAL,ntA,ntP,ntL];done) | (simp;done) | (simp;omega))
      | succ e ih =>
        intro j hj
        have hd:decide ((j:Int)<(n:Int))=true:=decide_eq_true (by omega)
        have hrec:=ih (j+1) (by omega)
        have ro:=bfR_ok (M:=M) hq hk j (by omega)
        have hap:=ro.inC (fun t=>t<n∧D t=false) (fun u t ht hu hm=>⟨ht,by
          cases hb:D t with
          | false=>rfl
          | true =>
            have:=hD t u ht hu.1 hb (hsym u t hu.1 ht hm)
            rw [hu.2] at this;cases this⟩) hqD
        rw [bfR] at hrec
        generalize bfR M k j q=u at hrec ro hap ⊢
        have hle:=difL_le ro.dif
        have hk2:k<u.1:=Nat.lt_of_lt_of_le hk ro.le
        have hx:=ro.dif k hk2
        have hxD:=hap (u.2 k).toNat (hB_iff.2 ⟨k,hk2,by omega⟩)
        have c2:=con_near_i (P:=P (u.2 k).toNat) (Q:=P j) (hin _ (by omega)) (hin j (by omega)) (by omega)
        change Con _ _ _ _ _ _ (.p (.bool (nrM P np (u.2 k).toNat j))) at c2
        rw [hM] at c2
        have hcd:(bif !(D j||hB u j) then M (u.2 k).toNat j else false)=(!hB u j&&M (u.2 k).toNat j):=by
          cases h1:hB u j with
          | true=>rw [Bool.or_true];rfl
          | false =>
            cases h2:M (u.2 k).toNat j with
            | false=>cases D j<;>rfl
            | true =>
              cases h3:D j with
              | false=>rfl
              | true =>
                have:=hD j (u.2 k).toNat (by omega) (by omega) h3 (hsym _ _ (by omega) (by omega) h2)
                rw [hxD.2] at this;cases this
        by_cases hcc:(!hB u j&&M (u.2 k).toNat j)=true
        · rw [if_pos hcc] at hrec
          rw [hcc] at hcd
          rw [show (fun v=>D v||hB (snL5 u (j:Int)) v)=upB5 (fun v=>D v||hB u v) j by
            funext v
            rw [hB_sn]
            unfold upB5
            by_cases hv:v=j
            · rw [if_pos hv,decide_eq_true hv];simp
            · rw [if_neg hv,decide_eq_false hv,Bool.or_false]] at hrec
          refine pcD hc (rmd n P np r Q _ i u.1 u.2 k j (M (u.2 k).toNat j)) ?_ hrec
          and_intros
          all_goals (first | exact zI | (exact hd) | (intros;exact c2) | (exact hcd) | (intro t ht;by_cases h':t<u.1<;>(simp [h',snI5,cvtL,cvt,tg,tru,All];done)) | (intro t ht;by_cases h':t=j<;>(simp [h',upB5,cvtL,cvt,tg,tru,All];done)) | (intros;simp [All,ntAL,ntA,ntP,ntL];done) | (simp;done) | (simp;omega))
        · rw [if_neg hcc] at hrec
          rw [show (!hB u j&&M (u.2 k).toNat j)=false by simpa using hcc] at hcd
          refine pcD hc (rmp5 n P np r Q _ i u.1 u.2 k j (M (u.2 k).toNat j)) ?_ hrec
          and_intros
          all_goals (first | exact zI | (exact hd) | (intros;exact c2) | (exact hcd) | (intros;simp [All,ntAL,ntA,ntP,ntL];done) | (simp;done) | (simp;omega))
    have outer:∀ (r:Nat) (Q:Nat→T_IntS) (D:Nat→Bool) (i:Nat) (Z:T_IntS),Clo M n D→DifL n Z→r≤100→i≤100 →
        zR c 161 zf35 (rmS n P np (r+1) (snR5 r Q (nzL (flt (hB Z) n))) (fun v=>D v||hB Z v) (i+1)) R →
        ∀ d k (q:T_IntS),k+d=n+1→k≤q.1→DifL n q→(∀ t,hB q t=true→t<n∧D t=false)→bfL M n d k q=Z →
          zR c 161 zf4 (rmT n P np r Q (fun v=>D v||hB q v) i q.1 q.2 k) R:=by
      intro r Q D i Z hD hZ hr0 hi0 hr d
      induction d with
      | zero=>intro k q hd hk hq _ _;have:=difL_le hq;omega
      | succ d ih =>
        intro k q hd hk hq hqD hqZ
        have hle:=difL_le hq
        rw [bfL] at hqZ
        by_cases h:k<q.1
        · rw [if_pos h] at hqZ
          have hdk:decide ((k:Int)<(q.1:Int))=true:=decide_eq_true (by omega)
          have ro:=bfR_ok (M:=M) hq h n (Nat.le_refl _)
          have hap:=ro.inC (fun t=>t<n∧D t=false) (fun u t ht hu hm=>⟨ht,by
            cases hb:D t with
            | false=>rfl
            | true =>
              have:=hD t u ht hu.1 hb (hsym u t hu.1 ht hm)
              rw [hu.2] at this;cases this⟩) hqD
          have:=ro.le
          refine pcZ hc (rmc n P np r Q _ i q.1 q.2 k) ?_ (inner r Q D i q k h hq hD hqD (ih (k+1) _ (by omega) (by omega) ro.dif hap hqZ) n 0 (by omega))
          and_intros
          all_goals (first | exact zN | (exact hdk) | (intros;simp [All,ntAL,ntA,ntP,ntL];done) | (simp;done) | (simp;omega))
        · rw [if_neg h] at hqZ
          have hdk:decide ((k:Int)<(q.1:Int))=false:=decide_eq_false (by omega)
          subst hqZ
          have cs:=con_SortI q.1 q.2 (by omega)
          rw [srt_flt hZ] at cs
          have e1:(flt (hB q) n).1=q.1:=difL_n q.2 q.1 hZ
          rw [at_nz,e1] at cs
          rw [show nzL (flt (hB q) n)=(q.1,nzI q.1 (flt (hB q) n).2) by unfold nzL;rw [e1]] at hr
          generalize nzI q.1 (flt (hB q) n).2=F at *
          refine pcZ hc (rmg n P np r Q _ i q.1 q.2 F k) ?_ hr
          and_intros
          all_goals (first | exact zN | (exact hdk) | (exact cs) | (intro t ht;by_cases h':t<r<;>(simp [h',snR5,cvtL,cvt,lendP,cellP,tab,idx,idx1,lkk,idO,idM,Ob.isF,List.lookup,tg,tru,All];done)) | (intros;simp [All,ntAL,ntA,ntP,ntL];done) | (simp;done) | (simp;omega))
    have lo:∀ d i,i+d=n→zR c 161 zf35 (rmS n P np (rmF M n i).1.1 (rmF M n i).1.2 (rmF M n i).2 i) R:=by
      intro d
      induction d with
      | zero =>
        intro i hi
        obtain rfl:i=n:=by omega
        rw [hX,← hR]
        have hd:decide ((i:Int)<(i:Int))=false:=decide_eq_false (by omega)
        refine pkZ Tryz.func161 hc (rmh i P np X.1 X.2 _ i) ?_
        and_intros
        iterate 2 all_goals (first | exact zN | (exact hd) | (intros;simp [All,ntAL,ntA,ntP,ntL];done) | simp only [All])
      | succ d ih =>
        intro i hi
        have hd:decide ((i:Int)<(n:Int))=true:=decide_eq_true (by omega)
        have hrec:=ih (i+1) (by omega)
        have hcl:=rmF_clo (M:=M) (n:=n) i (by omega)
        have hrn:=rmF_n (M:=M) (n:=n) i
        rw [rmF] at hrec
        generalize rmF M n i=S at hrec hcl hrn ⊢
        cases hs:S.2 i with
        | true =>
          rw [if_pos hs] at hrec
          refine pcZ hc (rma n P np S.1.1 S.1.2 S.2 i) ?_ hrec
          and_intros
          all_goals (first | exact zN | (exact hd) | (exact hs) | (intros;simp [All,ntAL,ntA,ntP,ntL];done) | (simp;done) | (simp;omega))
        | false =>
          rw [if_neg (by rw [hs];exact Bool.false_ne_true)] at hrec
          have eo:=rmQ_ok M (show i<n by omega)
          have hone:∀ t,hB (oneQ i) t=decide (t=i):=fun t=>by
            rw [show oneQ i=snL5 (0,z0) (i:Int) from rfl,hB_sn];rfl
          have:=outer S.1.1 S.1.2 S.2 i (rmQ M n i) hcl eo.dif (by omega) (by omega) hrec (n+1) 0 (oneQ i) (by omega) (Nat.zero_le _) (difL_one (by omega)) (fun t ht=>by
            rw [hone,decide_eq_true_eq] at ht
            rw [ht];exact ⟨by omega,hs⟩) rfl
          rw [show (fun v=>S.2 v||hB (oneQ i) v)=upB5 S.2 i by
            funext v
            rw [hone]
            unfold upB5
            by_cases hv:v=i
            · rw [if_pos hv,decide_eq_true hv];simp
            · rw [if_neg hv,decide_eq_false hv,Bool.or_false]] at this
          refine pcD hc (rmb n P np S.1.1 S.1.2 S.2 i) ?_ this
          and_intros
          all_goals (first | exact zI | (exact hd) | (exact hs) | (intro t ht;by_cases h':t=i<;>(simp [h',upB5,cvtL,cvt,tg,tru,All];done)) | (intro t ht;rw [show t=0 by omega];simp [cvtL,cvt,tg,tru,All];done) | (intros;simp [All,ntAL,ntA,ntP,ntL];done) | (simp;done) | (simp;omega))
    refine pcZ hc (rmq5 g nb N pl np K n P) ?_ (lo n 0 (by omega))
    and_intros
    iterate 2 all_goals (first | exact zN | (exact cp) | (intro t ht;exact absurd ht (Nat.not_lt_zero _)) | (intros;simp [All,ntAL,ntA,ntP,ntL];done) | (simp;done) | simp only [All])
theorem rm_bound {g:Nat→T_Bar} {nb:Nat} {N:Int} {pl:PlF} {np:Nat} {K:T_IntS} (hl:rmOk g nb N pl np K=true):lkB g nb N pl np K=true∧(psF g nb N pl np K).1≤100∧np≤6:=by
  unfold rmOk at hl
  cases hk:lkB g nb N pl np K with
  | false=>rw [hk] at hl;cases hl
  | true =>
    rw [hk] at hl
    have:=of_decide_eq_true hl
    exact ⟨rfl,by omega,(lk_ok hk).2.2.1⟩
theorem arg_nz {f:FuncId} {n:Nat} {H H':Hp} {u:T_IntS} {x:AV} {res:AV} (h:Con Tryz.prog f n H [inL u,x] H' res) (hx:∃ y:Int,x=.p (.int .i64 y)):Con Tryz.prog f n H [inL (u.1,nzI u.1 u.2),x] H' res:=by
  obtain ⟨y,rfl⟩:=hx
  refine h.arg_ext ?_
  simp only [inL,wkL,wk,wkP,beq_self_eq_true,Bool.and_self,if_true,ikEq,List.append_nil,List.cons_append,List.nil_append,All]
  and_intros<;>first | trivial | omega | (intro i hi;simp [nzI,hi];done)
theorem con_Rooms_s (g:Nat→T_Bar) (nb:Nat) (N:Int) (pl:PlF) (np:Nat) (K:T_IntS) (hn:nb≤1048576∧np≤1048576) (hK:K.1≤1048576) :
    zE 157 [tsA g nb N pl np K] [] (.tup [rsL (rmG g nb N pl np K).1 (rmG g nb N pl np K).2,.p (.bool (rmOk g nb N pl np K))]):=by
  have cp:=con_Poses_s g nb N pl np K hn hK
  have hin:=ps_in (g:=g) (nb:=nb) (N:=N) (pl:=pl) (np:=np) (K:=K)
  refine csZ Tryz.func157 (fun c hc=>?_)
  unfold rmG
  have hcond:(bif !(lkB g nb N pl np K) then true else decide (((psF g nb N pl np K).1:Int)>100))=!(rmOk g nb N pl np K):=by
    unfold rmOk
    cases lkB g nb N pl np K with
    | false=>rfl
    | true =>
      show decide _=!decide _
      by_cases h:((psF g nb N pl np K).1:Int)>100
      · rw [decide_eq_true h,decide_eq_false (by omega)];rfl
      · rw [decide_eq_false h,decide_eq_true (by omega)];rfl
  cases hl:rmOk g nb N pl np K with
  | false =>
    rw [hl] at hcond
    rw [if_neg Bool.false_ne_true]
    refine pkZ Tryz.func157 hc (sry g nb N pl np K (psF g nb N pl np K).1 (psF g nb N pl np K).2 (lkB g nb N pl np K)) ?_
    and_intros
    iterate 2 all_goals (first | exact zH | (exact cp) | (exact hcond) | (intro t ht;exact absurd ht (Nat.not_lt_zero _)) | (intro t ht;simp [All]) | simp only [All])
  | true =>
    rw [hl] at hcond
    rw [if_pos rfl]
    obtain ⟨hlk,hnn⟩:=rm_bound hl
    rw [hlk] at cp hcond
    generalize (psF g nb N pl np K).1=n at *
    generalize (psF g nb N pl np K).2=P at *
    have hMM:∃ M,nrM P np=M:=⟨_,rfl⟩
    obtain ⟨M,hM⟩:=hMM
    rw [hM]
    have hsym:∀ u t,u<n→t<n→M u t=true→M t u=true:=fun u t _ _ h=>by
      rw [← hM] at h ⊢
      unfold nrM at h ⊢
      rw [nrP_sym];exact h
    generalize hX:(rmF M n n).1=X
    generalize hR:Post c [] (.tup [rsL X.1 X.2,.p (.bool true)])=R
    have inner:∀ (r:Nat) (Q:Nat→T_IntS) (S:Nat→Bool) (i:Nat) (q:T_IntS),DifL n q→r≤100→i≤100 →
        (∀ (d:Nat) (D:Nat→Int),d≤(i+1)*100→(∀ v,v<n→hB (d,D) v=(S v||hB q v))→zR c 157 zf36 (srS n P np (r+1) (snR5 r Q (nzL (flt (hB q) n))) d D (i+1)) R) →
        ∀ e k (d:Nat) (D:Nat→Int),k+e=q.1→d≤i*100+k→(∀ v,v<n→hB (d,D) v=(S v||hB (k,q.2) v)) →
          zR c 157 zf7 (srT n P np r Q d D i q.1 q.2 (flt (hB (k,q.2)) n).1 (nzI (flt (hB (k,q.2)) n).1 (flt (hB (k,q.2)) n).2) k) R:=by
      intro r Q S i q hq hr0 hi0 hr e
      have hle:=difL_le hq
      induction e with
      | zero =>
        intro k d D hk hd0 hD
        have hd:decide ((k:Int)<(q.1:Int))=false:=decide_eq_false (by omega)
        rw [show (k,q.2)=q by rw [show k=q.1 by omega]] at hD ⊢
        have hrec:=hr d D (by omega) hD
        rw [show nzL (flt (hB q) n)=((flt (hB q) n).1,nzI (flt (hB q) n).1 (flt (hB q) n).2) from rfl] at hrec
        refine pcZ hc (srd n P np r Q d D i q.1 q.2 _ _ k) ?_ hrec
        and_intros
        all_goals (first | exact zN | (exact hd) | (intro t ht;by_cases h':t<r<;>(simp [h',snR5,cvtL,cvt,lendP,cellP,tab,idx,idx1,lkk,idO,idM,Ob.isF,List.lookup,tg,tru,All];done)) | (intros;simp [All,ntAL,ntA,ntP,ntL];done) | (simp;done) | (simp;omega))
      | succ e ih =>
        intro k d D hk hd0 hD
        have hd:decide ((k:Int)<(q.1:Int))=true:=decide_eq_true (by omega)
        have hqk:=hq k (by omega)
        have hfalse:hB (k,q.2) (q.2 k).toNat=false:=by
          cases hb:hB (k,q.2) (q.2 k).toNat with
          | false=>rfl
          | true =>
            obtain ⟨j,h1,h2⟩:=hB_iff.1 hb
            exact absurd (show q.2 j=q.2 k by simp only at h2;omega) (hqk.2.2 j h1)
        have cw:=con_5WithF (p:=hB (k,q.2)) (p':=hB (k+1,q.2)) (x:=(q.2 k).toNat) (N:=n) (by omega) (by omega) hfalse (fun t=>by
          rw [hB_pre]
          congr 1
          rw [decide_eq_decide];omega)
        rw [show (((q.2 k).toNat:Nat):Int)=q.2 k by omega] at cw
        have hrec:=ih (k+1) (d+1) (snI5 d D (q.2 k)) (by omega) (by omega) (fun v hv=>by
          rw [show (d+1,snI5 d D (q.2 k))=snL5 (d,D) (((q.2 k).toNat:Nat):Int) by rw [show (((q.2 k).toNat:Nat):Int)=q.2 k by omega];rfl,hB_sn,hD v hv,hB_pre,Bool.or_assoc]
          congr 2
          rw [decide_eq_decide];omega)
        have hn1:=flt_n (hB (k,q.2)) n
        generalize flt (hB (k+1,q.2)) n=F2 at cw hrec
        generalize flt (hB (k,q.2)) n=F1 at cw hn1 ⊢
        have cw':=arg_nz cw ⟨_,rfl⟩
        refine pcZ hc (src n P np r Q d D i q.1 q.2 F1.1 (nzI F1.1 F1.2) k F2.1 F2.2 (nzI F2.1 F2.2)) ?_ hrec
        and_intros
        iterate 2 all_goals (first | exact zN | (exact hd) | (exact cw') | (intro t ht;simp [ht,nzI,All];done) | (intro t ht;by_cases h':t<d<;>(simp [h',snI5,cvtL,cvt,tg,tru,All];done)) | (intros;simp [All,ntAL,ntA,ntP,ntL];done) | (simp;done) | (simp;omega) | simp only [All])
    have lo:∀ e i (d:Nat) (D:Nat→Int),i+e=n→d≤i*100→(∀ v,v<n→hB (d,D) v=(rmF M n i).2 v) →
        zR c 157 zf36 (srS n P np (rmF M n i).1.1 (rmF M n i).1.2 d D i) R:=by
      intro e
      induction e with
      | zero =>
        intro i d D hi hd0 hD
        obtain rfl:i=n:=by omega
        rw [hX,← hR]
        have hd:decide ((i:Int)<(i:Int))=false:=decide_eq_false (by omega)
        refine pkZ Tryz.func157 hc (sre i P np X.1 X.2 d D i) ?_
        and_intros
        iterate 2 all_goals (first | exact zN | (exact hd) | (intros;simp [All,ntAL,ntA,ntP,ntL];done) | simp only [All])
      | succ e ih =>
        intro i d D hi hd0 hD
        have hd:decide ((i:Int)<(n:Int))=true:=decide_eq_true (by omega)
        have hrec:=ih (i+1)
        have hrn:=rmF_n (M:=M) (n:=n) i
        rw [rmF] at hrec
        have hDi:=hD i (by omega)
        have ch:=con_l2Has (d,D) (i:Int) (by show d≤_;omega)
        change Con _ _ _ _ _ _ (.p (.bool (hB (d,D) i))) at ch
        generalize rmF M n i=S at hrec hrn hD hDi ⊢
        cases hs:S.2 i with
        | true =>
          rw [if_pos hs] at hrec
          rw [hDi,hs] at ch
          refine pcZ hc (sra n P np S.1.1 S.1.2 d D i) ?_ (hrec d D (by omega) (by omega) hD)
          and_intros
          all_goals (first | exact zN | (exact hd) | (exact ch) | (intros;simp [All,ntAL,ntA,ntP,ntL];done) | (simp;done) | (simp;omega))
        | false =>
          rw [if_neg (by rw [hs];exact Bool.false_ne_true)] at hrec
          rw [hDi,hs] at ch
          have eo:=rmQ_ok M (show i<n by omega)
          have cr:=con_Reach (P:=P) (np:=np) hin hnn.1 hnn.2 (show i<n by omega)
          rw [hM] at cr
          generalize rmT0 M n i=T at cr
          have:=inner S.1.1 S.1.2 S.2 i (rmQ M n i) eo.dif (by omega) (by omega) (fun d D h1 h2=>hrec d D (by omega) h1 h2) (rmQ M n i).1 0 d D (by omega) (by omega) (fun v hv=>by rw [hD v hv];show _=(S.2 v||false);rw [Bool.or_false])
          rw [show flt (hB (0,(rmQ M n i).2)) n=flt (fun _=>false) n from flt_congr n (fun _ _=>rfl),flt_none] at this
          have hle:=difL_le eo.dif
          generalize rmQ M n i=q at cr this hle
          refine pcZ hc (srb n P np S.1.1 S.1.2 d D i q.1 q.2 T) ?_ this
          and_intros
          iterate 2 all_goals (first | exact zN | (exact hd) | (exact ch) | (exact cr) | (intro t ht;exact absurd ht (Nat.not_lt_zero _)) | (intros;simp [All,ntAL,ntA,ntP,ntL];done) | (simp;done) | (simp;omega) | simp only [All])
    refine pcZ hc (srz g nb N pl np K n P true) ?_ (lo n 0 0 z0 (by omega) (by omega) (fun v _=>rfl))
    and_intros
    iterate 2 all_goals (first | exact zH | (exact cp) | (exact hcond) | (intro t ht;exact absurd ht (Nat.not_lt_zero _)) | (intros;simp [All,ntAL,ntA,ntP,ntL];done) | (simp;done) | simp only [All])
def ixD (n:Nat) (P:Nat→PlF) (np:Nat) (Q:PlF):Nat→Nat→Int
  | 0,_=>-1
  | d+1,i=>if allB (fun v=>eqP (P i v) (Q v)) np=true then (i:Int) else ixD n P np Q d (i+1)
theorem qP_all (f h:PlF):∀ n,qT_PlaceS f h n=allB (fun i=>eqP (f i) (h i)) n
  | 0=>rfl
  | n+1=>by rw [qT_PlaceS,allB,qP_all f h n];rfl
theorem con_Index_i (n:Nat) (P:Nat→PlF) (np:Nat) (Q:PlF) (hn:n≤1048576) (hnp:np≤1048576):zE 277 [psL true n P np,pcL Q np] [] (.p (.int .i64 (ixD n P np Q n 0))):=by
  refine csZ Tryz.func277 (fun c hc=>?_)
  have lo:∀ d i,i+d=n→zR c 277 zf85 (ixS n P np Q i) (Post c [] (.p (.int .i64 (ixD n P np Q d i)))):=by
    intro d
    induction d with
    | zero =>
      intro i hi
      have hd:decide ((i:Int)<(n:Int))=false:=decide_eq_false (by omega)
      refine pkZ Tryz.func277 hc (ixe n P np Q i) ?_
      and_intros
      all_goals (first | exact zN | (exact hd))
    | succ d ih =>
      intro i hi
      have hd:decide ((i:Int)<(n:Int))=true:=decide_eq_true (by omega)
      have hrec:=ih (i+1) (by omega)
      have ce:=con_sePlaceS (np,P i) (np,Q) (by show np≤_;omega)
      rw [show q_PlaceS (np,P i) (np,Q)=allB (fun v=>eqP (P i v) (Q v)) np by
        show (if np=np then qT_PlaceS _ _ np else false)=_
        rw [if_pos rfl,qP_all]] at ce
      rw [ixD]
      cases he:allB (fun v=>eqP (P i v) (Q v)) np with
      | true =>
        rw [if_pos rfl]
        rw [he] at ce
        refine pkZ Tryz.func277 hc (ixb n P np Q i) ?_
        and_intros
        all_goals (first | exact zN | (exact hd) | (exact ce))
      | false =>
        rw [if_neg Bool.false_ne_true]
        rw [he] at ce
        refine pcD hc (ixa n P np Q i) ?_ hrec
        and_intros
        all_goals (first | exact zN | (exact hd) | (exact ce) | (intros;simp [All,ntAL,ntA,ntP,ntL];done))
  refine pcD hc (ixz n P np Q) ?_ (lo n 0 (by omega))
  and_intros
  all_goals (first | exact zN | (intros;simp [All,ntAL,ntA,ntP,ntL];done))
theorem con_Index_s (n:Nat) (P:Nat→PlF) (np:Nat) (Q:PlF) (hn:n≤1048576) (hnp:np≤1048576):zE 269 [psL true n P np,pcL Q np] [] (.p (.int .i64 (ixD n P np Q n 0))):=by
  refine csZ Tryz.func269 (fun c hc=>?_)
  have l1:∀ (i:Nat) {R:Ending→World→Prop},i<n →
      (allB (fun v=>eqP (P i v) (Q v)) np=true→zR c 269 zf14 (iyT n P np Q i true np) R) →
      (allB (fun v=>eqP (P i v) (Q v)) np=false→∀ k,zR c 269 zf14 (iyT n P np Q i false k) R) →
      ∀ d k,k+d=np→allB (fun v=>eqP (P i v) (Q v)) k=true→zR c 269 zf14 (iyT n P np Q i true k) R:=by
    intro i R hi h1 h2 d
    induction d with
    | zero =>
      intro k hk hb
      rw [show k=np by omega] at hb ⊢
      exact h1 hb
    | succ d ih =>
      intro k hk hb
      have hd:(bif decide ((k:Int)<(np:Int)) then true else false)=true:=by rw [decide_eq_true (show ((k:Int)<(np:Int)) by omega)];rfl
      have hrec:zR c 269 zf14 (iyT n P np Q i (eqP (P i k) (Q k)) (k+1)) R:=by
        cases he:eqP (P i k) (Q k) with
        | true=>exact ih (k+1) (by omega) (by rw [allB,hb];exact he)
        | false=>exact h2 (all_no (show k<np by omega) he) (k+1)
      refine pcZ hc (iyb n P np Q i true k) ?_ hrec
      and_intros
      all_goals (first | exact zN | (exact hd) | (intros;simp [All,ntAL,ntA,ntP,ntL];done) | (simp;done) | (simp;omega))
  have lo:∀ d i,i+d=n→zR c 269 zf86 (iyS n P np Q i) (Post c [] (.p (.int .i64 (ixD n P np Q d i)))):=by
    intro d
    induction d with
    | zero =>
      intro i hi
      have hd:decide ((i:Int)<(n:Int))=false:=decide_eq_false (by omega)
      refine pkZ Tryz.func269 hc (iye n P np Q i) ?_
      and_intros
      all_goals (first | exact zN | (exact hd))
    | succ d ih =>
      intro i hi
      have hd:decide ((i:Int)<(n:Int))=true:=decide_eq_true (by omega)
      have hrec:=ih (i+1) (by omega)
      have hxx:((np:Int)==(np:Int))=true:=beq_self_eq_true _
      rw [ixD]
      have hgo:zR c 269 zf14 (iyT n P np Q i true 0) (Post c [] (.p (.int .i64 (if allB (fun v=>eqP (P i v) (Q v)) np=true then (i:Int) else ixD n P np Q d (i+1))))):=by
        refine l1 i (by omega) (fun ht=>?_) (fun hf k=>?_) np 0 (by omega) rfl
        · rw [if_pos ht]
          have hd2:(bif decide ((np:Int)<(np:Int)) then true else false)=false:=by rw [decide_eq_false (show ¬ ((np:Int)<(np:Int)) by omega)];rfl
          refine pkZ Tryz.func269 hc (iyc n P np Q i np) ?_
          and_intros
          all_goals (first | exact zN | (exact hd2))
        · rw [if_neg (by rw [hf];exact Bool.false_ne_true)]
          have hd2:(bif decide ((k:Int)<(np:Int)) then false else false)=false:=by cases decide ((k:Int)<(np:Int))<;>rfl
          refine pcZ hc (iyd n P np Q i k) ?_ hrec
          and_intros
          all_goals (first | exact zN | (exact hd2) | (intros;simp [All,ntAL,ntA,ntP,ntL];done))
      refine pcZ hc (iya n P np Q i) ?_ (by rw [hxx];exact hgo)
      and_intros
      all_goals (first | exact zN | (exact hd) | (intros;simp [All,ntAL,ntA,ntP,ntL];done))
  refine pcZ hc (iyz n P np Q) ?_ (lo n 0 (by omega))
  and_intros
  all_goals (first | exact zN | (intros;simp [All,ntAL,ntA,ntP,ntL];done))
def rfD (R:Nat→T_IntS) (x:Int):Nat→Nat→T_IntS
  | 0,_=>(0,z0)
  | d+1,i=>if hasI (R i).2 x (R i).1=true then R i else rfD R x d (i+1)
def rxI (g:Nat→T_Bar) (nb:Nat) (N:Int) (pl:PlF) (np:Nat) (K:T_IntS):Int:=ixD (psF g nb N pl np K).1 (psF g nb N pl np K).2 np pl (psF g nb N pl np K).1 0
def rfG (g:Nat→T_Bar) (nb:Nat) (N:Int) (pl:PlF) (np:Nat) (K:T_IntS):T_IntS :=
  if rmOk g nb N pl np K=true then rfD (rmG g nb N pl np K).2 (rxI g nb N pl np K) (rmG g nb N pl np K).1 0 else (0,z0)
theorem rmG_in {g:Nat→T_Bar} {nb:Nat} {N:Int} {pl:PlF} {np:Nat} {K:T_IntS}:(rmG g nb N pl np K).1≤100∧∀ i,i<(rmG g nb N pl np K).1→((rmG g nb N pl np K).2 i).1≤100:=by
  unfold rmG
  by_cases hl:rmOk g nb N pl np K=true
  · rw [if_pos hl]
    have hb:=(rm_bound hl).2.1
    generalize (psF g nb N pl np K).1=n at *
    refine ⟨Nat.le_trans (rmF_n n) hb,?_⟩
    generalize nrM (psF g nb N pl np K).2 np=M
    have key:∀ k,∀ i,i<(rmF M n k).1.1→((rmF M n k).1.2 i).1≤100:=by
      intro k
      induction k with
      | zero=>intro i hi;exact absurd hi (Nat.not_lt_zero _)
      | succ k ih =>
        rw [rmF]
        split
        · exact ih
        · intro i hi
          show (snR5 _ _ _ i).1≤100
          unfold snR5
          split
          · rename_i h;exact ih i h
          · exact Nat.le_trans (flt_n _ _) hb
    exact key n
  · rw [if_neg hl]
    exact ⟨Nat.zero_le _,fun i hi=>absurd hi (Nat.not_lt_zero _)⟩
theorem ps_n {g:Nat→T_Bar} {nb:Nat} {N:Int} {pl:PlF} {np:Nat} {K:T_IntS}:(psF g nb N pl np K).1≤625:=by
  unfold psF
  by_cases hl:lkB g nb N pl np K=true
  · rw [if_pos hl]
    have hm:=(fj_ok hl).1
    refine Nat.le_trans (spC_n _ _ _ _ _) ?_
    have:(fjF g nb N pl np K).1=0∨(fjF g nb N pl np K).1=1∨(fjF g nb N pl np K).1=2:=by omega
    rcases this with h | h | h<;>rw [h]<;>decide
  · rw [if_neg hl];exact Nat.zero_le _
theorem con_RoomOf_i (g:Nat→T_Bar) (nb:Nat) (N:Int) (pl:PlF) (np:Nat) (K:T_IntS) (hn:nb≤1048576∧np≤1048576) (hK:K.1≤1048576) :
    zE 162 [tsA g nb N pl np K] [] (fzL (rfG g nb N pl np K).1 (rfG g nb N pl np K).2):=by
  have c1:=con_Rooms_i g nb N pl np K hn hK
  have c2:=con_Poses_i g nb N pl np K hn hK
  have c3:=con_Index_i (psF g nb N pl np K).1 (psF g nb N pl np K).2 np pl (by have:=ps_n (g:=g) (nb:=nb) (N:=N) (pl:=pl) (np:=np) (K:=K);omega) hn.2
  have hrm:=rmG_in (g:=g) (nb:=nb) (N:=N) (pl:=pl) (np:=np) (K:=K)
  refine csZ Tryz.func162 (fun c hc=>?_)
  unfold rfG
  cases hl:rmOk g nb N pl np K with
  | false =>
    rw [hl] at c1
    rw [if_neg Bool.false_ne_true]
    refine pkZ Tryz.func162 hc (rfy g nb N pl np K (rmG g nb N pl np K).1 (rmG g nb N pl np K).2) ?_
    and_intros
    all_goals (first | exact zN | (exact c1) | (intro t ht;exact absurd ht (Nat.not_lt_zero _)) | (intro t ht;simp [All]))
  | true =>
    rw [hl] at c1
    rw [if_pos rfl]
    change Con _ _ _ _ _ _ (.p (.int .i64 (rxI g nb N pl np K))) at c3
    generalize rxI g nb N pl np K=x at *
    generalize (rmG g nb N pl np K).1=r at *
    generalize (rmG g nb N pl np K).2=Q at *
    generalize hF:rfD Q x r 0=F
    have lo:∀ d i,i+d=r→rfD Q x d i=F→zR c 162 zf37 (rfS r Q x i) (Post c [] (fzL F.1 F.2)):=by
      intro d
      induction d with
      | zero =>
        intro i hi he
        have hd:decide ((i:Int)<(r:Int))=false:=decide_eq_false (by omega)
        rw [rfD] at he
        subst he
        refine pkZ Tryz.func162 hc (rfe r Q x i) ?_
        and_intros
        all_goals (first | exact zN | (exact hd) | (intro t ht;exact absurd ht (Nat.not_lt_zero _)))
      | succ d ih =>
        intro i hi he
        have hd:decide ((i:Int)<(r:Int))=true:=decide_eq_true (by omega)
        have hri:=hrm.2 i (by omega)
        have ch:=con_Contains (Q i) x (by omega)
        rw [rfD] at he
        cases hh:hasI (Q i).2 x (Q i).1 with
        | true =>
          rw [if_pos hh] at he
          rw [hh] at ch
          subst he
          refine pkZ Tryz.func162 hc (rfb r Q x i) ?_
          and_intros
          all_goals (first | exact zN | (exact hd) | (exact ch) | (intros;simp [All,ntAL,ntA,ntP,ntL];done))
        | false =>
          rw [if_neg (by rw [hh];exact Bool.false_ne_true)] at he
          rw [hh] at ch
          refine pcZ hc (rfa r Q x i) ?_ (ih (i+1) (by omega) he)
          and_intros
          all_goals (first | exact zN | (exact hd) | (exact ch) | (intros;simp [All,ntAL,ntA,ntP,ntL];done))
    refine pcZ hc (rfz g nb N pl np K r Q (psF g nb N pl np K).1 (psF g nb N pl np K).2 (lkB g nb N pl np K) x) ?_ (lo r 0 (by omega) hF)
    and_intros
    all_goals (first | exact zN | (exact c1) | (exact c2) | (exact c3) | (intros;simp [All,ntAL,ntA,ntP,ntL];done))
theorem con_RoomOf_s (g:Nat→T_Bar) (nb:Nat) (N:Int) (pl:PlF) (np:Nat) (K:T_IntS) (hn:nb≤1048576∧np≤1048576) (hK:K.1≤1048576) :
    zE 158 [tsA g nb N pl np K] [] (fzL (rfG g nb N pl np K).1 (rfG g nb N pl np K).2):=by
  have c1:=con_Rooms_s g nb N pl np K hn hK
  have c2:=con_Poses_s g nb N pl np K hn hK
  have c3:=con_Index_s (psF g nb N pl np K).1 (psF g nb N pl np K).2 np pl (by have:=ps_n (g:=g) (nb:=nb) (N:=N) (pl:=pl) (np:=np) (K:=K);omega) hn.2
  have hrm:=rmG_in (g:=g) (nb:=nb) (N:=N) (pl:=pl) (np:=np) (K:=K)
  refine csZ Tryz.func158 (fun c hc=>?_)
  unfold rfG
  change Con _ _ _ _ _ _ (.p (.int .i64 (rxI g nb N pl np K))) at c3
  generalize rxI g nb N pl np K=x at *
  generalize (rmG g nb N pl np K).1=r at *
  generalize (rmG g nb N pl np K).2=Q at *
  cases hl:rmOk g nb N pl np K with
  | false =>
    rw [hl] at c1
    rw [if_neg Bool.false_ne_true]
    have hgo:zR c 158 zf44 (rgS r Q false x 0) (Post c [] (fzL 0 z0)):=by
      have hd:(bif decide (((0:Nat):Int)<(r:Int)) then false else false)=false:=by cases decide (((0:Nat):Int)<(r:Int))<;>rfl
      refine pkZ Tryz.func158 hc (rge r Q false x 0) ?_
      and_intros
      all_goals (first | exact zN | (exact hd) | (intro t ht;exact absurd ht (Nat.not_lt_zero _)))
    refine pcZ hc (rgz g nb N pl np K r Q false (psF g nb N pl np K).1 (psF g nb N pl np K).2 (lkB g nb N pl np K) x) ?_ hgo
    and_intros
    all_goals (first | exact zN | (exact c1) | (exact c2) | (exact c3) | (intros;simp [All,ntAL,ntA,ntP,ntL];done))
  | true =>
    rw [hl] at c1
    rw [if_pos rfl]
    generalize hF:rfD Q x r 0=F
    have lo:∀ d i,i+d=r→rfD Q x d i=F→zR c 158 zf44 (rgS r Q true x i) (Post c [] (fzL F.1 F.2)):=by
      intro d
      induction d with
      | zero =>
        intro i hi he
        have hd:(bif decide ((i:Int)<(r:Int)) then true else false)=false:=by rw [decide_eq_false (show ¬ ((i:Int)<(r:Int)) by omega)];rfl
        rw [rfD] at he
        subst he
        refine pkZ Tryz.func158 hc (rge r Q true x i) ?_
        and_intros
        all_goals (first | exact zN | (exact hd) | (intro t ht;exact absurd ht (Nat.not_lt_zero _)))
      | succ d ih =>
        intro i hi he
        have hd:(bif decide ((i:Int)<(r:Int)) then true else false)=true:=by rw [decide_eq_true (show ((i:Int)<(r:Int)) by omega)];rfl
        have hri:=hrm.2 i (by omega)
        have ch:=con_l2Has (Q i) x (by omega)
        rw [rfD] at he
        cases hh:hasI (Q i).2 x (Q i).1 with
        | true =>
          rw [if_pos hh] at he
          rw [hh] at ch
          subst he
          refine pkZ Tryz.func158 hc (rgb r Q x i) ?_
          and_intros
          all_goals (first | exact zN | (exact hd) | (exact ch) | (intros;simp [All,ntAL,ntA,ntP,ntL];done))
        | false =>
          rw [if_neg (by rw [hh];exact Bool.false_ne_true)] at he
          rw [hh] at ch
          refine pcZ hc (rga r Q x i) ?_ (ih (i+1) (by omega) he)
          and_intros
          all_goals (first | exact zN | (exact hd) | (exact ch) | (intros;simp [All,ntAL,ntA,ntP,ntL];done))
    refine pcZ hc (rgz g nb N pl np K r Q true (psF g nb N pl np K).1 (psF g nb N pl np K).2 (lkB g nb N pl np K) x) ?_ (lo r 0 (by omega) hF)
    and_intros
    all_goals (first | exact zN | (exact c1) | (exact c2) | (exact c3) | (intros;simp [All,ntAL,ntA,ntP,ntL];done))
end Go.Proofs.YtkkjoghiigiokaaGreat.Mach
namespace Go.Proofs.YtkkjoghiigiokaaGreat.Had
theorem dotv_le {B:Int}:∀ {n:Nat} {a:Ve},(∀ k,k<n→a k*a k≤B)→dotv n a a≤n*B
  | 0,_,_=>by simp [dotv]
  | n+1,a,h=>by
    have h1:=h 0 (by omega)
    have h2:=dotv_le (n:=n) (a:=tl a) (fun k hk=>h (k+1) (by omega))
    rw [dotv]
    have e:((n+1:Nat):Int)*B=(n:Int)*B+B:=by rw [Int.natCast_add,Int.add_mul];simp
    rw [e]
    omega
theorem rv_16 {x y:Int} {A B:Nat} (hx:-4≤x∧x≤4) (hy:-4≤y∧y≤4) (w:Nat):rv x y A B w*rv x y A B w≤16:=by
  unfold rv
  split
  · exact sq16 hx
  · split
    · exact sq16 hy
    · split
      · exact sq16 (by omega)
      · split
        · exact sq16 (by omega)
        · decide
theorem Bars.ent {P nb:Nat} {A B:Nat→Nat} {px py:Nat→Int} (h:Bars P nb A B px py) {k:Nat} (hk:k<nb) (w:Nat):rg A B px py k w*rg A B px py k w≤16:=by
  obtain ⟨h1,h2⟩:=h.ok k hk
  have a1:=h.gx (A k) (by omega)
  have a2:=h.gx (B k) h2
  have a3:=h.gy (A k) (by omega)
  have a4:=h.gy (B k) h2
  exact rv_16 (by omega) (by omega) w
theorem few_ok {n m:Nat} {A:Nat→Ve} (hn:n≤4) (h:∀ i,i<m→∀ k,k<n→A i k*A i k≤16) (c:Nat) (hc:c≤n):ROK n m 4 64 (fun c r _=>r≤c) c (rrun m (rini A) c) :=
  rrun_ok (tame_few hn) (by decide) (fun i hi=>Int.le_trans (dotv_le (h i hi)) (by omega)) (Nat.le_refl _) c hc
theorem few64:(64:Int) ^ (2*4)≤2 ^ 124:=by decide
end Go.Proofs.YtkkjoghiigiokaaGreat.Had
namespace Go.Proofs.YtkkjoghiigiokaaGreat.Mach
open Go
set_option linter.unusedVariables false
set_option linter.unusedSimpArgs false
def sbM (M:Nat→Nat→Int) (f:Nat→Int) (i s:Nat):Int:=M i (2*(f (s / 2)).toNat+s % 2)
theorem sb_even (M:Nat→Nat→Int) (f:Nat→Int) (i k:Nat):sbM M f i (2*k)=M i (2*(f k).toNat):=by
  unfold sbM
  rw [show 2*k / 2=k by omega,show 2*k % 2=0 by omega];rfl
theorem sb_odd (M:Nat→Nat→Int) (f:Nat→Int) (i k:Nat):sbM M f i (2*k+1)=M i (2*(f k).toNat+1):=by
  unfold sbM
  rw [show (2*k+1) / 2=k by omega,show (2*k+1) % 2=1 by omega]
def lfF (g:Nat→T_Bar) (nb:Nat) (N:Int) (pl:PlF) (np:Nat) (K:T_IntS):Int :=
  if lkB g nb N pl np K=true then
    2*((fjF g nb N pl np K).1:Int) - (((Had.rrun nb (Had.rini (sbM (rgM g pl) (fjF g nb N pl np K).2)) (2*(fjF g nb N pl np K).1)).r:Nat):Int)
  else -1
theorem lf_ok {g:Nat→T_Bar} {nb n:Nat} {pl:PlF} {np:Nat} {m:Nat} {f:Nat→Int} (hf:fwB g nb n pl np=true) (hm:m≤2) :
    ∀ c,c≤2*m→Had.ROK (2*m) nb 4 64 (fun c r _=>r≤c) c (Had.rrun nb (Had.rini (sbM (rgM g pl) f)) c):=by
  obtain ⟨h1,h2,h3,h4,hok,hb⟩:=fw_ok hf
  exact fun c hc=>Had.few_ok (by omega) (fun i hi k _=>hb.ent hi _) c hc
theorem con_Lf_i (g:Nat→T_Bar) (nb:Nat) (N:Int) (pl:PlF) (np:Nat) (K:T_IntS) (hn:nb≤1048576∧np≤1048576) (hK:K.1≤1048576) :
    zE 160 [tsA g nb N pl np K] [] (.p (.int .i64 (lfF g nb N pl np K))):=by
  have cl:=con_lk_i g nb N pl np K hn hK
  refine csZ Tryz.func160 (fun c hc=>?_)
  unfold lfF
  cases hl:lkB g nb N pl np K with
  | false =>
    rw [hl] at cl
    rw [if_neg Bool.false_ne_true]
    refine pkZ Tryz.func160 hc (lfn g nb N pl np K) ?_
    and_intros
    all_goals (first | exact zN | (exact cl))
  | true =>
    rw [hl] at cl
    rw [if_pos rfl]
    obtain ⟨hf,hN,hnp,hk0,hk1,hk2,hgd,hin⟩:=lk_ok hl
    subst hN
    obtain ⟨f1,f2,f3,f4,hok,hb⟩:=fw_ok hf
    have cj:=con_fj_i g nb np pl np K hn hK
    have cm:=con_RM_i hf
    obtain ⟨hm,hfr,hdf⟩:=fj_ok hl
    generalize (fjF g nb np pl np K).2=f at *
    generalize (fjF g nb np pl np K).1=m at *
    have cr:=con_rank (n:=2*m) (m:=nb) (M:=sbM (rgM g pl) f) (by omega) (by omega) (by decide) Had.few64 (lf_ok (f:=f) hf hm)
    rw [show ((2*m:Nat):Int)=2*(m:Int) by omega] at cr
    have hr4:=(lf_ok (f:=f) hf hm (2*m) (Nat.le_refl _)).r
    generalize hr:(Had.rrun nb (Had.rini (sbM (rgM g pl) f)) (2*m)).r=r at cr hr4 ⊢
    generalize rgM g pl=M at *
    have he:=sb_even M f
    have ho:=sb_odd M f
    generalize sbM M f=B at *
    generalize hR:Post c [] (.p (.int .i64 (2*(m:Int) - ((r:Nat):Int))))=R
    have l1:∀ i,i<nb→zR c 160 zf45 (lfS nb (2*np) M m f B (i+1)) R →
        ∀ d k,k+d=m→zR c 160 zf8 (lfT nb (2*np) M m f B i k) R:=by
      intro i hi hr2 d
      induction d with
      | zero =>
        intro k hk
        have hd:decide ((m:Int)<(m:Int))=false:=decide_eq_false (by omega)
        rw [show k=m by omega]
        refine pcZ hc (lfc nb (2*np) M m f B i) ?_ hr2
        and_intros
        all_goals (first | exact zN | (exact hd) | (intro t ht;by_cases h':t<i;(simp [h',cM,cvtL,cvt,lendP,cellP,tab,idx,idx1,lkk,idO,idM,Ob.isF,List.lookup,tg,tru,All]);(obtain rfl:t=i:=by omega);(simp [cM,cvtL,cvt,lendP,cellP,tab,idx,idx1,lkk,idO,idM,Ob.isF,List.lookup,tg,tru,All])) | (intros;simp [All,ntAL,ntA,ntP,ntL];done) | (simp;done) | (simp;omega))
      | succ d ih =>
        intro k hk
        have hd:decide ((k:Int)<(m:Int))=true:=decide_eq_true (by omega)
        have hrec:=ih (k+1) (by omega)
        have hk:=hfr k (by omega)
        have he':=he i k
        have ho':=ho i k
        have hrow:∀ t,t<2*(k+1)→¬ t<2*k→t=2*k∨t=2*k+1:=fun t h1 h2=>by omega
        have t1:(2*f k).toNat=2*(f k).toNat:=by omega
        have t2:(2*f k+1).toNat=2*(f k).toNat+1:=by omega
        refine pcZ hc (lfb nb (2*np) M m f B i k) ?_ hrec
        and_intros
        all_goals (first | exact zN | (exact hd) | (intros;simp [All,ntAL,ntA,ntP,ntL];done) | (simp;done) | (simp;omega) | (intro t ht;by_cases h1:t<2*k;(simp [h1,cvtL,cvt,tg,tru,All]);(rcases hrow t ht h1 with h2 | h2<;>(subst h2;simp [he',ho',t1,t2,rowIx,cM,cvtL,cvt,tg,tru,All]))))
    have lo:∀ d i,i+d=nb→zR c 160 zf45 (lfS nb (2*np) M m f B i) R:=by
      intro d
      induction d with
      | zero =>
        intro i hi
        have hd:decide ((nb:Int)<(nb:Int))=false:=decide_eq_false (by omega)
        rw [show i=nb by omega,← hR]
        refine pkD Tryz.func160 hc (lfe nb (2*np) M m f B r) ?_
        and_intros
        all_goals (first | exact zN | (exact hd) | (exact cr) | (intros;simp [All,ntAL,ntA,ntP,ntL];done))
      | succ d ih =>
        intro i hi
        have hd:decide ((i:Int)<(nb:Int))=true:=decide_eq_true (by omega)
        refine pcZ hc (lfa nb (2*np) M m f B i) ?_ (l1 i (by omega) (ih (i+1) (by omega)) m 0 (by omega))
        and_intros
        iterate 2 all_goals (first | exact zN | (exact hd) | (intro t ht;exact absurd ht (Nat.not_lt_zero _)) | (intros;simp [All,ntAL,ntA,ntP,ntL];done) | (simp;done) | simp only [All])
    refine pcZ hc (lfz g nb np pl np K m f (2*np) M B) ?_ (lo nb 0 (by omega))
    and_intros
    iterate 2 all_goals (first | exact zN | (exact cl) | (exact cj) | (exact cm) | (intro t ht;exact absurd ht (Nat.not_lt_zero _)) | (intros;simp [All,ntAL,ntA,ntP,ntL];done) | (simp;done) | simp only [All])
theorem con_Lf_s (g:Nat→T_Bar) (nb:Nat) (N:Int) (pl:PlF) (np:Nat) (K:T_IntS) (hn:nb≤1048576∧np≤1048576) (hK:K.1≤1048576) :
    zE 156 [tsA g nb N pl np K] [] (.p (.int .i64 (lfF g nb N pl np K))):=by
  have cl:=con_lk_s g nb N pl np K hn hK
  refine csZ Tryz.func156 (fun c hc=>?_)
  unfold lfF
  cases hl:lkB g nb N pl np K with
  | false =>
    rw [hl] at cl
    rw [if_neg Bool.false_ne_true]
    refine pkZ Tryz.func156 hc (lgn g nb N pl np K) ?_
    and_intros
    all_goals (first | exact zN | (exact cl))
  | true =>
    rw [hl] at cl
    rw [if_pos rfl]
    obtain ⟨hf,hN,hnp,hk0,hk1,hk2,hgd,hin⟩:=lk_ok hl
    subst hN
    obtain ⟨f1,f2,f3,f4,hok,hb⟩:=fw_ok hf
    have cj:=con_fj_s g nb np pl np K hn hK
    have cm:=con_RM_s hf
    obtain ⟨hm,hfr,hdf⟩:=fj_ok hl
    generalize (fjF g nb np pl np K).2=f at *
    generalize (fjF g nb np pl np K).1=m at *
    have cr:=con_l9Reduced (n:=2*m) (m:=nb) (M:=sbM (rgM g pl) f) (by omega) (by omega) (by decide) Had.few64 (by decide) (lf_ok (f:=f) hf hm) rfl
    have hr4:=(lf_ok (f:=f) hf hm (2*m) (Nat.le_refl _)).r
    generalize Had.rrun nb (Had.rini (sbM (rgM g pl) f)) (2*m)=S at cr hr4 ⊢
    generalize rgM g pl=M at *
    have he:=sb_even M f
    have ho:=sb_odd M f
    generalize sbM M f=B at *
    generalize hR:Post c [] (.p (.int .i64 (2*(m:Int) - ((S.r:Nat):Int))))=R
    have l1:∀ i,i<nb→zR c 156 zf38 (lgS nb (2*np) M m f B (i+1)) R →
        ∀ d k,k+d=m→zR c 156 zf10 (lgT nb (2*np) M m f B i k) R:=by
      intro i hi hr2 d
      induction d with
      | zero =>
        intro k hk
        have hd:decide ((m:Int)<(m:Int))=false:=decide_eq_false (by omega)
        rw [show k=m by omega]
        refine pcZ hc (lgc nb (2*np) M m f B i) ?_ hr2
        and_intros
        all_goals (first | exact zN | (exact hd) | (intro t ht;by_cases h':t<i;(simp [h',cM,cvtL,cvt,lendP,cellP,tab,idx,idx1,lkk,idO,idM,Ob.isF,List.lookup,tg,tru,All]);(obtain rfl:t=i:=by omega);(simp [cM,cvtL,cvt,lendP,cellP,tab,idx,idx1,lkk,idO,idM,Ob.isF,List.lookup,tg,tru,All])) | (intros;simp [All,ntAL,ntA,ntP,ntL];done) | (simp;done) | (simp;omega))
      | succ d ih =>
        intro k hk
        have hd:decide ((k:Int)<(m:Int))=true:=decide_eq_true (by omega)
        have hrec:=ih (k+1) (by omega)
        have hk:=hfr k (by omega)
        have he':=he i k
        have ho':=ho i k
        have hrow:∀ t,t<2*(k+1)→¬ t<2*k→t=2*k∨t=2*k+1:=fun t h1 h2=>by omega
        have t1:(2*f k).toNat=2*(f k).toNat:=by omega
        have t2:(2*f k+1).toNat=2*(f k).toNat+1:=by omega
        refine pcD hc (lgb nb (2*np) M m f B i k) ?_ hrec
        and_intros
        all_goals (first | exact zN | (exact hd) | (intros;simp [All,ntAL,ntA,ntP,ntL];done) | (simp;done) | (simp;omega) | (intro t ht;by_cases h1:t<2*k;(simp [h1,cvtL,cvt,tg,tru,All]);(rcases hrow t ht h1 with h2 | h2<;>(subst h2;simp [he',ho',t1,t2,rowIx,cM,cvtL,cvt,tg,tru,All]))))
    have lo:∀ d i,i+d=nb→zR c 156 zf38 (lgS nb (2*np) M m f B i) R:=by
      intro d
      induction d with
      | zero =>
        intro i hi
        have hd:decide ((nb:Int)<(nb:Int))=false:=decide_eq_false (by omega)
        rw [show i=nb by omega,← hR]
        refine pkZ Tryz.func156 hc (lge nb (2*np) M m f B (fun i=>Had.prm (2*m) (S.A i)) S.r (fun i=>(S.p i:Int))) ?_
        and_intros
        all_goals (first | exact zN | (exact hd) | (exact cr) | (intros;simp [All,ntAL,ntA,ntP,ntL];done))
      | succ d ih =>
        intro i hi
        have hd:decide ((i:Int)<(nb:Int))=true:=decide_eq_true (by omega)
        refine pcZ hc (lga nb (2*np) M m f B i) ?_ (l1 i (by omega) (ih (i+1) (by omega)) m 0 (by omega))
        and_intros
        iterate 2 all_goals (first | exact zN | (exact hd) | (intro t ht;exact absurd ht (Nat.not_lt_zero _)) | (intros;simp [All,ntAL,ntA,ntP,ntL];done) | (simp;done) | simp only [All])
    refine pcZ hc (lgz g nb np pl np K m f (2*np) M B) ?_ (lo nb 0 (by omega))
    and_intros
    iterate 2 all_goals (first | exact zN | (exact cl) | (exact cj) | (exact cm) | (intro t ht;exact absurd ht (Nat.not_lt_zero _)) | (intros;simp [All,ntAL,ntA,ntP,ntL];done) | (simp;done) | simp only [All])
def wLk (n:Nat) (fd:Int) (b:Bool) (r c:Nat):ByteArray :=
  if b=true then (((((((xsPos++fmtI (n:Int))++xsFree)++fmtI fd)++xsRms)++fmtI (r:Int))++xsRom)++fmtI (c:Int)) else (((xsPos++fmtI (n:Int))++xsFree)++fmtI fd)
def lkF' (g:Nat→T_Bar) (nb:Nat) (N:Int) (pl:PlF) (np:Nat) (K:T_IntS):ByteArray :=
  if lkB g nb N pl np K=true then wLk (psF g nb N pl np K).1 (lfF g nb N pl np K) (rmOk g nb N pl np K) (rmG g nb N pl np K).1 (rfG g nb N pl np K).1 else xE
theorem lf_in {g:Nat→T_Bar} {nb:Nat} {N:Int} {pl:PlF} {np:Nat} {K:T_IntS}:-20≤lfF g nb N pl np K∧lfF g nb N pl np K≤20:=by
  unfold lfF
  by_cases hl:lkB g nb N pl np K=true
  · rw [if_pos hl]
    obtain ⟨hf,hN,_⟩:=lk_ok hl
    subst hN
    have hm:=(fj_ok hl).1
    have:=(lf_ok (f:=(fjF g nb np pl np K).2) hf hm (2*(fjF g nb np pl np K).1) (Nat.le_refl _)).r
    omega
  · rw [if_neg hl];omega
theorem rf_in {g:Nat→T_Bar} {nb:Nat} {N:Int} {pl:PlF} {np:Nat} {K:T_IntS}:(rfG g nb N pl np K).1≤100:=by
  unfold rfG
  split
  · have h:=rmG_in (g:=g) (nb:=nb) (N:=N) (pl:=pl) (np:=np) (K:=K)
    generalize (rmG g nb N pl np K).1=r at *
    generalize (rmG g nb N pl np K).2=Q at *
    have key:∀ d i,i+d=r→(rfD Q (rxI g nb N pl np K) d i).1≤100:=by
      intro d
      induction d with
      | zero=>intro i _;exact Nat.zero_le _
      | succ d ih =>
        intro i hi
        rw [rfD]
        split
        · exact h.2 i (by omega)
        · exact ih (i+1) (by omega)
    exact key r 0 (by omega)
  · exact Nat.zero_le _
theorem con_LkLine_i (g:Nat→T_Bar) (nb:Nat) (N:Int) (pl:PlF) (np:Nat) (K:T_IntS) (hn:nb≤1048576∧np≤1048576) (hK:K.1≤1048576) :
    zE 46 [tsA g nb N pl np K] [] (.p (.str (lkF' g nb N pl np K))):=by
  have c1:=con_Poses_i g nb N pl np K hn hK
  unfold lkF'
  cases hl:lkB g nb N pl np K with
  | false =>
    rw [hl] at c1
    rw [if_neg Bool.false_ne_true]
    refine csZ Tryz.func46 (fun c hc=>?_)
    refine pkZ Tryz.func46 hc (llN g nb N pl np K (psF g nb N pl np K).1 (psF g nb N pl np K).2) ?_
    and_intros
    all_goals (first | exact zN | (exact c1) | rfl)
  | true =>
    rw [hl] at c1
    rw [if_pos rfl]
    have c2:=con_Lf_i g nb N pl np K hn hK
    have c3:=con_Rooms_i g nb N pl np K hn hK
    have c4:=con_RoomOf_i g nb N pl np K hn hK
    have k1:=ps_n (g:=g) (nb:=nb) (N:=N) (pl:=pl) (np:=np) (K:=K)
    have k2:=lf_in (g:=g) (nb:=nb) (N:=N) (pl:=pl) (np:=np) (K:=K)
    have k3:=(rmG_in (g:=g) (nb:=nb) (N:=N) (pl:=pl) (np:=np) (K:=K)).1
    have k4:=rf_in (g:=g) (nb:=nb) (N:=N) (pl:=pl) (np:=np) (K:=K)
    unfold wLk
    generalize (psF g nb N pl np K).1=n at *
    generalize (psF g nb N pl np K).2=P at *
    generalize lfF g nb N pl np K=fd at *
    generalize rmOk g nb N pl np K=b at *
    generalize (rmG g nb N pl np K).1=r at *
    generalize (rmG g nb N pl np K).2=Q at *
    generalize (rfG g nb N pl np K).1=q at *
    generalize (rfG g nb N pl np K).2=F at *
    have hf1:=con_FormatInt_i (n:Int) (by omega) (by omega)
    have hf2:=con_FormatInt_i fd (by omega) (by omega)
    have hf3:=con_FormatInt_i (r:Int) (by omega) (by omega)
    have hf4:=con_FormatInt_i (q:Int) (by omega) (by omega)
    have hs1:=fmt_size (n:Int)
    have hs2:=fmt_size fd
    have hs3:=fmt_size (r:Int)
    have hs4:=fmt_size (q:Int)
    generalize fmtI (n:Int)=fn at *
    generalize fmtI fd=ff at *
    generalize fmtI (r:Int)=fr at *
    generalize fmtI (q:Int)=fc at *
    have hl1:=con_line_ls 4 [xdPos,fn,xdFree,ff] rfl (by omega) 1000000 (by omega) (by
      intro s hs;simp only [List.mem_cons,List.not_mem_nil,or_false] at hs
      rcases hs with rfl | rfl | rfl | rfl
      · show 5≤_;omega
      · omega
      · show 7≤_;omega
      · omega)
    have e1:joinB sSp (lsF 4 [xdPos,fn,xdFree,ff]) 4=(((xsPos++fn)++xsFree)++ff):=by
      rw [join_s,join_s,join_2]
      show ((((((xdPos++sSp)++fn)++sSp)++xdFree)++sSp)++ff)=_
      rw [show xsPos=xdPos++sSp from rfl,show xsFree=(sSp++xdFree)++sSp from rfl]
      simp only [ByteArray.append_assoc]
    rw [e1] at hl1
    have z1:(((xsPos++fn)++xsFree)++ff).size≤200:=by
      simp only [ByteArray.size_append]
      show 6+fn.size+9+ff.size≤_;omega
    generalize (((xsPos++fn)++xsFree)++ff)=s1 at *
    have hl2:=con_ifSo_ls s1 b 4 [xdRms,fr,xdRom,fc] rfl (by omega) 1000000 (by omega) (by omega) (by
      intro s hs;simp only [List.mem_cons,List.not_mem_nil,or_false] at hs
      rcases hs with rfl | rfl | rfl | rfl
      · show 5≤_;omega
      · omega
      · show 4≤_;omega
      · omega)
    have e2:soB s1 b 4 (lsF 4 [xdRms,fr,xdRom,fc])=(if b=true then ((((s1++xsRms)++fr)++xsRom)++fc) else s1):=by
      cases b with
      | false=>rfl
      | true =>
        show joinB sSp (prB s1 _) 5=((((s1++xsRms)++fr)++xsRom)++fc)
        rw [join_s,join_s,join_s,join_2]
        show ((((((((s1++sSp)++xdRms)++sSp)++fr)++sSp)++xdRom)++sSp)++fc)=_
        rw [show xsRms=(sSp++xdRms)++sSp from rfl,show xsRom=(sSp++xdRom)++sSp from rfl]
        simp only [ByteArray.append_assoc]
    rw [e2] at hl2
    generalize (if b=true then ((((s1++xsRms)++fr)++xsRom)++fc) else s1)=s2 at *
    refine csZ Tryz.func46 (fun c hc=>?_)
    refine pkZ Tryz.func46 hc (llR g nb N pl np K n P fd r Q b q F fn ff fr fc s1 s2) ?_
    and_intros
    all_goals (first | exact zN | (exact c1) | (exact c2) | (exact c3) | (exact c4) | (exact hf1) | (exact hf2) | (exact hf3) | (exact hf4) | (exact hl1) | (exact hl2) | (simp;done))
theorem con_LkLine_s (g:Nat→T_Bar) (nb:Nat) (N:Int) (pl:PlF) (np:Nat) (K:T_IntS) (hn:nb≤1048576∧np≤1048576) (hK:K.1≤1048576) :
    zE 44 [tsA g nb N pl np K] [] (.p (.str (lkF' g nb N pl np K))):=by
  have c1:=con_Poses_s g nb N pl np K hn hK
  unfold lkF'
  cases hl:lkB g nb N pl np K with
  | false =>
    rw [hl] at c1
    rw [if_neg Bool.false_ne_true]
    refine csZ Tryz.func44 (fun c hc=>?_)
    refine pkZ Tryz.func44 hc (lsM g nb N pl np K (psF g nb N pl np K).1 (psF g nb N pl np K).2) ?_
    and_intros
    all_goals (first | exact zN | (exact c1) | rfl)
  | true =>
    rw [hl] at c1
    rw [if_pos rfl]
    have c2:=con_Lf_s g nb N pl np K hn hK
    have c3:=con_Rooms_s g nb N pl np K hn hK
    have c4:=con_RoomOf_s g nb N pl np K hn hK
    have k1:=ps_n (g:=g) (nb:=nb) (N:=N) (pl:=pl) (np:=np) (K:=K)
    have k2:=lf_in (g:=g) (nb:=nb) (N:=N) (pl:=pl) (np:=np) (K:=K)
    have k3:=(rmG_in (g:=g) (nb:=nb) (N:=N) (pl:=pl) (np:=np) (K:=K)).1
    have k4:=rf_in (g:=g) (nb:=nb) (N:=N) (pl:=pl) (np:=np) (K:=K)
    unfold wLk
    generalize (psF g nb N pl np K).1=n at *
    generalize (psF g nb N pl np K).2=P at *
    generalize lfF g nb N pl np K=fd at *
    generalize rmOk g nb N pl np K=b at *
    generalize (rmG g nb N pl np K).1=r at *
    generalize (rmG g nb N pl np K).2=Q at *
    generalize (rfG g nb N pl np K).1=q at *
    generalize (rfG g nb N pl np K).2=F at *
    have hf1:=con_FormatInt_s (n:Int) (by omega) (by omega)
    have hf2:=con_FormatInt_s fd (by omega) (by omega)
    have hf3:=con_FormatInt_s (r:Int) (by omega) (by omega)
    have hf4:=con_FormatInt_s (q:Int) (by omega) (by omega)
    have hs1:=fmt_size (n:Int)
    have hs2:=fmt_size fd
    have hs3:=fmt_size (r:Int)
    have hs4:=fmt_size (q:Int)
    generalize fmtI (n:Int)=fn at *
    generalize fmtI fd=ff at *
    generalize fmtI (r:Int)=fr at *
    generalize fmtI (q:Int)=fc at *
    have z0':(ByteArray.mk #[112,111,115,101,115,32]).size=6:=rfl
    have z1':(ByteArray.mk #[32,102,114,101,101,100,111,109,32]).size=9:=rfl
    have z2':(ByteArray.mk #[32,114,111,111,109,115,32]).size=7:=rfl
    have z3':(ByteArray.mk #[32,114,111,111,109,32]).size=6:=rfl
    refine csZ Tryz.func44 (fun c hc=>?_)
    cases b with
    | false =>
      rw [if_neg Bool.false_ne_true]
      refine pkZ Tryz.func44 hc (lsG g nb N pl np K n P fd r Q fn ff) ?_
      and_intros
      all_goals (first | exact zN | (exact c1) | (exact c2) | (exact c3) | (exact hf1) | (exact hf2) | (simp only [ByteArray.size_append,z0',z1',z2',z3'];omega) | (simp;done))
    | true =>
      rw [if_pos rfl]
      refine pkZ Tryz.func44 hc (lsT g nb N pl np K n P fd r Q q F fn ff fr fc) ?_
      and_intros
      all_goals (first | exact zN | (exact c1) | (exact c2) | (exact c3) | (exact c4) | (exact hf1) | (exact hf2) | (exact hf3) | (exact hf4) | (simp only [ByteArray.size_append,z0',z1',z2',z3'];omega) | (simp;done))
theorem lkL_sm {v:T_Linkage} (hs:smS s_Linkage v):(v.1.1.2.1.1≤1048576∧v.1.2.1.1≤1048576)∧v.2.1.1≤1048576:=⟨⟨hs.1.1.2.1.1,hs.1.2.1.1⟩,hs.2.1.1⟩
def lkV (v:T_Linkage):ByteArray:=lkF' v.1.1.2.1.2 v.1.1.2.1.1 v.1.1.1 v.1.2.1.2 v.1.2.1.1 v.2.1
theorem con_LkLineV_i (v:T_Linkage) (hs:smS s_Linkage v):zE 46 [tsA v.1.1.2.1.2 v.1.1.2.1.1 v.1.1.1 v.1.2.1.2 v.1.2.1.1 v.2.1] [] (.p (.str (lkV v))) :=
  con_LkLine_i _ _ _ _ _ _ (lkL_sm hs).1 (lkL_sm hs).2
theorem con_LkLineV_s (v:T_Linkage) (hs:smS s_Linkage v):zE 44 [tsA v.1.1.2.1.2 v.1.1.2.1.1 v.1.1.1 v.1.2.1.2 v.1.2.1.1 v.2.1] [] (.p (.str (lkV v))) :=
  con_LkLine_s _ _ _ _ _ _ (lkL_sm hs).1 (lkL_sm hs).2
theorem p_FnExactLinkageLine_0 (v0:T_Linkage) :
    zS Tryz.f9 [rg 2,rg 1,rm [(2,oc [] (.p (.int .i64 (f_szLinkage v0 1048576))))] 1,rg 2,.dec true,rg 1] [(zf18 v0)] [] [] (.p (.bool true)) =
    some [(NT 0 1),zE 43 [(zf18 v0),.p (.int .i64 1048576)] [] (.p (.int .i64 (f_szLinkage v0 1048576))),((decide (f_szLinkage v0 1048576<0))=true),(true=true)]:=by kernel_rfl
theorem p_FnExactLinkageLine_e (v0:T_Linkage) :
    zS Tryz.f9 [rg 2,rg 1,rm [(2,oc [] (.p (.int .i64 (f_szLinkage v0 1048576))))] 1,rg 2,.dec false,rm [(1,oc (zf20 v0) (zf97 v0)),(0,oc [] (.p (.str (lkV v0))))] 1,rm [(1,oc (zf20 v0) (zf97 v0))] 2,rm [(1,oc [] (.p (.str (lkV v0))))] 1,rg 3,.dec false,rm [(2,oc (zf20 v0) (zf97 v0)),(0,oc [] (.p (.bool true)))] 1,.dec false,rg 1] [(zf18 v0)] [] [] (.p (.bool true)) =
    some (zD [(NT 0 1),zE 43 [(zf18 v0),.p (.int .i64 1048576)] [] (.p (.int .i64 (f_szLinkage v0 1048576))),((decide (f_szLinkage v0 1048576<0))=false),zE 45 [(zf18 v0)] (zf19 v0) ((zf97 v0)),(AN 2),(NL v0.1.1.2.1.1 v0.1.1.2.1.1),(NL v0.1.2.1.1 v0.1.2.1.1),(AN 1),(NL v0.2.1.1 v0.2.1.1),zE 44 [(zf18 v0)] [] (.p (.str (lkV v0))),((true=true)→ (AN 1)),zE 46 [(zf18 v0)] [] (.p (.str (lkV v0))),((!(lkV v0).toList==(lkV v0).toList)=false),zE 47 [(zf18 v0),(zf18 v0)] [] (.p (.bool true)),((!true)=false),(true=true)] [0,1,2,0,3,4,5,4,6,7,8,9,0,3,0,10,0,4,5,4,6,7,8,11,12,0,0,3,4,5,4,6,7,8,4,5,4,6,7,8,13,14,15]):=by kernel_rfl
theorem con_law_FnExactLinkageLine (v0:T_Linkage) (k0:okS s_Linkage v0):zE 9 [(zf18 v0)] [] (.p (.bool true)):=by
  refine csZ Tryz.func9 (fun c hc=>?_)
  have l0:=le_szLinkage v0 1048576 (by omega)
  by_cases g0:(f_szLinkage v0 1048576)<0
  · refine pkZ Tryz.func9 hc (p_FnExactLinkageLine_0 v0) ?_
    and_intros
    all_goals (first | exact zN | (exact con_szLinkage v0 k0 _ (by omega) (by omega)) | (simp;omega))
  have hs0:=sm_szLinkage v0 1048576 (by omega) (by omega) g0
  refine pkD Tryz.func9 hc (p_FnExactLinkageLine_e v0) ?_
  and_intros
  all_goals (first | exact zI | (exact con_szLinkage v0 k0 _ (by omega) (by omega)) | (exact con_toLinkage v0 hs0) | (exact con_LkLineV_s v0 hs0) | (exact con_LkLineV_i v0 hs0) | (exact con_eqLinkage v0 hs0) | (simp;try omega))
end Go.Proofs.YtkkjoghiigiokaaGreat.Mach
