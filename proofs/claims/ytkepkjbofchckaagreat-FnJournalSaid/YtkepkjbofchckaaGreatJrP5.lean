/- What the law Jr needs, part 5 of 6: the abstract machine and the contracts of the functions. Conditions: as each theorem says. -/
import Derived.Test.YtkepkjbofchckaaGreatRows
import Derived.Test.YtkepkjbofchckaaGreatJrP4
namespace Go.Proofs.YtkepkjbofchckaaGreat.Mach
open Go Go.Sort
set_option linter.unusedVariables false
set_option linter.unusedSimpArgs false
def kAdd:ByteArray:=⟨#[97,100,100]⟩
def kBreak:ByteArray:=⟨#[98,114,101,97,107]⟩
def kRepair:ByteArray:=⟨#[114,101,112,97,105,114]⟩
def kBlank:ByteArray:=⟨#[32]⟩
def snTx (n:Nat) (h:Nat→ByteArray) (x:ByteArray) (s:Nat):ByteArray:=if s<n then h s else x
def siA (v:T_Site):AV:=.agg [.p (.int .i64 v.1.1.1),graphL v.1.1.2.1,inL v.1.2.1,stLt v.2.1.1 v.2.1.2]
def siO (N:Int) (nb m n:Nat):AV:=.agg [.p (.int .i64 N),.ar 2 0 0 nb,.ar 1 1 0 m,.ar 1 2 0 n]
def piO (N:Int) (nb m:Nat):AV:=.agg [.p (.int .i64 N),.ar 2 0 0 nb,.ar 1 1 0 m]
def piH (p:T_Pinned):Hp:=[(0,brOb p.1.2.1.1 p.1.2.1.2),(1,iOb p.2.1.1 p.2.1.2)]
def siH (v:T_Site):Hp:=[(0,brOb v.1.1.2.1.1 v.1.1.2.1.2),(1,iOb v.1.2.1.1 v.1.2.1.2),(2,stOt v.2.1.1 v.2.1.2)]
def siV (v:T_Site):AV:=siO v.1.1.1 v.1.1.2.1.1 v.1.2.1.1 v.2.1.1
def piV (p:T_Pinned):AV:=piO p.1.1 p.1.2.1.1 p.2.1.1
def evtA (e:T_Event):AV:=.agg [.p (.int .i64 e.1),.p (.int .i64 e.2.1),.p (.int .i64 e.2.2.1)]
def SVw (l:T_BarS) (k:Nat) (s:ByteArray):St :=
  ⟨[.p (.str s),graphL l]++List.replicate 5 anyA++[graphL l,.p (.int .i64 l.1),.p (.int .i64 k)]++List.replicate 10 anyA,[],0⟩
def SVb (l:T_BarS) (k:Nat) (s:ByteArray):St :=
  ⟨[graphL l,.p .any,.p .any,.p (.str s),.p (.int .i64 k)]++List.replicate 24 anyA,[],0⟩
theorem vWz (l:T_BarS) (s:ByteArray) :
    zT Tryz.f104 [rg 1,rg 3,.head] [.p (.str s),graphL l] [] (SVw l 0 s) =
    some (zf90,zD [(s=s),(AN l.1),(AP l.1 (fun i=>[.int .i64 ((l.2 i).1),.int .i64 ((l.2 i).2.1)])),(AI ((↑l.1:Int))),((0:Int)=(↑0:Int))] [0,1,2,1,2,3,4]):=by kernel_rfl
theorem vWa (l:T_BarS) (k:Nat) (s t:ByteArray) :
    zM 0 [rg 1,.dec true,rg 4,rm [(3,oc [] (.p (.str t)))] 2,rg 2,.head] zf90 (SVw l k s) [] 1 (SVw l (k+1) ((s++kBlank)++t)) =
    some (zf90,zD [((decide ((↑k:Int)<(↑l.1:Int)))=true),(IL 0 (↑k:Int)),(IT (↑k:Int) (↑l.1:Int)),(NT 0 1),((true=true)→ (AN 1)),(NL (s.size+(ByteArray.mk #[32]).size) 9223372036854775807),zE 114 [.agg [.p (.int .i64 ((l.2 k).1)),.p (.int .i64 ((l.2 k).2.1))]] [] (.p (.str t)),(NL ((s++ByteArray.mk #[32]).size+t.size) 9223372036854775807),(ZLo ((↑k:Int)+1)),(ZHi ((↑k:Int)+1)),(s++ByteArray.mk #[32]++t=s++kBlank++t),(AN l.1),(AP l.1 (fun i=>[.int .i64 ((l.2 i).1),.int .i64 ((l.2 i).2.1)])),(AI ((↑l.1:Int))),((((↑k:Int)+1):Int)=(↑(k+1):Int))] [0,1,2,3,4,5,3,6,7,8,9,10,11,12,11,12,13,14]):=by kernel_rfl
theorem vWe (l:T_BarS) (k:Nat) (s:ByteArray) :
    zP Tryz.f104 0 [rg 1,.dec false,rg 2] zf90 (SVw l k s) [] 1 [] (.p (.str s)) =
    some [((decide ((↑k:Int)<(↑l.1:Int)))=false),(s=s)]:=by kernel_rfl
theorem vBz (l:T_BarS) :
    zT Tryz.f108 [rg 1,rg 1,rg 1,.head] [graphL l] [] (SVb l 0 ⟨#[]⟩) =
    some (zf66,[(AN l.1),(AP l.1 (fun i=>[.int .i64 ((l.2 i).1),.int .i64 ((l.2 i).2.1)])),(ByteArray.mk #[]=ByteArray.mk #[]),((0:Int)=(↑0:Int))]):=by kernel_rfl
theorem vBa (l:T_BarS) (k:Nat) (s t u:ByteArray) :
    zM 0 [rg 4,.dec true,rm [(7,oc [] (.p (.str t))),(7,oc [] (.p (.str u)))] 2,rg 3,.head] zf66 (SVb l k s) [] 1 (SVb l (k+1) ((((s++kBlank)++t)++kDash)++u)) =
    some (zf66,[((decide ((↑k:Int)<(↑l.1:Int)))=true),(NL (s.size+(ByteArray.mk #[32]).size) 9223372036854775807),(IL 0 (↑k:Int)),(IT (↑k:Int) (↑l.1:Int)),zE 115 [.p (.int .i64 ((l.2 k).1))] [] (.p (.str t)),(NL ((s++ByteArray.mk #[32]).size+t.size) 9223372036854775807),(NL ((s++ByteArray.mk #[32]++t).size+(ByteArray.mk #[45]).size) 9223372036854775807),(IL 0 (↑k:Int)),(IT (↑k:Int) (↑l.1:Int)),zE 115 [.p (.int .i64 ((l.2 k).2.1))] [] (.p (.str u)),(NL ((s++ByteArray.mk #[32]++t++ByteArray.mk #[45]).size+u.size) 9223372036854775807),(ZLo ((↑k:Int)+1)),(ZHi ((↑k:Int)+1)),(AN l.1),(AP l.1 (fun i=>[.int .i64 ((l.2 i).1),.int .i64 ((l.2 i).2.1)])),(s++ByteArray.mk #[32]++t++ByteArray.mk #[45]++u=s++kBlank++t++kDash++u),((((↑k:Int)+1):Int)=(↑(k+1):Int))]):=by kernel_rfl
theorem vBe (l:T_BarS) (k:Nat) (s:ByteArray) :
    zP Tryz.f108 0 [rg 4,.dec false,rg 2] zf66 (SVb l k s) [] 1 [] (.p (.str s)) =
    some [((decide ((↑k:Int)<(↑l.1:Int)))=false),(s=s)]:=by kernel_rfl
theorem vCi (v:T_Site) :
    zS Tryz.f96 [rg 2,rm [(2,oc (piH v.1) (piV v.1))] 6] [siA v] [128,129,256] (siH v) (siV v) =
    some [(NT 0 1),zE 83 [(zf20 v)] [(0,⟨false,2,v.1.1.2.1.1,(fun i=>[.p (.int .i64 ((v.1.1.2.1.2 i).1)),.p (.int .i64 ((v.1.1.2.1.2 i).2.1))])⟩),(1,⟨false,1,v.1.2.1.1,(fun i=>[.p (.int .i64 (v.1.2.1.2 i))])⟩)] (.agg [.p (.int .i64 v.1.1.1),.ar 2 0 0 v.1.1.2.1.1,.ar 1 1 0 v.1.2.1.1]),(NT 0 1),(NL 0 0),(NL ((0+v.2.1.1)*16) 140737488355328),(NL (0+v.2.1.1) 9223372036854775807),(NT 0 1),((true=true)→ (AN 1)),(NT 0 1),(AI v.1.1.1),(AN 0),(AN v.1.1.2.1.1),(AN 0),(AN v.1.2.1.1),(AN 0),(((0+v.2.1.1):Nat)=v.2.1.1),(AN 2),(NL v.1.1.2.1.1 v.1.1.2.1.1),(AA v.1.1.2.1.1 (fun i=>[.p (.int .i64 ((v.1.1.2.1.2 i).1)),.p (.int .i64 ((v.1.1.2.1.2 i).2.1))])),(AN 1),(NL v.1.2.1.1 v.1.2.1.1),(AA v.1.2.1.1 (fun i=>[.p (.int .i64 (v.1.2.1.2 i))])),(AN 1),(NL v.2.1.1 (0+v.2.1.1)),(AA v.2.1.1 (fun i=>[.p (.str (v.2.1.2 i))])),(AE v.1.1.2.1.1),(AE v.1.2.1.1),(AE v.2.1.1)]:=by kernel_rfl
theorem vCs (v:T_Site) :
    zS Tryz.f98 [rg 2,rm [(3,oc [(0,brOb v.1.1.2.1.1 v.1.1.2.1.2)] (.agg [.p (.int .i64 v.1.1.1),.ar 2 0 0 v.1.1.2.1.1]))] 12] [siA v] [160,320,480] (siH v) (siV v) =
    some [(NT 0 1),zE 85 [(zf95 v)] [(0,⟨false,2,v.1.1.2.1.1,(fun i=>[.p (.int .i64 ((v.1.1.2.1.2 i).1)),.p (.int .i64 ((v.1.1.2.1.2 i).2.1))])⟩)] (.agg [.p (.int .i64 v.1.1.1),.ar 2 0 0 v.1.1.2.1.1]),(NT 0 1),(NL 0 0),(NL ((0+v.1.2.1.1)*8) 140737488355328),(NL (0+v.1.2.1.1) 9223372036854775807),(NT 0 1),(NL 0 0),(NL ((0+v.2.1.1)*16) 140737488355328),(NL (0+v.2.1.1) 9223372036854775807),(NT 0 1),((true=true)→ (AN 1)),(NT 0 1),(AI v.1.1.1),(AN 0),(AN v.1.1.2.1.1),(AN 0),(((0+v.1.2.1.1):Nat)=v.1.2.1.1),(AN 0),(((0+v.2.1.1):Nat)=v.2.1.1),(AN 2),(NL v.1.1.2.1.1 v.1.1.2.1.1),(AA v.1.1.2.1.1 (fun i=>[.p (.int .i64 ((v.1.1.2.1.2 i).1)),.p (.int .i64 ((v.1.1.2.1.2 i).2.1))])),(AN 1),(NL v.1.2.1.1 (0+v.1.2.1.1)),(AA v.1.2.1.1 (fun i=>[.p (.int .i64 (v.1.2.1.2 i))])),(AN 1),(NL v.2.1.1 (0+v.2.1.1)),(AA v.2.1.1 (fun i=>[.p (.str (v.2.1.2 i))])),(AE v.1.1.2.1.1),(AE v.1.2.1.1),(AE v.2.1.1)]:=by kernel_rfl
theorem aIy (v:T_Site) (e:T_Event) (b:Bool) :
    zS Tryz.f35 [rg 4,rm [(1,oc (siH v) (siV v))] 2,rm [(1,oc [] (.p (.bool b)))] 7,.dec true,rg 3] [siA v,evtA e] [160,161,162] (siH v) (.tup [siV v,.p (.bool false)]) =
    some (zD [(NT 0 1),zE 96 [(zf16 v)] (zf17 v) ((zf110 v)),((true=true)→ (AN 1)),zE 31 [(zf16 v)] [] (.p (.bool b)),(AG (!!b)),(((!!b)=true)→(NT 0 1)),(((!b)=false)→ ((!!b)=true)),((bif !b then true else (↑v.2.1.1:Int)==20)=true),(AI v.1.1.1),(AN 0),(AN v.1.1.2.1.1),(AN v.1.2.1.1),(AN v.2.1.1),(false=false),(AN 2),(NL v.1.1.2.1.1 v.1.1.2.1.1),(AA v.1.1.2.1.1 (fun i=>[.p (.int .i64 ((v.1.1.2.1.2 i).1)),.p (.int .i64 ((v.1.1.2.1.2 i).2.1))])),(AN 1),(NL v.1.2.1.1 v.1.2.1.1),(AA v.1.2.1.1 (fun i=>[.p (.int .i64 (v.1.2.1.2 i))])),(NL v.2.1.1 v.2.1.1),(AA v.2.1.1 (fun i=>[.p (.str (v.2.1.2 i))])),(AE v.1.1.2.1.1),(AE v.1.2.1.1),(AE v.2.1.1)] [0,1,0,2,0,3,4,5,4,4,6,7,0,0,2,0,8,9,10,9,11,9,12,13,14,15,16,17,18,19,17,20,21,22,23,24]):=by kernel_rfl
theorem aI1t (v:T_Site) (e:T_Event) (p:T_Pinned) (s:ByteArray) :
    zS Tryz.f35 [rg 4,rm [(1,oc (siH v) (siV v))] 2,rm [(1,oc [] (.p (.bool true)))] 7,.dec false,rg 4,rg 1,rg 1,rg 2,rg 2,.dec true,rm [(7,oc (piH p) (.tup [piV p,.p (.bool true)]))] 5,rm [(6,oc [] (.p (.str s)))] 1,rg 2,.dec false,rm [(1,oc (piH p) (piV p))] 2,rg 7,rg 3] [siA v,evtA e] [1632,1633,1856] (siH (p,(v.2.1.1+1,snTx v.2.1.1 v.2.1.2 s),())) (.tup [siV (p,(v.2.1.1+1,snTx v.2.1.1 v.2.1.2 s),()),.p (.bool true)]) =
    some (zD [(NT 0 1),zE 96 [(zf16 v)] (zf17 v) ((zf110 v)),((true=true)→ (AN 1)),zE 31 [(zf16 v)] [] (.p (.bool true)),(AG (!!true)),(((!!true)=true)→(NT 0 1)),(((!true)=false)→ ((!!true)=true)),((bif !true then true else (↑v.2.1.1:Int)==20)=false),((e.1==1)=true),(AN 2),(NL 1 1),zE 18 [(zf20 v),.p (.seq true 2 1 (fun i=>[.int .i64 e.2.1,.int .i64 e.2.2.1]))] (zf31 p) ((zf111 p)),zE 104 [.p (.str (ByteArray.mk #[97,100,100])),.p (.seq true 2 1 (fun i=>[.int .i64 e.2.1,.int .i64 e.2.2.1]))] [] (.p (.str s)),((!true)=false),(NL p.1.2.1.1 p.1.2.1.1),(AN 1),(NL p.2.1.1 p.2.1.1),zE 83 [(zf25 p)] (zf31 p) ((zf120 p)),(NL v.2.1.1 v.2.1.1),(NL ((v.2.1.1+1)*16) 140737488355328),(NL (v.2.1.1+1) 9223372036854775807),(AI p.1.1),(AN 0),(AN p.1.2.1.1),(AN p.2.1.1),(AN ((v.2.1.1+1))),(true=true),(AA p.1.2.1.1 (fun i=>[.p (.int .i64 ((p.1.2.1.2 i).1)),.p (.int .i64 ((p.1.2.1.2 i).2.1))])),(AA p.2.1.1 (fun i=>[.p (.int .i64 (p.2.1.2 i))])),(NL (v.2.1.1+1) (v.2.1.1+1)),(CV [(64,⟨true,4,1,(fun i_1=>[.p (.int .i64 p.1.1),.ar 2 1632 0 p.1.2.1.1,.ar 1 1633 0 p.2.1.1,.ar 1 1856 0 (v.2.1.1+1)])⟩),(192,⟨true,4,1,(fun i_1=>[.p (.int .i64 p.1.1),.ar 2 1632 0 p.1.2.1.1,.ar 1 1633 0 p.2.1.1,.ar 1 1856 0 (v.2.1.1+1)])⟩),(1856,⟨false,1,(v.2.1.1+1),(fun i_1=>(if (i_1<v.2.1.1) then [.p (.str (v.2.1.2 i_1))] else [.p (.str s)]))⟩),(1824,⟨false,1,1,(fun i_1=>[.p (.str s)])⟩),(1633,⟨false,1,p.2.1.1,(fun i_1=>[.p (.int .i64 (p.2.1.2 i_1))])⟩),(1632,⟨false,2,p.1.2.1.1,(fun i_1=>[.p (.int .i64 ((p.1.2.1.2 i_1).1)),.p (.int .i64 ((p.1.2.1.2 i_1).2.1))])⟩),(1440,⟨false,2,1,(fun i_1=>[.p (.int .i64 e.2.1),.p (.int .i64 e.2.2.1)])⟩),(608,⟨true,3,1,(fun i_1=>[.p (.int .i64 p.1.1),.ar 2 1088 0 p.1.2.1.1,.ar 1 1089 0 p.2.1.1])⟩),(1089,⟨false,1,p.2.1.1,(fun i_1=>[.p (.int .i64 (p.2.1.2 i_1))])⟩),(1088,⟨false,2,p.1.2.1.1,(fun i_1=>[.p (.int .i64 ((p.1.2.1.2 i_1).1)),.p (.int .i64 ((p.1.2.1.2 i_1).2.1))])⟩),(1056,⟨false,2,1,(fun i_1=>[.p (.int .i64 e.2.1),.p (.int .i64 e.2.2.1)])⟩),(161,⟨false,1,v.1.2.1.1,(fun i_1=>[.p (.int .i64 (v.1.2.1.2 i_1))])⟩),(160,⟨false,2,v.1.1.2.1.1,(fun i_1=>[.p (.int .i64 ((v.1.1.2.1.2 i_1).1)),.p (.int .i64 ((v.1.1.2.1.2 i_1).2.1))])⟩),(32,⟨true,3,1,(fun i_1=>[.p (.int .i64 e.1),.p (.int .i64 e.2.1),.p (.int .i64 e.2.2.1)])⟩),(0,⟨true,4,1,(fun i_1=>[.p (.int .i64 v.1.1.1),.p (.seq true 2 v.1.1.2.1.1 (fun i_2=>[.int .i64 ((v.1.1.2.1.2 i_2).1),.int .i64 ((v.1.1.2.1.2 i_2).2.1)])),.p (.seq true 1 v.1.2.1.1 (fun i_2=>[.int .i64 (v.1.2.1.2 i_2)])),.p (.seq true 1 v.2.1.1 (fun i_2=>[.str (v.2.1.2 i_2)]))])⟩)] [1632,1633,1856] 1 (v.2.1.1+1) (fun i=>if (i<v.2.1.1) then [.p (.str (v.2.1.2 i))] else [.p (.str s)]) (fun i=>[.p (.str ((v.2.1.1+1,snTx v.2.1.1 v.2.1.2 s).2 i))])),(AE p.1.2.1.1),(AE p.2.1.1),(AE ((v.2.1.1+1)))] [0,1,0,2,0,3,4,5,4,4,6,7,0,0,2,0,8,0,0,0,9,10,11,0,2,0,0,9,10,12,13,0,9,14,15,16,17,0,2,0,10,18,19,20,0,2,0,0,2,0,21,22,23,22,24,22,25,26,9,14,27,15,16,28,15,29,30,31,32,33]):=by kernel_rfl
theorem aI1f (v:T_Site) (e:T_Event) (p:T_Pinned) (s:ByteArray) :
    zS Tryz.f35 [rg 4,rm [(1,oc (siH v) (siV v))] 2,rm [(1,oc [] (.p (.bool true)))] 7,.dec false,rg 4,rg 1,rg 1,rg 2,rg 2,.dec true,rm [(7,oc (piH p) (.tup [piV p,.p (.bool false)]))] 5,rm [(6,oc [] (.p (.str s)))] 1,rg 2,.dec true,rg 3] [siA v,evtA e] [160,161,162] (siH v) (.tup [siV v,.p (.bool false)]) =
    some (zD [(NT 0 1),zE 96 [(zf16 v)] (zf17 v) ((zf110 v)),((true=true)→ (AN 1)),zE 31 [(zf16 v)] [] (.p (.bool true)),(AG (!!true)),(((!!true)=true)→(NT 0 1)),(((!true)=false)→ ((!!true)=true)),((bif !true then true else (↑v.2.1.1:Int)==20)=false),((e.1==1)=true),(AN 2),(NL 1 1),zE 18 [(zf20 v),.p (.seq true 2 1 (fun i=>[.int .i64 e.2.1,.int .i64 e.2.2.1]))] (zf31 p) (.tup [(zf120 p),.p (.bool false)]),zE 104 [.p (.str (ByteArray.mk #[97,100,100])),.p (.seq true 2 1 (fun i=>[.int .i64 e.2.1,.int .i64 e.2.2.1]))] [] (.p (.str s)),((!false)=true),(AI v.1.1.1),(AN 0),(AN v.1.1.2.1.1),(AN v.1.2.1.1),(AN v.2.1.1),(false=false),(NL v.1.1.2.1.1 v.1.1.2.1.1),(AA v.1.1.2.1.1 (fun i=>[.p (.int .i64 ((v.1.1.2.1.2 i).1)),.p (.int .i64 ((v.1.1.2.1.2 i).2.1))])),(AN 1),(NL v.1.2.1.1 v.1.2.1.1),(AA v.1.2.1.1 (fun i=>[.p (.int .i64 (v.1.2.1.2 i))])),(NL v.2.1.1 v.2.1.1),(AA v.2.1.1 (fun i=>[.p (.str (v.2.1.2 i))])),(AE v.1.1.2.1.1),(AE v.1.2.1.1),(AE v.2.1.1)] [0,1,0,2,0,3,4,5,4,4,6,7,0,0,2,0,8,0,0,0,9,10,11,0,2,0,0,9,10,12,13,0,0,2,0,14,15,16,15,17,15,18,19,9,20,21,22,23,24,22,25,26,27,28,29]):=by kernel_rfl
theorem aI2t (v:T_Site) (e:T_Event) (p:T_Pinned) (s:ByteArray) (x:T_Bar) (k:Int) :
    zS Tryz.f35 [rg 4,rm [(1,oc (siH v) (siV v))] 2,rm [(1,oc [] (.p (.bool true)))] 7,.dec false,rg 4,rg 1,rg 1,rg 2,rg 2,.dec false,rg 2,.dec true,rm [(7,oc [] (.agg [.p (.int .i64 x.1),.p (.int .i64 x.2.1)])),(0,oc [] (.p (.int .i64 k)))] 1,rg 2,.dec true,rm [(2,oc (piH p) (piV p))] 2,rm [(6,oc [] (.p (.str s)))] 1,rg 2,.dec false,rm [(1,oc (piH p) (piV p))] 2,rg 7,rg 3] [siA v,evtA e] [1824,1825,2048] (siH (p,(v.2.1.1+1,snTx v.2.1.1 v.2.1.2 s),())) (.tup [siV (p,(v.2.1.1+1,snTx v.2.1.1 v.2.1.2 s),()),.p (.bool true)]) =
    some (zD [(NT 0 1),zE 96 [(zf16 v)] (zf17 v) ((zf110 v)),((true=true)→ (AN 1)),zE 31 [(zf16 v)] [] (.p (.bool true)),(AG (!!true)),(((!!true)=true)→(NT 0 1)),(((!true)=false)→ ((!!true)=true)),((bif !true then true else (↑v.2.1.1:Int)==20)=false),((e.1==1)=false),((e.1==2)=true),zE 106 [.p (.int .i64 e.2.1),.p (.int .i64 e.2.2.1)] [] (.agg [.p (.int .i64 x.1),.p (.int .i64 x.2.1)]),zE 105 [.p (.seq true 2 v.1.1.2.1.1 (fun i=>[.int .i64 ((v.1.1.2.1.2 i).1),.int .i64 ((v.1.1.2.1.2 i).2.1)])),.agg [.p (.int .i64 x.1),.p (.int .i64 x.2.1)]] [] (.p (.int .i64 k)),((decide (k≥0))=true),zE 107 [(zf20 v),.p (.int .i64 k)] (zf31 p) ((zf120 p)),(AN 2),(NL 1 1),zE 104 [.p (.str (ByteArray.mk #[98,114,101,97,107])),.p (.seq true 2 1 (fun i=>[.int .i64 e.2.1,.int .i64 e.2.2.1]))] [] (.p (.str s)),((!true)=false),(NL p.1.2.1.1 p.1.2.1.1),(AN 1),(NL p.2.1.1 p.2.1.1),zE 83 [(zf25 p)] (zf31 p) ((zf120 p)),(NL v.2.1.1 v.2.1.1),(NL ((v.2.1.1+1)*16) 140737488355328),(NL (v.2.1.1+1) 9223372036854775807),(AI p.1.1),(AN 0),(AN p.1.2.1.1),(AN p.2.1.1),(AN ((v.2.1.1+1))),(true=true),(AA p.1.2.1.1 (fun i=>[.p (.int .i64 ((p.1.2.1.2 i).1)),.p (.int .i64 ((p.1.2.1.2 i).2.1))])),(AA p.2.1.1 (fun i=>[.p (.int .i64 (p.2.1.2 i))])),(NL (v.2.1.1+1) (v.2.1.1+1)),(CV [(64,⟨true,4,1,(fun i_1=>[.p (.int .i64 p.1.1),.ar 2 1824 0 p.1.2.1.1,.ar 1 1825 0 p.2.1.1,.ar 1 2048 0 (v.2.1.1+1)])⟩),(192,⟨true,4,1,(fun i_1=>[.p (.int .i64 p.1.1),.ar 2 1824 0 p.1.2.1.1,.ar 1 1825 0 p.2.1.1,.ar 1 2048 0 (v.2.1.1+1)])⟩),(2048,⟨false,1,(v.2.1.1+1),(fun i_1=>(if (i_1<v.2.1.1) then [.p (.str (v.2.1.2 i_1))] else [.p (.str s)]))⟩),(2016,⟨false,1,1,(fun i_1=>[.p (.str s)])⟩),(1825,⟨false,1,p.2.1.1,(fun i_1=>[.p (.int .i64 (p.2.1.2 i_1))])⟩),(1824,⟨false,2,p.1.2.1.1,(fun i_1=>[.p (.int .i64 ((p.1.2.1.2 i_1).1)),.p (.int .i64 ((p.1.2.1.2 i_1).2.1))])⟩),(1632,⟨false,2,1,(fun i_1=>[.p (.int .i64 e.2.1),.p (.int .i64 e.2.2.1)])⟩),(608,⟨true,3,1,(fun i_1=>[.p (.int .i64 p.1.1),.ar 2 1376 0 p.1.2.1.1,.ar 1 1377 0 p.2.1.1])⟩),(1377,⟨false,1,p.2.1.1,(fun i_1=>[.p (.int .i64 (p.2.1.2 i_1))])⟩),(1376,⟨false,2,p.1.2.1.1,(fun i_1=>[.p (.int .i64 ((p.1.2.1.2 i_1).1)),.p (.int .i64 ((p.1.2.1.2 i_1).2.1))])⟩),(161,⟨false,1,v.1.2.1.1,(fun i_1=>[.p (.int .i64 (v.1.2.1.2 i_1))])⟩),(160,⟨false,2,v.1.1.2.1.1,(fun i_1=>[.p (.int .i64 ((v.1.1.2.1.2 i_1).1)),.p (.int .i64 ((v.1.1.2.1.2 i_1).2.1))])⟩),(32,⟨true,3,1,(fun i_1=>[.p (.int .i64 e.1),.p (.int .i64 e.2.1),.p (.int .i64 e.2.2.1)])⟩),(0,⟨true,4,1,(fun i_1=>[.p (.int .i64 v.1.1.1),.p (.seq true 2 v.1.1.2.1.1 (fun i_2=>[.int .i64 ((v.1.1.2.1.2 i_2).1),.int .i64 ((v.1.1.2.1.2 i_2).2.1)])),.p (.seq true 1 v.1.2.1.1 (fun i_2=>[.int .i64 (v.1.2.1.2 i_2)])),.p (.seq true 1 v.2.1.1 (fun i_2=>[.str (v.2.1.2 i_2)]))])⟩)] [1824,1825,2048] 1 (v.2.1.1+1) (fun i=>if (i<v.2.1.1) then [.p (.str (v.2.1.2 i))] else [.p (.str s)]) (fun i=>[.p (.str ((v.2.1.1+1,snTx v.2.1.1 v.2.1.2 s).2 i))])),(AE p.1.2.1.1),(AE p.2.1.1),(AE ((v.2.1.1+1)))] [0,1,0,2,0,3,4,5,4,4,6,7,0,0,2,0,8,9,0,0,0,10,11,12,0,13,0,2,0,0,14,15,16,17,0,14,18,19,20,21,0,2,0,15,22,23,24,0,2,0,0,2,0,25,26,27,26,28,26,29,30,14,18,31,19,20,32,19,33,34,35,36,37]):=by kernel_rfl
theorem aI2f (v:T_Site) (e:T_Event) (s:ByteArray) (x:T_Bar) (k:Int) :
    zS Tryz.f35 [rg 4,rm [(1,oc (siH v) (siV v))] 2,rm [(1,oc [] (.p (.bool true)))] 7,.dec false,rg 4,rg 1,rg 1,rg 2,rg 2,.dec false,rg 2,.dec true,rm [(7,oc [] (.agg [.p (.int .i64 x.1),.p (.int .i64 x.2.1)])),(0,oc [] (.p (.int .i64 k)))] 1,rg 2,.dec false,rm [(6,oc [] (.p (.str s)))] 1,rg 2,.dec true,rg 3] [siA v,evtA e] [160,161,162] (siH v) (.tup [siV v,.p (.bool false)]) =
    some (zD [(NT 0 1),zE 96 [(zf16 v)] (zf17 v) ((zf110 v)),((true=true)→ (AN 1)),zE 31 [(zf16 v)] [] (.p (.bool true)),(AG (!!true)),(((!!true)=true)→(NT 0 1)),(((!true)=false)→ ((!!true)=true)),((bif !true then true else (↑v.2.1.1:Int)==20)=false),((e.1==1)=false),((e.1==2)=true),zE 106 [.p (.int .i64 e.2.1),.p (.int .i64 e.2.2.1)] [] (.agg [.p (.int .i64 x.1),.p (.int .i64 x.2.1)]),zE 105 [.p (.seq true 2 v.1.1.2.1.1 (fun i=>[.int .i64 ((v.1.1.2.1.2 i).1),.int .i64 ((v.1.1.2.1.2 i).2.1)])),.agg [.p (.int .i64 x.1),.p (.int .i64 x.2.1)]] [] (.p (.int .i64 k)),((decide (k≥0))=false),(AN 2),(NL 1 1),zE 104 [.p (.str (ByteArray.mk #[98,114,101,97,107])),.p (.seq true 2 1 (fun i=>[.int .i64 e.2.1,.int .i64 e.2.2.1]))] [] (.p (.str s)),((!false)=true),(AI v.1.1.1),(AN 0),(AN v.1.1.2.1.1),(AN v.1.2.1.1),(AN v.2.1.1),(false=false),(NL v.1.1.2.1.1 v.1.1.2.1.1),(AA v.1.1.2.1.1 (fun i=>[.p (.int .i64 ((v.1.1.2.1.2 i).1)),.p (.int .i64 ((v.1.1.2.1.2 i).2.1))])),(AN 1),(NL v.1.2.1.1 v.1.2.1.1),(AA v.1.2.1.1 (fun i=>[.p (.int .i64 (v.1.2.1.2 i))])),(NL v.2.1.1 v.2.1.1),(AA v.2.1.1 (fun i=>[.p (.str (v.2.1.2 i))])),(AE v.1.1.2.1.1),(AE v.1.2.1.1),(AE v.2.1.1)] [0,1,0,2,0,3,4,5,4,4,6,7,0,0,2,0,8,9,0,0,0,10,11,12,0,0,13,14,15,16,0,0,2,0,17,18,19,18,20,18,21,22,13,23,24,25,26,27,25,28,29,30,31,32]):=by kernel_rfl
theorem aI3t (v:T_Site) (e:T_Event) (s:ByteArray) :
    zS Tryz.f35 [rg 4,rm [(1,oc (siH v) (siV v))] 2,rm [(1,oc [] (.p (.bool true)))] 7,.dec false,rg 4,rg 1,rg 1,rg 2,rg 2,.dec false,rg 2,.dec false,rg 2,.dec true,rg 9,rm [(1,oc [] (.p (.str s)))] 1,rg 2,.dec false,rm [(1,oc (piH v.1) (piV v.1))] 2,rg 7,rg 3] [siA v,evtA e] [1472,1473,1696] (siH (v.1,(v.2.1.1+1,snTx v.2.1.1 v.2.1.2 s),())) (.tup [siV (v.1,(v.2.1.1+1,snTx v.2.1.1 v.2.1.2 s),()),.p (.bool true)]) =
    some (zD [(NT 0 1),zE 96 [(zf16 v)] (zf17 v) ((zf110 v)),((true=true)→ (AN 1)),zE 31 [(zf16 v)] [] (.p (.bool true)),(AG (!!true)),(((!!true)=true)→(NT 0 1)),(((!true)=false)→ ((!!true)=true)),((bif !true then true else (↑v.2.1.1:Int)==20)=false),((e.1==1)=false),((e.1==2)=false),((e.1==3)=true),(AG (e.2.1==0)),(((e.2.1==0)=true)→(NT 0 1)),zE 45 [(zf20 v)] [] (.p (.str s)),((!bif e.2.1==0 then e.2.2.1==0 else false)=false),zE 83 [(zf20 v)] [(0,⟨false,2,v.1.1.2.1.1,(fun i=>[.p (.int .i64 ((v.1.1.2.1.2 i).1)),.p (.int .i64 ((v.1.1.2.1.2 i).2.1))])⟩),(1,⟨false,1,v.1.2.1.1,(fun i=>[.p (.int .i64 (v.1.2.1.2 i))])⟩)] (.agg [.p (.int .i64 v.1.1.1),.ar 2 0 0 v.1.1.2.1.1,.ar 1 1 0 v.1.2.1.1]),(NL 1 1),(NL v.2.1.1 v.2.1.1),(NL ((v.2.1.1+1)*16) 140737488355328),(NL (v.2.1.1+1) 9223372036854775807),(AI v.1.1.1),(AN 0),(AN v.1.1.2.1.1),(AN v.1.2.1.1),(AN ((v.2.1.1+1))),(true=true),(AN 2),(NL v.1.1.2.1.1 v.1.1.2.1.1),(AA v.1.1.2.1.1 (fun i=>[.p (.int .i64 ((v.1.1.2.1.2 i).1)),.p (.int .i64 ((v.1.1.2.1.2 i).2.1))])),(AN 1),(NL v.1.2.1.1 v.1.2.1.1),(AA v.1.2.1.1 (fun i=>[.p (.int .i64 (v.1.2.1.2 i))])),(NL (v.2.1.1+1) (v.2.1.1+1)),(CV [(64,⟨true,4,1,(fun i_1=>[.p (.int .i64 v.1.1.1),.ar 2 1472 0 v.1.1.2.1.1,.ar 1 1473 0 v.1.2.1.1,.ar 1 1696 0 (v.2.1.1+1)])⟩),(192,⟨true,4,1,(fun i_1=>[.p (.int .i64 v.1.1.1),.ar 2 1472 0 v.1.1.2.1.1,.ar 1 1473 0 v.1.2.1.1,.ar 1 1696 0 (v.2.1.1+1)])⟩),(1696,⟨false,1,(v.2.1.1+1),(fun i_1=>(if (i_1<v.2.1.1) then [.p (.str (v.2.1.2 i_1))] else [.p (.str s)]))⟩),(1664,⟨false,1,1,(fun i_1=>[.p (.str s)])⟩),(1473,⟨false,1,v.1.2.1.1,(fun i_1=>[.p (.int .i64 (v.1.2.1.2 i_1))])⟩),(1472,⟨false,2,v.1.1.2.1.1,(fun i_1=>[.p (.int .i64 ((v.1.1.2.1.2 i_1).1)),.p (.int .i64 ((v.1.1.2.1.2 i_1).2.1))])⟩),(608,⟨true,3,1,(fun i_1=>[.p (.int .i64 v.1.1.1),.p (.seq true 2 v.1.1.2.1.1 (fun i_2=>[.int .i64 ((v.1.1.2.1.2 i_2).1),.int .i64 ((v.1.1.2.1.2 i_2).2.1)])),.p (.seq true 1 v.1.2.1.1 (fun i_2=>[.int .i64 (v.1.2.1.2 i_2)]))])⟩),(161,⟨false,1,v.1.2.1.1,(fun i_1=>[.p (.int .i64 (v.1.2.1.2 i_1))])⟩),(160,⟨false,2,v.1.1.2.1.1,(fun i_1=>[.p (.int .i64 ((v.1.1.2.1.2 i_1).1)),.p (.int .i64 ((v.1.1.2.1.2 i_1).2.1))])⟩),(32,⟨true,3,1,(fun i_1=>[.p (.int .i64 e.1),.p (.int .i64 e.2.1),.p (.int .i64 e.2.2.1)])⟩),(0,⟨true,4,1,(fun i_1=>[.p (.int .i64 v.1.1.1),.p (.seq true 2 v.1.1.2.1.1 (fun i_2=>[.int .i64 ((v.1.1.2.1.2 i_2).1),.int .i64 ((v.1.1.2.1.2 i_2).2.1)])),.p (.seq true 1 v.1.2.1.1 (fun i_2=>[.int .i64 (v.1.2.1.2 i_2)])),.p (.seq true 1 v.2.1.1 (fun i_2=>[.str (v.2.1.2 i_2)]))])⟩)] [1472,1473,1696] 1 (v.2.1.1+1) (fun i=>if (i<v.2.1.1) then [.p (.str (v.2.1.2 i))] else [.p (.str s)]) (fun i=>[.p (.str ((v.2.1.1+1,snTx v.2.1.1 v.2.1.2 s).2 i))])),(AE v.1.1.2.1.1),(AE v.1.2.1.1),(AE ((v.2.1.1+1)))] [0,1,0,2,0,3,4,5,4,4,6,7,0,0,2,0,8,9,10,0,11,12,11,11,0,13,14,0,15,0,2,0,16,17,18,19,0,2,0,0,2,0,20,21,22,21,23,21,24,25,26,27,28,29,30,31,29,32,33,34,35,36]):=by kernel_rfl
theorem aI3f (v:T_Site) (e:T_Event) (s:ByteArray) :
    zS Tryz.f35 [rg 4,rm [(1,oc (siH v) (siV v))] 2,rm [(1,oc [] (.p (.bool true)))] 7,.dec false,rg 4,rg 1,rg 1,rg 2,rg 2,.dec false,rg 2,.dec false,rg 2,.dec true,rg 9,rm [(1,oc [] (.p (.str s)))] 1,rg 2,.dec true,rg 3] [siA v,evtA e] [160,161,162] (siH v) (.tup [siV v,.p (.bool false)]) =
    some (zD [(NT 0 1),zE 96 [(zf16 v)] (zf17 v) ((zf110 v)),((true=true)→ (AN 1)),zE 31 [(zf16 v)] [] (.p (.bool true)),(AG (!!true)),(((!!true)=true)→(NT 0 1)),(((!true)=false)→ ((!!true)=true)),((bif !true then true else (↑v.2.1.1:Int)==20)=false),((e.1==1)=false),((e.1==2)=false),((e.1==3)=true),(AG (e.2.1==0)),(((e.2.1==0)=true)→(NT 0 1)),zE 45 [(zf20 v)] [] (.p (.str s)),((!bif e.2.1==0 then e.2.2.1==0 else false)=true),(AI v.1.1.1),(AN 0),(AN v.1.1.2.1.1),(AN v.1.2.1.1),(AN v.2.1.1),(false=false),(AN 2),(NL v.1.1.2.1.1 v.1.1.2.1.1),(AA v.1.1.2.1.1 (fun i=>[.p (.int .i64 ((v.1.1.2.1.2 i).1)),.p (.int .i64 ((v.1.1.2.1.2 i).2.1))])),(AN 1),(NL v.1.2.1.1 v.1.2.1.1),(AA v.1.2.1.1 (fun i=>[.p (.int .i64 (v.1.2.1.2 i))])),(NL v.2.1.1 v.2.1.1),(AA v.2.1.1 (fun i=>[.p (.str (v.2.1.2 i))])),(AE v.1.1.2.1.1),(AE v.1.2.1.1),(AE v.2.1.1)] [0,1,0,2,0,3,4,5,4,4,6,7,0,0,2,0,8,9,10,0,11,12,11,11,0,13,14,0,0,2,0,15,16,17,16,18,16,19,20,21,22,23,24,25,26,24,27,28,29,30,31]):=by kernel_rfl
theorem aI4t (v:T_Site) (e:T_Event) (p:T_Pinned) (s:ByteArray) (n:Nat) (h:Nat→T_Bar) (b:Bool) :
    zS Tryz.f35 [rg 4,rm [(1,oc (siH v) (siV v))] 2,rm [(1,oc [] (.p (.bool true)))] 7,.dec false,rg 4,rg 1,rg 1,rg 2,rg 2,.dec false,rg 2,.dec false,rg 2,.dec false,rg 2,.dec true,rm [(1,oc [(0,brOb n h)] (.tup [.ar 2 0 0 n,.p (.bool b)]))] 5,rg 11,.dec true,rm [(2,oc (piH p) (.tup [piV p,.p (.bool true)]))] 5,rm [(1,oc [] (.p (.str s)))] 1,rg 2,.dec false,rm [(1,oc (piH p) (piV p))] 2,rg 7,rg 3] [siA v,evtA e] [2080,2081,2304] (siH (p,(v.2.1.1+1,snTx v.2.1.1 v.2.1.2 s),())) (.tup [siV (p,(v.2.1.1+1,snTx v.2.1.1 v.2.1.2 s),()),.p (.bool true)]) =
    some (zD [(NT 0 1),zE 96 [(zf16 v)] (zf17 v) ((zf110 v)),((true=true)→ (AN 1)),zE 31 [(zf16 v)] [] (.p (.bool true)),(AG (!!true)),(((!!true)=true)→(NT 0 1)),(((!true)=false)→ ((!!true)=true)),((bif !true then true else (↑v.2.1.1:Int)==20)=false),((e.1==1)=false),((e.1==2)=false),((e.1==3)=false),((e.1==4)=true),zE 8 [(zf20 v)] (zf113 n h) (.tup [.ar 2 0 0 n,.p (.bool b)]),(AG b),((b=true)→(NT 0 1)),(AG (bif b then e.2.1==0 else false)),(((bif b then e.2.1==0 else false)=true)→(NT 0 1)),((bif bif b then e.2.1==0 else false then e.2.2.1==0 else false)=true),(AN 2),(NL n n),zE 18 [(zf20 v),.p (.seq true 2 n (bRw h))] (zf31 p) ((zf111 p)),zE 104 [.p (.str (ByteArray.mk #[114,101,112,97,105,114])),.p (.seq true 2 n (bRw h))] [] (.p (.str s)),((!true)=false),(NL p.1.2.1.1 p.1.2.1.1),(AN 1),(NL p.2.1.1 p.2.1.1),zE 83 [(zf25 p)] (zf31 p) ((zf120 p)),(NL 1 1),(NL v.2.1.1 v.2.1.1),(NL ((v.2.1.1+1)*16) 140737488355328),(NL (v.2.1.1+1) 9223372036854775807),(AI p.1.1),(AN 0),(AN p.1.2.1.1),(AN p.2.1.1),(AN ((v.2.1.1+1))),(true=true),(AA p.1.2.1.1 (fun i=>[.p (.int .i64 ((p.1.2.1.2 i).1)),.p (.int .i64 ((p.1.2.1.2 i).2.1))])),(AA p.2.1.1 (fun i=>[.p (.int .i64 (p.2.1.2 i))])),(NL (v.2.1.1+1) (v.2.1.1+1)),(CV [(64,⟨true,4,1,(fun i_1=>[.p (.int .i64 p.1.1),.ar 2 2080 0 p.1.2.1.1,.ar 1 2081 0 p.2.1.1,.ar 1 2304 0 (v.2.1.1+1)])⟩),(192,⟨true,4,1,(fun i_1=>[.p (.int .i64 p.1.1),.ar 2 2080 0 p.1.2.1.1,.ar 1 2081 0 p.2.1.1,.ar 1 2304 0 (v.2.1.1+1)])⟩),(2304,⟨false,1,(v.2.1.1+1),(fun i_1=>(if (i_1<v.2.1.1) then [.p (.str (v.2.1.2 i_1))] else [.p (.str s)]))⟩),(2272,⟨false,1,1,(fun i_1=>[.p (.str s)])⟩),(2081,⟨false,1,p.2.1.1,(fun i_1=>[.p (.int .i64 (p.2.1.2 i_1))])⟩),(2080,⟨false,2,p.1.2.1.1,(fun i_1=>[.p (.int .i64 ((p.1.2.1.2 i_1).1)),.p (.int .i64 ((p.1.2.1.2 i_1).2.1))])⟩),(608,⟨true,3,1,(fun i_1=>[.p (.int .i64 p.1.1),.ar 2 1696 0 p.1.2.1.1,.ar 1 1697 0 p.2.1.1])⟩),(1697,⟨false,1,p.2.1.1,(fun i_1=>[.p (.int .i64 (p.2.1.2 i_1))])⟩),(1696,⟨false,2,p.1.2.1.1,(fun i_1=>[.p (.int .i64 ((p.1.2.1.2 i_1).1)),.p (.int .i64 ((p.1.2.1.2 i_1).2.1))])⟩),(1088,⟨false,2,n,(fun i_1=>[.p (.int .i64 ((h i_1).1)),.p (.int .i64 ((h i_1).2.1))])⟩),(161,⟨false,1,v.1.2.1.1,(fun i_1=>[.p (.int .i64 (v.1.2.1.2 i_1))])⟩),(160,⟨false,2,v.1.1.2.1.1,(fun i_1=>[.p (.int .i64 ((v.1.1.2.1.2 i_1).1)),.p (.int .i64 ((v.1.1.2.1.2 i_1).2.1))])⟩),(32,⟨true,3,1,(fun i_1=>[.p (.int .i64 e.1),.p (.int .i64 e.2.1),.p (.int .i64 e.2.2.1)])⟩),(0,⟨true,4,1,(fun i_1=>[.p (.int .i64 v.1.1.1),.p (.seq true 2 v.1.1.2.1.1 (fun i_2=>[.int .i64 ((v.1.1.2.1.2 i_2).1),.int .i64 ((v.1.1.2.1.2 i_2).2.1)])),.p (.seq true 1 v.1.2.1.1 (fun i_2=>[.int .i64 (v.1.2.1.2 i_2)])),.p (.seq true 1 v.2.1.1 (fun i_2=>[.str (v.2.1.2 i_2)]))])⟩)] [2080,2081,2304] 1 (v.2.1.1+1) (fun i=>if (i<v.2.1.1) then [.p (.str (v.2.1.2 i))] else [.p (.str s)]) (fun i=>[.p (.str ((v.2.1.1+1,snTx v.2.1.1 v.2.1.2 s).2 i))])),(AE p.1.2.1.1),(AE p.2.1.1),(AE ((v.2.1.1+1)))] [0,1,0,2,0,3,4,5,4,4,6,7,0,0,2,0,8,9,10,11,0,12,13,14,13,13,15,16,15,15,17,0,18,19,20,0,2,18,19,21,22,0,18,23,24,25,26,0,2,0,27,28,29,30,0,2,0,0,2,0,31,32,33,32,34,32,35,36,18,23,37,24,25,38,24,39,40,41,42,43]):=by kernel_rfl
theorem aI4f (v:T_Site) (e:T_Event) (s:ByteArray) (n:Nat) (h:Nat→T_Bar) (b:Bool) :
    zS Tryz.f35 [rg 4,rm [(1,oc (siH v) (siV v))] 2,rm [(1,oc [] (.p (.bool true)))] 7,.dec false,rg 4,rg 1,rg 1,rg 2,rg 2,.dec false,rg 2,.dec false,rg 2,.dec false,rg 2,.dec true,rm [(1,oc [(0,brOb n h)] (.tup [.ar 2 0 0 n,.p (.bool b)]))] 5,rg 11,.dec false,rm [(1,oc [] (.p (.str s)))] 1,rg 2,.dec true,rg 3] [siA v,evtA e] [160,161,162] (siH v) (.tup [siV v,.p (.bool false)]) =
    some (zD [(NT 0 1),zE 96 [(zf16 v)] (zf17 v) ((zf110 v)),((true=true)→ (AN 1)),zE 31 [(zf16 v)] [] (.p (.bool true)),(AG (!!true)),(((!!true)=true)→(NT 0 1)),(((!true)=false)→ ((!!true)=true)),((bif !true then true else (↑v.2.1.1:Int)==20)=false),((e.1==1)=false),((e.1==2)=false),((e.1==3)=false),((e.1==4)=true),zE 8 [(zf20 v)] (zf113 n h) (.tup [.ar 2 0 0 n,.p (.bool b)]),(AG b),((b=true)→(NT 0 1)),(AG (bif b then e.2.1==0 else false)),(((bif b then e.2.1==0 else false)=true)→(NT 0 1)),((bif bif b then e.2.1==0 else false then e.2.2.1==0 else false)=false),(AN 2),(NL n n),zE 104 [.p (.str (ByteArray.mk #[114,101,112,97,105,114])),.p (.seq true 2 n (bRw h))] [] (.p (.str s)),((!false)=true),(AI v.1.1.1),(AN 0),(AN v.1.1.2.1.1),(AN v.1.2.1.1),(AN v.2.1.1),(false=false),(NL v.1.1.2.1.1 v.1.1.2.1.1),(AA v.1.1.2.1.1 (fun i=>[.p (.int .i64 ((v.1.1.2.1.2 i).1)),.p (.int .i64 ((v.1.1.2.1.2 i).2.1))])),(AN 1),(NL v.1.2.1.1 v.1.2.1.1),(AA v.1.2.1.1 (fun i=>[.p (.int .i64 (v.1.2.1.2 i))])),(NL v.2.1.1 v.2.1.1),(AA v.2.1.1 (fun i=>[.p (.str (v.2.1.2 i))])),(AE v.1.1.2.1.1),(AE v.1.2.1.1),(AE v.2.1.1)] [0,1,0,2,0,3,4,5,4,4,6,7,0,0,2,0,8,9,10,11,0,12,13,14,13,13,15,16,15,15,17,18,19,20,21,0,0,2,0,22,23,24,23,25,23,26,27,18,28,29,30,31,32,30,33,34,35,36,37]):=by kernel_rfl
theorem aI5 (v:T_Site) (e:T_Event) :
    zS Tryz.f35 [rg 4,rm [(1,oc (siH v) (siV v))] 2,rm [(1,oc [] (.p (.bool true)))] 7,.dec false,rg 4,rg 1,rg 1,rg 2,rg 2,.dec false,rg 2,.dec false,rg 2,.dec false,rg 2,.dec false,rg 2,.dec true,rg 3] [siA v,evtA e] [160,161,162] (siH v) (.tup [siV v,.p (.bool false)]) =
    some (zD [(NT 0 1),zE 96 [(zf16 v)] (zf17 v) ((zf110 v)),((true=true)→ (AN 1)),zE 31 [(zf16 v)] [] (.p (.bool true)),(AG (!!true)),(((!!true)=true)→(NT 0 1)),(((!true)=false)→ ((!!true)=true)),((bif !true then true else (↑v.2.1.1:Int)==20)=false),((e.1==1)=false),((e.1==2)=false),((e.1==3)=false),((e.1==4)=false),((!false)=true),(AI v.1.1.1),(AN 0),(AN v.1.1.2.1.1),(AN v.1.2.1.1),(AN v.2.1.1),(false=false),(AN 2),(NL v.1.1.2.1.1 v.1.1.2.1.1),(AA v.1.1.2.1.1 (fun i=>[.p (.int .i64 ((v.1.1.2.1.2 i).1)),.p (.int .i64 ((v.1.1.2.1.2 i).2.1))])),(AN 1),(NL v.1.2.1.1 v.1.2.1.1),(AA v.1.2.1.1 (fun i=>[.p (.int .i64 (v.1.2.1.2 i))])),(NL v.2.1.1 v.2.1.1),(AA v.2.1.1 (fun i=>[.p (.str (v.2.1.2 i))])),(AE v.1.1.2.1.1),(AE v.1.2.1.1),(AE v.2.1.1)] [0,1,0,2,0,3,4,5,4,4,6,7,0,0,2,0,8,9,10,11,12,0,0,2,0,13,14,15,14,16,14,17,18,19,20,21,22,23,24,22,25,26,27,28,29]):=by kernel_rfl
theorem aSy (v:T_Site) (e:T_Event) (b:Bool) :
    zS Tryz.f36 [rg 4,rm [(1,oc (siH v) (siV v))] 2,rm [(1,oc [] (.p (.bool b)))] 7,.dec true,rg 3] [siA v,evtA e] [160,161,162] (siH v) (.tup [siV v,.p (.bool false)]) =
    some (zD [(NT 0 1),zE 98 [(zf16 v)] (zf17 v) ((zf110 v)),((true=true)→ (AN 1)),zE 30 [(zf16 v)] [] (.p (.bool b)),(AG (!!b)),(((!!b)=true)→(NT 0 1)),(((!b)=false)→ ((!!b)=true)),((bif !b then true else decide ((↑v.2.1.1:Int)≥20))=true),(AI v.1.1.1),(AN 0),(AN v.1.1.2.1.1),(AN v.1.2.1.1),(AN v.2.1.1),(false=false),(AN 2),(NL v.1.1.2.1.1 v.1.1.2.1.1),(AA v.1.1.2.1.1 (fun i=>[.p (.int .i64 ((v.1.1.2.1.2 i).1)),.p (.int .i64 ((v.1.1.2.1.2 i).2.1))])),(AN 1),(NL v.1.2.1.1 v.1.2.1.1),(AA v.1.2.1.1 (fun i=>[.p (.int .i64 (v.1.2.1.2 i))])),(NL v.2.1.1 v.2.1.1),(AA v.2.1.1 (fun i=>[.p (.str (v.2.1.2 i))])),(AE v.1.1.2.1.1),(AE v.1.2.1.1),(AE v.2.1.1)] [0,1,0,2,0,3,4,5,4,4,6,7,0,0,2,0,8,9,10,9,11,9,12,13,14,15,16,17,18,19,17,20,21,22,23,24]):=by kernel_rfl
theorem aS1t (v:T_Site) (e:T_Event) (p:T_Pinned) (s:ByteArray) :
    zS Tryz.f36 [rg 4,rm [(1,oc (siH v) (siV v))] 2,rm [(1,oc [] (.p (.bool true)))] 7,.dec false,rg 2,rg 2,.dec true,rm [(8,oc (piH p) (.tup [piV p,.p (.bool true)]))] 6,rg 2,.dec false,rg 3,rm [(14,oc [] (.p (.str s)))] 5,rg 3] [siA v,evtA e] [928,929,1856] (siH (p,(v.2.1.1+1,snTx v.2.1.1 v.2.1.2 (kAdd++s)),())) (.tup [siV (p,(v.2.1.1+1,snTx v.2.1.1 v.2.1.2 (kAdd++s)),()),.p (.bool true)]) =
    some (zD [(NT 0 1),zE 98 [(zf16 v)] (zf17 v) ((zf110 v)),((true=true)→ (AN 1)),zE 30 [(zf16 v)] [] (.p (.bool true)),(AG (!!true)),(((!!true)=true)→(NT 0 1)),(((!true)=false)→ ((!!true)=true)),((bif !true then true else decide ((↑v.2.1.1:Int)≥20))=false),((e.1==1)=true),(AN 2),(NL 1 1),zE 19 [(zf20 v),.p (.seq true 2 1 (fun i=>[.int .i64 e.2.1,.int .i64 e.2.2.1]))] (zf31 p) ((zf111 p)),((!true)=false),zE 108 [.p (.seq true 2 1 (fun i=>[.int .i64 (if false=true then if e.2.2.1>e.2.1 then e.2.2.1 else e.2.1 else if e.2.2.1<e.2.1 then e.2.2.1 else e.2.1),.int .i64 (if true=true then if e.2.2.1>e.2.1 then e.2.2.1 else e.2.1 else if e.2.2.1<e.2.1 then e.2.2.1 else e.2.1)]))] [] (.p (.str s)),(NL ((ByteArray.mk #[97,100,100]).size+s.size) 9223372036854775807),(NL v.2.1.1 v.2.1.1),(NL ((v.2.1.1+1)*16) 140737488355328),(NL (v.2.1.1+1) 9223372036854775807),(AI p.1.1),(AN 0),(AN p.1.2.1.1),(AN p.2.1.1),(AN ((v.2.1.1+1))),(true=true),(NL p.1.2.1.1 p.1.2.1.1),(AA p.1.2.1.1 (fun i=>[.p (.int .i64 ((p.1.2.1.2 i).1)),.p (.int .i64 ((p.1.2.1.2 i).2.1))])),(AN 1),(NL p.2.1.1 p.2.1.1),(AA p.2.1.1 (fun i=>[.p (.int .i64 (p.2.1.2 i))])),(NL (v.2.1.1+1) (v.2.1.1+1)),(CV [(64,⟨true,4,1,(fun i_1=>[.p (.int .i64 p.1.1),.ar 2 928 0 p.1.2.1.1,.ar 1 929 0 p.2.1.1,.ar 1 1856 0 (v.2.1.1+1)])⟩),(192,⟨true,4,1,(fun i_1=>[.p (.int .i64 p.1.1),.ar 2 928 0 p.1.2.1.1,.ar 1 929 0 p.2.1.1,.ar 1 1856 0 (v.2.1.1+1)])⟩),(1856,⟨false,1,(v.2.1.1+1),(fun i_1=>(if (i_1<v.2.1.1) then [.p (.str (v.2.1.2 i_1))] else [.p (.str (ByteArray.mk #[97,100,100]++s))]))⟩),(1824,⟨false,1,1,(fun i_1=>[.p (.str (ByteArray.mk #[97,100,100]++s))])⟩),(1728,⟨false,2,1,(fun i_1=>[.p (.int .i64 (if false=true then if e.2.2.1>e.2.1 then e.2.2.1 else e.2.1 else if e.2.2.1<e.2.1 then e.2.2.1 else e.2.1)),.p (.int .i64 (if true=true then if e.2.2.1>e.2.1 then e.2.2.1 else e.2.1 else if e.2.2.1<e.2.1 then e.2.2.1 else e.2.1))])⟩),(1056,⟨true,3,1,(fun i_1=>[.p (.int .i64 p.1.1),.ar 2 928 0 p.1.2.1.1,.ar 1 929 0 p.2.1.1])⟩),(929,⟨false,1,p.2.1.1,(fun i_1=>[.p (.int .i64 (p.2.1.2 i_1))])⟩),(928,⟨false,2,p.1.2.1.1,(fun i_1=>[.p (.int .i64 ((p.1.2.1.2 i_1).1)),.p (.int .i64 ((p.1.2.1.2 i_1).2.1))])⟩),(896,⟨false,2,1,(fun i_1=>[.p (.int .i64 e.2.1),.p (.int .i64 e.2.2.1)])⟩),(161,⟨false,1,v.1.2.1.1,(fun i_1=>[.p (.int .i64 (v.1.2.1.2 i_1))])⟩),(160,⟨false,2,v.1.1.2.1.1,(fun i_1=>[.p (.int .i64 ((v.1.1.2.1.2 i_1).1)),.p (.int .i64 ((v.1.1.2.1.2 i_1).2.1))])⟩),(32,⟨true,3,1,(fun i_1=>[.p (.int .i64 e.1),.p (.int .i64 e.2.1),.p (.int .i64 e.2.2.1)])⟩),(0,⟨true,4,1,(fun i_1=>[.p (.int .i64 v.1.1.1),.p (.seq true 2 v.1.1.2.1.1 (fun i_2=>[.int .i64 ((v.1.1.2.1.2 i_2).1),.int .i64 ((v.1.1.2.1.2 i_2).2.1)])),.p (.seq true 1 v.1.2.1.1 (fun i_2=>[.int .i64 (v.1.2.1.2 i_2)])),.p (.seq true 1 v.2.1.1 (fun i_2=>[.str (v.2.1.2 i_2)]))])⟩)] [928,929,1856] 1 (v.2.1.1+1) (fun i=>if (i<v.2.1.1) then [.p (.str (v.2.1.2 i))] else [.p (.str (ByteArray.mk #[97,100,100]++s))]) (fun i=>[.p (.str ((v.2.1.1+1,snTx v.2.1.1 v.2.1.2 (kAdd++s)).2 i))])),(AE p.1.2.1.1),(AE p.2.1.1),(AE ((v.2.1.1+1)))] [0,1,0,2,0,3,4,5,4,4,6,7,0,8,0,0,0,9,10,11,0,2,12,0,0,2,0,0,0,0,0,9,10,13,14,10,15,16,17,0,2,0,0,2,0,18,19,20,19,21,19,22,23,9,24,25,26,27,28,26,29,30,31,32,33]):=by kernel_rfl
theorem aS1f (v:T_Site) (e:T_Event) (p:T_Pinned) :
    zS Tryz.f36 [rg 4,rm [(1,oc (siH v) (siV v))] 2,rm [(1,oc [] (.p (.bool true)))] 7,.dec false,rg 2,rg 2,.dec true,rm [(8,oc (piH p) (.tup [piV p,.p (.bool false)]))] 6,rg 2,.dec true,rg 3] [siA v,evtA e] [160,161,162] (siH v) (.tup [siV v,.p (.bool false)]) =
    some (zD [(NT 0 1),zE 98 [(zf16 v)] (zf17 v) ((zf110 v)),((true=true)→ (AN 1)),zE 30 [(zf16 v)] [] (.p (.bool true)),(AG (!!true)),(((!!true)=true)→(NT 0 1)),(((!true)=false)→ ((!!true)=true)),((bif !true then true else decide ((↑v.2.1.1:Int)≥20))=false),((e.1==1)=true),(AN 2),(NL 1 1),zE 19 [(zf20 v),.p (.seq true 2 1 (fun i=>[.int .i64 e.2.1,.int .i64 e.2.2.1]))] (zf31 p) (.tup [(zf120 p),.p (.bool false)]),((!false)=true),(AI v.1.1.1),(AN 0),(AN v.1.1.2.1.1),(AN v.1.2.1.1),(AN v.2.1.1),(false=false),(NL v.1.1.2.1.1 v.1.1.2.1.1),(AA v.1.1.2.1.1 (fun i=>[.p (.int .i64 ((v.1.1.2.1.2 i).1)),.p (.int .i64 ((v.1.1.2.1.2 i).2.1))])),(AN 1),(NL v.1.2.1.1 v.1.2.1.1),(AA v.1.2.1.1 (fun i=>[.p (.int .i64 (v.1.2.1.2 i))])),(NL v.2.1.1 v.2.1.1),(AA v.2.1.1 (fun i=>[.p (.str (v.2.1.2 i))])),(AE v.1.1.2.1.1),(AE v.1.2.1.1),(AE v.2.1.1)] [0,1,0,2,0,3,4,5,4,4,6,7,0,8,0,0,0,9,10,11,0,2,12,0,0,2,0,13,14,15,14,16,14,17,18,9,19,20,21,22,23,21,24,25,26,27,28]):=by kernel_rfl
theorem aS2t (v:T_Site) (e:T_Event) (p:T_Pinned) (s:ByteArray) (k:Int) :
    zS Tryz.f36 [rg 4,rm [(1,oc (siH v) (siV v))] 2,rm [(1,oc [] (.p (.bool true)))] 7,.dec false,rg 2,rg 2,.dec false,rg 2,.dec true,rm [(7,oc [] (.p (.int .i64 k)))] 1,rg 2,.dec false,rm [(3,oc (piH p) (piV p))] 2,rm [(10,oc [] (.p (.str s)))] 5,rg 3] [siA v,evtA e] [1184,1185,1696] (siH (p,(v.2.1.1+1,snTx v.2.1.1 v.2.1.2 (kBreak++s)),())) (.tup [siV (p,(v.2.1.1+1,snTx v.2.1.1 v.2.1.2 (kBreak++s)),()),.p (.bool true)]) =
    some (zD [(NT 0 1),zE 98 [(zf16 v)] (zf17 v) ((zf110 v)),((true=true)→ (AN 1)),zE 30 [(zf16 v)] [] (.p (.bool true)),(AG (!!true)),(((!!true)=true)→(NT 0 1)),(((!true)=false)→ ((!!true)=true)),((bif !true then true else decide ((↑v.2.1.1:Int)≥20))=false),((e.1==1)=false),((e.1==2)=true),zE 109 [(zf95 v),.p (.int .i64 e.2.1),.p (.int .i64 e.2.2.1)] [] (.p (.int .i64 k)),((decide (k<0))=false),zE 110 [(zf20 v),.p (.int .i64 k)] (zf31 p) ((zf120 p)),(IL 0 k),(IT k (↑v.1.1.2.1.1:Int)),(AN 2),(NL 1 1),zE 108 [.p (.seq true 2 1 (fun i=>[.int .i64 ((v.1.1.2.1.2 k.toNat).1),.int .i64 ((v.1.1.2.1.2 k.toNat).2.1)]))] [] (.p (.str s)),(NL ((ByteArray.mk #[98,114,101,97,107]).size+s.size) 9223372036854775807),(NL v.2.1.1 v.2.1.1),(NL ((v.2.1.1+1)*16) 140737488355328),(NL (v.2.1.1+1) 9223372036854775807),(AI p.1.1),(AN 0),(AN p.1.2.1.1),(AN p.2.1.1),(AN ((v.2.1.1+1))),(true=true),(NL p.1.2.1.1 p.1.2.1.1),(AA p.1.2.1.1 (fun i=>[.p (.int .i64 ((p.1.2.1.2 i).1)),.p (.int .i64 ((p.1.2.1.2 i).2.1))])),(AN 1),(NL p.2.1.1 p.2.1.1),(AA p.2.1.1 (fun i=>[.p (.int .i64 (p.2.1.2 i))])),(NL (v.2.1.1+1) (v.2.1.1+1)),(CV [(64,⟨true,4,1,(fun i_1=>[.p (.int .i64 p.1.1),.ar 2 1184 0 p.1.2.1.1,.ar 1 1185 0 p.2.1.1,.ar 1 1696 0 (v.2.1.1+1)])⟩),(192,⟨true,4,1,(fun i_1=>[.p (.int .i64 p.1.1),.ar 2 1184 0 p.1.2.1.1,.ar 1 1185 0 p.2.1.1,.ar 1 1696 0 (v.2.1.1+1)])⟩),(1696,⟨false,1,(v.2.1.1+1),(fun i_1=>(if (i_1<v.2.1.1) then [.p (.str (v.2.1.2 i_1))] else [.p (.str (ByteArray.mk #[98,114,101,97,107]++s))]))⟩),(1664,⟨false,1,1,(fun i_1=>[.p (.str (ByteArray.mk #[98,114,101,97,107]++s))])⟩),(1568,⟨false,2,1,(fun i_1=>[.p (.int .i64 ((v.1.1.2.1.2 k.toNat).1)),.p (.int .i64 ((v.1.1.2.1.2 k.toNat).2.1))])⟩),(1185,⟨false,1,p.2.1.1,(fun i_1=>[.p (.int .i64 (p.2.1.2 i_1))])⟩),(1184,⟨false,2,p.1.2.1.1,(fun i_1=>[.p (.int .i64 ((p.1.2.1.2 i_1).1)),.p (.int .i64 ((p.1.2.1.2 i_1).2.1))])⟩),(161,⟨false,1,v.1.2.1.1,(fun i_1=>[.p (.int .i64 (v.1.2.1.2 i_1))])⟩),(160,⟨false,2,v.1.1.2.1.1,(fun i_1=>[.p (.int .i64 ((v.1.1.2.1.2 i_1).1)),.p (.int .i64 ((v.1.1.2.1.2 i_1).2.1))])⟩),(32,⟨true,3,1,(fun i_1=>[.p (.int .i64 e.1),.p (.int .i64 e.2.1),.p (.int .i64 e.2.2.1)])⟩),(0,⟨true,4,1,(fun i_1=>[.p (.int .i64 v.1.1.1),.p (.seq true 2 v.1.1.2.1.1 (fun i_2=>[.int .i64 ((v.1.1.2.1.2 i_2).1),.int .i64 ((v.1.1.2.1.2 i_2).2.1)])),.p (.seq true 1 v.1.2.1.1 (fun i_2=>[.int .i64 (v.1.2.1.2 i_2)])),.p (.seq true 1 v.2.1.1 (fun i_2=>[.str (v.2.1.2 i_2)]))])⟩)] [1184,1185,1696] 1 (v.2.1.1+1) (fun i=>if (i<v.2.1.1) then [.p (.str (v.2.1.2 i))] else [.p (.str (ByteArray.mk #[98,114,101,97,107]++s))]) (fun i=>[.p (.str ((v.2.1.1+1,snTx v.2.1.1 v.2.1.2 (kBreak++s)).2 i))])),(AE p.1.2.1.1),(AE p.2.1.1),(AE ((v.2.1.1+1)))] [0,1,0,2,0,3,4,5,4,4,6,7,0,8,9,0,0,0,10,11,0,12,0,2,0,0,13,14,15,16,17,18,16,19,20,21,0,2,0,0,2,0,22,23,24,23,25,23,26,27,15,28,29,30,31,32,30,33,34,35,36,37]):=by kernel_rfl
theorem aS2f (v:T_Site) (e:T_Event) (k:Int) :
    zS Tryz.f36 [rg 4,rm [(1,oc (siH v) (siV v))] 2,rm [(1,oc [] (.p (.bool true)))] 7,.dec false,rg 2,rg 2,.dec false,rg 2,.dec true,rm [(7,oc [] (.p (.int .i64 k)))] 1,rg 2,.dec true,rg 3] [siA v,evtA e] [160,161,162] (siH v) (.tup [siV v,.p (.bool false)]) =
    some (zD [(NT 0 1),zE 98 [(zf16 v)] (zf17 v) ((zf110 v)),((true=true)→ (AN 1)),zE 30 [(zf16 v)] [] (.p (.bool true)),(AG (!!true)),(((!!true)=true)→(NT 0 1)),(((!true)=false)→ ((!!true)=true)),((bif !true then true else decide ((↑v.2.1.1:Int)≥20))=false),((e.1==1)=false),((e.1==2)=true),zE 109 [(zf95 v),.p (.int .i64 e.2.1),.p (.int .i64 e.2.2.1)] [] (.p (.int .i64 k)),((decide (k<0))=true),(AI v.1.1.1),(AN 0),(AN v.1.1.2.1.1),(AN v.1.2.1.1),(AN v.2.1.1),(false=false),(AN 2),(NL v.1.1.2.1.1 v.1.1.2.1.1),(AA v.1.1.2.1.1 (fun i=>[.p (.int .i64 ((v.1.1.2.1.2 i).1)),.p (.int .i64 ((v.1.1.2.1.2 i).2.1))])),(AN 1),(NL v.1.2.1.1 v.1.2.1.1),(AA v.1.2.1.1 (fun i=>[.p (.int .i64 (v.1.2.1.2 i))])),(NL v.2.1.1 v.2.1.1),(AA v.2.1.1 (fun i=>[.p (.str (v.2.1.2 i))])),(AE v.1.1.2.1.1),(AE v.1.2.1.1),(AE v.2.1.1)] [0,1,0,2,0,3,4,5,4,4,6,7,0,8,9,0,0,0,10,11,0,0,2,0,12,13,14,13,15,13,16,17,18,19,20,21,22,23,21,24,25,26,27,28]):=by kernel_rfl
theorem aS3t (v:T_Site) (e:T_Event) (s:ByteArray) :
    zS Tryz.f36 [rg 4,rm [(1,oc (siH v) (siV v))] 2,rm [(1,oc [] (.p (.bool true)))] 7,.dec false,rg 2,rg 2,.dec false,rg 2,.dec false,rg 2,.dec true,rg 8,.dec false,rm [(4,oc [] (.p (.str s)))] 4,rg 3] [siA v,evtA e] [160,161,1248] (siH (v.1,(v.2.1.1+1,snTx v.2.1.1 v.2.1.2 s),())) (.tup [siV (v.1,(v.2.1.1+1,snTx v.2.1.1 v.2.1.2 s),()),.p (.bool true)]) =
    some (zD [(NT 0 1),zE 98 [(zf16 v)] (zf17 v) ((zf110 v)),((true=true)→ (AN 1)),zE 30 [(zf16 v)] [] (.p (.bool true)),(AG (!!true)),(((!!true)=true)→(NT 0 1)),(((!true)=false)→ ((!!true)=true)),((bif !true then true else decide ((↑v.2.1.1:Int)≥20))=false),((e.1==1)=false),((e.1==2)=false),((e.1==3)=true),(AG (!e.2.1 != 0)),(((!e.2.1 != 0)=true)→(NT 0 1)),(((e.2.1 != 0)=false)→ ((!e.2.1 != 0)=true)),((bif e.2.1 != 0 then true else e.2.2.1 != 0)=false),zE 46 [(zf20 v)] [] (.p (.str s)),(NL 1 1),(NL v.2.1.1 v.2.1.1),(NL ((v.2.1.1+1)*16) 140737488355328),(NL (v.2.1.1+1) 9223372036854775807),(AI v.1.1.1),(AN 0),(AN v.1.1.2.1.1),(AN v.1.2.1.1),(AN ((v.2.1.1+1))),(true=true),(AN 2),(NL v.1.1.2.1.1 v.1.1.2.1.1),(AA v.1.1.2.1.1 (fun i=>[.p (.int .i64 ((v.1.1.2.1.2 i).1)),.p (.int .i64 ((v.1.1.2.1.2 i).2.1))])),(AN 1),(NL v.1.2.1.1 v.1.2.1.1),(AA v.1.2.1.1 (fun i=>[.p (.int .i64 (v.1.2.1.2 i))])),(NL (v.2.1.1+1) (v.2.1.1+1)),(CV [(64,⟨true,4,1,(fun i_1=>[.p (.int .i64 v.1.1.1),.ar 2 160 0 v.1.1.2.1.1,.ar 1 161 0 v.1.2.1.1,.ar 1 1248 0 (v.2.1.1+1)])⟩),(192,⟨true,4,1,(fun i_1=>[.p (.int .i64 v.1.1.1),.ar 2 160 0 v.1.1.2.1.1,.ar 1 161 0 v.1.2.1.1,.ar 1 1248 0 (v.2.1.1+1)])⟩),(1248,⟨false,1,(v.2.1.1+1),(fun i_1=>(if (i_1<v.2.1.1) then [.p (.str (v.2.1.2 i_1))] else [.p (.str s)]))⟩),(1216,⟨false,1,1,(fun i_1=>[.p (.str s)])⟩),(161,⟨false,1,v.1.2.1.1,(fun i_1=>[.p (.int .i64 (v.1.2.1.2 i_1))])⟩),(160,⟨false,2,v.1.1.2.1.1,(fun i_1=>[.p (.int .i64 ((v.1.1.2.1.2 i_1).1)),.p (.int .i64 ((v.1.1.2.1.2 i_1).2.1))])⟩),(32,⟨true,3,1,(fun i_1=>[.p (.int .i64 e.1),.p (.int .i64 e.2.1),.p (.int .i64 e.2.2.1)])⟩),(0,⟨true,4,1,(fun i_1=>[.p (.int .i64 v.1.1.1),.p (.seq true 2 v.1.1.2.1.1 (fun i_2=>[.int .i64 ((v.1.1.2.1.2 i_2).1),.int .i64 ((v.1.1.2.1.2 i_2).2.1)])),.p (.seq true 1 v.1.2.1.1 (fun i_2=>[.int .i64 (v.1.2.1.2 i_2)])),.p (.seq true 1 v.2.1.1 (fun i_2=>[.str (v.2.1.2 i_2)]))])⟩)] [160,161,1248] 1 (v.2.1.1+1) (fun i=>if (i<v.2.1.1) then [.p (.str (v.2.1.2 i))] else [.p (.str s)]) (fun i=>[.p (.str ((v.2.1.1+1,snTx v.2.1.1 v.2.1.2 s).2 i))])),(AE v.1.1.2.1.1),(AE v.1.2.1.1),(AE ((v.2.1.1+1)))] [0,1,0,2,0,3,4,5,4,4,6,7,0,8,9,10,0,11,12,11,13,14,0,0,15,16,17,18,19,0,2,0,0,2,0,20,21,22,21,23,21,24,25,26,27,28,29,30,31,29,32,33,34,35,36]):=by kernel_rfl
theorem aS3f (v:T_Site) (e:T_Event) :
    zS Tryz.f36 [rg 4,rm [(1,oc (siH v) (siV v))] 2,rm [(1,oc [] (.p (.bool true)))] 7,.dec false,rg 2,rg 2,.dec false,rg 2,.dec false,rg 2,.dec true,rg 8,.dec true,rg 3] [siA v,evtA e] [160,161,162] (siH v) (.tup [siV v,.p (.bool false)]) =
    some (zD [(NT 0 1),zE 98 [(zf16 v)] (zf17 v) ((zf110 v)),((true=true)→ (AN 1)),zE 30 [(zf16 v)] [] (.p (.bool true)),(AG (!!true)),(((!!true)=true)→(NT 0 1)),(((!true)=false)→ ((!!true)=true)),((bif !true then true else decide ((↑v.2.1.1:Int)≥20))=false),((e.1==1)=false),((e.1==2)=false),((e.1==3)=true),(AG (!e.2.1 != 0)),(((!e.2.1 != 0)=true)→(NT 0 1)),(((e.2.1 != 0)=false)→ ((!e.2.1 != 0)=true)),((bif e.2.1 != 0 then true else e.2.2.1 != 0)=true),(AI v.1.1.1),(AN 0),(AN v.1.1.2.1.1),(AN v.1.2.1.1),(AN v.2.1.1),(false=false),(AN 2),(NL v.1.1.2.1.1 v.1.1.2.1.1),(AA v.1.1.2.1.1 (fun i=>[.p (.int .i64 ((v.1.1.2.1.2 i).1)),.p (.int .i64 ((v.1.1.2.1.2 i).2.1))])),(AN 1),(NL v.1.2.1.1 v.1.2.1.1),(AA v.1.2.1.1 (fun i=>[.p (.int .i64 (v.1.2.1.2 i))])),(NL v.2.1.1 v.2.1.1),(AA v.2.1.1 (fun i=>[.p (.str (v.2.1.2 i))])),(AE v.1.1.2.1.1),(AE v.1.2.1.1),(AE v.2.1.1)] [0,1,0,2,0,3,4,5,4,4,6,7,0,8,9,10,0,11,12,11,13,14,0,0,2,0,15,16,17,16,18,16,19,20,21,22,23,24,25,26,24,27,28,29,30,31]):=by kernel_rfl
theorem aS4t (v:T_Site) (e:T_Event) (p:T_Pinned) (s:ByteArray) (n:Nat) (h:Nat→T_Bar) (b:Bool) :
    zS Tryz.f36 [rg 4,rm [(1,oc (siH v) (siV v))] 2,rm [(1,oc [] (.p (.bool true)))] 7,.dec false,rg 2,rg 2,.dec false,rg 2,.dec false,rg 2,.dec false,rg 2,.dec true,rm [(2,oc [(0,brOb n h)] (.tup [.ar 2 0 0 n,.p (.bool b)]))] 5,rg 12,.dec false,rm [(3,oc (piH p) (.tup [piV p,.p (.bool true)]))] 5,rm [(3,oc [] (.p (.str s)))] 5,rg 3] [siA v,evtA e] [1600,1601,1984] (siH (p,(v.2.1.1+1,snTx v.2.1.1 v.2.1.2 (kRepair++s)),())) (.tup [siV (p,(v.2.1.1+1,snTx v.2.1.1 v.2.1.2 (kRepair++s)),()),.p (.bool true)]) =
    some (zD [(NT 0 1),zE 98 [(zf16 v)] (zf17 v) ((zf110 v)),((true=true)→ (AN 1)),zE 30 [(zf16 v)] [] (.p (.bool true)),(AG (!!true)),(((!!true)=true)→(NT 0 1)),(((!true)=false)→ ((!!true)=true)),((bif !true then true else decide ((↑v.2.1.1:Int)≥20))=false),((e.1==1)=false),((e.1==2)=false),((e.1==3)=false),((e.1==4)=true),zE 9 [(zf20 v)] (zf113 n h) (.tup [.ar 2 0 0 n,.p (.bool b)]),(AG (!!b)),(((!!b)=true)→(NT 0 1)),(((!b)=false)→ ((!!b)=true)),(AG (!bif !b then true else e.2.1 != 0)),(((!bif !b then true else e.2.1 != 0)=true)→(NT 0 1)),(((bif !b then true else e.2.1 != 0)=false)→ ((!bif !b then true else e.2.1 != 0)=true)),((bif bif !b then true else e.2.1 != 0 then true else e.2.2.1 != 0)=false),(AN 2),(NL n n),zE 19 [(zf20 v),.p (.seq true 2 n (bRw h))] (zf31 p) ((zf111 p)),zE 108 [.p (.seq true 2 n (bRw h))] [] (.p (.str s)),(NL ((ByteArray.mk #[114,101,112,97,105,114]).size+s.size) 9223372036854775807),(NL 1 1),(NL v.2.1.1 v.2.1.1),(NL ((v.2.1.1+1)*16) 140737488355328),(NL (v.2.1.1+1) 9223372036854775807),(AI p.1.1),(AN 0),(AN p.1.2.1.1),(AN p.2.1.1),(AN ((v.2.1.1+1))),(true=true),(NL p.1.2.1.1 p.1.2.1.1),(AA p.1.2.1.1 (fun i=>[.p (.int .i64 ((p.1.2.1.2 i).1)),.p (.int .i64 ((p.1.2.1.2 i).2.1))])),(AN 1),(NL p.2.1.1 p.2.1.1),(AA p.2.1.1 (fun i=>[.p (.int .i64 (p.2.1.2 i))])),(NL (v.2.1.1+1) (v.2.1.1+1)),(CV [(64,⟨true,4,1,(fun i_1=>[.p (.int .i64 p.1.1),.ar 2 1600 0 p.1.2.1.1,.ar 1 1601 0 p.2.1.1,.ar 1 1984 0 (v.2.1.1+1)])⟩),(192,⟨true,4,1,(fun i_1=>[.p (.int .i64 p.1.1),.ar 2 1600 0 p.1.2.1.1,.ar 1 1601 0 p.2.1.1,.ar 1 1984 0 (v.2.1.1+1)])⟩),(1984,⟨false,1,(v.2.1.1+1),(fun i_1=>(if (i_1<v.2.1.1) then [.p (.str (v.2.1.2 i_1))] else [.p (.str (ByteArray.mk #[114,101,112,97,105,114]++s))]))⟩),(1952,⟨false,1,1,(fun i_1=>[.p (.str (ByteArray.mk #[114,101,112,97,105,114]++s))])⟩),(1601,⟨false,1,p.2.1.1,(fun i_1=>[.p (.int .i64 (p.2.1.2 i_1))])⟩),(1600,⟨false,2,p.1.2.1.1,(fun i_1=>[.p (.int .i64 ((p.1.2.1.2 i_1).1)),.p (.int .i64 ((p.1.2.1.2 i_1).2.1))])⟩),(928,⟨false,2,n,(fun i_1=>[.p (.int .i64 ((h i_1).1)),.p (.int .i64 ((h i_1).2.1))])⟩),(161,⟨false,1,v.1.2.1.1,(fun i_1=>[.p (.int .i64 (v.1.2.1.2 i_1))])⟩),(160,⟨false,2,v.1.1.2.1.1,(fun i_1=>[.p (.int .i64 ((v.1.1.2.1.2 i_1).1)),.p (.int .i64 ((v.1.1.2.1.2 i_1).2.1))])⟩),(32,⟨true,3,1,(fun i_1=>[.p (.int .i64 e.1),.p (.int .i64 e.2.1),.p (.int .i64 e.2.2.1)])⟩),(0,⟨true,4,1,(fun i_1=>[.p (.int .i64 v.1.1.1),.p (.seq true 2 v.1.1.2.1.1 (fun i_2=>[.int .i64 ((v.1.1.2.1.2 i_2).1),.int .i64 ((v.1.1.2.1.2 i_2).2.1)])),.p (.seq true 1 v.1.2.1.1 (fun i_2=>[.int .i64 (v.1.2.1.2 i_2)])),.p (.seq true 1 v.2.1.1 (fun i_2=>[.str (v.2.1.2 i_2)]))])⟩)] [1600,1601,1984] 1 (v.2.1.1+1) (fun i=>if (i<v.2.1.1) then [.p (.str (v.2.1.2 i))] else [.p (.str (ByteArray.mk #[114,101,112,97,105,114]++s))]) (fun i=>[.p (.str ((v.2.1.1+1,snTx v.2.1.1 v.2.1.2 (kRepair++s)).2 i))])),(AE p.1.2.1.1),(AE p.2.1.1),(AE ((v.2.1.1+1)))] [0,1,0,2,0,3,4,5,4,4,6,7,0,8,9,10,11,0,12,13,14,13,15,16,17,16,18,19,0,20,21,22,0,2,0,20,21,23,24,25,26,27,28,0,2,0,0,2,0,29,30,31,30,32,30,33,34,20,35,36,37,38,39,37,40,41,42,43,44]):=by kernel_rfl
theorem aS4f (v:T_Site) (e:T_Event) (n:Nat) (h:Nat→T_Bar) (b:Bool) :
    zS Tryz.f36 [rg 4,rm [(1,oc (siH v) (siV v))] 2,rm [(1,oc [] (.p (.bool true)))] 7,.dec false,rg 2,rg 2,.dec false,rg 2,.dec false,rg 2,.dec false,rg 2,.dec true,rm [(2,oc [(0,brOb n h)] (.tup [.ar 2 0 0 n,.p (.bool b)]))] 5,rg 12,.dec true,rg 3] [siA v,evtA e] [160,161,162] (siH v) (.tup [siV v,.p (.bool false)]) =
    some (zD [(NT 0 1),zE 98 [(zf16 v)] (zf17 v) ((zf110 v)),((true=true)→ (AN 1)),zE 30 [(zf16 v)] [] (.p (.bool true)),(AG (!!true)),(((!!true)=true)→(NT 0 1)),(((!true)=false)→ ((!!true)=true)),((bif !true then true else decide ((↑v.2.1.1:Int)≥20))=false),((e.1==1)=false),((e.1==2)=false),((e.1==3)=false),((e.1==4)=true),zE 9 [(zf20 v)] (zf113 n h) (.tup [.ar 2 0 0 n,.p (.bool b)]),(AG (!!b)),(((!!b)=true)→(NT 0 1)),(((!b)=false)→ ((!!b)=true)),(AG (!bif !b then true else e.2.1 != 0)),(((!bif !b then true else e.2.1 != 0)=true)→(NT 0 1)),(((bif !b then true else e.2.1 != 0)=false)→ ((!bif !b then true else e.2.1 != 0)=true)),((bif bif !b then true else e.2.1 != 0 then true else e.2.2.1 != 0)=true),(AI v.1.1.1),(AN 0),(AN v.1.1.2.1.1),(AN v.1.2.1.1),(AN v.2.1.1),(false=false),(AN 2),(NL v.1.1.2.1.1 v.1.1.2.1.1),(AA v.1.1.2.1.1 (fun i=>[.p (.int .i64 ((v.1.1.2.1.2 i).1)),.p (.int .i64 ((v.1.1.2.1.2 i).2.1))])),(AN 1),(NL v.1.2.1.1 v.1.2.1.1),(AA v.1.2.1.1 (fun i=>[.p (.int .i64 (v.1.2.1.2 i))])),(NL v.2.1.1 v.2.1.1),(AA v.2.1.1 (fun i=>[.p (.str (v.2.1.2 i))])),(AE v.1.1.2.1.1),(AE v.1.2.1.1),(AE v.2.1.1)] [0,1,0,2,0,3,4,5,4,4,6,7,0,8,9,10,11,0,12,13,14,13,15,16,17,16,18,19,0,0,2,0,20,21,22,21,23,21,24,25,26,27,28,29,30,31,29,32,33,34,35,36]):=by kernel_rfl
theorem aS5 (v:T_Site) (e:T_Event) :
    zS Tryz.f36 [rg 4,rm [(1,oc (siH v) (siV v))] 2,rm [(1,oc [] (.p (.bool true)))] 7,.dec false,rg 2,rg 2,.dec false,rg 2,.dec false,rg 2,.dec false,rg 2,.dec false,rg 3] [siA v,evtA e] [160,161,162] (siH v) (.tup [siV v,.p (.bool false)]) =
    some (zD [(NT 0 1),zE 98 [(zf16 v)] (zf17 v) ((zf110 v)),((true=true)→ (AN 1)),zE 30 [(zf16 v)] [] (.p (.bool true)),(AG (!!true)),(((!!true)=true)→(NT 0 1)),(((!true)=false)→ ((!!true)=true)),((bif !true then true else decide ((↑v.2.1.1:Int)≥20))=false),((e.1==1)=false),((e.1==2)=false),((e.1==3)=false),((e.1==4)=false),(AI v.1.1.1),(AN 0),(AN v.1.1.2.1.1),(AN v.1.2.1.1),(AN v.2.1.1),(false=false),(AN 2),(NL v.1.1.2.1.1 v.1.1.2.1.1),(AA v.1.1.2.1.1 (fun i=>[.p (.int .i64 ((v.1.1.2.1.2 i).1)),.p (.int .i64 ((v.1.1.2.1.2 i).2.1))])),(AN 1),(NL v.1.2.1.1 v.1.2.1.1),(AA v.1.2.1.1 (fun i=>[.p (.int .i64 (v.1.2.1.2 i))])),(NL v.2.1.1 v.2.1.1),(AA v.2.1.1 (fun i=>[.p (.str (v.2.1.2 i))])),(AE v.1.1.2.1.1),(AE v.1.2.1.1),(AE v.2.1.1)] [0,1,0,2,0,3,4,5,4,4,6,7,0,8,9,10,11,0,0,2,0,12,13,14,13,15,13,16,17,18,19,20,21,22,23,21,24,25,26,27,28]):=by kernel_rfl
theorem vSs (v:T_Site) (b:Bool) :
    zS Tryz.f30 [rg 2,rm [(2,oc [] (.p (.bool b)))] 7] [siA v] [] [] (.p (.bool (bif b then decide ((v.2.1.1:Int)≤20) else false))) =
    some [(NT 0 1),zE 77 [(zf20 v)] [] (.p (.bool b)),(AG b),((b=true)→(NT 0 1)),(AG b),(AG b),(AG b),((bif b then decide ((↑v.2.1.1:Int)≤20) else false)=(bif b then decide ((↑v.2.1.1:Int)≤20) else false))]:=by kernel_rfl
theorem vSi (v:T_Site) (b:Bool) :
    zS Tryz.f31 [rg 2,rm [(2,oc [] (.p (.bool b)))] 7] [siA v] [] [] (.p (.bool (bif b then decide ((v.2.1.1:Int)≤20) else false))) =
    some [(NT 0 1),zE 73 [(zf20 v)] [] (.p (.bool b)),(AG b),((b=true)→(NT 0 1)),(AG b),(AG b),(AG b),((bif b then decide ((↑v.2.1.1:Int)≤20) else false)=(bif b then decide ((↑v.2.1.1:Int)≤20) else false))]:=by kernel_rfl
def weB (w:ByteArray) (l:T_BarS):Nat→ByteArray
  | 0=>w
  | k+1=>(weB w l k++kBlank)++enB (l.2 k)
def bsB (l:T_BarS):Nat→ByteArray
  | 0=>⟨#[]⟩
  | k+1=>(((bsB l k++kBlank)++fmtI (l.2 k).1)++kDash)++fmtI (l.2 k).2.1
theorem kBlank_z:(ByteArray.mk #[32]).size=1:=rfl
theorem weB_size (w:ByteArray) (l:T_BarS):∀ k,(weB w l k).size≤w.size+44*k
  | 0=>Nat.le_refl _
  | k+1=>by
    have:=weB_size w l k
    have:=enB_size (l.2 k)
    simp only [weB,ByteArray.size_append,show kBlank.size=1 from rfl]
    omega
theorem bsB_size (l:T_BarS):∀ k,(bsB l k).size≤44*k
  | 0=>Nat.le_refl _
  | k+1=>by
    have:=bsB_size l k
    have h1:=fmt_size (l.2 k).1
    have h2:=fmt_size (l.2 k).2.1
    simp only [bsB,ByteArray.size_append,show kBlank.size=1 from rfl,show kDash.size=1 from rfl]
    omega
theorem enB_le {x:T_Bar} (h:x.1≤x.2.1):enB x=(fmtI x.1++kDash)++fmtI x.2.1:=by
  unfold enB
  by_cases e:x.1=x.2.1
  · rw [if_neg (by omega),if_neg (by omega),e]
  · rw [if_neg (by omega),if_pos (by omega)]
theorem enB_brX (a b:Int):enB (brX a b)=enB (a,b,()):=by
  unfold enB brX
  simp only
  by_cases h:b<a
  · rw [if_pos h,if_neg (show ¬ b>a by omega),if_neg (show ¬ a<b by omega),if_pos (show a>b by omega)]
  · by_cases h2:b>a
    · rw [if_neg h,if_pos h2,if_neg (show ¬ b<a by omega),if_pos (show b>a by omega)]
    · rw [if_neg h,if_neg h2,if_neg (show ¬ a<a by omega)]
theorem we_bs (w:ByteArray) (l:T_BarS):∀ k,(∀ i,i<k→(l.2 i).1≤(l.2 i).2.1)→weB w l k=w++bsB l k
  | 0,_=>(ByteArray.append_empty).symm
  | k+1,h=>by
    rw [weB,we_bs w l k (fun i hi=>h i (by omega)),enB_le (h k (by omega)),bsB]
    simp only [ByteArray.append_assoc]
def InI (x:Int):Prop:=-9223372036854775808≤x∧x≤9223372036854775807
theorem con_withEnds (w:ByteArray) (l:T_BarS) (hl:l.1≤1000) (hw:w.size≤100) (hi:∀ i,i<l.1→InI (l.2 i).1∧InI (l.2 i).2.1) :
    zE 104 [.p (.str w),graphL l] [] (.p (.str (weB w l l.1))):=by
  refine csZ Tryz.func104 (fun c hc=>?_)
  generalize hR:weB w l l.1=R
  have lo:∀ d k,k+d=l.1→zR c 104 zf90 (SVw l k (weB w l k)) (Post c [] (.p (.str R))):=by
    intro d
    induction d with
    | zero =>
      intro k hk
      obtain rfl:k=l.1:=by omega
      have hd:decide ((l.1:Int)<(l.1:Int))=false:=by simp
      rw [hR]
      refine pkZ Tryz.func104 hc (vWe l l.1 R) ?_
      and_intros
      all_goals (first | exact zN | (exact hd))
    | succ d ih =>
      intro k hk
      have hrec:=ih (k+1) (by omega)
      have hd:decide ((k:Int)<(l.1:Int))=true:=decide_eq_true (by omega)
      have hz:=weB_size w l k
      have hz2:=enB_size (l.2 k)
      have ce:=con_ends (l.2 k) (hi k (by omega)).1 (hi k (by omega)).2
      rw [weB] at hrec
      generalize weB w l k=s at *
      generalize enB (l.2 k)=t at *
      refine pcD hc (vWa l k s t) ?_ hrec
      and_intros
      all_goals (first | exact zI | (exact hd) | (exact ce) | (simp only [ByteArray.size_append,kBlank_z];omega) | (intros;simp [All];done))
  refine pcD hc (vWz l w) ?_ (lo l.1 0 (by omega))
  and_intros
  all_goals (first | exact zN | (intros;simp [All];done))
theorem con_l31Bars (l:T_BarS) (hl:l.1≤1000) (hi:∀ i,i<l.1→InI (l.2 i).1∧InI (l.2 i).2.1) :
    zE 108 [graphL l] [] (.p (.str (bsB l l.1))):=by
  refine csZ Tryz.func108 (fun c hc=>?_)
  generalize hR:bsB l l.1=R
  have lo:∀ d k,k+d=l.1→zR c 108 zf66 (SVb l k (bsB l k)) (Post c [] (.p (.str R))):=by
    intro d
    induction d with
    | zero =>
      intro k hk
      obtain rfl:k=l.1:=by omega
      have hd:decide ((l.1:Int)<(l.1:Int))=false:=by simp
      rw [hR]
      refine pkZ Tryz.func108 hc (vBe l l.1 R) ?_
      and_intros
      all_goals (first | exact zN | (exact hd))
    | succ d ih =>
      intro k hk
      have hrec:=ih (k+1) (by omega)
      have hd:decide ((k:Int)<(l.1:Int))=true:=decide_eq_true (by omega)
      have hz:=bsB_size l k
      have h1:=fmt_size (l.2 k).1
      have h2:=fmt_size (l.2 k).2.1
      have c1:=con_FormatInt_s (l.2 k).1 (hi k (by omega)).1.1 (hi k (by omega)).1.2
      have c2:=con_FormatInt_s (l.2 k).2.1 (hi k (by omega)).2.1 (hi k (by omega)).2.2
      rw [bsB] at hrec
      generalize bsB l k=s at *
      generalize fmtI (l.2 k).1=t at *
      generalize fmtI (l.2 k).2.1=u at *
      refine pcZ hc (vBa l k s t u) ?_ hrec
      and_intros
      all_goals (first | exact zN | (exact hd) | (exact c1) | (exact c2) | (simp only [ByteArray.size_append,kBlank_z,kDash_z];omega) | (intros;simp [All];done))
  refine pcZ hc (vBz l) ?_ (lo l.1 0 (by omega))
  and_intros
  all_goals (first | exact zN | (intros;simp [All];done))
def siteF (v:T_Site):Bool:=bif pinnedF v.1 then decide ((v.2.1.1:Int)≤20) else false
theorem con_IsSite_s (v:T_Site) (hs:smS s_Site v):zE 30 [siA v] [] (.p (.bool (siteF v))):=by
  refine csZ Tryz.func30 (fun c hc=>?_)
  refine pkZ Tryz.func30 hc (vSs v (pinnedF v.1)) ?_
  and_intros
  all_goals (first | exact zI | (exact con_IsPinned_s v.1 hs.1) | (simp [siteF]))
theorem con_IsSite_i (v:T_Site) (hs:smS s_Site v):zE 31 [siA v] [] (.p (.bool (siteF v))):=by
  refine csZ Tryz.func31 (fun c hc=>?_)
  refine pkZ Tryz.func31 hc (vSi v (pinnedF v.1)) ?_
  and_intros
  all_goals (first | exact zI | (exact con_IsPinned_i v.1 hs.1) | (simp [siteF]))
theorem con_copySite (v:T_Site) (hs:smS s_Site v):zE 96 [siA v] (siH v) (siV v):=by
  have hn:=hs.2.1.1
  have hn':v.2.1.1≤1048576:=hn
  refine csZ Tryz.func96 (fun c hc=>?_)
  refine pkZ Tryz.func96 hc (vCi v) ?_
  and_intros
  all_goals (first | exact zI | (exact con_copyPinned v.1 hs.1) | (intros;simp [All];done) | (intro t ht;simp [cvtL,cvt,tg,tru,All];done) | (intros;simp [All,ntAL,ntA,ntP,ntL];done))
theorem con_l31Copy (v:T_Site) (hs:smS s_Site v):zE 98 [siA v] (siH v) (siV v):=by
  have hn:=hs.2.1.1
  have hn':v.2.1.1≤1048576:=hn
  have h1:v.1.1.2.1.1≤1048576:=hs.1.1.2.1.1
  have h2:v.1.2.1.1≤1048576:=hs.1.2.1.1
  refine csZ Tryz.func98 (fun c hc=>?_)
  refine pkZ Tryz.func98 hc (vCs v) ?_
  and_intros
  all_goals (first | exact zI | (exact con_l2Copy v.1.1 h1) | (intros;simp [All];done) | (intro t ht;simp [cvtL,cvt,tg,tru,All];done) | (intros;simp [All,ntAL,ntA,ntP,ntL];done))
def OkB (N:Int) (x:T_Bar):Prop:=0≤x.1∧x.1<x.2.1∧x.2.1<N
theorem sn_all {P:T_Bar→Prop} {r:NB} {x:T_Bar} (h:∀ i,i<r.1→P (r.2 i)) (hx:P x):∀ i,i<(sn r x).1→P ((sn r x).2 i):=by
  intro i hi
  show P (snoc r.1 r.2 x i)
  by_cases h':i<r.1
  · rw [snoc_lt h'];exact h i h'
  · rw [snoc_ge h'];exact hx
theorem msI_all (v:T_Graph) (a:Nat) (r:NB) (h:∀ i,i<r.1→OkB v.1 (r.2 i)):∀ j,a+j<v.1.toNat→∀ i,i<(msI v a r j).1→OkB v.1 ((msI v a r j).2 i)
  | 0,_=>h
  | j+1,hj=>by
    have ih:=msI_all v a r h j (by omega)
    simp only [msI]
    split
    · exact sn_all ih ⟨by simp only;omega,by simp only;omega,by simp only;omega⟩
    · exact ih
theorem msO_all (v:T_Graph):∀ a,a≤v.1.toNat→∀ i,i<(msO v a).1→OkB v.1 ((msO v a).2 i)
  | 0,_=>fun i hi=>absurd hi (Nat.not_lt_zero _)
  | a+1,ha=>by
    simp only [msO]
    exact msI_all v a (msO v a) (msO_all v a (by omega)) _ (by omega)
theorem msP_all (v:T_Graph):∀ i,i<(msP v).1→OkB v.1 ((msP v).2 i):=by
  unfold msP
  split
  · exact msO_all v _ (Nat.le_refl _)
  · exact fun i hi=>absurd hi (Nat.not_lt_zero _)
theorem adD_all {P:T_Bar→Prop} (p:T_Pinned) (s:Nat→T_Bar):∀ k,(∀ i,i<k→P (s i))→∀ i,i<(adD p s k).2.1→P ((adD p s k).2.2 i)
  | 0,_=>fun i hi=>absurd hi (Nat.not_lt_zero _)
  | k+1,h=>by
    have ih:=adD_all p s k (fun i hi=>h i (by omega))
    simp only [adD]
    split
    · exact sn_all ih (h k (by omega))
    · exact ih
theorem rbL_all (p:T_Pinned):∀ i,i<(rbL p).1→OkB p.1.1 ((rbL p).2 i):=by
  unfold rbL
  split
  · exact adD_all p _ _ (msP_all p.1)
  · exact fun i hi=>absurd hi (Nat.not_lt_zero _)
theorem rbB_ok {p:T_Pinned} (h:rbB p=true):pinnedF p=true∧arB p (rbL p)=true:=by
  have hp:pinnedF p=true:=by
    cases hh:pinnedF p with
    | true=>rfl
    | false=>rw [rbB,hh] at h;cases h
  refine ⟨hp,?_⟩
  rw [rbL,if_pos h]
  exact (ad_arD hp (adD_ok p hp (msP p.1).2 (msP p.1).1)).1
def evL (e:T_Event):T_BarS:=(1,fun _=>(e.2.1,e.2.2.1,()))
def evS (v:T_Site) (p:T_Pinned) (s:ByteArray):T_Site:=(p,(v.2.1.1+1,snTx v.2.1.1 v.2.1.2 s),())
def evK (v:T_Site) (e:T_Event):Int:=ixI v.1.1.2.1.2 (brX e.2.1 e.2.2.1) v.1.1.2.1.1 0
noncomputable def evR (v:T_Site) (e:T_Event):T_Site×Bool :=
  if siteF v=true∧v.2.1.1<20 then
    (if e.1=1 then (if arB v.1 (evL e)=true then (evS v (arP v.1 (evL e)) (weB kAdd (evL e) 1),true) else (v,false))
    else if e.1=2 then (if 0≤evK v e then (evS v (woP v.1 (evK v e).toNat) (weB kBreak (evL e) 1),true) else (v,false))
    else if e.1=3 then (if e.2.1=0∧e.2.2.1=0 then (evS v v.1 (ilB v.1),true) else (v,false))
    else if e.1=4 then (if rbB v.1=true∧e.2.1=0∧e.2.2.1=0 then (evS v (arP v.1 (rbL v.1)) (weB kRepair (rbL v.1) (rbL v.1).1),true) else (v,false))
    else (v,false))
  else (v,false)
def okE (e:T_Event):Prop:=InI e.1∧InI e.2.1∧InI e.2.2.1
theorem site_in {v:T_Site} (h:siteF v=true∧v.2.1.1<20):pinnedF v.1=true:=by
  have:=h.1
  unfold siteF at this
  cases hp:pinnedF v.1 with
  | true=>rfl
  | false=>rw [hp] at this;cases this
theorem site_dec1 (v:T_Site):(bif !siteF v then true else (v.2.1.1:Int)==20)=!decide (siteF v=true∧v.2.1.1<20):=by
  cases hs:siteF v with
  | false=>simp
  | true =>
    have h20:(v.2.1.1:Int)≤20:=by
      unfold siteF at hs
      cases hp:pinnedF v.1 with
      | false=>rw [hp] at hs;cases hs
      | true=>rw [hp] at hs;simpa using hs
    by_cases h:v.2.1.1<20
    · have:((v.2.1.1:Int)==20)=false:=beq_eq_false_iff_ne.2 (by omega)
      simp [h,this]
    · have:((v.2.1.1:Int)==20)=true:=beq_iff_eq.2 (by omega)
      simp [h,this]
theorem site_dec2 (v:T_Site):(bif !siteF v then true else decide ((v.2.1.1:Int)≥20))=!decide (siteF v=true∧v.2.1.1<20):=by
  cases hs:siteF v with
  | false=>simp
  | true =>
    by_cases h:v.2.1.1<20
    · simp [h,show ¬ (20:Int)≤v.2.1.1 by omega]
    · simp [h,show (20:Int)≤v.2.1.1 by omega]
theorem kAdd_z:(ByteArray.mk #[97,100,100]).size=3:=rfl
theorem kBreak_z:(ByteArray.mk #[98,114,101,97,107]).size=5:=rfl
theorem kRepair_z:(ByteArray.mk #[114,101,112,97,105,114]).size=6:=rfl
theorem con_Apply_i (v:T_Site) (hs:smS s_Site v) (e:T_Event) (he:okE e):zE 35 [siA v,evtA e] (siH (evR v e).1) (.tup [siV (evR v e).1,.p (.bool (evR v e).2)]):=by
  have hn:v.2.1.1≤1048576:=hs.2.1.1
  have h1:v.1.1.2.1.1≤1048576:=hs.1.1.2.1.1
  have h2:v.1.2.1.1≤1048576:=hs.1.2.1.1
  have cc:=con_copySite v hs
  have ci:=con_IsSite_i v hs
  have hd:=site_dec1 v
  refine csZ Tryz.func35 (fun c hc=>?_)
  by_cases hok:siteF v=true∧v.2.1.1<20
  · have hp:=site_in hok
    have hps:=sm_pinnedD hp
    rw [decide_eq_true hok,hok.1] at hd
    rw [hok.1] at ci
    have hd':(bif !true then true else (v.2.1.1:Int)==20)=false:=hd
    have cl:=con_withEnds kAdd (evL e) (by show 1≤1000;omega) (by show 3≤100;omega) (fun i hi=>⟨he.2.1,he.2.2⟩)
    have cb:=con_withEnds kBreak (evL e) (by show 1≤1000;omega) (by show 5≤100;omega) (fun i hi=>⟨he.2.1,he.2.2⟩)
    by_cases k1:e.1=1
    · have d1:(e.1==1)=true:=beq_iff_eq.2 k1
      have ca:=con_ApplyRepair_i v.1 hs.1 (evL e) (by show 1≤1048576;omega)
      have hE:evR v e=if arB v.1 (evL e)=true then (evS v (arP v.1 (evL e)) (weB kAdd (evL e) 1),true) else (v,false):=by simp [evR,hok,k1]
      rw [hE]
      cases hb:arB v.1 (evL e) with
      | true =>
        rw [hb] at ca
        rw [if_pos rfl]
        have cp:=con_copyPinned (arP v.1 (evL e)) (sm_arP _ _)
        generalize arP v.1 (evL e)=p at *
        refine pkD Tryz.func35 hc (aI1t v e p (weB kAdd (evL e) 1)) ?_
        and_intros
        all_goals (first | exact zH | (exact cc) | (exact ci) | (exact hd') | (exact d1) | (exact ca) | (exact cl) | (exact cp) | (intros;simp [All];done) | (intro t ht;by_cases h':t<v.2.1.1<;>simp [h',snTx,cvtL,cvt,tg,tru,All];done) | (intros;simp [All,ntAL,ntA,ntP,ntL];done))
      | false =>
        rw [hb] at ca
        rw [if_neg (by simp)]
        refine pkD Tryz.func35 hc (aI1f v e (arP v.1 (evL e)) (weB kAdd (evL e) 1)) ?_
        and_intros
        all_goals (first | exact zH | (exact cc) | (exact ci) | (exact hd') | (exact d1) | (exact ca) | (exact cl) | (intros;simp [All];done) | (intros;simp [All,ntAL,ntA,ntP,ntL];done))
    have d1:(e.1==1)=false:=beq_eq_false_iff_ne.2 k1
    by_cases k2:e.1=2
    · have d2:(e.1==2)=true:=beq_iff_eq.2 k2
      have cx:=con_barX e.2.1 e.2.2.1
      have ck:=con_IndexB v.1.1 (brX e.2.1 e.2.2.1) h1
      have hE:evR v e=if 0≤evK v e then (evS v (woP v.1 (evK v e).toNat) (weB kBreak (evL e) 1),true) else (v,false):=by simp [evR,hok,k2]
      rw [hE]
      have hin:=ixI_in v.1.1.2.1.2 (brX e.2.1 e.2.2.1) v.1.1.2.1.1 0
      change evK v e = -1∨((0:Nat):Int)≤evK v e∧evK v e<((0:Nat):Int)+v.1.1.2.1.1∧_ at hin
      change Con _ _ _ _ _ _ (.p (.int .i64 (evK v e))) at ck
      by_cases hk:0≤evK v e
      · rw [if_pos hk]
        have cw:=con_withoutBar v.1 hp (evK v e).toNat (by omega)
        rw [show (((evK v e).toNat:Nat):Int)=evK v e by omega] at cw
        have cp:=con_copyPinned (woP v.1 (evK v e).toNat) (sm_wo hp _)
        have hkd:decide (evK v e≥0)=true:=decide_eq_true hk
        generalize hwp:woP v.1 (evK v e).toNat=p at *
        have hp1:p.1.1=v.1.1.1:=by rw [← hwp];rfl
        have hp2:p.2=v.1.2:=by rw [← hwp];rfl
        have cw':zE 107 [pinA v.1,.p (.int .i64 (evK v e))] (piH p) (piV p):=by
          show Con _ _ _ _ _ [(0,brOb p.1.2.1.1 p.1.2.1.2),(1,iOb p.2.1.1 p.2.1.2)] (.agg [.p (.int .i64 p.1.1),.ar 2 0 0 p.1.2.1.1,.ar 1 1 0 p.2.1.1])
          rw [hp1,hp2];exact cw
        refine pkD Tryz.func35 hc (aI2t v e p (weB kBreak (evL e) 1) (brX e.2.1 e.2.2.1) (evK v e)) ?_
        and_intros
        all_goals (first | exact zH | (exact cc) | (exact ci) | (exact hd') | (exact d1) | (exact d2) | (exact cx) | (exact ck) | (exact hkd) | (exact cw') | (exact cb) | (exact cp) | (intros;simp [All];done) | (intro t ht;by_cases h':t<v.2.1.1<;>simp [h',snTx,cvtL,cvt,tg,tru,All];done) | (intros;simp [All,ntAL,ntA,ntP,ntL];done))
      · rw [if_neg hk]
        have hkd:decide (evK v e≥0)=false:=decide_eq_false hk
        refine pkD Tryz.func35 hc (aI2f v e (weB kBreak (evL e) 1) (brX e.2.1 e.2.2.1) (evK v e)) ?_
        and_intros
        all_goals (first | exact zH | (exact cc) | (exact ci) | (exact hd') | (exact d1) | (exact d2) | (exact cx) | (exact ck) | (exact hkd) | (exact cb) | (intros;simp [All];done) | (intros;simp [All,ntAL,ntA,ntP,ntL];done))
    have d2:(e.1==2)=false:=beq_eq_false_iff_ne.2 k2
    by_cases k3:e.1=3
    · have d3:(e.1==3)=true:=beq_iff_eq.2 k3
      have cI:=con_Inspect_i v.1 hs.1
      have hE:evR v e=if e.2.1=0∧e.2.2.1=0 then (evS v v.1 (ilB v.1),true) else (v,false):=by simp [evR,hok,k3]
      rw [hE]
      by_cases h0:e.2.1=0∧e.2.2.1=0
      · rw [if_pos h0]
        have hz:(!bif e.2.1==0 then e.2.2.1==0 else false)=false:=by simp [h0.1,h0.2]
        have cp:=con_copyPinned v.1 hs.1
        refine pkD Tryz.func35 hc (aI3t v e (ilB v.1)) ?_
        and_intros
        all_goals (first | exact zH | (exact cc) | (exact ci) | (exact hd') | (exact d1) | (exact d2) | (exact d3) | (exact hz) | (exact cI) | (exact cp) | (intros;simp [All];done) | (intro t ht;by_cases h':t<v.2.1.1<;>simp [h',snTx,cvtL,cvt,tg,tru,All];done) | (intros;simp [All,ntAL,ntA,ntP,ntL];done))
      · rw [if_neg h0]
        have hz:(!bif e.2.1==0 then e.2.2.1==0 else false)=true:=by
          by_cases h3:e.2.1=0
          · have h4:(e.2.2.1==0)=false:=beq_eq_false_iff_ne.2 (fun h=>h0 ⟨h3,h⟩)
            simp [h3,h4]
          · have h4:(e.2.1==0)=false:=beq_eq_false_iff_ne.2 h3
            rw [h4];rfl
        refine pkD Tryz.func35 hc (aI3f v e (ilB v.1)) ?_
        and_intros
        all_goals (first | exact zH | (exact cc) | (exact ci) | (exact hd') | (exact d1) | (exact d2) | (exact d3) | (exact hz) | (exact cI) | (intros;simp [All];done) | (intros;simp [All,ntAL,ntA,ntP,ntL];done))
    have d3:(e.1==3)=false:=beq_eq_false_iff_ne.2 k3
    by_cases k4:e.1=4
    · have d4:(e.1==4)=true:=beq_iff_eq.2 k4
      have cr:=con_RepairBars_i v.1 hs.1
      have hrn:=rbL_n v.1
      have hra:=rbL_all v.1
      have hN:=(pin_ok hp).N
      have ce:=con_withEnds kRepair (rbL v.1) (by omega) (by show 6≤100;omega) (fun i hi=>by have:=hra i hi;unfold OkB at this;unfold InI;omega)
      have hE:evR v e=if rbB v.1=true∧e.2.1=0∧e.2.2.1=0 then (evS v (arP v.1 (rbL v.1)) (weB kRepair (rbL v.1) (rbL v.1).1),true) else (v,false):=by simp [evR,hok,k4]
      rw [hE]
      by_cases h0:rbB v.1=true∧e.2.1=0∧e.2.2.1=0
      · rw [if_pos h0]
        have hz:(bif (bif rbB v.1 then e.2.1==0 else false) then e.2.2.1==0 else false)=true:=by simp [h0.1,h0.2.1,h0.2.2]
        have ca:=con_ApplyRepair_i v.1 hs.1 (rbL v.1) (by omega)
        rw [(rbB_ok h0.1).2] at ca
        have cp:=con_copyPinned (arP v.1 (rbL v.1)) (sm_arP _ _)
        generalize arP v.1 (rbL v.1)=p at *
        refine pkD Tryz.func35 hc (aI4t v e p (weB kRepair (rbL v.1) (rbL v.1).1) (rbL v.1).1 (rbL v.1).2 (rbB v.1)) ?_
        and_intros
        all_goals (first | exact zH | (exact cc) | (exact ci) | (exact hd') | (exact d1) | (exact d2) | (exact d3) | (exact d4) | (exact hz) | (exact cr) | (exact ca) | (exact ce) | (exact cp) | (intros;simp [All];done) | (intro t ht;by_cases h':t<v.2.1.1<;>simp [h',snTx,cvtL,cvt,tg,tru,All];done) | (intros;simp [All,ntAL,ntA,ntP,ntL];done))
      · rw [if_neg h0]
        have hz:(bif (bif rbB v.1 then e.2.1==0 else false) then e.2.2.1==0 else false)=false:=by
          cases hr:rbB v.1 with
          | false=>rfl
          | true =>
            by_cases h3:e.2.1=0
            · have h4:(e.2.2.1==0)=false:=beq_eq_false_iff_ne.2 (fun h=>h0 ⟨hr,h3,h⟩)
              simp [h3,h4]
            · have h4:(e.2.1==0)=false:=beq_eq_false_iff_ne.2 h3
              rw [h4];rfl
        refine pkD Tryz.func35 hc (aI4f v e (weB kRepair (rbL v.1) (rbL v.1).1) (rbL v.1).1 (rbL v.1).2 (rbB v.1)) ?_
        and_intros
        all_goals (first | exact zH | (exact cc) | (exact ci) | (exact hd') | (exact d1) | (exact d2) | (exact d3) | (exact d4) | (exact hz) | (exact cr) | (exact ce) | (intros;simp [All];done) | (intros;simp [All,ntAL,ntA,ntP,ntL];done))
    have d4:(e.1==4)=false:=beq_eq_false_iff_ne.2 k4
    have hE:evR v e=(v,false):=by simp [evR,k1,k2,k3,k4]
    rw [hE]
    refine pkD Tryz.func35 hc (aI5 v e) ?_
    and_intros
    all_goals (first | exact zH | (exact cc) | (exact ci) | (exact hd') | (exact d1) | (exact d2) | (exact d3) | (exact d4) | (intros;simp [All];done) | (intros;simp [All,ntAL,ntA,ntP,ntL];done))
  · rw [decide_eq_false hok] at hd
    have hE:evR v e=(v,false):=by simp [evR,hok]
    rw [hE]
    refine pkD Tryz.func35 hc (aIy v e (siteF v)) ?_
    and_intros
    all_goals (first | exact zH | (exact cc) | (exact ci) | (exact hd) | (intros;simp [All];done) | (intros;simp [All,ntAL,ntA,ntP,ntL];done))
def siQ (N:Int) (a b c nb m n:Nat):Ob:=⟨true,4,1,fun _=>[.p (.int .i64 N),.ar 2 a 0 nb,.ar 1 b 0 m,.ar 1 c 0 n]⟩
def siB (v:T_Site):Ob:=⟨true,4,1,fun _=>[.p (.int .i64 v.1.1.1),graphL v.1.1.2.1,inL v.1.2.1,stLt v.2.1.1 v.2.1.2]⟩
def zS4:Ob:=⟨true,4,1,fun _=>[.p (.int .i64 0),.p .nil,.p .nil,.p .nil]⟩
def evLs (l:T_EventS):AV:=.p (.seq true 3 l.1 (fun i=>[.int .i64 (l.2 i).1,.int .i64 (l.2 i).2.1,.int .i64 (l.2 i).2.2.1]))
def SRi1 (v u:T_Site) (l:T_EventS) (k:Nat):St :=
  ⟨[siA v,evLs l,.pt 4 0 0 0,.p .any,.pt 4 1 0 0,.pt 4 2 0 0]++List.replicate 4 anyA++[evLs l,.p (.int .i64 l.1),.p (.int .i64 k)]++List.replicate 11 anyA,
   [(0,siB v),(1,zS4),(2,siQ u.1.1.1 3 4 5 u.1.1.2.1.1 u.1.2.1.1 u.2.1.1),(3,brOb u.1.1.2.1.1 u.1.1.2.1.2),(4,iOb u.1.2.1.1 u.1.2.1.2),(5,stOt u.2.1.1 u.2.1.2)],6⟩
def SRs1 (v u:T_Site) (l:T_EventS) (k:Nat):St :=
  ⟨[siA v,evLs l,.pt 4 0 0 0,.p .any,.pt 4 1 0 0,.pt 4 2 0 0,.p (.int .i64 k)]++List.replicate 22 anyA,
   [(0,siB v),(1,zS4),(2,siQ u.1.1.1 3 4 5 u.1.1.2.1.1 u.1.2.1.1 u.2.1.1),(3,brOb u.1.1.2.1.1 u.1.1.2.1.2),(4,iOb u.1.2.1.1 u.1.2.1.2),(5,stOt u.2.1.1 u.2.1.2)],6⟩
theorem wIz (v:T_Site) (l:T_EventS) :
    zT Tryz.f27 [rg 2,rm [(1,oc (siH v) (siV v))] 2,rg 3,.head] [siA v,evLs l] [0,32,128,96,97,98] (SRi1 v v l 0) =
    some (zf75,zD [(NT 0 1),zE 96 [(zf16 v)] (zf17 v) ((zf110 v)),((true=true)→ (AN 1)),(AI v.1.1.1),(AN v.1.1.2.1.1),(AP v.1.1.2.1.1 (fun i=>[.int .i64 ((v.1.1.2.1.2 i).1),.int .i64 ((v.1.1.2.1.2 i).2.1)])),(AN v.1.2.1.1),(AP v.1.2.1.1 (fun i=>[.int .i64 (v.1.2.1.2 i)])),(AN v.2.1.1),(AP v.2.1.1 (fun i=>[.str (v.2.1.2 i)])),(AN l.1),(AP l.1 (fun i=>[.int .i64 ((l.2 i).1),.int .i64 ((l.2 i).2.1),.int .i64 ((l.2 i).2.2.1)])),(AN 0),(AI ((↑l.1:Int))),((0:Int)=(↑0:Int)),((([AV.p (PV.int IntKind.i64 v.1.1.1),graphL v.1.1.2.1,inL v.1.2.1,stLt v.2.1.1 v.2.1.2].length):Nat)=4),(NL 1 1),((((List.map (fun v=>AV.p (absV v)) [Value.int IntKind.i64 0,Value.slice none 0 0,Value.slice none 0 0,Value.slice none 0 0]).length):Nat)=4),(AI 0),(AN 2),(NL v.1.1.2.1.1 v.1.1.2.1.1),(AA v.1.1.2.1.1 (fun i=>[.p (.int .i64 ((v.1.1.2.1.2 i).1)),.p (.int .i64 ((v.1.1.2.1.2 i).2.1))])),(AN 1),(NL v.1.2.1.1 v.1.2.1.1),(AA v.1.2.1.1 (fun i=>[.p (.int .i64 (v.1.2.1.2 i))])),(NL v.2.1.1 v.2.1.1),(AA v.2.1.1 (fun i=>[.p (.str (v.2.1.2 i))]))] [0,1,0,2,3,4,5,6,7,8,9,10,11,12,12,12,10,11,13,14,15,16,16,3,4,5,6,7,8,9,17,16,16,18,17,16,16,3,12,4,12,6,12,8,19,20,21,22,23,24,22,25,26]):=by kernel_rfl
theorem wIa (v u w:T_Site) (l:T_EventS) (k:Nat) (b:Bool) :
    zM 0 [rg 1,.dec true,rg 4,rm [(2,oc (siH w) (.tup [siV w,.p (.bool b)]))] 4,rg 2,.head] zf75 (SRi1 v u l k) [0,1,2,230,231,232] 1 (SRi1 v w l (k+1)) =
    some (zf75,zD [((decide ((↑k:Int)<(↑l.1:Int)))=true),(IL 0 (↑k:Int)),(IT (↑k:Int) (↑l.1:Int)),(NT 0 1),((true=true)→ (AN 1)),(AN 2),(NL u.1.1.2.1.1 u.1.1.2.1.1),(AN 1),(NL u.1.2.1.1 u.1.2.1.1),(NL u.2.1.1 u.2.1.1),zE 35 [(zf16 u),(zf109 l k)] (zf17 w) ((zf101 w b)),(ZLo ((↑k:Int)+1)),(ZHi ((↑k:Int)+1)),(AI v.1.1.1),(AN v.1.1.2.1.1),(AP v.1.1.2.1.1 (fun i=>[.int .i64 ((v.1.1.2.1.2 i).1),.int .i64 ((v.1.1.2.1.2 i).2.1)])),(AN v.1.2.1.1),(AP v.1.2.1.1 (fun i=>[.int .i64 (v.1.2.1.2 i)])),(AN v.2.1.1),(AP v.2.1.1 (fun i=>[.str (v.2.1.2 i)])),(AN l.1),(AP l.1 (fun i=>[.int .i64 ((l.2 i).1),.int .i64 ((l.2 i).2.1),.int .i64 ((l.2 i).2.2.1)])),(AN 0),(AI ((↑l.1:Int))),((((↑k:Int)+1):Int)=(↑(k+1):Int)),(AN 4),(NL 1 1),(AI 0),(AI w.1.1.1),(AN w.1.1.2.1.1),(AN w.1.2.1.1),(AN w.2.1.1),(NL w.1.1.2.1.1 w.1.1.2.1.1),(AA w.1.1.2.1.1 (fun i=>[.p (.int .i64 ((w.1.1.2.1.2 i).1)),.p (.int .i64 ((w.1.1.2.1.2 i).2.1))])),(NL w.1.2.1.1 w.1.2.1.1),(AA w.1.2.1.1 (fun i=>[.p (.int .i64 (w.1.2.1.2 i))])),(NL w.2.1.1 w.2.1.1),(AA w.2.1.1 (fun i=>[.p (.str (w.2.1.2 i))]))] [0,1,2,3,4,3,3,5,6,7,8,7,9,10,3,4,11,12,13,14,15,16,17,18,19,20,21,22,22,22,20,21,23,24,25,26,26,13,14,15,16,17,18,19,25,26,26,27,25,26,26,28,22,29,22,30,22,31,5,32,33,7,34,35,7,36,37]):=by kernel_rfl
theorem wIe (v u:T_Site) (l:T_EventS) (k:Nat) :
    zP Tryz.f27 0 [rg 1,.dec false,rg 2] zf75 (SRi1 v u l k) [3,4,5] 1 (siH u) (siV u) =
    some [((decide ((↑k:Int)<(↑l.1:Int)))=false),(NT 0 1),(NT 0 1),((true=true)→ (AN 1)),(NT 0 1),(AI u.1.1.1),(AN 0),(AN u.1.1.2.1.1),(AN 0),(AN u.1.2.1.1),(AN 0),(AN u.2.1.1),(AN 2),(NL u.1.1.2.1.1 u.1.1.2.1.1),(AA u.1.1.2.1.1 (fun i=>[.p (.int .i64 ((u.1.1.2.1.2 i).1)),.p (.int .i64 ((u.1.1.2.1.2 i).2.1))])),(AN 1),(NL u.1.2.1.1 u.1.2.1.1),(AA u.1.2.1.1 (fun i=>[.p (.int .i64 (u.1.2.1.2 i))])),(AN 1),(NL u.2.1.1 u.2.1.1),(AA u.2.1.1 (fun i=>[.p (.str (u.2.1.2 i))])),(AE u.1.1.2.1.1),(AE u.1.2.1.1),(AE u.2.1.1)]:=by kernel_rfl
theorem wSz (v:T_Site) (l:T_EventS) :
    zT Tryz.f29 [rg 2,rm [(1,oc (siH v) (siV v))] 2,rg 1,.head] [siA v,evLs l] [0,32,128,96,97,98] (SRs1 v v l 0) =
    some (zf76,zD [(NT 0 1),zE 98 [(zf16 v)] (zf17 v) ((zf110 v)),((true=true)→ (AN 1)),(AI v.1.1.1),(AN v.1.1.2.1.1),(AP v.1.1.2.1.1 (fun i=>[.int .i64 ((v.1.1.2.1.2 i).1),.int .i64 ((v.1.1.2.1.2 i).2.1)])),(AN v.1.2.1.1),(AP v.1.2.1.1 (fun i=>[.int .i64 (v.1.2.1.2 i)])),(AN v.2.1.1),(AP v.2.1.1 (fun i=>[.str (v.2.1.2 i)])),(AN l.1),(AP l.1 (fun i=>[.int .i64 ((l.2 i).1),.int .i64 ((l.2 i).2.1),.int .i64 ((l.2 i).2.2.1)])),(AN 0),((0:Int)=(↑0:Int)),((([AV.p (PV.int IntKind.i64 v.1.1.1),graphL v.1.1.2.1,inL v.1.2.1,stLt v.2.1.1 v.2.1.2].length):Nat)=4),(NL 1 1),((((List.map (fun v=>AV.p (absV v)) [Value.int IntKind.i64 0,Value.slice none 0 0,Value.slice none 0 0,Value.slice none 0 0]).length):Nat)=4),(AI 0),(AN 2),(NL v.1.1.2.1.1 v.1.1.2.1.1),(AA v.1.1.2.1.1 (fun i=>[.p (.int .i64 ((v.1.1.2.1.2 i).1)),.p (.int .i64 ((v.1.1.2.1.2 i).2.1))])),(AN 1),(NL v.1.2.1.1 v.1.2.1.1),(AA v.1.2.1.1 (fun i=>[.p (.int .i64 (v.1.2.1.2 i))])),(NL v.2.1.1 v.2.1.1),(AA v.2.1.1 (fun i=>[.p (.str (v.2.1.2 i))]))] [0,1,0,2,3,4,5,6,7,8,9,10,11,12,12,12,13,14,15,15,3,4,5,6,7,8,9,16,15,15,17,16,15,15,3,12,4,12,6,12,8,18,19,20,21,22,23,21,24,25]):=by kernel_rfl
theorem wSa (v u w:T_Site) (l:T_EventS) (k:Nat) :
    zM 0 [rg 4,.dec true,rm [(5,oc (siH w) (.tup [siV w,.p (.bool true)]))] 6,rg 1,.dec true,rg 2,rg 3,.head] zf76 (SRs1 v u l k) [0,1,2,294,295,296] 1 (SRs1 v w l (k+1)) =
    some (zf76,zD [((decide ((↑k:Int)<(↑l.1:Int)))=true),(NT 0 1),(IL 0 (↑k:Int)),(IT (↑k:Int) (↑l.1:Int)),(AN 2),(NL u.1.1.2.1.1 u.1.1.2.1.1),(AN 1),(NL u.1.2.1.1 u.1.2.1.1),(NL u.2.1.1 u.2.1.1),zE 36 [(zf16 u),(zf109 l k)] (zf17 w) (.tup [(zf110 w),.p (.bool true)]),((true=true)→ (AN 1)),(true=true),(ZLo ((↑k:Int)+1)),(ZHi ((↑k:Int)+1)),(AI v.1.1.1),(AN v.1.1.2.1.1),(AP v.1.1.2.1.1 (fun i=>[.int .i64 ((v.1.1.2.1.2 i).1),.int .i64 ((v.1.1.2.1.2 i).2.1)])),(AN v.1.2.1.1),(AP v.1.2.1.1 (fun i=>[.int .i64 (v.1.2.1.2 i)])),(AN v.2.1.1),(AP v.2.1.1 (fun i=>[.str (v.2.1.2 i)])),(AN l.1),(AP l.1 (fun i=>[.int .i64 ((l.2 i).1),.int .i64 ((l.2 i).2.1),.int .i64 ((l.2 i).2.2.1)])),(AN 0),((((↑k:Int)+1):Int)=(↑(k+1):Int)),(AN 4),(NL 1 1),(AI 0),(AI w.1.1.1),(AN w.1.1.2.1.1),(AN w.1.2.1.1),(AN w.2.1.1),(NL w.1.1.2.1.1 w.1.1.2.1.1),(AA w.1.1.2.1.1 (fun i=>[.p (.int .i64 ((w.1.1.2.1.2 i).1)),.p (.int .i64 ((w.1.1.2.1.2 i).2.1))])),(NL w.1.2.1.1 w.1.2.1.1),(AA w.1.2.1.1 (fun i=>[.p (.int .i64 (w.1.2.1.2 i))])),(NL w.2.1.1 w.2.1.1),(AA w.2.1.1 (fun i=>[.p (.str (w.2.1.2 i))]))] [0,1,2,3,4,5,6,7,6,8,9,1,10,11,1,1,10,12,13,14,15,16,17,18,19,20,21,22,23,23,23,24,25,26,26,14,15,16,17,18,19,20,25,26,26,27,25,26,26,28,23,29,23,30,23,31,4,32,33,6,34,35,6,36,37]):=by kernel_rfl
theorem wSb (v u w:T_Site) (l:T_EventS) (k:Nat) :
    zM 0 [rg 4,.dec true,rm [(5,oc (siH w) (.tup [siV w,.p (.bool false)]))] 6,rg 1,.dec false,rg 3,.head] zf76 (SRs1 v u l k) [0,1,2,3,4,5] 1 (SRs1 v u l (k+1)) =
    some (zf76,zD [((decide ((↑k:Int)<(↑l.1:Int)))=true),(NT 0 1),(IL 0 (↑k:Int)),(IT (↑k:Int) (↑l.1:Int)),(AN 2),(NL u.1.1.2.1.1 u.1.1.2.1.1),(AN 1),(NL u.1.2.1.1 u.1.2.1.1),(NL u.2.1.1 u.2.1.1),zE 36 [(zf16 u),(zf109 l k)] (zf17 w) (.tup [(zf110 w),.p (.bool false)]),((true=true)→ (AN 1)),(false=false),(ZLo ((↑k:Int)+1)),(ZHi ((↑k:Int)+1)),(AI v.1.1.1),(AN v.1.1.2.1.1),(AP v.1.1.2.1.1 (fun i=>[.int .i64 ((v.1.1.2.1.2 i).1),.int .i64 ((v.1.1.2.1.2 i).2.1)])),(AN v.1.2.1.1),(AP v.1.2.1.1 (fun i=>[.int .i64 (v.1.2.1.2 i)])),(AN v.2.1.1),(AP v.2.1.1 (fun i=>[.str (v.2.1.2 i)])),(AN l.1),(AP l.1 (fun i=>[.int .i64 ((l.2 i).1),.int .i64 ((l.2 i).2.1),.int .i64 ((l.2 i).2.2.1)])),(AN 0),((((↑k:Int)+1):Int)=(↑(k+1):Int)),(AN 4),(NL 1 1),(AI 0),(AI u.1.1.1),(AN u.1.1.2.1.1),(AN u.1.2.1.1),(AN u.2.1.1),(AA u.1.1.2.1.1 (fun i=>[.p (.int .i64 ((u.1.1.2.1.2 i).1)),.p (.int .i64 ((u.1.1.2.1.2 i).2.1))])),(AA u.1.2.1.1 (fun i=>[.p (.int .i64 (u.1.2.1.2 i))])),(AA u.2.1.1 (fun i=>[.p (.str (u.2.1.2 i))]))] [0,1,2,3,4,5,6,7,6,8,9,1,10,11,12,13,14,15,16,17,18,19,20,21,22,23,23,23,24,25,26,26,14,15,16,17,18,19,20,25,26,26,27,25,26,26,28,23,29,23,30,23,31,4,5,32,6,7,33,6,8,34]):=by kernel_rfl
theorem wSe (v u:T_Site) (l:T_EventS) (k:Nat) :
    zP Tryz.f29 0 [rg 4,.dec false,rg 2] zf76 (SRs1 v u l k) [3,4,5] 1 (siH u) (siV u) =
    some [((decide ((↑k:Int)<(↑l.1:Int)))=false),(NT 0 1),(NT 0 1),((true=true)→ (AN 1)),(NT 0 1),(AI u.1.1.1),(AN 0),(AN u.1.1.2.1.1),(AN 0),(AN u.1.2.1.1),(AN 0),(AN u.2.1.1),(AN 2),(NL u.1.1.2.1.1 u.1.1.2.1.1),(AA u.1.1.2.1.1 (fun i=>[.p (.int .i64 ((u.1.1.2.1.2 i).1)),.p (.int .i64 ((u.1.1.2.1.2 i).2.1))])),(AN 1),(NL u.1.2.1.1 u.1.2.1.1),(AA u.1.2.1.1 (fun i=>[.p (.int .i64 (u.1.2.1.2 i))])),(AN 1),(NL u.2.1.1 u.2.1.1),(AA u.2.1.1 (fun i=>[.p (.str (u.2.1.2 i))])),(AE u.1.1.2.1.1),(AE u.1.2.1.1),(AE u.2.1.1)]:=by kernel_rfl
theorem we1 (w:ByteArray) (e:T_Event):weB w (evL e) 1=w++bsB (1,fun _=>brX e.2.1 e.2.2.1) 1:=by
  have hle:(brX e.2.1 e.2.2.1).1≤(brX e.2.1 e.2.2.1).2.1:=by
    simp only [brX];split<;>split<;>omega
  show (w++kBlank)++enB (e.2.1,e.2.2.1,())=w++bsB (1,fun _=>brX e.2.1 e.2.2.1) 1
  rw [← enB_brX,← we_bs w (1,fun _=>brX e.2.1 e.2.2.1) 1 (fun i hi=>hle)]
  rfl
theorem brX_InI {a b:Int} (ha:InI a) (hb:InI b):InI (brX a b).1∧InI (brX a b).2.1:=by
  unfold InI at *
  simp only [brX]
  constructor<;>split<;>omega
theorem con_Apply_s (v:T_Site) (hs:smS s_Site v) (e:T_Event) (he:okE e):zE 36 [siA v,evtA e] (siH (evR v e).1) (.tup [siV (evR v e).1,.p (.bool (evR v e).2)]):=by
  have hn:v.2.1.1≤1048576:=hs.2.1.1
  have h1:v.1.1.2.1.1≤1048576:=hs.1.1.2.1.1
  have h2:v.1.2.1.1≤1048576:=hs.1.2.1.1
  have cc:=con_l31Copy v hs
  have ci:=con_IsSite_s v hs
  have hd:=site_dec2 v
  refine csZ Tryz.func36 (fun c hc=>?_)
  by_cases hok:siteF v=true∧v.2.1.1<20
  · have hp:=site_in hok
    rw [decide_eq_true hok,hok.1] at hd
    rw [hok.1] at ci
    have hd':(bif !true then true else decide ((v.2.1.1:Int)≥20))=false:=hd
    have hbI:=brX_InI he.2.1 he.2.2
    have cl:=con_l31Bars (1,fun _=>brX e.2.1 e.2.2.1) (by show 1≤1000;omega) (fun i hi=>hbI)
    have hz1:=bsB_size (1,fun _=>brX e.2.1 e.2.2.1) 1
    change Con _ _ _ _ _ _ (.p (.str (bsB (1,fun _=>brX e.2.1 e.2.2.1) 1))) at cl
    have wA:=we1 kAdd e
    have wB:=we1 kBreak e
    by_cases k1:e.1=1
    · have d1:(e.1==1)=true:=beq_iff_eq.2 k1
      have ca:=con_ApplyRepair_s v.1 hs.1 (evL e) (by show 1≤1048576;omega)
      have hE:evR v e=if arB v.1 (evL e)=true then (evS v (arP v.1 (evL e)) (weB kAdd (evL e) 1),true) else (v,false):=by simp [evR,hok,k1]
      rw [hE]
      cases hb:arB v.1 (evL e) with
      | true =>
        rw [hb] at ca
        rw [if_pos rfl,wA]
        generalize arP v.1 (evL e)=p at *
        generalize bsB (1,fun _=>brX e.2.1 e.2.2.1) 1=s at *
        refine pkD Tryz.func36 hc (aS1t v e p s) ?_
        and_intros
        all_goals (first | exact zH | (exact cc) | (exact ci) | (exact hd') | (exact d1) | (exact ca) | (exact cl) | (simp only [kAdd_z];omega) | (intros;simp [All];done) | (intro t ht;by_cases h':t<v.2.1.1<;>simp [h',snTx,kAdd,cvtL,cvt,tg,tru,All];done) | (intros;simp [All,ntAL,ntA,ntP,ntL];done))
      | false =>
        rw [hb] at ca
        rw [if_neg (by simp)]
        refine pkD Tryz.func36 hc (aS1f v e (arP v.1 (evL e))) ?_
        and_intros
        all_goals (first | exact zH | (exact cc) | (exact ci) | (exact hd') | (exact d1) | (exact ca) | (intros;simp [All];done) | (intros;simp [All,ntAL,ntA,ntP,ntL];done))
    have d1:(e.1==1)=false:=beq_eq_false_iff_ne.2 k1
    by_cases k2:e.1=2
    · have d2:(e.1==2)=true:=beq_iff_eq.2 k2
      have ck:=con_l7At v.1.1 e.2.1 e.2.2.1 h1
      have hE:evR v e=if 0≤evK v e then (evS v (woP v.1 (evK v e).toNat) (weB kBreak (evL e) 1),true) else (v,false):=by simp [evR,hok,k2]
      rw [hE]
      have hin:=ixI_in v.1.1.2.1.2 (brX e.2.1 e.2.2.1) v.1.1.2.1.1 0
      change evK v e = -1∨((0:Nat):Int)≤evK v e∧evK v e<((0:Nat):Int)+v.1.1.2.1.1∧beqB (brX e.2.1 e.2.2.1) (v.1.1.2.1.2 (evK v e).toNat)=true at hin
      change Con _ _ _ _ _ _ (.p (.int .i64 (evK v e))) at ck
      by_cases hk:0≤evK v e
      · rw [if_pos hk,wB]
        have heq:v.1.1.2.1.2 (evK v e).toNat=brX e.2.1 e.2.2.1:=by
          rcases hin with h | ⟨_,_,h⟩
          · omega
          · exact (beqB_eq h).symm
        have cw:=con_l27Less v.1 hp (evK v e).toNat (by omega)
        rw [show (((evK v e).toNat:Nat):Int)=evK v e by omega] at cw
        have hkd:decide (evK v e<0)=false:=decide_eq_false (by omega)
        rw [← heq] at cl
        generalize hwp:woP v.1 (evK v e).toNat=p at *
        have hp1:p.1.1=v.1.1.1:=by rw [← hwp];rfl
        have hp2:p.2=v.1.2:=by rw [← hwp];rfl
        have cw':zE 110 [pinA v.1,.p (.int .i64 (evK v e))] (piH p) (piV p):=by
          show Con _ _ _ _ _ [(0,brOb p.1.2.1.1 p.1.2.1.2),(1,iOb p.2.1.1 p.2.1.2)] (.agg [.p (.int .i64 p.1.1),.ar 2 0 0 p.1.2.1.1,.ar 1 1 0 p.2.1.1])
          rw [hp1,hp2];exact cw
        rw [heq] at cl
        have cl':zE 108 [.p (.seq true 2 1 (fun i=>[.int .i64 (v.1.1.2.1.2 (evK v e).toNat).1,.int .i64 (v.1.1.2.1.2 (evK v e).toNat).2.1]))] [] (.p (.str (bsB (1,fun _=>brX e.2.1 e.2.2.1) 1))):=by
          rw [heq];exact cl
        generalize bsB (1,fun _=>brX e.2.1 e.2.2.1) 1=s at *
        refine pkD Tryz.func36 hc (aS2t v e p s (evK v e)) ?_
        and_intros
        all_goals (first | exact zH | (exact cc) | (exact ci) | (exact hd') | (exact d1) | (exact d2) | (exact ck) | (exact hkd) | (exact cw') | (exact cl') | (simp only [kBreak_z];omega) | (intros;simp [All];done) | (intro t ht;by_cases h':t<v.2.1.1<;>simp [h',snTx,kBreak,cvtL,cvt,tg,tru,All];done) | (intros;simp [All,ntAL,ntA,ntP,ntL];done))
      · rw [if_neg hk]
        have hkd:decide (evK v e<0)=true:=decide_eq_true (by omega)
        refine pkD Tryz.func36 hc (aS2f v e (evK v e)) ?_
        and_intros
        all_goals (first | exact zH | (exact cc) | (exact ci) | (exact hd') | (exact d1) | (exact d2) | (exact ck) | (exact hkd) | (intros;simp [All];done) | (intros;simp [All,ntAL,ntA,ntP,ntL];done))
    have d2:(e.1==2)=false:=beq_eq_false_iff_ne.2 k2
    by_cases k3:e.1=3
    · have d3:(e.1==3)=true:=beq_iff_eq.2 k3
      have cI:=con_Inspect_s v.1 hs.1
      have hE:evR v e=if e.2.1=0∧e.2.2.1=0 then (evS v v.1 (ilB v.1),true) else (v,false):=by simp [evR,hok,k3]
      rw [hE]
      by_cases h0:e.2.1=0∧e.2.2.1=0
      · rw [if_pos h0]
        have hz:(bif e.2.1 != 0 then true else e.2.2.1 != 0)=false:=by simp [h0.1,h0.2]
        refine pkD Tryz.func36 hc (aS3t v e (ilB v.1)) ?_
        and_intros
        all_goals (first | exact zH | (exact cc) | (exact ci) | (exact hd') | (exact d1) | (exact d2) | (exact d3) | (exact hz) | (exact cI) | (intros;simp [All];done) | (intro t ht;by_cases h':t<v.2.1.1<;>simp [h',snTx,cvtL,cvt,tg,tru,All];done) | (intros;simp [All,ntAL,ntA,ntP,ntL];done))
      · rw [if_neg h0]
        have hz:(bif e.2.1 != 0 then true else e.2.2.1 != 0)=true:=by
          by_cases h3:e.2.1=0
          · have h4:(e.2.2.1==0)=false:=beq_eq_false_iff_ne.2 (fun h=>h0 ⟨h3,h⟩)
            simp [bne,h3,h4]
          · have h4:(e.2.1==0)=false:=beq_eq_false_iff_ne.2 h3
            simp [bne,h4]
        refine pkD Tryz.func36 hc (aS3f v e) ?_
        and_intros
        all_goals (first | exact zH | (exact cc) | (exact ci) | (exact hd') | (exact d1) | (exact d2) | (exact d3) | (exact hz) | (intros;simp [All];done) | (intros;simp [All,ntAL,ntA,ntP,ntL];done))
    have d3:(e.1==3)=false:=beq_eq_false_iff_ne.2 k3
    by_cases k4:e.1=4
    · have d4:(e.1==4)=true:=beq_iff_eq.2 k4
      have cr:=con_RepairBars_s v.1 hs.1
      have hrn:=rbL_n v.1
      have hra:=rbL_all v.1
      have hN:=(pin_ok hp).N
      have ce:=con_l31Bars (rbL v.1) (by omega) (fun i hi=>by have:=hra i hi;unfold OkB at this;unfold InI;omega)
      have hzr:=bsB_size (rbL v.1) (rbL v.1).1
      have hwe:=we_bs kRepair (rbL v.1) (rbL v.1).1 (fun i hi=>by have:=hra i hi;unfold OkB at this;omega)
      have hE:evR v e=if rbB v.1=true∧e.2.1=0∧e.2.2.1=0 then (evS v (arP v.1 (rbL v.1)) (weB kRepair (rbL v.1) (rbL v.1).1),true) else (v,false):=by simp [evR,hok,k4]
      rw [hE]
      by_cases h0:rbB v.1=true∧e.2.1=0∧e.2.2.1=0
      · rw [if_pos h0,hwe]
        have hz:(bif (bif !rbB v.1 then true else e.2.1 != 0) then true else e.2.2.1 != 0)=false:=by simp [h0.1,h0.2.1,h0.2.2]
        have ca:=con_ApplyRepair_s v.1 hs.1 (rbL v.1) (by omega)
        rw [(rbB_ok h0.1).2] at ca
        generalize arP v.1 (rbL v.1)=p at *
        generalize bsB (rbL v.1) (rbL v.1).1=s at *
        refine pkD Tryz.func36 hc (aS4t v e p s (rbL v.1).1 (rbL v.1).2 (rbB v.1)) ?_
        and_intros
        all_goals (first | exact zH | (exact cc) | (exact ci) | (exact hd') | (exact d1) | (exact d2) | (exact d3) | (exact d4) | (exact hz) | (exact cr) | (exact ca) | (exact ce) | (simp only [kRepair_z];omega) | (intros;simp [All];done) | (intro t ht;by_cases h':t<v.2.1.1<;>simp [h',snTx,kRepair,cvtL,cvt,tg,tru,All];done) | (intros;simp [All,ntAL,ntA,ntP,ntL];done))
      · rw [if_neg h0]
        have hz:(bif (bif !rbB v.1 then true else e.2.1 != 0) then true else e.2.2.1 != 0)=true:=by
          cases hr:rbB v.1 with
          | false=>rfl
          | true =>
            by_cases h3:e.2.1=0
            · have h4:(e.2.2.1==0)=false:=beq_eq_false_iff_ne.2 (fun h=>h0 ⟨hr,h3,h⟩)
              simp [bne,h3,h4]
            · have h4:(e.2.1==0)=false:=beq_eq_false_iff_ne.2 h3
              simp [bne,h4]
        refine pkD Tryz.func36 hc (aS4f v e (rbL v.1).1 (rbL v.1).2 (rbB v.1)) ?_
        and_intros
        all_goals (first | exact zH | (exact cc) | (exact ci) | (exact hd') | (exact d1) | (exact d2) | (exact d3) | (exact d4) | (exact hz) | (exact cr) | (intros;simp [All];done) | (intros;simp [All,ntAL,ntA,ntP,ntL];done))
    have d4:(e.1==4)=false:=beq_eq_false_iff_ne.2 k4
    have hE:evR v e=(v,false):=by simp [evR,k1,k2,k3,k4]
    rw [hE]
    refine pkD Tryz.func36 hc (aS5 v e) ?_
    and_intros
    all_goals (first | exact zH | (exact cc) | (exact ci) | (exact hd') | (exact d1) | (exact d2) | (exact d3) | (exact d4) | (intros;simp [All];done) | (intros;simp [All,ntAL,ntA,ntP,ntL];done))
  · rw [decide_eq_false hok] at hd
    have hE:evR v e=(v,false):=by simp [evR,hok]
    rw [hE]
    refine pkD Tryz.func36 hc (aSy v e (siteF v)) ?_
    and_intros
    all_goals (first | exact zH | (exact cc) | (exact ci) | (exact hd) | (intros;simp [All];done) | (intros;simp [All,ntAL,ntA,ntP,ntL];done))
theorem ilB_size (p:T_Pinned):(ilB p).size≤500:=by
  have s1:=fmt_size p.1.2.1.1
  have s2:=fmt_size (frG p)
  have s3:=fmt_size (sdR p).1
  have s4:=enB_size (p.1.2.1.2 (wbD p p.1.2.1.1).1.toNat)
  have s5:=fmt_size (wbD p p.1.2.1.1).2
  unfold ilB
  split
  · split
    · simp only [ByteArray.size_append,show kBars.size=5 from rfl,show kFree.size=9 from rfl,show kSteady.size=8 from rfl];omega
    · simp only [ByteArray.size_append,show kBars.size=5 from rfl,show kFree.size=9 from rfl,show kSteady.size=8 from rfl,show kWorst.size=7 from rfl,show kDrops.size=7 from rfl];omega
  · exact Nat.zero_le _
theorem sm_evS {v:T_Site} (hs:smS s_Site v) (hn:v.2.1.1<20) {p:T_Pinned} (hp:smS s_Pinned p) {s:ByteArray} (hz:s.size≤1048576):smS s_Site (evS v p s):=by
  refine ⟨hp,⟨by show v.2.1.1+1≤1048576;omega,fun i hi=>?_⟩,trivial⟩
  show (snTx v.2.1.1 v.2.1.2 s i).size≤1048576
  unfold snTx
  split
  · rename_i h;exact hs.2.1.2 i h
  · exact hz
theorem sm_evR {v:T_Site} (hs:smS s_Site v) (e:T_Event):smS s_Site (evR v e).1:=by
  have w1:=weB_size kAdd (evL e) 1
  have w2:=weB_size kBreak (evL e) 1
  have w3:=weB_size kRepair (rbL v.1) (rbL v.1).1
  have w4:=rbL_n v.1
  have w5:=ilB_size v.1
  have z1:kAdd.size=3:=rfl
  have z2:kBreak.size=5:=rfl
  have z3:kRepair.size=6:=rfl
  unfold evR
  split
  · rename_i hok
    have hp:=site_in hok
    repeat' split
    all_goals first | exact hs | exact sm_evS hs hok.2 (sm_arP _ _) (by omega) | exact sm_evS hs hok.2 (sm_wo hp _) (by omega) | exact sm_evS hs hok.2 hs.1 (by omega)
  · exact hs
noncomputable def rvD (v:T_Site) (l:T_EventS):Nat→T_Site
  | 0=>v
  | k+1=>(evR (rvD v l k) (l.2 k)).1
theorem sm_rvD {v:T_Site} (hs:smS s_Site v) (l:T_EventS):∀ k,smS s_Site (rvD v l k)
  | 0=>hs
  | k+1=>sm_evR (sm_rvD hs l k) _
theorem con_Run_i (v:T_Site) (hs:smS s_Site v) (l:T_EventS) (hl:l.1≤1048576) (he:∀ i,i<l.1→okE (l.2 i)):zE 27 [siA v,evLs l] (siH (rvD v l l.1)) (siV (rvD v l l.1)):=by
  have cc:=con_copySite v hs
  refine csZ Tryz.func27 (fun c hc=>?_)
  generalize hR:rvD v l l.1=R
  have lo:∀ d k,k+d=l.1→zR c 27 zf75 (SRi1 v (rvD v l k) l k) (Post c (siH R) (siV R)):=by
    intro d
    induction d with
    | zero =>
      intro k hk
      obtain rfl:k=l.1:=by omega
      have hd:decide ((l.1:Int)<(l.1:Int))=false:=by simp
      rw [hR]
      refine pkZ Tryz.func27 hc (wIe v R l l.1) ?_
      and_intros
      all_goals (first | exact zI | (exact hd) | (intros;simp [All];done) | (intros;simp [All,ntAL,ntA,ntP,ntL];done))
    | succ d ih =>
      intro k hk
      have hrec:=ih (k+1) (by omega)
      have hd:decide ((k:Int)<(l.1:Int))=true:=decide_eq_true (by omega)
      have ca:=con_Apply_i (rvD v l k) (sm_rvD hs l k) (l.2 k) (he k (by omega))
      rw [rvD] at hrec
      generalize rvD v l k=u at *
      refine pcD hc (wIa v u (evR u (l.2 k)).1 l k (evR u (l.2 k)).2) ?_ hrec
      and_intros
      all_goals (first | exact zI | (exact hd) | (exact ca) | (intros;simp [All];done))
  refine pcD hc (wIz v l) ?_ (lo l.1 0 (by omega))
  and_intros
  all_goals (first | exact zI | (exact cc) | (intros;simp [All];done))
theorem evR_false {v:T_Site} {e:T_Event} (h:(evR v e).2=false):(evR v e).1=v:=by
  have key:(evR v e).2=true∨(evR v e).1=v:=by
    unfold evR
    repeat' split
    all_goals first | exact .inr rfl | exact .inl rfl
  rcases key with k | k
  · rw [h] at k;cases k
  · exact k
theorem con_Run_s (v:T_Site) (hs:smS s_Site v) (l:T_EventS) (hl:l.1≤1048576) (he:∀ i,i<l.1→okE (l.2 i)):zE 29 [siA v,evLs l] (siH (rvD v l l.1)) (siV (rvD v l l.1)):=by
  have cc:=con_l31Copy v hs
  refine csZ Tryz.func29 (fun c hc=>?_)
  generalize hR:rvD v l l.1=R
  have lo:∀ d k,k+d=l.1→zR c 29 zf76 (SRs1 v (rvD v l k) l k) (Post c (siH R) (siV R)):=by
    intro d
    induction d with
    | zero =>
      intro k hk
      obtain rfl:k=l.1:=by omega
      have hd:decide ((l.1:Int)<(l.1:Int))=false:=by simp
      rw [hR]
      refine pkZ Tryz.func29 hc (wSe v R l l.1) ?_
      and_intros
      all_goals (first | exact zI | (exact hd) | (intros;simp [All];done) | (intros;simp [All,ntAL,ntA,ntP,ntL];done))
    | succ d ih =>
      intro k hk
      have hrec:=ih (k+1) (by omega)
      have hd:decide ((k:Int)<(l.1:Int))=true:=decide_eq_true (by omega)
      have ca:=con_Apply_s (rvD v l k) (sm_rvD hs l k) (l.2 k) (he k (by omega))
      rw [rvD] at hrec
      generalize rvD v l k=u at *
      cases hb:(evR u (l.2 k)).2 with
      | true =>
        rw [hb] at ca
        refine pcD hc (wSa v u (evR u (l.2 k)).1 l k) ?_ hrec
        and_intros
        all_goals (first | exact zI | (exact hd) | (exact ca) | (intros;simp [All];done))
      | false =>
        rw [hb] at ca
        rw [evR_false hb] at ca hrec
        refine pcD hc (wSb v u u l k) ?_ hrec
        and_intros
        all_goals (first | exact zI | (exact hd) | (exact ca) | (intros;simp [All];done))
  refine pcD hc (wSz v l) ?_ (lo l.1 0 (by omega))
  and_intros
  all_goals (first | exact zI | (exact cc) | (intros;simp [All];done))
open Go
def cdA (n:Nat) (f:Nat→Int):AV:=.p (.seq true 1 n (fun i=>[.int .u8 (f i)]))
def cdB (n:Nat) (f:Nat→Int):AV:=.p (.seq false 1 n (fun i=>[.int .u8 (f i)]))
def cuO (n:Nat) (f:Nat→Int) (s:Nat×Int):Ob:=⟨true,3,1,fun _=>[cdB n f,.p (.int .i64 (s.1:Int)),.p (.int .i64 s.2)]⟩
def Cn0 (n:Nat) (f:Nat→Int) (i:Nat) (h:Int):St :=
  ⟨[cdB n f,.p .any,.p .any,.p (.int .i64 h),.p (.int .i64 i)]++List.replicate 27 anyA,[],0⟩
def cnH (h y:Int):Int:=bitI .and .i64 (IntKind.i64.wrap (IntKind.i64.wrap (IntKind.i64.wrap (h*131)+y)+7)) 1073741823
def byH (h:Int):Int:=IntKind.i64.wrap (IntKind.i64.wrap (h*6364136223846793005)+1442695040888963407)
def byX (h:Int):Int:=bitI .and .i64 (bitI .xor .i64 (shrI .i64 (byH h) 33) (shrI .i64 (byH h) 45)) 255
def byY (h y:Int):Int:=bitI .and .i64 (byX h+y) 255
theorem drBig (n:Nat) (f:Nat→Int) :
    zS Tryz.f6 [rg 1,rg 4] [cdA n f] [] [] (.p (.bool (decide ((n:Int)>1048576)))) =
    some [((decide ((↑n:Int)>1048576))=(decide ((↑n:Int)>1048576)))]:=by kernel_rfl
theorem drNz (n:Nat) (f:Nat→Int) :
    zT Tryz.f87 [rg 1,rg 4,rg 1,.head] [cdB n f] [] (Cn0 n f 0 (10101+n)) =
    some (zf77,[(ZLo (10101+(↑n:Int))),(ZHi (10101+(↑n:Int))),(AN n),(AP n (fun i=>[.int .u8 (f i)])),(AI ((10101+(↑n:Int)))),((0:Int)=(↑0:Int))]):=by kernel_rfl
theorem drNa (n:Nat) (f:Nat→Int) (i:Nat) (h:Int) :
    zM 0 [rg 8,.dec true,rm [(1,oF),(5,oF),(0,oF)] 2,rg 3,.head] zf77 (Cn0 n f i h) [] 1 (Cn0 n f (i+1) (cnH h (f i))) =
    some (zf77,zD [(AG (decide ((↑i:Int)<(↑n:Int)))),((bif decide ((↑i:Int)<(↑n:Int)) then decide ((↑i:Int)<4000) else false)=true),(IL 0 (↑i:Int)),(IT (↑i:Int) (↑n:Int)),(ZLo (f i)),(ZHi (f i)),(ZLo ((↑i:Int)+1)),(ZHi ((↑i:Int)+1)),(AN n),(AP n (fun i_1=>[.int .u8 (f i_1)])),(((bitI BinOp.and IntKind.i64 (IntKind.i64.wrap (IntKind.i64.wrap (IntKind.i64.wrap (h*131)+f i)+7)) 1073741823):Int)=(cnH h (f i))),((((↑i:Int)+1):Int)=(↑(i+1):Int))] [0,0,1,2,3,4,5,6,7,8,9,10,11]):=by kernel_rfl
theorem drNe (n:Nat) (f:Nat→Int) (i:Nat) (h:Int) :
    zP Tryz.f87 0 [rg 8,.dec false,rg 5] zf77 (Cn0 n f i h) [352] 1 [(0,cuO n f (0,h))] (.pt 3 0 0 0) =
    some (zD [(AG (decide ((↑i:Int)<(↑n:Int)))),((bif decide ((↑i:Int)<(↑n:Int)) then decide ((↑i:Int)<4000) else false)=false),(AN 0),((((splice (splice (List.map (fun v=>AV.p (absV v)) [Value.slice none 0 0,Value.int IntKind.i64 0,Value.int IntKind.i64 0]).length 0 (List.map (fun v=>AV.p (absV v)) [Value.slice none 0 0,Value.int IntKind.i64 0,Value.int IntKind.i64 0]) [AV.p (PV.seq false 1 n fun i=>[PV.int IntKind.u8 (f i)])]).length 2 (splice (List.map (fun v=>AV.p (absV v)) [Value.slice none 0 0,Value.int IntKind.i64 0,Value.int IntKind.i64 0]).length 0 (List.map (fun v=>AV.p (absV v)) [Value.slice none 0 0,Value.int IntKind.i64 0,Value.int IntKind.i64 0]) [AV.p (PV.seq false 1 n fun i=>[PV.int IntKind.u8 (f i)])]) [AV.p (PV.int IntKind.i64 h)]).length):Nat)=3),(NL 1 1),(AN n),(AP n (fun i_1=>[.int .u8 (f i_1)])),((0:Int)=(↑0:Int)),(AI h),(∀ i_1:Nat,(((i_1:Nat)<1)→All [(false=false),(AE n)]))] [0,0,1,2,3,4,4,5,6,7,8,9]):=by kernel_rfl
theorem drBa (n:Nat) (f:Nat→Int) (s:Nat×Int) :
    zP Tryz.f158 1 [rg 1,rm [(5,oF),(0,oF)] 3,rg 13,rg 10,.dec true,rg 15,rg 9,rg 2] [.code (bodyOf Tryz.f158)] (start Tryz.f158 [(0,cuO n f s)] 1 [.pt 3 0 0 0]) [0] 1 [(0,cuO n f (s.1+1,byH s.2))] (.p (.int .i64 (byY s.2 (f s.1)))) =
    some (zD [(NT 0 1),((true=true)→ (AN 1)),(IL 0 33),(IL 0 45),((decide ((↑s.1:Int)<(↑n:Int)))=true),(IL 0 (↑s.1:Int)),(IT (↑s.1:Int) (↑n:Int)),(ZLo (f s.1)),(ZHi (f s.1)),(ZLo (bitI BinOp.and IntKind.i64 (bitI BinOp.xor IntKind.i64 (shrI IntKind.i64 (IntKind.i64.wrap (IntKind.i64.wrap (s.2*6364136223846793005)+1442695040888963407)) 33) (shrI IntKind.i64 (IntKind.i64.wrap (IntKind.i64.wrap (s.2*6364136223846793005)+1442695040888963407)) 45)) 255+f s.1)),(ZHi (bitI BinOp.and IntKind.i64 (bitI BinOp.xor IntKind.i64 (shrI IntKind.i64 (IntKind.i64.wrap (IntKind.i64.wrap (s.2*6364136223846793005)+1442695040888963407)) 33) (shrI IntKind.i64 (IntKind.i64.wrap (IntKind.i64.wrap (s.2*6364136223846793005)+1442695040888963407)) 45)) 255+f s.1)),(ZLo ((↑s.1:Int)+1)),(ZHi ((↑s.1:Int)+1)),(((bitI BinOp.and IntKind.i64 (bitI BinOp.and IntKind.i64 (bitI BinOp.xor IntKind.i64 (shrI IntKind.i64 (IntKind.i64.wrap (IntKind.i64.wrap (s.2*6364136223846793005)+1442695040888963407)) 33) (shrI IntKind.i64 (IntKind.i64.wrap (IntKind.i64.wrap (s.2*6364136223846793005)+1442695040888963407)) 45)) 255+f s.1) 255):Int)=(byY s.2 (f s.1))),(AN 3),(NL 1 1),(AN n),(AP n (fun i=>[.int .u8 (f i)])),((((↑s.1:Int)+1):Int)=(↑(s.1+1):Int)),(((IntKind.i64.wrap (IntKind.i64.wrap (s.2*6364136223846793005)+1442695040888963407)):Int)=(byH s.2)),(∀ i:Nat,(((i:Nat)<1)→All [(false=false),(AE n)]))] [0,0,1,0,2,0,3,0,0,4,0,0,5,6,7,8,9,10,0,11,12,0,1,13,14,15,15,16,17,18,19,20]):=by kernel_rfl
theorem drBb (n:Nat) (f:Nat→Int) (s:Nat×Int) :
    zP Tryz.f158 1 [rg 1,rm [(5,oF),(0,oF)] 3,rg 13,rg 10,.dec false,rg 2] [.code (bodyOf Tryz.f158)] (start Tryz.f158 [(0,cuO n f s)] 1 [.pt 3 0 0 0]) [0] 1 [(0,cuO n f (s.1,byH s.2))] (.p (.int .i64 (byX s.2))) =
    some (zD [(NT 0 1),((true=true)→ (AN 1)),(IL 0 33),(IL 0 45),((decide ((↑s.1:Int)<(↑n:Int)))=false),(((bitI BinOp.and IntKind.i64 (bitI BinOp.xor IntKind.i64 (shrI IntKind.i64 (IntKind.i64.wrap (IntKind.i64.wrap (s.2*6364136223846793005)+1442695040888963407)) 33) (shrI IntKind.i64 (IntKind.i64.wrap (IntKind.i64.wrap (s.2*6364136223846793005)+1442695040888963407)) 45)) 255):Int)=(byX s.2)),(AN 3),(NL 1 1),(AN n),(AP n (fun i=>[.int .u8 (f i)])),(AI ((↑s.1:Int))),(((IntKind.i64.wrap (IntKind.i64.wrap (s.2*6364136223846793005)+1442695040888963407)):Int)=(byH s.2)),(∀ i:Nat,(((i:Nat)<1)→All [(false=false),(AE n)]))] [0,0,1,0,2,0,3,0,0,4,5,6,7,7,8,9,10,11,12]):=by kernel_rfl
theorem drLz (n:Nat) (f:Nat→Int) (s:Nat×Int) (k:Int) :
    zP Tryz.f89 1 [rg 1,rg 2,.dec true,rg 1] [.code (bodyOf Tryz.f89)] (start Tryz.f89 [(0,cuO n f s)] 1 [.pt 3 0 0 0,.p (.int .i64 k)]) [0] 1 [(0,cuO n f s)] (.p (.int .i64 0)) =
    some [((decide (k≤0))=true),(AI 0),(AN 3),(NL 1 1),(NL 1 1),(AN n),(AP n (fun i=>[.int .u8 (f i)])),(AI ((↑s.1:Int))),(AI s.2),(∀ i:Nat,(((i:Nat)<1)→All [(false=false),(AE n)]))]:=by kernel_rfl
theorem drLa (n:Nat) (f:Nat→Int) (s s2:Nat×Int) (k x:Int) :
    zP Tryz.f89 1 [rg 1,rg 2,.dec false,rg 2,.dec true,rm [(1,⟨true,(some ⟨[0],[1000],[],1,[(0,cuO n f s2)],.p (.int .i64 x)⟩),none⟩)] 3] [.code (bodyOf Tryz.f89)] (start Tryz.f89 [(0,cuO n f s)] 1 [.pt 3 0 0 0,.p (.int .i64 k)]) [0] 1 [(0,cuO n f s2)] (.p (.int .i64 (x.tmod k))) =
    some [((decide (k≤0))=false),((decide (k≤256))=true),(AE 1),Con Tryz.prog 158 1 (zf96 n f s) [.pt 3 0 0 0] (zf96 n f s2) (.p (.int .i64 x)),(IL 0 x),(IT 0 k),(((x % k):Int)=(x.tmod k)),(AN 3),(NL 1 1),(NL 1 1),(AN n),(AP n (fun i=>[.int .u8 (f i)])),(AI ((↑s2.1:Int))),(AI s2.2),(∀ i:Nat,(((i:Nat)<1)→All [(false=false),(AE n)]))]:=by kernel_rfl
theorem drO (n:Nat) (f:Nat→Int) (s s2:Nat×Int) (k x:Int) :
    zP Tryz.f103 1 [rg 1,rm [(2,⟨true,(some ⟨[0],[1000],[],1,[(0,cuO n f s2)],.p (.int .i64 x)⟩),none⟩)] 2] [.code (bodyOf Tryz.f103)] (start Tryz.f103 [(0,cuO n f s)] 1 [.pt 3 0 0 0,.p (.int .i64 k)]) [0] 1 [(0,cuO n f s2)] (.p (.bool (x==0))) =
    some [(AE 1),Con Tryz.prog 89 1 (zf96 n f s) [.pt 3 0 0 0,.p (.int .i64 k)] (zf96 n f s2) (.p (.int .i64 x)),((x==0)=(x==0)),(AN 3),(NL 1 1),(NL 1 1),(AN n),(AP n (fun i=>[.int .u8 (f i)])),(AI ((↑s2.1:Int))),(AI s2.2),(∀ i:Nat,(((i:Nat)<1)→All [(false=false),(AE n)]))]:=by kernel_rfl
theorem and_255 (a:Int):0≤bitI .and .i64 a 255∧bitI .and .i64 a 255≤255:=by
  have h:bitI .and .i64 a 255=(((BitVec.ofInt 64 a).toNat &&& 255:Nat):Int):=by
    unfold bitI
    have e1:(BitVec.ofInt IntKind.i64.bits a &&& BitVec.ofInt IntKind.i64.bits 255).toNat=(BitVec.ofInt 64 a).toNat &&& 255:=by
      rw [BitVec.toNat_and];rfl
    simp only [e1]
    have h2:(BitVec.ofInt 64 a).toNat &&& 255≤255:=Nat.and_le_right
    exact wrap_in (by simp only [imin];omega) (by simp only [imax];omega)
  have h2:(BitVec.ofInt 64 a).toNat &&& 255≤255:=Nat.and_le_right
  rw [h]
  omega
def CdOk (n:Nat) (f:Nat→Int):Prop:=n≤1048576∧∀ i,i<n→0≤f i∧f i≤255
theorem con_big (n:Nat) (f:Nat→Int):zE 6 [cdA n f] [] (.p (.bool (decide ((n:Int)>1048576)))):=by
  refine csZ Tryz.func6 (fun c hc=>?_)
  refine pkZ Tryz.func6 hc (drBig n f) ?_
  and_intros
  all_goals (first | exact zN | (simp;done))
set_option maxRecDepth 20000 in
theorem con_l1New (n:Nat) (f:Nat→Int) (hn:CdOk n f):∃ s:Nat×Int,s.1≤n∧zE 87 [cdB n f] [(0,cuO n f s)] (.pt 3 0 0 0):=by
  have key:∀ e i h,i+e=n→∃ h':Int,∀ c:Cx,c.n=0→zR c 87 zf77 (Cn0 n f i h) (Post c [(0,cuO n f (0,h'))] (.pt 3 0 0 0)):=by
    intro e
    induction e with
    | zero =>
      intro i h hi
      refine ⟨h,fun c hc=>?_⟩
      have hd:decide ((i:Int)<(n:Int))=false:=decide_eq_false (by omega)
      refine pkD Tryz.func87 hc (drNe n f i h) ?_
      and_intros
      iterate 2 all_goals (first | exact zN | (rw [hd];rfl) | (simp [hd];done) | simp only [All])
    | succ e ih =>
      intro i h hi
      by_cases h4:i<4000
      · obtain ⟨h',hr⟩:=ih (i+1) (cnH h (f i)) (by omega)
        refine ⟨h',fun c hc=>?_⟩
        have hd:decide ((i:Int)<(n:Int))=true:=decide_eq_true (by omega)
        have hd4:decide ((i:Int)<4000)=true:=decide_eq_true (by omega)
        have hb:=hn.2 i (by omega)
        refine pcD hc (drNa n f i h) ?_ (hr c hc)
        and_intros
        all_goals (first | exact zN | (exact hd) | (exact hd4) | (rw [hd,hd4];rfl) | (simp [hd,hd4];done) | (simp;omega))
      · refine ⟨h,fun c hc=>?_⟩
        have hd4:decide ((i:Int)<4000)=false:=decide_eq_false (by omega)
        refine pkD Tryz.func87 hc (drNe n f i h) ?_
        and_intros
        iterate 2 all_goals (first | exact zN | (rw [hd4];cases decide ((i:Int)<(n:Int))<;>rfl) | (simp [hd4];done) | simp only [All])
  obtain ⟨h',hr⟩:=key n 0 (10101+n) (by omega)
  refine ⟨(0,h'),Nat.zero_le _,?_⟩
  have hn1:=hn.1
  refine csZ Tryz.func87 (fun c hc=>?_)
  refine pcZ hc (drNz n f) ?_ (hr c hc)
  and_intros
  all_goals (first | exact zN | (simp;omega))
theorem con_l1Byte (n:Nat) (f:Nat→Int) (hn:CdOk n f) (s:Nat×Int) (hs:s.1≤n):∃ (s2:Nat×Int) (x:Int),s2.1≤n∧(0≤x∧x≤255) ∧
    Con Tryz.prog 158 1 [(0,cuO n f s)] [.pt 3 0 0 0] [(0,cuO n f s2)] (.p (.int .i64 x)):=by
  have hn1:=hn.1
  by_cases h:s.1<n
  · have hd:decide ((s.1:Int)<(n:Int))=true:=decide_eq_true (by omega)
    have hb:=hn.2 s.1 h
    have hx:=and_255 (bitI .xor .i64 (shrI .i64 (byH s.2) 33) (shrI .i64 (byH s.2) 45))
    simp only [byH] at hx
    refine ⟨(s.1+1,byH s.2),byY s.2 (f s.1),h,and_255 _,?_⟩
    refine csZ Tryz.func158 (fun c hc=>?_)
    refine pkD Tryz.func158 hc (drBa n f s) ?_
    and_intros
    iterate 2 all_goals (first | exact zI | (exact hd) | (exact hb.1) | (simp;done) | (simp;omega) | simp only [All])
  · have hd:decide ((s.1:Int)<(n:Int))=false:=decide_eq_false (by omega)
    refine ⟨(s.1,byH s.2),byX s.2,hs,and_255 _,?_⟩
    refine csZ Tryz.func158 (fun c hc=>?_)
    refine pkD Tryz.func158 hc (drBb n f s) ?_
    and_intros
    iterate 2 all_goals (first | exact zI | (exact hd) | (simp;done) | (simp;omega) | simp only [All])
theorem con_l1Below (n:Nat) (f:Nat→Int) (hn:CdOk n f) (s:Nat×Int) (hs:s.1≤n) (k:Int) (hk:k≤256):∃ (s2:Nat×Int) (x:Int),s2.1≤n∧(0≤x∧(1≤k→x<k)∧x≤255) ∧
    Con Tryz.prog 89 1 [(0,cuO n f s)] [.pt 3 0 0 0,.p (.int .i64 k)] [(0,cuO n f s2)] (.p (.int .i64 x)):=by
  by_cases h:k≤0
  · have hd:decide (k≤0)=true:=decide_eq_true h
    refine ⟨s,0,hs,⟨Int.le_refl _,fun h1=>by omega,by omega⟩,?_⟩
    refine csZ Tryz.func89 (fun c hc=>?_)
    refine pkZ Tryz.func89 hc (drLz n f s k) ?_
    and_intros
    iterate 2 all_goals (first | exact zN | (exact hd) | (simp;done) | simp only [All])
  · have hd:decide (k≤0)=false:=decide_eq_false h
    have hd2:decide (k≤256)=true:=decide_eq_true hk
    obtain ⟨s2,x,h2,hx,cb⟩:=con_l1Byte n f hn s hs
    have e:x.tmod k=x % k:=Int.tmod_eq_emod_of_nonneg hx.1
    have e1:=Int.emod_nonneg x (show k≠0 by omega)
    have e2:=Int.emod_lt_of_pos x (show 0<k by omega)
    refine ⟨s2,x.tmod k,h2,by rw [e];exact ⟨e1,fun _=>e2,by omega⟩,?_⟩
    refine csZ Tryz.func89 (fun c hc=>?_)
    refine pkZ Tryz.func89 hc (drLa n f s s2 k x) ?_
    and_intros
    iterate 2 all_goals (first | exact zN | (exact hd) | (exact hd2) | (exact cb) | omega | (simp;done) | (simp;omega) | simp only [All])
theorem con_l1Once (n:Nat) (f:Nat→Int) (hn:CdOk n f) (s:Nat×Int) (hs:s.1≤n) (k:Int) (hk:k≤256):∃ (s2:Nat×Int) (b:Bool),s2.1≤n ∧
    Con Tryz.prog 103 1 [(0,cuO n f s)] [.pt 3 0 0 0,.p (.int .i64 k)] [(0,cuO n f s2)] (.p (.bool b)):=by
  obtain ⟨s2,x,h2,hx,cb⟩:=con_l1Below n f hn s hs k hk
  refine ⟨s2,x==0,h2,?_⟩
  refine csZ Tryz.func103 (fun c hc=>?_)
  refine pkZ Tryz.func103 hc (drO n f s s2 k x) ?_
  and_intros
  iterate 2 all_goals (first | exact zN | (exact cb) | (simp;done) | simp only [All])
def grR (N:Int) (k j:Nat):AV:=.agg [.p (.int .i64 N),.ar 2 j 0 k]
def dlX (h:Nat→T_Bar) (e i:Nat):T_Bar:=if i<e then h i else h (i+1)
theorem rmT (v:T_Graph) (e:Nat) :
    zS Tryz.f161 [rg 3,rm [(1,oc [] (.p (.bool true)))] 12,.dec false,rg 17] [graphA v,.p (.int .i64 e)] [960] [(0,brOb (v.2.1.1 - 1) (dlX v.2.1.2 e))] (.tup [grR v.1 (v.2.1.1 - 1) 0,.p (.bool true)]) =
    some (zD [(NT 0 1),zE 134 [(zf100 v)] [] (.p (.bool true)),(AG (!!true)),(((!true)=false)→ ((!!true)=true)),(AG (!bif !true then true else decide ((↑e:Int)<0))),(((!bif !true then true else decide ((↑e:Int)<0))=true)→(NT 0 1)),(((bif !true then true else decide ((↑e:Int)<0))=false)→ ((!bif !true then true else decide ((↑e:Int)<0))=true)),((bif bif !true then true else decide ((↑e:Int)<0) then true else decide ((↑e:Int)≥(↑v.2.1.1:Int)))=false),(IL 0 0),(IL 0 (↑e:Int)),(IL (↑e:Int) (↑v.2.1.1:Int)),(NL 0 0),(NL ((0+e)*16) 140737488355328),(NL (0+e) 9223372036854775807),(ZLo ((↑e:Int)+1)),(ZHi ((↑e:Int)+1)),(IL 0 ((↑e:Int)+1)),(IL ((↑e:Int)+1) (↑v.2.1.1:Int)),(IL (↑v.2.1.1:Int) (↑v.2.1.1:Int)),(NL (0+e) (0+e)),(NL ((0+e+(v.2.1.1 - (e+1)))*16) 140737488355328),(NL (0+e+(v.2.1.1 - (e+1))) 9223372036854775807),((true=true)→ (AN 1)),(AI v.1),(AN 0),(((0+e+(v.2.1.1 - (e+1))):Nat)=(v.2.1.1 - 1)),(true=true),(AN 2),(NL (v.2.1.1 - 1) (0+e+(v.2.1.1 - (e+1)))),(∀ i:Nat,(((i:Nat)<(v.2.1.1 - 1))→(All (cvtL false [(32,⟨true,2,1,(fun i_1=>[.p (.int .i64 v.1),.ar 2 960 0 (0+e+(v.2.1.1 - (e+1)))])⟩),(960,⟨false,2,(0+e+(v.2.1.1 - (e+1))),(fun i_1=>(if (i_1<0+e) then [.p (.int .i64 ((v.2.1.2 i_1).1)),.p (.int .i64 ((v.2.1.2 i_1).2.1))] else [.p (.int .i64 ((v.2.1.2 (i_1 - (0+e)+(e+1))).1)),.p (.int .i64 ((v.2.1.2 (i_1 - (0+e)+(e+1))).2.1))]))⟩),(0,⟨true,2,1,(fun i_1=>[.p (.int .i64 v.1),.p (.seq true 2 v.2.1.1 (bRw v.2.1.2))])⟩)] [960] 1 (if (i<0+e) then [.p (.int .i64 ((v.2.1.2 i).1)),.p (.int .i64 ((v.2.1.2 i).2.1))] else [.p (.int .i64 ((v.2.1.2 (i - (0+e)+(e+1))).1)),.p (.int .i64 ((v.2.1.2 (i - (0+e)+(e+1))).2.1))])).2∧(((cvtL false [(32,⟨true,2,1,(fun i_1=>[.p (.int .i64 v.1),.ar 2 960 0 (0+e+(v.2.1.1 - (e+1)))])⟩),(960,⟨false,2,(0+e+(v.2.1.1 - (e+1))),(fun i_1=>(if (i_1<0+e) then [.p (.int .i64 ((v.2.1.2 i_1).1)),.p (.int .i64 ((v.2.1.2 i_1).2.1))] else [.p (.int .i64 ((v.2.1.2 (i_1 - (0+e)+(e+1))).1)),.p (.int .i64 ((v.2.1.2 (i_1 - (0+e)+(e+1))).2.1))]))⟩),(0,⟨true,2,1,(fun i_1=>[.p (.int .i64 v.1),.p (.seq true 2 v.2.1.1 (bRw v.2.1.2))])⟩)] [960] 1 (if (i<0+e) then [.p (.int .i64 ((v.2.1.2 i).1)),.p (.int .i64 ((v.2.1.2 i).2.1))] else [.p (.int .i64 ((v.2.1.2 (i - (0+e)+(e+1))).1)),.p (.int .i64 ((v.2.1.2 (i - (0+e)+(e+1))).2.1))])).1:List AV)=[.p (.int .i64 ((dlX v.2.1.2 e i).1)),.p (.int .i64 ((dlX v.2.1.2 e i).2.1))])))),(AE ((v.2.1.1 - 1)))] [0,1,2,3,4,5,4,4,4,6,7,0,0,8,9,10,11,12,13,0,14,15,16,17,18,19,20,21,0,22,0,23,24,25,26,27,28,29,30]):=by kernel_rfl
theorem rmF (v:T_Graph) (e:Int) (b:Bool) :
    zS Tryz.f161 [rg 3,rm [(1,oc [] (.p (.bool b)))] 12,.dec true,rm [(1,oc [(0,brOb v.2.1.1 v.2.1.2)] (grR v.1 v.2.1.1 0))] 2] [graphA v,.p (.int .i64 e)] [576] [(0,brOb v.2.1.1 v.2.1.2)] (.tup [grR v.1 v.2.1.1 0,.p (.bool false)]) =
    some (zD [(NT 0 1),zE 134 [(zf100 v)] [] (.p (.bool b)),(AG (!!b)),(((!b)=false)→ ((!!b)=true)),(AG (!bif !b then true else decide (e<0))),(((!bif !b then true else decide (e<0))=true)→(NT 0 1)),(((bif !b then true else decide (e<0))=false)→ ((!bif !b then true else decide (e<0))=true)),((bif bif !b then true else decide (e<0) then true else decide (e≥(↑v.2.1.1:Int)))=true),zE 85 [(zf100 v)] (zf105 v) (.agg [.p (.int .i64 v.1),.ar 2 0 0 v.2.1.1]),((true=true)→ (AN 1)),(AI v.1),(AN 0),(AN v.2.1.1),(false=false),(AN 2),(NL v.2.1.1 v.2.1.1),(AA v.2.1.1 (fun i=>[.p (.int .i64 ((v.2.1.2 i).1)),.p (.int .i64 ((v.2.1.2 i).2.1))])),(AE v.2.1.1)] [0,1,2,3,4,5,4,4,4,6,7,0,8,0,9,0,10,11,12,13,14,15,16,17]):=by kernel_rfl
theorem dl_row (h:Nat→T_Bar) (e t:Nat):(if t<0+e then [AV.p (.int .i64 (h t).1),.p (.int .i64 (h t).2.1)] else [.p (.int .i64 (h (t - (0+e)+(e+1))).1),.p (.int .i64 (h (t - (0+e)+(e+1))).2.1)])=[.p (.int .i64 (dlX h e t).1),.p (.int .i64 (dlX h e t).2.1)]:=by
  by_cases h1:t<e
  · rw [if_pos (show t<0+e by omega)];simp [dlX,h1]
  · rw [if_neg (show ¬ t<0+e by omega),show t - (0+e)+(e+1)=t+1 by omega];simp [dlX,h1]
theorem con_RmvM (v:T_Graph) (hn:v.2.1.1≤1048576) (e:Int):∃ (m:Nat) (h:Nat→T_Bar) (ok:Bool),m≤v.2.1.1∧v.2.1.1≤m+1∧(∀ i,i<m→∃ j,j<v.2.1.1∧h i=v.2.1.2 j) ∧
    zE 161 [graphA v,.p (.int .i64 e)] [(0,brOb m h)] (.tup [grR v.1 m 0,.p (.bool ok)]):=by
  have c1:=con_IsGraph_s v (sm_graph hn)
  have c2:=con_l2Copy v hn
  by_cases hv:isGraphF v=true∧0≤e∧e<v.2.1.1
  · obtain ⟨hg,h0,h1⟩:=hv
    obtain ⟨e,rfl⟩:∃ t:Nat,e=(t:Int):=⟨e.toNat,by omega⟩
    have he:e<v.2.1.1:=by omega
    rw [hg] at c1
    have hd:(bif bif !true then true else decide ((e:Int)<0) then true else decide ((e:Int)≥(v.2.1.1:Int)))=false:=by
      rw [decide_eq_false (show ¬ ((e:Int)<0) by omega),decide_eq_false (show ¬ ((e:Int)≥(v.2.1.1:Int)) by omega)];rfl
    refine ⟨v.2.1.1 - 1,dlX v.2.1.2 e,true,by omega,by omega,fun i hi=>?_,?_⟩
    · unfold dlX
      split
      · exact ⟨i,by omega,rfl⟩
      · exact ⟨i+1,by omega,rfl⟩
    refine csZ Tryz.func161 (fun c hc=>?_)
    refine pkD Tryz.func161 hc (rmT v e) ?_
    and_intros
    all_goals (first | exact zH | (exact c1) | (exact hd) | (intro t ht;rw [dl_row];simp [cvtL,cvt,tg,tru,All];done) | (simp;done) | (simp;omega))
  · have hd:(bif bif !isGraphF v then true else decide (e<0) then true else decide (e≥(v.2.1.1:Int)))=true:=by
      cases hg:isGraphF v with
      | false=>rfl
      | true =>
        by_cases h1:e<0
        · rw [decide_eq_true h1];rfl
        · by_cases h2:e<v.2.1.1
          · exact absurd ⟨hg,by omega,h2⟩ hv
          · rw [decide_eq_true (show e≥(v.2.1.1:Int) by omega)];cases decide (e<0)<;>rfl
    refine ⟨v.2.1.1,v.2.1.2,false,Nat.le_refl _,by omega,fun i hi=>⟨i,hi,rfl⟩,?_⟩
    refine csZ Tryz.func161 (fun c hc=>?_)
    refine pkD Tryz.func161 hc (rmF v e (isGraphF v)) ?_
    and_intros
    all_goals (first | exact zH | (exact c1) | (exact c2) | (exact hd) | (intros;simp [All];done) | (simp;done) | (simp;omega))
def btI (w i:Int):Bool:=bitI .and .i64 (shrI .i64 w i) 1==1
def GSl (w M i c:Nat) (f:Nat→Int):St:=⟨[.p (.int .i64 M),.p (.int .i64 w),.p .any,.p .any,.p .any,.ar 1 0 0 c,.p (.int .i64 i)]++List.replicate 16 anyA,[(0,iOb c f)],1⟩
theorem gLz (w M:Nat) :
    zT Tryz.f214 [rg 1,rg 2,rg 1,.head] [.p (.int .i64 M),.p (.int .i64 w)] [32] (GSl w M 0 0 (fun _=>0)) =
    some (zf67,[(AI ((↑M:Int))),(AI ((↑w:Int))),(AN 0),(AN 0),((0:Int)=(↑0:Int)),(AN 1),(NL 0 0),(AA 0 (fun i=>[.p (.int .i64 0)]))]):=by kernel_rfl
theorem gLt (w M i c:Nat) (f:Nat→Int) :
    zM 0 [rg 3,.dec true,rg 5,.dec true,rg 5,rg 3,.head] zf67 (GSl w M i c f) [353] 1 (GSl w M (i+1) (c+1) (fun s=>if s<c then f s else i)) =
    some (zf67,[((decide ((↑i:Int)<(↑M:Int)))=true),(IL 0 (↑i:Int)),((bitI BinOp.and IntKind.i64 (shrI IntKind.i64 (↑w:Int) (↑i:Int)) 1==1)=true),(NL 1 1),(NL c c),(NL ((c+1)*8) 140737488355328),(NL (c+1) 9223372036854775807),(ZLo ((↑i:Int)+1)),(ZHi ((↑i:Int)+1)),(AI ((↑M:Int))),(AI ((↑w:Int))),(AN 0),(AN ((c+1))),((((↑i:Int)+1):Int)=(↑(i+1):Int)),(AN 1),(NL (c+1) (c+1)),(CV [(353,⟨false,1,(c+1),(fun i_2=>(if (i_2<c) then [.p (.int .i64 (f i_2))] else [.p (.int .i64 (↑i:Int))]))⟩),(321,⟨false,1,1,(fun i_2=>[.p (.int .i64 (↑i:Int))])⟩)] [353] 1 (c+1) (fun i_1=>if (i_1<c) then [.p (.int .i64 (f i_1))] else [.p (.int .i64 (↑i:Int))]) (fun i_1=>[.p (.int .i64 (if i_1<c then f i_1 else (↑i:Int)))]))]):=by kernel_rfl
theorem gLf (w M i c:Nat) (f:Nat→Int) :
    zM 0 [rg 3,.dec true,rg 5,.dec false,rg 3,.head] zf67 (GSl w M i c f) [0] 1 (GSl w M (i+1) c f) =
    some (zf67,[((decide ((↑i:Int)<(↑M:Int)))=true),(IL 0 (↑i:Int)),((bitI BinOp.and IntKind.i64 (shrI IntKind.i64 (↑w:Int) (↑i:Int)) 1==1)=false),(ZLo ((↑i:Int)+1)),(ZHi ((↑i:Int)+1)),(AI ((↑M:Int))),(AI ((↑w:Int))),(AN 0),(AN c),((((↑i:Int)+1):Int)=(↑(i+1):Int)),(AN 1),(NL c c),(AA c (fun i_1=>[.p (.int .i64 (f i_1))]))]):=by kernel_rfl
theorem gLe (w M i c:Nat) (f:Nat→Int) :
    zP Tryz.f214 0 [rg 3,.dec false,rg 2] zf67 (GSl w M i c f) [0] 1 [(0,iOb c f)] (.ar 1 0 0 c) =
    some [((decide ((↑i:Int)<(↑M:Int)))=false),(AN 0),(AN c),(AN 1),(NL c c),(AA c (fun i_1=>[.p (.int .i64 (f i_1))])),(AE c)]:=by kernel_rfl
def stD (w:Nat):Nat→T_IntS
  | 0=>(0,fun _=>0)
  | i+1=>if btI w i=true then ((stD w i).1+1,fun s=>if s<(stD w i).1 then (stD w i).2 s else i) else stD w i
theorem stD_n (w:Nat):∀ i,(stD w i).1≤i
  | 0=>Nat.le_refl _
  | i+1=>by
    have:=stD_n w i
    simp only [stD]
    split
    · show (stD w i).1+1≤i+1;omega
    · omega
theorem con_l3Set (w M:Nat) (hM:M≤62):zE 214 [.p (.int .i64 M),.p (.int .i64 w)] [(0,iOb (stD w M).1 (stD w M).2)] (.ar 1 0 0 (stD w M).1):=by
  refine csZ Tryz.func214 (fun c hc=>?_)
  generalize hR:stD w M=R
  have lo:∀ d i,i+d=M→zR c 214 zf67 (GSl w M i (stD w i).1 (stD w i).2) (Post c [(0,iOb R.1 R.2)] (.ar 1 0 0 R.1)):=by
    intro d
    induction d with
    | zero =>
      intro i hi
      obtain rfl:i=M:=by omega
      have hd:decide ((i:Int)<(i:Int))=false:=by simp
      rw [hR]
      refine pkZ Tryz.func214 hc (gLe w i i R.1 R.2) ?_
      and_intros
      all_goals (first | exact zN | (exact hd) | (intro t ht;simp [All]))
    | succ d ih =>
      intro i hi
      have hd:decide ((i:Int)<(M:Int))=true:=decide_eq_true (by omega)
      have hrec:=ih (i+1) (by omega)
      have hn:=stD_n w i
      cases hb:btI w i with
      | true =>
        rw [show stD w (i+1)=((stD w i).1+1,fun s=>if s<(stD w i).1 then (stD w i).2 s else i) by simp [stD,hb]] at hrec
        generalize stD w i=q at hn hrec ⊢
        refine pcZ hc (gLt w M i q.1 q.2) ?_ hrec
        and_intros
        all_goals (first | exact zN | (exact hd) | (exact hb) | (intro t ht;by_cases h':t<q.1<;>simp [h',cvtL,cvt,tg,tru,All]))
      | false =>
        rw [show stD w (i+1)=stD w i by simp [stD,hb]] at hrec
        generalize stD w i=q at hn hrec ⊢
        refine pcZ hc (gLf w M i q.1 q.2) ?_ hrec
        and_intros
        all_goals (first | exact zN | (exact hd) | (exact hb) | (intro t ht;simp [All]))
  refine pcZ hc (gLz w M) ?_ (lo M 0 (by omega))
  and_intros
  all_goals (first | exact zN | (intro t ht;exact absurd ht (Nat.not_lt_zero _)) | (intro t ht;simp [All]))
def piR (N:Int) (k m j:Nat):AV:=.agg [.p (.int .i64 N),.ar 2 j 0 k,.ar 1 (j+1:Nat) 0 m]
def SIs (n:Nat) (f:Nat→Int) (s:Nat×Int) (I K:Nat) (k:Nat) (h:Nat→T_Bar) (u:T_IntS) (v:Nat):St :=
  ⟨[.pt 3 0 0 0,.p (.int .i64 I),.p .any,.p .any,.pt 3 1 0 0,.p (.int .i64 K),.p .any,.pt 3 2 0 0,.p (.int .i64 v)]++List.replicate 139 anyA,[(0,cuO n f s),(1,zP3),(2,pgO ((K:Int)+(I:Int)) k u.1),(3,brOb k h),(4,iOb u.1 u.2)],5⟩
def SSe (n:Nat) (f:Nat→Int) (s:Nat×Int) (N:Int) (k:Nat) (h:Nat→T_Bar) (u:T_IntS) (q:Nat):St :=
  ⟨[.pt 3 0 0 0,.p .any,.pt 3 1 0 0,.pt 3 2 0 0,.p (.int .i64 q)]++List.replicate 54 anyA,[(0,cuO n f s),(1,zP3),(2,pgO N k u.1),(3,brOb k h),(4,iOb u.1 u.2)],5⟩
def twoF (a b:Int) (i:Nat):Int:=if i=0 then a else b
theorem diz (n:Nat) (f:Nat→Int) (s s1:Nat×Int) (I K:Nat) (x:Int) (u:T_IntS) :
    zM 1 [rg 1,rm [(1,⟨true,(some ⟨[0],[1000],[],1,[(0,cuO n f s1)],.p (.int .i64 x)⟩),none⟩)] 2,rg 7,rm [(5,oc [(0,iOb u.1 u.2)] (.ar 1 0 0 u.1))] 3,rg 2,.head] [.code (bodyOf Tryz.f191)] (start Tryz.f191 [(0,cuO n f s)] 1 [.pt 3 0 0 0,.p (.int .i64 I)]) [0,1,609,257,545] 1 (SIs n f s1 I K 0 (fun _=>(0,0,())) u K) =
    some (zf35,zD [(AE 1),Con Tryz.prog 89 1 (zf96 n f s) [.pt 3 0 0 0,.p (.int .i64 2)] (zf96 n f s1) (.p (.int .i64 x)),(ZLo (2+x)),(ZHi (2+x)),(ZLo (2+x+(↑I:Int))),(ZHi (2+x+(↑I:Int))),(NT 0 1),((true=true)→ (AN 1)),(IL 0 (2+x)),(ZLo (shlI IntKind.i64 1 (2+x) - 1)),(ZHi (shlI IntKind.i64 1 (2+x) - 1)),zE 214 [.p (.int .i64 (2+x)),.p (.int .i64 (shlI IntKind.i64 1 (2+x) - 1))] [(0,⟨false,1,u.1,(fun i=>[.p (.int .i64 (u.2 i))])⟩)] (.ar 1 0 0 u.1),(AN 0),(AI ((↑I:Int))),(((2+x):Int)=(↑K:Int)),(AN 3),(NL 1 1),(AN n),(AP n (fun i=>[.int .u8 (f i)])),(AI ((↑s1.1:Int))),(AI s1.2),((((List.map (fun v=>AV.p (absV v)) [Value.int IntKind.i64 0,Value.slice none 0 0,Value.slice none 0 0]).length):Nat)=3),(AI 0),(((2+x+(↑I:Int)):Int)=((↑K:Int)+(↑I:Int))),(AN u.1),(AN 2),(NL 0 0),(AA 0 (fun i=>[.p (.int .i64 0),.p (.int .i64 0)])),(AN 1),(NL u.1 u.1),(AA u.1 (fun i=>[.p (.int .i64 (u.2 i))]))] [0,1,2,3,4,5,6,7,6,8,9,10,11,6,7,12,13,12,14,12,14,15,16,16,17,18,19,20,21,16,16,22,21,16,16,23,12,12,12,24,25,26,27,28,29,30]):=by kernel_rfl
theorem die (n:Nat) (f:Nat→Int) (s:Nat×Int) (I K:Nat) (k:Nat) (h:Nat→T_Bar) (u:T_IntS) (v:Nat) :
    zP Tryz.f191 1 [rg 5,.dec false,rg 2] zf35 (SIs n f s I K k h u v) [0,3,4] 1 [(0,cuO n f s),(1,brOb k h),(2,iOb u.1 u.2)] (piR ((K:Int)+(I:Int)) k u.1 1) =
    some [(ZLo ((↑K:Int)+(↑I:Int))),(ZHi ((↑K:Int)+(↑I:Int))),((decide ((↑v:Int)<(↑K:Int)+(↑I:Int)))=false),(NT 0 1),(NT 0 1),((true=true)→ (AN 1)),(NT 0 1),(AI (((↑K:Int)+(↑I:Int)))),(AN 0),(AN k),(AN 0),(AN u.1),(AN 3),(NL 1 1),(NL 1 1),(AN n),(AP n (fun i=>[.int .u8 (f i)])),(AI ((↑s.1:Int))),(AI s.2),(AN 2),(NL k k),(AA k (fun i=>[.p (.int .i64 ((h i).1)),.p (.int .i64 ((h i).2.1))])),(AN 1),(NL u.1 u.1),(AA u.1 (fun i=>[.p (.int .i64 (u.2 i))])),(∀ i:Nat,(((i:Nat)<1)→All [(false=false),(AE n)])),(AE k),(AE u.1)]:=by kernel_rfl
theorem diA (n:Nat) (f:Nat→Int) (s s1 s2 s3 s4 s5 s6:Nat×Int) (I K:Nat) (k:Nat) (h:Nat→T_Bar) (u:T_IntS) (v:Nat) (a y e2:Int) (e:Nat) (k0 k1 k2 k3:Nat) (h0 h1 h2 h3:Nat→T_Bar) (ok:Bool) :
    zM 1 [rg 5,.dec true,rm [(4,gF),(0,gF),(0,gF)] 7,.dec false,rm [(2,⟨true,(some ⟨[0],[1000],[],1,[(0,cuO n f s1)],.p (.int .i64 a)⟩),none⟩)] 1,rm [(5,⟨true,(some ⟨[0],[1000],[],1,[(0,cuO n f s2)],.p (.int .i64 y)⟩),none⟩)] 4,rm [(5,oc [(0,brOb k1 h1)] (grR ((K:Int)+(I:Int)) k1 0)),(3,oc [(0,brOb k2 h2)] (grR ((K:Int)+(I:Int)) k2 0))] 2,rg 3,.head] zf35 (SIs n f s I K k h u v) [0,1,2,1349,4] 1 (SIs n f s2 I K k2 h2 u (v+1)) =
    some (zf35,zD [(ZLo ((↑K:Int)+(↑I:Int))),(ZHi ((↑K:Int)+(↑I:Int))),((decide ((↑v:Int)<(↑K:Int)+(↑I:Int)))=true),((decide ((↑v:Int)>(↑K:Int)))=false),(AG false),((false=true)→(NT 0 1)),((bif false then decide ((↑k:Int)>0) else false)=false),(AE 1),Con Tryz.prog 89 1 (zf96 n f s) [.pt 3 0 0 0,.p (.int .i64 (↑v:Int))] (zf96 n f s1) (.p (.int .i64 a)),(ZLo (a+1)),(ZHi (a+1)),(ZLo ((↑v:Int) - 1)),(ZHi ((↑v:Int) - 1)),Con Tryz.prog 89 1 (zf96 n f s1) [.pt 3 0 0 0,.p (.int .i64 ((↑v:Int) - 1))] (zf96 n f s2) (.p (.int .i64 y)),(ZLo (a+1+y)),(ZHi (a+1+y)),(IL 0 (a+1+y)),(IT 0 (↑v:Int)),(NT 0 1),(AN 2),(NL k k),zE 136 [(zf99 K I k h),.agg [.p (.int .i64 a),.p (.int .i64 (↑v:Int))]] (zf113 k1 h1) ((zf124 K I k1)),(NL k1 k1),zE 136 [(zf99 K I k1 h1),(zf115 a y v)] (zf113 k2 h2) ((zf124 K I k2)),((true=true)→ (AN 1)),(ZLo ((↑v:Int)+1)),(ZHi ((↑v:Int)+1)),(AN 0),(AI ((↑I:Int))),(AI ((↑K:Int))),((((↑v:Int)+1):Int)=(↑(v+1):Int)),(AN 3),(NL 1 1),(AN n),(AP n (fun i=>[.int .u8 (f i)])),(AI ((↑s2.1:Int))),(AI s2.2),(AI 0),(AI (((↑K:Int)+(↑I:Int)))),(AN k2),(AN u.1),(NL k2 k2),(AA k2 (fun i=>[.p (.int .i64 ((h2 i).1)),.p (.int .i64 ((h2 i).2.1))])),(AN 1),(NL u.1 u.1),(AA u.1 (fun i=>[.p (.int .i64 (u.2 i))]))] [0,1,2,3,3,3,4,4,5,4,4,4,6,7,8,9,10,11,12,7,13,14,15,16,17,18,19,20,21,19,22,23,18,24,25,26,27,28,27,29,27,30,31,32,32,33,34,35,36,31,32,32,37,31,32,32,38,27,39,27,40,19,41,42,43,44,45]):=by kernel_rfl
theorem diB (n:Nat) (f:Nat→Int) (s s1 s2 s3 s4 s5 s6:Nat×Int) (I K:Nat) (k:Nat) (h:Nat→T_Bar) (u:T_IntS) (v:Nat) (a y e2:Int) (e:Nat) (k0 k1 k2 k3:Nat) (h0 h1 h2 h3:Nat→T_Bar) (ok:Bool) :
    zM 1 [rg 5,.dec true,rm [(4,gT),(0,⟨true,(some ⟨[0],[1000],[],1,[(0,cuO n f s1)],.p (.bool false)⟩),some true⟩),(0,gT)] 7,.dec false,rm [(2,⟨true,(some ⟨[0],[1000],[],1,[(0,cuO n f s2)],.p (.int .i64 a)⟩),none⟩)] 1,rm [(5,⟨true,(some ⟨[0],[1000],[],1,[(0,cuO n f s3)],.p (.int .i64 y)⟩),none⟩)] 4,rm [(5,oc [(0,brOb k1 h1)] (grR ((K:Int)+(I:Int)) k1 0)),(3,oc [(0,brOb k2 h2)] (grR ((K:Int)+(I:Int)) k2 0))] 2,rg 3,.head] zf35 (SIs n f s I K k h u v) [0,1,2,1349,4] 1 (SIs n f s3 I K k2 h2 u (v+1)) =
    some (zf35,zD [(ZLo ((↑K:Int)+(↑I:Int))),(ZHi ((↑K:Int)+(↑I:Int))),((decide ((↑v:Int)<(↑K:Int)+(↑I:Int)))=true),((decide ((↑v:Int)>(↑K:Int)))=true),(AE 1),Con Tryz.prog 103 1 (zf96 n f s) [.pt 3 0 0 0,.p (.int .i64 2)] (zf96 n f s1) (.p (.bool false)),(AG false),((false=true)→(NT 0 1)),((bif false then decide ((↑k:Int)>0) else false)=false),Con Tryz.prog 89 1 (zf96 n f s1) [.pt 3 0 0 0,.p (.int .i64 (↑v:Int))] (zf96 n f s2) (.p (.int .i64 a)),(ZLo (a+1)),(ZHi (a+1)),(ZLo ((↑v:Int) - 1)),(ZHi ((↑v:Int) - 1)),Con Tryz.prog 89 1 (zf96 n f s2) [.pt 3 0 0 0,.p (.int .i64 ((↑v:Int) - 1))] (zf96 n f s3) (.p (.int .i64 y)),(ZLo (a+1+y)),(ZHi (a+1+y)),(IL 0 (a+1+y)),(IT 0 (↑v:Int)),(NT 0 1),(AN 2),(NL k k),zE 136 [(zf99 K I k h),.agg [.p (.int .i64 a),.p (.int .i64 (↑v:Int))]] (zf113 k1 h1) ((zf124 K I k1)),(NL k1 k1),zE 136 [(zf99 K I k1 h1),(zf115 a y v)] (zf113 k2 h2) ((zf124 K I k2)),((true=true)→ (AN 1)),(ZLo ((↑v:Int)+1)),(ZHi ((↑v:Int)+1)),(AN 0),(AI ((↑I:Int))),(AI ((↑K:Int))),((((↑v:Int)+1):Int)=(↑(v+1):Int)),(AN 3),(NL 1 1),(AN n),(AP n (fun i=>[.int .u8 (f i)])),(AI ((↑s3.1:Int))),(AI s3.2),(AI 0),(AI (((↑K:Int)+(↑I:Int)))),(AN k2),(AN u.1),(NL k2 k2),(AA k2 (fun i=>[.p (.int .i64 ((h2 i).1)),.p (.int .i64 ((h2 i).2.1))])),(AN 1),(NL u.1 u.1),(AA u.1 (fun i=>[.p (.int .i64 (u.2 i))]))] [0,1,2,3,3,4,5,3,6,6,7,6,6,6,8,4,9,10,11,12,13,4,14,15,16,17,18,19,20,21,22,20,23,24,19,25,26,27,28,29,28,30,28,31,32,33,33,34,35,36,37,32,33,33,38,32,33,33,39,28,40,28,41,20,42,43,44,45,46]):=by kernel_rfl
theorem diC (n:Nat) (f:Nat→Int) (s s1 s2 s3 s4 s5 s6:Nat×Int) (I K:Nat) (k:Nat) (h:Nat→T_Bar) (u:T_IntS) (v:Nat) (a y e2:Int) (e:Nat) (k0 k1 k2 k3:Nat) (h0 h1 h2 h3:Nat→T_Bar) (ok:Bool) :
    zM 1 [rg 5,.dec true,rm [(4,gT),(0,⟨true,(some ⟨[0],[1000],[],1,[(0,cuO n f s1)],.p (.bool true)⟩),some true⟩),(0,gT)] 7,.dec true,rm [(5,⟨true,(some ⟨[0],[1000],[],1,[(0,cuO n f s2)],.p (.int .i64 e)⟩),none⟩)] 1,rg 8,rm [(6,⟨true,(some ⟨[0],[1000],[],1,[(0,cuO n f s3)],.p (.int .i64 y)⟩),none⟩)] 4,rg 10,.dec false,rg 10,.dec true,rm [(3,oc [(0,brOb k0 h0)] (.tup [grR ((K:Int)+(I:Int)) k0 0,.p (.bool ok)]))] 6,rm [(5,oc [(0,brOb k1 h1)] (grR ((K:Int)+(I:Int)) k1 0)),(4,oc [(0,brOb k2 h2)] (grR ((K:Int)+(I:Int)) k2 0))] 1,rm [(4,oc [(0,brOb k3 h3)] (grR ((K:Int)+(I:Int)) k3 0))] 2,rg 3,.head] zf35 (SIs n f s I K k h u v) [0,1,2,2917,4] 1 (SIs n f s3 I K k3 h3 u (v+1)) =
    some (zf35,zD [(ZLo ((↑K:Int)+(↑I:Int))),(ZHi ((↑K:Int)+(↑I:Int))),((decide ((↑v:Int)<(↑K:Int)+(↑I:Int)))=true),((decide ((↑v:Int)>(↑K:Int)))=true),(AE 1),Con Tryz.prog 103 1 (zf96 n f s) [.pt 3 0 0 0,.p (.int .i64 2)] (zf96 n f s1) (.p (.bool true)),(AG true),((true=true)→(NT 0 1)),((bif true then decide ((↑k:Int)>0) else false)=true),(NT 0 1),Con Tryz.prog 89 1 (zf96 n f s1) [.pt 3 0 0 0,.p (.int .i64 (↑k:Int))] (zf96 n f s2) (.p (.int .i64 (↑e:Int))),(IL 0 (↑e:Int)),(IT (↑e:Int) (↑k:Int)),(NT e k),((true=true)→ (AN 1)),(ZLo ((h e).2.1+1)),(ZHi ((h e).2.1+1)),(ZLo ((↑v:Int) - 1)),(ZHi ((↑v:Int) - 1)),Con Tryz.prog 89 1 (zf96 n f s2) [.pt 3 0 0 0,.p (.int .i64 ((↑v:Int) - 1))] (zf96 n f s3) (.p (.int .i64 y)),(ZLo ((h e).2.1+1+y)),(ZHi ((h e).2.1+1+y)),(IL 0 ((h e).2.1+1+y)),(IT 0 (↑v:Int)),(AG (!((h e).2.1+1+y) % (↑v:Int)==(h e).1)),(((!((h e).2.1+1+y) % (↑v:Int)==(h e).1)=true)→(NT 0 1)),(((((h e).2.1+1+y) % (↑v:Int)==(h e).1)=false)→ ((!((h e).2.1+1+y) % (↑v:Int)==(h e).1)=true)),((bif ((h e).2.1+1+y) % (↑v:Int)==(h e).1 then true else ((h e).2.1+1+y) % (↑v:Int)==(h e).2.1)=false),(AG (((h e).2.1+1+y) % (↑v:Int) != (h e).1)),(((((h e).2.1+1+y) % (↑v:Int) != (h e).1)=true)→(NT 0 1)),((bif ((h e).2.1+1+y) % (↑v:Int) != (h e).1 then ((h e).2.1+1+y) % (↑v:Int) != (h e).2.1 else false)=true),(AN 2),(NL k k),zE 161 [(zf99 K I k h),.p (.int .i64 (↑e:Int))] (zf113 k0 h0) (.tup [(zf124 K I k0),.p (.bool ok)]),(NL k0 k0),zE 136 [(zf99 K I k0 h0),.agg [.p (.int .i64 ((h e).1)),.p (.int .i64 (↑v:Int))]] (zf113 k1 h1) ((zf124 K I k1)),(NL k1 k1),zE 136 [(zf99 K I k1 h1),.agg [.p (.int .i64 ((h e).2.1)),.p (.int .i64 (↑v:Int))]] (zf113 k2 h2) ((zf124 K I k2)),(NL k2 k2),zE 136 [(zf99 K I k2 h2),.agg [.p (.int .i64 (((h e).2.1+1+y) % (↑v:Int))),.p (.int .i64 (↑v:Int))]] (zf113 k3 h3) ((zf124 K I k3)),(ZLo ((↑v:Int)+1)),(ZHi ((↑v:Int)+1)),(AN 0),(AI ((↑I:Int))),(AI ((↑K:Int))),((((↑v:Int)+1):Int)=(↑(v+1):Int)),(AN 3),(NL 1 1),(AN n),(AP n (fun i=>[.int .u8 (f i)])),(AI ((↑s3.1:Int))),(AI s3.2),(AI 0),(AI (((↑K:Int)+(↑I:Int)))),(AN k3),(AN u.1),(NL k3 k3),(AA k3 (fun i=>[.p (.int .i64 ((h3 i).1)),.p (.int .i64 ((h3 i).2.1))])),(AN 1),(NL u.1 u.1),(AA u.1 (fun i=>[.p (.int .i64 (u.2 i))]))] [0,1,2,3,3,4,5,3,6,6,7,6,6,6,8,9,4,10,9,11,12,13,9,14,9,15,16,17,18,4,19,20,21,22,23,9,24,25,24,24,26,27,9,28,29,28,28,28,30,9,31,32,33,9,14,9,9,31,34,35,9,31,36,37,9,14,9,31,38,39,9,14,40,41,42,43,42,44,42,45,46,47,47,48,49,50,51,46,47,47,52,46,47,47,53,42,54,42,55,31,56,57,58,59,60]):=by kernel_rfl
theorem diD (n:Nat) (f:Nat→Int) (s s1 s2 s3 s4 s5 s6:Nat×Int) (I K:Nat) (k:Nat) (h:Nat→T_Bar) (u:T_IntS) (v:Nat) (a y e2:Int) (e:Nat) (k0 k1 k2 k3:Nat) (h0 h1 h2 h3:Nat→T_Bar) (ok:Bool) :
    zM 1 [rg 5,.dec true,rm [(4,gT),(0,⟨true,(some ⟨[0],[1000],[],1,[(0,cuO n f s1)],.p (.bool true)⟩),some true⟩),(0,gT)] 7,.dec true,rm [(5,⟨true,(some ⟨[0],[1000],[],1,[(0,cuO n f s2)],.p (.int .i64 e)⟩),none⟩)] 1,rg 8,rm [(6,⟨true,(some ⟨[0],[1000],[],1,[(0,cuO n f s3)],.p (.int .i64 y)⟩),none⟩)] 4,rg 10,.dec true,rg 6,rg 10,.dec true,rm [(3,oc [(0,brOb k0 h0)] (.tup [grR ((K:Int)+(I:Int)) k0 0,.p (.bool ok)]))] 6,rm [(5,oc [(0,brOb k1 h1)] (grR ((K:Int)+(I:Int)) k1 0)),(4,oc [(0,brOb k2 h2)] (grR ((K:Int)+(I:Int)) k2 0))] 1,rm [(4,oc [(0,brOb k3 h3)] (grR ((K:Int)+(I:Int)) k3 0))] 2,rg 3,.head] zf35 (SIs n f s I K k h u v) [0,1,2,3109,4] 1 (SIs n f s3 I K k3 h3 u (v+1)) =
    some (zf35,zD [(ZLo ((↑K:Int)+(↑I:Int))),(ZHi ((↑K:Int)+(↑I:Int))),((decide ((↑v:Int)<(↑K:Int)+(↑I:Int)))=true),((decide ((↑v:Int)>(↑K:Int)))=true),(AE 1),Con Tryz.prog 103 1 (zf96 n f s) [.pt 3 0 0 0,.p (.int .i64 2)] (zf96 n f s1) (.p (.bool true)),(AG true),((true=true)→(NT 0 1)),((bif true then decide ((↑k:Int)>0) else false)=true),(NT 0 1),Con Tryz.prog 89 1 (zf96 n f s1) [.pt 3 0 0 0,.p (.int .i64 (↑k:Int))] (zf96 n f s2) (.p (.int .i64 (↑e:Int))),(IL 0 (↑e:Int)),(IT (↑e:Int) (↑k:Int)),(NT e k),((true=true)→ (AN 1)),(ZLo ((h e).2.1+1)),(ZHi ((h e).2.1+1)),(ZLo ((↑v:Int) - 1)),(ZHi ((↑v:Int) - 1)),Con Tryz.prog 89 1 (zf96 n f s2) [.pt 3 0 0 0,.p (.int .i64 ((↑v:Int) - 1))] (zf96 n f s3) (.p (.int .i64 y)),(ZLo ((h e).2.1+1+y)),(ZHi ((h e).2.1+1+y)),(IL 0 ((h e).2.1+1+y)),(IT 0 (↑v:Int)),(AG (!((h e).2.1+1+y) % (↑v:Int)==(h e).1)),(((!((h e).2.1+1+y) % (↑v:Int)==(h e).1)=true)→(NT 0 1)),(((((h e).2.1+1+y) % (↑v:Int)==(h e).1)=false)→ ((!((h e).2.1+1+y) % (↑v:Int)==(h e).1)=true)),((bif ((h e).2.1+1+y) % (↑v:Int)==(h e).1 then true else ((h e).2.1+1+y) % (↑v:Int)==(h e).2.1)=true),(IL 0 ((h e).2.1+1)),(AG (((h e).2.1+1) % (↑v:Int) != (h e).1)),(((((h e).2.1+1) % (↑v:Int) != (h e).1)=true)→(NT 0 1)),((bif ((h e).2.1+1) % (↑v:Int) != (h e).1 then ((h e).2.1+1) % (↑v:Int) != (h e).2.1 else false)=true),(AN 2),(NL k k),zE 161 [(zf99 K I k h),.p (.int .i64 (↑e:Int))] (zf113 k0 h0) (.tup [(zf124 K I k0),.p (.bool ok)]),(NL k0 k0),zE 136 [(zf99 K I k0 h0),.agg [.p (.int .i64 ((h e).1)),.p (.int .i64 (↑v:Int))]] (zf113 k1 h1) ((zf124 K I k1)),(NL k1 k1),zE 136 [(zf99 K I k1 h1),.agg [.p (.int .i64 ((h e).2.1)),.p (.int .i64 (↑v:Int))]] (zf113 k2 h2) ((zf124 K I k2)),(NL k2 k2),zE 136 [(zf99 K I k2 h2),.agg [.p (.int .i64 (((h e).2.1+1) % (↑v:Int))),.p (.int .i64 (↑v:Int))]] (zf113 k3 h3) ((zf124 K I k3)),(ZLo ((↑v:Int)+1)),(ZHi ((↑v:Int)+1)),(AN 0),(AI ((↑I:Int))),(AI ((↑K:Int))),((((↑v:Int)+1):Int)=(↑(v+1):Int)),(AN 3),(NL 1 1),(AN n),(AP n (fun i=>[.int .u8 (f i)])),(AI ((↑s3.1:Int))),(AI s3.2),(AI 0),(AI (((↑K:Int)+(↑I:Int)))),(AN k3),(AN u.1),(NL k3 k3),(AA k3 (fun i=>[.p (.int .i64 ((h3 i).1)),.p (.int .i64 ((h3 i).2.1))])),(AN 1),(NL u.1 u.1),(AA u.1 (fun i=>[.p (.int .i64 (u.2 i))]))] [0,1,2,3,3,4,5,3,6,6,7,6,6,6,8,9,4,10,9,11,12,13,9,14,9,15,16,17,18,4,19,20,21,22,23,9,24,25,24,24,26,27,9,15,16,28,23,9,29,30,29,29,29,31,9,32,33,34,9,14,9,9,32,35,36,9,32,37,38,9,14,9,32,39,40,9,14,41,42,43,44,43,45,43,46,47,48,48,49,50,51,52,47,48,48,53,47,48,48,54,43,55,43,56,32,57,58,59,60,61]):=by kernel_rfl
theorem diE (n:Nat) (f:Nat→Int) (s s1 s2 s3 s4 s5 s6:Nat×Int) (I K:Nat) (k:Nat) (h:Nat→T_Bar) (u:T_IntS) (v:Nat) (a y e2:Int) (e:Nat) (k0 k1 k2 k3:Nat) (h0 h1 h2 h3:Nat→T_Bar) (ok:Bool) :
    zM 1 [rg 5,.dec true,rm [(4,gT),(0,⟨true,(some ⟨[0],[1000],[],1,[(0,cuO n f s1)],.p (.bool true)⟩),some true⟩),(0,gT)] 7,.dec true,rm [(5,⟨true,(some ⟨[0],[1000],[],1,[(0,cuO n f s2)],.p (.int .i64 e)⟩),none⟩)] 1,rg 8,rm [(6,⟨true,(some ⟨[0],[1000],[],1,[(0,cuO n f s3)],.p (.int .i64 y)⟩),none⟩)] 4,rg 10,.dec true,rg 6,rg 10,.dec false,rm [(2,⟨true,(some ⟨[0],[1000],[],1,[(0,cuO n f s4)],.p (.int .i64 a)⟩),none⟩)] 1,rm [(5,⟨true,(some ⟨[0],[1000],[],1,[(0,cuO n f s5)],.p (.int .i64 e2)⟩),none⟩)] 4,rm [(5,oc [(0,brOb k1 h1)] (grR ((K:Int)+(I:Int)) k1 0)),(3,oc [(0,brOb k2 h2)] (grR ((K:Int)+(I:Int)) k2 0))] 2,rg 3,.head] zf35 (SIs n f s I K k h u v) [0,1,2,3013,4] 1 (SIs n f s5 I K k2 h2 u (v+1)) =
    some (zf35,zD [(ZLo ((↑K:Int)+(↑I:Int))),(ZHi ((↑K:Int)+(↑I:Int))),((decide ((↑v:Int)<(↑K:Int)+(↑I:Int)))=true),((decide ((↑v:Int)>(↑K:Int)))=true),(AE 1),Con Tryz.prog 103 1 (zf96 n f s) [.pt 3 0 0 0,.p (.int .i64 2)] (zf96 n f s1) (.p (.bool true)),(AG true),((true=true)→(NT 0 1)),((bif true then decide ((↑k:Int)>0) else false)=true),(NT 0 1),Con Tryz.prog 89 1 (zf96 n f s1) [.pt 3 0 0 0,.p (.int .i64 (↑k:Int))] (zf96 n f s2) (.p (.int .i64 (↑e:Int))),(IL 0 (↑e:Int)),(IT (↑e:Int) (↑k:Int)),(NT e k),((true=true)→ (AN 1)),(ZLo ((h e).2.1+1)),(ZHi ((h e).2.1+1)),(ZLo ((↑v:Int) - 1)),(ZHi ((↑v:Int) - 1)),Con Tryz.prog 89 1 (zf96 n f s2) [.pt 3 0 0 0,.p (.int .i64 ((↑v:Int) - 1))] (zf96 n f s3) (.p (.int .i64 y)),(ZLo ((h e).2.1+1+y)),(ZHi ((h e).2.1+1+y)),(IL 0 ((h e).2.1+1+y)),(IT 0 (↑v:Int)),(AG (!((h e).2.1+1+y) % (↑v:Int)==(h e).1)),(((!((h e).2.1+1+y) % (↑v:Int)==(h e).1)=true)→(NT 0 1)),(((((h e).2.1+1+y) % (↑v:Int)==(h e).1)=false)→ ((!((h e).2.1+1+y) % (↑v:Int)==(h e).1)=true)),((bif ((h e).2.1+1+y) % (↑v:Int)==(h e).1 then true else ((h e).2.1+1+y) % (↑v:Int)==(h e).2.1)=true),(IL 0 ((h e).2.1+1)),(AG (((h e).2.1+1) % (↑v:Int) != (h e).1)),(((((h e).2.1+1) % (↑v:Int) != (h e).1)=true)→(NT 0 1)),((bif ((h e).2.1+1) % (↑v:Int) != (h e).1 then ((h e).2.1+1) % (↑v:Int) != (h e).2.1 else false)=false),Con Tryz.prog 89 1 (zf96 n f s3) [.pt 3 0 0 0,.p (.int .i64 (↑v:Int))] (zf96 n f s4) (.p (.int .i64 a)),(ZLo (a+1)),(ZHi (a+1)),Con Tryz.prog 89 1 (zf96 n f s4) [.pt 3 0 0 0,.p (.int .i64 ((↑v:Int) - 1))] (zf96 n f s5) (.p (.int .i64 e2)),(ZLo (a+1+e2)),(ZHi (a+1+e2)),(IL 0 (a+1+e2)),(AN 2),(NL k k),zE 136 [(zf99 K I k h),.agg [.p (.int .i64 a),.p (.int .i64 (↑v:Int))]] (zf113 k1 h1) ((zf124 K I k1)),(NL k1 k1),zE 136 [(zf99 K I k1 h1),(zf115 a e2 v)] (zf113 k2 h2) ((zf124 K I k2)),(ZLo ((↑v:Int)+1)),(ZHi ((↑v:Int)+1)),(AN 0),(AI ((↑I:Int))),(AI ((↑K:Int))),((((↑v:Int)+1):Int)=(↑(v+1):Int)),(AN 3),(NL 1 1),(AN n),(AP n (fun i=>[.int .u8 (f i)])),(AI ((↑s5.1:Int))),(AI s5.2),(AI 0),(AI (((↑K:Int)+(↑I:Int)))),(AN k2),(AN u.1),(NL k2 k2),(AA k2 (fun i=>[.p (.int .i64 ((h2 i).1)),.p (.int .i64 ((h2 i).2.1))])),(AN 1),(NL u.1 u.1),(AA u.1 (fun i=>[.p (.int .i64 (u.2 i))]))] [0,1,2,3,3,4,5,3,6,6,7,6,6,6,8,9,4,10,9,11,12,13,9,14,9,15,16,17,18,4,19,20,21,22,23,9,24,25,24,24,26,27,9,15,16,28,23,9,29,30,29,29,29,31,4,32,33,34,17,18,4,35,36,37,38,23,9,39,40,41,39,42,43,9,14,44,45,46,47,46,48,46,49,50,51,51,52,53,54,55,50,51,51,56,50,51,51,57,46,58,46,59,39,60,61,62,63,64]):=by kernel_rfl
theorem dja (n:Nat) (f:Nat→Int) (s s1 s2 s3 s4 s5:Nat×Int) (N M:Int) (k m:Nat) (h r:Nat→T_Bar) (u:T_IntS) (x y z t:Int) (ok:Bool) :
    zP Tryz.f157 1 [rg 1,rm [(2,⟨true,(some ⟨[0],[1000],[],1,[(0,cuO n f s1)],.p (.int .i64 x)⟩),none⟩),(1,⟨true,(some ⟨[0],[1000],[],1,[(0,cuO n f s2),(1,brOb k h),(2,iOb u.1 u.2)],piR N k u.1 1⟩),none⟩)] 2,rm [(1,⟨true,(some ⟨[0],[1000],[],1,[(0,cuO n f s3)],.p (.int .i64 y)⟩),none⟩)] 0,rg 2,.dec true,rm [(7,⟨true,(some ⟨[0],[1000],[],1,[(0,cuO n f s4)],.p (.int .i64 z)⟩),none⟩),(0,oc [(0,brOb m r)] (.tup [grR N m 0,.p (.bool ok)]))] 6,rg 3,rg 2] [.code (bodyOf Tryz.f157)] (start Tryz.f157 [(0,cuO n f s)] 1 [.pt 3 0 0 0]) [0,641,162] 1 [(0,cuO n f s4),(1,brOb m r),(2,iOb u.1 u.2)] (piR N m u.1 1) =
    some (zD [(AE 1),Con Tryz.prog 89 1 (zf96 n f s) [.pt 3 0 0 0,.p (.int .i64 4)] (zf96 n f s1) (.p (.int .i64 x)),(ZLo (1+x)),(ZHi (1+x)),Con Tryz.prog 191 1 (zf96 n f s1) [.pt 3 0 0 0,.p (.int .i64 (1+x))] (zf13 n f s2 k h u) (.agg [.p (.int .i64 N),.ar 2 1 0 k,.ar 1 2 0 u.1]),(NT 0 1),((true=true)→ (AN 1)),Con Tryz.prog 89 1 (zf96 n f s2) [.pt 3 0 0 0,.p (.int .i64 8)] (zf96 n f s3) (.p (.int .i64 y)),((y==0)=true),Con Tryz.prog 89 1 (zf96 n f s3) [.pt 3 0 0 0,.p (.int .i64 (↑k:Int))] (zf96 n f s4) (.p (.int .i64 z)),(AN 2),(NL k k),zE 161 [(zf108 N k h),.p (.int .i64 z)] (zf113 m r) (.tup [.agg [.p (.int .i64 N),.ar 2 0 0 m],.p (.bool ok)]),(AI N),(AN 0),(AN m),(AN u.1),(AN 3),(NL 1 1),(AN n),(AP n (fun i=>[.int .u8 (f i)])),(AI ((↑s4.1:Int))),(AI s4.2),(NL m m),(AA m (fun i=>[.p (.int .i64 ((r i).1)),.p (.int .i64 ((r i).2.1))])),(AN 1),(NL u.1 u.1),(AA u.1 (fun i=>[.p (.int .i64 (u.2 i))])),(∀ i:Nat,(((i:Nat)<1)→All [(false=false),(AE n)])),(AE m),(AE u.1)] [0,1,2,3,0,4,5,6,0,7,8,5,5,0,9,10,11,12,5,6,5,5,6,5,5,6,5,13,14,15,14,16,17,18,18,19,20,21,22,10,23,24,25,26,27,28,29,30]):=by kernel_rfl
theorem djb (n:Nat) (f:Nat→Int) (s s1 s2 s3 s4 s5:Nat×Int) (N M:Int) (k m:Nat) (h r:Nat→T_Bar) (u:T_IntS) (x y z t:Int) (ok:Bool) :
    zP Tryz.f157 1 [rg 1,rm [(2,⟨true,(some ⟨[0],[1000],[],1,[(0,cuO n f s1)],.p (.int .i64 x)⟩),none⟩),(1,⟨true,(some ⟨[0],[1000],[],1,[(0,cuO n f s2),(1,brOb k h),(2,iOb u.1 u.2)],piR N k u.1 1⟩),none⟩)] 2,rm [(1,⟨true,(some ⟨[0],[1000],[],1,[(0,cuO n f s3)],.p (.int .i64 y)⟩),none⟩)] 0,rg 2,.dec false,rg 2,.dec true,rm [(4,⟨true,(some ⟨[0],[1000],[],1,[(0,cuO n f s4)],.p (.int .i64 z)⟩),none⟩)] 1,rm [(4,⟨true,(some ⟨[0],[1000],[],1,[(0,cuO n f s5)],.p (.int .i64 t)⟩),none⟩)] 1,rm [(4,oc [(0,brOb m r)] (.tup [grR N m 0,.p (.bool ok)]))] 6,rg 3,rg 2] [.code (bodyOf Tryz.f157)] (start Tryz.f157 [(0,cuO n f s)] 1 [.pt 3 0 0 0]) [0,961,162] 1 [(0,cuO n f s5),(1,brOb m r),(2,iOb u.1 u.2)] (piR N m u.1 1) =
    some (zD [(AE 1),Con Tryz.prog 89 1 (zf96 n f s) [.pt 3 0 0 0,.p (.int .i64 4)] (zf96 n f s1) (.p (.int .i64 x)),(ZLo (1+x)),(ZHi (1+x)),Con Tryz.prog 191 1 (zf96 n f s1) [.pt 3 0 0 0,.p (.int .i64 (1+x))] (zf13 n f s2 k h u) (.agg [.p (.int .i64 N),.ar 2 1 0 k,.ar 1 2 0 u.1]),(NT 0 1),((true=true)→ (AN 1)),Con Tryz.prog 89 1 (zf96 n f s2) [.pt 3 0 0 0,.p (.int .i64 8)] (zf96 n f s3) (.p (.int .i64 y)),((y==0)=false),((y==1)=true),Con Tryz.prog 89 1 (zf96 n f s3) [.pt 3 0 0 0,.p (.int .i64 N)] (zf96 n f s4) (.p (.int .i64 z)),Con Tryz.prog 89 1 (zf96 n f s4) [.pt 3 0 0 0,.p (.int .i64 N)] (zf96 n f s5) (.p (.int .i64 t)),(AN 2),(NL k k),zE 86 [(zf108 N k h),.p (.int .i64 z),.p (.int .i64 t)] (zf113 m r) (.tup [.agg [.p (.int .i64 N),.ar 2 0 0 m],.p (.bool ok)]),(AI N),(AN 0),(AN m),(AN u.1),(AN 3),(NL 1 1),(AN n),(AP n (fun i=>[.int .u8 (f i)])),(AI ((↑s5.1:Int))),(AI s5.2),(NL m m),(AA m (fun i=>[.p (.int .i64 ((r i).1)),.p (.int .i64 ((r i).2.1))])),(AN 1),(NL u.1 u.1),(AA u.1 (fun i=>[.p (.int .i64 (u.2 i))])),(∀ i:Nat,(((i:Nat)<1)→All [(false=false),(AE n)])),(AE m),(AE u.1)] [0,1,2,3,0,4,5,6,0,7,8,9,5,0,10,5,0,11,5,12,13,14,5,6,5,5,6,5,5,6,5,15,16,17,16,18,19,20,20,21,22,23,24,12,25,26,27,28,29,30,31,32]):=by kernel_rfl
theorem djc (n:Nat) (f:Nat→Int) (s s1 s2 s3 s4 s5:Nat×Int) (N M:Int) (k m:Nat) (h r:Nat→T_Bar) (u:T_IntS) (x y z t:Int) (ok:Bool) :
    zP Tryz.f157 1 [rg 1,rm [(2,⟨true,(some ⟨[0],[1000],[],1,[(0,cuO n f s1)],.p (.int .i64 x)⟩),none⟩),(1,⟨true,(some ⟨[0],[1000],[],1,[(0,cuO n f s2),(1,brOb k h),(2,iOb u.1 u.2)],piR N k u.1 1⟩),none⟩)] 2,rm [(1,⟨true,(some ⟨[0],[1000],[],1,[(0,cuO n f s3)],.p (.int .i64 y)⟩),none⟩)] 0,rg 2,.dec false,rg 2,.dec false,rg 2,.dec true,rm [(1,⟨true,(some ⟨[0],[1000],[],1,[(0,cuO n f s4)],.p (.int .i64 z)⟩),none⟩),(2,⟨true,(some ⟨[0],[1000],[],1,[(0,cuO n f s5)],.p (.int .i64 t)⟩),none⟩)] 3,rg 2] [.code (bodyOf Tryz.f157)] (start Tryz.f157 [(0,cuO n f s)] 1 [.pt 3 0 0 0]) [0,161,673] 1 [(0,cuO n f s5),(1,brOb k h),(2,iOb 2 (twoF (z - 1) t))] (piR N k 2 1) =
    some (zD [(AE 1),Con Tryz.prog 89 1 (zf96 n f s) [.pt 3 0 0 0,.p (.int .i64 4)] (zf96 n f s1) (.p (.int .i64 x)),(ZLo (1+x)),(ZHi (1+x)),Con Tryz.prog 191 1 (zf96 n f s1) [.pt 3 0 0 0,.p (.int .i64 (1+x))] (zf13 n f s2 k h u) (.agg [.p (.int .i64 N),.ar 2 1 0 k,.ar 1 2 0 u.1]),(NT 0 1),((true=true)→ (AN 1)),Con Tryz.prog 89 1 (zf96 n f s2) [.pt 3 0 0 0,.p (.int .i64 8)] (zf96 n f s3) (.p (.int .i64 y)),((y==0)=false),((y==1)=false),((y==2)=true),Con Tryz.prog 89 1 (zf96 n f s3) [.pt 3 0 0 0,.p (.int .i64 4)] (zf96 n f s4) (.p (.int .i64 z)),(ZLo (z - 1)),(ZHi (z - 1)),Con Tryz.prog 89 1 (zf96 n f s4) [.pt 3 0 0 0,.p (.int .i64 9)] (zf96 n f s5) (.p (.int .i64 t)),(AI N),(AN 0),(AN k),(AN 2),(AN 3),(NL 1 1),(AN n),(AP n (fun i=>[.int .u8 (f i)])),(AI ((↑s5.1:Int))),(AI s5.2),(NL k k),(AA k (fun i=>[.p (.int .i64 ((h i).1)),.p (.int .i64 ((h i).2.1))])),(AN 1),(NL 2 2),(∀ i:Nat,(((i:Nat)<2)→(All (cvtL false [(1,⟨true,3,1,(fun i_1=>[.p (.int .i64 N),.ar 2 161 0 k,.ar 1 673 0 2])⟩),(193,⟨true,3,1,(fun i_1=>[.p (.int .i64 N),.ar 2 161 0 k,.ar 1 673 0 2])⟩),(673,⟨false,1,2,(fun i_1=>[(List.getD ([.p (.int .i64 (z - 1)),.p (.int .i64 t)]:List AV) (rowIx 2 i_1*1) (.p .any))])⟩),(0,⟨true,3,1,(fun i_1=>[.p (.seq false 1 n (fun i_2=>[.int .u8 (f i_2)])),.p (.int .i64 (↑s5.1:Int)),.p (.int .i64 s5.2)])⟩),(162,⟨false,1,u.1,(fun i_1=>[.p (.int .i64 (u.2 i_1))])⟩),(161,⟨false,2,k,(fun i_1=>[.p (.int .i64 ((h i_1).1)),.p (.int .i64 ((h i_1).2.1))])⟩)] [0,161,673] 1 [(List.getD ([.p (.int .i64 (z - 1)),.p (.int .i64 t)]:List AV) (rowIx 2 i*1) (.p .any))]).2∧(((cvtL false [(1,⟨true,3,1,(fun i_1=>[.p (.int .i64 N),.ar 2 161 0 k,.ar 1 673 0 2])⟩),(193,⟨true,3,1,(fun i_1=>[.p (.int .i64 N),.ar 2 161 0 k,.ar 1 673 0 2])⟩),(673,⟨false,1,2,(fun i_1=>[(List.getD ([.p (.int .i64 (z - 1)),.p (.int .i64 t)]:List AV) (rowIx 2 i_1*1) (.p .any))])⟩),(0,⟨true,3,1,(fun i_1=>[.p (.seq false 1 n (fun i_2=>[.int .u8 (f i_2)])),.p (.int .i64 (↑s5.1:Int)),.p (.int .i64 s5.2)])⟩),(162,⟨false,1,u.1,(fun i_1=>[.p (.int .i64 (u.2 i_1))])⟩),(161,⟨false,2,k,(fun i_1=>[.p (.int .i64 ((h i_1).1)),.p (.int .i64 ((h i_1).2.1))])⟩)] [0,161,673] 1 [(List.getD ([.p (.int .i64 (z - 1)),.p (.int .i64 t)]:List AV) (rowIx 2 i*1) (.p .any))]).1:List AV)=[.p (.int .i64 (twoF (z - 1) t i))])))),(∀ i:Nat,(((i:Nat)<1)→All [(false=false),(AE n)])),(AE k),(AE 2)] [0,1,2,3,0,4,5,6,0,7,8,9,10,0,11,12,13,0,14,5,6,5,5,6,5,15,16,17,16,18,19,20,20,21,22,23,24,18,25,26,27,28,29,30,31,32]):=by kernel_rfl
theorem djd (n:Nat) (f:Nat→Int) (s s1 s2 s3 s4 s5:Nat×Int) (N M:Int) (k m:Nat) (h r:Nat→T_Bar) (u:T_IntS) (x y z t:Int) (ok:Bool) :
    zP Tryz.f157 1 [rg 1,rm [(2,⟨true,(some ⟨[0],[1000],[],1,[(0,cuO n f s1)],.p (.int .i64 x)⟩),none⟩),(1,⟨true,(some ⟨[0],[1000],[],1,[(0,cuO n f s2),(1,brOb k h),(2,iOb u.1 u.2)],piR N k u.1 1⟩),none⟩)] 2,rm [(1,⟨true,(some ⟨[0],[1000],[],1,[(0,cuO n f s3)],.p (.int .i64 y)⟩),none⟩)] 0,rg 2,.dec false,rg 2,.dec false,rg 2,.dec false,rg 2] [.code (bodyOf Tryz.f157)] (start Tryz.f157 [(0,cuO n f s)] 1 [.pt 3 0 0 0]) [0,161,162] 1 [(0,cuO n f s3),(1,brOb k h),(2,iOb u.1 u.2)] (piR N k u.1 1) =
    some [(AE 1),Con Tryz.prog 89 1 (zf96 n f s) [.pt 3 0 0 0,.p (.int .i64 4)] (zf96 n f s1) (.p (.int .i64 x)),(ZLo (1+x)),(ZHi (1+x)),(AE 1),Con Tryz.prog 191 1 (zf96 n f s1) [.pt 3 0 0 0,.p (.int .i64 (1+x))] (zf13 n f s2 k h u) (.agg [.p (.int .i64 N),.ar 2 1 0 k,.ar 1 2 0 u.1]),(NT 0 1),((true=true)→ (AN 1)),(AE 1),Con Tryz.prog 89 1 (zf96 n f s2) [.pt 3 0 0 0,.p (.int .i64 8)] (zf96 n f s3) (.p (.int .i64 y)),((y==0)=false),((y==1)=false),((y==2)=false),(NT 0 1),(NT 0 1),((true=true)→ (AN 1)),(NT 0 1),(AI N),(AN 0),(AN k),(AN 0),(AN u.1),(AN 3),(NL 1 1),(NL 1 1),(AN n),(AP n (fun i=>[.int .u8 (f i)])),(AI ((↑s3.1:Int))),(AI s3.2),(AN 2),(NL k k),(AA k (fun i=>[.p (.int .i64 ((h i).1)),.p (.int .i64 ((h i).2.1))])),(AN 1),(NL u.1 u.1),(AA u.1 (fun i=>[.p (.int .i64 (u.2 i))])),(∀ i:Nat,(((i:Nat)<1)→All [(false=false),(AE n)])),(AE k),(AE u.1)]:=by kernel_rfl
theorem dka (n:Nat) (f:Nat→Int) (s s1 s2:Nat×Int) (N:Int) (k:Nat) (h:Nat→T_Bar) (u:T_IntS) (q:Nat) :
    zM 1 [rg 1,rm [(1,⟨true,(some ⟨[0],[1000],[],1,[(0,cuO n f s1),(1,brOb k h),(2,iOb u.1 u.2)],piR N k u.1 1⟩),none⟩)] 2,rm [(1,⟨true,(some ⟨[0],[1000],[],1,[(0,cuO n f s2)],.p (.int .i64 q)⟩),none⟩)] 1,.head] [.code (bodyOf Tryz.f88)] (start Tryz.f88 [(0,cuO n f s)] 1 [.pt 3 0 0 0]) [0,1,97,65,66] 1 (SSe n f s2 N k h u q) =
    some (zf78,zD [(AE 1),Con Tryz.prog 157 1 (zf96 n f s) [.pt 3 0 0 0] (zf13 n f s1 k h u) (.agg [.p (.int .i64 N),.ar 2 1 0 k,.ar 1 2 0 u.1]),(NT 0 1),((true=true)→ (AN 1)),Con Tryz.prog 89 1 (zf96 n f s1) [.pt 3 0 0 0,.p (.int .i64 3)] (zf96 n f s2) (.p (.int .i64 (↑q:Int))),(AN 0),(AI ((↑q:Int))),(AN 3),(NL 1 1),(AN n),(AP n (fun i=>[.int .u8 (f i)])),(AI ((↑s2.1:Int))),(AI s2.2),((((List.map (fun v=>AV.p (absV v)) [Value.int IntKind.i64 0,Value.slice none 0 0,Value.slice none 0 0]).length):Nat)=3),(AI 0),(AI N),(AN k),(AN u.1),(AN 2),(NL k k),(AA k (fun i=>[.p (.int .i64 ((h i).1)),.p (.int .i64 ((h i).2.1))])),(AN 1),(NL u.1 u.1),(AA u.1 (fun i=>[.p (.int .i64 (u.2 i))]))] [0,1,2,3,0,4,5,5,5,6,7,8,8,9,10,11,12,13,8,8,14,13,8,8,15,5,16,5,17,18,19,20,21,22,23]):=by kernel_rfl
theorem dkb (n:Nat) (f:Nat→Int) (s s1 s2:Nat×Int) (N:Int) (k:Nat) (h:Nat→T_Bar) (u:T_IntS) (q:Nat) (a b:Int) (c:Int) (b1 b2:Bool) (m:Nat) (r:Nat→T_Bar) (ok:Bool) :
    zM 1 [rg 2,.dec true,rm [(5,⟨true,(some ⟨[0],[1000],[],1,[(0,cuO n f s1)],.p (.int .i64 a)⟩),none⟩)] 1,rm [(5,⟨true,(some ⟨[0],[1000],[],1,[(0,cuO n f s2)],.p (.int .i64 b)⟩),none⟩)] 1,rm [(4,oc [] (.p (.int .i64 c))),(5,oc [] (.p (.bool b1))),(4,oc [] (.p (.bool b2)))] 3,.dec true,rm [(4,oc [(0,brOb m r)] (.tup [grR N m 0,.p (.bool ok)]))] 6,rg 3,rg 3,.head] zf78 (SSe n f s N k h u (q+1)) [0,1,2,1253,4] 1 (SSe n f s2 N m r u q) =
    some (zf78,zD [((decide ((↑(q+1):Int)>0))=true),(NT 0 1),(AE 1),Con Tryz.prog 89 1 (zf96 n f s) [.pt 3 0 0 0,.p (.int .i64 (if true=true then if N>1 then N else 1 else if N<1 then N else 1))] (zf96 n f s1) (.p (.int .i64 a)),Con Tryz.prog 89 1 (zf96 n f s1) [.pt 3 0 0 0,.p (.int .i64 (if true=true then if N>1 then N else 1 else if N<1 then N else 1))] (zf96 n f s2) (.p (.int .i64 b)),(AN 2),(NL k k),zE 153 [(zf108 N k h),.p (.int .i64 a),.p (.int .i64 b)] [] (.p (.int .i64 c)),(AG (c==0)),(((c==0)=true)→(NT 0 1)),(((c==0)=true)→ (AN 1)),(((c==0)=true)→(NL u.1 u.1)),(((c==0)=true)→ zE 92 [.p (.seq true 1 u.1 (iRw u)),.p (.int .i64 a)] [] (.p (.bool b1))),(AG (c==0&&b1)),(((c==0&&b1)=true)→(NT 0 1)),(((c==0&&b1)=true)→ (AN 1)),(((c==0&&b1)=true)→(NL u.1 u.1)),(((c==0&&b1)=true)→ zE 92 [.p (.seq true 1 u.1 (iRw u)),.p (.int .i64 b)] [] (.p (.bool b2))),(((c==0)=true)→((b1=true)→ ((c==0&&b1)=true))),((bif c==0 then !bif b1 then b2 else false else false)=true),zE 86 [(zf108 N k h),.p (.int .i64 a),.p (.int .i64 b)] (zf113 m r) (.tup [.agg [.p (.int .i64 N),.ar 2 0 0 m],.p (.bool ok)]),((true=true)→ (AN 1)),(ZLo ((↑(q+1):Int) - 1)),(ZHi ((↑(q+1):Int) - 1)),(AN 0),((((↑(q+1):Int) - 1):Int)=(↑q:Int)),(AN 3),(NL 1 1),(AN n),(AP n (fun i=>[.int .u8 (f i)])),(AI ((↑s2.1:Int))),(AI s2.2),(AI 0),(AI N),(AN m),(AN u.1),(NL m m),(AA m (fun i=>[.p (.int .i64 ((r i).1)),.p (.int .i64 ((r i).2.1))])),(AN 1),(NL u.1 u.1),(AA u.1 (fun i=>[.p (.int .i64 (u.2 i))]))] [0,1,2,3,1,2,4,1,5,6,7,8,9,8,8,10,11,12,8,13,14,13,13,15,16,17,8,18,8,8,19,1,5,6,20,1,21,1,1,21,22,23,24,24,24,25,26,27,27,28,29,30,31,26,27,27,32,26,27,27,33,24,34,24,35,5,36,37,38,39,40]):=by kernel_rfl
theorem dkc (n:Nat) (f:Nat→Int) (s s1 s2:Nat×Int) (N:Int) (k:Nat) (h:Nat→T_Bar) (u:T_IntS) (q:Nat) (a b:Int) (c:Int) (b1 b2:Bool) (m:Nat) (r:Nat→T_Bar) (ok:Bool) :
    zM 1 [rg 2,.dec true,rm [(5,⟨true,(some ⟨[0],[1000],[],1,[(0,cuO n f s1)],.p (.int .i64 a)⟩),none⟩)] 1,rm [(5,⟨true,(some ⟨[0],[1000],[],1,[(0,cuO n f s2)],.p (.int .i64 b)⟩),none⟩)] 1,rm [(4,oc [] (.p (.int .i64 c))),(5,oc [] (.p (.bool b1))),(4,oc [] (.p (.bool b2)))] 3,.dec false,rg 3,.head] zf78 (SSe n f s N k h u (q+1)) [0,1,2,3,4] 1 (SSe n f s2 N k h u q) =
    some (zf78,zD [((decide ((↑(q+1):Int)>0))=true),(NT 0 1),(AE 1),Con Tryz.prog 89 1 (zf96 n f s) [.pt 3 0 0 0,.p (.int .i64 (if true=true then if N>1 then N else 1 else if N<1 then N else 1))] (zf96 n f s1) (.p (.int .i64 a)),Con Tryz.prog 89 1 (zf96 n f s1) [.pt 3 0 0 0,.p (.int .i64 (if true=true then if N>1 then N else 1 else if N<1 then N else 1))] (zf96 n f s2) (.p (.int .i64 b)),(AN 2),(NL k k),zE 153 [(zf108 N k h),.p (.int .i64 a),.p (.int .i64 b)] [] (.p (.int .i64 c)),(AG (c==0)),(((c==0)=true)→(NT 0 1)),(((c==0)=true)→ (AN 1)),(((c==0)=true)→(NL u.1 u.1)),(((c==0)=true)→ zE 92 [.p (.seq true 1 u.1 (iRw u)),.p (.int .i64 a)] [] (.p (.bool b1))),(AG (c==0&&b1)),(((c==0&&b1)=true)→(NT 0 1)),(((c==0&&b1)=true)→ (AN 1)),(((c==0&&b1)=true)→(NL u.1 u.1)),(((c==0&&b1)=true)→ zE 92 [.p (.seq true 1 u.1 (iRw u)),.p (.int .i64 b)] [] (.p (.bool b2))),(((c==0)=true)→((b1=true)→ ((c==0&&b1)=true))),((bif c==0 then !bif b1 then b2 else false else false)=false),(ZLo ((↑(q+1):Int) - 1)),(ZHi ((↑(q+1):Int) - 1)),(AN 0),((((↑(q+1):Int) - 1):Int)=(↑q:Int)),(AN 3),(NL 1 1),(AN n),(AP n (fun i=>[.int .u8 (f i)])),(AI ((↑s2.1:Int))),(AI s2.2),(AI 0),(AI N),(AN k),(AN u.1),(AA k (fun i=>[.p (.int .i64 ((h i).1)),.p (.int .i64 ((h i).2.1))])),(AN 1),(NL u.1 u.1),(AA u.1 (fun i=>[.p (.int .i64 (u.2 i))]))] [0,1,2,3,1,2,4,1,5,6,7,8,9,8,8,10,11,12,8,13,14,13,13,15,16,17,8,18,8,8,19,20,21,22,22,22,23,24,25,25,26,27,28,29,24,25,25,30,24,25,25,31,22,32,22,33,5,6,34,35,36,37]):=by kernel_rfl
theorem dke (n:Nat) (f:Nat→Int) (s:Nat×Int) (N:Int) (k:Nat) (h:Nat→T_Bar) (u:T_IntS) :
    zP Tryz.f88 1 [rg 2,.dec false,rg 2] zf78 (SSe n f s N k h u 0) [0,3,4] 1 [(0,cuO n f s),(1,brOb k h),(2,iOb u.1 u.2)] (piR N k u.1 1) =
    some [((decide ((↑0:Int)>0))=false),(NT 0 1),(NT 0 1),((true=true)→ (AN 1)),(NT 0 1),(AI N),(AN 0),(AN k),(AN 0),(AN u.1),(AN 3),(NL 1 1),(NL 1 1),(AN n),(AP n (fun i=>[.int .u8 (f i)])),(AI ((↑s.1:Int))),(AI s.2),(AN 2),(NL k k),(AA k (fun i=>[.p (.int .i64 ((h i).1)),.p (.int .i64 ((h i).2.1))])),(AN 1),(NL u.1 u.1),(AA u.1 (fun i=>[.p (.int .i64 (u.2 i))])),(∀ i:Nat,(((i:Nat)<1)→All [(false=false),(AE n)])),(AE k),(AE u.1)]:=by kernel_rfl
def BdB (k:Nat) (h:Nat→T_Bar):Prop:=∀ i,i<k→(0≤(h i).1∧(h i).1≤20)∧(0≤(h i).2.1∧(h i).2.1≤20)
theorem con_putB (h:Nat→T_Bar) (k:Nat) (N:Int) (h0:0≤N) (x:T_Bar) (hk:k≤1000) (hb:BdB k h) (hx:(0≤x.1∧x.1≤20)∧(0≤x.2.1∧x.2.1≤20)) :
    ∃ h2:Nat→T_Bar,BdB (k+1) h2∧zE 136 [.agg [.p (.int .i64 N),brL h k],brA x] [(0,brOb (k+1) h2)] (grR N (k+1) 0):=by
  obtain ⟨N,rfl⟩:∃ t:Nat,N=(t:Int):=⟨N.toNat,by omega⟩
  have c:=con_l2Put h k N x (by omega)
  rw [insR_n] at c
  refine ⟨_,fun i hi=>?_,c⟩
  have hm:=(insR_mem h k x ((insR h k x).2 i)).1 ⟨i,by rw [insR_n];exact hi,rfl⟩
  rcases hm with ⟨s,h1,h2⟩ | h1
  · rw [← h2];exact hb s h1
  · rw [← h1];exact hx
theorem con_rmvB (h:Nat→T_Bar) (k:Nat) (N e:Int) (hk:k≤1000) (hb:BdB k h):∃ (m:Nat) (h2:Nat→T_Bar) (ok:Bool),m≤k∧k≤m+1∧BdB m h2 ∧
    zE 161 [.agg [.p (.int .i64 N),brL h k],.p (.int .i64 e)] [(0,brOb m h2)] (.tup [grR N m 0,.p (.bool ok)]):=by
  obtain ⟨m,h2,ok,m1,m2,m3,c⟩:=con_RmvM (N,(k,h),()) (by show k≤_;omega) e
  refine ⟨m,h2,ok,m1,m2,fun i hi=>?_,c⟩
  obtain ⟨j,j1,j2⟩:=m3 i hi
  rw [j2]
  exact hb j j1
set_option maxRecDepth 4000 in
theorem con_l20Iso (n:Nat) (f:Nat→Int) (hn:CdOk n f) (s:Nat×Int) (hs:s.1≤n) (I:Nat) (hI:I≤5):∃ (s2:Nat×Int) (K k:Nat) (h:Nat→T_Bar) (u:T_IntS),s2.1≤n∧(2≤K∧K≤3)∧k≤24∧u.1≤3∧BdB k h ∧
    Con Tryz.prog 191 1 [(0,cuO n f s)] [.pt 3 0 0 0,.p (.int .i64 I)] [(0,cuO n f s2),(1,brOb k h),(2,iOb u.1 u.2)] (piR ((K:Int)+(I:Int)) k u.1 1):=by
  have lo:∀ K:Nat,2≤K∧K≤3→∀ u:T_IntS,∀ e v,v+e=K+I→K≤v→∀ (s:Nat×Int) (k:Nat) (h:Nat→T_Bar),s.1≤n→(K<v→1≤k)→k+3*K≤3*v→BdB k h→∃ (s2:Nat×Int) (k2:Nat) (h2:Nat→T_Bar),s2.1≤n∧(k2≤24∧BdB k2 h2) ∧
      ∀ c:Cx,c.n=1→zR c 191 zf35 (SIs n f s I K k h u v) (Post c [(0,cuO n f s2),(1,brOb k2 h2),(2,iOb u.1 u.2)] (piR ((K:Int)+(I:Int)) k2 u.1 1)):=by
    intro K hK u e
    induction e with
    | zero =>
      intro v hv hvK s k h hs hk1 hk hb
      have hd:decide ((v:Int)<(K:Int)+(I:Int))=false:=decide_eq_false (by omega)
      refine ⟨s,k,h,hs,⟨by omega,hb⟩,fun c hc=>?_⟩
      refine pkZ Tryz.func191 hc (die n f s I K k h u v) ?_
      and_intros
      iterate 2 all_goals (first | exact zI | (exact hd) | (intros;simp [All];done) | (simp;done) | (simp;omega) | simp only [All])
    | succ e ih =>
      intro v hv hvK s k h hs hk1 hk hb
      have hd:decide ((v:Int)<(K:Int)+(I:Int))=true:=decide_eq_true (by omega)
      have norm:∀ s:Nat×Int,s.1≤n→∃ (s1 s2:Nat×Int) (a y:Int) (r1 r2:Nat→T_Bar),s2.1≤n∧(0≤a∧a<v)∧(0≤y∧y<v)∧BdB (k+1+1) r2 ∧
          Con Tryz.prog 89 1 [(0,cuO n f s)] [.pt 3 0 0 0,.p (.int .i64 v)] [(0,cuO n f s1)] (.p (.int .i64 a)) ∧
          Con Tryz.prog 89 1 [(0,cuO n f s1)] [.pt 3 0 0 0,.p (.int .i64 ((v:Int) - 1))] [(0,cuO n f s2)] (.p (.int .i64 y)) ∧
          zE 136 [.agg [.p (.int .i64 ((K:Int)+(I:Int))),brL h k],brA (a,(v:Int),())] [(0,brOb (k+1) r1)] (grR ((K:Int)+(I:Int)) (k+1) 0) ∧
          zE 136 [.agg [.p (.int .i64 ((K:Int)+(I:Int))),brL r1 (k+1)],brA ((a+1+y) % (v:Int),(v:Int),())] [(0,brOb (k+1+1) r2)] (grR ((K:Int)+(I:Int)) (k+1+1) 0):=by
        intro s hs
        obtain ⟨s1,a,h1,ha,c1⟩:=con_l1Below n f hn s hs v (by omega)
        obtain ⟨s2,y,h2,hy,c2⟩:=con_l1Below n f hn s1 h1 ((v:Int) - 1) (by omega)
        have ha2:=ha.2.1 (by omega)
        have hy2:=hy.2.1 (by omega)
        have e1:=Int.emod_nonneg (a+1+y) (show (v:Int)≠0 by omega)
        have e2:=Int.emod_lt_of_pos (a+1+y) (show (0:Int)<v by omega)
        obtain ⟨r1,b1,p1⟩:=con_putB h k ((K:Int)+(I:Int)) (by omega) (a,v,()) (by omega) hb ⟨⟨ha.1,by omega⟩,⟨by show (0:Int)≤v;omega,by show (v:Int)≤20;omega⟩⟩
        obtain ⟨r2,b2,p2⟩:=con_putB r1 (k+1) ((K:Int)+(I:Int)) (by omega) ((a+1+y) % (v:Int),v,()) (by omega) b1 ⟨⟨e1,by show (a+1+y) % (v:Int)≤20;omega⟩,⟨by show (0:Int)≤v;omega,by show (v:Int)≤20;omega⟩⟩
        exact ⟨s1,s2,a,y,r1,r2,h2,⟨ha.1,ha2⟩,⟨hy.1,by omega⟩,b2,c1,c2,p1,p2⟩
      by_cases hvK2:v=K
      · have hg:decide ((v:Int)>(K:Int))=false:=decide_eq_false (by omega)
        obtain ⟨s1,s2,a,y,r1,r2,h2,ha,hy,b2,c1,c2,p1,p2⟩:=norm s hs
        obtain ⟨s9,k9,r9,i1,i2,hr⟩:=ih (v+1) (by omega) (by omega) s2 (k+1+1) r2 h2 (by omega) (by omega) b2
        refine ⟨s9,k9,r9,i1,i2,fun c hc=>?_⟩
        refine pcD hc (diA n f s s1 s2 s2 s2 s2 s2 I K k h u v a y 0 0 0 (k+1) (k+1+1) 0 h r1 r2 h true) ?_ (hr c hc)
        and_intros
        all_goals (first | exact zI | (exact hd) | (exact hg) | (exact c1) | (exact c2) | (exact p1) | (exact p2) | omega | (intros;simp [All];done) | (simp;done) | (simp;omega))
      · have hg:decide ((v:Int)>(K:Int))=true:=decide_eq_true (by omega)
        obtain ⟨s1,b,h1,c0⟩:=con_l1Once n f hn s hs 2 (by omega)
        cases b with
        | false =>
          obtain ⟨s2,s3,a,y,r1,r2,h3,ha,hy,b2,c1,c2,p1,p2⟩:=norm s1 h1
          obtain ⟨s9,k9,r9,i1,i2,hr⟩:=ih (v+1) (by omega) (by omega) s3 (k+1+1) r2 h3 (by omega) (by omega) b2
          refine ⟨s9,k9,r9,i1,i2,fun c hc=>?_⟩
          refine pcD hc (diB n f s s1 s2 s3 s3 s3 s3 I K k h u v a y 0 0 0 (k+1) (k+1+1) 0 h r1 r2 h true) ?_ (hr c hc)
          and_intros
          all_goals (first | exact zI | (exact hd) | (exact hg) | (exact c0) | (exact c1) | (exact c2) | (exact p1) | (exact p2) | omega | (intros;simp [All];done) | (simp;done) | (simp;omega))
        | true =>
          have hk0:=hk1 (by omega)
          have hz:(bif true then decide ((k:Int)>0) else false)=true:=by rw [cond_true];exact decide_eq_true (by omega)
          obtain ⟨s2,e4,h2,he,c1⟩:=con_l1Below n f hn s1 h1 k (by omega)
          have he2:=he.2.1 (by omega)
          obtain ⟨ee,rfl⟩:∃ t:Nat,e4=(t:Int):=⟨e4.toNat,by omega⟩
          obtain ⟨s3,y,h3,hy,c2⟩:=con_l1Below n f hn s2 h2 ((v:Int) - 1) (by omega)
          have hy2:=hy.2.1 (by omega)
          have hbe:=hb ee (by omega)
          have m1:=Int.emod_nonneg ((h ee).2.1+1+y) (show (v:Int)≠0 by omega)
          have m2:=Int.emod_lt_of_pos ((h ee).2.1+1+y) (show (0:Int)<v by omega)
          have m3:=Int.emod_nonneg ((h ee).2.1+1) (show (v:Int)≠0 by omega)
          have m4:=Int.emod_lt_of_pos ((h ee).2.1+1) (show (0:Int)<v by omega)
          have spl:∀ w:Int,0≤w→w<v→∃ (k0:Nat) (r0 r1 r2 r3:Nat→T_Bar) (ok:Bool),k0≤k∧k≤k0+1∧BdB (k0+1+1+1) r3 ∧
              zE 161 [.agg [.p (.int .i64 ((K:Int)+(I:Int))),brL h k],.p (.int .i64 ee)] [(0,brOb k0 r0)] (.tup [grR ((K:Int)+(I:Int)) k0 0,.p (.bool ok)]) ∧
              zE 136 [.agg [.p (.int .i64 ((K:Int)+(I:Int))),brL r0 k0],brA ((h ee).1,(v:Int),())] [(0,brOb (k0+1) r1)] (grR ((K:Int)+(I:Int)) (k0+1) 0) ∧
              zE 136 [.agg [.p (.int .i64 ((K:Int)+(I:Int))),brL r1 (k0+1)],brA ((h ee).2.1,(v:Int),())] [(0,brOb (k0+1+1) r2)] (grR ((K:Int)+(I:Int)) (k0+1+1) 0) ∧
              zE 136 [.agg [.p (.int .i64 ((K:Int)+(I:Int))),brL r2 (k0+1+1)],brA (w,(v:Int),())] [(0,brOb (k0+1+1+1) r3)] (grR ((K:Int)+(I:Int)) (k0+1+1+1) 0):=by
            intro w w1 w2
            obtain ⟨k0,r0,ok,q1,q2,b0,c3⟩:=con_rmvB h k ((K:Int)+(I:Int)) ee (by omega) hb
            have hv0:(0:Int)≤v∧(v:Int)≤20:=by omega
            obtain ⟨r1,b1,p1⟩:=con_putB r0 k0 ((K:Int)+(I:Int)) (by omega) ((h ee).1,v,()) (by omega) b0 ⟨hbe.1,hv0⟩
            obtain ⟨r2,b2,p2⟩:=con_putB r1 (k0+1) ((K:Int)+(I:Int)) (by omega) ((h ee).2.1,v,()) (by omega) b1 ⟨hbe.2,hv0⟩
            obtain ⟨r3,b3,p3⟩:=con_putB r2 (k0+1+1) ((K:Int)+(I:Int)) (by omega) (w,v,()) (by omega) b2 ⟨⟨w1,by show w≤20;omega⟩,hv0⟩
            exact ⟨k0,r0,r1,r2,r3,ok,q1,q2,b3,c3,p1,p2,p3⟩
          cases q1:(bif ((h ee).2.1+1+y) % (v:Int)==(h ee).1 then true else ((h ee).2.1+1+y) % (v:Int)==(h ee).2.1) with
          | false =>
            have q2:(bif ((h ee).2.1+1+y) % (v:Int) != (h ee).1 then ((h ee).2.1+1+y) % (v:Int) != (h ee).2.1 else false)=true:=by
              generalize ((h ee).2.1+1+y) % (v:Int)=w at q1
              cases t1:(w==(h ee).1)<;>cases t2:(w==(h ee).2.1)<;>simp_all
            obtain ⟨k0,r0,r1,r2,r3,ok,z1,z2,b3,c3,p1,p2,p3⟩:=spl _ m1 m2
            obtain ⟨s9,k9,r9,i1,i2,hr⟩:=ih (v+1) (by omega) (by omega) s3 (k0+1+1+1) r3 h3 (by omega) (by omega) b3
            refine ⟨s9,k9,r9,i1,i2,fun c hc=>?_⟩
            refine pcD hc (diC n f s s1 s2 s3 s3 s3 s3 I K k h u v 0 y 0 ee k0 (k0+1) (k0+1+1) (k0+1+1+1) r0 r1 r2 r3 ok) ?_ (hr c hc)
            and_intros
            all_goals (first | exact zH | (exact hd) | (exact hg) | (exact hz) | (exact c0) | (exact c1) | (exact c2) | (exact c3) | (exact p1) | (exact p2) | (exact p3) | (exact q1) | (exact q2) | omega | (intros;simp [All];done) | (simp;done) | (intro h';simpa using h') | (simp;omega))
          | true =>
            cases q2:(bif ((h ee).2.1+1) % (v:Int) != (h ee).1 then ((h ee).2.1+1) % (v:Int) != (h ee).2.1 else false) with
            | true =>
              obtain ⟨k0,r0,r1,r2,r3,ok,z1,z2,b3,c3,p1,p2,p3⟩:=spl _ m3 m4
              obtain ⟨s9,k9,r9,i1,i2,hr⟩:=ih (v+1) (by omega) (by omega) s3 (k0+1+1+1) r3 h3 (by omega) (by omega) b3
              refine ⟨s9,k9,r9,i1,i2,fun c hc=>?_⟩
              refine pcD hc (diD n f s s1 s2 s3 s3 s3 s3 I K k h u v 0 y 0 ee k0 (k0+1) (k0+1+1) (k0+1+1+1) r0 r1 r2 r3 ok) ?_ (hr c hc)
              and_intros
              all_goals (first | exact zH | (exact hd) | (exact hg) | (exact hz) | (exact c0) | (exact c1) | (exact c2) | (exact c3) | (exact p1) | (exact p2) | (exact p3) | (exact q1) | (exact q2) | omega | (intros;simp [All];done) | (simp;done) | (intro h';simpa using h') | (simp;omega))
            | false =>
              obtain ⟨s4,s5,a,y2,r1,r2,h5,ha,hy3,b2,c3,c4,p1,p2⟩:=norm s3 h3
              obtain ⟨s9,k9,r9,i1,i2,hr⟩:=ih (v+1) (by omega) (by omega) s5 (k+1+1) r2 h5 (by omega) (by omega) b2
              refine ⟨s9,k9,r9,i1,i2,fun c hc=>?_⟩
              refine pcD hc (diE n f s s1 s2 s3 s4 s5 s5 I K k h u v a y y2 ee 0 (k+1) (k+1+1) 0 h r1 r2 h true) ?_ (hr c hc)
              and_intros
              all_goals (first | exact zH | (exact hd) | (exact hg) | (exact hz) | (exact c0) | (exact c1) | (exact c2) | (exact c3) | (exact c4) | (exact p1) | (exact p2) | (exact q1) | (exact q2) | omega | (intros;simp [All];done) | (simp;done) | (intro h';simpa using h') | (simp;omega))
  obtain ⟨s1,x,h1,hx,c1⟩:=con_l1Below n f hn s hs 2 (by omega)
  have hx2:=hx.2.1 (by omega)
  obtain ⟨K,w,hK,hw,e1,e2⟩:∃ K w:Nat,(2≤K∧K≤3)∧w≤7∧2+x=(K:Int)∧shlI .i64 1 (2+x) - 1=(w:Int):=by
    rcases (show x=0∨x=1 by omega) with rfl | rfl
    · exact ⟨2,3,by omega,by omega,rfl,by decide⟩
    · exact ⟨3,7,by omega,by omega,rfl,by decide⟩
  have c2:=con_l3Set w K (by omega)
  have hu:=stD_n w K
  obtain ⟨s2,k,h,i1,i2,hr⟩:=lo K hK (stD w K) I K (by omega) (by omega) s1 0 (fun _=>(0,0,())) h1 (by omega) (by omega) (fun i hi=>absurd hi (Nat.not_lt_zero _))
  refine ⟨s2,K,k,h,stD w K,i1,hK,i2.1,by omega,i2.2,?_⟩
  refine csZ Tryz.func191 (fun c hc=>?_)
  refine pcD hc (diz n f s s1 I K x (stD w K)) ?_ (hr c hc)
  and_intros
  all_goals (first | exact zI | (exact c1) | (rw [e2,e1];exact c2) | (rw [e2];omega) | (exact e1) | omega | (intro i hi;exact absurd hi (Nat.not_lt_zero _)) | (intros;simp [All];done) | (simp;done) | (simp;omega))
theorem ab_Bd {N:Int} {k:Nat} {h:Nat→T_Bar} (a b:Int) (hb:BdB k h) (hN:N≤8):BdB (abG (N,(k,h),()) a b).2.1.1 (abG (N,(k,h),()) a b).2.1.2:=by
  cases hab:abB (N,(k,h),()) a b with
  | false=>rw [show abG (N,(k,h),()) a b=(N,(k,h),()) by simp [abG,hab]];exact hb
  | true =>
    obtain ⟨_,ha,hb2,hne,_⟩:=abB_in hab
    have ha:0≤a∧a<N:=ha
    have hb2:0≤b∧b<N:=hb2
    have hx:=brX_ok (N:=N.toNat) (a:=a) (b:=b) (by omega) (by omega) hne
    rw [show abG (N,(k,h),()) a b=(N,(k+1,srtB (k+1) (snoc k h (brX a b))),()) by simp [abG,hab]]
    intro i hi
    have hi:i<k+1:=hi
    have hlen:(srtL (lstB (k+1) (snoc k h (brX a b)))).length=k+1:=by rw [srtL_len,lstB_len]
    have hm:srtB (k+1) (snoc k h (brX a b)) i∈lstB (k+1) (snoc k h (brX a b)):=by
      refine (srtL_perm _).mem_iff.1 ?_
      unfold srtB
      rw [List.getD_eq_getElem?_getD,List.getElem?_eq_getElem (by omega)]
      exact List.getElem_mem _
    obtain ⟨j,hj,e⟩:=List.mem_map.1 hm
    have hj:=List.mem_range.1 hj
    show (0≤(srtB (k+1) (snoc k h (brX a b)) i).1∧(srtB (k+1) (snoc k h (brX a b)) i).1≤20)∧0≤(srtB (k+1) (snoc k h (brX a b)) i).2.1∧(srtB (k+1) (snoc k h (brX a b)) i).2.1≤20
    rw [← e]
    by_cases h1:j<k
    · rw [snoc_lt h1];exact hb j h1
    · rw [snoc_ge h1];omega
theorem con_l20Any (n:Nat) (f:Nat→Int) (hn:CdOk n f) (s:Nat×Int) (hs:s.1≤n):∃ (s2:Nat×Int) (N:Int) (k:Nat) (h:Nat→T_Bar) (u:T_IntS),s2.1≤n∧(0≤N∧N≤8)∧k≤25∧u.1≤3∧BdB k h ∧
    Con Tryz.prog 157 1 [(0,cuO n f s)] [.pt 3 0 0 0] [(0,cuO n f s2),(1,brOb k h),(2,iOb u.1 u.2)] (piR N k u.1 1):=by
  obtain ⟨s1,x,h1,hx,c1⟩:=con_l1Below n f hn s hs 4 (by omega)
  have hx2:=hx.2.1 (by omega)
  obtain ⟨x,rfl⟩:∃ t:Nat,x=(t:Int):=⟨x.toNat,by omega⟩
  obtain ⟨s2,K,k,h,u,h2,hK,hk,hu,hB,c2⟩:=con_l20Iso n f hn s1 h1 (1+x) (by omega)
  rw [show ((1+x:Nat):Int)=1+(x:Int) by omega] at c2
  obtain ⟨N,hN⟩:∃ N:Int,(K:Int)+(1+(x:Int))=N:=⟨_,rfl⟩
  rw [hN] at c2
  obtain ⟨s3,y,h3,hy,c3⟩:=con_l1Below n f hn s2 h2 8 (by omega)
  by_cases e0:y=0
  · obtain ⟨s4,z,h4,hz,c4⟩:=con_l1Below n f hn s3 h3 k (by omega)
    obtain ⟨m,r,ok,m1,m2,hB2,c5⟩:=con_rmvB h k N z (by omega) hB
    refine ⟨s4,N,m,r,u,h4,by omega,by omega,hu,hB2,?_⟩
    refine csZ Tryz.func157 (fun c hc=>?_)
    refine pkD Tryz.func157 hc (dja n f s s1 s2 s3 s4 s4 N N k m h r u x y z 0 ok) ?_
    and_intros
    iterate 2 all_goals (first | exact zI | (exact c1) | (exact c2) | (exact c3) | (exact c4) | (exact c5) | (intros;simp [All];done) | (simp [e0];done) | (simp;omega) | simp only [All])
  · have b0:(y==0)=false:=beq_eq_false_iff_ne.2 e0
    by_cases e1:y=1
    · obtain ⟨s4,z,h4,hz,c4⟩:=con_l1Below n f hn s3 h3 N (by omega)
      obtain ⟨s5,t,h5,ht,c5⟩:=con_l1Below n f hn s4 h4 N (by omega)
      have c6:=con_AddBar_s (N,(k,h),()) (sm_graph (by show k≤_;omega)) z t
      have hk2:=abG_n (N,(k,h),()) z t
      have hB2:=ab_Bd (N:=N) (k:=k) (h:=h) z t hB (by omega)
      have hM:(abG (N,(k,h),()) z t).1=N:=by unfold abG;split<;>rfl
      rw [hM] at c6
      have hk3:(abG (N,(k,h),()) z t).2.1.1≤24:=by
        rcases hk2 with e | e
        · have e':(abG (N,(k,h),()) z t).2.1.1≤k:=e
          omega
        · exact e
      generalize (abG (N,(k,h),()) z t).2.1.1=m at c6 hk3 hB2
      generalize (abG (N,(k,h),()) z t).2.1.2=r at c6 hB2
      generalize abB (N,(k,h),()) z t=ok at c6
      refine ⟨s5,N,m,r,u,h5,by omega,by omega,hu,hB2,?_⟩
      refine csZ Tryz.func157 (fun c hc=>?_)
      refine pkD Tryz.func157 hc (djb n f s s1 s2 s3 s4 s5 N N k m h r u x y z t ok) ?_
      and_intros
      iterate 2 all_goals (first | exact zI | (exact c1) | (exact c2) | (exact c3) | (exact c4) | (exact c5) | (exact c6) | (exact b0) | (intros;simp [All];done) | (simp [e1];done) | (simp;omega) | simp only [All])
    · have b1:(y==1)=false:=beq_eq_false_iff_ne.2 e1
      by_cases e2:y=2
      · obtain ⟨s4,z,h4,hz,c4⟩:=con_l1Below n f hn s3 h3 4 (by omega)
        obtain ⟨s5,t,h5,ht,c5⟩:=con_l1Below n f hn s4 h4 9 (by omega)
        refine ⟨s5,N,k,h,(2,twoF (z - 1) t),h5,by omega,by omega,by show 2≤3;omega,hB,?_⟩
        refine csZ Tryz.func157 (fun c hc=>?_)
        refine pkD Tryz.func157 hc (djc n f s s1 s2 s3 s4 s5 N N k 0 h h u x y z t true) ?_
        and_intros
        iterate 2 all_goals (first | exact zI | (exact c1) | (exact c2) | (exact c3) | (exact c4) | (exact c5) | (exact b0) | (exact b1) | (intros;simp [All];done) | (simp [e2];done) | (simp;omega) | (intro i hi;have hi2:i=0∨i=1:=(by omega);rcases hi2 with rfl | rfl<;>simp [rowIx,twoF,cvtL,cvt,tg,tru,All]) | simp only [All])
      · have b2:(y==2)=false:=beq_eq_false_iff_ne.2 e2
        refine ⟨s3,N,k,h,u,h3,by omega,by omega,hu,hB,?_⟩
        refine csZ Tryz.func157 (fun c hc=>?_)
        refine pkZ Tryz.func157 hc (djd n f s s1 s2 s3 s3 s3 N N k 0 h h u x y 0 0 true) ?_
        and_intros
        iterate 2 all_goals (first | exact zI | (exact c1) | (exact c2) | (exact c3) | (exact b0) | (exact b1) | (exact b2) | (intros;simp [All];done) | (simp;done) | (simp;omega) | simp only [All])
theorem ml0 (x:Int):(if True then if x>1 then x else 1 else if x<1 then x else 1)=(if x>1 then x else 1):=by simp
theorem ml1 (x:Int):(if true=true then if x>1 then x else 1 else if x<1 then x else 1)=(if x>1 then x else 1):=by simp
theorem con_l27Any (n:Nat) (f:Nat→Int) (hn:CdOk n f) (s:Nat×Int) (hs:s.1≤n):∃ (s2:Nat×Int) (N:Int) (k:Nat) (h:Nat→T_Bar) (u:T_IntS),s2.1≤n∧(0≤N∧N≤8)∧k≤25∧u.1≤3∧BdB k h ∧
    Con Tryz.prog 88 1 [(0,cuO n f s)] [.pt 3 0 0 0] [(0,cuO n f s2),(1,brOb k h),(2,iOb u.1 u.2)] (piR N k u.1 1):=by
  have lo:∀ q,q≤3→∀ (s:Nat×Int) (N:Int) (k:Nat) (h:Nat→T_Bar) (u:T_IntS),s.1≤n→(0≤N∧N≤8)→k≤25→u.1≤3→BdB k h→∃ (s2:Nat×Int) (k2:Nat) (h2:Nat→T_Bar),s2.1≤n∧(k2≤25∧BdB k2 h2) ∧
      ∀ c:Cx,c.n=1→zR c 88 zf78 (SSe n f s N k h u q) (Post c [(0,cuO n f s2),(1,brOb k2 h2),(2,iOb u.1 u.2)] (piR N k2 u.1 1)):=by
    intro q
    induction q with
    | zero =>
      intro _ s N k h u hs hN hk hu hB
      refine ⟨s,k,h,hs,⟨hk,hB⟩,fun c hc=>?_⟩
      refine pkZ Tryz.func88 hc (dke n f s N k h u) ?_
      and_intros
      iterate 2 all_goals (first | exact zI | (intros;simp [All];done) | (simp;done) | simp only [All])
    | succ q ih =>
      intro hq s N k h u hs hN hk hu hB
      have hd:decide (((q+1:Nat):Int)>0)=true:=decide_eq_true (by omega)
      obtain ⟨s1,a,h1,ha,c1⟩:=con_l1Below n f hn s hs (if N>1 then N else 1) (by split<;>omega)
      obtain ⟨s2,b,h2,hb,c2⟩:=con_l1Below n f hn s1 h1 (if N>1 then N else 1) (by split<;>omega)
      have sg:smS s_Graph (N,(k,h),()):=sm_graph (by show k≤_;omega)
      have c3:=con_CountBar_s (N,(k,h),()) sg a b
      have c4:=con_l2Has u a (by omega)
      have c5:=con_l2Has u b (by omega)
      have c6:=con_AddBar_s (N,(k,h),()) sg a b
      have hk2:=abG_n (N,(k,h),()) a b
      have hB2:=ab_Bd (N:=N) (k:=k) (h:=h) a b hB (by omega)
      have hM:(abG (N,(k,h),()) a b).1=N:=by unfold abG;split<;>rfl
      rw [hM] at c6
      have hk3:(abG (N,(k,h),()) a b).2.1.1≤25:=by
        rcases hk2 with e | e
        · have e':(abG (N,(k,h),()) a b).2.1.1≤k:=e
          omega
        · omega
      generalize (abG (N,(k,h),()) a b).2.1.1=m at c6 hk3 hB2
      generalize (abG (N,(k,h),()) a b).2.1.2=r at c6 hB2
      generalize abB (N,(k,h),()) a b=ok at c6
      generalize ((cbN (N,(k,h),()).2.1.2 a b (N,(k,h),()).2.1.1:Nat):Int)=cc at c3
      cases hx:(bif cc==0 then !bif hasI u.2 a u.1 then hasI u.2 b u.1 else false else false) with
      | true =>
        obtain ⟨s3,k3,h3,i1,i2,hr⟩:=ih (by omega) s2 N m r u h2 hN hk3 hu hB2
        refine ⟨s3,k3,h3,i1,i2,fun c hc=>?_⟩
        refine pcD hc (dkb n f s s1 s2 N k h u q a b cc (hasI u.2 a u.1) (hasI u.2 b u.1) m r ok) ?_ (hr c hc)
        and_intros
        all_goals (first | exact zH | (exact hd) | (exact c1) | (exact c2) | (rw [ml0];exact c1) | (rw [ml0];exact c2) | (rw [ml1];exact c1) | (rw [ml1];exact c2) | (exact c3) | (intros;exact c4) | (intros;exact c5) | (exact c6) | (exact hx) | (intros;simp [All];done) | (simp;done) | (intro h';simpa using h') | (simp;omega))
      | false =>
        obtain ⟨s3,k3,h3,i1,i2,hr⟩:=ih (by omega) s2 N k h u h2 hN hk hu hB
        refine ⟨s3,k3,h3,i1,i2,fun c hc=>?_⟩
        refine pcD hc (dkc n f s s1 s2 N k h u q a b cc (hasI u.2 a u.1) (hasI u.2 b u.1) m r ok) ?_ (hr c hc)
        and_intros
        all_goals (first | exact zH | (exact hd) | (exact c1) | (exact c2) | (rw [ml0];exact c1) | (rw [ml0];exact c2) | (rw [ml1];exact c1) | (rw [ml1];exact c2) | (exact c3) | (intros;exact c4) | (intros;exact c5) | (exact hx) | (intros;simp [All];done) | (simp;done) | (intro h';simpa using h') | (simp;omega))
  obtain ⟨s1,N,k,h,u,h1,hN,hk,hu,hB,c1⟩:=con_l20Any n f hn s hs
  obtain ⟨s2,q,h2,hq,c2⟩:=con_l1Below n f hn s1 h1 3 (by omega)
  have hq2:=hq.2.1 (by omega)
  obtain ⟨q,rfl⟩:∃ t:Nat,q=(t:Int):=⟨q.toNat,by omega⟩
  obtain ⟨s3,k3,h3,i1,i2,hr⟩:=lo q (by omega) s2 N k h u h2 hN hk hu hB
  refine ⟨s3,N,k3,h3,u,i1,hN,i2.1,hu,i2.2,?_⟩
  refine csZ Tryz.func88 (fun c hc=>?_)
  refine pcD hc (dka n f s s1 s2 N k h u q) ?_ (hr c hc)
  and_intros
  all_goals (first | exact zI | (exact c1) | (exact c2) | (intros;simp [All];done) | (simp;done) | (simp;omega))
def z2:Ob:=⟨true,2,1,fun _=>[.p (.int .i64 0),.p .nil]⟩
def gbx (n:Int) (j c:Nat):Ob:=⟨true,2,1,fun _=>[.p (.int .i64 n),.ar 2 j 0 c]⟩
def OBs (n:Int) (M:Nat) (A:Nat→T_Bar) (S:T_IntS) (i c:Nat) (h:Nat→T_Bar):St:=⟨[.p .any,inL S,.pt 2 0 0 0,.p .any,.pt 2 1 0 0,.pt 2 2 0 0,.p (.int .i64 i)]++List.replicate 25 anyA,[(0,⟨true,2,1,fun _=>[.p (.int .i64 n),brL A M]⟩),(1,z2),(2,gbx n 3 c),(3,brOb c h)],4⟩
theorem obe (n:Int) (M:Nat) (A:Nat→T_Bar) (S:T_IntS) (i c:Nat) (h:Nat→T_Bar) :
    zP Tryz.f93 0 [rg 5,.dec false,rg 2] [.code (cAt (bodyOf Tryz.f93) [1,1,0,1,0,0]),.inLoop (cAt (bodyOf Tryz.f93) [1,1,0,1,0,0]),.inBlock 0,.code (cAt (bodyOf Tryz.f93) [1,1,1])] (OBs n M A S i c h) [3] 1 [(0,brOb c h)] (.agg [.p (.int .i64 n),.ar 2 0 0 c]) =
    some [(NT 0 1),((decide ((↑i:Int)<(↑M:Int)))=false),(NT 0 1),(NT 0 1),((true=true)→ (AN 1)),(NT 0 1),(AI n),(AN 0),(AN c),(AN 2),(NL c c),(AA c (fun i_1=>[.p (.int .i64 ((h i_1).1)),.p (.int .i64 ((h i_1).2.1))])),(AE c)]:=by kernel_rfl
def eqGr (v u:T_Graph):Bool:=bif v.1==u.1 then q_BarS v.2.1 u.2.1 else false
def SEg9 (v u:T_Graph) (k:Nat):St :=
  ⟨[graphA v,graphA u,.pt 2 0 0 0,.pt 2 1 0 0,.p .any,.p (.int .i64 k)]++List.replicate 32 anyA,[(0,boxG v),(1,boxG u)],2⟩
theorem eg9z (v u:T_Graph) :
    zS Tryz.f57 [rg 3,rg 14,.dec true,rg 1] [graphA v,graphA u] [] [] (.p (.bool false)) =
    some (zD [(NT 0 1),(AG (!v.1 != u.1)),(((!v.1 != u.1)=true)→(NT 0 1)),(((v.1 != u.1)=false)→ ((!v.1 != u.1)=true)),((bif v.1 != u.1 then true else (↑v.2.1.1:Int) != (↑u.2.1.1:Int))=true),(false=false)] [0,0,1,2,1,1,2,1,1,1,3,4,5]):=by kernel_rfl
theorem eg9a (v u:T_Graph) :
    zT Tryz.f57 [rg 3,rg 14,.dec false,rg 1,.head] [graphA v,graphA u] [0,32] (SEg9 v u 0) =
    some (zf79,zD [(NT 0 1),(AG (!v.1 != u.1)),(((!v.1 != u.1)=true)→(NT 0 1)),(((v.1 != u.1)=false)→ ((!v.1 != u.1)=true)),((bif v.1 != u.1 then true else (↑v.2.1.1:Int) != (↑u.2.1.1:Int))=false),(AI v.1),(AN v.2.1.1),(AP v.2.1.1 (bRw v.2.1.2)),(AI u.1),(AN u.2.1.1),(AP u.2.1.1 (fun i=>[.int .i64 ((u.2.1.2 i).1),.int .i64 ((u.2.1.2 i).2.1)])),(AN 0),((0:Int)=(↑0:Int)),((([AV.p (PV.int IntKind.i64 v.1),graphL v.2.1].length):Nat)=2),(NL 1 1),((([AV.p (PV.int IntKind.i64 u.1),graphL u.2.1].length):Nat)=2)] [0,0,1,2,1,1,2,1,1,1,3,4,5,6,7,8,9,10,11,11,12,13,14,14,5,6,7,15,14,14,8,9,10]):=by kernel_rfl
theorem eg9b (v u:T_Graph) (k:Nat) :
    zM 0 [rg 5,.dec true,rg 11,.dec false,rg 3,.head] zf79 (SEg9 v u k) [0,1] 1 (SEg9 v u (k+1)) =
    some (zf79,zD [(NT 0 1),((decide ((↑k:Int)<(↑v.2.1.1:Int)))=true),(IL 0 (↑k:Int)),(IT (↑k:Int) (↑v.2.1.1:Int)),(IT (↑k:Int) (↑u.2.1.1:Int)),((!((v.2.1.2 k).1==(u.2.1.2 k).1&&((v.2.1.2 k).2.1==(u.2.1.2 k).2.1&&true)))=false),(ZLo ((↑k:Int)+1)),(ZHi ((↑k:Int)+1)),(AI v.1),(AN v.2.1.1),(AP v.2.1.1 (bRw v.2.1.2)),(AI u.1),(AN u.2.1.1),(AP u.2.1.1 (fun i=>[.int .i64 ((u.2.1.2 i).1),.int .i64 ((u.2.1.2 i).2.1)])),(AN 0),((((↑k:Int)+1):Int)=(↑(k+1):Int)),(AN 2),(NL 1 1)] [0,1,0,2,3,0,2,4,5,6,7,8,9,10,11,12,13,14,14,15,16,17,17,8,9,10,16,17,17,11,12,13]):=by kernel_rfl
theorem eg9c (v u:T_Graph) (k:Nat) :
    zP Tryz.f57 0 [rg 5,.dec true,rg 11,.dec true,rg 1] zf79 (SEg9 v u k) [] 1 [] (.p (.bool false)) =
    some (zD [(NT 0 1),((decide ((↑k:Int)<(↑v.2.1.1:Int)))=true),(IL 0 (↑k:Int)),(IT (↑k:Int) (↑v.2.1.1:Int)),(IT (↑k:Int) (↑u.2.1.1:Int)),((!((v.2.1.2 k).1==(u.2.1.2 k).1&&((v.2.1.2 k).2.1==(u.2.1.2 k).2.1&&true)))=true),(false=false)] [0,1,0,2,3,0,2,4,5,6]):=by kernel_rfl
theorem eg9d (v u:T_Graph) (k:Nat) :
    zP Tryz.f57 0 [rg 5,.dec false,rg 1] zf79 (SEg9 v u k) [] 1 [] (.p (.bool true)) =
    some [(NT 0 1),((decide ((↑k:Int)<(↑v.2.1.1:Int)))=false),(true=true)]:=by kernel_rfl
theorem con_EqualGraphs_s (v u:T_Graph) (hn:v.2.1.1≤1048576):zE 57 [graphA v,graphA u] [] (.p (.bool (eqGr v u))):=by
  refine csZ Tryz.func57 (fun c hc=>?_)
  by_cases hz:v.1=u.1∧v.2.1.1=u.2.1.1
  · rw [show eqGr v u=qT_BarS v.2.1.2 u.2.1.2 v.2.1.1 by simp [eqGr,q_BarS,hz.1,hz.2]]
    have lp:∀ m k,k+m=v.2.1.1→qT_BarS v.2.1.2 u.2.1.2 k=true→zR c 57 zf79 (SEg9 v u k) (Post c [] (.p (.bool (qT_BarS v.2.1.2 u.2.1.2 v.2.1.1)))):=by
      intro m
      induction m with
      | zero =>
        intro k hk hg
        rw [show qT_BarS v.2.1.2 u.2.1.2 v.2.1.1=true by rw [show v.2.1.1=k by omega];exact hg]
        have hd:decide ((k:Int)<(v.2.1.1:Int))=false:=by simp;omega
        refine pkZ Tryz.func57 hc (eg9d v u k) ?_
        and_intros
        all_goals (first | exact zN)
      | succ m ih =>
        intro k hk hg
        have hd:decide ((k:Int)<(v.2.1.1:Int))=true:=by simp;omega
        cases he:q1_BarS (v.2.1.2 k) (u.2.1.2 k) with
        | false =>
          rw [qT_BarS_bad _ _ k he v.2.1.1 (by omega)]
          have he':(!q1_BarS (v.2.1.2 k) (u.2.1.2 k))=true:=notf he
          refine pkD Tryz.func57 hc (eg9c v u k) ?_
          and_intros
          all_goals (first | exact zN | exact he')
        | true =>
          have he':(!q1_BarS (v.2.1.2 k) (u.2.1.2 k))=false:=nott he
          refine pcD hc (eg9b v u k) ?_ (ih (k+1) (by omega) (by simp [qT_BarS,hg,he]))
          and_intros
          all_goals (first | exact zN | exact he' | (simp [All]))
    refine pcD hc (eg9a v u) ?_ (lp v.2.1.1 0 (by omega) rfl)
    and_intros
    all_goals (first | exact zH | (intro h;simp [h]) | (simp [hz.1,hz.2]) | (simp [All]))
  · have hr:eqGr v u=false:=by
      simp only [eqGr,q_BarS]
      by_cases h1:v.1=u.1
      · have h2:¬ v.2.1.1=u.2.1.1:=fun h=>hz ⟨h1,h⟩
        simp [h1,h2]
      · have:(v.1==u.1)=false:=by simpa using h1
        rw [this];rfl
    rw [hr]
    have hb:(bif v.1 != u.1 then true else (v.2.1.1:Int) != (u.2.1.1:Int))=true:=by
      by_cases h1:v.1=u.1
      · have h2:¬ v.2.1.1=u.2.1.1:=fun h=>hz ⟨h1,h⟩
        simp [h1];omega
      · simp [h1]
    refine pkD Tryz.func57 hc (eg9z v u) ?_
    and_intros
    all_goals (first | exact zH)
def pjV (p:T_Pinned):AV:=.agg [.p (.int .i64 p.1.1),.ar 2 0 0 p.1.2.1.1,.ar 1 1 0 p.2.1.1]
def SmP (p:T_Pinned):Prop:=p.1.2.1.1≤25∧p.2.1.1≤8
theorem SmP.sm {p:T_Pinned} (h:SmP p):smS s_Pinned p:=sm_pin (by have:=h.1;omega) (by have:=h.2;omega)
structure R3 where
  a:Int
  b:Int
  c:Int
def R3.z:R3:=⟨0,0,0⟩
def r3 (g:Nat→R3) (i:Nat):List PV:=[.int .i64 (g i).a,.int .i64 (g i).b,.int .i64 (g i).c]
def cntK (g:Nat→R3) (kind:Int):Nat→Int
  | 0=>0
  | k+1=>if (g k).a==kind then cntK g kind k+1 else cntK g kind k
def S12 (n:Nat) (g:Nat→R3) (kind:Int) (k:Nat):St :=
  ⟨[.p (.seq true 3 n (r3 g)),.p (.int .i64 kind),.p .any,.p .any,.p .any,.p (.int .i64 (cntK g kind k)),.p (.int .i64 k)]++List.replicate 16 anyA,[],0⟩
def S14 (n:Nat) (g:Nat→R3) (kind:Int) (k:Nat):St :=
  ⟨[.p (.seq true 3 n (r3 g)),.p (.int .i64 kind),.p .any,.p .any,.p .any,.p (.int .i64 (cntK g kind k)),.p .any,.p .any,.p (.seq true 3 n (r3 g)),.p (.int .i64 n),.p (.int .i64 k)]++List.replicate 11 anyA,[],0⟩
def a3 (g:Nat→R3) (i:Nat):List AV:=[.p (.int .i64 (g i).a),.p (.int .i64 (g i).b),.p (.int .i64 (g i).c)]
def m3 (g:Nat→R3) (k:Nat) (i:Nat):List AV:=[.p (.int .i64 (if i<k then (g i).a else 0)),.p (.int .i64 (if i<k then (g i).b else 0)),.p (.int .i64 (if i<k then (g i).c else 0))]
theorem p12a (n:Nat) (g:Nat→R3) (kind:Int) :
    zT Tryz.f48 [rg 1,rg 1,rg 1,.head] [.p (.seq true 3 n (r3 g)),.p (.int .i64 kind)] [] (S12 n g kind 0) =
    some (zf80,[(AN n),(AP n (fun i=>[.int .i64 ((g i).a),.int .i64 ((g i).b),.int .i64 ((g i).c)])),(AI kind),((0:Int)=(cntK g kind 0)),((0:Int)=(↑0:Int))]):=by kernel_rfl
theorem p12b (n:Nat) (g:Nat→R3) (kind:Int) (k:Nat) :
    zM 0 [rg 4,.dec true,rg 7,.dec true,rg 3,rg 3,.head] zf80 (S12 n g kind k) [] 1 (S12 n g kind (k+1)) =
    some (zf80,[((decide ((↑k:Int)<(↑n:Int)))=true),(IL 0 (↑k:Int)),(IT (↑k:Int) (↑n:Int)),(((g k).a==kind)=true),(ZLo (cntK g kind k+1)),(ZHi (cntK g kind k+1)),(ZLo ((↑k:Int)+1)),(ZHi ((↑k:Int)+1)),(AN n),(AP n (fun i=>[.int .i64 ((g i).a),.int .i64 ((g i).b),.int .i64 ((g i).c)])),(AI kind),(((cntK g kind k+1):Int)=(cntK g kind (k+1))),((((↑k:Int)+1):Int)=(↑(k+1):Int))]):=by kernel_rfl
theorem p12c (n:Nat) (g:Nat→R3) (kind:Int) (k:Nat) :
    zM 0 [rg 4,.dec true,rg 7,.dec false,rg 3,.head] zf80 (S12 n g kind k) [] 1 (S12 n g kind (k+1)) =
    some (zf80,[((decide ((↑k:Int)<(↑n:Int)))=true),(IL 0 (↑k:Int)),(IT (↑k:Int) (↑n:Int)),(((g k).a==kind)=false),(ZLo ((↑k:Int)+1)),(ZHi ((↑k:Int)+1)),(AN n),(AP n (fun i=>[.int .i64 ((g i).a),.int .i64 ((g i).b),.int .i64 ((g i).c)])),(AI kind),(((cntK g kind k):Int)=(cntK g kind (k+1))),((((↑k:Int)+1):Int)=(↑(k+1):Int))]):=by kernel_rfl
theorem p12d (n:Nat) (g:Nat→R3) (kind:Int) (k:Nat) :
    zP Tryz.f48 0 [rg 4,.dec false,rg 2] zf80 (S12 n g kind k) [] 1 [] (.p (.int .i64 (cntK g kind n))) =
    some [((decide ((↑k:Int)<(↑n:Int)))=false),(((cntK g kind k):Int)=(cntK g kind n))]:=by kernel_rfl
theorem p14a (n:Nat) (g:Nat→R3) (kind:Int) :
    zT Tryz.f47 [rg 1,rg 1,rg 3,.head] [.p (.seq true 3 n (r3 g)),.p (.int .i64 kind)] [] (S14 n g kind 0) =
    some (zf81,zD [(AN n),(AP n (fun i=>[.int .i64 ((g i).a),.int .i64 ((g i).b),.int .i64 ((g i).c)])),(AI kind),((0:Int)=(cntK g kind 0)),(AI ((↑n:Int))),((0:Int)=(↑0:Int))] [0,1,2,3,0,1,4,5]):=by kernel_rfl
theorem p14b (n:Nat) (g:Nat→R3) (kind:Int) (k:Nat) :
    zM 0 [rg 1,.dec true,rg 4,rg 4,.dec true,rg 3,rg 2,.head] zf81 (S14 n g kind k) [] 1 (S14 n g kind (k+1)) =
    some (zf81,zD [((decide ((↑k:Int)<(↑n:Int)))=true),(IL 0 (↑k:Int)),(IT (↑k:Int) (↑n:Int)),(NT 0 1),((true=true)→ (AN 1)),(((g k).a==kind)=true),(ZLo (cntK g kind k+1)),(ZHi (cntK g kind k+1)),(ZLo ((↑k:Int)+1)),(ZHi ((↑k:Int)+1)),(AN n),(AP n (fun i=>[.int .i64 ((g i).a),.int .i64 ((g i).b),.int .i64 ((g i).c)])),(AI kind),(((cntK g kind k+1):Int)=(cntK g kind (k+1))),(AI ((↑n:Int))),((((↑k:Int)+1):Int)=(↑(k+1):Int))] [0,1,2,3,4,3,5,6,7,8,9,10,11,12,13,10,11,14,15]):=by kernel_rfl
theorem p14c (n:Nat) (g:Nat→R3) (kind:Int) (k:Nat) :
    zM 0 [rg 1,.dec true,rg 4,rg 4,.dec false,rg 2,.head] zf81 (S14 n g kind k) [] 1 (S14 n g kind (k+1)) =
    some (zf81,zD [((decide ((↑k:Int)<(↑n:Int)))=true),(IL 0 (↑k:Int)),(IT (↑k:Int) (↑n:Int)),(NT 0 1),((true=true)→ (AN 1)),(((g k).a==kind)=false),(ZLo ((↑k:Int)+1)),(ZHi ((↑k:Int)+1)),(AN n),(AP n (fun i=>[.int .i64 ((g i).a),.int .i64 ((g i).b),.int .i64 ((g i).c)])),(AI kind),(((cntK g kind k):Int)=(cntK g kind (k+1))),(AI ((↑n:Int))),((((↑k:Int)+1):Int)=(↑(k+1):Int))] [0,1,2,3,4,3,5,6,7,8,9,10,11,8,9,12,13]):=by kernel_rfl
theorem p14d (n:Nat) (g:Nat→R3) (kind:Int) (k:Nat) :
    zP Tryz.f47 0 [rg 1,.dec false,rg 2] zf81 (S14 n g kind k) [] 1 [] (.p (.int .i64 (cntK g kind n))) =
    some [((decide ((↑k:Int)<(↑n:Int)))=false),(((cntK g kind k):Int)=(cntK g kind n))]:=by kernel_rfl
theorem cntK_bd (g:Nat→R3) (kind:Int):∀ k:Nat,0≤cntK g kind k∧cntK g kind k≤k
  | 0=>⟨Int.le_refl _,Int.le_refl _⟩
  | k+1=>by
    have:=cntK_bd g kind k
    unfold cntK
    split<;>omega
theorem con12 (n:Nat) (g:Nat→R3) (kind:Int) (hl:n≤1048576) :
    zE 48 [.p (.seq true 3 n (r3 g)),.p (.int .i64 kind)] [] (.p (.int .i64 (cntK g kind n))):=by
  refine csZ Tryz.func48 (fun c hc=>?_)
  have lp:∀ m k,k+m=n→zR c 48 zf80 (S12 n g kind k) (Post c [] (.p (.int .i64 (cntK g kind n)))):=by
    intro m
    induction m with
    | zero =>
      intro k hk
      obtain rfl:k=n:=by omega
      refine pkZ Tryz.func48 hc (p12d k g kind k) ?_
      and_intros
      all_goals (first | exact zN | simp)
    | succ m ih =>
      intro k hk
      have hb:=cntK_bd g kind k
      have hlt:decide ((k:Int)<(n:Int))=true:=by simp;omega
      cases he:((g k).a==kind) with
      | true =>
        have hs:cntK g kind (k+1)=cntK g kind k+1:=by rw [cntK,if_pos he]
        refine pcZ hc (p12b n g kind k) ?_ (ih (k+1) (by omega))
        and_intros
        all_goals (first | exact zN)
      | false =>
        have hs:cntK g kind (k+1)=cntK g kind k:=by rw [cntK,he];rfl
        refine pcZ hc (p12c n g kind k) ?_ (ih (k+1) (by omega))
        and_intros
        all_goals (first | exact zN)
  refine pcZ hc (p12a n g kind) ?_ (lp n 0 (by omega))
  and_intros
  all_goals (first | exact zN)
theorem con14 (n:Nat) (g:Nat→R3) (kind:Int) (hl:n≤1048576) :
    zE 47 [.p (.seq true 3 n (r3 g)),.p (.int .i64 kind)] [] (.p (.int .i64 (cntK g kind n))):=by
  refine csZ Tryz.func47 (fun c hc=>?_)
  have lp:∀ m k,k+m=n→zR c 47 zf81 (S14 n g kind k) (Post c [] (.p (.int .i64 (cntK g kind n)))):=by
    intro m
    induction m with
    | zero =>
      intro k hk
      obtain rfl:k=n:=by omega
      refine pkZ Tryz.func47 hc (p14d k g kind k) ?_
      and_intros
      all_goals (first | exact zN | simp)
    | succ m ih =>
      intro k hk
      have hb:=cntK_bd g kind k
      have hlt:decide ((k:Int)<(n:Int))=true:=by simp;omega
      cases he:((g k).a==kind) with
      | true =>
        have hs:cntK g kind (k+1)=cntK g kind k+1:=by rw [cntK,if_pos he]
        refine pcD hc (p14b n g kind k) ?_ (ih (k+1) (by omega))
        and_intros
        all_goals (first | exact zI)
      | false =>
        have hs:cntK g kind (k+1)=cntK g kind k:=by rw [cntK,he];rfl
        refine pcD hc (p14c n g kind k) ?_ (ih (k+1) (by omega))
        and_intros
        all_goals (first | exact zI)
  refine pcD hc (p14a n g kind) ?_ (lp n 0 (by omega))
  and_intros
  all_goals (first | exact zN)
def q1_IntS (a b:Int):Bool:=a==b
def qT_IntS (g h:Nat→Int):Nat→Bool
  | 0=>true
  | k+1=>qT_IntS g h k&&q1_IntS (g k) (h k)
def q_IntS (v u:T_IntS):Bool:=if v.1=u.1 then qT_IntS v.2 u.2 v.1 else false
def S_seIntS (v u:T_IntS) (k:Nat):St :=
  ⟨[.p (.seq true 1 v.1 (fun i=>[.int .i64 (v.2 i)])),.p (.seq true 1 u.1 (fun i=>[.int .i64 (u.2 i)]))]++List.replicate 10 anyA++[.p (.int .i64 v.1),.p (.int .i64 k)]++List.replicate 12 anyA,[],0⟩
def S_ls_l6Same_IntS (v u:T_IntS) (k:Nat):St :=
  ⟨[.p (.seq true 1 v.1 (fun i=>[.int .i64 (v.2 i)])),.p (.seq true 1 u.1 (fun i=>[.int .i64 (u.2 i)])),.p .any,.p .any,.p .any,.p (.int .i64 k)]++List.replicate 20 anyA,[],0⟩
def q1_StringS (a b:ByteArray):Bool:=a.toList==b.toList
def qT_StringS (g h:Nat→ByteArray):Nat→Bool
  | 0=>true
  | k+1=>qT_StringS g h k&&q1_StringS (g k) (h k)
def q_StringS (v u:T_StringS):Bool:=if v.1=u.1 then qT_StringS v.2 u.2 v.1 else false
def S_seStringS (v u:T_StringS) (k:Nat):St :=
  ⟨[.p (.seq true 1 v.1 (fun i=>[.str (v.2 i)])),.p (.seq true 1 u.1 (fun i=>[.str (u.2 i)]))]++List.replicate 10 anyA++[.p (.int .i64 v.1),.p (.int .i64 k)]++List.replicate 12 anyA,[],0⟩
def S_seBarS (v u:T_BarS) (k:Nat):St :=
  ⟨[.p (.seq true 2 v.1 (fun i=>[.int .i64 ((v.2 i).1),.int .i64 ((v.2 i).2.1)])),.p (.seq true 2 u.1 (fun i=>[.int .i64 ((u.2 i).1),.int .i64 ((u.2 i).2.1)]))]++List.replicate 10 anyA++[.p (.int .i64 v.1),.p (.int .i64 k)]++List.replicate 12 anyA,[],0⟩
def eqSi (v u:T_Site):Bool:=bif bif eqGr v.1.1 u.1.1 then q_IntS v.1.2.1 u.1.2.1 else false then q_StringS v.2.1 u.2.1 else false
def boxJs (v:T_Site):Ob:=⟨true,4,1,fun i=>[.p (.int .i64 v.1.1.1),graphL v.1.1.2.1,inL v.1.2.1,stLt v.2.1.1 v.2.1.2]⟩
def SJe (v u:T_Site) (k:Nat):St :=
  ⟨[siA v,siA u,.pt 4 0 0 0,.pt 4 1 0 0,.p .any,.p (.int .i64 k)]++List.replicate 45 anyA,[(0,boxJs v),(1,boxJs u)],2⟩
theorem p_seBarS_z (v u:T_BarS) :
    zS Tryz.f159 [rg 1,rg 5,.dec true,rg 1] [.p (.seq true 2 v.1 (fun i=>[.int .i64 ((v.2 i).1),.int .i64 ((v.2 i).2.1)])),.p (.seq true 2 u.1 (fun i=>[.int .i64 ((u.2 i).1),.int .i64 ((u.2 i).2.1)]))] [] [] (.p (.bool false)) =
    some [(((↑v.1:Int) != (↑u.1:Int))=true),(false=false)]:=by kernel_rfl
theorem p_seBarS_a (v u:T_BarS) :
    zT Tryz.f159 [rg 1,rg 5,.dec false,rg 3,.head] [.p (.seq true 2 v.1 (fun i=>[.int .i64 ((v.2 i).1),.int .i64 ((v.2 i).2.1)])),.p (.seq true 2 u.1 (fun i=>[.int .i64 ((u.2 i).1),.int .i64 ((u.2 i).2.1)]))] [] (S_seBarS v u 0) =
    some (zf68,[(((↑v.1:Int) != (↑u.1:Int))=false),(AN v.1),(AP v.1 (fun i=>[.int .i64 ((v.2 i).1),.int .i64 ((v.2 i).2.1)])),(AN u.1),(AP u.1 (fun i=>[.int .i64 ((u.2 i).1),.int .i64 ((u.2 i).2.1)])),(AI ((↑v.1:Int))),((0:Int)=(↑0:Int))]):=by kernel_rfl
theorem p_seBarS_b (v u:T_BarS) (k:Nat) :
    zM 0 [rg 1,.dec true,rg 2,rg 9,.dec false,rg 2,.head] zf68 (S_seBarS v u k) [] 1 (S_seBarS v u (k+1)) =
    some (zf68,[((decide ((↑k:Int)<(↑v.1:Int)))=true),(IL 0 (↑k:Int)),(IT (↑k:Int) (↑v.1:Int)),(IL 0 (↑k:Int)),(IT (↑k:Int) (↑u.1:Int)),((!((v.2 k).1==(u.2 k).1&&((v.2 k).2.1==(u.2 k).2.1&&true)))=false),(ZLo ((↑k:Int)+1)),(ZHi ((↑k:Int)+1)),(AN v.1),(AP v.1 (fun i=>[.int .i64 ((v.2 i).1),.int .i64 ((v.2 i).2.1)])),(AN u.1),(AP u.1 (fun i=>[.int .i64 ((u.2 i).1),.int .i64 ((u.2 i).2.1)])),(AI ((↑v.1:Int))),((((↑k:Int)+1):Int)=(↑(k+1):Int))]):=by kernel_rfl
theorem p_seBarS_c (v u:T_BarS) (k:Nat) :
    zP Tryz.f159 0 [rg 1,.dec true,rg 2,rg 9,.dec true,rg 1] zf68 (S_seBarS v u k) [] 1 [] (.p (.bool false)) =
    some [((decide ((↑k:Int)<(↑v.1:Int)))=true),(IL 0 (↑k:Int)),(IT (↑k:Int) (↑v.1:Int)),(IL 0 (↑k:Int)),(IT (↑k:Int) (↑u.1:Int)),((!((v.2 k).1==(u.2 k).1&&((v.2 k).2.1==(u.2 k).2.1&&true)))=true),(false=false)]:=by kernel_rfl
theorem p_seBarS_d (v u:T_BarS) (k:Nat) :
    zP Tryz.f159 0 [rg 1,.dec false,rg 1] zf68 (S_seBarS v u k) [] 1 [] (.p (.bool true)) =
    some [((decide ((↑k:Int)<(↑v.1:Int)))=false),(true=true)]:=by kernel_rfl
theorem p_seIntS_z (v u:T_IntS) :
    zS Tryz.f100 [rg 1,rg 5,.dec true,rg 1] [.p (.seq true 1 v.1 (iRw v)),.p (.seq true 1 u.1 (iRw u))] [] [] (.p (.bool false)) =
    some [(((↑v.1:Int) != (↑u.1:Int))=true),(false=false)]:=by kernel_rfl
theorem p_seIntS_a (v u:T_IntS) :
    zT Tryz.f100 [rg 1,rg 5,.dec false,rg 3,.head] [.p (.seq true 1 v.1 (iRw v)),.p (.seq true 1 u.1 (iRw u))] [] (S_seIntS v u 0) =
    some (zf69,[(((↑v.1:Int) != (↑u.1:Int))=false),(AN v.1),(AP v.1 (iRw v)),(AN u.1),(AP u.1 (iRw u)),(AI ((↑v.1:Int))),((0:Int)=(↑0:Int))]):=by kernel_rfl
theorem p_seIntS_b (v u:T_IntS) (k:Nat) :
    zM 0 [rg 1,.dec true,rg 2,rg 9,.dec false,rg 2,.head] zf69 (S_seIntS v u k) [] 1 (S_seIntS v u (k+1)) =
    some (zf69,[((decide ((↑k:Int)<(↑v.1:Int)))=true),(IL 0 (↑k:Int)),(IT (↑k:Int) (↑v.1:Int)),(IL 0 (↑k:Int)),(IT (↑k:Int) (↑u.1:Int)),((v.2 k != u.2 k)=false),(ZLo ((↑k:Int)+1)),(ZHi ((↑k:Int)+1)),(AN v.1),(AP v.1 (iRw v)),(AN u.1),(AP u.1 (iRw u)),(AI ((↑v.1:Int))),((((↑k:Int)+1):Int)=(↑(k+1):Int))]):=by kernel_rfl
theorem p_seIntS_c (v u:T_IntS) (k:Nat) :
    zP Tryz.f100 0 [rg 1,.dec true,rg 2,rg 9,.dec true,rg 1] zf69 (S_seIntS v u k) [] 1 [] (.p (.bool false)) =
    some [((decide ((↑k:Int)<(↑v.1:Int)))=true),(IL 0 (↑k:Int)),(IT (↑k:Int) (↑v.1:Int)),(IL 0 (↑k:Int)),(IT (↑k:Int) (↑u.1:Int)),((v.2 k != u.2 k)=true),(false=false)]:=by kernel_rfl
theorem p_seIntS_d (v u:T_IntS) (k:Nat) :
    zP Tryz.f100 0 [rg 1,.dec false,rg 1] zf69 (S_seIntS v u k) [] 1 [] (.p (.bool true)) =
    some [((decide ((↑k:Int)<(↑v.1:Int)))=false),(true=true)]:=by kernel_rfl
theorem p_seStringS_z (v u:T_StringS) :
    zS Tryz.f101 [rg 1,rg 5,.dec true,rg 1] [.p (.seq true 1 v.1 (fun i=>[.str (v.2 i)])),.p (.seq true 1 u.1 (fun i=>[.str (u.2 i)]))] [] [] (.p (.bool false)) =
    some [(((↑v.1:Int) != (↑u.1:Int))=true),(false=false)]:=by kernel_rfl
theorem p_seStringS_a (v u:T_StringS) :
    zT Tryz.f101 [rg 1,rg 5,.dec false,rg 3,.head] [.p (.seq true 1 v.1 (fun i=>[.str (v.2 i)])),.p (.seq true 1 u.1 (fun i=>[.str (u.2 i)]))] [] (S_seStringS v u 0) =
    some (zf70,[(((↑v.1:Int) != (↑u.1:Int))=false),(AN v.1),(AP v.1 (fun i=>[.str (v.2 i)])),(AN u.1),(AP u.1 (fun i=>[.str (u.2 i)])),(AI ((↑v.1:Int))),((0:Int)=(↑0:Int))]):=by kernel_rfl
theorem p_seStringS_b (v u:T_StringS) (k:Nat) :
    zM 0 [rg 1,.dec true,rg 2,rg 9,.dec false,rg 2,.head] zf70 (S_seStringS v u k) [] 1 (S_seStringS v u (k+1)) =
    some (zf70,[((decide ((↑k:Int)<(↑v.1:Int)))=true),(IL 0 (↑k:Int)),(IT (↑k:Int) (↑v.1:Int)),(IL 0 (↑k:Int)),(IT (↑k:Int) (↑u.1:Int)),((!(v.2 k).toList==(u.2 k).toList)=false),(ZLo ((↑k:Int)+1)),(ZHi ((↑k:Int)+1)),(AN v.1),(AP v.1 (fun i=>[.str (v.2 i)])),(AN u.1),(AP u.1 (fun i=>[.str (u.2 i)])),(AI ((↑v.1:Int))),((((↑k:Int)+1):Int)=(↑(k+1):Int))]):=by kernel_rfl
theorem p_seStringS_c (v u:T_StringS) (k:Nat) :
    zP Tryz.f101 0 [rg 1,.dec true,rg 2,rg 9,.dec true,rg 1] zf70 (S_seStringS v u k) [] 1 [] (.p (.bool false)) =
    some [((decide ((↑k:Int)<(↑v.1:Int)))=true),(IL 0 (↑k:Int)),(IT (↑k:Int) (↑v.1:Int)),(IL 0 (↑k:Int)),(IT (↑k:Int) (↑u.1:Int)),((!(v.2 k).toList==(u.2 k).toList)=true),(false=false)]:=by kernel_rfl
theorem p_seStringS_d (v u:T_StringS) (k:Nat) :
    zP Tryz.f101 0 [rg 1,.dec false,rg 1] zf70 (S_seStringS v u k) [] 1 [] (.p (.bool true)) =
    some [((decide ((↑k:Int)<(↑v.1:Int)))=false),(true=true)]:=by kernel_rfl
theorem p_ls_l6Same_IntS_z (v u:T_IntS) :
    zS Tryz.f97 [rg 1,rg 5,.dec true,rg 1] [.p (.seq true 1 v.1 (iRw v)),.p (.seq true 1 u.1 (iRw u))] [] [] (.p (.bool false)) =
    some [(((↑v.1:Int) != (↑u.1:Int))=true),(false=false)]:=by kernel_rfl
theorem p_ls_l6Same_IntS_a (v u:T_IntS) :
    zT Tryz.f97 [rg 1,rg 5,.dec false,rg 1,.head] [.p (.seq true 1 v.1 (iRw v)),.p (.seq true 1 u.1 (iRw u))] [] (S_ls_l6Same_IntS v u 0) =
    some (zf82,[(((↑v.1:Int) != (↑u.1:Int))=false),(AN v.1),(AP v.1 (iRw v)),(AN u.1),(AP u.1 (iRw u)),((0:Int)=(↑0:Int))]):=by kernel_rfl
theorem p_ls_l6Same_IntS_b (v u:T_IntS) (k:Nat) :
    zM 0 [rg 4,.dec true,rg 9,.dec false,rg 3,.head] zf82 (S_ls_l6Same_IntS v u k) [] 1 (S_ls_l6Same_IntS v u (k+1)) =
    some (zf82,[((decide ((↑k:Int)<(↑v.1:Int)))=true),(IL 0 (↑k:Int)),(IT (↑k:Int) (↑v.1:Int)),(IL 0 (↑k:Int)),(IT (↑k:Int) (↑u.1:Int)),((v.2 k != u.2 k)=false),(ZLo ((↑k:Int)+1)),(ZHi ((↑k:Int)+1)),(AN v.1),(AP v.1 (iRw v)),(AN u.1),(AP u.1 (iRw u)),((((↑k:Int)+1):Int)=(↑(k+1):Int))]):=by kernel_rfl
theorem p_ls_l6Same_IntS_c (v u:T_IntS) (k:Nat) :
    zP Tryz.f97 0 [rg 4,.dec true,rg 9,.dec true,rg 1] zf82 (S_ls_l6Same_IntS v u k) [] 1 [] (.p (.bool false)) =
    some [((decide ((↑k:Int)<(↑v.1:Int)))=true),(IL 0 (↑k:Int)),(IT (↑k:Int) (↑v.1:Int)),(IL 0 (↑k:Int)),(IT (↑k:Int) (↑u.1:Int)),((v.2 k != u.2 k)=true),(false=false)]:=by kernel_rfl
theorem p_ls_l6Same_IntS_d (v u:T_IntS) (k:Nat) :
    zP Tryz.f97 0 [rg 4,.dec false,rg 1] zf82 (S_ls_l6Same_IntS v u k) [] 1 [] (.p (.bool true)) =
    some [((decide ((↑k:Int)<(↑v.1:Int)))=false),(true=true)]:=by kernel_rfl
theorem jE52 (v u:T_Graph) :
    zS Tryz.f99 [rg 3,rm [(10,oc [] (.p (.bool (q_BarS v.2.1 u.2.1))))] 2] [graphA v,graphA u] [] [] (.p (.bool (eqGr v u))) =
    some (zD [(NT 0 1),(AG (v.1==u.1)),(((v.1==u.1)=true)→(NT 0 1)),(((v.1==u.1)=true)→ zE 159 [.p (.seq true 2 v.2.1.1 (bRw v.2.1.2)),.p (.seq true 2 u.2.1.1 (fun i=>[.int .i64 ((u.2.1.2 i).1),.int .i64 ((u.2.1.2 i).2.1)]))] [] (.p (.bool (q_BarS v.2.1 u.2.1)))),((bif v.1==u.1 then q_BarS v.2.1 u.2.1 else false)=(eqGr v u))] [0,0,1,2,1,2,1,1,3,1,4]):=by kernel_rfl
theorem jEz (v u:T_Site) :
    zS Tryz.f28 [rg 3,rm [(6,oc [] (.p (.bool (eqGr v.1.1 u.1.1)))),(8,oc [] (.p (.bool (q_IntS v.1.2.1 u.1.2.1))))] 11,.dec true,rg 1] [siA v,siA u] [] [] (.p (.bool false)) =
    some (zD [(NT 0 1),zE 57 [(zf95 v),(zf95 u)] [] (.p (.bool (eqGr v.1.1 u.1.1))),(AG (!!eqGr v.1.1 u.1.1)),(((!!eqGr v.1.1 u.1.1)=true)→(NT 0 1)),(((!!eqGr v.1.1 u.1.1)=true)→ zE 97 [.p (.seq true 1 v.1.2.1.1 (fun i=>[.int .i64 (v.1.2.1.2 i)])),.p (.seq true 1 u.1.2.1.1 (fun i=>[.int .i64 (u.1.2.1.2 i)]))] [] (.p (.bool (q_IntS v.1.2.1 u.1.2.1)))),(((!eqGr v.1.1 u.1.1)=false)→ ((!!eqGr v.1.1 u.1.1)=true)),(AG (!bif !eqGr v.1.1 u.1.1 then true else !q_IntS v.1.2.1 u.1.2.1)),(((!bif !eqGr v.1.1 u.1.1 then true else !q_IntS v.1.2.1 u.1.2.1)=true)→(NT 0 1)),(((bif !eqGr v.1.1 u.1.1 then true else !q_IntS v.1.2.1 u.1.2.1)=false)→ ((!bif !eqGr v.1.1 u.1.1 then true else !q_IntS v.1.2.1 u.1.2.1)=true)),((bif bif !eqGr v.1.1 u.1.1 then true else !q_IntS v.1.2.1 u.1.2.1 then true else (↑v.2.1.1:Int) != (↑u.2.1.1:Int))=true),(false=false)] [0,0,1,2,2,3,2,2,3,2,2,4,2,5,6,7,6,6,7,6,6,6,8,9,10]):=by kernel_rfl
theorem jEa (v u:T_Site) :
    zT Tryz.f28 [rg 3,rm [(6,oc [] (.p (.bool (eqGr v.1.1 u.1.1)))),(8,oc [] (.p (.bool (q_IntS v.1.2.1 u.1.2.1))))] 11,.dec false,rg 1,.head] [siA v,siA u] [0,32] (SJe v u 0) =
    some (zf83,zD [(NT 0 1),zE 57 [(zf95 v),(zf95 u)] [] (.p (.bool (eqGr v.1.1 u.1.1))),(AG (!!eqGr v.1.1 u.1.1)),(((!!eqGr v.1.1 u.1.1)=true)→(NT 0 1)),(((!!eqGr v.1.1 u.1.1)=true)→ zE 97 [.p (.seq true 1 v.1.2.1.1 (fun i=>[.int .i64 (v.1.2.1.2 i)])),.p (.seq true 1 u.1.2.1.1 (fun i=>[.int .i64 (u.1.2.1.2 i)]))] [] (.p (.bool (q_IntS v.1.2.1 u.1.2.1)))),(((!eqGr v.1.1 u.1.1)=false)→ ((!!eqGr v.1.1 u.1.1)=true)),(AG (!bif !eqGr v.1.1 u.1.1 then true else !q_IntS v.1.2.1 u.1.2.1)),(((!bif !eqGr v.1.1 u.1.1 then true else !q_IntS v.1.2.1 u.1.2.1)=true)→(NT 0 1)),(((bif !eqGr v.1.1 u.1.1 then true else !q_IntS v.1.2.1 u.1.2.1)=false)→ ((!bif !eqGr v.1.1 u.1.1 then true else !q_IntS v.1.2.1 u.1.2.1)=true)),((bif bif !eqGr v.1.1 u.1.1 then true else !q_IntS v.1.2.1 u.1.2.1 then true else (↑v.2.1.1:Int) != (↑u.2.1.1:Int))=false),(AI v.1.1.1),(AN v.1.1.2.1.1),(AP v.1.1.2.1.1 (fun i=>[.int .i64 ((v.1.1.2.1.2 i).1),.int .i64 ((v.1.1.2.1.2 i).2.1)])),(AN v.1.2.1.1),(AP v.1.2.1.1 (fun i=>[.int .i64 (v.1.2.1.2 i)])),(AN v.2.1.1),(AP v.2.1.1 (fun i=>[.str (v.2.1.2 i)])),(AI u.1.1.1),(AN u.1.1.2.1.1),(AP u.1.1.2.1.1 (fun i=>[.int .i64 ((u.1.1.2.1.2 i).1),.int .i64 ((u.1.1.2.1.2 i).2.1)])),(AN u.1.2.1.1),(AP u.1.2.1.1 (fun i=>[.int .i64 (u.1.2.1.2 i)])),(AN u.2.1.1),(AP u.2.1.1 (fun i=>[.str (u.2.1.2 i)])),(AN 0),((0:Int)=(↑0:Int)),((([AV.p (PV.int IntKind.i64 v.1.1.1),graphL v.1.1.2.1,inL v.1.2.1,stLt v.2.1.1 v.2.1.2].length):Nat)=4),(NL 1 1),((([AV.p (PV.int IntKind.i64 u.1.1.1),graphL u.1.1.2.1,inL u.1.2.1,stLt u.2.1.1 u.2.1.2].length):Nat)=4)] [0,0,1,2,2,3,2,2,3,2,2,4,2,5,6,7,6,6,7,6,6,6,8,9,10,11,12,13,14,15,16,17,18,19,20,21,22,23,24,24,25,26,27,27,10,11,12,13,14,15,16,28,27,27,17,18,19,20,21,22,23]):=by kernel_rfl
theorem jEb (v u:T_Site) (k:Nat) :
    zM 0 [rg 5,.dec true,rg 11,.dec false,rg 3,.head] zf83 (SJe v u k) [0,1] 1 (SJe v u (k+1)) =
    some (zf83,zD [(NT 0 1),((decide ((↑k:Int)<(↑v.2.1.1:Int)))=true),(IL 0 (↑k:Int)),(IT (↑k:Int) (↑v.2.1.1:Int)),(IT (↑k:Int) (↑u.2.1.1:Int)),((!(v.2.1.2 k).toList==(u.2.1.2 k).toList)=false),(ZLo ((↑k:Int)+1)),(ZHi ((↑k:Int)+1)),(AI v.1.1.1),(AN v.1.1.2.1.1),(AP v.1.1.2.1.1 (fun i=>[.int .i64 ((v.1.1.2.1.2 i).1),.int .i64 ((v.1.1.2.1.2 i).2.1)])),(AN v.1.2.1.1),(AP v.1.2.1.1 (fun i=>[.int .i64 (v.1.2.1.2 i)])),(AN v.2.1.1),(AP v.2.1.1 (fun i=>[.str (v.2.1.2 i)])),(AI u.1.1.1),(AN u.1.1.2.1.1),(AP u.1.1.2.1.1 (fun i=>[.int .i64 ((u.1.1.2.1.2 i).1),.int .i64 ((u.1.1.2.1.2 i).2.1)])),(AN u.1.2.1.1),(AP u.1.2.1.1 (fun i=>[.int .i64 (u.1.2.1.2 i)])),(AN u.2.1.1),(AP u.2.1.1 (fun i=>[.str (u.2.1.2 i)])),(AN 0),((((↑k:Int)+1):Int)=(↑(k+1):Int)),(AN 4),(NL 1 1)] [0,1,0,2,3,0,2,4,5,6,7,8,9,10,11,12,13,14,15,16,17,18,19,20,21,22,22,23,24,25,25,8,9,10,11,12,13,14,24,25,25,15,16,17,18,19,20,21]):=by kernel_rfl
theorem jEc (v u:T_Site) (k:Nat) :
    zP Tryz.f28 0 [rg 5,.dec true,rg 11,.dec true,rg 1] zf83 (SJe v u k) [] 1 [] (.p (.bool false)) =
    some (zD [(NT 0 1),((decide ((↑k:Int)<(↑v.2.1.1:Int)))=true),(IL 0 (↑k:Int)),(IT (↑k:Int) (↑v.2.1.1:Int)),(IT (↑k:Int) (↑u.2.1.1:Int)),((!(v.2.1.2 k).toList==(u.2.1.2 k).toList)=true),(false=false)] [0,1,0,2,3,0,2,4,5,6]):=by kernel_rfl
theorem jEd (v u:T_Site) (k:Nat) :
    zP Tryz.f28 0 [rg 5,.dec false,rg 1] zf83 (SJe v u k) [] 1 [] (.p (.bool true)) =
    some [(NT 0 1),((decide ((↑k:Int)<(↑v.2.1.1:Int)))=false),(true=true)]:=by kernel_rfl
theorem jEi (v u:T_Site) :
    zS Tryz.f33 [rg 3,rm [(6,oc [] (.p (.bool (eqGr v.1.1 u.1.1)))),(7,oc [] (.p (.bool (q_IntS v.1.2.1 u.1.2.1)))),(6,oc [] (.p (.bool (q_StringS v.2.1 u.2.1))))] 2] [siA v,siA u] [] [] (.p (.bool (eqSi v u))) =
    some (zD [(NT 0 1),zE 99 [(zf95 v),(zf95 u)] [] (.p (.bool (eqGr v.1.1 u.1.1))),(AG (eqGr v.1.1 u.1.1)),(((eqGr v.1.1 u.1.1)=true)→(NT 0 1)),(((eqGr v.1.1 u.1.1)=true)→ zE 100 [.p (.seq true 1 v.1.2.1.1 (fun i=>[.int .i64 (v.1.2.1.2 i)])),.p (.seq true 1 u.1.2.1.1 (fun i=>[.int .i64 (u.1.2.1.2 i)]))] [] (.p (.bool (q_IntS v.1.2.1 u.1.2.1)))),(AG (bif eqGr v.1.1 u.1.1 then q_IntS v.1.2.1 u.1.2.1 else false)),(((bif eqGr v.1.1 u.1.1 then q_IntS v.1.2.1 u.1.2.1 else false)=true)→(NT 0 1)),(((bif eqGr v.1.1 u.1.1 then q_IntS v.1.2.1 u.1.2.1 else false)=true)→ zE 101 [.p (.seq true 1 v.2.1.1 (fun i=>[.str (v.2.1.2 i)])),.p (.seq true 1 u.2.1.1 (fun i=>[.str (u.2.1.2 i)]))] [] (.p (.bool (q_StringS v.2.1 u.2.1)))),((bif bif eqGr v.1.1 u.1.1 then q_IntS v.1.2.1 u.1.2.1 else false then q_StringS v.2.1 u.2.1 else false)=(eqSi v u))] [0,0,1,2,2,3,2,2,3,2,2,4,2,5,6,5,6,5,5,7,5,8]):=by kernel_rfl
theorem qT_IntS_bad (g h:Nat→Int) (k:Nat) (e:q1_IntS (g k) (h k)=false):∀ n,k<n→qT_IntS g h n=false
  | 0,h'=>by omega
  | n+1,h'=>by
    by_cases e':k=n
    · subst e';simp [qT_IntS,e]
    · simp [qT_IntS,qT_IntS_bad g h k e n (by omega)]
theorem qT_StringS_bad (g h:Nat→ByteArray) (k:Nat) (e:q1_StringS (g k) (h k)=false):∀ n,k<n→qT_StringS g h n=false
  | 0,h'=>by omega
  | n+1,h'=>by
    by_cases e':k=n
    · subst e';simp [qT_StringS,e]
    · simp [qT_StringS,qT_StringS_bad g h k e n (by omega)]
theorem con_seIntS (v u:T_IntS) (hv:v.1≤1048576):zE 100 [.p (.seq true 1 v.1 (fun i=>[.int .i64 (v.2 i)])),.p (.seq true 1 u.1 (fun i=>[.int .i64 (u.2 i)]))] [] (.p (.bool (q_IntS v u))):=by
  refine csZ Tryz.func100 (fun c hc=>?_)
  by_cases hz:v.1=u.1
  · rw [show q_IntS v u=qT_IntS v.2 u.2 v.1 by simp [q_IntS,hz]]
    have lp:∀ m k,k+m=v.1→qT_IntS v.2 u.2 k=true→zR c 100 zf69 (S_seIntS v u k) (Post c [] (.p (.bool (qT_IntS v.2 u.2 v.1)))):=by
      intro m
      induction m with
      | zero =>
        intro k hk hg
        rw [show qT_IntS v.2 u.2 v.1=true by rw [show v.1=k by omega];exact hg]
        have hd:decide ((k:Int)<(v.1:Int))=false:=by simp;omega
        refine pkZ Tryz.func100 hc (p_seIntS_d v u k) ?_
        and_intros
        all_goals (first | exact zN)
      | succ m ih =>
        intro k hk hg
        have hd:decide ((k:Int)<(v.1:Int))=true:=by simp;omega
        cases he:q1_IntS (v.2 k) (u.2 k) with
        | false =>
          rw [qT_IntS_bad _ _ k he v.1 (by omega)]
          have he':(!q1_IntS (v.2 k) (u.2 k))=true:=notf he
          refine pkZ Tryz.func100 hc (p_seIntS_c v u k) ?_
          and_intros
          all_goals (first | exact zN | exact he')
        | true =>
          have he':(!q1_IntS (v.2 k) (u.2 k))=false:=nott he
          refine pcZ hc (p_seIntS_b v u k) ?_ (ih (k+1) (by omega) (by simp [qT_IntS,hg,he]))
          and_intros
          all_goals (first | exact zN | exact he')
    refine pcZ hc (p_seIntS_a v u) ?_ (lp v.1 0 (by omega) rfl)
    and_intros
    all_goals (first | exact zN | (simp;omega))
  · rw [show q_IntS v u=false by simp [q_IntS,hz]]
    refine pkZ Tryz.func100 hc (p_seIntS_z v u) ?_
    and_intros
    all_goals (first | exact zN | (simp;omega))
theorem con_ls_l6Same_IntS (v u:T_IntS) (hv:v.1≤1048576):zE 97 [.p (.seq true 1 v.1 (fun i=>[.int .i64 (v.2 i)])),.p (.seq true 1 u.1 (fun i=>[.int .i64 (u.2 i)]))] [] (.p (.bool (q_IntS v u))):=by
  refine csZ Tryz.func97 (fun c hc=>?_)
  by_cases hz:v.1=u.1
  · rw [show q_IntS v u=qT_IntS v.2 u.2 v.1 by simp [q_IntS,hz]]
    have lp:∀ m k,k+m=v.1→qT_IntS v.2 u.2 k=true→zR c 97 zf82 (S_ls_l6Same_IntS v u k) (Post c [] (.p (.bool (qT_IntS v.2 u.2 v.1)))):=by
      intro m
      induction m with
      | zero =>
        intro k hk hg
        rw [show qT_IntS v.2 u.2 v.1=true by rw [show v.1=k by omega];exact hg]
        have hd:decide ((k:Int)<(v.1:Int))=false:=by simp;omega
        refine pkZ Tryz.func97 hc (p_ls_l6Same_IntS_d v u k) ?_
        and_intros
        all_goals (first | exact zN)
      | succ m ih =>
        intro k hk hg
        have hd:decide ((k:Int)<(v.1:Int))=true:=by simp;omega
        cases he:q1_IntS (v.2 k) (u.2 k) with
        | false =>
          rw [qT_IntS_bad _ _ k he v.1 (by omega)]
          have he':(!q1_IntS (v.2 k) (u.2 k))=true:=notf he
          refine pkZ Tryz.func97 hc (p_ls_l6Same_IntS_c v u k) ?_
          and_intros
          all_goals (first | exact zN | exact he')
        | true =>
          have he':(!q1_IntS (v.2 k) (u.2 k))=false:=nott he
          refine pcZ hc (p_ls_l6Same_IntS_b v u k) ?_ (ih (k+1) (by omega) (by simp [qT_IntS,hg,he]))
          and_intros
          all_goals (first | exact zN | exact he')
    refine pcZ hc (p_ls_l6Same_IntS_a v u) ?_ (lp v.1 0 (by omega) rfl)
    and_intros
    all_goals (first | exact zN | (simp;omega))
  · rw [show q_IntS v u=false by simp [q_IntS,hz]]
    refine pkZ Tryz.func97 hc (p_ls_l6Same_IntS_z v u) ?_
    and_intros
    all_goals (first | exact zN | (simp;omega))
theorem con_seStringS (v u:T_StringS) (hv:v.1≤1048576):zE 101 [.p (.seq true 1 v.1 (fun i=>[.str (v.2 i)])),.p (.seq true 1 u.1 (fun i=>[.str (u.2 i)]))] [] (.p (.bool (q_StringS v u))):=by
  refine csZ Tryz.func101 (fun c hc=>?_)
  by_cases hz:v.1=u.1
  · rw [show q_StringS v u=qT_StringS v.2 u.2 v.1 by simp [q_StringS,hz]]
    have lp:∀ m k,k+m=v.1→qT_StringS v.2 u.2 k=true→zR c 101 zf70 (S_seStringS v u k) (Post c [] (.p (.bool (qT_StringS v.2 u.2 v.1)))):=by
      intro m
      induction m with
      | zero =>
        intro k hk hg
        rw [show qT_StringS v.2 u.2 v.1=true by rw [show v.1=k by omega];exact hg]
        have hd:decide ((k:Int)<(v.1:Int))=false:=by simp;omega
        refine pkZ Tryz.func101 hc (p_seStringS_d v u k) ?_
        and_intros
        all_goals (first | exact zN)
      | succ m ih =>
        intro k hk hg
        have hd:decide ((k:Int)<(v.1:Int))=true:=by simp;omega
        cases he:q1_StringS (v.2 k) (u.2 k) with
        | false =>
          rw [qT_StringS_bad _ _ k he v.1 (by omega)]
          have he':(!q1_StringS (v.2 k) (u.2 k))=true:=notf he
          refine pkZ Tryz.func101 hc (p_seStringS_c v u k) ?_
          and_intros
          all_goals (first | exact zN | exact he')
        | true =>
          have he':(!q1_StringS (v.2 k) (u.2 k))=false:=nott he
          refine pcZ hc (p_seStringS_b v u k) ?_ (ih (k+1) (by omega) (by simp [qT_StringS,hg,he]))
          and_intros
          all_goals (first | exact zN | exact he')
    refine pcZ hc (p_seStringS_a v u) ?_ (lp v.1 0 (by omega) rfl)
    and_intros
    all_goals (first | exact zN | (simp;omega))
  · rw [show q_StringS v u=false by simp [q_StringS,hz]]
    refine pkZ Tryz.func101 hc (p_seStringS_z v u) ?_
    and_intros
    all_goals (first | exact zN | (simp;omega))
theorem con_seBarS (v u:T_BarS) (hv:v.1≤1048576):zE 159 [.p (.seq true 2 v.1 (fun i=>[.int .i64 ((v.2 i).1),.int .i64 ((v.2 i).2.1)])),.p (.seq true 2 u.1 (fun i=>[.int .i64 ((u.2 i).1),.int .i64 ((u.2 i).2.1)]))] [] (.p (.bool (q_BarS v u))):=by
  refine csZ Tryz.func159 (fun c hc=>?_)
  by_cases hz:v.1=u.1
  · rw [show q_BarS v u=qT_BarS v.2 u.2 v.1 by simp [q_BarS,hz]]
    have lp:∀ m k,k+m=v.1→qT_BarS v.2 u.2 k=true→zR c 159 zf68 (S_seBarS v u k) (Post c [] (.p (.bool (qT_BarS v.2 u.2 v.1)))):=by
      intro m
      induction m with
      | zero =>
        intro k hk hg
        rw [show qT_BarS v.2 u.2 v.1=true by rw [show v.1=k by omega];exact hg]
        have hd:decide ((k:Int)<(v.1:Int))=false:=by simp;omega
        refine pkZ Tryz.func159 hc (p_seBarS_d v u k) ?_
        and_intros
        all_goals (first | exact zN)
      | succ m ih =>
        intro k hk hg
        have hd:decide ((k:Int)<(v.1:Int))=true:=by simp;omega
        cases he:q1_BarS (v.2 k) (u.2 k) with
        | false =>
          rw [qT_BarS_bad _ _ k he v.1 (by omega)]
          have he':(!q1_BarS (v.2 k) (u.2 k))=true:=notf he
          refine pkZ Tryz.func159 hc (p_seBarS_c v u k) ?_
          and_intros
          all_goals (first | exact zN | exact he')
        | true =>
          have he':(!q1_BarS (v.2 k) (u.2 k))=false:=nott he
          refine pcZ hc (p_seBarS_b v u k) ?_ (ih (k+1) (by omega) (by simp [qT_BarS,hg,he]))
          and_intros
          all_goals (first | exact zN | exact he')
    refine pcZ hc (p_seBarS_a v u) ?_ (lp v.1 0 (by omega) rfl)
    and_intros
    all_goals (first | exact zN | (simp;omega))
  · rw [show q_BarS v u=false by simp [q_BarS,hz]]
    refine pkZ Tryz.func159 hc (p_seBarS_z v u) ?_
    and_intros
    all_goals (first | exact zN | (simp;omega))
theorem con_EqualGr_i (v u:T_Graph) (hn:v.2.1.1≤1048576):zE 99 [graphA v,graphA u] [] (.p (.bool (eqGr v u))):=by
  refine csZ Tryz.func99 (fun c hc=>?_)
  refine pkD Tryz.func99 hc (jE52 v u) ?_
  and_intros
  all_goals (first | exact zI | (intros;exact con_seBarS v.2.1 u.2.1 hn))
theorem con_EqualSites_i (v u:T_Site) (hv:smS s_Site v):zE 33 [siA v,siA u] [] (.p (.bool (eqSi v u))):=by
  refine csZ Tryz.func33 (fun c hc=>?_)
  refine pkD Tryz.func33 hc (jEi v u) ?_
  and_intros
  all_goals (first | exact zI | (exact con_EqualGr_i v.1.1 u.1.1 hv.1.1.2.1.1) | (intros;exact con_seIntS v.1.2.1 u.1.2.1 hv.1.2.1.1) | (intros;exact con_seStringS v.2.1 u.2.1 hv.2.1.1))
theorem con_EqualSites_s (v u:T_Site) (hv:smS s_Site v):zE 28 [siA v,siA u] [] (.p (.bool (eqSi v u))):=by
  refine csZ Tryz.func28 (fun c hc=>?_)
  have hn:v.2.1.1≤1048576:=hv.2.1.1
  by_cases hz:(eqGr v.1.1 u.1.1=true∧q_IntS v.1.2.1 u.1.2.1=true)∧v.2.1.1=u.2.1.1
  · rw [show eqSi v u=qT_StringS v.2.1.2 u.2.1.2 v.2.1.1 by simp [eqSi,q_StringS,hz.1.1,hz.1.2,hz.2]]
    have lp:∀ m k,k+m=v.2.1.1→qT_StringS v.2.1.2 u.2.1.2 k=true→zR c 28 zf83 (SJe v u k) (Post c [] (.p (.bool (qT_StringS v.2.1.2 u.2.1.2 v.2.1.1)))):=by
      intro m
      induction m with
      | zero =>
        intro k hk hg
        rw [show qT_StringS v.2.1.2 u.2.1.2 v.2.1.1=true by rw [show v.2.1.1=k by omega];exact hg]
        have hd:decide ((k:Int)<(v.2.1.1:Int))=false:=by simp;omega
        refine pkZ Tryz.func28 hc (jEd v u k) ?_
        and_intros
        all_goals (first | exact zN)
      | succ m ih =>
        intro k hk hg
        have hd:decide ((k:Int)<(v.2.1.1:Int))=true:=by simp;omega
        cases he:q1_StringS (v.2.1.2 k) (u.2.1.2 k) with
        | false =>
          rw [qT_StringS_bad _ _ k he v.2.1.1 (by omega)]
          have he':(!q1_StringS (v.2.1.2 k) (u.2.1.2 k))=true:=notf he
          refine pkD Tryz.func28 hc (jEc v u k) ?_
          and_intros
          all_goals (first | exact zN | exact he')
        | true =>
          have he':(!q1_StringS (v.2.1.2 k) (u.2.1.2 k))=false:=nott he
          refine pcD hc (jEb v u k) ?_ (ih (k+1) (by omega) (by simp [qT_StringS,hg,he]))
          and_intros
          all_goals (first | exact zN | exact he' | (simp [All]))
    have hb:(bif bif !eqGr v.1.1 u.1.1 then true else !q_IntS v.1.2.1 u.1.2.1 then true else (v.2.1.1:Int) != (u.2.1.1:Int))=false:=by simp [hz.1.1,hz.1.2,hz.2]
    refine pcD hc (jEa v u) ?_ (lp v.2.1.1 0 (by omega) rfl)
    and_intros
    all_goals (first | exact zH | (exact con_EqualGraphs_s v.1.1 u.1.1 hv.1.1.2.1.1) | (intros;exact con_ls_l6Same_IntS v.1.2.1 u.1.2.1 hv.1.2.1.1) | (exact hb) | (simp [All]))
  · have hr:eqSi v u=false:=by
      simp only [eqSi,q_StringS]
      cases h1:eqGr v.1.1 u.1.1 with
      | false=>rfl
      | true =>
        cases h2:q_IntS v.1.2.1 u.1.2.1 with
        | false=>rfl
        | true =>
          have h3:¬ v.2.1.1=u.2.1.1:=fun h=>hz ⟨⟨h1,h2⟩,h⟩
          simp [h3]
    rw [hr]
    have hb:(bif bif !eqGr v.1.1 u.1.1 then true else !q_IntS v.1.2.1 u.1.2.1 then true else (v.2.1.1:Int) != (u.2.1.1:Int))=true:=by
      cases h1:eqGr v.1.1 u.1.1 with
      | false=>rfl
      | true =>
        cases h2:q_IntS v.1.2.1 u.1.2.1 with
        | false=>rfl
        | true =>
          have h3:¬ v.2.1.1=u.2.1.1:=fun h=>hz ⟨⟨h1,h2⟩,h⟩
          simp;omega
    refine pkD Tryz.func28 hc (jEz v u) ?_
    and_intros
    all_goals (first | exact zH | (exact con_EqualGraphs_s v.1.1 u.1.1 hv.1.1.2.1.1) | (intros;exact con_ls_l6Same_IntS v.1.2.1 u.1.2.1 hv.1.2.1.1) | (exact hb))
def evOb (l:T_EventS):Ob:=⟨false,3,l.1,fun i=>[.p (.int .i64 (l.2 i).1),.p (.int .i64 (l.2 i).2.1),.p (.int .i64 (l.2 i).2.2.1)]⟩
def noT:Nat→ByteArray:=fun _=>ByteArray.mk #[]
def siN (p:T_Pinned):T_Site:=(p,(0,noT),())
def siJ (v:T_Site) (a b c:Nat):AV:=.agg [.p (.int .i64 v.1.1.1),.ar 2 a 0 v.1.1.2.1.1,.ar 1 b 0 v.1.2.1.1,.ar 1 c 0 v.2.1.1]
def SBo (n:Nat) (f:Nat→Int) (s:Nat×Int) (p:T_Pinned) (l:T_EventS) (q:Nat):St :=
  ⟨[.pt 3 0 0 0,.p .any,.pt 4 1 0 0,.p .any,.pt 3 2 0 0,.pt 4 5 0 0,.ar 3 6 0 l.1,.p (.int .i64 q)]++List.replicate 21 anyA,
   [(0,cuO n f s),(1,zS4),(2,pgO p.1.1 p.1.2.1.1 p.2.1.1),(3,brOb p.1.2.1.1 p.1.2.1.2),(4,iOb p.2.1.1 p.2.1.2),(5,⟨true,4,1,fun _=>[.p (.int .i64 p.1.1),.ar 2 3 0 p.1.2.1.1,.ar 1 4 0 p.2.1.1,.p .nil]⟩),(6,evOb l)],7⟩
def snE (r:T_EventS) (e:T_Event):T_EventS:=(r.1+1,fun i=>(if i<r.1 then (r.2 i).1 else e.1,if i<r.1 then (r.2 i).2.1 else e.2.1,if i<r.1 then (r.2 i).2.2.1 else e.2.2.1,()))
theorem jv0 (n:Nat) (f:Nat→Int) (s s1 s2 s3 s4:Nat×Int) (p:T_Pinned) (x a b c:Int) (i:Nat) :
    zP Tryz.f102 1 [rg 2,rm [(1,⟨true,(some ⟨[0],[1000],[],1,[(0,cuO n f s1)],.p (.int .i64 x)⟩),none⟩)] 0,rg 2,.dec true,rg 2] [.code (bodyOf Tryz.f102)] (start Tryz.f102 [(0,cuO n f s)] 1 [.pt 3 0 0 0,pinA p]) [0] 1 [(0,cuO n f s1)] (.agg [.p (.int .i64 3),.p (.int .i64 0),.p (.int .i64 0)]) =
    some [(AE 1),Con Tryz.prog 89 1 (zf94 n f s) [.pt 3 0 0 0,.p (.int .i64 6)] (zf94 n f s1) (.p (.int .i64 x)),((x==0)=true),(NT 0 1),((true=true)→ (AN 1)),(NT 0 1),(AI 3),(AI 0),(AI 0),(AN 3),(NL 1 1),(NL 1 1),(AN n),(AP n (fun i_1=>[.int .u8 (f i_1)])),(AI ((↑s1.1:Int))),(AI s1.2),(∀ i_1:Nat,(((i_1:Nat)<1)→All [(false=false),(AE n)]))]:=by kernel_rfl
theorem jv1 (n:Nat) (f:Nat→Int) (s s1 s2 s3 s4:Nat×Int) (p:T_Pinned) (x a b c:Int) (i:Nat) :
    zP Tryz.f102 1 [rg 2,rm [(1,⟨true,(some ⟨[0],[1000],[],1,[(0,cuO n f s1)],.p (.int .i64 x)⟩),none⟩)] 0,rg 2,.dec false,rg 2,.dec true,rg 2] [.code (bodyOf Tryz.f102)] (start Tryz.f102 [(0,cuO n f s)] 1 [.pt 3 0 0 0,pinA p]) [0] 1 [(0,cuO n f s1)] (.agg [.p (.int .i64 4),.p (.int .i64 0),.p (.int .i64 0)]) =
    some [(AE 1),Con Tryz.prog 89 1 (zf94 n f s) [.pt 3 0 0 0,.p (.int .i64 6)] (zf94 n f s1) (.p (.int .i64 x)),((x==0)=false),((x==1)=true),(NT 0 1),((true=true)→ (AN 1)),(NT 0 1),(AI 4),(AI 0),(AI 0),(AN 3),(NL 1 1),(NL 1 1),(AN n),(AP n (fun i_1=>[.int .u8 (f i_1)])),(AI ((↑s1.1:Int))),(AI s1.2),(∀ i_1:Nat,(((i_1:Nat)<1)→All [(false=false),(AE n)]))]:=by kernel_rfl
theorem jv2t (n:Nat) (f:Nat→Int) (s s1 s2 s3 s4:Nat×Int) (p:T_Pinned) (x a b c:Int) (i:Nat) :
    zP Tryz.f102 1 [rg 2,rm [(1,⟨true,(some ⟨[0],[1000],[],1,[(0,cuO n f s1)],.p (.int .i64 x)⟩),none⟩)] 0,rg 2,.dec false,rg 2,.dec false,rg 2,.dec true,.dec true,rg 5,.dec true,rm [(8,⟨true,(some ⟨[0],[1000],[],1,[(0,cuO n f s2)],.p (.int .i64 i)⟩),none⟩)] 4,rg 6] [.code (bodyOf Tryz.f102)] (start Tryz.f102 [(0,cuO n f s)] 1 [.pt 3 0 0 0,pinA p]) [0] 1 [(0,cuO n f s2)] (.agg [.p (.int .i64 2),.p (.int .i64 (p.1.2.1.2 i).1),.p (.int .i64 (p.1.2.1.2 i).2.1)]) =
    some (zD [(AE 1),Con Tryz.prog 89 1 (zf94 n f s) [.pt 3 0 0 0,.p (.int .i64 6)] (zf94 n f s1) (.p (.int .i64 x)),((x==0)=false),((x==1)=false),((x==2)=true),(NT 0 1),((decide ((↑p.1.2.1.1:Int)>0))=true),Con Tryz.prog 89 1 (zf94 n f s1) [.pt 3 0 0 0,.p (.int .i64 (↑p.1.2.1.1:Int))] (zf94 n f s2) (.p (.int .i64 (↑i:Int))),(IL 0 (↑i:Int)),(IT (↑i:Int) (↑p.1.2.1.1:Int)),((true=true)→ (AN 1)),(AI 2),(AI (((p.1.2.1.2 i).1))),(AI (((p.1.2.1.2 i).2.1))),(AN 3),(NL 1 1),(AN n),(AP n (fun i_1=>[.int .u8 (f i_1)])),(AI ((↑s2.1:Int))),(AI s2.2),(∀ i_1:Nat,(((i_1:Nat)<1)→All [(false=false),(AE n)]))] [0,1,2,3,4,4,5,6,5,5,0,7,8,9,5,10,5,5,5,10,5,11,12,13,14,15,15,16,17,18,19,20]):=by kernel_rfl
theorem jv2f (n:Nat) (f:Nat→Int) (s s1 s2 s3 s4:Nat×Int) (p:T_Pinned) (x a b c:Int) (i:Nat) :
    zP Tryz.f102 1 [rg 2,rm [(1,⟨true,(some ⟨[0],[1000],[],1,[(0,cuO n f s1)],.p (.int .i64 x)⟩),none⟩)] 0,rg 2,.dec false,rg 2,.dec false,rg 2,.dec true,.dec true,rg 5,.dec false,rm [(1,⟨true,(some ⟨[0],[1000],[],1,[(0,cuO n f s2)],.p (.int .i64 a)⟩),none⟩)] 1,rm [(2,⟨true,(some ⟨[0],[1000],[],1,[(0,cuO n f s3)],.p (.int .i64 b)⟩),none⟩)] 2] [.code (bodyOf Tryz.f102)] (start Tryz.f102 [(0,cuO n f s)] 1 [.pt 3 0 0 0,pinA p]) [0] 1 [(0,cuO n f s3)] (.agg [.p (.int .i64 1),.p (.int .i64 a),.p (.int .i64 b)]) =
    some [(AE 1),Con Tryz.prog 89 1 (zf94 n f s) [.pt 3 0 0 0,.p (.int .i64 6)] (zf94 n f s1) (.p (.int .i64 x)),((x==0)=false),((x==1)=false),((x==2)=true),((x==2)=true),(NT 0 1),((decide ((↑p.1.2.1.1:Int)>0))=false),(AE 1),Con Tryz.prog 89 1 (zf94 n f s1) [.pt 3 0 0 0,.p (.int .i64 6)] (zf94 n f s2) (.p (.int .i64 a)),(AE 1),Con Tryz.prog 89 1 (zf94 n f s2) [.pt 3 0 0 0,.p (.int .i64 6)] (zf94 n f s3) (.p (.int .i64 b)),(NT 0 1),((true=true)→ (AN 1)),(NT 0 1),(AI 1),(AI a),(AI b),(AN 3),(NL 1 1),(NL 1 1),(AN n),(AP n (fun i_1=>[.int .u8 (f i_1)])),(AI ((↑s3.1:Int))),(AI s3.2),(∀ i_1:Nat,(((i_1:Nat)<1)→All [(false=false),(AE n)]))]:=by kernel_rfl
theorem jv3t (n:Nat) (f:Nat→Int) (s s1 s2 s3 s4:Nat×Int) (p:T_Pinned) (x a b c:Int) (i:Nat) :
    zP Tryz.f102 1 [rg 2,rm [(1,⟨true,(some ⟨[0],[1000],[],1,[(0,cuO n f s1)],.p (.int .i64 x)⟩),none⟩)] 0,rg 2,.dec false,rg 2,.dec false,rg 2,.dec false,rg 2,.dec true,rg 5,.dec true,rm [(8,⟨true,(some ⟨[0],[1000],[],1,[(0,cuO n f s2)],.p (.int .i64 i)⟩),none⟩)] 4,rg 6] [.code (bodyOf Tryz.f102)] (start Tryz.f102 [(0,cuO n f s)] 1 [.pt 3 0 0 0,pinA p]) [0] 1 [(0,cuO n f s2)] (.agg [.p (.int .i64 2),.p (.int .i64 (p.1.2.1.2 i).1),.p (.int .i64 (p.1.2.1.2 i).2.1)]) =
    some (zD [(AE 1),Con Tryz.prog 89 1 (zf94 n f s) [.pt 3 0 0 0,.p (.int .i64 6)] (zf94 n f s1) (.p (.int .i64 x)),((x==0)=false),((x==1)=false),((x==2)=false),((x==3)=true),(NT 0 1),((decide ((↑p.1.2.1.1:Int)>0))=true),Con Tryz.prog 89 1 (zf94 n f s1) [.pt 3 0 0 0,.p (.int .i64 (↑p.1.2.1.1:Int))] (zf94 n f s2) (.p (.int .i64 (↑i:Int))),(IL 0 (↑i:Int)),(IT (↑i:Int) (↑p.1.2.1.1:Int)),((true=true)→ (AN 1)),(AI 2),(AI (((p.1.2.1.2 i).1))),(AI (((p.1.2.1.2 i).2.1))),(AN 3),(NL 1 1),(AN n),(AP n (fun i_1=>[.int .u8 (f i_1)])),(AI ((↑s2.1:Int))),(AI s2.2),(∀ i_1:Nat,(((i_1:Nat)<1)→All [(false=false),(AE n)]))] [0,1,2,3,4,5,6,7,6,6,0,8,9,10,6,11,6,6,6,11,6,12,13,14,15,16,16,17,18,19,20,21]):=by kernel_rfl
theorem jv3f (n:Nat) (f:Nat→Int) (s s1 s2 s3 s4:Nat×Int) (p:T_Pinned) (x a b c:Int) (i:Nat) :
    zP Tryz.f102 1 [rg 2,rm [(1,⟨true,(some ⟨[0],[1000],[],1,[(0,cuO n f s1)],.p (.int .i64 x)⟩),none⟩)] 0,rg 2,.dec false,rg 2,.dec false,rg 2,.dec false,rg 2,.dec true,rg 5,.dec false,rm [(1,⟨true,(some ⟨[0],[1000],[],1,[(0,cuO n f s2)],.p (.int .i64 a)⟩),none⟩)] 1,rm [(2,⟨true,(some ⟨[0],[1000],[],1,[(0,cuO n f s3)],.p (.int .i64 b)⟩),none⟩)] 2] [.code (bodyOf Tryz.f102)] (start Tryz.f102 [(0,cuO n f s)] 1 [.pt 3 0 0 0,pinA p]) [0] 1 [(0,cuO n f s3)] (.agg [.p (.int .i64 1),.p (.int .i64 a),.p (.int .i64 b)]) =
    some [(AE 1),Con Tryz.prog 89 1 (zf94 n f s) [.pt 3 0 0 0,.p (.int .i64 6)] (zf94 n f s1) (.p (.int .i64 x)),((x==0)=false),((x==1)=false),((x==2)=false),((x==3)=true),(NT 0 1),((decide ((↑p.1.2.1.1:Int)>0))=false),(AE 1),Con Tryz.prog 89 1 (zf94 n f s1) [.pt 3 0 0 0,.p (.int .i64 6)] (zf94 n f s2) (.p (.int .i64 a)),(AE 1),Con Tryz.prog 89 1 (zf94 n f s2) [.pt 3 0 0 0,.p (.int .i64 6)] (zf94 n f s3) (.p (.int .i64 b)),(NT 0 1),((true=true)→ (AN 1)),(NT 0 1),(AI 1),(AI a),(AI b),(AN 3),(NL 1 1),(NL 1 1),(AN n),(AP n (fun i_1=>[.int .u8 (f i_1)])),(AI ((↑s3.1:Int))),(AI s3.2),(∀ i_1:Nat,(((i_1:Nat)<1)→All [(false=false),(AE n)]))]:=by kernel_rfl
theorem jv4 (n:Nat) (f:Nat→Int) (s s1 s2 s3 s4:Nat×Int) (p:T_Pinned) (x a b c:Int) (i:Nat) :
    zP Tryz.f102 1 [rg 2,rm [(1,⟨true,(some ⟨[0],[1000],[],1,[(0,cuO n f s1)],.p (.int .i64 x)⟩),none⟩)] 0,rg 2,.dec false,rg 2,.dec false,rg 2,.dec false,rg 2,.dec false,rg 2,.dec true,rm [(1,⟨true,(some ⟨[0],[1000],[],1,[(0,cuO n f s2)],.p (.int .i64 a)⟩),none⟩),(1,⟨true,(some ⟨[0],[1000],[],1,[(0,cuO n f s3)],.p (.int .i64 b)⟩),none⟩),(2,⟨true,(some ⟨[0],[1000],[],1,[(0,cuO n f s4)],.p (.int .i64 c)⟩),none⟩)] 2] [.code (bodyOf Tryz.f102)] (start Tryz.f102 [(0,cuO n f s)] 1 [.pt 3 0 0 0,pinA p]) [0] 1 [(0,cuO n f s4)] (.agg [.p (.int .i64 a),.p (.int .i64 (b - 1)),.p (.int .i64 c)]) =
    some [(AE 1),Con Tryz.prog 89 1 (zf94 n f s) [.pt 3 0 0 0,.p (.int .i64 6)] (zf94 n f s1) (.p (.int .i64 x)),((x==0)=false),((x==1)=false),((x==2)=false),((x==3)=false),((x==4)=true),(AE 1),Con Tryz.prog 89 1 (zf94 n f s1) [.pt 3 0 0 0,.p (.int .i64 6)] (zf94 n f s2) (.p (.int .i64 a)),(AE 1),Con Tryz.prog 89 1 (zf94 n f s2) [.pt 3 0 0 0,.p (.int .i64 3)] (zf94 n f s3) (.p (.int .i64 b)),(ZLo (b - 1)),(ZHi (b - 1)),(AE 1),Con Tryz.prog 89 1 (zf94 n f s3) [.pt 3 0 0 0,.p (.int .i64 9)] (zf94 n f s4) (.p (.int .i64 c)),(NT 0 1),((true=true)→ (AN 1)),(NT 0 1),(AI a),(AI ((b - 1))),(AI c),(AN 3),(NL 1 1),(NL 1 1),(AN n),(AP n (fun i_1=>[.int .u8 (f i_1)])),(AI ((↑s4.1:Int))),(AI s4.2),(∀ i_1:Nat,(((i_1:Nat)<1)→All [(false=false),(AE n)]))]:=by kernel_rfl
theorem jv5 (n:Nat) (f:Nat→Int) (s s1 s2 s3 s4:Nat×Int) (p:T_Pinned) (x a b c:Int) (i:Nat) :
    zP Tryz.f102 1 [rg 2,rm [(1,⟨true,(some ⟨[0],[1000],[],1,[(0,cuO n f s1)],.p (.int .i64 x)⟩),none⟩)] 0,rg 2,.dec false,rg 2,.dec false,rg 2,.dec false,rg 2,.dec false,rg 2,.dec false,rm [(1,⟨true,(some ⟨[0],[1000],[],1,[(0,cuO n f s2)],.p (.int .i64 a)⟩),none⟩)] 1,rm [(2,⟨true,(some ⟨[0],[1000],[],1,[(0,cuO n f s3)],.p (.int .i64 b)⟩),none⟩)] 2] [.code (bodyOf Tryz.f102)] (start Tryz.f102 [(0,cuO n f s)] 1 [.pt 3 0 0 0,pinA p]) [0] 1 [(0,cuO n f s3)] (.agg [.p (.int .i64 1),.p (.int .i64 a),.p (.int .i64 b)]) =
    some [(AE 1),Con Tryz.prog 89 1 (zf94 n f s) [.pt 3 0 0 0,.p (.int .i64 6)] (zf94 n f s1) (.p (.int .i64 x)),((x==0)=false),((x==1)=false),((x==2)=false),((x==3)=false),((x==4)=false),(AE 1),Con Tryz.prog 89 1 (zf94 n f s1) [.pt 3 0 0 0,.p (.int .i64 6)] (zf94 n f s2) (.p (.int .i64 a)),(AE 1),Con Tryz.prog 89 1 (zf94 n f s2) [.pt 3 0 0 0,.p (.int .i64 6)] (zf94 n f s3) (.p (.int .i64 b)),(NT 0 1),((true=true)→ (AN 1)),(NT 0 1),(AI 1),(AI a),(AI b),(AN 3),(NL 1 1),(NL 1 1),(AN n),(AP n (fun i_1=>[.int .u8 (f i_1)])),(AI ((↑s3.1:Int))),(AI s3.2),(∀ i_1:Nat,(((i_1:Nat)<1)→All [(false=false),(AE n)]))]:=by kernel_rfl
theorem jba (n:Nat) (f:Nat→Int) (s s1 s2:Nat×Int) (p:T_Pinned) (q:Nat) :
    zM 1 [rg 2,rm [(1,⟨true,(some ⟨[0],[1000],[],1,[(0,cuO n f s1),(1,brOb p.1.2.1.1 p.1.2.1.2),(2,iOb p.2.1.1 p.2.1.2)],(zf121 p)⟩),none⟩)] 2,rg 4,rg 2,rm [(1,⟨true,(some ⟨[0],[1000],[],1,[(0,cuO n f s2)],.p (.int .i64 q)⟩),none⟩)] 1,.head] [.code (bodyOf Tryz.f95)] (start Tryz.f95 [(0,cuO n f s)] 1 [.pt 3 0 0 0]) [0,1,129,97,98,257,321] 1 (SBo n f s2 p (0,fun _=>(0,0,0,())) q) =
    some (zf37,zD [(AE 1),Con Tryz.prog 88 1 (zf96 n f s) [.pt 3 0 0 0] (zf12 n f s1 p) ((zf121 p)),(NT 0 1),((true=true)→ (AN 1)),Con Tryz.prog 89 1 (zf96 n f s1) [.pt 3 0 0 0,.p (.int .i64 7)] (zf96 n f s2) (.p (.int .i64 (↑q:Int))),(AN 0),(AI ((↑q:Int))),(AN 3),(NL 1 1),(AN n),(AP n (fun i=>[.int .u8 (f i)])),(AI ((↑s2.1:Int))),(AI s2.2),((((List.map (fun v=>AV.p (absV v)) [Value.int IntKind.i64 0,Value.slice none 0 0,Value.slice none 0 0,Value.slice none 0 0]).length):Nat)=4),(AI 0),((((List.map (fun v=>AV.p (absV v)) [Value.int IntKind.i64 0,Value.slice none 0 0,Value.slice none 0 0]).length):Nat)=3),(AI p.1.1),(AN p.1.2.1.1),(AN p.2.1.1),(AN 2),(NL p.1.2.1.1 p.1.2.1.1),(AA p.1.2.1.1 (fun i=>[.p (.int .i64 ((p.1.2.1.2 i).1)),.p (.int .i64 ((p.1.2.1.2 i).2.1))])),(AN 1),(NL p.2.1.1 p.2.1.1),(AA p.2.1.1 (fun i=>[.p (.int .i64 (p.2.1.2 i))])),(NL 0 0),(AA 0 (fun i=>[.p (.int .i64 0),.p (.int .i64 0),.p (.int .i64 0)]))] [0,1,2,3,2,2,3,0,4,5,5,5,5,5,5,6,7,8,8,9,10,11,12,13,8,8,14,15,8,8,16,5,17,5,18,19,20,21,22,23,24,13,8,8,16,5,17,5,18,7,25,26]):=by kernel_rfl
theorem jbb (n:Nat) (f:Nat→Int) (s s1:Nat×Int) (p:T_Pinned) (l:T_EventS) (q:Nat) (e:T_Event) :
    zM 1 [rg 2,.dec true,rm [(2,⟨true,(some ⟨[0],[1000],[],1,[(0,cuO n f s1)],evtA e⟩),none⟩)] 2,rg 5,rg 3,.head] zf37 (SBo n f s p l (q+1)) [0,1,2,3,4,5,327] 1 (SBo n f s1 p (snE l e) q) =
    some (zf37,zD [((decide ((↑(q+1):Int)>0))=true),(NT 0 1),(AE 1),(AN 2),(NL p.1.2.1.1 p.1.2.1.1),(AN 1),(NL p.2.1.1 p.2.1.1),Con Tryz.prog 102 1 (zf96 n f s) [.pt 3 0 0 0,(zf25 p)] (zf96 n f s1) ((zf118 e)),((true=true)→ (AN 1)),(NL 1 1),(NL l.1 l.1),(NL ((l.1+1)*24) 140737488355328),(NL (l.1+1) 9223372036854775807),(ZLo ((↑(q+1):Int) - 1)),(ZHi ((↑(q+1):Int) - 1)),(AN 0),(AN ((l.1+1))),((((↑(q+1):Int) - 1):Int)=(↑q:Int)),(AN 3),(AN n),(AP n (fun i=>[.int .u8 (f i)])),(AI ((↑s1.1:Int))),(AI s1.2),(AN 4),(AI 0),(AI p.1.1),(AN p.1.2.1.1),(AN p.2.1.1),(AA p.1.2.1.1 (fun i=>[.p (.int .i64 ((p.1.2.1.2 i).1)),.p (.int .i64 ((p.1.2.1.2 i).2.1))])),(AA p.2.1.1 (fun i=>[.p (.int .i64 (p.2.1.2 i))])),(NL (l.1+1) (l.1+1)),(∀ i:Nat,(((i:Nat)<(l.1+1))→(All (cvtL false [(327,⟨false,3,(l.1+1),(fun i_1=>(if (i_1<l.1) then [.p (.int .i64 ((l.2 i_1).1)),.p (.int .i64 ((l.2 i_1).2.1)),.p (.int .i64 ((l.2 i_1).2.2.1))] else [.p (.int .i64 e.1),.p (.int .i64 e.2.1),.p (.int .i64 e.2.2.1)]))⟩),(295,⟨false,3,1,(fun i_1=>[.p (.int .i64 e.1),.p (.int .i64 e.2.1),.p (.int .i64 e.2.2.1)])⟩),(167,⟨true,3,1,(fun i_1=>[.p (.int .i64 e.1),.p (.int .i64 e.2.1),.p (.int .i64 e.2.2.1)])⟩),(0,⟨true,3,1,(fun i_1=>[.p (.seq false 1 n (fun i_2=>[.int .u8 (f i_2)])),.p (.int .i64 (↑s1.1:Int)),.p (.int .i64 s1.2)])⟩),(1,⟨true,4,1,(fun i_1=>[.p (.int .i64 0),.p (.nil),.p (.nil),.p (.nil)])⟩),(2,⟨true,3,1,(fun i_1=>[.p (.int .i64 p.1.1),.ar 2 3 0 p.1.2.1.1,.ar 1 4 0 p.2.1.1])⟩),(3,⟨false,2,p.1.2.1.1,(fun i_1=>[.p (.int .i64 ((p.1.2.1.2 i_1).1)),.p (.int .i64 ((p.1.2.1.2 i_1).2.1))])⟩),(4,⟨false,1,p.2.1.1,(fun i_1=>[.p (.int .i64 (p.2.1.2 i_1))])⟩),(5,⟨true,4,1,(fun i_1=>[.p (.int .i64 p.1.1),.ar 2 3 0 p.1.2.1.1,.ar 1 4 0 p.2.1.1,.p (.nil)])⟩)] [0,1,2,3,4,5,327] 1 (if (i<l.1) then [.p (.int .i64 ((l.2 i).1)),.p (.int .i64 ((l.2 i).2.1)),.p (.int .i64 ((l.2 i).2.2.1))] else [.p (.int .i64 e.1),.p (.int .i64 e.2.1),.p (.int .i64 e.2.2.1)])).2∧(((cvtL false [(327,⟨false,3,(l.1+1),(fun i_1=>(if (i_1<l.1) then [.p (.int .i64 ((l.2 i_1).1)),.p (.int .i64 ((l.2 i_1).2.1)),.p (.int .i64 ((l.2 i_1).2.2.1))] else [.p (.int .i64 e.1),.p (.int .i64 e.2.1),.p (.int .i64 e.2.2.1)]))⟩),(295,⟨false,3,1,(fun i_1=>[.p (.int .i64 e.1),.p (.int .i64 e.2.1),.p (.int .i64 e.2.2.1)])⟩),(167,⟨true,3,1,(fun i_1=>[.p (.int .i64 e.1),.p (.int .i64 e.2.1),.p (.int .i64 e.2.2.1)])⟩),(0,⟨true,3,1,(fun i_1=>[.p (.seq false 1 n (fun i_2=>[.int .u8 (f i_2)])),.p (.int .i64 (↑s1.1:Int)),.p (.int .i64 s1.2)])⟩),(1,⟨true,4,1,(fun i_1=>[.p (.int .i64 0),.p (.nil),.p (.nil),.p (.nil)])⟩),(2,⟨true,3,1,(fun i_1=>[.p (.int .i64 p.1.1),.ar 2 3 0 p.1.2.1.1,.ar 1 4 0 p.2.1.1])⟩),(3,⟨false,2,p.1.2.1.1,(fun i_1=>[.p (.int .i64 ((p.1.2.1.2 i_1).1)),.p (.int .i64 ((p.1.2.1.2 i_1).2.1))])⟩),(4,⟨false,1,p.2.1.1,(fun i_1=>[.p (.int .i64 (p.2.1.2 i_1))])⟩),(5,⟨true,4,1,(fun i_1=>[.p (.int .i64 p.1.1),.ar 2 3 0 p.1.2.1.1,.ar 1 4 0 p.2.1.1,.p (.nil)])⟩)] [0,1,2,3,4,5,327] 1 (if (i<l.1) then [.p (.int .i64 ((l.2 i).1)),.p (.int .i64 ((l.2 i).2.1)),.p (.int .i64 ((l.2 i).2.2.1))] else [.p (.int .i64 e.1),.p (.int .i64 e.2.1),.p (.int .i64 e.2.2.1)])).1:List AV)=[.p (.int .i64 (if i<l.1 then (l.2 i).1 else e.1)),.p (.int .i64 (if i<l.1 then (l.2 i).2.1 else e.2.1)),.p (.int .i64 (if i<l.1 then (l.2 i).2.2.1 else e.2.2.1))]))))] [0,1,2,3,4,5,6,7,1,8,1,9,10,11,12,13,14,15,15,15,15,15,16,17,18,9,9,19,20,21,22,23,9,9,24,18,9,9,25,15,26,15,27,3,4,28,5,6,29,23,9,9,25,15,26,15,27,18,30,31]):=by kernel_rfl
theorem jbe (n:Nat) (f:Nat→Int) (s:Nat×Int) (p:T_Pinned) (l:T_EventS) :
    zP Tryz.f95 1 [rg 2,.dec false,rg 4] zf37 (SBo n f s p l 0) [0,3,4,6] 1 [(0,cuO n f s),(1,brOb p.1.2.1.1 p.1.2.1.2),(2,iOb p.2.1.1 p.2.1.2),(3,evOb l),(4,stOt 0 noT)] (.tup [siJ (siN p) 1 2 4,.ar 3 3 0 l.1]) =
    some [((decide ((↑0:Int)>0))=false),(NT 0 1),(NT 0 1),((true=true)→ (AN 1)),(NT 0 1),(AI p.1.1),(AN 0),(AN p.1.2.1.1),(AN 0),(AN p.2.1.1),(AN 0),(AN 0),(AN l.1),(AN 3),(NL 1 1),(NL 1 1),(AN n),(AP n (fun i=>[.int .u8 (f i)])),(AI ((↑s.1:Int))),(AI s.2),(AN 2),(NL p.1.2.1.1 p.1.2.1.1),(AA p.1.2.1.1 (fun i=>[.p (.int .i64 ((p.1.2.1.2 i).1)),.p (.int .i64 ((p.1.2.1.2 i).2.1))])),(AN 1),(NL p.2.1.1 p.2.1.1),(AA p.2.1.1 (fun i=>[.p (.int .i64 (p.2.1.2 i))])),(AN 3),(NL l.1 l.1),(AA l.1 (fun i=>[.p (.int .i64 ((l.2 i).1)),.p (.int .i64 ((l.2 i).2.1)),.p (.int .i64 ((l.2 i).2.2.1))])),(AN 0),(∀ i:Nat,(((i:Nat)<1)→All [(false=false),(AE n)])),(AE p.1.2.1.1),(AE p.2.1.1),(AE l.1),(AE 0)]:=by kernel_rfl
theorem jdR (n:Nat) (f:Nat→Int) (s s1 s2 s3 s4:Nat×Int) (p:T_Pinned) (l:T_EventS) (e:T_Event) (R:T_Site) (x:Int) (k:Nat) :
    zS Tryz.f26 [rg 2,rm [(1,⟨true,(some ⟨[],[0],[],1,[(0,cuO n f s)],.pt 3 0 0 0⟩),none⟩),(0,⟨true,(some ⟨[96],[0],[],1,[(0,cuO n f s1),(1,brOb p.1.2.1.1 p.1.2.1.2),(2,iOb p.2.1.1 p.2.1.2),(3,evOb l),(4,stOt 0 noT)],.tup [siJ (siN p) 1 2 4,.ar 3 3 0 l.1]⟩),none⟩)] 6,rg 4] [cdA n f] [128,129,130,131] [(0,brOb p.1.2.1.1 p.1.2.1.2),(1,iOb p.2.1.1 p.2.1.2),(2,evOb l),(3,stOt 0 noT)] (.tup [siJ (siN p) 0 1 3,.ar 3 2 0 l.1]) =
    some [zE 87 [.p (.seq false 1 n (fun i=>[.int .u8 (f i)]))] (zf96 n f s) (.pt 3 0 0 0),(AE 1),Con Tryz.prog 95 1 (zf96 n f s) [.pt 3 0 0 0] [(0,⟨true,3,1,(fun i=>[.p (.seq false 1 n (fun i_1=>[.int .u8 (f i_1)])),.p (.int .i64 (↑s1.1:Int)),.p (.int .i64 s1.2)])⟩),(1,⟨false,2,p.1.2.1.1,(fun i=>[.p (.int .i64 ((p.1.2.1.2 i).1)),.p (.int .i64 ((p.1.2.1.2 i).2.1))])⟩),(2,⟨false,1,p.2.1.1,(fun i=>[.p (.int .i64 (p.2.1.2 i))])⟩),(3,⟨false,3,l.1,(fun i=>[.p (.int .i64 ((l.2 i).1)),.p (.int .i64 ((l.2 i).2.1)),.p (.int .i64 ((l.2 i).2.2.1))])⟩),(4,⟨false,1,0,(fun i=>[.p (.str (noT i))])⟩)] ((zf107 p l)),(NT 0 1),((true=true)→ (AN 1)),(NT 0 1),(NT 0 1),((true=true)→ (AN 1)),(NT 0 1),(AI p.1.1),(AN 0),(AN p.1.2.1.1),(AN 0),(AN p.2.1.1),(AN 0),(AN 0),(AN 0),(AN l.1),(AN 2),(NL p.1.2.1.1 p.1.2.1.1),(AA p.1.2.1.1 (fun i=>[.p (.int .i64 ((p.1.2.1.2 i).1)),.p (.int .i64 ((p.1.2.1.2 i).2.1))])),(AN 1),(NL p.2.1.1 p.2.1.1),(AA p.2.1.1 (fun i=>[.p (.int .i64 (p.2.1.2 i))])),(AN 3),(NL l.1 l.1),(AA l.1 (fun i=>[.p (.int .i64 ((l.2 i).1)),.p (.int .i64 ((l.2 i).2.1)),.p (.int .i64 ((l.2 i).2.2.1))])),(AN 1),(NL 0 0),(AA 0 (fun i=>[.p (.str (noT i))])),(AE p.1.2.1.1),(AE p.2.1.1),(AE l.1),(AE 0)]:=by kernel_rfl
theorem jdAt (n:Nat) (f:Nat→Int) (s s1 s2 s3 s4:Nat×Int) (p:T_Pinned) (l:T_EventS) (e:T_Event) (R:T_Site) (x:Int) (k:Nat) :
    zS Tryz.f34 [rg 2,rm [(1,⟨true,(some ⟨[],[0],[],1,[(0,cuO n f s)],.pt 3 0 0 0⟩),none⟩)] 1,rm [(1,⟨true,(some ⟨[96],[0],[],1,[(0,cuO n f s1),(1,brOb p.1.2.1.1 p.1.2.1.2),(2,iOb p.2.1.1 p.2.1.2),(3,evOb l),(4,stOt 0 noT)],.tup [siJ (siN p) 1 2 4,.ar 3 3 0 l.1]⟩),none⟩)] 6,rm [(3,⟨true,(some ⟨[96],[0],[],1,[(0,cuO n f s2)],evtA e⟩),none⟩)] 2,rm [(1,⟨true,(some ⟨[96],[0],[],1,[(0,cuO n f s3)],.p (.bool true)⟩),none⟩)] 0,.dec true,rm [(2,oc (siH R) (siV R))] 3] [cdA n f] [736,737,738] (siH R) (.tup [siV R,evtA e]) =
    some (zD [zE 87 [.p (.seq false 1 n (fun i=>[.int .u8 (f i)]))] (zf96 n f s) (.pt 3 0 0 0),(AE 1),Con Tryz.prog 95 1 (zf96 n f s) [.pt 3 0 0 0] [(0,⟨true,3,1,(fun i=>[.p (.seq false 1 n (fun i_1=>[.int .u8 (f i_1)])),.p (.int .i64 (↑s1.1:Int)),.p (.int .i64 s1.2)])⟩),(1,⟨false,2,p.1.2.1.1,(fun i=>[.p (.int .i64 ((p.1.2.1.2 i).1)),.p (.int .i64 ((p.1.2.1.2 i).2.1))])⟩),(2,⟨false,1,p.2.1.1,(fun i=>[.p (.int .i64 (p.2.1.2 i))])⟩),(3,⟨false,3,l.1,(fun i=>[.p (.int .i64 ((l.2 i).1)),.p (.int .i64 ((l.2 i).2.1)),.p (.int .i64 ((l.2 i).2.2.1))])⟩),(4,⟨false,1,0,(fun i=>[.p (.str (noT i))])⟩)] ((zf107 p l)),(NT 0 1),((true=true)→ (AN 1)),(AN 2),(NL p.1.2.1.1 p.1.2.1.1),(AN 1),(NL p.2.1.1 p.2.1.1),Con Tryz.prog 102 1 (zf96 n f s1) [.pt 3 0 0 0,(zf25 p)] (zf96 n f s2) ((zf118 e)),Con Tryz.prog 103 1 (zf96 n f s2) [.pt 3 0 0 0,.p (.int .i64 2)] (zf96 n f s3) (.p (.bool true)),(true=true),(NL 0 0),(AN 3),(NL l.1 l.1),zE 29 [.agg [.p (.int .i64 p.1.1),.p (.seq true 2 p.1.2.1.1 (fun i=>[.int .i64 ((p.1.2.1.2 i).1),.int .i64 ((p.1.2.1.2 i).2.1)])),.p (.seq true 1 p.2.1.1 (fun i=>[.int .i64 (p.2.1.2 i)])),.p (.seq true 1 0 (fun i=>[.str (noT i)]))],.p (.seq true 3 l.1 (fun i=>[.int .i64 ((l.2 i).1),.int .i64 ((l.2 i).2.1),.int .i64 ((l.2 i).2.2.1)]))] (zf17 R) ((zf110 R)),(AI R.1.1.1),(AN 0),(AN R.1.1.2.1.1),(AN R.1.2.1.1),(AN R.2.1.1),(AI e.1),(AI e.2.1),(AI e.2.2.1),(NL R.1.1.2.1.1 R.1.1.2.1.1),(AA R.1.1.2.1.1 (fun i=>[.p (.int .i64 ((R.1.1.2.1.2 i).1)),.p (.int .i64 ((R.1.1.2.1.2 i).2.1))])),(NL R.1.2.1.1 R.1.2.1.1),(AA R.1.2.1.1 (fun i=>[.p (.int .i64 (R.1.2.1.2 i))])),(NL R.2.1.1 R.2.1.1),(AA R.2.1.1 (fun i=>[.p (.str (R.2.1.2 i))])),(AE R.1.1.2.1.1),(AE R.1.2.1.1),(AE R.2.1.1)] [0,1,2,3,4,3,1,5,6,7,8,9,3,4,1,10,11,3,5,6,7,8,7,12,13,14,15,3,3,4,3,4,3,3,16,17,18,17,19,17,20,21,22,23,5,24,25,7,26,27,7,28,29,30,31,32]):=by kernel_rfl
theorem jdAm (n:Nat) (f:Nat→Int) (s s1 s2 s3 s4:Nat×Int) (p:T_Pinned) (l:T_EventS) (e:T_Event) (R:T_Site) (x:Int) (k:Nat) :
    zS Tryz.f34 [rg 2,rm [(1,⟨true,(some ⟨[],[0],[],1,[(0,cuO n f s)],.pt 3 0 0 0⟩),none⟩)] 1,rm [(1,⟨true,(some ⟨[96],[0],[],1,[(0,cuO n f s1),(1,brOb p.1.2.1.1 p.1.2.1.2),(2,iOb p.2.1.1 p.2.1.2),(3,evOb l),(4,stOt 0 noT)],.tup [siJ (siN p) 1 2 4,.ar 3 3 0 l.1]⟩),none⟩)] 6,rm [(3,⟨true,(some ⟨[96],[0],[],1,[(0,cuO n f s2)],evtA e⟩),none⟩)] 2,rm [(1,⟨true,(some ⟨[96],[0],[],1,[(0,cuO n f s3)],.p (.bool false)⟩),none⟩)] 0,.dec false,rm [(1,⟨true,(some ⟨[96],[0],[],1,[(0,cuO n f s4)],.p (.bool true)⟩),none⟩)] 0,.dec true,rg 3,rg 4] [cdA n f] [192,193,736] [(0,brOb p.1.2.1.1 p.1.2.1.2),(1,iOb p.2.1.1 p.2.1.2),(2,stOt 20 noT)] (.tup [siJ (p,(20,noT),()) 0 1 2,evtA e]) =
    some (zD [zE 87 [.p (.seq false 1 n (fun i=>[.int .u8 (f i)]))] (zf96 n f s) (.pt 3 0 0 0),(AE 1),Con Tryz.prog 95 1 (zf96 n f s) [.pt 3 0 0 0] [(0,⟨true,3,1,(fun i=>[.p (.seq false 1 n (fun i_1=>[.int .u8 (f i_1)])),.p (.int .i64 (↑s1.1:Int)),.p (.int .i64 s1.2)])⟩),(1,⟨false,2,p.1.2.1.1,(fun i=>[.p (.int .i64 ((p.1.2.1.2 i).1)),.p (.int .i64 ((p.1.2.1.2 i).2.1))])⟩),(2,⟨false,1,p.2.1.1,(fun i=>[.p (.int .i64 (p.2.1.2 i))])⟩),(3,⟨false,3,l.1,(fun i=>[.p (.int .i64 ((l.2 i).1)),.p (.int .i64 ((l.2 i).2.1)),.p (.int .i64 ((l.2 i).2.2.1))])⟩),(4,⟨false,1,0,(fun i=>[.p (.str (noT i))])⟩)] ((zf107 p l)),(NT 0 1),((true=true)→ (AN 1)),(AN 2),(NL p.1.2.1.1 p.1.2.1.1),(AN 1),(NL p.2.1.1 p.2.1.1),Con Tryz.prog 102 1 (zf96 n f s1) [.pt 3 0 0 0,(zf25 p)] (zf96 n f s2) ((zf118 e)),Con Tryz.prog 103 1 (zf96 n f s2) [.pt 3 0 0 0,.p (.int .i64 2)] (zf96 n f s3) (.p (.bool false)),(false=false),Con Tryz.prog 103 1 (zf96 n f s3) [.pt 3 0 0 0,.p (.int .i64 10)] (zf96 n f s4) (.p (.bool true)),(true=true),(IL 0 20),(IL 20 20),(IL (20*(↑16:Int)) 281474976710656),(ZHi 20),(AI p.1.1),(AN 0),(AN p.1.2.1.1),(AN p.2.1.1),(AN 20),(AI e.1),(AI e.2.1),(AI e.2.2.1),(AA p.1.2.1.1 (fun i=>[.p (.int .i64 ((p.1.2.1.2 i).1)),.p (.int .i64 ((p.1.2.1.2 i).2.1))])),(AA p.2.1.1 (fun i=>[.p (.int .i64 (p.2.1.2 i))])),(NL 20 20),(∀ i:Nat,(((i:Nat)<20)→(All []∧(([.p (.str (ByteArray.mk #[]))]:List AV)=[.p (.str (noT i))])))),(AE p.1.2.1.1),(AE p.2.1.1),(AE 20)] [0,1,2,3,4,3,1,5,6,7,8,9,3,4,1,10,11,1,12,13,14,15,16,17,3,4,3,3,3,4,3,4,3,3,18,19,20,19,21,19,22,23,24,25,5,6,26,7,8,27,7,28,29,30,31,32]):=by kernel_rfl
theorem jdAn (n:Nat) (f:Nat→Int) (s s1 s2 s3 s4:Nat×Int) (p:T_Pinned) (l:T_EventS) (e:T_Event) (R:T_Site) (x:Int) (k:Nat) :
    zS Tryz.f34 [rg 2,rm [(1,⟨true,(some ⟨[],[0],[],1,[(0,cuO n f s)],.pt 3 0 0 0⟩),none⟩)] 1,rm [(1,⟨true,(some ⟨[96],[0],[],1,[(0,cuO n f s1),(1,brOb p.1.2.1.1 p.1.2.1.2),(2,iOb p.2.1.1 p.2.1.2),(3,evOb l),(4,stOt 0 noT)],.tup [siJ (siN p) 1 2 4,.ar 3 3 0 l.1]⟩),none⟩)] 6,rm [(3,⟨true,(some ⟨[96],[0],[],1,[(0,cuO n f s2)],evtA e⟩),none⟩)] 2,rm [(1,⟨true,(some ⟨[96],[0],[],1,[(0,cuO n f s3)],.p (.bool false)⟩),none⟩)] 0,.dec false,rm [(1,⟨true,(some ⟨[96],[0],[],1,[(0,cuO n f s4)],.p (.bool false)⟩),none⟩)] 0,.dec false,rg 4] [cdA n f] [192,193,195] [(0,brOb p.1.2.1.1 p.1.2.1.2),(1,iOb p.2.1.1 p.2.1.2),(2,stOt 0 noT)] (.tup [siJ (siN p) 0 1 2,evtA e]) =
    some (zD [zE 87 [.p (.seq false 1 n (fun i=>[.int .u8 (f i)]))] (zf96 n f s) (.pt 3 0 0 0),(AE 1),Con Tryz.prog 95 1 (zf96 n f s) [.pt 3 0 0 0] [(0,⟨true,3,1,(fun i=>[.p (.seq false 1 n (fun i_1=>[.int .u8 (f i_1)])),.p (.int .i64 (↑s1.1:Int)),.p (.int .i64 s1.2)])⟩),(1,⟨false,2,p.1.2.1.1,(fun i=>[.p (.int .i64 ((p.1.2.1.2 i).1)),.p (.int .i64 ((p.1.2.1.2 i).2.1))])⟩),(2,⟨false,1,p.2.1.1,(fun i=>[.p (.int .i64 (p.2.1.2 i))])⟩),(3,⟨false,3,l.1,(fun i=>[.p (.int .i64 ((l.2 i).1)),.p (.int .i64 ((l.2 i).2.1)),.p (.int .i64 ((l.2 i).2.2.1))])⟩),(4,⟨false,1,0,(fun i=>[.p (.str (noT i))])⟩)] ((zf107 p l)),(NT 0 1),((true=true)→ (AN 1)),(AN 2),(NL p.1.2.1.1 p.1.2.1.1),(AN 1),(NL p.2.1.1 p.2.1.1),Con Tryz.prog 102 1 (zf96 n f s1) [.pt 3 0 0 0,(zf25 p)] (zf96 n f s2) ((zf118 e)),Con Tryz.prog 103 1 (zf96 n f s2) [.pt 3 0 0 0,.p (.int .i64 2)] (zf96 n f s3) (.p (.bool false)),(false=false),Con Tryz.prog 103 1 (zf96 n f s3) [.pt 3 0 0 0,.p (.int .i64 10)] (zf96 n f s4) (.p (.bool false)),(AI p.1.1),(AN 0),(AN p.1.2.1.1),(AN p.2.1.1),(AI e.1),(AI e.2.1),(AI e.2.2.1),(AA p.1.2.1.1 (fun i=>[.p (.int .i64 ((p.1.2.1.2 i).1)),.p (.int .i64 ((p.1.2.1.2 i).2.1))])),(AA p.2.1.1 (fun i=>[.p (.int .i64 (p.2.1.2 i))])),(NL 0 0),(AA 0 (fun i=>[.p (.str (noT i))])),(AE p.1.2.1.1),(AE p.2.1.1),(AE 0)] [0,1,2,3,4,3,1,5,6,7,8,9,3,4,1,10,11,1,12,11,3,3,3,4,3,4,3,3,13,14,15,14,16,14,14,17,18,19,5,6,20,7,8,21,7,22,23,24,25,26]):=by kernel_rfl
theorem jdEt (n:Nat) (f:Nat→Int) (s s1 s2 s3 s4:Nat×Int) (p:T_Pinned) (l:T_EventS) (e:T_Event) (R:T_Site) (x:Int) (k:Nat) :
    zS Tryz.f42 [rg 2,rm [(1,⟨true,(some ⟨[],[0],[],1,[(0,cuO n f s)],.pt 3 0 0 0⟩),none⟩)] 1,rm [(1,⟨true,(some ⟨[96],[0],[],1,[(0,cuO n f s1),(1,brOb p.1.2.1.1 p.1.2.1.2),(2,iOb p.2.1.1 p.2.1.2),(3,evOb l),(4,stOt 0 noT)],.tup [siJ (siN p) 1 2 4,.ar 3 3 0 l.1]⟩),none⟩)] 6,rm [(2,oc (siH R) (siV R))] 2,rm [(1,⟨true,(some ⟨[96],[0],[],1,[(0,cuO n f s2)],.p (.bool true)⟩),none⟩)] 0,.dec true,rm [(2,oc (siH R) (siV R))] 2] [cdA n f] [480,481,482,704,705,706] [(0,brOb R.1.1.2.1.1 R.1.1.2.1.2),(1,iOb R.1.2.1.1 R.1.2.1.2),(2,stOt R.2.1.1 R.2.1.2),(3,brOb R.1.1.2.1.1 R.1.1.2.1.2),(4,iOb R.1.2.1.1 R.1.2.1.2),(5,stOt R.2.1.1 R.2.1.2)] (.tup [siJ R 0 1 2,siJ R 3 4 5]) =
    some (zD [zE 87 [.p (.seq false 1 n (fun i=>[.int .u8 (f i)]))] (zf96 n f s) (.pt 3 0 0 0),(AE 1),Con Tryz.prog 95 1 (zf96 n f s) [.pt 3 0 0 0] [(0,⟨true,3,1,(fun i=>[.p (.seq false 1 n (fun i_1=>[.int .u8 (f i_1)])),.p (.int .i64 (↑s1.1:Int)),.p (.int .i64 s1.2)])⟩),(1,⟨false,2,p.1.2.1.1,(fun i=>[.p (.int .i64 ((p.1.2.1.2 i).1)),.p (.int .i64 ((p.1.2.1.2 i).2.1))])⟩),(2,⟨false,1,p.2.1.1,(fun i=>[.p (.int .i64 (p.2.1.2 i))])⟩),(3,⟨false,3,l.1,(fun i=>[.p (.int .i64 ((l.2 i).1)),.p (.int .i64 ((l.2 i).2.1)),.p (.int .i64 ((l.2 i).2.2.1))])⟩),(4,⟨false,1,0,(fun i=>[.p (.str (noT i))])⟩)] ((zf107 p l)),(NT 0 1),((true=true)→ (AN 1)),(AN 2),(NL p.1.2.1.1 p.1.2.1.1),(AN 1),(NL p.2.1.1 p.2.1.1),(NL 0 0),(AN 3),(NL l.1 l.1),zE 29 [.agg [.p (.int .i64 p.1.1),.p (.seq true 2 p.1.2.1.1 (fun i=>[.int .i64 ((p.1.2.1.2 i).1),.int .i64 ((p.1.2.1.2 i).2.1)])),.p (.seq true 1 p.2.1.1 (fun i=>[.int .i64 (p.2.1.2 i)])),.p (.seq true 1 0 (fun i=>[.str (noT i)]))],.p (.seq true 3 l.1 (fun i=>[.int .i64 ((l.2 i).1),.int .i64 ((l.2 i).2.1),.int .i64 ((l.2 i).2.2.1)]))] (zf17 R) ((zf110 R)),Con Tryz.prog 103 1 (zf96 n f s1) [.pt 3 0 0 0,.p (.int .i64 2)] (zf96 n f s2) (.p (.bool true)),(true=true),(NL R.1.1.2.1.1 R.1.1.2.1.1),(NL R.1.2.1.1 R.1.2.1.1),(NL R.2.1.1 R.2.1.1),zE 98 [(zf16 R)] (zf17 R) ((zf110 R)),(AI R.1.1.1),(AN 0),(AN R.1.1.2.1.1),(AN R.1.2.1.1),(AN R.2.1.1),(AA R.1.1.2.1.1 (fun i=>[.p (.int .i64 ((R.1.1.2.1.2 i).1)),.p (.int .i64 ((R.1.1.2.1.2 i).2.1))])),(AA R.1.2.1.1 (fun i=>[.p (.int .i64 (R.1.2.1.2 i))])),(AA R.2.1.1 (fun i=>[.p (.str (R.2.1.2 i))])),(AE R.1.1.2.1.1),(AE R.1.2.1.1),(AE R.2.1.1)] [0,1,2,3,4,3,5,6,7,8,7,9,10,11,12,3,4,1,13,14,3,3,5,15,7,16,7,17,18,3,4,3,4,3,3,19,20,21,20,22,20,23,19,20,21,20,22,20,23,5,15,24,7,16,25,7,17,26,5,15,24,7,16,25,7,17,26,27,28,29,27,28,29]):=by kernel_rfl
theorem jdEf (n:Nat) (f:Nat→Int) (s s1 s2 s3 s4:Nat×Int) (p:T_Pinned) (l:T_EventS) (e:T_Event) (R:T_Site) (x:Int) (k:Nat) :
    zS Tryz.f42 [rg 2,rm [(1,⟨true,(some ⟨[],[0],[],1,[(0,cuO n f s)],.pt 3 0 0 0⟩),none⟩)] 1,rm [(1,⟨true,(some ⟨[96],[0],[],1,[(0,cuO n f s1),(1,brOb p.1.2.1.1 p.1.2.1.2),(2,iOb p.2.1.1 p.2.1.2),(3,evOb l),(4,stOt 0 noT)],.tup [siJ (siN p) 1 2 4,.ar 3 3 0 l.1]⟩),none⟩)] 6,rm [(2,oc (siH R) (siV R))] 2,rm [(1,⟨true,(some ⟨[96],[0],[],1,[(0,cuO n f s2)],.p (.bool false)⟩),none⟩)] 0,.dec false,rg 4] [cdA n f] [480,481,482,192,193,195] [(0,brOb R.1.1.2.1.1 R.1.1.2.1.2),(1,iOb R.1.2.1.1 R.1.2.1.2),(2,stOt R.2.1.1 R.2.1.2),(3,brOb p.1.2.1.1 p.1.2.1.2),(4,iOb p.2.1.1 p.2.1.2),(5,stOt 0 noT)] (.tup [siJ R 0 1 2,siJ (siN p) 3 4 5]) =
    some (zD [zE 87 [.p (.seq false 1 n (fun i=>[.int .u8 (f i)]))] (zf96 n f s) (.pt 3 0 0 0),(AE 1),Con Tryz.prog 95 1 (zf96 n f s) [.pt 3 0 0 0] [(0,⟨true,3,1,(fun i=>[.p (.seq false 1 n (fun i_1=>[.int .u8 (f i_1)])),.p (.int .i64 (↑s1.1:Int)),.p (.int .i64 s1.2)])⟩),(1,⟨false,2,p.1.2.1.1,(fun i=>[.p (.int .i64 ((p.1.2.1.2 i).1)),.p (.int .i64 ((p.1.2.1.2 i).2.1))])⟩),(2,⟨false,1,p.2.1.1,(fun i=>[.p (.int .i64 (p.2.1.2 i))])⟩),(3,⟨false,3,l.1,(fun i=>[.p (.int .i64 ((l.2 i).1)),.p (.int .i64 ((l.2 i).2.1)),.p (.int .i64 ((l.2 i).2.2.1))])⟩),(4,⟨false,1,0,(fun i=>[.p (.str (noT i))])⟩)] ((zf107 p l)),(NT 0 1),((true=true)→ (AN 1)),(AN 2),(NL p.1.2.1.1 p.1.2.1.1),(AN 1),(NL p.2.1.1 p.2.1.1),(NL 0 0),(AN 3),(NL l.1 l.1),zE 29 [.agg [.p (.int .i64 p.1.1),.p (.seq true 2 p.1.2.1.1 (fun i=>[.int .i64 ((p.1.2.1.2 i).1),.int .i64 ((p.1.2.1.2 i).2.1)])),.p (.seq true 1 p.2.1.1 (fun i=>[.int .i64 (p.2.1.2 i)])),.p (.seq true 1 0 (fun i=>[.str (noT i)]))],.p (.seq true 3 l.1 (fun i=>[.int .i64 ((l.2 i).1),.int .i64 ((l.2 i).2.1),.int .i64 ((l.2 i).2.2.1)]))] (zf17 R) ((zf110 R)),Con Tryz.prog 103 1 (zf96 n f s1) [.pt 3 0 0 0,.p (.int .i64 2)] (zf96 n f s2) (.p (.bool false)),(false=false),(AI R.1.1.1),(AN 0),(AN R.1.1.2.1.1),(AN R.1.2.1.1),(AN R.2.1.1),(AI p.1.1),(AN p.1.2.1.1),(AN p.2.1.1),(NL R.1.1.2.1.1 R.1.1.2.1.1),(AA R.1.1.2.1.1 (fun i=>[.p (.int .i64 ((R.1.1.2.1.2 i).1)),.p (.int .i64 ((R.1.1.2.1.2 i).2.1))])),(NL R.1.2.1.1 R.1.2.1.1),(AA R.1.2.1.1 (fun i=>[.p (.int .i64 (R.1.2.1.2 i))])),(NL R.2.1.1 R.2.1.1),(AA R.2.1.1 (fun i=>[.p (.str (R.2.1.2 i))])),(AA p.1.2.1.1 (fun i=>[.p (.int .i64 ((p.1.2.1.2 i).1)),.p (.int .i64 ((p.1.2.1.2 i).2.1))])),(AA p.2.1.1 (fun i=>[.p (.int .i64 (p.2.1.2 i))])),(AA 0 (fun i=>[.p (.str (noT i))])),(AE R.1.1.2.1.1),(AE R.1.2.1.1),(AE R.2.1.1),(AE p.1.2.1.1),(AE p.2.1.1),(AE 0)] [0,1,2,3,4,3,5,6,7,8,7,9,10,11,12,3,4,1,13,14,3,3,3,4,3,4,3,3,15,16,17,16,18,16,19,20,16,21,16,22,16,16,5,23,24,7,25,26,7,27,28,5,6,29,7,8,30,7,9,31,32,33,34,35,36,37]):=by kernel_rfl
theorem jdK (n:Nat) (f:Nat→Int) (s s1 s2 s3 s4:Nat×Int) (p:T_Pinned) (l:T_EventS) (e:T_Event) (R:T_Site) (x:Int) (k:Nat) :
    zS Tryz.f43 [rg 2,rm [(1,⟨true,(some ⟨[],[0],[],1,[(0,cuO n f s)],.pt 3 0 0 0⟩),none⟩)] 1,rm [(1,⟨true,(some ⟨[96],[0],[],1,[(0,cuO n f s1),(1,brOb p.1.2.1.1 p.1.2.1.2),(2,iOb p.2.1.1 p.2.1.2),(3,evOb l),(4,stOt 0 noT)],.tup [siJ (siN p) 1 2 4,.ar 3 3 0 l.1]⟩),none⟩)] 6,rm [(2,⟨true,(some ⟨[96],[0],[],1,[(0,cuO n f s2)],.p (.int .i64 x)⟩),none⟩)] 2] [cdA n f] [194] [(0,evOb l)] (.tup [.ar 3 0 0 l.1,.p (.int .i64 x)]) =
    some [zE 87 [.p (.seq false 1 n (fun i=>[.int .u8 (f i)]))] (zf96 n f s) (.pt 3 0 0 0),(AE 1),Con Tryz.prog 95 1 (zf96 n f s) [.pt 3 0 0 0] [(0,⟨true,3,1,(fun i=>[.p (.seq false 1 n (fun i_1=>[.int .u8 (f i_1)])),.p (.int .i64 (↑s1.1:Int)),.p (.int .i64 s1.2)])⟩),(1,⟨false,2,p.1.2.1.1,(fun i=>[.p (.int .i64 ((p.1.2.1.2 i).1)),.p (.int .i64 ((p.1.2.1.2 i).2.1))])⟩),(2,⟨false,1,p.2.1.1,(fun i=>[.p (.int .i64 (p.2.1.2 i))])⟩),(3,⟨false,3,l.1,(fun i=>[.p (.int .i64 ((l.2 i).1)),.p (.int .i64 ((l.2 i).2.1)),.p (.int .i64 ((l.2 i).2.2.1))])⟩),(4,⟨false,1,0,(fun i=>[.p (.str (noT i))])⟩)] ((zf107 p l)),(NT 0 1),((true=true)→ (AN 1)),(AE 1),Con Tryz.prog 89 1 (zf96 n f s1) [.pt 3 0 0 0,.p (.int .i64 6)] (zf96 n f s2) (.p (.int .i64 x)),(AN 0),(AN l.1),(AI x),(AN 3),(NL l.1 l.1),(AA l.1 (fun i=>[.p (.int .i64 ((l.2 i).1)),.p (.int .i64 ((l.2 i).2.1)),.p (.int .i64 ((l.2 i).2.2.1))])),(AE l.1)]:=by kernel_rfl
theorem jdSt (n:Nat) (f:Nat→Int) (s s1 s2 s3 s4:Nat×Int) (p:T_Pinned) (l:T_EventS) (e:T_Event) (R:T_Site) (x:Int) (k:Nat) :
    zS Tryz.f44 [rg 1,rm [(1,⟨true,(some ⟨[],[0],[],1,[(0,cuO n f s)],.pt 3 0 0 0⟩),none⟩)] 1,rm [(1,⟨true,(some ⟨[64],[0],[],1,[(0,cuO n f s1),(1,brOb p.1.2.1.1 p.1.2.1.2),(2,iOb p.2.1.1 p.2.1.2),(3,evOb l),(4,stOt 0 noT)],.tup [siJ (siN p) 1 2 4,.ar 3 3 0 l.1]⟩),none⟩)] 6,rm [(1,⟨true,(some ⟨[64],[0],[],1,[(0,cuO n f s2)],.p (.bool true)⟩),none⟩)] 0,.dec true,rm [(1,⟨true,(some ⟨[64],[0],[],1,[(0,cuO n f s3)],.p (.int .i64 k)⟩),none⟩)] 4,rg 2] [cdA n f] [160,161,544] [(0,brOb p.1.2.1.1 p.1.2.1.2),(1,iOb p.2.1.1 p.2.1.2),(2,stOt (19+k) noT)] (siJ (p,(19+k,noT),()) 0 1 2) =
    some (zD [zE 87 [.p (.seq false 1 n (fun i=>[.int .u8 (f i)]))] (zf96 n f s) (.pt 3 0 0 0),(AE 1),Con Tryz.prog 95 1 (zf96 n f s) [.pt 3 0 0 0] [(0,⟨true,3,1,(fun i=>[.p (.seq false 1 n (fun i_1=>[.int .u8 (f i_1)])),.p (.int .i64 (↑s1.1:Int)),.p (.int .i64 s1.2)])⟩),(1,⟨false,2,p.1.2.1.1,(fun i=>[.p (.int .i64 ((p.1.2.1.2 i).1)),.p (.int .i64 ((p.1.2.1.2 i).2.1))])⟩),(2,⟨false,1,p.2.1.1,(fun i=>[.p (.int .i64 (p.2.1.2 i))])⟩),(3,⟨false,3,l.1,(fun i=>[.p (.int .i64 ((l.2 i).1)),.p (.int .i64 ((l.2 i).2.1)),.p (.int .i64 ((l.2 i).2.2.1))])⟩),(4,⟨false,1,0,(fun i=>[.p (.str (noT i))])⟩)] ((zf107 p l)),(NT 0 1),((true=true)→ (AN 1)),Con Tryz.prog 103 1 (zf96 n f s1) [.pt 3 0 0 0,.p (.int .i64 6)] (zf96 n f s2) (.p (.bool true)),(true=true),Con Tryz.prog 89 1 (zf96 n f s2) [.pt 3 0 0 0,.p (.int .i64 3)] (zf96 n f s3) (.p (.int .i64 (↑k:Int))),(ZLo (19+(↑k:Int))),(ZHi (19+(↑k:Int))),(IL 0 (19+(↑k:Int))),(IL (19+(↑k:Int)) (19+(↑k:Int))),(IL ((19+(↑k:Int))*(↑16:Int)) 281474976710656),(AI p.1.1),(AN 0),(AN p.1.2.1.1),(AN p.2.1.1),(AN ((19+k))),(AN 2),(NL p.1.2.1.1 p.1.2.1.1),(AA p.1.2.1.1 (fun i=>[.p (.int .i64 ((p.1.2.1.2 i).1)),.p (.int .i64 ((p.1.2.1.2 i).2.1))])),(AN 1),(NL p.2.1.1 p.2.1.1),(AA p.2.1.1 (fun i=>[.p (.int .i64 (p.2.1.2 i))])),(NL (19+k) (19+k)),(∀ i:Nat,(((i:Nat)<(19+k))→(All []∧(([.p (.str (ByteArray.mk #[]))]:List AV)=[.p (.str (noT i))])))),(AE p.1.2.1.1),(AE p.2.1.1),(AE ((19+k)))] [0,1,2,3,4,1,5,6,1,7,8,9,10,11,12,9,3,4,3,3,4,3,13,14,15,14,16,14,17,18,19,20,21,22,23,21,24,25,26,27,28]):=by kernel_rfl
theorem jdSf (n:Nat) (f:Nat→Int) (s s1 s2 s3 s4:Nat×Int) (p:T_Pinned) (l:T_EventS) (e:T_Event) (R:T_Site) (x:Int) (k:Nat) :
    zS Tryz.f44 [rg 1,rm [(1,⟨true,(some ⟨[],[0],[],1,[(0,cuO n f s)],.pt 3 0 0 0⟩),none⟩)] 1,rm [(1,⟨true,(some ⟨[64],[0],[],1,[(0,cuO n f s1),(1,brOb p.1.2.1.1 p.1.2.1.2),(2,iOb p.2.1.1 p.2.1.2),(3,evOb l),(4,stOt 0 noT)],.tup [siJ (siN p) 1 2 4,.ar 3 3 0 l.1]⟩),none⟩)] 6,rm [(1,⟨true,(some ⟨[64],[0],[],1,[(0,cuO n f s2)],.p (.bool false)⟩),none⟩)] 0,.dec false,rm [(2,oc (siH R) (siV R))] 1] [cdA n f] [512,513,514] (siH R) (siV R) =
    some [zE 87 [.p (.seq false 1 n (fun i=>[.int .u8 (f i)]))] (zf96 n f s) (.pt 3 0 0 0),(AE 1),Con Tryz.prog 95 1 (zf96 n f s) [.pt 3 0 0 0] [(0,⟨true,3,1,(fun i=>[.p (.seq false 1 n (fun i_1=>[.int .u8 (f i_1)])),.p (.int .i64 (↑s1.1:Int)),.p (.int .i64 s1.2)])⟩),(1,⟨false,2,p.1.2.1.1,(fun i=>[.p (.int .i64 ((p.1.2.1.2 i).1)),.p (.int .i64 ((p.1.2.1.2 i).2.1))])⟩),(2,⟨false,1,p.2.1.1,(fun i=>[.p (.int .i64 (p.2.1.2 i))])⟩),(3,⟨false,3,l.1,(fun i=>[.p (.int .i64 ((l.2 i).1)),.p (.int .i64 ((l.2 i).2.1)),.p (.int .i64 ((l.2 i).2.2.1))])⟩),(4,⟨false,1,0,(fun i=>[.p (.str (noT i))])⟩)] ((zf107 p l)),(NT 0 1),((true=true)→ (AN 1)),(AE 1),Con Tryz.prog 103 1 (zf96 n f s1) [.pt 3 0 0 0,.p (.int .i64 6)] (zf96 n f s2) (.p (.bool false)),(false=false),(NT 0 1),(AN 2),(NL p.1.2.1.1 p.1.2.1.1),(AN 1),(NL p.2.1.1 p.2.1.1),(AN 1),(NL 0 0),(AN 3),(NL l.1 l.1),zE 29 [.agg [.p (.int .i64 p.1.1),.p (.seq true 2 p.1.2.1.1 (fun i=>[.int .i64 ((p.1.2.1.2 i).1),.int .i64 ((p.1.2.1.2 i).2.1)])),.p (.seq true 1 p.2.1.1 (fun i=>[.int .i64 (p.2.1.2 i)])),.p (.seq true 1 0 (fun i=>[.str (noT i)]))],.p (.seq true 3 l.1 (fun i=>[.int .i64 ((l.2 i).1),.int .i64 ((l.2 i).2.1),.int .i64 ((l.2 i).2.2.1)]))] (zf17 R) ((zf110 R)),(NT 0 1),((true=true)→ (AN 1)),(NT 0 1),(AI R.1.1.1),(AN 0),(AN R.1.1.2.1.1),(AN 0),(AN R.1.2.1.1),(AN 0),(AN R.2.1.1),(AN 2),(NL R.1.1.2.1.1 R.1.1.2.1.1),(AA R.1.1.2.1.1 (fun i=>[.p (.int .i64 ((R.1.1.2.1.2 i).1)),.p (.int .i64 ((R.1.1.2.1.2 i).2.1))])),(AN 1),(NL R.1.2.1.1 R.1.2.1.1),(AA R.1.2.1.1 (fun i=>[.p (.int .i64 (R.1.2.1.2 i))])),(AN 1),(NL R.2.1.1 R.2.1.1),(AA R.2.1.1 (fun i=>[.p (.str (R.2.1.2 i))])),(AE R.1.1.2.1.1),(AE R.1.2.1.1),(AE R.2.1.1)]:=by kernel_rfl
theorem jdN (n:Nat) (f:Nat→Int) (s s1:Nat×Int) (p:T_Pinned) :
    zS Tryz.f38 [rg 1,rm [(1,⟨true,(some ⟨[],[0],[],1,[(0,cuO n f s)],.pt 3 0 0 0⟩),none⟩),(0,⟨true,(some ⟨[64],[0],[],1,[(0,cuO n f s1),(1,brOb p.1.2.1.1 p.1.2.1.2),(2,iOb p.2.1.1 p.2.1.2)],(zf121 p)⟩),none⟩)] 1] [cdA n f] [96,97] [(0,brOb p.1.2.1.1 p.1.2.1.2),(1,iOb p.2.1.1 p.2.1.2)] (pjV p) =
    some [zE 87 [.p (.seq false 1 n (fun i=>[.int .u8 (f i)]))] (zf96 n f s) (.pt 3 0 0 0),(AE 1),Con Tryz.prog 88 1 (zf96 n f s) [.pt 3 0 0 0] (zf12 n f s1 p) ((zf121 p)),(NT 0 1),((true=true)→ (AN 1)),(NT 0 1),(AI p.1.1),(AN 0),(AN p.1.2.1.1),(AN 0),(AN p.2.1.1),(AN 2),(NL p.1.2.1.1 p.1.2.1.1),(AA p.1.2.1.1 (fun i=>[.p (.int .i64 ((p.1.2.1.2 i).1)),.p (.int .i64 ((p.1.2.1.2 i).2.1))])),(AN 1),(NL p.2.1.1 p.2.1.1),(AA p.2.1.1 (fun i=>[.p (.int .i64 (p.2.1.2 i))])),(AE p.1.2.1.1),(AE p.2.1.1)]:=by kernel_rfl
theorem jdI (n:Nat) (f:Nat→Int) (s s1:Nat×Int) (p:T_Pinned) :
    zS Tryz.f41 [rg 1,rm [(1,⟨true,(some ⟨[],[0],[],1,[(0,cuO n f s)],.pt 3 0 0 0⟩),none⟩),(0,⟨true,(some ⟨[64],[0],[],1,[(0,cuO n f s1),(1,brOb p.1.2.1.1 p.1.2.1.2),(2,iOb p.2.1.1 p.2.1.2)],(zf121 p)⟩),none⟩)] 1] [cdA n f] [96,97] [(0,brOb p.1.2.1.1 p.1.2.1.2),(1,iOb p.2.1.1 p.2.1.2)] (pjV p) =
    some [zE 87 [.p (.seq false 1 n (fun i=>[.int .u8 (f i)]))] (zf96 n f s) (.pt 3 0 0 0),(AE 1),Con Tryz.prog 88 1 (zf96 n f s) [.pt 3 0 0 0] (zf12 n f s1 p) ((zf121 p)),(NT 0 1),((true=true)→ (AN 1)),(NT 0 1),(AI p.1.1),(AN 0),(AN p.1.2.1.1),(AN 0),(AN p.2.1.1),(AN 2),(NL p.1.2.1.1 p.1.2.1.1),(AA p.1.2.1.1 (fun i=>[.p (.int .i64 ((p.1.2.1.2 i).1)),.p (.int .i64 ((p.1.2.1.2 i).2.1))])),(AN 1),(NL p.2.1.1 p.2.1.1),(AA p.2.1.1 (fun i=>[.p (.int .i64 (p.2.1.2 i))])),(AE p.1.2.1.1),(AE p.2.1.1)]:=by kernel_rfl
theorem jnIt (p:T_Pinned) :
    zS Tryz.f39 [rg 3,rm [(1,oc [] (.p (.bool true)))] 1,.dec false,rm [(1,oc [(0,brOb p.1.2.1.1 p.1.2.1.2),(1,iOb p.2.1.1 p.2.1.2)] (pjV p))] 3] [pinA p] [224,225] [(0,brOb p.1.2.1.1 p.1.2.1.2),(1,iOb p.2.1.1 p.2.1.2),(2,stOt 0 noT)] (.tup [siJ (siN p) 0 1 2,.p (.bool true)]) =
    some [(NT 0 1),zE 73 [(zf25 p)] [] (.p (.bool true)),((!true)=false),(NT 0 1),zE 83 [(zf25 p)] (zf31 p) ((zf120 p)),(NT 0 1),((true=true)→ (AN 1)),(NT 0 1),(AI p.1.1),(AN 0),(AN p.1.2.1.1),(AN 0),(AN p.2.1.1),(AN 0),(true=true),(AN 2),(NL p.1.2.1.1 p.1.2.1.1),(AA p.1.2.1.1 (fun i=>[.p (.int .i64 ((p.1.2.1.2 i).1)),.p (.int .i64 ((p.1.2.1.2 i).2.1))])),(AN 1),(NL p.2.1.1 p.2.1.1),(AA p.2.1.1 (fun i=>[.p (.int .i64 (p.2.1.2 i))])),(AN 0),(AE p.1.2.1.1),(AE p.2.1.1),(AE 0)]:=by kernel_rfl
theorem jnIf (p:T_Pinned) :
    zS Tryz.f39 [rg 3,rm [(1,oc [] (.p (.bool false)))] 1,.dec true,rg 3] [pinA p] [] [(0,brOb zPin.1.2.1.1 zPin.1.2.1.2),(1,iOb zPin.2.1.1 zPin.2.1.2),(2,stOt 0 noT)] (.tup [siJ (siN zPin) 0 1 2,.p (.bool false)]) =
    some (zD [(NT 0 1),zE 73 [(zf25 p)] [] (.p (.bool false)),((!false)=true),((true=true)→ (AN 1)),(AI 0),(AN 0),(false=false),(AE 0)] [0,1,2,0,3,0,4,5,5,5,6,5,5,5,7,7,7]):=by kernel_rfl
theorem jnSt (p:T_Pinned) :
    zS Tryz.f40 [rg 3,rm [(1,oc [] (.p (.bool true)))] 1,.dec false,rm [(2,oc (siH (siN p)) (siV (siN p)))] 2] [pinA p] [256,257,258] [(0,brOb p.1.2.1.1 p.1.2.1.2),(1,iOb p.2.1.1 p.2.1.2),(2,stOt 0 noT)] (.tup [siJ (siN p) 0 1 2,.p (.bool true)]) =
    some [(NT 0 1),zE 77 [(zf25 p)] [] (.p (.bool true)),((!true)=false),(NT 0 1),zE 98 [.agg [.p (.int .i64 p.1.1),.p (.seq true 2 p.1.2.1.1 (fun i=>[.int .i64 ((p.1.2.1.2 i).1),.int .i64 ((p.1.2.1.2 i).2.1)])),.p (.seq true 1 p.2.1.1 (fun i=>[.int .i64 (p.2.1.2 i)])),.p (.nil)]] [(0,⟨false,2,p.1.2.1.1,(fun i=>[.p (.int .i64 ((p.1.2.1.2 i).1)),.p (.int .i64 ((p.1.2.1.2 i).2.1))])⟩),(1,⟨false,1,p.2.1.1,(fun i=>[.p (.int .i64 (p.2.1.2 i))])⟩),(2,⟨false,1,0,(fun i=>[.p (.str ((0,noT).2 i))])⟩)] (.agg [.p (.int .i64 p.1.1),.ar 2 0 0 p.1.2.1.1,.ar 1 1 0 p.2.1.1,.ar 1 2 0 0]),(NT 0 1),((true=true)→ (AN 1)),(NT 0 1),(AI p.1.1),(AN 0),(AN p.1.2.1.1),(AN 0),(AN p.2.1.1),(AN 0),(AN 0),(true=true),(AN 2),(NL p.1.2.1.1 p.1.2.1.1),(AA p.1.2.1.1 (fun i=>[.p (.int .i64 ((p.1.2.1.2 i).1)),.p (.int .i64 ((p.1.2.1.2 i).2.1))])),(AN 1),(NL p.2.1.1 p.2.1.1),(AA p.2.1.1 (fun i=>[.p (.int .i64 (p.2.1.2 i))])),(AN 1),(NL 0 0),(∀ i:Nat,(((i:Nat)<0)→(All []∧(([.p (.str ((0,noT).2 i))]:List AV)=[.p (.str (noT i))])))),(AE p.1.2.1.1),(AE p.2.1.1),(AE 0)]:=by kernel_rfl
theorem jnSf (p:T_Pinned) :
    zS Tryz.f40 [rg 3,rm [(1,oc [] (.p (.bool false)))] 1,.dec true,rg 3] [pinA p] [] [(0,brOb zPin.1.2.1.1 zPin.1.2.1.2),(1,iOb zPin.2.1.1 zPin.2.1.2),(2,stOt 0 noT)] (.tup [siJ (siN zPin) 0 1 2,.p (.bool false)]) =
    some (zD [(NT 0 1),zE 77 [(zf25 p)] [] (.p (.bool false)),((!false)=true),((true=true)→ (AN 1)),(AI 0),(AN 0),(false=false),(AE 0)] [0,1,2,0,3,0,4,5,5,5,6,5,5,5,7,7,7]):=by kernel_rfl
theorem jatT (n:Nat) (f:Nat→Int) :
    zS Tryz.f32 [rg 1,rg 4,.dec true,rg 6] [cdA n f,.p (.int .i64 2)] [] [] (.p (.int .i64 (f 2))) =
    some [((decide (2<(↑n:Int)))=true),(IL 0 2),(IT 2 (↑n:Int)),(ZLo (f 2)),(ZHi (f 2)),(AI ((f 2)))]:=by kernel_rfl
theorem jatF (n:Nat) (f:Nat→Int) :
    zS Tryz.f32 [rg 1,rg 4,.dec false,rg 8] [cdA n f,.p (.int .i64 2)] [] [] (.p (.int .i64 ((2*37+(n:Int)*11) % 256))) =
    some [((decide (2<(↑n:Int)))=false),(ZLo (2*37)),(ZHi (2*37)),(ZLo ((↑n:Int)*11)),(ZHi ((↑n:Int)*11)),(ZLo (2*37+(↑n:Int)*11)),(ZHi (2*37+(↑n:Int)*11)),(IL 0 (2*37+(↑n:Int)*11)),(IT 0 256),(AI (((2*37+(↑n:Int)*11) % 256)))]:=by kernel_rfl
end Go.Proofs.YtkepkjbofchckaaGreat.Mach
