/- What the law Fw needs, part 6 of 6: the abstract machine and the contracts of the functions. Conditions: as each theorem says. -/
import Derived.Test.YtkkjoghiigiokaaGreatFwP5
namespace Go.Proofs.YtkkjoghiigiokaaGreat.Mach
open Go
set_option linter.unusedVariables false
set_option linter.unusedSimpArgs false
def aOb (q:Nat):Ob:=⟨false,1,q,fun _=>[anyA]⟩
def plA (x:T_Place):AV:=.agg [.p (.int .i64 x.1),.p (.int .i64 x.2.1)]
def FLh (g:Nat→T_Bar) (nb N:Nat) (pl:Nat→T_Place) (np q:Nat):Hp:=[(0,fbx g nb N pl np),(1,aOb q)]
def FL0 (g:Nat→T_Bar) (nb N:Nat) (pl:Nat→T_Place) (np a q:Nat):St :=
  ⟨[.p .any,.pt 3 0 0 0,.p .any,.ar 1 1 0 q]++List.replicate 10 anyA++[.p (.int .i64 np),.p (.int .i64 a)]++List.replicate 45 anyA,FLh g nb N pl np q,2⟩
def FL1 (g:Nat→T_Bar) (nb N:Nat) (pl:Nat→T_Place) (np a b q:Nat):St :=
  ⟨[.p .any,.pt 3 0 0 0,.p .any,.ar 1 1 0 q,.p (.int .i64 a),.p (.int .i64 b)]++List.replicate 8 anyA++[.p (.int .i64 np),.p (.int .i64 a)]++List.replicate 45 anyA,FLh g nb N pl np q,2⟩
def FL2 (g:Nat→T_Bar) (nb N:Nat) (pl:Nat→T_Place) (np a b c q:Nat):St :=
  ⟨[.p .any,.pt 3 0 0 0,.p .any,.ar 1 1 0 q,.p (.int .i64 a),.p (.int .i64 b),.p (.int .i64 c)]++List.replicate 7 anyA++[.p (.int .i64 np),.p (.int .i64 a)]++List.replicate 45 anyA,FLh g nb N pl np q,2⟩
def FM0 (g:Nat→T_Bar) (nb N:Nat) (pl:Nat→T_Place) (np a q:Nat):St :=
  ⟨[.p .any,.pt 3 0 0 0,.p .any,.ar 1 1 0 q,.p (.int .i64 a)]++List.replicate 56 anyA,FLh g nb N pl np q,2⟩
def FM1 (g:Nat→T_Bar) (nb N:Nat) (pl:Nat→T_Place) (np a b q:Nat):St :=
  ⟨[.p .any,.pt 3 0 0 0,.p .any,.ar 1 1 0 q,.p (.int .i64 a),.p (.int .i64 b)]++List.replicate 55 anyA,FLh g nb N pl np q,2⟩
def FM2 (g:Nat→T_Bar) (nb N:Nat) (pl:Nat→T_Place) (np a b c q:Nat):St :=
  ⟨[.p .any,.pt 3 0 0 0,.p .any,.ar 1 1 0 q,.p (.int .i64 a),.p (.int .i64 b),.p (.int .i64 c)]++List.replicate 54 anyA,FLh g nb N pl np q,2⟩
def clB (x y z:T_Place):Bool:=(y.1 - x.1)*(z.2.1 - x.2.1)==(z.1 - x.1)*(y.2.1 - x.2.1)
theorem coI (x y z:T_Place) :
    pathOb Tryz.prog Tryz.f238 0 [rg 4,rm [(1,oc [] (.p (.bool true))),(2,oc [] (.p (.bool true))),(3,oc [] (.p (.bool true)))] 27] [.code (bodyOf Tryz.f238)] (start Tryz.f238 [] 0 [plA x,plA y,plA z]) [] 1 [] (.p (.bool (clB x y z))) =
    some [(NT 0 1),Con Tryz.prog 233 0 [] [.agg [.p (.int .i64 x.1),.p (.int .i64 x.2.1)]] [] (.p (.bool true)),((true=true)→(NT 0 1)),(AG true),((true=true)→ Con Tryz.prog 233 0 [] [.agg [.p (.int .i64 y.1),.p (.int .i64 y.2.1)]] [] (.p (.bool true))),(AG true),(((bif true then true else false)=true)→(NT 0 1)),(AG (bif true then true else false)),(((bif true then true else false)=true)→ Con Tryz.prog 233 0 [] [.agg [.p (.int .i64 z.1),.p (.int .i64 z.2.1)]] [] (.p (.bool true))),(AG (bif true then true else false)),(AG (bif bif true then true else false then true else false)),(((bif bif true then true else false then true else false)=true)→(NT 0 1)),(AG (bif bif true then true else false then true else false)),(((bif bif true then true else false then true else false)=true)→(NT 0 1)),(AG (bif bif true then true else false then true else false)),(AG (bif bif true then true else false then true else false)),(((bif bif true then true else false then true else false)=true)→(ZLo (y.1 - x.1))),(((bif bif true then true else false then true else false)=true)→(ZHi (y.1 - x.1))),(AG (bif bif true then true else false then true else false)),(((bif bif true then true else false then true else false)=true)→(NT 0 1)),(AG (bif bif true then true else false then true else false)),(((bif bif true then true else false then true else false)=true)→(NT 0 1)),(AG (bif bif true then true else false then true else false)),(AG (bif bif true then true else false then true else false)),(((bif bif true then true else false then true else false)=true)→(ZLo (z.2.1 - x.2.1))),(((bif bif true then true else false then true else false)=true)→(ZHi (z.2.1 - x.2.1))),(AG (bif bif true then true else false then true else false)),(AG (bif bif true then true else false then true else false)),(((bif bif true then true else false then true else false)=true)→(ZLo ((y.1 - x.1)*(z.2.1 - x.2.1)))),(((bif bif true then true else false then true else false)=true)→(ZHi ((y.1 - x.1)*(z.2.1 - x.2.1)))),(AG (bif bif true then true else false then true else false)),(((bif bif true then true else false then true else false)=true)→(NT 0 1)),(AG (bif bif true then true else false then true else false)),(((bif bif true then true else false then true else false)=true)→(NT 0 1)),(AG (bif bif true then true else false then true else false)),(AG (bif bif true then true else false then true else false)),(((bif bif true then true else false then true else false)=true)→(ZLo (z.1 - x.1))),(((bif bif true then true else false then true else false)=true)→(ZHi (z.1 - x.1))),(AG (bif bif true then true else false then true else false)),(((bif bif true then true else false then true else false)=true)→(NT 0 1)),(AG (bif bif true then true else false then true else false)),(((bif bif true then true else false then true else false)=true)→(NT 0 1)),(AG (bif bif true then true else false then true else false)),(AG (bif bif true then true else false then true else false)),(((bif bif true then true else false then true else false)=true)→(ZLo (y.2.1 - x.2.1))),(((bif bif true then true else false then true else false)=true)→(ZHi (y.2.1 - x.2.1))),(AG (bif bif true then true else false then true else false)),(AG (bif bif true then true else false then true else false)),(((bif bif true then true else false then true else false)=true)→(ZLo ((z.1 - x.1)*(y.2.1 - x.2.1)))),(((bif bif true then true else false then true else false)=true)→(ZHi ((z.1 - x.1)*(y.2.1 - x.2.1)))),(AG (bif bif true then true else false then true else false)),(AG (bif bif true then true else false then true else false)),(AG (bif bif true then true else false then true else false)),((bif bif bif true then true else false then true else false then (y.1 - x.1)*(z.2.1 - x.2.1)==(z.1 - x.1)*(y.2.1 - x.2.1) else false)=(clB x y z))]:=by kernel_rfl
theorem coS (x y z:T_Place) :
    pathOb Tryz.prog Tryz.f231 0 [rg 4,rm [(1,oc [] (.p (.bool true))),(3,oc [] (.p (.bool true))),(4,oc [] (.p (.bool true)))] 2,.dec false,rg 24] [.code (bodyOf Tryz.f231)] (start Tryz.f231 [] 0 [plA x,plA y,plA z]) [] 1 [] (.p (.bool (clB x y z))) =
    some [(NT 0 1),Con Tryz.prog 316 0 [] [.agg [.p (.int .i64 x.1),.p (.int .i64 x.2.1)]] [] (.p (.bool true)),(((!!true)=true)→(NT 0 1)),(AG (!!true)),(((!!true)=true)→ Con Tryz.prog 316 0 [] [.agg [.p (.int .i64 y.1),.p (.int .i64 y.2.1)]] [] (.p (.bool true))),(AG (!!true)),(((!true)=false)→ ((!!true)=true)),(((!bif !true then true else !true)=true)→(NT 0 1)),(AG (!bif !true then true else !true)),(((!bif !true then true else !true)=true)→ Con Tryz.prog 316 0 [] [.agg [.p (.int .i64 z.1),.p (.int .i64 z.2.1)]] [] (.p (.bool true))),(AG (!bif !true then true else !true)),(((bif !true then true else !true)=false)→ ((!bif !true then true else !true)=true)),((bif bif !true then true else !true then true else !true)=false),(NT 0 1),(NT 0 1),(ZLo (y.1 - x.1)),(ZHi (y.1 - x.1)),(NT 0 1),(NT 0 1),(ZLo (z.2.1 - x.2.1)),(ZHi (z.2.1 - x.2.1)),(ZLo ((y.1 - x.1)*(z.2.1 - x.2.1))),(ZHi ((y.1 - x.1)*(z.2.1 - x.2.1))),(NT 0 1),(NT 0 1),(ZLo (y.2.1 - x.2.1)),(ZHi (y.2.1 - x.2.1)),(NT 0 1),(NT 0 1),(ZLo (z.1 - x.1)),(ZHi (z.1 - x.1)),(ZLo ((y.2.1 - x.2.1)*(z.1 - x.1))),(ZHi ((y.2.1 - x.2.1)*(z.1 - x.1))),(((y.1 - x.1)*(z.2.1 - x.2.1)==(y.2.1 - x.2.1)*(z.1 - x.1))=(clB x y z))]:=by kernel_rfl
theorem onS (x:T_Place) (b1 b2:Bool) :
    pathOb Tryz.prog Tryz.f316 0 [rg 2,rm [(2,oc [] (.p (.bool b1))),(3,oc [] (.p (.bool b2)))] 2] [.code (bodyOf Tryz.f316)] (start Tryz.f316 [] 0 [plA x]) [] 1 [] (.p (.bool (bif b1 then b2 else false))) =
    some [(NT 0 1),Con Tryz.prog 167 0 [] [.p (.int .i64 x.1),.p (.int .i64 0),.p (.int .i64 4)] [] (.p (.bool b1)),(AG b1),((b1=true)→(NT 0 1)),(AG b1),((b1=true)→ Con Tryz.prog 167 0 [] [.p (.int .i64 x.2.1),.p (.int .i64 0),.p (.int .i64 4)] [] (.p (.bool b2))),(AG b1),((bif b1 then b2 else false)=(bif b1 then b2 else false))]:=by kernel_rfl
theorem fla (g:Nat→T_Bar) (nb N:Nat) (pl:Nat→T_Place) (np:Nat) :
    pieceOb Tryz.prog 0 [rg 2,rg 2,rm [(1,oc [] (.p (.bool true)))] 1,.dec false,rg 4,.head] [.code (bodyOf Tryz.f136)] (start Tryz.f136 [] 0 [frA g nb N pl np]) [0,64] 0 (FL0 g nb N pl np 0 0) =
    some (zf59,[(NT 0 1),Con Tryz.prog 128 0 [] [(zf31 N nb g np pl)] [] (.p (.bool true)),((!true)=false),(NT 0 1),(AN 0),(AN 0),(AN 0),(AI ((↑np:Int))),((0:Int)=(↑0:Int)),((([AV.p (PV.int IntKind.i64 (↑N:Int)),brL g nb,pcL pl np].length):Nat)=3),(NL 1 1),(NL 1 1),(AI ((↑N:Int))),(AN nb),(AP nb (fun i=>[.int .i64 ((g i).1),.int .i64 ((g i).2.1)])),(AN np),(AP np (fun i=>[.int .i64 ((pl i).1),.int .i64 ((pl i).2.1)])),(AN 1),(NL 0 0),(∀ i:Nat,(((i:Nat)<0)→(All []∧(([.p (.nil)]:List AV)=[.p .any]))))]):=by kernel_rfl
theorem flb (g:Nat→T_Bar) (nb N:Nat) (pl:Nat→T_Place) (np a q:Nat) :
    pieceOb Tryz.prog 0 [rg 1,.dec true,rg 2,rg 3,.head] zf59 (FL0 g nb N pl np a q) [0,1] 0 (FL1 g nb N pl np a (a+1) q) =
    some (zf16,[((decide ((↑a:Int)<(↑np:Int)))=true),(ZLo ((↑a:Int)+1)),(ZHi ((↑a:Int)+1)),(AN 0),(AN 0),(AN q),(AI ((↑a:Int))),((((↑a:Int)+1):Int)=(↑(a+1):Int)),(AI ((↑np:Int))),(AI ((↑a:Int))),(AN 3),(NL 1 1),(NL 1 1),(AI ((↑N:Int))),(AN nb),(AP nb (fun i=>[.int .i64 ((g i).1),.int .i64 ((g i).2.1)])),(AN np),(AP np (fun i=>[.int .i64 ((pl i).1),.int .i64 ((pl i).2.1)])),(AN 1),(NL q q),(AA q (fun i=>[.p .any]))]):=by kernel_rfl
theorem flc (g:Nat→T_Bar) (nb N:Nat) (pl:Nat→T_Place) (np a b q:Nat) :
    pieceOb Tryz.prog 0 [rg 5,.dec true,rg 3,.head] zf16 (FL1 g nb N pl np a b q) [0,1] 0 (FL2 g nb N pl np a b (b+1) q) =
    some (zf4,[(NT 0 1),((decide ((↑b:Int)<(↑np:Int)))=true),(ZLo ((↑b:Int)+1)),(ZHi ((↑b:Int)+1)),(AN 0),(AN 0),(AN q),(AI ((↑a:Int))),(AI ((↑b:Int))),((((↑b:Int)+1):Int)=(↑(b+1):Int)),(AI ((↑np:Int))),(AI ((↑a:Int))),(AN 3),(NL 1 1),(NL 1 1),(AI ((↑N:Int))),(AN nb),(AP nb (fun i=>[.int .i64 ((g i).1),.int .i64 ((g i).2.1)])),(AN np),(AP np (fun i=>[.int .i64 ((pl i).1),.int .i64 ((pl i).2.1)])),(AN 1),(NL q q),(AA q (fun i=>[.p .any]))]):=by kernel_rfl
theorem fld (g:Nat→T_Bar) (nb N:Nat) (pl:Nat→T_Place) (np a b c q:Nat) :
    pieceOb Tryz.prog 0 [rg 5,.dec true,rm [(15,oc [] (.p (.bool true)))] 0,.dec true,rg 8,rg 3,.head] zf4 (FL2 g nb N pl np a b c q) [0,866] 0 (FL2 g nb N pl np a b (c+1) (q+1)) =
    some (zf4,[(NT 0 1),((decide ((↑c:Int)<(↑np:Int)))=true),(NT 0 1),(IL 0 (↑a:Int)),(IT (↑a:Int) (↑np:Int)),(NT 0 1),(IL 0 (↑b:Int)),(IT (↑b:Int) (↑np:Int)),(NT 0 1),(IL 0 (↑c:Int)),(IT (↑c:Int) (↑np:Int)),Con Tryz.prog 238 0 [] [(zf105 pl a),(zf105 pl b),(zf105 pl c)] [] (.p (.bool true)),(true=true),(NL 1 1),(NL q q),(NL ((q+1)*24) 140737488355328),(NL (q+1) 9223372036854775807),(ZLo ((↑c:Int)+1)),(ZHi ((↑c:Int)+1)),(AN 0),(AN 0),(AN ((q+1))),(AI ((↑a:Int))),(AI ((↑b:Int))),((((↑c:Int)+1):Int)=(↑(c+1):Int)),(AI ((↑np:Int))),(AI ((↑a:Int))),(AN 3),(NL 1 1),(NL 1 1),(AI ((↑N:Int))),(AN nb),(AP nb (fun i=>[.int .i64 ((g i).1),.int .i64 ((g i).2.1)])),(AN np),(AP np (fun i=>[.int .i64 ((pl i).1),.int .i64 ((pl i).2.1)])),(AN 1),(NL (q+1) (q+1)),(CV [(866,⟨false,1,(q+1),(fun i_1=>(if (i_1<q) then [.p .any] else [.ar 1 802 0 3]))⟩),(834,⟨false,1,1,(fun i_1=>[.ar 1 802 0 3])⟩),(802,⟨false,1,3,(fun i_1=>[(List.getD ([.p (.int .i64 (↑a:Int)),.p (.int .i64 (↑b:Int)),.p (.int .i64 (↑c:Int))]:List AV) (rowIx 3 i_1*1) (.p .any))])⟩),(0,⟨true,3,1,(fun i_1=>[.p (.int .i64 (↑N:Int)),.p (.seq true 2 nb (fun i_2=>[.int .i64 ((g i_2).1),.int .i64 ((g i_2).2.1)])),.p (.seq true 2 np (fun i_2=>[.int .i64 ((pl i_2).1),.int .i64 ((pl i_2).2.1)]))])⟩)] [0,866] 0 (q+1) (fun i=>if (i<q) then [.p .any] else [.ar 1 802 0 3]) (fun i=>[.p .any]))]):=by kernel_rfl
theorem flF (g:Nat→T_Bar) (nb N:Nat) (pl:Nat→T_Place) (np a b c q:Nat) :
    pieceOb Tryz.prog 0 [rg 5,.dec true,rm [(15,oc [] (.p (.bool false)))] 0,.dec false,rg 3,.head] zf4 (FL2 g nb N pl np a b c q) [0,1] 0 (FL2 g nb N pl np a b (c+1) q) =
    some (zf4,[(NT 0 1),((decide ((↑c:Int)<(↑np:Int)))=true),(NT 0 1),(IL 0 (↑a:Int)),(IT (↑a:Int) (↑np:Int)),(NT 0 1),(IL 0 (↑b:Int)),(IT (↑b:Int) (↑np:Int)),(NT 0 1),(IL 0 (↑c:Int)),(IT (↑c:Int) (↑np:Int)),Con Tryz.prog 238 0 [] [(zf105 pl a),(zf105 pl b),(zf105 pl c)] [] (.p (.bool false)),(false=false),(ZLo ((↑c:Int)+1)),(ZHi ((↑c:Int)+1)),(AN 0),(AN 0),(AN q),(AI ((↑a:Int))),(AI ((↑b:Int))),((((↑c:Int)+1):Int)=(↑(c+1):Int)),(AI ((↑np:Int))),(AI ((↑a:Int))),(AN 3),(NL 1 1),(NL 1 1),(AI ((↑N:Int))),(AN nb),(AP nb (fun i=>[.int .i64 ((g i).1),.int .i64 ((g i).2.1)])),(AN np),(AP np (fun i=>[.int .i64 ((pl i).1),.int .i64 ((pl i).2.1)])),(AN 1),(NL q q),(AA q (fun i=>[.p .any]))]):=by kernel_rfl
theorem flX (g:Nat→T_Bar) (nb N:Nat) (pl:Nat→T_Place) (np a b c q:Nat) :
    pieceOb Tryz.prog 0 [rg 5,.dec false,rg 3,.head] zf4 (FL2 g nb N pl np a b c q) [0,1] 0 (FL1 g nb N pl np a (b+1) q) =
    some (zf16,[(NT 0 1),((decide ((↑c:Int)<(↑np:Int)))=false),(ZLo ((↑b:Int)+1)),(ZHi ((↑b:Int)+1)),(AN 0),(AN 0),(AN q),(AI ((↑a:Int))),((((↑b:Int)+1):Int)=(↑(b+1):Int)),(AI ((↑np:Int))),(AI ((↑a:Int))),(AN 3),(NL 1 1),(NL 1 1),(AI ((↑N:Int))),(AN nb),(AP nb (fun i=>[.int .i64 ((g i).1),.int .i64 ((g i).2.1)])),(AN np),(AP np (fun i=>[.int .i64 ((pl i).1),.int .i64 ((pl i).2.1)])),(AN 1),(NL q q),(AA q (fun i=>[.p .any]))]):=by kernel_rfl
theorem flY (g:Nat→T_Bar) (nb N:Nat) (pl:Nat→T_Place) (np a b q:Nat) :
    pieceOb Tryz.prog 0 [rg 5,.dec false,rg 2,.head] zf16 (FL1 g nb N pl np a b q) [0,1] 0 (FL0 g nb N pl np (a+1) q) =
    some (zf59,[(NT 0 1),((decide ((↑b:Int)<(↑np:Int)))=false),(ZLo ((↑a:Int)+1)),(ZHi ((↑a:Int)+1)),(AN 0),(AN 0),(AN q),(AI ((↑np:Int))),((((↑a:Int)+1):Int)=(↑(a+1):Int)),(AN 3),(NL 1 1),(NL 1 1),(AI ((↑N:Int))),(AN nb),(AP nb (fun i=>[.int .i64 ((g i).1),.int .i64 ((g i).2.1)])),(AN np),(AP np (fun i=>[.int .i64 ((pl i).1),.int .i64 ((pl i).2.1)])),(AN 1),(NL q q),(AA q (fun i=>[.p .any]))]):=by kernel_rfl
theorem flZ (g:Nat→T_Bar) (nb N:Nat) (pl:Nat→T_Place) (np a q:Nat) :
    pathOb Tryz.prog Tryz.f136 0 [rg 1,.dec false,rg 2] zf59 (FL0 g nb N pl np a q) [1] 0 [(0,aOb q)] (.ar 1 0 0 q) =
    some [((decide ((↑a:Int)<(↑np:Int)))=false),(AN 0),(AN q),(AN 1),(NL q q),(AA q (fun i=>[.p .any])),(AE q)]:=by kernel_rfl
theorem gla (g:Nat→T_Bar) (nb N:Nat) (pl:Nat→T_Place) (np:Nat) :
    pieceOb Tryz.prog 0 [rg 2,rg 2,rg 1,.head] [.code (bodyOf Tryz.f126)] (start Tryz.f126 [] 0 [frA g nb N pl np]) [0,64] 0 (FM0 g nb N pl np 0 0) =
    some (zf77,[(AN 0),(AN 0),(AN 0),((0:Int)=(↑0:Int)),((([AV.p (PV.int IntKind.i64 (↑N:Int)),brL g nb,pcL pl np].length):Nat)=3),(NL 1 1),(NL 1 1),(AI ((↑N:Int))),(AN nb),(AP nb (fun i=>[.int .i64 ((g i).1),.int .i64 ((g i).2.1)])),(AN np),(AP np (fun i=>[.int .i64 ((pl i).1),.int .i64 ((pl i).2.1)])),(AN 1),(NL 0 0),(∀ i:Nat,(((i:Nat)<0)→(All []∧(([.p (.nil)]:List AV)=[.p .any]))))]):=by kernel_rfl
theorem glb (g:Nat→T_Bar) (nb N:Nat) (pl:Nat→T_Place) (np a q:Nat) :
    pieceOb Tryz.prog 0 [rm [(7,oc [] (.p (.bool true)))] 1,.dec true,rg 3,.head] zf77 (FM0 g nb N pl np a q) [0,1] 0 (FM1 g nb N pl np a (a+1) q) =
    some (zf19,[(NT 0 1),(((decide ((↑a:Int)<(↑np:Int)))=true)→(NT 0 1)),(AG (decide ((↑a:Int)<(↑np:Int)))),(((decide ((↑a:Int)<(↑np:Int)))=true)→ Con Tryz.prog 117 0 [] [(zf31 N nb g np pl)] [] (.p (.bool true))),(AG (decide ((↑a:Int)<(↑np:Int)))),((bif decide ((↑a:Int)<(↑np:Int)) then true else false)=true),(ZLo ((↑a:Int)+1)),(ZHi ((↑a:Int)+1)),(AN 0),(AN 0),(AN q),(AI ((↑a:Int))),((((↑a:Int)+1):Int)=(↑(a+1):Int)),(AN 3),(NL 1 1),(NL 1 1),(AI ((↑N:Int))),(AN nb),(AP nb (fun i=>[.int .i64 ((g i).1),.int .i64 ((g i).2.1)])),(AN np),(AP np (fun i=>[.int .i64 ((pl i).1),.int .i64 ((pl i).2.1)])),(AN 1),(NL q q),(AA q (fun i=>[.p .any]))]):=by kernel_rfl
theorem glc (g:Nat→T_Bar) (nb N:Nat) (pl:Nat→T_Place) (np a b q:Nat) :
    pieceOb Tryz.prog 0 [rg 5,.dec true,rg 3,.head] zf19 (FM1 g nb N pl np a b q) [0,1] 0 (FM2 g nb N pl np a b (b+1) q) =
    some (zf6,[(NT 0 1),((decide ((↑b:Int)<(↑np:Int)))=true),(ZLo ((↑b:Int)+1)),(ZHi ((↑b:Int)+1)),(AN 0),(AN 0),(AN q),(AI ((↑a:Int))),(AI ((↑b:Int))),((((↑b:Int)+1):Int)=(↑(b+1):Int)),(AN 3),(NL 1 1),(NL 1 1),(AI ((↑N:Int))),(AN nb),(AP nb (fun i=>[.int .i64 ((g i).1),.int .i64 ((g i).2.1)])),(AN np),(AP np (fun i=>[.int .i64 ((pl i).1),.int .i64 ((pl i).2.1)])),(AN 1),(NL q q),(AA q (fun i=>[.p .any]))]):=by kernel_rfl
theorem gld (g:Nat→T_Bar) (nb N:Nat) (pl:Nat→T_Place) (np a b c q:Nat) :
    pieceOb Tryz.prog 0 [rg 5,.dec true,rm [(15,oc [] (.p (.bool true)))] 0,.dec true,rg 8,rg 3,.head] zf6 (FM2 g nb N pl np a b c q) [0,866] 0 (FM2 g nb N pl np a b (c+1) (q+1)) =
    some (zf6,[(NT 0 1),((decide ((↑c:Int)<(↑np:Int)))=true),(NT 0 1),(IL 0 (↑a:Int)),(IT (↑a:Int) (↑np:Int)),(NT 0 1),(IL 0 (↑b:Int)),(IT (↑b:Int) (↑np:Int)),(NT 0 1),(IL 0 (↑c:Int)),(IT (↑c:Int) (↑np:Int)),Con Tryz.prog 231 0 [] [(zf105 pl a),(zf105 pl b),(zf105 pl c)] [] (.p (.bool true)),(true=true),(NL 1 1),(NL q q),(NL ((q+1)*24) 140737488355328),(NL (q+1) 9223372036854775807),(ZLo ((↑c:Int)+1)),(ZHi ((↑c:Int)+1)),(AN 0),(AN 0),(AN ((q+1))),(AI ((↑a:Int))),(AI ((↑b:Int))),((((↑c:Int)+1):Int)=(↑(c+1):Int)),(AN 3),(NL 1 1),(NL 1 1),(AI ((↑N:Int))),(AN nb),(AP nb (fun i=>[.int .i64 ((g i).1),.int .i64 ((g i).2.1)])),(AN np),(AP np (fun i=>[.int .i64 ((pl i).1),.int .i64 ((pl i).2.1)])),(AN 1),(NL (q+1) (q+1)),(CV [(866,⟨false,1,(q+1),(fun i_1=>(if (i_1<q) then [.p .any] else [.ar 1 802 0 3]))⟩),(834,⟨false,1,1,(fun i_1=>[.ar 1 802 0 3])⟩),(802,⟨false,1,3,(fun i_1=>[(List.getD ([.p (.int .i64 (↑a:Int)),.p (.int .i64 (↑b:Int)),.p (.int .i64 (↑c:Int))]:List AV) (rowIx 3 i_1*1) (.p .any))])⟩),(0,⟨true,3,1,(fun i_1=>[.p (.int .i64 (↑N:Int)),.p (.seq true 2 nb (fun i_2=>[.int .i64 ((g i_2).1),.int .i64 ((g i_2).2.1)])),.p (.seq true 2 np (fun i_2=>[.int .i64 ((pl i_2).1),.int .i64 ((pl i_2).2.1)]))])⟩)] [0,866] 0 (q+1) (fun i=>if (i<q) then [.p .any] else [.ar 1 802 0 3]) (fun i=>[.p .any]))]):=by kernel_rfl
theorem glF (g:Nat→T_Bar) (nb N:Nat) (pl:Nat→T_Place) (np a b c q:Nat) :
    pieceOb Tryz.prog 0 [rg 5,.dec true,rm [(15,oc [] (.p (.bool false)))] 0,.dec false,rg 3,.head] zf6 (FM2 g nb N pl np a b c q) [0,1] 0 (FM2 g nb N pl np a b (c+1) q) =
    some (zf6,[(NT 0 1),((decide ((↑c:Int)<(↑np:Int)))=true),(NT 0 1),(IL 0 (↑a:Int)),(IT (↑a:Int) (↑np:Int)),(NT 0 1),(IL 0 (↑b:Int)),(IT (↑b:Int) (↑np:Int)),(NT 0 1),(IL 0 (↑c:Int)),(IT (↑c:Int) (↑np:Int)),Con Tryz.prog 231 0 [] [(zf105 pl a),(zf105 pl b),(zf105 pl c)] [] (.p (.bool false)),(false=false),(ZLo ((↑c:Int)+1)),(ZHi ((↑c:Int)+1)),(AN 0),(AN 0),(AN q),(AI ((↑a:Int))),(AI ((↑b:Int))),((((↑c:Int)+1):Int)=(↑(c+1):Int)),(AN 3),(NL 1 1),(NL 1 1),(AI ((↑N:Int))),(AN nb),(AP nb (fun i=>[.int .i64 ((g i).1),.int .i64 ((g i).2.1)])),(AN np),(AP np (fun i=>[.int .i64 ((pl i).1),.int .i64 ((pl i).2.1)])),(AN 1),(NL q q),(AA q (fun i=>[.p .any]))]):=by kernel_rfl
theorem glX (g:Nat→T_Bar) (nb N:Nat) (pl:Nat→T_Place) (np a b c q:Nat) :
    pieceOb Tryz.prog 0 [rg 5,.dec false,rg 3,.head] zf6 (FM2 g nb N pl np a b c q) [0,1] 0 (FM1 g nb N pl np a (b+1) q) =
    some (zf19,[(NT 0 1),((decide ((↑c:Int)<(↑np:Int)))=false),(ZLo ((↑b:Int)+1)),(ZHi ((↑b:Int)+1)),(AN 0),(AN 0),(AN q),(AI ((↑a:Int))),((((↑b:Int)+1):Int)=(↑(b+1):Int)),(AN 3),(NL 1 1),(NL 1 1),(AI ((↑N:Int))),(AN nb),(AP nb (fun i=>[.int .i64 ((g i).1),.int .i64 ((g i).2.1)])),(AN np),(AP np (fun i=>[.int .i64 ((pl i).1),.int .i64 ((pl i).2.1)])),(AN 1),(NL q q),(AA q (fun i=>[.p .any]))]):=by kernel_rfl
theorem glY (g:Nat→T_Bar) (nb N:Nat) (pl:Nat→T_Place) (np a b q:Nat) :
    pieceOb Tryz.prog 0 [rg 5,.dec false,rg 3,.head] zf19 (FM1 g nb N pl np a b q) [0,1] 0 (FM0 g nb N pl np (a+1) q) =
    some (zf77,[(NT 0 1),((decide ((↑b:Int)<(↑np:Int)))=false),(ZLo ((↑a:Int)+1)),(ZHi ((↑a:Int)+1)),(AN 0),(AN 0),(AN q),((((↑a:Int)+1):Int)=(↑(a+1):Int)),(AN 3),(NL 1 1),(NL 1 1),(AI ((↑N:Int))),(AN nb),(AP nb (fun i=>[.int .i64 ((g i).1),.int .i64 ((g i).2.1)])),(AN np),(AP np (fun i=>[.int .i64 ((pl i).1),.int .i64 ((pl i).2.1)])),(AN 1),(NL q q),(AA q (fun i=>[.p .any]))]):=by kernel_rfl
theorem glZ (g:Nat→T_Bar) (nb N:Nat) (pl:Nat→T_Place) (np a q:Nat) :
    pathOb Tryz.prog Tryz.f126 0 [rm [(7,oc [] (.p (.bool true)))] 1,.dec false,rg 2] zf77 (FM0 g nb N pl np a q) [1] 0 [(0,aOb q)] (.ar 1 0 0 q) =
    some [(NT 0 1),(((decide ((↑a:Int)<(↑np:Int)))=true)→(NT 0 1)),(AG (decide ((↑a:Int)<(↑np:Int)))),(((decide ((↑a:Int)<(↑np:Int)))=true)→ Con Tryz.prog 117 0 [] [(zf31 N nb g np pl)] [] (.p (.bool true))),(AG (decide ((↑a:Int)<(↑np:Int)))),((bif decide ((↑a:Int)<(↑np:Int)) then true else false)=false),(AN 0),(AN q),(AN 1),(NL q q),(AA q (fun i=>[.p .any])),(AE q)]:=by kernel_rfl
noncomputable def fmL (g:Nat→T_Bar) (nb N:Nat) (pl:Nat→T_Place) (np:Nat) (W:Nat→Nat→Int):Nat→Nat→T_IntS×Bool
  | 0,_=>((0,fun _=>0),false)
  | d+1,i=>if tmB g nb N pl np (2*N,W i)=true then fmL g nb N pl np W d (i+1) else ((2*N,W i),true)
noncomputable def fmF (g:Nat→T_Bar) (nb N:Nat) (pl:Nat→T_Place) (np:Nat):T_IntS×Bool:=fmL g nb N pl np (moF g nb N pl).2 (moF g nb N pl).1 0
theorem moF_le (g:Nat→T_Bar) (nb N:Nat) (pl:Nat→T_Place):(moF g nb N pl).1≤2*N:=Had.nsl_le _ _ _
theorem con_FindMotion {g:Nat→T_Bar} {nb N:Nat} {pl:Nat→T_Place} {np:Nat} (hf:fwB g nb N pl np=true) :
    Con Tryz.prog 135 0 [] [frA g nb N pl np] [(0,iOb (fmF g nb N pl np).1.1 (fmF g nb N pl np).1.2)] (.tup [.ar 1 0 0 (fmF g nb N pl np).1.1,.p (.bool (fmF g nb N pl np).2)]) ∧
    Con Tryz.prog 125 0 [] [frA g nb N pl np] [(0,iOb (fmF g nb N pl np).1.1 (fmF g nb N pl np).1.2)] (.tup [.ar 1 0 0 (fmF g nb N pl np).1.1,.p (.bool (fmF g nb N pl np).2)]):=by
  obtain ⟨h1,h2,h3,h4,hok,hb⟩:=fw_ok hf
  obtain ⟨m1,m2⟩:=con_Motions hf
  have hq:=moF_le g nb N pl
  have ti:=fun (W:Nat→Nat→Int) i=>con_Trivial_i g nb N pl np (2*N,W i) (by omega) (by show 2*N≤_;omega)
  have ts:=fun (W:Nat→Nat→Int) i=>con_Trivial12 g nb N pl np (2*N,W i) (by omega) (by show 2*N≤_;omega)
  unfold fmF
  generalize (moF g nb N pl).1=q at *
  generalize (moF g nb N pl).2=W at *
  generalize hR:fmL g nb N pl np W q 0=R
  constructor
  · refine con_start Tryz.func135 rfl (by kernel_rfl) rfl (fun c hc=>?_)
    have lo:∀ d i,i+d=q→fmL g nb N pl np W d i=R→Run Tryz.prog c 135 zf89 (FmI g nb N pl np q W i) (Post c [(0,iOb R.1.1 R.1.2)] (.tup [.ar 1 0 0 R.1.1,.p (.bool R.2)])):=by
      intro d
      induction d with
      | zero =>
        intro i hi hr
        obtain rfl:i=q:=by omega
        have hd:decide ((i:Int)<(i:Int))=false:=decide_eq_false (by omega)
        rw [← hr]
        refine path_ok mixed Tryz.func135 hc (fme g nb N pl np i W i (fun _=>0)) ?_
        repeat' (first | exact aN | apply aI)
        all_goals (first | exact aE _ | omega | rfl | (intros;first | assumption | exact trivial | rfl | exact fT ‹_› | ((repeat' (first | assumption | apply anda | apply notf));done)) | (exact hd) | (intro t ht;exact absurd ht (Nat.not_lt_zero _)) | (intro t ht;simp [All];done) | (simp only [All];first | exact aE _ | omega | rfl | (intros;first | assumption | exact trivial | rfl | exact fT ‹_› | ((repeat' (first | assumption | apply anda | apply notf));done)) | (exact hd) | (intro t ht;exact absurd ht (Nat.not_lt_zero _)) | (intro t ht;simp [All];done)))
      | succ d ih =>
        intro i hi hr
        have hd:decide ((i:Int)<(q:Int))=true:=decide_eq_true (by omega)
        have ct:=ti W i
        rw [fmL] at hr
        cases hb:tmB g nb N pl np (2*N,W i) with
        | true =>
          rw [hb] at ct
          rw [if_pos hb] at hr
          refine piece_ok mixed hc (fmt g nb N pl np q W i) ?_ (ih (i+1) (by omega) hr)
          repeat' (first | exact aN | apply aI)
          all_goals (first | exact aP _ _ | exact aA _ _ | omega | rfl | (intros;first | assumption | exact trivial | rfl | exact fT ‹_› | ((repeat' (first | assumption | apply anda | apply notf));done)) | (exact hd) | (exact ct) | (intro t ht;simp [All];done) | (simp only [All];first | exact aP _ _ | exact aA _ _ | omega | rfl | (intros;first | assumption | exact trivial | rfl | exact fT ‹_› | ((repeat' (first | assumption | apply anda | apply notf));done)) | (exact hd) | (exact ct) | (intro t ht;simp [All];done)))
        | false =>
          rw [hb] at ct
          rw [if_neg (by rw [hb];exact Bool.false_ne_true)] at hr
          rw [← hr]
          refine path_ok mixed Tryz.func135 hc (fmf g nb N pl np q W i (W i)) ?_
          repeat' (first | exact aN | apply aI)
          all_goals (first | exact aE _ | omega | rfl | (intros;first | assumption | exact trivial | rfl | exact fT ‹_› | ((repeat' (first | assumption | apply anda | apply notf));done)) | (exact hd) | (exact ct) | (intro t ht;simp [All,cM];done) | (intro t ht;simp [All];done) | (simp only [All];first | exact aE _ | omega | rfl | (intros;first | assumption | exact trivial | rfl | exact fT ‹_› | ((repeat' (first | assumption | apply anda | apply notf));done)) | (exact hd) | (exact ct) | (intro t ht;simp [All,cM];done) | (intro t ht;simp [All];done)))
    refine piece_ok mixed hc (fmz g nb N pl np q W) ?_ (lo q 0 (by omega) hR)
    repeat' (first | exact aN | apply aI)
    all_goals (first | exact aP _ _ | exact aA _ _ | omega | rfl | (intros;first | assumption | exact trivial | rfl | exact fT ‹_› | ((repeat' (first | assumption | apply anda | apply notf));done)) | (exact m1) | (intro t ht;simp [All];done) | (simp only [All];first | exact aP _ _ | exact aA _ _ | omega | rfl | (intros;first | assumption | exact trivial | rfl | exact fT ‹_› | ((repeat' (first | assumption | apply anda | apply notf));done)) | (exact m1) | (intro t ht;simp [All];done)))
  · refine con_start Tryz.func125 rfl (by kernel_rfl) rfl (fun c hc=>?_)
    have lo:∀ d i,i+d=q→fmL g nb N pl np W d i=R→Run Tryz.prog c 125 zf76 (FmS g nb N pl np q W i) (Post c [(0,iOb R.1.1 R.1.2)] (.tup [.ar 1 0 0 R.1.1,.p (.bool R.2)])):=by
      intro d
      induction d with
      | zero =>
        intro i hi hr
        obtain rfl:i=q:=by omega
        have hd:decide ((i:Int)<(i:Int))=false:=decide_eq_false (by omega)
        rw [← hr]
        refine path_ok mixed Tryz.func125 hc (fne g nb N pl np i W i (fun _=>0)) ?_
        repeat' (first | exact aN | apply aI)
        all_goals (first | exact aE _ | omega | rfl | (intros;first | assumption | exact trivial | rfl | exact fT ‹_› | ((repeat' (first | assumption | apply anda | apply notf));done)) | (exact hd) | (intro t ht;exact absurd ht (Nat.not_lt_zero _)) | (intro t ht;simp [All];done) | (simp only [All];first | exact aE _ | omega | rfl | (intros;first | assumption | exact trivial | rfl | exact fT ‹_› | ((repeat' (first | assumption | apply anda | apply notf));done)) | (exact hd) | (intro t ht;exact absurd ht (Nat.not_lt_zero _)) | (intro t ht;simp [All];done)))
      | succ d ih =>
        intro i hi hr
        have hd:decide ((i:Int)<(q:Int))=true:=decide_eq_true (by omega)
        have ct:=ts W i
        rw [fmL] at hr
        cases hb:tmB g nb N pl np (2*N,W i) with
        | true =>
          rw [hb] at ct
          rw [if_pos hb] at hr
          refine piece_ok mixed hc (fnt g nb N pl np q W i) ?_ (ih (i+1) (by omega) hr)
          repeat' (first | exact aN | apply aI)
          all_goals (first | exact aP _ _ | exact aA _ _ | omega | rfl | (intros;first | assumption | exact trivial | rfl | exact fT ‹_› | ((repeat' (first | assumption | apply anda | apply notf));done)) | (exact hd) | (exact ct) | (intro t ht;simp [All];done) | (simp only [All];first | exact aP _ _ | exact aA _ _ | omega | rfl | (intros;first | assumption | exact trivial | rfl | exact fT ‹_› | ((repeat' (first | assumption | apply anda | apply notf));done)) | (exact hd) | (exact ct) | (intro t ht;simp [All];done)))
        | false =>
          rw [hb] at ct
          rw [if_neg (by rw [hb];exact Bool.false_ne_true)] at hr
          rw [← hr]
          refine path_ok mixed Tryz.func125 hc (fnf g nb N pl np q W i (W i)) ?_
          repeat' (first | exact aN | apply aI)
          all_goals (first | exact aE _ | omega | rfl | (intros;first | assumption | exact trivial | rfl | exact fT ‹_› | ((repeat' (first | assumption | apply anda | apply notf));done)) | (exact hd) | (exact ct) | (intro t ht;simp [All,cM];done) | (intro t ht;simp [All];done) | (simp only [All];first | exact aE _ | omega | rfl | (intros;first | assumption | exact trivial | rfl | exact fT ‹_› | ((repeat' (first | assumption | apply anda | apply notf));done)) | (exact hd) | (exact ct) | (intro t ht;simp [All,cM];done) | (intro t ht;simp [All];done)))
    refine piece_ok mixed hc (fnz g nb N pl np q W) ?_ (lo q 0 (by omega) hR)
    repeat' (first | exact aN | apply aI)
    all_goals (first | exact aP _ _ | exact aA _ _ | omega | rfl | (intros;first | assumption | exact trivial | rfl | exact fT ‹_› | ((repeat' (first | assumption | apply anda | apply notf));done)) | (exact m2) | (intro t ht;simp [All];done) | (simp only [All];first | exact aP _ _ | exact aA _ _ | omega | rfl | (intros;first | assumption | exact trivial | rfl | exact fT ‹_› | ((repeat' (first | assumption | apply anda | apply notf));done)) | (exact m2) | (intro t ht;simp [All];done)))
def okP (x:T_Place):Prop:=(0≤x.1∧x.1≤4)∧(0≤x.2.1∧x.2.1≤4)
theorem con_On {x:T_Place} (h:okP x):Con Tryz.prog 316 0 [] [plA x] [] (.p (.bool true)):=by
  have h1:=con_l1In x.1 0 4
  have h2:=con_l1In x.2.1 0 4
  rw [inB_iff.2 h.1] at h1
  rw [inB_iff.2 h.2] at h2
  refine con_start Tryz.func316 rfl (by kernel_rfl) rfl (fun c hc=>?_)
  refine path_ok mixed Tryz.func316 hc (onS x true true) ?_
  repeat' (first | exact aN | apply aI)
  all_goals (first | exact aG _ | omega | rfl | (intros;first | assumption | exact trivial | rfl | exact fT ‹_› | ((repeat' (first | assumption | apply anda | apply notf));done)) | (exact h1) | (intro _;exact h2) | (intro h;exact h) | rfl)
theorem con_Collinear {x y z:T_Place} (hx:okP x) (hy:okP y) (hz:okP z) :
    Con Tryz.prog 238 0 [] [plA x,plA y,plA z] [] (.p (.bool (clB x y z)))∧Con Tryz.prog 231 0 [] [plA x,plA y,plA z] [] (.p (.bool (clB x y z))):=by
  have pi:∀ {p:T_Place},okP p→Con Tryz.prog 233 0 [] [plA p] [] (.p (.bool true)):=fun {p} h=>by
    have:=con_isPlace (fun _=>p) 0
    rwa [show plP (fun _=>p) 0=true by unfold plP;rw [inB_iff.2 h.1,inB_iff.2 h.2];rfl] at this
  have i1:=pi hx
  have i2:=pi hy
  have i3:=pi hz
  have s1:=con_On hx
  have s2:=con_On hy
  have s3:=con_On hz
  obtain ⟨⟨x1,x2⟩,x3,x4⟩:=hx
  obtain ⟨⟨y1,y2⟩,y3,y4⟩:=hy
  obtain ⟨⟨z1,z2⟩,z3,z4⟩:=hz
  have m1:=Trv.bdm (a:=y.1 - x.1) (b:=z.2.1 - x.2.1) (A:=4) (B:=4) (by omega) (by omega)
  have m2:=Trv.bdm (a:=z.1 - x.1) (b:=y.2.1 - x.2.1) (A:=4) (B:=4) (by omega) (by omega)
  have m3:=Trv.bdm (a:=y.2.1 - x.2.1) (b:=z.1 - x.1) (A:=4) (B:=4) (by omega) (by omega)
  have e:((y.1 - x.1)*(z.2.1 - x.2.1)==(y.2.1 - x.2.1)*(z.1 - x.1))=clB x y z:=by unfold clB;rw [Int.mul_comm (y.2.1 - x.2.1)]
  constructor
  · refine con_start Tryz.func238 rfl (by kernel_rfl) rfl (fun c hc=>?_)
    refine path_ok mixed Tryz.func238 hc (coI x y z) ?_
    repeat' (first | exact aN | apply aI)
    all_goals (first | exact aG _ | omega | rfl | (intros;first | assumption | exact trivial | rfl | exact fT ‹_› | ((repeat' (first | assumption | apply anda | apply notf));done)) | (exact i1) | (intro _;exact i2) | (intro _;exact i3) | (intro h;exact h) | (intro _;omega) | rfl)
  · refine con_start Tryz.func231 rfl (by kernel_rfl) rfl (fun c hc=>?_)
    refine path_ok mixed Tryz.func231 hc (coS x y z) ?_
    repeat' (first | exact aN | apply aI)
    all_goals (first | exact aG _ | omega | rfl | (intros;first | assumption | exact trivial | rfl | exact fT ‹_› | ((repeat' (first | assumption | apply anda | apply notf));done)) | (exact s1) | (intro _;exact s2) | (intro _;exact s3) | (exact e) | (intro h;exact h) | (intro _;omega) | rfl)
def fC (pl:Nat→T_Place) (a b:Nat):Nat→Nat→Nat→Nat
  | 0,_,q=>q
  | d+1,c,q=>fC pl a b d (c+1) (if clB (pl a) (pl b) (pl c)=true then q+1 else q)
def fB (pl:Nat→T_Place) (np a:Nat):Nat→Nat→Nat→Nat
  | 0,_,q=>q
  | d+1,b,q=>fB pl np a d (b+1) (fC pl a b (np - (b+1)) (b+1) q)
def fA (pl:Nat→T_Place) (np:Nat):Nat→Nat→Nat→Nat
  | 0,_,q=>q
  | d+1,a,q=>fA pl np d (a+1) (fB pl np a (np - (a+1)) (a+1) q)
theorem fC_le (pl:Nat→T_Place) (a b:Nat):∀ d c q,fC pl a b d c q≤q+d
  | 0,_,_=>Nat.le_refl _
  | d+1,c,q=>by
    have:=fC_le pl a b d (c+1) (if clB (pl a) (pl b) (pl c)=true then q+1 else q)
    rw [fC]
    split at this<;>split<;>first | omega | contradiction
theorem fB_le (pl:Nat→T_Place) (np a:Nat) (hnp:np≤6):∀ d b q,fB pl np a d b q≤q+6*d
  | 0,_,_=>Nat.le_refl _
  | d+1,b,q=>by
    have h1:=fB_le pl np a hnp d (b+1) (fC pl a b (np - (b+1)) (b+1) q)
    have h2:=fC_le pl a b (np - (b+1)) (b+1) q
    rw [fB]
    omega
theorem fA_le (pl:Nat→T_Place) (np:Nat) (hnp:np≤6):∀ d a q,fA pl np d a q≤q+36*d
  | 0,_,_=>Nat.le_refl _
  | d+1,a,q=>by
    have h1:=fA_le pl np hnp d (a+1) (fB pl np a (np - (a+1)) (a+1) q)
    have h2:=fB_le pl np a hnp (np - (a+1)) (a+1) q
    rw [fA]
    omega
theorem con_FlatSets {g:Nat→T_Bar} {nb N:Nat} {pl:Nat→T_Place} {np:Nat} (hf:fwB g nb N pl np=true) :
    Con Tryz.prog 136 0 [] [frA g nb N pl np] [(0,aOb (fA pl np np 0 0))] (.ar 1 0 0 (fA pl np np 0 0))∧Con Tryz.prog 126 0 [] [frA g nb N pl np] [(0,aOb (fA pl np np 0 0))] (.ar 1 0 0 (fA pl np np 0 0)):=by
  obtain ⟨h1,h2,h3,h4,hok,hb⟩:=fw_ok hf
  obtain ⟨_,_,_,_,h5,_⟩:=fw_parts hf
  have f1:=con_IsFramework_i g nb N pl np (by omega)
  have f2:=con_IsFramework_s g nb N pl np (by omega)
  rw [hf] at f1 f2
  have hcl:=fun a b c (ha:a<np) (hb:b<np) (hc:c<np)=>con_Collinear (x:=pl a) (y:=pl b) (z:=pl c) (h5 a ha) (h5 b hb) (h5 c hc)
  generalize hR:fA pl np np 0 0=R
  constructor
  · refine con_start Tryz.func136 rfl (by kernel_rfl) rfl (fun cx hc=>?_)
    generalize hQ:Post cx [(0,aOb R)] (.ar 1 0 0 R)=Q
    have l2:∀ a b,a<np→b<np→∀ d c q,c+d=np→q+d≤250→(∀ q',q'=fC pl a b d c q→Run Tryz.prog cx 136 zf16 (FL1 g nb N pl np a (b+1) q') Q) →
        Run Tryz.prog cx 136 zf4 (FL2 g nb N pl np a b c q) Q:=by
      intro a b ha hb d
      induction d with
      | zero =>
        intro c q hcn hq hnext
        obtain rfl:c=np:=by omega
        have hd:decide ((c:Int)<(c:Int))=false:=decide_eq_false (by omega)
        refine piece_ok mixed hc (flX g nb N pl c a b c q) ?_ (hnext q rfl)
        repeat' (first | exact aN | apply aI)
        all_goals (first | exact aP _ _ | exact aA _ _ | omega | rfl | (intros;first | assumption | exact trivial | rfl | exact fT ‹_› | ((repeat' (first | assumption | apply anda | apply notf));done)) | (exact hd) | (intro t ht;simp [All];done))
      | succ d ih =>
        intro c q hcn hq hnext
        have hd:decide ((c:Int)<(np:Int))=true:=decide_eq_true (by omega)
        have cc:=(hcl a b c ha hb (by omega)).1
        cases hb':clB (pl a) (pl b) (pl c) with
        | true =>
          rw [hb'] at cc
          have hr:=ih (c+1) (q+1) (by omega) (by omega) (fun q' hq'=>hnext q' (by rw [hq',fC,if_pos hb']))
          refine piece_ok mixed hc (fld g nb N pl np a b c q) ?_ hr
          repeat' (first | exact aN | apply aI)
          all_goals (first | exact aP _ _ | omega | rfl | (intros;first | assumption | exact trivial | rfl | exact fT ‹_› | ((repeat' (first | assumption | apply anda | apply notf));done)) | (exact hd) | (exact cc) | (intro t ht;by_cases h':t<q<;>simp [h',cvtL,cvt,lendP,tg,tru,idx,idx1,idO,idM,All];done) | (intro t ht;simp [All];done))
        | false =>
          rw [hb'] at cc
          have hr:=ih (c+1) q (by omega) (by omega) (fun q' hq'=>hnext q' (by rw [hq',fC,if_neg (by rw [hb'];exact Bool.false_ne_true)]))
          refine piece_ok mixed hc (flF g nb N pl np a b c q) ?_ hr
          repeat' (first | exact aN | apply aI)
          all_goals (first | exact aP _ _ | exact aA _ _ | omega | rfl | (intros;first | assumption | exact trivial | rfl | exact fT ‹_› | ((repeat' (first | assumption | apply anda | apply notf));done)) | (exact hd) | (exact cc) | (intro t ht;simp [All];done))
    have l1:∀ a,a<np→∀ d b q,b+d=np→q+6*d≤250→(∀ q',q'=fB pl np a d b q→Run Tryz.prog cx 136 zf59 (FL0 g nb N pl np (a+1) q') Q) →
        Run Tryz.prog cx 136 zf16 (FL1 g nb N pl np a b q) Q:=by
      intro a ha d
      induction d with
      | zero =>
        intro b q hbn hq hnext
        obtain rfl:b=np:=by omega
        have hd:decide ((b:Int)<(b:Int))=false:=decide_eq_false (by omega)
        refine piece_ok mixed hc (flY g nb N pl b a b q) ?_ (hnext q rfl)
        repeat' (first | exact aN | apply aI)
        all_goals (first | exact aP _ _ | exact aA _ _ | omega | rfl | (intros;first | assumption | exact trivial | rfl | exact fT ‹_› | ((repeat' (first | assumption | apply anda | apply notf));done)) | (exact hd) | (intro t ht;simp [All];done))
      | succ d ih =>
        intro b q hbn hq hnext
        have hd:decide ((b:Int)<(np:Int))=true:=decide_eq_true (by omega)
        have hle:=fC_le pl a b (np - (b+1)) (b+1) q
        have hr:=l2 a b ha (by omega) (np - (b+1)) (b+1) q (by omega) (by omega) (fun q' hq'=>ih (b+1) q' (by omega) (by rw [hq'];omega) (fun q2 hq2=>hnext q2 (by rw [hq2,hq',fB])))
        refine piece_ok mixed hc (flc g nb N pl np a b q) ?_ hr
        repeat' (first | exact aN | apply aI)
        all_goals (first | exact aP _ _ | exact aA _ _ | omega | rfl | (intros;first | assumption | exact trivial | rfl | exact fT ‹_› | ((repeat' (first | assumption | apply anda | apply notf));done)) | (exact hd) | (intro t ht;simp [All];done))
    have l0:∀ d a q,a+d=np→q+36*d≤250→fA pl np d a q=R→Run Tryz.prog cx 136 zf59 (FL0 g nb N pl np a q) Q:=by
      intro d
      induction d with
      | zero =>
        intro a q han hq hr
        obtain rfl:a=np:=by omega
        have hd:decide ((a:Int)<(a:Int))=false:=by simp
        rw [← hQ,← hr]
        refine path_ok mixed Tryz.func136 hc (flZ g nb N pl a a q) ?_
        repeat' (first | exact aN | apply aI)
        all_goals (first | exact aA _ _ | exact aE _ | omega | rfl | (intros;first | assumption | exact trivial | rfl | exact fT ‹_› | ((repeat' (first | assumption | apply anda | apply notf));done)) | (exact hd) | (intro t ht;simp [All];done))
      | succ d ih =>
        intro a q han hq hr
        have hd:decide ((a:Int)<(np:Int))=true:=by rw [decide_eq_true (show (a:Int)<(np:Int) by omega)]
        have hle:=fB_le pl np a (by omega) (np - (a+1)) (a+1) q
        have hr2:=l1 a (by omega) (np - (a+1)) (a+1) q (by omega) (by omega) (fun q' hq'=>ih (a+1) q' (by omega) (by rw [hq'];omega) (by rw [hq',← hr,fA]))
        refine piece_ok mixed hc (flb g nb N pl np a q) ?_ hr2
        repeat' (first | exact aN | apply aI)
        all_goals (first | exact aP _ _ | exact aA _ _ | omega | rfl | (intros;first | assumption | exact trivial | rfl | exact fT ‹_› | ((repeat' (first | assumption | apply anda | apply notf));done)) | (exact hd) | (intro t ht;simp [All];done))
    refine piece_ok mixed hc (fla g nb N pl np) ?_ (l0 np 0 0 (by omega) (by omega) hR)
    repeat' (first | exact aN | apply aI)
    all_goals (first | exact aP _ _ | omega | rfl | (intros;first | assumption | exact trivial | rfl | exact fT ‹_› | ((repeat' (first | assumption | apply anda | apply notf));done)) | (exact f1) | (intro t ht;exact absurd ht (Nat.not_lt_zero _)) | (intro t ht;simp [All];done) | (simp only [All];first | exact aP _ _ | omega | rfl | (intros;first | assumption | exact trivial | rfl | exact fT ‹_› | ((repeat' (first | assumption | apply anda | apply notf));done)) | (exact f1) | (intro t ht;exact absurd ht (Nat.not_lt_zero _)) | (intro t ht;simp [All];done)))
  · refine con_start Tryz.func126 rfl (by kernel_rfl) rfl (fun cx hc=>?_)
    generalize hQ:Post cx [(0,aOb R)] (.ar 1 0 0 R)=Q
    have l2:∀ a b,a<np→b<np→∀ d c q,c+d=np→q+d≤250→(∀ q',q'=fC pl a b d c q→Run Tryz.prog cx 126 zf19 (FM1 g nb N pl np a (b+1) q') Q) →
        Run Tryz.prog cx 126 zf6 (FM2 g nb N pl np a b c q) Q:=by
      intro a b ha hb d
      induction d with
      | zero =>
        intro c q hcn hq hnext
        obtain rfl:c=np:=by omega
        have hd:decide ((c:Int)<(c:Int))=false:=decide_eq_false (by omega)
        refine piece_ok mixed hc (glX g nb N pl c a b c q) ?_ (hnext q rfl)
        repeat' (first | exact aN | apply aI)
        all_goals (first | exact aP _ _ | exact aA _ _ | omega | rfl | (intros;first | assumption | exact trivial | rfl | exact fT ‹_› | ((repeat' (first | assumption | apply anda | apply notf));done)) | (exact hd) | (intro t ht;simp [All];done))
      | succ d ih =>
        intro c q hcn hq hnext
        have hd:decide ((c:Int)<(np:Int))=true:=decide_eq_true (by omega)
        have cc:=(hcl a b c ha hb (by omega)).2
        cases hb':clB (pl a) (pl b) (pl c) with
        | true =>
          rw [hb'] at cc
          have hr:=ih (c+1) (q+1) (by omega) (by omega) (fun q' hq'=>hnext q' (by rw [hq',fC,if_pos hb']))
          refine piece_ok mixed hc (gld g nb N pl np a b c q) ?_ hr
          repeat' (first | exact aN | apply aI)
          all_goals (first | exact aP _ _ | omega | rfl | (intros;first | assumption | exact trivial | rfl | exact fT ‹_› | ((repeat' (first | assumption | apply anda | apply notf));done)) | (exact hd) | (exact cc) | (intro t ht;by_cases h':t<q<;>simp [h',cvtL,cvt,lendP,tg,tru,idx,idx1,idO,idM,All];done) | (intro t ht;simp [All];done))
        | false =>
          rw [hb'] at cc
          have hr:=ih (c+1) q (by omega) (by omega) (fun q' hq'=>hnext q' (by rw [hq',fC,if_neg (by rw [hb'];exact Bool.false_ne_true)]))
          refine piece_ok mixed hc (glF g nb N pl np a b c q) ?_ hr
          repeat' (first | exact aN | apply aI)
          all_goals (first | exact aP _ _ | exact aA _ _ | omega | rfl | (intros;first | assumption | exact trivial | rfl | exact fT ‹_› | ((repeat' (first | assumption | apply anda | apply notf));done)) | (exact hd) | (exact cc) | (intro t ht;simp [All];done))
    have l1:∀ a,a<np→∀ d b q,b+d=np→q+6*d≤250→(∀ q',q'=fB pl np a d b q→Run Tryz.prog cx 126 zf77 (FM0 g nb N pl np (a+1) q') Q) →
        Run Tryz.prog cx 126 zf19 (FM1 g nb N pl np a b q) Q:=by
      intro a ha d
      induction d with
      | zero =>
        intro b q hbn hq hnext
        obtain rfl:b=np:=by omega
        have hd:decide ((b:Int)<(b:Int))=false:=decide_eq_false (by omega)
        refine piece_ok mixed hc (glY g nb N pl b a b q) ?_ (hnext q rfl)
        repeat' (first | exact aN | apply aI)
        all_goals (first | exact aP _ _ | exact aA _ _ | omega | rfl | (intros;first | assumption | exact trivial | rfl | exact fT ‹_› | ((repeat' (first | assumption | apply anda | apply notf));done)) | (exact hd) | (intro t ht;simp [All];done))
      | succ d ih =>
        intro b q hbn hq hnext
        have hd:decide ((b:Int)<(np:Int))=true:=decide_eq_true (by omega)
        have hle:=fC_le pl a b (np - (b+1)) (b+1) q
        have hr:=l2 a b ha (by omega) (np - (b+1)) (b+1) q (by omega) (by omega) (fun q' hq'=>ih (b+1) q' (by omega) (by rw [hq'];omega) (fun q2 hq2=>hnext q2 (by rw [hq2,hq',fB])))
        refine piece_ok mixed hc (glc g nb N pl np a b q) ?_ hr
        repeat' (first | exact aN | apply aI)
        all_goals (first | exact aP _ _ | exact aA _ _ | omega | rfl | (intros;first | assumption | exact trivial | rfl | exact fT ‹_› | ((repeat' (first | assumption | apply anda | apply notf));done)) | (exact hd) | (intro t ht;simp [All];done))
    have l0:∀ d a q,a+d=np→q+36*d≤250→fA pl np d a q=R→Run Tryz.prog cx 126 zf77 (FM0 g nb N pl np a q) Q:=by
      intro d
      induction d with
      | zero =>
        intro a q han hq hr
        obtain rfl:a=np:=by omega
        have hd:(bif decide ((a:Int)<(a:Int)) then true else false)=false:=by simp
        rw [← hQ,← hr]
        refine path_ok mixed Tryz.func126 hc (glZ g nb N pl a a q) ?_
        repeat' (first | exact aN | apply aI)
        all_goals (first | exact aG _ | exact aA _ _ | exact aE _ | omega | rfl | (intros;first | assumption | exact trivial | rfl | exact fT ‹_› | ((repeat' (first | assumption | apply anda | apply notf));done)) | (intro _;exact f2) | (exact hd) | (intro h;exact h) | (intro t ht;simp [All];done))
      | succ d ih =>
        intro a q han hq hr
        have hd:(bif decide ((a:Int)<(np:Int)) then true else false)=true:=by rw [decide_eq_true (show (a:Int)<(np:Int) by omega)];rfl
        have hle:=fB_le pl np a (by omega) (np - (a+1)) (a+1) q
        have hr2:=l1 a (by omega) (np - (a+1)) (a+1) q (by omega) (by omega) (fun q' hq'=>ih (a+1) q' (by omega) (by rw [hq'];omega) (by rw [hq',← hr,fA]))
        refine piece_ok mixed hc (glb g nb N pl np a q) ?_ hr2
        repeat' (first | exact aN | apply aI)
        all_goals (first | exact aG _ | exact aP _ _ | exact aA _ _ | omega | rfl | (intros;first | assumption | exact trivial | rfl | exact fT ‹_› | ((repeat' (first | assumption | apply anda | apply notf));done)) | (intro _;exact f2) | (exact hd) | (intro h;exact h) | (intro t ht;simp [All];done))
    refine piece_ok mixed hc (gla g nb N pl np) ?_ (l0 np 0 0 (by omega) (by omega) hR)
    repeat' (first | exact aN | apply aI)
    all_goals (first | exact aP _ _ | omega | rfl | (intros;first | assumption | exact trivial | rfl | exact fT ‹_› | ((repeat' (first | assumption | apply anda | apply notf));done)) | (intro t ht;exact absurd ht (Nat.not_lt_zero _)) | (intro t ht;simp [All];done) | (simp only [All];first | exact aP _ _ | omega | rfl | (intros;first | assumption | exact trivial | rfl | exact fT ‹_› | ((repeat' (first | assumption | apply anda | apply notf));done)) | (intro t ht;exact absurd ht (Nat.not_lt_zero _)) | (intro t ht;simp [All];done)))
end Go.Proofs.YtkkjoghiigiokaaGreat.Mach
namespace Go.Proofs.YtkkjoghiigiokaaGreat.Mach
open Go
set_option linter.unusedVariables false
set_option linter.unusedSimpArgs false
def wdRank:ByteArray:=⟨#[114,97,110,107]⟩
def wsRank:ByteArray:=⟨#[114,97,110,107,32]⟩
end Go.Proofs.YtkkjoghiigiokaaGreat.Mach
namespace Go.Proofs.YtkkjoghiigiokaaGreat.Mach
open Go
set_option linter.unusedVariables false
set_option linter.unusedSimpArgs false
def lsF (n:Nat) (ss:List ByteArray) (i:Nat):ByteArray:=ss.getD (rowIx n i) sE
def stA (s:ByteArray):AV:=.p (.str s)
theorem cell_ls:∀ (ss:List ByteArray) (n i:Nat),rowIx n i<ss.length→cellP true [(List.getD (ss.map stA) (rowIx n i*1) (.p .any))] 0=.str (lsF n ss i):=by
  intro ss n i h
  unfold lsF
  rw [Nat.mul_one]
  generalize rowIx n i=k at h ⊢
  rw [List.getD_eq_getElem?_getD,List.getD_eq_getElem?_getD,List.getElem?_map]
  rw [List.getElem?_eq_getElem h]
  rfl
def lsP (n:Nat) (ss:List ByteArray):AV:=.p (.seq true 1 n (fun i=>[cellP true [(List.getD (ss.map stA) (rowIx n i*1) (.p .any))] 0]))
theorem ls_mem (n:Nat) (ss:List ByteArray) (h:ss.length=n) (B:Nat) (hs:∀ s∈ss,s.size≤B):∀ i,i<n→(lsF n ss i).size≤B:=by
  intro i hi
  unfold lsF
  rw [rowIx_lt hi]
  have:ss.getD i sE=ss[i]:=by rw [List.getD_eq_getElem?_getD,List.getElem?_eq_getElem (by omega)];rfl
  rw [this]
  exact hs _ (List.getElem_mem _)
theorem con_line_ls (n:Nat) (ss:List ByteArray) (h:ss.length=n) (h3:n≤1000) (B:Nat) (hB:B≤1099511627776) (hs:∀ s∈ss,s.size≤B) :
    Con Tryz.prog 108 0 [] [lsP n ss] [] (.p (.str (joinB sSp (lsF n ss) n))):=by
  have hc:=con_line n (lsF n ss) B (by omega) hB (ls_mem n ss h B hs)
  refine hc.arg_ext ?_
  simp only [lsP,strL,wkL,wk,wkP,beq_self_eq_true,Bool.and_self,if_true,ikEq,List.append_nil,List.cons_append,List.nil_append,All]
  have hcell:∀ i,i<n→cellP true [(List.getD (ss.map stA) (rowIx n i*1) (.p .any))] 0=.str (lsF n ss i):=fun i hi=>cell_ls ss n i (by rw [rowIx_lt hi];omega)
  and_intros<;>first | trivial | omega | (intro i hi;rw [hcell i hi])
theorem con_ifSo_ls (s:ByteArray) (is:Bool) (n:Nat) (ss:List ByteArray) (h:ss.length=n) (h3:n≤1000) (B:Nat) (hB:B≤1099511627776) (hz:s.size≤B) (hs:∀ s∈ss,s.size≤B) :
    Con Tryz.prog 114 0 [] [.p (.str s),.p (.bool is),lsP n ss] [] (.p (.str (soB s is n (lsF n ss)))):=by
  have hc:=con_ifSo s is n (lsF n ss) B (by omega) hB hz (ls_mem n ss h B hs)
  refine hc.arg_ext ?_
  simp only [lsP,strL,wkL,wk,wkP,beq_self_eq_true,Bool.and_self,if_true,ikEq,List.append_nil,List.cons_append,List.nil_append,All]
  have hcell:∀ i,i<n→cellP true [(List.getD (ss.map stA) (rowIx n i*1) (.p .any))] 0=.str (lsF n ss i):=fun i hi=>cell_ls ss n i (by rw [rowIx_lt hi];omega)
  and_intros<;>first | trivial | omega | (intro i hi;rw [hcell i hi])
theorem soB_f (s:ByteArray) (n:Nat) (f:Nat→ByteArray):soB s false n f=s:=rfl
theorem soB_1 (s:ByteArray) (f:Nat→ByteArray):soB s true 1 f=(s++sSp)++f 0:=by
  show (if 0<1 then (sE++s)++sSp else _)++f 0=_
  rw [if_pos (by omega),sE_app]
theorem soB_2 (s:ByteArray) (f:Nat→ByteArray):soB s true 2 f=(((s++sSp)++f 0)++sSp)++f 1:=by
  show (if 0<2 then ((if 0<1 then (sE++s)++sSp else _)++f 0)++sSp else _)++f 1=_
  rw [if_pos (by omega),if_pos (by omega),sE_app]
theorem join_2 (by_:ByteArray) (f:Nat→ByteArray):joinB by_ f 2=(f 0++by_)++f 1:=by
  show (if 0<1 then (sE++f 0)++by_ else _)++f 1=_
  rw [if_pos (by omega),sE_app]
theorem join_3 (by_:ByteArray) (f:Nat→ByteArray):joinB by_ f 3=(((f 0++by_)++f 1)++by_)++f 2:=by
  show (if 0<2 then ((if 0<1 then (sE++f 0)++by_ else _)++f 1)++by_ else _)++f 2=_
  rw [if_pos (by omega),if_pos (by omega),sE_app]
theorem ws_rank:wsRank=wdRank++sSp:=rfl
theorem yes_size (b:Bool) (s:ByteArray):(yesB b s).size≤s.size:=by
  cases b with
  | false=>exact Nat.zero_le _
  | true=>exact Nat.le_refl _
end Go.Proofs.YtkkjoghiigiokaaGreat.Mach
namespace Go.Proofs.YtkkjoghiigiokaaGreat.Mach
open Go
set_option linter.unusedVariables false
set_option linter.unusedSimpArgs false
theorem join_s (by_:ByteArray) (f:Nat→ByteArray) (n:Nat):joinB by_ f (n+2)=(joinB by_ f (n+1)++by_)++f (n+1):=by
  show (if 0<n+1 then joinB by_ f (n+1)++by_ else _)++f (n+1)=_
  rw [if_pos (by omega)]
theorem so_yes (s:ByteArray) (b:Bool) (w:ByteArray):soB s b 1 (lsF 1 [w])=s++yesB b (sSp++w):=by
  cases b with
  | false=>rw [soB_f];exact (app_sE s).symm
  | true=>rw [soB_1];exact ByteArray.append_assoc
theorem con_ifSo_1 (s:ByteArray) (b:Bool) (w:ByteArray) (hs:s.size≤1000000) (hw:w.size≤1000) :
    Con Tryz.prog 114 0 [] [.p (.str s),.p (.bool b),lsP 1 [w]] [] (.p (.str (s++yesB b (sSp++w)))):=by
  rw [← so_yes]
  exact con_ifSo_ls s b 1 [w] rfl (by omega) 1000000 (by omega) hs (by
    intro x hx;simp only [List.mem_cons,List.not_mem_nil,or_false] at hx
    subst hx;omega)
theorem yes1_size (s:ByteArray) (b:Bool) (w:ByteArray):(s++yesB b (sSp++w)).size≤s.size+1+w.size:=by
  have:=yes_size b (sSp++w)
  rw [ByteArray.size_append] at this ⊢
  have:sSp.size=1:=rfl
  omega
theorem con_ifSo_2 (s:ByteArray) (b:Bool) (w x:ByteArray) (hs:s.size≤1000000) (hw:w.size≤1000) (hx:x.size≤1000000) :
    Con Tryz.prog 114 0 [] [.p (.str s),.p (.bool b),lsP 2 [w,x]] [] (.p (.str (if b=true then s++(((sSp++w)++sSp)++x) else s))):=by
  have h:=con_ifSo_ls s b 2 [w,x] rfl (by omega) 1000000 (by omega) hs (by
    intro y hy;simp only [List.mem_cons,List.not_mem_nil,or_false] at hy
    rcases hy with rfl | rfl<;>omega)
  cases b with
  | false=>rw [soB_f] at h;exact h
  | true =>
    rw [soB_2] at h
    rw [if_pos rfl]
    have e:(((s++sSp)++lsF 2 [w,x] 0)++sSp)++lsF 2 [w,x] 1=s++(((sSp++w)++sSp)++x):=by
      show (((s++sSp)++w)++sSp)++x=_
      simp only [ByteArray.append_assoc]
    rw [← e];exact h
theorem nlB_le (u:T_IntS):(nlB u).size≤u.1*22+4:=by
  unfold nlB
  split
  · show 4≤_;omega
  · have:=nmB_size u;omega
end Go.Proofs.YtkkjoghiigiokaaGreat.Mach
namespace Go.Proofs.YtkkjoghiigiokaaGreat.Mach
open Go
set_option linter.unusedVariables false
set_option linter.unusedSimpArgs false
def xdFree:ByteArray:=⟨#[102,114,101,101,100,111,109]⟩
def xdStr:ByteArray:=⟨#[115,116,114,101,115,115,101,115]⟩
def xdStiff:ByteArray:=⟨#[115,116,105,102,102]⟩
def xdSpec:ByteArray:=⟨#[115,112,101,99,105,97,108]⟩
def xdMot:ByteArray:=⟨#[109,111,116,105,111,110]⟩
def xdFlat:ByteArray:=⟨#[102,108,97,116]⟩
def xsFree:ByteArray:=⟨#[32,102,114,101,101,100,111,109,32]⟩
def xsStr:ByteArray:=⟨#[32,115,116,114,101,115,115,101,115,32]⟩
def xsStiff:ByteArray:=⟨#[32,115,116,105,102,102]⟩
def xsSpec:ByteArray:=⟨#[32,115,112,101,99,105,97,108]⟩
def xsMot:ByteArray:=⟨#[32,109,111,116,105,111,110,32]⟩
def xsFlat:ByteArray:=⟨#[32,102,108,97,116,32]⟩
def xE:ByteArray:=⟨#[]⟩
theorem wlN (g:Nat→T_Bar) (nb:Nat) (N:Int) (pl:Nat→T_Place) (np:Nat) :
    pathOb Tryz.prog Tryz.f31 0 [rg 2,rm [(1,oc [] (.p (.bool false)))] 1,.dec true,rg 1] [.code (bodyOf Tryz.f31)] (start Tryz.f31 [] 0 [frA g nb N pl np]) [] 1 [] (.p (.str xE)) =
    some [(NT 0 1),Con Tryz.prog 128 0 [] [(zf35 N nb g np pl)] [] (.p (.bool false)),((!false)=true),(ByteArray.mk #[]=xE)]:=by kernel_rfl
theorem wsN (g:Nat→T_Bar) (nb:Nat) (N:Int) (pl:Nat→T_Place) (np:Nat) :
    pathOb Tryz.prog Tryz.f29 0 [rg 2,rm [(1,oc [] (.p (.bool false)))] 1,.dec true,rg 1] [.code (bodyOf Tryz.f29)] (start Tryz.f29 [] 0 [frA g nb N pl np]) [] 1 [] (.p (.str xE)) =
    some [(NT 0 1),Con Tryz.prog 117 0 [] [(zf35 N nb g np pl)] [] (.p (.bool false)),((!false)=true),(ByteArray.mk #[]=xE)]:=by kernel_rfl
theorem wlR (g:Nat→T_Bar) (nb N:Nat) (pl:Nat→T_Place) (np:Nat) (r fd ct:Int) (b1 b2 b3:Bool) (m q:Nat) (v:Nat→Int) (fr ff fc s1 s2 s3 lv s4 fq s5:ByteArray) :
    pathOb Tryz.prog Tryz.f31 0 [rg 2,rm [(1,oc [] (.p (.bool true)))] 1,.dec false,rm [(1,oc [] (.p (.int .i64 r))),(0,oc [] (.p (.str fr))),(1,oc [] (.p (.int .i64 fd))),(0,oc [] (.p (.str ff))),(1,oc [] (.p (.int .i64 ct))),(0,oc [] (.p (.str fc))),(1,oc [] (.p (.str s1)))] 1,rm [(2,oc [] (.p (.bool b1))),(1,oc [] (.p (.str s2)))] 1,rm [(2,oc [] (.p (.bool b2))),(1,oc [] (.p (.str s3)))] 1,rm [(1,oc [(0,iOb m v)] (.tup [.ar 1 0 0 m,.p (.bool b3)]))] 5,rm [(3,oc [] (.p (.str lv))),(1,oc [] (.p (.str s4)))] 1,rm [(2,oc [(0,aOb q)] (.ar 1 0 0 q)),(1,oc [] (.p (.str fq))),(1,oc [] (.p (.str s5)))] 1] [.code (bodyOf Tryz.f31)] (start Tryz.f31 [] 0 [frA g nb N pl np]) [] 1 [] (.p (.str s5)) =
    some [(NT 0 1),Con Tryz.prog 128 0 [] [(zf31 N nb g np pl)] [] (.p (.bool true)),((!true)=false),(NT 0 1),Con Tryz.prog 130 0 [] [(zf31 N nb g np pl)] [] (.p (.int .i64 r)),Con Tryz.prog 129 0 [] [.p (.int .i64 r)] [] (.p (.str fr)),(NT 0 1),Con Tryz.prog 131 0 [] [(zf31 N nb g np pl)] [] (.p (.int .i64 fd)),Con Tryz.prog 129 0 [] [.p (.int .i64 fd)] [] (.p (.str ff)),(NT 0 1),Con Tryz.prog 132 0 [] [(zf31 N nb g np pl)] [] (.p (.int .i64 ct)),Con Tryz.prog 129 0 [] [.p (.int .i64 ct)] [] (.p (.str fc)),(AN 1),(NL 6 6),Con Tryz.prog 108 0 [] [.p (.seq true 1 6 (fun i=>[(cellP true [(List.getD ([.p (.str (ByteArray.mk #[114,97,110,107])),.p (.str fr),.p (.str (ByteArray.mk #[102,114,101,101,100,111,109])),.p (.str ff),.p (.str (ByteArray.mk #[115,116,114,101,115,115,101,115])),.p (.str fc)]:List AV) (rowIx 6 i*1) (.p .any))] 0)]))] [] (.p (.str s1)),(NT 0 1),Con Tryz.prog 133 0 [] [(zf31 N nb g np pl)] [] (.p (.bool b1)),(AN 1),(NL 1 1),Con Tryz.prog 114 0 [] [.p (.str s1),.p (.bool b1),.p (.seq true 1 1 (fun i=>[.str (ByteArray.mk #[115,116,105,102,102])]))] [] (.p (.str s2)),(NT 0 1),Con Tryz.prog 134 0 [] [(zf31 N nb g np pl)] [] (.p (.bool b2)),(AN 1),(NL 1 1),Con Tryz.prog 114 0 [] [.p (.str s2),.p (.bool b2),.p (.seq true 1 1 (fun i=>[.str (ByteArray.mk #[115,112,101,99,105,97,108])]))] [] (.p (.str s3)),(NT 0 1),Con Tryz.prog 135 0 [] [(zf31 N nb g np pl)] [(0,⟨false,1,m,(fun i=>[.p (.int .i64 (v i))])⟩)] (.tup [.ar 1 0 0 m,.p (.bool b3)]),(AN 1),(NL m m),Con Tryz.prog 111 0 [] [.p (.seq true 1 m (fun i=>[.int .i64 (v i)]))] [] (.p (.str lv)),(AN 1),(NL 2 2),Con Tryz.prog 114 0 [] [.p (.str s3),.p (.bool b3),.p (.seq true 1 2 (fun i=>[(cellP true [(List.getD ([.p (.str (ByteArray.mk #[109,111,116,105,111,110])),.p (.str lv)]:List AV) (rowIx 2 i*1) (.p .any))] 0)]))] [] (.p (.str s4)),(NT 0 1),Con Tryz.prog 136 0 [] [(zf31 N nb g np pl)] [(0,⟨false,1,q,(fun i=>[.p .any])⟩)] (.ar 1 0 0 q),Con Tryz.prog 129 0 [] [.p (.int .i64 (↑q:Int))] [] (.p (.str fq)),(AN 1),(NL 3 3),Con Tryz.prog 108 0 [] [.p (.seq true 1 3 (fun i=>[(cellP true [(List.getD ([.p (.str s4),.p (.str (ByteArray.mk #[102,108,97,116])),.p (.str fq)]:List AV) (rowIx 3 i*1) (.p .any))] 0)]))] [] (.p (.str s5)),(s5=s5)]:=by kernel_rfl
theorem wsT (g:Nat→T_Bar) (nb N:Nat) (pl:Nat→T_Place) (np:Nat) (r fd ct:Int) (b1 b2:Bool) (m q:Nat) (v:Nat→Int) (fr ff fc y1 y2 lv fq:ByteArray) :
    pathOb Tryz.prog Tryz.f29 0 [rg 2,rm [(1,oc [] (.p (.bool true)))] 1,.dec false,rm [(1,oc [] (.p (.int .i64 r))),(0,oc [] (.p (.str fr))),(3,oc [] (.p (.int .i64 fd))),(0,oc [] (.p (.str ff))),(3,oc [] (.p (.int .i64 ct))),(0,oc [] (.p (.str fc))),(2,oc [] (.p (.bool b1))),(0,oc [] (.p (.str y1))),(2,oc [] (.p (.bool b2))),(0,oc [] (.p (.str y2)))] 2,rm [(1,oc [(0,iOb m v)] (.tup [.ar 1 0 0 m,.p (.bool true)]))] 5,rg 1,.dec true,rm [(3,oc [] (.p (.str lv)))] 2,rm [(3,oc [(0,aOb q)] (.ar 1 0 0 q)),(1,oc [] (.p (.str fq)))] 2] [.code (bodyOf Tryz.f29)] (start Tryz.f29 [] 0 [frA g nb N pl np]) [] 1 [] (.p (.str (((((((((((wsRank++fr)++xsFree)++ff)++xsStr)++fc)++y1)++y2)++xsMot)++lv)++xsFlat)++fq))) =
    some [(NT 0 1),Con Tryz.prog 117 0 [] [(zf31 N nb g np pl)] [] (.p (.bool true)),((!true)=false),(NT 0 1),Con Tryz.prog 119 0 [] [(zf31 N nb g np pl)] [] (.p (.int .i64 r)),Con Tryz.prog 118 0 [] [.p (.int .i64 r)] [] (.p (.str fr)),(NL ((ByteArray.mk #[114,97,110,107,32]).size+fr.size) 9223372036854775807),(NL ((ByteArray.mk #[114,97,110,107,32]++fr).size+(ByteArray.mk #[32,102,114,101,101,100,111,109,32]).size) 9223372036854775807),(NT 0 1),Con Tryz.prog 120 0 [] [(zf31 N nb g np pl)] [] (.p (.int .i64 fd)),Con Tryz.prog 118 0 [] [.p (.int .i64 fd)] [] (.p (.str ff)),(NL ((ByteArray.mk #[114,97,110,107,32]++fr++ByteArray.mk #[32,102,114,101,101,100,111,109,32]).size+ff.size) 9223372036854775807),(NL ((ByteArray.mk #[114,97,110,107,32]++fr++ByteArray.mk #[32,102,114,101,101,100,111,109,32]++ff).size+(ByteArray.mk #[32,115,116,114,101,115,115,101,115,32]).size) 9223372036854775807),(NT 0 1),Con Tryz.prog 121 0 [] [(zf31 N nb g np pl)] [] (.p (.int .i64 ct)),Con Tryz.prog 118 0 [] [.p (.int .i64 ct)] [] (.p (.str fc)),(NL ((ByteArray.mk #[114,97,110,107,32]++fr++ByteArray.mk #[32,102,114,101,101,100,111,109,32]++ff++ByteArray.mk #[32,115,116,114,101,115,115,101,115,32]).size+fc.size) 9223372036854775807),(NT 0 1),Con Tryz.prog 123 0 [] [(zf31 N nb g np pl)] [] (.p (.bool b1)),Con Tryz.prog 122 0 [] [.p (.bool b1),.p (.str (ByteArray.mk #[32,115,116,105,102,102]))] [] (.p (.str y1)),(NL ((ByteArray.mk #[114,97,110,107,32]++fr++ByteArray.mk #[32,102,114,101,101,100,111,109,32]++ff++ByteArray.mk #[32,115,116,114,101,115,115,101,115,32]++fc).size+y1.size) 9223372036854775807),(NT 0 1),Con Tryz.prog 124 0 [] [(zf31 N nb g np pl)] [] (.p (.bool b2)),Con Tryz.prog 122 0 [] [.p (.bool b2),.p (.str (ByteArray.mk #[32,115,112,101,99,105,97,108]))] [] (.p (.str y2)),(NL ((ByteArray.mk #[114,97,110,107,32]++fr++ByteArray.mk #[32,102,114,101,101,100,111,109,32]++ff++ByteArray.mk #[32,115,116,114,101,115,115,101,115,32]++fc++y1).size+y2.size) 9223372036854775807),(NT 0 1),Con Tryz.prog 125 0 [] [(zf31 N nb g np pl)] [(0,⟨false,1,m,(fun i=>[.p (.int .i64 (v i))])⟩)] (.tup [.ar 1 0 0 m,.p (.bool true)]),(true=true),(NL ((ByteArray.mk #[114,97,110,107,32]++fr++ByteArray.mk #[32,102,114,101,101,100,111,109,32]++ff++ByteArray.mk #[32,115,116,114,101,115,115,101,115,32]++fc++y1++y2).size+(ByteArray.mk #[32,109,111,116,105,111,110,32]).size) 9223372036854775807),(AN 1),(NL m m),Con Tryz.prog 103 0 [] [.p (.seq true 1 m (fun i=>[.int .i64 (v i)]))] [] (.p (.str lv)),(NL ((ByteArray.mk #[114,97,110,107,32]++fr++ByteArray.mk #[32,102,114,101,101,100,111,109,32]++ff++ByteArray.mk #[32,115,116,114,101,115,115,101,115,32]++fc++y1++y2++ByteArray.mk #[32,109,111,116,105,111,110,32]).size+lv.size) 9223372036854775807),(NL ((ByteArray.mk #[114,97,110,107,32]++fr++ByteArray.mk #[32,102,114,101,101,100,111,109,32]++ff++ByteArray.mk #[32,115,116,114,101,115,115,101,115,32]++fc++y1++y2++ByteArray.mk #[32,109,111,116,105,111,110,32]++lv).size+(ByteArray.mk #[32,102,108,97,116,32]).size) 9223372036854775807),(NT 0 1),Con Tryz.prog 126 0 [] [(zf31 N nb g np pl)] [(0,⟨false,1,q,(fun i=>[.p .any])⟩)] (.ar 1 0 0 q),Con Tryz.prog 118 0 [] [.p (.int .i64 (↑q:Int))] [] (.p (.str fq)),(NL ((ByteArray.mk #[114,97,110,107,32]++fr++ByteArray.mk #[32,102,114,101,101,100,111,109,32]++ff++ByteArray.mk #[32,115,116,114,101,115,115,101,115,32]++fc++y1++y2++ByteArray.mk #[32,109,111,116,105,111,110,32]++lv++ByteArray.mk #[32,102,108,97,116,32]).size+fq.size) 9223372036854775807),(ByteArray.mk #[114,97,110,107,32]++fr++ByteArray.mk #[32,102,114,101,101,100,111,109,32]++ff++ByteArray.mk #[32,115,116,114,101,115,115,101,115,32]++fc++y1++y2++ByteArray.mk #[32,109,111,116,105,111,110,32]++lv++ByteArray.mk #[32,102,108,97,116,32]++fq=wsRank++fr++xsFree++ff++xsStr++fc++y1++y2++xsMot++lv++xsFlat++fq)]:=by kernel_rfl
theorem wsF (g:Nat→T_Bar) (nb N:Nat) (pl:Nat→T_Place) (np:Nat) (r fd ct:Int) (b1 b2:Bool) (m q:Nat) (v:Nat→Int) (fr ff fc y1 y2 fq:ByteArray) :
    pathOb Tryz.prog Tryz.f29 0 [rg 2,rm [(1,oc [] (.p (.bool true)))] 1,.dec false,rm [(1,oc [] (.p (.int .i64 r))),(0,oc [] (.p (.str fr))),(3,oc [] (.p (.int .i64 fd))),(0,oc [] (.p (.str ff))),(3,oc [] (.p (.int .i64 ct))),(0,oc [] (.p (.str fc))),(2,oc [] (.p (.bool b1))),(0,oc [] (.p (.str y1))),(2,oc [] (.p (.bool b2))),(0,oc [] (.p (.str y2)))] 2,rm [(1,oc [(0,iOb m v)] (.tup [.ar 1 0 0 m,.p (.bool false)]))] 5,rg 1,.dec false,rm [(3,oc [(0,aOb q)] (.ar 1 0 0 q)),(1,oc [] (.p (.str fq)))] 2] [.code (bodyOf Tryz.f29)] (start Tryz.f29 [] 0 [frA g nb N pl np]) [] 1 [] (.p (.str (((((((((wsRank++fr)++xsFree)++ff)++xsStr)++fc)++y1)++y2)++xsFlat)++fq))) =
    some [(NT 0 1),Con Tryz.prog 117 0 [] [(zf31 N nb g np pl)] [] (.p (.bool true)),((!true)=false),(NT 0 1),Con Tryz.prog 119 0 [] [(zf31 N nb g np pl)] [] (.p (.int .i64 r)),Con Tryz.prog 118 0 [] [.p (.int .i64 r)] [] (.p (.str fr)),(NL ((ByteArray.mk #[114,97,110,107,32]).size+fr.size) 9223372036854775807),(NL ((ByteArray.mk #[114,97,110,107,32]++fr).size+(ByteArray.mk #[32,102,114,101,101,100,111,109,32]).size) 9223372036854775807),(NT 0 1),Con Tryz.prog 120 0 [] [(zf31 N nb g np pl)] [] (.p (.int .i64 fd)),Con Tryz.prog 118 0 [] [.p (.int .i64 fd)] [] (.p (.str ff)),(NL ((ByteArray.mk #[114,97,110,107,32]++fr++ByteArray.mk #[32,102,114,101,101,100,111,109,32]).size+ff.size) 9223372036854775807),(NL ((ByteArray.mk #[114,97,110,107,32]++fr++ByteArray.mk #[32,102,114,101,101,100,111,109,32]++ff).size+(ByteArray.mk #[32,115,116,114,101,115,115,101,115,32]).size) 9223372036854775807),(NT 0 1),Con Tryz.prog 121 0 [] [(zf31 N nb g np pl)] [] (.p (.int .i64 ct)),Con Tryz.prog 118 0 [] [.p (.int .i64 ct)] [] (.p (.str fc)),(NL ((ByteArray.mk #[114,97,110,107,32]++fr++ByteArray.mk #[32,102,114,101,101,100,111,109,32]++ff++ByteArray.mk #[32,115,116,114,101,115,115,101,115,32]).size+fc.size) 9223372036854775807),(NT 0 1),Con Tryz.prog 123 0 [] [(zf31 N nb g np pl)] [] (.p (.bool b1)),Con Tryz.prog 122 0 [] [.p (.bool b1),.p (.str (ByteArray.mk #[32,115,116,105,102,102]))] [] (.p (.str y1)),(NL ((ByteArray.mk #[114,97,110,107,32]++fr++ByteArray.mk #[32,102,114,101,101,100,111,109,32]++ff++ByteArray.mk #[32,115,116,114,101,115,115,101,115,32]++fc).size+y1.size) 9223372036854775807),(NT 0 1),Con Tryz.prog 124 0 [] [(zf31 N nb g np pl)] [] (.p (.bool b2)),Con Tryz.prog 122 0 [] [.p (.bool b2),.p (.str (ByteArray.mk #[32,115,112,101,99,105,97,108]))] [] (.p (.str y2)),(NL ((ByteArray.mk #[114,97,110,107,32]++fr++ByteArray.mk #[32,102,114,101,101,100,111,109,32]++ff++ByteArray.mk #[32,115,116,114,101,115,115,101,115,32]++fc++y1).size+y2.size) 9223372036854775807),(NT 0 1),Con Tryz.prog 125 0 [] [(zf31 N nb g np pl)] [(0,⟨false,1,m,(fun i=>[.p (.int .i64 (v i))])⟩)] (.tup [.ar 1 0 0 m,.p (.bool false)]),(false=false),(NL ((ByteArray.mk #[114,97,110,107,32]++fr++ByteArray.mk #[32,102,114,101,101,100,111,109,32]++ff++ByteArray.mk #[32,115,116,114,101,115,115,101,115,32]++fc++y1++y2).size+(ByteArray.mk #[32,102,108,97,116,32]).size) 9223372036854775807),(NT 0 1),Con Tryz.prog 126 0 [] [(zf31 N nb g np pl)] [(0,⟨false,1,q,(fun i=>[.p .any])⟩)] (.ar 1 0 0 q),Con Tryz.prog 118 0 [] [.p (.int .i64 (↑q:Int))] [] (.p (.str fq)),(NL ((ByteArray.mk #[114,97,110,107,32]++fr++ByteArray.mk #[32,102,114,101,101,100,111,109,32]++ff++ByteArray.mk #[32,115,116,114,101,115,115,101,115,32]++fc++y1++y2++ByteArray.mk #[32,102,108,97,116,32]).size+fq.size) 9223372036854775807),(ByteArray.mk #[114,97,110,107,32]++fr++ByteArray.mk #[32,102,114,101,101,100,111,109,32]++ff++ByteArray.mk #[32,115,116,114,101,115,115,101,115,32]++fc++y1++y2++ByteArray.mk #[32,102,108,97,116,32]++fq=wsRank++fr++xsFree++ff++xsStr++fc++y1++y2++xsFlat++fq)]:=by kernel_rfl
theorem moF_in {g:Nat→T_Bar} {nb N:Nat} {pl:Nat→T_Place} {np:Nat} (hf:fwB g nb N pl np=true) {j:Nat} (hj:j<(moF g nb N pl).1) {k:Nat} (hk:k<2*N) :
    -(2 ^ 62)≤(moF g nb N pl).2 j k∧(moF g nb N pl).2 j k≤2 ^ 62:=by
  obtain ⟨h1,h2,h3,h4,hok,hb⟩:=fw_ok hf
  have ok:=hb.red (2*N) (Nat.le_refl _)
  obtain ⟨c,hc,_,e⟩:=Had.nsl_mem (P:=Had.nulP (Had.rrun nb (Had.rini (rgM g pl)) (2*N))) (vec:=Had.nulV (2*N) (Had.rrun nb (Had.rini (rgM g pl)) (2*N))) (2*N) j hj
  have e:(moF g nb N pl).2 j=_:=e
  rw [e]
  refine Had.sq_le (by decide) (Int.le_trans (Had.prm_sq hk) ?_)
  exact nvk_sq (by decide) Had.big64 ok hc (2*N) k
theorem fmF_in {g:Nat→T_Bar} {nb N:Nat} {pl:Nat→T_Place} {np:Nat} (hf:fwB g nb N pl np=true):(fmF g nb N pl np).1.1≤12∧∀ k,k<(fmF g nb N pl np).1.1→-(2 ^ 62)≤(fmF g nb N pl np).1.2 k∧(fmF g nb N pl np).1.2 k≤2 ^ 62:=by
  have hN:=(fw_ok hf).2.1
  have hm:=fun j (hj:j<(moF g nb N pl).1) k (hk:k<2*N)=>moF_in hf hj hk
  unfold fmF
  generalize (moF g nb N pl).1=q at *
  generalize (moF g nb N pl).2=W at *
  have key:∀ d i,i+d=q→(fmL g nb N pl np W d i).1.1≤12∧∀ k,k<(fmL g nb N pl np W d i).1.1→-(2 ^ 62)≤(fmL g nb N pl np W d i).1.2 k∧(fmL g nb N pl np W d i).1.2 k≤2 ^ 62:=by
    intro d
    induction d with
    | zero=>intro i _;exact ⟨Nat.zero_le _,fun k hk=>absurd hk (Nat.not_lt_zero _)⟩
    | succ d ih =>
      intro i hi
      rw [fmL]
      split
      · exact ih (i+1) (by omega)
      · exact ⟨by show 2*N≤12;omega,fun k hk=>hm i (by omega) k hk⟩
  exact key q 0 (by omega)
noncomputable def wLn (g:Nat→T_Bar) (nb N:Nat) (pl:Nat→T_Place) (np:Nat):ByteArray :=
  let s:=((((((wsRank++fmtI (frK g nb N pl np))++xsFree)++fmtI (ffF g nb N pl np))++xsStr)++fmtI (ctF g nb N pl np))++yesB (ffF g nb N pl np==0) xsStiff)++yesB (decide (lrF g nb N pl np>0)) xsSpec
  ((if (fmF g nb N pl np).2=true then (s++xsMot)++nlB (fmF g nb N pl np).1 else s)++xsFlat)++fmtI ((fA pl np np 0 0:Nat):Int)
noncomputable def flF' (g:Nat→T_Bar) (nb:Nat) (N:Int) (pl:Nat→T_Place) (np:Nat):ByteArray:=if fwB g nb N pl np=true then wLn g nb N.toNat pl np else xE
theorem con_FwLine_i (g:Nat→T_Bar) (nb:Nat) (N:Int) (pl:Nat→T_Place) (np:Nat) (hn:nb≤1048576∧np≤1048576) :
    Con Tryz.prog 31 0 [] [frA g nb N pl np] [] (.p (.str (flF' g nb N pl np))):=by
  have cf:=con_IsFramework_i g nb N pl np hn
  unfold flF'
  cases hf:fwB g nb N pl np with
  | false =>
    rw [hf] at cf
    rw [if_neg Bool.false_ne_true]
    refine con_start Tryz.func31 rfl (by kernel_rfl) rfl (fun c hc=>?_)
    refine path_ok mixed Tryz.func31 hc (wlN g nb N pl np) ?_
    repeat' (first | exact aN | apply aI)
    all_goals (first | omega | rfl | (intros;first | assumption | exact trivial | rfl | exact fT ‹_› | ((repeat' (first | assumption | apply anda | apply notf));done)) | (exact cf) | rfl)
  | true =>
    rw [hf] at cf
    rw [if_pos rfl]
    obtain ⟨n,rfl⟩:=fw_N hf
    obtain ⟨h1,h2,h3,h4,hok,hb⟩:=fw_ok hf
    show Con _ _ _ _ _ _ (.p (.str (wLn g nb n pl np)))
    have c1:=con_FrRank_i g nb n pl np hn
    have c2:=con_Freedom_i g nb n pl np hn
    have c3:=(con_Stresses g nb n pl np hn).1
    have c4:=(con_IsStiff g nb n pl np hn).1
    have c5:=(con_Special g nb n pl np hn).1
    have c6:=(con_FindMotion hf).1
    have c7:=(con_FlatSets hf).1
    have k1:=frK_b g nb n pl np
    have k2:-20≤ffF g nb n pl np∧ffF g nb n pl np≤20:=by
      unfold ffF tvF;rw [if_pos hf];split<;>omega
    have k3:-20≤ctF g nb n pl np∧ctF g nb n pl np≤20:=by
      unfold ctF;rw [if_pos hf];omega
    have k7:=fA_le pl np (by omega) np 0 0
    obtain ⟨k4,k5⟩:=fmF_in hf
    have hf1:=con_FormatInt_i (frK g nb n pl np) (by omega) (by omega)
    have hf2:=con_FormatInt_i (ffF g nb n pl np) (by omega) (by omega)
    have hf3:=con_FormatInt_i (ctF g nb n pl np) (by omega) (by omega)
    have hf4:=con_FormatInt_i ((fA pl np np 0 0:Nat):Int) (by omega) (by omega)
    have hs1:=fmt_size (frK g nb n pl np)
    have hs2:=fmt_size (ffF g nb n pl np)
    have hs3:=fmt_size (ctF g nb n pl np)
    have hs4:=fmt_size ((fA pl np np 0 0:Nat):Int)
    have hli:=con_listed (fmF g nb n pl np).1 (by omega) (fun i hi=>by have:=k5 i hi;omega)
    have hls:=nlB_le (fmF g nb n pl np).1
    unfold wLn
    generalize frK g nb n pl np=r at *
    generalize ffF g nb n pl np=fd at *
    generalize ctF g nb n pl np=ct at *
    generalize decide (lrF g nb n pl np>0)=b2 at *
    generalize fmF g nb n pl np=V at *
    generalize fA pl np np 0 0=q at *
    generalize fmtI r=fr at *
    generalize fmtI fd=ff at *
    generalize fmtI ct=fc at *
    generalize fmtI (q:Int)=fq at *
    generalize nlB V.1=lv at *
    generalize (fd==0)=b1 at *
    have hl1:=con_line_ls 6 [wdRank,fr,xdFree,ff,xdStr,fc] rfl (by omega) 1000000 (by omega) (by
      intro s hs;simp only [List.mem_cons,List.not_mem_nil,or_false] at hs
      rcases hs with rfl | rfl | rfl | rfl | rfl | rfl
      · show 4≤_;omega
      · omega
      · show 7≤_;omega
      · omega
      · show 8≤_;omega
      · omega)
    have e1:joinB sSp (lsF 6 [wdRank,fr,xdFree,ff,xdStr,fc]) 6=((((wsRank++fr)++xsFree)++ff)++xsStr)++fc:=by
      rw [join_s,join_s,join_s,join_s,join_2]
      show ((((((((((wdRank++sSp)++fr)++sSp)++xdFree)++sSp)++ff)++sSp)++xdStr)++sSp)++fc)=_
      rw [ws_rank,show xsFree=(sSp++xdFree)++sSp from rfl,show xsStr=(sSp++xdStr)++sSp from rfl]
      simp only [ByteArray.append_assoc]
    rw [e1] at hl1
    have z1:(((((wsRank++fr)++xsFree)++ff)++xsStr)++fc).size≤200:=by
      simp only [ByteArray.size_append]
      show 5+fr.size+9+ff.size+10+fc.size≤_;omega
    generalize ((((wsRank++fr)++xsFree)++ff)++xsStr)++fc=s1 at *
    have hl2:=con_ifSo_1 s1 b1 xdStiff (by omega) (by show 5≤_;omega)
    have z2:=yes1_size s1 b1 xdStiff
    rw [show xdStiff.size=5 from rfl] at z2
    rw [show xsStiff=sSp++xdStiff from rfl]
    generalize s1++yesB b1 (sSp++xdStiff)=s2 at *
    have hl3:=con_ifSo_1 s2 b2 xdSpec (by omega) (by show 7≤_;omega)
    have z3:=yes1_size s2 b2 xdSpec
    rw [show xdSpec.size=7 from rfl] at z3
    rw [show xsSpec=sSp++xdSpec from rfl]
    generalize s2++yesB b2 (sSp++xdSpec)=s3 at *
    have hl4:=con_ifSo_2 s3 V.2 xdMot lv (by omega) (by show 6≤_;omega) (by omega)
    have e4:s3++(((sSp++xdMot)++sSp)++lv)=(s3++xsMot)++lv:=by
      rw [show xsMot=(sSp++xdMot)++sSp from rfl];simp only [ByteArray.append_assoc]
    rw [e4] at hl4
    have z4:(if V.2=true then (s3++xsMot)++lv else s3).size≤2000:=by
      split
      · simp only [ByteArray.size_append];show s3.size+8+lv.size≤_;omega
      · omega
    show Con _ _ _ _ _ _ (.p (.str (((if V.2=true then (s3++xsMot)++lv else s3)++xsFlat)++fq)))
    generalize (if V.2=true then (s3++xsMot)++lv else s3)=s4 at *
    have hl5:=con_line_ls 3 [s4,xdFlat,fq] rfl (by omega) 1000000 (by omega) (by
      intro s hs;simp only [List.mem_cons,List.not_mem_nil,or_false] at hs
      rcases hs with rfl | rfl | rfl
      · omega
      · show 4≤_;omega
      · omega)
    have e5:joinB sSp (lsF 3 [s4,xdFlat,fq]) 3=(s4++xsFlat)++fq:=by
      rw [join_3]
      show (((s4++sSp)++xdFlat)++sSp)++fq=_
      rw [show xsFlat=(sSp++xdFlat)++sSp from rfl]
      simp only [ByteArray.append_assoc]
    rw [e5] at hl5
    generalize (s4++xsFlat)++fq=s5 at *
    refine con_start Tryz.func31 rfl (by kernel_rfl) rfl (fun c hc=>?_)
    refine path_ok mixed Tryz.func31 hc (wlR g nb n pl np r fd ct b1 b2 V.2 V.1.1 q V.1.2 fr ff fc s1 s2 s3 lv s4 fq s5) ?_
    repeat' (first | exact aN | apply aI)
    all_goals (first | omega | rfl | (intros;first | assumption | exact trivial | rfl | exact fT ‹_› | ((repeat' (first | assumption | apply anda | apply notf));done)) | (exact cf) | (exact c1) | (exact c2) | (exact c3) | (exact c4) | (exact c5) | (exact c6) | (exact c7) | (exact hf1) | (exact hf2) | (exact hf3) | (exact hf4) | (exact hl1) | (exact hl2) | (exact hl3) | (exact hli) | (exact hl4) | (exact hl5) | (intro i hi;simp [All];done) | (simp;done))
theorem con_FwLine_s (g:Nat→T_Bar) (nb:Nat) (N:Int) (pl:Nat→T_Place) (np:Nat) (hn:nb≤1048576∧np≤1048576) :
    Con Tryz.prog 29 0 [] [frA g nb N pl np] [] (.p (.str (flF' g nb N pl np))):=by
  have cf:=con_IsFramework_s g nb N pl np hn
  unfold flF'
  cases hf:fwB g nb N pl np with
  | false =>
    rw [hf] at cf
    rw [if_neg Bool.false_ne_true]
    refine con_start Tryz.func29 rfl (by kernel_rfl) rfl (fun c hc=>?_)
    refine path_ok mixed Tryz.func29 hc (wsN g nb N pl np) ?_
    repeat' (first | exact aN | apply aI)
    all_goals (first | omega | rfl | (intros;first | assumption | exact trivial | rfl | exact fT ‹_› | ((repeat' (first | assumption | apply anda | apply notf));done)) | (exact cf) | rfl)
  | true =>
    rw [hf] at cf
    rw [if_pos rfl]
    obtain ⟨n,rfl⟩:=fw_N hf
    obtain ⟨h1,h2,h3,h4,hok,hb⟩:=fw_ok hf
    show Con _ _ _ _ _ _ (.p (.str (wLn g nb n pl np)))
    have c1:=con_FrRank_s g nb n pl np hn
    have c2:=con_Freedom_s g nb n pl np hn
    have c3:=(con_Stresses g nb n pl np hn).2
    have c4:=(con_IsStiff g nb n pl np hn).2
    have c5:=(con_Special g nb n pl np hn).2
    have c6:=(con_FindMotion hf).2
    have c7:=(con_FlatSets hf).2
    have k1:=frK_b g nb n pl np
    have k2:-20≤ffF g nb n pl np∧ffF g nb n pl np≤20:=by
      unfold ffF tvF;rw [if_pos hf];split<;>omega
    have k3:-20≤ctF g nb n pl np∧ctF g nb n pl np≤20:=by
      unfold ctF;rw [if_pos hf];omega
    have k7:=fA_le pl np (by omega) np 0 0
    obtain ⟨k4,k5⟩:=fmF_in hf
    have hf1:=con_FormatInt_s (frK g nb n pl np) (by omega) (by omega)
    have hf2:=con_FormatInt_s (ffF g nb n pl np) (by omega) (by omega)
    have hf3:=con_FormatInt_s (ctF g nb n pl np) (by omega) (by omega)
    have hf4:=con_FormatInt_s ((fA pl np np 0 0:Nat):Int) (by omega) (by omega)
    have hs1:=fmt_size (frK g nb n pl np)
    have hs2:=fmt_size (ffF g nb n pl np)
    have hs3:=fmt_size (ctF g nb n pl np)
    have hs4:=fmt_size ((fA pl np np 0 0:Nat):Int)
    have hli:=con_l33Numbers (fmF g nb n pl np).1 (by omega) (fun i hi=>by have:=k5 i hi;omega)
    have hls:=nlB_le (fmF g nb n pl np).1
    have hy1:=con_l34Yes (ffF g nb n pl np==0) xsStiff
    have hy2:=con_l34Yes (decide (lrF g nb n pl np>0)) xsSpec
    have g1:=yes_size (ffF g nb n pl np==0) xsStiff
    have g2:=yes_size (decide (lrF g nb n pl np>0)) xsSpec
    rw [show xsStiff.size=6 from rfl] at g1
    rw [show xsSpec.size=8 from rfl] at g2
    unfold wLn
    generalize frK g nb n pl np=r at *
    generalize ffF g nb n pl np=fd at *
    generalize ctF g nb n pl np=ct at *
    generalize decide (lrF g nb n pl np>0)=b2 at *
    generalize fmF g nb n pl np=V at *
    generalize fA pl np np 0 0=q at *
    generalize fmtI r=fr at *
    generalize fmtI fd=ff at *
    generalize fmtI ct=fc at *
    generalize fmtI (q:Int)=fq at *
    generalize nlB V.1=lv at *
    generalize (fd==0)=b1 at *
    generalize yesB b1 xsStiff=y1 at *
    generalize yesB b2 xsSpec=y2 at *
    have w1:(ByteArray.mk #[114,97,110,107,32]).size=5:=rfl
    have w2:(ByteArray.mk #[32,102,114,101,101,100,111,109,32]).size=9:=rfl
    have w3:(ByteArray.mk #[32,115,116,114,101,115,115,101,115,32]).size=10:=rfl
    have w4:(ByteArray.mk #[32,109,111,116,105,111,110,32]).size=8:=rfl
    have w5:(ByteArray.mk #[32,102,108,97,116,32]).size=6:=rfl
    cases hV:V.2 with
    | true =>
      rw [hV] at c6
      refine con_start Tryz.func29 rfl (by kernel_rfl) rfl (fun c hc=>?_)
      refine path_ok mixed Tryz.func29 hc (wsT g nb n pl np r fd ct b1 b2 V.1.1 q V.1.2 fr ff fc y1 y2 lv fq) ?_
      repeat' (first | exact aN | apply aI)
      all_goals (first | omega | rfl | (intros;first | assumption | exact trivial | rfl | exact fT ‹_› | ((repeat' (first | assumption | apply anda | apply notf));done)) | (exact cf) | (exact c1) | (exact c2) | (exact c3) | (exact c4) | (exact c5) | (exact c6) | (exact c7) | (exact hf1) | (exact hf2) | (exact hf3) | (exact hf4) | (exact hy1) | (exact hy2) | (exact hli) | (intro i hi;simp [All];done) | (simp only [ByteArray.size_append,w1,w2,w3,w4,w5];omega) | (simp;done))
    | false =>
      rw [hV] at c6
      refine con_start Tryz.func29 rfl (by kernel_rfl) rfl (fun c hc=>?_)
      refine path_ok mixed Tryz.func29 hc (wsF g nb n pl np r fd ct b1 b2 V.1.1 q V.1.2 fr ff fc y1 y2 fq) ?_
      repeat' (first | exact aN | apply aI)
      all_goals (first | omega | rfl | (intros;first | assumption | exact trivial | rfl | exact fT ‹_› | ((repeat' (first | assumption | apply anda | apply notf));done)) | (exact cf) | (exact c1) | (exact c2) | (exact c3) | (exact c4) | (exact c5) | (exact c6) | (exact c7) | (exact hf1) | (exact hf2) | (exact hf3) | (exact hf4) | (exact hy1) | (exact hy2) | (intro i hi;simp [All];done) | (simp only [ByteArray.size_append,w1,w2,w3,w4,w5];omega) | (simp;done))
end Go.Proofs.YtkkjoghiigiokaaGreat.Mach
namespace Go.Proofs.YtkkjoghiigiokaaGreat.Mach
open Go
set_option linter.unusedVariables false
set_option linter.unusedSimpArgs false
theorem p_FnExactFrameworkLine_0 (v0:T_Framework) :
    pathOb Tryz.prog Tryz.f6 0 [rg 2,rg 1,rm [(2,oc [] (.p (.int .i64 (f_szFramework v0 1048576))))] 1,rg 2,.dec true,rg 1] [.code (bodyOf Tryz.f6)] (start Tryz.f6 [] 0 [(zf23 v0)]) [] 1 [] (.p (.bool true)) =
    some [(NT 0 1),Con Tryz.prog 28 0 [] [(zf23 v0),.p (.int .i64 1048576)] [] (.p (.int .i64 (f_szFramework v0 1048576))),((decide (f_szFramework v0 1048576<0))=true),(true=true)]:=by kernel_rfl
theorem p_FnExactFrameworkLine_e (v0:T_Framework) :
    pathOb Tryz.prog Tryz.f6 0 [rg 2,rg 1,rm [(2,oc [] (.p (.int .i64 (f_szFramework v0 1048576))))] 1,rg 2,.dec false,rm [(1,oc (zf25 v0) (zf103 v0)),(0,oc [] (.p (.str (flF' v0.1.2.1.2 v0.1.2.1.1 v0.1.1 v0.2.1.2 v0.2.1.1))))] 1,rm [(1,oc (zf25 v0) (zf103 v0))] 2,rm [(1,oc [] (.p (.str (flF' v0.1.2.1.2 v0.1.2.1.1 v0.1.1 v0.2.1.2 v0.2.1.1))))] 1,rg 3,.dec false,rm [(2,oc (zf25 v0) (zf103 v0)),(0,oc [] (.p (.bool true)))] 1,.dec false,rg 1] [.code (bodyOf Tryz.f6)] (start Tryz.f6 [] 0 [(zf23 v0)]) [] 1 [] (.p (.bool true)) =
    some [(NT 0 1),Con Tryz.prog 28 0 [] [(zf23 v0),.p (.int .i64 1048576)] [] (.p (.int .i64 (f_szFramework v0 1048576))),((decide (f_szFramework v0 1048576<0))=false),(NT 0 1),Con Tryz.prog 30 0 [] [(zf23 v0)] (zf24 v0) ((zf103 v0)),(AN 2),(NL v0.1.2.1.1 v0.1.2.1.1),(AN 2),(NL v0.2.1.1 v0.2.1.1),Con Tryz.prog 29 0 [] [(zf23 v0)] [] (.p (.str (flF' v0.1.2.1.2 v0.1.2.1.1 v0.1.1 v0.2.1.2 v0.2.1.1))),(NT 0 1),Con Tryz.prog 30 0 [] [(zf23 v0)] (zf24 v0) ((zf103 v0)),(NT 0 1),((true=true)→ (AN 1)),(NT 0 1),(AN 2),(NL v0.1.2.1.1 v0.1.2.1.1),(AN 2),(NL v0.2.1.1 v0.2.1.1),Con Tryz.prog 31 0 [] [(zf23 v0)] [] (.p (.str (flF' v0.1.2.1.2 v0.1.2.1.1 v0.1.1 v0.2.1.2 v0.2.1.1))),((!(flF' v0.1.2.1.2 v0.1.2.1.1 v0.1.1 v0.2.1.2 v0.2.1.1).toList==(flF' v0.1.2.1.2 v0.1.2.1.1 v0.1.1 v0.2.1.2 v0.2.1.1).toList)=false),(NT 0 1),(NT 0 1),Con Tryz.prog 30 0 [] [(zf23 v0)] (zf24 v0) ((zf103 v0)),(AN 2),(NL v0.1.2.1.1 v0.1.2.1.1),(AN 2),(NL v0.2.1.1 v0.2.1.1),(AN 2),(NL v0.1.2.1.1 v0.1.2.1.1),(AN 2),(NL v0.2.1.1 v0.2.1.1),Con Tryz.prog 32 0 [] [(zf23 v0),(zf23 v0)] [] (.p (.bool true)),((!true)=false),(true=true)]:=by kernel_rfl
theorem con_law_FnExactFrameworkLine (v0:T_Framework) (k0:okS s_Framework v0):Con Tryz.prog 6 0 [] [(zf23 v0)] [] (.p (.bool true)):=by
  refine con_start Tryz.func6 rfl (by kernel_rfl) rfl (fun c hc=>?_)
  have l0:=le_szFramework v0 1048576 (by omega)
  by_cases g0:(f_szFramework v0 1048576)<0
  · refine path_ok mixed Tryz.func6 hc (p_FnExactFrameworkLine_0 v0) ?_
    repeat' (first | exact aN | apply aI)
    all_goals (first | omega | rfl | (intros;first | assumption | exact trivial | rfl | exact fT ‹_› | ((repeat' (first | assumption | apply anda | apply notf));done)) | (exact con_szFramework v0 k0 _ (by omega) (by omega)) | (simp;omega))
  have hs0:=sm_szFramework v0 1048576 (by omega) (by omega) g0
  refine path_ok mixed Tryz.func6 hc (p_FnExactFrameworkLine_e v0) ?_
  repeat' (first | exact aN | apply aI)
  all_goals (first | omega | rfl | (intros;first | assumption | exact trivial | rfl | exact fT ‹_› | ((repeat' (first | assumption | apply anda | apply notf));done)) | (exact con_szFramework v0 k0 _ (by omega) (by omega)) | (exact con_toFramework v0 hs0) | (exact con_FwLine_s v0.1.2.1.2 v0.1.2.1.1 v0.1.1 v0.2.1.2 v0.2.1.1 ⟨hs0.1.2.1.1,hs0.2.1.1⟩) | (exact con_FwLine_i v0.1.2.1.2 v0.1.2.1.1 v0.1.1 v0.2.1.2 v0.2.1.1 ⟨hs0.1.2.1.1,hs0.2.1.1⟩) | (exact con_eqFramework v0 hs0) | (simp;try omega))
end Go.Proofs.YtkkjoghiigiokaaGreat.Mach
