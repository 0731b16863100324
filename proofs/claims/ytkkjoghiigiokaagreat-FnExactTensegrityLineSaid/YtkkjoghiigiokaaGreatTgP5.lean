/- What the law Tg needs, part 5 of 6: the abstract machine and the contracts of the functions. Conditions: as each theorem says. -/
import Derived.Test.YtkkjoghiigiokaaGreatTgP4
namespace Go.Proofs.YtkkjoghiigiokaaGreat.Mach
open Go
set_option linter.unusedVariables false
set_option linter.unusedSimpArgs false
def fcX (g:Nat→T_Bar) (pl:Nat→T_Place) (w:T_IntS) (v:Nat):Nat→Int
  | 0=>0
  | k+1=>if hasB (g k) v=true then fcX g pl w v k+w.2 k*((pl v).1 - (pl (if (g k).1=v then (g k).2.1.toNat else (g k).1.toNat)).1) else fcX g pl w v k
def fcY (g:Nat→T_Bar) (pl:Nat→T_Place) (w:T_IntS) (v:Nat):Nat→Int
  | 0=>0
  | k+1=>if hasB (g k) v=true then fcY g pl w v k+w.2 k*((pl v).2.1 - (pl (if (g k).1=v then (g k).2.1.toNat else (g k).1.toNat)).2.1) else fcY g pl w v k
def LvS (g:Nat→T_Bar) (nb:Nat) (N:Int) (pl:Nat→T_Place) (np:Nat) (v:T_IntS) (i:Nat):St :=
  ⟨[.p .any,inL v,.pt 3 0 0 0,.p .any,.p .any,.p (.int .i64 i)]++List.replicate 23 anyA,[(0,⟨true,3,1,fun _=>[.p (.int .i64 N),brL g nb,pcL pl np]⟩)],1⟩
def FaI (g:Nat→T_Bar) (nb N:Nat) (pl:Nat→T_Place) (np:Nat) (w:T_IntS) (v:Nat) (x y:Int) (i:Nat):St :=
  ⟨[.p .any,inL w,.p (.int .i64 v),.pt 3 0 0 0,.p .any,.p .any,.p .any,.p .any,.p (.int .i64 x),.p (.int .i64 y)]++List.replicate 12 anyA++[brL g nb,.p (.int .i64 nb),.p (.int .i64 i)]++List.replicate 46 anyA,[(0,fbx g nb N pl np)],1⟩
def FaS (g:Nat→T_Bar) (nb N:Nat) (pl:Nat→T_Place) (np:Nat) (w:T_IntS) (v:Nat) (x y:Int) (i:Nat):St :=
  ⟨[.p .any,inL w,.p (.int .i64 v),.pt 3 0 0 0,.p .any,.p .any,.p .any,.p .any,.p (.int .i64 x),.p (.int .i64 y),.p (.int .i64 i)]++List.replicate 74 anyA,[(0,fbx g nb N pl np)],1⟩
def IsI (g:Nat→T_Bar) (nb N:Nat) (pl:Nat→T_Place) (np:Nat) (w:T_IntS) (v:Nat):St :=
  ⟨[.p .any,inL w,.pt 3 0 0 0,.p .any,.p .any]++List.replicate 8 anyA++[.p .any,.p (.int .i64 np),.p (.int .i64 v)]++List.replicate 16 anyA,[(0,fbx g nb N pl np)],1⟩
def IsS (g:Nat→T_Bar) (nb:Nat) (N:Int) (pl:Nat→T_Place) (np:Nat) (w:T_IntS) (v:Nat):St :=
  ⟨[.p .any,inL w,.pt 3 0 0 0,.p .any,.p .any,.p (.int .i64 v)]++List.replicate 30 anyA,[(0,⟨true,3,1,fun _=>[.p (.int .i64 N),brL g nb,pcL pl np]⟩)],1⟩
theorem afR (g:Nat→T_Bar) (nb:Nat) (N:Int) (pl:Nat→T_Place) (np:Nat) (v:T_IntS) (b1 b2:Bool) :
    pathOb Tryz.prog Tryz.f381 0 [rg 2,rm [(1,oc [] (.p (.bool b1))),(6,oc [] (.p (.bool b2)))] 2] [.code (bodyOf Tryz.f381)] (start Tryz.f381 [] 0 [frA g nb N pl np,inL v]) [] 1 [] (.p (.bool (bif b1 then b2 else false))) =
    some [(NT 0 1),Con Tryz.prog 128 0 [] [(zf44 N nb g np pl)] [] (.p (.bool b1)),(AG b1),(AG b1),((b1=true)→(NT 0 1)),(AG b1),(AG b1),(AG b1),((b1=true)→ Con Tryz.prog 348 0 [] [.p (.seq true 1 v.1 (iRw v)),.p (.int .i64 (↑nb:Int))] [] (.p (.bool b2))),(AG b1),((bif b1 then b2 else false)=(bif b1 then b2 else false))]:=by kernel_rfl
theorem lvz (g:Nat→T_Bar) (nb:Nat) (N:Int) (pl:Nat→T_Place) (np:Nat) (v:T_IntS) :
    pieceOb Tryz.prog 0 [rg 2,rg 1,.head] [.code (bodyOf Tryz.f379)] (start Tryz.f379 [] 0 [frA g nb N pl np,inL v]) [0] 1 (LvS g nb N pl np v 0) =
    some (zf107,[(AN v.1),(AP v.1 (iRw v)),(AN 0),((0:Int)=(↑0:Int)),((([AV.p (PV.int IntKind.i64 N),brL g nb,pcL pl np].length):Nat)=3),(NL 1 1),(NL 1 1),(AI N),(AN nb),(AP nb (bRw g)),(AN np),(AP np (bRw pl))]):=by kernel_rfl
theorem lvt (g:Nat→T_Bar) (nb:Nat) (N:Int) (pl:Nat→T_Place) (np:Nat) (v:T_IntS) (i:Nat) :
    pieceOb Tryz.prog 0 [rg 4,.dec true,rm [(4,oc [] (.p (.bool true)))] 1,.dec false,rg 3,.head] zf107 (LvS g nb N pl np v i) [0] 1 (LvS g nb N pl np v (i+1)) =
    some (zf107,[((decide ((↑i:Int)<(↑v.1:Int)))=true),(IL 0 (↑i:Int)),(IT (↑i:Int) (↑v.1:Int)),Con Tryz.prog 167 0 [] [.p (.int .i64 (v.2 i)),.p (.int .i64 (-10000000000)),.p (.int .i64 10000000000)] [] (.p (.bool true)),((!true)=false),(ZLo ((↑i:Int)+1)),(ZHi ((↑i:Int)+1)),(AN v.1),(AP v.1 (iRw v)),(AN 0),((((↑i:Int)+1):Int)=(↑(i+1):Int)),(AN 3),(NL 1 1),(NL 1 1),(AI N),(AN nb),(AP nb (bRw g)),(AN np),(AP np (bRw pl))]):=by kernel_rfl
theorem lvf (g:Nat→T_Bar) (nb:Nat) (N:Int) (pl:Nat→T_Place) (np:Nat) (v:T_IntS) (i:Nat) :
    pathOb Tryz.prog Tryz.f379 0 [rg 4,.dec true,rm [(4,oc [] (.p (.bool false)))] 1,.dec true,rg 1] zf107 (LvS g nb N pl np v i) [] 1 [] (.p (.bool false)) =
    some [((decide ((↑i:Int)<(↑v.1:Int)))=true),(IL 0 (↑i:Int)),(IT (↑i:Int) (↑v.1:Int)),Con Tryz.prog 167 0 [] [.p (.int .i64 (v.2 i)),.p (.int .i64 (-10000000000)),.p (.int .i64 10000000000)] [] (.p (.bool false)),((!false)=true),(false=false)]:=by kernel_rfl
theorem lve (g:Nat→T_Bar) (nb:Nat) (N:Int) (pl:Nat→T_Place) (np:Nat) (v:T_IntS) (i:Nat) (b:Bool) :
    pathOb Tryz.prog Tryz.f379 0 [rg 4,.dec false,rm [(1,oc [] (.p (.bool b)))] 10] zf107 (LvS g nb N pl np v i) [] 1 [] (.p (.bool (bif b then (v.1:Int)==(nb:Int) else false))) =
    some [((decide ((↑i:Int)<(↑v.1:Int)))=false),(NT 0 1),Con Tryz.prog 117 0 [] [(zf36 N nb g np pl)] [] (.p (.bool b)),(AG b),(AG b),(AG b),((b=true)→(NT 0 1)),(AG b),(AG b),(AG b),(AG b),((bif b then (↑v.1:Int)==(↑nb:Int) else false)=(bif b then (↑v.1:Int)==(↑nb:Int) else false))]:=by kernel_rfl
theorem faz (g:Nat→T_Bar) (nb N:Nat) (pl:Nat→T_Place) (np:Nat) (w:T_IntS) (v:Nat) :
    pieceOb Tryz.prog 0 [rg 3,rg 2,rm [(2,oc [] (.p (.bool true)))] 1,.dec false,rg 5,.head] [.code (bodyOf Tryz.f382)] (start Tryz.f382 [] 0 [frA g nb N pl np,inL w,.p (.int .i64 v)]) [0] 1 (FaI g nb N pl np w v 0 0 0) =
    some (zf62,[(NT 0 1),Con Tryz.prog 381 0 [] [(zf39 N nb g np pl),.p (.seq true 1 w.1 (iRw w))] [] (.p (.bool true)),((!true)=false),(NT 0 1),(AN w.1),(AP w.1 (iRw w)),(AI ((↑v:Int))),(AN 0),(AI 0),(AI 0),(AN nb),(AP nb (bRw g)),(AI ((↑nb:Int))),((0:Int)=(↑0:Int)),((([AV.p (PV.int IntKind.i64 (↑N:Int)),brL g nb,pcL pl np].length):Nat)=3),(NL 1 1),(NL 1 1),(AI ((↑N:Int))),(AN nb),(AP nb (bRw g)),(AN np),(AP np (bRw pl))]):=by kernel_rfl
theorem fat (g:Nat→T_Bar) (nb N:Nat) (pl:Nat→T_Place) (np:Nat) (w:T_IntS) (v:Nat) (x y:Int) (i o:Nat) (x' y':Int) :
    pieceOb Tryz.prog 0 [rg 1,.dec true,rg 6,rm [(2,oc [] (.p (.bool true)))] 0,.dec true,rm [(9,oc [] (.p (.int .i64 o)))] 6,rg 13,rg 13,rg 2,.head] zf62 (FaI g nb N pl np w v x y i) [0] 1 (FaI g nb N pl np w v x' y' (i+1)) =
    some (zf62,[((decide ((↑i:Int)<(↑nb:Int)))=true),(IL 0 (↑i:Int)),(IT (↑i:Int) (↑nb:Int)),(NT 0 1),((true=true)→ (AN 1)),(NT 0 1),Con Tryz.prog 222 0 [] [.agg [.p (.int .i64 ((g i).1)),.p (.int .i64 ((g i).2.1))],.p (.int .i64 (↑v:Int))] [] (.p (.bool true)),(true=true),(NT 0 1),(IL 0 (↑v:Int)),(IT (↑v:Int) (↑np:Int)),(NT 0 1),(NT 0 1),Con Tryz.prog 223 0 [] [.agg [.p (.int .i64 ((g i).1)),.p (.int .i64 ((g i).2.1))],.p (.int .i64 (↑v:Int))] [] (.p (.int .i64 (↑o:Int))),(IL 0 (↑o:Int)),(IT (↑o:Int) (↑np:Int)),(NT 0 1),((true=true)→ (AN 1)),(NT 0 1),((true=true)→ (AN 1)),(IL 0 (↑i:Int)),(IT (↑i:Int) (↑w.1:Int)),(NT 0 1),(NT 0 1),(ZLo ((pl v).1 - (pl o).1)),(ZHi ((pl v).1 - (pl o).1)),(ZLo (w.2 i*((pl v).1 - (pl o).1))),(ZHi (w.2 i*((pl v).1 - (pl o).1))),(ZLo (x+w.2 i*((pl v).1 - (pl o).1))),(ZHi (x+w.2 i*((pl v).1 - (pl o).1))),(IL 0 (↑i:Int)),(IT (↑i:Int) (↑w.1:Int)),(NT 0 1),(NT 0 1),(ZLo ((pl v).2.1 - (pl o).2.1)),(ZHi ((pl v).2.1 - (pl o).2.1)),(ZLo (w.2 i*((pl v).2.1 - (pl o).2.1))),(ZHi (w.2 i*((pl v).2.1 - (pl o).2.1))),(ZLo (y+w.2 i*((pl v).2.1 - (pl o).2.1))),(ZHi (y+w.2 i*((pl v).2.1 - (pl o).2.1))),(ZLo ((↑i:Int)+1)),(ZHi ((↑i:Int)+1)),(AN w.1),(AP w.1 (iRw w)),(AI ((↑v:Int))),(AN 0),(((x+w.2 i*((pl v).1 - (pl o).1)):Int)=x'),(((y+w.2 i*((pl v).2.1 - (pl o).2.1)):Int)=y'),(AN nb),(AP nb (bRw g)),(AI ((↑nb:Int))),((((↑i:Int)+1):Int)=(↑(i+1):Int)),(AN 3),(NL 1 1),(NL 1 1),(AI ((↑N:Int))),(AN nb),(AP nb (bRw g)),(AN np),(AP np (bRw pl))]):=by kernel_rfl
theorem faf (g:Nat→T_Bar) (nb N:Nat) (pl:Nat→T_Place) (np:Nat) (w:T_IntS) (v:Nat) (x y:Int) (i:Nat) :
    pieceOb Tryz.prog 0 [rg 1,.dec true,rg 6,rm [(2,oc [] (.p (.bool false)))] 0,.dec false,rg 2,.head] zf62 (FaI g nb N pl np w v x y i) [0] 1 (FaI g nb N pl np w v x y (i+1)) =
    some (zf62,[((decide ((↑i:Int)<(↑nb:Int)))=true),(IL 0 (↑i:Int)),(IT (↑i:Int) (↑nb:Int)),(NT 0 1),((true=true)→ (AN 1)),(NT 0 1),Con Tryz.prog 222 0 [] [.agg [.p (.int .i64 ((g i).1)),.p (.int .i64 ((g i).2.1))],.p (.int .i64 (↑v:Int))] [] (.p (.bool false)),(false=false),(ZLo ((↑i:Int)+1)),(ZHi ((↑i:Int)+1)),(AN w.1),(AP w.1 (iRw w)),(AI ((↑v:Int))),(AN 0),(AI x),(AI y),(AN nb),(AP nb (bRw g)),(AI ((↑nb:Int))),((((↑i:Int)+1):Int)=(↑(i+1):Int)),(AN 3),(NL 1 1),(NL 1 1),(AI ((↑N:Int))),(AN nb),(AP nb (bRw g)),(AN np),(AP np (bRw pl))]):=by kernel_rfl
theorem fae (g:Nat→T_Bar) (nb N:Nat) (pl:Nat→T_Place) (np:Nat) (w:T_IntS) (v:Nat) (x y:Int) (i:Nat) :
    pathOb Tryz.prog Tryz.f382 0 [rg 1,.dec false,rg 4] zf62 (FaI g nb N pl np w v x y i) [] 1 [] (.tup [.p (.int .i64 x),.p (.int .i64 y)]) =
    some [((decide ((↑i:Int)<(↑nb:Int)))=false),(AI x),(AI y)]:=by kernel_rfl
theorem fsz (g:Nat→T_Bar) (nb N:Nat) (pl:Nat→T_Place) (np:Nat) (w:T_IntS) (v:Nat) :
    pieceOb Tryz.prog 0 [rg 3,rg 1,rg 1,rg 1,.head] [.code (bodyOf Tryz.f380)] (start Tryz.f380 [] 0 [frA g nb N pl np,inL w,.p (.int .i64 v)]) [0] 1 (FaS g nb N pl np w v 0 0 0) =
    some (zf63,[(AN w.1),(AP w.1 (iRw w)),(AI ((↑v:Int))),(AN 0),(AI 0),(AI 0),((0:Int)=(↑0:Int)),((([AV.p (PV.int IntKind.i64 (↑N:Int)),brL g nb,pcL pl np].length):Nat)=3),(NL 1 1),(NL 1 1),(AI ((↑N:Int))),(AN nb),(AP nb (bRw g)),(AN np),(AP np (bRw pl))]):=by kernel_rfl
theorem fst1 (g:Nat→T_Bar) (nb N:Nat) (pl:Nat→T_Place) (np:Nat) (w:T_IntS) (v:Nat) (x y:Int) (i o:Nat) (x' y':Int) :
    pieceOb Tryz.prog 0 [rm [(7,oc [] (.p (.bool true)))] 1,.dec true,rg 8,rg 10,.dec true,rm [(2,oc [] (.p (.int .i64 o)))] 1,rg 21,rg 21,rg 3,.head] zf63 (FaS g nb N pl np w v x y i) [0] 1 (FaS g nb N pl np w v x' y' (i+1)) =
    some (zf63,[(((decide ((↑i:Int)<(↑w.1:Int)))=true)→(NT 0 1)),(AG (decide ((↑i:Int)<(↑w.1:Int)))),(AG (decide ((↑i:Int)<(↑w.1:Int)))),(((decide ((↑i:Int)<(↑w.1:Int)))=true)→ Con Tryz.prog 379 0 [] [(zf34 N nb g np pl),.p (.seq true 1 w.1 (iRw w))] [] (.p (.bool true))),(AG (decide ((↑i:Int)<(↑w.1:Int)))),((bif decide ((↑i:Int)<(↑w.1:Int)) then true else false)=true),(NT 0 1),(IL 0 (↑i:Int)),(IT (↑i:Int) (↑nb:Int)),(NT 0 1),((true=true)→ (AN 1)),(NT 0 1),(AG (!(g i).1==(↑v:Int))),(((!(g i).1==(↑v:Int))=true)→(NT 0 1)),(AG (!(g i).1==(↑v:Int))),(AG (!(g i).1==(↑v:Int))),((((g i).1==(↑v:Int))=false)→ ((!(g i).1==(↑v:Int))=true)),((bif (g i).1==(↑v:Int) then true else (g i).2.1==(↑v:Int))=true),(NT 0 1),Con Tryz.prog 324 0 [] [.agg [.p (.int .i64 ((g i).1)),.p (.int .i64 ((g i).2.1))],.p (.int .i64 (↑v:Int))] [] (.p (.int .i64 (↑o:Int))),(IL 0 (↑i:Int)),(IT (↑i:Int) (↑w.1:Int)),(NT 0 1),(IL 0 (↑v:Int)),(IT (↑v:Int) (↑np:Int)),(NT 0 1),(IL 0 (↑o:Int)),(IT (↑o:Int) (↑np:Int)),(ZLo ((pl v).1 - (pl o).1)),(ZHi ((pl v).1 - (pl o).1)),(ZLo (w.2 i*((pl v).1 - (pl o).1))),(ZHi (w.2 i*((pl v).1 - (pl o).1))),(ZLo (x+w.2 i*((pl v).1 - (pl o).1))),(ZHi (x+w.2 i*((pl v).1 - (pl o).1))),(IL 0 (↑i:Int)),(IT (↑i:Int) (↑w.1:Int)),(NT 0 1),(IL 0 (↑v:Int)),(IT (↑v:Int) (↑np:Int)),(NT 0 1),(IL 0 (↑o:Int)),(IT (↑o:Int) (↑np:Int)),(ZLo ((pl v).2.1 - (pl o).2.1)),(ZHi ((pl v).2.1 - (pl o).2.1)),(ZLo (w.2 i*((pl v).2.1 - (pl o).2.1))),(ZHi (w.2 i*((pl v).2.1 - (pl o).2.1))),(ZLo (y+w.2 i*((pl v).2.1 - (pl o).2.1))),(ZHi (y+w.2 i*((pl v).2.1 - (pl o).2.1))),(ZLo ((↑i:Int)+1)),(ZHi ((↑i:Int)+1)),(AN w.1),(AP w.1 (iRw w)),(AI ((↑v:Int))),(AN 0),(((x+w.2 i*((pl v).1 - (pl o).1)):Int)=x'),(((y+w.2 i*((pl v).2.1 - (pl o).2.1)):Int)=y'),((((↑i:Int)+1):Int)=(↑(i+1):Int)),(AN 3),(NL 1 1),(NL 1 1),(AI ((↑N:Int))),(AN nb),(AP nb (bRw g)),(AN np),(AP np (bRw pl))]):=by kernel_rfl
theorem fsf (g:Nat→T_Bar) (nb N:Nat) (pl:Nat→T_Place) (np:Nat) (w:T_IntS) (v:Nat) (x y:Int) (i:Nat) :
    pieceOb Tryz.prog 0 [rm [(7,oc [] (.p (.bool true)))] 1,.dec true,rg 8,rg 10,.dec false,rg 3,.head] zf63 (FaS g nb N pl np w v x y i) [0] 1 (FaS g nb N pl np w v x y (i+1)) =
    some (zf63,[(((decide ((↑i:Int)<(↑w.1:Int)))=true)→(NT 0 1)),(AG (decide ((↑i:Int)<(↑w.1:Int)))),(AG (decide ((↑i:Int)<(↑w.1:Int)))),(((decide ((↑i:Int)<(↑w.1:Int)))=true)→ Con Tryz.prog 379 0 [] [(zf34 N nb g np pl),.p (.seq true 1 w.1 (iRw w))] [] (.p (.bool true))),(AG (decide ((↑i:Int)<(↑w.1:Int)))),((bif decide ((↑i:Int)<(↑w.1:Int)) then true else false)=true),(NT 0 1),(IL 0 (↑i:Int)),(IT (↑i:Int) (↑nb:Int)),(NT 0 1),((true=true)→ (AN 1)),(NT 0 1),(AG (!(g i).1==(↑v:Int))),(((!(g i).1==(↑v:Int))=true)→(NT 0 1)),(AG (!(g i).1==(↑v:Int))),(AG (!(g i).1==(↑v:Int))),((((g i).1==(↑v:Int))=false)→ ((!(g i).1==(↑v:Int))=true)),((bif (g i).1==(↑v:Int) then true else (g i).2.1==(↑v:Int))=false),(ZLo ((↑i:Int)+1)),(ZHi ((↑i:Int)+1)),(AN w.1),(AP w.1 (iRw w)),(AI ((↑v:Int))),(AN 0),(AI x),(AI y),((((↑i:Int)+1):Int)=(↑(i+1):Int)),(AN 3),(NL 1 1),(NL 1 1),(AI ((↑N:Int))),(AN nb),(AP nb (bRw g)),(AN np),(AP np (bRw pl))]):=by kernel_rfl
theorem fse (g:Nat→T_Bar) (nb N:Nat) (pl:Nat→T_Place) (np:Nat) (w:T_IntS) (v:Nat) (x y:Int) (i:Nat) :
    pathOb Tryz.prog Tryz.f380 0 [rm [(7,oc [] (.p (.bool true)))] 1,.dec false,rg 4] zf63 (FaS g nb N pl np w v x y i) [] 1 [] (.tup [.p (.int .i64 x),.p (.int .i64 y)]) =
    some [(((decide ((↑i:Int)<(↑w.1:Int)))=true)→(NT 0 1)),(AG (decide ((↑i:Int)<(↑w.1:Int)))),(AG (decide ((↑i:Int)<(↑w.1:Int)))),(((decide ((↑i:Int)<(↑w.1:Int)))=true)→ Con Tryz.prog 379 0 [] [(zf34 N nb g np pl),.p (.seq true 1 w.1 (iRw w))] [] (.p (.bool true))),(AG (decide ((↑i:Int)<(↑w.1:Int)))),((bif decide ((↑i:Int)<(↑w.1:Int)) then true else false)=false),(AI x),(AI y)]:=by kernel_rfl
theorem isN (g:Nat→T_Bar) (nb:Nat) (N:Int) (pl:Nat→T_Place) (np:Nat) (w:T_IntS) :
    pathOb Tryz.prog Tryz.f347 0 [rg 2,rm [(2,oc [] (.p (.bool false)))] 1,.dec true,rg 1] [.code (bodyOf Tryz.f347)] (start Tryz.f347 [] 0 [frA g nb N pl np,inL w]) [] 1 [] (.p (.bool false)) =
    some [(NT 0 1),Con Tryz.prog 381 0 [] [(zf44 N nb g np pl),.p (.seq true 1 w.1 (iRw w))] [] (.p (.bool false)),((!false)=true),(false=false)]:=by kernel_rfl
theorem isz (g:Nat→T_Bar) (nb N:Nat) (pl:Nat→T_Place) (np:Nat) (w:T_IntS) :
    pieceOb Tryz.prog 0 [rg 2,rm [(2,oc [] (.p (.bool true)))] 1,.dec false,rg 4,.head] [.code (bodyOf Tryz.f347)] (start Tryz.f347 [] 0 [frA g nb N pl np,inL w]) [0] 1 (IsI g nb N pl np w 0) =
    some (zf78,[(NT 0 1),Con Tryz.prog 381 0 [] [(zf39 N nb g np pl),.p (.seq true 1 w.1 (iRw w))] [] (.p (.bool true)),((!true)=false),(NT 0 1),(AN w.1),(AP w.1 (iRw w)),(AN 0),(AI ((↑np:Int))),((0:Int)=(↑0:Int)),((([AV.p (PV.int IntKind.i64 (↑N:Int)),brL g nb,pcL pl np].length):Nat)=3),(NL 1 1),(NL 1 1),(AI ((↑N:Int))),(AN nb),(AP nb (bRw g)),(AN np),(AP np (bRw pl))]):=by kernel_rfl
theorem ist (g:Nat→T_Bar) (nb N:Nat) (pl:Nat→T_Place) (np:Nat) (w:T_IntS) (v:Nat) (x y:Int) :
    pieceOb Tryz.prog 0 [rg 1,.dec true,rg 2,rm [(3,oc [] (.tup [.p (.int .i64 x),.p (.int .i64 y)]))] 5,rg 6,.dec false,rg 2,.head] zf78 (IsI g nb N pl np w v) [0] 1 (IsI g nb N pl np w (v+1)) =
    some (zf78,[((decide ((↑v:Int)<(↑np:Int)))=true),(NT 0 1),Con Tryz.prog 382 0 [] [(zf39 N nb g np pl),.p (.seq true 1 w.1 (iRw w)),.p (.int .i64 (↑v:Int))] [] (.tup [.p (.int .i64 x),.p (.int .i64 y)]),(AG (!x != 0)),(((x != 0)=false)→ ((!x != 0)=true)),((bif x != 0 then true else y != 0)=false),(ZLo ((↑v:Int)+1)),(ZHi ((↑v:Int)+1)),(AN w.1),(AP w.1 (iRw w)),(AN 0),(AI ((↑np:Int))),((((↑v:Int)+1):Int)=(↑(v+1):Int)),(AN 3),(NL 1 1),(NL 1 1),(AI ((↑N:Int))),(AN nb),(AP nb (bRw g)),(AN np),(AP np (bRw pl))]):=by kernel_rfl
theorem isf (g:Nat→T_Bar) (nb N:Nat) (pl:Nat→T_Place) (np:Nat) (w:T_IntS) (v:Nat) (x y:Int) :
    pathOb Tryz.prog Tryz.f347 0 [rg 1,.dec true,rg 2,rm [(3,oc [] (.tup [.p (.int .i64 x),.p (.int .i64 y)]))] 5,rg 6,.dec true,rg 1] zf78 (IsI g nb N pl np w v) [] 1 [] (.p (.bool false)) =
    some [((decide ((↑v:Int)<(↑np:Int)))=true),(NT 0 1),Con Tryz.prog 382 0 [] [(zf39 N nb g np pl),.p (.seq true 1 w.1 (iRw w)),.p (.int .i64 (↑v:Int))] [] (.tup [.p (.int .i64 x),.p (.int .i64 y)]),(AG (!x != 0)),(((x != 0)=false)→ ((!x != 0)=true)),((bif x != 0 then true else y != 0)=true),(false=false)]:=by kernel_rfl
theorem ise (g:Nat→T_Bar) (nb N:Nat) (pl:Nat→T_Place) (np:Nat) (w:T_IntS) (v:Nat) :
    pathOb Tryz.prog Tryz.f347 0 [rg 1,.dec false,rg 1] zf78 (IsI g nb N pl np w v) [] 1 [] (.p (.bool true)) =
    some [((decide ((↑v:Int)<(↑np:Int)))=false),(true=true)]:=by kernel_rfl
theorem iqz (g:Nat→T_Bar) (nb:Nat) (N:Int) (pl:Nat→T_Place) (np:Nat) (w:T_IntS) :
    pieceOb Tryz.prog 0 [rg 2,rg 1,.head] [.code (bodyOf Tryz.f346)] (start Tryz.f346 [] 0 [frA g nb N pl np,inL w]) [0] 1 (IsS g nb N pl np w 0) =
    some (zf108,[(AN w.1),(AP w.1 (iRw w)),(AN 0),((0:Int)=(↑0:Int)),((([AV.p (PV.int IntKind.i64 N),brL g nb,pcL pl np].length):Nat)=3),(NL 1 1),(NL 1 1),(AI N),(AN nb),(AP nb (bRw g)),(AN np),(AP np (bRw pl))]):=by kernel_rfl
theorem iqt (g:Nat→T_Bar) (nb:Nat) (N:Int) (pl:Nat→T_Place) (np:Nat) (w:T_IntS) (v:Nat) (x y:Int) :
    pieceOb Tryz.prog 0 [rm [(8,oc [] (.p (.bool true)))] 1,.dec true,rm [(3,oc [] (.tup [.p (.int .i64 x),.p (.int .i64 y)]))] 5,rg 6,.dec false,rg 3,.head] zf108 (IsS g nb N pl np w v) [0] 1 (IsS g nb N pl np w (v+1)) =
    some (zf108,[(NT 0 1),(((decide ((↑v:Int)<N))=true)→(NT 0 1)),(AG (decide ((↑v:Int)<N))),(AG (decide ((↑v:Int)<N))),(((decide ((↑v:Int)<N))=true)→ Con Tryz.prog 379 0 [] [(zf44 N nb g np pl),.p (.seq true 1 w.1 (iRw w))] [] (.p (.bool true))),(AG (decide ((↑v:Int)<N))),((bif decide ((↑v:Int)<N) then true else false)=true),(NT 0 1),Con Tryz.prog 380 0 [] [(zf44 N nb g np pl),.p (.seq true 1 w.1 (iRw w)),.p (.int .i64 (↑v:Int))] [] (.tup [.p (.int .i64 x),.p (.int .i64 y)]),(AG (!x != 0)),(((x != 0)=false)→ ((!x != 0)=true)),((bif x != 0 then true else y != 0)=false),(ZLo ((↑v:Int)+1)),(ZHi ((↑v:Int)+1)),(AN w.1),(AP w.1 (iRw w)),(AN 0),((((↑v:Int)+1):Int)=(↑(v+1):Int)),(AN 3),(NL 1 1),(NL 1 1),(AI N),(AN nb),(AP nb (bRw g)),(AN np),(AP np (bRw pl))]):=by kernel_rfl
theorem iqf (g:Nat→T_Bar) (nb:Nat) (N:Int) (pl:Nat→T_Place) (np:Nat) (w:T_IntS) (v:Nat) (x y:Int) :
    pathOb Tryz.prog Tryz.f346 0 [rm [(8,oc [] (.p (.bool true)))] 1,.dec true,rm [(3,oc [] (.tup [.p (.int .i64 x),.p (.int .i64 y)]))] 5,rg 6,.dec true,rg 1] zf108 (IsS g nb N pl np w v) [] 1 [] (.p (.bool false)) =
    some [(NT 0 1),(((decide ((↑v:Int)<N))=true)→(NT 0 1)),(AG (decide ((↑v:Int)<N))),(AG (decide ((↑v:Int)<N))),(((decide ((↑v:Int)<N))=true)→ Con Tryz.prog 379 0 [] [(zf44 N nb g np pl),.p (.seq true 1 w.1 (iRw w))] [] (.p (.bool true))),(AG (decide ((↑v:Int)<N))),((bif decide ((↑v:Int)<N) then true else false)=true),(NT 0 1),Con Tryz.prog 380 0 [] [(zf44 N nb g np pl),.p (.seq true 1 w.1 (iRw w)),.p (.int .i64 (↑v:Int))] [] (.tup [.p (.int .i64 x),.p (.int .i64 y)]),(AG (!x != 0)),(((x != 0)=false)→ ((!x != 0)=true)),((bif x != 0 then true else y != 0)=true),(false=false)]:=by kernel_rfl
theorem iqe (g:Nat→T_Bar) (nb:Nat) (N:Int) (pl:Nat→T_Place) (np:Nat) (w:T_IntS) (v:Nat) (b:Bool) :
    pathOb Tryz.prog Tryz.f346 0 [rm [(8,oc [] (.p (.bool b)))] 1,.dec false,rm [(2,oc [] (.p (.bool b)))] 1] zf108 (IsS g nb N pl np w v) [] 1 [] (.p (.bool b)) =
    some [(NT 0 1),(((decide ((↑v:Int)<N))=true)→(NT 0 1)),(AG (decide ((↑v:Int)<N))),(AG (decide ((↑v:Int)<N))),(((decide ((↑v:Int)<N))=true)→ Con Tryz.prog 379 0 [] [(zf44 N nb g np pl),.p (.seq true 1 w.1 (iRw w))] [] (.p (.bool b))),(AG (decide ((↑v:Int)<N))),((bif decide ((↑v:Int)<N) then b else false)=false),(NT 0 1),Con Tryz.prog 379 0 [] [(zf44 N nb g np pl),.p (.seq true 1 w.1 (iRw w))] [] (.p (.bool b)),(b=b)]:=by kernel_rfl
end Go.Proofs.YtkkjoghiigiokaaGreat.Mach
namespace Go.Proofs.YtkkjoghiigiokaaGreat.Mach
open Go
set_option linter.unusedVariables false
set_option linter.unusedSimpArgs false
def frcB (g:Nat→T_Bar) (nb:Nat) (N:Int) (pl:Nat→T_Place) (np:Nat) (w:T_IntS):Bool:=bif fwB g nb N pl np then smB w (nb:Int) else false
theorem con_areForces (g:Nat→T_Bar) (nb:Nat) (N:Int) (pl:Nat→T_Place) (np:Nat) (v:T_IntS) (hn:nb≤1048576∧np≤1048576) (hv:v.1≤1048576) :
    Con Tryz.prog 381 0 [] [frA g nb N pl np,inL v] [] (.p (.bool (frcB g nb N pl np v))):=by
  have cf:=con_IsFramework_i g nb N pl np hn
  have cs:=con_areSmall v (nb:Int) hv
  have hN:fwB g nb N pl np=true→-9223372036854775808≤2*N∧2*N≤9223372036854775807:=fun h=>by
    obtain ⟨n,rfl⟩:=fw_N h
    have:=(fw_ok h).2.1
    omega
  refine csZ Tryz.func381 (fun c hc=>?_)
  refine pkZ Tryz.func381 hc (afR g nb N pl np v (fwB g nb N pl np) (smB v (nb:Int))) ?_
  repeat' (first | exact aN | apply aI)
  all_goals (first | exact aG _ | omega | rfl | (intros;first | assumption | exact trivial | rfl | exact fT ‹_›) | (exact cf) | (intro _;exact cs) | (intro h;exact h) | (intro h;exact (hN h).1) | (intro h;exact (hN h).2) | rfl)
theorem con_l13Vector (g:Nat→T_Bar) (nb:Nat) (N:Int) (pl:Nat→T_Place) (np:Nat) (v:T_IntS) (hn:nb≤1048576∧np≤1048576) (hv:v.1≤1048576) :
    Con Tryz.prog 379 0 [] [frA g nb N pl np,inL v] [] (.p (.bool (frcB g nb N pl np v))):=by
  have cf:=con_IsFramework_s g nb N pl np hn
  have hN:fwB g nb N pl np=true→-9223372036854775808≤2*N∧2*N≤9223372036854775807:=fun h=>by
    obtain ⟨n,rfl⟩:=fw_N h
    have:=(fw_ok h).2.1
    omega
  refine csZ Tryz.func379 (fun c hc=>?_)
  have lo:∀ d i,i+d=v.1→allB (smq v) i=true→Run Tryz.prog c 379 zf107 (LvS g nb N pl np v i) (Post c [] (.p (.bool (frcB g nb N pl np v)))):=by
    intro d
    induction d with
    | zero =>
      intro i hi ha
      obtain rfl:i=v.1:=by omega
      have hd:decide ((v.1:Int)<(v.1:Int))=false:=decide_eq_false (by omega)
      unfold frcB smB
      rw [ha]
      refine pkZ Tryz.func379 hc (lve g nb N pl np v v.1 (fwB g nb N pl np)) ?_
      repeat' (first | exact aN | apply aI)
      all_goals (first | exact aG _ | omega | rfl | (intros;first | assumption | exact trivial | rfl | exact fT ‹_›) | (exact hd) | (exact cf) | (intro h;exact h) | (intro h;exact (hN h).1) | (intro h;exact (hN h).2) | rfl)
    | succ d ih =>
      intro i hi ha
      have hd:decide ((i:Int)<(v.1:Int))=true:=decide_eq_true (by omega)
      have cw:=con_l1In (v.2 i) (-10000000000) 10000000000
      change Con Tryz.prog 167 0 [] _ [] (.p (.bool (smq v i))) at cw
      cases hs:smq v i with
      | true =>
        rw [hs] at cw
        refine pcZ hc (lvt g nb N pl np v i) ?_ (ih (i+1) (by omega) (by rw [allB,ha,hs];rfl))
        repeat' (first | exact aN | apply aI)
        all_goals (first | exact aP _ _ | omega | rfl | (intros;first | assumption | exact trivial | rfl) | (exact hd) | (exact cw) | (intro t ht;simp [All];done))
      | false =>
        rw [hs] at cw
        rw [show frcB g nb N pl np v=false by
          unfold frcB smB
          rw [all_no (i:=i) (by omega) hs]
          cases fwB g nb N pl np<;>rfl]
        refine pkZ Tryz.func379 hc (lvf g nb N pl np v i) ?_
        repeat' (first | exact aN | apply aI)
        all_goals (first | omega | rfl | (intros;first | assumption | exact trivial | rfl) | (exact hd) | (exact cw))
  refine pcZ hc (lvz g nb N pl np v) ?_ (lo v.1 0 (by omega) rfl)
  repeat' (first | exact aN | apply aI)
  all_goals (first | exact aP _ _ | omega | rfl | (intros;first | assumption | exact trivial | rfl) | (intro t ht;simp [All];done))
end Go.Proofs.YtkkjoghiigiokaaGreat.Mach
namespace Go.Proofs.YtkkjoghiigiokaaGreat.Mach
open Go
set_option linter.unusedVariables false
set_option linter.unusedSimpArgs false
structure FOk (g:Nat→T_Bar) (nb N:Nat) (pl:Nat→T_Place) (np:Nat) (w:T_IntS):Prop where
  hf:fwB g nb N pl np=true
  hl:w.1=nb
  hN:1≤N∧N≤6
  hnp:np=N
  hnb:nb≤15
  sm:∀ j,j<nb→-10000000000≤w.2 j∧w.2 j≤10000000000
  px:∀ i,i<N→(0≤(pl i).1∧(pl i).1≤4)∧(0≤(pl i).2.1∧(pl i).2.1≤4)
  frc:frcB g nb N pl np w=true
  gr:isGraphF ((N:Int),(nb,g),())=true
  ok:OkBars N nb g
theorem fOk {g:Nat→T_Bar} {nb N:Nat} {pl:Nat→T_Place} {np:Nat} {w:T_IntS} (h:frcB g nb N pl np w=true):FOk g nb N pl np w:=by
  have hv:=h
  unfold frcB at h
  cases hf:fwB g nb N pl np with
  | false=>rw [hf] at h;cases h
  | true =>
    rw [hf] at h
    obtain ⟨h1,h2,h3,h4,h5,_⟩:=fw_parts hf
    obtain ⟨hN,_,hok⟩:=graph_in h1
    have h:smB w (nb:Int)=true:=h
    unfold smB at h
    cases ha:allB (smq w) w.1 with
    | false=>rw [ha] at h;cases h
    | true =>
      rw [ha] at h
      have hl:w.1=nb:=by simp at h;omega
      exact ⟨hf,hl,by omega,by omega,h3,fun j hj=>inB_iff.1 ((all_iff _ _).1 ha j (by omega)),fun i hi=>h5 i (by omega),hv,h1,hok⟩
def ofN (g:Nat→T_Bar) (v k:Nat):Nat:=if (g k).1=v then (g k).2.1.toNat else (g k).1.toNat
theorem fc_b {g:Nat→T_Bar} {nb N:Nat} {pl:Nat→T_Place} {np:Nat} {w:T_IntS} (ok:FOk g nb N pl np w) {v:Nat} (hv:v<N) :
    ∀ k,k≤nb→(-(40000000000*(k:Int))≤fcX g pl w v k∧fcX g pl w v k≤40000000000*(k:Int))∧(-(40000000000*(k:Int))≤fcY g pl w v k∧fcY g pl w v k≤40000000000*(k:Int))
  | 0,_=>⟨⟨by show _≤(0:Int);omega,by show (0:Int)≤_;omega⟩,⟨by show _≤(0:Int);omega,by show (0:Int)≤_;omega⟩⟩
  | k+1,hk=>by
    obtain ⟨a,b⟩:=fc_b ok hv k (by omega)
    have hb:=ok.ok k (by omega)
    have ho:ofN g v k<N:=by unfold ofN;split<;>omega
    have pv:=ok.px v hv
    have po:=ok.px _ ho
    have hw:=ok.sm k (by omega)
    have m1:=Trv.bdm (A:=10000000000) (B:=4) (b:=(pl v).1 - (pl (ofN g v k)).1) ⟨hw.1,hw.2⟩ (by omega)
    have m2:=Trv.bdm (A:=10000000000) (B:=4) (b:=(pl v).2.1 - (pl (ofN g v k)).2.1) ⟨hw.1,hw.2⟩ (by omega)
    unfold ofN at m1 m2
    simp only [fcX,fcY]
    split<;>constructor<;>constructor<;>omega
theorem con_Force_i {g:Nat→T_Bar} {nb N:Nat} {pl:Nat→T_Place} {np:Nat} {w:T_IntS} (ok:FOk g nb N pl np w) {v:Nat} (hv:v<N) :
    Con Tryz.prog 382 0 [] [frA g nb N pl np,inL w,.p (.int .i64 v)] [] (.tup [.p (.int .i64 (fcX g pl w v nb)),.p (.int .i64 (fcY g pl w v nb))]):=by
  have hnp:=ok.hnp
  have hnb:=ok.hnb
  have hl:=ok.hl
  have hN:=ok.hN
  have ca:=con_areForces g nb N pl np w (by omega) (by omega)
  rw [ok.frc] at ca
  refine csZ Tryz.func382 (fun c hc=>?_)
  have lo:∀ d i,i+d=nb→Run Tryz.prog c 382 zf62 (FaI g nb N pl np w v (fcX g pl w v i) (fcY g pl w v i) i) (Post c [] (.tup [.p (.int .i64 (fcX g pl w v nb)),.p (.int .i64 (fcY g pl w v nb))])):=by
    intro d
    induction d with
    | zero =>
      intro i hi
      obtain rfl:i=nb:=by omega
      have hd:decide ((i:Int)<(i:Int))=false:=by simp
      refine pkZ Tryz.func382 hc (fae g i N pl np w v _ _ i) ?_
      repeat' (first | exact aN | apply aI)
      all_goals (first | omega | rfl | (intros;first | assumption | exact trivial | rfl) | (exact hd) | (simp;done))
    | succ d ih =>
      intro i hi
      have hd:decide ((i:Int)<(nb:Int))=true:=decide_eq_true (by omega)
      have hrec:=ih (i+1) (by omega)
      have hb:=ok.ok i (by omega)
      have ch:=con_hasD (g i) v
      have co:=con_other (g i) v
      cases hh:hasB (g i) v with
      | false =>
        rw [hh] at ch
        rw [show fcX g pl w v (i+1)=fcX g pl w v i by simp [fcX,hh],show fcY g pl w v (i+1)=fcY g pl w v i by simp [fcY,hh]] at hrec
        refine pcZ hc (faf g nb N pl np w v _ _ i) ?_ hrec
        repeat' (first | exact aN | apply aI)
        all_goals (first | exact aP _ _ | omega | rfl | (intros;first | assumption | exact trivial | rfl | exact fT ‹_›) | (exact hd) | (exact ch) | (intro t ht;simp [All];done) | (simp;done))
      | true =>
        rw [hh] at ch
        have f1:=fc_b ok hv i (by omega)
        have f2:=fc_b ok hv (i+1) (by omega)
        have ho:ofN g v i<N:=by unfold ofN;split<;>omega
        have e:othF (g i) v=(ofN g v i:Int):=by unfold othF ofN;split<;>omega
        rw [e] at co
        have pv:=ok.px v hv
        have po:=ok.px _ ho
        have hw:=ok.sm i (by omega)
        have m1:=Trv.bdm (A:=10000000000) (B:=4) (b:=(pl v).1 - (pl (ofN g v i)).1) ⟨hw.1,hw.2⟩ (by omega)
        have m2:=Trv.bdm (A:=10000000000) (B:=4) (b:=(pl v).2.1 - (pl (ofN g v i)).2.1) ⟨hw.1,hw.2⟩ (by omega)
        have sx:fcX g pl w v i+w.2 i*((pl v).1 - (pl (ofN g v i)).1)=fcX g pl w v (i+1):=by simp [fcX,hh,ofN]
        have sy:fcY g pl w v i+w.2 i*((pl v).2.1 - (pl (ofN g v i)).2.1)=fcY g pl w v (i+1):=by simp [fcY,hh,ofN]
        refine pcZ hc (fat g nb N pl np w v _ _ i (ofN g v i) _ _) ?_ hrec
        repeat' (first | exact aN | apply aI)
        all_goals (first | exact aP _ _ | omega | rfl | (intros;first | assumption | exact trivial | rfl | exact fT ‹_›) | (exact hd) | (exact ch) | (exact co) | (exact sx) | (exact sy) | (intro t ht;simp [All];done) | (simp;done))
  refine pcZ hc (faz g nb N pl np w v) ?_ (lo nb 0 (by omega))
  repeat' (first | exact aN | apply aI)
  all_goals (first | exact aP _ _ | omega | rfl | (intros;first | assumption | exact trivial | rfl) | (exact ca) | (intro t ht;simp [All];done) | (simp;done))
theorem con_Force_s {g:Nat→T_Bar} {nb N:Nat} {pl:Nat→T_Place} {np:Nat} {w:T_IntS} (ok:FOk g nb N pl np w) {v:Nat} (hv:v<N) :
    Con Tryz.prog 380 0 [] [frA g nb N pl np,inL w,.p (.int .i64 v)] [] (.tup [.p (.int .i64 (fcX g pl w v nb)),.p (.int .i64 (fcY g pl w v nb))]):=by
  have hnp:=ok.hnp
  have hnb:=ok.hnb
  have hl:=ok.hl
  have hN:=ok.hN
  have ca:=con_l13Vector g nb N pl np w (by omega) (by omega)
  rw [ok.frc] at ca
  refine csZ Tryz.func380 (fun c hc=>?_)
  have lo:∀ d i,i+d=nb→Run Tryz.prog c 380 zf63 (FaS g nb N pl np w v (fcX g pl w v i) (fcY g pl w v i) i) (Post c [] (.tup [.p (.int .i64 (fcX g pl w v nb)),.p (.int .i64 (fcY g pl w v nb))])):=by
    intro d
    induction d with
    | zero =>
      intro i hi
      obtain rfl:i=nb:=by omega
      have hd:(bif decide ((i:Int)<(w.1:Int)) then true else false)=false:=by rw [hl,decide_eq_false (Int.lt_irrefl _)];rfl
      refine pkZ Tryz.func380 hc (fse g i N pl np w v _ _ i) ?_
      repeat' (first | exact aN | apply aI)
      all_goals (first | exact aG _ | omega | rfl | (intros;first | assumption | exact trivial | rfl | exact fT ‹_›) | (exact hd) | (intros;exact ca) | (intro h;exact h) | (simp;done))
    | succ d ih =>
      intro i hi
      have hd:(bif decide ((i:Int)<(w.1:Int)) then true else false)=true:=by rw [decide_eq_true (by omega)];rfl
      have hrec:=ih (i+1) (by omega)
      have hb:=ok.ok i (by omega)
      have co:=con_l4Other (g i) v (by omega) (by omega) (by omega)
      cases hh:hasB (g i) v with
      | false =>
        have hh':(bif (g i).1==(v:Int) then true else (g i).2.1==(v:Int))=_:=hh
        rw [show fcX g pl w v (i+1)=fcX g pl w v i by simp [fcX,hh],show fcY g pl w v (i+1)=fcY g pl w v i by simp [fcY,hh]] at hrec
        refine pcZ hc (fsf g nb N pl np w v _ _ i) ?_ hrec
        repeat' (first | exact aN | apply aI)
        all_goals (first | exact aG _ | exact aP _ _ | omega | rfl | (intros;first | assumption | exact trivial | rfl | exact fT ‹_› | ((repeat' (first | assumption | apply anda | apply notf));done)) | (exact hd) | (exact hh') | (intros;exact ca) | (intro h;exact h) | (intro h;rw [h];rfl) | (intro t ht;simp [All];done) | (simp;done))
      | true =>
        have hh':(bif (g i).1==(v:Int) then true else (g i).2.1==(v:Int))=_:=hh
        have f1:=fc_b ok hv i (by omega)
        have f2:=fc_b ok hv (i+1) (by omega)
        have ho:ofN g v i<N:=by unfold ofN;split<;>omega
        have e:(g i).1+(g i).2.1 - (v:Int)=(ofN g v i:Int):=by
          unfold ofN
          by_cases q:(g i).1=(v:Int)
          · rw [if_pos q];omega
          · rw [if_neg q]
            rw [beq_eq_false_iff_ne.2 q] at hh'
            have:=beq_iff_eq.1 hh'
            omega
        rw [e] at co
        have pv:=ok.px v hv
        have po:=ok.px _ ho
        have hw:=ok.sm i (by omega)
        have m1:=Trv.bdm (A:=10000000000) (B:=4) (b:=(pl v).1 - (pl (ofN g v i)).1) ⟨hw.1,hw.2⟩ (by omega)
        have m2:=Trv.bdm (A:=10000000000) (B:=4) (b:=(pl v).2.1 - (pl (ofN g v i)).2.1) ⟨hw.1,hw.2⟩ (by omega)
        have sx:fcX g pl w v i+w.2 i*((pl v).1 - (pl (ofN g v i)).1)=fcX g pl w v (i+1):=by simp [fcX,hh,ofN]
        have sy:fcY g pl w v i+w.2 i*((pl v).2.1 - (pl (ofN g v i)).2.1)=fcY g pl w v (i+1):=by simp [fcY,hh,ofN]
        refine pcZ hc (fst1 g nb N pl np w v _ _ i (ofN g v i) _ _) ?_ hrec
        repeat' (first | exact aN | apply aI)
        all_goals (first | exact aG _ | exact aP _ _ | omega | rfl | (intros;first | assumption | exact trivial | rfl | exact fT ‹_› | ((repeat' (first | assumption | apply anda | apply notf));done)) | (exact hd) | (exact hh') | (intros;exact ca) | (intro h;exact h) | (intro h;rw [h];rfl) | (exact co) | (exact sx) | (exact sy) | (intro t ht;simp [All];done) | (simp;done))
  refine pcZ hc (fsz g nb N pl np w v) ?_ (lo nb 0 (by omega))
  repeat' (first | exact aN | apply aI)
  all_goals (first | exact aP _ _ | omega | rfl | (intros;first | assumption | exact trivial | rfl) | (exact ca) | (intro t ht;simp [All];done) | (simp;done))
end Go.Proofs.YtkkjoghiigiokaaGreat.Mach
namespace Go.Proofs.YtkkjoghiigiokaaGreat.Mach
open Go
set_option linter.unusedVariables false
set_option linter.unusedSimpArgs false
def zrB (g:Nat→T_Bar) (nb:Nat) (pl:Nat→T_Place) (w:T_IntS) (v:Nat):Bool:=(fcX g pl w v nb==0)&&(fcY g pl w v nb==0)
def strB (g:Nat→T_Bar) (nb:Nat) (N:Int) (pl:Nat→T_Place) (np:Nat) (w:T_IntS):Bool:=frcB g nb N pl np w&&allB (zrB g nb pl w) N.toNat
theorem zr_dec (x y:Int):(bif (x != 0) then true else (y != 0))=!((x==0)&&(y==0)):=by
  cases h:(x==0)<;>cases k:(y==0)<;>simp [bne,h,k]
theorem con_IsStress_i (g:Nat→T_Bar) (nb:Nat) (N:Int) (pl:Nat→T_Place) (np:Nat) (w:T_IntS) (hn:nb≤1048576∧np≤1048576) (hw:w.1≤1048576) :
    Con Tryz.prog 347 0 [] [frA g nb N pl np,inL w] [] (.p (.bool (strB g nb N pl np w))):=by
  have ca:=con_areForces g nb N pl np w hn hw
  unfold strB
  cases hb:frcB g nb N pl np w with
  | false =>
    rw [hb] at ca
    refine csZ Tryz.func347 (fun c hc=>?_)
    refine pkZ Tryz.func347 hc (isN g nb N pl np w) ?_
    repeat' (first | exact aN | apply aI)
    all_goals (first | omega | rfl | (intros;first | assumption | exact trivial | rfl) | (exact ca) | (simp;done))
  | true =>
    have hf:fwB g nb N pl np=true:=by
      have h:=hb
      unfold frcB at h
      cases q:fwB g nb N pl np with
      | false=>rw [q] at h;cases h
      | true=>rfl
    obtain ⟨n,rfl⟩:=fw_N hf
    have ok:=fOk hb
    rw [hb] at ca
    have hnp:=ok.hnp
    have hN:=ok.hN
    rw [Int.toNat_natCast,Bool.true_and]
    refine csZ Tryz.func347 (fun c hc=>?_)
    have lo:∀ d i,i+d=n→allB (zrB g nb pl w) i=true→Run Tryz.prog c 347 zf78 (IsI g nb n pl np w i) (Post c [] (.p (.bool (allB (zrB g nb pl w) n)))):=by
      intro d
      induction d with
      | zero =>
        intro i hi ha
        obtain rfl:i=n:=by omega
        have hd:decide ((i:Int)<(np:Int))=false:=decide_eq_false (by omega)
        rw [ha]
        refine pkZ Tryz.func347 hc (ise g nb i pl np w i) ?_
        repeat' (first | exact aN | apply aI)
        all_goals (first | omega | rfl | (intros;first | assumption | exact trivial | rfl) | (exact hd) | (simp;done))
      | succ d ih =>
        intro i hi ha
        have hd:decide ((i:Int)<(np:Int))=true:=decide_eq_true (by omega)
        have cf:=con_Force_i ok (v:=i) (by omega)
        have hz:=zr_dec (fcX g pl w i nb) (fcY g pl w i nb)
        cases hs:zrB g nb pl w i with
        | true =>
          rw [show ((fcX g pl w i nb==0)&&(fcY g pl w i nb==0))=true from hs] at hz
          refine pcZ hc (ist g nb n pl np w i (fcX g pl w i nb) (fcY g pl w i nb)) ?_ (ih (i+1) (by omega) (by rw [allB,ha,hs];rfl))
          repeat' (first | exact aN | apply aI)
          all_goals (first | exact aG _ | exact aP _ _ | omega | rfl | (intros;first | assumption | exact trivial | rfl | exact fT ‹_› | ((repeat' (first | assumption | apply anda | apply notf));done)) | (exact hd) | (exact cf) | (exact hz) | (intro t ht;simp [All];done) | (simp;done))
        | false =>
          rw [show ((fcX g pl w i nb==0)&&(fcY g pl w i nb==0))=false from hs] at hz
          rw [all_no (i:=i) (by omega) hs]
          refine pkZ Tryz.func347 hc (isf g nb n pl np w i (fcX g pl w i nb) (fcY g pl w i nb)) ?_
          repeat' (first | exact aN | apply aI)
          all_goals (first | exact aG _ | omega | rfl | (intros;first | assumption | exact trivial | rfl | exact fT ‹_› | ((repeat' (first | assumption | apply anda | apply notf));done)) | (exact hd) | (exact cf) | (exact hz) | (simp;done))
    refine pcZ hc (isz g nb n pl np w) ?_ (lo n 0 (by omega) rfl)
    repeat' (first | exact aN | apply aI)
    all_goals (first | exact aP _ _ | omega | rfl | (intros;first | assumption | exact trivial | rfl) | (exact ca) | (intro t ht;simp [All];done) | (simp;done))
theorem con_IsStress_s (g:Nat→T_Bar) (nb:Nat) (N:Int) (pl:Nat→T_Place) (np:Nat) (w:T_IntS) (hn:nb≤1048576∧np≤1048576) (hw:w.1≤1048576) :
    Con Tryz.prog 346 0 [] [frA g nb N pl np,inL w] [] (.p (.bool (strB g nb N pl np w))):=by
  have ca:=con_l13Vector g nb N pl np w hn hw
  unfold strB
  cases hb:frcB g nb N pl np w with
  | false =>
    rw [hb] at ca
    refine csZ Tryz.func346 (fun c hc=>?_)
    have hd:(bif decide (((0:Nat):Int)<N) then false else false)=false:=by cases decide (((0:Nat):Int)<N)<;>rfl
    refine pcZ hc (iqz g nb N pl np w) ?_ (pkZ Tryz.func346 hc (iqe g nb N pl np w 0 false) ?_)
    ·
      repeat' (first | exact aN | apply aI)
      all_goals (first | exact aP _ _ | omega | rfl | (intros;first | assumption | exact trivial | rfl) | (intro t ht;simp [All];done) | (simp;done))
    ·
      repeat' (first | exact aN | apply aI)
      all_goals (first | exact aG _ | exact aP _ _ | exact aA _ _ | exact aE _ | omega | rfl | (intros;first | assumption | exact trivial | rfl | exact fT ‹_› | ((repeat' (first | assumption | apply anda | apply notf));done)) | (exact hd) | (exact ca) | (intros;exact ca) | (intro h;exact h) | (simp;done))
  | true =>
    have hf:fwB g nb N pl np=true:=by
      have h:=hb
      unfold frcB at h
      cases q:fwB g nb N pl np with
      | false=>rw [q] at h;cases h
      | true=>rfl
    obtain ⟨n,rfl⟩:=fw_N hf
    have ok:=fOk hb
    rw [hb] at ca
    have hnp:=ok.hnp
    have hN:=ok.hN
    rw [Int.toNat_natCast,Bool.true_and]
    refine csZ Tryz.func346 (fun c hc=>?_)
    have lo:∀ d i,i+d=n→allB (zrB g nb pl w) i=true→Run Tryz.prog c 346 zf108 (IsS g nb n pl np w i) (Post c [] (.p (.bool (allB (zrB g nb pl w) n)))):=by
      intro d
      induction d with
      | zero =>
        intro i hi ha
        obtain rfl:i=n:=by omega
        have hd:(bif decide ((i:Int)<(i:Int)) then true else false)=false:=by rw [decide_eq_false (Int.lt_irrefl _)];rfl
        rw [ha]
        refine pkZ Tryz.func346 hc (iqe g nb i pl np w i true) ?_
        repeat' (first | exact aN | apply aI)
        all_goals (first | exact aG _ | omega | rfl | (intros;first | assumption | exact trivial | rfl | exact fT ‹_›) | (exact hd) | (exact ca) | (intros;exact ca) | (intro h;exact h) | (simp;done))
      | succ d ih =>
        intro i hi ha
        have hd:(bif decide ((i:Int)<(n:Int)) then true else false)=true:=by rw [decide_eq_true (by omega)];rfl
        have cf:=con_Force_s ok (v:=i) (by omega)
        have hz:=zr_dec (fcX g pl w i nb) (fcY g pl w i nb)
        cases hs:zrB g nb pl w i with
        | true =>
          rw [show ((fcX g pl w i nb==0)&&(fcY g pl w i nb==0))=true from hs] at hz
          refine pcZ hc (iqt g nb n pl np w i (fcX g pl w i nb) (fcY g pl w i nb)) ?_ (ih (i+1) (by omega) (by rw [allB,ha,hs];rfl))
          repeat' (first | exact aN | apply aI)
          all_goals (first | exact aG _ | exact aP _ _ | omega | rfl | (intros;first | assumption | exact trivial | rfl | exact fT ‹_› | ((repeat' (first | assumption | apply anda | apply notf));done)) | (exact hd) | (exact ca) | (intros;exact ca) | (intro h;exact h) | (exact cf) | (exact hz) | (intro t ht;simp [All];done) | (simp;done))
        | false =>
          rw [show ((fcX g pl w i nb==0)&&(fcY g pl w i nb==0))=false from hs] at hz
          rw [all_no (i:=i) (by omega) hs]
          refine pkZ Tryz.func346 hc (iqf g nb n pl np w i (fcX g pl w i nb) (fcY g pl w i nb)) ?_
          repeat' (first | exact aN | apply aI)
          all_goals (first | exact aG _ | omega | rfl | (intros;first | assumption | exact trivial | rfl | exact fT ‹_› | ((repeat' (first | assumption | apply anda | apply notf));done)) | (exact hd) | (exact ca) | (intros;exact ca) | (intro h;exact h) | (exact cf) | (exact hz) | (simp;done))
    refine pcZ hc (iqz g nb n pl np w) ?_ (lo n 0 (by omega) rfl)
    repeat' (first | exact aN | apply aI)
    all_goals (first | exact aP _ _ | omega | rfl | (intros;first | assumption | exact trivial | rfl) | (exact ca) | (intro t ht;simp [All];done) | (simp;done))
end Go.Proofs.YtkkjoghiigiokaaGreat.Mach
namespace Go.Proofs.YtkkjoghiigiokaaGreat.Mach
open Go
set_option linter.unusedVariables false
set_option linter.unusedSimpArgs false
def FmI (g:Nat→T_Bar) (nb N:Nat) (pl:Nat→T_Place) (np:Nat) (q:Nat) (W:Nat→Nat→Int) (i:Nat):St :=
  ⟨[.p .any,.pt 3 0 0 0,.p .any,.p .any,.p .any,.p .any,.p .any,.ar 1 1 0 q,.p (.int .i64 q),.p (.int .i64 i)]++List.replicate 10 anyA,[(0,fbx g nb N pl np),(1,ooOb 2 q (cM (2*N) W)),(2,ffOb q (cM (2*N) W))],3⟩
def FmS (g:Nat→T_Bar) (nb N:Nat) (pl:Nat→T_Place) (np:Nat) (q:Nat) (W:Nat→Nat→Int) (i:Nat):St :=
  ⟨[.p .any,.pt 3 0 0 0,.p .any,.p .any,.ar 1 1 0 q,.p (.int .i64 i)]++List.replicate 20 anyA,[(0,fbx g nb N pl np),(1,ooOb 2 q (cM (2*N) W)),(2,ffOb q (cM (2*N) W))],3⟩
theorem fmz (g:Nat→T_Bar) (nb N:Nat) (pl:Nat→T_Place) (np:Nat) (q:Nat) (W:Nat→Nat→Int) :
    pieceOb Tryz.prog 0 [rg 3,rm [(1,oc [(0,ooOb 1 q (cM (2*N) W)),(1,ffOb q (cM (2*N) W))] (.ar 1 0 0 q))] 2,.head] [.code (bodyOf Tryz.f135)] (start Tryz.f135 [] 0 [frA g nb N pl np]) [0,128,129] 1 (FmI g nb N pl np q W 0) =
    some (zf109,[(NT 0 1),Con Tryz.prog 237 0 [] [(zf39 N nb g np pl)] [(0,⟨false,1,q,(fun i=>[.ar 1 ⟨1,some i⟩ 0 (2*N)])⟩),(1,⟨true,0,q,(fun i=>[.p (.seq false 1 (2*N) (fun i_1=>[.int .i64 ((cM (2*N) W i).2 i_1)]))])⟩)] (.ar 1 0 0 q),(AN 0),(AN 0),(AN q),(AI ((↑q:Int))),((0:Int)=(↑0:Int)),((([AV.p (PV.int IntKind.i64 (↑N:Int)),brL g nb,pcL pl np].length):Nat)=3),(NL 1 1),(NL 1 1),(AI ((↑N:Int))),(AN nb),(AP nb (bRw g)),(AN np),(AP np (bRw pl)),(AN 1),(NL q q),(AA q (fun i=>[.ar 1 ⟨2,some i⟩ 0 (2*N)])),(NL q q),(∀ i:Nat,(((i:Nat)<q)→All [(AN 1),(((2*N):Nat)≤(2*N)),(AP ((2*N)) (fun r=>[.int .i64 ((cM (2*N) W i).2 r)]))]))]):=by kernel_rfl
theorem fmt (g:Nat→T_Bar) (nb N:Nat) (pl:Nat→T_Place) (np:Nat) (q:Nat) (W:Nat→Nat→Int) (i:Nat) :
    pieceOb Tryz.prog 0 [rg 1,.dec true,rg 3,rm [(2,oc [] (.p (.bool true)))] 1,.dec false,rg 2,.head] zf109 (FmI g nb N pl np q W i) [0,1,2] 1 (FmI g nb N pl np q W (i+1)) =
    some (zf109,[((decide ((↑i:Int)<(↑q:Int)))=true),(IL 0 (↑i:Int)),(IT (↑i:Int) (↑q:Int)),(NT i q),(NT 0 1),(NT i q),(AN 1),(NL (2*N) (2*N)),Con Tryz.prog 208 0 [] [(zf34 N nb g np pl),.p (.seq true 1 (2*N) (fun i_1=>[.int .i64 ((cM (2*N) W i).2 i_1)]))] [] (.p (.bool true)),((!true)=false),(ZLo ((↑i:Int)+1)),(ZHi ((↑i:Int)+1)),(AN 0),(AN 0),(AN q),(AI ((↑q:Int))),((((↑i:Int)+1):Int)=(↑(i+1):Int)),(AN 3),(NL 1 1),(NL 1 1),(AI ((↑N:Int))),(AN nb),(AP nb (bRw g)),(AN np),(AP np (bRw pl)),(AN 1),(NL q q),(AA q (fun i_1=>[.ar 1 ⟨2,some i_1⟩ 0 (2*N)])),(NL q q),(∀ i_1:Nat,(((i_1:Nat)<q)→All [(AN 1),(((2*N):Nat)≤(2*N)),(AP ((2*N)) (fun r=>[.int .i64 ((cM (2*N) W i_1).2 r)]))]))]):=by kernel_rfl
theorem fmf (g:Nat→T_Bar) (nb N:Nat) (pl:Nat→T_Place) (np:Nat) (q:Nat) (W:Nat→Nat→Int) (i:Nat) (w:Nat→Int) :
    pathOb Tryz.prog Tryz.f135 0 [rg 1,.dec true,rg 3,rm [(2,oc [] (.p (.bool false)))] 1,.dec true,rg 3] zf109 (FmI g nb N pl np q W i) [.pl ⟨2,some i⟩] 1 [(0,iOb (2*N) w)] (.tup [.ar 1 0 0 (2*N),.p (.bool true)]) =
    some [((decide ((↑i:Int)<(↑q:Int)))=true),(IL 0 (↑i:Int)),(IT (↑i:Int) (↑q:Int)),(NT i q),(NT 0 1),(NT i q),(AN 1),(NL (2*N) (2*N)),Con Tryz.prog 208 0 [] [(zf34 N nb g np pl),.p (.seq true 1 (2*N) (fun i_1=>[.int .i64 ((cM (2*N) W i).2 i_1)]))] [] (.p (.bool false)),((!false)=true),(AN i),(AN 0),(AN ((2*N))),(true=true),(NT i q),(AN 1),(NL (2*N) (2*N)),(∀ i_1:Nat,(((i_1:Nat)<(2*N))→(All []∧(([.p (.int .i64 ((cM (2*N) W i).2 i_1))]:List AV)=[.p (.int .i64 (w i_1))])))),(AE ((2*N)))]:=by kernel_rfl
theorem fme (g:Nat→T_Bar) (nb N:Nat) (pl:Nat→T_Place) (np:Nat) (q:Nat) (W:Nat→Nat→Int) (i:Nat) (w:Nat→Int) :
    pathOb Tryz.prog Tryz.f135 0 [rg 1,.dec false,rg 3] zf109 (FmI g nb N pl np q W i) [35] 1 [(0,iOb 0 w)] (.tup [.ar 1 0 0 0,.p (.bool false)]) =
    some [((decide ((↑i:Int)<(↑q:Int)))=false),(AN 0),(AN 0),(false=false),(AN 1),(NL 0 0),(∀ i_1:Nat,(((i_1:Nat)<0)→(All []∧(([.p (.int .i64 0)]:List AV)=[.p (.int .i64 (w i_1))])))),(AE 0)]:=by kernel_rfl
theorem fnz (g:Nat→T_Bar) (nb N:Nat) (pl:Nat→T_Place) (np:Nat) (q:Nat) (W:Nat→Nat→Int) :
    pieceOb Tryz.prog 0 [rg 3,rm [(1,oc [(0,ooOb 1 q (cM (2*N) W)),(1,ffOb q (cM (2*N) W))] (.ar 1 0 0 q))] 1,rg 1,.head] [.code (bodyOf Tryz.f125)] (start Tryz.f125 [] 0 [frA g nb N pl np]) [0,128,129] 1 (FmS g nb N pl np q W 0) =
    some (zf79,[(NT 0 1),Con Tryz.prog 230 0 [] [(zf39 N nb g np pl)] [(0,⟨false,1,q,(fun i=>[.ar 1 ⟨1,some i⟩ 0 (2*N)])⟩),(1,⟨true,0,q,(fun i=>[.p (.seq false 1 (2*N) (fun i_1=>[.int .i64 ((cM (2*N) W i).2 i_1)]))])⟩)] (.ar 1 0 0 q),(AN 0),(AN 0),(AN q),((0:Int)=(↑0:Int)),((([AV.p (PV.int IntKind.i64 (↑N:Int)),brL g nb,pcL pl np].length):Nat)=3),(NL 1 1),(NL 1 1),(AI ((↑N:Int))),(AN nb),(AP nb (bRw g)),(AN np),(AP np (bRw pl)),(AN 1),(NL q q),(AA q (fun i=>[.ar 1 ⟨2,some i⟩ 0 (2*N)])),(NL q q),(∀ i:Nat,(((i:Nat)<q)→All [(AN 1),(((2*N):Nat)≤(2*N)),(AP ((2*N)) (fun r=>[.int .i64 ((cM (2*N) W i).2 r)]))]))]):=by kernel_rfl
theorem fnt (g:Nat→T_Bar) (nb N:Nat) (pl:Nat→T_Place) (np:Nat) (q:Nat) (W:Nat→Nat→Int) (i:Nat) :
    pieceOb Tryz.prog 0 [rg 4,.dec true,rm [(5,oc [] (.p (.bool true)))] 1,.dec false,rg 3,.head] zf79 (FmS g nb N pl np q W i) [0,1,2] 1 (FmS g nb N pl np q W (i+1)) =
    some (zf79,[((decide ((↑i:Int)<(↑q:Int)))=true),(NT 0 1),(IL 0 (↑i:Int)),(IT (↑i:Int) (↑q:Int)),(NT i q),(NT i q),(AN 1),(NL (2*N) (2*N)),Con Tryz.prog 199 0 [] [(zf34 N nb g np pl),.p (.seq true 1 (2*N) (fun i_1=>[.int .i64 ((cM (2*N) W i).2 i_1)]))] [] (.p (.bool true)),((!true)=false),(ZLo ((↑i:Int)+1)),(ZHi ((↑i:Int)+1)),(AN 0),(AN 0),(AN q),((((↑i:Int)+1):Int)=(↑(i+1):Int)),(AN 3),(NL 1 1),(NL 1 1),(AI ((↑N:Int))),(AN nb),(AP nb (bRw g)),(AN np),(AP np (bRw pl)),(AN 1),(NL q q),(AA q (fun i_1=>[.ar 1 ⟨2,some i_1⟩ 0 (2*N)])),(NL q q),(∀ i_1:Nat,(((i_1:Nat)<q)→All [(AN 1),(((2*N):Nat)≤(2*N)),(AP ((2*N)) (fun r=>[.int .i64 ((cM (2*N) W i_1).2 r)]))]))]):=by kernel_rfl
theorem fnf (g:Nat→T_Bar) (nb N:Nat) (pl:Nat→T_Place) (np:Nat) (q:Nat) (W:Nat→Nat→Int) (i:Nat) (w:Nat→Int) :
    pathOb Tryz.prog Tryz.f125 0 [rg 4,.dec true,rm [(5,oc [] (.p (.bool false)))] 1,.dec true,rg 6] zf79 (FmS g nb N pl np q W i) [.pl ⟨2,some i⟩] 1 [(0,iOb (2*N) w)] (.tup [.ar 1 0 0 (2*N),.p (.bool true)]) =
    some [((decide ((↑i:Int)<(↑q:Int)))=true),(NT 0 1),(IL 0 (↑i:Int)),(IT (↑i:Int) (↑q:Int)),(NT i q),(NT i q),(AN 1),(NL (2*N) (2*N)),Con Tryz.prog 199 0 [] [(zf34 N nb g np pl),.p (.seq true 1 (2*N) (fun i_1=>[.int .i64 ((cM (2*N) W i).2 i_1)]))] [] (.p (.bool false)),((!false)=true),(IL 0 (↑i:Int)),(IT (↑i:Int) (↑q:Int)),(NT i q),(AN i),(AN 0),(AN ((2*N))),(true=true),(NT i q),(AN 1),(NL (2*N) (2*N)),(∀ i_1:Nat,(((i_1:Nat)<(2*N))→(All []∧(([.p (.int .i64 ((cM (2*N) W i).2 i_1))]:List AV)=[.p (.int .i64 (w i_1))])))),(AE ((2*N)))]:=by kernel_rfl
theorem fne (g:Nat→T_Bar) (nb N:Nat) (pl:Nat→T_Place) (np:Nat) (q:Nat) (W:Nat→Nat→Int) (i:Nat) (w:Nat→Int) :
    pathOb Tryz.prog Tryz.f125 0 [rg 4,.dec false,rg 3] zf79 (FmS g nb N pl np q W i) [131] 1 [(0,iOb 0 w)] (.tup [.ar 1 0 0 0,.p (.bool false)]) =
    some [((decide ((↑i:Int)<(↑q:Int)))=false),(AN 0),(AN 0),(false=false),(AN 1),(NL 0 0),(∀ i_1:Nat,(((i_1:Nat)<0)→(All []∧(([.p (.int .i64 0)]:List AV)=[.p (.int .i64 (w i_1))])))),(AE 0)]:=by kernel_rfl
def flB (pl:Nat→T_Place) (v:T_IntS) (a b:Nat):Bool :=
  bif ((pl a).1 - (pl 0).1)*((pl b).2.1 - (pl 0).2.1)==((pl a).2.1 - (pl 0).2.1)*((pl b).1 - (pl 0).1) then bif ((pl b).1 - (pl 0).1)*(v.2 (2*a) - v.2 0)+((pl b).2.1 - (pl 0).2.1)*(v.2 (2*a+1) - v.2 1) != ((pl a).1 - (pl 0).1)*(v.2 (2*b) - v.2 0)+((pl a).2.1 - (pl 0).2.1)*(v.2 (2*b+1) - v.2 1) then true else ((pl b).1 - (pl 0).1)*(v.2 (2*a+1) - v.2 1) - ((pl b).2.1 - (pl 0).2.1)*(v.2 (2*a) - v.2 0) != ((pl a).1 - (pl 0).1)*(v.2 (2*b+1) - v.2 1) - ((pl a).2.1 - (pl 0).2.1)*(v.2 (2*b) - v.2 0) else false
def paB (pl:Nat→T_Place) (v:T_IntS) (a b:Nat):Bool :=
  bif chV pl v a b != 0 then true else bif (pl a).1==(pl b).1&&((pl a).2.1==(pl b).2.1&&true) then bif v.2 (2*a) != v.2 (2*b) then true else v.2 (2*a+1) != v.2 (2*b+1) else false
def flP (N:Nat) (pl:Nat→T_Place) (v:T_IntS):Prop:=∀ a,a<N→∀ b,1≤b→b<a→flB pl v a b=false
def paP (N:Nat) (pl:Nat→T_Place) (v:T_IntS):Prop:=∀ a,a<N→∀ b,b<a→paB pl v a b=false
theorem flB_iff {pl:Nat→T_Place} {v:T_IntS} {a b:Nat}:flB pl v a b=false↔(xP pl a*yP pl b=yP pl a*xP pl b→xP pl b*uPm v a+yP pl b*wP v a=xP pl a*uPm v b+yP pl a*wP v b∧xP pl b*wP v a - yP pl b*uPm v a=xP pl a*wP v b - yP pl a*uPm v b):=by
  unfold flB xP yP uPm wP
  generalize ((pl a).1 - (pl 0).1)*((pl b).2.1 - (pl 0).2.1)=e1
  generalize ((pl a).2.1 - (pl 0).2.1)*((pl b).1 - (pl 0).1)=e2
  generalize ((pl b).1 - (pl 0).1)*(v.2 (2*a) - v.2 0)+((pl b).2.1 - (pl 0).2.1)*(v.2 (2*a+1) - v.2 1)=e3
  generalize ((pl a).1 - (pl 0).1)*(v.2 (2*b) - v.2 0)+((pl a).2.1 - (pl 0).2.1)*(v.2 (2*b+1) - v.2 1)=e4
  generalize ((pl b).1 - (pl 0).1)*(v.2 (2*a+1) - v.2 1) - ((pl b).2.1 - (pl 0).2.1)*(v.2 (2*a) - v.2 0)=e5
  generalize ((pl a).1 - (pl 0).1)*(v.2 (2*b+1) - v.2 1) - ((pl a).2.1 - (pl 0).2.1)*(v.2 (2*b) - v.2 0)=e6
  by_cases h1:e1=e2
  · by_cases h2:e3=e4
    · by_cases h3:e5=e6
      · simp [h1,h2,h3]
      · simp [h1,h2,h3]
    · simp [h1,h2]
  · have:(e1==e2)=false:=by simpa using h1
    rw [this]
    simp [h1]
theorem paB_iff {pl:Nat→T_Place} {v:T_IntS} {a b:Nat}:paB pl v a b=false↔(xP pl a - xP pl b)*(uPm v a - uPm v b)+(yP pl a - yP pl b)*(wP v a - wP v b)=0∧(xP pl a=xP pl b→yP pl a=yP pl b→uPm v a=uPm v b∧wP v a=wP v b):=by
  have e:chV pl v a b=(xP pl a - xP pl b)*(uPm v a - uPm v b)+(yP pl a - yP pl b)*(wP v a - wP v b):=by
    unfold chV xP yP uPm wP
    have a1:(pl a).1 - (pl 0).1 - ((pl b).1 - (pl 0).1)=(pl a).1 - (pl b).1:=by omega
    have a2:(pl a).2.1 - (pl 0).2.1 - ((pl b).2.1 - (pl 0).2.1)=(pl a).2.1 - (pl b).2.1:=by omega
    have a3:v.2 (2*a) - v.2 0 - (v.2 (2*b) - v.2 0)=v.2 (2*a) - v.2 (2*b):=by omega
    have a4:v.2 (2*a+1) - v.2 1 - (v.2 (2*b+1) - v.2 1)=v.2 (2*a+1) - v.2 (2*b+1):=by omega
    rw [a1,a2,a3,a4]
  rw [← e]
  unfold paB xP yP uPm wP
  generalize chV pl v a b=x
  have i1:(pl a).1 - (pl 0).1=(pl b).1 - (pl 0).1↔(pl a).1=(pl b).1:=by omega
  have i2:(pl a).2.1 - (pl 0).2.1=(pl b).2.1 - (pl 0).2.1↔(pl a).2.1=(pl b).2.1:=by omega
  have i3:v.2 (2*a) - v.2 0=v.2 (2*b) - v.2 0↔v.2 (2*a)=v.2 (2*b):=by omega
  have i4:v.2 (2*a+1) - v.2 1=v.2 (2*b+1) - v.2 1↔v.2 (2*a+1)=v.2 (2*b+1):=by omega
  rw [i1,i2,i3,i4]
  generalize (pl a).1=c1
  generalize (pl b).1=c2
  generalize (pl a).2.1=c3
  generalize (pl b).2.1=c4
  generalize v.2 (2*a)=c5
  generalize v.2 (2*b)=c6
  generalize v.2 (2*a+1)=c7
  generalize v.2 (2*b+1)=c8
  by_cases h0:x=0
  · by_cases h1:c1=c2
    · by_cases h2:c3=c4
      · by_cases h3:c5=c6
        · by_cases h4:c7=c8
          · simp [h0,h1,h2,h3,h4]
          · simp [h0,h1,h2,h3,h4]
        · simp [h0,h1,h2,h3]
      · simp [h0,h1,h2]
    · simp [h0,h1]
  · simp [h0]
theorem tm_iff {N:Nat} {pl:Nat→T_Place} {v:T_IntS}:tmP N pl v↔paP N pl v∧flP N pl v:=by
  constructor
  · intro h
    exact ⟨fun a ha b hb=>paB_iff.2 ⟨h.ch a b ha hb,h.same a b ha hb⟩,fun a ha b h1 hb=>flB_iff.2 (h.flat a b ha hb h1)⟩
  · rintro ⟨h1,h2⟩
    exact ⟨fun a b ha hb=>(paB_iff.1 (h1 a ha b hb)).1,fun a b ha hb=>(paB_iff.1 (h1 a ha b hb)).2,fun a b ha hb h=>flB_iff.1 (h2 a ha b h hb)⟩
open Classical in
theorem con_Flat12 {g:Nat→T_Bar} {nb N:Nat} {pl:Nat→T_Place} {np:Nat} {v:T_IntS} (ok:VOk g nb N pl np v) :
    Con Tryz.prog 301 0 [] [frA g nb N pl np,inL v] [] (.p (.bool (decide (flP N pl v)))):=by
  obtain ⟨hf,hl,hN,hnp,hnb,sm,px,hv,hg⟩:=ok
  have p0:=px 0 (by omega)
  have s0:=sm 0 (by omega)
  have s1:=sm 1 (by omega)
  refine csZ Tryz.func301 (fun c hc=>?_)
  have l1:∀ a,a<N→1≤a→(∀ a',a'<a→∀ b,1≤b→b<a'→flB pl v a' b=false) →
      ((∀ b,1≤b→b<a→flB pl v a b=false)→Run Tryz.prog c 301 zf106 (TF0 g nb N pl np v (a+1)) (Post c [] (.p (.bool (decide (flP N pl v)))))) →
      ∀ d b,b+d=a→1≤b→(∀ b',1≤b'→b'<b→flB pl v a b'=false)→Run Tryz.prog c 301 zf23 (TF1 g nb N pl np v a b) (Post c [] (.p (.bool (decide (flP N pl v))))):=by
    intro a ha ha1 hall hnext d
    induction d with
    | zero =>
      intro b hb hb1 hrow
      obtain rfl:b=a:=by omega
      have hd:decide ((b:Int)<(b:Int))=false:=decide_eq_false (by omega)
      refine pcZ hc (tfd g nb N pl np v b b) ?_ (hnext hrow)
      repeat' (first | exact aN | apply aI)
      all_goals (first | exact aP _ _ | omega | rfl | (intros;first | assumption | exact trivial | rfl) | (exact hd) | (intro t ht;simp [All];done))
    | succ d ih =>
      intro b hb hb1 hrow
      have hd:decide ((b:Int)<(a:Int))=true:=decide_eq_true (by omega)
      have pa:=px a (by omega)
      have pb:=px b (by omega)
      have sa:=sm (2*a) (by omega)
      have ta:=sm (2*a+1) (by omega)
      have sb:=sm (2*b) (by omega)
      have tb:=sm (2*b+1) (by omega)
      have m1:=Trv.bdm (a:=(pl a).1 - (pl 0).1) (b:=(pl b).2.1 - (pl 0).2.1) (A:=4) (B:=4) (by omega) (by omega)
      have m2:=Trv.bdm (a:=(pl a).2.1 - (pl 0).2.1) (b:=(pl b).1 - (pl 0).1) (A:=4) (B:=4) (by omega) (by omega)
      have m3:=Trv.bdm (a:=(pl b).1 - (pl 0).1) (b:=v.2 (2*a) - v.2 0) (A:=4) (B:=20000000000) (by omega) (by omega)
      have m4:=Trv.bdm (a:=(pl b).2.1 - (pl 0).2.1) (b:=v.2 (2*a+1) - v.2 1) (A:=4) (B:=20000000000) (by omega) (by omega)
      have m5:=Trv.bdm (a:=(pl a).1 - (pl 0).1) (b:=v.2 (2*b) - v.2 0) (A:=4) (B:=20000000000) (by omega) (by omega)
      have m6:=Trv.bdm (a:=(pl a).2.1 - (pl 0).2.1) (b:=v.2 (2*b+1) - v.2 1) (A:=4) (B:=20000000000) (by omega) (by omega)
      have m7:=Trv.bdm (a:=(pl b).1 - (pl 0).1) (b:=v.2 (2*a+1) - v.2 1) (A:=4) (B:=20000000000) (by omega) (by omega)
      have m8:=Trv.bdm (a:=(pl b).2.1 - (pl 0).2.1) (b:=v.2 (2*a) - v.2 0) (A:=4) (B:=20000000000) (by omega) (by omega)
      have m9:=Trv.bdm (a:=(pl a).1 - (pl 0).1) (b:=v.2 (2*b+1) - v.2 1) (A:=4) (B:=20000000000) (by omega) (by omega)
      have m0:=Trv.bdm (a:=(pl a).2.1 - (pl 0).2.1) (b:=v.2 (2*b) - v.2 0) (A:=4) (B:=20000000000) (by omega) (by omega)
      cases hq:flB pl v a b with
      | false =>
        have hr:=ih (b+1) (by omega) (by omega) (fun b' h1 h2=>by
          by_cases h:b'=b
          · rw [h];exact hq
          · exact hrow b' h1 (by omega))
        unfold flB at hq
        refine pcZ hc (tfb g nb N pl np v a b) ?_ hr
        repeat' (first | exact aN | apply aI)
        all_goals (first | exact aG _ | exact aP _ _ | omega | rfl | (intros;first | assumption | exact trivial | rfl | exact fT ‹_› | ((repeat' (first | assumption | apply anda | apply notf));done)) | (exact hd) | (exact hq) | (intro h;exact h) | (intro h;omega) | (intro h;rw [h];rfl) | (intro h;simpa using h) | (intro t ht;simp [All];done))
      | true =>
        rw [show decide (flP N pl v)=false from decide_eq_false (fun h=>by have:=h a ha b hb1 (by omega);rw [hq] at this;cases this)]
        unfold flB at hq
        refine pkZ Tryz.func301 hc (tfc g nb N pl np v a b) ?_
        repeat' (first | exact aN | apply aI)
        all_goals (first | exact aG _ | omega | rfl | (intros;first | assumption | exact trivial | rfl | exact fT ‹_› | ((repeat' (first | assumption | apply anda | apply notf));done)) | (exact hd) | (exact hq) | (intro h;exact h) | (intro h;omega) | (intro h;rw [h];rfl) | (intro h;simpa using h))
  have l0:∀ d a,a+d=N→1≤a→(∀ a',a'<a→∀ b,1≤b→b<a'→flB pl v a' b=false)→Run Tryz.prog c 301 zf106 (TF0 g nb N pl np v a) (Post c [] (.p (.bool (decide (flP N pl v))))):=by
    intro d
    induction d with
    | zero =>
      intro a ha h1 hall
      obtain rfl:a=N:=by omega
      have hd:decide ((a:Int)<(a:Int))=false:=decide_eq_false (by omega)
      rw [decide_eq_true (show flP a pl v from hall)]
      refine pkZ Tryz.func301 hc (tfe g nb a pl np v a) ?_
      repeat' (first | exact aN | apply aI)
      all_goals (first | omega | rfl | (intros;first | assumption | exact trivial | rfl) | (exact hd))
    | succ d ih =>
      intro a ha h1 hall
      have hd:decide ((a:Int)<(N:Int))=true:=decide_eq_true (by omega)
      have hr:=l1 a (by omega) h1 hall (fun hrow=>ih (a+1) (by omega) (by omega) (fun a' h2=>by
        by_cases h:a'=a
        · rw [h];exact hrow
        · exact hall a' (by omega))) (a - 1) 1 (by omega) (Nat.le_refl _) (fun b' h2 h3=>absurd h3 (by omega))
      refine pcZ hc (tfa g nb N pl np v a) ?_ hr
      repeat' (first | exact aN | apply aI)
      all_goals (first | exact aP _ _ | omega | rfl | (intros;first | assumption | exact trivial | rfl) | (exact hd) | (intro t ht;simp [All];done))
  refine pcZ hc (tfz g nb N pl np v) ?_ (l0 (N - 1) 1 (by omega) (Nat.le_refl _) (fun a' h1 b h2 h3=>absurd h3 (by omega)))
  repeat' (first | exact aN | apply aI)
  all_goals (first | exact aP _ _ | omega | rfl | (intros;first | assumption | exact trivial | rfl) | (intro t ht;simp [All];done))
open Classical in
theorem con_Trivial12 (g:Nat→T_Bar) (nb:Nat) (N:Int) (pl:Nat→T_Place) (np:Nat) (v:T_IntS) (hn:nb≤1048576∧np≤1048576) (hv:v.1≤1048576) :
    Con Tryz.prog 199 0 [] [frA g nb N pl np,inL v] [] (.p (.bool (tmB g nb N pl np v))):=by
  have cv:=con_Vector g nb N pl np v hn hv
  cases hb:velB g nb N pl np v with
  | false =>
    rw [hb] at cv
    rw [tmB_n hb]
    refine csZ Tryz.func199 (fun c hc=>?_)
    have hd:(bif decide (((0:Nat):Int)<N) then false else false)=false:=by cases decide (((0:Nat):Int)<N)<;>rfl
    refine pcZ hc (tsz g nb N pl np v) ?_ (pkZ Tryz.func199 hc (tse g nb N pl np v 0 false false) ?_)
    ·
      repeat' (first | exact aN | apply aI)
      all_goals (first | exact aP _ _ | omega | rfl | (intros;first | assumption | exact trivial | rfl) | (intro t ht;simp [All];done))
    ·
      repeat' (first | exact aN | apply aI)
      all_goals (first | exact aG _ | exact aP _ _ | exact aA _ _ | exact aE _ | omega | rfl | (intros;first | assumption | exact trivial | rfl | exact fT ‹_› | ((repeat' (first | assumption | apply anda | apply notf));done)) | (exact hd) | (intro _;exact cv) | (exact cv) | (intro h;exact h) | (intro h;cases h) | rfl)
  | true =>
    rw [hb] at cv
    obtain ⟨n,rfl⟩:∃ n:Nat,N=n:=by
      have hb':=hb
      unfold velB at hb'
      cases hf:fwB g nb N pl np with
      | false=>rw [hf] at hb';cases hb'
      | true=>exact fw_N hf
    have ok:=vOk hb
    have cfl:=con_Flat12 ok
    have cch:=fun a b (ha:a<n) (hb:b<n)=>(con_Change ok ha hb).2
    obtain ⟨hf,hl,hN,hnp,hnb,sm,px,hv',hg⟩:=ok
    refine csZ Tryz.func199 (fun c hc=>?_)
    have l1:∀ a,a<n→(∀ a',a'<a→∀ b,b<a'→paB pl v a' b=false) →
        ((∀ b,b<a→paB pl v a b=false)→Run Tryz.prog c 199 zf105 (TS0 g nb n pl np v (a+1:Nat)) (Post c [] (.p (.bool (tmB g nb n pl np v))))) →
        ∀ d b,b+d=a→(∀ b',b'<b→paB pl v a b'=false)→Run Tryz.prog c 199 zf22 (TS1 g nb n pl np v a b) (Post c [] (.p (.bool (tmB g nb n pl np v)))):=by
      intro a ha hall hnext d
      induction d with
      | zero =>
        intro b hb hrow
        obtain rfl:b=a:=by omega
        have hd:decide ((b:Int)<(b:Int))=false:=decide_eq_false (by omega)
        refine pcZ hc (tsd g nb n pl np v b b) ?_ (hnext hrow)
        repeat' (first | exact aN | apply aI)
        all_goals (first | exact aP _ _ | omega | rfl | (intros;first | assumption | exact trivial | rfl) | (exact hd) | (intro t ht;simp [All];done))
      | succ d ih =>
        intro b hb hrow
        have hd:decide ((b:Int)<(a:Int))=true:=decide_eq_true (by omega)
        have cx:=cch a b ha (by omega)
        cases hq:paB pl v a b with
        | false =>
          have hr:=ih (b+1) (by omega) (fun b' h2=>by
            by_cases h:b'=b
            · rw [h];exact hq
            · exact hrow b' (by omega))
          unfold paB at hq
          refine pcZ hc (tsb g nb n pl np v a b (chV pl v a b)) ?_ hr
          repeat' (first | exact aN | apply aI)
          all_goals (first | exact aG _ | exact aP _ _ | omega | rfl | (intros;first | assumption | exact trivial | rfl | exact fT ‹_› | ((repeat' (first | assumption | apply anda | apply notf));done)) | (exact hd) | (exact cx) | (exact hq) | (intro h;exact h) | (intro h;omega) | (intro h;rw [h];rfl) | (intro h;simpa using h) | (intro t ht;simp [All];done))
        | true =>
          rw [tmB_f (fun h=>by have:=(tm_iff.1 h).1 a ha b (by omega);rw [hq] at this;cases this)]
          unfold paB at hq
          refine pkZ Tryz.func199 hc (tsc g nb n pl np v a b (chV pl v a b)) ?_
          repeat' (first | exact aN | apply aI)
          all_goals (first | exact aG _ | omega | rfl | (intros;first | assumption | exact trivial | rfl | exact fT ‹_› | ((repeat' (first | assumption | apply anda | apply notf));done)) | (exact hd) | (exact cx) | (exact hq) | (intro h;exact h) | (intro h;omega) | (intro h;rw [h];rfl) | (intro h;simpa using h))
    have l0:∀ d a,a+d=n→(∀ a',a'<a→∀ b,b<a'→paB pl v a' b=false)→Run Tryz.prog c 199 zf105 (TS0 g nb n pl np v a) (Post c [] (.p (.bool (tmB g nb n pl np v)))):=by
      intro d
      induction d with
      | zero =>
        intro a ha hall
        obtain rfl:a=n:=by omega
        have hd:(bif decide ((a:Int)<(a:Int)) then true else false)=false:=by simp
        rw [show tmB g nb a pl np v=(bif true then (decide (flP a pl v)) else false) by
          show _=(decide (flP a pl v))
          by_cases h:flP a pl v
          · rw [tmB_t hb (tm_iff.2 ⟨hall,h⟩)];exact (decide_eq_true h).symm
          · rw [tmB_f (fun h'=>h (tm_iff.1 h').2)];exact (decide_eq_false h).symm]
        refine pkZ Tryz.func199 hc (tse g nb a pl np v a true _) ?_
        repeat' (first | exact aN | apply aI)
        all_goals (first | exact aG _ | omega | rfl | (intros;first | assumption | exact trivial | rfl | exact fT ‹_›) | (exact hd) | (intro _;exact cv) | (exact cv) | (intro _;exact cfl) | (intro h;exact h) | rfl)
      | succ d ih =>
        intro a ha hall
        have hd:(bif decide ((a:Int)<(n:Int)) then true else false)=true:=by rw [decide_eq_true (show (a:Int)<(n:Int) by omega)];rfl
        have hr:=l1 a (by omega) hall (fun hrow=>ih (a+1) (by omega) (fun a' h2=>by
          by_cases h:a'=a
          · rw [h];exact hrow
          · exact hall a' (by omega))) a 0 (by omega) (fun b' h3=>absurd h3 (Nat.not_lt_zero _))
        refine pcZ hc (tsa g nb n pl np v a) ?_ hr
        repeat' (first | exact aN | apply aI)
        all_goals (first | exact aG _ | exact aP _ _ | omega | rfl | (intros;first | assumption | exact trivial | rfl | exact fT ‹_›) | (exact hd) | (intro _;exact cv) | (intro h;exact h) | (intro t ht;simp [All];done))
    refine pcZ hc (tsz g nb n pl np v) ?_ (l0 n 0 (by omega) (fun a' h1=>absurd h1 (Nat.not_lt_zero _)))
    repeat' (first | exact aN | apply aI)
    all_goals (first | exact aP _ _ | omega | rfl | (intros;first | assumption | exact trivial | rfl) | (intro t ht;simp [All];done))
end Go.Proofs.YtkkjoghiigiokaaGreat.Mach
namespace Go.Proofs.YtkkjoghiigiokaaGreat.Mach
open Go
set_option linter.unusedVariables false
set_option linter.unusedSimpArgs false
def kdP (w:T_IntS) (i:Nat):Bool:=inB (w.2 i) 0 2
def tsB (g:Nat→T_Bar) (nb:Nat) (N:Int) (pl:Nat→T_Place) (np:Nat) (w:T_IntS):Bool:=allB (kdP w) w.1&&(bif fwB g nb N pl np then (w.1:Int)==(nb:Int) else false)
theorem con_IsTensegrity_i (g:Nat→T_Bar) (nb:Nat) (N:Int) (pl:Nat→T_Place) (np:Nat) (w:T_IntS) (hn:nb≤1048576∧np≤1048576) (hw:w.1≤1048576):Con Tryz.prog 151 0 [] [tsA g nb N pl np w] [] (.p (.bool (tsB g nb N pl np w))):=by
  have hf:=con_IsFramework_i g nb N pl np hn
  refine csZ Tryz.func151 (fun c hc=>?_)
  have lo:∀ d i,i+d=w.1→allB (kdP w) i=true→Run Tryz.prog c 151 zf100 (FT0 g nb N pl np w i) (Post c [] (.p (.bool (tsB g nb N pl np w)))):=by
    intro d
    induction d with
    | zero =>
      intro i hi h1
      obtain rfl:i=w.1:=by omega
      have hd:decide ((w.1:Int)<(w.1:Int))=false:=by simp
      rw [show tsB g nb N pl np w=(bif fwB g nb N pl np then (w.1:Int)==(nb:Int) else false) by unfold tsB;rw [h1];rfl]
      refine pkZ Tryz.func151 hc (yTe g nb N pl np w w.1 (fwB g nb N pl np)) ?_
      repeat' (first | exact aN | apply aI)
      all_goals (first | exact aG _ | omega | rfl | (intros;first | assumption | exact trivial | rfl | exact fT ‹_›) | (exact hd) | (exact hf) | rfl)
    | succ d ih =>
      intro i hi h1
      have hd:decide ((i:Int)<(w.1:Int))=true:=decide_eq_true (by omega)
      have hp:=con_within (w.2 i) 0 2
      change Con _ _ _ _ _ _ (.p (.bool (kdP w i))) at hp
      cases hb:kdP w i with
      | true =>
        rw [hb] at hp
        refine pcZ hc (yTt g nb N pl np w i) ?_ (ih (i+1) (by omega) (by rw [allB,h1,hb];rfl))
        repeat' (first | exact aN | apply aI)
        all_goals (first | exact aP _ _ | omega | rfl | (intros;first | assumption | exact trivial | rfl) | (exact hd) | (exact hp) | rfl | (simp;done) | (simp;omega))
      | false =>
        rw [hb] at hp
        rw [show tsB g nb N pl np w=false by unfold tsB;rw [all_no (show i<w.1 by omega) hb];rfl]
        refine pkZ Tryz.func151 hc (yTx g nb N pl np w i) ?_
        repeat' (first | exact aN | apply aI)
        all_goals (first | omega | rfl | (intros;first | assumption | exact trivial | rfl) | (exact hd) | (exact hp) | rfl | (simp;done) | (simp;omega))
  refine pcZ hc (yTz g nb N pl np w) ?_ (lo w.1 0 (by omega) rfl)
  repeat' (first | exact aN | apply aI)
  all_goals (first | exact aP _ _ | omega | rfl | (intros;first | assumption | exact trivial | rfl) | (simp;done))
theorem con_IsTensegrity_s (g:Nat→T_Bar) (nb:Nat) (N:Int) (pl:Nat→T_Place) (np:Nat) (w:T_IntS) (hn:nb≤1048576∧np≤1048576) (hw:w.1≤1048576):Con Tryz.prog 147 0 [] [tsA g nb N pl np w] [] (.p (.bool (tsB g nb N pl np w))):=by
  have hf:=con_IsFramework_s g nb N pl np hn
  refine csZ Tryz.func147 (fun c hc=>?_)
  have lo:∀ d i,i+d=w.1→allB (kdP w) i=true→Run Tryz.prog c 147 zf101 (FU0 g nb N pl np w i) (Post c [] (.p (.bool (tsB g nb N pl np w)))):=by
    intro d
    induction d with
    | zero =>
      intro i hi h1
      obtain rfl:i=w.1:=by omega
      have hd:decide ((w.1:Int)<(w.1:Int))=false:=by simp
      rw [show tsB g nb N pl np w=(bif fwB g nb N pl np then (w.1:Int)==(nb:Int) else false) by unfold tsB;rw [h1];rfl]
      refine pkZ Tryz.func147 hc (zTe g nb N pl np w w.1 (fwB g nb N pl np)) ?_
      repeat' (first | exact aN | apply aI)
      all_goals (first | exact aG _ | omega | rfl | (intros;first | assumption | exact trivial | rfl | exact fT ‹_›) | (exact hd) | (exact hf) | rfl)
    | succ d ih =>
      intro i hi h1
      have hd:decide ((i:Int)<(w.1:Int))=true:=decide_eq_true (by omega)
      have hp:=con_l1In (w.2 i) 0 2
      change Con _ _ _ _ _ _ (.p (.bool (kdP w i))) at hp
      cases hb:kdP w i with
      | true =>
        rw [hb] at hp
        refine pcZ hc (zTt g nb N pl np w i) ?_ (ih (i+1) (by omega) (by rw [allB,h1,hb];rfl))
        repeat' (first | exact aN | apply aI)
        all_goals (first | exact aP _ _ | omega | rfl | (intros;first | assumption | exact trivial | rfl) | (exact hd) | (exact hp) | rfl | (simp;done) | (simp;omega))
      | false =>
        rw [hb] at hp
        rw [show tsB g nb N pl np w=false by unfold tsB;rw [all_no (show i<w.1 by omega) hb];rfl]
        refine pkZ Tryz.func147 hc (zTx g nb N pl np w i) ?_
        repeat' (first | exact aN | apply aI)
        all_goals (first | omega | rfl | (intros;first | assumption | exact trivial | rfl) | (exact hd) | (exact hp) | rfl | (simp;done) | (simp;omega))
  refine pcZ hc (zTz g nb N pl np w) ?_ (lo w.1 0 (by omega) rfl)
  repeat' (first | exact aN | apply aI)
  all_goals (first | exact aP _ _ | omega | rfl | (intros;first | assumption | exact trivial | rfl) | (simp;done))
def kdL (x:Int):ByteArray:=if x=0 then ⟨#[98]⟩ else if x=1 then ⟨#[99]⟩ else ⟨#[115]⟩
def kdT (w:T_IntS):Nat→ByteArray
  | 0=>sE
  | i+1=>kdT w i++kdL (w.2 i)
theorem kdL_size (x:Int):(kdL x).size=1:=by unfold kdL;split;rfl;split<;>rfl
theorem kdT_size (w:T_IntS):∀ i,(kdT w i).size=i
  | 0=>rfl
  | i+1=>by rw [kdT,ByteArray.size_append,kdT_size w i,kdL_size]
def klB (w:T_IntS):ByteArray:=if w.1=0 then sNone else kdT w w.1
theorem klB_size (w:T_IntS):(klB w).size≤w.1+4:=by
  unfold klB
  split
  · show 4≤_;omega
  · rw [kdT_size];omega
theorem kd_ex {x:Int} (h:0≤x∧x≤2):(ByteArray.mk #[98,99,115]).extract x.toNat (x+1).toNat=kdL x:=by
  have:x=0∨x=1∨x=2:=by omega
  rcases this with rfl | rfl | rfl<;>rfl
theorem con_kindLetters (w:T_IntS) (hw:w.1≤1048576) (hk:allB (kdP w) w.1=true):Con Tryz.prog 152 0 [] [inL w] [] (.p (.str (klB w))):=by
  refine csZ Tryz.func152 (fun c hc=>?_)
  have lo:∀ d i,i+d=w.1→Run Tryz.prog c 152 zf75 (FKi w i (kdT w i)) (Post c [] (.p (.str (klB w)))):=by
    intro d
    induction d with
    | zero =>
      intro i hi
      obtain rfl:i=w.1:=by omega
      have hd:decide ((w.1:Int)<(w.1:Int))=false:=by simp
      have hs:=str_nil (kdT w w.1)
      rw [kdT_size] at hs
      by_cases h0:w.1=0
      · rw [decide_eq_true h0] at hs
        rw [show klB w=sNone by simp [klB,h0]]
        refine pkZ Tryz.func152 hc (yKn w w.1 _) ?_
        repeat' (first | exact aN | apply aI)
        all_goals (first | omega | rfl | (intros;first | assumption | exact trivial | rfl) | (exact hd) | (exact hs) | rfl)
      · rw [decide_eq_false h0] at hs
        rw [show klB w=kdT w w.1 by simp [klB,h0]]
        refine pkZ Tryz.func152 hc (yKe w w.1 _) ?_
        repeat' (first | exact aN | apply aI)
        all_goals (first | omega | rfl | (intros;first | assumption | exact trivial | rfl) | (exact hd) | (exact hs) | rfl)
    | succ d ih =>
      intro i hi
      have hd:decide ((i:Int)<(w.1:Int))=true:=decide_eq_true (by omega)
      have hki:=(all_iff _ _).1 hk i (by omega)
      simp only [kdP,inB,Bool.and_eq_true,decide_eq_true_eq] at hki
      have hrec:=ih (i+1) (by omega)
      rw [kdT,← kd_ex hki] at hrec
      have hz:((ByteArray.mk #[98,99,115]).extract (w.2 i).toNat (w.2 i+1).toNat).size=1:=by rw [kd_ex hki,kdL_size]
      have hz2:=kdT_size w i
      generalize kdT w i=s at hrec hz2 ⊢
      refine pcZ hc (yKt w i s) ?_ hrec
      repeat' (first | exact aN | apply aI)
      all_goals (first | exact aP _ _ | omega | rfl | (intros;first | assumption | exact trivial | rfl) | (exact hd) | (show _≤((3:Nat):Int);omega) | (rw [hz];omega) | (simp;omega))
  refine pcZ hc (yKz w) ?_ (lo w.1 0 (by omega))
  repeat' (first | exact aN | apply aI)
  all_goals (first | exact aP _ _ | omega | rfl | (intros;first | assumption | exact trivial | rfl) | rfl | (simp;done))
theorem con_l33Kinds (w:T_IntS) (hw:w.1≤1048576):Con Tryz.prog 149 0 [] [inL w] [] (.p (.str (klB w))):=by
  refine csZ Tryz.func149 (fun c hc=>?_)
  have lo:∀ d i,i+d=w.1→Run Tryz.prog c 149 zf76 (FKs w i (kdT w i)) (Post c [] (.p (.str (klB w)))):=by
    intro d
    induction d with
    | zero =>
      intro i hi
      obtain rfl:i=w.1:=by omega
      have hd:decide ((w.1:Int)<(w.1:Int))=false:=by simp
      have hs:=str_nil (kdT w w.1)
      rw [kdT_size] at hs
      by_cases h0:w.1=0
      · rw [decide_eq_true h0] at hs
        rw [show klB w=sNone by simp [klB,h0]]
        refine pkZ Tryz.func149 hc (zKn w w.1 _) ?_
        repeat' (first | exact aN | apply aI)
        all_goals (first | omega | rfl | (intros;first | assumption | exact trivial | rfl) | (exact hd) | (exact hs) | rfl)
      · rw [decide_eq_false h0] at hs
        rw [show klB w=kdT w w.1 by simp [klB,h0]]
        refine pkZ Tryz.func149 hc (zKe w w.1 _) ?_
        repeat' (first | exact aN | apply aI)
        all_goals (first | omega | rfl | (intros;first | assumption | exact trivial | rfl) | (exact hd) | (exact hs) | rfl)
    | succ d ih =>
      intro i hi
      have hd:decide ((i:Int)<(w.1:Int))=true:=decide_eq_true (by omega)
      have hrec:=ih (i+1) (by omega)
      have hz2:=kdT_size w i
      have q1:(ByteArray.mk #[98]).size=1:=rfl
      have q2:(ByteArray.mk #[99]).size=1:=rfl
      have q3:(ByteArray.mk #[115]).size=1:=rfl
      rw [kdT] at hrec
      generalize kdT w i=s at hrec hz2 ⊢
      by_cases h0:w.2 i=0
      · have e0:(w.2 i==0)=true:=by rw [h0];rfl
        rw [show kdL (w.2 i)=ByteArray.mk #[98] by simp [kdL,h0]] at hrec
        refine pcZ hc (zKa w i s) ?_ hrec
        repeat' (first | exact aN | apply aI)
        all_goals (first | exact aP _ _ | omega | rfl | (intros;first | assumption | exact trivial | rfl) | (exact hd) | (exact e0) | (simp only [q1];omega) | (simp;omega))
      · have e0:(w.2 i==0)=false:=beq_eq_false_iff_ne.2 h0
        by_cases h1:w.2 i=1
        · have e1:(w.2 i==1)=true:=by rw [h1];rfl
          rw [show kdL (w.2 i)=ByteArray.mk #[99] by simp [kdL,h1]] at hrec
          refine pcZ hc (zKb w i s) ?_ hrec
          repeat' (first | exact aN | apply aI)
          all_goals (first | exact aP _ _ | omega | rfl | (intros;first | assumption | exact trivial | rfl) | (exact hd) | (exact e0) | (exact e1) | (simp only [q2];omega) | (simp;omega))
        · have e1:(w.2 i==1)=false:=beq_eq_false_iff_ne.2 h1
          rw [show kdL (w.2 i)=ByteArray.mk #[115] by simp [kdL,h0,h1]] at hrec
          refine pcZ hc (zKc w i s) ?_ hrec
          repeat' (first | exact aN | apply aI)
          all_goals (first | exact aP _ _ | omega | rfl | (intros;first | assumption | exact trivial | rfl) | (exact hd) | (exact e0) | (exact e1) | (simp only [q3];omega) | (simp;omega))
  refine pcZ hc (zKz w) ?_ (lo w.1 0 (by omega))
  repeat' (first | exact aN | apply aI)
  all_goals (first | exact aP _ _ | omega | rfl | (intros;first | assumption | exact trivial | rfl) | rfl | (simp;done))
end Go.Proofs.YtkkjoghiigiokaaGreat.Mach
namespace Go.Proofs.YtkkjoghiigiokaaGreat.Mach
open Go
set_option linter.unusedVariables false
set_option linter.unusedSimpArgs false
def TnP (g:Nat→T_Bar) (nb:Nat) (N:Int) (pl:Nat→T_Place) (np:Nat) (K w:T_IntS) (i:Nat):St :=
  ⟨[tsA g nb N pl np K,inL w,.pt 4 0 0 0]++List.replicate 15 anyA++[inL K,.p (.int .i64 K.1),.p (.int .i64 i)]++List.replicate 25 anyA,[(0,tsO g nb N pl np K)],1⟩
def TnQ (g:Nat→T_Bar) (nb:Nat) (N:Int) (pl:Nat→T_Place) (np:Nat) (K w:T_IntS) (i:Nat):St :=
  ⟨[tsA g nb N pl np K,inL w,.pt 4 0 0 0]++List.replicate 2 anyA++[.p (.int .i64 i)]++List.replicate 44 anyA,[(0,tsO g nb N pl np K)],1⟩
def TnS (g:Nat→T_Bar) (nb:Nat) (N:Int) (pl:Nat→T_Place) (np:Nat) (K w:T_IntS) (i:Nat):St :=
  ⟨[tsA g nb N pl np K,inL w,.pt 4 0 0 0]++List.replicate 9 anyA++[inL K,.p (.int .i64 K.1),.p (.int .i64 i)]++List.replicate 14 anyA,[(0,tsO g nb N pl np K)],1⟩
def TnT (g:Nat→T_Bar) (nb:Nat) (N:Int) (pl:Nat→T_Place) (np:Nat) (K w:T_IntS) (i:Nat):St :=
  ⟨[tsA g nb N pl np K,inL w,.pt 4 0 0 0]++List.replicate 2 anyA++[.p (.int .i64 i)]++List.replicate 23 anyA,[(0,tsO g nb N pl np K)],1⟩
def TnM (g:Nat→T_Bar) (nb:Nat) (N:Int) (pl:Nat→T_Place) (np:Nat) (K w:T_IntS) (i:Nat):St :=
  ⟨[tsA g nb N pl np K,inL w,.pt 4 0 0 0]++List.replicate 18 anyA++[brL g nb,.p (.int .i64 nb),.p (.int .i64 i)]++List.replicate 47 anyA,[(0,tsO g nb N pl np K)],1⟩
def TnN (g:Nat→T_Bar) (nb:Nat) (N:Int) (pl:Nat→T_Place) (np:Nat) (K w:T_IntS) (i:Nat):St :=
  ⟨[tsA g nb N pl np K,inL w,.pt 4 0 0 0]++List.replicate 2 anyA++[.p (.int .i64 i)]++List.replicate 72 anyA,[(0,tsO g nb N pl np K)],1⟩
theorem tnpN (g:Nat→T_Bar) (nb:Nat) (N:Int) (pl:Nat→T_Place) (np:Nat) (K w:T_IntS) (b1 b2:Bool) :
    pathOb Tryz.prog Tryz.f304 0 [rg 2,rm [(1,oc [] (.p (.bool b1))),(5,oc [] (.p (.bool b2)))] 2,.dec true,rg 1] [.code (bodyOf Tryz.f304)] (start Tryz.f304 [] 0 [tsA g nb N pl np K,inL w]) [] 1 [] (.p (.bool false)) =
    some [(NT 0 1),Con Tryz.prog 151 0 [] [(zf30 N nb g np pl K)] [] (.p (.bool b1)),(AG (!!b1)),(((!!b1)=true)→(NT 0 1)),(AG (!!b1)),(AG (!!b1)),(((!!b1)=true)→ Con Tryz.prog 347 0 [] [(zf44 N nb g np pl),.p (.seq true 1 w.1 (iRw w))] [] (.p (.bool b2))),(AG (!!b1)),(((!b1)=false)→ ((!!b1)=true)),((bif !b1 then true else !b2)=true),(false=false)]:=by kernel_rfl
theorem tnpz (g:Nat→T_Bar) (nb:Nat) (N:Int) (pl:Nat→T_Place) (np:Nat) (K w:T_IntS) (b1 b2:Bool) :
    pieceOb Tryz.prog 0 [rg 2,rm [(1,oc [] (.p (.bool b1))),(5,oc [] (.p (.bool b2)))] 2,.dec false,rg 4,.head] [.code (bodyOf Tryz.f304)] (start Tryz.f304 [] 0 [tsA g nb N pl np K,inL w]) [0] 1 (TnP g nb N pl np K w 0) =
    some (zf80,[(NT 0 1),Con Tryz.prog 151 0 [] [(zf30 N nb g np pl K)] [] (.p (.bool b1)),(AG (!!b1)),(((!!b1)=true)→(NT 0 1)),(AG (!!b1)),(AG (!!b1)),(((!!b1)=true)→ Con Tryz.prog 347 0 [] [(zf44 N nb g np pl),.p (.seq true 1 w.1 (iRw w))] [] (.p (.bool b2))),(AG (!!b1)),(((!b1)=false)→ ((!!b1)=true)),((bif !b1 then true else !b2)=false),(NT 0 1),(AI N),(AN nb),(AP nb (bRw g)),(AN np),(AP np (bRw pl)),(AN K.1),(AP K.1 (iRw K)),(AN w.1),(AP w.1 (iRw w)),(AN 0),(AN K.1),(AP K.1 (iRw K)),(AI ((↑K.1:Int))),((0:Int)=(↑0:Int)),((([AV.p (PV.int IntKind.i64 N),brL g nb,pcL pl np,inL K].length):Nat)=4),(NL 1 1),(NL 1 1),(AI N),(AN nb),(AP nb (bRw g)),(AN np),(AP np (bRw pl)),(AN K.1),(AP K.1 (iRw K))]):=by kernel_rfl
theorem tnpt (g:Nat→T_Bar) (nb:Nat) (N:Int) (pl:Nat→T_Place) (np:Nat) (K w:T_IntS) (i:Nat) :
    pieceOb Tryz.prog 0 [rg 1,.dec true,rg 5,rg 20,.dec false,rg 2,.head] zf80 (TnP g nb N pl np K w i) [0] 1 (TnP g nb N pl np K w (i+1)) =
    some (zf80,[((decide ((↑i:Int)<(↑K.1:Int)))=true),(IL 0 (↑i:Int)),(IT (↑i:Int) (↑K.1:Int)),(AG (K.2 i==1)),(AG (K.2 i==1)),(((K.2 i==1)=true)→(IL 0 (↑i:Int))),(((K.2 i==1)=true)→(IT (↑i:Int) (↑w.1:Int))),(AG (K.2 i==1)),(AG (K.2 i==1)),(AG (K.2 i==1)),(AG (!bif K.2 i==1 then decide (w.2 (↑i:Int).toNat<0) else false)),(AG (!bif K.2 i==1 then decide (w.2 (↑i:Int).toNat<0) else false)),(AG ((!bif K.2 i==1 then decide (w.2 (↑i:Int).toNat<0) else false)&&K.2 i==2)),(AG ((!bif K.2 i==1 then decide (w.2 (↑i:Int).toNat<0) else false)&&K.2 i==2)),((((!bif K.2 i==1 then decide (w.2 (↑i:Int).toNat<0) else false)&&K.2 i==2)=true)→(IL 0 (↑i:Int))),((((!bif K.2 i==1 then decide (w.2 (↑i:Int).toNat<0) else false)&&K.2 i==2)=true)→(IT (↑i:Int) (↑w.1:Int))),(AG ((!bif K.2 i==1 then decide (w.2 (↑i:Int).toNat<0) else false)&&K.2 i==2)),(AG ((!bif K.2 i==1 then decide (w.2 (↑i:Int).toNat<0) else false)&&K.2 i==2)),(AG (!bif K.2 i==1 then decide (w.2 (↑i:Int).toNat<0) else false)),(((!bif K.2 i==1 then decide (w.2 (↑i:Int).toNat<0) else false)=true)→(((K.2 i==2)=true)→ (((!bif K.2 i==1 then decide (w.2 (↑i:Int).toNat<0) else false)&&K.2 i==2)=true))),(((bif K.2 i==1 then decide (w.2 (↑i:Int).toNat<0) else false)=false)→ ((!bif K.2 i==1 then decide (w.2 (↑i:Int).toNat<0) else false)=true)),((bif bif K.2 i==1 then decide (w.2 (↑i:Int).toNat<0) else false then true else bif K.2 i==2 then decide (w.2 (↑i:Int).toNat>0) else false)=false),(ZLo ((↑i:Int)+1)),(ZHi ((↑i:Int)+1)),(AI N),(AN nb),(AP nb (bRw g)),(AN np),(AP np (bRw pl)),(AN K.1),(AP K.1 (iRw K)),(AN w.1),(AP w.1 (iRw w)),(AN 0),(AN K.1),(AP K.1 (iRw K)),(AI ((↑K.1:Int))),((((↑i:Int)+1):Int)=(↑(i+1):Int)),(AN 4),(NL 1 1),(NL 1 1),(AI N),(AN nb),(AP nb (bRw g)),(AN np),(AP np (bRw pl)),(AN K.1),(AP K.1 (iRw K))]):=by kernel_rfl
theorem tnpf (g:Nat→T_Bar) (nb:Nat) (N:Int) (pl:Nat→T_Place) (np:Nat) (K w:T_IntS) (i:Nat) :
    pathOb Tryz.prog Tryz.f304 0 [rg 1,.dec true,rg 5,rg 20,.dec true,rg 1] zf80 (TnP g nb N pl np K w i) [] 1 [] (.p (.bool false)) =
    some [((decide ((↑i:Int)<(↑K.1:Int)))=true),(IL 0 (↑i:Int)),(IT (↑i:Int) (↑K.1:Int)),(AG (K.2 i==1)),(AG (K.2 i==1)),(((K.2 i==1)=true)→(IL 0 (↑i:Int))),(((K.2 i==1)=true)→(IT (↑i:Int) (↑w.1:Int))),(AG (K.2 i==1)),(AG (K.2 i==1)),(AG (K.2 i==1)),(AG (!bif K.2 i==1 then decide (w.2 (↑i:Int).toNat<0) else false)),(AG (!bif K.2 i==1 then decide (w.2 (↑i:Int).toNat<0) else false)),(AG ((!bif K.2 i==1 then decide (w.2 (↑i:Int).toNat<0) else false)&&K.2 i==2)),(AG ((!bif K.2 i==1 then decide (w.2 (↑i:Int).toNat<0) else false)&&K.2 i==2)),((((!bif K.2 i==1 then decide (w.2 (↑i:Int).toNat<0) else false)&&K.2 i==2)=true)→(IL 0 (↑i:Int))),((((!bif K.2 i==1 then decide (w.2 (↑i:Int).toNat<0) else false)&&K.2 i==2)=true)→(IT (↑i:Int) (↑w.1:Int))),(AG ((!bif K.2 i==1 then decide (w.2 (↑i:Int).toNat<0) else false)&&K.2 i==2)),(AG ((!bif K.2 i==1 then decide (w.2 (↑i:Int).toNat<0) else false)&&K.2 i==2)),(AG (!bif K.2 i==1 then decide (w.2 (↑i:Int).toNat<0) else false)),(((!bif K.2 i==1 then decide (w.2 (↑i:Int).toNat<0) else false)=true)→(((K.2 i==2)=true)→ (((!bif K.2 i==1 then decide (w.2 (↑i:Int).toNat<0) else false)&&K.2 i==2)=true))),(((bif K.2 i==1 then decide (w.2 (↑i:Int).toNat<0) else false)=false)→ ((!bif K.2 i==1 then decide (w.2 (↑i:Int).toNat<0) else false)=true)),((bif bif K.2 i==1 then decide (w.2 (↑i:Int).toNat<0) else false then true else bif K.2 i==2 then decide (w.2 (↑i:Int).toNat>0) else false)=true),(false=false)]:=by kernel_rfl
theorem tnpe (g:Nat→T_Bar) (nb:Nat) (N:Int) (pl:Nat→T_Place) (np:Nat) (K w:T_IntS) (i:Nat) :
    pathOb Tryz.prog Tryz.f304 0 [rg 1,.dec false,rg 1] zf80 (TnP g nb N pl np K w i) [] 1 [] (.p (.bool true)) =
    some [((decide ((↑i:Int)<(↑K.1:Int)))=false),(true=true)]:=by kernel_rfl
theorem tnqN (g:Nat→T_Bar) (nb:Nat) (N:Int) (pl:Nat→T_Place) (np:Nat) (K w:T_IntS) (b1 b2:Bool) :
    pathOb Tryz.prog Tryz.f298 0 [rg 2,rm [(1,oc [] (.p (.bool b1))),(5,oc [] (.p (.bool b2)))] 2,.dec true,rg 1] [.code (bodyOf Tryz.f298)] (start Tryz.f298 [] 0 [tsA g nb N pl np K,inL w]) [] 1 [] (.p (.bool false)) =
    some [(NT 0 1),Con Tryz.prog 147 0 [] [(zf30 N nb g np pl K)] [] (.p (.bool b1)),(AG (!!b1)),(((!!b1)=true)→(NT 0 1)),(AG (!!b1)),(AG (!!b1)),(((!!b1)=true)→ Con Tryz.prog 346 0 [] [(zf44 N nb g np pl),.p (.seq true 1 w.1 (iRw w))] [] (.p (.bool b2))),(AG (!!b1)),(((!b1)=false)→ ((!!b1)=true)),((bif !b1 then true else !b2)=true),(false=false)]:=by kernel_rfl
theorem tnqz (g:Nat→T_Bar) (nb:Nat) (N:Int) (pl:Nat→T_Place) (np:Nat) (K w:T_IntS) (b1 b2:Bool) :
    pieceOb Tryz.prog 0 [rg 2,rm [(1,oc [] (.p (.bool b1))),(5,oc [] (.p (.bool b2)))] 2,.dec false,rg 1,.head] [.code (bodyOf Tryz.f298)] (start Tryz.f298 [] 0 [tsA g nb N pl np K,inL w]) [0] 1 (TnQ g nb N pl np K w 0) =
    some (zf81,[(NT 0 1),Con Tryz.prog 147 0 [] [(zf30 N nb g np pl K)] [] (.p (.bool b1)),(AG (!!b1)),(((!!b1)=true)→(NT 0 1)),(AG (!!b1)),(AG (!!b1)),(((!!b1)=true)→ Con Tryz.prog 346 0 [] [(zf44 N nb g np pl),.p (.seq true 1 w.1 (iRw w))] [] (.p (.bool b2))),(AG (!!b1)),(((!b1)=false)→ ((!!b1)=true)),((bif !b1 then true else !b2)=false),(AI N),(AN nb),(AP nb (bRw g)),(AN np),(AP np (bRw pl)),(AN K.1),(AP K.1 (iRw K)),(AN w.1),(AP w.1 (iRw w)),(AN 0),((0:Int)=(↑0:Int)),((([AV.p (PV.int IntKind.i64 N),brL g nb,pcL pl np,inL K].length):Nat)=4),(NL 1 1),(NL 1 1),(AI N),(AN nb),(AP nb (bRw g)),(AN np),(AP np (bRw pl)),(AN K.1),(AP K.1 (iRw K))]):=by kernel_rfl
theorem tnqt (g:Nat→T_Bar) (nb:Nat) (N:Int) (pl:Nat→T_Place) (np:Nat) (K w:T_IntS) (i:Nat) :
    pieceOb Tryz.prog 0 [rg 4,.dec true,rg 28,.dec false,rg 3,.head] zf81 (TnQ g nb N pl np K w i) [0] 1 (TnQ g nb N pl np K w (i+1)) =
    some (zf81,[((decide ((↑i:Int)<(↑w.1:Int)))=true),(NT 0 1),(IL 0 (↑i:Int)),(IT (↑i:Int) (↑K.1:Int)),(AG (K.2 i==1)),(AG (K.2 i==1)),(((K.2 i==1)=true)→(IL 0 (↑i:Int))),(((K.2 i==1)=true)→(IT (↑i:Int) (↑w.1:Int))),(AG (K.2 i==1)),(AG (K.2 i==1)),(AG (K.2 i==1)),(AG (!bif K.2 i==1 then decide (w.2 (↑i:Int).toNat<0) else false)),(((!bif K.2 i==1 then decide (w.2 (↑i:Int).toNat<0) else false)=true)→(NT 0 1)),(AG (!bif K.2 i==1 then decide (w.2 (↑i:Int).toNat<0) else false)),(AG (!bif K.2 i==1 then decide (w.2 (↑i:Int).toNat<0) else false)),(((!bif K.2 i==1 then decide (w.2 (↑i:Int).toNat<0) else false)=true)→(IL 0 (↑i:Int))),(((!bif K.2 i==1 then decide (w.2 (↑i:Int).toNat<0) else false)=true)→(IT (↑i:Int) (↑K.1:Int))),(AG (!bif K.2 i==1 then decide (w.2 (↑i:Int).toNat<0) else false)),(AG (!bif K.2 i==1 then decide (w.2 (↑i:Int).toNat<0) else false)),(AG (!bif K.2 i==1 then decide (w.2 (↑i:Int).toNat<0) else false)),(AG ((!bif K.2 i==1 then decide (w.2 (↑i:Int).toNat<0) else false)&&K.2 i==2)),(AG ((!bif K.2 i==1 then decide (w.2 (↑i:Int).toNat<0) else false)&&K.2 i==2)),((((!bif K.2 i==1 then decide (w.2 (↑i:Int).toNat<0) else false)&&K.2 i==2)=true)→(IL 0 (↑i:Int))),((((!bif K.2 i==1 then decide (w.2 (↑i:Int).toNat<0) else false)&&K.2 i==2)=true)→(IT (↑i:Int) (↑w.1:Int))),(AG ((!bif K.2 i==1 then decide (w.2 (↑i:Int).toNat<0) else false)&&K.2 i==2)),(AG ((!bif K.2 i==1 then decide (w.2 (↑i:Int).toNat<0) else false)&&K.2 i==2)),(AG (!bif K.2 i==1 then decide (w.2 (↑i:Int).toNat<0) else false)),(((!bif K.2 i==1 then decide (w.2 (↑i:Int).toNat<0) else false)=true)→(((K.2 i==2)=true)→ (((!bif K.2 i==1 then decide (w.2 (↑i:Int).toNat<0) else false)&&K.2 i==2)=true))),(((bif K.2 i==1 then decide (w.2 (↑i:Int).toNat<0) else false)=false)→ ((!bif K.2 i==1 then decide (w.2 (↑i:Int).toNat<0) else false)=true)),((bif bif K.2 i==1 then decide (w.2 (↑i:Int).toNat<0) else false then true else bif K.2 i==2 then decide (w.2 (↑i:Int).toNat>0) else false)=false),(ZLo ((↑i:Int)+1)),(ZHi ((↑i:Int)+1)),(AI N),(AN nb),(AP nb (bRw g)),(AN np),(AP np (bRw pl)),(AN K.1),(AP K.1 (iRw K)),(AN w.1),(AP w.1 (iRw w)),(AN 0),((((↑i:Int)+1):Int)=(↑(i+1):Int)),(AN 4),(NL 1 1),(NL 1 1),(AI N),(AN nb),(AP nb (bRw g)),(AN np),(AP np (bRw pl)),(AN K.1),(AP K.1 (iRw K))]):=by kernel_rfl
theorem tnqf (g:Nat→T_Bar) (nb:Nat) (N:Int) (pl:Nat→T_Place) (np:Nat) (K w:T_IntS) (i:Nat) :
    pathOb Tryz.prog Tryz.f298 0 [rg 4,.dec true,rg 28,.dec true,rg 1] zf81 (TnQ g nb N pl np K w i) [] 1 [] (.p (.bool false)) =
    some [((decide ((↑i:Int)<(↑w.1:Int)))=true),(NT 0 1),(IL 0 (↑i:Int)),(IT (↑i:Int) (↑K.1:Int)),(AG (K.2 i==1)),(AG (K.2 i==1)),(((K.2 i==1)=true)→(IL 0 (↑i:Int))),(((K.2 i==1)=true)→(IT (↑i:Int) (↑w.1:Int))),(AG (K.2 i==1)),(AG (K.2 i==1)),(AG (K.2 i==1)),(AG (!bif K.2 i==1 then decide (w.2 (↑i:Int).toNat<0) else false)),(((!bif K.2 i==1 then decide (w.2 (↑i:Int).toNat<0) else false)=true)→(NT 0 1)),(AG (!bif K.2 i==1 then decide (w.2 (↑i:Int).toNat<0) else false)),(AG (!bif K.2 i==1 then decide (w.2 (↑i:Int).toNat<0) else false)),(((!bif K.2 i==1 then decide (w.2 (↑i:Int).toNat<0) else false)=true)→(IL 0 (↑i:Int))),(((!bif K.2 i==1 then decide (w.2 (↑i:Int).toNat<0) else false)=true)→(IT (↑i:Int) (↑K.1:Int))),(AG (!bif K.2 i==1 then decide (w.2 (↑i:Int).toNat<0) else false)),(AG (!bif K.2 i==1 then decide (w.2 (↑i:Int).toNat<0) else false)),(AG (!bif K.2 i==1 then decide (w.2 (↑i:Int).toNat<0) else false)),(AG ((!bif K.2 i==1 then decide (w.2 (↑i:Int).toNat<0) else false)&&K.2 i==2)),(AG ((!bif K.2 i==1 then decide (w.2 (↑i:Int).toNat<0) else false)&&K.2 i==2)),((((!bif K.2 i==1 then decide (w.2 (↑i:Int).toNat<0) else false)&&K.2 i==2)=true)→(IL 0 (↑i:Int))),((((!bif K.2 i==1 then decide (w.2 (↑i:Int).toNat<0) else false)&&K.2 i==2)=true)→(IT (↑i:Int) (↑w.1:Int))),(AG ((!bif K.2 i==1 then decide (w.2 (↑i:Int).toNat<0) else false)&&K.2 i==2)),(AG ((!bif K.2 i==1 then decide (w.2 (↑i:Int).toNat<0) else false)&&K.2 i==2)),(AG (!bif K.2 i==1 then decide (w.2 (↑i:Int).toNat<0) else false)),(((!bif K.2 i==1 then decide (w.2 (↑i:Int).toNat<0) else false)=true)→(((K.2 i==2)=true)→ (((!bif K.2 i==1 then decide (w.2 (↑i:Int).toNat<0) else false)&&K.2 i==2)=true))),(((bif K.2 i==1 then decide (w.2 (↑i:Int).toNat<0) else false)=false)→ ((!bif K.2 i==1 then decide (w.2 (↑i:Int).toNat<0) else false)=true)),((bif bif K.2 i==1 then decide (w.2 (↑i:Int).toNat<0) else false then true else bif K.2 i==2 then decide (w.2 (↑i:Int).toNat>0) else false)=true),(false=false)]:=by kernel_rfl
theorem tnqe (g:Nat→T_Bar) (nb:Nat) (N:Int) (pl:Nat→T_Place) (np:Nat) (K w:T_IntS) (i:Nat) :
    pathOb Tryz.prog Tryz.f298 0 [rg 4,.dec false,rg 1] zf81 (TnQ g nb N pl np K w i) [] 1 [] (.p (.bool true)) =
    some [((decide ((↑i:Int)<(↑w.1:Int)))=false),(true=true)]:=by kernel_rfl
theorem tnsN (g:Nat→T_Bar) (nb:Nat) (N:Int) (pl:Nat→T_Place) (np:Nat) (K w:T_IntS) :
    pathOb Tryz.prog Tryz.f206 0 [rg 2,rm [(2,oc [] (.p (.bool false)))] 1,.dec true,rg 1] [.code (bodyOf Tryz.f206)] (start Tryz.f206 [] 0 [tsA g nb N pl np K,inL w]) [] 1 [] (.p (.bool false)) =
    some [(NT 0 1),Con Tryz.prog 304 0 [] [(zf30 N nb g np pl K),.p (.seq true 1 w.1 (iRw w))] [] (.p (.bool false)),((!false)=true),(false=false)]:=by kernel_rfl
theorem tnsz (g:Nat→T_Bar) (nb:Nat) (N:Int) (pl:Nat→T_Place) (np:Nat) (K w:T_IntS) :
    pieceOb Tryz.prog 0 [rg 2,rm [(2,oc [] (.p (.bool true)))] 1,.dec false,rg 4,.head] [.code (bodyOf Tryz.f206)] (start Tryz.f206 [] 0 [tsA g nb N pl np K,inL w]) [0] 1 (TnS g nb N pl np K w 0) =
    some (zf82,[(NT 0 1),Con Tryz.prog 304 0 [] [(zf30 N nb g np pl K),.p (.seq true 1 w.1 (iRw w))] [] (.p (.bool true)),((!true)=false),(NT 0 1),(AI N),(AN nb),(AP nb (bRw g)),(AN np),(AP np (bRw pl)),(AN K.1),(AP K.1 (iRw K)),(AN w.1),(AP w.1 (iRw w)),(AN 0),(AN K.1),(AP K.1 (iRw K)),(AI ((↑K.1:Int))),((0:Int)=(↑0:Int)),((([AV.p (PV.int IntKind.i64 N),brL g nb,pcL pl np,inL K].length):Nat)=4),(NL 1 1),(NL 1 1),(AI N),(AN nb),(AP nb (bRw g)),(AN np),(AP np (bRw pl)),(AN K.1),(AP K.1 (iRw K))]):=by kernel_rfl
theorem tnst (g:Nat→T_Bar) (nb:Nat) (N:Int) (pl:Nat→T_Place) (np:Nat) (K w:T_IntS) (i:Nat) :
    pieceOb Tryz.prog 0 [rg 1,.dec true,rg 5,rg 9,.dec false,rg 2,.head] zf82 (TnS g nb N pl np K w i) [0] 1 (TnS g nb N pl np K w (i+1)) =
    some (zf82,[((decide ((↑i:Int)<(↑K.1:Int)))=true),(IL 0 (↑i:Int)),(IT (↑i:Int) (↑K.1:Int)),(AG (K.2 i != 0)),(AG (K.2 i != 0)),(((K.2 i != 0)=true)→(IL 0 (↑i:Int))),(((K.2 i != 0)=true)→(IT (↑i:Int) (↑w.1:Int))),(AG (K.2 i != 0)),(AG (K.2 i != 0)),(AG (K.2 i != 0)),((bif K.2 i != 0 then w.2 i==0 else false)=false),(ZLo ((↑i:Int)+1)),(ZHi ((↑i:Int)+1)),(AI N),(AN nb),(AP nb (bRw g)),(AN np),(AP np (bRw pl)),(AN K.1),(AP K.1 (iRw K)),(AN w.1),(AP w.1 (iRw w)),(AN 0),(AN K.1),(AP K.1 (iRw K)),(AI ((↑K.1:Int))),((((↑i:Int)+1):Int)=(↑(i+1):Int)),(AN 4),(NL 1 1),(NL 1 1),(AI N),(AN nb),(AP nb (bRw g)),(AN np),(AP np (bRw pl)),(AN K.1),(AP K.1 (iRw K))]):=by kernel_rfl
theorem tnsf (g:Nat→T_Bar) (nb:Nat) (N:Int) (pl:Nat→T_Place) (np:Nat) (K w:T_IntS) (i:Nat) :
    pathOb Tryz.prog Tryz.f206 0 [rg 1,.dec true,rg 5,rg 9,.dec true,rg 1] zf82 (TnS g nb N pl np K w i) [] 1 [] (.p (.bool false)) =
    some [((decide ((↑i:Int)<(↑K.1:Int)))=true),(IL 0 (↑i:Int)),(IT (↑i:Int) (↑K.1:Int)),(AG (K.2 i != 0)),(AG (K.2 i != 0)),(((K.2 i != 0)=true)→(IL 0 (↑i:Int))),(((K.2 i != 0)=true)→(IT (↑i:Int) (↑w.1:Int))),(AG (K.2 i != 0)),(AG (K.2 i != 0)),(AG (K.2 i != 0)),((bif K.2 i != 0 then w.2 i==0 else false)=true),(false=false)]:=by kernel_rfl
theorem tnse (g:Nat→T_Bar) (nb:Nat) (N:Int) (pl:Nat→T_Place) (np:Nat) (K w:T_IntS) (i:Nat) :
    pathOb Tryz.prog Tryz.f206 0 [rg 1,.dec false,rg 1] zf82 (TnS g nb N pl np K w i) [] 1 [] (.p (.bool true)) =
    some [((decide ((↑i:Int)<(↑K.1:Int)))=false),(true=true)]:=by kernel_rfl
theorem tntN (g:Nat→T_Bar) (nb:Nat) (N:Int) (pl:Nat→T_Place) (np:Nat) (K w:T_IntS) :
    pathOb Tryz.prog Tryz.f197 0 [rg 2,rm [(2,oc [] (.p (.bool false)))] 1,.dec true,rg 1] [.code (bodyOf Tryz.f197)] (start Tryz.f197 [] 0 [tsA g nb N pl np K,inL w]) [] 1 [] (.p (.bool false)) =
    some [(NT 0 1),Con Tryz.prog 298 0 [] [(zf30 N nb g np pl K),.p (.seq true 1 w.1 (iRw w))] [] (.p (.bool false)),((!false)=true),(false=false)]:=by kernel_rfl
theorem tntz (g:Nat→T_Bar) (nb:Nat) (N:Int) (pl:Nat→T_Place) (np:Nat) (K w:T_IntS) :
    pieceOb Tryz.prog 0 [rg 2,rm [(2,oc [] (.p (.bool true)))] 1,.dec false,rg 1,.head] [.code (bodyOf Tryz.f197)] (start Tryz.f197 [] 0 [tsA g nb N pl np K,inL w]) [0] 1 (TnT g nb N pl np K w 0) =
    some (zf83,[(NT 0 1),Con Tryz.prog 298 0 [] [(zf30 N nb g np pl K),.p (.seq true 1 w.1 (iRw w))] [] (.p (.bool true)),((!true)=false),(AI N),(AN nb),(AP nb (bRw g)),(AN np),(AP np (bRw pl)),(AN K.1),(AP K.1 (iRw K)),(AN w.1),(AP w.1 (iRw w)),(AN 0),((0:Int)=(↑0:Int)),((([AV.p (PV.int IntKind.i64 N),brL g nb,pcL pl np,inL K].length):Nat)=4),(NL 1 1),(NL 1 1),(AI N),(AN nb),(AP nb (bRw g)),(AN np),(AP np (bRw pl)),(AN K.1),(AP K.1 (iRw K))]):=by kernel_rfl
theorem tntt (g:Nat→T_Bar) (nb:Nat) (N:Int) (pl:Nat→T_Place) (np:Nat) (K w:T_IntS) (i:Nat) :
    pieceOb Tryz.prog 0 [rg 4,.dec true,rg 13,.dec false,rg 3,.head] zf83 (TnT g nb N pl np K w i) [0] 1 (TnT g nb N pl np K w (i+1)) =
    some (zf83,[((decide ((↑i:Int)<(↑w.1:Int)))=true),(NT 0 1),(IL 0 (↑i:Int)),(IT (↑i:Int) (↑K.1:Int)),(AG (K.2 i != 0)),(AG (K.2 i != 0)),(((K.2 i != 0)=true)→(IL 0 (↑i:Int))),(((K.2 i != 0)=true)→(IT (↑i:Int) (↑w.1:Int))),(AG (K.2 i != 0)),(AG (K.2 i != 0)),(AG (K.2 i != 0)),((bif K.2 i != 0 then w.2 i==0 else false)=false),(ZLo ((↑i:Int)+1)),(ZHi ((↑i:Int)+1)),(AI N),(AN nb),(AP nb (bRw g)),(AN np),(AP np (bRw pl)),(AN K.1),(AP K.1 (iRw K)),(AN w.1),(AP w.1 (iRw w)),(AN 0),((((↑i:Int)+1):Int)=(↑(i+1):Int)),(AN 4),(NL 1 1),(NL 1 1),(AI N),(AN nb),(AP nb (bRw g)),(AN np),(AP np (bRw pl)),(AN K.1),(AP K.1 (iRw K))]):=by kernel_rfl
theorem tntf (g:Nat→T_Bar) (nb:Nat) (N:Int) (pl:Nat→T_Place) (np:Nat) (K w:T_IntS) (i:Nat) :
    pathOb Tryz.prog Tryz.f197 0 [rg 4,.dec true,rg 13,.dec true,rg 1] zf83 (TnT g nb N pl np K w i) [] 1 [] (.p (.bool false)) =
    some [((decide ((↑i:Int)<(↑w.1:Int)))=true),(NT 0 1),(IL 0 (↑i:Int)),(IT (↑i:Int) (↑K.1:Int)),(AG (K.2 i != 0)),(AG (K.2 i != 0)),(((K.2 i != 0)=true)→(IL 0 (↑i:Int))),(((K.2 i != 0)=true)→(IT (↑i:Int) (↑w.1:Int))),(AG (K.2 i != 0)),(AG (K.2 i != 0)),(AG (K.2 i != 0)),((bif K.2 i != 0 then w.2 i==0 else false)=true),(false=false)]:=by kernel_rfl
theorem tnte (g:Nat→T_Bar) (nb:Nat) (N:Int) (pl:Nat→T_Place) (np:Nat) (K w:T_IntS) (i:Nat) :
    pathOb Tryz.prog Tryz.f197 0 [rg 4,.dec false,rg 1] zf83 (TnT g nb N pl np K w i) [] 1 [] (.p (.bool true)) =
    some [((decide ((↑i:Int)<(↑w.1:Int)))=false),(true=true)]:=by kernel_rfl
theorem tnmN (g:Nat→T_Bar) (nb:Nat) (N:Int) (pl:Nat→T_Place) (np:Nat) (K w:T_IntS) (b1 b2:Bool) :
    pathOb Tryz.prog Tryz.f207 0 [rg 2,rm [(1,oc [] (.p (.bool b1))),(5,oc [] (.p (.bool b2)))] 2,.dec true,rg 1] [.code (bodyOf Tryz.f207)] (start Tryz.f207 [] 0 [tsA g nb N pl np K,inL w]) [] 1 [] (.p (.bool false)) =
    some [(NT 0 1),Con Tryz.prog 151 0 [] [(zf30 N nb g np pl K)] [] (.p (.bool b1)),(AG (!!b1)),(((!!b1)=true)→(NT 0 1)),(AG (!!b1)),(AG (!!b1)),(((!!b1)=true)→ Con Tryz.prog 305 0 [] [(zf44 N nb g np pl),.p (.seq true 1 w.1 (iRw w))] [] (.p (.bool b2))),(AG (!!b1)),(((!b1)=false)→ ((!!b1)=true)),((bif !b1 then true else !b2)=true),(false=false)]:=by kernel_rfl
theorem tnmz (g:Nat→T_Bar) (nb:Nat) (N:Int) (pl:Nat→T_Place) (np:Nat) (K w:T_IntS) (b1 b2:Bool) :
    pieceOb Tryz.prog 0 [rg 2,rm [(1,oc [] (.p (.bool b1))),(5,oc [] (.p (.bool b2)))] 2,.dec false,rg 6,.head] [.code (bodyOf Tryz.f207)] (start Tryz.f207 [] 0 [tsA g nb N pl np K,inL w]) [0] 1 (TnM g nb N pl np K w 0) =
    some (zf84,[(NT 0 1),Con Tryz.prog 151 0 [] [(zf30 N nb g np pl K)] [] (.p (.bool b1)),(AG (!!b1)),(((!!b1)=true)→(NT 0 1)),(AG (!!b1)),(AG (!!b1)),(((!!b1)=true)→ Con Tryz.prog 305 0 [] [(zf44 N nb g np pl),.p (.seq true 1 w.1 (iRw w))] [] (.p (.bool b2))),(AG (!!b1)),(((!b1)=false)→ ((!!b1)=true)),((bif !b1 then true else !b2)=false),(NT 0 1),(AI N),(AN nb),(AP nb (bRw g)),(AN np),(AP np (bRw pl)),(AN K.1),(AP K.1 (iRw K)),(AN w.1),(AP w.1 (iRw w)),(AN 0),(AN nb),(AP nb (bRw g)),(AI ((↑nb:Int))),((0:Int)=(↑0:Int)),((([AV.p (PV.int IntKind.i64 N),brL g nb,pcL pl np,inL K].length):Nat)=4),(NL 1 1),(NL 1 1),(AI N),(AN nb),(AP nb (bRw g)),(AN np),(AP np (bRw pl)),(AN K.1),(AP K.1 (iRw K))]):=by kernel_rfl
theorem tnmt (g:Nat→T_Bar) (nb:Nat) (N:Int) (pl:Nat→T_Place) (np:Nat) (K w:T_IntS) (i:Nat) (x:Int) :
    pieceOb Tryz.prog 0 [rg 1,.dec true,rg 6,rm [(7,oc [] (.p (.int .i64 x)))] 1,rg 34,.dec false,rg 2,.head] zf84 (TnM g nb N pl np K w i) [0] 1 (TnM g nb N pl np K w (i+1)) =
    some (zf84,[((decide ((↑i:Int)<(↑nb:Int)))=true),(IL 0 (↑i:Int)),(IT (↑i:Int) (↑nb:Int)),(NT 0 1),((true=true)→ (AN 1)),(NT 0 1),(NT 0 1),(NT 0 1),Con Tryz.prog 306 0 [] [(zf36 N nb g np pl),.p (.seq true 1 w.1 (iRw w)),.p (.int .i64 ((g i).1)),.p (.int .i64 ((g i).2.1))] [] (.p (.int .i64 x)),(NT 0 1),(IL 0 (↑i:Int)),(IT (↑i:Int) (↑K.1:Int)),(AG (K.2 i==0)),(AG (K.2 i==0)),(AG (!bif K.2 i==0 then x != 0 else false)),(((!bif K.2 i==0 then x != 0 else false)=true)→(NT 0 1)),(AG (!bif K.2 i==0 then x != 0 else false)),(AG (!bif K.2 i==0 then x != 0 else false)),(((!bif K.2 i==0 then x != 0 else false)=true)→(IL 0 (↑i:Int))),(((!bif K.2 i==0 then x != 0 else false)=true)→(IT (↑i:Int) (↑K.1:Int))),(AG (!bif K.2 i==0 then x != 0 else false)),(AG (!bif K.2 i==0 then x != 0 else false)),(AG (!bif K.2 i==0 then x != 0 else false)),(AG ((!bif K.2 i==0 then x != 0 else false)&&K.2 i==1)),(AG (!bif K.2 i==0 then x != 0 else false)),(((!bif K.2 i==0 then x != 0 else false)=true)→(((K.2 i==1)=true)→ (((!bif K.2 i==0 then x != 0 else false)&&K.2 i==1)=true))),(((bif K.2 i==0 then x != 0 else false)=false)→ ((!bif K.2 i==0 then x != 0 else false)=true)),(AG (!bif bif K.2 i==0 then x != 0 else false then true else bif K.2 i==1 then decide (x>0) else false)),(((!bif bif K.2 i==0 then x != 0 else false then true else bif K.2 i==1 then decide (x>0) else false)=true)→(NT 0 1)),(AG (!bif bif K.2 i==0 then x != 0 else false then true else bif K.2 i==1 then decide (x>0) else false)),(AG (!bif bif K.2 i==0 then x != 0 else false then true else bif K.2 i==1 then decide (x>0) else false)),(((!bif bif K.2 i==0 then x != 0 else false then true else bif K.2 i==1 then decide (x>0) else false)=true)→(IL 0 (↑i:Int))),(((!bif bif K.2 i==0 then x != 0 else false then true else bif K.2 i==1 then decide (x>0) else false)=true)→(IT (↑i:Int) (↑K.1:Int))),(AG (!bif bif K.2 i==0 then x != 0 else false then true else bif K.2 i==1 then decide (x>0) else false)),(AG (!bif bif K.2 i==0 then x != 0 else false then true else bif K.2 i==1 then decide (x>0) else false)),(AG (!bif bif K.2 i==0 then x != 0 else false then true else bif K.2 i==1 then decide (x>0) else false)),(AG ((!bif bif K.2 i==0 then x != 0 else false then true else bif K.2 i==1 then decide (x>0) else false)&&K.2 i==2)),(AG (!bif bif K.2 i==0 then x != 0 else false then true else bif K.2 i==1 then decide (x>0) else false)),(((!bif bif K.2 i==0 then x != 0 else false then true else bif K.2 i==1 then decide (x>0) else false)=true)→(((K.2 i==2)=true)→ (((!bif bif K.2 i==0 then x != 0 else false then true else bif K.2 i==1 then decide (x>0) else false)&&K.2 i==2)=true))),(((bif bif K.2 i==0 then x != 0 else false then true else bif K.2 i==1 then decide (x>0) else false)=false)→ ((!bif bif K.2 i==0 then x != 0 else false then true else bif K.2 i==1 then decide (x>0) else false)=true)),((bif bif bif K.2 i==0 then x != 0 else false then true else bif K.2 i==1 then decide (x>0) else false then true else bif K.2 i==2 then decide (x<0) else false)=false),(ZLo ((↑i:Int)+1)),(ZHi ((↑i:Int)+1)),(AI N),(AN nb),(AP nb (bRw g)),(AN np),(AP np (bRw pl)),(AN K.1),(AP K.1 (iRw K)),(AN w.1),(AP w.1 (iRw w)),(AN 0),(AN nb),(AP nb (bRw g)),(AI ((↑nb:Int))),((((↑i:Int)+1):Int)=(↑(i+1):Int)),(AN 4),(NL 1 1),(NL 1 1),(AI N),(AN nb),(AP nb (bRw g)),(AN np),(AP np (bRw pl)),(AN K.1),(AP K.1 (iRw K))]):=by kernel_rfl
theorem tnmf (g:Nat→T_Bar) (nb:Nat) (N:Int) (pl:Nat→T_Place) (np:Nat) (K w:T_IntS) (i:Nat) (x:Int) :
    pathOb Tryz.prog Tryz.f207 0 [rg 1,.dec true,rg 6,rm [(7,oc [] (.p (.int .i64 x)))] 1,rg 34,.dec true,rg 1] zf84 (TnM g nb N pl np K w i) [] 1 [] (.p (.bool false)) =
    some [((decide ((↑i:Int)<(↑nb:Int)))=true),(IL 0 (↑i:Int)),(IT (↑i:Int) (↑nb:Int)),(NT 0 1),((true=true)→ (AN 1)),(NT 0 1),(NT 0 1),(NT 0 1),Con Tryz.prog 306 0 [] [(zf36 N nb g np pl),.p (.seq true 1 w.1 (iRw w)),.p (.int .i64 ((g i).1)),.p (.int .i64 ((g i).2.1))] [] (.p (.int .i64 x)),(NT 0 1),(IL 0 (↑i:Int)),(IT (↑i:Int) (↑K.1:Int)),(AG (K.2 i==0)),(AG (K.2 i==0)),(AG (!bif K.2 i==0 then x != 0 else false)),(((!bif K.2 i==0 then x != 0 else false)=true)→(NT 0 1)),(AG (!bif K.2 i==0 then x != 0 else false)),(AG (!bif K.2 i==0 then x != 0 else false)),(((!bif K.2 i==0 then x != 0 else false)=true)→(IL 0 (↑i:Int))),(((!bif K.2 i==0 then x != 0 else false)=true)→(IT (↑i:Int) (↑K.1:Int))),(AG (!bif K.2 i==0 then x != 0 else false)),(AG (!bif K.2 i==0 then x != 0 else false)),(AG (!bif K.2 i==0 then x != 0 else false)),(AG ((!bif K.2 i==0 then x != 0 else false)&&K.2 i==1)),(AG (!bif K.2 i==0 then x != 0 else false)),(((!bif K.2 i==0 then x != 0 else false)=true)→(((K.2 i==1)=true)→ (((!bif K.2 i==0 then x != 0 else false)&&K.2 i==1)=true))),(((bif K.2 i==0 then x != 0 else false)=false)→ ((!bif K.2 i==0 then x != 0 else false)=true)),(AG (!bif bif K.2 i==0 then x != 0 else false then true else bif K.2 i==1 then decide (x>0) else false)),(((!bif bif K.2 i==0 then x != 0 else false then true else bif K.2 i==1 then decide (x>0) else false)=true)→(NT 0 1)),(AG (!bif bif K.2 i==0 then x != 0 else false then true else bif K.2 i==1 then decide (x>0) else false)),(AG (!bif bif K.2 i==0 then x != 0 else false then true else bif K.2 i==1 then decide (x>0) else false)),(((!bif bif K.2 i==0 then x != 0 else false then true else bif K.2 i==1 then decide (x>0) else false)=true)→(IL 0 (↑i:Int))),(((!bif bif K.2 i==0 then x != 0 else false then true else bif K.2 i==1 then decide (x>0) else false)=true)→(IT (↑i:Int) (↑K.1:Int))),(AG (!bif bif K.2 i==0 then x != 0 else false then true else bif K.2 i==1 then decide (x>0) else false)),(AG (!bif bif K.2 i==0 then x != 0 else false then true else bif K.2 i==1 then decide (x>0) else false)),(AG (!bif bif K.2 i==0 then x != 0 else false then true else bif K.2 i==1 then decide (x>0) else false)),(AG ((!bif bif K.2 i==0 then x != 0 else false then true else bif K.2 i==1 then decide (x>0) else false)&&K.2 i==2)),(AG (!bif bif K.2 i==0 then x != 0 else false then true else bif K.2 i==1 then decide (x>0) else false)),(((!bif bif K.2 i==0 then x != 0 else false then true else bif K.2 i==1 then decide (x>0) else false)=true)→(((K.2 i==2)=true)→ (((!bif bif K.2 i==0 then x != 0 else false then true else bif K.2 i==1 then decide (x>0) else false)&&K.2 i==2)=true))),(((bif bif K.2 i==0 then x != 0 else false then true else bif K.2 i==1 then decide (x>0) else false)=false)→ ((!bif bif K.2 i==0 then x != 0 else false then true else bif K.2 i==1 then decide (x>0) else false)=true)),((bif bif bif K.2 i==0 then x != 0 else false then true else bif K.2 i==1 then decide (x>0) else false then true else bif K.2 i==2 then decide (x<0) else false)=true),(false=false)]:=by kernel_rfl
theorem tnme (g:Nat→T_Bar) (nb:Nat) (N:Int) (pl:Nat→T_Place) (np:Nat) (K w:T_IntS) (i:Nat) :
    pathOb Tryz.prog Tryz.f207 0 [rg 1,.dec false,rg 1] zf84 (TnM g nb N pl np K w i) [] 1 [] (.p (.bool true)) =
    some [((decide ((↑i:Int)<(↑nb:Int)))=false),(true=true)]:=by kernel_rfl
theorem tnnN (g:Nat→T_Bar) (nb:Nat) (N:Int) (pl:Nat→T_Place) (np:Nat) (K w:T_IntS) (b1 b2:Bool) :
    pathOb Tryz.prog Tryz.f198 0 [rg 2,rm [(1,oc [] (.p (.bool b1))),(5,oc [] (.p (.bool b2)))] 2,.dec true,rg 1] [.code (bodyOf Tryz.f198)] (start Tryz.f198 [] 0 [tsA g nb N pl np K,inL w]) [] 1 [] (.p (.bool false)) =
    some [(NT 0 1),Con Tryz.prog 147 0 [] [(zf30 N nb g np pl K)] [] (.p (.bool b1)),(AG (!!b1)),(((!!b1)=true)→(NT 0 1)),(AG (!!b1)),(AG (!!b1)),(((!!b1)=true)→ Con Tryz.prog 299 0 [] [(zf44 N nb g np pl),.p (.seq true 1 w.1 (iRw w))] [] (.p (.bool b2))),(AG (!!b1)),(((!b1)=false)→ ((!!b1)=true)),((bif !b1 then true else !b2)=true),(false=false)]:=by kernel_rfl
theorem tnnz (g:Nat→T_Bar) (nb:Nat) (N:Int) (pl:Nat→T_Place) (np:Nat) (K w:T_IntS) (b1 b2:Bool) :
    pieceOb Tryz.prog 0 [rg 2,rm [(1,oc [] (.p (.bool b1))),(5,oc [] (.p (.bool b2)))] 2,.dec false,rg 1,.head] [.code (bodyOf Tryz.f198)] (start Tryz.f198 [] 0 [tsA g nb N pl np K,inL w]) [0] 1 (TnN g nb N pl np K w 0) =
    some (zf85,[(NT 0 1),Con Tryz.prog 147 0 [] [(zf30 N nb g np pl K)] [] (.p (.bool b1)),(AG (!!b1)),(((!!b1)=true)→(NT 0 1)),(AG (!!b1)),(AG (!!b1)),(((!!b1)=true)→ Con Tryz.prog 299 0 [] [(zf44 N nb g np pl),.p (.seq true 1 w.1 (iRw w))] [] (.p (.bool b2))),(AG (!!b1)),(((!b1)=false)→ ((!!b1)=true)),((bif !b1 then true else !b2)=false),(AI N),(AN nb),(AP nb (bRw g)),(AN np),(AP np (bRw pl)),(AN K.1),(AP K.1 (iRw K)),(AN w.1),(AP w.1 (iRw w)),(AN 0),((0:Int)=(↑0:Int)),((([AV.p (PV.int IntKind.i64 N),brL g nb,pcL pl np,inL K].length):Nat)=4),(NL 1 1),(NL 1 1),(AI N),(AN nb),(AP nb (bRw g)),(AN np),(AP np (bRw pl)),(AN K.1),(AP K.1 (iRw K))]):=by kernel_rfl
theorem tnnt (g:Nat→T_Bar) (nb:Nat) (N:Int) (pl:Nat→T_Place) (np:Nat) (K w:T_IntS) (i:Nat) (x:Int) :
    pieceOb Tryz.prog 0 [rg 5,.dec true,rm [(19,oc [] (.p (.int .i64 x)))] 1,rg 34,.dec false,rg 3,.head] zf85 (TnN g nb N pl np K w i) [0] 1 (TnN g nb N pl np K w (i+1)) =
    some (zf85,[(NT 0 1),((decide ((↑i:Int)<(↑K.1:Int)))=true),(NT 0 1),(NT 0 1),(IL 0 (↑i:Int)),(IT (↑i:Int) (↑nb:Int)),(NT 0 1),(IL 0 (↑i:Int)),(IT (↑i:Int) (↑nb:Int)),Con Tryz.prog 300 0 [] [(zf36 N nb g np pl),.p (.seq true 1 w.1 (iRw w)),.p (.int .i64 ((g i).1)),.p (.int .i64 ((g i).2.1))] [] (.p (.int .i64 x)),(NT 0 1),(IL 0 (↑i:Int)),(IT (↑i:Int) (↑K.1:Int)),(AG (K.2 i==0)),(AG (K.2 i==0)),(AG (!bif K.2 i==0 then x != 0 else false)),(((!bif K.2 i==0 then x != 0 else false)=true)→(NT 0 1)),(AG (!bif K.2 i==0 then x != 0 else false)),(AG (!bif K.2 i==0 then x != 0 else false)),(((!bif K.2 i==0 then x != 0 else false)=true)→(IL 0 (↑i:Int))),(((!bif K.2 i==0 then x != 0 else false)=true)→(IT (↑i:Int) (↑K.1:Int))),(AG (!bif K.2 i==0 then x != 0 else false)),(AG (!bif K.2 i==0 then x != 0 else false)),(AG (!bif K.2 i==0 then x != 0 else false)),(AG ((!bif K.2 i==0 then x != 0 else false)&&K.2 i==1)),(AG (!bif K.2 i==0 then x != 0 else false)),(((!bif K.2 i==0 then x != 0 else false)=true)→(((K.2 i==1)=true)→ (((!bif K.2 i==0 then x != 0 else false)&&K.2 i==1)=true))),(((bif K.2 i==0 then x != 0 else false)=false)→ ((!bif K.2 i==0 then x != 0 else false)=true)),(AG (!bif bif K.2 i==0 then x != 0 else false then true else bif K.2 i==1 then decide (x>0) else false)),(((!bif bif K.2 i==0 then x != 0 else false then true else bif K.2 i==1 then decide (x>0) else false)=true)→(NT 0 1)),(AG (!bif bif K.2 i==0 then x != 0 else false then true else bif K.2 i==1 then decide (x>0) else false)),(AG (!bif bif K.2 i==0 then x != 0 else false then true else bif K.2 i==1 then decide (x>0) else false)),(((!bif bif K.2 i==0 then x != 0 else false then true else bif K.2 i==1 then decide (x>0) else false)=true)→(IL 0 (↑i:Int))),(((!bif bif K.2 i==0 then x != 0 else false then true else bif K.2 i==1 then decide (x>0) else false)=true)→(IT (↑i:Int) (↑K.1:Int))),(AG (!bif bif K.2 i==0 then x != 0 else false then true else bif K.2 i==1 then decide (x>0) else false)),(AG (!bif bif K.2 i==0 then x != 0 else false then true else bif K.2 i==1 then decide (x>0) else false)),(AG (!bif bif K.2 i==0 then x != 0 else false then true else bif K.2 i==1 then decide (x>0) else false)),(AG ((!bif bif K.2 i==0 then x != 0 else false then true else bif K.2 i==1 then decide (x>0) else false)&&K.2 i==2)),(AG (!bif bif K.2 i==0 then x != 0 else false then true else bif K.2 i==1 then decide (x>0) else false)),(((!bif bif K.2 i==0 then x != 0 else false then true else bif K.2 i==1 then decide (x>0) else false)=true)→(((K.2 i==2)=true)→ (((!bif bif K.2 i==0 then x != 0 else false then true else bif K.2 i==1 then decide (x>0) else false)&&K.2 i==2)=true))),(((bif bif K.2 i==0 then x != 0 else false then true else bif K.2 i==1 then decide (x>0) else false)=false)→ ((!bif bif K.2 i==0 then x != 0 else false then true else bif K.2 i==1 then decide (x>0) else false)=true)),((bif bif bif K.2 i==0 then x != 0 else false then true else bif K.2 i==1 then decide (x>0) else false then true else bif K.2 i==2 then decide (x<0) else false)=false),(ZLo ((↑i:Int)+1)),(ZHi ((↑i:Int)+1)),(AI N),(AN nb),(AP nb (bRw g)),(AN np),(AP np (bRw pl)),(AN K.1),(AP K.1 (iRw K)),(AN w.1),(AP w.1 (iRw w)),(AN 0),((((↑i:Int)+1):Int)=(↑(i+1):Int)),(AN 4),(NL 1 1),(NL 1 1),(AI N),(AN nb),(AP nb (bRw g)),(AN np),(AP np (bRw pl)),(AN K.1),(AP K.1 (iRw K))]):=by kernel_rfl
theorem tnnf (g:Nat→T_Bar) (nb:Nat) (N:Int) (pl:Nat→T_Place) (np:Nat) (K w:T_IntS) (i:Nat) (x:Int) :
    pathOb Tryz.prog Tryz.f198 0 [rg 5,.dec true,rm [(19,oc [] (.p (.int .i64 x)))] 1,rg 34,.dec true,rg 1] zf85 (TnN g nb N pl np K w i) [] 1 [] (.p (.bool false)) =
    some [(NT 0 1),((decide ((↑i:Int)<(↑K.1:Int)))=true),(NT 0 1),(NT 0 1),(IL 0 (↑i:Int)),(IT (↑i:Int) (↑nb:Int)),(NT 0 1),(IL 0 (↑i:Int)),(IT (↑i:Int) (↑nb:Int)),Con Tryz.prog 300 0 [] [(zf36 N nb g np pl),.p (.seq true 1 w.1 (iRw w)),.p (.int .i64 ((g i).1)),.p (.int .i64 ((g i).2.1))] [] (.p (.int .i64 x)),(NT 0 1),(IL 0 (↑i:Int)),(IT (↑i:Int) (↑K.1:Int)),(AG (K.2 i==0)),(AG (K.2 i==0)),(AG (!bif K.2 i==0 then x != 0 else false)),(((!bif K.2 i==0 then x != 0 else false)=true)→(NT 0 1)),(AG (!bif K.2 i==0 then x != 0 else false)),(AG (!bif K.2 i==0 then x != 0 else false)),(((!bif K.2 i==0 then x != 0 else false)=true)→(IL 0 (↑i:Int))),(((!bif K.2 i==0 then x != 0 else false)=true)→(IT (↑i:Int) (↑K.1:Int))),(AG (!bif K.2 i==0 then x != 0 else false)),(AG (!bif K.2 i==0 then x != 0 else false)),(AG (!bif K.2 i==0 then x != 0 else false)),(AG ((!bif K.2 i==0 then x != 0 else false)&&K.2 i==1)),(AG (!bif K.2 i==0 then x != 0 else false)),(((!bif K.2 i==0 then x != 0 else false)=true)→(((K.2 i==1)=true)→ (((!bif K.2 i==0 then x != 0 else false)&&K.2 i==1)=true))),(((bif K.2 i==0 then x != 0 else false)=false)→ ((!bif K.2 i==0 then x != 0 else false)=true)),(AG (!bif bif K.2 i==0 then x != 0 else false then true else bif K.2 i==1 then decide (x>0) else false)),(((!bif bif K.2 i==0 then x != 0 else false then true else bif K.2 i==1 then decide (x>0) else false)=true)→(NT 0 1)),(AG (!bif bif K.2 i==0 then x != 0 else false then true else bif K.2 i==1 then decide (x>0) else false)),(AG (!bif bif K.2 i==0 then x != 0 else false then true else bif K.2 i==1 then decide (x>0) else false)),(((!bif bif K.2 i==0 then x != 0 else false then true else bif K.2 i==1 then decide (x>0) else false)=true)→(IL 0 (↑i:Int))),(((!bif bif K.2 i==0 then x != 0 else false then true else bif K.2 i==1 then decide (x>0) else false)=true)→(IT (↑i:Int) (↑K.1:Int))),(AG (!bif bif K.2 i==0 then x != 0 else false then true else bif K.2 i==1 then decide (x>0) else false)),(AG (!bif bif K.2 i==0 then x != 0 else false then true else bif K.2 i==1 then decide (x>0) else false)),(AG (!bif bif K.2 i==0 then x != 0 else false then true else bif K.2 i==1 then decide (x>0) else false)),(AG ((!bif bif K.2 i==0 then x != 0 else false then true else bif K.2 i==1 then decide (x>0) else false)&&K.2 i==2)),(AG (!bif bif K.2 i==0 then x != 0 else false then true else bif K.2 i==1 then decide (x>0) else false)),(((!bif bif K.2 i==0 then x != 0 else false then true else bif K.2 i==1 then decide (x>0) else false)=true)→(((K.2 i==2)=true)→ (((!bif bif K.2 i==0 then x != 0 else false then true else bif K.2 i==1 then decide (x>0) else false)&&K.2 i==2)=true))),(((bif bif K.2 i==0 then x != 0 else false then true else bif K.2 i==1 then decide (x>0) else false)=false)→ ((!bif bif K.2 i==0 then x != 0 else false then true else bif K.2 i==1 then decide (x>0) else false)=true)),((bif bif bif K.2 i==0 then x != 0 else false then true else bif K.2 i==1 then decide (x>0) else false then true else bif K.2 i==2 then decide (x<0) else false)=true),(false=false)]:=by kernel_rfl
theorem tnne (g:Nat→T_Bar) (nb:Nat) (N:Int) (pl:Nat→T_Place) (np:Nat) (K w:T_IntS) (i:Nat) :
    pathOb Tryz.prog Tryz.f198 0 [rg 5,.dec false,rg 1] zf85 (TnN g nb N pl np K w i) [] 1 [] (.p (.bool true)) =
    some [(NT 0 1),((decide ((↑i:Int)<(↑K.1:Int)))=false),(true=true)]:=by kernel_rfl
theorem pvsi (g:Nat→T_Bar) (nb:Nat) (N:Int) (pl:Nat→T_Place) (np:Nat) (K w:T_IntS) (b1 b2:Bool) :
    pathOb Tryz.prog Tryz.f98 0 [rg 2,rm [(2,oc [] (.p (.bool b1))),(3,oc [] (.p (.bool b2)))] 2] [.code (bodyOf Tryz.f98)] (start Tryz.f98 [] 0 [tsA g nb N pl np K,inL w]) [] 1 [] (.p (.bool (bif b1 then b2 else false))) =
    some [(NT 0 1),Con Tryz.prog 206 0 [] [(zf30 N nb g np pl K),.p (.seq true 1 w.1 (iRw w))] [] (.p (.bool b1)),(AG b1),((b1=true)→(NT 0 1)),(AG b1),((b1=true)→ Con Tryz.prog 133 0 [] [(zf44 N nb g np pl)] [] (.p (.bool b2))),(AG b1),((bif b1 then b2 else false)=(bif b1 then b2 else false))]:=by kernel_rfl
theorem pvli (g:Nat→T_Bar) (nb:Nat) (N:Int) (pl:Nat→T_Place) (np:Nat) (K w:T_IntS) (b1 b2:Bool) :
    pathOb Tryz.prog Tryz.f99 0 [rg 2,rm [(2,oc [] (.p (.bool b1))),(4,oc [] (.p (.bool b2)))] 3] [.code (bodyOf Tryz.f99)] (start Tryz.f99 [] 0 [tsA g nb N pl np K,inL w]) [] 1 [] (.p (.bool (bif b1 then !b2 else false))) =
    some [(NT 0 1),Con Tryz.prog 207 0 [] [(zf30 N nb g np pl K),.p (.seq true 1 w.1 (iRw w))] [] (.p (.bool b1)),(AG b1),((b1=true)→(NT 0 1)),(AG b1),(AG b1),((b1=true)→ Con Tryz.prog 208 0 [] [(zf44 N nb g np pl),.p (.seq true 1 w.1 (iRw w))] [] (.p (.bool b2))),(AG b1),(AG b1),((bif b1 then !b2 else false)=(bif b1 then !b2 else false))]:=by kernel_rfl
theorem pvss (g:Nat→T_Bar) (nb:Nat) (N:Int) (pl:Nat→T_Place) (np:Nat) (K w:T_IntS) (b1 b2:Bool) :
    pathOb Tryz.prog Tryz.f88 0 [rg 2,rm [(2,oc [] (.p (.bool b1))),(3,oc [] (.p (.bool b2)))] 2] [.code (bodyOf Tryz.f88)] (start Tryz.f88 [] 0 [tsA g nb N pl np K,inL w]) [] 1 [] (.p (.bool (bif b1 then b2 else false))) =
    some [(NT 0 1),Con Tryz.prog 197 0 [] [(zf30 N nb g np pl K),.p (.seq true 1 w.1 (iRw w))] [] (.p (.bool b1)),(AG b1),((b1=true)→(NT 0 1)),(AG b1),((b1=true)→ Con Tryz.prog 123 0 [] [(zf44 N nb g np pl)] [] (.p (.bool b2))),(AG b1),((bif b1 then b2 else false)=(bif b1 then b2 else false))]:=by kernel_rfl
theorem pvls (g:Nat→T_Bar) (nb:Nat) (N:Int) (pl:Nat→T_Place) (np:Nat) (K w:T_IntS) (b1 b2:Bool) :
    pathOb Tryz.prog Tryz.f89 0 [rg 2,rm [(2,oc [] (.p (.bool b1))),(4,oc [] (.p (.bool b2)))] 3] [.code (bodyOf Tryz.f89)] (start Tryz.f89 [] 0 [tsA g nb N pl np K,inL w]) [] 1 [] (.p (.bool (bif b1 then !b2 else false))) =
    some [(NT 0 1),Con Tryz.prog 198 0 [] [(zf30 N nb g np pl K),.p (.seq true 1 w.1 (iRw w))] [] (.p (.bool b1)),(AG b1),((b1=true)→(NT 0 1)),(AG b1),(AG b1),((b1=true)→ Con Tryz.prog 199 0 [] [(zf44 N nb g np pl),.p (.seq true 1 w.1 (iRw w))] [] (.p (.bool b2))),(AG b1),(AG b1),((bif b1 then !b2 else false)=(bif b1 then !b2 else false))]:=by kernel_rfl
end Go.Proofs.YtkkjoghiigiokaaGreat.Mach
namespace Go.Proofs.YtkkjoghiigiokaaGreat.Mach
open Go
set_option linter.unusedVariables false
set_option linter.unusedSimpArgs false
def psqB (K w:T_IntS) (i:Nat):Bool:=bif (bif K.2 i==1 then decide (w.2 i<0) else false) then true else (bif K.2 i==2 then decide (w.2 i>0) else false)
def ssqB (K w:T_IntS) (i:Nat):Bool:=bif !(K.2 i==0) then w.2 i==0 else false
def amqB (K:T_IntS) (x:Int) (i:Nat):Bool:=bif (bif (bif K.2 i==0 then !(x==0) else false) then true else (bif K.2 i==1 then decide (x>0) else false)) then true else (bif K.2 i==2 then decide (x<0) else false)
def prpB (g:Nat→T_Bar) (nb:Nat) (N:Int) (pl:Nat→T_Place) (np:Nat) (K w:T_IntS):Bool :=
  (bif tsB g nb N pl np K then strB g nb N pl np w else false)&&allB (fun i=>!psqB K w i) nb
def strcB (g:Nat→T_Bar) (nb:Nat) (N:Int) (pl:Nat→T_Place) (np:Nat) (K w:T_IntS):Bool:=prpB g nb N pl np K w&&allB (fun i=>!ssqB K w i) nb
def chQ (g:Nat→T_Bar) (pl:Nat→T_Place) (v:T_IntS) (i:Nat):Int:=chV pl v (g i).1.toNat (g i).2.1.toNat
def alwB (g:Nat→T_Bar) (nb:Nat) (N:Int) (pl:Nat→T_Place) (np:Nat) (K v:T_IntS):Bool :=
  (bif tsB g nb N pl np K then velB g nb N pl np v else false)&&allB (fun i=>!amqB K (chQ g pl v i) i) nb
theorem ts_len {g:Nat→T_Bar} {nb:Nat} {N:Int} {pl:Nat→T_Place} {np:Nat} {K:T_IntS} (h:tsB g nb N pl np K=true):K.1=nb∧fwB g nb N pl np=true:=by
  unfold tsB at h
  cases h1:allB (kdP K) K.1 with
  | false=>rw [h1] at h;cases h
  | true =>
    rw [h1] at h
    cases h2:fwB g nb N pl np with
    | false=>rw [h2] at h;cases h
    | true =>
      rw [h2] at h
      have h:((K.1:Int)==(nb:Int))=true:=h
      simp at h
      exact ⟨by omega,rfl⟩
theorem str_frc {g:Nat→T_Bar} {nb:Nat} {N:Int} {pl:Nat→T_Place} {np:Nat} {w:T_IntS} (h:strB g nb N pl np w=true):frcB g nb N pl np w=true:=by
  unfold strB at h
  cases h1:frcB g nb N pl np w with
  | false=>rw [h1] at h;cases h
  | true=>rfl
theorem str_len {g:Nat→T_Bar} {nb:Nat} {N:Int} {pl:Nat→T_Place} {np:Nat} {w:T_IntS} (h:strB g nb N pl np w=true):w.1=nb∧nb≤15∧np≤6:=by
  have h1:=str_frc h
  have hf:fwB g nb N pl np=true:=by
    have h:=h1
    unfold frcB at h
    cases q:fwB g nb N pl np with
    | false=>rw [q] at h;cases h
    | true=>rfl
  obtain ⟨n,rfl⟩:=fw_N hf
  have ok:=fOk h1
  have:=ok.hnp
  have:=ok.hN
  exact ⟨ok.hl,ok.hnb,by omega⟩
theorem con_Proper_i (g:Nat→T_Bar) (nb:Nat) (N:Int) (pl:Nat→T_Place) (np:Nat) (K w:T_IntS) (hn:nb≤1048576∧np≤1048576) (hK:K.1≤1048576) (hw:w.1≤1048576) :
    Con Tryz.prog 304 0 [] [tsA g nb N pl np K,inL w] [] (.p (.bool (prpB g nb N pl np K w))):=by
  have c1:=con_IsTensegrity_i g nb N pl np K hn hK
  have c2:=con_IsStress_i g nb N pl np w hn hw
  refine csZ Tryz.func304 (fun c hc=>?_)
  cases ha:(bif tsB g nb N pl np K then strB g nb N pl np w else false) with
  | false =>
    have ha':(bif !tsB g nb N pl np K then true else !strB g nb N pl np w)=true:=by
      revert ha;cases tsB g nb N pl np K<;>cases strB g nb N pl np w<;>intro ha<;>first | rfl | cases ha
    rw [show prpB g nb N pl np K w=false by unfold prpB;rw [ha];rfl]
    refine pkZ Tryz.func304 hc (tnpN g nb N pl np K w (tsB g nb N pl np K) (strB g nb N pl np w)) ?_
    repeat' (first | exact aN | apply aI)
    all_goals (first | exact aG _ | omega | rfl | (intros;first | assumption | exact trivial | rfl | exact fT ‹_› | ((repeat' (first | assumption | apply anda | apply notf));done)) | (exact c1) | (intros;exact c2) | (exact ha') | (intro h;rw [h];rfl))
  | true =>
    have ht:tsB g nb N pl np K=true:=by cases h:tsB g nb N pl np K with | false=>rw [h] at ha;cases ha | true=>rfl
    have hs:strB g nb N pl np w=true:=by rw [ht] at ha;exact ha
    obtain ⟨hl,hb,hnp⟩:=str_len hs
    obtain ⟨hk,hf⟩:=ts_len ht
    rw [ht] at c1
    rw [hs] at c2
    have hr:prpB g nb N pl np K w=allB (fun i=>!psqB K w i) nb:=by unfold prpB;rw [ha];rfl
    rw [hr]
    have lo:∀ d i,i+d=nb→allB (fun i=>!psqB K w i) i=true→Run Tryz.prog c 304 zf80 (TnP g nb N pl np K w i) (Post c [] (.p (.bool (allB (fun i=>!psqB K w i) nb)))):=by
      intro d
      induction d with
      | zero =>
        intro i hi hal
        obtain rfl:i=nb:=by omega
        have hd:decide ((i:Int)<(K.1:Int))=false:=decide_eq_false (by omega)
        have hd2:decide ((i:Int)<(w.1:Int))=false:=decide_eq_false (by omega)
        rw [hal]
        refine pkZ Tryz.func304 hc (tnpe g i N pl np K w i) ?_
        repeat' (first | exact aN | apply aI)
        all_goals (first | omega | rfl | (intros;first | assumption | exact trivial | rfl) | (exact hd) | (exact hd2))
      | succ d ih =>
        intro i hi ha
        have hd:decide ((i:Int)<(K.1:Int))=true:=decide_eq_true (by omega)
        have hd2:decide ((i:Int)<(w.1:Int))=true:=decide_eq_true (by omega)
        cases hq:psqB K w i with
        | false =>
          have hq':=hq
          unfold psqB at hq'
          refine pcZ hc (tnpt g nb N pl np K w i) ?_ (ih (i+1) (by omega) (by rw [allB,ha,hq];rfl))
          repeat' (first | exact aN | apply aI)
          all_goals (first | exact aG _ | exact aP _ _ | omega | rfl | (intros;first | assumption | exact trivial | rfl | exact fT ‹_› | ((repeat' (first | assumption | apply anda | apply notf));done)) | (exact hd) | (exact hd2) | (exact hq') | (intro h;exact h) | (intros;omega) | (intros;simp [All];done))
        | true =>
          have hq':=hq
          unfold psqB at hq'
          rw [all_no (i:=i) (by omega) (show (!psqB K w i)=false by rw [hq];rfl)]
          refine pkZ Tryz.func304 hc (tnpf g nb N pl np K w i) ?_
          repeat' (first | exact aN | apply aI)
          all_goals (first | exact aG _ | omega | rfl | (intros;first | assumption | exact trivial | rfl | exact fT ‹_› | ((repeat' (first | assumption | apply anda | apply notf));done)) | (exact hd) | (exact hd2) | (exact hq') | (intro h;exact h) | (intros;omega))
    refine pcZ hc (tnpz g nb N pl np K w true true) ?_ (lo nb 0 (by omega) rfl)
    repeat' (first | exact aN | apply aI)
    all_goals (first | exact aG _ | exact aP _ _ | omega | rfl | (intros;first | assumption | exact trivial | rfl | exact fT ‹_› | ((repeat' (first | assumption | apply anda | apply notf));done)) | (exact c1) | (intros;exact c2) | (intros;simp [All];done))
theorem con_Proper_s (g:Nat→T_Bar) (nb:Nat) (N:Int) (pl:Nat→T_Place) (np:Nat) (K w:T_IntS) (hn:nb≤1048576∧np≤1048576) (hK:K.1≤1048576) (hw:w.1≤1048576) :
    Con Tryz.prog 298 0 [] [tsA g nb N pl np K,inL w] [] (.p (.bool (prpB g nb N pl np K w))):=by
  have c1:=con_IsTensegrity_s g nb N pl np K hn hK
  have c2:=con_IsStress_s g nb N pl np w hn hw
  refine csZ Tryz.func298 (fun c hc=>?_)
  cases ha:(bif tsB g nb N pl np K then strB g nb N pl np w else false) with
  | false =>
    have ha':(bif !tsB g nb N pl np K then true else !strB g nb N pl np w)=true:=by
      revert ha;cases tsB g nb N pl np K<;>cases strB g nb N pl np w<;>intro ha<;>first | rfl | cases ha
    rw [show prpB g nb N pl np K w=false by unfold prpB;rw [ha];rfl]
    refine pkZ Tryz.func298 hc (tnqN g nb N pl np K w (tsB g nb N pl np K) (strB g nb N pl np w)) ?_
    repeat' (first | exact aN | apply aI)
    all_goals (first | exact aG _ | omega | rfl | (intros;first | assumption | exact trivial | rfl | exact fT ‹_› | ((repeat' (first | assumption | apply anda | apply notf));done)) | (exact c1) | (intros;exact c2) | (exact ha') | (intro h;rw [h];rfl))
  | true =>
    have ht:tsB g nb N pl np K=true:=by cases h:tsB g nb N pl np K with | false=>rw [h] at ha;cases ha | true=>rfl
    have hs:strB g nb N pl np w=true:=by rw [ht] at ha;exact ha
    obtain ⟨hl,hb,hnp⟩:=str_len hs
    obtain ⟨hk,hf⟩:=ts_len ht
    rw [ht] at c1
    rw [hs] at c2
    have hr:prpB g nb N pl np K w=allB (fun i=>!psqB K w i) nb:=by unfold prpB;rw [ha];rfl
    rw [hr]
    have lo:∀ d i,i+d=nb→allB (fun i=>!psqB K w i) i=true→Run Tryz.prog c 298 zf81 (TnQ g nb N pl np K w i) (Post c [] (.p (.bool (allB (fun i=>!psqB K w i) nb)))):=by
      intro d
      induction d with
      | zero =>
        intro i hi hal
        obtain rfl:i=nb:=by omega
        have hd:decide ((i:Int)<(K.1:Int))=false:=decide_eq_false (by omega)
        have hd2:decide ((i:Int)<(w.1:Int))=false:=decide_eq_false (by omega)
        rw [hal]
        refine pkZ Tryz.func298 hc (tnqe g i N pl np K w i) ?_
        repeat' (first | exact aN | apply aI)
        all_goals (first | omega | rfl | (intros;first | assumption | exact trivial | rfl) | (exact hd) | (exact hd2))
      | succ d ih =>
        intro i hi ha
        have hd:decide ((i:Int)<(K.1:Int))=true:=decide_eq_true (by omega)
        have hd2:decide ((i:Int)<(w.1:Int))=true:=decide_eq_true (by omega)
        cases hq:psqB K w i with
        | false =>
          have hq':=hq
          unfold psqB at hq'
          refine pcZ hc (tnqt g nb N pl np K w i) ?_ (ih (i+1) (by omega) (by rw [allB,ha,hq];rfl))
          repeat' (first | exact aN | apply aI)
          all_goals (first | exact aG _ | exact aP _ _ | omega | rfl | (intros;first | assumption | exact trivial | rfl | exact fT ‹_› | ((repeat' (first | assumption | apply anda | apply notf));done)) | (exact hd) | (exact hd2) | (exact hq') | (intro h;exact h) | (intros;omega) | (intros;simp [All];done))
        | true =>
          have hq':=hq
          unfold psqB at hq'
          rw [all_no (i:=i) (by omega) (show (!psqB K w i)=false by rw [hq];rfl)]
          refine pkZ Tryz.func298 hc (tnqf g nb N pl np K w i) ?_
          repeat' (first | exact aN | apply aI)
          all_goals (first | exact aG _ | omega | rfl | (intros;first | assumption | exact trivial | rfl | exact fT ‹_› | ((repeat' (first | assumption | apply anda | apply notf));done)) | (exact hd) | (exact hd2) | (exact hq') | (intro h;exact h) | (intros;omega))
    refine pcZ hc (tnqz g nb N pl np K w true true) ?_ (lo nb 0 (by omega) rfl)
    repeat' (first | exact aN | apply aI)
    all_goals (first | exact aG _ | exact aP _ _ | omega | rfl | (intros;first | assumption | exact trivial | rfl | exact fT ‹_› | ((repeat' (first | assumption | apply anda | apply notf));done)) | (exact c1) | (intros;exact c2) | (intros;simp [All];done))
theorem con_Strict_i (g:Nat→T_Bar) (nb:Nat) (N:Int) (pl:Nat→T_Place) (np:Nat) (K w:T_IntS) (hn:nb≤1048576∧np≤1048576) (hK:K.1≤1048576) (hw:w.1≤1048576) :
    Con Tryz.prog 206 0 [] [tsA g nb N pl np K,inL w] [] (.p (.bool (strcB g nb N pl np K w))):=by
  have c1:=con_Proper_i g nb N pl np K w hn hK hw
  refine csZ Tryz.func206 (fun c hc=>?_)
  cases hp:prpB g nb N pl np K w with
  | false =>
    rw [hp] at c1
    rw [show strcB g nb N pl np K w=false by unfold strcB;rw [hp];rfl]
    refine pkZ Tryz.func206 hc (tnsN g nb N pl np K w) ?_
    repeat' (first | exact aN | apply aI)
    all_goals (first | omega | rfl | (intros;first | assumption | exact trivial | rfl) | (exact c1))
  | true =>
    rw [hp] at c1
    obtain ⟨ht,hs⟩:tsB g nb N pl np K=true∧strB g nb N pl np w=true:=by
      have h:=hp
      unfold prpB at h
      revert h
      cases tsB g nb N pl np K<;>cases strB g nb N pl np w<;>intro h<;>first | exact ⟨rfl,rfl⟩ | cases h
    obtain ⟨hl,hb,hnp⟩:=str_len hs
    obtain ⟨hk,hf⟩:=ts_len ht
    rw [show strcB g nb N pl np K w=allB (fun i=>!ssqB K w i) nb by unfold strcB;rw [hp];rfl]
    have lo:∀ d i,i+d=nb→allB (fun i=>!ssqB K w i) i=true→Run Tryz.prog c 206 zf82 (TnS g nb N pl np K w i) (Post c [] (.p (.bool (allB (fun i=>!ssqB K w i) nb)))):=by
      intro d
      induction d with
      | zero =>
        intro i hi hal
        obtain rfl:i=nb:=by omega
        have hd:decide ((i:Int)<(K.1:Int))=false:=decide_eq_false (by omega)
        have hd2:decide ((i:Int)<(w.1:Int))=false:=decide_eq_false (by omega)
        rw [hal]
        refine pkZ Tryz.func206 hc (tnse g i N pl np K w i) ?_
        repeat' (first | exact aN | apply aI)
        all_goals (first | omega | rfl | (intros;first | assumption | exact trivial | rfl) | (exact hd) | (exact hd2))
      | succ d ih =>
        intro i hi ha
        have hd:decide ((i:Int)<(K.1:Int))=true:=decide_eq_true (by omega)
        have hd2:decide ((i:Int)<(w.1:Int))=true:=decide_eq_true (by omega)
        cases hq:ssqB K w i with
        | false =>
          have hq':=hq
          unfold ssqB at hq'
          refine pcZ hc (tnst g nb N pl np K w i) ?_ (ih (i+1) (by omega) (by rw [allB,ha,hq];rfl))
          repeat' (first | exact aN | apply aI)
          all_goals (first | exact aG _ | exact aP _ _ | omega | rfl | (intros;first | assumption | exact trivial | rfl | exact fT ‹_›) | (exact hd) | (exact hd2) | (exact hq') | (intro h;exact h) | (intros;omega) | (intros;simp [All];done))
        | true =>
          have hq':=hq
          unfold ssqB at hq'
          rw [all_no (i:=i) (by omega) (show (!ssqB K w i)=false by rw [hq];rfl)]
          refine pkZ Tryz.func206 hc (tnsf g nb N pl np K w i) ?_
          repeat' (first | exact aN | apply aI)
          all_goals (first | exact aG _ | omega | rfl | (intros;first | assumption | exact trivial | rfl | exact fT ‹_›) | (exact hd) | (exact hd2) | (exact hq') | (intro h;exact h) | (intros;omega))
    refine pcZ hc (tnsz g nb N pl np K w) ?_ (lo nb 0 (by omega) rfl)
    repeat' (first | exact aN | apply aI)
    all_goals (first | exact aP _ _ | omega | rfl | (intros;first | assumption | exact trivial | rfl) | (exact c1) | (intros;simp [All];done))
theorem con_Strict_s (g:Nat→T_Bar) (nb:Nat) (N:Int) (pl:Nat→T_Place) (np:Nat) (K w:T_IntS) (hn:nb≤1048576∧np≤1048576) (hK:K.1≤1048576) (hw:w.1≤1048576) :
    Con Tryz.prog 197 0 [] [tsA g nb N pl np K,inL w] [] (.p (.bool (strcB g nb N pl np K w))):=by
  have c1:=con_Proper_s g nb N pl np K w hn hK hw
  refine csZ Tryz.func197 (fun c hc=>?_)
  cases hp:prpB g nb N pl np K w with
  | false =>
    rw [hp] at c1
    rw [show strcB g nb N pl np K w=false by unfold strcB;rw [hp];rfl]
    refine pkZ Tryz.func197 hc (tntN g nb N pl np K w) ?_
    repeat' (first | exact aN | apply aI)
    all_goals (first | omega | rfl | (intros;first | assumption | exact trivial | rfl) | (exact c1))
  | true =>
    rw [hp] at c1
    obtain ⟨ht,hs⟩:tsB g nb N pl np K=true∧strB g nb N pl np w=true:=by
      have h:=hp
      unfold prpB at h
      revert h
      cases tsB g nb N pl np K<;>cases strB g nb N pl np w<;>intro h<;>first | exact ⟨rfl,rfl⟩ | cases h
    obtain ⟨hl,hb,hnp⟩:=str_len hs
    obtain ⟨hk,hf⟩:=ts_len ht
    rw [show strcB g nb N pl np K w=allB (fun i=>!ssqB K w i) nb by unfold strcB;rw [hp];rfl]
    have lo:∀ d i,i+d=nb→allB (fun i=>!ssqB K w i) i=true→Run Tryz.prog c 197 zf83 (TnT g nb N pl np K w i) (Post c [] (.p (.bool (allB (fun i=>!ssqB K w i) nb)))):=by
      intro d
      induction d with
      | zero =>
        intro i hi hal
        obtain rfl:i=nb:=by omega
        have hd:decide ((i:Int)<(K.1:Int))=false:=decide_eq_false (by omega)
        have hd2:decide ((i:Int)<(w.1:Int))=false:=decide_eq_false (by omega)
        rw [hal]
        refine pkZ Tryz.func197 hc (tnte g i N pl np K w i) ?_
        repeat' (first | exact aN | apply aI)
        all_goals (first | omega | rfl | (intros;first | assumption | exact trivial | rfl) | (exact hd) | (exact hd2))
      | succ d ih =>
        intro i hi ha
        have hd:decide ((i:Int)<(K.1:Int))=true:=decide_eq_true (by omega)
        have hd2:decide ((i:Int)<(w.1:Int))=true:=decide_eq_true (by omega)
        cases hq:ssqB K w i with
        | false =>
          have hq':=hq
          unfold ssqB at hq'
          refine pcZ hc (tntt g nb N pl np K w i) ?_ (ih (i+1) (by omega) (by rw [allB,ha,hq];rfl))
          repeat' (first | exact aN | apply aI)
          all_goals (first | exact aG _ | exact aP _ _ | omega | rfl | (intros;first | assumption | exact trivial | rfl | exact fT ‹_›) | (exact hd) | (exact hd2) | (exact hq') | (intro h;exact h) | (intros;omega) | (intros;simp [All];done))
        | true =>
          have hq':=hq
          unfold ssqB at hq'
          rw [all_no (i:=i) (by omega) (show (!ssqB K w i)=false by rw [hq];rfl)]
          refine pkZ Tryz.func197 hc (tntf g nb N pl np K w i) ?_
          repeat' (first | exact aN | apply aI)
          all_goals (first | exact aG _ | omega | rfl | (intros;first | assumption | exact trivial | rfl | exact fT ‹_›) | (exact hd) | (exact hd2) | (exact hq') | (intro h;exact h) | (intros;omega))
    refine pcZ hc (tntz g nb N pl np K w) ?_ (lo nb 0 (by omega) rfl)
    repeat' (first | exact aN | apply aI)
    all_goals (first | exact aP _ _ | omega | rfl | (intros;first | assumption | exact trivial | rfl) | (exact c1) | (intros;simp [All];done))
theorem con_Allowed_i (g:Nat→T_Bar) (nb:Nat) (N:Int) (pl:Nat→T_Place) (np:Nat) (K v:T_IntS) (hn:nb≤1048576∧np≤1048576) (hK:K.1≤1048576) (hv:v.1≤1048576) :
    Con Tryz.prog 207 0 [] [tsA g nb N pl np K,inL v] [] (.p (.bool (alwB g nb N pl np K v))):=by
  have c1:=con_IsTensegrity_i g nb N pl np K hn hK
  have c2:=con_isVelocity g nb N pl np v hn hv
  refine csZ Tryz.func207 (fun c hc=>?_)
  cases ha:(bif tsB g nb N pl np K then velB g nb N pl np v else false) with
  | false =>
    have ha':(bif !tsB g nb N pl np K then true else !velB g nb N pl np v)=true:=by
      revert ha;cases tsB g nb N pl np K<;>cases velB g nb N pl np v<;>intro ha<;>first | rfl | cases ha
    rw [show alwB g nb N pl np K v=false by unfold alwB;rw [ha];rfl]
    refine pkZ Tryz.func207 hc (tnmN g nb N pl np K v (tsB g nb N pl np K) (velB g nb N pl np v)) ?_
    repeat' (first | exact aN | apply aI)
    all_goals (first | exact aG _ | omega | rfl | (intros;first | assumption | exact trivial | rfl | exact fT ‹_› | ((repeat' (first | assumption | apply anda | apply notf));done)) | (exact c1) | (intros;exact c2) | (exact ha') | (intro h;rw [h];rfl))
  | true =>
    have ht:tsB g nb N pl np K=true:=by cases h:tsB g nb N pl np K with | false=>rw [h] at ha;cases ha | true=>rfl
    have hs:velB g nb N pl np v=true:=by rw [ht] at ha;exact ha
    obtain ⟨hk,hf⟩:=ts_len ht
    obtain ⟨n,rfl⟩:=fw_N hf
    have ok:=vOk hs
    have hb:=ok.hnb
    have hnp:=ok.hnp
    have hN:=ok.hN
    have hok:=(graph_in ok.gr).2.2
    rw [ht] at c1
    rw [hs] at c2
    have hr:alwB g nb n pl np K v=allB (fun i=>!amqB K (chQ g pl v i) i) nb:=by unfold alwB;rw [ha];rfl
    rw [hr]
    have lo:∀ d i,i+d=nb→allB (fun i=>!amqB K (chQ g pl v i) i) i=true→Run Tryz.prog c 207 zf84 (TnM g nb n pl np K v i) (Post c [] (.p (.bool (allB (fun i=>!amqB K (chQ g pl v i) i) nb)))):=by
      intro d
      induction d with
      | zero =>
        intro i hi hal
        obtain rfl:i=nb:=by omega
        have hd:decide ((i:Int)<(i:Int))=false:=decide_eq_false (by omega)
        have hd2:decide ((i:Int)<(K.1:Int))=false:=decide_eq_false (by omega)
        rw [hal]
        refine pkZ Tryz.func207 hc (tnme g i n pl np K v i) ?_
        repeat' (first | exact aN | apply aI)
        all_goals (first | omega | rfl | (intros;first | assumption | exact trivial | rfl) | (exact hd) | (exact hd2))
      | succ d ih =>
        intro i hi ha
        have hd:decide ((i:Int)<(nb:Int))=true:=decide_eq_true (by omega)
        have hd2:decide ((i:Int)<(K.1:Int))=true:=decide_eq_true (by omega)
        have hb:=hok i (by omega)
        have cc:=(con_Change ok (a:=(g i).1.toNat) (b:=(g i).2.1.toNat) (by omega) (by omega)).1
        rw [show (((g i).1.toNat:Nat):Int)=(g i).1 by omega,show (((g i).2.1.toNat:Nat):Int)=(g i).2.1 by omega] at cc
        change Con _ _ _ _ _ _ (.p (.int .i64 (chQ g pl v i))) at cc
        generalize hx:chQ g pl v i=x at cc
        cases hq:amqB K x i with
        | false =>
          have hq':=hq
          unfold amqB at hq'
          refine pcZ hc (tnmt g nb n pl np K v i x) ?_ (ih (i+1) (by omega) (by rw [allB,ha];show (true&&!amqB K (chQ g pl v i) i)=true;rw [hx,hq];rfl))
          repeat' (first | exact aN | apply aI)
          all_goals (first | exact aG _ | exact aP _ _ | omega | rfl | (intros;first | assumption | exact trivial | rfl | exact fT ‹_› | ((repeat' (first | assumption | apply anda | apply notf));done)) | (exact hd) | (exact hd2) | (exact cc) | (exact hq') | (intro h;exact h) | (intros;omega) | (intros;simp [All];done))
        | true =>
          have hq':=hq
          unfold amqB at hq'
          rw [all_no (i:=i) (by omega) (show (!amqB K (chQ g pl v i) i)=false by rw [hx,hq];rfl)]
          refine pkZ Tryz.func207 hc (tnmf g nb n pl np K v i x) ?_
          repeat' (first | exact aN | apply aI)
          all_goals (first | exact aG _ | omega | rfl | (intros;first | assumption | exact trivial | rfl | exact fT ‹_› | ((repeat' (first | assumption | apply anda | apply notf));done)) | (exact hd) | (exact hd2) | (exact cc) | (exact hq') | (intro h;exact h) | (intros;omega))
    refine pcZ hc (tnmz g nb n pl np K v true true) ?_ (lo nb 0 (by omega) rfl)
    repeat' (first | exact aN | apply aI)
    all_goals (first | exact aG _ | exact aP _ _ | omega | rfl | (intros;first | assumption | exact trivial | rfl | exact fT ‹_› | ((repeat' (first | assumption | apply anda | apply notf));done)) | (exact c1) | (intros;exact c2) | (intros;simp [All];done))
theorem con_Allowed_s (g:Nat→T_Bar) (nb:Nat) (N:Int) (pl:Nat→T_Place) (np:Nat) (K v:T_IntS) (hn:nb≤1048576∧np≤1048576) (hK:K.1≤1048576) (hv:v.1≤1048576) :
    Con Tryz.prog 198 0 [] [tsA g nb N pl np K,inL v] [] (.p (.bool (alwB g nb N pl np K v))):=by
  have c1:=con_IsTensegrity_s g nb N pl np K hn hK
  have c2:=con_Vector g nb N pl np v hn hv
  refine csZ Tryz.func198 (fun c hc=>?_)
  cases ha:(bif tsB g nb N pl np K then velB g nb N pl np v else false) with
  | false =>
    have ha':(bif !tsB g nb N pl np K then true else !velB g nb N pl np v)=true:=by
      revert ha;cases tsB g nb N pl np K<;>cases velB g nb N pl np v<;>intro ha<;>first | rfl | cases ha
    rw [show alwB g nb N pl np K v=false by unfold alwB;rw [ha];rfl]
    refine pkZ Tryz.func198 hc (tnnN g nb N pl np K v (tsB g nb N pl np K) (velB g nb N pl np v)) ?_
    repeat' (first | exact aN | apply aI)
    all_goals (first | exact aG _ | omega | rfl | (intros;first | assumption | exact trivial | rfl | exact fT ‹_› | ((repeat' (first | assumption | apply anda | apply notf));done)) | (exact c1) | (intros;exact c2) | (exact ha') | (intro h;rw [h];rfl))
  | true =>
    have ht:tsB g nb N pl np K=true:=by cases h:tsB g nb N pl np K with | false=>rw [h] at ha;cases ha | true=>rfl
    have hs:velB g nb N pl np v=true:=by rw [ht] at ha;exact ha
    obtain ⟨hk,hf⟩:=ts_len ht
    obtain ⟨n,rfl⟩:=fw_N hf
    have ok:=vOk hs
    have hb:=ok.hnb
    have hnp:=ok.hnp
    have hN:=ok.hN
    have hok:=(graph_in ok.gr).2.2
    rw [ht] at c1
    rw [hs] at c2
    have hr:alwB g nb n pl np K v=allB (fun i=>!amqB K (chQ g pl v i) i) nb:=by unfold alwB;rw [ha];rfl
    rw [hr]
    have lo:∀ d i,i+d=nb→allB (fun i=>!amqB K (chQ g pl v i) i) i=true→Run Tryz.prog c 198 zf85 (TnN g nb n pl np K v i) (Post c [] (.p (.bool (allB (fun i=>!amqB K (chQ g pl v i) i) nb)))):=by
      intro d
      induction d with
      | zero =>
        intro i hi hal
        obtain rfl:i=nb:=by omega
        have hd:decide ((i:Int)<(i:Int))=false:=decide_eq_false (by omega)
        have hd2:decide ((i:Int)<(K.1:Int))=false:=decide_eq_false (by omega)
        rw [hal]
        refine pkZ Tryz.func198 hc (tnne g i n pl np K v i) ?_
        repeat' (first | exact aN | apply aI)
        all_goals (first | omega | rfl | (intros;first | assumption | exact trivial | rfl) | (exact hd) | (exact hd2))
      | succ d ih =>
        intro i hi ha
        have hd:decide ((i:Int)<(nb:Int))=true:=decide_eq_true (by omega)
        have hd2:decide ((i:Int)<(K.1:Int))=true:=decide_eq_true (by omega)
        have hb:=hok i (by omega)
        have cc:=(con_Change ok (a:=(g i).1.toNat) (b:=(g i).2.1.toNat) (by omega) (by omega)).2
        rw [show (((g i).1.toNat:Nat):Int)=(g i).1 by omega,show (((g i).2.1.toNat:Nat):Int)=(g i).2.1 by omega] at cc
        change Con _ _ _ _ _ _ (.p (.int .i64 (chQ g pl v i))) at cc
        generalize hx:chQ g pl v i=x at cc
        cases hq:amqB K x i with
        | false =>
          have hq':=hq
          unfold amqB at hq'
          refine pcZ hc (tnnt g nb n pl np K v i x) ?_ (ih (i+1) (by omega) (by rw [allB,ha];show (true&&!amqB K (chQ g pl v i) i)=true;rw [hx,hq];rfl))
          repeat' (first | exact aN | apply aI)
          all_goals (first | exact aG _ | exact aP _ _ | omega | rfl | (intros;first | assumption | exact trivial | rfl | exact fT ‹_› | ((repeat' (first | assumption | apply anda | apply notf));done)) | (exact hd) | (exact hd2) | (exact cc) | (exact hq') | (intro h;exact h) | (intros;omega) | (intros;simp [All];done))
        | true =>
          have hq':=hq
          unfold amqB at hq'
          rw [all_no (i:=i) (by omega) (show (!amqB K (chQ g pl v i) i)=false by rw [hx,hq];rfl)]
          refine pkZ Tryz.func198 hc (tnnf g nb n pl np K v i x) ?_
          repeat' (first | exact aN | apply aI)
          all_goals (first | exact aG _ | omega | rfl | (intros;first | assumption | exact trivial | rfl | exact fT ‹_› | ((repeat' (first | assumption | apply anda | apply notf));done)) | (exact hd) | (exact hd2) | (exact cc) | (exact hq') | (intro h;exact h) | (intros;omega))
    refine pcZ hc (tnnz g nb n pl np K v true true) ?_ (lo nb 0 (by omega) rfl)
    repeat' (first | exact aN | apply aI)
    all_goals (first | exact aG _ | exact aP _ _ | omega | rfl | (intros;first | assumption | exact trivial | rfl | exact fT ‹_› | ((repeat' (first | assumption | apply anda | apply notf));done)) | (exact c1) | (intros;exact c2) | (intros;simp [All];done))
theorem con_PStiff_i (g:Nat→T_Bar) (nb:Nat) (N:Int) (pl:Nat→T_Place) (np:Nat) (K w:T_IntS) (hn:nb≤1048576∧np≤1048576) (hK:K.1≤1048576) (hw:w.1≤1048576) :
    Con Tryz.prog 98 0 [] [tsA g nb N pl np K,inL w] [] (.p (.bool (bif strcB g nb N pl np K w then ffF g nb N pl np==0 else false))):=by
  have c1:=con_Strict_i g nb N pl np K w hn hK hw
  have c2:=(con_IsStiff g nb N pl np hn).1
  refine csZ Tryz.func98 (fun c hc=>?_)
  refine pkZ Tryz.func98 hc (pvsi g nb N pl np K w (strcB g nb N pl np K w) (ffF g nb N pl np==0)) ?_
  repeat' (first | exact aN | apply aI)
  all_goals (first | exact aG _ | omega | rfl | (intros;first | assumption | exact trivial | rfl | exact fT ‹_›) | (exact c1) | (intros;exact c2) | (intro h;exact h) | rfl)
theorem con_PLoose_i (g:Nat→T_Bar) (nb:Nat) (N:Int) (pl:Nat→T_Place) (np:Nat) (K v:T_IntS) (hn:nb≤1048576∧np≤1048576) (hK:K.1≤1048576) (hv:v.1≤1048576) :
    Con Tryz.prog 99 0 [] [tsA g nb N pl np K,inL v] [] (.p (.bool (bif alwB g nb N pl np K v then !tmB g nb N pl np v else false))):=by
  have c1:=con_Allowed_i g nb N pl np K v hn hK hv
  have c2:=con_Trivial_i g nb N pl np v hn hv
  refine csZ Tryz.func99 (fun c hc=>?_)
  refine pkZ Tryz.func99 hc (pvli g nb N pl np K v (alwB g nb N pl np K v) (tmB g nb N pl np v)) ?_
  repeat' (first | exact aN | apply aI)
  all_goals (first | exact aG _ | omega | rfl | (intros;first | assumption | exact trivial | rfl | exact fT ‹_›) | (exact c1) | (intros;exact c2) | (intro h;exact h) | rfl)
theorem con_PStiff_s (g:Nat→T_Bar) (nb:Nat) (N:Int) (pl:Nat→T_Place) (np:Nat) (K w:T_IntS) (hn:nb≤1048576∧np≤1048576) (hK:K.1≤1048576) (hw:w.1≤1048576) :
    Con Tryz.prog 88 0 [] [tsA g nb N pl np K,inL w] [] (.p (.bool (bif strcB g nb N pl np K w then ffF g nb N pl np==0 else false))):=by
  have c1:=con_Strict_s g nb N pl np K w hn hK hw
  have c2:=(con_IsStiff g nb N pl np hn).2
  refine csZ Tryz.func88 (fun c hc=>?_)
  refine pkZ Tryz.func88 hc (pvss g nb N pl np K w (strcB g nb N pl np K w) (ffF g nb N pl np==0)) ?_
  repeat' (first | exact aN | apply aI)
  all_goals (first | exact aG _ | omega | rfl | (intros;first | assumption | exact trivial | rfl | exact fT ‹_›) | (exact c1) | (intros;exact c2) | (intro h;exact h) | rfl)
theorem con_PLoose_s (g:Nat→T_Bar) (nb:Nat) (N:Int) (pl:Nat→T_Place) (np:Nat) (K v:T_IntS) (hn:nb≤1048576∧np≤1048576) (hK:K.1≤1048576) (hv:v.1≤1048576) :
    Con Tryz.prog 89 0 [] [tsA g nb N pl np K,inL v] [] (.p (.bool (bif alwB g nb N pl np K v then !tmB g nb N pl np v else false))):=by
  have c1:=con_Allowed_s g nb N pl np K v hn hK hv
  have c2:=con_Trivial12 g nb N pl np v hn hv
  refine csZ Tryz.func89 (fun c hc=>?_)
  refine pkZ Tryz.func89 hc (pvls g nb N pl np K v (alwB g nb N pl np K v) (tmB g nb N pl np v)) ?_
  repeat' (first | exact aN | apply aI)
  all_goals (first | exact aG _ | omega | rfl | (intros;first | assumption | exact trivial | rfl | exact fT ‹_›) | (exact c1) | (intros;exact c2) | (intro h;exact h) | rfl)
end Go.Proofs.YtkkjoghiigiokaaGreat.Mach
namespace Go.Proofs.YtkkjoghiigiokaaGreat.Mach
open Go
set_option linter.unusedVariables false
set_option linter.unusedSimpArgs false
def ssOb (n:Nat) (C:Nat→T_IntS):Ob:=⟨false,1,n,fun i=>[.p (.seq false 1 (C i).1 (fun s=>[.int .i64 ((C i).2 s)]))]⟩
end Go.Proofs.YtkkjoghiigiokaaGreat.Mach
namespace Go.Proofs.YtkkjoghiigiokaaGreat.Mach
open Go
set_option linter.unusedVariables false
set_option linter.unusedSimpArgs false
def trS (S:Nat→Nat→Int):Nat→Nat→Nat→Int
  | 0,_,_=>0
  | i+1,t,j=>trS S i (t / 5) j+(((t % 5:Nat):Int) - 2)*S i j
def Lt0 (n q:Nat) (S:Nat→Nat→Int) (i C:Nat):St :=
  ⟨[ssA2 q (cM n S),.p (.int .i64 n),.p .any,.p .any,.p .any,.ar 1 0 0 C,.p (.int .i64 i)]++List.replicate 61 anyA,[(0,ssOb C (cM n (trS S i)))],1⟩
def Lt1 (n q:Nat) (S:Nat→Nat→Int) (i C k:Nat):St :=
  ⟨[ssA2 q (cM n S),.p (.int .i64 n),.p .any,.p .any,.p .any,.ar 1 0 0 C,.p (.int .i64 i),.ar 1 1 0 (5*k),.p (.int .i64 k)]++List.replicate 59 anyA,[(0,ssOb C (cM n (trS S i))),(1,ssOb (5*k) (cM n (trS S (i+1))))],2⟩
def Lt2 (n q:Nat) (S:Nat→Nat→Int) (i C k a:Nat):St :=
  ⟨[ssA2 q (cM n S),.p (.int .i64 n),.p .any,.p .any,.p .any,.ar 1 0 0 C,.p (.int .i64 i),.ar 1 1 0 (5*k+a),.p (.int .i64 k),.p (.int .i64 ((a:Int) - 2))]++List.replicate 58 anyA,[(0,ssOb C (cM n (trS S i))),(1,ssOb (5*k+a) (cM n (trS S (i+1))))],2⟩
def Lt3 (n q:Nat) (S:Nat→Nat→Int) (i C k a j:Nat):St :=
  ⟨[ssA2 q (cM n S),.p (.int .i64 n),.p .any,.p .any,.p .any,.ar 1 0 0 C,.p (.int .i64 i),.ar 1 1 0 (5*k+a),.p (.int .i64 k),.p (.int .i64 ((a:Int) - 2)),.ar 1 2 0 j,.p (.int .i64 j)]++List.replicate 56 anyA,[(0,ssOb C (cM n (trS S i))),(1,ssOb (5*k+a) (cM n (trS S (i+1)))),(2,iOb j (trS S (i+1) (5*k+a)))],3⟩
def FsS (g:Nat→T_Bar) (nb:Nat) (N:Int) (pl:Nat→T_Place) (np:Nat) (K:T_IntS) (C:Nat) (V:Nat→Nat→Int) (i:Nat):St :=
  ⟨[.p .any,.pt 4 0 0 0,.p .any,.p .any,.ar 1 1 0 C,.p (.int .i64 i)]++List.replicate 30 anyA,[(0,tsO g nb N pl np K),(1,ssOb C (cM nb V))],2⟩
def fl0 (p:Nat):Ob:=⟨true,1,1,fun _=>[.ar 1 1 0 p]⟩
def tsF (g:Nat→T_Bar) (nb:Nat) (N:Int) (pl:Nat→T_Place) (np:Nat) (K:T_IntS):Ob:=⟨true,4,1,fun _=>[.p (.int .i64 N),.p (.seq false 2 nb (fun i=>[.int .i64 (g i).1,.int .i64 (g i).2.1])),.p (.seq false 2 np (fun i=>[.int .i64 (pl i).1,.int .i64 (pl i).2.1])),.p (.seq false 1 K.1 (fun i=>[.int .i64 (K.2 i)]))]⟩
def fcO:Ob:=⟨true,1,1,fun _=>[.clo 262 [.pt 1 0 0 0,.pt 4 3 0 0,.pt 1 4 0 0]]⟩
def fsH (g:Nat→T_Bar) (nb:Nat) (N:Int) (pl:Nat→T_Place) (np:Nat) (K:T_IntS) (q p:Nat) (S:Nat→Nat→Int) (k n:Nat) (w:Nat→Int):Hp :=
  [(0,fl0 p),(1,ooOb 2 q (cM nb S)),(2,ffOb q (cM nb S)),(3,tsF g nb N pl np K),(4,fcO),(k,iOb n w)]
def Fs0 (g:Nat→T_Bar) (nb:Nat) (N:Int) (pl:Nat→T_Place) (np:Nat) (K:T_IntS) (q p:Nat) (S:Nat→Nat→Int) (i:Nat) (w:Nat→Int) (f:Int):St :=
  ⟨[.ar 1 5 0 nb,.p (.int .i64 i),.pt 1 0 0 0,.pt 4 3 0 0,.pt 1 4 0 0,.p .any,.p .any,.p .any,.p .any,.p (.int .i64 f)]++List.replicate 52 anyA,
   [(0,fl0 p),(1,ooOb 2 q (cM nb S)),(2,ffOb q (cM nb S)),(3,tsF g nb N pl np K),(4,fcO),(5,iOb nb w)],6⟩
def Fs1 (g:Nat→T_Bar) (nb:Nat) (N:Int) (pl:Nat→T_Place) (np:Nat) (K:T_IntS) (q p:Nat) (S:Nat→Nat→Int) (i:Nat) (w:Nat→Int) (f:Int) (x:Nat→Int) (k:Nat):St :=
  ⟨[.ar 1 5 0 nb,.p (.int .i64 i),.pt 1 0 0 0,.pt 4 3 0 0,.pt 1 4 0 0,.p .any,.p .any,.p .any,.p .any,.p (.int .i64 f),.ar 1 6 0 nb]++List.replicate 17 anyA++[.ar 1 6 0 nb,.p (.int .i64 nb),.p (.int .i64 k)]++List.replicate 31 anyA,
   [(0,fl0 p),(1,ooOb 2 q (cM nb S)),(2,ffOb q (cM nb S)),(3,tsF g nb N pl np K),(4,fcO),(5,iOb nb w),(6,iOb nb x)],7⟩
def Fs2 (g:Nat→T_Bar) (nb:Nat) (N:Int) (pl:Nat→T_Place) (np:Nat) (K:T_IntS) (q p:Nat) (S:Nat→Nat→Int) (i:Nat) (w:Nat→Int) (f:Int) (x:Nat→Int):St :=
  ⟨[.ar 1 5 0 nb,.p (.int .i64 i),.pt 1 0 0 0,.pt 4 3 0 0,.pt 1 4 0 0,.p .any,.p .any,.p .any,.p .any,.p (.int .i64 f),.ar 1 6 0 nb]++List.replicate 51 anyA,
   [(0,fl0 p),(1,ooOb 2 q (cM nb S)),(2,ffOb q (cM nb S)),(3,tsF g nb N pl np K),(4,fcO),(5,iOb nb w),(6,iOb nb x)],7⟩
def xkF (w s:Nat→Int) (f:Int) (k j:Nat):Int:=if j<k then w j+f*s j else w j
theorem ltz (n q:Nat) (S:Nat→Nat→Int) :
    pieceOb Tryz.prog 0 [rg 1,rg 4,rg 1,.head] [.code (bodyOf Tryz.f257)] (start Tryz.f257 [] 0 [ssA2 q (cM n S),.p (.int .i64 n)]) [96] 1 (Lt0 n q S 0 1) =
    some (zf86,[(IL 0 (↑n:Int)),(IL (↑n:Int) (↑n:Int)),(IL ((↑n:Int)*(↑8:Int)) 281474976710656),(ZHi (↑n:Int)),(AN q),(AP q (fun i=>[.seq true 1 n (fun i_1=>[.int .i64 ((cM n S i).2 i_1)])])),(AI ((↑n:Int))),(AN 0),(AN 1),((0:Int)=(↑0:Int)),(AN 1),(NL 1 1),(∀ i:Nat,(((i:Nat)<1)→(All [(AN 1),((n:Nat)≤n)]∧(([.p (.seq false 1 n (fun i_1=>[.int .i64 0]))]:List AV)=[.p (.seq false 1 n (fun i_1=>[.int .i64 ((cM n (trS S 0) i).2 i_1)]))]))))]):=by kernel_rfl
theorem lta (n q:Nat) (S:Nat→Nat→Int) (i C:Nat) :
    pieceOb Tryz.prog 0 [rg 8,.dec true,rg 2,rg 1,.head] zf86 (Lt0 n q S i C) [0,257] 1 (Lt1 n q S i C 0) =
    some (zf14,[(AG (decide ((↑i:Int)<(↑q:Int)))),(AG (decide ((↑i:Int)<(↑q:Int)))),((bif decide ((↑i:Int)<(↑q:Int)) then decide ((↑i:Int)<3) else false)=true),(AN q),(AP q (fun i_1=>[.seq true 1 n (fun i_2=>[.int .i64 ((cM n S i_1).2 i_2)])])),(AI ((↑n:Int))),(AN 0),(AN C),(AI ((↑i:Int))),(AN 0),(AN 0),((0:Int)=(↑0:Int)),(AN 1),(NL C C),(AA C (fun i_1=>[.p (.seq false 1 n (fun i_2=>[.int .i64 ((cM n (trS S i) i_1).2 i_2)]))])),(AN 1),(NL 0 0),(∀ i_1:Nat,(((i_1:Nat)<0)→(All []∧(([.p (.nil)]:List AV)=[.p (.seq false 1 n (fun i_2=>[.int .i64 ((cM n (trS S (i+1)) i_1).2 i_2)]))]))))]):=by kernel_rfl
theorem lte (n q:Nat) (S:Nat→Nat→Int) (i C:Nat) :
    pathOb Tryz.prog Tryz.f257 0 [rg 8,.dec false,rg 2] zf86 (Lt0 n q S i C) [0] 1 [(0,ssOb C (cM n (trS S i)))] (.ar 1 0 0 C) =
    some [(AG (decide ((↑i:Int)<(↑q:Int)))),(AG (decide ((↑i:Int)<(↑q:Int)))),((bif decide ((↑i:Int)<(↑q:Int)) then decide ((↑i:Int)<3) else false)=false),(AN 0),(AN C),(AN 1),(NL C C),(AA C (fun i_1=>[.p (.seq false 1 n (fun i_2=>[.int .i64 ((cM n (trS S i) i_1).2 i_2)]))])),(∀ i_1:Nat,(((i_1:Nat)<C)→All [(false=false),(AE n)]))]:=by kernel_rfl
theorem ltb (n q:Nat) (S:Nat→Nat→Int) (i C k:Nat) :
    pieceOb Tryz.prog 0 [rg 4,.dec true,rg 1,.head] zf14 (Lt1 n q S i C k) [0,1] 1 (Lt2 n q S i C k 0) =
    some (zf3,[((decide ((↑k:Int)<(↑C:Int)))=true),(AN q),(AP q (fun i_1=>[.seq true 1 n (fun i_2=>[.int .i64 ((cM n S i_1).2 i_2)])])),(AI ((↑n:Int))),(AN 0),(AN C),(AI ((↑i:Int))),(AN 0),(AN ((5*k))),(AI ((↑k:Int))),(((-2):Int)=((↑0:Int) - 2)),(AN 1),(NL C C),(AA C (fun i_1=>[.p (.seq false 1 n (fun i_2=>[.int .i64 ((cM n (trS S i) i_1).2 i_2)]))])),(AN 1),(NL (5*k) (5*k)),(AA ((5*k)) (fun i_1=>[.p (.seq false 1 n (fun i_2=>[.int .i64 ((cM n (trS S (i+1)) i_1).2 i_2)]))]))]):=by kernel_rfl
theorem ltc (n q:Nat) (S:Nat→Nat→Int) (i C C' k:Nat) :
    pieceOb Tryz.prog 0 [rg 4,.dec false,rg 2,rg 3,.head] zf14 (Lt1 n q S i C k) [1] 1 (Lt0 n q S (i+1) C') =
    some (zf86,[((decide ((↑k:Int)<(↑C:Int)))=false),(ZLo ((↑i:Int)+1)),(ZHi ((↑i:Int)+1)),(AN q),(AP q (fun i_1=>[.seq true 1 n (fun i_2=>[.int .i64 ((cM n S i_1).2 i_2)])])),(AI ((↑n:Int))),(AN 0),(((5*k):Nat)=C'),((((↑i:Int)+1):Int)=(↑(i+1):Int)),(AN 1),(NL (C') (5*k)),(AA (C') (fun i_1=>[.p (.seq false 1 n (fun i_2=>[.int .i64 ((cM n (trS S (i+1)) i_1).2 i_2)]))]))]):=by kernel_rfl
theorem ltd (n q:Nat) (S:Nat→Nat→Int) (i C k a:Nat) :
    pieceOb Tryz.prog 0 [rg 2,.dec true,rg 2,rg 1,.head] zf3 (Lt2 n q S i C k a) [0,1,66] 1 (Lt3 n q S i C k a 0) =
    some (zf1,[((decide ((↑a:Int) - 2≤2))=true),(AN q),(AP q (fun i_1=>[.seq true 1 n (fun i_2=>[.int .i64 ((cM n S i_1).2 i_2)])])),(AI ((↑n:Int))),(AN 0),(AN C),(AI ((↑i:Int))),(AN 0),(AN ((5*k+a))),(AI ((↑k:Int))),(AI (((↑a:Int) - 2))),(AN 0),(AN 0),((0:Int)=(↑0:Int)),(AN 1),(NL C C),(AA C (fun i_1=>[.p (.seq false 1 n (fun i_2=>[.int .i64 ((cM n (trS S i) i_1).2 i_2)]))])),(AN 1),(NL (5*k+a) (5*k+a)),(AA ((5*k+a)) (fun i_1=>[.p (.seq false 1 n (fun i_2=>[.int .i64 ((cM n (trS S (i+1)) i_1).2 i_2)]))])),(AN 1),(NL 0 0),(∀ i_1:Nat,(((i_1:Nat)<0)→(All []∧(([.p (.int .i64 0)]:List AV)=[.p (.int .i64 (trS S (i+1) (5*k+a) i_1))]))))]):=by kernel_rfl
theorem ltf (n q:Nat) (S:Nat→Nat→Int) (i C k a:Nat) :
    pieceOb Tryz.prog 0 [rg 2,.dec false,rg 3,.head] zf3 (Lt2 n q S i C k a) [0,1] 1 (Lt1 n q S i C (k+1)) =
    some (zf14,[((decide ((↑a:Int) - 2≤2))=false),(ZLo ((↑k:Int)+1)),(ZHi ((↑k:Int)+1)),(AN q),(AP q (fun i_1=>[.seq true 1 n (fun i_2=>[.int .i64 ((cM n S i_1).2 i_2)])])),(AI ((↑n:Int))),(AN 0),(AN C),(AI ((↑i:Int))),(AN 0),(((5*k+a):Nat)=(5*(k+1))),((((↑k:Int)+1):Int)=(↑(k+1):Int)),(AN 1),(NL C C),(AA C (fun i_1=>[.p (.seq false 1 n (fun i_2=>[.int .i64 ((cM n (trS S i) i_1).2 i_2)]))])),(AN 1),(NL (5*(k+1)) (5*k+a)),(AA ((5*(k+1))) (fun i_1=>[.p (.seq false 1 n (fun i_2=>[.int .i64 ((cM n (trS S (i+1)) i_1).2 i_2)]))]))]):=by kernel_rfl
theorem ltg (n q:Nat) (S:Nat→Nat→Int) (i C k a j:Nat) :
    pieceOb Tryz.prog 0 [rg 3,.dec true,rg 21,rg 3,.head] zf1 (Lt3 n q S i C k a j) [0,1,707] 1 (Lt3 n q S i C k a (j+1)) =
    some (zf1,[((decide ((↑j:Int)<(↑n:Int)))=true),(IL 0 (↑k:Int)),(IT (↑k:Int) (↑C:Int)),(NT k C),(IL 0 (↑j:Int)),(IT (↑j:Int) (↑n:Int)),(IL 0 (↑i:Int)),(IT (↑i:Int) (↑q:Int)),(IL 0 (↑j:Int)),(IT (↑j:Int) (↑n:Int)),(ZLo (((↑a:Int) - 2)*(cM n S i).2 j)),(ZHi (((↑a:Int) - 2)*(cM n S i).2 j)),(ZLo ((cM n (trS S i) k).2 j+((↑a:Int) - 2)*(cM n S i).2 j)),(ZHi ((cM n (trS S i) k).2 j+((↑a:Int) - 2)*(cM n S i).2 j)),(NL 1 1),(NL j j),(NL ((j+1)*8) 140737488355328),(NL (j+1) 9223372036854775807),(ZLo ((↑j:Int)+1)),(ZHi ((↑j:Int)+1)),(AN q),(AP q (fun i_1=>[.seq true 1 n (fun i_2=>[.int .i64 ((cM n S i_1).2 i_2)])])),(AI ((↑n:Int))),(AN 0),(AN C),(AI ((↑i:Int))),(AN 0),(AN ((5*k+a))),(AI ((↑k:Int))),(AI (((↑a:Int) - 2))),(AN 0),(AN ((j+1))),((((↑j:Int)+1):Int)=(↑(j+1):Int)),(AN 1),(NL C C),(AA C (fun i_1=>[.p (.seq false 1 n (fun i_2=>[.int .i64 ((cM n (trS S i) i_1).2 i_2)]))])),(AN 1),(NL (5*k+a) (5*k+a)),(AA ((5*k+a)) (fun i_1=>[.p (.seq false 1 n (fun i_2=>[.int .i64 ((cM n (trS S (i+1)) i_1).2 i_2)]))])),(AN 1),(NL (j+1) (j+1)),(CV [(707,⟨false,1,(j+1),(fun i_2=>(if (i_2<j) then [.p (.int .i64 (trS S (i+1) (5*k+a) i_2))] else [.p (.int .i64 ((cM n (trS S i) k).2 j+((↑a:Int) - 2)*(cM n S i).2 j))]))⟩),(675,⟨false,1,1,(fun i_2=>[.p (.int .i64 ((cM n (trS S i) k).2 j+((↑a:Int) - 2)*(cM n S i).2 j))])⟩),(0,⟨false,1,C,(fun i_2=>[.p (.seq false 1 n (fun i_3=>[.int .i64 ((cM n (trS S i) i_2).2 i_3)]))])⟩),(1,⟨false,1,(5*k+a),(fun i_2=>[.p (.seq false 1 n (fun i_3=>[.int .i64 ((cM n (trS S (i+1)) i_2).2 i_3)]))])⟩)] [0,1,707] 1 (j+1) (fun i_1=>if (i_1<j) then [.p (.int .i64 (trS S (i+1) (5*k+a) i_1))] else [.p (.int .i64 ((cM n (trS S i) k).2 j+((↑a:Int) - 2)*(cM n S i).2 j))]) (fun i_1=>[.p (.int .i64 (trS S (i+1) (5*k+a) i_1))]))]):=by kernel_rfl
theorem lth (n q:Nat) (S:Nat→Nat→Int) (i C k a:Nat) :
    pieceOb Tryz.prog 0 [rg 3,.dec false,rg 5,rg 3,.head] zf1 (Lt3 n q S i C k a n) [0,195] 1 (Lt2 n q S i C k (a+1)) =
    some (zf3,[((decide ((↑n:Int)<(↑n:Int)))=false),(NL 1 1),(NL (5*k+a) (5*k+a)),(NL ((5*k+a+1)*24) 140737488355328),(NL (5*k+a+1) 9223372036854775807),(ZLo ((↑a:Int) - 2+1)),(ZHi ((↑a:Int) - 2+1)),(AN q),(AP q (fun i_1=>[.seq true 1 n (fun i_2=>[.int .i64 ((cM n S i_1).2 i_2)])])),(AI ((↑n:Int))),(AN 0),(AN C),(AI ((↑i:Int))),(AN 0),(((5*k+a+1):Nat)=(5*k+(a+1))),(AI ((↑k:Int))),((((↑a:Int) - 2+1):Int)=((↑(a+1):Int) - 2)),(AN 1),(NL C C),(AA C (fun i_1=>[.p (.seq false 1 n (fun i_2=>[.int .i64 ((cM n (trS S i) i_1).2 i_2)]))])),(AN 1),(NL (5*k+(a+1)) (5*k+a+1)),(CV [(195,⟨false,1,(5*k+a+1),(fun i_2=>(if (i_2<5*k+a) then [.p (.seq false 1 n (fun i_3=>[.int .i64 ((cM n (trS S (i+1)) i_2).2 i_3)]))] else [.ar 1 2 0 n]))⟩),(163,⟨false,1,1,(fun i_2=>[.ar 1 2 0 n])⟩),(0,⟨false,1,C,(fun i_2=>[.p (.seq false 1 n (fun i_3=>[.int .i64 ((cM n (trS S i) i_2).2 i_3)]))])⟩),(2,⟨false,1,n,(fun i_2=>[.p (.int .i64 (trS S (i+1) (5*k+a) i_2))])⟩)] [0,195] 1 (5*k+(a+1)) (fun i_1=>if (i_1<5*k+a) then [.p (.seq false 1 n (fun i_2=>[.int .i64 ((cM n (trS S (i+1)) i_1).2 i_2)]))] else [.ar 1 2 0 n]) (fun i_1=>[.p (.seq false 1 n (fun i_2=>[.int .i64 ((cM n (trS S (i+1)) i_1).2 i_2)]))]))]):=by kernel_rfl
theorem fsn (g:Nat→T_Bar) (nb:Nat) (N:Int) (pl:Nat→T_Place) (np:Nat) (K:T_IntS) :
    pathOb Tryz.prog Tryz.f148 0 [rg 3,rm [(1,oc [] (.p (.bool false)))] 1,.dec true,rg 3] [.code (bodyOf Tryz.f148)] (start Tryz.f148 [] 0 [tsA g nb N pl np K]) [192] 1 [(0,iOb 0 (fun _=>0))] (.tup [.ar 1 0 0 0,.p (.bool false)]) =
    some [(NT 0 1),Con Tryz.prog 147 0 [] [(zf30 N nb g np pl K)] [] (.p (.bool false)),((!false)=true),(AN 0),(AN 0),(false=false),(AN 1),(NL 0 0),(AA 0 (fun i=>[.p (.int .i64 0)])),(AE 0)]:=by kernel_rfl
theorem fsz2 (g:Nat→T_Bar) (nb:Nat) (N:Int) (pl:Nat→T_Place) (np:Nat) (K:T_IntS) (q C:Nat) (S V:Nat→Nat→Int) :
    pieceOb Tryz.prog 0 [rg 3,rm [(1,oc [] (.p (.bool true)))] 1,.dec false,rm [(2,oc [(0,ooOb 1 q (cM nb S)),(1,ffOb q (cM nb S))] (.ar 1 0 0 q)),(3,⟨true,(some ⟨[],[],[257],2,[(0,ssOb C (cM nb V))],.ar 1 0 0 C⟩),none⟩)] 1,rg 1,.head] [.code (bodyOf Tryz.f148)] (start Tryz.f148 [] 0 [tsA g nb N pl np K]) [0,384] 1 (FsS g nb N pl np K C V 0) =
    some (zf64,[(NT 0 1),Con Tryz.prog 147 0 [] [(zf30 N nb g np pl K)] [] (.p (.bool true)),((!true)=false),(NT 0 1),Con Tryz.prog 258 0 [] [(zf44 N nb g np pl)] [(0,⟨false,1,q,(fun i=>[.ar 1 ⟨1,some i⟩ 0 nb])⟩),(1,⟨true,0,q,(fun i=>[.p (.seq false 1 nb (fun i_1=>[.int .i64 ((cM nb S i).2 i_1)]))])⟩)] (.ar 1 0 0 q),(NT 0 1),(AN 1),(NL q q),(∀ i:Nat,(((i:Nat)<q)→All [((i:Nat)<q),(AN 1),((nb:Nat)≤nb)])),Con Tryz.prog 257 0 [] [.p (.seq true 1 q (fun i=>[.seq true 1 nb (fun i_1=>[.int .i64 ((cM nb S i).2 i_1)])])),.p (.int .i64 (↑K.1:Int))] [(0,⟨false,1,C,(fun i=>[.p (.seq false 1 nb (fun i_1=>[.int .i64 ((cM nb V i).2 i_1)]))])⟩)] (.ar 1 0 0 C),(AN 0),(AN 0),(AN C),((0:Int)=(↑0:Int)),((([AV.p (PV.int IntKind.i64 N),brL g nb,pcL pl np,inL K].length):Nat)=4),(NL 1 1),(NL 1 1),(AI N),(AN nb),(AP nb (bRw g)),(AN np),(AP np (bRw pl)),(AN K.1),(AP K.1 (iRw K)),(AN 1),(NL C C),(AA C (fun i=>[.p (.seq false 1 nb (fun i_1=>[.int .i64 ((cM nb V i).2 i_1)]))]))]):=by kernel_rfl
theorem fst2 (g:Nat→T_Bar) (nb:Nat) (N:Int) (pl:Nat→T_Place) (np:Nat) (K:T_IntS) (C:Nat) (V:Nat→Nat→Int) (i:Nat) :
    pieceOb Tryz.prog 0 [rg 4,.dec true,rm [(5,oc [] (.p (.bool false)))] 0,.dec false,rg 3,.head] zf64 (FsS g nb N pl np K C V i) [0,1] 1 (FsS g nb N pl np K C V (i+1)) =
    some (zf64,[((decide ((↑i:Int)<(↑C:Int)))=true),(NT 0 1),(IL 0 (↑i:Int)),(IT (↑i:Int) (↑C:Int)),(NT i C),Con Tryz.prog 197 0 [] [(zf28 N nb g np pl K),.p (.seq true 1 nb (fun i_1=>[.int .i64 ((cM nb V i).2 i_1)]))] [] (.p (.bool false)),(false=false),(ZLo ((↑i:Int)+1)),(ZHi ((↑i:Int)+1)),(AN 0),(AN 0),(AN C),((((↑i:Int)+1):Int)=(↑(i+1):Int)),(AN 4),(NL 1 1),(NL 1 1),(AI N),(AN nb),(AP nb (bRw g)),(AN np),(AP np (bRw pl)),(AN K.1),(AP K.1 (iRw K)),(AN 1),(NL C C),(AA C (fun i_1=>[.p (.seq false 1 nb (fun i_2=>[.int .i64 ((cM nb V i_1).2 i_2)]))]))]):=by kernel_rfl
theorem fsy2 (g:Nat→T_Bar) (nb:Nat) (N:Int) (pl:Nat→T_Place) (np:Nat) (K:T_IntS) (C:Nat) (V:Nat→Nat→Int) (i:Nat) :
    pathOb Tryz.prog Tryz.f148 0 [rg 4,.dec true,rm [(5,oc [] (.p (.bool true)))] 0,.dec true,rg 8] zf64 (FsS g nb N pl np K C V i) [482] 1 [(0,iOb nb (V i))] (.tup [.ar 1 0 0 nb,.p (.bool true)]) =
    some [((decide ((↑i:Int)<(↑C:Int)))=true),(NT 0 1),(IL 0 (↑i:Int)),(IT (↑i:Int) (↑C:Int)),(NT i C),Con Tryz.prog 197 0 [] [(zf28 N nb g np pl K),.p (.seq true 1 nb (fun i_1=>[.int .i64 ((cM nb V i).2 i_1)]))] [] (.p (.bool true)),(true=true),(IL 0 (↑i:Int)),(IT (↑i:Int) (↑C:Int)),(NT i C),(NL 0 0),(NL ((0+nb)*8) 140737488355328),(NL (0+nb) 9223372036854775807),(AN 0),(((0+nb):Nat)=nb),(true=true),(AN 1),(NL nb (0+nb)),(∀ i_1:Nat,(((i_1:Nat)<nb)→(All []∧(([.p (.int .i64 ((cM nb V i).2 i_1))]:List AV)=[.p (.int .i64 (V i i_1))])))),(AE nb)]:=by kernel_rfl
theorem fse2 (g:Nat→T_Bar) (nb:Nat) (N:Int) (pl:Nat→T_Place) (np:Nat) (K:T_IntS) (C:Nat) (V:Nat→Nat→Int) (i:Nat) :
    pathOb Tryz.prog Tryz.f148 0 [rg 4,.dec false,rg 3] zf64 (FsS g nb N pl np K C V i) [130] 1 [(0,iOb 0 (fun _=>0))] (.tup [.ar 1 0 0 0,.p (.bool false)]) =
    some [((decide ((↑i:Int)<(↑C:Int)))=false),(AN 0),(AN 0),(false=false),(AN 1),(NL 0 0),(AA 0 (fun i_1=>[.p (.int .i64 0)])),(AE 0)]:=by kernel_rfl
theorem fiB (g:Nat→T_Bar) (nb:Nat) (N:Int) (pl:Nat→T_Place) (np:Nat) (K:T_IntS) (q p:Nat) (S:Nat→Nat→Int) (i:Nat) (w:Nat→Int) (b:Bool) :
    pathOb Tryz.prog Tryz.f262 6 [rg 2,rg 4,.dec true,rm [(3,oc [] (.p (.bool b)))] 2] [.code (bodyOf Tryz.f262)] (start Tryz.f262 (fsH g nb N pl np K q p S 5 nb w) 6 [.ar 1 5 0 nb,.p (.int .i64 i),.pt 1 0 0 0,.pt 4 3 0 0,.pt 1 4 0 0]) [0,1,2,3,4,99999,5] 1 (fsH g nb N pl np K q p S 6 nb w) (.tup [.ar 1 6 0 nb,.p (.bool b)]) =
    some [(NT 0 1),(((↑i:Int)==(↑p:Int))=true),(NT 0 1),(AN 1),(NL nb nb),Con Tryz.prog 206 0 [] [(zf28 N nb g np pl K),.p (.seq true 1 nb (fun i_1=>[.int .i64 (w i_1)]))] [] (.p (.bool b)),(AN 0),(AN nb),(b=b),(AN 1),(NL 1 1),(NL 1 1),(AN 0),(AN p),(AN 1),(NL q q),(AA q (fun i_1=>[.ar 1 ⟨2,some i_1⟩ 0 nb])),(NL q q),(∀ i_1:Nat,(((i_1:Nat)<q)→All [(AN 1),((nb:Nat)≤nb),(AP nb (fun r=>[.int .i64 ((cM nb S i_1).2 r)]))])),(AN 4),(NL 1 1),(NL 1 1),(AI N),(AN nb),(AP nb (bRw g)),(AN np),(AP np (bRw pl)),(AN K.1),(AP K.1 (iRw K)),(AN 1),(NL 1 1),(NL 1 1),(AN 0),(AN 0),(AN 0),(AN 1),(NL nb nb),(AA nb (fun i_1=>[.p (.int .i64 (w i_1))])),(AE 1),(AE q),(∀ i_1:Nat,(((i_1:Nat)<q)→All [(false=false),(AE nb)])),(∀ i_1:Nat,(((i_1:Nat)<1)→All [(false=false),(AE nb),(false=false),(AE np),(false=false),(AE K.1)])),(AE 1),(AE nb)]:=by kernel_rfl
theorem fiz (g:Nat→T_Bar) (nb:Nat) (N:Int) (pl:Nat→T_Place) (np:Nat) (K:T_IntS) (q p:Nat) (S:Nat→Nat→Int) (i:Nat) (w:Nat→Int) :
    pieceOb Tryz.prog 6 [rg 2,rg 4,.dec false,rg 1,.head] [.code (bodyOf Tryz.f262)] (start Tryz.f262 (fsH g nb N pl np K q p S 5 nb w) 6 [.ar 1 5 0 nb,.p (.int .i64 i),.pt 1 0 0 0,.pt 4 3 0 0,.pt 1 4 0 0]) [0,1,2,3,4,5] 1 (Fs0 g nb N pl np K q p S i w (-2)) =
    some (zf87,[(NT 0 1),(((↑i:Int)==(↑p:Int))=false),(AN 0),(AN nb),(AI ((↑i:Int))),(AN 0),(AN 0),(AN 0),(AI ((-2))),(AN 1),(NL 1 1),(NL 1 1),(AN 0),(AN p),(AN 1),(NL q q),(AA q (fun i_1=>[.ar 1 ⟨2,some i_1⟩ 0 nb])),(NL q q),(∀ i_1:Nat,(((i_1:Nat)<q)→All [(AN 1),((nb:Nat)≤nb),(AP nb (fun r=>[.int .i64 ((cM nb S i_1).2 r)]))])),(AN 4),(NL 1 1),(NL 1 1),(AI N),(AN nb),(AP nb (bRw g)),(AN np),(AP np (bRw pl)),(AN K.1),(AP K.1 (iRw K)),(AN 1),(NL 1 1),(NL 1 1),(AN 0),(AN 0),(AN 0),(AN 1),(NL nb nb),(AA nb (fun i_1=>[.p (.int .i64 (w i_1))]))]):=by kernel_rfl
theorem fia (g:Nat→T_Bar) (nb:Nat) (N:Int) (pl:Nat→T_Place) (np:Nat) (K:T_IntS) (q p:Nat) (S:Nat→Nat→Int) (i:Nat) (w:Nat→Int) (f:Int) :
    pieceOb Tryz.prog 6 [rg 2,.dec true,rm [(1,oc [(0,iOb nb w)] (.ar 1 0 0 nb))] 1,rg 3,.head] zf87 (Fs0 g nb N pl np K q p S i w f) [0,1,2,3,4,5,102] 1 (Fs1 g nb N pl np K q p S i w f w 0) =
    some (zf15,[((decide (f≤2))=true),(AN 1),(NL nb nb),Con Tryz.prog 165 0 [] [.p (.seq true 1 nb (fun i_1=>[.int .i64 (w i_1)]))] [(0,⟨false,1,nb,(fun i_1=>[.p (.int .i64 (w i_1))])⟩)] (.ar 1 0 0 nb),(AN 0),(AN nb),(AI ((↑i:Int))),(AN 0),(AN 0),(AN 0),(AI f),(AN 0),(AN nb),(AN 0),(AN nb),(AI ((↑nb:Int))),((0:Int)=(↑0:Int)),(AN 1),(NL 1 1),(NL 1 1),(AN 0),(AN p),(AN 1),(NL q q),(AA q (fun i_1=>[.ar 1 ⟨2,some i_1⟩ 0 nb])),(NL q q),(∀ i_1:Nat,(((i_1:Nat)<q)→All [(AN 1),((nb:Nat)≤nb),(AP nb (fun r=>[.int .i64 ((cM nb S i_1).2 r)]))])),(AN 4),(NL 1 1),(NL 1 1),(AI N),(AN nb),(AP nb (bRw g)),(AN np),(AP np (bRw pl)),(AN K.1),(AP K.1 (iRw K)),(AN 1),(NL 1 1),(NL 1 1),(AN 0),(AN 0),(AN 0),(AN 1),(NL nb nb),(AA nb (fun i_1=>[.p (.int .i64 (w i_1))])),(AN 1),(NL nb nb),(AA nb (fun i_1=>[.p (.int .i64 (w i_1))]))]):=by kernel_rfl
theorem fib (g:Nat→T_Bar) (nb:Nat) (N:Int) (pl:Nat→T_Place) (np:Nat) (K:T_IntS) (q p:Nat) (S:Nat→Nat→Int) (i:Nat) (w:Nat→Int) (f:Int) (x:Nat→Int) (k:Nat) :
    pieceOb Tryz.prog 6 [rg 1,.dec true,rg 2,rg 18,rg 2,.head] zf15 (Fs1 g nb N pl np K q p S i w f x k) [0,1,2,3,4,5,6] 1 (Fs1 g nb N pl np K q p S i w f (fun j=>if j=k then x j+f*S i j else x j) (k+1)) =
    some (zf15,[((decide ((↑k:Int)<(↑nb:Int)))=true),(IL 0 (↑k:Int)),(IT (↑k:Int) (↑nb:Int)),(NT k nb),(NT 0 1),(IL 0 (↑i:Int)),(IT (↑i:Int) (↑p:Int)),(NT i q),(IL 0 (↑k:Int)),(IT (↑k:Int) (↑nb:Int)),(NT i q),(NT k nb),(ZLo (f*(cM nb S i).2 k)),(ZHi (f*(cM nb S i).2 k)),(ZLo (x k+f*(cM nb S i).2 k)),(ZHi (x k+f*(cM nb S i).2 k)),(IL 0 (↑k:Int)),(IT (↑k:Int) (↑nb:Int)),(NT k nb),((false=true)→ ((nb:Nat)=1)),(ZLo ((↑k:Int)+1)),(ZHi ((↑k:Int)+1)),(AN 0),(AN nb),(AI ((↑i:Int))),(AN 0),(AN 0),(AN 0),(AI f),(AN 0),(AN nb),(AN 0),(AN nb),(AI ((↑nb:Int))),((((↑k:Int)+1):Int)=(↑(k+1):Int)),(AN 1),(NL 1 1),(NL 1 1),(AN 0),(AN p),(AN 1),(NL q q),(AA q (fun i_1=>[.ar 1 ⟨2,some i_1⟩ 0 nb])),(NL q q),(∀ i_1:Nat,(((i_1:Nat)<q)→All [(AN 1),((nb:Nat)≤nb),(AP nb (fun r=>[.int .i64 ((cM nb S i_1).2 r)]))])),(AN 4),(NL 1 1),(NL 1 1),(AI N),(AN nb),(AP nb (bRw g)),(AN np),(AP np (bRw pl)),(AN K.1),(AP K.1 (iRw K)),(AN 1),(NL 1 1),(NL 1 1),(AN 0),(AN 0),(AN 0),(AN 1),(NL nb nb),(AA nb (fun i_1=>[.p (.int .i64 (w i_1))])),(AN 1),(NL nb nb),(CV [(6,⟨false,1,nb,(fun i_2=>(if (i_2=k) then [.p (.int .i64 (x k+f*(cM nb S i).2 k))] else [.p (.int .i64 (x i_2))]))⟩),(0,⟨true,1,1,(fun i_2=>[.ar 1 1 0 p])⟩),(1,⟨false,1,q,(fun i_2=>[.ar 1 ⟨2,some i_2⟩ 0 nb])⟩),(2,⟨true,0,q,(fun i_2=>[.p (.seq false 1 nb (fun i_3=>[.int .i64 ((cM nb S i_2).2 i_3)]))])⟩),(3,⟨true,4,1,(fun i_2=>[.p (.int .i64 N),.p (.seq false 2 nb (bRw g)),.p (.seq false 2 np (bRw pl)),.p (.seq false 1 K.1 (iRw K))])⟩),(4,⟨true,1,1,(fun i_2=>[.clo 262 [.pt 1 0 0 0,.pt 4 3 0 0,.pt 1 4 0 0]])⟩),(5,⟨false,1,nb,(fun i_2=>[.p (.int .i64 (w i_2))])⟩)] [0,1,2,3,4,5,6] 1 nb (fun i_1=>if (i_1=k) then [.p (.int .i64 (x k+f*(cM nb S i).2 k))] else [.p (.int .i64 (x i_1))]) (fun i_1=>[.p (.int .i64 (if i_1=k then x i_1+f*S i i_1 else x i_1))]))]):=by kernel_rfl
theorem fic (g:Nat→T_Bar) (nb:Nat) (N:Int) (pl:Nat→T_Place) (np:Nat) (K:T_IntS) (q p:Nat) (S:Nat→Nat→Int) (i:Nat) (w:Nat→Int) (f:Int) (x y:Nat→Int) :
    pieceOb Tryz.prog 6 [rg 1,.dec false,.head] zf15 (Fs1 g nb N pl np K q p S i w f x nb) [0,1,2,3,4,5,6] 1 (Fs2 g nb N pl np K q p S i w f y) =
    some (zf21,[((decide ((↑nb:Int)<(↑nb:Int)))=false),(AN 0),(AN nb),(AI ((↑i:Int))),(AN 0),(AN 0),(AN 0),(AI f),(AN 0),(AN nb),(AN 1),(NL 1 1),(NL 1 1),(AN 0),(AN p),(AN 1),(NL q q),(AA q (fun i_1=>[.ar 1 ⟨2,some i_1⟩ 0 nb])),(NL q q),(∀ i_1:Nat,(((i_1:Nat)<q)→All [(AN 1),((nb:Nat)≤nb),(AP nb (fun r=>[.int .i64 ((cM nb S i_1).2 r)]))])),(AN 4),(NL 1 1),(NL 1 1),(AI N),(AN nb),(AP nb (bRw g)),(AN np),(AP np (bRw pl)),(AN K.1),(AP K.1 (iRw K)),(AN 1),(NL 1 1),(NL 1 1),(AN 0),(AN 0),(AN 0),(AN 1),(NL nb nb),(AA nb (fun i_1=>[.p (.int .i64 (w i_1))])),(AN 1),(NL nb nb),(∀ i_1:Nat,(((i_1:Nat)<nb)→(All []∧(([.p (.int .i64 (x i_1))]:List AV)=[.p (.int .i64 (y i_1))]))))]):=by kernel_rfl
theorem fid (g:Nat→T_Bar) (nb:Nat) (N:Int) (pl:Nat→T_Place) (np:Nat) (K:T_IntS) (q p:Nat) (S:Nat→Nat→Int) (i:Nat) (w:Nat→Int) (f:Int) (x z:Nat→Int) (m:Nat) :
    pathOb Tryz.prog Tryz.f262 6 [rm [(4,⟨true,(some ⟨[0,1,2,3,4,6],[1000],[],1,(fsH g nb N pl np K q p S 6 m z),.tup [.ar 1 6 0 m,.p (.bool true)]⟩),none⟩)] 5,rg 1,.dec true,rg 3] zf21 (Fs2 g nb N pl np K q p S i w f x) [0,1,2,3,4,99999,135] 1 (fsH g nb N pl np K q p S 6 m z) (.tup [.ar 1 6 0 m,.p (.bool true)]) =
    some [(NT 0 1),(ZLo ((↑i:Int)+1)),(ZHi ((↑i:Int)+1)),(AE 1),(AE q),(AE 1),(AE 1),(AE nb),Con Tryz.prog 262 6 [(0,⟨true,1,1,(fun i_1=>[.ar 1 1 0 p])⟩),(1,⟨false,1,q,(fun i_1=>[.ar 1 ⟨2,some i_1⟩ 0 nb])⟩),(2,⟨true,0,q,(fun i_1=>[.p (.seq false 1 nb (fun i_2=>[.int .i64 ((cM nb S i_1).2 i_2)]))])⟩),(3,⟨true,4,1,(fun i_1=>[.p (.int .i64 N),.p (.seq false 2 nb (bRw g)),.p (.seq false 2 np (bRw pl)),.p (.seq false 1 K.1 (iRw K))])⟩),(4,⟨true,1,1,(fun i_1=>[.clo 262 [.pt 1 0 0 0,.pt 4 3 0 0,.pt 1 4 0 0]])⟩),(5,⟨false,1,nb,(fun i_1=>[.p (.int .i64 (x i_1))])⟩)] [.ar 1 5 0 nb,.p (.int .i64 ((↑i:Int)+1)),.pt 1 0 0 0,.pt 4 3 0 0,.pt 1 4 0 0] [(0,⟨true,1,1,(fun i_1=>[.ar 1 1 0 p])⟩),(1,⟨false,1,q,(fun i_1=>[.ar 1 ⟨2,some i_1⟩ 0 nb])⟩),(2,⟨true,0,q,(fun i_1=>[.p (.seq false 1 nb (fun i_2=>[.int .i64 ((cM nb S i_1).2 i_2)]))])⟩),(3,⟨true,4,1,(fun i_1=>[.p (.int .i64 N),.p (.seq false 2 nb (bRw g)),.p (.seq false 2 np (bRw pl)),.p (.seq false 1 K.1 (iRw K))])⟩),(4,⟨true,1,1,(fun i_1=>[.clo 262 [.pt 1 0 0 0,.pt 4 3 0 0,.pt 1 4 0 0]])⟩),(6,⟨false,1,m,(fun i_1=>[.p (.int .i64 (z i_1))])⟩)] (.tup [.ar 1 6 0 m,.p (.bool true)]),(true=true),(AN 0),(AN m),(true=true),(AN 1),(NL 1 1),(NL 1 1),(AN 0),(AN p),(AN 1),(NL q q),(AA q (fun i_1=>[.ar 1 ⟨2,some i_1⟩ 0 nb])),(NL q q),(∀ i_1:Nat,(((i_1:Nat)<q)→All [(AN 1),((nb:Nat)≤nb),(AP nb (fun r=>[.int .i64 ((cM nb S i_1).2 r)]))])),(AN 4),(NL 1 1),(NL 1 1),(AI N),(AN nb),(AP nb (bRw g)),(AN np),(AP np (bRw pl)),(AN K.1),(AP K.1 (iRw K)),(AN 1),(NL 1 1),(NL 1 1),(AN 0),(AN 0),(AN 0),(AN 1),(NL m m),(AA m (fun i_1=>[.p (.int .i64 (z i_1))])),(AE 1),(AE q),(∀ i_1:Nat,(((i_1:Nat)<q)→All [(false=false),(AE nb)])),(∀ i_1:Nat,(((i_1:Nat)<1)→All [(false=false),(AE nb),(false=false),(AE np),(false=false),(AE K.1)])),(AE 1),(AE m)]:=by kernel_rfl
theorem fie (g:Nat→T_Bar) (nb:Nat) (N:Int) (pl:Nat→T_Place) (np:Nat) (K:T_IntS) (q p:Nat) (S:Nat→Nat→Int) (i:Nat) (w:Nat→Int) (f:Int) (x z:Nat→Int) (m:Nat) :
    pieceOb Tryz.prog 6 [rm [(4,⟨true,(some ⟨[0,1,2,3,4,6],[1000],[],1,(fsH g nb N pl np K q p S 6 m z),.tup [.ar 1 6 0 m,.p (.bool false)]⟩),none⟩)] 5,rg 1,.dec false,rg 3,.head] zf21 (Fs2 g nb N pl np K q p S i w f x) [0,1,2,3,4,5] 1 (Fs0 g nb N pl np K q p S i w (f+1)) =
    some (zf87,[(NT 0 1),(ZLo ((↑i:Int)+1)),(ZHi ((↑i:Int)+1)),(AE 1),(AE q),(AE 1),(AE 1),(AE nb),Con Tryz.prog 262 6 [(0,⟨true,1,1,(fun i_1=>[.ar 1 1 0 p])⟩),(1,⟨false,1,q,(fun i_1=>[.ar 1 ⟨2,some i_1⟩ 0 nb])⟩),(2,⟨true,0,q,(fun i_1=>[.p (.seq false 1 nb (fun i_2=>[.int .i64 ((cM nb S i_1).2 i_2)]))])⟩),(3,⟨true,4,1,(fun i_1=>[.p (.int .i64 N),.p (.seq false 2 nb (bRw g)),.p (.seq false 2 np (bRw pl)),.p (.seq false 1 K.1 (iRw K))])⟩),(4,⟨true,1,1,(fun i_1=>[.clo 262 [.pt 1 0 0 0,.pt 4 3 0 0,.pt 1 4 0 0]])⟩),(5,⟨false,1,nb,(fun i_1=>[.p (.int .i64 (x i_1))])⟩)] [.ar 1 5 0 nb,.p (.int .i64 ((↑i:Int)+1)),.pt 1 0 0 0,.pt 4 3 0 0,.pt 1 4 0 0] [(0,⟨true,1,1,(fun i_1=>[.ar 1 1 0 p])⟩),(1,⟨false,1,q,(fun i_1=>[.ar 1 ⟨2,some i_1⟩ 0 nb])⟩),(2,⟨true,0,q,(fun i_1=>[.p (.seq false 1 nb (fun i_2=>[.int .i64 ((cM nb S i_1).2 i_2)]))])⟩),(3,⟨true,4,1,(fun i_1=>[.p (.int .i64 N),.p (.seq false 2 nb (bRw g)),.p (.seq false 2 np (bRw pl)),.p (.seq false 1 K.1 (iRw K))])⟩),(4,⟨true,1,1,(fun i_1=>[.clo 262 [.pt 1 0 0 0,.pt 4 3 0 0,.pt 1 4 0 0]])⟩),(6,⟨false,1,m,(fun i_1=>[.p (.int .i64 (z i_1))])⟩)] (.tup [.ar 1 6 0 m,.p (.bool false)]),(false=false),(ZLo (f+1)),(ZHi (f+1)),(AN 0),(AN nb),(AI ((↑i:Int))),(AN 0),(AN 0),(AN 0),(AI ((f+1))),(AN 1),(NL 1 1),(NL 1 1),(AN 0),(AN p),(AN 1),(NL q q),(AA q (fun i_1=>[.ar 1 ⟨2,some i_1⟩ 0 nb])),(NL q q),(∀ i_1:Nat,(((i_1:Nat)<q)→All [(AN 1),((nb:Nat)≤nb),(AP nb (fun r=>[.int .i64 ((cM nb S i_1).2 r)]))])),(AN 4),(NL 1 1),(NL 1 1),(AI N),(AN nb),(AP nb (bRw g)),(AN np),(AP np (bRw pl)),(AN K.1),(AP K.1 (iRw K)),(AN 1),(NL 1 1),(NL 1 1),(AN 0),(AN 0),(AN 0),(AN 1),(NL nb nb),(AA nb (fun i_1=>[.p (.int .i64 (w i_1))]))]):=by kernel_rfl
theorem fif (g:Nat→T_Bar) (nb:Nat) (N:Int) (pl:Nat→T_Place) (np:Nat) (K:T_IntS) (q p:Nat) (S:Nat→Nat→Int) (i:Nat) (w:Nat→Int) (f:Int) :
    pathOb Tryz.prog Tryz.f262 6 [rg 2,.dec false,rg 3] zf87 (Fs0 g nb N pl np K q p S i w f) [0,1,2,3,4,99999,70] 1 (fsH g nb N pl np K q p S 6 0 (fun _=>0)) (.tup [.ar 1 6 0 0,.p (.bool false)]) =
    some [((decide (f≤2))=false),(AN 0),(AN 0),(false=false),(AN 1),(NL 1 1),(NL 1 1),(AN 0),(AN p),(AN 1),(NL q q),(AA q (fun i_1=>[.ar 1 ⟨2,some i_1⟩ 0 nb])),(NL q q),(∀ i_1:Nat,(((i_1:Nat)<q)→All [(AN 1),((nb:Nat)≤nb),(AP nb (fun r=>[.int .i64 ((cM nb S i_1).2 r)]))])),(AN 4),(NL 1 1),(NL 1 1),(AI N),(AN nb),(AP nb (bRw g)),(AN np),(AP np (bRw pl)),(AN K.1),(AP K.1 (iRw K)),(AN 1),(NL 1 1),(NL 1 1),(AN 0),(AN 0),(AN 0),(AN 1),(NL 0 0),(AA 0 (fun i_1=>[.p (.int .i64 0)])),(AE 1),(AE q),(∀ i_1:Nat,(((i_1:Nat)<q)→All [(false=false),(AE nb)])),(∀ i_1:Nat,(((i_1:Nat)<1)→All [(false=false),(AE nb),(false=false),(AE np),(false=false),(AE K.1)])),(AE 1),(AE 0)]:=by kernel_rfl
noncomputable abbrev ficE:List Item:=[.code (cAt (bodyOf Tryz.f262) [1,1,0,1,0,0,1,0,0,1,1,0]),.code (cAt (bodyOf Tryz.f262) [1,1,0,1,0,0,1,0,0,1,1,1]),.inBlock 1,.code (cAt (bodyOf Tryz.f262) [1,1,0,1,0,0,1,1]),.inLoop (cAt (bodyOf Tryz.f262) [1,1,0,1,0,0]),.inBlock 0,.code (cAt (bodyOf Tryz.f262) [1,1,1])]
end Go.Proofs.YtkkjoghiigiokaaGreat.Mach
namespace Go.Proofs.YtkkjoghiigiokaaGreat.Mach
open Go
set_option linter.unusedVariables false
set_option linter.unusedSimpArgs false
noncomputable def fmL (g:Nat→T_Bar) (nb N:Nat) (pl:Nat→T_Place) (np:Nat) (W:Nat→Nat→Int):Nat→Nat→T_IntS×Bool
  | 0,_=>((0,fun _=>0),false)
  | d+1,i=>if tmB g nb N pl np (2*N,W i)=true then fmL g nb N pl np W d (i+1) else ((2*N,W i),true)
noncomputable def fmF (g:Nat→T_Bar) (nb N:Nat) (pl:Nat→T_Place) (np:Nat):T_IntS×Bool:=fmL g nb N pl np (moF g nb N pl).2 (moF g nb N pl).1 0
theorem moF_le (g:Nat→T_Bar) (nb N:Nat) (pl:Nat→T_Place):(moF g nb N pl).1≤2*N:=Had.nsl_le _ _ _
theorem con_FindMotion {g:Nat→T_Bar} {nb N:Nat} {pl:Nat→T_Place} {np:Nat} (hf:fwB g nb N pl np=true) :
    Con Tryz.prog 135 0 [] [frA g nb N pl np] [(0,iOb (fmF g nb N pl np).1.1 (fmF g nb N pl np).1.2)] (.tup [.ar 1 0 0 (fmF g nb N pl np).1.1,.p (.bool (fmF g nb N pl np).2)]) ∧
    Con Tryz.prog 125 0 [] [frA g nb N pl np] [(0,iOb (fmF g nb N pl np).1.1 (fmF g nb N pl np).1.2)] (.tup [.ar 1 0 0 (fmF g nb N pl np).1.1,.p (.bool (fmF g nb N pl np).2)]):=by
  obtain ⟨h1,h2,h3,h4,hok,hb⟩:=fw_ok hf
  obtain ⟨m1,m2⟩:=con_Motions hf
  have hq:=moF_le g nb N pl
  have ti:=fun (W:Nat→Nat→Int) i=>con_Trivial_i g nb N pl np (2*N,W i) (by omega) (by show 2*N≤_;omega)
  have ts:=fun (W:Nat→Nat→Int) i=>con_Trivial12 g nb N pl np (2*N,W i) (by omega) (by show 2*N≤_;omega)
  unfold fmF
  generalize (moF g nb N pl).1=q at *
  generalize (moF g nb N pl).2=W at *
  generalize hR:fmL g nb N pl np W q 0=R
  constructor
  · refine csZ Tryz.func135 (fun c hc=>?_)
    have lo:∀ d i,i+d=q→fmL g nb N pl np W d i=R→Run Tryz.prog c 135 zf109 (FmI g nb N pl np q W i) (Post c [(0,iOb R.1.1 R.1.2)] (.tup [.ar 1 0 0 R.1.1,.p (.bool R.2)])):=by
      intro d
      induction d with
      | zero =>
        intro i hi hr
        obtain rfl:i=q:=by omega
        have hd:decide ((i:Int)<(i:Int))=false:=decide_eq_false (by omega)
        rw [← hr]
        refine pkZ Tryz.func135 hc (fme g nb N pl np i W i (fun _=>0)) ?_
        repeat' (first | exact aN | apply aI)
        all_goals (first | exact aE _ | omega | rfl | (intros;first | assumption | exact trivial | rfl) | (exact hd) | (intro t ht;exact absurd ht (Nat.not_lt_zero _)) | (intro t ht;simp [All];done) | (simp only [All];first | exact aE _ | omega | rfl | (intros;first | assumption | exact trivial | rfl) | (exact hd) | (intro t ht;exact absurd ht (Nat.not_lt_zero _)) | (intro t ht;simp [All];done)))
      | succ d ih =>
        intro i hi hr
        have hd:decide ((i:Int)<(q:Int))=true:=decide_eq_true (by omega)
        have ct:=ti W i
        rw [fmL] at hr
        cases hb:tmB g nb N pl np (2*N,W i) with
        | true =>
          rw [hb] at ct
          rw [if_pos hb] at hr
          refine pcZ hc (fmt g nb N pl np q W i) ?_ (ih (i+1) (by omega) hr)
          repeat' (first | exact aN | apply aI)
          all_goals (first | exact aP _ _ | exact aA _ _ | omega | rfl | (intros;first | assumption | exact trivial | rfl) | (exact hd) | (exact ct) | (intro t ht;simp [All];done) | (simp only [All];first | exact aP _ _ | exact aA _ _ | omega | rfl | (intros;first | assumption | exact trivial | rfl) | (exact hd) | (exact ct) | (intro t ht;simp [All];done)))
        | false =>
          rw [hb] at ct
          rw [if_neg (by rw [hb];exact Bool.false_ne_true)] at hr
          rw [← hr]
          refine pkZ Tryz.func135 hc (fmf g nb N pl np q W i (W i)) ?_
          repeat' (first | exact aN | apply aI)
          all_goals (first | exact aE _ | omega | rfl | (intros;first | assumption | exact trivial | rfl) | (exact hd) | (exact ct) | (intro t ht;simp [All,cM];done) | (intro t ht;simp [All];done) | (simp only [All];first | exact aE _ | omega | rfl | (intros;first | assumption | exact trivial | rfl) | (exact hd) | (exact ct) | (intro t ht;simp [All,cM];done) | (intro t ht;simp [All];done)))
    refine pcZ hc (fmz g nb N pl np q W) ?_ (lo q 0 (by omega) hR)
    repeat' (first | exact aN | apply aI)
    all_goals (first | exact aP _ _ | exact aA _ _ | omega | rfl | (intros;first | assumption | exact trivial | rfl) | (exact m1) | (intro t ht;simp [All];done) | (simp only [All];first | exact aP _ _ | exact aA _ _ | omega | rfl | (intros;first | assumption | exact trivial | rfl) | (exact m1) | (intro t ht;simp [All];done)))
  · refine csZ Tryz.func125 (fun c hc=>?_)
    have lo:∀ d i,i+d=q→fmL g nb N pl np W d i=R→Run Tryz.prog c 125 zf79 (FmS g nb N pl np q W i) (Post c [(0,iOb R.1.1 R.1.2)] (.tup [.ar 1 0 0 R.1.1,.p (.bool R.2)])):=by
      intro d
      induction d with
      | zero =>
        intro i hi hr
        obtain rfl:i=q:=by omega
        have hd:decide ((i:Int)<(i:Int))=false:=decide_eq_false (by omega)
        rw [← hr]
        refine pkZ Tryz.func125 hc (fne g nb N pl np i W i (fun _=>0)) ?_
        repeat' (first | exact aN | apply aI)
        all_goals (first | exact aE _ | omega | rfl | (intros;first | assumption | exact trivial | rfl) | (exact hd) | (intro t ht;exact absurd ht (Nat.not_lt_zero _)) | (intro t ht;simp [All];done) | (simp only [All];first | exact aE _ | omega | rfl | (intros;first | assumption | exact trivial | rfl) | (exact hd) | (intro t ht;exact absurd ht (Nat.not_lt_zero _)) | (intro t ht;simp [All];done)))
      | succ d ih =>
        intro i hi hr
        have hd:decide ((i:Int)<(q:Int))=true:=decide_eq_true (by omega)
        have ct:=ts W i
        rw [fmL] at hr
        cases hb:tmB g nb N pl np (2*N,W i) with
        | true =>
          rw [hb] at ct
          rw [if_pos hb] at hr
          refine pcZ hc (fnt g nb N pl np q W i) ?_ (ih (i+1) (by omega) hr)
          repeat' (first | exact aN | apply aI)
          all_goals (first | exact aP _ _ | exact aA _ _ | omega | rfl | (intros;first | assumption | exact trivial | rfl) | (exact hd) | (exact ct) | (intro t ht;simp [All];done) | (simp only [All];first | exact aP _ _ | exact aA _ _ | omega | rfl | (intros;first | assumption | exact trivial | rfl) | (exact hd) | (exact ct) | (intro t ht;simp [All];done)))
        | false =>
          rw [hb] at ct
          rw [if_neg (by rw [hb];exact Bool.false_ne_true)] at hr
          rw [← hr]
          refine pkZ Tryz.func125 hc (fnf g nb N pl np q W i (W i)) ?_
          repeat' (first | exact aN | apply aI)
          all_goals (first | exact aE _ | omega | rfl | (intros;first | assumption | exact trivial | rfl) | (exact hd) | (exact ct) | (intro t ht;simp [All,cM];done) | (intro t ht;simp [All];done) | (simp only [All];first | exact aE _ | omega | rfl | (intros;first | assumption | exact trivial | rfl) | (exact hd) | (exact ct) | (intro t ht;simp [All,cM];done) | (intro t ht;simp [All];done)))
    refine pcZ hc (fnz g nb N pl np q W) ?_ (lo q 0 (by omega) hR)
    repeat' (first | exact aN | apply aI)
    all_goals (first | exact aP _ _ | exact aA _ _ | omega | rfl | (intros;first | assumption | exact trivial | rfl) | (exact m2) | (intro t ht;simp [All];done) | (simp only [All];first | exact aP _ _ | exact aA _ _ | omega | rfl | (intros;first | assumption | exact trivial | rfl) | (exact m2) | (intro t ht;simp [All];done)))
end Go.Proofs.YtkkjoghiigiokaaGreat.Mach
namespace Go.Proofs.YtkkjoghiigiokaaGreat.Mach
open Go
set_option linter.unusedVariables false
set_option linter.unusedSimpArgs false
def z2:Ob:=⟨true,2,1,fun _=>[.p (.int .i64 0),.p .nil]⟩
def gbx (n:Int) (j c:Nat):Ob:=⟨true,2,1,fun _=>[.p (.int .i64 n),.ar 2 j 0 c]⟩
def gaI (n:Int) (c:Nat) (h:Nat→T_Bar):AV:=.agg [.p (.int .i64 n),brL h c]
def SOb (n:Int) (M:Nat) (A:Nat→T_Bar) (S:T_IntS) (i c:Nat) (h:Nat→T_Bar):St :=
  ⟨[gaI n M A,inL S,.pt 2 0 0 0,.p .any,.pt 2 1 0 0,.pt 2 2 0 0]++List.replicate 6 anyA++[brL A M,.p (.int .i64 M),.p (.int .i64 i)]++List.replicate 15 anyA,[(0,⟨true,2,1,fun _=>[.p (.int .i64 n),brL A M]⟩),(1,z2),(2,gbx n 3 c),(3,brOb c h)],4⟩
theorem eOz (n:Int) (M:Nat) (A:Nat→T_Bar) (S:T_IntS) :
    pieceOb Tryz.prog 0 [rg 2,rg 5,rg 4,.head] [.code (bodyOf Tryz.f65)] (start Tryz.f65 [] 0 [gaI n M A,inL S]) [0,32,160] 1 (SOb n M A S 0 0 (fun _=>(0,0,()))) =
    some (zf96,[(NT 0 1),(NT 0 1),((true=true)→ (AN 1)),(NT 0 1),(AI n),(AN M),(AP M (bRw A)),(AN S.1),(AP S.1 (iRw S)),(AN 0),(AN 0),(AN 0),(AN M),(AP M (bRw A)),(AI ((↑M:Int))),((0:Int)=(↑0:Int)),((([AV.p (PV.int IntKind.i64 n),brL A M].length):Nat)=2),(NL 1 1),(NL 1 1),(AI n),(AN M),(AP M (bRw A)),((((List.map (fun v=>AV.p (absV v)) [Value.int IntKind.i64 0,Value.slice none 0 0]).length):Nat)=2),(NL 1 1),(NL 1 1),(AI 0),((((List.map (fun v=>AV.p (absV v)) [Value.int IntKind.i64 0,Value.slice none 0 0]).length):Nat)=2),(NL 1 1),(NL 1 1),(AI n),(AN 0),(AN 0)]):=by kernel_rfl
theorem eOt (n:Int) (M:Nat) (A:Nat→T_Bar) (S:T_IntS) (i c:Nat) (h:Nat→T_Bar) :
    pieceOb Tryz.prog 0 [rg 1,.dec true,rg 6,rm [(2,oc [] (.p (.bool true)))] 0,.dec true,rg 7,rg 2,.head] zf96 (SOb n M A S i c h) [0,1,2,452] 1 (SOb n M A S (i+1) (c+1) (snoc c h (A i))) =
    some (zf96,[((decide ((↑i:Int)<(↑M:Int)))=true),(IL 0 (↑i:Int)),(IT (↑i:Int) (↑M:Int)),(NT 0 1),((true=true)→ (AN 1)),Con Tryz.prog 184 0 [] [.p (.seq true 1 S.1 (iRw S)),.p (.int .i64 (↑i:Int))] [] (.p (.bool true)),(true=true),(NT 0 1),(NT 0 1),(NL 1 1),(NL c c),(NL ((c+1)*16) 140737488355328),(NL (c+1) 9223372036854775807),(NT 0 1),((true=true)→ (AN 1)),(ZLo ((↑i:Int)+1)),(ZHi ((↑i:Int)+1)),(AI n),(AN M),(AP M (bRw A)),(AN S.1),(AP S.1 (iRw S)),(AN 0),(AN 0),(AN 0),(AN M),(AP M (bRw A)),(AI ((↑M:Int))),((((↑i:Int)+1):Int)=(↑(i+1):Int)),(AN 2),(NL 1 1),(NL 1 1),(AI n),(AN M),(AP M (bRw A)),(AN 2),(NL 1 1),(NL 1 1),(AI 0),(AN 2),(NL 1 1),(NL 1 1),(AI n),(AN 0),(AN ((c+1))),(AN 2),(NL (c+1) (c+1)),(CV [(2,⟨true,2,1,(fun i_2=>[.p (.int .i64 n),.ar 2 452 0 (c+1)])⟩),(452,⟨false,2,(c+1),(fun i_2=>(if (i_2<c) then [.p (.int .i64 ((h i_2).1)),.p (.int .i64 ((h i_2).2.1))] else [.p (.int .i64 ((A i).1)),.p (.int .i64 ((A i).2.1))]))⟩),(420,⟨false,2,1,(fun i_2=>[.p (.int .i64 ((A i).1)),.p (.int .i64 ((A i).2.1))])⟩),(132,⟨true,2,1,(fun i_2=>[.p (.int .i64 ((A i).1)),.p (.int .i64 ((A i).2.1))])⟩),(0,⟨true,2,1,(fun i_2=>[.p (.int .i64 n),.p (.seq true 2 M (bRw A))])⟩),(1,⟨true,2,1,(fun i_2=>[.p (.int .i64 0),.p (.nil)])⟩)] [0,1,2,452] 1 (c+1) (fun i_1=>if (i_1<c) then [.p (.int .i64 ((h i_1).1)),.p (.int .i64 ((h i_1).2.1))] else [.p (.int .i64 ((A i).1)),.p (.int .i64 ((A i).2.1))]) (fun i_1=>[.p (.int .i64 (if i_1<c then (h i_1).1 else (A i).1)),.p (.int .i64 (if i_1<c then (h i_1).2.1 else (A i).2.1))]))]):=by kernel_rfl
theorem eOf (n:Int) (M:Nat) (A:Nat→T_Bar) (S:T_IntS) (i c:Nat) (h:Nat→T_Bar) :
    pieceOb Tryz.prog 0 [rg 1,.dec true,rg 6,rm [(2,oc [] (.p (.bool false)))] 0,.dec false,rg 2,.head] zf96 (SOb n M A S i c h) [0,1,2,3] 1 (SOb n M A S (i+1) c h) =
    some (zf96,[((decide ((↑i:Int)<(↑M:Int)))=true),(IL 0 (↑i:Int)),(IT (↑i:Int) (↑M:Int)),(NT 0 1),((true=true)→ (AN 1)),Con Tryz.prog 184 0 [] [.p (.seq true 1 S.1 (iRw S)),.p (.int .i64 (↑i:Int))] [] (.p (.bool false)),(false=false),(ZLo ((↑i:Int)+1)),(ZHi ((↑i:Int)+1)),(AI n),(AN M),(AP M (bRw A)),(AN S.1),(AP S.1 (iRw S)),(AN 0),(AN 0),(AN 0),(AN M),(AP M (bRw A)),(AI ((↑M:Int))),((((↑i:Int)+1):Int)=(↑(i+1):Int)),(AN 2),(NL 1 1),(NL 1 1),(AI n),(AN M),(AP M (bRw A)),(AN 2),(NL 1 1),(NL 1 1),(AI 0),(AN 2),(NL 1 1),(NL 1 1),(AI n),(AN 0),(AN c),(AN 2),(NL c c),(AA c (fun i_1=>[.p (.int .i64 ((h i_1).1)),.p (.int .i64 ((h i_1).2.1))]))]):=by kernel_rfl
theorem eOe (n:Int) (M:Nat) (A:Nat→T_Bar) (S:T_IntS) (i c:Nat) (h:Nat→T_Bar) :
    pathOb Tryz.prog Tryz.f65 0 [rg 1,.dec false,rg 2] zf96 (SOb n M A S i c h) [3] 1 [(0,brOb c h)] (.agg [.p (.int .i64 n),.ar 2 0 0 c]) =
    some [((decide ((↑i:Int)<(↑M:Int)))=false),(NT 0 1),(NT 0 1),((true=true)→ (AN 1)),(NT 0 1),(AI n),(AN 0),(AN c),(AN 2),(NL c c),(AA c (fun i_1=>[.p (.int .i64 ((h i_1).1)),.p (.int .i64 ((h i_1).2.1))])),(AE c)]:=by kernel_rfl
end Go.Proofs.YtkkjoghiigiokaaGreat.Mach
namespace Go.Proofs.YtkkjoghiigiokaaGreat.Mach
open Go
set_option linter.unusedVariables false
set_option linter.unusedSimpArgs false
def zB:T_BarS:=(0,fun _=>(0,0,()))
def obF (S:T_IntS) (A:Nat→T_Bar):Nat→Nat→T_BarS→T_BarS
  | _,0,x=>x
  | i,d+1,x=>obF S A (i+1) d (bif hasI S.2 i S.1 then (x.1+1,snoc x.1 x.2 (A i)) else x)
theorem con_OnlyBars (n:Int) (M:Nat) (A:Nat→T_Bar) (S:T_IntS) (hM:M≤100) (hS:S.1≤1000) :
    Con Tryz.prog 65 0 [] [gaI n M A,inL S] [(0,brOb (obF S A 0 M zB).1 (obF S A 0 M zB).2)] (.agg [.p (.int .i64 n),.ar 2 0 0 (obF S A 0 M zB).1]):=by
  refine csZ Tryz.func65 (fun c hc=>?_)
  generalize hR:obF S A 0 M zB=R
  have lp:∀ d i cc f,i+d=M→cc≤i→obF S A i d (cc,f)=R→Run Tryz.prog c 65 zf96 (SOb n M A S i cc f) (Post c [(0,brOb R.1 R.2)] (.agg [.p (.int .i64 n),.ar 2 0 0 R.1])):=by
    intro d
    induction d with
    | zero =>
      intro i cc f hi hcc he
      have hd:decide ((i:Int)<(M:Int))=false:=by simp;omega
      rw [← he]
      refine pkZ Tryz.func65 hc (eOe n M A S i cc f) ?_
      repeat' (first | exact aN | apply aI)
      all_goals (first | exact aA _ _ | exact aE _ | omega | rfl | (intros;first | assumption | exact trivial | rfl | exact fT ‹_›) | (exact hd) | (intro j hj;simp [All]))
    | succ d ih =>
      intro i cc f hi hcc he
      have hd:decide ((i:Int)<(M:Int))=true:=by simp;omega
      have hh:=con_Contains S (i:Int) (by omega)
      rw [obF] at he
      cases hb:hasI S.2 i S.1 with
      | true =>
        rw [hb] at he hh
        refine pcZ hc (eOt n M A S i cc f) ?_ (ih (i+1) (cc+1) _ (by omega) (by omega) he)
        repeat' (first | exact aN | apply aI)
        all_goals (first | exact aP _ _ | omega | rfl | (intros;first | assumption | exact trivial | rfl | exact fT ‹_›) | (exact hd) | (exact hh) | (intro j hj;by_cases h':j<cc<;>simp [h',snoc,cvtL,cvt,tg,tru,All]))
      | false =>
        rw [hb] at he hh
        refine pcZ hc (eOf n M A S i cc f) ?_ (ih (i+1) cc _ (by omega) (by omega) he)
        repeat' (first | exact aN | apply aI)
        all_goals (first | exact aP _ _ | exact aA _ _ | omega | rfl | (intros;first | assumption | exact trivial | rfl | exact fT ‹_›) | (exact hd) | (exact hh) | (intro j hj;simp [All]))
  refine pcZ hc (eOz n M A S) ?_ (lp M 0 0 _ (by omega) (by omega) hR)
  repeat' (first | exact aN | apply aI)
  all_goals (first | exact aP _ _ | omega | rfl | (intros;first | assumption | exact trivial | rfl | exact fT ‹_›) | (simp;done) | (intro j hj;simp [All]))
end Go.Proofs.YtkkjoghiigiokaaGreat.Mach
namespace Go.Proofs.YtkkjoghiigiokaaGreat.Mach
open Go
set_option linter.unusedVariables false
set_option linter.unusedSimpArgs false
def dlB (h:Nat→T_Bar) (e i:Nat):T_Bar:=if i<e then h i else h (i+1)
theorem gRs (g:Nat→T_Bar) (nb N e:Nat) :
    pathOb Tryz.prog Tryz.f259 0 [rg 3,rm [(1,oc [] (.p (.bool true)))] 12,.dec false,rg 17] [.code (bodyOf Tryz.f259)] (start Tryz.f259 [] 0 [grG g nb N,.p (.int .i64 e)]) [960] 1 [(0,brOb (nb - 1) (dlB g e))] (.tup [.agg [.p (.int .i64 N),.ar 2 0 0 (nb - 1)],.p (.bool true)]) =
    some [(NT 0 1),Con Tryz.prog 53 0 [] [(zf114 N nb g)] [] (.p (.bool true)),(AG (!!true)),(((!true)=false)→ ((!!true)=true)),(AG (!bif !true then true else decide ((↑e:Int)<0))),(((!bif !true then true else decide ((↑e:Int)<0))=true)→(NT 0 1)),(AG (!bif !true then true else decide ((↑e:Int)<0))),(AG (!bif !true then true else decide ((↑e:Int)<0))),(AG (!bif !true then true else decide ((↑e:Int)<0))),(((bif !true then true else decide ((↑e:Int)<0))=false)→ ((!bif !true then true else decide ((↑e:Int)<0))=true)),((bif bif !true then true else decide ((↑e:Int)<0) then true else decide ((↑e:Int)≥(↑nb:Int)))=false),(NT 0 1),(NT 0 1),(IL 0 0),(IL 0 (↑e:Int)),(IL (↑e:Int) (↑nb:Int)),(NL 0 0),(NL ((0+e)*16) 140737488355328),(NL (0+e) 9223372036854775807),(NT 0 1),(ZLo ((↑e:Int)+1)),(ZHi ((↑e:Int)+1)),(IL 0 ((↑e:Int)+1)),(IL ((↑e:Int)+1) (↑nb:Int)),(IL (↑nb:Int) (↑nb:Int)),(NL (0+e) (0+e)),(NL ((0+e+(nb - (e+1)))*16) 140737488355328),(NL (0+e+(nb - (e+1))) 9223372036854775807),(NT 0 1),((true=true)→ (AN 1)),(NT 0 1),(AI ((↑N:Int))),(AN 0),(((0+e+(nb - (e+1))):Nat)=(nb - 1)),(true=true),(AN 2),(NL (nb - 1) (0+e+(nb - (e+1)))),(∀ i:Nat,(((i:Nat)<(nb - 1))→(All (cvtL false [(32,⟨true,2,1,(fun i_1=>[.p (.int .i64 (↑N:Int)),.ar 2 960 0 (0+e+(nb - (e+1)))])⟩),(960,⟨false,2,(0+e+(nb - (e+1))),(fun i_1=>(if (i_1<0+e) then [.p (.int .i64 ((g i_1).1)),.p (.int .i64 ((g i_1).2.1))] else [.p (.int .i64 ((g (i_1 - (0+e)+(e+1))).1)),.p (.int .i64 ((g (i_1 - (0+e)+(e+1))).2.1))]))⟩),(0,⟨true,2,1,(fun i_1=>[.p (.int .i64 (↑N:Int)),.p (.seq true 2 nb (bRw g))])⟩)] [960] 1 (if (i<0+e) then [.p (.int .i64 ((g i).1)),.p (.int .i64 ((g i).2.1))] else [.p (.int .i64 ((g (i - (0+e)+(e+1))).1)),.p (.int .i64 ((g (i - (0+e)+(e+1))).2.1))])).2∧(((cvtL false [(32,⟨true,2,1,(fun i_1=>[.p (.int .i64 (↑N:Int)),.ar 2 960 0 (0+e+(nb - (e+1)))])⟩),(960,⟨false,2,(0+e+(nb - (e+1))),(fun i_1=>(if (i_1<0+e) then [.p (.int .i64 ((g i_1).1)),.p (.int .i64 ((g i_1).2.1))] else [.p (.int .i64 ((g (i_1 - (0+e)+(e+1))).1)),.p (.int .i64 ((g (i_1 - (0+e)+(e+1))).2.1))]))⟩),(0,⟨true,2,1,(fun i_1=>[.p (.int .i64 (↑N:Int)),.p (.seq true 2 nb (bRw g))])⟩)] [960] 1 (if (i<0+e) then [.p (.int .i64 ((g i).1)),.p (.int .i64 ((g i).2.1))] else [.p (.int .i64 ((g (i - (0+e)+(e+1))).1)),.p (.int .i64 ((g (i - (0+e)+(e+1))).2.1))])).1:List AV)=[.p (.int .i64 ((dlB g e i).1)),.p (.int .i64 ((dlB g e i).2.1))])))),(AE ((nb - 1)))]:=by kernel_rfl
theorem con_gRemove_s {N nb:Nat} {g:Nat→T_Bar} (hg:isGraphF ((N:Int),(nb,g),())=true) (e:Nat) (he:e<nb) :
    Con Tryz.prog 259 0 [] [grG g nb N,.p (.int .i64 e)] [(0,brOb (nb - 1) (dlB g e))] (.tup [.agg [.p (.int .i64 N),.ar 2 0 0 (nb - 1)],.p (.bool true)]):=by
  obtain ⟨h1,h2,h3⟩:=graph_in hg
  have c1:=con_IsGraph_s ((N:Int),(nb,g),()) (sm_graph (by show nb≤_;omega))
  rw [hg] at c1
  have hd:(bif bif !true then true else decide ((e:Int)<0) then true else decide ((e:Int)≥(nb:Int)))=false:=by
    rw [decide_eq_false (show ¬ ((e:Int)<0) by omega),decide_eq_false (show ¬ ((e:Int)≥(nb:Int)) by omega)];rfl
  refine csZ Tryz.func259 (fun c hc=>?_)
  refine pkZ Tryz.func259 hc (gRs g nb N e) ?_
  repeat' (first | exact aN | apply aI)
  all_goals (first | exact aG _ | exact aE _ | omega | rfl | (intros;first | assumption | exact trivial | rfl | exact fT ‹_› | ((repeat' (first | assumption | apply anda | apply notf));done)) | (exact c1) | (exact hd) | (intro t ht;rcases Nat.lt_or_ge t e with h1 | h1;(simp [h1,dlB,cvtL,cvt,tg,tru,All]);((try dsimp only);rw [if_neg (show ¬ t<0+e by omega),show t - (0+e)+(e+1)=t+1 by omega];simp [show ¬ t<e by omega,dlB,cvtL,cvt,tg,tru,All])))
end Go.Proofs.YtkkjoghiigiokaaGreat.Mach
namespace Go.Proofs.YtkkjoghiigiokaaGreat.Mach
open Go
set_option linter.unusedVariables false
set_option linter.unusedSimpArgs false
def ngM (V:Nat→Nat→Int) (i k:Nat):Nat→Nat→Int:=fun a s=>if a<i then -(V a s) else if a=i then (if s<k then -(V a s) else V a s) else V a s
def ngA (V:Nat→Nat→Int) (i:Nat):Nat→Nat→Int:=fun a s=>if a<i then -(V a s) else V a s
def ffTb (m:Nat) (C:Nat→T_IntS):Ob:=⟨true,0,m,fun i=>[.p (.seq true 1 (C i).1 (fun s=>[.int .i64 ((C i).2 s)]))]⟩
def loH (n q:Nat) (V:Nat→Nat→Int):Hp:=[(0,ooOb 1 q (cM n V)),(1,ffTb q (cM n V))]
def Ll0 (g:Nat→T_Bar) (nb:Nat) (N:Int) (pl:Nat→T_Place) (np:Nat) (K:T_IntS) (n q:Nat) (V:Nat→Nat→Int) (i:Nat):St :=
  ⟨[.p .any,.ar 1 0 0 q,.pt 4 2 0 0,.p .any,.p .any,.p .any,.p (.int .i64 i)]++List.replicate 44 anyA,[(0,ooOb 1 q (cM n V)),(1,ffOb q (cM n V)),(2,tsO g nb N pl np K)],3⟩
def Ll1 (g:Nat→T_Bar) (nb:Nat) (N:Int) (pl:Nat→T_Place) (np:Nat) (K:T_IntS) (n q:Nat) (V:Nat→Nat→Int) (i k:Nat):St :=
  ⟨[.p .any,.ar 1 0 0 q,.pt 4 2 0 0,.p .any,.p .any,.p .any,.p (.int .i64 i),.ar 1 3 0 k,.p (.int .i64 k)]++List.replicate 42 anyA,[(0,ooOb 1 q (cM n V)),(1,ffOb q (cM n V)),(2,tsO g nb N pl np K),(3,iOb k (fun s=>-(V i s)))],4⟩
def Lt0c (g:Nat→T_Bar) (nb:Nat) (N:Int) (pl:Nat→T_Place) (np:Nat) (K:T_IntS) (n q:Nat) (V:Nat→Nat→Int) (i:Nat):St :=
  ⟨[.p .any,.pt 4 0 0 0]++List.replicate 17 anyA++[.ar 1 1 0 q,.p (.int .i64 q),.p (.int .i64 i)]++List.replicate 27 anyA,[(0,tsF g nb N pl np K),(1,ooOb 2 q (cM n (ngA V i))),(2,ffOb q (cM n (ngA V i)))],3⟩
def Lt1c (g:Nat→T_Bar) (nb:Nat) (N:Int) (pl:Nat→T_Place) (np:Nat) (K:T_IntS) (n q:Nat) (V:Nat→Nat→Int) (i k:Nat):St :=
  ⟨[.p .any,.pt 4 0 0 0,.p .any,.p .any,.p .any,.p .any,.p .any,.ar 1 ⟨2,some i⟩ 0 n]++List.replicate 11 anyA++[.ar 1 1 0 q,.p (.int .i64 q),.p (.int .i64 i)]++List.replicate 8 anyA++[.p (.int .i64 n),.p (.int .i64 k)]++List.replicate 17 anyA,
   [(0,tsF g nb N pl np K),(1,ooOb 2 q (cM n (ngM V i k))),(2,ffOb q (cM n (ngM V i k)))],3⟩
def Lt2c (g:Nat→T_Bar) (nb:Nat) (N:Int) (pl:Nat→T_Place) (np:Nat) (K:T_IntS) (n q:Nat) (V:Nat→Nat→Int) (i:Nat):St :=
  ⟨[.p .any,.pt 4 0 0 0,.p .any,.p .any,.p .any,.p .any,.p .any,.ar 1 ⟨2,some i⟩ 0 n]++List.replicate 11 anyA++[.ar 1 1 0 q,.p (.int .i64 q),.p (.int .i64 i)]++List.replicate 27 anyA,
   [(0,tsF g nb N pl np K),(1,ooOb 2 q (cM n (ngA V (i+1)))),(2,ffOb q (cM n (ngA V (i+1))))],3⟩
def kbF (K:T_IntS) (i:Nat):Bool:=K.2 i==0
def noF (i j:Nat):Bool:=!((j:Int)==(i:Int))
def Fm0 (g:Nat→T_Bar) (nb:Nat) (N:Int) (pl:Nat→T_Place) (np:Nat) (K:T_IntS) (B:T_IntS) (i:Nat):St :=
  ⟨[.p .any,.pt 4 0 0 0,.p .any,.p .any,.p .any,.p .any,.p (.int .i64 K.1),.clo 263 [.pt 4 0 0 0],.ar 1 1 0 B.1]++List.replicate 24 anyA++[inL K,.p (.int .i64 K.1),.p (.int .i64 i)]++List.replicate 37 anyA,[(0,tsO g nb N pl np K),(1,iOb B.1 B.2)],2⟩
def Fm1 (g:Nat→T_Bar) (nb:Nat) (N:Int) (pl:Nat→T_Place) (np:Nat) (K:T_IntS) (B:T_IntS) (i:Nat) (R:T_IntS) (j:Nat):St :=
  ⟨[.p .any,.pt 4 0 0 0,.p .any,.p .any,.p .any,.p .any,.p (.int .i64 K.1),.clo 263 [.pt 4 0 0 0],.ar 1 1 0 B.1,.p (.int .i64 i),.p .any,.ar 1 2 0 R.1]++List.replicate 21 anyA++[inL K,.p (.int .i64 K.1),.p (.int .i64 i)]++List.replicate 11 anyA++[.p (.int .i64 K.1),.p (.int .i64 j)]++List.replicate 24 anyA,
   [(0,tsO g nb N pl np K),(1,iOb B.1 B.2),(2,iOb R.1 R.2)],3⟩
def Fn0 (g:Nat→T_Bar) (nb:Nat) (N:Int) (pl:Nat→T_Place) (np:Nat) (K:T_IntS) (B:T_IntS) (i:Nat):St :=
  ⟨[.p .any,.pt 4 0 0 0,.p .any,.p .any,.p .any,.p .any,.ar 1 1 0 B.1,.p (.int .i64 i)]++List.replicate 74 anyA,[(0,tsO g nb N pl np K),(1,iOb B.1 B.2)],2⟩
theorem llz (g:Nat→T_Bar) (nb:Nat) (N:Int) (pl:Nat→T_Place) (np:Nat) (K:T_IntS) (n q:Nat) (V:Nat→Nat→Int) :
    pieceOb Tryz.prog 2 [rg 3,rg 1,.head] [.code (bodyOf Tryz.f260)] (start Tryz.f260 (loH n q V) 2 [tsA g nb N pl np K,.ar 1 0 0 q]) [0,1,2] 1 (Ll0 g nb N pl np K n q V 0) =
    some (zf110,[(AN 0),(AN q),(AN 0),((0:Int)=(↑0:Int)),(AN 1),(NL q q),(AA q (fun i=>[.ar 1 ⟨1,some i⟩ 0 n])),(NL q q),(∀ i:Nat,(((i:Nat)<q)→All [(AN 1),((n:Nat)≤n),(AP n (fun r=>[.int .i64 ((cM n V i).2 r)]))])),((([AV.p (PV.int IntKind.i64 N),brL g nb,pcL pl np,inL K].length):Nat)=4),(NL 1 1),(NL 1 1),(AI N),(AN nb),(AP nb (bRw g)),(AN np),(AP np (bRw pl)),(AN K.1),(AP K.1 (iRw K))]):=by kernel_rfl
theorem lly (g:Nat→T_Bar) (nb:Nat) (N:Int) (pl:Nat→T_Place) (np:Nat) (K:T_IntS) (n q:Nat) (V:Nat→Nat→Int) (i:Nat) :
    pathOb Tryz.prog Tryz.f260 2 [rg 4,.dec true,rm [(5,oc [] (.p (.bool true)))] 0,.dec true,rg 6] zf110 (Ll0 g nb N pl np K n q V i) [99998,99999,.pl ⟨1,some i⟩] 1 [(2,iOb n (V i))] (.tup [.ar 1 2 0 n,.p (.bool true)]) =
    some [((decide ((↑i:Int)<(↑q:Int)))=true),(NT 0 1),(IL 0 (↑i:Int)),(IT (↑i:Int) (↑q:Int)),(NT i q),(NT i q),(AN 1),(NL n n),Con Tryz.prog 89 0 [] [(zf28 N nb g np pl K),.p (.seq true 1 n (fun i_1=>[.int .i64 ((cM n V i).2 i_1)]))] [] (.p (.bool true)),(true=true),(IL 0 (↑i:Int)),(IT (↑i:Int) (↑q:Int)),(NT i q),(AN i),(AN 0),(AN n),(true=true),(NT i q),(AN 1),(NL n n),(∀ i_1:Nat,(((i_1:Nat)<n)→(All []∧(([.p (.int .i64 ((cM n V i).2 i_1))]:List AV)=[.p (.int .i64 (V i i_1))])))),(AE n)]:=by kernel_rfl
theorem lla (g:Nat→T_Bar) (nb:Nat) (N:Int) (pl:Nat→T_Place) (np:Nat) (K:T_IntS) (n q:Nat) (V:Nat→Nat→Int) (i:Nat) :
    pieceOb Tryz.prog 2 [rg 4,.dec true,rm [(5,oc [] (.p (.bool false)))] 0,.dec false,rg 2,rg 1,.head] zf110 (Ll0 g nb N pl np K n q V i) [0,1,2,323] 1 (Ll1 g nb N pl np K n q V i 0) =
    some (zf16,[((decide ((↑i:Int)<(↑q:Int)))=true),(NT 0 1),(IL 0 (↑i:Int)),(IT (↑i:Int) (↑q:Int)),(NT i q),(NT i q),(AN 1),(NL n n),Con Tryz.prog 89 0 [] [(zf28 N nb g np pl K),.p (.seq true 1 n (fun i_1=>[.int .i64 ((cM n V i).2 i_1)]))] [] (.p (.bool false)),(false=false),(AN 0),(AN q),(AN 0),(AI ((↑i:Int))),(AN 0),(AN 0),((0:Int)=(↑0:Int)),(AN 1),(NL q q),(AA q (fun i_1=>[.ar 1 ⟨1,some i_1⟩ 0 n])),(NL q q),(∀ i_1:Nat,(((i_1:Nat)<q)→All [(AN 1),((n:Nat)≤n),(AP n (fun r=>[.int .i64 ((cM n V i_1).2 r)]))])),(AN 4),(NL 1 1),(NL 1 1),(AI N),(AN nb),(AP nb (bRw g)),(AN np),(AP np (bRw pl)),(AN K.1),(AP K.1 (iRw K)),(AN 1),(NL 0 0),(∀ i_1:Nat,(((i_1:Nat)<0)→(All []∧(([.p (.int .i64 0)]:List AV)=[.p (.int .i64 (-V i i_1))]))))]):=by kernel_rfl
theorem lle (g:Nat→T_Bar) (nb:Nat) (N:Int) (pl:Nat→T_Place) (np:Nat) (K:T_IntS) (n q:Nat) (V:Nat→Nat→Int) (i:Nat) :
    pathOb Tryz.prog Tryz.f260 2 [rg 4,.dec false,rg 3] zf110 (Ll0 g nb N pl np K n q V i) [99998,99999,131] 1 [(2,iOb 0 (fun _=>0))] (.tup [.ar 1 2 0 0,.p (.bool false)]) =
    some [((decide ((↑i:Int)<(↑q:Int)))=false),(AN 0),(AN 0),(false=false),(AN 1),(NL 0 0),(AA 0 (fun i_1=>[.p (.int .i64 0)])),(AE 0)]:=by kernel_rfl
theorem llb (g:Nat→T_Bar) (nb:Nat) (N:Int) (pl:Nat→T_Place) (np:Nat) (K:T_IntS) (n q:Nat) (V:Nat→Nat→Int) (i k:Nat) :
    pieceOb Tryz.prog 2 [rg 7,.dec true,rg 12,rg 3,.head] zf16 (Ll1 g nb N pl np K n q V i k) [0,1,2,548] 1 (Ll1 g nb N pl np K n q V i (k+1)) =
    some (zf16,[(IL 0 (↑i:Int)),(IT (↑i:Int) (↑q:Int)),(NT i q),((decide ((↑k:Int)<(↑(cM n V ((↑i:Int).toNat+0)).1:Int)))=true),(IL 0 (↑i:Int)),(IT (↑i:Int) (↑q:Int)),(NT i q),(IL 0 (↑k:Int)),(IT (↑k:Int) (↑n:Int)),(NT i q),(NT k n),(ZLo (0 - (cM n V i).2 k)),(ZHi (0 - (cM n V i).2 k)),(NL 1 1),(NL k k),(NL ((k+1)*8) 140737488355328),(NL (k+1) 9223372036854775807),(ZLo ((↑k:Int)+1)),(ZHi ((↑k:Int)+1)),(AN 0),(AN q),(AN 0),(AI ((↑i:Int))),(AN 0),(AN ((k+1))),((((↑k:Int)+1):Int)=(↑(k+1):Int)),(AN 1),(NL q q),(AA q (fun i_1=>[.ar 1 ⟨1,some i_1⟩ 0 n])),(NL q q),(∀ i_1:Nat,(((i_1:Nat)<q)→All [(AN 1),((n:Nat)≤n),(AP n (fun r=>[.int .i64 ((cM n V i_1).2 r)]))])),(AN 4),(NL 1 1),(NL 1 1),(AI N),(AN nb),(AP nb (bRw g)),(AN np),(AP np (bRw pl)),(AN K.1),(AP K.1 (iRw K)),(AN 1),(NL (k+1) (k+1)),(CV [(548,⟨false,1,(k+1),(fun i_2=>(if (i_2<k) then [.p (.int .i64 (-V i i_2))] else [.p (.int .i64 (0 - (cM n V i).2 k))]))⟩),(516,⟨false,1,1,(fun i_2=>[.p (.int .i64 (0 - (cM n V i).2 k))])⟩),(0,⟨false,1,q,(fun i_2=>[.ar 1 ⟨1,some i_2⟩ 0 n])⟩),(1,⟨true,0,q,(fun i_2=>[.p (.seq false 1 n (fun i_3=>[.int .i64 ((cM n V i_2).2 i_3)]))])⟩),(2,⟨true,4,1,(fun i_2=>[.p (.int .i64 N),.p (.seq true 2 nb (bRw g)),.p (.seq true 2 np (bRw pl)),.p (.seq true 1 K.1 (iRw K))])⟩)] [0,1,2,548] 1 (k+1) (fun i_1=>if (i_1<k) then [.p (.int .i64 (-V i i_1))] else [.p (.int .i64 (0 - (cM n V i).2 k))]) (fun i_1=>[.p (.int .i64 (-V i i_1))]))]):=by kernel_rfl
theorem llc (g:Nat→T_Bar) (nb:Nat) (N:Int) (pl:Nat→T_Place) (np:Nat) (K:T_IntS) (n q:Nat) (V:Nat→Nat→Int) (i:Nat) :
    pathOb Tryz.prog Tryz.f260 2 [rg 7,.dec false,rm [(2,oc [] (.p (.bool true)))] 0,.dec true,rg 3] zf16 (Ll1 g nb N pl np K n q V i n) [99998,99999,3] 1 [(2,iOb n (fun s=>-(V i s)))] (.tup [.ar 1 2 0 n,.p (.bool true)]) =
    some [(IL 0 (↑i:Int)),(IT (↑i:Int) (↑q:Int)),(NT i q),((decide ((↑n:Int)<(↑(cM n V ((↑i:Int).toNat+0)).1:Int)))=false),(NT 0 1),(AN 1),(NL n n),Con Tryz.prog 89 0 [] [(zf28 N nb g np pl K),.p (.seq true 1 n (fun i_1=>[.int .i64 (-V i i_1)]))] [] (.p (.bool true)),(true=true),(AN 0),(AN n),(true=true),(AN 1),(NL n n),(AA n (fun i_1=>[.p (.int .i64 (-V i i_1))])),(AE n)]:=by kernel_rfl
theorem lld (g:Nat→T_Bar) (nb:Nat) (N:Int) (pl:Nat→T_Place) (np:Nat) (K:T_IntS) (n q:Nat) (V:Nat→Nat→Int) (i:Nat) :
    pieceOb Tryz.prog 2 [rg 7,.dec false,rm [(2,oc [] (.p (.bool false)))] 0,.dec false,rg 3,.head] zf16 (Ll1 g nb N pl np K n q V i n) [0,1,2] 1 (Ll0 g nb N pl np K n q V (i+1)) =
    some (zf110,[(IL 0 (↑i:Int)),(IT (↑i:Int) (↑q:Int)),(NT i q),((decide ((↑n:Int)<(↑(cM n V ((↑i:Int).toNat+0)).1:Int)))=false),(NT 0 1),(AN 1),(NL n n),Con Tryz.prog 89 0 [] [(zf28 N nb g np pl K),.p (.seq true 1 n (fun i_1=>[.int .i64 (-V i i_1)]))] [] (.p (.bool false)),(false=false),(ZLo ((↑i:Int)+1)),(ZHi ((↑i:Int)+1)),(AN 0),(AN q),(AN 0),((((↑i:Int)+1):Int)=(↑(i+1):Int)),(AN 1),(NL q q),(AA q (fun i_1=>[.ar 1 ⟨1,some i_1⟩ 0 n])),(NL q q),(∀ i_1:Nat,(((i_1:Nat)<q)→All [(AN 1),((n:Nat)≤n),(AP n (fun r=>[.int .i64 ((cM n V i_1).2 r)]))])),(AN 4),(NL 1 1),(NL 1 1),(AI N),(AN nb),(AP nb (bRw g)),(AN np),(AP np (bRw pl)),(AN K.1),(AP K.1 (iRw K))]):=by kernel_rfl
theorem ltz1 (g:Nat→T_Bar) (nb:Nat) (N:Int) (pl:Nat→T_Place) (np:Nat) (K:T_IntS) (S:T_IntS) (h:Nat→T_Bar) (m n q:Nat) (V:Nat→Nat→Int) :
    pieceOb Tryz.prog 1 [rg 2,rm [(4,oc [(0,brOb m h)] (.agg [.p (.int .i64 N),.ar 2 0 0 m]))] 6,rm [(1,oc [(0,ooOb 1 q (cM n V)),(1,ffOb q (cM n V))] (.ar 1 0 0 q))] 2,.head] [.code (bodyOf Tryz.f263)] (start Tryz.f263 ([(0,tsF g nb N pl np K)]) 1 [inL S,.pt 4 0 0 0]) [0,449,450] 1 (Lt0c g nb N pl np K n q V 0) =
    some (zf88,[(NT 0 1),Con Tryz.prog 65 0 [] [(zf118 N nb g),.p (.seq true 1 S.1 (iRw S))] [(0,⟨false,2,m,(fun i=>[.p (.int .i64 ((h i).1)),.p (.int .i64 ((h i).2.1))])⟩)] (.agg [.p (.int .i64 N),.ar 2 0 0 m]),(NT 0 1),(NT 0 1),((true=true)→ (AN 1)),(NT 0 1),(AN 2),(NL m m),Con Tryz.prog 237 0 [] [(zf44 N m h np pl)] [(0,⟨false,1,q,(fun i=>[.ar 1 ⟨1,some i⟩ 0 n])⟩),(1,⟨true,0,q,(fun i=>[.p (.seq false 1 n (fun i_1=>[.int .i64 ((cM n V i).2 i_1)]))])⟩)] (.ar 1 0 0 q),(AN 0),(AN 0),(AN q),(AI ((↑q:Int))),((0:Int)=(↑0:Int)),(AN 4),(NL 1 1),(NL 1 1),(AI N),(AN nb),(AP nb (bRw g)),(AN np),(AP np (bRw pl)),(AN K.1),(AP K.1 (iRw K)),(AN 1),(NL q q),(AA q (fun i=>[.ar 1 ⟨2,some i⟩ 0 n])),(NL q q),(∀ i:Nat,(((i:Nat)<q)→All [(AN 1),((n:Nat)≤n),(∀ r:Nat,(((r:Nat)<n)→(([.int .i64 ((cM n V i).2 r)]:List PV)=[.int .i64 ((cM n (ngA V 0) i).2 r)])))]))]):=by kernel_rfl
theorem lty1 (g:Nat→T_Bar) (nb:Nat) (N:Int) (pl:Nat→T_Place) (np:Nat) (K:T_IntS) (n q:Nat) (V:Nat→Nat→Int) (i:Nat) (z:Nat→Int) :
    pathOb Tryz.prog Tryz.f263 1 [rg 1,.dec true,rg 3,rm [(2,oc [] (.p (.bool true)))] 0,.dec true,rg 3] zf88 (Lt0c g nb N pl np K n q V i) [0,.pl ⟨2,some i⟩] 1 [(0,tsF g nb N pl np K),(1,iOb n z)] (.tup [.ar 1 1 0 n,.p (.bool true)]) =
    some [((decide ((↑i:Int)<(↑q:Int)))=true),(IL 0 (↑i:Int)),(IT (↑i:Int) (↑q:Int)),(NT i q),(NT 0 1),(NT i q),(AN 1),(NL n n),Con Tryz.prog 99 0 [] [(zf28 N nb g np pl K),.p (.seq true 1 n (fun i_1=>[.int .i64 ((cM n (ngA V i) i).2 i_1)]))] [] (.p (.bool true)),(true=true),(AN i),(AN 0),(AN n),(true=true),(AN 4),(NL 1 1),(NL 1 1),(AI N),(AN nb),(AP nb (bRw g)),(AN np),(AP np (bRw pl)),(AN K.1),(AP K.1 (iRw K)),(NT i q),(AN 1),(NL n n),(∀ i_1:Nat,(((i_1:Nat)<n)→(All []∧(([.p (.int .i64 ((cM n (ngA V i) i).2 i_1))]:List AV)=[.p (.int .i64 (z i_1))])))),(∀ i_1:Nat,(((i_1:Nat)<1)→All [(false=false),(AE nb),(false=false),(AE np),(false=false),(AE K.1)])),(AE n)]:=by kernel_rfl
theorem lta1 (g:Nat→T_Bar) (nb:Nat) (N:Int) (pl:Nat→T_Place) (np:Nat) (K:T_IntS) (n q:Nat) (V:Nat→Nat→Int) (i:Nat) :
    pieceOb Tryz.prog 1 [rg 1,.dec true,rg 3,rm [(2,oc [] (.p (.bool false)))] 0,.dec false,rg 3,.head] zf88 (Lt0c g nb N pl np K n q V i) [0,1,2] 1 (Lt1c g nb N pl np K n q V i 0) =
    some (zf12,[((decide ((↑i:Int)<(↑q:Int)))=true),(IL 0 (↑i:Int)),(IT (↑i:Int) (↑q:Int)),(NT i q),(NT 0 1),(NT i q),(AN 1),(NL n n),Con Tryz.prog 99 0 [] [(zf28 N nb g np pl K),.p (.seq true 1 n (fun i_1=>[.int .i64 ((cM n (ngA V i) i).2 i_1)]))] [] (.p (.bool false)),(false=false),(AN 0),(AN i),(AN 0),(AN n),(AN 0),(AN q),(AI ((↑q:Int))),(AI ((↑i:Int))),(AI ((↑n:Int))),((0:Int)=(↑0:Int)),(AN 4),(NL 1 1),(NL 1 1),(AI N),(AN nb),(AP nb (bRw g)),(AN np),(AP np (bRw pl)),(AN K.1),(AP K.1 (iRw K)),(AN 1),(NL q q),(AA q (fun i_1=>[.ar 1 ⟨2,some i_1⟩ 0 n])),(NL q q),(∀ i_1:Nat,(((i_1:Nat)<q)→All [(AN 1),((n:Nat)≤n),(∀ r:Nat,(((r:Nat)<n)→(([.int .i64 ((cM n (ngA V i) i_1).2 r)]:List PV)=[.int .i64 ((cM n (ngM V i 0) i_1).2 r)])))]))]):=by kernel_rfl
theorem lte1 (g:Nat→T_Bar) (nb:Nat) (N:Int) (pl:Nat→T_Place) (np:Nat) (K:T_IntS) (n q:Nat) (V:Nat→Nat→Int) (i:Nat) :
    pathOb Tryz.prog Tryz.f263 1 [rg 1,.dec false,rg 3] zf88 (Lt0c g nb N pl np K n q V i) [0,35] 1 [(0,tsF g nb N pl np K),(1,iOb 0 (fun _=>0))] (.tup [.ar 1 1 0 0,.p (.bool false)]) =
    some [((decide ((↑i:Int)<(↑q:Int)))=false),(AN 0),(AN 0),(false=false),(AN 4),(NL 1 1),(NL 1 1),(AI N),(AN nb),(AP nb (bRw g)),(AN np),(AP np (bRw pl)),(AN K.1),(AP K.1 (iRw K)),(AN 1),(NL 0 0),(AA 0 (fun i_1=>[.p (.int .i64 0)])),(∀ i_1:Nat,(((i_1:Nat)<1)→All [(false=false),(AE nb),(false=false),(AE np),(false=false),(AE K.1)])),(AE 0)]:=by kernel_rfl
theorem ltb1 (g:Nat→T_Bar) (nb:Nat) (N:Int) (pl:Nat→T_Place) (np:Nat) (K:T_IntS) (n q:Nat) (V:Nat→Nat→Int) (i k:Nat) :
    pieceOb Tryz.prog 1 [rg 1,.dec true,rg 2,rg 9,rg 2,.head] zf12 (Lt1c g nb N pl np K n q V i k) [0,1,2] 1 (Lt1c g nb N pl np K n q V i (k+1)) =
    some (zf12,[((decide ((↑k:Int)<(↑n:Int)))=true),(IL 0 (↑k:Int)),(IT (↑k:Int) (↑n:Int)),(NT i q),(NT k n),(ZLo (0 - (cM n (ngM V i k) i).2 k)),(ZHi (0 - (cM n (ngM V i k) i).2 k)),(IL 0 (↑k:Int)),(IT (↑k:Int) (↑n:Int)),(NT i q),(NT k n),((false=true)→ ((n:Nat)=1)),(ZLo ((↑k:Int)+1)),(ZHi ((↑k:Int)+1)),(AN 0),(AN i),(AN 0),(AN n),(AN 0),(AN q),(AI ((↑q:Int))),(AI ((↑i:Int))),(AI ((↑n:Int))),((((↑k:Int)+1):Int)=(↑(k+1):Int)),(AN 4),(NL 1 1),(NL 1 1),(AI N),(AN nb),(AP nb (bRw g)),(AN np),(AP np (bRw pl)),(AN K.1),(AP K.1 (iRw K)),(AN 1),(NL q q),(AA q (fun i_1=>[.ar 1 ⟨2,some i_1⟩ 0 n])),(NL q q),(∀ i_1:Nat,(((i_1:Nat)<q)→All (famE (if (i_1=i) then [.p (.seq false 1 n (fun i_2=>[(toP (List.getD ((if (i_2=k) then [.p (.int .i64 (0 - (cM n (ngM V i k) i).2 k))] else [.p (.int .i64 ((cM n (ngM V i k) i).2 i_2))]):List AV) 0 (.p .any)))]))] else [.p (.seq false 1 n (fun i_2=>[.int .i64 ((cM n (ngM V i k) i_1).2 i_2)]))]) [.p (.seq false 1 n (fun i_2=>[.int .i64 ((cM n (ngM V i (k+1)) i_1).2 i_2)]))])))]):=by kernel_rfl
theorem ltc1 (g:Nat→T_Bar) (nb:Nat) (N:Int) (pl:Nat→T_Place) (np:Nat) (K:T_IntS) (n q:Nat) (V:Nat→Nat→Int) (i:Nat) :
    pieceOb Tryz.prog 1 [rg 1,.dec false,.head] zf12 (Lt1c g nb N pl np K n q V i n) [0,1,2] 1 (Lt2c g nb N pl np K n q V i) =
    some (zf20,[((decide ((↑n:Int)<(↑n:Int)))=false),(AN 0),(AN i),(AN 0),(AN n),(AN 0),(AN q),(AI ((↑q:Int))),(AI ((↑i:Int))),(AN 4),(NL 1 1),(NL 1 1),(AI N),(AN nb),(AP nb (bRw g)),(AN np),(AP np (bRw pl)),(AN K.1),(AP K.1 (iRw K)),(AN 1),(NL q q),(AA q (fun i_1=>[.ar 1 ⟨2,some i_1⟩ 0 n])),(NL q q),(∀ i_1:Nat,(((i_1:Nat)<q)→All [(AN 1),((n:Nat)≤n),(∀ r:Nat,(((r:Nat)<n)→(([.int .i64 ((cM n (ngM V i n) i_1).2 r)]:List PV)=[.int .i64 ((cM n (ngA V (i+1)) i_1).2 r)])))]))]):=by kernel_rfl
theorem ltd1 (g:Nat→T_Bar) (nb:Nat) (N:Int) (pl:Nat→T_Place) (np:Nat) (K:T_IntS) (n q:Nat) (V:Nat→Nat→Int) (i:Nat) (z:Nat→Int) :
    pathOb Tryz.prog Tryz.f263 1 [rm [(2,oc [] (.p (.bool true)))] 0,.dec true,rg 3] zf20 (Lt2c g nb N pl np K n q V i) [0,.pl ⟨2,some i⟩] 1 [(0,tsF g nb N pl np K),(1,iOb n z)] (.tup [.ar 1 1 0 n,.p (.bool true)]) =
    some [(NT 0 1),(NT i q),(AN 1),(NL n n),Con Tryz.prog 99 0 [] [(zf28 N nb g np pl K),.p (.seq true 1 n (fun i_1=>[.int .i64 ((cM n (ngA V (i+1)) i).2 i_1)]))] [] (.p (.bool true)),(true=true),(AN i),(AN 0),(AN n),(true=true),(AN 4),(NL 1 1),(NL 1 1),(AI N),(AN nb),(AP nb (bRw g)),(AN np),(AP np (bRw pl)),(AN K.1),(AP K.1 (iRw K)),(NT i q),(AN 1),(NL n n),(∀ i_1:Nat,(((i_1:Nat)<n)→(All []∧(([.p (.int .i64 ((cM n (ngA V (i+1)) i).2 i_1))]:List AV)=[.p (.int .i64 (z i_1))])))),(∀ i_1:Nat,(((i_1:Nat)<1)→All [(false=false),(AE nb),(false=false),(AE np),(false=false),(AE K.1)])),(AE n)]:=by kernel_rfl
theorem ltf1 (g:Nat→T_Bar) (nb:Nat) (N:Int) (pl:Nat→T_Place) (np:Nat) (K:T_IntS) (n q:Nat) (V:Nat→Nat→Int) (i:Nat) :
    pieceOb Tryz.prog 1 [rm [(2,oc [] (.p (.bool false)))] 0,.dec false,rg 2,.head] zf20 (Lt2c g nb N pl np K n q V i) [0,1,2] 1 (Lt0c g nb N pl np K n q V (i+1)) =
    some (zf88,[(NT 0 1),(NT i q),(AN 1),(NL n n),Con Tryz.prog 99 0 [] [(zf28 N nb g np pl K),.p (.seq true 1 n (fun i_1=>[.int .i64 ((cM n (ngA V (i+1)) i).2 i_1)]))] [] (.p (.bool false)),(false=false),(ZLo ((↑i:Int)+1)),(ZHi ((↑i:Int)+1)),(AN 0),(AN 0),(AN q),(AI ((↑q:Int))),((((↑i:Int)+1):Int)=(↑(i+1):Int)),(AN 4),(NL 1 1),(NL 1 1),(AI N),(AN nb),(AP nb (bRw g)),(AN np),(AP np (bRw pl)),(AN K.1),(AP K.1 (iRw K)),(AN 1),(NL q q),(AA q (fun i_1=>[.ar 1 ⟨2,some i_1⟩ 0 n])),(NL q q),(∀ i_1:Nat,(((i_1:Nat)<q)→All [(AN 1),((n:Nat)≤n),(AP n (fun r=>[.int .i64 ((cM n (ngA V (i+1)) i_1).2 r)]))]))]):=by kernel_rfl
theorem fmn (g:Nat→T_Bar) (nb:Nat) (N:Int) (pl:Nat→T_Place) (np:Nat) (K:T_IntS) :
    pathOb Tryz.prog Tryz.f154 0 [rg 3,rm [(1,oc [] (.p (.bool false)))] 1,.dec true,rg 3] [.code (bodyOf Tryz.f154)] (start Tryz.f154 [] 0 [tsA g nb N pl np K]) [192] 1 [(0,iOb 0 (fun _=>0))] (.tup [.ar 1 0 0 0,.p (.bool false)]) =
    some [(NT 0 1),Con Tryz.prog 151 0 [] [(zf30 N nb g np pl K)] [] (.p (.bool false)),((!false)=true),(AN 0),(AN 0),(false=false),(AN 1),(NL 0 0),(AA 0 (fun i=>[.p (.int .i64 0)])),(AE 0)]:=by kernel_rfl
theorem fmy (g:Nat→T_Bar) (nb:Nat) (N:Int) (pl:Nat→T_Place) (np:Nat) (K:T_IntS) (m:Nat) (z:Nat→Int) :
    pathOb Tryz.prog Tryz.f154 0 [rg 3,rm [(1,oc [] (.p (.bool true)))] 1,.dec false,rm [(2,oc [(0,iOb m z)] (.tup [.ar 1 0 0 m,.p (.bool true)]))] 5,rg 1,.dec true,rg 3] [.code (bodyOf Tryz.f154)] (start Tryz.f154 [] 0 [tsA g nb N pl np K]) [256] 1 [(0,iOb m z)] (.tup [.ar 1 0 0 m,.p (.bool true)]) =
    some [(NT 0 1),Con Tryz.prog 151 0 [] [(zf30 N nb g np pl K)] [] (.p (.bool true)),((!true)=false),(NT 0 1),Con Tryz.prog 135 0 [] [(zf44 N nb g np pl)] [(0,⟨false,1,m,(fun i=>[.p (.int .i64 (z i))])⟩)] (.tup [.ar 1 0 0 m,.p (.bool true)]),(true=true),(AN 0),(AN m),(true=true),(AN 1),(NL m m),(AA m (fun i=>[.p (.int .i64 (z i))])),(AE m)]:=by kernel_rfl
theorem fmz2 (g:Nat→T_Bar) (nb:Nat) (N:Int) (pl:Nat→T_Place) (np:Nat) (K:T_IntS) (m:Nat) (z:Nat→Int) :
    pieceOb Tryz.prog 0 [rg 3,rm [(1,oc [] (.p (.bool true)))] 1,.dec false,rm [(2,oc [(0,iOb m z)] (.tup [.ar 1 0 0 m,.p (.bool false)]))] 5,rg 1,.dec false,rg 4,rg 2,rg 2,rg 4,.head] [.code (bodyOf Tryz.f154)] (start Tryz.f154 [] 0 [tsA g nb N pl np K]) [0,672] 1 (Fm0 g nb N pl np K (0,fun _=>0) 0) =
    some (zf38,[(NT 0 1),Con Tryz.prog 151 0 [] [(zf30 N nb g np pl K)] [] (.p (.bool true)),((!true)=false),(NT 0 1),Con Tryz.prog 135 0 [] [(zf44 N nb g np pl)] [(0,⟨false,1,m,(fun i=>[.p (.int .i64 (z i))])⟩)] (.tup [.ar 1 0 0 m,.p (.bool false)]),(false=false),(NT 0 1),(NT 0 1),(AN 0),(AI ((↑K.1:Int))),(AN 0),(AN 0),(AN 0),(AN K.1),(AP K.1 (iRw K)),(AI ((↑K.1:Int))),((0:Int)=(↑0:Int)),((([AV.p (PV.int IntKind.i64 N),brL g nb,pcL pl np,inL K].length):Nat)=4),(NL 1 1),(NL 1 1),(AI N),(AN nb),(AP nb (bRw g)),(AN np),(AP np (bRw pl)),(AN K.1),(AP K.1 (iRw K)),(AN 1),(NL 0 0),(∀ i:Nat,(((i:Nat)<0)→(All []∧(([.p (.int .i64 0)]:List AV)=[.p (.int .i64 ((0,fun x=>0).2 i))]))))]):=by kernel_rfl
theorem fma2 (g:Nat→T_Bar) (nb:Nat) (N:Int) (pl:Nat→T_Place) (np:Nat) (K:T_IntS) (B:T_IntS) (i:Nat) :
    pieceOb Tryz.prog 0 [rg 1,.dec true,rg 5,rg 2,.dec true,rg 5,rg 2,.head] zf38 (Fm0 g nb N pl np K B i) [0,354] 1 (Fm0 g nb N pl np K (B.1+1,fun s=>if s<B.1 then B.2 s else (i:Int)) (i+1)) =
    some (zf38,[((decide ((↑i:Int)<(↑K.1:Int)))=true),(IL 0 (↑i:Int)),(IT (↑i:Int) (↑K.1:Int)),((K.2 i==0)=true),(NL 1 1),(NL B.1 B.1),(NL ((B.1+1)*8) 140737488355328),(NL (B.1+1) 9223372036854775807),(ZLo ((↑i:Int)+1)),(ZHi ((↑i:Int)+1)),(AN 0),(AI ((↑K.1:Int))),(AN 0),(AN 0),(AN ((B.1+1))),(AN K.1),(AP K.1 (iRw K)),(AI ((↑K.1:Int))),((((↑i:Int)+1):Int)=(↑(i+1):Int)),(AN 4),(NL 1 1),(NL 1 1),(AI N),(AN nb),(AP nb (bRw g)),(AN np),(AP np (bRw pl)),(AN K.1),(AP K.1 (iRw K)),(AN 1),(NL (B.1+1) (B.1+1)),(CV [(354,⟨false,1,(B.1+1),(fun i_2=>(if (i_2<B.1) then [.p (.int .i64 (B.2 i_2))] else [.p (.int .i64 (↑i:Int))]))⟩),(322,⟨false,1,1,(fun i_2=>[.p (.int .i64 (↑i:Int))])⟩),(0,⟨true,4,1,(fun i_2=>[.p (.int .i64 N),.p (.seq true 2 nb (bRw g)),.p (.seq true 2 np (bRw pl)),.p (.seq true 1 K.1 (iRw K))])⟩)] [0,354] 1 (B.1+1) (fun i_1=>if (i_1<B.1) then [.p (.int .i64 (B.2 i_1))] else [.p (.int .i64 (↑i:Int))]) (fun i_1=>[.p (.int .i64 ((B.1+1,fun s=>if s<B.1 then B.2 s else (↑i:Int)).2 i_1))]))]):=by kernel_rfl
theorem fmb2 (g:Nat→T_Bar) (nb:Nat) (N:Int) (pl:Nat→T_Place) (np:Nat) (K:T_IntS) (B:T_IntS) (i:Nat) :
    pieceOb Tryz.prog 0 [rg 1,.dec true,rg 5,rg 2,.dec false,rg 2,rg 2,.head] zf38 (Fm0 g nb N pl np K B i) [0,1,258] 1 (Fm1 g nb N pl np K B i (0,fun _=>0) 0) =
    some (zf5,[((decide ((↑i:Int)<(↑K.1:Int)))=true),(IL 0 (↑i:Int)),(IT (↑i:Int) (↑K.1:Int)),((K.2 i==0)=false),(AN 0),(AI ((↑K.1:Int))),(AN 0),(AN 0),(AN B.1),(AI ((↑i:Int))),(AN 0),(AN 0),(AN K.1),(AP K.1 (iRw K)),(AI ((↑K.1:Int))),(AI ((↑i:Int))),(AI ((↑K.1:Int))),((0:Int)=(↑0:Int)),(AN 4),(NL 1 1),(NL 1 1),(AI N),(AN nb),(AP nb (bRw g)),(AN np),(AP np (bRw pl)),(AN K.1),(AP K.1 (iRw K)),(AN 1),(NL B.1 B.1),(AA B.1 (fun i_1=>[.p (.int .i64 (B.2 i_1))])),(AN 1),(NL 0 0),(∀ i_1:Nat,(((i_1:Nat)<0)→(All []∧(([.p (.int .i64 0)]:List AV)=[.p (.int .i64 ((0,fun x=>0).2 i_1))]))))]):=by kernel_rfl
theorem fmc2 (g:Nat→T_Bar) (nb:Nat) (N:Int) (pl:Nat→T_Place) (np:Nat) (K:T_IntS) (B:T_IntS) (i:Nat) (R:T_IntS) (j:Nat) :
    pieceOb Tryz.prog 0 [rg 1,.dec true,rg 2,rg 3,.dec true,rg 5,rg 2,.head] zf5 (Fm1 g nb N pl np K B i R j) [0,1,291] 1 (Fm1 g nb N pl np K B i (R.1+1,fun s=>if s<R.1 then R.2 s else (j:Int)) (j+1)) =
    some (zf5,[((decide ((↑j:Int)<(↑K.1:Int)))=true),(((↑j:Int) != (↑i:Int))=true),(NL 1 1),(NL R.1 R.1),(NL ((R.1+1)*8) 140737488355328),(NL (R.1+1) 9223372036854775807),(ZLo ((↑j:Int)+1)),(ZHi ((↑j:Int)+1)),(AN 0),(AI ((↑K.1:Int))),(AN 0),(AN 0),(AN B.1),(AI ((↑i:Int))),(AN 0),(AN ((R.1+1))),(AN K.1),(AP K.1 (iRw K)),(AI ((↑K.1:Int))),(AI ((↑i:Int))),(AI ((↑K.1:Int))),((((↑j:Int)+1):Int)=(↑(j+1):Int)),(AN 4),(NL 1 1),(NL 1 1),(AI N),(AN nb),(AP nb (bRw g)),(AN np),(AP np (bRw pl)),(AN K.1),(AP K.1 (iRw K)),(AN 1),(NL B.1 B.1),(AA B.1 (fun i_1=>[.p (.int .i64 (B.2 i_1))])),(AN 1),(NL (R.1+1) (R.1+1)),(CV [(291,⟨false,1,(R.1+1),(fun i_2=>(if (i_2<R.1) then [.p (.int .i64 (R.2 i_2))] else [.p (.int .i64 (↑j:Int))]))⟩),(259,⟨false,1,1,(fun i_2=>[.p (.int .i64 (↑j:Int))])⟩),(0,⟨true,4,1,(fun i_2=>[.p (.int .i64 N),.p (.seq true 2 nb (bRw g)),.p (.seq true 2 np (bRw pl)),.p (.seq true 1 K.1 (iRw K))])⟩),(1,⟨false,1,B.1,(fun i_2=>[.p (.int .i64 (B.2 i_2))])⟩)] [0,1,291] 1 (R.1+1) (fun i_1=>if (i_1<R.1) then [.p (.int .i64 (R.2 i_1))] else [.p (.int .i64 (↑j:Int))]) (fun i_1=>[.p (.int .i64 ((R.1+1,fun s=>if s<R.1 then R.2 s else (↑j:Int)).2 i_1))]))]):=by kernel_rfl
theorem fmd2 (g:Nat→T_Bar) (nb:Nat) (N:Int) (pl:Nat→T_Place) (np:Nat) (K:T_IntS) (B:T_IntS) (i:Nat) (R:T_IntS) (j:Nat) :
    pieceOb Tryz.prog 0 [rg 1,.dec true,rg 2,rg 3,.dec false,rg 2,.head] zf5 (Fm1 g nb N pl np K B i R j) [0,1,2] 1 (Fm1 g nb N pl np K B i R (j+1)) =
    some (zf5,[((decide ((↑j:Int)<(↑K.1:Int)))=true),(((↑j:Int) != (↑i:Int))=false),(ZLo ((↑j:Int)+1)),(ZHi ((↑j:Int)+1)),(AN 0),(AI ((↑K.1:Int))),(AN 0),(AN 0),(AN B.1),(AI ((↑i:Int))),(AN 0),(AN R.1),(AN K.1),(AP K.1 (iRw K)),(AI ((↑K.1:Int))),(AI ((↑i:Int))),(AI ((↑K.1:Int))),((((↑j:Int)+1):Int)=(↑(j+1):Int)),(AN 4),(NL 1 1),(NL 1 1),(AI N),(AN nb),(AP nb (bRw g)),(AN np),(AP np (bRw pl)),(AN K.1),(AP K.1 (iRw K)),(AN 1),(NL B.1 B.1),(AA B.1 (fun i_1=>[.p (.int .i64 (B.2 i_1))])),(AN 1),(NL R.1 R.1),(AA R.1 (fun i_1=>[.p (.int .i64 (R.2 i_1))]))]):=by kernel_rfl
theorem fme2 (g:Nat→T_Bar) (nb:Nat) (N:Int) (pl:Nat→T_Place) (np:Nat) (K:T_IntS) (B:T_IntS) (i:Nat) (R:T_IntS) (j:Nat) (m:Nat) (z:Nat→Int) :
    pathOb Tryz.prog Tryz.f154 0 [rg 1,.dec false,rm [(2,⟨true,(some ⟨[0],[7],[],1,[(0,tsF g nb N pl np K),(1,iOb m z)],.tup [.ar 1 1 0 m,.p (.bool true)]⟩),none⟩)] 5,rg 1,.dec true,rg 3] zf5 (Fm1 g nb N pl np K B i R j) [99] 1 [(0,iOb m z)] (.tup [.ar 1 0 0 m,.p (.bool true)]) =
    some [((decide ((↑j:Int)<(↑K.1:Int)))=false),(AE 1),(AN 1),(NL R.1 R.1),Con Tryz.prog 263 1 (zf27 N nb g np pl K) [.p (.seq true 1 R.1 (iRw R)),.pt 4 0 0 0] (zf19 N nb g np pl K m z) (.tup [.ar 1 1 0 m,.p (.bool true)]),(true=true),(AN 0),(AN m),(true=true),(AN 1),(NL m m),(AA m (fun i_1=>[.p (.int .i64 (z i_1))])),(AE m)]:=by kernel_rfl
theorem fmf2 (g:Nat→T_Bar) (nb:Nat) (N:Int) (pl:Nat→T_Place) (np:Nat) (K:T_IntS) (B:T_IntS) (i:Nat) (R:T_IntS) (j:Nat) (m:Nat) (z:Nat→Int) :
    pieceOb Tryz.prog 0 [rg 1,.dec false,rm [(2,⟨true,(some ⟨[0],[7],[],1,[(0,tsF g nb N pl np K),(1,iOb m z)],.tup [.ar 1 1 0 m,.p (.bool false)]⟩),none⟩)] 5,rg 1,.dec false,rg 2,.head] zf5 (Fm1 g nb N pl np K B i R j) [0,1] 1 (Fm0 g nb N pl np K B (i+1)) =
    some (zf38,[((decide ((↑j:Int)<(↑K.1:Int)))=false),(AE 1),(AN 1),(NL R.1 R.1),Con Tryz.prog 263 1 (zf27 N nb g np pl K) [.p (.seq true 1 R.1 (iRw R)),.pt 4 0 0 0] (zf19 N nb g np pl K m z) (.tup [.ar 1 1 0 m,.p (.bool false)]),(false=false),(ZLo ((↑i:Int)+1)),(ZHi ((↑i:Int)+1)),(AN 0),(AI ((↑K.1:Int))),(AN 0),(AN 0),(AN B.1),(AN K.1),(AP K.1 (iRw K)),(AI ((↑K.1:Int))),((((↑i:Int)+1):Int)=(↑(i+1):Int)),(AN 4),(NL 1 1),(NL 1 1),(AI N),(AN nb),(AP nb (bRw g)),(AN np),(AP np (bRw pl)),(AN K.1),(AP K.1 (iRw K)),(AN 1),(NL B.1 B.1),(AA B.1 (fun i_1=>[.p (.int .i64 (B.2 i_1))]))]):=by kernel_rfl
theorem fmg2 (g:Nat→T_Bar) (nb:Nat) (N:Int) (pl:Nat→T_Place) (np:Nat) (K:T_IntS) (B:T_IntS) (i:Nat) (b:Bool) (m:Nat) (z:Nat→Int) :
    pathOb Tryz.prog Tryz.f154 0 [rg 1,.dec false,rm [(2,⟨true,(some ⟨[0],[7],[],1,[(0,tsF g nb N pl np K),(1,iOb m z)],.tup [.ar 1 1 0 m,.p (.bool b)]⟩),none⟩)] 4] zf38 (Fm0 g nb N pl np K B i) [98] 1 [(0,iOb m z)] (.tup [.ar 1 0 0 m,.p (.bool b)]) =
    some [((decide ((↑i:Int)<(↑K.1:Int)))=false),(AE 1),(AN 1),(NL B.1 B.1),Con Tryz.prog 263 1 (zf27 N nb g np pl K) [.p (.seq true 1 B.1 (iRw B)),.pt 4 0 0 0] (zf19 N nb g np pl K m z) (.tup [.ar 1 1 0 m,.p (.bool b)]),(AN 0),(AN m),(b=b),(AN 1),(NL m m),(AA m (fun i_1=>[.p (.int .i64 (z i_1))])),(AE m)]:=by kernel_rfl
theorem fnn (g:Nat→T_Bar) (nb:Nat) (N:Int) (pl:Nat→T_Place) (np:Nat) (K:T_IntS) :
    pathOb Tryz.prog Tryz.f150 0 [rg 3,rm [(1,oc [] (.p (.bool false)))] 1,.dec true,rg 3] [.code (bodyOf Tryz.f150)] (start Tryz.f150 [] 0 [tsA g nb N pl np K]) [192] 1 [(0,iOb 0 (fun _=>0))] (.tup [.ar 1 0 0 0,.p (.bool false)]) =
    some [(NT 0 1),Con Tryz.prog 147 0 [] [(zf30 N nb g np pl K)] [] (.p (.bool false)),((!false)=true),(AN 0),(AN 0),(false=false),(AN 1),(NL 0 0),(AA 0 (fun i=>[.p (.int .i64 0)])),(AE 0)]:=by kernel_rfl
theorem fny (g:Nat→T_Bar) (nb:Nat) (N:Int) (pl:Nat→T_Place) (np:Nat) (K:T_IntS) (m:Nat) (z:Nat→Int) :
    pathOb Tryz.prog Tryz.f150 0 [rg 3,rm [(1,oc [] (.p (.bool true)))] 1,.dec false,rm [(2,oc [(0,iOb m z)] (.tup [.ar 1 0 0 m,.p (.bool true)]))] 5,rg 1,.dec true,rg 3] [.code (bodyOf Tryz.f150)] (start Tryz.f150 [] 0 [tsA g nb N pl np K]) [256] 1 [(0,iOb m z)] (.tup [.ar 1 0 0 m,.p (.bool true)]) =
    some [(NT 0 1),Con Tryz.prog 147 0 [] [(zf30 N nb g np pl K)] [] (.p (.bool true)),((!true)=false),(NT 0 1),Con Tryz.prog 125 0 [] [(zf44 N nb g np pl)] [(0,⟨false,1,m,(fun i=>[.p (.int .i64 (z i))])⟩)] (.tup [.ar 1 0 0 m,.p (.bool true)]),(true=true),(AN 0),(AN m),(true=true),(AN 1),(NL m m),(AA m (fun i=>[.p (.int .i64 (z i))])),(AE m)]:=by kernel_rfl
theorem fnz2 (g:Nat→T_Bar) (nb:Nat) (N:Int) (pl:Nat→T_Place) (np:Nat) (K:T_IntS) (m:Nat) (z:Nat→Int) :
    pieceOb Tryz.prog 0 [rg 3,rm [(1,oc [] (.p (.bool true)))] 1,.dec false,rm [(2,oc [(0,iOb m z)] (.tup [.ar 1 0 0 m,.p (.bool false)]))] 5,rg 1,.dec false,rg 2,rg 1,.head] [.code (bodyOf Tryz.f150)] (start Tryz.f150 [] 0 [tsA g nb N pl np K]) [0,480] 1 (Fn0 g nb N pl np K (0,fun _=>0) 0) =
    some (zf43,[(NT 0 1),Con Tryz.prog 147 0 [] [(zf30 N nb g np pl K)] [] (.p (.bool true)),((!true)=false),(NT 0 1),Con Tryz.prog 125 0 [] [(zf44 N nb g np pl)] [(0,⟨false,1,m,(fun i=>[.p (.int .i64 (z i))])⟩)] (.tup [.ar 1 0 0 m,.p (.bool false)]),(false=false),(AN 0),(AN 0),(AN 0),((0:Int)=(↑0:Int)),((([AV.p (PV.int IntKind.i64 N),brL g nb,pcL pl np,inL K].length):Nat)=4),(NL 1 1),(NL 1 1),(AI N),(AN nb),(AP nb (bRw g)),(AN np),(AP np (bRw pl)),(AN K.1),(AP K.1 (iRw K)),(AN 1),(NL 0 0),(∀ i:Nat,(((i:Nat)<0)→(All []∧(([.p (.int .i64 0)]:List AV)=[.p (.int .i64 ((0,fun x=>0).2 i))]))))]):=by kernel_rfl
theorem fna2 (g:Nat→T_Bar) (nb:Nat) (N:Int) (pl:Nat→T_Place) (np:Nat) (K:T_IntS) (B:T_IntS) (i:Nat) :
    pieceOb Tryz.prog 0 [rg 5,.dec true,rg 6,.dec true,rg 5,rg 3,.head] zf43 (Fn0 g nb N pl np K B i) [0,450] 1 (Fn0 g nb N pl np K (B.1+1,fun s=>if s<B.1 then B.2 s else (i:Int)) (i+1)) =
    some (zf43,[(NT 0 1),((decide ((↑i:Int)<(↑K.1:Int)))=true),(NT 0 1),(IL 0 (↑i:Int)),(IT (↑i:Int) (↑K.1:Int)),((K.2 i==0)=true),(NL 1 1),(NL B.1 B.1),(NL ((B.1+1)*8) 140737488355328),(NL (B.1+1) 9223372036854775807),(ZLo ((↑i:Int)+1)),(ZHi ((↑i:Int)+1)),(AN 0),(AN 0),(AN ((B.1+1))),((((↑i:Int)+1):Int)=(↑(i+1):Int)),(AN 4),(NL 1 1),(NL 1 1),(AI N),(AN nb),(AP nb (bRw g)),(AN np),(AP np (bRw pl)),(AN K.1),(AP K.1 (iRw K)),(AN 1),(NL (B.1+1) (B.1+1)),(CV [(450,⟨false,1,(B.1+1),(fun i_2=>(if (i_2<B.1) then [.p (.int .i64 (B.2 i_2))] else [.p (.int .i64 (↑i:Int))]))⟩),(418,⟨false,1,1,(fun i_2=>[.p (.int .i64 (↑i:Int))])⟩),(0,⟨true,4,1,(fun i_2=>[.p (.int .i64 N),.p (.seq true 2 nb (bRw g)),.p (.seq true 2 np (bRw pl)),.p (.seq true 1 K.1 (iRw K))])⟩)] [0,450] 1 (B.1+1) (fun i_1=>if (i_1<B.1) then [.p (.int .i64 (B.2 i_1))] else [.p (.int .i64 (↑i:Int))]) (fun i_1=>[.p (.int .i64 ((B.1+1,fun s=>if s<B.1 then B.2 s else (↑i:Int)).2 i_1))]))]):=by kernel_rfl
theorem fne2 (g:Nat→T_Bar) (nb:Nat) (N:Int) (pl:Nat→T_Place) (np:Nat) (K:T_IntS) (B:T_IntS) (i:Nat) (mb:Nat) (h:Nat→T_Bar) (n q:Nat) (V:Nat→Nat→Int) (m:Nat) (z:Nat→Int) :
    pathOb Tryz.prog Tryz.f150 0 [rg 5,.dec true,rg 6,.dec false,rm [(4,oc [(0,brOb mb h)] (zf124 N mb))] 6,rm [(6,oc [(0,ooOb 1 q (cM n V)),(1,ffOb q (cM n V))] (.ar 1 0 0 q)),(0,oq [898,899] [(2,iOb m z)] (.tup [.ar 1 2 0 m,.p (.bool true)]))] 5,rg 1,.dec true,rg 3] zf43 (Fn0 g nb N pl np K B i) [930] 1 [(0,iOb m z)] (.tup [.ar 1 0 0 m,.p (.bool true)]) =
    some [(NT 0 1),((decide ((↑i:Int)<(↑K.1:Int)))=true),(NT 0 1),(IL 0 (↑i:Int)),(IT (↑i:Int) (↑K.1:Int)),((K.2 i==0)=false),(NT 0 1),Con Tryz.prog 259 0 [] [(zf115 N nb g),.p (.int .i64 (↑i:Int))] (zf120 mb h) ((zf124 N mb)),(NT 0 1),((true=true)→ (AN 1)),(NT 0 1),(NT 0 1),(NT 0 1),(AN 2),(NL mb mb),Con Tryz.prog 230 0 [] [(zf36 N mb h np pl)] [(0,⟨false,1,q,(fun i_1=>[.ar 1 ⟨1,some i_1⟩ 0 n])⟩),(1,⟨true,0,q,(fun i_1=>[.p (.seq false 1 n (fun i_2=>[.int .i64 ((cM n V i_1).2 i_2)]))])⟩)] (.ar 1 0 0 q),(AE q),Con Tryz.prog 260 2 [(0,⟨false,1,q,(fun i_1=>[.ar 1 ⟨1,some i_1⟩ 0 n])⟩),(1,⟨true,0,q,(fun i_1=>[.p (.seq true 1 n (fun i_2=>[.int .i64 ((cM n V i_1).2 i_2)]))])⟩)] [(zf28 N nb g np pl K),.ar 1 0 0 q] [(2,⟨false,1,m,(fun i_1=>[.p (.int .i64 (z i_1))])⟩)] (.tup [.ar 1 2 0 m,.p (.bool true)]),(true=true),(AN 0),(AN m),(true=true),(AN 1),(NL m m),(AA m (fun i_1=>[.p (.int .i64 (z i_1))])),(AE m)]:=by kernel_rfl
theorem fnf2 (g:Nat→T_Bar) (nb:Nat) (N:Int) (pl:Nat→T_Place) (np:Nat) (K:T_IntS) (B:T_IntS) (i:Nat) (mb:Nat) (h:Nat→T_Bar) (n q:Nat) (V:Nat→Nat→Int) (m:Nat) (z:Nat→Int) :
    pieceOb Tryz.prog 0 [rg 5,.dec true,rg 6,.dec false,rm [(4,oc [(0,brOb mb h)] (zf124 N mb))] 6,rm [(6,oc [(0,ooOb 1 q (cM n V)),(1,ffOb q (cM n V))] (.ar 1 0 0 q)),(0,oq [898,899] [(2,iOb m z)] (.tup [.ar 1 2 0 m,.p (.bool false)]))] 5,rg 1,.dec false,rg 3,.head] zf43 (Fn0 g nb N pl np K B i) [0,1] 1 (Fn0 g nb N pl np K B (i+1)) =
    some (zf43,[(NT 0 1),((decide ((↑i:Int)<(↑K.1:Int)))=true),(NT 0 1),(IL 0 (↑i:Int)),(IT (↑i:Int) (↑K.1:Int)),((K.2 i==0)=false),(NT 0 1),Con Tryz.prog 259 0 [] [(zf115 N nb g),.p (.int .i64 (↑i:Int))] (zf120 mb h) ((zf124 N mb)),(NT 0 1),((true=true)→ (AN 1)),(NT 0 1),(NT 0 1),(NT 0 1),(AN 2),(NL mb mb),Con Tryz.prog 230 0 [] [(zf36 N mb h np pl)] [(0,⟨false,1,q,(fun i_1=>[.ar 1 ⟨1,some i_1⟩ 0 n])⟩),(1,⟨true,0,q,(fun i_1=>[.p (.seq false 1 n (fun i_2=>[.int .i64 ((cM n V i_1).2 i_2)]))])⟩)] (.ar 1 0 0 q),(AE q),Con Tryz.prog 260 2 [(0,⟨false,1,q,(fun i_1=>[.ar 1 ⟨1,some i_1⟩ 0 n])⟩),(1,⟨true,0,q,(fun i_1=>[.p (.seq true 1 n (fun i_2=>[.int .i64 ((cM n V i_1).2 i_2)]))])⟩)] [(zf28 N nb g np pl K),.ar 1 0 0 q] [(2,⟨false,1,m,(fun i_1=>[.p (.int .i64 (z i_1))])⟩)] (.tup [.ar 1 2 0 m,.p (.bool false)]),(false=false),(ZLo ((↑i:Int)+1)),(ZHi ((↑i:Int)+1)),(AN 0),(AN 0),(AN B.1),((((↑i:Int)+1):Int)=(↑(i+1):Int)),(AN 4),(NL 1 1),(NL 1 1),(AI N),(AN nb),(AP nb (bRw g)),(AN np),(AP np (bRw pl)),(AN K.1),(AP K.1 (iRw K)),(AN 1),(NL B.1 B.1),(AA B.1 (fun i_1=>[.p (.int .i64 (B.2 i_1))]))]):=by kernel_rfl
theorem fng2 (g:Nat→T_Bar) (nb:Nat) (N:Int) (pl:Nat→T_Place) (np:Nat) (K:T_IntS) (B:T_IntS) (i:Nat) (mb:Nat) (h:Nat→T_Bar) (n q:Nat) (V:Nat→Nat→Int) (m:Nat) (z:Nat→Int) (b:Bool) :
    pathOb Tryz.prog Tryz.f150 0 [rg 5,.dec false,rm [(5,oc [(0,brOb mb h)] (.agg [.p (.int .i64 N),.ar 2 0 0 mb])),(4,oc [(0,ooOb 1 q (cM n V)),(1,ffOb q (cM n V))] (.ar 1 0 0 q)),(0,oq [482,483] [(2,iOb m z)] (.tup [.ar 1 2 0 m,.p (.bool b)]))] 5,rg 4] zf43 (Fn0 g nb N pl np K B i) [514] 1 [(0,iOb m z)] (.tup [.ar 1 0 0 m,.p (.bool b)]) =
    some [(NT 0 1),((decide ((↑i:Int)<(↑K.1:Int)))=false),(NT 0 1),(NT 0 1),(AN 1),(NL B.1 B.1),Con Tryz.prog 56 0 [] [(zf115 N nb g),.p (.seq true 1 B.1 (iRw B))] (zf120 mb h) (.agg [.p (.int .i64 N),.ar 2 0 0 mb]),(NT 0 1),(AN 2),(NL mb mb),Con Tryz.prog 230 0 [] [(zf36 N mb h np pl)] [(0,⟨false,1,q,(fun i_1=>[.ar 1 ⟨1,some i_1⟩ 0 n])⟩),(1,⟨true,0,q,(fun i_1=>[.p (.seq false 1 n (fun i_2=>[.int .i64 ((cM n V i_1).2 i_2)]))])⟩)] (.ar 1 0 0 q),(AE q),Con Tryz.prog 260 2 [(0,⟨false,1,q,(fun i_1=>[.ar 1 ⟨1,some i_1⟩ 0 n])⟩),(1,⟨true,0,q,(fun i_1=>[.p (.seq true 1 n (fun i_2=>[.int .i64 ((cM n V i_1).2 i_2)]))])⟩)] [(zf28 N nb g np pl K),.ar 1 0 0 q] [(2,⟨false,1,m,(fun i_1=>[.p (.int .i64 (z i_1))])⟩)] (.tup [.ar 1 2 0 m,.p (.bool b)]),(AN 0),(AN m),(b=b),(AN 1),(NL m m),(AA m (fun i_1=>[.p (.int .i64 (z i_1))])),(AE m)]:=by kernel_rfl
noncomputable abbrev ltcE:List Item:=[.code (cAt (bodyOf Tryz.f263) [1,1,0,1,0,0,1,1,0,0,1,1,1,0]),.code (cAt (bodyOf Tryz.f263) [1,1,0,1,0,0,1,1,0,0,1,1,1,1]),.inBlock 1,.code (cAt (bodyOf Tryz.f263) [1,1,0,1,0,0,1,1,1]),.inLoop (cAt (bodyOf Tryz.f263) [1,1,0,1,0,0]),.inBlock 0,.code (cAt (bodyOf Tryz.f263) [1,1,1])]
end Go.Proofs.YtkkjoghiigiokaaGreat.Mach
namespace Go.Proofs.YtkkjoghiigiokaaGreat.Mach
open Go
set_option linter.unusedVariables false
set_option linter.unusedSimpArgs false
def beqB (x y:T_Bar):Bool:=(x.1==y.1)&&((x.2.1==y.2.1)&&true)
theorem beqB_eq {x y:T_Bar} (h:beqB x y=true):x=y:=by
  obtain ⟨a,b,⟨⟩⟩:=x
  obtain ⟨c,d,⟨⟩⟩:=y
  simp only [beqB,Bool.and_eq_true,beq_iff_eq] at h
  rw [h.1,h.2.1]
end Go.Proofs.YtkkjoghiigiokaaGreat.Mach
namespace Go.Proofs.YtkkjoghiigiokaaGreat.Mach
open Go
set_option linter.unusedVariables false
set_option linter.unusedSimpArgs false
def flt (p:Nat→Bool):Nat→T_IntS
  | 0=>(0,fun _=>0)
  | i+1=>if p i=true then ((flt p i).1+1,fun s=>if s<(flt p i).1 then (flt p i).2 s else i) else flt p i
theorem flt_n (p:Nat→Bool):∀ i,(flt p i).1≤i
  | 0=>Nat.le_refl _
  | i+1=>by
    have:=flt_n p i
    simp only [flt]
    split
    · show (flt p i).1+1≤i+1;omega
    · omega
theorem flt_t {p:Nat→Bool} {i:Nat} (h:p i=true):flt p (i+1)=((flt p i).1+1,fun s=>if s<(flt p i).1 then (flt p i).2 s else i):=by simp [flt,h]
theorem flt_f {p:Nat→Bool} {i:Nat} (h:p i=false):flt p (i+1)=flt p i:=by simp [flt,h]
end Go.Proofs.YtkkjoghiigiokaaGreat.Mach
namespace Go.Proofs.YtkkjoghiigiokaaGreat.Mach
open Go
set_option linter.unusedVariables false
set_option linter.unusedSimpArgs false
def Sel (g:Nat→T_Bar) (k m:Nat) (h:Nat→T_Bar):Prop:=m≤k∧∃ s:Nat→Nat,(∀ t,t<m→s t<k∧h t=g (s t))∧∀ t,t+1<m→s t<s (t+1)
theorem eB_false {g:Nat→T_Bar} {pl:Nat→T_Place} {i:Nat} (h:brP g pl i=true):eB g pl i=false:=by
  unfold brP at h
  cases h2:eB g pl i with
  | true=>rw [h2] at h;cases h3:(bif decide ((i:Int)>0) then eA g i else false)<;>rw [h3] at h<;>simp at h
  | false=>rfl
theorem bars_ne {g:Nat→T_Bar} {nb N:Nat} {pl:Nat→T_Place} {np:Nat} (hf:fwB g nb N pl np=true) {i j:Nat} (hij:i<j) (hj:j<nb):g i≠g j:=by
  obtain ⟨h1,h2,h3,h4,hok,hb⟩:=fw_ok hf
  intro e
  have:=hb.lt (j - i - 1) i (by omega)
  rw [show i+(j - i - 1+1)=j by omega] at this
  unfold gA gB at this
  rw [e] at this
  omega
theorem fwB_sel {g h:Nat→T_Bar} {nb m N:Nat} {pl:Nat→T_Place} {np:Nat} (hf:fwB g nb N pl np=true) (hs:Sel g nb m h):fwB h m N pl np=true:=by
  obtain ⟨hm,s,s1,s2⟩:=hs
  obtain ⟨h1,h2,h3,h4,hok,hb⟩:=fw_ok hf
  obtain ⟨hN,hnb,_⟩:=graph_in h1
  obtain ⟨p1,p2,p3,p4,p5,p6⟩:=fw_parts hf
  have ha:=asc_of h1
  have hg:isGraphF ((N:Int),(m,h),())=true:=by
    refine isG_of hN (by omega) (fun i hi=>?_) (fun t ht=>?_)
    · rw [(s1 i hi).2];exact hok (s i) (s1 i hi).1
    · rw [(s1 t (by omega)).2,(s1 (t+1) ht).2]
      exact asc_lt ha (s2 t ht) (s1 (t+1) ht).1
  have hpl:allB (plP pl) np=true:=by
    have h:=hf
    unfold fwB at h
    simp only [Bool.and_eq_true] at h
    exact h.2.1
  have hbr:allB (brP h pl) m=true:=by
    rw [all_iff]
    intro t ht
    have e2:=eB_false (p6 (s t) (s1 t ht).1)
    have e3:eB h pl t=false:=by unfold eB at e2 ⊢;rw [(s1 t ht).2];exact e2
    unfold brP
    rw [e3]
    by_cases h0:0<t
    · have e:((t:Int) - 1).toNat=t - 1:=by omega
      have hlt:s (t - 1)<s t:=by
        have:=s2 (t - 1) (by omega)
        rw [show t - 1+1=t by omega] at this
        exact this
      have hne:=bars_ne hf hlt (s1 t ht).1
      rw [← (s1 t ht).2,← (s1 (t - 1) (by omega)).2] at hne
      have e1:eA h t=false:=by
        unfold eA
        rw [e]
        cases hq:((h (t - 1)).1==(h t).1&&((h (t - 1)).2.1==(h t).2.1&&true)) with
        | false=>rfl
        | true=>exact absurd (beqB_eq hq) hne
      rw [e1]
      cases decide ((t:Int)>0)<;>rfl
    · rw [decide_eq_false (by omega)];rfl
  unfold fwB
  rw [hpl,hbr,show isG h m N=true from hg,decide_eq_true (by omega),decide_eq_true (by omega),decide_eq_true (by omega)]
  rfl
theorem dl_sel {g:Nat→T_Bar} {nb e:Nat} (he:e<nb):Sel g nb (nb - 1) (dlB g e):=by
  refine ⟨by omega,fun t=>if t<e then t else t+1,fun t ht=>?_,fun t ht=>?_⟩
  · unfold dlB
    by_cases h:t<e
    · simp only [if_pos h];exact ⟨by omega,trivial⟩
    · simp only [if_neg h];exact ⟨by omega,trivial⟩
  · dsimp only
    split<;>split<;>omega
theorem obF_snoc (S:T_IntS) (A:Nat→T_Bar):∀ d i (x:T_BarS),obF S A i (d+1) x=bif hasI S.2 ((i+d:Nat):Int) S.1 then ((obF S A i d x).1+1,snoc (obF S A i d x).1 (obF S A i d x).2 (A (i+d))) else obF S A i d x
  | 0,i,x=>rfl
  | d+1,i,x=>by
    rw [obF,obF_snoc S A d (i+1),show i+1+d=i+(d+1) by omega]
    rfl
theorem ob_sel (S:T_IntS) (A:Nat→T_Bar):∀ k,Sel A k (obF S A 0 k zB).1 (obF S A 0 k zB).2
  | 0=>⟨Nat.le_refl _,fun t=>t,fun t ht=>absurd ht (Nat.not_lt_zero _),fun t ht=>absurd ht (Nat.not_lt_zero _)⟩
  | k+1=>by
    obtain ⟨hm,s,s1,s2⟩:=ob_sel S A k
    rw [obF_snoc,Nat.zero_add]
    generalize obF S A 0 k zB=x at *
    cases hasI S.2 (k:Int) S.1 with
    | false =>
      exact ⟨by show x.1≤k+1;omega,s,fun t ht=>⟨by have:=(s1 t ht).1;omega,(s1 t ht).2⟩,s2⟩
    | true =>
      refine ⟨by show x.1+1≤k+1;omega,fun t=>if t<x.1 then s t else k,fun t ht=>?_,fun t ht=>?_⟩
      · have ht:t<x.1+1:=ht
        show (if t<x.1 then s t else k)<k+1∧snoc x.1 x.2 (A k) t=A (if t<x.1 then s t else k)
        by_cases h:t<x.1
        · have:=s1 t h
          rw [if_pos h]
          exact ⟨by omega,by rw [← this.2];simp [snoc,h]⟩
        · rw [if_neg h];exact ⟨by omega,by simp [snoc,h]⟩
      · have ht:t+1<x.1+1:=ht
        show (if t<x.1 then s t else k)<(if t+1<x.1 then s (t+1) else k)
        rw [if_pos (show t<x.1 by omega)]
        by_cases h:t+1<x.1
        · rw [if_pos h];exact s2 t h
        · rw [if_neg h];exact (s1 t (by omega)).1
theorem ob_skip {S:T_IntS} {A:Nat→T_Bar} {e nb:Nat} (he:e<nb) (hS:∀ j,j<nb→hasI S.2 (j:Int) S.1=!((j:Int)==(e:Int))) :
    ∀ k,k≤nb→(obF S A 0 k zB).1=(if k≤e then k else k - 1)∧∀ t,t<(obF S A 0 k zB).1→(obF S A 0 k zB).2 t=dlB A e t
  | 0,_=>⟨by rw [if_pos (Nat.zero_le _)];rfl,fun t ht=>absurd ht (Nat.not_lt_zero _)⟩
  | k+1,hk=>by
    obtain ⟨h1,h2⟩:=ob_skip he hS k (by omega)
    rw [obF_snoc,Nat.zero_add,hS k (by omega)]
    generalize obF S A 0 k zB=x at *
    by_cases hke:k=e
    · subst hke
      rw [show ((k:Int)==(k:Int))=true by simp]
      refine ⟨?_,h2⟩
      show x.1=_
      rw [h1,if_pos (Nat.le_refl _),if_neg (by omega)];omega
    · rw [show ((k:Int)==(e:Int))=false from beq_eq_false_iff_ne.2 (by omega)]
      refine ⟨?_,fun t ht=>?_⟩
      · show x.1+1=_
        rw [h1]
        by_cases h:k≤e
        · rw [if_pos h,if_pos (by omega)]
        · rw [if_neg h,if_neg (by omega)];omega
      · have ht:t<x.1+1:=ht
        show snoc x.1 x.2 (A k) t=_
        by_cases h:t<x.1
        · rw [← h2 t h];simp [snoc,h]
        · have htx:t=x.1:=by omega
          have:snoc x.1 x.2 (A k) t=A k:=by simp [snoc,h]
          rw [this]
          unfold dlB
          by_cases hle:k≤e
          · rw [if_pos hle] at h1
            rw [if_pos (by omega),htx,h1]
          · rw [if_neg hle] at h1
            rw [if_neg (by omega),htx,h1,show k - 1+1=k by omega]
noncomputable def plB (g:Nat→T_Bar) (nb:Nat) (N:Int) (pl:Nat→T_Place) (np:Nat) (K:T_IntS) (n:Nat) (v:Nat→Int):Bool:=bif alwB g nb N pl np K (n,v) then !tmB g nb N pl np (n,v) else false
def lsfQ (PL:(Nat→Int)→Bool) (n:Nat) (V:Nat→Nat→Int):Nat→Nat→Bool×T_IntS
  | 0,_=>(false,(0,fun _=>0))
  | e+1,i=>if PL (V i)=true then (true,(n,V i)) else if PL (fun s=>-(V i s))=true then (true,(n,fun s=>-(V i s))) else lsfQ PL n V e (i+1)
noncomputable def tryR (g:Nat→T_Bar) (nb N:Nat) (pl:Nat→T_Place) (np:Nat) (K:T_IntS) (m:Nat) (h:Nat→T_Bar):Bool×T_IntS :=
  lsfQ (plB g nb N pl np K (2*N)) (2*N) (moF h m N pl).2 (moF h m N pl).1 0
noncomputable def fgoF (g:Nat→T_Bar) (nb N:Nat) (pl:Nat→T_Place) (np:Nat) (K:T_IntS):Nat→Nat→Bool×T_IntS
  | 0,_=>tryR g nb N pl np K (obF (flt (kbF K) nb) g 0 nb zB).1 (obF (flt (kbF K) nb) g 0 nb zB).2
  | e+1,i=>if kbF K i=true then fgoF g nb N pl np K e (i+1) else if (tryR g nb N pl np K (nb - 1) (dlB g i)).1=true then (true,(tryR g nb N pl np K (nb - 1) (dlB g i)).2) else fgoF g nb N pl np K e (i+1)
noncomputable def flmF (g:Nat→T_Bar) (nb:Nat) (N:Int) (pl:Nat→T_Place) (np:Nat) (K:T_IntS):Bool×T_IntS :=
  if tsB g nb N pl np K=true then (if (fmF g nb N.toNat pl np).2=true then (true,(fmF g nb N.toNat pl np).1) else fgoF g nb N.toNat pl np K nb 0) else (false,(0,fun _=>0))
end Go.Proofs.YtkkjoghiigiokaaGreat.Mach
namespace Go.Proofs.YtkkjoghiigiokaaGreat.Mach
open Go
set_option linter.unusedVariables false
set_option linter.unusedSimpArgs false
def OBs (n:Int) (M:Nat) (A:Nat→T_Bar) (S:T_IntS) (i c:Nat) (h:Nat→T_Bar):St:=⟨[.p .any,inL S,.pt 2 0 0 0,.p .any,.pt 2 1 0 0,.pt 2 2 0 0,.p (.int .i64 i)]++List.replicate 25 anyA,[(0,⟨true,2,1,fun _=>[.p (.int .i64 n),brL A M]⟩),(1,z2),(2,gbx n 3 c),(3,brOb c h)],4⟩
theorem obz (n:Int) (M:Nat) (A:Nat→T_Bar) (S:T_IntS) :
    pieceOb Tryz.prog 0 [rg 2,rg 6,rg 1,.head] [.code (bodyOf Tryz.f56)] (start Tryz.f56 [] 0 [gaI n M A,inL S]) [0,32,192,128] 1 (OBs n M A S 0 0 (fun _=>(0,0,()))) =
    some (zf97,[(NT 0 1),(NT 0 1),((true=true)→ (AN 1)),(AN S.1),(AP S.1 (iRw S)),(AN 0),(AN 0),(AN 0),((0:Int)=(↑0:Int)),((([AV.p (PV.int IntKind.i64 n),brL A M].length):Nat)=2),(NL 1 1),(NL 1 1),(AI n),(AN M),(AP M (bRw A)),((((List.map (fun v=>AV.p (absV v)) [Value.int IntKind.i64 0,Value.slice none 0 0]).length):Nat)=2),(NL 1 1),(NL 1 1),(AI 0),((((List.map (fun v=>AV.p (absV v)) [Value.int IntKind.i64 0,Value.slice none 0 0]).length):Nat)=2),(NL 1 1),(NL 1 1),(AI n),(AN 0),(AN 0),(AN 2),(NL 0 0),(AA 0 (fun i=>[.p (.int .i64 0),.p (.int .i64 0)]))]):=by kernel_rfl
theorem obt (n:Int) (M:Nat) (A:Nat→T_Bar) (S:T_IntS) (i c:Nat) (h:Nat→T_Bar) :
    pieceOb Tryz.prog 0 [rg 5,.dec true,rm [(2,oc [] (.p (.bool true)))] 0,.dec true,rg 11,rg 3,.head] zf97 (OBs n M A S i c h) [0,1,2,516] 1 (OBs n M A S (i+1) (c+1) (snoc c h (A i))) =
    some (zf97,[(NT 0 1),((decide ((↑i:Int)<(↑M:Int)))=true),Con Tryz.prog 172 0 [] [.p (.seq true 1 S.1 (iRw S)),.p (.int .i64 (↑i:Int))] [] (.p (.bool true)),(true=true),(NT 0 1),(NT 0 1),(IL 0 (↑i:Int)),(IT (↑i:Int) (↑M:Int)),(NL 1 1),(NL c c),(NL ((c+1)*16) 140737488355328),(NL (c+1) 9223372036854775807),(NT 0 1),((true=true)→ (AN 1)),(ZLo ((↑i:Int)+1)),(ZHi ((↑i:Int)+1)),(AN S.1),(AP S.1 (iRw S)),(AN 0),(AN 0),(AN 0),((((↑i:Int)+1):Int)=(↑(i+1):Int)),(AN 2),(NL 1 1),(NL 1 1),(AI n),(AN M),(AP M (bRw A)),(AN 2),(NL 1 1),(NL 1 1),(AI 0),(AN 2),(NL 1 1),(NL 1 1),(AI n),(AN 0),(AN ((c+1))),(AN 2),(NL (c+1) (c+1)),(CV [(2,⟨true,2,1,(fun i_2=>[.p (.int .i64 n),.ar 2 516 0 (c+1)])⟩),(516,⟨false,2,(c+1),(fun i_2=>(if (i_2<c) then [.p (.int .i64 ((h i_2).1)),.p (.int .i64 ((h i_2).2.1))] else [.p (.int .i64 ((A i).1)),.p (.int .i64 ((A i).2.1))]))⟩),(484,⟨false,2,1,(fun i_2=>[.p (.int .i64 ((A i).1)),.p (.int .i64 ((A i).2.1))])⟩),(0,⟨true,2,1,(fun i_2=>[.p (.int .i64 n),.p (.seq true 2 M (bRw A))])⟩),(1,⟨true,2,1,(fun i_2=>[.p (.int .i64 0),.p (.nil)])⟩)] [0,1,2,516] 1 (c+1) (fun i_1=>if (i_1<c) then [.p (.int .i64 ((h i_1).1)),.p (.int .i64 ((h i_1).2.1))] else [.p (.int .i64 ((A i).1)),.p (.int .i64 ((A i).2.1))]) (fun i_1=>[.p (.int .i64 (if i_1<c then (h i_1).1 else (A i).1)),.p (.int .i64 (if i_1<c then (h i_1).2.1 else (A i).2.1))]))]):=by kernel_rfl
theorem obf (n:Int) (M:Nat) (A:Nat→T_Bar) (S:T_IntS) (i c:Nat) (h:Nat→T_Bar) :
    pieceOb Tryz.prog 0 [rg 5,.dec true,rm [(2,oc [] (.p (.bool false)))] 0,.dec false,rg 3,.head] zf97 (OBs n M A S i c h) [0,1,2,3] 1 (OBs n M A S (i+1) c h) =
    some (zf97,[(NT 0 1),((decide ((↑i:Int)<(↑M:Int)))=true),Con Tryz.prog 172 0 [] [.p (.seq true 1 S.1 (iRw S)),.p (.int .i64 (↑i:Int))] [] (.p (.bool false)),(false=false),(ZLo ((↑i:Int)+1)),(ZHi ((↑i:Int)+1)),(AN S.1),(AP S.1 (iRw S)),(AN 0),(AN 0),(AN 0),((((↑i:Int)+1):Int)=(↑(i+1):Int)),(AN 2),(NL 1 1),(NL 1 1),(AI n),(AN M),(AP M (bRw A)),(AN 2),(NL 1 1),(NL 1 1),(AI 0),(AN 2),(NL 1 1),(NL 1 1),(AI n),(AN 0),(AN c),(AN 2),(NL c c),(AA c (fun i_1=>[.p (.int .i64 ((h i_1).1)),.p (.int .i64 ((h i_1).2.1))]))]):=by kernel_rfl
theorem obe (n:Int) (M:Nat) (A:Nat→T_Bar) (S:T_IntS) (i c:Nat) (h:Nat→T_Bar) :
    pathOb Tryz.prog Tryz.f56 0 [rg 5,.dec false,rg 2] zf97 (OBs n M A S i c h) [3] 1 [(0,brOb c h)] (.agg [.p (.int .i64 n),.ar 2 0 0 c]) =
    some [(NT 0 1),((decide ((↑i:Int)<(↑M:Int)))=false),(NT 0 1),(NT 0 1),((true=true)→ (AN 1)),(NT 0 1),(AI n),(AN 0),(AN c),(AN 2),(NL c c),(AA c (fun i_1=>[.p (.int .i64 ((h i_1).1)),.p (.int .i64 ((h i_1).2.1))])),(AE c)]:=by kernel_rfl
theorem con_OnlyBars_s (n:Int) (M:Nat) (A:Nat→T_Bar) (S:T_IntS) (hM:M≤100) (hS:S.1≤1000) :
    Con Tryz.prog 56 0 [] [gaI n M A,inL S] [(0,brOb (obF S A 0 M zB).1 (obF S A 0 M zB).2)] (.agg [.p (.int .i64 n),.ar 2 0 0 (obF S A 0 M zB).1]):=by
  refine csZ Tryz.func56 (fun c hc=>?_)
  generalize hR:obF S A 0 M zB=R
  have lp:∀ d i cc f,i+d=M→cc≤i→obF S A i d (cc,f)=R→Run Tryz.prog c 56 zf97 (OBs n M A S i cc f) (Post c [(0,brOb R.1 R.2)] (.agg [.p (.int .i64 n),.ar 2 0 0 R.1])):=by
    intro d
    induction d with
    | zero =>
      intro i cc f hi hcc he
      have hd:decide ((i:Int)<(M:Int))=false:=by simp;omega
      rw [← he]
      refine pkZ Tryz.func56 hc (obe n M A S i cc f) ?_
      repeat' (first | exact aN | apply aI)
      all_goals (first | exact aA _ _ | exact aE _ | omega | rfl | (intros;first | assumption | exact trivial | rfl | exact fT ‹_›) | (exact hd) | (intro j hj;simp [All]))
    | succ d ih =>
      intro i cc f hi hcc he
      have hd:decide ((i:Int)<(M:Int))=true:=by simp;omega
      have hh:=con_l2Has S (i:Int) (by omega)
      rw [obF] at he
      cases hb:hasI S.2 i S.1 with
      | true =>
        rw [hb] at he hh
        refine pcZ hc (obt n M A S i cc f) ?_ (ih (i+1) (cc+1) _ (by omega) (by omega) he)
        repeat' (first | exact aN | apply aI)
        all_goals (first | exact aP _ _ | omega | rfl | (intros;first | assumption | exact trivial | rfl | exact fT ‹_›) | (exact hd) | (exact hh) | (intro j hj;by_cases h':j<cc<;>simp [h',snoc,cvtL,cvt,tg,tru,All]))
      | false =>
        rw [hb] at he hh
        refine pcZ hc (obf n M A S i cc f) ?_ (ih (i+1) cc _ (by omega) (by omega) he)
        repeat' (first | exact aN | apply aI)
        all_goals (first | exact aP _ _ | exact aA _ _ | omega | rfl | (intros;first | assumption | exact trivial | rfl) | (exact hd) | (exact hh) | (intro j hj;simp [All]))
  refine pcZ hc (obz n M A S) ?_ (lp M 0 0 _ (by omega) (by omega) hR)
  repeat' (first | exact aN | apply aI)
  all_goals (first | exact aP _ _ | exact aA _ _ | omega | rfl | (intros;first | assumption | exact trivial | rfl | exact fT ‹_›) | (simp;done) | (intro j hj;simp [All]))
end Go.Proofs.YtkkjoghiigiokaaGreat.Mach
namespace Go.Proofs.YtkkjoghiigiokaaGreat.Mach
open Go
set_option linter.unusedVariables false
set_option linter.unusedSimpArgs false
theorem fr_ext {P:Program} {f:FuncId} {H':Hp} {res:AV} {g h:Nat→T_Bar} {m:Nat} {N:Int} {pl:Nat→T_Place} {np:Nat} (hc:Con P f 0 [] [frA h m N pl np] H' res) (he:∀ i,i<m→g i=h i) :
    Con P f 0 [] [frA g m N pl np] H' res:=by
  refine hc.arg_ext ?_
  simp only [frA,brL,pcL,wkL,wk,wkP,beq_self_eq_true,Bool.and_self,if_true,ikEq,List.append_nil,List.cons_append,List.nil_append,All]
  and_intros<;>first | trivial | rfl | (intro i hi;trivial) | (intro i hi;rw [he i hi]) | (intro i hi;rfl)
theorem con_Loose19 {g:Nat→T_Bar} {nb:Nat} {N:Int} {pl:Nat→T_Place} {np:Nat} {K:T_IntS} {n q:Nat} {V:Nat→Nat→Int} (hn:nb≤1048576∧np≤1048576) (hK:K.1≤1048576) (hq:q≤1000∧n≤1000)
    (hV:∀ i,i<q→∀ j,j<n→-1073741824≤V i j∧V i j≤1073741824) :
    Con Tryz.prog 260 2 (loH n q V) [tsA g nb N pl np K,.ar 1 0 0 q]
      [(2,iOb (lsfQ (plB g nb N pl np K n) n V q 0).2.1 (lsfQ (plB g nb N pl np K n) n V q 0).2.2)] (.tup [.ar 1 2 0 (lsfQ (plB g nb N pl np K n) n V q 0).2.1,.p (.bool (lsfQ (plB g nb N pl np K n) n V q 0).1)]):=by
  refine csZ Tryz.func260 (fun c hc=>?_)
  generalize hR:lsfQ (plB g nb N pl np K n) n V q 0=R
  have lo:∀ d i,i+d=q→lsfQ (plB g nb N pl np K n) n V d i=R→Run Tryz.prog c 260 zf110 (Ll0 g nb N pl np K n q V i) (Post c [(2,iOb R.2.1 R.2.2)] (.tup [.ar 1 2 0 R.2.1,.p (.bool R.1)])):=by
    intro d
    induction d with
    | zero =>
      intro i hi hr
      have hd:decide ((i:Int)<(q:Int))=false:=decide_eq_false (by omega)
      rw [← hr,lsfQ]
      refine pkZ Tryz.func260 hc (lle g nb N pl np K n q V i) ?_
      repeat' (first | exact aN | apply aI)
      all_goals (first | exact aA _ _ | exact aE _ | omega | rfl | (intros;first | assumption | exact trivial | rfl) | (exact hd) | (intro t ht;exact absurd ht (Nat.not_lt_zero _)) | (intros;simp [All];done))
    | succ d ih =>
      intro i hi hr
      have hd:decide ((i:Int)<(q:Int))=true:=decide_eq_true (by omega)
      have c1:=con_PLoose_s g nb N pl np K (n,V i) hn hK (by show n≤_;omega)
      have c2:=con_PLoose_s g nb N pl np K (n,fun s=>-(V i s)) hn hK (by show n≤_;omega)
      change Con _ _ _ _ _ _ (.p (.bool (plB g nb N pl np K n (V i)))) at c1
      change Con _ _ _ _ _ _ (.p (.bool (plB g nb N pl np K n (fun s=>-(V i s))))) at c2
      rw [lsfQ] at hr
      cases h1:plB g nb N pl np K n (V i) with
      | true =>
        rw [h1] at c1
        rw [h1,if_pos rfl] at hr
        rw [← hr]
        refine pkZ Tryz.func260 hc (lly g nb N pl np K n q V i) ?_
        repeat' (first | exact aN | apply aI)
        all_goals (first | exact aE _ | omega | rfl | (intros;first | assumption | exact trivial | rfl) | (exact hd) | (exact c1) | (intros;simp [All,cM];done) | (simp only [All];first | exact aE _ | omega | rfl | (intros;first | assumption | exact trivial | rfl) | (exact hd) | (exact c1) | (intros;simp [All,cM];done)))
      | false =>
        rw [h1] at c1
        rw [h1,if_neg Bool.false_ne_true] at hr
        have li:∀ d k,k+d=n→Run Tryz.prog c 260 zf16 (Ll1 g nb N pl np K n q V i k) (Post c [(2,iOb R.2.1 R.2.2)] (.tup [.ar 1 2 0 R.2.1,.p (.bool R.1)])):=by
          intro e
          induction e with
          | zero =>
            intro k hk
            obtain rfl:k=n:=by omega
            have hd2:decide ((k:Int)<(k:Int))=false:=decide_eq_false (by omega)
            cases h2:plB g nb N pl np K k (fun s=>-(V i s)) with
            | true =>
              rw [h2] at c2
              rw [h2,if_pos rfl] at hr
              rw [← hr]
              refine pkZ Tryz.func260 hc (llc g nb N pl np K k q V i) ?_
              repeat' (first | exact aN | apply aI)
              all_goals (first | exact aA _ _ | exact aE _ | omega | rfl | (intros;first | assumption | exact trivial | rfl) | (exact hd2) | (exact c2) | (intros;simp [All];done))
            | false =>
              rw [h2] at c2
              rw [h2,if_neg Bool.false_ne_true] at hr
              refine pcZ hc (lld g nb N pl np K k q V i) ?_ (ih (i+1) (by omega) hr)
              repeat' (first | exact aN | apply aI)
              all_goals (first | exact aP _ _ | exact aA _ _ | omega | rfl | (intros;first | assumption | exact trivial | rfl) | (exact hd2) | (exact c2) | (intros;simp [All];done) | (simp only [All];first | exact aP _ _ | exact aA _ _ | omega | rfl | (intros;first | assumption | exact trivial | rfl) | (exact hd2) | (exact c2) | (intros;simp [All];done)))
          | succ e ihe =>
            intro k hk
            have hd2:decide ((k:Int)<(n:Int))=true:=decide_eq_true (by omega)
            have b1:=hV i (by omega) k (by omega)
            have e1:(cM n V i).2 k=V i k:=rfl
            refine pcZ hc (llb g nb N pl np K n q V i k) ?_ (ihe (k+1) (by omega))
            repeat' (first | exact aN | apply aI)
            all_goals (first | exact aP _ _ | exact aA _ _ | omega | rfl | (intros;first | assumption | exact trivial | rfl) | (exact hd2) | (rw [e1];omega) | (intro t ht;by_cases h1:t<k<;>by_cases h2:t=k<;>(simp [h1,h2,cvtL,cvt,tg,tru,All,cM]<;>omega)) | (intros;simp [All];done) | (simp only [All];first | exact aP _ _ | exact aA _ _ | omega | rfl | (intros;first | assumption | exact trivial | rfl) | (exact hd2) | (rw [e1];omega) | (intro t ht;by_cases h1:t<k<;>by_cases h2:t=k<;>(simp [h1,h2,cvtL,cvt,tg,tru,All,cM]<;>omega)) | (intros;simp [All];done)))
        refine pcZ hc (lla g nb N pl np K n q V i) ?_ (li n 0 (by omega))
        repeat' (first | exact aN | apply aI)
        all_goals (first | exact aP _ _ | exact aA _ _ | omega | rfl | (intros;first | assumption | exact trivial | rfl) | (exact hd) | (exact c1) | (intro t ht;exact absurd ht (Nat.not_lt_zero _)) | (intros;simp [All];done) | (simp only [All];first | exact aP _ _ | exact aA _ _ | omega | rfl | (intros;first | assumption | exact trivial | rfl) | (exact hd) | (exact c1) | (intro t ht;exact absurd ht (Nat.not_lt_zero _)) | (intros;simp [All];done)))
  refine pcZ hc (llz g nb N pl np K n q V) ?_ (lo q 0 (by omega) hR)
  repeat' (first | exact aN | apply aI)
  all_goals (first | exact aP _ _ | exact aA _ _ | omega | rfl | (intros;first | assumption | exact trivial | rfl) | (intros;simp [All];done) | (intro t ht;simp [All,famE];done) | (simp only [All];first | exact aP _ _ | exact aA _ _ | omega | rfl | (intros;first | assumption | exact trivial | rfl) | (intros;simp [All];done) | (intro t ht;simp [All,famE];done)))
theorem mo_small {g:Nat→T_Bar} {nb N:Nat} {pl:Nat→T_Place} {np:Nat} (hf:fwB g nb N pl np=true) {i:Nat} (hi:i<(moF g nb N pl).1) {j:Nat} (hj:j<2*N) :
    -1073741824≤(moF g nb N pl).2 i j∧(moF g nb N pl).2 i j≤1073741824:=(fw_ok hf).2.2.2.2.2.mo_small hi hj
theorem ngA_at (V:Nat→Nat→Int) (i:Nat):ngA V i i=V i:=by
  funext s;unfold ngA;rw [if_neg (Nat.lt_irrefl _)]
theorem ngA_next (V:Nat→Nat→Int) (i:Nat):ngA V (i+1) i=fun s=>-(V i s):=by
  funext s;unfold ngA;rw [if_pos (Nat.lt_succ_self _)]
theorem con_TryC {g:Nat→T_Bar} {nb N:Nat} {pl:Nat→T_Place} {np:Nat} {K:T_IntS} (hf:fwB g nb N pl np=true) (hK:K.1≤1048576) (S:T_IntS) (hS:S.1≤1000) {m:Nat} {h:Nat→T_Bar}
    (hm:(obF S g 0 nb zB).1=m) (he:∀ t,t<m→(obF S g 0 nb zB).2 t=h t) (hs:Sel g nb m h) :
    Con Tryz.prog 263 1 [(0,tsF g nb N pl np K)] [inL S,.pt 4 0 0 0]
      [(0,tsF g nb N pl np K),(1,iOb (tryR g nb N pl np K m h).2.1 (tryR g nb N pl np K m h).2.2)] (.tup [.ar 1 1 0 (tryR g nb N pl np K m h).2.1,.p (.bool (tryR g nb N pl np K m h).1)]):=by
  obtain ⟨h1,h2,h3,h4,hok,hb⟩:=fw_ok hf
  have hfh:=fwB_sel hf hs
  have co:=con_OnlyBars (N:Int) nb g S (by omega) hS
  have cm:=fr_ext (con_Motions hfh).1 (g:=(obF S g 0 nb zB).2) he
  rw [hm] at co
  have hsm:∀ i,i<(moF h m N pl).1→∀ j,j<2*N→-1073741824≤(moF h m N pl).2 i j∧(moF h m N pl).2 i j≤1073741824:=fun i hi j hj=>mo_small hfh hi hj
  have hql:=moF_le h m N pl
  unfold tryR
  generalize (obF S g 0 nb zB).2=hh at *
  generalize (moF h m N pl).2=V at *
  generalize (moF h m N pl).1=q at *
  refine csZ Tryz.func263 (fun c hc=>?_)
  generalize hR:lsfQ (plB g nb N pl np K (2*N)) (2*N) V q 0=R
  have lo:∀ d i,i+d=q→lsfQ (plB g nb N pl np K (2*N)) (2*N) V d i=R→Run Tryz.prog c 263 zf88 (Lt0c g nb N pl np K (2*N) q V i)
      (Post c [(0,tsF g nb N pl np K),(1,iOb R.2.1 R.2.2)] (.tup [.ar 1 1 0 R.2.1,.p (.bool R.1)])):=by
    intro d
    induction d with
    | zero =>
      intro i hi hr
      have hd:decide ((i:Int)<(q:Int))=false:=decide_eq_false (by omega)
      rw [← hr,lsfQ]
      refine pkZ Tryz.func263 hc (lte1 g nb N pl np K (2*N) q V i) ?_
      repeat' (first | exact aN | apply aI)
      all_goals (first | exact aP _ _ | exact aA _ _ | exact aE _ | omega | rfl | (intros;first | assumption | exact trivial | rfl) | (exact hd) | (intro t ht;exact absurd ht (Nat.not_lt_zero _)) | (intros;simp [All];done) | (simp only [All];first | exact aP _ _ | exact aA _ _ | exact aE _ | omega | rfl | (intros;first | assumption | exact trivial | rfl) | (exact hd) | (intro t ht;exact absurd ht (Nat.not_lt_zero _)) | (intros;simp [All];done)))
    | succ d ih =>
      intro i hi hr
      have hd:decide ((i:Int)<(q:Int))=true:=decide_eq_true (by omega)
      have c1:=con_PLoose_i g nb N pl np K (2*N,ngA V i i) (by omega) hK (by show 2*N≤_;omega)
      have c2:=con_PLoose_i g nb N pl np K (2*N,ngA V (i+1) i) (by omega) hK (by show 2*N≤_;omega)
      change Con _ _ _ _ _ _ (.p (.bool (plB g nb N pl np K (2*N) (ngA V i i)))) at c1
      change Con _ _ _ _ _ _ (.p (.bool (plB g nb N pl np K (2*N) (ngA V (i+1) i)))) at c2
      rw [lsfQ] at hr
      cases h1:plB g nb N pl np K (2*N) (V i) with
      | true =>
        rw [ngA_at,h1,← ngA_at V i] at c1
        rw [h1,if_pos rfl] at hr
        rw [← hr]
        refine pkZ Tryz.func263 hc (lty1 g nb N pl np K (2*N) q V i (V i)) ?_
        repeat' (first | exact aN | apply aI)
        all_goals (first | exact aP _ _ | exact aE _ | omega | rfl | (intros;first | assumption | exact trivial | rfl) | (exact hd) | (exact c1) | (intro t ht;simp [All,cM,ngA];done) | (intros;simp [All];done) | (simp only [All];first | exact aP _ _ | exact aE _ | omega | rfl | (intros;first | assumption | exact trivial | rfl) | (exact hd) | (exact c1) | (intro t ht;simp [All,cM,ngA];done) | (intros;simp [All];done)))
      | false =>
        rw [ngA_at,h1,← ngA_at V i] at c1
        rw [h1,if_neg Bool.false_ne_true] at hr
        have fin:Run Tryz.prog c 263 ltcE (Lt2c g nb N pl np K (2*N) q V i) (Post c [(0,tsF g nb N pl np K),(1,iOb R.2.1 R.2.2)] (.tup [.ar 1 1 0 R.2.1,.p (.bool R.1)])):=by
          cases h2:plB g nb N pl np K (2*N) (fun s=>-(V i s)) with
          | true =>
            rw [ngA_next,h2,← ngA_next V i] at c2
            rw [h2,if_pos rfl] at hr
            rw [← hr]
            refine pkZ Tryz.func263 hc (ltd1 g nb N pl np K (2*N) q V i (fun s=>-(V i s))) ?_
            repeat' (first | exact aN | apply aI)
            all_goals (first | exact aP _ _ | exact aE _ | omega | rfl | (intros;first | assumption | exact trivial | rfl) | (exact c2) | (intro t ht;simp [All,cM,ngA];done) | (intros;simp [All];done) | (simp only [All];first | exact aP _ _ | exact aE _ | omega | rfl | (intros;first | assumption | exact trivial | rfl) | (exact c2) | (intro t ht;simp [All,cM,ngA];done) | (intros;simp [All];done)))
          | false =>
            rw [ngA_next,h2,← ngA_next V i] at c2
            rw [h2,if_neg Bool.false_ne_true] at hr
            refine pcZ hc (ltf1 g nb N pl np K (2*N) q V i) ?_ (ih (i+1) (by omega) hr)
            repeat' (first | exact aN | apply aI)
            all_goals (first | exact aP _ _ | exact aA _ _ | omega | rfl | (intros;first | assumption | exact trivial | rfl) | (exact c2) | (intros;simp [All];done) | (simp only [All];first | exact aP _ _ | exact aA _ _ | omega | rfl | (intros;first | assumption | exact trivial | rfl) | (exact c2) | (intros;simp [All];done)))
        have li:∀ d k,k+d=2*N→Run Tryz.prog c 263 zf12 (Lt1c g nb N pl np K (2*N) q V i k) (Post c [(0,tsF g nb N pl np K),(1,iOb R.2.1 R.2.2)] (.tup [.ar 1 1 0 R.2.1,.p (.bool R.1)])):=by
          intro e
          induction e with
          | zero =>
            intro k hk
            obtain rfl:k=2*N:=by omega
            have hd2:decide (((2*N:Nat):Int)<((2*N:Nat):Int))=false:=decide_eq_false (by omega)
            refine pcZ hc (ltc1 g nb N pl np K (2*N) q V i) ?_ fin
            repeat' (first | exact aN | apply aI)
            all_goals (first | exact aP _ _ | exact aA _ _ | omega | rfl | (intros;first | assumption | exact trivial | rfl) | (exact hd2) | (intro a ha;simp only [All,cM];refine ⟨trivial,Nat.le_refl _,fun s hs=>?_,trivial⟩;unfold ngM ngA;by_cases q1:a<i<;>by_cases q2:a=i<;>by_cases q3:a<i+1<;>(simp [q1,q2,q3,hs]<;>omega)) | (intros;simp [All];done) | (simp only [All];first | exact aP _ _ | exact aA _ _ | omega | rfl | (intros;first | assumption | exact trivial | rfl) | (exact hd2) | (intro a ha;simp only [All,cM];refine ⟨trivial,Nat.le_refl _,fun s hs=>?_,trivial⟩;unfold ngM ngA;by_cases q1:a<i<;>by_cases q2:a=i<;>by_cases q3:a<i+1<;>(simp [q1,q2,q3,hs]<;>omega)) | (intros;simp [All];done)))
          | succ e ihe =>
            intro k hk
            have hd2:decide ((k:Int)<((2*N:Nat):Int))=true:=decide_eq_true (by omega)
            have b1:=hsm i (by omega) k (by omega)
            have e1:(cM (2*N) (ngM V i k) i).2 k=V i k:=by
              show ngM V i k i k=V i k
              unfold ngM;rw [if_neg (Nat.lt_irrefl _),if_pos rfl,if_neg (Nat.lt_irrefl _)]
            refine pcZ hc (ltb1 g nb N pl np K (2*N) q V i k) ?_ (ihe (k+1) (by omega))
            repeat' (first | exact aN | apply aI)
            all_goals (first | exact aP _ _ | exact aA _ _ | omega | rfl | (intros;first | assumption | exact trivial | rfl | exact fT ‹_›) | (exact hd2) | (rw [e1];omega) | (intro a ha;by_cases q2:a=i<;>(simp only [q2,if_true,if_false,famE,All];refine ⟨trivial,Nat.le_refl _,fun s hs=>?_,trivial⟩;by_cases q3:s=k<;>by_cases q4:s<k<;>by_cases q5:s<k+1<;>by_cases q1:a<i<;>(simp [q1,q2,q3,q4,q5,toP,cM,ngM]<;>omega))) | (intros;simp [All];done))
        refine pcZ hc (lta1 g nb N pl np K (2*N) q V i) ?_ (li (2*N) 0 (by omega))
        repeat' (first | exact aN | apply aI)
        all_goals (first | exact aP _ _ | exact aA _ _ | omega | rfl | (intros;first | assumption | exact trivial | rfl) | (exact hd) | (exact c1) | (intro a ha;simp only [All,cM];refine ⟨trivial,Nat.le_refl _,fun s hs=>?_,trivial⟩;unfold ngM ngA;by_cases q1:a<i<;>by_cases q2:a=i<;>(simp [q1,q2]<;>omega)) | (intros;simp [All];done) | (simp only [All];first | exact aP _ _ | exact aA _ _ | omega | rfl | (intros;first | assumption | exact trivial | rfl) | (exact hd) | (exact c1) | (intro a ha;simp only [All,cM];refine ⟨trivial,Nat.le_refl _,fun s hs=>?_,trivial⟩;unfold ngM ngA;by_cases q1:a<i<;>by_cases q2:a=i<;>(simp [q1,q2]<;>omega)) | (intros;simp [All];done)))
  refine pcZ hc (ltz1 g nb N pl np K S hh m (2*N) q V) ?_ (lo q 0 (by omega) hR)
  repeat' (first | exact aN | apply aI)
  all_goals (first | exact aP _ _ | exact aA _ _ | omega | rfl | (intros;first | assumption | exact trivial | rfl | exact fT ‹_›) | (exact co) | (exact cm) | (intro a ha;simp only [All,cM];refine ⟨trivial,Nat.le_refl _,fun s hs=>?_,trivial⟩;simp [ngA];done) | (intros;simp [All];done) | (simp only [All];first | exact aP _ _ | exact aA _ _ | omega | rfl | (intros;first | assumption | exact trivial | rfl | exact fT ‹_›) | (exact co) | (exact cm) | (intro a ha;simp only [All,cM];refine ⟨trivial,Nat.le_refl _,fun s hs=>?_,trivial⟩;simp [ngA];done) | (intros;simp [All];done)))
end Go.Proofs.YtkkjoghiigiokaaGreat.Mach
namespace Go.Proofs.YtkkjoghiigiokaaGreat.Mach
open Go
set_option linter.unusedVariables false
set_option linter.unusedSimpArgs false
theorem hasI_cong {g h:Nat→Int} {x:Int}:∀ {n:Nat},(∀ i,i<n→g i=h i)→hasI g x n=hasI h x n
  | 0,_=>rfl
  | n+1,H=>by rw [hasI,hasI,hasI_cong (fun i hi=>H i (by omega)),H n (by omega)]
theorem flt_has (p:Nat→Bool) (e:Nat):∀ n,hasI (flt p n).2 (e:Int) (flt p n).1=(decide (e<n)&&p e)
  | 0=>by simp [flt,hasI]
  | n+1=>by
    have h:=flt_has p e n
    cases hp:p n with
    | true =>
      rw [flt_t hp]
      show (hasI (fun s=>if s<(flt p n).1 then (flt p n).2 s else (n:Int)) (e:Int) (flt p n).1||(if (flt p n).1<(flt p n).1 then (flt p n).2 (flt p n).1 else (n:Int))==(e:Int))=_
      rw [hasI_cong (h:=(flt p n).2) (fun i hi=>if_pos hi),h,if_neg (Nat.lt_irrefl _)]
      by_cases he:e=n
      · subst he;simp [hp]
      · have h1:((n:Int)==(e:Int))=false:=beq_eq_false_iff_ne.2 (by omega)
        rw [h1,Bool.or_false]
        by_cases h2:e<n
        · rw [decide_eq_true h2,decide_eq_true (show e<n+1 by omega)]
        · rw [decide_eq_false h2,decide_eq_false (show ¬ e<n+1 by omega)]
    | false =>
      rw [flt_f hp,h]
      by_cases he:e=n
      · subst he;simp [hp]
      · by_cases h2:e<n
        · rw [decide_eq_true h2,decide_eq_true (show e<n+1 by omega)]
        · rw [decide_eq_false h2,decide_eq_false (show ¬ e<n+1 by omega)]
end Go.Proofs.YtkkjoghiigiokaaGreat.Mach
