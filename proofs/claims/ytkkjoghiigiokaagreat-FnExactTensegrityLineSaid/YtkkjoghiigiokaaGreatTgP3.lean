/- What the law Tg needs, part 3 of 6: the abstract machine and the contracts of the functions. Conditions: as each theorem says. -/
import Derived.Shelf.SlLaysF0
import Derived.Shelf.SlGeneric
import Derived.Shelf.SlSortCmp.InsertionK
import Derived.Ground.SlsfProg
import Derived.Laws.Strings
import Derived.Test.YtkkjoghiigiokaaGreatTgP2
namespace Go.Proofs.YtkkjoghiigiokaaGreat.Mach
open Go
set_option linter.unusedVariables false
set_option linter.unusedSimpArgs false
def GcI (x y:Int):St:=⟨[.p (.int .i64 x),.p (.int .i64 y)]++List.replicate 24 anyA,[],0⟩
def GcS (x y:Int):St:=⟨[.p (.int .i64 x),.p (.int .i64 y)]++List.replicate 28 anyA,[],0⟩
def pdv (v:Nat→Int) (s:Int) (k j:Nat):Int:=if j<k then (v j).tdiv s else v j
def PvI (n:Nat) (v:Nat→Int) (g f:Int) (i:Nat):St :=
  ⟨[inD n v,.p .any,.p .any,.ar 1 0 0 n,.p (.int .i64 g),.p (.int .i64 f)]++List.replicate 5 anyA++[inD n v,.p (.int .i64 n),.p (.int .i64 i)]++List.replicate 36 anyA,[(0,iOb n v)],1⟩
def PdI (n:Nat) (v:Nat→Int) (s:Int) (k:Nat):St :=
  ⟨[.p .any,.p .any,.p .any,.ar 1 0 0 n,.p (.int .i64 s)]++List.replicate 30 anyA++[.p (.int .i64 n),.p (.int .i64 k)]++List.replicate 13 anyA,[(0,iOb n (pdv v s k))],1⟩
def PvS (n:Nat) (v:Nat→Int) (g:Int) (i:Nat):St:=⟨[inD n v,.p .any,.p .any,.p (.int .i64 g),.p (.int .i64 i)]++List.replicate 63 anyA,[],0⟩
def PfS (n:Nat) (v:Nat→Int) (g f:Int) (i:Nat):St:=⟨[inD n v,.p .any,.p .any,.p (.int .i64 g),.p .any,.p (.int .i64 f),.p (.int .i64 i)]++List.replicate 61 anyA,[],0⟩
def PdS (n:Nat) (v:Nat→Int) (s:Int) (i:Nat) (h:Nat→Int):St:=⟨[inD n v,.p .any,.p .any,.p (.int .i64 s),.p .any,.p .any,.p .any,.ar 1 0 0 i,.p (.int .i64 i)]++List.replicate 59 anyA,[(0,iOb i h)],1⟩
theorem igR (x:Int) :
    pathOb Tryz.prog Tryz.f395 0 [rg 1,rg 7] [.code (bodyOf Tryz.f395)] (start Tryz.f395 [] 0 [.p (.int .i64 x)]) [] 1 [] (.p (.bool false)) =
    some [(AG (!decide (x>9000000000000000000))),(((decide (x>9000000000000000000))=false)→ ((!decide (x>9000000000000000000))=true)),((bif decide (x>9000000000000000000) then true else decide (x < -9000000000000000000))=false)]:=by kernel_rfl
theorem gcz (a b:Int) :
    pieceOb Tryz.prog 0 [rg 1,rm [(1,oc [] (.p (.bool false))),(2,oc [] (.p (.bool false)))] 1,.dec false,rg 10,.head] [.code (bodyOf Tryz.f396)] (start Tryz.f396 [] 0 [.p (.int .i64 a),.p (.int .i64 b)]) [] 1 (GcI (a.natAbs:Int) (b.natAbs:Int)) =
    some (zf65,[Con Tryz.prog 395 0 [] [.p (.int .i64 a)] [] (.p (.bool false)),(AG (!false)),(((!false)=true)→ Con Tryz.prog 395 0 [] [.p (.int .i64 b)] [] (.p (.bool false))),((false=false)→ ((!false)=true)),((bif false then true else false)=false),(ZLo (0 - a)),(ZHi (0 - a)),(ZLo (0 - b)),(ZHi (0 - b)),(((if true=true then if 0 - a>a then 0 - a else a else if 0 - a<a then 0 - a else a):Int)=(↑a.natAbs:Int)),(((if true=true then if 0 - b>b then 0 - b else b else if 0 - b<b then 0 - b else b):Int)=(↑b.natAbs:Int))]):=by kernel_rfl
theorem gct (x y:Int) :
    pieceOb Tryz.prog 0 [rg 2,.dec true,rg 6,.head] zf65 (GcI x y) [] 1 (GcI y (x % y)) =
    some (zf65,[((y != 0)=true),(IL 0 x),(IT 0 y),(AI y),(AI ((x % y)))]):=by kernel_rfl
theorem gce (x y:Int) :
    pathOb Tryz.prog Tryz.f396 0 [rg 2,.dec false,rg 2] zf65 (GcI x y) [] 1 [] (.p (.int .i64 x)) =
    some [((y != 0)=false),(AI x)]:=by kernel_rfl
theorem gsz (a b:Int) :
    pieceOb Tryz.prog 0 [rg 1,rm [(1,oc [] (.p (.bool true))),(3,oc [] (.p (.bool true)))] 2,.dec false,rg 5,rg 5,.head] [.code (bodyOf Tryz.f354)] (start Tryz.f354 [] 0 [.p (.int .i64 a),.p (.int .i64 b)]) [] 1 (GcS (a.natAbs:Int) (b.natAbs:Int)) =
    some (zf51,[Con Tryz.prog 167 0 [] [.p (.int .i64 a),.p (.int .i64 (-9000000000000000000)),.p (.int .i64 9000000000000000000)] [] (.p (.bool true)),(AG (!!true)),(((!!true)=true)→ Con Tryz.prog 167 0 [] [.p (.int .i64 b),.p (.int .i64 (-9000000000000000000)),.p (.int .i64 9000000000000000000)] [] (.p (.bool true))),(AG (!!true)),(((!true)=false)→ ((!!true)=true)),((bif !true then true else !true)=false),(ZLo (0 - a)),(ZHi (0 - a)),(ZLo (0 - b)),(ZHi (0 - b)),(((if true=true then if 0 - a>a then 0 - a else a else if 0 - a<a then 0 - a else a):Int)=(↑a.natAbs:Int)),(((if true=true then if 0 - b>b then 0 - b else b else if 0 - b<b then 0 - b else b):Int)=(↑b.natAbs:Int))]):=by kernel_rfl
theorem gst (x y:Int) :
    pieceOb Tryz.prog 0 [rg 2,.dec true,rg 4,rg 2,rg 2,.head] zf51 (GcS x y) [] 1 (GcS y (x % y)) =
    some (zf51,[((decide (y>0))=true),(IL 0 x),(IT 0 y),(AI y),(AI ((x % y)))]):=by kernel_rfl
theorem gse (x y:Int) :
    pathOb Tryz.prog Tryz.f354 0 [rg 2,.dec false,rg 2] zf51 (GcS x y) [] 1 [] (.p (.int .i64 x)) =
    some [((decide (y>0))=false),(AI x)]:=by kernel_rfl
theorem pvz (n:Nat) (v:Nat→Int) :
    pieceOb Tryz.prog 0 [rg 1,rm [(1,oc [(0,iOb n v)] (.ar 1 0 0 n))] 1,rg 2,rg 3,.head] [.code (bodyOf Tryz.f356)] (start Tryz.f356 [] 0 [inD n v]) [64] 1 (PvI n v 0 0 0) =
    some (zf53,[Con Tryz.prog 165 0 [] [.p (.seq true 1 n (fun i=>[.int .i64 (v i)]))] [(0,⟨false,1,n,(fun i=>[.p (.int .i64 (v i))])⟩)] (.ar 1 0 0 n),(AN n),(AP n (fun i=>[.int .i64 (v i)])),(AN 0),(AN n),(AI 0),(AI 0),(AN n),(AP n (fun i=>[.int .i64 (v i)])),(AI ((↑n:Int))),((0:Int)=(↑0:Int)),(AN 1),(NL n n),(AA n (fun i=>[.p (.int .i64 (v i))]))]):=by kernel_rfl
theorem pvt (n:Nat) (v:Nat→Int) (g g' f:Int) (i:Nat) :
    pieceOb Tryz.prog 0 [rg 1,.dec true,rg 3,rm [(1,oc [] (.p (.bool false)))] 0,.dec false,rm [(2,oc [] (.p (.int .i64 g')))] 1,rg 2,.dec true,rg 2,rg 2,.head] zf53 (PvI n v g f i) [0] 1 (PvI n v g' (v i) (i+1)) =
    some (zf53,[((decide ((↑i:Int)<(↑n:Int)))=true),(IL 0 (↑i:Int)),(IT (↑i:Int) (↑n:Int)),Con Tryz.prog 395 0 [] [.p (.int .i64 (v i))] [] (.p (.bool false)),(false=false),Con Tryz.prog 396 0 [] [.p (.int .i64 g),.p (.int .i64 (v i))] [] (.p (.int .i64 g')),((f==0)=true),(ZLo ((↑i:Int)+1)),(ZHi ((↑i:Int)+1)),(AN n),(AP n (fun i_1=>[.int .i64 (v i_1)])),(AN 0),(AN n),(AI (g')),(AI ((v i))),(AN n),(AP n (fun i_1=>[.int .i64 (v i_1)])),(AI ((↑n:Int))),((((↑i:Int)+1):Int)=(↑(i+1):Int)),(AN 1),(NL n n),(AA n (fun i_1=>[.p (.int .i64 (v i_1))]))]):=by kernel_rfl
theorem pvf (n:Nat) (v:Nat→Int) (g g' f:Int) (i:Nat) :
    pieceOb Tryz.prog 0 [rg 1,.dec true,rg 3,rm [(1,oc [] (.p (.bool false)))] 0,.dec false,rm [(2,oc [] (.p (.int .i64 g')))] 1,rg 2,.dec false,rg 2,.head] zf53 (PvI n v g f i) [0] 1 (PvI n v g' f (i+1)) =
    some (zf53,[((decide ((↑i:Int)<(↑n:Int)))=true),(IL 0 (↑i:Int)),(IT (↑i:Int) (↑n:Int)),Con Tryz.prog 395 0 [] [.p (.int .i64 (v i))] [] (.p (.bool false)),(false=false),Con Tryz.prog 396 0 [] [.p (.int .i64 g),.p (.int .i64 (v i))] [] (.p (.int .i64 g')),((f==0)=false),(ZLo ((↑i:Int)+1)),(ZHi ((↑i:Int)+1)),(AN n),(AP n (fun i_1=>[.int .i64 (v i_1)])),(AN 0),(AN n),(AI (g')),(AI f),(AN n),(AP n (fun i_1=>[.int .i64 (v i_1)])),(AI ((↑n:Int))),((((↑i:Int)+1):Int)=(↑(i+1):Int)),(AN 1),(NL n n),(AA n (fun i_1=>[.p (.int .i64 (v i_1))]))]):=by kernel_rfl
theorem pv0 (n:Nat) (v r:Nat→Int) (g f:Int) (i:Nat) :
    pathOb Tryz.prog Tryz.f356 0 [rg 1,.dec false,rg 2,.dec true,rg 2] zf53 (PvI n v g f i) [0] 1 [(0,iOb n r)] (.ar 1 0 0 n) =
    some [((decide ((↑i:Int)<(↑n:Int)))=false),((g==0)=true),(AN 0),(AN n),(AN 1),(NL n n),(∀ i_1:Nat,(((i_1:Nat)<n)→(All []∧(([.p (.int .i64 (v i_1))]:List AV)=[.p (.int .i64 (r i_1))])))),(AE n)]:=by kernel_rfl
theorem pv1 (n:Nat) (v:Nat→Int) (g f:Int) (i:Nat) :
    pieceOb Tryz.prog 0 [rg 1,.dec false,rg 2,.dec false,rg 2,.dec true,rg 3,rg 3,.head] zf53 (PvI n v g f i) [0] 1 (PdI n v (-g) 0) =
    some (zf35,[((decide ((↑i:Int)<(↑n:Int)))=false),((g==0)=false),((decide (f<0))=true),(ZLo (0 - g)),(ZHi (0 - g)),(AN 0),(AN n),(((0 - g):Int)=(-g)),(AI ((↑n:Int))),((0:Int)=(↑0:Int)),(AN 1),(NL n n),(∀ i_1:Nat,(((i_1:Nat)<n)→(All []∧(([.p (.int .i64 (v i_1))]:List AV)=[.p (.int .i64 (pdv v (-g) 0 i_1))]))))]):=by kernel_rfl
theorem pv2 (n:Nat) (v:Nat→Int) (g f:Int) (i:Nat) :
    pieceOb Tryz.prog 0 [rg 1,.dec false,rg 2,.dec false,rg 2,.dec false,rg 3,.head] zf53 (PvI n v g f i) [0] 1 (PdI n v g 0) =
    some (zf35,[((decide ((↑i:Int)<(↑n:Int)))=false),((g==0)=false),((decide (f<0))=false),(AN 0),(AN n),(AI g),(AI ((↑n:Int))),((0:Int)=(↑0:Int)),(AN 1),(NL n n),(∀ i_1:Nat,(((i_1:Nat)<n)→(All []∧(([.p (.int .i64 (v i_1))]:List AV)=[.p (.int .i64 (pdv v g 0 i_1))]))))]):=by kernel_rfl
theorem pdt (n:Nat) (v:Nat→Int) (s:Int) (k:Nat) :
    pieceOb Tryz.prog 0 [rg 1,.dec true,rg 2,rm [(7,oF)] 2,rg 2,.head] zf35 (PdI n v s k) [0] 1 (PdI n v s (k+1)) =
    some (zf35,[((decide ((↑k:Int)<(↑n:Int)))=true),(IL 0 (↑k:Int)),(IT (↑k:Int) (↑n:Int)),(NT k n),((s:Int)≠0),(IL 0 (↑k:Int)),(IT (↑k:Int) (↑n:Int)),(NT k n),((false=true)→ ((n:Nat)=1)),(ZLo ((↑k:Int)+1)),(ZHi ((↑k:Int)+1)),(AN 0),(AN n),(AI s),(AI ((↑n:Int))),((((↑k:Int)+1):Int)=(↑(k+1):Int)),(AN 1),(NL n n),(∀ i:Nat,(((i:Nat)<n)→(All (cvtL false [(0,⟨false,1,n,(fun i_1=>(if (i_1=k) then [.p (.int .i64 (IntKind.i64.wrap ((pdv v s k k).tdiv s)))] else [.p (.int .i64 (pdv v s k i_1))]))⟩)] [0] 1 (if (i=k) then [.p (.int .i64 (IntKind.i64.wrap ((pdv v s k k).tdiv s)))] else [.p (.int .i64 (pdv v s k i))])).2∧(((cvtL false [(0,⟨false,1,n,(fun i_1=>(if (i_1=k) then [.p (.int .i64 (IntKind.i64.wrap ((pdv v s k k).tdiv s)))] else [.p (.int .i64 (pdv v s k i_1))]))⟩)] [0] 1 (if (i=k) then [.p (.int .i64 (IntKind.i64.wrap ((pdv v s k k).tdiv s)))] else [.p (.int .i64 (pdv v s k i))])).1:List AV)=[.p (.int .i64 (pdv v s (k+1) i))]))))]):=by kernel_rfl
theorem pde (n:Nat) (v r:Nat→Int) (s:Int) (k:Nat) :
    pathOb Tryz.prog Tryz.f356 0 [rg 1,.dec false,rg 2] zf35 (PdI n v s k) [0] 1 [(0,iOb n r)] (.ar 1 0 0 n) =
    some [((decide ((↑k:Int)<(↑n:Int)))=false),(AN 0),(AN n),(AN 1),(NL n n),(∀ i:Nat,(((i:Nat)<n)→(All []∧(([.p (.int .i64 (pdv v s k i))]:List AV)=[.p (.int .i64 (r i))])))),(AE n)]:=by kernel_rfl
theorem clR (n:Nat) (v r:Nat→Int) :
    pathOb Tryz.prog Tryz.f313 0 [rg 1,rm [(1,oc [(0,iOb n r)] (.ar 1 0 0 n))] 1] [.code (bodyOf Tryz.f313)] (start Tryz.f313 [] 0 [inD n v]) [64] 1 [(0,iOb n r)] (.ar 1 0 0 n) =
    some [Con Tryz.prog 353 0 [] [.p (.seq true 1 n (fun i=>[.int .i64 (v i)]))] [(0,⟨false,1,n,(fun i=>[.p (.int .i64 (r i))])⟩)] (.ar 1 0 0 n),(AN 0),(AN n),(AN 1),(NL n n),(AA n (fun i=>[.p (.int .i64 (r i))])),(AE n)]:=by kernel_rfl
theorem psz (n:Nat) (v:Nat→Int) :
    pieceOb Tryz.prog 0 [rg 1,rg 1,rg 1,.head] [.code (bodyOf Tryz.f353)] (start Tryz.f353 [] 0 [inD n v]) [] 1 (PvS n v 0 0) =
    some (zf68,[(AN n),(AP n (fun i=>[.int .i64 (v i)])),(AI 0),((0:Int)=(↑0:Int))]):=by kernel_rfl
theorem pst (n:Nat) (v:Nat→Int) (g g':Int) (i:Nat) :
    pieceOb Tryz.prog 0 [rg 4,.dec true,rm [(4,oc [] (.p (.bool true)))] 1,.dec false,rm [(5,oc [] (.p (.int .i64 g')))] 1,rg 3,.head] zf68 (PvS n v g i) [] 1 (PvS n v g' (i+1)) =
    some (zf68,[((decide ((↑i:Int)<(↑n:Int)))=true),(IL 0 (↑i:Int)),(IT (↑i:Int) (↑n:Int)),Con Tryz.prog 167 0 [] [.p (.int .i64 (v i)),.p (.int .i64 (-9000000000000000000)),.p (.int .i64 9000000000000000000)] [] (.p (.bool true)),((!true)=false),(IL 0 (↑i:Int)),(IT (↑i:Int) (↑n:Int)),Con Tryz.prog 354 0 [] [.p (.int .i64 g),.p (.int .i64 (v i))] [] (.p (.int .i64 g')),(ZLo ((↑i:Int)+1)),(ZHi ((↑i:Int)+1)),(AN n),(AP n (fun i_1=>[.int .i64 (v i_1)])),(AI (g')),((((↑i:Int)+1):Int)=(↑(i+1):Int))]):=by kernel_rfl
theorem ps0 (n:Nat) (v r:Nat→Int) (g:Int) (i:Nat) :
    pathOb Tryz.prog Tryz.f353 0 [rg 4,.dec false,rg 2,.dec true,rg 4] zf68 (PvS n v g i) [256] 1 [(0,iOb n r)] (.ar 1 0 0 n) =
    some [((decide ((↑i:Int)<(↑n:Int)))=false),((g==0)=true),(NL 0 0),(NL ((0+n)*8) 140737488355328),(NL (0+n) 9223372036854775807),(AN 0),(((0+n):Nat)=n),(AN 1),(NL n (0+n)),(∀ i_1:Nat,(((i_1:Nat)<n)→(All []∧(([.p (.int .i64 (v i_1))]:List AV)=[.p (.int .i64 (r i_1))])))),(AE n)]:=by kernel_rfl
theorem ps1 (n:Nat) (v:Nat→Int) (g:Int) (i:Nat) :
    pieceOb Tryz.prog 0 [rg 4,.dec false,rg 2,.dec false,rg 1,rg 1,.head] zf68 (PvS n v g i) [] 1 (PfS n v g 0 0) =
    some (zf40,[((decide ((↑i:Int)<(↑n:Int)))=false),((g==0)=false),(AN n),(AP n (fun i_1=>[.int .i64 (v i_1)])),(AI g),(AI 0),((0:Int)=(↑0:Int))]):=by kernel_rfl
theorem psf (n:Nat) (v:Nat→Int) (g f:Int) (i:Nat) :
    pieceOb Tryz.prog 0 [rg 4,.dec true,rg 2,.dec false,rg 3,.head] zf40 (PfS n v g f i) [] 1 (PfS n v g f (i+1)) =
    some (zf40,[((decide ((↑i:Int)<(↑n:Int)))=true),((f==0)=false),(ZLo ((↑i:Int)+1)),(ZHi ((↑i:Int)+1)),(AN n),(AP n (fun i_1=>[.int .i64 (v i_1)])),(AI g),(AI f),((((↑i:Int)+1):Int)=(↑(i+1):Int))]):=by kernel_rfl
theorem psg (n:Nat) (v:Nat→Int) (g f:Int) (i:Nat) :
    pieceOb Tryz.prog 0 [rg 4,.dec true,rg 2,.dec true,rg 5,rg 3,.head] zf40 (PfS n v g f i) [] 1 (PfS n v g (v i) (i+1)) =
    some (zf40,[((decide ((↑i:Int)<(↑n:Int)))=true),((f==0)=true),(IL 0 (↑i:Int)),(IT (↑i:Int) (↑n:Int)),(ZLo ((↑i:Int)+1)),(ZHi ((↑i:Int)+1)),(AN n),(AP n (fun i_1=>[.int .i64 (v i_1)])),(AI g),(AI ((v i))),((((↑i:Int)+1):Int)=(↑(i+1):Int))]):=by kernel_rfl
theorem ps2 (n:Nat) (v h:Nat→Int) (g f:Int) (i:Nat) :
    pieceOb Tryz.prog 0 [rg 4,.dec false,rg 2,.dec true,rg 3,rg 2,rg 1,.head] zf40 (PfS n v g f i) [288] 1 (PdS n v (-g) 0 h) =
    some (zf33,[((decide ((↑i:Int)<(↑n:Int)))=false),((decide (f<0))=true),(ZLo (0 - g)),(ZHi (0 - g)),(AN n),(AP n (fun i_1=>[.int .i64 (v i_1)])),(((0 - g):Int)=(-g)),(AN 0),(AN 0),((0:Int)=(↑0:Int)),(AN 1),(NL 0 0),(∀ i_1:Nat,(((i_1:Nat)<0)→(All []∧(([.p (.int .i64 0)]:List AV)=[.p (.int .i64 (h i_1))]))))]):=by kernel_rfl
theorem ps3 (n:Nat) (v h:Nat→Int) (g f:Int) (i:Nat) :
    pieceOb Tryz.prog 0 [rg 4,.dec false,rg 2,.dec false,rg 2,rg 1,.head] zf40 (PfS n v g f i) [192] 1 (PdS n v g 0 h) =
    some (zf33,[((decide ((↑i:Int)<(↑n:Int)))=false),((decide (f<0))=false),(AN n),(AP n (fun i_1=>[.int .i64 (v i_1)])),(AI g),(AN 0),(AN 0),((0:Int)=(↑0:Int)),(AN 1),(NL 0 0),(∀ i_1:Nat,(((i_1:Nat)<0)→(All []∧(([.p (.int .i64 0)]:List AV)=[.p (.int .i64 (h i_1))]))))]):=by kernel_rfl
theorem psd (n:Nat) (v:Nat→Int) (s:Int) (i:Nat) (h h':Nat→Int) :
    pieceOb Tryz.prog 0 [rg 4,.dec true,rm [(6,oF)] 3,rg 3,.head] zf33 (PdS n v s i h) [385] 1 (PdS n v s (i+1) h') =
    some (zf33,[((decide ((↑i:Int)<(↑n:Int)))=true),(IL 0 (↑i:Int)),(IT (↑i:Int) (↑n:Int)),((s:Int)≠0),(NL 1 1),(NL i i),(NL ((i+1)*8) 140737488355328),(NL (i+1) 9223372036854775807),(ZLo ((↑i:Int)+1)),(ZHi ((↑i:Int)+1)),(AN n),(AP n (fun i_1=>[.int .i64 (v i_1)])),(AI s),(AN 0),(AN ((i+1))),((((↑i:Int)+1):Int)=(↑(i+1):Int)),(AN 1),(NL (i+1) (i+1)),(∀ i_1:Nat,(((i_1:Nat)<(i+1))→(All (cvtL false [(385,⟨false,1,(i+1),(fun i_2=>(if (i_2<i) then [.p (.int .i64 (h i_2))] else [.p (.int .i64 (IntKind.i64.wrap ((v i).tdiv s)))]))⟩),(353,⟨false,1,1,(fun i_2=>[.p (.int .i64 (IntKind.i64.wrap ((v i).tdiv s)))])⟩)] [385] 1 (if (i_1<i) then [.p (.int .i64 (h i_1))] else [.p (.int .i64 (IntKind.i64.wrap ((v i).tdiv s)))])).2∧(((cvtL false [(385,⟨false,1,(i+1),(fun i_2=>(if (i_2<i) then [.p (.int .i64 (h i_2))] else [.p (.int .i64 (IntKind.i64.wrap ((v i).tdiv s)))]))⟩),(353,⟨false,1,1,(fun i_2=>[.p (.int .i64 (IntKind.i64.wrap ((v i).tdiv s)))])⟩)] [385] 1 (if (i_1<i) then [.p (.int .i64 (h i_1))] else [.p (.int .i64 (IntKind.i64.wrap ((v i).tdiv s)))])).1:List AV)=[.p (.int .i64 (h' i_1))]))))]):=by kernel_rfl
theorem pse (n:Nat) (v:Nat→Int) (s:Int) (i:Nat) (h:Nat→Int) :
    pathOb Tryz.prog Tryz.f353 0 [rg 4,.dec false,rg 2] zf33 (PdS n v s i h) [0] 1 [(0,iOb i h)] (.ar 1 0 0 i) =
    some [((decide ((↑i:Int)<(↑n:Int)))=false),(AN 0),(AN i),(AN 1),(NL i i),(AA i (fun i_1=>[.p (.int .i64 (h i_1))])),(AE i)]:=by kernel_rfl
theorem con_isGreat {x:Int} (h:x*x≤2 ^ 124):Con Tryz.prog 395 0 [] [.p (.int .i64 x)] [] (.p (.bool false)):=by
  have hb:=Had.sq_le (y:=2 ^ 62) (by decide) h
  refine csZ Tryz.func395 (fun c hc=>?_)
  have d1:decide (x>9000000000000000000)=false:=decide_eq_false (by omega)
  have d2:decide (x < -9000000000000000000)=false:=decide_eq_false (by omega)
  refine pkZ Tryz.func395 hc (igR x) ?_
  repeat' (first | exact aN | apply aI)
  all_goals (first | exact aG _ | omega | rfl | (intros;first | assumption | exact trivial | rfl | exact fT ‹_› | ((repeat' (first | assumption | apply anda | apply notf));done)) | (rw [d1,d2];rfl) | (rw [d1];rfl) | (intros;rw [d1];rfl))
theorem con_l1InG {x:Int} (h:x*x≤2 ^ 124):Con Tryz.prog 167 0 [] [.p (.int .i64 x),.p (.int .i64 (-9000000000000000000)),.p (.int .i64 9000000000000000000)] [] (.p (.bool true)):=by
  have hb:=Had.sq_le (y:=2 ^ 62) (by decide) h
  have:=con_l1In x (-9000000000000000000) 9000000000000000000
  rwa [show inB x (-9000000000000000000) 9000000000000000000=true by simp [inB];omega] at this
end Go.Proofs.YtkkjoghiigiokaaGreat.Mach
namespace Go.Proofs.YtkkjoghiigiokaaGreat.Mach
open Go
set_option linter.unusedVariables false
set_option linter.unusedSimpArgs false
theorem nat_sq {x:Int} (h:x*x≤2 ^ 124):x.natAbs≤2 ^ 62:=by
  have:=Had.sq_le (y:=2 ^ 62) (by decide) h
  omega
theorem sq_nat {x:Nat} (h:x≤2 ^ 62):(x:Int)*(x:Int)≤2 ^ 124:=by
  have:=Int.mul_le_mul (show (x:Int)≤2 ^ 62 by omega) (show (x:Int)≤2 ^ 62 by omega) (by omega) (by omega)
  exact this
theorem gcd_step (x y:Nat):Nat.gcd x y=Nat.gcd y (x % y):=by rw [Nat.gcd_comm,Nat.gcd_rec,Nat.gcd_comm]
theorem con_Gcd_i {a b:Int} (ha:a*a≤2 ^ 124) (hb:b*b≤2 ^ 124):Con Tryz.prog 396 0 [] [.p (.int .i64 a),.p (.int .i64 b)] [] (.p (.int .i64 (Int.gcd a b:Nat))):=by
  have c1:=con_isGreat ha
  have c2:=con_isGreat hb
  have na:=nat_sq ha
  have nb:=nat_sq hb
  refine csZ Tryz.func396 (fun c hc=>?_)
  have lo:∀ m (x y:Nat),y≤m→x≤2 ^ 62→y≤2 ^ 62→Nat.gcd x y=Int.gcd a b→Run Tryz.prog c 396 zf65 (GcI x y) (Post c [] (.p (.int .i64 (Int.gcd a b:Nat)))):=by
    intro m
    induction m with
    | zero =>
      intro x y hy hx _ hg
      obtain rfl:y=0:=by omega
      have e:x=Int.gcd a b:=by rw [← hg,Nat.gcd_zero_right]
      rw [← e]
      refine pkZ Tryz.func396 hc (gce x (0:Nat)) ?_
      repeat' (first | exact aN | apply aI)
      all_goals (first | omega | rfl | (intros;first | assumption | exact trivial | rfl) | rfl)
    | succ m ih =>
      intro x y hy hx hyb hg
      by_cases h0:y=0
      · subst h0
        have e:x=Int.gcd a b:=by rw [← hg,Nat.gcd_zero_right]
        rw [← e]
        refine pkZ Tryz.func396 hc (gce x (0:Nat)) ?_
        repeat' (first | exact aN | apply aI)
        all_goals (first | omega | rfl | (intros;first | assumption | exact trivial | rfl) | rfl)
      · have hm:x % y<y:=Nat.mod_lt _ (by omega)
        have hr:=ih y (x % y) (by omega) hyb (by omega) (by rw [← gcd_step];exact hg)
        rw [show ((x % y:Nat):Int)=(x:Int) % (y:Int) from rfl] at hr
        have hd:((y:Int) != 0)=true:=by simp;omega
        refine pcZ hc (gct x y) ?_ hr
        repeat' (first | exact aN | apply aI)
        all_goals (first | omega | rfl | (intros;first | assumption | exact trivial | rfl) | (exact hd))
  have hr:=lo _ a.natAbs b.natAbs (Nat.le_refl _) na nb rfl
  refine pcZ hc (gcz a b) ?_ hr
  repeat' (first | exact aN | apply aI)
  all_goals (first | exact aG _ | omega | rfl | (intros;first | assumption | exact trivial | rfl | exact fT ‹_› | ((repeat' (first | assumption | apply anda | apply notf));done)) | (exact c1) | (intros;exact c2) | (intros;rfl) | (simp;done) | (simp only [if_true];split<;>omega))
theorem con_Gcd_s {a b:Int} (ha:a*a≤2 ^ 124) (hb:b*b≤2 ^ 124):Con Tryz.prog 354 0 [] [.p (.int .i64 a),.p (.int .i64 b)] [] (.p (.int .i64 (Int.gcd a b:Nat))):=by
  have c1:=con_l1InG ha
  have c2:=con_l1InG hb
  have na:=nat_sq ha
  have nb:=nat_sq hb
  refine csZ Tryz.func354 (fun c hc=>?_)
  have lo:∀ m (x y:Nat),y≤m→x≤2 ^ 62→y≤2 ^ 62→Nat.gcd x y=Int.gcd a b→Run Tryz.prog c 354 zf51 (GcS x y) (Post c [] (.p (.int .i64 (Int.gcd a b:Nat)))):=by
    intro m
    induction m with
    | zero =>
      intro x y hy hx _ hg
      obtain rfl:y=0:=by omega
      have e:x=Int.gcd a b:=by rw [← hg,Nat.gcd_zero_right]
      rw [← e]
      refine pkZ Tryz.func354 hc (gse x (0:Nat)) ?_
      repeat' (first | exact aN | apply aI)
      all_goals (first | omega | rfl | (intros;first | assumption | exact trivial | rfl) | rfl)
    | succ m ih =>
      intro x y hy hx hyb hg
      by_cases h0:y=0
      · subst h0
        have e:x=Int.gcd a b:=by rw [← hg,Nat.gcd_zero_right]
        rw [← e]
        refine pkZ Tryz.func354 hc (gse x (0:Nat)) ?_
        repeat' (first | exact aN | apply aI)
        all_goals (first | omega | rfl | (intros;first | assumption | exact trivial | rfl) | rfl)
      · have hm:x % y<y:=Nat.mod_lt _ (by omega)
        have hr:=ih y (x % y) (by omega) hyb (by omega) (by rw [← gcd_step];exact hg)
        rw [show ((x % y:Nat):Int)=(x:Int) % (y:Int) from rfl] at hr
        have hd:decide ((y:Int)>0)=true:=decide_eq_true (by omega)
        refine pcZ hc (gst x y) ?_ hr
        repeat' (first | exact aN | apply aI)
        all_goals (first | omega | rfl | (intros;first | assumption | exact trivial | rfl) | (exact hd))
  have hr:=lo _ a.natAbs b.natAbs (Nat.le_refl _) na nb rfl
  refine pcZ hc (gsz a b) ?_ hr
  repeat' (first | exact aN | apply aI)
  all_goals (first | exact aG _ | omega | rfl | (intros;first | assumption | exact trivial | rfl | exact fT ‹_› | ((repeat' (first | assumption | apply anda | apply notf));done)) | (exact c1) | (intros;exact c2) | (intros;rfl) | (simp;done) | (simp only [if_true];split<;>omega))
theorem gcdn_le {v:Nat→Int}:∀ n,(∀ k,k<n→v k*v k≤2 ^ 124)→Had.gcdn v n≤2 ^ 62
  | 0,_=>Nat.zero_le _
  | n+1,h=>by
    have h1:=gcdn_le n (fun k hk=>h k (by omega))
    have h2:=nat_sq (h n (by omega))
    rw [Had.gcdn]
    by_cases h0:(v n).natAbs=0
    · rw [h0,Nat.gcd_zero_right];exact h1
    · exact Nat.le_trans (Nat.gcd_le_right _ (by omega)) h2
theorem tdiv_wrap {s x:Int} (hd:s ∣ x) (h0:s≠0) (h:x*x≤2 ^ 124):IntKind.wrap .i64 (x.tdiv s)=x.tdiv s:=by
  obtain ⟨q,rfl⟩:=hd
  rw [Int.mul_tdiv_cancel_left _ h0]
  have h1:=Int.le_trans (Had.mul_abs_le (x:=q) h0) h
  have:=Had.sq_le (y:=2 ^ 62) (by decide) h1
  exact wrap_in (by simp only [imin];omega) (by simp only [imax];omega)
theorem prm_t {n:Nat} {v:Nat→Int} (h:Had.gcdn v n≠0) (k:Nat):Had.prm n v k=(v k).tdiv (Had.sgc v n):=by unfold Had.prm;rw [if_neg h]
theorem prm_0 {n:Nat} {v:Nat→Int} (h:Had.gcdn v n=0) (k:Nat):Had.prm n v k=v k:=by unfold Had.prm;rw [if_pos h]
theorem con_Prim_i (n:Nat) (v:Nat→Int) (hn:n≤1000) (hv:∀ k,k<n→v k*v k≤2 ^ 124) :
    Con Tryz.prog 356 0 [] [inD n v] [(0,iOb n (Had.prm n v))] (.ar 1 0 0 n):=by
  have cc:=con_copyInts n v (by omega)
  refine csZ Tryz.func356 (fun c hc=>?_)
  have hg:=gcdn_le n hv
  have l2:∀ d k,k+d=n→Had.gcdn v n≠0→Run Tryz.prog c 356 zf35 (PdI n v (Had.sgc v n) k) (Post c [(0,iOb n (Had.prm n v))] (.ar 1 0 0 n)):=by
    intro d
    induction d with
    | zero =>
      intro k hk h0
      have hd:decide ((k:Int)<(n:Int))=false:=decide_eq_false (by omega)
      refine pkZ Tryz.func356 hc (pde n v (Had.prm n v) (Had.sgc v n) k) ?_
      repeat' (first | exact aN | apply aI)
      all_goals (first | exact aE _ | omega | rfl | (intros;first | assumption | exact trivial | rfl) | (exact hd) | (intro t ht;refine ⟨True.intro,?_⟩;rw [prm_t h0,pdv,if_pos (by omega)]) | (intro t ht;simp [All];done) | (simp only [All];first | exact aE _ | omega | rfl | (intros;first | assumption | exact trivial | rfl) | (exact hd) | (intro t ht;refine ⟨True.intro,?_⟩;rw [prm_t h0,pdv,if_pos (by omega)]) | (intro t ht;simp [All];done)))
    | succ d ih =>
      intro k hk h0
      have hd:decide ((k:Int)<(n:Int))=true:=decide_eq_true (by omega)
      have h1:=tdiv_wrap (Had.sgc_dvd v n (show k<n by omega)) (Had.sgc_0 h0) (hv k (by omega))
      have h2:pdv v (Had.sgc v n) k k=v k:=by unfold pdv;rw [if_neg (by omega)]
      have h3:=Had.sgc_0 h0
      refine pcZ hc (pdt n v (Had.sgc v n) k) ?_ (ih (k+1) (by omega) h0)
      repeat' (first | exact aN | apply aI)
      all_goals (first | omega | rfl | (intros;first | assumption | exact trivial | rfl | exact fT ‹_›) | (exact hd) | (exact h3) | (intro t ht;rw [h2,h1];by_cases h':t=k<;>(simp [h',pdv,Nat.lt_succ_iff_lt_or_eq,cvtL,cvt,tg,tru,All];done)))
  have l1:∀ d i,i+d=n→Run Tryz.prog c 356 zf53 (PvI n v (Had.gcdn v i:Nat) (Had.fst0 v i) i) (Post c [(0,iOb n (Had.prm n v))] (.ar 1 0 0 n)):=by
    intro d
    induction d with
    | zero =>
      intro i hi
      obtain rfl:i=n:=by omega
      have hd:decide ((i:Int)<(i:Int))=false:=decide_eq_false (by omega)
      by_cases h0:Had.gcdn v i=0
      · have hz:(((Had.gcdn v i:Nat):Int)==0)=true:=by rw [h0];rfl
        refine pkZ Tryz.func356 hc (pv0 i v (Had.prm i v) (Had.gcdn v i:Nat) (Had.fst0 v i) i) ?_
        repeat' (first | exact aN | apply aI)
        all_goals (first | exact aE _ | omega | rfl | (intros;first | assumption | exact trivial | rfl) | (exact hd) | (exact hz) | (intro t ht;refine ⟨True.intro,?_⟩;rw [prm_0 h0]) | (intro t ht;simp [All];done) | (simp only [All];first | exact aE _ | omega | rfl | (intros;first | assumption | exact trivial | rfl) | (exact hd) | (exact hz) | (intro t ht;refine ⟨True.intro,?_⟩;rw [prm_0 h0]) | (intro t ht;simp [All];done)))
      · have hz:(((Had.gcdn v i:Nat):Int)==0)=false:=by simp;omega
        by_cases hf:Had.fst0 v i<0
        · have hf':decide (Had.fst0 v i<0)=true:=decide_eq_true hf
          have hr:=l2 i 0 (by omega) h0
          rw [show Had.sgc v i = -((Had.gcdn v i:Nat):Int) by unfold Had.sgc;rw [if_pos hf]] at hr
          refine pcZ hc (pv1 i v (Had.gcdn v i:Nat) (Had.fst0 v i) i) ?_ hr
          repeat' (first | exact aN | apply aI)
          all_goals (first | omega | rfl | (intros;first | assumption | exact trivial | rfl) | (exact hd) | (exact hz) | (exact hf') | (intro t ht;simp [All,pdv];done) | (simp only [All];first | omega | rfl | (intros;first | assumption | exact trivial | rfl) | (exact hd) | (exact hz) | (exact hf') | (intro t ht;simp [All,pdv];done)))
        · have hf':decide (Had.fst0 v i<0)=false:=decide_eq_false hf
          have hr:=l2 i 0 (by omega) h0
          rw [show Had.sgc v i=((Had.gcdn v i:Nat):Int) by unfold Had.sgc;rw [if_neg hf]] at hr
          refine pcZ hc (pv2 i v (Had.gcdn v i:Nat) (Had.fst0 v i) i) ?_ hr
          repeat' (first | exact aN | apply aI)
          all_goals (first | omega | rfl | (intros;first | assumption | exact trivial | rfl) | (exact hd) | (exact hz) | (exact hf') | (intro t ht;simp [All,pdv];done) | (simp only [All];first | omega | rfl | (intros;first | assumption | exact trivial | rfl) | (exact hd) | (exact hz) | (exact hf') | (intro t ht;simp [All,pdv];done)))
    | succ d ih =>
      intro i hi
      have hd:decide ((i:Int)<(n:Int))=true:=decide_eq_true (by omega)
      have cg:=con_isGreat (hv i (by omega))
      have cd:=con_Gcd_i (a:=(Had.gcdn v i:Nat)) (b:=v i) (sq_nat (gcdn_le i (fun k hk=>hv k (by omega)))) (hv i (by omega))
      rw [show Int.gcd ((Had.gcdn v i:Nat):Int) (v i)=Had.gcdn v (i+1) from rfl] at cd
      have hr:=ih (i+1) (by omega)
      by_cases hf:Had.fst0 v i=0
      · have hf':(Had.fst0 v i==0)=true:=by simp [hf]
        rw [show Had.fst0 v (i+1)=v i by rw [Had.fst0,if_pos hf]] at hr
        refine pcZ hc (pvt n v (Had.gcdn v i:Nat) (Had.gcdn v (i+1):Nat) (Had.fst0 v i) i) ?_ hr
        repeat' (first | exact aN | apply aI)
        all_goals (first | exact aP _ _ | exact aA _ _ | omega | rfl | (intros;first | assumption | exact trivial | rfl) | (exact hd) | (exact cg) | (exact cd) | (exact hf') | (intro t ht;simp [All];done))
      · have hf':(Had.fst0 v i==0)=false:=by simp [hf]
        rw [show Had.fst0 v (i+1)=Had.fst0 v i by rw [Had.fst0,if_neg hf]] at hr
        refine pcZ hc (pvf n v (Had.gcdn v i:Nat) (Had.gcdn v (i+1):Nat) (Had.fst0 v i) i) ?_ hr
        repeat' (first | exact aN | apply aI)
        all_goals (first | exact aP _ _ | exact aA _ _ | omega | rfl | (intros;first | assumption | exact trivial | rfl) | (exact hd) | (exact cg) | (exact cd) | (exact hf') | (intro t ht;simp [All];done))
  refine pcZ hc (pvz n v) ?_ (l1 n 0 (by omega))
  repeat' (first | exact aN | apply aI)
  all_goals (first | exact aP _ _ | exact aA _ _ | omega | rfl | (intros;first | assumption | exact trivial | rfl) | (exact cc) | (intro t ht;simp [All];done))
theorem con_Prim_s (n:Nat) (v:Nat→Int) (hn:n≤1000) (hv:∀ k,k<n→v k*v k≤2 ^ 124) :
    Con Tryz.prog 353 0 [] [inD n v] [(0,iOb n (Had.prm n v))] (.ar 1 0 0 n):=by
  refine csZ Tryz.func353 (fun c hc=>?_)
  have hg:=gcdn_le n hv
  have l3:∀ d k,k+d=n→Had.gcdn v n≠0→Run Tryz.prog c 353 zf33 (PdS n v (Had.sgc v n) k (Had.prm n v)) (Post c [(0,iOb n (Had.prm n v))] (.ar 1 0 0 n)):=by
    intro d
    induction d with
    | zero =>
      intro k hk h0
      obtain rfl:k=n:=by omega
      have hd:decide ((k:Int)<(k:Int))=false:=decide_eq_false (by omega)
      refine pkZ Tryz.func353 hc (pse k v (Had.sgc v k) k (Had.prm k v)) ?_
      repeat' (first | exact aN | apply aI)
      all_goals (first | exact aA _ _ | exact aE _ | omega | rfl | (intros;first | assumption | exact trivial | rfl) | (exact hd) | (intro t ht;simp [All];done))
    | succ d ih =>
      intro k hk h0
      have hd:decide ((k:Int)<(n:Int))=true:=decide_eq_true (by omega)
      have h1:=tdiv_wrap (Had.sgc_dvd v n (show k<n by omega)) (Had.sgc_0 h0) (hv k (by omega))
      have h3:=Had.sgc_0 h0
      refine pcZ hc (psd n v (Had.sgc v n) k (Had.prm n v) (Had.prm n v)) ?_ (ih (k+1) (by omega) h0)
      repeat' (first | exact aN | apply aI)
      all_goals (first | exact aP _ _ | omega | rfl | (intros;first | assumption | exact trivial | rfl) | (exact hd) | (exact h3) | (intro t ht;rw [h1,← prm_t h0 k];by_cases h':t<k;exact ⟨by simp [h',cvtL,cvt,tg,tru,All],by simp [h',cvtL,cvt,tg,tru]⟩;rw [show t=k by omega];exact ⟨by simp [cvtL,cvt,tg,tru,All],by simp [cvtL,cvt,tg,tru]⟩))
  have l2:∀ d i,i+d=n→Had.gcdn v n≠0→Run Tryz.prog c 353 zf40 (PfS n v (Had.gcdn v n:Nat) (Had.fst0 v i) i) (Post c [(0,iOb n (Had.prm n v))] (.ar 1 0 0 n)):=by
    intro d
    induction d with
    | zero =>
      intro i hi h0
      obtain rfl:i=n:=by omega
      have hd:decide ((i:Int)<(i:Int))=false:=decide_eq_false (by omega)
      have hr:=l3 i 0 (by omega) h0
      by_cases hf:Had.fst0 v i<0
      · have hf':decide (Had.fst0 v i<0)=true:=decide_eq_true hf
        rw [show Had.sgc v i = -((Had.gcdn v i:Nat):Int) by unfold Had.sgc;rw [if_pos hf]] at hr
        refine pcZ hc (ps2 i v (Had.prm i v) (Had.gcdn v i:Nat) (Had.fst0 v i) i) ?_ hr
        repeat' (first | exact aN | apply aI)
        all_goals (first | exact aP _ _ | omega | rfl | (intros;first | assumption | exact trivial | rfl) | (exact hd) | (exact hf') | (intro t ht;exact absurd ht (Nat.not_lt_zero _)) | (intro t ht;simp [All];done) | (simp only [All];first | exact aP _ _ | omega | rfl | (intros;first | assumption | exact trivial | rfl) | (exact hd) | (exact hf') | (intro t ht;exact absurd ht (Nat.not_lt_zero _)) | (intro t ht;simp [All];done)))
      · have hf':decide (Had.fst0 v i<0)=false:=decide_eq_false hf
        rw [show Had.sgc v i=((Had.gcdn v i:Nat):Int) by unfold Had.sgc;rw [if_neg hf]] at hr
        refine pcZ hc (ps3 i v (Had.prm i v) (Had.gcdn v i:Nat) (Had.fst0 v i) i) ?_ hr
        repeat' (first | exact aN | apply aI)
        all_goals (first | exact aP _ _ | omega | rfl | (intros;first | assumption | exact trivial | rfl) | (exact hd) | (exact hf') | (intro t ht;simp [All];done) | (simp only [All];first | exact aP _ _ | omega | rfl | (intros;first | assumption | exact trivial | rfl) | (exact hd) | (exact hf') | (intro t ht;simp [All];done)))
    | succ d ih =>
      intro i hi h0
      have hd:decide ((i:Int)<(n:Int))=true:=decide_eq_true (by omega)
      have hr:=ih (i+1) (by omega) h0
      by_cases hf:Had.fst0 v i=0
      · have hf':(Had.fst0 v i==0)=true:=by simp [hf]
        rw [show Had.fst0 v (i+1)=v i by rw [Had.fst0,if_pos hf]] at hr
        refine pcZ hc (psg n v (Had.gcdn v n:Nat) (Had.fst0 v i) i) ?_ hr
        repeat' (first | exact aN | apply aI)
        all_goals (first | exact aP _ _ | omega | rfl | (intros;first | assumption | exact trivial | rfl) | (exact hd) | (exact hf') | (intro t ht;simp [All];done))
      · have hf':(Had.fst0 v i==0)=false:=by simp [hf]
        rw [show Had.fst0 v (i+1)=Had.fst0 v i by rw [Had.fst0,if_neg hf]] at hr
        refine pcZ hc (psf n v (Had.gcdn v n:Nat) (Had.fst0 v i) i) ?_ hr
        repeat' (first | exact aN | apply aI)
        all_goals (first | exact aP _ _ | omega | rfl | (intros;first | assumption | exact trivial | rfl) | (exact hd) | (exact hf') | (intro t ht;simp [All];done))
  have l1:∀ d i,i+d=n→Run Tryz.prog c 353 zf68 (PvS n v (Had.gcdn v i:Nat) i) (Post c [(0,iOb n (Had.prm n v))] (.ar 1 0 0 n)):=by
    intro d
    induction d with
    | zero =>
      intro i hi
      obtain rfl:i=n:=by omega
      have hd:decide ((i:Int)<(i:Int))=false:=decide_eq_false (by omega)
      by_cases h0:Had.gcdn v i=0
      · have hz:(((Had.gcdn v i:Nat):Int)==0)=true:=by rw [h0];rfl
        refine pkZ Tryz.func353 hc (ps0 i v (Had.prm i v) (Had.gcdn v i:Nat) i) ?_
        repeat' (first | exact aN | apply aI)
        all_goals (first | exact aE _ | omega | rfl | (intros;first | assumption | exact trivial | rfl) | (exact hd) | (exact hz) | (intro t ht;refine ⟨True.intro,?_⟩;rw [prm_0 h0]) | (intro t ht;simp [All];done) | (simp only [All];first | exact aE _ | omega | rfl | (intros;first | assumption | exact trivial | rfl) | (exact hd) | (exact hz) | (intro t ht;refine ⟨True.intro,?_⟩;rw [prm_0 h0]) | (intro t ht;simp [All];done)))
      · have hz:(((Had.gcdn v i:Nat):Int)==0)=false:=by simp;omega
        refine pcZ hc (ps1 i v (Had.gcdn v i:Nat) i) ?_ (l2 i 0 (by omega) h0)
        repeat' (first | exact aN | apply aI)
        all_goals (first | exact aP _ _ | omega | rfl | (intros;first | assumption | exact trivial | rfl) | (exact hd) | (exact hz) | (intro t ht;simp [All];done))
    | succ d ih =>
      intro i hi
      have hd:decide ((i:Int)<(n:Int))=true:=decide_eq_true (by omega)
      have cg:=con_l1InG (hv i (by omega))
      have cd:=con_Gcd_s (a:=(Had.gcdn v i:Nat)) (b:=v i) (sq_nat (gcdn_le i (fun k hk=>hv k (by omega)))) (hv i (by omega))
      rw [show Int.gcd ((Had.gcdn v i:Nat):Int) (v i)=Had.gcdn v (i+1) from rfl] at cd
      refine pcZ hc (pst n v (Had.gcdn v i:Nat) (Had.gcdn v (i+1):Nat) i) ?_ (ih (i+1) (by omega))
      repeat' (first | exact aN | apply aI)
      all_goals (first | exact aP _ _ | omega | rfl | (intros;first | assumption | exact trivial | rfl) | (exact hd) | (exact cg) | (exact cd) | (intro t ht;simp [All];done))
  refine pcZ hc (psz n v) ?_ (l1 n 0 (by omega))
  repeat' (first | exact aN | apply aI)
  all_goals (first | exact aP _ _ | omega | rfl | (intros;first | assumption | exact trivial | rfl) | (intro t ht;simp [All];done))
theorem con_Clean (n:Nat) (v:Nat→Int) (hn:n≤1000) (hv:∀ k,k<n→v k*v k≤2 ^ 124) :
    Con Tryz.prog 313 0 [] [inD n v] [(0,iOb n (Had.prm n v))] (.ar 1 0 0 n):=by
  have h:=con_Prim_s n v hn hv
  refine csZ Tryz.func313 (fun c hc=>?_)
  refine pkZ Tryz.func313 hc (clR n v (Had.prm n v)) ?_
  repeat' (first | exact aN | apply aI)
  all_goals (first | exact aA _ _ | exact aE _ | omega | rfl | (intros;first | assumption | exact trivial | rfl) | (exact h) | (intro t ht;simp [All];done))
end Go.Proofs.YtkkjoghiigiokaaGreat.Mach
namespace Go.Proofs.YtkkjoghiigiokaaGreat.Mach
open Go
set_option linter.unusedVariables false
set_option linter.unusedSimpArgs false
def ssA2 (n:Nat) (C:Nat→T_IntS):AV:=.p (.seq true 1 n (fun i=>[.seq true 1 (C i).1 (fun s=>[.int .i64 ((C i).2 s)])]))
def ooOb (F m:Nat) (C:Nat→T_IntS):Ob:=⟨false,1,m,fun i=>[.ar 1 ⟨F,some i⟩ 0 (C i).1]⟩
def ffOb (m:Nat) (C:Nat→T_IntS):Ob:=⟨true,0,m,fun i=>[.p (.seq false 1 (C i).1 (fun s=>[.int .i64 ((C i).2 s)]))]⟩
def CLs (m:Nat) (C:Nat→T_IntS) (i:Nat):St:=⟨[.p .any,.p .any,.p .any,.ar 1 0 0 i,.p .any,.p .any,.p .any,ssA2 m C,.p (.int .i64 m),.p (.int .i64 i)]++List.replicate 10 anyA,[(0,ooOb 1 i C),(1,ffOb i C)],2⟩
def cM (n:Nat) (M:Nat→Nat→Int) (i:Nat):T_IntS:=(n,M i)
def mH (n m:Nat) (M:Nat→Nat→Int) (r:Nat) (p:Nat→Int):Hp:=[(0,ooOb 1 m (cM n M)),(1,ffOb m (cM n M)),(2,iOb r p)]
def R0 (n m:Nat) (M:Nat→Nat→Int) (r:Nat) (p:Nat→Int) (d:Int) (c:Nat):St :=
  ⟨[.p .any,.p (.int .i64 n),.p .any,.p .any,.p .any,.p .any,.p .any,.ar 1 0 0 m,.ar 1 2 0 r,.p (.int .i64 d),.p (.int .i64 c)]++List.replicate 121 anyA,mH n m M r p,3⟩
def R1 (n m:Nat) (M:Nat→Nat→Int) (r:Nat) (p:Nat→Int) (d:Int) (c i:Nat):St :=
  ⟨[.p .any,.p (.int .i64 n),.p .any,.p .any,.p .any,.p .any,.p .any,.ar 1 0 0 m,.ar 1 2 0 r,.p (.int .i64 d),.p (.int .i64 c),.p (.int .i64 r),.p (.int .i64 i)]++List.replicate 119 anyA,mH n m M r p,3⟩
def R2 (n m:Nat) (M:Nat→Nat→Int) (r:Nat) (p:Nat→Int) (d:Int) (c:Nat) (x:Int) (i:Nat):St :=
  ⟨[.p .any,.p (.int .i64 n),.p .any,.p .any,.p .any,.p .any,.p .any,.ar 1 0 0 m,.ar 1 2 0 r,.p (.int .i64 d),.p (.int .i64 c),.p (.int .i64 r),.p .any,.p (.int .i64 x)]++List.replicate 63 anyA++[.p (.int .i64 m),.p (.int .i64 i)]++List.replicate 53 anyA,mH n m M r p,3⟩
def R3 (n m:Nat) (M:Nat→Nat→Int) (r:Nat) (p:Nat→Int) (d:Int) (c:Nat) (x:Int) (i:Nat) (f:Int) (k:Nat):St :=
  ⟨[.p .any,.p (.int .i64 n),.p .any,.p .any,.p .any,.p .any,.p .any,.ar 1 0 0 m,.ar 1 2 0 r,.p (.int .i64 d),.p (.int .i64 c),.p (.int .i64 r),.p .any,.p (.int .i64 x),.p (.int .i64 i),.p (.int .i64 f)]++List.replicate 61 anyA++[.p (.int .i64 m),.p (.int .i64 i)]++List.replicate 12 anyA++[.p (.int .i64 n),.p (.int .i64 k)]++List.replicate 39 anyA,mH n m M r p,3⟩
def sI (r q:Nat):Nat→Nat:=Had.sw (fun i=>i) r q
def WoS (n:Nat) (a row:Nat→Int) (x y:Int) (i:Nat) (h:Nat→Int):St :=
  ⟨[inD n a,inD n row,.p .any,.p .any,.p .any,.p .any,.p .any,.p .any,.p (.int .i64 x),.p (.int .i64 y),.ar 1 0 0 i,.p (.int .i64 i)]++List.replicate 46 anyA,[(0,iOb i h)],1⟩
def Q0 (m:Nat) (C:Nat→T_IntS) (i:Nat) (D:Nat→T_IntS):St:=⟨[ssA2 m C,.p .any,.p .any,.p .any,.ar 1 0 0 i,.p (.int .i64 i)]++List.replicate 109 anyA,[(0,ooOb 1 i D),(1,ffOb i D)],2⟩
def Q1 (n m:Nat) (M:Nat→Nat→Int) (r:Nat) (p:Nat→Int) (c:Nat):St :=
  ⟨[.p .any,.p .any,.p .any,.p .any,.ar 1 0 0 m,.p .any,.ar 1 2 0 r,.p (.int .i64 c)]++List.replicate 107 anyA,mH n m M r p,3⟩
def Q2 (n m:Nat) (M:Nat→Nat→Int) (r:Nat) (p:Nat→Int) (c i:Nat):St :=
  ⟨[.p .any,.p .any,.p .any,.p .any,.ar 1 0 0 m,.p .any,.ar 1 2 0 r,.p (.int .i64 c),.p (.int .i64 i)]++List.replicate 106 anyA,mH n m M r p,3⟩
def Q3 (n m:Nat) (M:Nat→Nat→Int) (r:Nat) (p:Nat→Int) (c i:Nat):St :=
  ⟨[.p .any,.p .any,.p .any,.p .any,.ar 1 0 0 m,.p .any,.ar 1 2 0 r,.p (.int .i64 c),.p .any,.ar 1 ⟨1,some r⟩ 0 n,.p (.int .i64 i)]++List.replicate 104 anyA,mH n m M r p,3⟩
theorem cpz (m:Nat) (C:Nat→T_IntS) :
    pieceOb Tryz.prog 0 [rg 1,rg 2,rg 3,.head] [.code (bodyOf Tryz.f355)] (start Tryz.f355 [] 0 [ssA2 m C]) [32] 1 (CLs m C 0) =
    some (zf69,[(AN 0),(AN 0),(AN m),(AP m (fun i=>[.seq true 1 ((C i).1) (fun i_1=>[.int .i64 ((C i).2 i_1)])])),(AI ((↑m:Int))),((0:Int)=(↑0:Int)),(AN 1),(NL 0 0),(∀ i:Nat,(((i:Nat)<0)→(All []∧(([.p (.nil)]:List AV)=[.ar 1 ⟨1,some i⟩ 0 ((C i).1)])))),(AN 0)]):=by kernel_rfl
theorem cpt (m:Nat) (C:Nat→T_IntS) (i:Nat) :
    pieceOb Tryz.prog 0 [rg 1,.dec true,rg 3,rm [(2,oc [(0,iOb (C i).1 (C i).2)] (.ar 1 0 0 (C i).1))] 3,rg 2,.head] zf69 (CLs m C i) [258,.ins 1 i 194] 1 (CLs m C (i+1)) =
    some (zf69,[((decide ((↑i:Int)<(↑m:Int)))=true),(IL 0 (↑i:Int)),(IT (↑i:Int) (↑m:Int)),Con Tryz.prog 165 0 [] [.p (.seq true 1 ((C i).1) (fun i_1=>[.int .i64 ((C i).2 i_1)]))] [(0,⟨false,1,((C i).1),(fun i_1=>[.p (.int .i64 ((C i).2 i_1))])⟩)] (.ar 1 0 0 ((C i).1)),(NL 1 1),(NL i i),(NL ((i+1)*24) 140737488355328),(NL (i+1) 9223372036854775807),(ZLo ((↑i:Int)+1)),(ZHi ((↑i:Int)+1)),(AN 0),(AN ((i+1))),(AN m),(AP m (fun i_1=>[.seq true 1 ((C i_1).1) (fun i_2=>[.int .i64 ((C i_1).2 i_2)])])),(AI ((↑m:Int))),((((↑i:Int)+1):Int)=(↑(i+1):Int)),(AN 1),(NL (i+1) (i+1)),(CV [(258,⟨false,1,(i+1),(fun i_2=>(if (i_2<i) then [.ar 1 ⟨1,some i_2⟩ 0 ((C i_2).1)] else [.ar 1 194 0 ((C i).1)]))⟩),(226,⟨false,1,1,(fun i_2=>[.ar 1 194 0 ((C i).1)])⟩),(194,⟨false,1,((C i).1),(fun i_2=>[.p (.int .i64 ((C i).2 i_2))])⟩),(1,⟨true,0,i,(fun i_2=>[.p (.seq false 1 ((C i_2).1) (fun i_3=>[.int .i64 ((C i_2).2 i_3)]))])⟩)] [258,.ins 1 i 194] 1 (i+1) (fun i_1=>if (i_1<i) then [.ar 1 ⟨1,some i_1⟩ 0 ((C i_1).1)] else [.ar 1 194 0 ((C i).1)]) (fun i_1=>[.ar 1 ⟨1,some i_1⟩ 0 ((C i_1).1)])),(∀ i_1:Nat,(((i_1:Nat)<(i+1))→(((i_1:Nat)≠i)→(((i_1:Nat)<i)∧All [(AN 1),((((C i_1).1):Nat)≤((C i_1).1)),(AP (((C i_1).1)) (fun r=>[.int .i64 ((C i_1).2 r)]))])))),(((i:Nat)<(i+1))→ All [(AN 1),((((C i).1):Nat)≤((C i).1)),(AP (((C i).1)) (fun r=>[.int .i64 ((C i).2 r)]))])]):=by kernel_rfl
theorem cpe (m:Nat) (C:Nat→T_IntS) (i:Nat) :
    pathOb Tryz.prog Tryz.f355 0 [rg 1,.dec false,rg 2] zf69 (CLs m C i) [0,1] 1 [(0,ooOb 1 i C),(1,ffOb i C)] (.ar 1 0 0 i) =
    some [((decide ((↑i:Int)<(↑m:Int)))=false),(AN 0),(AN i),(AN 1),(NL i i),(AA i (fun i_1=>[.ar 1 ⟨1,some i_1⟩ 0 ((C i_1).1)])),(NL i i),(∀ i_1:Nat,(((i_1:Nat)<i)→All [(AN 1),((((C i_1).1):Nat)≤((C i_1).1)),(AP (((C i_1).1)) (fun r=>[.int .i64 ((C i_1).2 r)]))])),(AE i),(∀ i_1:Nat,(((i_1:Nat)<i)→All [(false=false),(AE (((C i_1).1)))]))]:=by kernel_rfl
theorem rdz (n m:Nat) (M:Nat→Nat→Int) :
    pieceOb Tryz.prog 0 [rg 3,rm [(1,oc [(0,ooOb 1 m (cM n M)),(1,ffOb m (cM n M))] (.ar 1 0 0 m))] 1,rg 2,rg 1,rg 1,.head] [.code (bodyOf Tryz.f317)] (start Tryz.f317 [] 0 [ssA2 m (cM n M),.p (.int .i64 n)]) [128,129,192] 1 (R0 n m M 0 (fun _=>0) 1 0) =
    some (zf45,[Con Tryz.prog 355 0 [] [.p (.seq true 1 m (fun i=>[.seq true 1 n (fun i_1=>[.int .i64 ((cM n M i).2 i_1)])]))] [(0,⟨false,1,m,(fun i=>[.ar 1 ⟨1,some i⟩ 0 n])⟩),(1,⟨true,0,m,(fun i=>[.p (.seq false 1 n (fun i_1=>[.int .i64 ((cM n M i).2 i_1)]))])⟩)] (.ar 1 0 0 m),(AI ((↑n:Int))),(AN 0),(AN m),(AN 0),(AN 0),(AI 1),((0:Int)=(↑0:Int)),(AN 1),(NL m m),(AA m (fun i=>[.ar 1 ⟨1,some i⟩ 0 n])),(NL m m),(∀ i:Nat,(((i:Nat)<m)→All [(AN 1),((n:Nat)≤n),(AP n (fun r=>[.int .i64 ((cM n M i).2 r)]))])),(AN 1),(NL 0 0),(AA 0 (fun i=>[.p (.int .i64 0)]))]):=by kernel_rfl
theorem rde (n m:Nat) (M:Nat→Nat→Int) (r:Nat) (p:Nat→Int) (d:Int) (c:Nat) :
    pathOb Tryz.prog Tryz.f317 0 [rg 10,.dec false,rg 6] zf45 (R0 n m M r p d c) [0,1,2] 1 (mH n m M r p) (.tup [.ar 1 0 0 m,.ar 1 2 0 r,.p (.int .i64 d)]) =
    some [(AG (decide ((↑c:Int)<(↑n:Int)))),(AG (decide ((↑c:Int)<(↑n:Int)))),(AG (decide ((↑c:Int)<(↑n:Int)))),(AG (decide ((↑c:Int)<(↑n:Int)))),(AG (decide ((↑c:Int)<(↑n:Int)))),((bif decide ((↑c:Int)<(↑n:Int)) then decide ((↑r:Int)<(↑m:Int)) else false)=false),(AN 0),(AN m),(AN 0),(AN r),(AI d),(AN 1),(NL m m),(AA m (fun i=>[.ar 1 ⟨1,some i⟩ 0 n])),(NL m m),(∀ i:Nat,(((i:Nat)<m)→All [(AN 1),((n:Nat)≤n),(AP n (fun r_1=>[.int .i64 ((cM n M i).2 r_1)]))])),(AN 1),(NL r r),(AA r (fun i=>[.p (.int .i64 (p i))])),(AE m),(∀ i:Nat,(((i:Nat)<m)→All [(false=false),(AE n)])),(AE r)]:=by kernel_rfl
theorem rdb (n m:Nat) (M:Nat→Nat→Int) (r:Nat) (p:Nat→Int) (d:Int) (c:Nat) :
    pieceOb Tryz.prog 0 [rg 10,.dec true,rg 3,rg 2,.head] zf45 (R0 n m M r p d c) [0,1,2] 1 (R1 n m M r p d c r) =
    some (zf9,[(AG (decide ((↑c:Int)<(↑n:Int)))),(AG (decide ((↑c:Int)<(↑n:Int)))),(AG (decide ((↑c:Int)<(↑n:Int)))),(AG (decide ((↑c:Int)<(↑n:Int)))),(AG (decide ((↑c:Int)<(↑n:Int)))),((bif decide ((↑c:Int)<(↑n:Int)) then decide ((↑r:Int)<(↑m:Int)) else false)=true),(AI ((↑n:Int))),(AN 0),(AN m),(AN 0),(AN r),(AI d),(AI ((↑c:Int))),(AI ((↑r:Int))),(AI ((↑r:Int))),(AN 1),(NL m m),(AA m (fun i=>[.ar 1 ⟨1,some i⟩ 0 n])),(NL m m),(∀ i:Nat,(((i:Nat)<m)→All [(AN 1),((n:Nat)≤n),(AP n (fun r_1=>[.int .i64 ((cM n M i).2 r_1)]))])),(AN 1),(NL r r),(AA r (fun i=>[.p (.int .i64 (p i))]))]):=by kernel_rfl
theorem rds (n m:Nat) (M:Nat→Nat→Int) (r:Nat) (p:Nat→Int) (d:Int) (c i:Nat) :
    pieceOb Tryz.prog 0 [rg 14,.dec true,rg 3,.head] zf9 (R1 n m M r p d c i) [0,1,2] 1 (R1 n m M r p d c (i+1)) =
    some (zf9,[(AG (decide ((↑i:Int)<(↑m:Int)))),(AG (decide ((↑i:Int)<(↑m:Int)))),(((decide ((↑i:Int)<(↑m:Int)))=true)→(IL 0 (↑i:Int))),(((decide ((↑i:Int)<(↑m:Int)))=true)→(IT (↑i:Int) (↑m:Int))),(AG (decide ((↑i:Int)<(↑m:Int)))),(((decide ((↑i:Int)<(↑m:Int)))=true)→(NT i m)),(AG (decide ((↑i:Int)<(↑m:Int)))),(AG (decide ((↑i:Int)<(↑m:Int)))),(((decide ((↑i:Int)<(↑m:Int)))=true)→(IL 0 (↑c:Int))),(((decide ((↑i:Int)<(↑m:Int)))=true)→(IT (↑c:Int) (↑n:Int))),(AG (decide ((↑i:Int)<(↑m:Int)))),(((decide ((↑i:Int)<(↑m:Int)))=true)→(NT i m)),(((decide ((↑i:Int)<(↑m:Int)))=true)→(NT c n)),(AG (decide ((↑i:Int)<(↑m:Int)))),(AG (decide ((↑i:Int)<(↑m:Int)))),((bif decide ((↑i:Int)<(↑m:Int)) then (cM n M i).2 c==0 else false)=true),(ZLo ((↑i:Int)+1)),(ZHi ((↑i:Int)+1)),(AI ((↑n:Int))),(AN 0),(AN m),(AN 0),(AN r),(AI d),(AI ((↑c:Int))),(AI ((↑r:Int))),((((↑i:Int)+1):Int)=(↑(i+1):Int)),(AN 1),(NL m m),(AA m (fun i_1=>[.ar 1 ⟨1,some i_1⟩ 0 n])),(NL m m),(∀ i_1:Nat,(((i_1:Nat)<m)→All [(AN 1),((n:Nat)≤n),(AP n (fun r_1=>[.int .i64 ((cM n M i_1).2 r_1)]))])),(AN 1),(NL r r),(AA r (fun i_1=>[.p (.int .i64 (p i_1))]))]):=by kernel_rfl
theorem rdn (n m:Nat) (M:Nat→Nat→Int) (r:Nat) (p:Nat→Int) (d:Int) (c i:Nat) :
    pieceOb Tryz.prog 0 [rg 14,.dec false,rg 4,.dec true,rg 3,.head] zf9 (R1 n m M r p d c i) [0,1,2] 1 (R0 n m M r p d (c+1)) =
    some (zf45,[(AG (decide ((↑i:Int)<(↑m:Int)))),(AG (decide ((↑i:Int)<(↑m:Int)))),(((decide ((↑i:Int)<(↑m:Int)))=true)→(IL 0 (↑i:Int))),(((decide ((↑i:Int)<(↑m:Int)))=true)→(IT (↑i:Int) (↑m:Int))),(AG (decide ((↑i:Int)<(↑m:Int)))),(((decide ((↑i:Int)<(↑m:Int)))=true)→(NT i m)),(AG (decide ((↑i:Int)<(↑m:Int)))),(AG (decide ((↑i:Int)<(↑m:Int)))),(((decide ((↑i:Int)<(↑m:Int)))=true)→(IL 0 (↑c:Int))),(((decide ((↑i:Int)<(↑m:Int)))=true)→(IT (↑c:Int) (↑n:Int))),(AG (decide ((↑i:Int)<(↑m:Int)))),(((decide ((↑i:Int)<(↑m:Int)))=true)→(NT i m)),(((decide ((↑i:Int)<(↑m:Int)))=true)→(NT c n)),(AG (decide ((↑i:Int)<(↑m:Int)))),(AG (decide ((↑i:Int)<(↑m:Int)))),((bif decide ((↑i:Int)<(↑m:Int)) then (cM n M i).2 c==0 else false)=false),(((↑i:Int)==(↑m:Int))=true),(ZLo ((↑c:Int)+1)),(ZHi ((↑c:Int)+1)),(AI ((↑n:Int))),(AN 0),(AN m),(AN 0),(AN r),(AI d),((((↑c:Int)+1):Int)=(↑(c+1):Int)),(AN 1),(NL m m),(AA m (fun i_1=>[.ar 1 ⟨1,some i_1⟩ 0 n])),(NL m m),(∀ i_1:Nat,(((i_1:Nat)<m)→All [(AN 1),((n:Nat)≤n),(AP n (fun r_1=>[.int .i64 ((cM n M i_1).2 r_1)]))])),(AN 1),(NL r r),(AA r (fun i_1=>[.p (.int .i64 (p i_1))]))]):=by kernel_rfl
theorem rdp (n m:Nat) (M:Nat→Nat→Int) (r:Nat) (p:Nat→Int) (d:Int) (c q:Nat) :
    pieceOb Tryz.prog 0 [rg 14,.dec false,rg 4,.dec false,rg 16,.head] zf9 (R1 n m M r p d c q) [0,.perm 1 (sI r q) (sI r q),2] 1 (R1 n m (Had.sw M r q) r p d c q) =
    some (zf17,[(AG (decide ((↑q:Int)<(↑m:Int)))),(AG (decide ((↑q:Int)<(↑m:Int)))),(((decide ((↑q:Int)<(↑m:Int)))=true)→(IL 0 (↑q:Int))),(((decide ((↑q:Int)<(↑m:Int)))=true)→(IT (↑q:Int) (↑m:Int))),(AG (decide ((↑q:Int)<(↑m:Int)))),(((decide ((↑q:Int)<(↑m:Int)))=true)→(NT q m)),(AG (decide ((↑q:Int)<(↑m:Int)))),(AG (decide ((↑q:Int)<(↑m:Int)))),(((decide ((↑q:Int)<(↑m:Int)))=true)→(IL 0 (↑c:Int))),(((decide ((↑q:Int)<(↑m:Int)))=true)→(IT (↑c:Int) (↑n:Int))),(AG (decide ((↑q:Int)<(↑m:Int)))),(((decide ((↑q:Int)<(↑m:Int)))=true)→(NT q m)),(((decide ((↑q:Int)<(↑m:Int)))=true)→(NT c n)),(AG (decide ((↑q:Int)<(↑m:Int)))),(AG (decide ((↑q:Int)<(↑m:Int)))),((bif decide ((↑q:Int)<(↑m:Int)) then (cM n M q).2 c==0 else false)=false),(((↑q:Int)==(↑m:Int))=false),(IL 0 (↑q:Int)),(IT (↑q:Int) (↑m:Int)),(NT q m),(IL 0 (↑r:Int)),(IT (↑r:Int) (↑m:Int)),(NT r m),(IL 0 (↑r:Int)),(IT (↑r:Int) (↑m:Int)),(NT r m),((false=true)→ ((m:Nat)=1)),(IL 0 (↑q:Int)),(IT (↑q:Int) (↑m:Int)),(NT q m),((false=true)→ ((m:Nat)=1)),(AI ((↑n:Int))),(AN 0),(AN m),(AN 0),(AN r),(AI d),(AI ((↑c:Int))),(AI ((↑r:Int))),(AI ((↑q:Int))),(AN 1),(NL m m),(∀ i:Nat,(((i:Nat)<m)→(All (cvtL false [(0,⟨false,1,m,(fun i_1=>(if (i_1=q) then [.ar 1 ⟨1,some r⟩ 0 n] else (if (i_1=r) then [.ar 1 ⟨1,some q⟩ 0 n] else [.ar 1 ⟨1,some i_1⟩ 0 n])))⟩),(1,⟨true,0,m,(fun i_1=>[.p (.seq false 1 n (fun i_2=>[.int .i64 ((cM n M i_1).2 i_2)]))])⟩),(2,⟨false,1,r,(fun i_1=>[.p (.int .i64 (p i_1))])⟩)] [0,.perm 1 (sI r q) (sI r q),2] 1 (if (i=q) then [.ar 1 ⟨1,some r⟩ 0 n] else (if (i=r) then [.ar 1 ⟨1,some q⟩ 0 n] else [.ar 1 ⟨1,some i⟩ 0 n]))).2∧(((cvtL false [(0,⟨false,1,m,(fun i_1=>(if (i_1=q) then [.ar 1 ⟨1,some r⟩ 0 n] else (if (i_1=r) then [.ar 1 ⟨1,some q⟩ 0 n] else [.ar 1 ⟨1,some i_1⟩ 0 n])))⟩),(1,⟨true,0,m,(fun i_1=>[.p (.seq false 1 n (fun i_2=>[.int .i64 ((cM n M i_1).2 i_2)]))])⟩),(2,⟨false,1,r,(fun i_1=>[.p (.int .i64 (p i_1))])⟩)] [0,.perm 1 (sI r q) (sI r q),2] 1 (if (i=q) then [.ar 1 ⟨1,some r⟩ 0 n] else (if (i=r) then [.ar 1 ⟨1,some q⟩ 0 n] else [.ar 1 ⟨1,some i⟩ 0 n]))).1:List AV)=[.ar 1 ⟨1,some i⟩ 0 n])))),(∀ i:Nat,(((i:Nat)<m)→((((sI r q i):Nat)<m)∧((((sI r q (sI r q i)):Nat)=i)∧All [(AN 1),((n:Nat)≤n),(∀ r_1:Nat,(((r_1:Nat)<n)→(([.int .i64 ((cM n M (sI r q i)).2 r_1)]:List PV)=[.int .i64 ((cM n (Had.sw M r q) i).2 r_1)])))])))),(AN 1),(NL r r),(AA r (fun i=>[.p (.int .i64 (p i))]))]):=by kernel_rfl
theorem rdq (n m:Nat) (M:Nat→Nat→Int) (r:Nat) (p:Nat→Int) (d:Int) (c q:Nat) :
    pieceOb Tryz.prog 0 [rg 8,rg 3,.head] zf17 (R1 n m M r p d c q) [0,1,2] 1 (R2 n m M r p d c (M r c) 0) =
    some (zf6,[(IL 0 (↑r:Int)),(IT (↑r:Int) (↑m:Int)),(NT r m),(IL 0 (↑c:Int)),(IT (↑c:Int) (↑n:Int)),(NT r m),(NT c n),(AI ((↑n:Int))),(AN 0),(AN m),(AN 0),(AN r),(AI d),(AI ((↑c:Int))),(AI ((↑r:Int))),((((cM n M r).2 c):Int)=(M r c)),(AI ((↑m:Int))),((0:Int)=(↑0:Int)),(AN 1),(NL m m),(AA m (fun i=>[.ar 1 ⟨1,some i⟩ 0 n])),(NL m m),(∀ i:Nat,(((i:Nat)<m)→All [(AN 1),((n:Nat)≤n),(AP n (fun r_1=>[.int .i64 ((cM n M i).2 r_1)]))])),(AN 1),(NL r r),(AA r (fun i=>[.p (.int .i64 (p i))]))]):=by kernel_rfl
theorem rdr (n m:Nat) (M M':Nat→Nat→Int) (r:Nat) (p:Nat→Int) (d:Int) (c:Nat) (x:Int) (i:Nat) :
    pieceOb Tryz.prog 0 [rg 1,.dec true,rg 2,rg 3,.dec true,rg 2,.head] zf6 (R2 n m M r p d c x i) [0,1,2] 1 (R2 n m M' r p d c x (i+1)) =
    some (zf6,[((decide ((↑i:Int)<(↑m:Int)))=true),(((↑i:Int)==(↑r:Int))=true),(ZLo ((↑i:Int)+1)),(ZHi ((↑i:Int)+1)),(AI ((↑n:Int))),(AN 0),(AN m),(AN 0),(AN r),(AI d),(AI ((↑c:Int))),(AI ((↑r:Int))),(AI x),(AI ((↑m:Int))),((((↑i:Int)+1):Int)=(↑(i+1):Int)),(AN 1),(NL m m),(AA m (fun i_1=>[.ar 1 ⟨1,some i_1⟩ 0 n])),(NL m m),(∀ i_1:Nat,(((i_1:Nat)<m)→All [(AN 1),((n:Nat)≤n),(∀ r_1:Nat,(((r_1:Nat)<n)→(([.int .i64 ((cM n M i_1).2 r_1)]:List PV)=[.int .i64 ((cM n M' i_1).2 r_1)])))])),(AN 1),(NL r r),(AA r (fun i_1=>[.p (.int .i64 (p i_1))]))]):=by kernel_rfl
theorem rdi (n m:Nat) (M:Nat→Nat→Int) (r:Nat) (p:Nat→Int) (d:Int) (c:Nat) (x:Int) (i:Nat) :
    pieceOb Tryz.prog 0 [rg 1,.dec true,rg 2,rg 3,.dec false,rg 8,rg 2,.head] zf6 (R2 n m M r p d c x i) [0,1,2] 1 (R3 n m M r p d c x i (M i c) 0) =
    some (zf2,[((decide ((↑i:Int)<(↑m:Int)))=true),(((↑i:Int)==(↑r:Int))=false),(IL 0 (↑i:Int)),(IT (↑i:Int) (↑m:Int)),(NT i m),(IL 0 (↑c:Int)),(IT (↑c:Int) (↑n:Int)),(NT i m),(NT c n),(AI ((↑n:Int))),(AN 0),(AN m),(AN 0),(AN r),(AI d),(AI ((↑c:Int))),(AI ((↑r:Int))),(AI x),(AI ((↑i:Int))),((((cM n M i).2 c):Int)=(M i c)),(AI ((↑m:Int))),(AI ((↑i:Int))),(AI ((↑n:Int))),((0:Int)=(↑0:Int)),(AN 1),(NL m m),(AA m (fun i_1=>[.ar 1 ⟨1,some i_1⟩ 0 n])),(NL m m),(∀ i_1:Nat,(((i_1:Nat)<m)→All [(AN 1),((n:Nat)≤n),(AP n (fun r_1=>[.int .i64 ((cM n M i_1).2 r_1)]))])),(AN 1),(NL r r),(AA r (fun i_1=>[.p (.int .i64 (p i_1))]))]):=by kernel_rfl
theorem rdk (n m:Nat) (M M':Nat→Nat→Int) (r:Nat) (p:Nat→Int) (d:Int) (c:Nat) (x:Int) (i:Nat) (f:Int) (k:Nat) :
    pieceOb Tryz.prog 0 [rg 1,.dec true,rg 2,rm [(13,oF),(8,oF),(0,oF),(1,oF)] 2,rg 2,.head] zf2 (R3 n m M r p d c x i f k) [0,1,2] 1 (R3 n m M' r p d c x i f (k+1)) =
    some (zf2,[((decide ((↑k:Int)<(↑n:Int)))=true),(IL 0 (↑i:Int)),(IT (↑i:Int) (↑m:Int)),(NT i m),(IL 0 (↑i:Int)),(IT (↑i:Int) (↑m:Int)),(NT i m),(IL 0 (↑k:Int)),(IT (↑k:Int) (↑n:Int)),(NT i m),(NT k n),(IL 0 (↑r:Int)),(IT (↑r:Int) (↑m:Int)),(NT r m),(IL 0 (↑k:Int)),(IT (↑k:Int) (↑n:Int)),(NT r m),(NT k n),((d:Int)≠0),(IL 0 (↑k:Int)),(IT (↑k:Int) (↑n:Int)),(NT i m),(NT k n),((false=true)→ ((n:Nat)=1)),(ZLo ((↑k:Int)+1)),(ZHi ((↑k:Int)+1)),(AI ((↑n:Int))),(AN 0),(AN m),(AN 0),(AN r),(AI d),(AI ((↑c:Int))),(AI ((↑r:Int))),(AI x),(AI ((↑i:Int))),(AI f),(AI ((↑m:Int))),(AI ((↑i:Int))),(AI ((↑n:Int))),((((↑k:Int)+1):Int)=(↑(k+1):Int)),(AN 1),(NL m m),(AA m (fun i_1=>[.ar 1 ⟨1,some i_1⟩ 0 n])),(NL m m),(∀ i_1:Nat,(((i_1:Nat)<m)→All (famE (if (i_1=i) then [.p (.seq false 1 n (fun i_2=>[(toP (List.getD ((if (i_2=k) then [.p (.int .i64 (IntKind.i64.wrap ((IntKind.i64.wrap (IntKind.i64.wrap (x*(cM n M i).2 k) - IntKind.i64.wrap (f*(cM n M r).2 k))).tdiv d)))] else [.p (.int .i64 ((cM n M i).2 i_2))]):List AV) 0 (.p .any)))]))] else [.p (.seq false 1 n (fun i_2=>[.int .i64 ((cM n M i_1).2 i_2)]))]) [.p (.seq false 1 n (fun i_2=>[.int .i64 ((cM n M' i_1).2 i_2)]))]))),(AN 1),(NL r r),(AA r (fun i_1=>[.p (.int .i64 (p i_1))]))]):=by kernel_rfl
theorem rdx (n m:Nat) (M M':Nat→Nat→Int) (r:Nat) (p:Nat→Int) (d:Int) (c:Nat) (x:Int) (i:Nat) (f:Int) (k:Nat) :
    pieceOb Tryz.prog 0 [rg 1,.dec false,rg 2,.head] zf2 (R3 n m M r p d c x i f k) [0,1,2] 1 (R2 n m M' r p d c x (i+1)) =
    some (zf6,[((decide ((↑k:Int)<(↑n:Int)))=false),(ZLo ((↑i:Int)+1)),(ZHi ((↑i:Int)+1)),(AI ((↑n:Int))),(AN 0),(AN m),(AN 0),(AN r),(AI d),(AI ((↑c:Int))),(AI ((↑r:Int))),(AI x),(AI ((↑m:Int))),((((↑i:Int)+1):Int)=(↑(i+1):Int)),(AN 1),(NL m m),(AA m (fun i_1=>[.ar 1 ⟨1,some i_1⟩ 0 n])),(NL m m),(∀ i_1:Nat,(((i_1:Nat)<m)→All [(AN 1),((n:Nat)≤n),(∀ r_1:Nat,(((r_1:Nat)<n)→(([.int .i64 ((cM n M i_1).2 r_1)]:List PV)=[.int .i64 ((cM n M' i_1).2 r_1)])))])),(AN 1),(NL r r),(AA r (fun i_1=>[.p (.int .i64 (p i_1))]))]):=by kernel_rfl
theorem rdy (n m:Nat) (M M':Nat→Nat→Int) (r:Nat) (p p':Nat→Int) (d:Int) (c:Nat) (x:Int) (i:Nat) :
    pieceOb Tryz.prog 0 [rg 1,.dec false,rg 5,rg 2,rg 3,.head] zf6 (R2 n m M r p d c x i) [0,1,131] 1 (R0 n m M' (r+1) p' x (c+1)) =
    some (zf45,[((decide ((↑i:Int)<(↑m:Int)))=false),(NL 1 1),(NL r r),(NL ((r+1)*8) 140737488355328),(NL (r+1) 9223372036854775807),(ZLo ((↑c:Int)+1)),(ZHi ((↑c:Int)+1)),(AI ((↑n:Int))),(AN 0),(AN m),(AN 0),(AN ((r+1))),(AI x),((((↑c:Int)+1):Int)=(↑(c+1):Int)),(AN 1),(NL m m),(AA m (fun i_1=>[.ar 1 ⟨1,some i_1⟩ 0 n])),(NL m m),(∀ i_1:Nat,(((i_1:Nat)<m)→All [(AN 1),((n:Nat)≤n),(∀ r_1:Nat,(((r_1:Nat)<n)→(([.int .i64 ((cM n M i_1).2 r_1)]:List PV)=[.int .i64 ((cM n M' i_1).2 r_1)])))])),(AN 1),(NL (r+1) (r+1)),(∀ i_1:Nat,(((i_1:Nat)<(r+1))→(All (cvtL false [(131,⟨false,1,(r+1),(fun i_2=>(if (i_2<r) then [.p (.int .i64 (p i_2))] else [.p (.int .i64 (↑c:Int))]))⟩),(99,⟨false,1,1,(fun i_2=>[.p (.int .i64 (↑c:Int))])⟩),(0,⟨false,1,m,(fun i_2=>[.ar 1 ⟨1,some i_2⟩ 0 n])⟩),(1,⟨true,0,m,(fun i_2=>[.p (.seq false 1 n (fun i_3=>[.int .i64 ((cM n M i_2).2 i_3)]))])⟩)] [0,1,131] 1 (if (i_1<r) then [.p (.int .i64 (p i_1))] else [.p (.int .i64 (↑c:Int))])).2∧(((cvtL false [(131,⟨false,1,(r+1),(fun i_2=>(if (i_2<r) then [.p (.int .i64 (p i_2))] else [.p (.int .i64 (↑c:Int))]))⟩),(99,⟨false,1,1,(fun i_2=>[.p (.int .i64 (↑c:Int))])⟩),(0,⟨false,1,m,(fun i_2=>[.ar 1 ⟨1,some i_2⟩ 0 n])⟩),(1,⟨true,0,m,(fun i_2=>[.p (.seq false 1 n (fun i_3=>[.int .i64 ((cM n M i_2).2 i_3)]))])⟩)] [0,1,131] 1 (if (i_1<r) then [.p (.int .i64 (p i_1))] else [.p (.int .i64 (↑c:Int))])).1:List AV)=[.p (.int .i64 (p' i_1))]))))]):=by kernel_rfl
theorem wxz (n j:Nat) (a row:Nat→Int) (g x y:Int) (h:Nat→Int) :
    pieceOb Tryz.prog 0 [rg 1,rm [(8,oc [] (.p (.int .i64 g)))] 1,rm [(5,oF)] 1,rm [(5,oF)] 1,rg 2,rg 1,.head] [.code (bodyOf Tryz.f314)] (start Tryz.f314 [] 0 [inD n a,inD n row,.p (.int .i64 j)]) [800] 1 (WoS n a row x y 0 h) =
    some (zf41,[(IL 0 (↑j:Int)),(IT (↑j:Int) (↑n:Int)),(IL 0 (↑j:Int)),(IT (↑j:Int) (↑n:Int)),Con Tryz.prog 354 0 [] [.p (.int .i64 (a j)),.p (.int .i64 (row j))] [] (.p (.int .i64 g)),(IL 0 (↑j:Int)),(IT (↑j:Int) (↑n:Int)),((g:Int)≠0),(IL 0 (↑j:Int)),(IT (↑j:Int) (↑n:Int)),((g:Int)≠0),(AN n),(AP n (fun i=>[.int .i64 (a i)])),(AN n),(AP n (fun i=>[.int .i64 (row i)])),(((IntKind.i64.wrap ((row j).tdiv g)):Int)=x),(((IntKind.i64.wrap ((a j).tdiv g)):Int)=y),(AN 0),(AN 0),((0:Int)=(↑0:Int)),(AN 1),(NL 0 0),(∀ i:Nat,(((i:Nat)<0)→(All []∧(([.p (.int .i64 0)]:List AV)=[.p (.int .i64 (h i))]))))]):=by kernel_rfl
theorem wxt (n:Nat) (a row:Nat→Int) (x y:Int) (i:Nat) (h h':Nat→Int) :
    pieceOb Tryz.prog 0 [rg 4,.dec true,rm [(6,oF),(5,oF),(0,oF)] 3,rg 3,.head] zf41 (WoS n a row x y i h) [609] 1 (WoS n a row x y (i+1) h') =
    some (zf41,[((decide ((↑i:Int)<(↑n:Int)))=true),(IL 0 (↑i:Int)),(IT (↑i:Int) (↑n:Int)),(IL 0 (↑i:Int)),(IT (↑i:Int) (↑n:Int)),(NL 1 1),(NL i i),(NL ((i+1)*8) 140737488355328),(NL (i+1) 9223372036854775807),(ZLo ((↑i:Int)+1)),(ZHi ((↑i:Int)+1)),(AN n),(AP n (fun i_1=>[.int .i64 (a i_1)])),(AN n),(AP n (fun i_1=>[.int .i64 (row i_1)])),(AI x),(AI y),(AN 0),(AN ((i+1))),((((↑i:Int)+1):Int)=(↑(i+1):Int)),(AN 1),(NL (i+1) (i+1)),(∀ i_1:Nat,(((i_1:Nat)<(i+1))→(All (cvtL false [(609,⟨false,1,(i+1),(fun i_2=>(if (i_2<i) then [.p (.int .i64 (h i_2))] else [.p (.int .i64 (IntKind.i64.wrap (IntKind.i64.wrap (a i*x) - IntKind.i64.wrap (row i*y))))]))⟩),(577,⟨false,1,1,(fun i_2=>[.p (.int .i64 (IntKind.i64.wrap (IntKind.i64.wrap (a i*x) - IntKind.i64.wrap (row i*y))))])⟩)] [609] 1 (if (i_1<i) then [.p (.int .i64 (h i_1))] else [.p (.int .i64 (IntKind.i64.wrap (IntKind.i64.wrap (a i*x) - IntKind.i64.wrap (row i*y))))])).2∧(((cvtL false [(609,⟨false,1,(i+1),(fun i_2=>(if (i_2<i) then [.p (.int .i64 (h i_2))] else [.p (.int .i64 (IntKind.i64.wrap (IntKind.i64.wrap (a i*x) - IntKind.i64.wrap (row i*y))))]))⟩),(577,⟨false,1,1,(fun i_2=>[.p (.int .i64 (IntKind.i64.wrap (IntKind.i64.wrap (a i*x) - IntKind.i64.wrap (row i*y))))])⟩)] [609] 1 (if (i_1<i) then [.p (.int .i64 (h i_1))] else [.p (.int .i64 (IntKind.i64.wrap (IntKind.i64.wrap (a i*x) - IntKind.i64.wrap (row i*y))))])).1:List AV)=[.p (.int .i64 (h' i_1))]))))]):=by kernel_rfl
theorem wxe (n:Nat) (a row:Nat→Int) (x y:Int) (h r:Nat→Int) :
    pathOb Tryz.prog Tryz.f314 0 [rg 4,.dec false,rm [(1,oc [(0,iOb n r)] (.ar 1 0 0 n))] 1] zf41 (WoS n a row x y n h) [161] 1 [(0,iOb n r)] (.ar 1 0 0 n) =
    some [((decide ((↑n:Int)<(↑n:Int)))=false),(AN 1),(NL n n),Con Tryz.prog 313 0 [] [.p (.seq true 1 n (fun i=>[.int .i64 (h i)]))] [(0,⟨false,1,n,(fun i=>[.p (.int .i64 (r i))])⟩)] (.ar 1 0 0 n),(AN 0),(AN n),(AN 1),(NL n n),(AA n (fun i=>[.p (.int .i64 (r i))])),(AE n)]:=by kernel_rfl
theorem qza (m:Nat) (C D:Nat→T_IntS) :
    pieceOb Tryz.prog 0 [rg 2,rg 2,rg 1,.head] [.code (bodyOf Tryz.f226)] (start Tryz.f226 [] 0 [ssA2 m C]) [64] 1 (Q0 m C 0 D) =
    some (zf70,[(AN m),(AP m (fun i=>[.seq true 1 ((C i).1) (fun i_1=>[.int .i64 ((C i).2 i_1)])])),(AN 0),(AN 0),((0:Int)=(↑0:Int)),(AN 1),(NL 0 0),(∀ i:Nat,(((i:Nat)<0)→(All []∧(([.p (.nil)]:List AV)=[.ar 1 ⟨1,some i⟩ 0 ((D i).1)])))),(AN 0)]):=by kernel_rfl
theorem qzb (m:Nat) (C D:Nat→T_IntS) (i:Nat) :
    pieceOb Tryz.prog 0 [rg 4,.dec true,rm [(5,oc [(0,iOb (D i).1 (D i).2)] (.ar 1 0 0 (D i).1))] 3,rg 3,.head] zf70 (Q0 m C i D) [354,.ins 1 i 290] 1 (Q0 m C (i+1) D) =
    some (zf70,[((decide ((↑i:Int)<(↑m:Int)))=true),(IL 0 (↑i:Int)),(IT (↑i:Int) (↑m:Int)),Con Tryz.prog 313 0 [] [.p (.seq true 1 ((C i).1) (fun i_1=>[.int .i64 ((C i).2 i_1)]))] [(0,⟨false,1,((D i).1),(fun i_1=>[.p (.int .i64 ((D i).2 i_1))])⟩)] (.ar 1 0 0 ((D i).1)),(NL 1 1),(NL i i),(NL ((i+1)*24) 140737488355328),(NL (i+1) 9223372036854775807),(ZLo ((↑i:Int)+1)),(ZHi ((↑i:Int)+1)),(AN m),(AP m (fun i_1=>[.seq true 1 ((C i_1).1) (fun i_2=>[.int .i64 ((C i_1).2 i_2)])])),(AN 0),(AN ((i+1))),((((↑i:Int)+1):Int)=(↑(i+1):Int)),(AN 1),(NL (i+1) (i+1)),(CV [(354,⟨false,1,(i+1),(fun i_2=>(if (i_2<i) then [.ar 1 ⟨1,some i_2⟩ 0 ((D i_2).1)] else [.ar 1 290 0 ((D i).1)]))⟩),(322,⟨false,1,1,(fun i_2=>[.ar 1 290 0 ((D i).1)])⟩),(290,⟨false,1,((D i).1),(fun i_2=>[.p (.int .i64 ((D i).2 i_2))])⟩),(1,⟨true,0,i,(fun i_2=>[.p (.seq false 1 ((D i_2).1) (fun i_3=>[.int .i64 ((D i_2).2 i_3)]))])⟩)] [354,.ins 1 i 290] 1 (i+1) (fun i_1=>if (i_1<i) then [.ar 1 ⟨1,some i_1⟩ 0 ((D i_1).1)] else [.ar 1 290 0 ((D i).1)]) (fun i_1=>[.ar 1 ⟨1,some i_1⟩ 0 ((D i_1).1)])),(∀ i_1:Nat,(((i_1:Nat)<(i+1))→(((i_1:Nat)≠i)→(((i_1:Nat)<i)∧All [(AN 1),((((D i_1).1):Nat)≤((D i_1).1)),(AP (((D i_1).1)) (fun r=>[.int .i64 ((D i_1).2 r)]))])))),(((i:Nat)<(i+1))→ All [(AN 1),((((D i).1):Nat)≤((D i).1)),(AP (((D i).1)) (fun r=>[.int .i64 ((D i).2 r)]))])]):=by kernel_rfl
theorem qzc (n m:Nat) (C:Nat→T_IntS) (M:Nat→Nat→Int) :
    pieceOb Tryz.prog 0 [rg 4,.dec false,rg 2,rg 1,.head] zf70 (Q0 m C m (cM n M)) [0,1,130] 1 (Q1 n m M 0 (fun _=>0) 0) =
    some (zf46,[((decide ((↑m:Int)<(↑m:Int)))=false),(AN 0),(AN m),(AN 0),(AN 0),((0:Int)=(↑0:Int)),(AN 1),(NL m m),(AA m (fun i=>[.ar 1 ⟨1,some i⟩ 0 n])),(NL m m),(∀ i:Nat,(((i:Nat)<m)→All [(AN 1),((n:Nat)≤n),(AP n (fun r=>[.int .i64 ((cM n M i).2 r)]))])),(AN 1),(NL 0 0),(AA 0 (fun i=>[.p (.int .i64 0)]))]):=by kernel_rfl
theorem qe (n m:Nat) (M:Nat→Nat→Int) (r:Nat) (p:Nat→Int) (c:Nat) :
    pathOb Tryz.prog Tryz.f226 0 [rg 11,.dec false,rg 4] zf46 (Q1 n m M r p c) [0,1,2] 1 (mH n m M r p) (.tup [.ar 1 0 0 m,.ar 1 2 0 r]) =
    some [(AG (decide ((↑m:Int)>0))),(((decide ((↑m:Int)>0))=true)→(IL 0 0)),(((decide ((↑m:Int)>0))=true)→(IT 0 (↑m:Int))),(AG (decide ((↑m:Int)>0))),(((decide ((↑m:Int)>0))=true)→(NT 0 m)),(AG (decide ((↑m:Int)>0))),(AG (decide ((↑m:Int)>0))),(AG (decide ((↑m:Int)>0))),(AG (decide ((↑m:Int)>0))),((bif decide ((↑m:Int)>0) then decide ((↑c:Int)<(↑(cM n M (Int.toNat 0+0)).1:Int)) else false)=false),(AN 0),(AN m),(AN 0),(AN r),(AN 1),(NL m m),(AA m (fun i=>[.ar 1 ⟨1,some i⟩ 0 n])),(NL m m),(∀ i:Nat,(((i:Nat)<m)→All [(AN 1),((n:Nat)≤n),(AP n (fun r_1=>[.int .i64 ((cM n M i).2 r_1)]))])),(AN 1),(NL r r),(AA r (fun i=>[.p (.int .i64 (p i))])),(AE m),(∀ i:Nat,(((i:Nat)<m)→All [(false=false),(AE n)])),(AE r)]:=by kernel_rfl
theorem qb (n m:Nat) (M:Nat→Nat→Int) (r:Nat) (p:Nat→Int) (c:Nat) :
    pieceOb Tryz.prog 0 [rg 11,.dec true,rg 3,.head] zf46 (Q1 n m M r p c) [0,1,2] 1 (Q2 n m M r p c r) =
    some (zf10,[(AG (decide ((↑m:Int)>0))),(((decide ((↑m:Int)>0))=true)→(IL 0 0)),(((decide ((↑m:Int)>0))=true)→(IT 0 (↑m:Int))),(AG (decide ((↑m:Int)>0))),(((decide ((↑m:Int)>0))=true)→(NT 0 m)),(AG (decide ((↑m:Int)>0))),(AG (decide ((↑m:Int)>0))),(AG (decide ((↑m:Int)>0))),(AG (decide ((↑m:Int)>0))),((bif decide ((↑m:Int)>0) then decide ((↑c:Int)<(↑(cM n M (Int.toNat 0+0)).1:Int)) else false)=true),(AN 0),(AN m),(AN 0),(AN r),(AI ((↑c:Int))),(AI ((↑r:Int))),(AN 1),(NL m m),(AA m (fun i=>[.ar 1 ⟨1,some i⟩ 0 n])),(NL m m),(∀ i:Nat,(((i:Nat)<m)→All [(AN 1),((n:Nat)≤n),(AP n (fun r_1=>[.int .i64 ((cM n M i).2 r_1)]))])),(AN 1),(NL r r),(AA r (fun i=>[.p (.int .i64 (p i))]))]):=by kernel_rfl
theorem qs (n m:Nat) (M:Nat→Nat→Int) (r:Nat) (p:Nat→Int) (c i:Nat) :
    pieceOb Tryz.prog 0 [rg 14,.dec true,rg 3,.head] zf10 (Q2 n m M r p c i) [0,1,2] 1 (Q2 n m M r p c (i+1)) =
    some (zf10,[(AG (decide ((↑i:Int)<(↑m:Int)))),(AG (decide ((↑i:Int)<(↑m:Int)))),(((decide ((↑i:Int)<(↑m:Int)))=true)→(IL 0 (↑i:Int))),(((decide ((↑i:Int)<(↑m:Int)))=true)→(IT (↑i:Int) (↑m:Int))),(AG (decide ((↑i:Int)<(↑m:Int)))),(((decide ((↑i:Int)<(↑m:Int)))=true)→(NT i m)),(AG (decide ((↑i:Int)<(↑m:Int)))),(AG (decide ((↑i:Int)<(↑m:Int)))),(((decide ((↑i:Int)<(↑m:Int)))=true)→(IL 0 (↑c:Int))),(((decide ((↑i:Int)<(↑m:Int)))=true)→(IT (↑c:Int) (↑n:Int))),(AG (decide ((↑i:Int)<(↑m:Int)))),(((decide ((↑i:Int)<(↑m:Int)))=true)→(NT i m)),(((decide ((↑i:Int)<(↑m:Int)))=true)→(NT c n)),(AG (decide ((↑i:Int)<(↑m:Int)))),(AG (decide ((↑i:Int)<(↑m:Int)))),((bif decide ((↑i:Int)<(↑m:Int)) then (cM n M i).2 c==0 else false)=true),(ZLo ((↑i:Int)+1)),(ZHi ((↑i:Int)+1)),(AN 0),(AN m),(AN 0),(AN r),(AI ((↑c:Int))),((((↑i:Int)+1):Int)=(↑(i+1):Int)),(AN 1),(NL m m),(AA m (fun i_1=>[.ar 1 ⟨1,some i_1⟩ 0 n])),(NL m m),(∀ i_1:Nat,(((i_1:Nat)<m)→All [(AN 1),((n:Nat)≤n),(AP n (fun r_1=>[.int .i64 ((cM n M i_1).2 r_1)]))])),(AN 1),(NL r r),(AA r (fun i_1=>[.p (.int .i64 (p i_1))]))]):=by kernel_rfl
theorem qn (n m:Nat) (M:Nat→Nat→Int) (r:Nat) (p:Nat→Int) (c i:Nat) :
    pieceOb Tryz.prog 0 [rg 14,.dec false,rg 4,.dec true,rg 3,.head] zf10 (Q2 n m M r p c i) [0,1,2] 1 (Q1 n m M r p (c+1)) =
    some (zf46,[(AG (decide ((↑i:Int)<(↑m:Int)))),(AG (decide ((↑i:Int)<(↑m:Int)))),(((decide ((↑i:Int)<(↑m:Int)))=true)→(IL 0 (↑i:Int))),(((decide ((↑i:Int)<(↑m:Int)))=true)→(IT (↑i:Int) (↑m:Int))),(AG (decide ((↑i:Int)<(↑m:Int)))),(((decide ((↑i:Int)<(↑m:Int)))=true)→(NT i m)),(AG (decide ((↑i:Int)<(↑m:Int)))),(AG (decide ((↑i:Int)<(↑m:Int)))),(((decide ((↑i:Int)<(↑m:Int)))=true)→(IL 0 (↑c:Int))),(((decide ((↑i:Int)<(↑m:Int)))=true)→(IT (↑c:Int) (↑n:Int))),(AG (decide ((↑i:Int)<(↑m:Int)))),(((decide ((↑i:Int)<(↑m:Int)))=true)→(NT i m)),(((decide ((↑i:Int)<(↑m:Int)))=true)→(NT c n)),(AG (decide ((↑i:Int)<(↑m:Int)))),(AG (decide ((↑i:Int)<(↑m:Int)))),((bif decide ((↑i:Int)<(↑m:Int)) then (cM n M i).2 c==0 else false)=false),(((↑i:Int)==(↑m:Int))=true),(ZLo ((↑c:Int)+1)),(ZHi ((↑c:Int)+1)),(AN 0),(AN m),(AN 0),(AN r),((((↑c:Int)+1):Int)=(↑(c+1):Int)),(AN 1),(NL m m),(AA m (fun i_1=>[.ar 1 ⟨1,some i_1⟩ 0 n])),(NL m m),(∀ i_1:Nat,(((i_1:Nat)<m)→All [(AN 1),((n:Nat)≤n),(AP n (fun r_1=>[.int .i64 ((cM n M i_1).2 r_1)]))])),(AN 1),(NL r r),(AA r (fun i_1=>[.p (.int .i64 (p i_1))]))]):=by kernel_rfl
theorem qp (n m:Nat) (M:Nat→Nat→Int) (r:Nat) (p:Nat→Int) (c q:Nat) :
    pieceOb Tryz.prog 0 [rg 14,.dec false,rg 4,.dec false,rg 5,rg 9,rg 6,rg 1,.head] zf10 (Q2 n m M r p c q) [0,.perm 1 (sI r q) (sI r q),2] 1 (Q3 n m (Had.sw M r q) r p c 0) =
    some (zf7,[(AG (decide ((↑q:Int)<(↑m:Int)))),(AG (decide ((↑q:Int)<(↑m:Int)))),(((decide ((↑q:Int)<(↑m:Int)))=true)→(IL 0 (↑q:Int))),(((decide ((↑q:Int)<(↑m:Int)))=true)→(IT (↑q:Int) (↑m:Int))),(AG (decide ((↑q:Int)<(↑m:Int)))),(((decide ((↑q:Int)<(↑m:Int)))=true)→(NT q m)),(AG (decide ((↑q:Int)<(↑m:Int)))),(AG (decide ((↑q:Int)<(↑m:Int)))),(((decide ((↑q:Int)<(↑m:Int)))=true)→(IL 0 (↑c:Int))),(((decide ((↑q:Int)<(↑m:Int)))=true)→(IT (↑c:Int) (↑n:Int))),(AG (decide ((↑q:Int)<(↑m:Int)))),(((decide ((↑q:Int)<(↑m:Int)))=true)→(NT q m)),(((decide ((↑q:Int)<(↑m:Int)))=true)→(NT c n)),(AG (decide ((↑q:Int)<(↑m:Int)))),(AG (decide ((↑q:Int)<(↑m:Int)))),((bif decide ((↑q:Int)<(↑m:Int)) then (cM n M q).2 c==0 else false)=false),(((↑q:Int)==(↑m:Int))=false),(IL 0 (↑q:Int)),(IT (↑q:Int) (↑m:Int)),(NT q m),(IL 0 (↑r:Int)),(IT (↑r:Int) (↑m:Int)),(NT r m),(IL 0 (↑q:Int)),(IT (↑q:Int) (↑m:Int)),(NT q m),((false=true)→ ((m:Nat)=1)),(IL 0 (↑r:Int)),(IT (↑r:Int) (↑m:Int)),(NT r m),((false=true)→ ((m:Nat)=1)),(AN 0),(AN m),(AN 0),(AN r),(AI ((↑c:Int))),(((sI r q (sI r q q)):Nat)=q),(((sI r q q):Nat)=r),(AN 0),(AN n),((0:Int)=(↑0:Int)),(AN 1),(NL m m),(∀ i:Nat,(((i:Nat)<m)→(All (cvtL false [(0,⟨false,1,m,(fun i_1=>(if (i_1=r) then [.ar 1 ⟨1,some q⟩ 0 n] else (if (i_1=q) then [.ar 1 ⟨1,some r⟩ 0 n] else [.ar 1 ⟨1,some i_1⟩ 0 n])))⟩),(1,⟨true,0,m,(fun i_1=>[.p (.seq false 1 n (fun i_2=>[.int .i64 ((cM n M i_1).2 i_2)]))])⟩),(2,⟨false,1,r,(fun i_1=>[.p (.int .i64 (p i_1))])⟩)] [0,.perm 1 (sI r q) (sI r q),2] 1 (if (i=r) then [.ar 1 ⟨1,some q⟩ 0 n] else (if (i=q) then [.ar 1 ⟨1,some r⟩ 0 n] else [.ar 1 ⟨1,some i⟩ 0 n]))).2∧(((cvtL false [(0,⟨false,1,m,(fun i_1=>(if (i_1=r) then [.ar 1 ⟨1,some q⟩ 0 n] else (if (i_1=q) then [.ar 1 ⟨1,some r⟩ 0 n] else [.ar 1 ⟨1,some i_1⟩ 0 n])))⟩),(1,⟨true,0,m,(fun i_1=>[.p (.seq false 1 n (fun i_2=>[.int .i64 ((cM n M i_1).2 i_2)]))])⟩),(2,⟨false,1,r,(fun i_1=>[.p (.int .i64 (p i_1))])⟩)] [0,.perm 1 (sI r q) (sI r q),2] 1 (if (i=r) then [.ar 1 ⟨1,some q⟩ 0 n] else (if (i=q) then [.ar 1 ⟨1,some r⟩ 0 n] else [.ar 1 ⟨1,some i⟩ 0 n]))).1:List AV)=[.ar 1 ⟨1,some i⟩ 0 n])))),(∀ i:Nat,(((i:Nat)<m)→((((sI r q i):Nat)<m)∧((((sI r q (sI r q i)):Nat)=i)∧All [(AN 1),((n:Nat)≤n),(∀ r_1:Nat,(((r_1:Nat)<n)→(([.int .i64 ((cM n M (sI r q i)).2 r_1)]:List PV)=[.int .i64 ((cM n (Had.sw M r q) i).2 r_1)])))])))),(AN 1),(NL r r),(AA r (fun i=>[.p (.int .i64 (p i))]))]):=by kernel_rfl
theorem qt (n m:Nat) (M M':Nat→Nat→Int) (r:Nat) (p:Nat→Int) (c i:Nat) (w:Nat→Int) :
    pieceOb Tryz.prog 0 [rg 4,.dec true,rg 14,.dec true,rm [(8,oc [(0,iOb n w)] (.ar 1 0 0 n))] 2,rg 3,.head] zf7 (Q3 n m M r p c i) [0,.ins 1 i 835,2] 1 (Q3 n m M' r p c (i+1)) =
    some (zf7,[((decide ((↑i:Int)<(↑m:Int)))=true),(AG ((↑i:Int) != (↑r:Int))),(AG ((↑i:Int) != (↑r:Int))),((((↑i:Int) != (↑r:Int))=true)→(IL 0 (↑i:Int))),((((↑i:Int) != (↑r:Int))=true)→(IT (↑i:Int) (↑m:Int))),(AG ((↑i:Int) != (↑r:Int))),((((↑i:Int) != (↑r:Int))=true)→(NT i m)),(AG ((↑i:Int) != (↑r:Int))),(AG ((↑i:Int) != (↑r:Int))),((((↑i:Int) != (↑r:Int))=true)→(IL 0 (↑c:Int))),((((↑i:Int) != (↑r:Int))=true)→(IT (↑c:Int) (↑n:Int))),(AG ((↑i:Int) != (↑r:Int))),((((↑i:Int) != (↑r:Int))=true)→(NT i m)),((((↑i:Int) != (↑r:Int))=true)→(NT c n)),(AG ((↑i:Int) != (↑r:Int))),(AG ((↑i:Int) != (↑r:Int))),((bif (↑i:Int) != (↑r:Int) then (cM n M i).2 c != 0 else false)=true),(IL 0 (↑i:Int)),(IT (↑i:Int) (↑m:Int)),(NT i m),(NT i m),(AN 1),(NL n n),(NT r m),(AN 1),(NL n n),Con Tryz.prog 314 0 [] [.p (.seq true 1 n (fun i_1=>[.int .i64 ((cM n M i).2 i_1)])),.p (.seq true 1 n (fun i_1=>[.int .i64 ((cM n M r).2 i_1)])),.p (.int .i64 (↑c:Int))] [(0,⟨false,1,n,(fun i_1=>[.p (.int .i64 (w i_1))])⟩)] (.ar 1 0 0 n),(IL 0 (↑i:Int)),(IT (↑i:Int) (↑m:Int)),(NT i m),((false=true)→ ((m:Nat)=1)),(ZLo ((↑i:Int)+1)),(ZHi ((↑i:Int)+1)),(AN 0),(AN m),(AN 0),(AN r),(AI ((↑c:Int))),((r:Nat)≠i),(AN r),(AN 0),(AN n),((((↑i:Int)+1):Int)=(↑(i+1):Int)),(AN 1),(NL m m),(CV [(0,⟨false,1,m,(fun i_2=>(if (i_2=i) then [.ar 1 835 0 n] else [.ar 1 ⟨1,some i_2⟩ 0 n]))⟩),(835,⟨false,1,n,(fun i_2=>[.p (.int .i64 (w i_2))])⟩),(1,⟨true,0,m,(fun i_2=>[.p (.seq false 1 n (fun i_3=>[.int .i64 ((cM n M i_2).2 i_3)]))])⟩),(2,⟨false,1,r,(fun i_2=>[.p (.int .i64 (p i_2))])⟩)] [0,.ins 1 i 835,2] 1 m (fun i_1=>if (i_1=i) then [.ar 1 835 0 n] else [.ar 1 ⟨1,some i_1⟩ 0 n]) (fun i_1=>[.ar 1 ⟨1,some i_1⟩ 0 n])),(∀ i_1:Nat,(((i_1:Nat)<m)→(((i_1:Nat)≠i)→(((i_1:Nat)<m)∧All [(AN 1),((n:Nat)≤n),(∀ r_1:Nat,(((r_1:Nat)<n)→(([.int .i64 ((cM n M i_1).2 r_1)]:List PV)=[.int .i64 ((cM n M' i_1).2 r_1)])))])))),(((i:Nat)<m)→ All [(AN 1),((n:Nat)≤n),(∀ r_1:Nat,(((r_1:Nat)<n)→(([.int .i64 (w r_1)]:List PV)=[.int .i64 ((cM n M' i).2 r_1)])))]),(AN 1),(NL r r),(AA r (fun i_1=>[.p (.int .i64 (p i_1))]))]):=by kernel_rfl
theorem qf (n m:Nat) (M M':Nat→Nat→Int) (r:Nat) (p:Nat→Int) (c i:Nat) :
    pieceOb Tryz.prog 0 [rg 4,.dec true,rg 14,.dec false,rg 3,.head] zf7 (Q3 n m M r p c i) [0,1,2] 1 (Q3 n m M' r p c (i+1)) =
    some (zf7,[((decide ((↑i:Int)<(↑m:Int)))=true),(AG ((↑i:Int) != (↑r:Int))),(AG ((↑i:Int) != (↑r:Int))),((((↑i:Int) != (↑r:Int))=true)→(IL 0 (↑i:Int))),((((↑i:Int) != (↑r:Int))=true)→(IT (↑i:Int) (↑m:Int))),(AG ((↑i:Int) != (↑r:Int))),((((↑i:Int) != (↑r:Int))=true)→(NT i m)),(AG ((↑i:Int) != (↑r:Int))),(AG ((↑i:Int) != (↑r:Int))),((((↑i:Int) != (↑r:Int))=true)→(IL 0 (↑c:Int))),((((↑i:Int) != (↑r:Int))=true)→(IT (↑c:Int) (↑n:Int))),(AG ((↑i:Int) != (↑r:Int))),((((↑i:Int) != (↑r:Int))=true)→(NT i m)),((((↑i:Int) != (↑r:Int))=true)→(NT c n)),(AG ((↑i:Int) != (↑r:Int))),(AG ((↑i:Int) != (↑r:Int))),((bif (↑i:Int) != (↑r:Int) then (cM n M i).2 c != 0 else false)=false),(ZLo ((↑i:Int)+1)),(ZHi ((↑i:Int)+1)),(AN 0),(AN m),(AN 0),(AN r),(AI ((↑c:Int))),(AN r),(AN 0),(AN n),((((↑i:Int)+1):Int)=(↑(i+1):Int)),(AN 1),(NL m m),(AA m (fun i_1=>[.ar 1 ⟨1,some i_1⟩ 0 n])),(NL m m),(∀ i_1:Nat,(((i_1:Nat)<m)→All [(AN 1),((n:Nat)≤n),(∀ r_1:Nat,(((r_1:Nat)<n)→(([.int .i64 ((cM n M i_1).2 r_1)]:List PV)=[.int .i64 ((cM n M' i_1).2 r_1)])))])),(AN 1),(NL r r),(AA r (fun i_1=>[.p (.int .i64 (p i_1))]))]):=by kernel_rfl
theorem qx (n m:Nat) (M M':Nat→Nat→Int) (r:Nat) (p p':Nat→Int) (c i:Nat) :
    pieceOb Tryz.prog 0 [rg 4,.dec false,rg 5,rg 3,.head] zf7 (Q3 n m M r p c i) [0,1,227] 1 (Q1 n m M' (r+1) p' (c+1)) =
    some (zf46,[((decide ((↑i:Int)<(↑m:Int)))=false),(NL 1 1),(NL r r),(NL ((r+1)*8) 140737488355328),(NL (r+1) 9223372036854775807),(ZLo ((↑c:Int)+1)),(ZHi ((↑c:Int)+1)),(AN 0),(AN m),(AN 0),(AN ((r+1))),((((↑c:Int)+1):Int)=(↑(c+1):Int)),(AN 1),(NL m m),(AA m (fun i_1=>[.ar 1 ⟨1,some i_1⟩ 0 n])),(NL m m),(∀ i_1:Nat,(((i_1:Nat)<m)→All [(AN 1),((n:Nat)≤n),(∀ r_1:Nat,(((r_1:Nat)<n)→(([.int .i64 ((cM n M i_1).2 r_1)]:List PV)=[.int .i64 ((cM n M' i_1).2 r_1)])))])),(AN 1),(NL (r+1) (r+1)),(∀ i_1:Nat,(((i_1:Nat)<(r+1))→(All (cvtL false [(227,⟨false,1,(r+1),(fun i_2=>(if (i_2<r) then [.p (.int .i64 (p i_2))] else [.p (.int .i64 (↑c:Int))]))⟩),(195,⟨false,1,1,(fun i_2=>[.p (.int .i64 (↑c:Int))])⟩),(0,⟨false,1,m,(fun i_2=>[.ar 1 ⟨1,some i_2⟩ 0 n])⟩),(1,⟨true,0,m,(fun i_2=>[.p (.seq false 1 n (fun i_3=>[.int .i64 ((cM n M i_2).2 i_3)]))])⟩)] [0,1,227] 1 (if (i_1<r) then [.p (.int .i64 (p i_1))] else [.p (.int .i64 (↑c:Int))])).2∧(((cvtL false [(227,⟨false,1,(r+1),(fun i_2=>(if (i_2<r) then [.p (.int .i64 (p i_2))] else [.p (.int .i64 (↑c:Int))]))⟩),(195,⟨false,1,1,(fun i_2=>[.p (.int .i64 (↑c:Int))])⟩),(0,⟨false,1,m,(fun i_2=>[.ar 1 ⟨1,some i_2⟩ 0 n])⟩),(1,⟨true,0,m,(fun i_2=>[.p (.seq false 1 n (fun i_3=>[.int .i64 ((cM n M i_2).2 i_3)]))])⟩)] [0,1,227] 1 (if (i_1<r) then [.p (.int .i64 (p i_1))] else [.p (.int .i64 (↑c:Int))])).1:List AV)=[.p (.int .i64 (p' i_1))]))))]):=by kernel_rfl
end Go.Proofs.YtkkjoghiigiokaaGreat.Mach
namespace Go.Proofs.YtkkjoghiigiokaaGreat.Mach
open Go
set_option linter.unusedVariables false
set_option linter.unusedSimpArgs false
theorem con_copyLists (m:Nat) (C:Nat→T_IntS) (hm:m≤1000) (hC:∀ i,i<m→(C i).1≤1000):Con Tryz.prog 355 0 [] [ssA2 m C] [(0,ooOb 1 m C),(1,ffOb m C)] (.ar 1 0 0 m):=by
  refine csZ Tryz.func355 (fun c hc=>?_)
  have lo:∀ d i,i+d=m→Run Tryz.prog c 355 zf69 (CLs m C i) (Post c [(0,ooOb 1 m C),(1,ffOb m C)] (.ar 1 0 0 m)):=by
    intro d
    induction d with
    | zero =>
      intro i hi
      obtain rfl:i=m:=by omega
      have hd:decide ((i:Int)<(i:Int))=false:=decide_eq_false (by omega)
      refine pkZ Tryz.func355 hc (cpe i C i) ?_
      repeat' (first | exact aN | apply aI)
      all_goals (first | exact aP _ _ | exact aA _ _ | exact aE _ | omega | rfl | (intros;first | assumption | exact trivial | rfl) | (exact hd) | (intro t ht;simp [All];done) | (simp only [All];first | exact aP _ _ | exact aA _ _ | exact aE _ | omega | rfl | (intros;first | assumption | exact trivial | rfl) | (exact hd) | (intro t ht;simp [All];done)))
    | succ d ih =>
      intro i hi
      have hd:decide ((i:Int)<(m:Int))=true:=decide_eq_true (by omega)
      have cc:=con_copyInts (C i).1 (C i).2 (by have:=hC i (by omega);omega)
      refine pcZ hc (cpt m C i) ?_ (ih (i+1) (by omega))
      repeat' (first | exact aN | apply aI)
      all_goals (first | exact aP _ _ | omega | rfl | (intros;first | assumption | exact trivial | rfl | exact fT ‹_›) | (exact hd) | (exact cc) | (intro t ht;by_cases h':t<i;exact ⟨by simp [h',cvtL,cvt,tg,tru,idx,idx1,idO,idM,All,Nat.ne_of_lt h'],by simp [h',cvtL,cvt,tg,tru,idx,idx1,idO,idM]⟩;rw [show t=i by omega];exact ⟨by simp [cvtL,cvt,tg,tru,idx,idx1,idO,idM,All],by simp [cvtL,cvt,tg,tru,idx,idx1,idO,idM]⟩) | (intro t ht hne;exact ⟨by omega,by simp [All]⟩) | (intro t ht;simp [All];done) | (intro h;simp [All];done) | (simp only [All];first | exact aP _ _ | omega | rfl | (intros;first | assumption | exact trivial | rfl | exact fT ‹_›) | (exact hd) | (exact cc) | (intro t ht;by_cases h':t<i;exact ⟨by simp [h',cvtL,cvt,tg,tru,idx,idx1,idO,idM,All,Nat.ne_of_lt h'],by simp [h',cvtL,cvt,tg,tru,idx,idx1,idO,idM]⟩;rw [show t=i by omega];exact ⟨by simp [cvtL,cvt,tg,tru,idx,idx1,idO,idM,All],by simp [cvtL,cvt,tg,tru,idx,idx1,idO,idM]⟩) | (intro t ht hne;exact ⟨by omega,by simp [All]⟩) | (intro t ht;simp [All];done) | (intro h;simp [All];done)))
  refine pcZ hc (cpz m C) ?_ (lo m 0 (by omega))
  repeat' (first | exact aN | apply aI)
  all_goals (first | exact aP _ _ | omega | rfl | (intros;first | assumption | exact trivial | rfl) | (intro t ht;exact absurd ht (Nat.not_lt_zero _)) | (intro t ht;simp [All];done) | (simp only [All];first | exact aP _ _ | omega | rfl | (intros;first | assumption | exact trivial | rfl) | (intro t ht;exact absurd ht (Nat.not_lt_zero _)) | (intro t ht;simp [All];done)))
theorem fnd_is {A:Nat→Nat→Int} {c m r i:Nat} (hr:r≤i) (hm:i≤m) (hz:∀ j,r≤j→j<i→A j c=0) (hi:i=m∨A i c≠0):Had.fnd A c m m r=i:=by
  have h1:=Had.fnd_ge A c m m r
  have h2:=Had.fnd_le A c m m r (by omega)
  have h3:=Had.fnd_zero A c m m r i hr
  have h4:=Had.fnd_hit A c m m r (by omega)
  rcases Nat.lt_trichotomy (Had.fnd A c m m r) i with h | h | h
  · exact absurd (hz _ h1 h) (h4 (by omega))
  · exact h
  · rcases hi with hi | hi
    · omega
    · exact absurd (h3 h) hi
def paE (N:Nat→Nat→Int) (r c:Nat) (d:Int) (i k i' k':Nat):Int:=if i'<i then Had.el N r c d i' k' else if i'=i∧k'<k then Had.el N r c d i' k' else N i' k'
theorem el_r (N:Nat→Nat→Int) (r c:Nat) (d:Int) (k:Nat):Had.el N r c d r k=N r k:=by unfold Had.el;rw [if_pos rfl]
theorem paE_r (N:Nat→Nat→Int) (r c:Nat) (d:Int) (i k k':Nat):paE N r c d i k r k'=N r k':=by
  unfold paE
  split
  · exact el_r ..
  · split
    · exact el_r ..
    · rfl
theorem paE_i (N:Nat→Nat→Int) (r c:Nat) (d:Int) (i k k':Nat) (h:k≤k'):paE N r c d i k i k'=N i k':=by
  unfold paE;rw [if_neg (by omega),if_neg (by omega)]
theorem wrap_el {x a f b d:Int} (h:-(2 ^ 62)≤x*a - f*b∧x*a - f*b≤2 ^ 62) (hd:d≠0) (hv:d ∣ x*a - f*b) :
    IntKind.wrap .i64 ((IntKind.wrap .i64 (IntKind.wrap .i64 (x*a) - IntKind.wrap .i64 (f*b))).tdiv d)=(x*a - f*b).tdiv d:=by
  have e:IntKind.wrap .i64 (IntKind.wrap .i64 (x*a) - IntKind.wrap .i64 (f*b))=x*a - f*b:=by
    have h2:IntKind.wrap .i64 (x*a - f*b)=x*a - f*b:=wrap_in (by simp only [imin];omega) (by simp only [imax];omega)
    generalize x*a=u at h h2 ⊢
    generalize f*b=v at h h2 ⊢
    simp only [IntKind.wrap,IntKind.bits,IntKind.signed] at h2 ⊢
    simp at h2 ⊢
    omega
  rw [e]
  refine tdiv_wrap hv hd ?_
  have:=Int.mul_le_mul (a:=(x*a - f*b).natAbs) (b:=(x*a - f*b).natAbs) (c:=2 ^ 62) (d:=2 ^ 62) (by omega) (by omega) (by omega) (by omega)
  rw [Int.natAbs_mul_self'] at this
  exact this
theorem paE_00 (N:Nat→Nat→Int) (r c:Nat) (d:Int):paE N r c d 0 0=N:=by
  funext i k;unfold paE;rw [if_neg (Nat.not_lt_zero _),if_neg (fun h=>absurd h.2 (Nat.not_lt_zero _))]
theorem sI_sI (r q x:Nat):sI r q (sI r q x)=x:=by
  unfold sI Had.sw
  by_cases h1:x=r
  · rw [if_pos h1]
    by_cases h2:q=r
    · rw [if_pos h2,h1,h2]
    · rw [if_neg h2,if_pos rfl,h1]
  · by_cases h2:x=q
    · rw [if_neg h1,if_pos h2,if_pos rfl,h2]
    · rw [if_neg h1,if_neg h2,if_neg h1,if_neg h2]
theorem sI_lt {r q m x:Nat} (hr:r<m) (hq:q<m) (hx:x<m):sI r q x<m:=by
  unfold sI Had.sw;split
  · exact hq
  · split
    · exact hr
    · exact hx
theorem sw_sI {α:Type} (M:Nat→α) (r q i:Nat):M (sI r q i)=Had.sw M r q i:=by
  unfold sI Had.sw;split
  · rfl
  · split<;>rfl
theorem rowsw (r q n t:Nat):(if t=q then [AV.ar 1 ⟨1,some r⟩ 0 n] else if t=r then [AV.ar 1 ⟨1,some q⟩ 0 n] else [AV.ar 1 ⟨1,some t⟩ 0 n])=[AV.ar 1 ⟨1,some (sI r q t)⟩ 0 n]:=by
  unfold sI Had.sw
  by_cases h1:t=q
  · by_cases h2:t=r
    · rw [if_pos h1,if_pos h2,← h1,h2]
    · rw [if_pos h1,if_neg h2,if_pos h1]
  · by_cases h2:t=r
    · rw [if_neg h1,if_pos h2,if_pos h2]
    · rw [if_neg h1,if_neg h2,if_neg h2,if_neg h1]
theorem sI_q (r q:Nat):sI r q q=r:=by
  unfold sI Had.sw;split
  · rename_i h;exact h
  · rw [if_pos rfl]
theorem rstep_full {m c:Nat} {T:Had.RS} (h:T.r=m):Had.rstep m c T=T:=by
  unfold Had.rstep
  have:=Had.fnd_ge T.A c m m T.r
  rw [if_neg (by omega)]
theorem rrun_full {m:Nat} {S:Had.RS} {c:Nat} (h:(Had.rrun m S c).r=m):∀ e,Had.rrun m S (c+e)=Had.rrun m S c
  | 0=>rfl
  | e+1=>by
    rw [show c+(e+1)=(c+e)+1 by omega,Had.rrun,rrun_full h e,rstep_full h]
theorem con_reduced {n m rmx:Nat} {B:Int} {M:Nat→Nat→Int} {K:Nat→Nat→(Nat→Nat→Int)→Prop} (hn:n≤1000) (hm:m≤1000) (hB:1≤B) (hM:B ^ (2*rmx)≤2 ^ 124)
    (hok:∀ c,c≤n→Had.ROK n m rmx B K c (Had.rrun m (Had.rini M) c)) {S:Had.RS} (hS:Had.rrun m (Had.rini M) n=S) :
    Con Tryz.prog 317 0 [] [ssA2 m (cM n M),.p (.int .i64 n)] (mH n m S.A S.r (fun i=>(S.p i:Int))) (.tup [.ar 1 0 0 m,.ar 1 2 0 S.r,.p (.int .i64 S.d)]):=by
  have ccp:=con_copyLists m (cM n M) hm (fun i _=>hn)
  refine csZ Tryz.func317 (fun cx hc=>?_)
  generalize hQ:Post cx (mH n m S.A S.r (fun i=>(S.p i:Int))) (.tup [.ar 1 0 0 m,.ar 1 2 0 S.r,.p (.int .i64 S.d)])=Q
  have l3:∀ (N:Nat→Nat→Int) (r q:Nat) (p:Nat→Int) (d:Int) (c i:Nat),c<n→r<m→i<m→i≠r→d≠0 →
      (∀ k,k<n→d*Had.el N r c d i k=N r c*N i k - N i c*N r k∧-(2 ^ 62)≤N r c*N i k - N i c*N r k∧N r c*N i k - N i c*N r k≤2 ^ 62) →
      Run Tryz.prog cx 317 zf6 (R2 n m (paE N r c d (i+1) 0) r p d c (N r c) (i+1)) Q →
      ∀ e k,k+e=n→Run Tryz.prog cx 317 zf2 (R3 n m (paE N r c d i k) r p d c (N r c) i (N i c) k) Q:=by
    intro N r q p d c i hcn hrm him hir hd0 hE hnext e
    induction e with
    | zero =>
      intro k hk
      obtain rfl:k=n:=by omega
      have hd:decide ((k:Int)<(k:Int))=false:=decide_eq_false (by omega)
      have hT:∀ s,s<m→∀ t,t<k→paE N r c d i k s t=paE N r c d (i+1) 0 s t:=by
        intro s hs t ht
        unfold paE
        by_cases h1:s<i
        · rw [if_pos h1,if_pos (by omega)]
        · by_cases h2:s=i
          · rw [if_neg h1,if_pos ⟨h2,ht⟩,if_pos (by omega)]
          · rw [if_neg h1,if_neg (by omega),if_neg (by omega),if_neg (by omega)]
      refine pcZ hc (rdx k m (paE N r c d i k) (paE N r c d (i+1) 0) r p d c (N r c) i (N i c) k) ?_ hnext
      repeat' (first | exact aN | apply aI)
      all_goals (first | exact aA _ _ | omega | rfl | (intros;first | assumption | exact trivial | rfl) | (exact hd) | (intro s hs;simp only [All,cM];exact ⟨trivial,Nat.le_refl _,fun t ht=>by rw [hT s hs t ht],trivial⟩) | (intro t ht;simp [All];done) | (simp only [All];first | exact aA _ _ | omega | rfl | (intros;first | assumption | exact trivial | rfl) | (exact hd) | (intro s hs;simp only [All,cM];exact ⟨trivial,Nat.le_refl _,fun t ht=>by rw [hT s hs t ht],trivial⟩) | (intro t ht;simp [All];done)))
    | succ e ih =>
      intro k hk
      have hd:decide ((k:Int)<(n:Int))=true:=decide_eq_true (by omega)
      obtain ⟨e1,e2⟩:=hE k (by omega)
      have hw:=wrap_el e2 hd0 ⟨_,e1.symm⟩
      have hv:(N r c*N i k - N i c*N r k).tdiv d=Had.el N r c d i k:=by rw [← e1,Int.mul_tdiv_cancel_left _ hd0]
      rw [hv] at hw
      have hT:∀ s,s<m→∀ t,t<n→paE N r c d i (k+1) s t=if s=i∧t=k then Had.el N r c d i k else paE N r c d i k s t:=by
        intro s hs t ht
        by_cases h1:s=i∧t=k
        · rw [if_pos h1,h1.1,h1.2];unfold paE;rw [if_neg (by omega),if_pos ⟨rfl,by omega⟩]
        · rw [if_neg h1];unfold paE
          by_cases h2:s<i
          · rw [if_pos h2,if_pos h2]
          · rw [if_neg h2,if_neg h2]
            by_cases h3:s=i∧t<k
            · rw [if_pos h3,if_pos (by omega)]
            · rw [if_neg h3,if_neg (by omega)]
      refine pcZ hc (rdk n m (paE N r c d i k) (paE N r c d i (k+1)) r p d c (N r c) i (N i c) k) ?_ (ih (k+1) (by omega))
      repeat' (first | exact aN | apply aI)
      all_goals (first | exact aA _ _ | omega | rfl | (intros;first | assumption | exact trivial | rfl | exact fT ‹_›) | (exact hd) | (exact hd0) | (intro s hs;simp only [cM,paE_r,paE_i N r c d i k k (Nat.le_refl _),hw];by_cases h1:s=i<;>(simp only [h1,if_true,if_false,famE,All];refine ⟨trivial,Nat.le_refl _,fun t ht=>?_,trivial⟩;rw [hT _ (by omega) t ht];by_cases h2:t=k<;>simp [h1,h2,toP])) | (intro t ht;simp [All];done))
  have l2:∀ (N:Nat→Nat→Int) (r:Nat) (p:Nat→Int) (d:Int) (c:Nat),c<n→r<m→r<1000→d≠0 →
      (∀ i k,i<m→i≠r→k<n→d*Had.el N r c d i k=N r c*N i k - N i c*N r k∧-(2 ^ 62)≤N r c*N i k - N i c*N r k∧N r c*N i k - N i c*N r k≤2 ^ 62) →
      ∀ p':Nat→Int,(∀ t,t<r+1→p' t=if t<r then p t else c)→Run Tryz.prog cx 317 zf45 (R0 n m (Had.el N r c d) (r+1) p' (N r c) (c+1)) Q →
      ∀ e i,i+e=m→Run Tryz.prog cx 317 zf6 (R2 n m (paE N r c d i 0) r p d c (N r c) i) Q:=by
    intro N r p d c hcn hrm hr1 hd0 hE p' hp hnext e
    induction e with
    | zero =>
      intro i hi
      obtain rfl:i=m:=by omega
      have hd:decide ((i:Int)<(i:Int))=false:=decide_eq_false (by omega)
      have hT:∀ s,s<i→∀ t,t<n→paE N r c d i 0 s t=Had.el N r c d s t:=fun s hs t _=>by unfold paE;rw [if_pos hs]
      refine pcZ hc (rdy n i (paE N r c d i 0) (Had.el N r c d) r p p' d c (N r c) i) ?_ hnext
      repeat' (first | exact aN | apply aI)
      all_goals (first | exact aA _ _ | omega | rfl | (intros;first | assumption | exact trivial | rfl) | (exact hd) | (intro s hs;simp only [All,cM];exact ⟨trivial,Nat.le_refl _,fun t ht=>by rw [hT s hs t ht],trivial⟩) | (intro t ht;rw [hp t ht];by_cases h':t<r<;>simp [h',cvtL,cvt,tg,tru,All];done) | (intro t ht;simp [All];done) | (simp only [All];first | exact aA _ _ | omega | rfl | (intros;first | assumption | exact trivial | rfl) | (exact hd) | (intro s hs;simp only [All,cM];exact ⟨trivial,Nat.le_refl _,fun t ht=>by rw [hT s hs t ht],trivial⟩) | (intro t ht;rw [hp t ht];by_cases h':t<r<;>simp [h',cvtL,cvt,tg,tru,All];done) | (intro t ht;simp [All];done)))
    | succ e ih =>
      intro i hi
      have hd:decide ((i:Int)<(m:Int))=true:=decide_eq_true (by omega)
      have hr:=ih (i+1) (by omega)
      by_cases hir:i=r
      · have hq:((i:Int)==(r:Int))=true:=by simp [hir]
        have hT:∀ s,s<m→∀ t,t<n→paE N r c d i 0 s t=paE N r c d (i+1) 0 s t:=by
          intro s hs t ht
          unfold paE
          by_cases h1:s<i
          · rw [if_pos h1,if_pos (by omega)]
          · by_cases h2:s=i
            · rw [if_neg h1,if_neg (by omega),if_pos (by omega),h2,hir,el_r]
            · rw [if_neg h1,if_neg (by omega),if_neg (by omega),if_neg (by omega)]
        refine pcZ hc (rdr n m (paE N r c d i 0) (paE N r c d (i+1) 0) r p d c (N r c) i) ?_ hr
        repeat' (first | exact aN | apply aI)
        all_goals (first | exact aA _ _ | omega | rfl | (intros;first | assumption | exact trivial | rfl) | (exact hd) | (exact hq) | (intro s hs;simp only [All,cM];exact ⟨trivial,Nat.le_refl _,fun t ht=>by rw [hT s hs t ht],trivial⟩) | (intro t ht;simp [All];done) | (simp only [All];first | exact aA _ _ | omega | rfl | (intros;first | assumption | exact trivial | rfl) | (exact hd) | (exact hq) | (intro s hs;simp only [All,cM];exact ⟨trivial,Nat.le_refl _,fun t ht=>by rw [hT s hs t ht],trivial⟩) | (intro t ht;simp [All];done)))
      · have hq:((i:Int)==(r:Int))=false:=by simp;omega
        have h3:=l3 N r 0 p d c i hcn hrm (by omega) hir hd0 (fun k hk=>hE i k (by omega) hir hk) hr n 0 (by omega)
        have e1:paE N r c d i 0 i c=N i c:=paE_i N r c d i 0 c (Nat.zero_le _)
        rw [← e1] at h3
        refine pcZ hc (rdi n m (paE N r c d i 0) r p d c (N r c) i) ?_ h3
        repeat' (first | exact aN | apply aI)
        all_goals (first | exact aP _ _ | exact aA _ _ | omega | rfl | (intros;first | assumption | exact trivial | rfl) | (exact hd) | (exact hq) | (intro t ht;simp [All];done) | (simp only [All];first | exact aP _ _ | exact aA _ _ | omega | rfl | (intros;first | assumption | exact trivial | rfl) | (exact hd) | (exact hq) | (intro t ht;simp [All];done)))
  have l0:∀ e c,c+e=n→Run Tryz.prog cx 317 zf45 (R0 n m (Had.rrun m (Had.rini M) c).A (Had.rrun m (Had.rini M) c).r (fun i=>((Had.rrun m (Had.rini M) c).p i:Int)) (Had.rrun m (Had.rini M) c).d c) Q:=by
    intro e
    induction e with
    | zero =>
      intro c hcn
      obtain rfl:c=n:=by omega
      rw [hS,← hQ]
      have hd:(bif decide ((c:Int)<(c:Int)) then decide ((S.r:Int)<(m:Int)) else false)=false:=by simp
      refine pkZ Tryz.func317 hc (rde c m S.A S.r (fun i=>(S.p i:Int)) S.d c) ?_
      repeat' (first | exact aN | apply aI)
      all_goals (first | exact aG _ | exact aP _ _ | exact aA _ _ | exact aE _ | omega | rfl | (intros;first | assumption | exact trivial | rfl) | (exact hd) | (intro h;exact h) | (intro t ht;simp [All];done) | (simp only [All];first | exact aG _ | exact aP _ _ | exact aA _ _ | exact aE _ | omega | rfl | (intros;first | assumption | exact trivial | rfl) | (exact hd) | (intro h;exact h) | (intro t ht;simp [All];done)))
    | succ e ih =>
      intro c hcn
      have hr:=ih (c+1) (by omega)
      have ok:=hok c (by omega)
      have ok':=hok (c+1) (by omega)
      have hst:Had.rrun m (Had.rini M) (c+1)=Had.rstep m c (Had.rrun m (Had.rini M) c):=rfl
      rw [hst] at hr ok'
      generalize Had.rrun m (Had.rini M) c=T at *
      have hrm:=ok.bar.rm
      by_cases hrl:T.r<m
      · have hd:(bif decide ((c:Int)<(n:Int)) then decide ((T.r:Int)<(m:Int)) else false)=true:=by
          rw [decide_eq_true (show (c:Int)<(n:Int) by omega),decide_eq_true (show (T.r:Int)<(m:Int) by omega)];rfl
        have l1:∀ e i,i+e=m→T.r≤i→(∀ j,T.r≤j→j<i→T.A j c=0)→Run Tryz.prog cx 317 zf9 (R1 n m T.A T.r (fun i=>(T.p i:Int)) T.d c i) Q:=by
          intro e
          induction e with
          | zero =>
            intro i hi hri hz
            obtain rfl:i=m:=by omega
            have hf:=fnd_is hri (Nat.le_refl _) hz (.inl rfl)
            have hst:Had.rstep i c T=T:=by unfold Had.rstep;rw [hf,if_neg (Nat.lt_irrefl _)]
            rw [hst] at hr
            have hd0:decide ((i:Int)<(i:Int))=false:=decide_eq_false (by omega)
            have hq:((i:Int)==(i:Int))=true:=by simp
            refine pcZ hc (rdn n i T.A T.r (fun i=>(T.p i:Int)) T.d c i) ?_ hr
            repeat' (first | exact aN | apply aI)
            all_goals (first | exact aG _ | exact aP _ _ | exact aA _ _ | omega | rfl | (intros;first | assumption | exact trivial | rfl | exact fT ‹_›) | (rw [hd0];rfl) | (exact hq) | (intro h;exact h) | (intro h;rw [hd0] at h;cases h) | (intro t ht;simp [All];done) | (simp only [All];first | exact aG _ | exact aP _ _ | exact aA _ _ | omega | rfl | (intros;first | assumption | exact trivial | rfl | exact fT ‹_›) | (rw [hd0];rfl) | (exact hq) | (intro h;exact h) | (intro h;rw [hd0] at h;cases h) | (intro t ht;simp [All];done)))
          | succ e ih2 =>
            intro i hi hri hz
            have hd1:decide ((i:Int)<(m:Int))=true:=decide_eq_true (by omega)
            by_cases h0:T.A i c=0
            · have hb:(bif decide ((i:Int)<(m:Int)) then (cM n T.A i).2 c==0 else false)=true:=by
                rw [hd1];show (T.A i c==0)=true;simp [h0]
              refine pcZ hc (rds n m T.A T.r (fun i=>(T.p i:Int)) T.d c i) ?_ (ih2 (i+1) (by omega) (by omega) (fun j j1 j2=>by
                by_cases h:j=i
                · rw [h];exact h0
                · exact hz j j1 (by omega)))
              repeat' (first | exact aN | apply aI)
              all_goals (first | exact aG _ | exact aP _ _ | exact aA _ _ | omega | rfl | (intros;first | assumption | exact trivial | rfl | exact fT ‹_›) | (exact hb) | (intro h;exact h) | (intro h;omega) | (intro t ht;simp [All];done) | (simp only [All];first | exact aG _ | exact aP _ _ | exact aA _ _ | omega | rfl | (intros;first | assumption | exact trivial | rfl | exact fT ‹_›) | (exact hb) | (intro h;exact h) | (intro h;omega) | (intro t ht;simp [All];done)))
            · have hb:(bif decide ((i:Int)<(m:Int)) then (cM n T.A i).2 c==0 else false)=false:=by
                rw [hd1];show (T.A i c==0)=false;simp [h0]
              have hq:((i:Int)==(m:Int))=false:=by simp;omega
              have hf:=fnd_is hri (show i≤m by omega) hz (.inr h0)
              have hst:Had.rstep m c T=⟨Had.el (Had.sw T.A T.r i) T.r c T.d,T.r+1,fun j=>if j=T.r then c else T.p j,T.A i c⟩:=by
                unfold Had.rstep;rw [hf,if_pos (show i<m by omega)]
              rw [hst] at hr ok'
              have hsw:=ok.bar.swap hri (by omega:i<m)
              have hx:Had.sw T.A T.r i T.r c≠0:=by rw [Had.sw_at];exact h0
              obtain ⟨b1,b2⟩:=hsw.elim (c:=c) hrl (by omega) hx
              have hr2:=ok'.r
              have hr2:T.r+1≤rmx:=hr2
              have hE:∀ i' k,i'<m→i'≠T.r→k<n→T.d*Had.el (Had.sw T.A T.r i) T.r c T.d i' k=Had.sw T.A T.r i T.r c*Had.sw T.A T.r i i' k - Had.sw T.A T.r i i' c*Had.sw T.A T.r i T.r k ∧
                  -(2 ^ 62)≤Had.sw T.A T.r i T.r c*Had.sw T.A T.r i i' k - Had.sw T.A T.r i i' c*Had.sw T.A T.r i T.r k∧Had.sw T.A T.r i T.r c*Had.sw T.A T.r i i' k - Had.sw T.A T.r i i' c*Had.sw T.A T.r i T.r k≤2 ^ 62:=by
                intro i' k h1 h2 h3
                have e1:=b2 i' k h1 h2 h3
                refine ⟨e1,?_⟩
                rw [← e1]
                have hd2:=ok.bar.bd
                have hv:Had.el (Had.sw T.A T.r i) T.r c T.d i' k*Had.el (Had.sw T.A T.r i) T.r c T.d i' k≤B ^ (T.r+2):=by
                  by_cases h4:i'<T.r+1
                  · exact Int.le_trans (b1.bpiv h4 h3) (Had.pow_mono hB (by omega))
                  · exact b1.bnon (by omega) h1 h3
                exact Had.prod_le hB hM hd2 hv (by omega)
              rw [← Had.sw_at T.A T.r i] at hr
              have h2:=l2 (Had.sw T.A T.r i) T.r (fun i=>(T.p i:Int)) T.d c (by omega) hrl (by omega) ok.bar.d0 hE _ (fun t ht=>by
                show ((if t=T.r then c else T.p t:Nat):Int)=_
                by_cases h:t<T.r
                · rw [if_pos h,if_neg (by omega)]
                · rw [if_neg h,if_pos (by omega)]) hr m 0 (by omega)
              rw [paE_00] at h2
              have hsI:∀ t,T.A (sI T.r i t)=Had.sw T.A T.r i t:=fun t=>sw_sI T.A T.r i t
              refine pcZ hc (rdp n m T.A T.r (fun i=>(T.p i:Int)) T.d c i) ?_ (pcZ hc (rdq n m (Had.sw T.A T.r i) T.r (fun i=>(T.p i:Int)) T.d c i) ?_ h2)
              ·
                repeat' (first | exact aN | apply aI)
                all_goals (first | exact aG _ | exact aA _ _ | omega | rfl | (intros;first | assumption | exact trivial | rfl | exact fT ‹_›) | (exact hb) | (exact hq) | (intro h;exact h) | (intro h;omega) | (intro t ht;simp only [rowsw];exact ⟨by simp [cvtL,cvt,idx,idx1,idO,idM,All,sI_sI],by simp [cvtL,cvt,idx,idx1,idO,idM,sI_sI]⟩) | (intro t ht;refine ⟨sI_lt (by omega) (by omega) ht,sI_sI _ _ _,?_⟩;simp [cM,hsI];done) | (intro t ht;simp [All];done) | (simp only [All];first | exact aG _ | exact aA _ _ | omega | rfl | (intros;first | assumption | exact trivial | rfl | exact fT ‹_›) | (exact hb) | (exact hq) | (intro h;exact h) | (intro h;omega) | (intro t ht;simp only [rowsw];exact ⟨by simp [cvtL,cvt,idx,idx1,idO,idM,All,sI_sI],by simp [cvtL,cvt,idx,idx1,idO,idM,sI_sI]⟩) | (intro t ht;refine ⟨sI_lt (by omega) (by omega) ht,sI_sI _ _ _,?_⟩;simp [cM,hsI];done) | (intro t ht;simp [All];done)))
              ·
                repeat' (first | exact aN | apply aI)
                all_goals (first | exact aG _ | exact aP _ _ | exact aA _ _ | exact aE _ | omega | rfl | (intros;first | assumption | exact trivial | rfl | exact fT ‹_› | ((repeat' (first | assumption | apply anda | apply notf));done)) | (intro t ht;simp [All];done))
        refine pcZ hc (rdb n m T.A T.r (fun i=>(T.p i:Int)) T.d c) ?_ (l1 (m - T.r) T.r (by omega) (Nat.le_refl _) (fun j j1 j2=>absurd j2 (by omega)))
        repeat' (first | exact aN | apply aI)
        all_goals (first | exact aG _ | exact aP _ _ | exact aA _ _ | omega | rfl | (intros;first | assumption | exact trivial | rfl) | (exact hd) | (intro h;exact h) | (intro t ht;simp [All];done) | (simp only [All];first | exact aG _ | exact aP _ _ | exact aA _ _ | omega | rfl | (intros;first | assumption | exact trivial | rfl) | (exact hd) | (intro h;exact h) | (intro t ht;simp [All];done)))
      · have hrm':T.r=m:=by omega
        have hd:(bif decide ((c:Int)<(n:Int)) then decide ((T.r:Int)<(m:Int)) else false)=false:=by
          rw [decide_eq_false (show ¬ (T.r:Int)<(m:Int) by omega)];cases decide ((c:Int)<(n:Int))<;>rfl
        rw [rstep_full hrm'] at hst
        have hSe:S=T:=by
          rw [← hS,← hst,show n=(c+1)+e by omega]
          exact rrun_full (by rw [hst];exact hrm') e
        rw [← hQ,hSe]
        refine pkZ Tryz.func317 hc (rde n m T.A T.r (fun i=>(T.p i:Int)) T.d c) ?_
        repeat' (first | exact aN | apply aI)
        all_goals (first | exact aG _ | exact aP _ _ | exact aA _ _ | exact aE _ | omega | rfl | (intros;first | assumption | exact trivial | rfl) | (exact hd) | (intro h;exact h) | (intro t ht;simp [All];done) | (simp only [All];first | exact aG _ | exact aP _ _ | exact aA _ _ | exact aE _ | omega | rfl | (intros;first | assumption | exact trivial | rfl) | (exact hd) | (intro h;exact h) | (intro t ht;simp [All];done)))
  refine pcZ hc (rdz n m M) ?_ (l0 n 0 (by omega))
  repeat' (first | exact aN | apply aI)
  all_goals (first | exact aP _ _ | exact aA _ _ | omega | rfl | (intros;first | assumption | exact trivial | rfl) | (exact ccp) | (intro t ht;exact absurd ht (Nat.not_lt_zero _)) | (intro t ht;simp [All];done) | (simp only [All];first | exact aP _ _ | exact aA _ _ | omega | rfl | (intros;first | assumption | exact trivial | rfl) | (exact ccp) | (intro t ht;exact absurd ht (Nat.not_lt_zero _)) | (intro t ht;simp [All];done)))
end Go.Proofs.YtkkjoghiigiokaaGreat.Mach
namespace Go.Proofs.YtkkjoghiigiokaaGreat.Mach
open Go
set_option linter.unusedVariables false
set_option linter.unusedSimpArgs false
theorem wrap_sub {u v:Int} (h:-(2 ^ 62)≤u - v∧u - v≤2 ^ 62):IntKind.wrap .i64 (IntKind.wrap .i64 u - IntKind.wrap .i64 v)=u - v:=by
  simp only [IntKind.wrap,IntKind.bits,IntKind.signed]
  simp
  omega
theorem sq_of {x:Int} (h:-(2 ^ 62)≤x∧x≤2 ^ 62):x*x≤2 ^ 124:=by
  have:=sq_nat (x:=x.natAbs) (by omega)
  rwa [Int.natAbs_mul_self'] at this
theorem con_Without (n j:Nat) (a row:Nat→Int) (hn:n≤1000) (hj:j<n) (h0:row j≠0) (ha:∀ k,k<n→a k*a k≤2 ^ 124) (hr:∀ k,k<n→row k*row k≤2 ^ 124)
    (hw:∀ k,k<n→Had.wo a row j k*Had.wo a row j k≤2 ^ 124) :
    Con Tryz.prog 314 0 [] [inD n a,inD n row,.p (.int .i64 j)] [(0,iOb n (Had.prm n (Had.wo a row j)))] (.ar 1 0 0 n):=by
  have cg:=con_Gcd_s (ha j hj) (hr j hj)
  have cc:=con_Clean n (Had.wo a row j) hn hw
  have g0:((Int.gcd (a j) (row j):Nat):Int)≠0:=fun h=>by
    have:Int.gcd (a j) (row j)=0:=by omega
    rw [Int.gcd_eq_zero_iff] at this;exact h0 this.2
  have w1:=tdiv_wrap (Int.gcd_dvd_right (a j) (row j)) g0 (hr j hj)
  have w2:=tdiv_wrap (Int.gcd_dvd_left (a j) (row j)) g0 (ha j hj)
  have hwo:∀ k,k<n→IntKind.wrap .i64 (IntKind.wrap .i64 (a k*(row j).tdiv (Int.gcd (a j) (row j):Nat)) - IntKind.wrap .i64 (row k*(a j).tdiv (Int.gcd (a j) (row j):Nat)))=Had.wo a row j k:=fun k hk =>
    wrap_sub (Had.sq_le (y:=2 ^ 62) (by decide) (hw k hk))
  generalize hG:((Int.gcd (a j) (row j):Nat):Int)=G at *
  refine csZ Tryz.func314 (fun c hc=>?_)
  have lo:∀ d i,i+d=n→Run Tryz.prog c 314 zf41 (WoS n a row ((row j).tdiv G) ((a j).tdiv G) i (Had.wo a row j)) (Post c [(0,iOb n (Had.prm n (Had.wo a row j)))] (.ar 1 0 0 n)):=by
    intro d
    induction d with
    | zero =>
      intro i hi
      obtain rfl:i=n:=by omega
      have hd:decide ((i:Int)<(i:Int))=false:=decide_eq_false (by omega)
      refine pkZ Tryz.func314 hc (wxe i a row ((row j).tdiv G) ((a j).tdiv G) (Had.wo a row j) (Had.prm i (Had.wo a row j))) ?_
      repeat' (first | exact aN | apply aI)
      all_goals (first | exact aA _ _ | exact aE _ | omega | rfl | (intros;first | assumption | exact trivial | rfl) | (exact hd) | (exact cc) | (intro t ht;simp [All];done))
    | succ d ih =>
      intro i hi
      have hd:decide ((i:Int)<(n:Int))=true:=decide_eq_true (by omega)
      have hi':=hwo i (by omega)
      refine pcZ hc (wxt n a row ((row j).tdiv G) ((a j).tdiv G) i (Had.wo a row j) (Had.wo a row j)) ?_ (ih (i+1) (by omega))
      repeat' (first | exact aN | apply aI)
      all_goals (first | exact aP _ _ | omega | rfl | (intros;first | assumption | exact trivial | rfl) | (exact hd) | (intro t ht;rw [hi'];by_cases h':t<i;exact ⟨by simp [h',cvtL,cvt,tg,tru,All],by simp [h',cvtL,cvt,tg,tru]⟩;rw [show t=i by omega];exact ⟨by simp [cvtL,cvt,tg,tru,All],by simp [cvtL,cvt,tg,tru]⟩) | (intro t ht;simp [All];done))
  refine pcZ hc (wxz n j a row G ((row j).tdiv G) ((a j).tdiv G) (Had.wo a row j)) ?_ (lo n 0 (by omega))
  repeat' (first | exact aN | apply aI)
  all_goals (first | exact aP _ _ | omega | rfl | (intros;first | assumption | exact trivial | rfl) | (exact cg) | (exact g0) | (exact w1) | (exact w2) | (intro t ht;exact absurd ht (Nat.not_lt_zero _)) | (intro t ht;simp [All];done) | (simp only [All];first | exact aP _ _ | omega | rfl | (intros;first | assumption | exact trivial | rfl) | (exact cg) | (exact g0) | (exact w1) | (exact w2) | (intro t ht;exact absurd ht (Nat.not_lt_zero _)) | (intro t ht;simp [All];done)))
theorem rowsw' (r q n t:Nat):(if t=r then [AV.ar 1 ⟨1,some q⟩ 0 n] else if t=q then [AV.ar 1 ⟨1,some r⟩ 0 n] else [AV.ar 1 ⟨1,some t⟩ 0 n])=[AV.ar 1 ⟨1,some (sI r q t)⟩ 0 n]:=by
  unfold sI Had.sw
  by_cases h1:t=r
  · rw [if_pos h1,if_pos h1]
  · by_cases h2:t=q
    · rw [if_neg h1,if_pos h2,if_neg h1,if_pos h2]
    · rw [if_neg h1,if_neg h2,if_neg h1,if_neg h2]
theorem el_rf (N:Nat→Nat→Int) (r c:Nat) (d:Int):Had.el N r c d r=N r:=funext fun k=>el_r N r c d k
theorem con_l9Reduced {n m rmx:Nat} {B:Int} {M:Nat→Nat→Int} {K:Nat→Nat→(Nat→Nat→Int)→Prop} (hn:n≤1000) (hm:m≤1000) (hB:1≤B) (hM:B ^ (2*rmx)≤2 ^ 124) (hx1:1≤rmx)
    (hok:∀ c,c≤n→Had.ROK n m rmx B K c (Had.rrun m (Had.rini M) c)) {S:Had.RS} (hS:Had.rrun m (Had.rini M) n=S) :
    Con Tryz.prog 226 0 [] [ssA2 m (cM n M)] (mH n m (fun i=>Had.prm n (S.A i)) S.r (fun i=>(S.p i:Int))) (.tup [.ar 1 0 0 m,.ar 1 2 0 S.r]):=by
  refine csZ Tryz.func226 (fun cx hc=>?_)
  generalize hQ:Post cx (mH n m (fun i=>Had.prm n (S.A i)) S.r (fun i=>(S.p i:Int))) (.tup [.ar 1 0 0 m,.ar 1 2 0 S.r])=Q
  have hpow:∀ j,j≤2*rmx→B ^ j≤2 ^ 124:=fun j hj=>Int.le_trans (Had.pow_mono hB hj) hM
  have l3:∀ (N:Nat→Nat→Int) (r:Nat) (p:Nat→Int) (d:Int) (c:Nat),c<n→r<m→d≠0→N r c≠0 →
      (∀ i k,i<m→k<n→N i k*N i k≤2 ^ 124) →
      (∀ i k,i<m→i≠r→k<n→d*Had.el N r c d i k=N r c*N i k - N i c*N r k∧(d*Had.el N r c d i k)*(d*Had.el N r c d i k)≤2 ^ 124) →
      ∀ p':Nat→Int,(∀ t,t<r+1→p' t=if t<r then p t else c) →
      Run Tryz.prog cx 226 zf46 (Q1 n m (fun i=>Had.prm n (Had.el N r c d i)) (r+1) p' (c+1)) Q →
      ∀ e i,i+e=m→Run Tryz.prog cx 226 zf7 (Q3 n m (fun i'=>if i'<i then Had.prm n (Had.el N r c d i') else Had.prm n (N i')) r p c i) Q:=by
    intro N r p d c hcn hrm hd0 hx hN hE p' hp hnext e
    induction e with
    | zero =>
      intro i hi
      obtain rfl:i=m:=by omega
      have hd:decide ((i:Int)<(i:Int))=false:=decide_eq_false (by omega)
      have hT:∀ s,s<i→(if s<i then Had.prm n (Had.el N r c d s) else Had.prm n (N s))=Had.prm n (Had.el N r c d s):=fun s hs=>if_pos hs
      refine pcZ hc (qx n i (fun i'=>if i'<i then Had.prm n (Had.el N r c d i') else Had.prm n (N i')) (fun i=>Had.prm n (Had.el N r c d i)) r p p' c i) ?_ hnext
      repeat' (first | exact aN | apply aI)
      all_goals (first | exact aA _ _ | omega | rfl | (intros;first | assumption | exact trivial | rfl) | (exact hd) | (intro s hs;simp only [All,cM];exact ⟨trivial,Nat.le_refl _,fun t ht=>by rw [hT s hs],trivial⟩) | (intro t ht;rw [hp t ht];by_cases h':t<r<;>simp [h',cvtL,cvt,tg,tru,All];done) | (intro t ht;simp [All];done) | (simp only [All];first | exact aA _ _ | omega | rfl | (intros;first | assumption | exact trivial | rfl) | (exact hd) | (intro s hs;simp only [All,cM];exact ⟨trivial,Nat.le_refl _,fun t ht=>by rw [hT s hs],trivial⟩) | (intro t ht;rw [hp t ht];by_cases h':t<r<;>simp [h',cvtL,cvt,tg,tru,All];done) | (intro t ht;simp [All];done)))
    | succ e ih =>
      intro i hi
      have hr:=ih (i+1) (by omega)
      have hd:decide ((i:Int)<(m:Int))=true:=decide_eq_true (by omega)
      have e1:(if i<i then Had.prm n (Had.el N r c d i) else Had.prm n (N i))=Had.prm n (N i):=if_neg (Nat.lt_irrefl _)
      have e2:(if r<i then Had.prm n (Had.el N r c d r) else Had.prm n (N r))=Had.prm n (N r):=by rw [el_rf];split<;>rfl
      have next:(∀ k,k<n→Had.prm n (Had.el N r c d i) k=Had.prm n (N i) k)→∀ s,s<m→∀ t,t<n →
          (if s<i then Had.prm n (Had.el N r c d s) else Had.prm n (N s)) t=(if s<i+1 then Had.prm n (Had.el N r c d s) else Had.prm n (N s)) t:=by
        intro h s hs t ht
        by_cases h1:s<i
        · rw [if_pos h1,if_pos (by omega)]
        · by_cases h2:s=i
          · rw [if_neg h1,if_pos (by omega),h2,h t ht]
          · rw [if_neg h1,if_neg (by omega)]
      by_cases hir:i=r
      · have hb:(bif (i:Int) != (r:Int) then (cM n (fun i'=>if i'<i then Had.prm n (Had.el N r c d i') else Had.prm n (N i')) i).2 c != 0 else false)=false:=by simp [hir]
        have hT:=next (fun k hk=>by rw [hir,el_rf])
        refine pcZ hc (qf n m (fun i'=>if i'<i then Had.prm n (Had.el N r c d i') else Had.prm n (N i')) (fun i'=>if i'<i+1 then Had.prm n (Had.el N r c d i') else Had.prm n (N i')) r p c i) ?_ hr
        repeat' (first | exact aN | apply aI)
        all_goals (first | exact aG _ | exact aA _ _ | omega | rfl | (intros;first | assumption | exact trivial | rfl | exact fT ‹_›) | (exact hd) | (exact hb) | (intro s hs;simp only [All,cM];exact ⟨trivial,Nat.le_refl _,fun t ht=>by rw [hT s hs t ht],trivial⟩) | (intro h;exact h) | (intro h;omega) | (intro t ht;simp [All];done) | (simp only [All];first | exact aG _ | exact aA _ _ | omega | rfl | (intros;first | assumption | exact trivial | rfl | exact fT ‹_›) | (exact hd) | (exact hb) | (intro s hs;simp only [All,cM];exact ⟨trivial,Nat.le_refl _,fun t ht=>by rw [hT s hs t ht],trivial⟩) | (intro h;exact h) | (intro h;omega) | (intro t ht;simp [All];done)))
      · have hi1:(i:Int) != (r:Int):=by simp;omega
        have sp:=fun k hk=>Had.step_prm (n:=n) (u:=N i) (v:=N r) (w:=Had.el N r c d i) hd0 hcn hx (fun k hk=>(hE i k (by omega) hir hk).1) (k:=k) hk
        by_cases h0:Had.prm n (N i) c=0
        · have hb:(bif (i:Int) != (r:Int) then (cM n (fun i'=>if i'<i then Had.prm n (Had.el N r c d i') else Had.prm n (N i')) i).2 c != 0 else false)=false:=by
            rw [hi1]
            show ((if i<i then Had.prm n (Had.el N r c d i) else Had.prm n (N i)) c != 0)=false
            rw [e1,h0];rfl
          have hT:=next (fun k hk=>by rw [(sp k hk).1,if_pos h0])
          refine pcZ hc (qf n m (fun i'=>if i'<i then Had.prm n (Had.el N r c d i') else Had.prm n (N i')) (fun i'=>if i'<i+1 then Had.prm n (Had.el N r c d i') else Had.prm n (N i')) r p c i) ?_ hr
          repeat' (first | exact aN | apply aI)
          all_goals (first | exact aG _ | exact aA _ _ | omega | rfl | (intros;first | assumption | exact trivial | rfl | exact fT ‹_›) | (exact hd) | (exact hb) | (intro s hs;simp only [All,cM];exact ⟨trivial,Nat.le_refl _,fun t ht=>by rw [hT s hs t ht],trivial⟩) | (intro h;exact h) | (intro h;omega) | (intro t ht;simp [All];done) | (simp only [All];first | exact aG _ | exact aA _ _ | omega | rfl | (intros;first | assumption | exact trivial | rfl | exact fT ‹_›) | (exact hd) | (exact hb) | (intro s hs;simp only [All,cM];exact ⟨trivial,Nat.le_refl _,fun t ht=>by rw [hT s hs t ht],trivial⟩) | (intro h;exact h) | (intro h;omega) | (intro t ht;simp [All];done)))
        · have hb:(bif (i:Int) != (r:Int) then (cM n (fun i'=>if i'<i then Had.prm n (Had.el N r c d i') else Had.prm n (N i')) i).2 c != 0 else false)=true:=by
            rw [hi1]
            show ((if i<i then Had.prm n (Had.el N r c d i) else Had.prm n (N i)) c != 0)=true
            rw [e1];simpa using h0
          have cw:=con_Without n c (Had.prm n (N i)) (Had.prm n (N r)) hn hcn (fun h=>hx ((Had.prm_zero hcn).1 h)) (fun k hk=>Int.le_trans (Had.prm_sq hk) (hN i k (by omega) hk)) (fun k hk=>Int.le_trans (Had.prm_sq hk) (hN r k hrm hk))
            (fun k hk=>Int.le_trans ((sp k hk).2 k hk) (hE i k (by omega) hir hk).2)
          have hT:∀ t,t<n→Had.prm n (Had.wo (Had.prm n (N i)) (Had.prm n (N r)) c) t=Had.prm n (Had.el N r c d i) t:=fun t ht=>by rw [(sp t ht).1,if_neg h0]
          generalize Had.prm n (Had.wo (Had.prm n (N i)) (Had.prm n (N r)) c)=w at cw hT
          have cw':Con Tryz.prog 314 0 [] [inD n (if i<i then Had.prm n (Had.el N r c d i) else Had.prm n (N i)),inD n (if r<i then Had.prm n (Had.el N r c d r) else Had.prm n (N r)),.p (.int .i64 c)] [(0,iOb n w)] (.ar 1 0 0 n):=by
            rw [e1,e2];exact cw
          have hN1:∀ s,s≠i→(if s<i then Had.prm n (Had.el N r c d s) else Had.prm n (N s))=(if s<i+1 then Had.prm n (Had.el N r c d s) else Had.prm n (N s)):=fun s hs=>by
            by_cases h1:s<i
            · rw [if_pos h1,if_pos (by omega)]
            · rw [if_neg h1,if_neg (by omega)]
          have hN2:(if i<i+1 then Had.prm n (Had.el N r c d i) else Had.prm n (N i))=Had.prm n (Had.el N r c d i):=if_pos (by omega)
          refine pcZ hc (qt n m (fun i'=>if i'<i then Had.prm n (Had.el N r c d i') else Had.prm n (N i')) (fun i'=>if i'<i+1 then Had.prm n (Had.el N r c d i') else Had.prm n (N i')) r p c i w) ?_ hr
          repeat' (first | exact aN | apply aI)
          all_goals (first | exact aG _ | exact aA _ _ | omega | rfl | (intros;first | assumption | exact trivial | rfl | exact fT ‹_› | ((repeat' (first | assumption | apply anda | apply notf));done)) | (exact hd) | (exact hb) | (exact cw') | (intro h;exact h) | (intro h;omega) | (intro s hs;by_cases h1:s=i;exact ⟨by simp [h1,cvtL,cvt,idx,idx1,idO,idM,All],by simp [h1,cvtL,cvt,idx,idx1,idO,idM]⟩;exact ⟨by simp [h1,cvtL,cvt,idx,idx1,idO,idM,All],by simp [h1,cvtL,cvt,idx,idx1,idO,idM]⟩) | (intro s hs hne;refine ⟨hs,?_⟩;simp only [All,cM];exact ⟨trivial,Nat.le_refl _,fun t ht=>by rw [hN1 s hne],trivial⟩) | (intro _;simp only [All,cM];exact ⟨trivial,Nat.le_refl _,fun t ht=>by rw [hN2,hT t ht],trivial⟩) | (intro t ht;simp [All];done) | (simp only [All];first | exact aG _ | exact aA _ _ | omega | rfl | (intros;first | assumption | exact trivial | rfl | exact fT ‹_› | ((repeat' (first | assumption | apply anda | apply notf));done)) | (exact hd) | (exact hb) | (exact cw') | (intro h;exact h) | (intro h;omega) | (intro s hs;by_cases h1:s=i;exact ⟨by simp [h1,cvtL,cvt,idx,idx1,idO,idM,All],by simp [h1,cvtL,cvt,idx,idx1,idO,idM]⟩;exact ⟨by simp [h1,cvtL,cvt,idx,idx1,idO,idM,All],by simp [h1,cvtL,cvt,idx,idx1,idO,idM]⟩) | (intro s hs hne;refine ⟨hs,?_⟩;simp only [All,cM];exact ⟨trivial,Nat.le_refl _,fun t ht=>by rw [hN1 s hne],trivial⟩) | (intro _;simp only [All,cM];exact ⟨trivial,Nat.le_refl _,fun t ht=>by rw [hN2,hT t ht],trivial⟩) | (intro t ht;simp [All];done)))
  have l1:0<m→∀ e c,c+e=n→Run Tryz.prog cx 226 zf46 (Q1 n m (fun i=>Had.prm n ((Had.rrun m (Had.rini M) c).A i)) (Had.rrun m (Had.rini M) c).r (fun i=>((Had.rrun m (Had.rini M) c).p i:Int)) c) Q:=by
    intro hm0 e
    have dm:decide ((m:Int)>0)=true:=decide_eq_true (by omega)
    induction e with
    | zero =>
      intro c hcn
      obtain rfl:c=n:=by omega
      rw [hS,← hQ]
      have hd:(bif decide ((m:Int)>0) then decide ((c:Int)<(c:Int)) else false)=false:=by rw [dm];simp
      refine pkZ Tryz.func226 hc (qe c m (fun i=>Had.prm c (S.A i)) S.r (fun i=>(S.p i:Int)) c) ?_
      repeat' (first | exact aN | apply aI)
      all_goals (first | exact aG _ | exact aP _ _ | exact aA _ _ | exact aE _ | omega | rfl | (intros;first | assumption | exact trivial | rfl | exact fT ‹_›) | (exact hd) | (intro h;exact h) | (intro h;omega) | (intro t ht;simp [All];done) | (simp only [All];first | exact aG _ | exact aP _ _ | exact aA _ _ | exact aE _ | omega | rfl | (intros;first | assumption | exact trivial | rfl | exact fT ‹_›) | (exact hd) | (intro h;exact h) | (intro h;omega) | (intro t ht;simp [All];done)))
    | succ e ih =>
      intro c hcn
      have hr:=ih (c+1) (by omega)
      have ok:=hok c (by omega)
      have ok':=hok (c+1) (by omega)
      have hst:Had.rrun m (Had.rini M) (c+1)=Had.rstep m c (Had.rrun m (Had.rini M) c):=rfl
      rw [hst] at hr ok'
      generalize Had.rrun m (Had.rini M) c=T at *
      have hrm:=ok.bar.rm
      have hd:(bif decide ((m:Int)>0) then decide ((c:Int)<(n:Int)) else false)=true:=by
        rw [dm,decide_eq_true (show (c:Int)<(n:Int) by omega)];rfl
      have l2:∀ e i,i+e=m→T.r≤i→(∀ j,T.r≤j→j<i→T.A j c=0)→Run Tryz.prog cx 226 zf10 (Q2 n m (fun i=>Had.prm n (T.A i)) T.r (fun i=>(T.p i:Int)) c i) Q:=by
        intro e
        induction e with
        | zero =>
          intro i hi hri hz
          obtain rfl:i=m:=by omega
          have hf:=fnd_is hri (Nat.le_refl _) hz (.inl rfl)
          have hst:Had.rstep i c T=T:=by unfold Had.rstep;rw [hf,if_neg (Nat.lt_irrefl _)]
          rw [hst] at hr
          have hd0:decide ((i:Int)<(i:Int))=false:=decide_eq_false (by omega)
          have hq:((i:Int)==(i:Int))=true:=by simp
          refine pcZ hc (qn n i (fun i=>Had.prm n (T.A i)) T.r (fun i=>(T.p i:Int)) c i) ?_ hr
          repeat' (first | exact aN | apply aI)
          all_goals (first | exact aG _ | exact aP _ _ | exact aA _ _ | omega | rfl | (intros;first | assumption | exact trivial | rfl | exact fT ‹_›) | (rw [hd0];rfl) | (exact hq) | (intro h;exact h) | (intro h;rw [hd0] at h;cases h) | (intro t ht;simp [All];done) | (simp only [All];first | exact aG _ | exact aP _ _ | exact aA _ _ | omega | rfl | (intros;first | assumption | exact trivial | rfl | exact fT ‹_›) | (rw [hd0];rfl) | (exact hq) | (intro h;exact h) | (intro h;rw [hd0] at h;cases h) | (intro t ht;simp [All];done)))
        | succ e ih2 =>
          intro i hi hri hz
          have hd1:decide ((i:Int)<(m:Int))=true:=decide_eq_true (by omega)
          by_cases h0:T.A i c=0
          · have hb:(bif decide ((i:Int)<(m:Int)) then (cM n (fun i=>Had.prm n (T.A i)) i).2 c==0 else false)=true:=by
              rw [hd1];show (Had.prm n (T.A i) c==0)=true;rw [(Had.prm_zero (by omega)).2 h0];rfl
            refine pcZ hc (qs n m (fun i=>Had.prm n (T.A i)) T.r (fun i=>(T.p i:Int)) c i) ?_ (ih2 (i+1) (by omega) (by omega) (fun j j1 j2=>by
              by_cases h:j=i
              · rw [h];exact h0
              · exact hz j j1 (by omega)))
            repeat' (first | exact aN | apply aI)
            all_goals (first | exact aG _ | exact aP _ _ | exact aA _ _ | omega | rfl | (intros;first | assumption | exact trivial | rfl | exact fT ‹_›) | (exact hb) | (intro h;exact h) | (intro h;omega) | (intro t ht;simp [All];done) | (simp only [All];first | exact aG _ | exact aP _ _ | exact aA _ _ | omega | rfl | (intros;first | assumption | exact trivial | rfl | exact fT ‹_›) | (exact hb) | (intro h;exact h) | (intro h;omega) | (intro t ht;simp [All];done)))
          · have hp0:Had.prm n (T.A i) c≠0:=fun h=>h0 ((Had.prm_zero (by omega)).1 h)
            have hb:(bif decide ((i:Int)<(m:Int)) then (cM n (fun i=>Had.prm n (T.A i)) i).2 c==0 else false)=false:=by
              rw [hd1];show (Had.prm n (T.A i) c==0)=false;simpa using hp0
            have hq:((i:Int)==(m:Int))=false:=by simp;omega
            have hf:=fnd_is hri (show i≤m by omega) hz (.inr h0)
            have hst:Had.rstep m c T=⟨Had.el (Had.sw T.A T.r i) T.r c T.d,T.r+1,fun j=>if j=T.r then c else T.p j,T.A i c⟩:=by
              unfold Had.rstep;rw [hf,if_pos (show i<m by omega)]
            rw [hst] at hr ok'
            have hrl:T.r<m:=by omega
            have hsw:=ok.bar.swap hri (by omega:i<m)
            have hx:Had.sw T.A T.r i T.r c≠0:=by rw [Had.sw_at];exact h0
            obtain ⟨b1,b2⟩:=hsw.elim (c:=c) hrl (by omega) hx
            have hr2:T.r+1≤rmx:=ok'.r
            have hE:∀ i' k,i'<m→i'≠T.r→k<n→T.d*Had.el (Had.sw T.A T.r i) T.r c T.d i' k=Had.sw T.A T.r i T.r c*Had.sw T.A T.r i i' k - Had.sw T.A T.r i i' c*Had.sw T.A T.r i T.r k ∧
                (T.d*Had.el (Had.sw T.A T.r i) T.r c T.d i' k)*(T.d*Had.el (Had.sw T.A T.r i) T.r c T.d i' k)≤2 ^ 124:=by
              intro i' k h1 h2 h3
              refine ⟨b2 i' k h1 h2 h3,sq_of ?_⟩
              have hd2:=ok.bar.bd
              have hv:Had.el (Had.sw T.A T.r i) T.r c T.d i' k*Had.el (Had.sw T.A T.r i) T.r c T.d i' k≤B ^ (T.r+2):=by
                by_cases h4:i'<T.r+1
                · exact Int.le_trans (b1.bpiv h4 h3) (Had.pow_mono hB (by omega))
                · exact b1.bnon (by omega) h1 h3
              exact Had.prod_le hB hM hd2 hv (by omega)
            have hN:∀ i' k,i'<m→k<n→Had.sw T.A T.r i i' k*Had.sw T.A T.r i i' k≤2 ^ 124:=by
              intro i' k h1 h2
              by_cases h4:i'<T.r
              · exact Int.le_trans (hsw.bpiv h4 h2) (hpow _ (by omega))
              · exact Int.le_trans (hsw.bnon (by omega) h1 h2) (hpow _ (by omega))
            have h3:=l3 (Had.sw T.A T.r i) T.r (fun i=>(T.p i:Int)) T.d c (by omega) hrl ok.bar.d0 hx hN hE _ (fun t ht=>by
              show ((if t=T.r then c else T.p t:Nat):Int)=_
              by_cases h:t<T.r
              · rw [if_pos h,if_neg (by omega)]
              · rw [if_neg h,if_pos (by omega)]) hr m 0 (by omega)
            have hsI:∀ t,T.A (sI T.r i t)=Had.sw T.A T.r i t:=fun t=>sw_sI T.A T.r i t
            have e0:(fun i'=>if i'<0 then Had.prm n (Had.el (Had.sw T.A T.r i) T.r c T.d i') else Had.prm n (Had.sw T.A T.r i i'))=Had.sw (fun i=>Had.prm n (T.A i)) T.r i:=funext fun i'=>by
              rw [if_neg (Nat.not_lt_zero _),← sw_sI (fun i=>Had.prm n (T.A i)) T.r i i',← hsI]
            rw [e0] at h3
            have hsJ:∀ t,Had.prm n (T.A (sI T.r i t))=Had.sw (fun i=>Had.prm n (T.A i)) T.r i t:=fun t=>sw_sI (fun i=>Had.prm n (T.A i)) T.r i t
            refine pcZ hc (qp n m (fun i=>Had.prm n (T.A i)) T.r (fun i=>(T.p i:Int)) c i) ?_ h3
            repeat' (first | exact aN | apply aI)
            all_goals (first | exact aG _ | exact aA _ _ | omega | rfl | (intros;first | assumption | exact trivial | rfl | exact fT ‹_›) | (exact hb) | (exact hq) | (intro h;exact h) | (intro h;omega) | (exact sI_q _ _) | (exact sI_sI _ _ _) | (intro t ht;simp only [rowsw'];exact ⟨by simp [cvtL,cvt,idx,idx1,idO,idM,All,sI_sI],by simp [cvtL,cvt,idx,idx1,idO,idM,sI_sI]⟩) | (intro t ht;refine ⟨sI_lt (by omega) (by omega) ht,sI_sI _ _ _,?_⟩;simp [cM,hsJ];done) | (intro t ht;simp [All];done) | (simp only [All];first | exact aG _ | exact aA _ _ | omega | rfl | (intros;first | assumption | exact trivial | rfl | exact fT ‹_›) | (exact hb) | (exact hq) | (intro h;exact h) | (intro h;omega) | (exact sI_q _ _) | (exact sI_sI _ _ _) | (intro t ht;simp only [rowsw'];exact ⟨by simp [cvtL,cvt,idx,idx1,idO,idM,All,sI_sI],by simp [cvtL,cvt,idx,idx1,idO,idM,sI_sI]⟩) | (intro t ht;refine ⟨sI_lt (by omega) (by omega) ht,sI_sI _ _ _,?_⟩;simp [cM,hsJ];done) | (intro t ht;simp [All];done)))
      refine pcZ hc (qb n m (fun i=>Had.prm n (T.A i)) T.r (fun i=>(T.p i:Int)) c) ?_ (l2 (m - T.r) T.r (by omega) (Nat.le_refl _) (fun j j1 j2=>absurd j2 (by omega)))
      repeat' (first | exact aN | apply aI)
      all_goals (first | exact aG _ | exact aP _ _ | exact aA _ _ | omega | rfl | (intros;first | assumption | exact trivial | rfl | exact fT ‹_›) | (exact hd) | (intro h;exact h) | (intro h;omega) | (intro t ht;simp [All];done) | (simp only [All];first | exact aG _ | exact aP _ _ | exact aA _ _ | omega | rfl | (intros;first | assumption | exact trivial | rfl | exact fT ‹_›) | (exact hd) | (intro h;exact h) | (intro h;omega) | (intro t ht;simp [All];done)))
  have hb0:=(hok 0 (Nat.zero_le _)).bar
  have l0:∀ e i,i+e=m→Run Tryz.prog cx 226 zf70 (Q0 m (cM n M) i (cM n (fun i=>Had.prm n (M i)))) Q:=by
    intro e
    induction e with
    | zero =>
      intro i hi
      obtain rfl:i=m:=by omega
      have hd:decide ((i:Int)<(i:Int))=false:=decide_eq_false (by omega)
      by_cases hm0:0<i
      · refine pcZ hc (qzc n i (cM n M) (fun i=>Had.prm n (M i))) ?_ (l1 hm0 n 0 (by omega))
        repeat' (first | exact aN | apply aI)
        all_goals (first | exact aP _ _ | exact aA _ _ | omega | rfl | (intros;first | assumption | exact trivial | rfl) | (exact hd) | (intro t ht;exact absurd ht (Nat.not_lt_zero _)) | (intro t ht;simp [All];done) | (simp only [All];first | exact aP _ _ | exact aA _ _ | omega | rfl | (intros;first | assumption | exact trivial | rfl) | (exact hd) | (intro t ht;exact absurd ht (Nat.not_lt_zero _)) | (intro t ht;simp [All];done)))
      · obtain rfl:i=0:=by omega
        have hSe:S=Had.rini M:=by
          rw [← hS,show n=0+n by omega]
          exact rrun_full (S:=Had.rini M) (c:=0) rfl n
        have dm:decide (((0:Nat):Int)>0)=false:=decide_eq_false (by omega)
        have hd2:(bif decide (((0:Nat):Int)>0) then decide (((0:Nat):Int)<(n:Int)) else false)=false:=by rw [dm];rfl
        rw [← hQ,hSe]
        refine pcZ hc (qzc n 0 (cM n M) (fun i=>Had.prm n (M i))) ?_ (pkZ Tryz.func226 hc (qe n 0 (fun i=>Had.prm n (M i)) 0 (fun _=>0) 0) ?_)
        ·
          repeat' (first | exact aN | apply aI)
          all_goals (first | exact aP _ _ | exact aA _ _ | omega | rfl | (intros;first | assumption | exact trivial | rfl) | (exact hd) | (intro t ht;exact absurd ht (Nat.not_lt_zero _)) | (intro t ht;simp [All];done) | (simp only [All];first | exact aP _ _ | exact aA _ _ | omega | rfl | (intros;first | assumption | exact trivial | rfl) | (exact hd) | (intro t ht;exact absurd ht (Nat.not_lt_zero _)) | (intro t ht;simp [All];done)))
        ·
          repeat' (first | exact aN | apply aI)
          all_goals (first | exact aG _ | exact aP _ _ | exact aA _ _ | exact aE _ | omega | rfl | (intros;first | assumption | exact trivial | rfl | exact fT ‹_› | ((repeat' (first | assumption | apply anda | apply notf));done)) | (exact hd2) | (intro h;exact h) | (intro h;rw [dm] at h;cases h) | (intro t ht;exact absurd ht (Nat.not_lt_zero _)) | (intro t ht;simp [All];done))
    | succ e ih =>
      intro i hi
      have hd:decide ((i:Int)<(m:Int))=true:=decide_eq_true (by omega)
      have cc:=con_Clean n (M i) hn (fun k hk=>Int.le_trans (hb0.bnon (Nat.zero_le i) (by omega) hk) (hpow 1 (by omega)))
      refine pcZ hc (qzb m (cM n M) (cM n (fun i=>Had.prm n (M i))) i) ?_ (ih (i+1) (by omega))
      repeat' (first | exact aN | apply aI)
      all_goals (first | exact aP _ _ | omega | rfl | (intros;first | assumption | exact trivial | rfl | exact fT ‹_›) | (exact hd) | (exact cc) | (intro t ht;by_cases h':t<i;exact ⟨by simp [h',cvtL,cvt,tg,tru,idx,idx1,idO,idM,All,Nat.ne_of_lt h'],by simp [h',cvtL,cvt,tg,tru,idx,idx1,idO,idM]⟩;rw [show t=i by omega];exact ⟨by simp [cvtL,cvt,tg,tru,idx,idx1,idO,idM,All],by simp [cvtL,cvt,tg,tru,idx,idx1,idO,idM]⟩) | (intro t ht hne;exact ⟨by omega,by simp [All]⟩) | (intro t ht;simp [All];done) | (intro h;simp [All];done) | (simp only [All];first | exact aP _ _ | omega | rfl | (intros;first | assumption | exact trivial | rfl | exact fT ‹_›) | (exact hd) | (exact cc) | (intro t ht;by_cases h':t<i;exact ⟨by simp [h',cvtL,cvt,tg,tru,idx,idx1,idO,idM,All,Nat.ne_of_lt h'],by simp [h',cvtL,cvt,tg,tru,idx,idx1,idO,idM]⟩;rw [show t=i by omega];exact ⟨by simp [cvtL,cvt,tg,tru,idx,idx1,idO,idM,All],by simp [cvtL,cvt,tg,tru,idx,idx1,idO,idM]⟩) | (intro t ht hne;exact ⟨by omega,by simp [All]⟩) | (intro t ht;simp [All];done) | (intro h;simp [All];done)))
  refine pcZ hc (qza m (cM n M) (cM n (fun i=>Had.prm n (M i)))) ?_ (l0 m 0 (by omega))
  repeat' (first | exact aN | apply aI)
  all_goals (first | exact aP _ _ | omega | rfl | (intros;first | assumption | exact trivial | rfl) | (intro t ht;exact absurd ht (Nat.not_lt_zero _)) | (intro t ht;simp [All];done) | (simp only [All];first | exact aP _ _ | omega | rfl | (intros;first | assumption | exact trivial | rfl) | (intro t ht;exact absurd ht (Nat.not_lt_zero _)) | (intro t ht;simp [All];done)))
end Go.Proofs.YtkkjoghiigiokaaGreat.Mach
namespace Go.Proofs.YtkkjoghiigiokaaGreat.Mach
open Go
set_option linter.unusedVariables false
set_option linter.unusedSimpArgs false
def byO (n:Nat) (f:Nat→Int):Ob:=⟨false,1,n,fun i=>[.p (.int .u8 (f i))]⟩
def swF (i j:Nat) (f:Nat→Int) (r:Nat):Int:=if r=j then f i else if r=i then f j else f r
def apF (n:Nat) (f:Nat→Int) (x:Int) (r:Nat):Int:=if r<n then f r else x
def SFs (m:Int) (o:ByteArray) (ng:Bool):St :=
  ⟨[.p (.int .i64 m),.p .any,.p .any,.p (.str o),.p (.bool ng)]++List.replicate 26 anyA,[],0⟩
def SFi (n m:Int) (l:Nat) (f:Nat→Int):St :=
  ⟨[.p (.int .i64 n),.p .any,.p .any,.ar 1 0 0 l,.p (.int .i64 m)]++List.replicate 54 anyA,[(0,byO l f)],1⟩
def SFr (l i:Nat) (j:Int) (f:Nat→Int):St :=
  ⟨[.p .any,.p .any,.p .any,.ar 1 0 0 l,.p .any,.p .any,.p (.int .i64 i),.p (.int .i64 j)]++List.replicate 51 anyA,[(0,byO l f)],1⟩
theorem fS0 (n:Int) (s:ByteArray) :
    pathOb Tryz.prog Tryz.f118 0 [rg 1,rg 2,.dec true,rg 1] [.code (bodyOf Tryz.f118)] (start Tryz.f118 [] 0 [.p (.int .i64 n)]) [] 1 [] (.p (.str s)) =
    some [((n==0)=true),(ByteArray.mk #[48]=s)]:=by kernel_rfl
theorem fSz (n:Int) (o:ByteArray) :
    pieceOb Tryz.prog 0 [rg 1,rg 2,.dec false,rg 1,rg 3,.head] [.code (bodyOf Tryz.f118)] (start Tryz.f118 [] 0 [.p (.int .i64 n)]) [] 1 (SFs n o (decide (n<0))) =
    some (zf52,[((n==0)=false),(AI n),(ByteArray.mk #[]=o),((decide (n<0))=(decide (n<0)))]):=by kernel_rfl
theorem fSn (m m2:Int) (o o2:ByteArray) (ng:Bool) :
    pieceOb Tryz.prog 0 [rg 2,.dec true,rm [(1,oF)] 1,rg 2,.dec true,rg 3,rg 8,rm [(1,oF)] 1,.head] zf52 (SFs m o ng) [] 1 (SFs m2 o2 ng) =
    some (zf52,[((m != 0)=true),((10:Int)≠0),((decide (m.tmod 10<0))=true),(ZLo (0 - m.tmod 10)),(ZHi (0 - m.tmod 10)),(ZLo (48+(0 - m.tmod 10))),(ZHi (48+(0 - m.tmod 10))),(IL 0 (48+(0 - m.tmod 10))),(IL (48+(0 - m.tmod 10)) 255),(NL 1 1),(okBytes 1 (fun i=>[.p (.int .u8 (48+(0 - m.tmod 10)))])),(NL ((bytesOf 1 fun i=>[AV.p (PV.int IntKind.u8 (48+(0 - m.tmod 10)))]).size+o.size) 9223372036854775807),((10:Int)≠0),(((IntKind.i64.wrap (m.tdiv 10)):Int)=m2),((bytesOf 1 fun i=>[AV.p (PV.int IntKind.u8 (48+(0 - m.tmod 10)))])++o=o2),(ng=ng)]):=by kernel_rfl
theorem fSp (m m2:Int) (o o2:ByteArray) (ng:Bool) :
    pieceOb Tryz.prog 0 [rg 2,.dec true,rm [(1,oF)] 1,rg 2,.dec false,rg 8,rm [(1,oF)] 1,.head] zf52 (SFs m o ng) [] 1 (SFs m2 o2 ng) =
    some (zf52,[((m != 0)=true),((10:Int)≠0),((decide (m.tmod 10<0))=false),(ZLo (48+m.tmod 10)),(ZHi (48+m.tmod 10)),(IL 0 (48+m.tmod 10)),(IL (48+m.tmod 10) 255),(NL 1 1),(okBytes 1 (fun i=>[.p (.int .u8 (48+m.tmod 10))])),(NL ((bytesOf 1 fun i=>[AV.p (PV.int IntKind.u8 (48+m.tmod 10))]).size+o.size) 9223372036854775807),((10:Int)≠0),(((IntKind.i64.wrap (m.tdiv 10)):Int)=m2),((bytesOf 1 fun i=>[AV.p (PV.int IntKind.u8 (48+m.tmod 10))])++o=o2),(ng=ng)]):=by kernel_rfl
theorem fSt (m:Int) (o s:ByteArray) (ng:Bool) :
    pathOb Tryz.prog Tryz.f118 0 [rg 2,.dec false,rg 1,.dec true,rg 3] zf52 (SFs m o ng) [] 1 [] (.p (.str s)) =
    some [((m != 0)=false),(ng=true),(NL ((ByteArray.mk #[45]).size+o.size) 9223372036854775807),(ByteArray.mk #[45]++o=s)]:=by kernel_rfl
theorem fSf (m:Int) (o s:ByteArray) (ng:Bool) :
    pathOb Tryz.prog Tryz.f118 0 [rg 2,.dec false,rg 1,.dec false,rg 2] zf52 (SFs m o ng) [] 1 [] (.p (.str s)) =
    some [((m != 0)=false),(ng=false),(o=s)]:=by kernel_rfl
theorem fI0 (n:Int) (s:ByteArray) :
    pathOb Tryz.prog Tryz.f129 0 [rg 1,rg 2,.dec true,rg 1] [.code (bodyOf Tryz.f129)] (start Tryz.f129 [] 0 [.p (.int .i64 n)]) [] 1 [] (.p (.str s)) =
    some [((n==0)=true),(ByteArray.mk #[48]=s)]:=by kernel_rfl
theorem fIz (n:Int) :
    pieceOb Tryz.prog 0 [rg 1,rg 2,.dec false,rg 2,rg 2,.head] [.code (bodyOf Tryz.f129)] (start Tryz.f129 [] 0 [.p (.int .i64 n)]) [96] 1 (SFi n n 0 (fun _=>0)) =
    some (zf54,[((n==0)=false),(AI n),(AN 0),(AN 0),(AI n),(AN 1),(NL 0 0),(AA 0 (fun i=>[.p (.int .u8 0)]))]):=by kernel_rfl
theorem fIn (n m m2:Int) (l:Nat) (f:Nat→Int) (x:Int) :
    pieceOb Tryz.prog 0 [rg 2,.dec true,rm [(1,oF)] 1,rg 2,.dec true,rg 3,rg 7,rm [(1,oF)] 1,.head] zf54 (SFi n m l f) [481] 1 (SFi n m2 (l+1) (apF l f x)) =
    some (zf54,[((m != 0)=true),((10:Int)≠0),((decide (m.tmod 10<0))=true),(ZLo (0 - m.tmod 10)),(ZHi (0 - m.tmod 10)),(ZLo (48+(0 - m.tmod 10))),(ZHi (48+(0 - m.tmod 10))),(IL 0 (48+(0 - m.tmod 10))),(IL (48+(0 - m.tmod 10)) 255),(NL 1 1),(NL l l),(NL ((l+1)*1) 140737488355328),(NL (l+1) 9223372036854775807),((10:Int)≠0),(AI n),(AN 0),(AN ((l+1))),(((IntKind.i64.wrap (m.tdiv 10)):Int)=m2),(AN 1),(NL (l+1) (l+1)),(CV [(481,⟨false,1,(l+1),(fun i_1=>(if (i_1<l) then [.p (.int .u8 (f i_1))] else [.p (.int .u8 (48+(0 - m.tmod 10)))]))⟩),(449,⟨false,1,1,(fun i_1=>[.p (.int .u8 (48+(0 - m.tmod 10)))])⟩)] [481] 1 (l+1) (fun i=>if (i<l) then [.p (.int .u8 (f i))] else [.p (.int .u8 (48+(0 - m.tmod 10)))]) (fun i=>[.p (.int .u8 (apF l f x i))]))]):=by kernel_rfl
theorem fIp (n m m2:Int) (l:Nat) (f:Nat→Int) (x:Int) :
    pieceOb Tryz.prog 0 [rg 2,.dec true,rm [(1,oF)] 1,rg 2,.dec false,rg 7,rm [(1,oF)] 1,.head] zf54 (SFi n m l f) [385] 1 (SFi n m2 (l+1) (apF l f x)) =
    some (zf54,[((m != 0)=true),((10:Int)≠0),((decide (m.tmod 10<0))=false),(ZLo (48+m.tmod 10)),(ZHi (48+m.tmod 10)),(IL 0 (48+m.tmod 10)),(IL (48+m.tmod 10) 255),(NL 1 1),(NL l l),(NL ((l+1)*1) 140737488355328),(NL (l+1) 9223372036854775807),((10:Int)≠0),(AI n),(AN 0),(AN ((l+1))),(((IntKind.i64.wrap (m.tdiv 10)):Int)=m2),(AN 1),(NL (l+1) (l+1)),(CV [(385,⟨false,1,(l+1),(fun i_1=>(if (i_1<l) then [.p (.int .u8 (f i_1))] else [.p (.int .u8 (48+m.tmod 10))]))⟩),(353,⟨false,1,1,(fun i_1=>[.p (.int .u8 (48+m.tmod 10))])⟩)] [385] 1 (l+1) (fun i=>if (i<l) then [.p (.int .u8 (f i))] else [.p (.int .u8 (48+m.tmod 10))]) (fun i=>[.p (.int .u8 (apF l f x i))]))]):=by kernel_rfl
theorem fIt (n m:Int) (l:Nat) (f:Nat→Int) :
    pieceOb Tryz.prog 0 [rg 2,.dec false,rg 2,.dec true,rg 4,rg 5,.head] zf54 (SFi n m l f) [193] 1 (SFr (l+1) 0 (((l+1:Nat):Int) - 1) (apF l f 45)) =
    some (zf42,[((m != 0)=false),((decide (n<0))=true),(NL 1 1),(NL l l),(NL ((l+1)*1) 140737488355328),(NL (l+1) 9223372036854775807),(ZLo ((↑(l+1):Int) - 1)),(ZHi ((↑(l+1):Int) - 1)),(AN 0),(AN ((l+1))),((0:Int)=(↑0:Int)),(AI (((↑(l+1):Int) - 1))),(AN 1),(NL (l+1) (l+1)),(CV [(193,⟨false,1,(l+1),(fun i_1=>(if (i_1<l) then [.p (.int .u8 (f i_1))] else [.p (.int .u8 45)]))⟩),(161,⟨false,1,1,(fun i_1=>[.p (.int .u8 45)])⟩)] [193] 1 (l+1) (fun i=>if (i<l) then [.p (.int .u8 (f i))] else [.p (.int .u8 45)]) (fun i=>[.p (.int .u8 (apF l f 45 i))]))]):=by kernel_rfl
theorem fIf (n m:Int) (l:Nat) (f:Nat→Int) :
    pieceOb Tryz.prog 0 [rg 2,.dec false,rg 2,.dec false,rg 5,.head] zf54 (SFi n m l f) [0] 1 (SFr l 0 ((l:Int) - 1) f) =
    some (zf42,[((m != 0)=false),((decide (n<0))=false),(ZLo ((↑l:Int) - 1)),(ZHi ((↑l:Int) - 1)),(AN 0),(AN l),((0:Int)=(↑0:Int)),(AI (((↑l:Int) - 1))),(AN 1),(NL l l),(AA l (fun i=>[.p (.int .u8 (f i))]))]):=by kernel_rfl
theorem fIs (l i:Nat) (j:Int) (f:Nat→Int) :
    pieceOb Tryz.prog 0 [rg 3,.dec true,rg 16,rg 6,.head] zf42 (SFr l i j f) [0] 1 (SFr l (i+1) (j - 1) (swF i j.toNat f)) =
    some (zf42,[((decide ((↑i:Int)<j))=true),(IL 0 j),(IT j (↑l:Int)),(NT j.toNat l),(IL 0 (↑i:Int)),(IT (↑i:Int) (↑l:Int)),(NT i l),(IL 0 (↑i:Int)),(IT (↑i:Int) (↑l:Int)),(NT i l),((false=true)→ ((l:Nat)=1)),(IL 0 j),(IT j (↑l:Int)),(NT j.toNat l),((false=true)→ ((l:Nat)=1)),(ZLo ((↑i:Int)+1)),(ZHi ((↑i:Int)+1)),(ZLo (j - 1)),(ZHi (j - 1)),(AN 0),(AN l),((((↑i:Int)+1):Int)=(↑(i+1):Int)),(AI ((j - 1))),(AN 1),(NL l l),(CV [(0,⟨false,1,l,(fun i_2=>(if (i_2=j.toNat) then [.p (.int .u8 (f i))] else (if (i_2=i) then [.p (.int .u8 (f j.toNat))] else [.p (.int .u8 (f i_2))])))⟩)] [0] 1 l (fun i_1=>if (i_1=j.toNat) then [.p (.int .u8 (f i))] else (if (i_1=i) then [.p (.int .u8 (f j.toNat))] else [.p (.int .u8 (f i_1))])) (fun i_1=>[.p (.int .u8 (swF i j.toNat f i_1))]))]):=by kernel_rfl
theorem fIe (l i:Nat) (j:Int) (f:Nat→Int) (s:ByteArray) :
    pathOb Tryz.prog Tryz.f129 0 [rg 3,.dec false,rg 3] zf42 (SFr l i j f) [] 1 [] (.p (.str s)) =
    some [((decide ((↑i:Int)<j))=false),(NL l l),(okBytes l (fun i_1=>[.p (.int .u8 (f i_1))])),((bytesOf l fun i=>[AV.p (PV.int IntKind.u8 (f i))])=s)]:=by kernel_rfl
def dg:Nat→Nat→List Int
  | 0,_=>[]
  | f+1,m=>if m=0 then [] else (48+((m % 10:Nat):Int))::dg f (m / 10)
def bs (l:List Int):ByteArray:=l.foldl (fun r n=>r.push (UInt8.ofNat n.toNat)) ByteArray.empty
def fmtL (n:Int):List Int:=dg 20 n.natAbs++(if n<0 then [45] else [])
def fmtI (n:Int):ByteArray:=if n=0 then bs [48] else bs (fmtL n).reverse
theorem bs_fold (l:List Int):∀ s:ByteArray,(l.foldl (fun r n=>r.push (UInt8.ofNat n.toNat)) s).data=s.data++(l.map fun n=>UInt8.ofNat n.toNat).toArray:=by
  induction l with
  | nil=>intro s;simp
  | cons x l ih =>
    intro s
    simp only [List.foldl_cons,ih,List.map_cons]
    show s.data.push (UInt8.ofNat x.toNat)++_=_
    simp
theorem bs_data (l:List Int):(bs l).data=(l.map fun n=>UInt8.ofNat n.toNat).toArray:=by
  rw [bs,bs_fold]
  show #[]++_=_
  simp
theorem bs_append (a b:List Int):bs (a++b)=bs a++bs b:=by
  apply ByteArray.ext
  rw [bs_data,ByteArray.data_append,bs_data,bs_data]
  simp
theorem bs_size (l:List Int):(bs l).size=l.length:=by
  show (bs l).data.size=_
  rw [bs_data];simp
theorem bytesOf_bs (m:Nat) (f:Nat→Int):bytesOf m (fun i=>[.p (.int .u8 (f i))])=bs ((List.range m).map f):=rfl
theorem tm10 (c:Int):c.tmod 10=if 0≤c then ((c.natAbs % 10:Nat):Int) else -((c.natAbs % 10:Nat):Int):=by
  obtain ⟨k,rfl | rfl⟩:=c.eq_nat_or_neg
  · rw [if_pos (by omega),Int.natAbs_natCast];rfl
  · by_cases h:k=0
    · subst h;rfl
    · rw [if_neg (by omega),Int.neg_tmod,Int.natAbs_neg,Int.natAbs_natCast];rfl
theorem td10 (c:Int):c.tdiv 10=if 0≤c then ((c.natAbs / 10:Nat):Int) else -((c.natAbs / 10:Nat):Int):=by
  obtain ⟨k,rfl | rfl⟩:=c.eq_nat_or_neg
  · rw [if_pos (by omega),Int.natAbs_natCast];rfl
  · by_cases h:k=0
    · subst h;rfl
    · rw [if_neg (by omega),Int.neg_tdiv,Int.natAbs_neg,Int.natAbs_natCast];rfl
theorem td_abs (c:Int):(c.tdiv 10).natAbs=c.natAbs / 10:=by
  rw [td10];split<;>omega
theorem dg_len:∀ f m,(dg f m).length≤f
  | 0,_=>Nat.le_refl _
  | f+1,m=>by
    simp only [dg]
    split
    · simp
    · have:=dg_len f (m / 10);simp;omega
theorem fmt_size (n:Int):(fmtI n).size≤21:=by
  unfold fmtI
  split
  · simp [bs_size]
  · rw [bs_size,fmtL,List.length_reverse,List.length_append]
    have:=dg_len 20 n.natAbs
    split<;>simp<;>omega
theorem con_FormatInt_s (n:Int) (h0:-9223372036854775808≤n) (h1:n≤9223372036854775807):Con Tryz.prog 118 0 [] [.p (.int .i64 n)] [] (.p (.str (fmtI n))):=by
  refine csZ Tryz.func118 (fun c hc=>?_)
  by_cases hz:n=0
  · subst hz
    refine pkZ Tryz.func118 hc (fS0 0 (fmtI 0)) ?_
    repeat' (first | exact aN | apply aI)
    all_goals (first | omega | rfl | (intros;first | assumption | exact trivial | rfl) | rfl | (exact ByteArray.ext (by rw [fmtI,if_pos rfl,bs_data];rfl)))
  have hz':(n==0)=false:=by simpa using hz
  have lp:∀ f m l,l.length+f=20→m.natAbs<10 ^ f→dg 20 n.natAbs=l++dg f m.natAbs→(n<0→m≤0)→(0≤n→0≤m)→-9223372036854775808≤m→m≤9223372036854775807 →
      Run Tryz.prog c 118 zf52 (SFs m (bs l.reverse) (decide (n<0))) (Post c [] (.p (.str (fmtI n)))):=by
    have fin:∀ l,dg 20 n.natAbs=l→l.length≤20→Run Tryz.prog c 118 zf52 (SFs 0 (bs l.reverse) (decide (n<0))) (Post c [] (.p (.str (fmtI n)))):=by
      intro l hl hl2
      have hsz:=bs_size l.reverse
      rw [List.length_reverse] at hsz
      by_cases hn:n<0
      · rw [decide_eq_true hn]
        refine pkZ Tryz.func118 hc (fSt 0 (bs l.reverse) (fmtI n) true) ?_
        repeat' (first | exact aN | apply aI)
        all_goals (first | omega | rfl | (intros;first | assumption | exact trivial | rfl) | (show _+(bs l.reverse).size≤_;rw [hsz];show 1+l.length≤_;omega) | (rw [fmtI,if_neg hz,fmtL,if_pos hn,hl,List.reverse_append,bs_append];exact congrArg (·++bs l.reverse) (ByteArray.ext (by rw [bs_data];rfl))))
      · rw [decide_eq_false hn]
        refine pkZ Tryz.func118 hc (fSf 0 (bs l.reverse) (fmtI n) false) ?_
        repeat' (first | exact aN | apply aI)
        all_goals (first | omega | rfl | (intros;first | assumption | exact trivial | rfl) | (rw [fmtI,if_neg hz,fmtL,if_neg hn,hl,List.append_nil]))
    intro f
    induction f with
    | zero =>
      intro m l hl hm hd hs1 hs2 hb1 hb2
      obtain rfl:m=0:=by simp at hm;omega
      exact fin l (by rw [hd];simp [dg]) (by omega)
    | succ f ih =>
      intro m l hl hm hd hs1 hs2 hb1 hb2
      by_cases hm0:m=0
      · subst hm0
        exact fin l (by rw [hd];simp [dg]) (by omega)
      have hmt:(m != 0)=true:=by simpa using hm0
      have hma:m.natAbs≠0:=by omega
      have htd:=td10 m
      have hrec:=ih (m.tdiv 10) (l++[48+((m.natAbs % 10:Nat):Int)]) (by simp;omega) (by rw [td_abs];rw [Nat.pow_succ] at hm;omega) (by rw [hd,td_abs,dg,if_neg hma];simp) (by intro h;rw [htd];split<;>omega) (by intro h;rw [htd];split<;>omega) (by rw [htd];split<;>omega) (by rw [htd];split<;>omega)
      have hw:IntKind.i64.wrap (m.tdiv 10)=m.tdiv 10:=wrap_in (k:=.i64) (by show (-9223372036854775808:Int)≤_;rw [htd];split<;>omega) (by show _≤(9223372036854775807:Int);rw [htd];split<;>omega)
      have htm:=tm10 m
      have hsz:=bs_size l.reverse
      rw [List.length_reverse] at hsz
      have hb:∀ d:Int,bytesOf 1 (fun _=>[.p (.int .u8 (48+d))])=bs [48+d]:=fun d=>rfl
      have hout:∀ d:Int,d=((m.natAbs % 10:Nat):Int)→bs [48+d]++bs l.reverse=bs (l++[48+((m.natAbs % 10:Nat):Int)]).reverse:=by
        intro d hd'
        rw [List.reverse_append,bs_append,hd'];rfl
      by_cases hneg:m.tmod 10<0
      · have hng:decide (m.tmod 10<0)=true:=decide_eq_true hneg
        have hd':0 - m.tmod 10=((m.natAbs % 10:Nat):Int):=by rw [htm] at hneg ⊢;split at hneg<;>simp_all<;>omega
        refine pcZ hc (fSn m (m.tdiv 10) (bs l.reverse) (bs (l++[48+((m.natAbs % 10:Nat):Int)]).reverse) (decide (n<0))) ?_ hrec
        repeat' (first | exact aN | apply aI)
        all_goals (first | omega | rfl | (intros;first | assumption | exact trivial | rfl) | (exact hmt) | (exact hng) | (exact hw) | (intro i hi;exact ⟨_,rfl⟩) | (show (bs [48+(0 - m.tmod 10)]).size+(bs l.reverse).size≤_;rw [hsz,bs_size];show 1+l.length≤_;omega) | (exact hout _ hd') | (show (_:Int)≤_;rw [hd'];omega) | (simp only [imin,imax];omega))
      · have hng:decide (m.tmod 10<0)=false:=decide_eq_false hneg
        have hd':m.tmod 10=((m.natAbs % 10:Nat):Int):=by rw [htm] at hneg ⊢;split at hneg<;>simp_all<;>omega
        refine pcZ hc (fSp m (m.tdiv 10) (bs l.reverse) (bs (l++[48+((m.natAbs % 10:Nat):Int)]).reverse) (decide (n<0))) ?_ hrec
        repeat' (first | exact aN | apply aI)
        all_goals (first | omega | rfl | (intros;first | assumption | exact trivial | rfl) | (exact hmt) | (exact hng) | (exact hw) | (intro i hi;exact ⟨_,rfl⟩) | (show (bs [48+m.tmod 10]).size+(bs l.reverse).size≤_;rw [hsz,bs_size];show 1+l.length≤_;omega) | (exact hout _ hd') | (show (_:Int)≤_;rw [hd'];omega) | (simp only [imin,imax];omega))
  refine pcZ hc (fSz n (bs [])) ?_ (lp 20 n [] rfl (by omega) rfl (fun h=>by omega) (fun h=>h) h0 h1)
  repeat' (first | exact aN | apply aI)
  all_goals (first | omega | rfl | (intros;first | assumption | exact trivial | rfl) | (exact hz') | rfl)
def lsI (n:Nat) (f:Nat→Int):List Int:=(List.range n).map f
theorem lsI_ap (n:Nat) (f:Nat→Int) (x:Int):lsI (n+1) (apF n f x)=lsI n f++[x]:=by
  simp only [lsI,List.range_succ,List.map_append,List.map_cons,List.map_nil]
  congr 1
  · exact List.map_congr_left (fun i hi=>by simp [apF,List.mem_range.1 hi])
  · simp [apF]
theorem lsI_rev (n:Nat) (f g:Nat→Int) (h:∀ r,r<n→g r=f (n - 1 - r)):lsI n g=(lsI n f).reverse:=by
  apply List.ext_getElem
  · simp [lsI]
  · intro i h1 h2
    simp only [lsI,List.length_map,List.length_range] at h1
    simp [lsI,h i h1]
theorem con_FormatInt_i (n:Int) (h0:-9223372036854775808≤n) (h1:n≤9223372036854775807):Con Tryz.prog 129 0 [] [.p (.int .i64 n)] [] (.p (.str (fmtI n))):=by
  refine csZ Tryz.func129 (fun c hc=>?_)
  by_cases hz:n=0
  · subst hz
    refine pkZ Tryz.func129 hc (fI0 0 (fmtI 0)) ?_
    repeat' (first | exact aN | apply aI)
    all_goals (first | omega | rfl | (intros;first | assumption | exact trivial | rfl) | rfl | (exact ByteArray.ext (by rw [fmtI,if_pos rfl,bs_data];rfl)))
  have hz':(n==0)=false:=by simpa using hz
  have lr:∀ L f0,L≤21→lsI L f0=fmtL n→∀ d i f,i+d=L→i≤L→2*i≤L+1→(∀ r,r<L→f r=if r<i∨L - i≤r then f0 (L - 1 - r) else f0 r) →
      Run Tryz.prog c 129 zf42 (SFr L i ((L:Int) - 1 - i) f) (Post c [] (.p (.str (fmtI n)))):=by
    intro L f0 hL hl d
    have fin:∀ i f,i≤L→2*i≤L+1→L≤2*i+1→(∀ r,r<L→f r=if r<i∨L - i≤r then f0 (L - 1 - r) else f0 r) →
        Run Tryz.prog c 129 zf42 (SFr L i ((L:Int) - 1 - i) f) (Post c [] (.p (.str (fmtI n)))):=by
      intro i f hi hi2 hi3 hf
      have hd:decide ((i:Int)<(L:Int) - 1 - i)=false:=decide_eq_false (by omega)
      have hrev:∀ r,r<L→f r=f0 (L - 1 - r):=by
        intro r hr
        rw [hf r hr]
        split
        · rfl
        · rename_i h
          rw [show L - 1 - r=r by omega]
      have he:=lsI_rev L f0 f hrev
      refine pkZ Tryz.func129 hc (fIe L i ((L:Int) - 1 - i) f (fmtI n)) ?_
      repeat' (first | exact aN | apply aI)
      all_goals (first | omega | rfl | (intros;first | assumption | exact trivial | rfl) | (exact hd) | (intro r hr;exact ⟨_,rfl⟩) | (rw [bytesOf_bs];show bs (lsI L f)=_;rw [he,hl,fmtI,if_neg hz]))
    induction d with
    | zero =>
      intro i f hi hi1 hi2 hf
      exact fin i f hi1 hi2 (by omega) hf
    | succ d ih =>
      intro i f hi hi1 hi2 hf
      by_cases hlt:(i:Int)<(L:Int) - 1 - i
      · have hd:decide ((i:Int)<(L:Int) - 1 - i)=true:=decide_eq_true hlt
        have hj:((L:Int) - 1 - i).toNat=L - 1 - i:=by omega
        have hrec:=ih (i+1) (swF i ((L:Int) - 1 - i).toNat f) (by omega) (by omega) (by omega) (by
          intro r hr
          rw [hj]
          unfold swF
          by_cases e1:r=L - 1 - i
          · rw [if_pos e1,if_pos (by omega),hf i (by omega),if_neg (by omega),e1]
            rw [show L - 1 - (L - 1 - i)=i by omega]
          · rw [if_neg e1]
            by_cases e2:r=i
            · rw [if_pos e2,if_pos (by omega),hf (L - 1 - i) (by omega),if_neg (by omega),e2]
            · rw [if_neg e2,hf r hr]
              by_cases e3:r<i∨L - i≤r
              · rw [if_pos e3,if_pos (by omega)]
              · rw [if_neg e3,if_neg (by omega)])
        rw [show (L:Int) - 1 - ((i+1:Nat):Int)=(L:Int) - 1 - i - 1 by omega] at hrec
        refine pcZ hc (fIs L i ((L:Int) - 1 - i) f) ?_ hrec
        repeat' (first | exact aN | apply aI)
        all_goals (first | omega | rfl | (intros;first | assumption | exact trivial | rfl | exact fT ‹_›) | (exact hd) | (intro r hr;generalize ((L:Int) - 1 - i).toNat=J;by_cases e1:r=J<;>by_cases e2:r=i<;>(first | (subst e2;simp [e1,swF,cvtL,cvt,tg,tru,All];done) | (simp [e1,e2,swF,cvtL,cvt,tg,tru,All];done))) | (simp only [imin,imax];omega))
      · exact fin i f hi1 hi2 (by omega) hf
  have lp:∀ f m l g,l+f=20→m.natAbs<10 ^ f→dg 20 n.natAbs=lsI l g++dg f m.natAbs→(n<0→m≤0)→(0≤n→0≤m)→-9223372036854775808≤m→m≤9223372036854775807 →
      Run Tryz.prog c 129 zf54 (SFi n m l g) (Post c [] (.p (.str (fmtI n)))):=by
    have fin:∀ l g,dg 20 n.natAbs=lsI l g→l≤20→Run Tryz.prog c 129 zf54 (SFi n 0 l g) (Post c [] (.p (.str (fmtI n)))):=by
      intro l g hl hl2
      by_cases hn:n<0
      · have hd:decide (n<0)=true:=decide_eq_true hn
        have hr:=lr (l+1) (apF l g 45) (by omega) (by rw [lsI_ap,fmtL,if_pos hn,hl]) (l+1) 0 (apF l g 45) (by omega) (by omega) (by omega) (fun r hr=>by rw [if_neg (by omega)])
        rw [show ((l+1:Nat):Int) - 1 - ((0:Nat):Int)=((l+1:Nat):Int) - 1 by omega] at hr
        refine pcZ hc (fIt n 0 l g) ?_ hr
        repeat' (first | exact aN | apply aI)
        all_goals (first | omega | rfl | (intros;first | assumption | exact trivial | rfl) | (exact hd) | (intro j hj;by_cases h':j<l<;>simp [h',apF,cvtL,cvt,tg,tru,All];done) | (simp only [imin,imax];omega))
      · have hd:decide (n<0)=false:=decide_eq_false hn
        have hr:=lr l g (by omega) (by rw [fmtL,if_neg hn,hl,List.append_nil]) l 0 g (by omega) (by omega) (by omega) (fun r hr=>by rw [if_neg (by omega)])
        rw [show (l:Int) - 1 - ((0:Nat):Int)=(l:Int) - 1 by omega] at hr
        refine pcZ hc (fIf n 0 l g) ?_ hr
        repeat' (first | exact aN | apply aI)
        all_goals (first | exact aA _ _ | omega | rfl | (intros;first | assumption | exact trivial | rfl) | (exact hd) | (intro j hj;simp [All];done) | (simp only [imin,imax];omega))
    intro f
    induction f with
    | zero =>
      intro m l g hl hm hd hs1 hs2 hb1 hb2
      obtain rfl:m=0:=by simp at hm;omega
      exact fin l g (by rw [hd];simp [dg]) (by omega)
    | succ f ih =>
      intro m l g hl hm hd hs1 hs2 hb1 hb2
      by_cases hm0:m=0
      · subst hm0
        exact fin l g (by rw [hd];simp [dg]) (by omega)
      have hmt:(m != 0)=true:=by simpa using hm0
      have hma:m.natAbs≠0:=by omega
      have htd:=td10 m
      have hrec:=ih (m.tdiv 10) (l+1) (apF l g (48+((m.natAbs % 10:Nat):Int))) (by omega) (by rw [td_abs];rw [Nat.pow_succ] at hm;omega) (by rw [hd,td_abs,dg,if_neg hma,lsI_ap];simp) (by intro h;rw [htd];split<;>omega) (by intro h;rw [htd];split<;>omega) (by rw [htd];split<;>omega) (by rw [htd];split<;>omega)
      have hw:IntKind.i64.wrap (m.tdiv 10)=m.tdiv 10:=wrap_in (k:=.i64) (by show (-9223372036854775808:Int)≤_;rw [htd];split<;>omega) (by show _≤(9223372036854775807:Int);rw [htd];split<;>omega)
      have htm:=tm10 m
      by_cases hneg:m.tmod 10<0
      · have hng:decide (m.tmod 10<0)=true:=decide_eq_true hneg
        have hd':0 - m.tmod 10=((m.natAbs % 10:Nat):Int):=by rw [htm] at hneg ⊢;split at hneg<;>simp_all<;>omega
        refine pcZ hc (fIn n m (m.tdiv 10) l g (48+((m.natAbs % 10:Nat):Int))) ?_ hrec
        repeat' (first | exact aN | apply aI)
        all_goals (first | omega | rfl | (intros;first | assumption | exact trivial | rfl) | (exact hmt) | (exact hng) | (exact hw) | (intro j hj;by_cases h':j<l<;>simp [h',hd',apF,cvtL,cvt,tg,tru,All];done) | (show (_:Int)≤_;rw [hd'];omega) | (simp only [imin,imax];omega))
      · have hng:decide (m.tmod 10<0)=false:=decide_eq_false hneg
        have hd':m.tmod 10=((m.natAbs % 10:Nat):Int):=by rw [htm] at hneg ⊢;split at hneg<;>simp_all<;>omega
        refine pcZ hc (fIp n m (m.tdiv 10) l g (48+((m.natAbs % 10:Nat):Int))) ?_ hrec
        repeat' (first | exact aN | apply aI)
        all_goals (first | omega | rfl | (intros;first | assumption | exact trivial | rfl) | (exact hmt) | (exact hng) | (exact hw) | (intro j hj;by_cases h':j<l<;>simp [h',hd',apF,cvtL,cvt,tg,tru,All];done) | (show (_:Int)≤_;rw [hd'];omega) | (simp only [imin,imax];omega))
  refine pcZ hc (fIz n) ?_ (lp 20 n 0 (fun _=>0) rfl (by omega) (by simp [lsI]) (fun h=>by omega) (fun h=>h) h0 h1)
  repeat' (first | exact aN | apply aI)
  all_goals (first | exact aA _ _ | omega | rfl | (intros;first | assumption | exact trivial | rfl) | (exact hz') | (intro j hj;exact absurd hj (Nat.not_lt_zero _)) | rfl)
end Go.Proofs.YtkkjoghiigiokaaGreat.Mach
namespace Go.Proofs.YtkkjoghiigiokaaGreat.Mach
open Go
set_option linter.unusedVariables false
set_option linter.unusedSimpArgs false
def hasI (g:Nat→Int) (x:Int):Nat→Bool
  | 0=>false
  | k+1=>hasI g x k||g k==x
def inL (v:T_IntS):AV:=.p (.seq true 1 v.1 (fun i=>[.int .i64 (v.2 i)]))
def S85 (v:T_IntS) (x:Int) (k:Nat):St :=
  ⟨[inL v,.p (.int .i64 x),.p .any,.p .any,.p .any,.p (.int .i64 k)]++List.replicate 12 anyA,[],0⟩
def S112 (v:T_IntS) (x:Int) (k:Nat):St :=
  ⟨[inL v,.p (.int .i64 x)]++List.replicate 5 anyA++[.p (.int .i64 v.1),.p (.int .i64 k)]++List.replicate 10 anyA,[],0⟩
theorem p85a (v:T_IntS) (x:Int) :
    pieceOb Tryz.prog 0 [rg 1,rg 1,.head] [.code (bodyOf Tryz.f172)] (start Tryz.f172 [] 0 [inL v,.p (.int .i64 x)]) [] 1 (S85 v x 0) =
    some (zf98,[(AN v.1),(AP v.1 (iRw v)),(AI x),((0:Int)=(↑0:Int))]):=by kernel_rfl
theorem p85b (v:T_IntS) (x:Int) (k:Nat) :
    pieceOb Tryz.prog 0 [rg 4,.dec true,rg 6,.dec false,rg 3,.head] zf98 (S85 v x k) [] 1 (S85 v x (k+1)) =
    some (zf98,[((decide ((↑k:Int)<(↑v.1:Int)))=true),(IL 0 (↑k:Int)),(IT (↑k:Int) (↑v.1:Int)),((v.2 k==x)=false),(ZLo ((↑k:Int)+1)),(ZHi ((↑k:Int)+1)),(AN v.1),(AP v.1 (iRw v)),(AI x),((((↑k:Int)+1):Int)=(↑(k+1):Int))]):=by kernel_rfl
theorem p85c (v:T_IntS) (x:Int) (k:Nat) :
    pathOb Tryz.prog Tryz.f172 0 [rg 4,.dec true,rg 6,.dec true,rg 1] zf98 (S85 v x k) [] 1 [] (.p (.bool true)) =
    some [((decide ((↑k:Int)<(↑v.1:Int)))=true),(IL 0 (↑k:Int)),(IT (↑k:Int) (↑v.1:Int)),((v.2 k==x)=true),(true=true)]:=by kernel_rfl
theorem p85d (v:T_IntS) (x:Int) (k:Nat) :
    pathOb Tryz.prog Tryz.f172 0 [rg 4,.dec false,rg 1] zf98 (S85 v x k) [] 1 [] (.p (.bool false)) =
    some [((decide ((↑k:Int)<(↑v.1:Int)))=false),(false=false)]:=by kernel_rfl
theorem p112a (v:T_IntS) (x:Int) :
    pieceOb Tryz.prog 0 [rg 1,rg 3,.head] [.code (bodyOf Tryz.f292)] (start Tryz.f292 [] 0 [inL v,.p (.int .i64 x)]) [] 1 (S112 v x 0) =
    some (zf99,[(AN v.1),(AP v.1 (iRw v)),(AI x),(AI ((↑v.1:Int))),((0:Int)=(↑0:Int))]):=by kernel_rfl
theorem p112b (v:T_IntS) (x:Int) (k:Nat) :
    pieceOb Tryz.prog 0 [rg 1,.dec true,rg 2,rg 6,.dec false,rg 2,.head] zf99 (S112 v x k) [] 1 (S112 v x (k+1)) =
    some (zf99,[((decide ((↑k:Int)<(↑v.1:Int)))=true),(IL 0 (↑k:Int)),(IT (↑k:Int) (↑v.1:Int)),((x==v.2 k)=false),(ZLo ((↑k:Int)+1)),(ZHi ((↑k:Int)+1)),(AN v.1),(AP v.1 (iRw v)),(AI x),(AI ((↑v.1:Int))),((((↑k:Int)+1):Int)=(↑(k+1):Int))]):=by kernel_rfl
theorem p112c (v:T_IntS) (x:Int) (k:Nat) :
    pathOb Tryz.prog Tryz.f292 0 [rg 1,.dec true,rg 2,rg 6,.dec true,rg 2] zf99 (S112 v x k) [] 1 [] (.p (.int .i64 k)) =
    some [((decide ((↑k:Int)<(↑v.1:Int)))=true),(IL 0 (↑k:Int)),(IT (↑k:Int) (↑v.1:Int)),((x==v.2 k)=true),(AI ((↑k:Int)))]:=by kernel_rfl
theorem p112d (v:T_IntS) (x:Int) (k:Nat) :
    pathOb Tryz.prog Tryz.f292 0 [rg 1,.dec false,rg 1] zf99 (S112 v x k) [] 1 [] (.p (.int .i64 (-1))) =
    some [((decide ((↑k:Int)<(↑v.1:Int)))=false),(AI ((-1)))]:=by kernel_rfl
theorem p90 (v:T_IntS) (x r:Int) :
    pathOb Tryz.prog Tryz.f184 0 [rg 1,rm [(2,oc [] (.p (.int .i64 r)))] 2] [.code (bodyOf Tryz.f184)] (start Tryz.f184 [] 0 [inL v,.p (.int .i64 x)]) [] 1 [] (.p (.bool (decide (r≥0)))) =
    some [Con Tryz.prog 292 0 [] [.p (.seq true 1 v.1 (iRw v)),.p (.int .i64 x)] [] (.p (.int .i64 r)),((decide (r≥0))=(decide (r≥0)))]:=by kernel_rfl
theorem hasI_hit (g:Nat→Int) (x:Int) (k:Nat) (h:(g k==x)=true):∀ n,k<n→hasI g x n=true
  | 0,h'=>by omega
  | n+1,h'=>by
    by_cases e:k=n
    · subst e;simp [hasI,h]
    · simp [hasI,hasI_hit g x k h n (by omega)]
theorem con_l2Has (v:T_IntS) (x:Int) (hn:v.1≤1048576):Con Tryz.prog 172 0 [] [inL v,.p (.int .i64 x)] [] (.p (.bool (hasI v.2 x v.1))):=by
  refine csZ Tryz.func172 (fun c hc=>?_)
  have lp:∀ m k,k+m=v.1→hasI v.2 x k=false→Run Tryz.prog c 172 zf98 (S85 v x k) (Post c [] (.p (.bool (hasI v.2 x v.1)))):=by
    intro m
    induction m with
    | zero =>
      intro k hk hg
      rw [show hasI v.2 x v.1=false by rw [show v.1=k by omega];exact hg]
      have hd:decide ((k:Int)<(v.1:Int))=false:=by simp;omega
      refine pkZ Tryz.func172 hc (p85d v x k) ?_
      repeat' (first | exact aN | apply aI)
      all_goals (first | omega | rfl | (intros;first | assumption | exact trivial | rfl))
    | succ m ih =>
      intro k hk hg
      have hd:decide ((k:Int)<(v.1:Int))=true:=by simp;omega
      cases he:(v.2 k==x) with
      | true =>
        rw [hasI_hit v.2 x k he v.1 (by omega)]
        refine pkZ Tryz.func172 hc (p85c v x k) ?_
        repeat' (first | exact aN | apply aI)
        all_goals (first | omega | rfl | (intros;first | assumption | exact trivial | rfl) | (exact he))
      | false =>
        refine pcZ hc (p85b v x k) ?_ (ih (k+1) (by omega) (by simp only [hasI,hg,he];rfl))
        repeat' (first | exact aN | apply aI)
        all_goals (first | exact aP _ _ | omega | rfl | (intros;first | assumption | exact trivial | rfl) | (exact he))
  refine pcZ hc (p85a v x) ?_ (lp v.1 0 (by omega) rfl)
  repeat' (first | exact aN | apply aI)
  all_goals (first | exact aP _ _ | omega | rfl | (intros;first | assumption | exact trivial | rfl))
theorem con_Index (v:T_IntS) (x:Int) (hn:v.1≤1048576):∃ r:Int,decide (r≥0)=hasI v.2 x v.1∧Con Tryz.prog 292 0 [] [inL v,.p (.int .i64 x)] [] (.p (.int .i64 r)):=by
  have key:(∃ k,k<v.1∧hasI v.2 x k=false∧(v.2 k==x)=true)∨hasI v.2 x v.1=false:=by
    have gen:∀ n,(∃ k,k<n∧hasI v.2 x k=false∧(v.2 k==x)=true)∨hasI v.2 x n=false:=by
      intro n
      induction n with
      | zero=>exact .inr rfl
      | succ n ih =>
        rcases ih with ⟨k,h1,h2⟩ | h
        · exact .inl ⟨k,by omega,h2⟩
        · cases he:(v.2 n==x) with
          | true=>exact .inl ⟨n,by omega,h,he⟩
          | false=>exact .inr (by simp only [hasI,h,he];rfl)
    exact gen v.1
  rcases key with ⟨q,hq,hq1,hq2⟩ | hno
  · refine ⟨(q:Int),by rw [hasI_hit v.2 x q hq2 v.1 hq];simp,?_⟩
    refine csZ Tryz.func292 (fun c hc=>?_)
    have lp:∀ m k,k+m=q→Run Tryz.prog c 292 zf99 (S112 v x k) (Post c [] (.p (.int .i64 (q:Int)))):=by
      intro m
      induction m with
      | zero =>
        intro k hk
        obtain rfl:k=q:=by omega
        have hd:decide ((k:Int)<(v.1:Int))=true:=by simp;omega
        have he:(x==v.2 k)=true:=by rw [beq_iff_eq] at hq2 ⊢;exact hq2.symm
        refine pkZ Tryz.func292 hc (p112c v x k) ?_
        repeat' (first | exact aN | apply aI)
        all_goals (first | omega | rfl | (intros;first | assumption | exact trivial | rfl) | (exact he))
      | succ m ih =>
        intro k hk
        have hd:decide ((k:Int)<(v.1:Int))=true:=by simp;omega
        have he:(x==v.2 k)=false:=by
          cases h:(v.2 k==x) with
          | true=>rw [hasI_hit v.2 x k h q (by omega)] at hq1;cases hq1
          | false =>
            simp only [beq_eq_false_iff_ne,ne_eq] at h ⊢
            exact fun e=>h e.symm
        refine pcZ hc (p112b v x k) ?_ (ih (k+1) (by omega))
        repeat' (first | exact aN | apply aI)
        all_goals (first | exact aP _ _ | omega | rfl | (intros;first | assumption | exact trivial | rfl) | (exact he))
    refine pcZ hc (p112a v x) ?_ (lp q 0 (by omega))
    repeat' (first | exact aN | apply aI)
    all_goals (first | exact aP _ _ | omega | rfl | (intros;first | assumption | exact trivial | rfl))
  · refine ⟨-1,by rw [hno];rfl,?_⟩
    refine csZ Tryz.func292 (fun c hc=>?_)
    have lp:∀ m k,k+m=v.1→Run Tryz.prog c 292 zf99 (S112 v x k) (Post c [] (.p (.int .i64 (-1)))):=by
      intro m
      induction m with
      | zero =>
        intro k hk
        have hd:decide ((k:Int)<(v.1:Int))=false:=by simp;omega
        refine pkZ Tryz.func292 hc (p112d v x k) ?_
        repeat' (first | exact aN | apply aI)
        all_goals (first | omega | rfl | (intros;first | assumption | exact trivial | rfl))
      | succ m ih =>
        intro k hk
        have hd:decide ((k:Int)<(v.1:Int))=true:=by simp;omega
        have he:(x==v.2 k)=false:=by
          cases h:(v.2 k==x) with
          | true=>rw [hasI_hit v.2 x k h v.1 (by omega)] at hno;cases hno
          | false =>
            simp only [beq_eq_false_iff_ne,ne_eq] at h ⊢
            exact fun e=>h e.symm
        refine pcZ hc (p112b v x k) ?_ (ih (k+1) (by omega))
        repeat' (first | exact aN | apply aI)
        all_goals (first | exact aP _ _ | omega | rfl | (intros;first | assumption | exact trivial | rfl) | (exact he))
    refine pcZ hc (p112a v x) ?_ (lp v.1 0 (by omega))
    repeat' (first | exact aN | apply aI)
    all_goals (first | exact aP _ _ | omega | rfl | (intros;first | assumption | exact trivial | rfl))
theorem con_Contains (v:T_IntS) (x:Int) (hn:v.1≤1048576):Con Tryz.prog 184 0 [] [inL v,.p (.int .i64 x)] [] (.p (.bool (hasI v.2 x v.1))):=by
  obtain ⟨r,hr,hcon⟩:=con_Index v x hn
  rw [← hr]
  refine csZ Tryz.func184 (fun c hc=>?_)
  refine pkZ Tryz.func184 hc (p90 v x r) ?_
  repeat' (first | exact aN | apply aI)
  all_goals (first | omega | rfl | (intros;first | assumption | exact trivial | rfl) | (exact hcon))
end Go.Proofs.YtkkjoghiigiokaaGreat.Mach
namespace Go.Proofs.YtkkjoghiigiokaaGreat.Mach
open Go
set_option linter.unusedVariables false
set_option linter.unusedSimpArgs false
def sE:ByteArray:=⟨#[]⟩
def sC:ByteArray:=⟨#[44]⟩
def sSp:ByteArray:=⟨#[32]⟩
def sNone:ByteArray:=⟨#[110,111,110,101]⟩
def strL (n:Nat) (f:Nat→ByteArray):AV:=.p (.seq true 1 n (fun i=>[.str (f i)]))
def stOb (n:Nat) (f:Nat→ByteArray):Ob:=⟨false,1,n,fun i=>[.p (.str (f i))]⟩
def SJ (n:Nat) (f:Nat→ByteArray) (by_:ByteArray) (k:Nat) (s:ByteArray):St :=
  ⟨[strL n f,.p (.str by_),.p .any,.p .any,.p .any,.p (.str s),.p .any,.p .any,strL n f,.p (.int .i64 n),.p (.int .i64 k)]++List.replicate 14 anyA,[],0⟩
def SNm (v:T_IntS) (k:Nat) (f:Nat→ByteArray):St :=
  ⟨[inL v,.p .any,.p .any,.ar 1 0 0 k,.p .any,.p .any,.p .any,inL v,.p (.int .i64 v.1),.p (.int .i64 k)]++List.replicate 11 anyA,[(0,stOb k f)],1⟩
def SNl (v:T_IntS) (k:Nat) (s:ByteArray):St :=
  ⟨[inL v,.p .any,.p .any,.p (.str s),.p (.int .i64 k)]++List.replicate 20 anyA,[],0⟩
theorem jJz (n:Nat) (f:Nat→ByteArray) (by_:ByteArray) :
    pieceOb Tryz.prog 0 [rg 1,rg 1,rg 3,.head] [.code (bodyOf Tryz.f218)] (start Tryz.f218 [] 0 [strL n f,.p (.str by_)]) [] 1 (SJ n f by_ 0 sE) =
    some (zf71,[(AN n),(AP n (fun i=>[.str (f i)])),(by_=by_),(ByteArray.mk #[]=sE),(AN n),(AP n (fun i=>[.str (f i)])),(AI ((↑n:Int))),((0:Int)=(↑0:Int))]):=by kernel_rfl
theorem jJt (n:Nat) (f:Nat→ByteArray) (by_:ByteArray) (k:Nat) (s:ByteArray) :
    pieceOb Tryz.prog 0 [rg 1,.dec true,rg 5,rg 2,.dec true,rg 4,rg 4,rg 2,.head] zf71 (SJ n f by_ k s) [] 1 (SJ n f by_ (k+1) ((s++by_)++f k)) =
    some (zf71,[((decide ((↑k:Int)<(↑n:Int)))=true),(IL 0 (↑k:Int)),(IT (↑k:Int) (↑n:Int)),((decide ((↑k:Int)>0))=true),(NL (s.size+by_.size) 9223372036854775807),(NL ((s++by_).size+(f k).size) 9223372036854775807),(ZLo ((↑k:Int)+1)),(ZHi ((↑k:Int)+1)),(AN n),(AP n (fun i=>[.str (f i)])),(by_=by_),(s++by_++f k=s++by_++f k),(AN n),(AP n (fun i=>[.str (f i)])),(AI ((↑n:Int))),((((↑k:Int)+1):Int)=(↑(k+1):Int))]):=by kernel_rfl
theorem jJf (n:Nat) (f:Nat→ByteArray) (by_:ByteArray) (k:Nat) (s:ByteArray) :
    pieceOb Tryz.prog 0 [rg 1,.dec true,rg 5,rg 2,.dec false,rg 4,rg 2,.head] zf71 (SJ n f by_ k s) [] 1 (SJ n f by_ (k+1) (s++f k)) =
    some (zf71,[((decide ((↑k:Int)<(↑n:Int)))=true),(IL 0 (↑k:Int)),(IT (↑k:Int) (↑n:Int)),((decide ((↑k:Int)>0))=false),(NL (s.size+(f k).size) 9223372036854775807),(ZLo ((↑k:Int)+1)),(ZHi ((↑k:Int)+1)),(AN n),(AP n (fun i=>[.str (f i)])),(by_=by_),(s++f k=s++f k),(AN n),(AP n (fun i=>[.str (f i)])),(AI ((↑n:Int))),((((↑k:Int)+1):Int)=(↑(k+1):Int))]):=by kernel_rfl
theorem jJe (n:Nat) (f:Nat→ByteArray) (by_:ByteArray) (k:Nat) (s:ByteArray) :
    pathOb Tryz.prog Tryz.f218 0 [rg 1,.dec false,rg 2] zf71 (SJ n f by_ k s) [] 1 [] (.p (.str s)) =
    some [((decide ((↑k:Int)<(↑n:Int)))=false),(s=s)]:=by kernel_rfl
theorem jNz (v:T_IntS) (f:Nat→ByteArray) :
    pieceOb Tryz.prog 0 [rg 1,rg 2,rg 3,.head] [.code (bodyOf Tryz.f219)] (start Tryz.f219 [] 0 [inL v]) [32] 1 (SNm v 0 f) =
    some (zf72,[(AN v.1),(AP v.1 (iRw v)),(AN 0),(AN 0),(AN v.1),(AP v.1 (iRw v)),(AI ((↑v.1:Int))),((0:Int)=(↑0:Int)),(AN 1),(NL 0 0),(∀ i:Nat,(((i:Nat)<0)→(All []∧(([.p (.str (ByteArray.mk #[]))]:List AV)=[.p (.str (f i))]))))]):=by kernel_rfl
theorem jNt (v:T_IntS) (k:Nat) (f:Nat→ByteArray) (s:ByteArray) :
    pieceOb Tryz.prog 0 [rg 1,.dec true,rg 3,rm [(2,oc [] (.p (.str s)))] 3,rg 2,.head] zf72 (SNm v k f) [257] 1 (SNm v (k+1) f) =
    some (zf72,[((decide ((↑k:Int)<(↑v.1:Int)))=true),(IL 0 (↑k:Int)),(IT (↑k:Int) (↑v.1:Int)),Con Tryz.prog 129 0 [] [.p (.int .i64 (v.2 k))] [] (.p (.str s)),(NL 1 1),(NL k k),(NL ((k+1)*16) 140737488355328),(NL (k+1) 9223372036854775807),(ZLo ((↑k:Int)+1)),(ZHi ((↑k:Int)+1)),(AN v.1),(AP v.1 (iRw v)),(AN 0),(AN ((k+1))),(AN v.1),(AP v.1 (iRw v)),(AI ((↑v.1:Int))),((((↑k:Int)+1):Int)=(↑(k+1):Int)),(AN 1),(NL (k+1) (k+1)),(∀ i:Nat,(((i:Nat)<(k+1))→(All (cvtL false [(257,⟨false,1,(k+1),(fun i_1=>(if (i_1<k) then [.p (.str (f i_1))] else [.p (.str s)]))⟩),(225,⟨false,1,1,(fun i_1=>[.p (.str s)])⟩)] [257] 1 (if (i<k) then [.p (.str (f i))] else [.p (.str s)])).2∧(((cvtL false [(257,⟨false,1,(k+1),(fun i_1=>(if (i_1<k) then [.p (.str (f i_1))] else [.p (.str s)]))⟩),(225,⟨false,1,1,(fun i_1=>[.p (.str s)])⟩)] [257] 1 (if (i<k) then [.p (.str (f i))] else [.p (.str s)])).1:List AV)=[.p (.str (f i))]))))]):=by kernel_rfl
theorem jNe (v:T_IntS) (k:Nat) (f:Nat→ByteArray) (s:ByteArray) :
    pathOb Tryz.prog Tryz.f219 0 [rg 1,.dec false,rm [(1,oc [] (.p (.str s)))] 1] zf72 (SNm v k f) [] 1 [] (.p (.str s)) =
    some [((decide ((↑k:Int)<(↑v.1:Int)))=false),(AN 1),(NL k k),Con Tryz.prog 218 0 [] [.p (.seq true 1 k (fun i=>[.str (f i)])),.p (.str (ByteArray.mk #[44]))] [] (.p (.str s)),(s=s)]:=by kernel_rfl
theorem jLn (v:T_IntS) :
    pathOb Tryz.prog Tryz.f111 0 [rg 1,rg 3,.dec true,rg 1] [.code (bodyOf Tryz.f111)] (start Tryz.f111 [] 0 [inL v]) [] 1 [] (.p (.str sNone)) =
    some [(((↑v.1:Int)==0)=true),(ByteArray.mk #[110,111,110,101]=sNone)]:=by kernel_rfl
theorem jLy (v:T_IntS) (s:ByteArray) :
    pathOb Tryz.prog Tryz.f111 0 [rg 1,rg 3,.dec false,rm [(1,oc [] (.p (.str s)))] 1] [.code (bodyOf Tryz.f111)] (start Tryz.f111 [] 0 [inL v]) [] 1 [] (.p (.str s)) =
    some [(((↑v.1:Int)==0)=false),Con Tryz.prog 219 0 [] [.p (.seq true 1 v.1 (iRw v))] [] (.p (.str s)),(s=s)]:=by kernel_rfl
theorem jMz (v:T_IntS) :
    pieceOb Tryz.prog 0 [rg 1,rg 1,rg 1,.head] [.code (bodyOf Tryz.f103)] (start Tryz.f103 [] 0 [inL v]) [] 1 (SNl v 0 sE) =
    some (zf73,[(AN v.1),(AP v.1 (iRw v)),(ByteArray.mk #[]=sE),((0:Int)=(↑0:Int))]):=by kernel_rfl
theorem jMt (v:T_IntS) (k:Nat) (s t:ByteArray) :
    pieceOb Tryz.prog 0 [rg 4,.dec true,rg 2,.dec true,rg 3,rm [(5,oc [] (.p (.str t)))] 2,rg 3,.head] zf73 (SNl v k s) [] 1 (SNl v (k+1) ((s++sC)++t)) =
    some (zf73,[((decide ((↑k:Int)<(↑v.1:Int)))=true),((decide ((↑k:Int)>0))=true),(NL (s.size+(ByteArray.mk #[44]).size) 9223372036854775807),(IL 0 (↑k:Int)),(IT (↑k:Int) (↑v.1:Int)),Con Tryz.prog 118 0 [] [.p (.int .i64 (v.2 k))] [] (.p (.str t)),(NL ((s++ByteArray.mk #[44]).size+t.size) 9223372036854775807),(ZLo ((↑k:Int)+1)),(ZHi ((↑k:Int)+1)),(AN v.1),(AP v.1 (iRw v)),(s++ByteArray.mk #[44]++t=s++sC++t),((((↑k:Int)+1):Int)=(↑(k+1):Int))]):=by kernel_rfl
theorem jMf (v:T_IntS) (k:Nat) (s t:ByteArray) :
    pieceOb Tryz.prog 0 [rg 4,.dec true,rg 2,.dec false,rm [(5,oc [] (.p (.str t)))] 2,rg 3,.head] zf73 (SNl v k s) [] 1 (SNl v (k+1) (s++t)) =
    some (zf73,[((decide ((↑k:Int)<(↑v.1:Int)))=true),((decide ((↑k:Int)>0))=false),(IL 0 (↑k:Int)),(IT (↑k:Int) (↑v.1:Int)),Con Tryz.prog 118 0 [] [.p (.int .i64 (v.2 k))] [] (.p (.str t)),(NL (s.size+t.size) 9223372036854775807),(ZLo ((↑k:Int)+1)),(ZHi ((↑k:Int)+1)),(AN v.1),(AP v.1 (iRw v)),(s++t=s++t),((((↑k:Int)+1):Int)=(↑(k+1):Int))]):=by kernel_rfl
theorem jMn (v:T_IntS) (k:Nat) (s:ByteArray) :
    pathOb Tryz.prog Tryz.f103 0 [rg 4,.dec false,rg 2,.dec true,rg 1] zf73 (SNl v k s) [] 1 [] (.p (.str sNone)) =
    some [((decide ((↑k:Int)<(↑v.1:Int)))=false),((s.toList==(ByteArray.mk #[]).toList)=true),(ByteArray.mk #[110,111,110,101]=sNone)]:=by kernel_rfl
theorem jMe (v:T_IntS) (k:Nat) (s:ByteArray) :
    pathOb Tryz.prog Tryz.f103 0 [rg 4,.dec false,rg 2,.dec false,rg 2] zf73 (SNl v k s) [] 1 [] (.p (.str s)) =
    some [((decide ((↑k:Int)<(↑v.1:Int)))=false),((s.toList==(ByteArray.mk #[]).toList)=false),(s=s)]:=by kernel_rfl
theorem jKl (n:Nat) (f:Nat→ByteArray) (s:ByteArray) :
    pathOb Tryz.prog Tryz.f108 0 [rg 1,rm [(1,oc [] (.p (.str s)))] 1] [.code (bodyOf Tryz.f108)] (start Tryz.f108 [] 0 [strL n f]) [] 1 [] (.p (.str s)) =
    some [Con Tryz.prog 218 0 [] [.p (.seq true 1 n (fun i=>[.str (f i)])),.p (.str (ByteArray.mk #[32]))] [] (.p (.str s)),(s=s)]:=by kernel_rfl
theorem jSn (s:ByteArray) (n:Nat) (f:Nat→ByteArray) :
    pathOb Tryz.prog Tryz.f114 0 [rg 1,rg 2,.dec true,rg 2] [.code (bodyOf Tryz.f114)] (start Tryz.f114 [] 0 [.p (.str s),.p (.bool false),strL n f]) [] 1 [] (.p (.str s)) =
    some [((!false)=true),(s=s)]:=by kernel_rfl
theorem jSy (s t:ByteArray) (n:Nat) (f:Nat→ByteArray) :
    pathOb Tryz.prog Tryz.f114 0 [rg 1,rg 2,.dec false,rm [(4,oc [] (.p (.str t)))] 1] [.code (bodyOf Tryz.f114)] (start Tryz.f114 [] 0 [.p (.str s),.p (.bool true),strL n f]) [] 1 [] (.p (.str t)) =
    some [((!true)=false),(NL 1 1),(NL ((1+n)*16) 140737488355328),(NL (1+n) 9223372036854775807),(AN 1),(NL (1+n) (1+n)),Con Tryz.prog 108 0 [] [.p (.seq true 1 (1+n) (fun i=>[(cellP true (if (i<1) then [.p (.str s)] else [.p (.str (f (i - 1)))]) 0)]))] [] (.p (.str t)),(t=t)]:=by kernel_rfl
theorem jYy (s:ByteArray) :
    pathOb Tryz.prog Tryz.f122 0 [rg 1,rg 1,.dec true,rg 2] [.code (bodyOf Tryz.f122)] (start Tryz.f122 [] 0 [.p (.bool true),.p (.str s)]) [] 1 [] (.p (.str s)) =
    some [(true=true),(s=s)]:=by kernel_rfl
theorem jYn (s:ByteArray) :
    pathOb Tryz.prog Tryz.f122 0 [rg 1,rg 1,.dec false,rg 1] [.code (bodyOf Tryz.f122)] (start Tryz.f122 [] 0 [.p (.bool false),.p (.str s)]) [] 1 [] (.p (.str sE)) =
    some [(false=false),(ByteArray.mk #[]=sE)]:=by kernel_rfl
end Go.Proofs.YtkkjoghiigiokaaGreat.Mach
namespace Go.Proofs.YtkkjoghiigiokaaGreat.Mach
open Go
set_option linter.unusedVariables false
set_option linter.unusedSimpArgs false
def grG (g:Nat→T_Bar) (nb N:Nat):AV:=.agg [.p (.int .i64 N),brL g nb]
def pebR3 (N m:Nat) (F T Q F' T' Q':Nat→Int):Hp:=[(0,iOb N F),(1,iOb m T),(2,iOb m Q),(3,iOb N F'),(4,iOb m T'),(5,iOb m Q')]
theorem qOt (x:T_Bar) (v:Int) :
    pathOb Tryz.prog Tryz.f324 0 [rg 2,rg 8] [.code (bodyOf Tryz.f324)] (start Tryz.f324 [] 0 [brA x,.p (.int .i64 v)]) [] 1 [] (.p (.int .i64 (x.1+x.2.1 - v))) =
    some [(NT 0 1),(NT 0 1),(ZLo (x.1+x.2.1)),(ZHi (x.1+x.2.1)),(ZLo (x.1+x.2.1 - v)),(ZHi (x.1+x.2.1 - v)),(AI ((x.1+x.2.1 - v)))]:=by kernel_rfl
end Go.Proofs.YtkkjoghiigiokaaGreat.Mach
namespace Go.Proofs.YtkkjoghiigiokaaGreat.Mach
open Go
set_option linter.unusedVariables false
set_option linter.unusedSimpArgs false
theorem con_l4Other (x:T_Bar) (v:Int) (h1:0≤x.1∧x.1≤1048576) (h2:0≤x.2.1∧x.2.1≤1048576) (h3:0≤v∧v≤1048576):Con Tryz.prog 324 0 [] [brA x,.p (.int .i64 v)] [] (.p (.int .i64 (x.1+x.2.1 - v))):=by
  refine csZ Tryz.func324 (fun c hc=>?_)
  refine pkZ Tryz.func324 hc (qOt x v) ?_
  repeat' (first | exact aN | apply aI)
  all_goals (first | omega | rfl | (intros;first | assumption | exact trivial | rfl) | simp)
inductive FindR (N k nb m:Nat) (g:Nat→T_Bar) (F T Q:Nat→Int) (a b:Int):Hp→AV→Prop
  | yes (F' T':Nat→Int) (h:Moved N k nb m g F T Q a b F' T' true):FindR N k nb m g F T Q a b (pebR3 N m F T Q F' T' Q) (.tup [pebO N m 3,.p (.bool true)])
  | no (h:Moved N k nb m g F T Q a b F T false):FindR N k nb m g F T Q a b (pebR N m F T Q) (.tup [pebO N m 0,.p (.bool false)])
end Go.Proofs.YtkkjoghiigiokaaGreat.Mach
namespace Go.Proofs.YtkkjoghiigiokaaGreat.Mach
open Go
set_option linter.unusedVariables false
set_option linter.unusedSimpArgs false
def aft (a b:T_Bar):Bool:=bif decide (a.1<b.1) then true else bif a.1==b.1 then decide (a.2.1≤b.2.1) else false
def cmpI (x y:Int):Int:=if x<y then -1 else if x>y then 1 else 0
def cmpB (a b:T_Bar):Int:=if cmpI a.1 b.1=0 then cmpI a.2.1 b.2.1 else cmpI a.1 b.1
def badB (N:Int) (g:Nat→T_Bar) (k:Nat):Bool :=
  bif bif bif decide ((g k).1<0) then true else decide ((g k).1≥(g k).2.1) then true else decide ((g k).2.1≥N) then true
    else bif decide ((k:Int)>0) then !aft (g ((k:Int) - 1).toNat) (g k) else false
def goodB (N:Int) (g:Nat→T_Bar):Nat→Bool
  | 0=>true
  | k+1=>goodB N g k&&!badB N g k
def isGraphF (v:T_Graph):Bool:=if inB v.1 1 8=true∧v.2.1.1≤24 then goodB v.1 v.2.1.2 v.2.1.1 else false
def barA (a:T_Bar):AV:=.agg [.p (.int .i64 a.1),.p (.int .i64 a.2.1)]
def graphL (v:T_BarS):AV:=.p (.seq true 2 v.1 (fun i=>[.int .i64 (v.2 i).1,.int .i64 (v.2 i).2.1]))
def graphA (v:T_Graph):AV:=.agg [.p (.int .i64 v.1),graphL v.2.1]
def boxG (v:T_Graph):Ob:=⟨true,2,1,fun i=>[.p (.int .i64 v.1),graphL v.2.1]⟩
def S48 (v:T_Graph) (k:Nat):St :=
  ⟨[graphA v,.pt 2 0 0 0,.p .any,.p (.int .i64 k)]++List.replicate 55 anyA,[(0,boxG v)],1⟩
def S51 (v:T_Graph) (k:Nat):St :=
  ⟨[graphA v,.pt 2 0 0 0]++List.replicate 14 anyA++[graphL v.2.1,.p (.int .i64 v.2.1.1),.p (.int .i64 k)]++List.replicate 37 anyA,[(0,boxG v)],1⟩
theorem p57 (a b:T_Bar) :
    pathOb Tryz.prog Tryz.f168 0 [rg 3,rg 20] [.code (bodyOf Tryz.f168)] (start Tryz.f168 [] 0 [barA a,barA b]) [] 1 [] (.p (.bool (aft a b))) =
    some [(NT 0 1),(NT 0 1),(AG (!decide (a.1<b.1))),(((!decide (a.1<b.1))=true)→(NT 0 1)),(AG (!decide (a.1<b.1))),(((!decide (a.1<b.1))=true)→(NT 0 1)),(AG (!decide (a.1<b.1))),(AG (!decide (a.1<b.1))),(AG (!decide (a.1<b.1))),(AG (!decide (a.1<b.1)&&a.1==b.1)),(((!decide (a.1<b.1)&&a.1==b.1)=true)→(NT 0 1)),(AG (!decide (a.1<b.1)&&a.1==b.1)),(((!decide (a.1<b.1)&&a.1==b.1)=true)→(NT 0 1)),(AG (!decide (a.1<b.1)&&a.1==b.1)),(AG (!decide (a.1<b.1)&&a.1==b.1)),(AG (!decide (a.1<b.1))),(((!decide (a.1<b.1))=true)→(((a.1==b.1)=true)→ ((!decide (a.1<b.1)&&a.1==b.1)=true))),(((decide (a.1<b.1))=false)→ ((!decide (a.1<b.1))=true)),((bif decide (a.1<b.1) then true else bif a.1==b.1 then decide (a.2.1≤b.2.1) else false)=(aft a b))]:=by kernel_rfl
theorem p62a (x y:Int) :
    pathOb Tryz.prog Tryz.f287 0 [rg 1,rg 4,.dec true,rg 1] [.code (bodyOf Tryz.f287)] (start Tryz.f287 [] 0 [.p (.int .i64 x),.p (.int .i64 y)]) [] 1 [] (.p (.int .i64 (-1))) =
    some [((decide (x<y))=true),(AI ((-1)))]:=by kernel_rfl
theorem p62b (x y:Int) :
    pathOb Tryz.prog Tryz.f287 0 [rg 1,rg 4,.dec false,rg 4,.dec true,rg 1] [.code (bodyOf Tryz.f287)] (start Tryz.f287 [] 0 [.p (.int .i64 x),.p (.int .i64 y)]) [] 1 [] (.p (.int .i64 1)) =
    some [((decide (x<y))=false),((decide (x>y))=true),(AI 1)]:=by kernel_rfl
theorem p62c (x y:Int) :
    pathOb Tryz.prog Tryz.f287 0 [rg 1,rg 4,.dec false,rg 4,.dec false,rg 1] [.code (bodyOf Tryz.f287)] (start Tryz.f287 [] 0 [.p (.int .i64 x),.p (.int .i64 y)]) [] 1 [] (.p (.int .i64 0)) =
    some [((decide (x<y))=false),((decide (x>y))=false),(AI 0)]:=by kernel_rfl
theorem p59a (a b:T_Bar) :
    pathOb Tryz.prog Tryz.f180 0 [rg 3,rm [(4,oc [] (.p (.int .i64 (cmpI a.1 b.1))))] 1,rg 2,.dec true,rg 2] [.code (bodyOf Tryz.f180)] (start Tryz.f180 [] 0 [barA a,barA b]) [] 1 [] (.p (.int .i64 (cmpI a.1 b.1))) =
    some [(NT 0 1),(NT 0 1),Con Tryz.prog 287 0 [] [.p (.int .i64 a.1),.p (.int .i64 b.1)] [] (.p (.int .i64 (cmpI a.1 b.1))),((cmpI a.1 b.1 != 0)=true),(AI ((cmpI a.1 b.1)))]:=by kernel_rfl
theorem p59b (a b:T_Bar) :
    pathOb Tryz.prog Tryz.f180 0 [rg 3,rm [(4,oc [] (.p (.int .i64 (cmpI a.1 b.1))))] 1,rg 2,.dec false,rm [(4,oc [] (.p (.int .i64 (cmpI a.2.1 b.2.1))))] 1] [.code (bodyOf Tryz.f180)] (start Tryz.f180 [] 0 [barA a,barA b]) [] 1 [] (.p (.int .i64 (cmpI a.2.1 b.2.1))) =
    some [(NT 0 1),(NT 0 1),Con Tryz.prog 287 0 [] [.p (.int .i64 a.1),.p (.int .i64 b.1)] [] (.p (.int .i64 (cmpI a.1 b.1))),((cmpI a.1 b.1 != 0)=false),(NT 0 1),(NT 0 1),Con Tryz.prog 287 0 [] [.p (.int .i64 a.2.1),.p (.int .i64 b.2.1)] [] (.p (.int .i64 (cmpI a.2.1 b.2.1))),(AI ((cmpI a.2.1 b.2.1)))]:=by kernel_rfl
theorem p48z (v:T_Graph) :
    pathOb Tryz.prog Tryz.f53 0 [rg 2,rm [(2,oc [] (.p (.bool (inB v.1 1 8))))] 7,.dec true,rg 1] [.code (bodyOf Tryz.f53)] (start Tryz.f53 [] 0 [graphA v]) [] 1 [] (.p (.bool false)) =
    some [(NT 0 1),Con Tryz.prog 167 0 [] [.p (.int .i64 v.1),.p (.int .i64 1),.p (.int .i64 8)] [] (.p (.bool (inB v.1 1 8))),(AG (!!inB v.1 1 8)),(((!!inB v.1 1 8)=true)→(NT 0 1)),(AG (!!inB v.1 1 8)),(AG (!!inB v.1 1 8)),(((!inB v.1 1 8)=false)→ ((!!inB v.1 1 8)=true)),((bif !inB v.1 1 8 then true else decide ((↑v.2.1.1:Int)>24))=true),(false=false)]:=by kernel_rfl
theorem p48a (v:T_Graph) :
    pieceOb Tryz.prog 0 [rg 2,rm [(2,oc [] (.p (.bool (inB v.1 1 8))))] 7,.dec false,rg 1,.head] [.code (bodyOf Tryz.f53)] (start Tryz.f53 [] 0 [graphA v]) [0] 1 (S48 v 0) =
    some (zf94,[(NT 0 1),Con Tryz.prog 167 0 [] [.p (.int .i64 v.1),.p (.int .i64 1),.p (.int .i64 8)] [] (.p (.bool (inB v.1 1 8))),(AG (!!inB v.1 1 8)),(((!!inB v.1 1 8)=true)→(NT 0 1)),(AG (!!inB v.1 1 8)),(AG (!!inB v.1 1 8)),(((!inB v.1 1 8)=false)→ ((!!inB v.1 1 8)=true)),((bif !inB v.1 1 8 then true else decide ((↑v.2.1.1:Int)>24))=false),(AI v.1),(AN v.2.1.1),(AP v.2.1.1 (bRw v.2.1.2)),(AN 0),((0:Int)=(↑0:Int)),((([AV.p (PV.int IntKind.i64 v.1),graphL v.2.1].length):Nat)=2),(NL 1 1),(NL 1 1),(AI v.1),(AN v.2.1.1),(AP v.2.1.1 (bRw v.2.1.2))]):=by kernel_rfl
theorem p48b (v:T_Graph) (k:Nat) :
    pieceOb Tryz.prog 0 [rg 5,.dec true,rg 7,rm [(28,oc [] (.p (.bool (aft (v.2.1.2 ((k:Int) - 1).toNat) (v.2.1.2 k)))))] 3,.dec false,rg 3,.head] zf94 (S48 v k) [0] 1 (S48 v (k+1)) =
    some (zf94,[(NT 0 1),((decide ((↑k:Int)<(↑v.2.1.1:Int)))=true),(NT 0 1),(IL 0 (↑k:Int)),(IT (↑k:Int) (↑v.2.1.1:Int)),(NT 0 1),((true=true)→ (AN 1)),(NT 0 1),(AG (!decide ((vKz v k).1<0))),(((!decide ((vKz v k).1<0))=true)→(NT 0 1)),(AG (!decide ((vKz v k).1<0))),(((!decide ((vKz v k).1<0))=true)→(NT 0 1)),(AG (!decide ((vKz v k).1<0))),(AG (!decide ((vKz v k).1<0))),(((decide ((vKz v k).1<0))=false)→ ((!decide ((vKz v k).1<0))=true)),(AG (!bif decide ((vKz v k).1<0) then true else decide ((vKz v k).1≥(vKz v k).2.1))),(((!bif decide ((vKz v k).1<0) then true else decide ((vKz v k).1≥(vKz v k).2.1))=true)→(NT 0 1)),(AG (!bif decide ((vKz v k).1<0) then true else decide ((vKz v k).1≥(vKz v k).2.1))),(((!bif decide ((vKz v k).1<0) then true else decide ((vKz v k).1≥(vKz v k).2.1))=true)→(NT 0 1)),(AG (!bif decide ((vKz v k).1<0) then true else decide ((vKz v k).1≥(vKz v k).2.1))),(AG (!bif decide ((vKz v k).1<0) then true else decide ((vKz v k).1≥(vKz v k).2.1))),(((bif decide ((vKz v k).1<0) then true else decide ((vKz v k).1≥(vKz v k).2.1))=false)→ ((!bif decide ((vKz v k).1<0) then true else decide ((vKz v k).1≥(vKz v k).2.1))=true)),(AG (!bif bif decide ((vKz v k).1<0) then true else decide ((vKz v k).1≥(vKz v k).2.1) then true else decide ((vKz v k).2.1≥v.1))),(AG (!bif bif decide ((vKz v k).1<0) then true else decide ((vKz v k).1≥(vKz v k).2.1) then true else decide ((vKz v k).2.1≥v.1))),(AG ((!bif bif decide ((vKz v k).1<0) then true else decide ((vKz v k).1≥(vKz v k).2.1) then true else decide ((vKz v k).2.1≥v.1))&&decide ((↑k:Int)>0))),((((!bif bif decide ((vKz v k).1<0) then true else decide ((vKz v k).1≥(vKz v k).2.1) then true else decide ((vKz v k).2.1≥v.1))&&decide ((↑k:Int)>0))=true)→(NT 0 1)),(AG ((!bif bif decide ((vKz v k).1<0) then true else decide ((vKz v k).1≥(vKz v k).2.1) then true else decide ((vKz v k).2.1≥v.1))&&decide ((↑k:Int)>0))),((((!bif bif decide ((vKz v k).1<0) then true else decide ((vKz v k).1≥(vKz v k).2.1) then true else decide ((vKz v k).2.1≥v.1))&&decide ((↑k:Int)>0))=true)→(ZLo ((↑k:Int) - 1))),((((!bif bif decide ((vKz v k).1<0) then true else decide ((vKz v k).1≥(vKz v k).2.1) then true else decide ((vKz v k).2.1≥v.1))&&decide ((↑k:Int)>0))=true)→(ZHi ((↑k:Int) - 1))),(AG ((!bif bif decide ((vKz v k).1<0) then true else decide ((vKz v k).1≥(vKz v k).2.1) then true else decide ((vKz v k).2.1≥v.1))&&decide ((↑k:Int)>0))),(AG ((!bif bif decide ((vKz v k).1<0) then true else decide ((vKz v k).1≥(vKz v k).2.1) then true else decide ((vKz v k).2.1≥v.1))&&decide ((↑k:Int)>0))),((((!bif bif decide ((vKz v k).1<0) then true else decide ((vKz v k).1≥(vKz v k).2.1) then true else decide ((vKz v k).2.1≥v.1))&&decide ((↑k:Int)>0))=true)→(IL 0 ((↑k:Int) - 1))),((((!bif bif decide ((vKz v k).1<0) then true else decide ((vKz v k).1≥(vKz v k).2.1) then true else decide ((vKz v k).2.1≥v.1))&&decide ((↑k:Int)>0))=true)→(IT ((↑k:Int) - 1) (↑v.2.1.1:Int))),(AG ((!bif bif decide ((vKz v k).1<0) then true else decide ((vKz v k).1≥(vKz v k).2.1) then true else decide ((vKz v k).2.1≥v.1))&&decide ((↑k:Int)>0))),((((!bif bif decide ((vKz v k).1<0) then true else decide ((vKz v k).1≥(vKz v k).2.1) then true else decide ((vKz v k).2.1≥v.1))&&decide ((↑k:Int)>0))=true)→(NT 0 1)),(AG ((!bif bif decide ((vKz v k).1<0) then true else decide ((vKz v k).1≥(vKz v k).2.1) then true else decide ((vKz v k).2.1≥v.1))&&decide ((↑k:Int)>0))),(AG ((!bif bif decide ((vKz v k).1<0) then true else decide ((vKz v k).1≥(vKz v k).2.1) then true else decide ((vKz v k).2.1≥v.1))&&decide ((↑k:Int)>0))),((((!bif bif decide ((vKz v k).1<0) then true else decide ((vKz v k).1≥(vKz v k).2.1) then true else decide ((vKz v k).2.1≥v.1))&&decide ((↑k:Int)>0))=true)→ Con Tryz.prog 168 0 [] [(zf113 v k),(zf122 v k)] [] (.p (.bool (aft (v.2.1.2 ((↑k:Int) - 1).toNat) (v.2.1.2 k))))),(AG ((!bif bif decide ((vKz v k).1<0) then true else decide ((vKz v k).1≥(vKz v k).2.1) then true else decide ((vKz v k).2.1≥v.1))&&decide ((↑k:Int)>0))),(AG (!bif bif decide ((vKz v k).1<0) then true else decide ((vKz v k).1≥(vKz v k).2.1) then true else decide ((vKz v k).2.1≥v.1))),(((!bif bif decide ((vKz v k).1<0) then true else decide ((vKz v k).1≥(vKz v k).2.1) then true else decide ((vKz v k).2.1≥v.1))=true)→(((decide ((↑k:Int)>0))=true)→ (((!bif bif decide ((vKz v k).1<0) then true else decide ((vKz v k).1≥(vKz v k).2.1) then true else decide ((vKz v k).2.1≥v.1))&&decide ((↑k:Int)>0))=true))),(((bif bif decide ((vKz v k).1<0) then true else decide ((vKz v k).1≥(vKz v k).2.1) then true else decide ((vKz v k).2.1≥v.1))=false)→ ((!bif bif decide ((vKz v k).1<0) then true else decide ((vKz v k).1≥(vKz v k).2.1) then true else decide ((vKz v k).2.1≥v.1))=true)),((bif bif bif decide ((vKz v k).1<0) then true else decide ((vKz v k).1≥(vKz v k).2.1) then true else decide ((vKz v k).2.1≥v.1) then true else bif decide ((↑k:Int)>0) then !aft (v.2.1.2 ((↑k:Int) - 1).toNat) (v.2.1.2 k) else false)=false),(ZLo ((↑k:Int)+1)),(ZHi ((↑k:Int)+1)),(AI v.1),(AN v.2.1.1),(AP v.2.1.1 (bRw v.2.1.2)),(AN 0),((((↑k:Int)+1):Int)=(↑(k+1):Int)),(AN 2),(NL 1 1),(NL 1 1),(AI v.1),(AN v.2.1.1),(AP v.2.1.1 (bRw v.2.1.2))]):=by kernel_rfl
theorem p48c (v:T_Graph) (k:Nat) :
    pathOb Tryz.prog Tryz.f53 0 [rg 5,.dec true,rg 7,rm [(28,oc [] (.p (.bool (aft (v.2.1.2 ((k:Int) - 1).toNat) (v.2.1.2 k)))))] 3,.dec true,rg 1] zf94 (S48 v k) [] 1 [] (.p (.bool false)) =
    some [(NT 0 1),((decide ((↑k:Int)<(↑v.2.1.1:Int)))=true),(NT 0 1),(IL 0 (↑k:Int)),(IT (↑k:Int) (↑v.2.1.1:Int)),(NT 0 1),((true=true)→ (AN 1)),(NT 0 1),(AG (!decide ((vKz v k).1<0))),(((!decide ((vKz v k).1<0))=true)→(NT 0 1)),(AG (!decide ((vKz v k).1<0))),(((!decide ((vKz v k).1<0))=true)→(NT 0 1)),(AG (!decide ((vKz v k).1<0))),(AG (!decide ((vKz v k).1<0))),(((decide ((vKz v k).1<0))=false)→ ((!decide ((vKz v k).1<0))=true)),(AG (!bif decide ((vKz v k).1<0) then true else decide ((vKz v k).1≥(vKz v k).2.1))),(((!bif decide ((vKz v k).1<0) then true else decide ((vKz v k).1≥(vKz v k).2.1))=true)→(NT 0 1)),(AG (!bif decide ((vKz v k).1<0) then true else decide ((vKz v k).1≥(vKz v k).2.1))),(((!bif decide ((vKz v k).1<0) then true else decide ((vKz v k).1≥(vKz v k).2.1))=true)→(NT 0 1)),(AG (!bif decide ((vKz v k).1<0) then true else decide ((vKz v k).1≥(vKz v k).2.1))),(AG (!bif decide ((vKz v k).1<0) then true else decide ((vKz v k).1≥(vKz v k).2.1))),(((bif decide ((vKz v k).1<0) then true else decide ((vKz v k).1≥(vKz v k).2.1))=false)→ ((!bif decide ((vKz v k).1<0) then true else decide ((vKz v k).1≥(vKz v k).2.1))=true)),(AG (!bif bif decide ((vKz v k).1<0) then true else decide ((vKz v k).1≥(vKz v k).2.1) then true else decide ((vKz v k).2.1≥v.1))),(AG (!bif bif decide ((vKz v k).1<0) then true else decide ((vKz v k).1≥(vKz v k).2.1) then true else decide ((vKz v k).2.1≥v.1))),(AG ((!bif bif decide ((vKz v k).1<0) then true else decide ((vKz v k).1≥(vKz v k).2.1) then true else decide ((vKz v k).2.1≥v.1))&&decide ((↑k:Int)>0))),((((!bif bif decide ((vKz v k).1<0) then true else decide ((vKz v k).1≥(vKz v k).2.1) then true else decide ((vKz v k).2.1≥v.1))&&decide ((↑k:Int)>0))=true)→(NT 0 1)),(AG ((!bif bif decide ((vKz v k).1<0) then true else decide ((vKz v k).1≥(vKz v k).2.1) then true else decide ((vKz v k).2.1≥v.1))&&decide ((↑k:Int)>0))),((((!bif bif decide ((vKz v k).1<0) then true else decide ((vKz v k).1≥(vKz v k).2.1) then true else decide ((vKz v k).2.1≥v.1))&&decide ((↑k:Int)>0))=true)→(ZLo ((↑k:Int) - 1))),((((!bif bif decide ((vKz v k).1<0) then true else decide ((vKz v k).1≥(vKz v k).2.1) then true else decide ((vKz v k).2.1≥v.1))&&decide ((↑k:Int)>0))=true)→(ZHi ((↑k:Int) - 1))),(AG ((!bif bif decide ((vKz v k).1<0) then true else decide ((vKz v k).1≥(vKz v k).2.1) then true else decide ((vKz v k).2.1≥v.1))&&decide ((↑k:Int)>0))),(AG ((!bif bif decide ((vKz v k).1<0) then true else decide ((vKz v k).1≥(vKz v k).2.1) then true else decide ((vKz v k).2.1≥v.1))&&decide ((↑k:Int)>0))),((((!bif bif decide ((vKz v k).1<0) then true else decide ((vKz v k).1≥(vKz v k).2.1) then true else decide ((vKz v k).2.1≥v.1))&&decide ((↑k:Int)>0))=true)→(IL 0 ((↑k:Int) - 1))),((((!bif bif decide ((vKz v k).1<0) then true else decide ((vKz v k).1≥(vKz v k).2.1) then true else decide ((vKz v k).2.1≥v.1))&&decide ((↑k:Int)>0))=true)→(IT ((↑k:Int) - 1) (↑v.2.1.1:Int))),(AG ((!bif bif decide ((vKz v k).1<0) then true else decide ((vKz v k).1≥(vKz v k).2.1) then true else decide ((vKz v k).2.1≥v.1))&&decide ((↑k:Int)>0))),((((!bif bif decide ((vKz v k).1<0) then true else decide ((vKz v k).1≥(vKz v k).2.1) then true else decide ((vKz v k).2.1≥v.1))&&decide ((↑k:Int)>0))=true)→(NT 0 1)),(AG ((!bif bif decide ((vKz v k).1<0) then true else decide ((vKz v k).1≥(vKz v k).2.1) then true else decide ((vKz v k).2.1≥v.1))&&decide ((↑k:Int)>0))),(AG ((!bif bif decide ((vKz v k).1<0) then true else decide ((vKz v k).1≥(vKz v k).2.1) then true else decide ((vKz v k).2.1≥v.1))&&decide ((↑k:Int)>0))),((((!bif bif decide ((vKz v k).1<0) then true else decide ((vKz v k).1≥(vKz v k).2.1) then true else decide ((vKz v k).2.1≥v.1))&&decide ((↑k:Int)>0))=true)→ Con Tryz.prog 168 0 [] [(zf113 v k),(zf122 v k)] [] (.p (.bool (aft (v.2.1.2 ((↑k:Int) - 1).toNat) (v.2.1.2 k))))),(AG ((!bif bif decide ((vKz v k).1<0) then true else decide ((vKz v k).1≥(vKz v k).2.1) then true else decide ((vKz v k).2.1≥v.1))&&decide ((↑k:Int)>0))),(AG (!bif bif decide ((vKz v k).1<0) then true else decide ((vKz v k).1≥(vKz v k).2.1) then true else decide ((vKz v k).2.1≥v.1))),(((!bif bif decide ((vKz v k).1<0) then true else decide ((vKz v k).1≥(vKz v k).2.1) then true else decide ((vKz v k).2.1≥v.1))=true)→(((decide ((↑k:Int)>0))=true)→ (((!bif bif decide ((vKz v k).1<0) then true else decide ((vKz v k).1≥(vKz v k).2.1) then true else decide ((vKz v k).2.1≥v.1))&&decide ((↑k:Int)>0))=true))),(((bif bif decide ((vKz v k).1<0) then true else decide ((vKz v k).1≥(vKz v k).2.1) then true else decide ((vKz v k).2.1≥v.1))=false)→ ((!bif bif decide ((vKz v k).1<0) then true else decide ((vKz v k).1≥(vKz v k).2.1) then true else decide ((vKz v k).2.1≥v.1))=true)),((bif bif bif decide ((vKz v k).1<0) then true else decide ((vKz v k).1≥(vKz v k).2.1) then true else decide ((vKz v k).2.1≥v.1) then true else bif decide ((↑k:Int)>0) then !aft (v.2.1.2 ((↑k:Int) - 1).toNat) (v.2.1.2 k) else false)=true),(false=false)]:=by kernel_rfl
theorem p48d (v:T_Graph) (k:Nat) :
    pathOb Tryz.prog Tryz.f53 0 [rg 5,.dec false,rg 1] zf94 (S48 v k) [] 1 [] (.p (.bool true)) =
    some [(NT 0 1),((decide ((↑k:Int)<(↑v.2.1.1:Int)))=false),(true=true)]:=by kernel_rfl
theorem p51z (v:T_Graph) :
    pathOb Tryz.prog Tryz.f62 0 [rg 2,rm [(2,oc [] (.p (.bool (inB v.1 1 8))))] 7,.dec true,rg 1] [.code (bodyOf Tryz.f62)] (start Tryz.f62 [] 0 [graphA v]) [] 1 [] (.p (.bool false)) =
    some [(NT 0 1),Con Tryz.prog 179 0 [] [.p (.int .i64 v.1),.p (.int .i64 1),.p (.int .i64 8)] [] (.p (.bool (inB v.1 1 8))),(AG (!!inB v.1 1 8)),(((!!inB v.1 1 8)=true)→(NT 0 1)),(AG (!!inB v.1 1 8)),(AG (!!inB v.1 1 8)),(((!inB v.1 1 8)=false)→ ((!!inB v.1 1 8)=true)),((bif !inB v.1 1 8 then true else decide ((↑v.2.1.1:Int)>24))=true),(false=false)]:=by kernel_rfl
theorem p51a (v:T_Graph) :
    pieceOb Tryz.prog 0 [rg 2,rm [(2,oc [] (.p (.bool (inB v.1 1 8))))] 7,.dec false,rg 4,.head] [.code (bodyOf Tryz.f62)] (start Tryz.f62 [] 0 [graphA v]) [0] 1 (S51 v 0) =
    some (zf95,[(NT 0 1),Con Tryz.prog 179 0 [] [.p (.int .i64 v.1),.p (.int .i64 1),.p (.int .i64 8)] [] (.p (.bool (inB v.1 1 8))),(AG (!!inB v.1 1 8)),(((!!inB v.1 1 8)=true)→(NT 0 1)),(AG (!!inB v.1 1 8)),(AG (!!inB v.1 1 8)),(((!inB v.1 1 8)=false)→ ((!!inB v.1 1 8)=true)),((bif !inB v.1 1 8 then true else decide ((↑v.2.1.1:Int)>24))=false),(NT 0 1),(AI v.1),(AN v.2.1.1),(AP v.2.1.1 (bRw v.2.1.2)),(AN 0),(AN v.2.1.1),(AP v.2.1.1 (bRw v.2.1.2)),(AI ((↑v.2.1.1:Int))),((0:Int)=(↑0:Int)),((([AV.p (PV.int IntKind.i64 v.1),graphL v.2.1].length):Nat)=2),(NL 1 1),(NL 1 1),(AI v.1),(AN v.2.1.1),(AP v.2.1.1 (bRw v.2.1.2))]):=by kernel_rfl
theorem p51b (v:T_Graph) (k:Nat) :
    pieceOb Tryz.prog 0 [rg 1,.dec true,rg 6,rm [(28,oc [] (.p (.int .i64 (cmpB (v.2.1.2 ((k:Int) - 1).toNat) (v.2.1.2 k)))))] 3,.dec false,rg 2,.head] zf95 (S51 v k) [0] 1 (S51 v (k+1)) =
    some (zf95,[((decide ((↑k:Int)<(↑v.2.1.1:Int)))=true),(IL 0 (↑k:Int)),(IT (↑k:Int) (↑v.2.1.1:Int)),(NT 0 1),((true=true)→ (AN 1)),(NT 0 1),(AG (!decide ((vKz v k).1<0))),(((!decide ((vKz v k).1<0))=true)→(NT 0 1)),(AG (!decide ((vKz v k).1<0))),(((!decide ((vKz v k).1<0))=true)→(NT 0 1)),(AG (!decide ((vKz v k).1<0))),(AG (!decide ((vKz v k).1<0))),(((decide ((vKz v k).1<0))=false)→ ((!decide ((vKz v k).1<0))=true)),(AG (!bif decide ((vKz v k).1<0) then true else decide ((vKz v k).1≥(vKz v k).2.1))),(((!bif decide ((vKz v k).1<0) then true else decide ((vKz v k).1≥(vKz v k).2.1))=true)→(NT 0 1)),(AG (!bif decide ((vKz v k).1<0) then true else decide ((vKz v k).1≥(vKz v k).2.1))),(((!bif decide ((vKz v k).1<0) then true else decide ((vKz v k).1≥(vKz v k).2.1))=true)→(NT 0 1)),(AG (!bif decide ((vKz v k).1<0) then true else decide ((vKz v k).1≥(vKz v k).2.1))),(AG (!bif decide ((vKz v k).1<0) then true else decide ((vKz v k).1≥(vKz v k).2.1))),(((bif decide ((vKz v k).1<0) then true else decide ((vKz v k).1≥(vKz v k).2.1))=false)→ ((!bif decide ((vKz v k).1<0) then true else decide ((vKz v k).1≥(vKz v k).2.1))=true)),(AG (!bif bif decide ((vKz v k).1<0) then true else decide ((vKz v k).1≥(vKz v k).2.1) then true else decide ((vKz v k).2.1≥v.1))),(AG (!bif bif decide ((vKz v k).1<0) then true else decide ((vKz v k).1≥(vKz v k).2.1) then true else decide ((vKz v k).2.1≥v.1))),(AG ((!bif bif decide ((vKz v k).1<0) then true else decide ((vKz v k).1≥(vKz v k).2.1) then true else decide ((vKz v k).2.1≥v.1))&&decide ((↑k:Int)>0))),((((!bif bif decide ((vKz v k).1<0) then true else decide ((vKz v k).1≥(vKz v k).2.1) then true else decide ((vKz v k).2.1≥v.1))&&decide ((↑k:Int)>0))=true)→(NT 0 1)),(AG ((!bif bif decide ((vKz v k).1<0) then true else decide ((vKz v k).1≥(vKz v k).2.1) then true else decide ((vKz v k).2.1≥v.1))&&decide ((↑k:Int)>0))),((((!bif bif decide ((vKz v k).1<0) then true else decide ((vKz v k).1≥(vKz v k).2.1) then true else decide ((vKz v k).2.1≥v.1))&&decide ((↑k:Int)>0))=true)→(ZLo ((↑k:Int) - 1))),((((!bif bif decide ((vKz v k).1<0) then true else decide ((vKz v k).1≥(vKz v k).2.1) then true else decide ((vKz v k).2.1≥v.1))&&decide ((↑k:Int)>0))=true)→(ZHi ((↑k:Int) - 1))),(AG ((!bif bif decide ((vKz v k).1<0) then true else decide ((vKz v k).1≥(vKz v k).2.1) then true else decide ((vKz v k).2.1≥v.1))&&decide ((↑k:Int)>0))),(AG ((!bif bif decide ((vKz v k).1<0) then true else decide ((vKz v k).1≥(vKz v k).2.1) then true else decide ((vKz v k).2.1≥v.1))&&decide ((↑k:Int)>0))),((((!bif bif decide ((vKz v k).1<0) then true else decide ((vKz v k).1≥(vKz v k).2.1) then true else decide ((vKz v k).2.1≥v.1))&&decide ((↑k:Int)>0))=true)→(IL 0 ((↑k:Int) - 1))),((((!bif bif decide ((vKz v k).1<0) then true else decide ((vKz v k).1≥(vKz v k).2.1) then true else decide ((vKz v k).2.1≥v.1))&&decide ((↑k:Int)>0))=true)→(IT ((↑k:Int) - 1) (↑v.2.1.1:Int))),(AG ((!bif bif decide ((vKz v k).1<0) then true else decide ((vKz v k).1≥(vKz v k).2.1) then true else decide ((vKz v k).2.1≥v.1))&&decide ((↑k:Int)>0))),((((!bif bif decide ((vKz v k).1<0) then true else decide ((vKz v k).1≥(vKz v k).2.1) then true else decide ((vKz v k).2.1≥v.1))&&decide ((↑k:Int)>0))=true)→(NT 0 1)),(AG ((!bif bif decide ((vKz v k).1<0) then true else decide ((vKz v k).1≥(vKz v k).2.1) then true else decide ((vKz v k).2.1≥v.1))&&decide ((↑k:Int)>0))),(AG ((!bif bif decide ((vKz v k).1<0) then true else decide ((vKz v k).1≥(vKz v k).2.1) then true else decide ((vKz v k).2.1≥v.1))&&decide ((↑k:Int)>0))),((((!bif bif decide ((vKz v k).1<0) then true else decide ((vKz v k).1≥(vKz v k).2.1) then true else decide ((vKz v k).2.1≥v.1))&&decide ((↑k:Int)>0))=true)→ Con Tryz.prog 180 0 [] [(zf113 v k),(zf122 v k)] [] (.p (.int .i64 (cmpB (v.2.1.2 ((↑k:Int) - 1).toNat) (v.2.1.2 k))))),(AG ((!bif bif decide ((vKz v k).1<0) then true else decide ((vKz v k).1≥(vKz v k).2.1) then true else decide ((vKz v k).2.1≥v.1))&&decide ((↑k:Int)>0))),(AG (!bif bif decide ((vKz v k).1<0) then true else decide ((vKz v k).1≥(vKz v k).2.1) then true else decide ((vKz v k).2.1≥v.1))),(((!bif bif decide ((vKz v k).1<0) then true else decide ((vKz v k).1≥(vKz v k).2.1) then true else decide ((vKz v k).2.1≥v.1))=true)→(((decide ((↑k:Int)>0))=true)→ (((!bif bif decide ((vKz v k).1<0) then true else decide ((vKz v k).1≥(vKz v k).2.1) then true else decide ((vKz v k).2.1≥v.1))&&decide ((↑k:Int)>0))=true))),(((bif bif decide ((vKz v k).1<0) then true else decide ((vKz v k).1≥(vKz v k).2.1) then true else decide ((vKz v k).2.1≥v.1))=false)→ ((!bif bif decide ((vKz v k).1<0) then true else decide ((vKz v k).1≥(vKz v k).2.1) then true else decide ((vKz v k).2.1≥v.1))=true)),((bif bif bif decide ((vKz v k).1<0) then true else decide ((vKz v k).1≥(vKz v k).2.1) then true else decide ((vKz v k).2.1≥v.1) then true else bif decide ((↑k:Int)>0) then decide (cmpB (v.2.1.2 ((↑k:Int) - 1).toNat) (v.2.1.2 k)>0) else false)=false),(ZLo ((↑k:Int)+1)),(ZHi ((↑k:Int)+1)),(AI v.1),(AN v.2.1.1),(AP v.2.1.1 (bRw v.2.1.2)),(AN 0),(AN v.2.1.1),(AP v.2.1.1 (bRw v.2.1.2)),(AI ((↑v.2.1.1:Int))),((((↑k:Int)+1):Int)=(↑(k+1):Int)),(AN 2),(NL 1 1),(NL 1 1),(AI v.1),(AN v.2.1.1),(AP v.2.1.1 (bRw v.2.1.2))]):=by kernel_rfl
theorem p51c (v:T_Graph) (k:Nat) :
    pathOb Tryz.prog Tryz.f62 0 [rg 1,.dec true,rg 6,rm [(28,oc [] (.p (.int .i64 (cmpB (v.2.1.2 ((k:Int) - 1).toNat) (v.2.1.2 k)))))] 3,.dec true,rg 1] zf95 (S51 v k) [] 1 [] (.p (.bool false)) =
    some [((decide ((↑k:Int)<(↑v.2.1.1:Int)))=true),(IL 0 (↑k:Int)),(IT (↑k:Int) (↑v.2.1.1:Int)),(NT 0 1),((true=true)→ (AN 1)),(NT 0 1),(AG (!decide ((vKz v k).1<0))),(((!decide ((vKz v k).1<0))=true)→(NT 0 1)),(AG (!decide ((vKz v k).1<0))),(((!decide ((vKz v k).1<0))=true)→(NT 0 1)),(AG (!decide ((vKz v k).1<0))),(AG (!decide ((vKz v k).1<0))),(((decide ((vKz v k).1<0))=false)→ ((!decide ((vKz v k).1<0))=true)),(AG (!bif decide ((vKz v k).1<0) then true else decide ((vKz v k).1≥(vKz v k).2.1))),(((!bif decide ((vKz v k).1<0) then true else decide ((vKz v k).1≥(vKz v k).2.1))=true)→(NT 0 1)),(AG (!bif decide ((vKz v k).1<0) then true else decide ((vKz v k).1≥(vKz v k).2.1))),(((!bif decide ((vKz v k).1<0) then true else decide ((vKz v k).1≥(vKz v k).2.1))=true)→(NT 0 1)),(AG (!bif decide ((vKz v k).1<0) then true else decide ((vKz v k).1≥(vKz v k).2.1))),(AG (!bif decide ((vKz v k).1<0) then true else decide ((vKz v k).1≥(vKz v k).2.1))),(((bif decide ((vKz v k).1<0) then true else decide ((vKz v k).1≥(vKz v k).2.1))=false)→ ((!bif decide ((vKz v k).1<0) then true else decide ((vKz v k).1≥(vKz v k).2.1))=true)),(AG (!bif bif decide ((vKz v k).1<0) then true else decide ((vKz v k).1≥(vKz v k).2.1) then true else decide ((vKz v k).2.1≥v.1))),(AG (!bif bif decide ((vKz v k).1<0) then true else decide ((vKz v k).1≥(vKz v k).2.1) then true else decide ((vKz v k).2.1≥v.1))),(AG ((!bif bif decide ((vKz v k).1<0) then true else decide ((vKz v k).1≥(vKz v k).2.1) then true else decide ((vKz v k).2.1≥v.1))&&decide ((↑k:Int)>0))),((((!bif bif decide ((vKz v k).1<0) then true else decide ((vKz v k).1≥(vKz v k).2.1) then true else decide ((vKz v k).2.1≥v.1))&&decide ((↑k:Int)>0))=true)→(NT 0 1)),(AG ((!bif bif decide ((vKz v k).1<0) then true else decide ((vKz v k).1≥(vKz v k).2.1) then true else decide ((vKz v k).2.1≥v.1))&&decide ((↑k:Int)>0))),((((!bif bif decide ((vKz v k).1<0) then true else decide ((vKz v k).1≥(vKz v k).2.1) then true else decide ((vKz v k).2.1≥v.1))&&decide ((↑k:Int)>0))=true)→(ZLo ((↑k:Int) - 1))),((((!bif bif decide ((vKz v k).1<0) then true else decide ((vKz v k).1≥(vKz v k).2.1) then true else decide ((vKz v k).2.1≥v.1))&&decide ((↑k:Int)>0))=true)→(ZHi ((↑k:Int) - 1))),(AG ((!bif bif decide ((vKz v k).1<0) then true else decide ((vKz v k).1≥(vKz v k).2.1) then true else decide ((vKz v k).2.1≥v.1))&&decide ((↑k:Int)>0))),(AG ((!bif bif decide ((vKz v k).1<0) then true else decide ((vKz v k).1≥(vKz v k).2.1) then true else decide ((vKz v k).2.1≥v.1))&&decide ((↑k:Int)>0))),((((!bif bif decide ((vKz v k).1<0) then true else decide ((vKz v k).1≥(vKz v k).2.1) then true else decide ((vKz v k).2.1≥v.1))&&decide ((↑k:Int)>0))=true)→(IL 0 ((↑k:Int) - 1))),((((!bif bif decide ((vKz v k).1<0) then true else decide ((vKz v k).1≥(vKz v k).2.1) then true else decide ((vKz v k).2.1≥v.1))&&decide ((↑k:Int)>0))=true)→(IT ((↑k:Int) - 1) (↑v.2.1.1:Int))),(AG ((!bif bif decide ((vKz v k).1<0) then true else decide ((vKz v k).1≥(vKz v k).2.1) then true else decide ((vKz v k).2.1≥v.1))&&decide ((↑k:Int)>0))),((((!bif bif decide ((vKz v k).1<0) then true else decide ((vKz v k).1≥(vKz v k).2.1) then true else decide ((vKz v k).2.1≥v.1))&&decide ((↑k:Int)>0))=true)→(NT 0 1)),(AG ((!bif bif decide ((vKz v k).1<0) then true else decide ((vKz v k).1≥(vKz v k).2.1) then true else decide ((vKz v k).2.1≥v.1))&&decide ((↑k:Int)>0))),(AG ((!bif bif decide ((vKz v k).1<0) then true else decide ((vKz v k).1≥(vKz v k).2.1) then true else decide ((vKz v k).2.1≥v.1))&&decide ((↑k:Int)>0))),((((!bif bif decide ((vKz v k).1<0) then true else decide ((vKz v k).1≥(vKz v k).2.1) then true else decide ((vKz v k).2.1≥v.1))&&decide ((↑k:Int)>0))=true)→ Con Tryz.prog 180 0 [] [(zf113 v k),(zf122 v k)] [] (.p (.int .i64 (cmpB (v.2.1.2 ((↑k:Int) - 1).toNat) (v.2.1.2 k))))),(AG ((!bif bif decide ((vKz v k).1<0) then true else decide ((vKz v k).1≥(vKz v k).2.1) then true else decide ((vKz v k).2.1≥v.1))&&decide ((↑k:Int)>0))),(AG (!bif bif decide ((vKz v k).1<0) then true else decide ((vKz v k).1≥(vKz v k).2.1) then true else decide ((vKz v k).2.1≥v.1))),(((!bif bif decide ((vKz v k).1<0) then true else decide ((vKz v k).1≥(vKz v k).2.1) then true else decide ((vKz v k).2.1≥v.1))=true)→(((decide ((↑k:Int)>0))=true)→ (((!bif bif decide ((vKz v k).1<0) then true else decide ((vKz v k).1≥(vKz v k).2.1) then true else decide ((vKz v k).2.1≥v.1))&&decide ((↑k:Int)>0))=true))),(((bif bif decide ((vKz v k).1<0) then true else decide ((vKz v k).1≥(vKz v k).2.1) then true else decide ((vKz v k).2.1≥v.1))=false)→ ((!bif bif decide ((vKz v k).1<0) then true else decide ((vKz v k).1≥(vKz v k).2.1) then true else decide ((vKz v k).2.1≥v.1))=true)),((bif bif bif decide ((vKz v k).1<0) then true else decide ((vKz v k).1≥(vKz v k).2.1) then true else decide ((vKz v k).2.1≥v.1) then true else bif decide ((↑k:Int)>0) then decide (cmpB (v.2.1.2 ((↑k:Int) - 1).toNat) (v.2.1.2 k)>0) else false)=true),(false=false)]:=by kernel_rfl
theorem p51d (v:T_Graph) (k:Nat) :
    pathOb Tryz.prog Tryz.f62 0 [rg 1,.dec false,rg 1] zf95 (S51 v k) [] 1 [] (.p (.bool true)) =
    some [((decide ((↑k:Int)<(↑v.2.1.1:Int)))=false),(true=true)]:=by kernel_rfl
theorem con_l2After (a b:T_Bar):Con Tryz.prog 168 0 [] [barA a,barA b] [] (.p (.bool (aft a b))):=by
  refine csZ Tryz.func168 (fun c hc=>?_)
  refine pkZ Tryz.func168 hc (p57 a b) ?_
  repeat' (first | exact aN | apply aI)
  all_goals (first | exact aG _ | omega | rfl | (intros;first | assumption | exact trivial | rfl | exact fT ‹_› | ((repeat' (first | assumption | apply anda | apply notf));done)))
theorem con_compareInts (x y:Int):Con Tryz.prog 287 0 [] [.p (.int .i64 x),.p (.int .i64 y)] [] (.p (.int .i64 (cmpI x y))):=by
  refine csZ Tryz.func287 (fun c hc=>?_)
  by_cases h1:x<y
  · rw [show cmpI x y = -1 by simp [cmpI,h1]]
    refine pkZ Tryz.func287 hc (p62a x y) ?_
    repeat' (first | exact aN | apply aI)
    all_goals (first | omega | rfl | (intros;first | assumption | exact trivial | rfl) | (simp;omega))
  · by_cases h2:x>y
    · rw [show cmpI x y=1 by simp only [cmpI,h1,h2,if_true,if_false]]
      refine pkZ Tryz.func287 hc (p62b x y) ?_
      repeat' (first | exact aN | apply aI)
      all_goals (first | omega | rfl | (intros;first | assumption | exact trivial | rfl) | (simp;omega))
    · rw [show cmpI x y=0 by simp only [cmpI,h1,h2,if_false]]
      refine pkZ Tryz.func287 hc (p62c x y) ?_
      repeat' (first | exact aN | apply aI)
      all_goals (first | omega | rfl | (intros;first | assumption | exact trivial | rfl) | (simp;omega))
theorem con_compareBars (a b:T_Bar):Con Tryz.prog 180 0 [] [barA a,barA b] [] (.p (.int .i64 (cmpB a b))):=by
  refine csZ Tryz.func180 (fun c hc=>?_)
  by_cases h1:cmpI a.1 b.1=0
  · rw [show cmpB a b=cmpI a.2.1 b.2.1 by simp [cmpB,h1]]
    refine pkZ Tryz.func180 hc (p59b a b) ?_
    repeat' (first | exact aN | apply aI)
    all_goals (first | omega | rfl | (intros;first | assumption | exact trivial | rfl) | (exact con_compareInts _ _) | (simp [h1]))
  · rw [show cmpB a b=cmpI a.1 b.1 by simp [cmpB,h1]]
    refine pkZ Tryz.func180 hc (p59a a b) ?_
    repeat' (first | exact aN | apply aI)
    all_goals (first | omega | rfl | (intros;first | assumption | exact trivial | rfl) | (exact con_compareInts _ _) | (simp [h1]))
theorem cmpB_gt (a b:T_Bar):decide (cmpB a b>0)=!aft a b:=by
  simp only [cmpB,cmpI,aft]
  by_cases h1:a.1<b.1
  · simp [h1]
  · by_cases h2:a.1>b.1
    · have h3:¬ a.1=b.1:=by omega
      simp [h1,h2,h3]
    · have h3:a.1=b.1:=by omega
      simp only [h1,h2,h3,if_true,if_false]
      by_cases h4:a.2.1<b.2.1
      · have:a.2.1≤b.2.1:=by omega
        simp [h4,this]
      · by_cases h5:a.2.1>b.2.1
        · have:¬ a.2.1≤b.2.1:=by omega
          simp [h4,h5,this]
        · have:a.2.1≤b.2.1:=by omega
          simp [h4,h5,this]
theorem goodB_bad (N:Int) (g:Nat→T_Bar) (k:Nat) (h:badB N g k=true):∀ n,k<n→goodB N g n=false
  | 0,h'=>by omega
  | n+1,h'=>by
    by_cases e:k=n
    · subst e;simp [goodB,h]
    · simp [goodB,goodB_bad N g k h n (by omega)]
theorem idx_lt {b:Bool} {k n:Nat} (h:(b&&decide ((k:Int)>0))=true) (hk:k<n):0≤(k:Int) - 1∧(k:Int) - 1<n∧-9223372036854775808≤(k:Int) - 1∧(k:Int) - 1≤n:=by
  simp at h
  omega
theorem con_IsGraph_s (v:T_Graph) (hs:smS s_Graph v):Con Tryz.prog 53 0 [] [graphA v] [] (.p (.bool (isGraphF v))):=by
  refine csZ Tryz.func53 (fun c hc=>?_)
  have hn:v.2.1.1≤1048576:=hs.2.1.1
  by_cases hz:inB v.1 1 8=true∧v.2.1.1≤24
  · rw [show isGraphF v=goodB v.1 v.2.1.2 v.2.1.1 by rw [isGraphF,if_pos hz]]
    have lp:∀ m k,k+m=v.2.1.1→goodB v.1 v.2.1.2 k=true→Run Tryz.prog c 53 zf94 (S48 v k) (Post c [] (.p (.bool (goodB v.1 v.2.1.2 v.2.1.1)))):=by
      intro m
      induction m with
      | zero =>
        intro k hk hg
        rw [show goodB v.1 v.2.1.2 v.2.1.1=true by rw [show v.2.1.1=k by omega];exact hg]
        have hd:decide ((k:Int)<(v.2.1.1:Int))=false:=by simp;omega
        refine pkZ Tryz.func53 hc (p48d v k) ?_
        repeat' (first | exact aN | apply aI)
        all_goals (first | omega | rfl | (intros;first | assumption | exact trivial | rfl))
      | succ m ih =>
        intro k hk hg
        have hd:decide ((k:Int)<(v.2.1.1:Int))=true:=by simp;omega
        have hkn:k<v.2.1.1:=by omega
        cases he:badB v.1 v.2.1.2 k with
        | true =>
          rw [goodB_bad _ _ k he v.2.1.1 (by omega)]
          refine pkZ Tryz.func53 hc (p48c v k) ?_
          repeat' (first | exact aN | apply aI)
          all_goals (first | exact aG _ | omega | rfl | (intros;first | assumption | exact trivial | rfl | exact fT ‹_› | ((repeat' (first | assumption | apply anda | apply notf));done)) | (intros;exact con_l2After _ _) | (exact he) | (intro h;have:=idx_lt h hkn;omega))
        | false =>
          refine pcZ hc (p48b v k) ?_ (ih (k+1) (by omega) (by simp [goodB,hg,he]))
          repeat' (first | exact aN | apply aI)
          all_goals (first | exact aG _ | exact aP _ _ | omega | rfl | (intros;first | assumption | exact trivial | rfl | exact fT ‹_› | ((repeat' (first | assumption | apply anda | apply notf));done)) | (intros;exact con_l2After _ _) | (exact he) | (intro h;have:=idx_lt h hkn;omega) | (simp [All]))
    refine pcZ hc (p48a v) ?_ (lp v.2.1.1 0 (by omega) rfl)
    repeat' (first | exact aN | apply aI)
    all_goals (first | exact aG _ | exact aP _ _ | omega | rfl | (intros;first | assumption | exact trivial | rfl | exact fT ‹_› | ((repeat' (first | assumption | apply anda | apply notf));done)) | (exact con_l1In _ _ _) | (simp [hz.1];omega) | (simp [All]))
  · rw [show isGraphF v=false by rw [isGraphF,if_neg hz]]
    have hb:(bif !inB v.1 1 8 then true else decide ((v.2.1.1:Int)>24))=true:=by
      cases hi:inB v.1 1 8 with
      | false=>rfl
      | true =>
        have:¬ v.2.1.1≤24:=fun h=>hz ⟨hi,h⟩
        simp;omega
    refine pkZ Tryz.func53 hc (p48z v) ?_
    repeat' (first | exact aN | apply aI)
    all_goals (first | exact aG _ | omega | rfl | (intros;first | assumption | exact trivial | rfl | exact fT ‹_› | ((repeat' (first | assumption | apply anda | apply notf));done)) | (exact con_l1In _ _ _))
theorem con_IsGraph_i (v:T_Graph) (hs:smS s_Graph v):Con Tryz.prog 62 0 [] [graphA v] [] (.p (.bool (isGraphF v))):=by
  refine csZ Tryz.func62 (fun c hc=>?_)
  have hn:v.2.1.1≤1048576:=hs.2.1.1
  by_cases hz:inB v.1 1 8=true∧v.2.1.1≤24
  · rw [show isGraphF v=goodB v.1 v.2.1.2 v.2.1.1 by rw [isGraphF,if_pos hz]]
    have lp:∀ m k,k+m=v.2.1.1→goodB v.1 v.2.1.2 k=true→Run Tryz.prog c 62 zf95 (S51 v k) (Post c [] (.p (.bool (goodB v.1 v.2.1.2 v.2.1.1)))):=by
      intro m
      induction m with
      | zero =>
        intro k hk hg
        rw [show goodB v.1 v.2.1.2 v.2.1.1=true by rw [show v.2.1.1=k by omega];exact hg]
        have hd:decide ((k:Int)<(v.2.1.1:Int))=false:=by simp;omega
        refine pkZ Tryz.func62 hc (p51d v k) ?_
        repeat' (first | exact aN | apply aI)
        all_goals (first | omega | rfl | (intros;first | assumption | exact trivial | rfl))
      | succ m ih =>
        intro k hk hg
        have hd:decide ((k:Int)<(v.2.1.1:Int))=true:=by simp;omega
        have hkn:k<v.2.1.1:=by omega
        cases he:badB v.1 v.2.1.2 k with
        | true =>
          rw [goodB_bad _ _ k he v.2.1.1 (by omega)]
          have he2:=he
          rw [badB,← cmpB_gt] at he2
          refine pkZ Tryz.func62 hc (p51c v k) ?_
          repeat' (first | exact aN | apply aI)
          all_goals (first | exact aG _ | omega | rfl | (intros;first | assumption | exact trivial | rfl | exact fT ‹_› | ((repeat' (first | assumption | apply anda | apply notf));done)) | (intros;exact con_compareBars _ _) | (exact he2) | (intro h;have:=idx_lt h hkn;omega))
        | false =>
          have he2:=he
          rw [badB,← cmpB_gt] at he2
          refine pcZ hc (p51b v k) ?_ (ih (k+1) (by omega) (by simp [goodB,hg,he]))
          repeat' (first | exact aN | apply aI)
          all_goals (first | exact aG _ | exact aP _ _ | omega | rfl | (intros;first | assumption | exact trivial | rfl | exact fT ‹_› | ((repeat' (first | assumption | apply anda | apply notf));done)) | (intros;exact con_compareBars _ _) | (exact he2) | (intro h;have:=idx_lt h hkn;omega) | (simp [All]))
    refine pcZ hc (p51a v) ?_ (lp v.2.1.1 0 (by omega) rfl)
    repeat' (first | exact aN | apply aI)
    all_goals (first | exact aG _ | exact aP _ _ | omega | rfl | (intros;first | assumption | exact trivial | rfl | exact fT ‹_› | ((repeat' (first | assumption | apply anda | apply notf));done)) | (exact con_within _ _ _) | (simp [hz.1];omega) | (simp [All]))
  · rw [show isGraphF v=false by rw [isGraphF,if_neg hz]]
    have hb:(bif !inB v.1 1 8 then true else decide ((v.2.1.1:Int)>24))=true:=by
      cases hi:inB v.1 1 8 with
      | false=>rfl
      | true =>
        have:¬ v.2.1.1≤24:=fun h=>hz ⟨hi,h⟩
        simp;omega
    refine pkZ Tryz.func62 hc (p51z v) ?_
    repeat' (first | exact aN | apply aI)
    all_goals (first | exact aG _ | omega | rfl | (intros;first | assumption | exact trivial | rfl | exact fT ‹_› | ((repeat' (first | assumption | apply anda | apply notf));done)) | (exact con_within _ _ _))
end Go.Proofs.YtkkjoghiigiokaaGreat.Mach
namespace Go.Proofs
open Go Go.Shelf Go.RowKit Go.Lib Go.Sort
set_option linter.unusedVariables false
set_option linter.unusedSimpArgs false
shelf_lay_g SlLaysF0.n6 Slsf 6 at Tryz 312 as Tryz.sortBar
end Go.Proofs
namespace Go.Proofs.YtkkjoghiigiokaaGreat.Mach
open Go Go.Shelf Go.RowKit Go.Lib Go.Sort
set_option linter.unusedVariables false
set_option linter.unusedSimpArgs false
end Go.Proofs.YtkkjoghiigiokaaGreat.Mach
namespace Go.Proofs.YtkkjoghiigiokaaGreat.Mach
open Go
set_option linter.unusedVariables false
set_option linter.unusedSimpArgs false
def brOb (n:Nat) (h:Nat→T_Bar):Ob:=⟨false,2,n,fun i=>[.p (.int .i64 (h i).1),.p (.int .i64 (h i).2.1)]⟩
def snoc (n:Nat) (h:Nat→T_Bar) (x:T_Bar) (s:Nat):T_Bar:=(if s<n then (h s).1 else x.1,if s<n then (h s).2.1 else x.2.1,())
end Go.Proofs.YtkkjoghiigiokaaGreat.Mach
namespace Go.Proofs.YtkkjoghiigiokaaGreat.Mach
open Go Go.Sort
set_option linter.unusedVariables false
set_option linter.unusedSimpArgs false
theorem graph_inR {v:T_Graph} (h:isGraphF v=true):1≤v.1∧v.1≤8∧v.2.1.1≤24∧goodB v.1 v.2.1.2 v.2.1.1=true:=by
  unfold isGraphF at h
  split at h
  · rename_i h1
    simp only [inB,Bool.and_eq_true,decide_eq_true_eq] at h1
    exact ⟨h1.1.1,h1.1.2,h1.2,h⟩
  · cases h
theorem sm_graph {v:T_Graph} (h:v.2.1.1≤1048576):smS s_Graph v:=⟨by simp [smS,smL],⟨h,fun i hi=>by simp [smS,smL]⟩,True.intro⟩
end Go.Proofs.YtkkjoghiigiokaaGreat.Mach
namespace Go.Proofs.YtkkjoghiigiokaaGreat.Mach
open Go
set_option linter.unusedVariables false
set_option linter.unusedSimpArgs false
def OkBars (N nb:Nat) (g:Nat→T_Bar):Prop:=∀ e,e<nb→0≤(g e).1∧(g e).1<(g e).2.1∧(g e).2.1<N
theorem goodB_in (N:Int) (g:Nat→T_Bar):∀ n,goodB N g n=true→∀ e,e<n→badB N g e=false
  | 0,_,e,he=>by omega
  | n+1,h,e,he=>by
    simp only [goodB,Bool.and_eq_true,Bool.not_eq_true'] at h
    by_cases h':e=n
    · subst h';exact h.2
    · exact goodB_in N g n h.1 e (by omega)
theorem graph_in {N nb:Nat} {g:Nat→T_Bar} (h:isGraphF ((N:Int),(nb,g),())=true):(1≤N∧N≤8)∧nb≤24∧OkBars N nb g:=by
  unfold isGraphF at h
  split at h
  case isFalse=>cases h
  rename_i hc
  obtain ⟨h1,h2⟩:=hc
  simp only [inB,Bool.and_eq_true,decide_eq_true_eq] at h1
  refine ⟨by omega,h2,fun e he=>?_⟩
  have hb:=goodB_in (N:Int) g nb h e he
  unfold badB at hb
  by_cases a1:(g e).1<0
  · simp [a1] at hb
  by_cases a2:(g e).1≥(g e).2.1
  · simp [a2] at hb
  by_cases a3:(g e).2.1≥(N:Int)
  · simp [a3] at hb
  omega
end Go.Proofs.YtkkjoghiigiokaaGreat.Mach
namespace Go.Proofs.YtkkjoghiigiokaaGreat.Mach
open Go
set_option linter.unusedVariables false
set_option linter.unusedSimpArgs false
def gzA (g:Nat→T_Bar) (nb:Nat) (N:Int):AV:=.agg [.p (.int .i64 N),brL g nb]
def gzO (g:Nat→T_Bar) (nb:Nat) (N:Int):Ob:=⟨true,2,1,fun _=>[.p (.int .i64 N),brL g nb]⟩
def isG (g:Nat→T_Bar) (nb:Nat) (N:Int):Bool:=isGraphF (N,(nb,g),())
theorem isG_in {g:Nat→T_Bar} {nb:Nat} {N:Int} (h:isG g nb N=true):(1≤N∧N≤8)∧nb≤24∧∀ e,e<nb→0≤(g e).1∧(g e).1<(g e).2.1∧(g e).2.1<N:=by
  unfold isG at h
  have hN:1≤N:=by
    unfold isGraphF at h
    split at h
    case isFalse=>cases h
    rename_i hc
    have h4:=hc.1
    simp only [inB,Bool.and_eq_true,decide_eq_true_eq] at h4
    exact h4.1
  obtain ⟨M,rfl⟩:∃ M:Nat,N=M:=⟨N.toNat,by omega⟩
  obtain ⟨h1,h2,h3⟩:=graph_in h
  exact ⟨by omega,h2,h3⟩
theorem smG (g:Nat→T_Bar) (nb:Nat) (N:Int) (h:nb≤1048576):smS s_Graph (N,(nb,g),()):=⟨by simp [smS,smL],⟨h,fun i hi=>by simp [smS,smL]⟩,True.intro⟩
end Go.Proofs.YtkkjoghiigiokaaGreat.Mach
namespace Go.Proofs.YtkkjoghiigiokaaGreat.Mach
open Go
set_option linter.unusedVariables false
set_option linter.unusedSimpArgs false
def joinB (by_:ByteArray) (f:Nat→ByteArray):Nat→ByteArray
  | 0=>sE
  | n+1=>(if 0<n then joinB by_ f n++by_ else joinB by_ f n)++f n
theorem joinB_0 (by_:ByteArray) (f:Nat→ByteArray):joinB by_ f 0=sE:=rfl
theorem joinB_pos (by_:ByteArray) (f:Nat→ByteArray) {n:Nat} (h:0<n):joinB by_ f (n+1)=(joinB by_ f n++by_)++f n:=by simp [joinB,h]
theorem joinB_one (by_:ByteArray) (f:Nat→ByteArray):joinB by_ f (0+1)=sE++f 0:=rfl
theorem joinB_size (by_:ByteArray) (f:Nat→ByteArray) (B:Nat):∀ n,(∀ i,i<n→(f i).size≤B)→(joinB by_ f n).size≤n*(B+by_.size)
  | 0,_=>(Nat.zero_le _:0≤_)
  | n+1,h=>by
    have ih:=joinB_size by_ f B n (fun i hi=>h i (by omega))
    have:=h n (by omega)
    simp only [joinB]
    rw [Nat.add_mul,ByteArray.size_append]
    split
    · rw [ByteArray.size_append];omega
    · omega
theorem sE_app (s:ByteArray):sE++s=s:=ByteArray.empty_append
theorem app_sE (s:ByteArray):s++sE=s:=ByteArray.append_empty
theorem str_nil (s:ByteArray):(s.toList==(ByteArray.mk #[]).toList)=decide (s.size=0):=by
  rw [ByteArray.toList_eq,ByteArray.toList_eq]
  rw [Bool.eq_iff_iff]
  simp only [beq_iff_eq,decide_eq_true_eq]
  constructor
  · intro h
    show s.data.size=0
    rw [← Array.length_toList,h];rfl
  · intro h
    have:s.data.toList.length=0:=by rw [Array.length_toList];exact h
    rw [List.length_eq_zero_iff.1 this]
theorem fmt_pos (n:Int):0<(fmtI n).size:=by
  unfold fmtI
  split
  · simp [bs_size]
  · rename_i h
    rw [bs_size,fmtL,List.length_reverse,List.length_append]
    have:0<(dg 20 n.natAbs).length:=by
      rw [dg,if_neg (by omega)];simp
    omega
theorem con_glued (n:Nat) (f:Nat→ByteArray) (by_:ByteArray) (B:Nat) (hn:n≤1048577) (hB:B≤1099511627776) (hby:by_.size≤1000) (hf:∀ i,i<n→(f i).size≤B) :
    Con Tryz.prog 218 0 [] [strL n f,.p (.str by_)] [] (.p (.str (joinB by_ f n))):=by
  have hsz:∀ k,k≤n→(joinB by_ f k).size≤1048577*1099511628776:=by
    intro k hk
    have h1:=joinB_size by_ f B k (fun i hi=>hf i (by omega))
    have h2:k*(B+by_.size)≤1048577*1099511628776:=Nat.mul_le_mul (by omega) (by omega)
    omega
  refine csZ Tryz.func218 (fun c hc=>?_)
  have lo:∀ d k,k+d=n→Run Tryz.prog c 218 zf71 (SJ n f by_ k (joinB by_ f k)) (Post c [] (.p (.str (joinB by_ f n)))):=by
    intro d
    induction d with
    | zero =>
      intro k hk
      obtain rfl:k=n:=by omega
      have hd:decide ((k:Int)<(k:Int))=false:=by simp
      refine pkZ Tryz.func218 hc (jJe k f by_ k _) ?_
      repeat' (first | exact aN | apply aI)
      all_goals (first | omega | rfl | (intros;first | assumption | exact trivial | rfl) | (exact hd))
    | succ d ih =>
      intro k hk
      have hd:decide ((k:Int)<(n:Int))=true:=decide_eq_true (by omega)
      have hrec:=ih (k+1) (by omega)
      have h1:=hsz k (by omega)
      have h2:=hf k (by omega)
      by_cases h0:0<k
      · have hg:decide ((k:Int)>0)=true:=decide_eq_true (by omega)
        rw [joinB_pos by_ f h0] at hrec
        generalize joinB by_ f k=s at hrec h1 ⊢
        refine pcZ hc (jJt n f by_ k s) ?_ hrec
        repeat' (first | exact aN | apply aI)
        all_goals (first | exact aP _ _ | omega | rfl | (intros;first | assumption | exact trivial | rfl) | (exact hd) | (exact hg) | (rw [ByteArray.size_append];omega) | (simp;omega))
      · obtain rfl:k=0:=by omega
        have hg:decide (((0:Nat):Int)>0)=false:=by simp
        rw [joinB_one] at hrec
        rw [joinB_0] at h1 ⊢
        refine pcZ hc (jJf n f by_ 0 sE) ?_ hrec
        repeat' (first | exact aN | apply aI)
        all_goals (first | exact aP _ _ | omega | rfl | (intros;first | assumption | exact trivial | rfl) | (exact hd) | (exact hg) | (simp;omega))
  refine pcZ hc (jJz n f by_) ?_ (lo n 0 (by omega))
  repeat' (first | exact aN | apply aI)
  all_goals (first | exact aP _ _ | omega | rfl | (intros;first | assumption | exact trivial | rfl) | (simp;omega))
def In64 (v:T_IntS):Prop:=∀ i,i<v.1→-9223372036854775808≤v.2 i∧v.2 i≤9223372036854775807
def nmB (v:T_IntS):ByteArray:=joinB sC (fun i=>fmtI (v.2 i)) v.1
def nlB (v:T_IntS):ByteArray:=if v.1=0 then sNone else nmB v
theorem sC_size:sC.size=1:=rfl
theorem nmB_size (v:T_IntS):(nmB v).size≤v.1*22:=joinB_size sC _ 21 v.1 (fun i hi=>fmt_size _)
theorem nmB_pos (v:T_IntS) (h:v.1≠0):0<(nmB v).size:=by
  obtain ⟨n,f⟩:=v
  cases n with
  | zero=>exact absurd rfl h
  | succ n =>
    show 0<(joinB sC (fun i=>fmtI (f i)) (n+1)).size
    simp only [joinB]
    rw [ByteArray.size_append]
    have:=fmt_pos (f n)
    omega
theorem con_numbers (v:T_IntS) (hn:v.1≤1048576) (hv:In64 v):Con Tryz.prog 219 0 [] [inL v] [] (.p (.str (nmB v))):=by
  have cg:=con_glued v.1 (fun i=>fmtI (v.2 i)) sC 21 (by omega) (by omega) (by rw [sC_size];omega) (fun i hi=>fmt_size _)
  refine csZ Tryz.func219 (fun c hc=>?_)
  have lo:∀ d k,k+d=v.1→Run Tryz.prog c 219 zf72 (SNm v k (fun i=>fmtI (v.2 i))) (Post c [] (.p (.str (nmB v)))):=by
    intro d
    induction d with
    | zero =>
      intro k hk
      obtain rfl:k=v.1:=by omega
      have hd:decide ((v.1:Int)<(v.1:Int))=false:=by simp
      refine pkZ Tryz.func219 hc (jNe v v.1 (fun i=>fmtI (v.2 i)) (nmB v)) ?_
      repeat' (first | exact aN | apply aI)
      all_goals (first | omega | rfl | (intros;first | assumption | exact trivial | rfl) | (exact hd) | (exact cg) | (intro t ht;simp [All]))
    | succ d ih =>
      intro k hk
      have hd:decide ((k:Int)<(v.1:Int))=true:=decide_eq_true (by omega)
      have hvk:=hv k (by omega)
      have cf:=con_FormatInt_i (v.2 k) hvk.1 hvk.2
      refine pcZ hc (jNt v k (fun i=>fmtI (v.2 i)) (fmtI (v.2 k))) ?_ (ih (k+1) (by omega))
      repeat' (first | exact aN | apply aI)
      all_goals (first | exact aP _ _ | omega | rfl | (intros;first | assumption | exact trivial | rfl) | (exact hd) | (exact cf) | (intro t ht;rcases Nat.lt_or_eq_of_le (Nat.le_of_lt_succ ht) with h' | h'<;>(simp [h',cvtL,cvt,tg,tru,All];done)) | (simp;omega))
  refine pcZ hc (jNz v (fun i=>fmtI (v.2 i))) ?_ (lo v.1 0 (by omega))
  repeat' (first | exact aN | apply aI)
  all_goals (first | exact aP _ _ | omega | rfl | (intros;first | assumption | exact trivial | rfl) | (intro t ht;exact absurd ht (Nat.not_lt_zero _)) | (intro t ht;simp [All]) | (simp;omega) | (simp only [All];first | exact aP _ _ | omega | rfl | (intros;first | assumption | exact trivial | rfl) | (intro t ht;exact absurd ht (Nat.not_lt_zero _)) | (intro t ht;simp [All]) | (simp;omega)))
theorem con_listed (v:T_IntS) (hn:v.1≤1048576) (hv:In64 v):Con Tryz.prog 111 0 [] [inL v] [] (.p (.str (nlB v))):=by
  have cn:=con_numbers v hn hv
  refine csZ Tryz.func111 (fun c hc=>?_)
  by_cases h0:v.1=0
  · have hd:((v.1:Int)==0)=true:=by rw [h0];rfl
    rw [show nlB v=sNone by simp [nlB,h0]]
    refine pkZ Tryz.func111 hc (jLn v) ?_
    repeat' (first | exact aN | apply aI)
    all_goals (first | omega | rfl | (intros;first | assumption | exact trivial | rfl) | (exact hd))
  · have hd:((v.1:Int)==0)=false:=beq_eq_false_iff_ne.2 (by omega)
    rw [show nlB v=nmB v by simp [nlB,h0]]
    refine pkZ Tryz.func111 hc (jLy v (nmB v)) ?_
    repeat' (first | exact aN | apply aI)
    all_goals (first | omega | rfl | (intros;first | assumption | exact trivial | rfl) | (exact hd) | (exact cn))
theorem con_l33Numbers (v:T_IntS) (hn:v.1≤1048576) (hv:In64 v):Con Tryz.prog 103 0 [] [inL v] [] (.p (.str (nlB v))):=by
  refine csZ Tryz.func103 (fun c hc=>?_)
  let f:Nat→ByteArray:=fun i=>fmtI (v.2 i)
  have hsz:∀ k,(joinB sC f k).size≤k*22:=fun k=>joinB_size sC f 21 k (fun i hi=>fmt_size _)
  have lo:∀ d k,k+d=v.1→Run Tryz.prog c 103 zf73 (SNl v k (joinB sC f k)) (Post c [] (.p (.str (nlB v)))):=by
    intro d
    induction d with
    | zero =>
      intro k hk
      obtain rfl:k=v.1:=by omega
      have hd:decide ((v.1:Int)<(v.1:Int))=false:=by simp
      have hs:=str_nil (joinB sC f v.1)
      by_cases h0:v.1=0
      · rw [show nlB v=sNone by simp [nlB,h0]]
        rw [decide_eq_true (by rw [h0];rfl)] at hs
        refine pkZ Tryz.func103 hc (jMn v v.1 _) ?_
        repeat' (first | exact aN | apply aI)
        all_goals (first | omega | rfl | (intros;first | assumption | exact trivial | rfl) | (exact hd) | (exact hs))
      · rw [show nlB v=joinB sC f v.1 by simp only [nlB,h0,if_false];rfl]
        have hp:0<(joinB sC f v.1).size:=nmB_pos v h0
        rw [decide_eq_false (by omega)] at hs
        refine pkZ Tryz.func103 hc (jMe v v.1 _) ?_
        repeat' (first | exact aN | apply aI)
        all_goals (first | omega | rfl | (intros;first | assumption | exact trivial | rfl) | (exact hd) | (exact hs))
    | succ d ih =>
      intro k hk
      have hd:decide ((k:Int)<(v.1:Int))=true:=decide_eq_true (by omega)
      have hrec:=ih (k+1) (by omega)
      have hvk:=hv k (by omega)
      have cf:=con_FormatInt_s (v.2 k) hvk.1 hvk.2
      have h1:=hsz k
      have h2:=fmt_size (v.2 k)
      by_cases h0:0<k
      · have hg:decide ((k:Int)>0)=true:=decide_eq_true (by omega)
        rw [joinB_pos sC f h0] at hrec
        generalize joinB sC f k=s at hrec h1 ⊢
        refine pcZ hc (jMt v k s (fmtI (v.2 k))) ?_ hrec
        repeat' (first | exact aN | apply aI)
        all_goals (first | exact aP _ _ | omega | rfl | (intros;first | assumption | exact trivial | rfl) | (exact hd) | (exact hg) | (exact cf) | (show s.size+1≤_;omega) | (rw [ByteArray.size_append];show s.size+1+_≤_;omega) | (simp;omega))
      · obtain rfl:k=0:=by omega
        have hg:decide (((0:Nat):Int)>0)=false:=by simp
        rw [joinB_one] at hrec
        rw [joinB_0] at h1 ⊢
        refine pcZ hc (jMf v 0 sE (fmtI (v.2 0))) ?_ hrec
        repeat' (first | exact aN | apply aI)
        all_goals (first | exact aP _ _ | omega | rfl | (intros;first | assumption | exact trivial | rfl) | (exact hd) | (exact hg) | (exact cf) | (show 0+_≤_;omega) | (simp;omega))
  refine pcZ hc (jMz v) ?_ (lo v.1 0 (by omega))
  repeat' (first | exact aN | apply aI)
  all_goals (first | exact aP _ _ | omega | rfl | (intros;first | assumption | exact trivial | rfl) | (simp;omega))
def prB (s:ByteArray) (f:Nat→ByteArray) (i:Nat):ByteArray:=if i<1 then s else f (i - 1)
theorem con_line (n:Nat) (f:Nat→ByteArray) (B:Nat) (hn:n≤1048577) (hB:B≤1099511627776) (hf:∀ i,i<n→(f i).size≤B):Con Tryz.prog 108 0 [] [strL n f] [] (.p (.str (joinB sSp f n))):=by
  have cg:=con_glued n f sSp B hn hB (by show 1≤1000;omega) hf
  refine csZ Tryz.func108 (fun c hc=>?_)
  refine pkZ Tryz.func108 hc (jKl n f _) ?_
  repeat' (first | exact aN | apply aI)
  all_goals (first | omega | rfl | (intros;first | assumption | exact trivial | rfl) | (exact cg))
def soB (s:ByteArray) (is:Bool) (n:Nat) (f:Nat→ByteArray):ByteArray:=if is=true then joinB sSp (prB s f) (1+n) else s
theorem con_ifSo (s:ByteArray) (is:Bool) (n:Nat) (f:Nat→ByteArray) (B:Nat) (hn:n≤1048576) (hB:B≤1099511627776) (hs:s.size≤B) (hf:∀ i,i<n→(f i).size≤B) :
    Con Tryz.prog 114 0 [] [.p (.str s),.p (.bool is),strL n f] [] (.p (.str (soB s is n f))):=by
  refine csZ Tryz.func114 (fun c hc=>?_)
  cases is with
  | false =>
    rw [show soB s false n f=s by simp [soB]]
    refine pkZ Tryz.func114 hc (jSn s n f) ?_
    repeat' (first | exact aN | apply aI)
    all_goals (first | omega | rfl | (intros;first | assumption | exact trivial | rfl) | rfl)
  | true =>
    rw [show soB s true n f=joinB sSp (prB s f) (1+n) by simp [soB]]
    have cl:=con_line (1+n) (prB s f) B (by omega) hB (fun i hi=>by
      unfold prB
      split
      · exact hs
      · exact hf _ (by omega))
    have e:(.p (.seq true 1 (1+n) (fun i=>[cellP true (if i<1 then [.p (.str s)] else [.p (.str (f (i - 1)))]) 0])):AV)=strL (1+n) (prB s f):=by
      unfold strL prB
      congr 2
      funext i
      by_cases h:i<1<;>simp [h,cellP,tg,tru]
    rw [← e] at cl
    refine pkZ Tryz.func114 hc (jSy s _ n f) ?_
    repeat' (first | exact aN | apply aI)
    all_goals (first | omega | rfl | (intros;first | assumption | exact trivial | rfl) | rfl | (exact cl) | (simp;omega))
def yesB (b:Bool) (s:ByteArray):ByteArray:=if b=true then s else sE
theorem con_l34Yes (b:Bool) (s:ByteArray):Con Tryz.prog 122 0 [] [.p (.bool b),.p (.str s)] [] (.p (.str (yesB b s))):=by
  refine csZ Tryz.func122 (fun c hc=>?_)
  cases b with
  | false =>
    refine pkZ Tryz.func122 hc (jYn s) ?_
    repeat' (first | exact aN | apply aI)
    all_goals (first | omega | rfl | (intros;first | assumption | exact trivial | rfl) | rfl)
  | true =>
    refine pkZ Tryz.func122 hc (jYy s) ?_
    repeat' (first | exact aN | apply aI)
    all_goals (first | omega | rfl | (intros;first | assumption | exact trivial | rfl) | rfl)
end Go.Proofs.YtkkjoghiigiokaaGreat.Mach
namespace Go.Proofs.YtkkjoghiigiokaaGreat.Mach
open Go
set_option linter.unusedVariables false
set_option linter.unusedSimpArgs false
theorem rHas (g:Nat→T_Bar) (nb N:Nat) (p:Int) :
    pathOb Tryz.prog Tryz.f205 0 [rg 2,rm [(4,oc [] (.p (.bool (inB p 0 ((N:Int) - 1)))))] 1] [.code (bodyOf Tryz.f205)] (start Tryz.f205 [] 0 [grG g nb N,.p (.int .i64 p)]) [] 1 [] (.p (.bool (inB p 0 ((N:Int) - 1)))) =
    some [(NT 0 1),(ZLo ((↑N:Int) - 1)),(ZHi ((↑N:Int) - 1)),Con Tryz.prog 179 0 [] [.p (.int .i64 p),.p (.int .i64 0),.p (.int .i64 ((↑N:Int) - 1))] [] (.p (.bool (inB p 0 ((↑N:Int) - 1)))),((inB p 0 ((↑N:Int) - 1))=(inB p 0 ((↑N:Int) - 1)))]:=by kernel_rfl
end Go.Proofs.YtkkjoghiigiokaaGreat.Mach
namespace Go.Proofs.YtkkjoghiigiokaaGreat.Mach
open Go
set_option linter.unusedVariables false
set_option linter.unusedSimpArgs false
theorem con_has {N nb:Nat} {g:Nat→T_Bar} (hN:1≤N∧N≤8) {p:Int} (hp:0≤p∧p<N):Con Tryz.prog 205 0 [] [grG g nb N,.p (.int .i64 p)] [] (.p (.bool true)):=by
  have hw:=con_within p 0 ((N:Int) - 1)
  have ht:inB p 0 ((N:Int) - 1)=true:=by simp [inB];omega
  rw [show (true:Bool)=inB p 0 ((N:Int) - 1) from ht.symm]
  refine csZ Tryz.func205 (fun c hc=>?_)
  refine pkZ Tryz.func205 hc (rHas g nb N p) ?_
  repeat' (first | exact aN | apply aI)
  all_goals (first | omega | rfl | (intros;first | assumption | exact trivial | rfl) | (exact hw))
end Go.Proofs.YtkkjoghiigiokaaGreat.Mach
namespace Go.Proofs.YtkkjoghiigiokaaGreat.Mach
open Go
set_option linter.unusedVariables false
set_option linter.unusedSimpArgs false
def pcL (pl:Nat→T_Place) (np:Nat):AV:=.p (.seq true 2 np (fun i=>[.int .i64 (pl i).1,.int .i64 (pl i).2.1]))
def frA (g:Nat→T_Bar) (nb:Nat) (N:Int) (pl:Nat→T_Place) (np:Nat):AV:=.agg [.p (.int .i64 N),brL g nb,pcL pl np]
def frO (g:Nat→T_Bar) (nb:Nat) (N:Int) (pl:Nat→T_Place) (np:Nat):Ob:=⟨true,3,1,fun _=>[.p (.int .i64 N),brL g nb,pcL pl np]⟩
def tsA (g:Nat→T_Bar) (nb:Nat) (N:Int) (pl:Nat→T_Place) (np:Nat) (w:T_IntS):AV:=.agg [.p (.int .i64 N),brL g nb,pcL pl np,inL w]
def tsO (g:Nat→T_Bar) (nb:Nat) (N:Int) (pl:Nat→T_Place) (np:Nat) (w:T_IntS):Ob:=⟨true,4,1,fun _=>[.p (.int .i64 N),brL g nb,pcL pl np,inL w]⟩
def FI0 (g:Nat→T_Bar) (nb:Nat) (N:Int) (pl:Nat→T_Place) (np:Nat) (i:Nat):St :=
  ⟨[frA g nb N pl np,.pt 3 0 0 0,.p .any,.pt 2 1 0 0]++List.replicate 29 anyA++[pcL pl np,.p (.int .i64 np),.p (.int .i64 i)]++List.replicate 43 anyA,[(0,frO g nb N pl np),(1,gzO g nb N)],2⟩
def FI1 (g:Nat→T_Bar) (nb:Nat) (N:Int) (pl:Nat→T_Place) (np:Nat) (i:Nat):St :=
  ⟨[frA g nb N pl np,.pt 3 0 0 0,.p .any,.pt 2 1 0 0]++List.replicate 40 anyA++[brL g nb,.p (.int .i64 nb),.p (.int .i64 i)]++List.replicate 32 anyA,[(0,frO g nb N pl np),(1,gzO g nb N)],2⟩
def FJ0 (g:Nat→T_Bar) (nb:Nat) (N:Int) (pl:Nat→T_Place) (np:Nat) (i:Nat):St :=
  ⟨[frA g nb N pl np,.pt 3 0 0 0,.p .any,.p (.int .i64 i)]++List.replicate 95 anyA,[(0,frO g nb N pl np)],1⟩
def FJ1 (g:Nat→T_Bar) (nb:Nat) (N:Int) (pl:Nat→T_Place) (np:Nat) (i:Nat):St :=
  ⟨[frA g nb N pl np,.pt 3 0 0 0,.p .any,.p .any,.p (.int .i64 i)]++List.replicate 94 anyA,[(0,frO g nb N pl np)],1⟩
def FT0 (g:Nat→T_Bar) (nb:Nat) (N:Int) (pl:Nat→T_Place) (np:Nat) (w:T_IntS) (i:Nat):St :=
  ⟨[tsA g nb N pl np w,.pt 4 0 0 0,.p .any,.p .any,.p .any,.p .any,inL w,.p (.int .i64 w.1),.p (.int .i64 i)]++List.replicate 21 anyA,[(0,tsO g nb N pl np w)],1⟩
def FU0 (g:Nat→T_Bar) (nb:Nat) (N:Int) (pl:Nat→T_Place) (np:Nat) (w:T_IntS) (i:Nat):St :=
  ⟨[tsA g nb N pl np w,.pt 4 0 0 0,.p .any,.p (.int .i64 i)]++List.replicate 28 anyA,[(0,tsO g nb N pl np w)],1⟩
def FKi (w:T_IntS) (i:Nat) (s:ByteArray):St :=
  ⟨[inL w,.p .any,.p .any,.p (.str s),.p .any,.p .any,inL w,.p (.int .i64 w.1),.p (.int .i64 i)]++List.replicate 13 anyA,[],0⟩
def FKs (w:T_IntS) (i:Nat) (s:ByteArray):St :=
  ⟨[inL w,.p .any,.p .any,.p (.str s),.p (.int .i64 i)]++List.replicate 23 anyA,[],0⟩
theorem yPl (a b:Int) (p q:Bool) :
    pathOb Tryz.prog Tryz.f233 0 [rg 2,rm [(2,oc [] (.p (.bool p))),(3,oc [] (.p (.bool q)))] 2] [.code (bodyOf Tryz.f233)] (start Tryz.f233 [] 0 [.agg [.p (.int .i64 a),.p (.int .i64 b)]]) [] 1 [] (.p (.bool (bif p then q else false))) =
    some [(NT 0 1),Con Tryz.prog 179 0 [] [.p (.int .i64 a),.p (.int .i64 0),.p (.int .i64 4)] [] (.p (.bool p)),(AG p),((p=true)→(NT 0 1)),(AG p),((p=true)→ Con Tryz.prog 179 0 [] [.p (.int .i64 b),.p (.int .i64 0),.p (.int .i64 4)] [] (.p (.bool q))),(AG p),((bif p then q else false)=(bif p then q else false))]:=by kernel_rfl
theorem yI0 (g:Nat→T_Bar) (nb:Nat) (N:Int) (pl:Nat→T_Place) (np:Nat) (a:Bool) :
    pathOb Tryz.prog Tryz.f128 0 [rg 2,rg 4,rm [(1,oc [] (.p (.bool a)))] 20,.dec true,rg 1] [.code (bodyOf Tryz.f128)] (start Tryz.f128 [] 0 [frA g nb N pl np]) [] 1 [] (.p (.bool false)) =
    some [(NT 0 1),(NT 0 1),((true=true)→ (AN 1)),(NT 0 1),Con Tryz.prog 62 0 [] [(zf118 N nb g)] [] (.p (.bool a)),(AG (!!a)),(((!!a)=true)→(NT 0 1)),(AG (!!a)),(((!a)=false)→ ((!!a)=true)),(AG (!bif !a then true else decide (N>6))),(((!bif !a then true else decide (N>6))=true)→(NT 0 1)),(AG (!bif !a then true else decide (N>6))),(AG (!bif !a then true else decide (N>6))),(((bif !a then true else decide (N>6))=false)→ ((!bif !a then true else decide (N>6))=true)),(AG (!bif bif !a then true else decide (N>6) then true else decide ((↑nb:Int)>15))),(((!bif bif !a then true else decide (N>6) then true else decide ((↑nb:Int)>15))=true)→(NT 0 1)),(AG (!bif bif !a then true else decide (N>6) then true else decide ((↑nb:Int)>15))),(AG (!bif bif !a then true else decide (N>6) then true else decide ((↑nb:Int)>15))),(((!bif bif !a then true else decide (N>6) then true else decide ((↑nb:Int)>15))=true)→(NT 0 1)),(AG (!bif bif !a then true else decide (N>6) then true else decide ((↑nb:Int)>15))),(AG (!bif bif !a then true else decide (N>6) then true else decide ((↑nb:Int)>15))),(((bif bif !a then true else decide (N>6) then true else decide ((↑nb:Int)>15))=false)→ ((!bif bif !a then true else decide (N>6) then true else decide ((↑nb:Int)>15))=true)),((bif bif bif !a then true else decide (N>6) then true else decide ((↑nb:Int)>15) then true else (↑np:Int) != N)=true),(false=false)]:=by kernel_rfl
theorem yIz (g:Nat→T_Bar) (nb:Nat) (N:Int) (pl:Nat→T_Place) (np:Nat) (a:Bool) :
    pieceOb Tryz.prog 0 [rg 2,rg 4,rm [(1,oc [] (.p (.bool a)))] 20,.dec false,rg 4,.head] [.code (bodyOf Tryz.f128)] (start Tryz.f128 [] 0 [frA g nb N pl np]) [0,128] 1 (FI0 g nb N pl np 0) =
    some (zf55,[(NT 0 1),(NT 0 1),((true=true)→ (AN 1)),(NT 0 1),Con Tryz.prog 62 0 [] [(zf118 N nb g)] [] (.p (.bool a)),(AG (!!a)),(((!!a)=true)→(NT 0 1)),(AG (!!a)),(((!a)=false)→ ((!!a)=true)),(AG (!bif !a then true else decide (N>6))),(((!bif !a then true else decide (N>6))=true)→(NT 0 1)),(AG (!bif !a then true else decide (N>6))),(AG (!bif !a then true else decide (N>6))),(((bif !a then true else decide (N>6))=false)→ ((!bif !a then true else decide (N>6))=true)),(AG (!bif bif !a then true else decide (N>6) then true else decide ((↑nb:Int)>15))),(((!bif bif !a then true else decide (N>6) then true else decide ((↑nb:Int)>15))=true)→(NT 0 1)),(AG (!bif bif !a then true else decide (N>6) then true else decide ((↑nb:Int)>15))),(AG (!bif bif !a then true else decide (N>6) then true else decide ((↑nb:Int)>15))),(((!bif bif !a then true else decide (N>6) then true else decide ((↑nb:Int)>15))=true)→(NT 0 1)),(AG (!bif bif !a then true else decide (N>6) then true else decide ((↑nb:Int)>15))),(AG (!bif bif !a then true else decide (N>6) then true else decide ((↑nb:Int)>15))),(((bif bif !a then true else decide (N>6) then true else decide ((↑nb:Int)>15))=false)→ ((!bif bif !a then true else decide (N>6) then true else decide ((↑nb:Int)>15))=true)),((bif bif bif !a then true else decide (N>6) then true else decide ((↑nb:Int)>15) then true else (↑np:Int) != N)=false),(NT 0 1),(AI N),(AN nb),(AP nb (bRw g)),(AN np),(AP np (bRw pl)),(AN 0),(AN 0),(AN np),(AP np (bRw pl)),(AI ((↑np:Int))),((0:Int)=(↑0:Int)),((([AV.p (PV.int IntKind.i64 N),brL g nb,pcL pl np].length):Nat)=3),(NL 1 1),(NL 1 1),(AI N),(AN nb),(AP nb (bRw g)),(AN np),(AP np (bRw pl)),((((List.map (fun v=>AV.p (absV v)) [Value.int IntKind.i64 0,Value.slice none 0 0]).length):Nat)=2),(NL 1 1),(NL 1 1),(AI N),(AN nb),(AP nb (bRw g))]):=by kernel_rfl
theorem yIt (g:Nat→T_Bar) (nb:Nat) (N:Int) (pl:Nat→T_Place) (np:Nat) (i:Nat) :
    pieceOb Tryz.prog 0 [rg 1,.dec true,rg 4,rm [(1,oc [] (.p (.bool true)))] 1,.dec false,rg 2,.head] zf55 (FI0 g nb N pl np i) [0,1] 1 (FI0 g nb N pl np (i+1)) =
    some (zf55,[((decide ((↑i:Int)<(↑np:Int)))=true),(IL 0 (↑i:Int)),(IT (↑i:Int) (↑np:Int)),(NT 0 1),((true=true)→ (AN 1)),(NT 0 1),Con Tryz.prog 233 0 [] [.agg [.p (.int .i64 ((pl i).1)),.p (.int .i64 ((pl i).2.1))]] [] (.p (.bool true)),((!true)=false),(ZLo ((↑i:Int)+1)),(ZHi ((↑i:Int)+1)),(AI N),(AN nb),(AP nb (bRw g)),(AN np),(AP np (bRw pl)),(AN 0),(AN 0),(AN np),(AP np (bRw pl)),(AI ((↑np:Int))),((((↑i:Int)+1):Int)=(↑(i+1):Int)),(AN 3),(NL 1 1),(NL 1 1),(AI N),(AN nb),(AP nb (bRw g)),(AN np),(AP np (bRw pl)),(AN 2),(NL 1 1),(NL 1 1),(AI N),(AN nb),(AP nb (bRw g))]):=by kernel_rfl
theorem yIx (g:Nat→T_Bar) (nb:Nat) (N:Int) (pl:Nat→T_Place) (np:Nat) (i:Nat) :
    pathOb Tryz.prog Tryz.f128 0 [rg 1,.dec true,rg 4,rm [(1,oc [] (.p (.bool false)))] 1,.dec true,rg 1] zf55 (FI0 g nb N pl np i) [] 1 [] (.p (.bool false)) =
    some [((decide ((↑i:Int)<(↑np:Int)))=true),(IL 0 (↑i:Int)),(IT (↑i:Int) (↑np:Int)),(NT 0 1),((true=true)→ (AN 1)),(NT 0 1),Con Tryz.prog 233 0 [] [.agg [.p (.int .i64 ((pl i).1)),.p (.int .i64 ((pl i).2.1))]] [] (.p (.bool false)),((!false)=true),(false=false)]:=by kernel_rfl
theorem yIn (g:Nat→T_Bar) (nb:Nat) (N:Int) (pl:Nat→T_Place) (np:Nat) (i:Nat) :
    pieceOb Tryz.prog 0 [rg 1,.dec false,rg 4,.head] zf55 (FI0 g nb N pl np i) [0,1] 1 (FI1 g nb N pl np 0) =
    some (zf47,[((decide ((↑i:Int)<(↑np:Int)))=false),(NT 0 1),(AI N),(AN nb),(AP nb (bRw g)),(AN np),(AP np (bRw pl)),(AN 0),(AN 0),(AN nb),(AP nb (bRw g)),(AI ((↑nb:Int))),((0:Int)=(↑0:Int)),(AN 3),(NL 1 1),(NL 1 1),(AI N),(AN nb),(AP nb (bRw g)),(AN np),(AP np (bRw pl)),(AN 2),(NL 1 1),(NL 1 1),(AI N),(AN nb),(AP nb (bRw g))]):=by kernel_rfl
theorem yIb (g:Nat→T_Bar) (nb:Nat) (N:Int) (pl:Nat→T_Place) (np:Nat) (i:Nat) :
    pieceOb Tryz.prog 0 [rg 1,.dec true,rg 6,rg 27,.dec false,rg 2,.head] zf47 (FI1 g nb N pl np i) [0,1] 1 (FI1 g nb N pl np (i+1)) =
    some (zf47,[((decide ((↑i:Int)<(↑nb:Int)))=true),(IL 0 (↑i:Int)),(IT (↑i:Int) (↑nb:Int)),(NT 0 1),((true=true)→ (AN 1)),(AG (decide ((↑i:Int)>0))),(((decide ((↑i:Int)>0))=true)→(NT 0 1)),(AG (decide ((↑i:Int)>0))),(((decide ((↑i:Int)>0))=true)→(ZLo ((↑i:Int) - 1))),(((decide ((↑i:Int)>0))=true)→(ZHi ((↑i:Int) - 1))),(AG (decide ((↑i:Int)>0))),(AG (decide ((↑i:Int)>0))),(((decide ((↑i:Int)>0))=true)→(IL 0 ((↑i:Int) - 1))),(((decide ((↑i:Int)>0))=true)→(IT ((↑i:Int) - 1) (↑nb:Int))),(AG (decide ((↑i:Int)>0))),(((decide ((↑i:Int)>0))=true)→(NT 0 1)),(AG (decide ((↑i:Int)>0))),(AG (decide ((↑i:Int)>0))),(AG (decide ((↑i:Int)>0))),(AG (!bif decide ((↑i:Int)>0) then (g ((↑i:Int) - 1).toNat).1==(g i).1&&((g ((↑i:Int) - 1).toNat).2.1==(g i).2.1&&true) else false)),(((!bif decide ((↑i:Int)>0) then (g ((↑i:Int) - 1).toNat).1==(g i).1&&((g ((↑i:Int) - 1).toNat).2.1==(g i).2.1&&true) else false)=true)→(NT 0 1)),(AG (!bif decide ((↑i:Int)>0) then (g ((↑i:Int) - 1).toNat).1==(g i).1&&((g ((↑i:Int) - 1).toNat).2.1==(g i).2.1&&true) else false)),(((!bif decide ((↑i:Int)>0) then (g ((↑i:Int) - 1).toNat).1==(g i).1&&((g ((↑i:Int) - 1).toNat).2.1==(g i).2.1&&true) else false)=true)→(NT 0 1)),(AG (!bif decide ((↑i:Int)>0) then (g ((↑i:Int) - 1).toNat).1==(g i).1&&((g ((↑i:Int) - 1).toNat).2.1==(g i).2.1&&true) else false)),(AG (!bif decide ((↑i:Int)>0) then (g ((↑i:Int) - 1).toNat).1==(g i).1&&((g ((↑i:Int) - 1).toNat).2.1==(g i).2.1&&true) else false)),(((!bif decide ((↑i:Int)>0) then (g ((↑i:Int) - 1).toNat).1==(g i).1&&((g ((↑i:Int) - 1).toNat).2.1==(g i).2.1&&true) else false)=true)→(IL 0 ((g i).1))),(((!bif decide ((↑i:Int)>0) then (g ((↑i:Int) - 1).toNat).1==(g i).1&&((g ((↑i:Int) - 1).toNat).2.1==(g i).2.1&&true) else false)=true)→(IT ((g i).1) (↑np:Int))),(AG (!bif decide ((↑i:Int)>0) then (g ((↑i:Int) - 1).toNat).1==(g i).1&&((g ((↑i:Int) - 1).toNat).2.1==(g i).2.1&&true) else false)),(AG (!bif decide ((↑i:Int)>0) then (g ((↑i:Int) - 1).toNat).1==(g i).1&&((g ((↑i:Int) - 1).toNat).2.1==(g i).2.1&&true) else false)),(((!bif decide ((↑i:Int)>0) then (g ((↑i:Int) - 1).toNat).1==(g i).1&&((g ((↑i:Int) - 1).toNat).2.1==(g i).2.1&&true) else false)=true)→(NT 0 1)),(AG (!bif decide ((↑i:Int)>0) then (g ((↑i:Int) - 1).toNat).1==(g i).1&&((g ((↑i:Int) - 1).toNat).2.1==(g i).2.1&&true) else false)),(((!bif decide ((↑i:Int)>0) then (g ((↑i:Int) - 1).toNat).1==(g i).1&&((g ((↑i:Int) - 1).toNat).2.1==(g i).2.1&&true) else false)=true)→(NT 0 1)),(AG (!bif decide ((↑i:Int)>0) then (g ((↑i:Int) - 1).toNat).1==(g i).1&&((g ((↑i:Int) - 1).toNat).2.1==(g i).2.1&&true) else false)),(AG (!bif decide ((↑i:Int)>0) then (g ((↑i:Int) - 1).toNat).1==(g i).1&&((g ((↑i:Int) - 1).toNat).2.1==(g i).2.1&&true) else false)),(((!bif decide ((↑i:Int)>0) then (g ((↑i:Int) - 1).toNat).1==(g i).1&&((g ((↑i:Int) - 1).toNat).2.1==(g i).2.1&&true) else false)=true)→(IL 0 ((g i).2.1))),(((!bif decide ((↑i:Int)>0) then (g ((↑i:Int) - 1).toNat).1==(g i).1&&((g ((↑i:Int) - 1).toNat).2.1==(g i).2.1&&true) else false)=true)→(IT ((g i).2.1) (↑np:Int))),(AG (!bif decide ((↑i:Int)>0) then (g ((↑i:Int) - 1).toNat).1==(g i).1&&((g ((↑i:Int) - 1).toNat).2.1==(g i).2.1&&true) else false)),(AG (!bif decide ((↑i:Int)>0) then (g ((↑i:Int) - 1).toNat).1==(g i).1&&((g ((↑i:Int) - 1).toNat).2.1==(g i).2.1&&true) else false)),(AG (!bif decide ((↑i:Int)>0) then (g ((↑i:Int) - 1).toNat).1==(g i).1&&((g ((↑i:Int) - 1).toNat).2.1==(g i).2.1&&true) else false)),(((bif decide ((↑i:Int)>0) then (g ((↑i:Int) - 1).toNat).1==(g i).1&&((g ((↑i:Int) - 1).toNat).2.1==(g i).2.1&&true) else false)=false)→ ((!bif decide ((↑i:Int)>0) then (g ((↑i:Int) - 1).toNat).1==(g i).1&&((g ((↑i:Int) - 1).toNat).2.1==(g i).2.1&&true) else false)=true)),((bif bif decide ((↑i:Int)>0) then (g ((↑i:Int) - 1).toNat).1==(g i).1&&((g ((↑i:Int) - 1).toNat).2.1==(g i).2.1&&true) else false then true else (pl (g i).1.toNat).1==(pl (g i).2.1.toNat).1&&((pl (g i).1.toNat).2.1==(pl (g i).2.1.toNat).2.1&&true))=false),(ZLo ((↑i:Int)+1)),(ZHi ((↑i:Int)+1)),(AI N),(AN nb),(AP nb (bRw g)),(AN np),(AP np (bRw pl)),(AN 0),(AN 0),(AN nb),(AP nb (bRw g)),(AI ((↑nb:Int))),((((↑i:Int)+1):Int)=(↑(i+1):Int)),(AN 3),(NL 1 1),(NL 1 1),(AI N),(AN nb),(AP nb (bRw g)),(AN np),(AP np (bRw pl)),(AN 2),(NL 1 1),(NL 1 1),(AI N),(AN nb),(AP nb (bRw g))]):=by kernel_rfl
theorem yIy (g:Nat→T_Bar) (nb:Nat) (N:Int) (pl:Nat→T_Place) (np:Nat) (i:Nat) :
    pathOb Tryz.prog Tryz.f128 0 [rg 1,.dec true,rg 6,rg 27,.dec true,rg 1] zf47 (FI1 g nb N pl np i) [] 1 [] (.p (.bool false)) =
    some [((decide ((↑i:Int)<(↑nb:Int)))=true),(IL 0 (↑i:Int)),(IT (↑i:Int) (↑nb:Int)),(NT 0 1),((true=true)→ (AN 1)),(AG (decide ((↑i:Int)>0))),(((decide ((↑i:Int)>0))=true)→(NT 0 1)),(AG (decide ((↑i:Int)>0))),(((decide ((↑i:Int)>0))=true)→(ZLo ((↑i:Int) - 1))),(((decide ((↑i:Int)>0))=true)→(ZHi ((↑i:Int) - 1))),(AG (decide ((↑i:Int)>0))),(AG (decide ((↑i:Int)>0))),(((decide ((↑i:Int)>0))=true)→(IL 0 ((↑i:Int) - 1))),(((decide ((↑i:Int)>0))=true)→(IT ((↑i:Int) - 1) (↑nb:Int))),(AG (decide ((↑i:Int)>0))),(((decide ((↑i:Int)>0))=true)→(NT 0 1)),(AG (decide ((↑i:Int)>0))),(AG (decide ((↑i:Int)>0))),(AG (decide ((↑i:Int)>0))),(AG (!bif decide ((↑i:Int)>0) then (g ((↑i:Int) - 1).toNat).1==(g i).1&&((g ((↑i:Int) - 1).toNat).2.1==(g i).2.1&&true) else false)),(((!bif decide ((↑i:Int)>0) then (g ((↑i:Int) - 1).toNat).1==(g i).1&&((g ((↑i:Int) - 1).toNat).2.1==(g i).2.1&&true) else false)=true)→(NT 0 1)),(AG (!bif decide ((↑i:Int)>0) then (g ((↑i:Int) - 1).toNat).1==(g i).1&&((g ((↑i:Int) - 1).toNat).2.1==(g i).2.1&&true) else false)),(((!bif decide ((↑i:Int)>0) then (g ((↑i:Int) - 1).toNat).1==(g i).1&&((g ((↑i:Int) - 1).toNat).2.1==(g i).2.1&&true) else false)=true)→(NT 0 1)),(AG (!bif decide ((↑i:Int)>0) then (g ((↑i:Int) - 1).toNat).1==(g i).1&&((g ((↑i:Int) - 1).toNat).2.1==(g i).2.1&&true) else false)),(AG (!bif decide ((↑i:Int)>0) then (g ((↑i:Int) - 1).toNat).1==(g i).1&&((g ((↑i:Int) - 1).toNat).2.1==(g i).2.1&&true) else false)),(((!bif decide ((↑i:Int)>0) then (g ((↑i:Int) - 1).toNat).1==(g i).1&&((g ((↑i:Int) - 1).toNat).2.1==(g i).2.1&&true) else false)=true)→(IL 0 ((g i).1))),(((!bif decide ((↑i:Int)>0) then (g ((↑i:Int) - 1).toNat).1==(g i).1&&((g ((↑i:Int) - 1).toNat).2.1==(g i).2.1&&true) else false)=true)→(IT ((g i).1) (↑np:Int))),(AG (!bif decide ((↑i:Int)>0) then (g ((↑i:Int) - 1).toNat).1==(g i).1&&((g ((↑i:Int) - 1).toNat).2.1==(g i).2.1&&true) else false)),(AG (!bif decide ((↑i:Int)>0) then (g ((↑i:Int) - 1).toNat).1==(g i).1&&((g ((↑i:Int) - 1).toNat).2.1==(g i).2.1&&true) else false)),(((!bif decide ((↑i:Int)>0) then (g ((↑i:Int) - 1).toNat).1==(g i).1&&((g ((↑i:Int) - 1).toNat).2.1==(g i).2.1&&true) else false)=true)→(NT 0 1)),(AG (!bif decide ((↑i:Int)>0) then (g ((↑i:Int) - 1).toNat).1==(g i).1&&((g ((↑i:Int) - 1).toNat).2.1==(g i).2.1&&true) else false)),(((!bif decide ((↑i:Int)>0) then (g ((↑i:Int) - 1).toNat).1==(g i).1&&((g ((↑i:Int) - 1).toNat).2.1==(g i).2.1&&true) else false)=true)→(NT 0 1)),(AG (!bif decide ((↑i:Int)>0) then (g ((↑i:Int) - 1).toNat).1==(g i).1&&((g ((↑i:Int) - 1).toNat).2.1==(g i).2.1&&true) else false)),(AG (!bif decide ((↑i:Int)>0) then (g ((↑i:Int) - 1).toNat).1==(g i).1&&((g ((↑i:Int) - 1).toNat).2.1==(g i).2.1&&true) else false)),(((!bif decide ((↑i:Int)>0) then (g ((↑i:Int) - 1).toNat).1==(g i).1&&((g ((↑i:Int) - 1).toNat).2.1==(g i).2.1&&true) else false)=true)→(IL 0 ((g i).2.1))),(((!bif decide ((↑i:Int)>0) then (g ((↑i:Int) - 1).toNat).1==(g i).1&&((g ((↑i:Int) - 1).toNat).2.1==(g i).2.1&&true) else false)=true)→(IT ((g i).2.1) (↑np:Int))),(AG (!bif decide ((↑i:Int)>0) then (g ((↑i:Int) - 1).toNat).1==(g i).1&&((g ((↑i:Int) - 1).toNat).2.1==(g i).2.1&&true) else false)),(AG (!bif decide ((↑i:Int)>0) then (g ((↑i:Int) - 1).toNat).1==(g i).1&&((g ((↑i:Int) - 1).toNat).2.1==(g i).2.1&&true) else false)),(AG (!bif decide ((↑i:Int)>0) then (g ((↑i:Int) - 1).toNat).1==(g i).1&&((g ((↑i:Int) - 1).toNat).2.1==(g i).2.1&&true) else false)),(((bif decide ((↑i:Int)>0) then (g ((↑i:Int) - 1).toNat).1==(g i).1&&((g ((↑i:Int) - 1).toNat).2.1==(g i).2.1&&true) else false)=false)→ ((!bif decide ((↑i:Int)>0) then (g ((↑i:Int) - 1).toNat).1==(g i).1&&((g ((↑i:Int) - 1).toNat).2.1==(g i).2.1&&true) else false)=true)),((bif bif decide ((↑i:Int)>0) then (g ((↑i:Int) - 1).toNat).1==(g i).1&&((g ((↑i:Int) - 1).toNat).2.1==(g i).2.1&&true) else false then true else (pl (g i).1.toNat).1==(pl (g i).2.1.toNat).1&&((pl (g i).1.toNat).2.1==(pl (g i).2.1.toNat).2.1&&true))=true),(false=false)]:=by kernel_rfl
theorem yIe (g:Nat→T_Bar) (nb:Nat) (N:Int) (pl:Nat→T_Place) (np:Nat) (i:Nat) :
    pathOb Tryz.prog Tryz.f128 0 [rg 1,.dec false,rg 1] zf47 (FI1 g nb N pl np i) [] 1 [] (.p (.bool true)) =
    some [((decide ((↑i:Int)<(↑nb:Int)))=false),(true=true)]:=by kernel_rfl
theorem zI0 (g:Nat→T_Bar) (nb:Nat) (N:Int) (pl:Nat→T_Place) (np:Nat) (a:Bool) :
    pathOb Tryz.prog Tryz.f117 0 [rg 2,rm [(2,oc [] (.p (.bool a)))] 23,.dec true,rg 1] [.code (bodyOf Tryz.f117)] (start Tryz.f117 [] 0 [frA g nb N pl np]) [] 1 [] (.p (.bool false)) =
    some [(NT 0 1),Con Tryz.prog 53 0 [] [(zf118 N nb g)] [] (.p (.bool a)),(AG (!!a)),(AG (!!a)),(((!!a)=true)→(NT 0 1)),(AG (!!a)),(((!a)=false)→ ((!!a)=true)),(AG (!bif !a then true else decide (N>6))),(((!bif !a then true else decide (N>6))=true)→(NT 0 1)),(AG (!bif !a then true else decide (N>6))),(AG (!bif !a then true else decide (N>6))),(AG (!bif !a then true else decide (N>6))),(((!bif !a then true else decide (N>6))=true)→(NT 0 1)),(AG (!bif !a then true else decide (N>6))),(AG (!bif !a then true else decide (N>6))),(((bif !a then true else decide (N>6))=false)→ ((!bif !a then true else decide (N>6))=true)),(AG (!bif bif !a then true else decide (N>6) then true else (↑np:Int) != N)),(AG (!bif bif !a then true else decide (N>6) then true else (↑np:Int) != N)),(((!bif bif !a then true else decide (N>6) then true else (↑np:Int) != N)=true)→(NT 0 1)),(AG (!bif bif !a then true else decide (N>6) then true else (↑np:Int) != N)),(AG (!bif bif !a then true else decide (N>6) then true else (↑np:Int) != N)),(((bif bif !a then true else decide (N>6) then true else (↑np:Int) != N)=false)→ ((!bif bif !a then true else decide (N>6) then true else (↑np:Int) != N)=true)),((bif bif bif !a then true else decide (N>6) then true else (↑np:Int) != N then true else decide ((↑nb:Int)>15))=true),(false=false)]:=by kernel_rfl
theorem zIz (g:Nat→T_Bar) (nb:Nat) (N:Int) (pl:Nat→T_Place) (np:Nat) (a:Bool) :
    pieceOb Tryz.prog 0 [rg 2,rm [(2,oc [] (.p (.bool a)))] 23,.dec false,rg 1,.head] [.code (bodyOf Tryz.f117)] (start Tryz.f117 [] 0 [frA g nb N pl np]) [0] 1 (FJ0 g nb N pl np 0) =
    some (zf74,[(NT 0 1),Con Tryz.prog 53 0 [] [(zf118 N nb g)] [] (.p (.bool a)),(AG (!!a)),(AG (!!a)),(((!!a)=true)→(NT 0 1)),(AG (!!a)),(((!a)=false)→ ((!!a)=true)),(AG (!bif !a then true else decide (N>6))),(((!bif !a then true else decide (N>6))=true)→(NT 0 1)),(AG (!bif !a then true else decide (N>6))),(AG (!bif !a then true else decide (N>6))),(AG (!bif !a then true else decide (N>6))),(((!bif !a then true else decide (N>6))=true)→(NT 0 1)),(AG (!bif !a then true else decide (N>6))),(AG (!bif !a then true else decide (N>6))),(((bif !a then true else decide (N>6))=false)→ ((!bif !a then true else decide (N>6))=true)),(AG (!bif bif !a then true else decide (N>6) then true else (↑np:Int) != N)),(AG (!bif bif !a then true else decide (N>6) then true else (↑np:Int) != N)),(((!bif bif !a then true else decide (N>6) then true else (↑np:Int) != N)=true)→(NT 0 1)),(AG (!bif bif !a then true else decide (N>6) then true else (↑np:Int) != N)),(AG (!bif bif !a then true else decide (N>6) then true else (↑np:Int) != N)),(((bif bif !a then true else decide (N>6) then true else (↑np:Int) != N)=false)→ ((!bif bif !a then true else decide (N>6) then true else (↑np:Int) != N)=true)),((bif bif bif !a then true else decide (N>6) then true else (↑np:Int) != N then true else decide ((↑nb:Int)>15))=false),(AI N),(AN nb),(AP nb (bRw g)),(AN np),(AP np (bRw pl)),(AN 0),((0:Int)=(↑0:Int)),((([AV.p (PV.int IntKind.i64 N),brL g nb,pcL pl np].length):Nat)=3),(NL 1 1),(NL 1 1),(AI N),(AN nb),(AP nb (bRw g)),(AN np),(AP np (bRw pl))]):=by kernel_rfl
theorem zIt (g:Nat→T_Bar) (nb:Nat) (N:Int) (pl:Nat→T_Place) (np:Nat) (i:Nat) (p q:Bool) :
    pieceOb Tryz.prog 0 [rg 5,.dec true,rm [(6,oc [] (.p (.bool p))),(8,oc [] (.p (.bool q)))] 2,.dec false,rg 3,.head] zf74 (FJ0 g nb N pl np i) [0] 1 (FJ0 g nb N pl np (i+1)) =
    some (zf74,[(NT 0 1),((decide ((↑i:Int)<(↑np:Int)))=true),(NT 0 1),(IL 0 (↑i:Int)),(IT (↑i:Int) (↑np:Int)),Con Tryz.prog 167 0 [] [.p (.int .i64 ((pl i).1)),.p (.int .i64 0),.p (.int .i64 4)] [] (.p (.bool p)),(AG (!!p)),(((!!p)=true)→(NT 0 1)),(AG (!!p)),(AG (!!p)),(((!!p)=true)→(IL 0 (↑i:Int))),(((!!p)=true)→(IT (↑i:Int) (↑np:Int))),(AG (!!p)),(AG (!!p)),(AG (!!p)),(((!!p)=true)→ Con Tryz.prog 167 0 [] [.p (.int .i64 ((pl i).2.1)),.p (.int .i64 0),.p (.int .i64 4)] [] (.p (.bool q))),(AG (!!p)),(((!p)=false)→ ((!!p)=true)),((bif !p then true else !q)=false),(ZLo ((↑i:Int)+1)),(ZHi ((↑i:Int)+1)),(AI N),(AN nb),(AP nb (bRw g)),(AN np),(AP np (bRw pl)),(AN 0),((((↑i:Int)+1):Int)=(↑(i+1):Int)),(AN 3),(NL 1 1),(NL 1 1),(AI N),(AN nb),(AP nb (bRw g)),(AN np),(AP np (bRw pl))]):=by kernel_rfl
theorem zIx (g:Nat→T_Bar) (nb:Nat) (N:Int) (pl:Nat→T_Place) (np:Nat) (i:Nat) (p q:Bool) :
    pathOb Tryz.prog Tryz.f117 0 [rg 5,.dec true,rm [(6,oc [] (.p (.bool p))),(8,oc [] (.p (.bool q)))] 2,.dec true,rg 1] zf74 (FJ0 g nb N pl np i) [] 1 [] (.p (.bool false)) =
    some [(NT 0 1),((decide ((↑i:Int)<(↑np:Int)))=true),(NT 0 1),(IL 0 (↑i:Int)),(IT (↑i:Int) (↑np:Int)),Con Tryz.prog 167 0 [] [.p (.int .i64 ((pl i).1)),.p (.int .i64 0),.p (.int .i64 4)] [] (.p (.bool p)),(AG (!!p)),(((!!p)=true)→(NT 0 1)),(AG (!!p)),(AG (!!p)),(((!!p)=true)→(IL 0 (↑i:Int))),(((!!p)=true)→(IT (↑i:Int) (↑np:Int))),(AG (!!p)),(AG (!!p)),(AG (!!p)),(((!!p)=true)→ Con Tryz.prog 167 0 [] [.p (.int .i64 ((pl i).2.1)),.p (.int .i64 0),.p (.int .i64 4)] [] (.p (.bool q))),(AG (!!p)),(((!p)=false)→ ((!!p)=true)),((bif !p then true else !q)=true),(false=false)]:=by kernel_rfl
theorem zIn (g:Nat→T_Bar) (nb:Nat) (N:Int) (pl:Nat→T_Place) (np:Nat) (i:Nat) :
    pieceOb Tryz.prog 0 [rg 5,.dec false,rg 1,.head] zf74 (FJ0 g nb N pl np i) [0] 1 (FJ1 g nb N pl np 0) =
    some (zf56,[(NT 0 1),((decide ((↑i:Int)<(↑np:Int)))=false),(AI N),(AN nb),(AP nb (bRw g)),(AN np),(AP np (bRw pl)),(AN 0),((0:Int)=(↑0:Int)),(AN 3),(NL 1 1),(NL 1 1),(AI N),(AN nb),(AP nb (bRw g)),(AN np),(AP np (bRw pl))]):=by kernel_rfl
theorem zIb (g:Nat→T_Bar) (nb:Nat) (N:Int) (pl:Nat→T_Place) (np:Nat) (i:Nat) :
    pieceOb Tryz.prog 0 [rg 6,.dec true,rg 8,rg 28,.dec false,rg 3,.head] zf56 (FJ1 g nb N pl np i) [0] 1 (FJ1 g nb N pl np (i+1)) =
    some (zf56,[(NT 0 1),((decide ((↑i:Int)<(↑nb:Int)))=true),(NT 0 1),(IL 0 (↑i:Int)),(IT (↑i:Int) (↑nb:Int)),(NT 0 1),((true=true)→ (AN 1)),(NT 0 1),(NT 0 1),(IL 0 ((g i).1)),(IT ((g i).1) (↑np:Int)),(NT 0 1),(NT 0 1),(IL 0 ((g i).2.1)),(IT ((g i).2.1) (↑np:Int)),(AG (!((pl (g i).1.toNat).1==(pl (g i).2.1.toNat).1&&((pl (g i).1.toNat).2.1==(pl (g i).2.1.toNat).2.1&&true)))),(AG (!((pl (g i).1.toNat).1==(pl (g i).2.1.toNat).1&&((pl (g i).1.toNat).2.1==(pl (g i).2.1.toNat).2.1&&true)))),(AG (!((pl (g i).1.toNat).1==(pl (g i).2.1.toNat).1&&((pl (g i).1.toNat).2.1==(pl (g i).2.1.toNat).2.1&&true))&&decide ((↑i:Int)>0))),(AG (!((pl (g i).1.toNat).1==(pl (g i).2.1.toNat).1&&((pl (g i).1.toNat).2.1==(pl (g i).2.1.toNat).2.1&&true))&&decide ((↑i:Int)>0))),(((!((pl (g i).1.toNat).1==(pl (g i).2.1.toNat).1&&((pl (g i).1.toNat).2.1==(pl (g i).2.1.toNat).2.1&&true))&&decide ((↑i:Int)>0))=true)→(NT 0 1)),(AG (!((pl (g i).1.toNat).1==(pl (g i).2.1.toNat).1&&((pl (g i).1.toNat).2.1==(pl (g i).2.1.toNat).2.1&&true))&&decide ((↑i:Int)>0))),(((!((pl (g i).1.toNat).1==(pl (g i).2.1.toNat).1&&((pl (g i).1.toNat).2.1==(pl (g i).2.1.toNat).2.1&&true))&&decide ((↑i:Int)>0))=true)→(ZLo ((↑i:Int) - 1))),(((!((pl (g i).1.toNat).1==(pl (g i).2.1.toNat).1&&((pl (g i).1.toNat).2.1==(pl (g i).2.1.toNat).2.1&&true))&&decide ((↑i:Int)>0))=true)→(ZHi ((↑i:Int) - 1))),(AG (!((pl (g i).1.toNat).1==(pl (g i).2.1.toNat).1&&((pl (g i).1.toNat).2.1==(pl (g i).2.1.toNat).2.1&&true))&&decide ((↑i:Int)>0))),(AG (!((pl (g i).1.toNat).1==(pl (g i).2.1.toNat).1&&((pl (g i).1.toNat).2.1==(pl (g i).2.1.toNat).2.1&&true))&&decide ((↑i:Int)>0))),(((!((pl (g i).1.toNat).1==(pl (g i).2.1.toNat).1&&((pl (g i).1.toNat).2.1==(pl (g i).2.1.toNat).2.1&&true))&&decide ((↑i:Int)>0))=true)→(IL 0 ((↑i:Int) - 1))),(((!((pl (g i).1.toNat).1==(pl (g i).2.1.toNat).1&&((pl (g i).1.toNat).2.1==(pl (g i).2.1.toNat).2.1&&true))&&decide ((↑i:Int)>0))=true)→(IT ((↑i:Int) - 1) (↑nb:Int))),(AG (!((pl (g i).1.toNat).1==(pl (g i).2.1.toNat).1&&((pl (g i).1.toNat).2.1==(pl (g i).2.1.toNat).2.1&&true))&&decide ((↑i:Int)>0))),(((!((pl (g i).1.toNat).1==(pl (g i).2.1.toNat).1&&((pl (g i).1.toNat).2.1==(pl (g i).2.1.toNat).2.1&&true))&&decide ((↑i:Int)>0))=true)→(NT 0 1)),(AG (!((pl (g i).1.toNat).1==(pl (g i).2.1.toNat).1&&((pl (g i).1.toNat).2.1==(pl (g i).2.1.toNat).2.1&&true))&&decide ((↑i:Int)>0))),(AG (!((pl (g i).1.toNat).1==(pl (g i).2.1.toNat).1&&((pl (g i).1.toNat).2.1==(pl (g i).2.1.toNat).2.1&&true))&&decide ((↑i:Int)>0))),(AG (!((pl (g i).1.toNat).1==(pl (g i).2.1.toNat).1&&((pl (g i).1.toNat).2.1==(pl (g i).2.1.toNat).2.1&&true)))),(((!((pl (g i).1.toNat).1==(pl (g i).2.1.toNat).1&&((pl (g i).1.toNat).2.1==(pl (g i).2.1.toNat).2.1&&true)))=true)→(((decide ((↑i:Int)>0))=true)→ ((!((pl (g i).1.toNat).1==(pl (g i).2.1.toNat).1&&((pl (g i).1.toNat).2.1==(pl (g i).2.1.toNat).2.1&&true))&&decide ((↑i:Int)>0))=true))),((((pl (g i).1.toNat).1==(pl (g i).2.1.toNat).1&&((pl (g i).1.toNat).2.1==(pl (g i).2.1.toNat).2.1&&true))=false)→ ((!((pl (g i).1.toNat).1==(pl (g i).2.1.toNat).1&&((pl (g i).1.toNat).2.1==(pl (g i).2.1.toNat).2.1&&true)))=true)),((bif (pl (g i).1.toNat).1==(pl (g i).2.1.toNat).1&&((pl (g i).1.toNat).2.1==(pl (g i).2.1.toNat).2.1&&true) then true else bif decide ((↑i:Int)>0) then (g ((↑i:Int) - 1).toNat).1==(g i).1&&((g ((↑i:Int) - 1).toNat).2.1==(g i).2.1&&true) else false)=false),(ZLo ((↑i:Int)+1)),(ZHi ((↑i:Int)+1)),(AI N),(AN nb),(AP nb (bRw g)),(AN np),(AP np (bRw pl)),(AN 0),((((↑i:Int)+1):Int)=(↑(i+1):Int)),(AN 3),(NL 1 1),(NL 1 1),(AI N),(AN nb),(AP nb (bRw g)),(AN np),(AP np (bRw pl))]):=by kernel_rfl
theorem zIy (g:Nat→T_Bar) (nb:Nat) (N:Int) (pl:Nat→T_Place) (np:Nat) (i:Nat) :
    pathOb Tryz.prog Tryz.f117 0 [rg 6,.dec true,rg 8,rg 28,.dec true,rg 1] zf56 (FJ1 g nb N pl np i) [] 1 [] (.p (.bool false)) =
    some [(NT 0 1),((decide ((↑i:Int)<(↑nb:Int)))=true),(NT 0 1),(IL 0 (↑i:Int)),(IT (↑i:Int) (↑nb:Int)),(NT 0 1),((true=true)→ (AN 1)),(NT 0 1),(NT 0 1),(IL 0 ((g i).1)),(IT ((g i).1) (↑np:Int)),(NT 0 1),(NT 0 1),(IL 0 ((g i).2.1)),(IT ((g i).2.1) (↑np:Int)),(AG (!((pl (g i).1.toNat).1==(pl (g i).2.1.toNat).1&&((pl (g i).1.toNat).2.1==(pl (g i).2.1.toNat).2.1&&true)))),(AG (!((pl (g i).1.toNat).1==(pl (g i).2.1.toNat).1&&((pl (g i).1.toNat).2.1==(pl (g i).2.1.toNat).2.1&&true)))),(AG (!((pl (g i).1.toNat).1==(pl (g i).2.1.toNat).1&&((pl (g i).1.toNat).2.1==(pl (g i).2.1.toNat).2.1&&true))&&decide ((↑i:Int)>0))),(AG (!((pl (g i).1.toNat).1==(pl (g i).2.1.toNat).1&&((pl (g i).1.toNat).2.1==(pl (g i).2.1.toNat).2.1&&true))&&decide ((↑i:Int)>0))),(((!((pl (g i).1.toNat).1==(pl (g i).2.1.toNat).1&&((pl (g i).1.toNat).2.1==(pl (g i).2.1.toNat).2.1&&true))&&decide ((↑i:Int)>0))=true)→(NT 0 1)),(AG (!((pl (g i).1.toNat).1==(pl (g i).2.1.toNat).1&&((pl (g i).1.toNat).2.1==(pl (g i).2.1.toNat).2.1&&true))&&decide ((↑i:Int)>0))),(((!((pl (g i).1.toNat).1==(pl (g i).2.1.toNat).1&&((pl (g i).1.toNat).2.1==(pl (g i).2.1.toNat).2.1&&true))&&decide ((↑i:Int)>0))=true)→(ZLo ((↑i:Int) - 1))),(((!((pl (g i).1.toNat).1==(pl (g i).2.1.toNat).1&&((pl (g i).1.toNat).2.1==(pl (g i).2.1.toNat).2.1&&true))&&decide ((↑i:Int)>0))=true)→(ZHi ((↑i:Int) - 1))),(AG (!((pl (g i).1.toNat).1==(pl (g i).2.1.toNat).1&&((pl (g i).1.toNat).2.1==(pl (g i).2.1.toNat).2.1&&true))&&decide ((↑i:Int)>0))),(AG (!((pl (g i).1.toNat).1==(pl (g i).2.1.toNat).1&&((pl (g i).1.toNat).2.1==(pl (g i).2.1.toNat).2.1&&true))&&decide ((↑i:Int)>0))),(((!((pl (g i).1.toNat).1==(pl (g i).2.1.toNat).1&&((pl (g i).1.toNat).2.1==(pl (g i).2.1.toNat).2.1&&true))&&decide ((↑i:Int)>0))=true)→(IL 0 ((↑i:Int) - 1))),(((!((pl (g i).1.toNat).1==(pl (g i).2.1.toNat).1&&((pl (g i).1.toNat).2.1==(pl (g i).2.1.toNat).2.1&&true))&&decide ((↑i:Int)>0))=true)→(IT ((↑i:Int) - 1) (↑nb:Int))),(AG (!((pl (g i).1.toNat).1==(pl (g i).2.1.toNat).1&&((pl (g i).1.toNat).2.1==(pl (g i).2.1.toNat).2.1&&true))&&decide ((↑i:Int)>0))),(((!((pl (g i).1.toNat).1==(pl (g i).2.1.toNat).1&&((pl (g i).1.toNat).2.1==(pl (g i).2.1.toNat).2.1&&true))&&decide ((↑i:Int)>0))=true)→(NT 0 1)),(AG (!((pl (g i).1.toNat).1==(pl (g i).2.1.toNat).1&&((pl (g i).1.toNat).2.1==(pl (g i).2.1.toNat).2.1&&true))&&decide ((↑i:Int)>0))),(AG (!((pl (g i).1.toNat).1==(pl (g i).2.1.toNat).1&&((pl (g i).1.toNat).2.1==(pl (g i).2.1.toNat).2.1&&true))&&decide ((↑i:Int)>0))),(AG (!((pl (g i).1.toNat).1==(pl (g i).2.1.toNat).1&&((pl (g i).1.toNat).2.1==(pl (g i).2.1.toNat).2.1&&true)))),(((!((pl (g i).1.toNat).1==(pl (g i).2.1.toNat).1&&((pl (g i).1.toNat).2.1==(pl (g i).2.1.toNat).2.1&&true)))=true)→(((decide ((↑i:Int)>0))=true)→ ((!((pl (g i).1.toNat).1==(pl (g i).2.1.toNat).1&&((pl (g i).1.toNat).2.1==(pl (g i).2.1.toNat).2.1&&true))&&decide ((↑i:Int)>0))=true))),((((pl (g i).1.toNat).1==(pl (g i).2.1.toNat).1&&((pl (g i).1.toNat).2.1==(pl (g i).2.1.toNat).2.1&&true))=false)→ ((!((pl (g i).1.toNat).1==(pl (g i).2.1.toNat).1&&((pl (g i).1.toNat).2.1==(pl (g i).2.1.toNat).2.1&&true)))=true)),((bif (pl (g i).1.toNat).1==(pl (g i).2.1.toNat).1&&((pl (g i).1.toNat).2.1==(pl (g i).2.1.toNat).2.1&&true) then true else bif decide ((↑i:Int)>0) then (g ((↑i:Int) - 1).toNat).1==(g i).1&&((g ((↑i:Int) - 1).toNat).2.1==(g i).2.1&&true) else false)=true),(false=false)]:=by kernel_rfl
theorem zIe (g:Nat→T_Bar) (nb:Nat) (N:Int) (pl:Nat→T_Place) (np:Nat) (i:Nat) :
    pathOb Tryz.prog Tryz.f117 0 [rg 6,.dec false,rg 1] zf56 (FJ1 g nb N pl np i) [] 1 [] (.p (.bool true)) =
    some [(NT 0 1),((decide ((↑i:Int)<(↑nb:Int)))=false),(true=true)]:=by kernel_rfl
theorem yTz (g:Nat→T_Bar) (nb:Nat) (N:Int) (pl:Nat→T_Place) (np:Nat) (w:T_IntS) :
    pieceOb Tryz.prog 0 [rg 2,rg 4,.head] [.code (bodyOf Tryz.f151)] (start Tryz.f151 [] 0 [tsA g nb N pl np w]) [0] 1 (FT0 g nb N pl np w 0) =
    some (zf100,[(NT 0 1),(AI N),(AN nb),(AP nb (bRw g)),(AN np),(AP np (bRw pl)),(AN w.1),(AP w.1 (iRw w)),(AN 0),(AN w.1),(AP w.1 (iRw w)),(AI ((↑w.1:Int))),((0:Int)=(↑0:Int)),((([AV.p (PV.int IntKind.i64 N),brL g nb,pcL pl np,inL w].length):Nat)=4),(NL 1 1),(NL 1 1),(AI N),(AN nb),(AP nb (bRw g)),(AN np),(AP np (bRw pl)),(AN w.1),(AP w.1 (iRw w))]):=by kernel_rfl
theorem yTt (g:Nat→T_Bar) (nb:Nat) (N:Int) (pl:Nat→T_Place) (np:Nat) (w:T_IntS) (i:Nat) :
    pieceOb Tryz.prog 0 [rg 1,.dec true,rg 3,rm [(1,oc [] (.p (.bool true)))] 1,.dec false,rg 2,.head] zf100 (FT0 g nb N pl np w i) [0] 1 (FT0 g nb N pl np w (i+1)) =
    some (zf100,[((decide ((↑i:Int)<(↑w.1:Int)))=true),(IL 0 (↑i:Int)),(IT (↑i:Int) (↑w.1:Int)),Con Tryz.prog 179 0 [] [.p (.int .i64 (w.2 i)),.p (.int .i64 0),.p (.int .i64 2)] [] (.p (.bool true)),((!true)=false),(ZLo ((↑i:Int)+1)),(ZHi ((↑i:Int)+1)),(AI N),(AN nb),(AP nb (bRw g)),(AN np),(AP np (bRw pl)),(AN w.1),(AP w.1 (iRw w)),(AN 0),(AN w.1),(AP w.1 (iRw w)),(AI ((↑w.1:Int))),((((↑i:Int)+1):Int)=(↑(i+1):Int)),(AN 4),(NL 1 1),(NL 1 1),(AI N),(AN nb),(AP nb (bRw g)),(AN np),(AP np (bRw pl)),(AN w.1),(AP w.1 (iRw w))]):=by kernel_rfl
theorem yTx (g:Nat→T_Bar) (nb:Nat) (N:Int) (pl:Nat→T_Place) (np:Nat) (w:T_IntS) (i:Nat) :
    pathOb Tryz.prog Tryz.f151 0 [rg 1,.dec true,rg 3,rm [(1,oc [] (.p (.bool false)))] 1,.dec true,rg 1] zf100 (FT0 g nb N pl np w i) [] 1 [] (.p (.bool false)) =
    some [((decide ((↑i:Int)<(↑w.1:Int)))=true),(IL 0 (↑i:Int)),(IT (↑i:Int) (↑w.1:Int)),Con Tryz.prog 179 0 [] [.p (.int .i64 (w.2 i)),.p (.int .i64 0),.p (.int .i64 2)] [] (.p (.bool false)),((!false)=true),(false=false)]:=by kernel_rfl
theorem yTe (g:Nat→T_Bar) (nb:Nat) (N:Int) (pl:Nat→T_Place) (np:Nat) (w:T_IntS) (i:Nat) (a:Bool) :
    pathOb Tryz.prog Tryz.f151 0 [rg 1,.dec false,rm [(2,oc [] (.p (.bool a)))] 12] zf100 (FT0 g nb N pl np w i) [] 1 [] (.p (.bool (bif a then (w.1:Int)==(nb:Int) else false))) =
    some [((decide ((↑i:Int)<(↑w.1:Int)))=false),(NT 0 1),Con Tryz.prog 128 0 [] [(zf36 N nb g np pl)] [] (.p (.bool a)),(AG a),((a=true)→(NT 0 1)),(AG a),(AG a),(AG a),(AG a),((a=true)→(NT 0 1)),(AG a),(AG a),(AG a),(AG a),((bif a then (↑w.1:Int)==(↑nb:Int) else false)=(bif a then (↑w.1:Int)==(↑nb:Int) else false))]:=by kernel_rfl
theorem zTz (g:Nat→T_Bar) (nb:Nat) (N:Int) (pl:Nat→T_Place) (np:Nat) (w:T_IntS) :
    pieceOb Tryz.prog 0 [rg 2,rg 1,.head] [.code (bodyOf Tryz.f147)] (start Tryz.f147 [] 0 [tsA g nb N pl np w]) [0] 1 (FU0 g nb N pl np w 0) =
    some (zf101,[(AI N),(AN nb),(AP nb (bRw g)),(AN np),(AP np (bRw pl)),(AN w.1),(AP w.1 (iRw w)),(AN 0),((0:Int)=(↑0:Int)),((([AV.p (PV.int IntKind.i64 N),brL g nb,pcL pl np,inL w].length):Nat)=4),(NL 1 1),(NL 1 1),(AI N),(AN nb),(AP nb (bRw g)),(AN np),(AP np (bRw pl)),(AN w.1),(AP w.1 (iRw w))]):=by kernel_rfl
theorem zTt (g:Nat→T_Bar) (nb:Nat) (N:Int) (pl:Nat→T_Place) (np:Nat) (w:T_IntS) (i:Nat) :
    pieceOb Tryz.prog 0 [rg 5,.dec true,rm [(5,oc [] (.p (.bool true)))] 1,.dec false,rg 3,.head] zf101 (FU0 g nb N pl np w i) [0] 1 (FU0 g nb N pl np w (i+1)) =
    some (zf101,[(NT 0 1),((decide ((↑i:Int)<(↑w.1:Int)))=true),(NT 0 1),(IL 0 (↑i:Int)),(IT (↑i:Int) (↑w.1:Int)),Con Tryz.prog 167 0 [] [.p (.int .i64 (w.2 i)),.p (.int .i64 0),.p (.int .i64 2)] [] (.p (.bool true)),((!true)=false),(ZLo ((↑i:Int)+1)),(ZHi ((↑i:Int)+1)),(AI N),(AN nb),(AP nb (bRw g)),(AN np),(AP np (bRw pl)),(AN w.1),(AP w.1 (iRw w)),(AN 0),((((↑i:Int)+1):Int)=(↑(i+1):Int)),(AN 4),(NL 1 1),(NL 1 1),(AI N),(AN nb),(AP nb (bRw g)),(AN np),(AP np (bRw pl)),(AN w.1),(AP w.1 (iRw w))]):=by kernel_rfl
theorem zTx (g:Nat→T_Bar) (nb:Nat) (N:Int) (pl:Nat→T_Place) (np:Nat) (w:T_IntS) (i:Nat) :
    pathOb Tryz.prog Tryz.f147 0 [rg 5,.dec true,rm [(5,oc [] (.p (.bool false)))] 1,.dec true,rg 1] zf101 (FU0 g nb N pl np w i) [] 1 [] (.p (.bool false)) =
    some [(NT 0 1),((decide ((↑i:Int)<(↑w.1:Int)))=true),(NT 0 1),(IL 0 (↑i:Int)),(IT (↑i:Int) (↑w.1:Int)),Con Tryz.prog 167 0 [] [.p (.int .i64 (w.2 i)),.p (.int .i64 0),.p (.int .i64 2)] [] (.p (.bool false)),((!false)=true),(false=false)]:=by kernel_rfl
theorem zTe (g:Nat→T_Bar) (nb:Nat) (N:Int) (pl:Nat→T_Place) (np:Nat) (w:T_IntS) (i:Nat) (a:Bool) :
    pathOb Tryz.prog Tryz.f147 0 [rg 5,.dec false,rm [(2,oc [] (.p (.bool a)))] 12] zf101 (FU0 g nb N pl np w i) [] 1 [] (.p (.bool (bif a then (w.1:Int)==(nb:Int) else false))) =
    some [(NT 0 1),((decide ((↑i:Int)<(↑w.1:Int)))=false),(NT 0 1),Con Tryz.prog 117 0 [] [(zf36 N nb g np pl)] [] (.p (.bool a)),(AG a),((a=true)→(NT 0 1)),(AG a),(AG a),(AG a),(AG a),((a=true)→(NT 0 1)),(AG a),(AG a),(AG a),(AG a),((bif a then (↑w.1:Int)==(↑nb:Int) else false)=(bif a then (↑w.1:Int)==(↑nb:Int) else false))]:=by kernel_rfl
theorem yKz (w:T_IntS) :
    pieceOb Tryz.prog 0 [rg 1,rg 1,rg 3,.head] [.code (bodyOf Tryz.f152)] (start Tryz.f152 [] 0 [inL w]) [] 1 (FKi w 0 sE) =
    some (zf75,[(AN w.1),(AP w.1 (iRw w)),(ByteArray.mk #[]=sE),(AN w.1),(AP w.1 (iRw w)),(AI ((↑w.1:Int))),((0:Int)=(↑0:Int))]):=by kernel_rfl
theorem yKt (w:T_IntS) (i:Nat) (s:ByteArray) :
    pieceOb Tryz.prog 0 [rg 1,.dec true,rg 3,rg 7,rg 2,.head] zf75 (FKi w i s) [] 1 (FKi w (i+1) (s++(ByteArray.mk #[98,99,115]).extract (w.2 i).toNat (w.2 i+1).toNat)) =
    some (zf75,[((decide ((↑i:Int)<(↑w.1:Int)))=true),(IL 0 (↑i:Int)),(IT (↑i:Int) (↑w.1:Int)),(ZLo (w.2 i+1)),(ZHi (w.2 i+1)),(IL 0 (w.2 i)),(IL (w.2 i) (w.2 i+1)),(IL (w.2 i+1) (↑(ByteArray.mk #[98,99,115]).size:Int)),(NL (s.size+((ByteArray.mk #[98,99,115]).extract (w.2 i).toNat (w.2 i+1).toNat).size) 9223372036854775807),(ZLo ((↑i:Int)+1)),(ZHi ((↑i:Int)+1)),(AN w.1),(AP w.1 (iRw w)),(s++(ByteArray.mk #[98,99,115]).extract (w.2 i).toNat (w.2 i+1).toNat=s++(ByteArray.mk #[98,99,115]).extract (w.2 i).toNat (w.2 i+1).toNat),(AN w.1),(AP w.1 (iRw w)),(AI ((↑w.1:Int))),((((↑i:Int)+1):Int)=(↑(i+1):Int))]):=by kernel_rfl
theorem yKn (w:T_IntS) (i:Nat) (s:ByteArray) :
    pathOb Tryz.prog Tryz.f152 0 [rg 1,.dec false,rg 2,.dec true,rg 1] zf75 (FKi w i s) [] 1 [] (.p (.str sNone)) =
    some [((decide ((↑i:Int)<(↑w.1:Int)))=false),((s.toList==(ByteArray.mk #[]).toList)=true),(ByteArray.mk #[110,111,110,101]=sNone)]:=by kernel_rfl
theorem yKe (w:T_IntS) (i:Nat) (s:ByteArray) :
    pathOb Tryz.prog Tryz.f152 0 [rg 1,.dec false,rg 2,.dec false,rg 2] zf75 (FKi w i s) [] 1 [] (.p (.str s)) =
    some [((decide ((↑i:Int)<(↑w.1:Int)))=false),((s.toList==(ByteArray.mk #[]).toList)=false),(s=s)]:=by kernel_rfl
theorem zKz (w:T_IntS) :
    pieceOb Tryz.prog 0 [rg 1,rg 1,rg 1,.head] [.code (bodyOf Tryz.f149)] (start Tryz.f149 [] 0 [inL w]) [] 1 (FKs w 0 sE) =
    some (zf76,[(AN w.1),(AP w.1 (iRw w)),(ByteArray.mk #[]=sE),((0:Int)=(↑0:Int))]):=by kernel_rfl
theorem zKa (w:T_IntS) (i:Nat) (s:ByteArray) :
    pieceOb Tryz.prog 0 [rg 4,.dec true,rg 4,rg 2,.dec true,rg 3,rg 3,.head] zf76 (FKs w i s) [] 1 (FKs w (i+1) (s++(ByteArray.mk #[98]))) =
    some (zf76,[((decide ((↑i:Int)<(↑w.1:Int)))=true),(IL 0 (↑i:Int)),(IT (↑i:Int) (↑w.1:Int)),((w.2 i==0)=true),(NL (s.size+(ByteArray.mk #[98]).size) 9223372036854775807),(ZLo ((↑i:Int)+1)),(ZHi ((↑i:Int)+1)),(AN w.1),(AP w.1 (iRw w)),(s++ByteArray.mk #[98]=s++ByteArray.mk #[98]),((((↑i:Int)+1):Int)=(↑(i+1):Int))]):=by kernel_rfl
theorem zKb (w:T_IntS) (i:Nat) (s:ByteArray) :
    pieceOb Tryz.prog 0 [rg 4,.dec true,rg 4,rg 2,.dec false,rg 2,.dec true,rg 3,rg 3,.head] zf76 (FKs w i s) [] 1 (FKs w (i+1) (s++(ByteArray.mk #[99]))) =
    some (zf76,[((decide ((↑i:Int)<(↑w.1:Int)))=true),(IL 0 (↑i:Int)),(IT (↑i:Int) (↑w.1:Int)),((w.2 i==0)=false),((w.2 i==1)=true),(NL (s.size+(ByteArray.mk #[99]).size) 9223372036854775807),(ZLo ((↑i:Int)+1)),(ZHi ((↑i:Int)+1)),(AN w.1),(AP w.1 (iRw w)),(s++ByteArray.mk #[99]=s++ByteArray.mk #[99]),((((↑i:Int)+1):Int)=(↑(i+1):Int))]):=by kernel_rfl
theorem zKc (w:T_IntS) (i:Nat) (s:ByteArray) :
    pieceOb Tryz.prog 0 [rg 4,.dec true,rg 4,rg 2,.dec false,rg 2,.dec false,rg 3,rg 3,.head] zf76 (FKs w i s) [] 1 (FKs w (i+1) (s++(ByteArray.mk #[115]))) =
    some (zf76,[((decide ((↑i:Int)<(↑w.1:Int)))=true),(IL 0 (↑i:Int)),(IT (↑i:Int) (↑w.1:Int)),((w.2 i==0)=false),((w.2 i==1)=false),(NL (s.size+(ByteArray.mk #[115]).size) 9223372036854775807),(ZLo ((↑i:Int)+1)),(ZHi ((↑i:Int)+1)),(AN w.1),(AP w.1 (iRw w)),(s++ByteArray.mk #[115]=s++ByteArray.mk #[115]),((((↑i:Int)+1):Int)=(↑(i+1):Int))]):=by kernel_rfl
theorem zKn (w:T_IntS) (i:Nat) (s:ByteArray) :
    pathOb Tryz.prog Tryz.f149 0 [rg 4,.dec false,rg 2,.dec true,rg 1] zf76 (FKs w i s) [] 1 [] (.p (.str sNone)) =
    some [((decide ((↑i:Int)<(↑w.1:Int)))=false),((s.toList==(ByteArray.mk #[]).toList)=true),(ByteArray.mk #[110,111,110,101]=sNone)]:=by kernel_rfl
theorem zKe (w:T_IntS) (i:Nat) (s:ByteArray) :
    pathOb Tryz.prog Tryz.f149 0 [rg 4,.dec false,rg 2,.dec false,rg 2] zf76 (FKs w i s) [] 1 [] (.p (.str s)) =
    some [((decide ((↑i:Int)<(↑w.1:Int)))=false),((s.toList==(ByteArray.mk #[]).toList)=false),(s=s)]:=by kernel_rfl
end Go.Proofs.YtkkjoghiigiokaaGreat.Mach
