/- What the law Pn needs, part 5 of 6: the abstract machine and the contracts of the functions. Conditions: as each theorem says. -/
import Derived.Shelf.RegionOpenPlain
import Derived.Deep.LoopGhost
import Derived.Deep.RegionLaw
import Derived.Lib.Walk
import Derived.Lib.SliceRun
import Derived.Lib.SlicesDelete
import Derived.Test.YtkkjoghiigiokaaGreatPnP4
namespace Go.Proofs.YtkkjoghiigiokaaGreat.Mach
open Go
set_option linter.unusedVariables false
set_option linter.unusedSimpArgs false
def apG (G:Nat→T_IntS) (i:Nat) (v:Int) (s:Nat):T_IntS:=if s=i then nzL ((G i).1+1,snI5 (G i).1 (G i).2 v) else G s
def dlG (G:Nat→T_IntS) (i s:Nat):T_IntS:=if s<i then G s else G (s+1)
def apI (d:Nat) (D:Nat→Int) (g:Nat→Int) (s:Nat):Int:=if s<d then D s else g (s - d)
def agS (N:Nat) (D:BM) (m:Nat) (f:Nat→Int) (c:Nat) (G:Nat→T_IntS) (t:Nat):St :=
  ⟨[anyA,anyA,anyA,anyA,.ar 1 0 0 c,bbL false N N D]++List.replicate 16 anyA++[fzL m f,.p (.int .i64 m),.p (.int .i64 t)]++List.replicate 47 anyA,[(0,ooOb 1 c G),(1,ffOb c G)],2⟩
def agT (N:Nat) (D:BM) (m:Nat) (f:Nat→Int) (c:Nat) (G:Nat→T_IntS) (t:Nat) (v:Int) (i:Nat):St :=
  ⟨[anyA,anyA,anyA,anyA,.ar 1 0 0 c,bbL false N N D,anyA,anyA,.p (.int .i64 v),.p (.bool false)]++List.replicate 12 anyA++[fzL m f,.p (.int .i64 m),.p (.int .i64 t)]++List.replicate 3 anyA++[.ar 1 0 0 c,.p (.int .i64 c),.p (.int .i64 i)]++List.replicate 41 anyA,[(0,ooOb 1 c G),(1,ffOb c G)],2⟩
def bgS (p:T_Pinned) (nb:Nat) (o:Nat→Int) (b:Bool) (m:Nat) (f:Nat→Int) (c:Nat) (R:Nat→T_IntS) (i:Nat):St :=
  ⟨[pinA p,.pt 3 0 0 0,anyA,anyA,.ar 1 1 0 c,fzL nb o,.p (.bool b),fzL m f,.p (.int .i64 i)]++List.replicate 73 anyA,[(0,boxP p),(1,rsO c R)],2⟩
def bgT (p:T_Pinned) (nb:Nat) (o:Nat→Int) (m:Nat) (f:Nat→Int) (c:Nat) (R:Nat→T_IntS) (i:Nat) (d:Nat) (h:Nat→Int) (k:Nat):St :=
  ⟨[pinA p,.pt 3 0 0 0,anyA,anyA,.ar 1 1 0 c,fzL nb o,.p (.bool true),fzL m f,.p (.int .i64 i),.ar 1 2 0 d,.p (.int .i64 k)]++List.replicate 71 anyA,[(0,boxP p),(1,rsO c R),(2,iOb d h)],3⟩
def cgS (p:T_Pinned) (r:Nat) (R:Nat→T_IntS) (d:Nat) (D:Nat→Int) (c:Nat) (G:Nat→T_IntS):St :=
  ⟨[pinA p,.pt 3 0 0 0,anyA,anyA,.ar 1 1 0 r,rsL c G,anyA,.ar 1 2 0 d]++List.replicate 67 anyA,[(0,boxP p),(1,rsO r R),(2,iOb d D)],3⟩
def cgT (p:T_Pinned) (r:Nat) (R:Nat→T_IntS) (d:Nat) (D:Nat→Int) (c:Nat) (G:Nat→T_IntS) (i:Nat):St :=
  ⟨[pinA p,.pt 3 0 0 0,anyA,anyA,.ar 1 1 0 r,rsL c G,anyA,.ar 1 2 0 d]++List.replicate 18 anyA++[rsL c G,.p (.int .i64 c),.p (.int .i64 i)]++List.replicate 46 anyA,[(0,boxP p),(1,rsO r R),(2,iOb d D)],3⟩
def cgU (p:T_Pinned) (r:Nat) (R:Nat→T_IntS) (d:Nat) (D:Nat→Int) (c:Nat) (G:Nat→T_IntS) (i:Nat) (b:Bool) (n:Nat) (h:Nat→Int) (k:Nat):St :=
  ⟨[pinA p,.pt 3 0 0 0,anyA,anyA,.ar 1 1 0 r,rsL c G,anyA,.ar 1 2 0 d,.p (.int .i64 i),fzL (G i).1 (G i).2,.p (.bool b)]++List.replicate 15 anyA++[rsL c G,.p (.int .i64 c),.p (.int .i64 i)]++List.replicate 8 anyA++[fzL n h,.p (.int .i64 n),.p (.int .i64 k)]++List.replicate 35 anyA,[(0,boxP p),(1,rsO r R),(2,iOb d D)],3⟩
def dgS (p:T_Pinned) (r:Nat) (R:Nat→T_IntS) (d:Nat) (D:Nat→Int) (c:Nat) (G:Nat→T_IntS) (b:Bool) (nb:Nat) (o:Nat→Int) (n:Nat):St :=
  ⟨[pinA p,.pt 3 0 0 0,anyA,anyA,.ar 1 1 0 r,rsL c G,.p (.bool b),fzL nb o,anyA,.ar 1 2 0 d,.p (.int .i64 n)]++List.replicate 92 anyA,[(0,boxP p),(1,rsO r R),(2,iOb d D)],3⟩
def dgT (p:T_Pinned) (r:Nat) (R:Nat→T_IntS) (d:Nat) (D:Nat→Int) (c:Nat) (G:Nat→T_IntS) (nb:Nat) (o:Nat→Int) (n i:Nat):St :=
  ⟨[pinA p,.pt 3 0 0 0,anyA,anyA,.ar 1 1 0 r,rsL c G,.p (.bool true),fzL nb o,anyA,.ar 1 2 0 d,.p (.int .i64 n),.p (.int .i64 i)]++List.replicate 91 anyA,[(0,boxP p),(1,rsO r R),(2,iOb d D)],3⟩
def dgU (p:T_Pinned) (r:Nat) (R:Nat→T_IntS) (d:Nat) (D:Nat→Int) (c:Nat) (G:Nat→T_IntS) (nb:Nat) (o:Nat→Int) (n i:Nat) (b:Bool) (m:Nat) (h:Nat→Int) (k:Nat):St :=
  ⟨[pinA p,.pt 3 0 0 0,anyA,anyA,.ar 1 1 0 r,rsL c G,.p (.bool true),fzL nb o,anyA,.ar 1 2 0 d,.p (.int .i64 n),.p (.int .i64 i),.p (.bool b),fzL m h,.p (.int .i64 k)]++List.replicate 88 anyA,[(0,boxP p),(1,rsO r R),(2,iOb d D)],3⟩
theorem agn (p:T_Pinned) (n:Nat) (D:BM) :
    zS Tryz.f252 [rg 3,rg 2,rm [(1,oc [] (.tup [bbL false n n D,.p (.bool false)]))] 5,rg 2,.dec true,rg 3] [pinA p] [] [] (.tup [rsL 0 (fun _=>(0,z0)),.p (.bool false)]) =
    some [(NT 0 1),zE 329 [(zf31 p)] [] (.tup [.p (.seq false 1 n (fun i=>[.seq false 1 n (fun i_1=>[.bool (D i i_1)])])),.p (.bool false)]),((!false)=true),(AN 1),(NL 0 0),(AN 0),(∀ i:Nat,(((i:Nat)<0)→(([.nil]:List PV)=[.seq false 1 0 (fun i_1=>[.int .i64 ((0,z0).2 i_1)])]))),(false=false),(false=false),(∀ i:Nat,(((i:Nat)<0)→All [(false=false),(AE 0)]))]:=by kernel_rfl
theorem agz (p:T_Pinned) (N:Nat) (D:BM) (m:Nat) (f:Nat→Int) :
    zT Tryz.f252 [rg 3,rg 2,rm [(1,oc [] (.tup [bbL false N N D,.p (.bool true)]))] 5,rg 2,.dec false,rm [(1,oc [(0,iOb m f)] (.ar 1 0 0 m))] 2,.head] [pinA p] [96] (agS N D m f 0 (fun _=>(0,z0)) 0) =
    some (zf50,[(NT 0 1),zE 329 [(zf31 p)] [] (.tup [.p (.seq false 1 N (fun i=>[.seq false 1 N (fun i_1=>[.bool (D i i_1)])])),.p (.bool true)]),((!true)=false),(NT 0 1),zE 254 [(zf31 p)] [(0,⟨false,1,m,(fun i=>[.p (.int .i64 (f i))])⟩)] (.ar 1 0 0 m),(AN 0),(AN 0),(AN N),(AP N (fun i=>[.seq false 1 N (fun i_1=>[.bool (D i i_1)])])),(AN 1),(NL m m),(AN m),(AP m (fun i=>[.int .i64 (f i)])),(AI ((↑m:Int))),((0:Int)=(↑0:Int)),(AN 1),(NL 0 0),(∀ i:Nat,(((i:Nat)<0)→(All []∧(([.p (.nil)]:List AV)=[.ar 1 ⟨1,some i⟩ 0 0])))),(AN 0)]):=by kernel_rfl
theorem aga (N:Nat) (D:BM) (m:Nat) (f:Nat→Int) (c:Nat) (G:Nat→T_IntS) (t:Nat) :
    zM 0 [rg 1,.dec true,rg 3,rg 1,rg 3,.head] zf50 (agS N D m f c G t) [0,1] 1 (agT N D m f c G t (f t) 0) =
    some (zf10,[((decide ((↑t:Int)<(↑m:Int)))=true),(IL 0 (↑t:Int)),(IT (↑t:Int) (↑m:Int)),(AN 0),(AN c),(AN N),(AP N (fun i=>[.seq false 1 N (fun i_1=>[.bool (D i i_1)])])),(AI ((f t))),(false=false),(AN m),(AP m (fun i=>[.int .i64 (f i)])),(AI ((↑m:Int))),(AI ((↑t:Int))),(AN 0),(AN c),(AI ((↑c:Int))),((0:Int)=(↑0:Int)),(AN 1),(NL c c),(AA c (fun i=>[.ar 1 ⟨1,some i⟩ 0 ((G i).1)])),(NL c c),(∀ i:Nat,(((i:Nat)<c)→All [(AN 1),((((G i).1):Nat)≤((G i).1)),(AP (((G i).1)) (fun r=>[.int .i64 ((G i).2 r)]))]))]):=by kernel_rfl
theorem agb (N:Nat) (D:BM) (m:Nat) (f:Nat→Int) (c:Nat) (G:Nat→T_IntS) (t:Nat) (v:Int) (i:Nat) :
    zM 0 [rg 1,.dec true,rg 5,rg 20,.dec false,rg 2,.head] zf10 (agT N D m f c G t v i) [0,1] 1 (agT N D m f c G t v (i+1)) =
    some (zf10,zD [((decide ((↑i:Int)<(↑c:Int)))=true),(IL 0 (↑i:Int)),(IT (↑i:Int) (↑c:Int)),(NT i c),(IL 0 v),(IT v (↑N:Int)),(IL 0 0),(IT 0 (↑(G i).1:Int)),(NT 0 ((G i).1)),(IL 0 ((G i).2 0)),(IT ((G i).2 0) (↑N:Int)),(AG (D v.toNat ((G i).2 0).toNat)),(((D v.toNat ((G i).2 0).toNat)=true)→(IL 0 0)),(((D v.toNat ((G i).2 0).toNat)=true)→(IT 0 (↑(G i).1:Int))),(((D v.toNat ((G i).2 0).toNat)=true)→(NT i c)),(((D v.toNat ((G i).2 0).toNat)=true)→(NT 0 ((G i).1))),(((D v.toNat ((G i).2 0).toNat)=true)→(IL 0 ((G i).2 0))),(((D v.toNat ((G i).2 0).toNat)=true)→(IT ((G i).2 0) (↑N:Int))),(((D v.toNat ((G i).2 0).toNat)=true)→(IL 0 v)),(((D v.toNat ((G i).2 0).toNat)=true)→(IT v (↑N:Int))),((bif D v.toNat ((G i).2 0).toNat then D ((G i).2 0).toNat v.toNat else false)=false),(ZLo ((↑i:Int)+1)),(ZHi ((↑i:Int)+1)),(AN 0),(AN c),(AN N),(AP N (fun i_1=>[.seq false 1 N (fun i_2=>[.bool (D i_1 i_2)])])),(AI v),(false=false),(AN m),(AP m (fun i_1=>[.int .i64 (f i_1)])),(AI ((↑m:Int))),(AI ((↑t:Int))),(AI ((↑c:Int))),((((↑i:Int)+1):Int)=(↑(i+1):Int)),(AN 1),(NL c c),(AA c (fun i_1=>[.ar 1 ⟨1,some i_1⟩ 0 ((G i_1).1)])),(∀ i_1:Nat,(((i_1:Nat)<c)→All [(AN 1),((((G i_1).1):Nat)≤((G i_1).1)),(AP (((G i_1).1)) (fun r=>[.int .i64 ((G i_1).2 r)]))]))] [0,1,2,3,4,5,6,7,3,8,9,10,11,12,13,11,14,15,11,11,16,17,11,11,11,18,19,11,11,20,21,22,23,24,25,26,27,28,29,30,31,32,23,24,33,34,35,36,37,36,38]):=by kernel_rfl
theorem agc (N:Nat) (D:BM) (m:Nat) (f:Nat→Int) (c:Nat) (G:Nat→T_IntS) (t:Nat) (v:Int) (i:Nat) :
    zM 0 [rg 1,.dec true,rg 5,rg 20,.dec true,rg 8,rg 1,rg 2,.dec false,rg 2,.head] zf10 (agT N D m f c G t v i) [0,.ins 1 i 994] 1 (agS N D m f c (apG G i v) (t+1)) =
    some (zf50,zD [((decide ((↑i:Int)<(↑c:Int)))=true),(IL 0 (↑i:Int)),(IT (↑i:Int) (↑c:Int)),(NT i c),(IL 0 v),(IT v (↑N:Int)),(IL 0 0),(IT 0 (↑(G i).1:Int)),(NT 0 ((G i).1)),(IL 0 ((G i).2 0)),(IT ((G i).2 0) (↑N:Int)),(AG (D v.toNat ((G i).2 0).toNat)),(((D v.toNat ((G i).2 0).toNat)=true)→(IL 0 0)),(((D v.toNat ((G i).2 0).toNat)=true)→(IT 0 (↑(G i).1:Int))),(((D v.toNat ((G i).2 0).toNat)=true)→(NT i c)),(((D v.toNat ((G i).2 0).toNat)=true)→(NT 0 ((G i).1))),(((D v.toNat ((G i).2 0).toNat)=true)→(IL 0 ((G i).2 0))),(((D v.toNat ((G i).2 0).toNat)=true)→(IT ((G i).2 0) (↑N:Int))),(((D v.toNat ((G i).2 0).toNat)=true)→(IL 0 v)),(((D v.toNat ((G i).2 0).toNat)=true)→(IT v (↑N:Int))),((bif D v.toNat ((G i).2 0).toNat then D ((G i).2 0).toNat v.toNat else false)=true),(NL 1 1),(NL ((G i).1) ((G i).1)),(NL (((G i).1+1)*8) 140737488355328),(NL ((G i).1+1) 9223372036854775807),((false=true)→ ((c:Nat)=1)),((!true)=false),(ZLo ((↑t:Int)+1)),(ZHi ((↑t:Int)+1)),(AN 0),(AN c),(AN N),(AP N (fun i_1=>[.seq false 1 N (fun i_2=>[.bool (D i_1 i_2)])])),(AN m),(AP m (fun i_1=>[.int .i64 (f i_1)])),(AI ((↑m:Int))),((((↑t:Int)+1):Int)=(↑(t+1):Int)),(AN 1),(NL c c),(CV [(0,⟨false,1,c,(fun i_2=>(if (i_2=i) then [.ar 1 994 0 ((G i).1+1)] else [.ar 1 ⟨1,some i_2⟩ 0 ((G i_2).1)]))⟩),(994,⟨false,1,((G i).1+1),(fun i_2=>(if (i_2<(G i).1) then [.p (.int .i64 ((G i).2 i_2))] else [.p (.int .i64 v)]))⟩),(1,⟨true,0,c,(fun i_2=>(if (i_2=i) then [] else [.p (.seq false 1 ((G i_2).1) (fun i_3=>[.int .i64 ((G i_2).2 i_3)]))]))⟩),(962,⟨false,1,1,(fun i_2=>[.p (.int .i64 v)])⟩)] [0,.ins 1 i 994] 1 c (fun i_1=>if (i_1=i) then [.ar 1 994 0 ((G i).1+1)] else [.ar 1 ⟨1,some i_1⟩ 0 ((G i_1).1)]) (fun i_1=>[.ar 1 ⟨1,some i_1⟩ 0 ((apG G i v i_1).1)])),(∀ i_1:Nat,(((i_1:Nat)<c)→(((i_1:Nat)≠i)→(((i_1:Nat)<c)∧All (famE (if (i_1=i) then [] else [.p (.seq false 1 ((G i_1).1) (fun i_2=>[.int .i64 ((G i_1).2 i_2)]))]) [.p (.seq false 1 ((apG G i v i_1).1) (fun i_2=>[.int .i64 ((apG G i v i_1).2 i_2)]))]))))),(((i:Nat)<c)→ All [(AN 1),((((apG G i v i).1):Nat)≤((G i).1+1)),(∀ r:Nat,(((r:Nat)<((apG G i v i).1))→(([(toP (List.getD ((if (r<(G i).1) then [.p (.int .i64 ((G i).2 r))] else [.p (.int .i64 v)]):List AV) 0 (.p .any)))]:List PV)=[.int .i64 ((apG G i v i).2 r)])))])] [0,1,2,3,4,5,6,7,3,8,9,10,11,12,13,11,14,15,11,11,16,17,11,11,11,18,19,11,11,20,21,3,22,23,24,1,2,3,25,26,27,28,29,30,31,32,33,34,35,36,37,38,39,40,41]):=by kernel_rfl
theorem agd (N:Nat) (D:BM) (m:Nat) (f:Nat→Int) (c:Nat) (G:Nat→T_IntS) (t:Nat) (v:Int) :
    zM 0 [rg 1,.dec false,rg 2,.dec true,rg 6,rg 2,.head] zf10 (agT N D m f c G t v c) [226,.ins 1 c 162] 1 (agS N D m f (c+1) (snR5 c G (nzL (1,fun _=>v))) (t+1)) =
    some (zf50,[((decide ((↑c:Int)<(↑c:Int)))=false),((!false)=true),(NL 1 1),(NL c c),(NL ((c+1)*24) 140737488355328),(NL (c+1) 9223372036854775807),(ZLo ((↑t:Int)+1)),(ZHi ((↑t:Int)+1)),(AN 0),(AN ((c+1))),(AN N),(AP N (fun i=>[.seq false 1 N (fun i_1=>[.bool (D i i_1)])])),(AN m),(AP m (fun i=>[.int .i64 (f i)])),(AI ((↑m:Int))),((((↑t:Int)+1):Int)=(↑(t+1):Int)),(AN 1),(NL (c+1) (c+1)),(CV [(226,⟨false,1,(c+1),(fun i_1=>(if (i_1<c) then [.ar 1 ⟨1,some i_1⟩ 0 ((G i_1).1)] else [.ar 1 162 0 1]))⟩),(194,⟨false,1,1,(fun i_1=>[.ar 1 162 0 1])⟩),(162,⟨false,1,1,(fun i_1=>[.p (.int .i64 v)])⟩),(1,⟨true,0,c,(fun i_1=>[.p (.seq false 1 ((G i_1).1) (fun i_2=>[.int .i64 ((G i_1).2 i_2)]))])⟩)] [226,.ins 1 c 162] 1 (c+1) (fun i=>if (i<c) then [.ar 1 ⟨1,some i⟩ 0 ((G i).1)] else [.ar 1 162 0 1]) (fun i=>[.ar 1 ⟨1,some i⟩ 0 ((snR5 c G (nzL (1,fun x=>v)) i).1)])),(∀ i:Nat,(((i:Nat)<(c+1))→(((i:Nat)≠c)→(((i:Nat)<c)∧All [(AN 1),((((snR5 c G (nzL (1,fun x=>v)) i).1):Nat)≤((G i).1)),(∀ r:Nat,(((r:Nat)<((snR5 c G (nzL (1,fun x=>v)) i).1))→(([.int .i64 ((G i).2 r)]:List PV)=[.int .i64 ((snR5 c G (nzL (1,fun x=>v)) i).2 r)])))])))),(((c:Nat)<(c+1))→ All [(AN 1),((((snR5 c G (nzL (1,fun x=>v)) c).1):Nat)≤1),(∀ r:Nat,(((r:Nat)<((snR5 c G (nzL (1,fun x=>v)) c).1))→(([.int .i64 v]:List PV)=[.int .i64 ((snR5 c G (nzL (1,fun x=>v)) c).2 r)])))])]):=by kernel_rfl
theorem agf (N:Nat) (D:BM) (m:Nat) (f:Nat→Int) (c:Nat) (G G2:Nat→T_IntS) (t:Nat) :
    zP Tryz.f252 0 [rg 1,.dec false,rg 3] zf50 (agS N D m f c G t) [] 2 [] (.tup [rsL c G2,.p (.bool true)]) =
    some [((decide ((↑t:Int)<(↑m:Int)))=false),(AN 1),(NL c c),(∀ i:Nat,(((i:Nat)<c)→All [((i:Nat)<c),(AN 1),((((G i).1):Nat)≤((G i).1))])),(AN c),(∀ i:Nat,(((i:Nat)<c)→(([.seq false 1 ((G i).1) (fun i_1=>[.int .i64 ((G i).2 i_1)])]:List PV)=[.seq false 1 ((G2 i).1) (fun i_1=>[.int .i64 ((G2 i).2 i_1)])]))),(true=true),(false=false),(∀ i:Nat,(((i:Nat)<c)→All [(false=false),(AE (((G2 i).1)))]))]:=by kernel_rfl
theorem bgz (p:T_Pinned) (nb:Nat) (o:Nat→Int) (b:Bool) (m:Nat) (f:Nat→Int) :
    zT Tryz.f244 [rg 3,rg 2,rm [(1,oc [] (.tup [fzL nb o,.p (.bool b)]))] 5,rm [(1,oc [(0,iOb m f)] (.ar 1 0 0 m))] 1,rg 1,.head] [pinA p] [0,96] (bgS p nb o b m f 0 (fun _=>(0,z0)) 0) =
    some (zf51,zD [(NT 0 1),zE 245 [(zf31 p)] [] (.tup [.p (.seq false 1 nb (fun i=>[.int .i64 (o i)])),.p (.bool b)]),zE 247 [(zf31 p)] [(0,⟨false,1,m,(fun i=>[.p (.int .i64 (f i))])⟩)] (.ar 1 0 0 m),(AI p.1.1),(AN p.1.2.1.1),(AP p.1.2.1.1 (fun i=>[.int .i64 ((p.1.2.1.2 i).1),.int .i64 ((p.1.2.1.2 i).2.1)])),(AN p.2.1.1),(AP p.2.1.1 (fun i=>[.int .i64 (p.2.1.2 i)])),(AN 0),(AN nb),(AP nb (fun i=>[.int .i64 (o i)])),(b=b),(AN 1),(NL m m),(AN m),(AP m (fun i=>[.int .i64 (f i)])),((0:Int)=(↑0:Int)),((([AV.p (PV.int IntKind.i64 p.1.1),graphL p.1.2.1,inL p.2.1].length):Nat)=3),(NL 1 1),(NL 0 0),(∀ i:Nat,(((i:Nat)<0)→(All []∧(([.p (.nil)]:List AV)=[.p (.seq false 1 0 (fun i_1=>[.int .i64 ((0,z0).2 i_1)]))]))))] [0,1,0,2,3,4,5,6,7,8,8,8,9,10,11,12,13,14,15,16,17,18,18,3,4,5,6,7,12,19,20]):=by kernel_rfl
theorem bga (p:T_Pinned) (nb:Nat) (o:Nat→Int) (m:Nat) (f:Nat→Int) (c:Nat) (R:Nat→T_IntS) (i:Nat) :
    zM 0 [rg 7,.dec true,rg 2,rg 1,.head] zf51 (bgS p nb o true m f c R i) [0,1,226] 1 (bgT p nb o m f c R i 0 z0 0) =
    some (zf14,zD [(AG (decide ((↑i:Int)<(↑m:Int)))),((bif decide ((↑i:Int)<(↑m:Int)) then true else false)=true),(AI p.1.1),(AN p.1.2.1.1),(AP p.1.2.1.1 (fun i_1=>[.int .i64 ((p.1.2.1.2 i_1).1),.int .i64 ((p.1.2.1.2 i_1).2.1)])),(AN p.2.1.1),(AP p.2.1.1 (fun i_1=>[.int .i64 (p.2.1.2 i_1)])),(AN 0),(AN c),(AN nb),(AP nb (fun i_1=>[.int .i64 (o i_1)])),(true=true),(AN m),(AP m (fun i_1=>[.int .i64 (f i_1)])),(AI ((↑i:Int))),((0:Int)=(↑0:Int)),(AN 3),(NL 1 1),(AN 1),(NL c c),(AA c (fun i_1=>[.p (.seq false 1 ((R i_1).1) (fun i_2=>[.int .i64 ((R i_1).2 i_2)]))])),(NL 0 0),(∀ i_1:Nat,(((i_1:Nat)<0)→(All []∧(([.p (.int .i64 0)]:List AV)=[.p (.int .i64 (z0 i_1))]))))] [0,1,2,3,4,5,6,7,7,8,9,10,11,12,13,14,7,7,15,16,17,17,2,3,4,5,6,18,19,20,18,21,22]):=by kernel_rfl
theorem bgb (p:T_Pinned) (nb:Nat) (o:Nat→Int) (m:Nat) (f:Nat→Int) (c:Nat) (R:Nat→T_IntS) (i d:Nat) (h:Nat→Int) (k a1 a2:Nat) (h1 h2 h3:Nat→Int) :
    zM 0 [rg 4,.dec true,rm [(6,oc [(0,iOb a1 h1)] (.ar 1 0 0 a1)),(4,oc [] (.p (.bool true))),(1,gT),(0,gT),(0,gT),(0,gT),(0,gT),(0,gT),(0,⟨true,(some ⟨[],[],[],1,[(0,iOb a2 h2)],.ar 1 0 0 a2⟩),some true⟩),(0,gT),(0,gT),(0,gT),(0,gT),(0,⟨true,(some ⟨[],[],[],1,[],.p (.bool true)⟩),some true⟩),(0,gT)] 0,.dec true,rg 8,rg 3,.head] zf14 (bgT p nb o m f c R i d h k) [0,1,1155] 1 (bgT p nb o m f c R i (d+1) h3 (k+1)) =
    some (zf14,zD [((decide ((↑k:Int)<(↑m:Int)))=true),(NT 0 1),(IL 0 (↑i:Int)),(IT (↑i:Int) (↑m:Int)),zE 246 [(zf30 p),.p (.seq true 1 nb (fun i_1=>[.int .i64 (o i_1)])),.p (.int .i64 (f i))] (zf120 a1 h1) (.ar 1 0 0 a1),(IL 0 (↑k:Int)),(IT (↑k:Int) (↑m:Int)),(AN 1),(NL a1 a1),zE 172 [.p (.seq true 1 a1 (fun i_1=>[.int .i64 (h1 i_1)])),.p (.int .i64 (f k))] [] (.p (.bool true)),(true=true),zE 246 [(zf30 p),.p (.seq true 1 nb (fun i_1=>[.int .i64 (o i_1)])),.p (.int .i64 (f k))] (zf120 a2 h2) (.ar 1 0 0 a2),(NL a2 a2),zE 172 [.p (.seq true 1 a2 (fun i_1=>[.int .i64 (h2 i_1)])),.p (.int .i64 (f i))] [] (.p (.bool true)),(NL 1 1),(NL d d),(NL ((d+1)*8) 140737488355328),(NL (d+1) 9223372036854775807),(ZLo ((↑k:Int)+1)),(ZHi ((↑k:Int)+1)),(AI p.1.1),(AN p.1.2.1.1),(AP p.1.2.1.1 (fun i_1=>[.int .i64 ((p.1.2.1.2 i_1).1),.int .i64 ((p.1.2.1.2 i_1).2.1)])),(AN p.2.1.1),(AP p.2.1.1 (fun i_1=>[.int .i64 (p.2.1.2 i_1)])),(AN 0),(AN c),(AN nb),(AP nb (fun i_1=>[.int .i64 (o i_1)])),(AN m),(AP m (fun i_1=>[.int .i64 (f i_1)])),(AI ((↑i:Int))),(AN ((d+1))),((((↑k:Int)+1):Int)=(↑(k+1):Int)),(AN 3),(NL c c),(AA c (fun i_1=>[.p (.seq false 1 ((R i_1).1) (fun i_2=>[.int .i64 ((R i_1).2 i_2)]))])),(NL (d+1) (d+1)),(CV [(1155,⟨false,1,(d+1),(fun i_2=>(if (i_2<d) then [.p (.int .i64 (h i_2))] else [.p (.int .i64 (f k))]))⟩),(1123,⟨false,1,1,(fun i_2=>[.p (.int .i64 (f k))])⟩),(739,⟨false,1,a2,(fun i_2=>[.p (.int .i64 (h2 i_2))])⟩),(323,⟨false,1,a1,(fun i_2=>[.p (.int .i64 (h1 i_2))])⟩),(0,⟨true,3,1,(fun i_2=>[.p (.int .i64 p.1.1),.p (.seq true 2 p.1.2.1.1 (fun i_3=>[.int .i64 ((p.1.2.1.2 i_3).1),.int .i64 ((p.1.2.1.2 i_3).2.1)])),.p (.seq true 1 p.2.1.1 (fun i_3=>[.int .i64 (p.2.1.2 i_3)]))])⟩),(1,⟨false,1,c,(fun i_2=>[.p (.seq false 1 ((R i_2).1) (fun i_3=>[.int .i64 ((R i_2).2 i_3)]))])⟩)] [0,1,1155] 1 (d+1) (fun i_1=>if (i_1<d) then [.p (.int .i64 (h i_1))] else [.p (.int .i64 (f k))]) (fun i_1=>[.p (.int .i64 (h3 i_1))]))] [0,1,2,3,4,5,6,7,8,9,10,1,10,10,10,10,5,6,10,10,11,10,10,10,2,3,10,10,7,12,13,10,10,5,6,14,15,16,17,18,19,20,21,22,23,24,25,25,26,27,28,10,29,30,31,25,32,33,34,14,14,20,21,22,23,24,7,35,36,7,37,38]):=by kernel_rfl
theorem bgc (p:T_Pinned) (nb:Nat) (o:Nat→Int) (m:Nat) (f:Nat→Int) (c:Nat) (R:Nat→T_IntS) (i d:Nat) (h:Nat→Int) (k a1 a2:Nat) (h1 h2:Nat→Int) :
    zM 0 [rg 4,.dec true,rm [(6,oc [(0,iOb a1 h1)] (.ar 1 0 0 a1)),(4,oc [] (.p (.bool true))),(1,gT),(0,gT),(0,gT),(0,gT),(0,gT),(0,gT),(0,⟨true,(some ⟨[],[],[],1,[(0,iOb a2 h2)],.ar 1 0 0 a2⟩),some true⟩),(0,gT),(0,gT),(0,gT),(0,gT),(0,⟨true,(some ⟨[],[],[],1,[],.p (.bool false)⟩),some true⟩),(0,gT)] 0,.dec false,rg 3,.head] zf14 (bgT p nb o m f c R i d h k) [0,1,2] 1 (bgT p nb o m f c R i d h (k+1)) =
    some (zf14,zD [((decide ((↑k:Int)<(↑m:Int)))=true),(NT 0 1),(IL 0 (↑i:Int)),(IT (↑i:Int) (↑m:Int)),zE 246 [(zf30 p),.p (.seq true 1 nb (fun i_1=>[.int .i64 (o i_1)])),.p (.int .i64 (f i))] (zf120 a1 h1) (.ar 1 0 0 a1),(IL 0 (↑k:Int)),(IT (↑k:Int) (↑m:Int)),(AN 1),(NL a1 a1),zE 172 [.p (.seq true 1 a1 (fun i_1=>[.int .i64 (h1 i_1)])),.p (.int .i64 (f k))] [] (.p (.bool true)),(true=true),zE 246 [(zf30 p),.p (.seq true 1 nb (fun i_1=>[.int .i64 (o i_1)])),.p (.int .i64 (f k))] (zf120 a2 h2) (.ar 1 0 0 a2),(NL a2 a2),zE 172 [.p (.seq true 1 a2 (fun i_1=>[.int .i64 (h2 i_1)])),.p (.int .i64 (f i))] [] (.p (.bool false)),(false=false),(ZLo ((↑k:Int)+1)),(ZHi ((↑k:Int)+1)),(AI p.1.1),(AN p.1.2.1.1),(AP p.1.2.1.1 (fun i_1=>[.int .i64 ((p.1.2.1.2 i_1).1),.int .i64 ((p.1.2.1.2 i_1).2.1)])),(AN p.2.1.1),(AP p.2.1.1 (fun i_1=>[.int .i64 (p.2.1.2 i_1)])),(AN 0),(AN c),(AN nb),(AP nb (fun i_1=>[.int .i64 (o i_1)])),(AN m),(AP m (fun i_1=>[.int .i64 (f i_1)])),(AI ((↑i:Int))),(AN d),((((↑k:Int)+1):Int)=(↑(k+1):Int)),(AN 3),(NL 1 1),(NL c c),(AA c (fun i_1=>[.p (.seq false 1 ((R i_1).1) (fun i_2=>[.int .i64 ((R i_1).2 i_2)]))])),(NL d d),(AA d (fun i_1=>[.p (.int .i64 (h i_1))]))] [0,1,2,3,4,5,6,7,8,9,10,1,10,10,10,10,5,6,10,10,11,10,10,10,2,3,10,10,7,12,13,10,14,15,16,17,18,19,20,21,22,22,23,24,25,10,26,27,28,22,29,30,31,32,32,17,18,19,20,21,7,33,34,7,35,36]):=by kernel_rfl
theorem bgd (p:T_Pinned) (nb:Nat) (o:Nat→Int) (m:Nat) (f:Nat→Int) (c:Nat) (R:Nat→T_IntS) (i d:Nat) (h:Nat→Int) (k a1:Nat) (h1:Nat→Int) :
    zM 0 [rg 4,.dec true,rm [(6,oc [(0,iOb a1 h1)] (.ar 1 0 0 a1)),(4,oc [] (.p (.bool false))),(1,gF),(0,gF),(0,gF),(0,gF),(0,gF),(0,gF),(0,gF),(0,gF),(0,gF),(0,gF),(0,gF),(0,gF),(0,gF)] 0,.dec false,rg 3,.head] zf14 (bgT p nb o m f c R i d h k) [0,1,2] 1 (bgT p nb o m f c R i d h (k+1)) =
    some (zf14,zD [((decide ((↑k:Int)<(↑m:Int)))=true),(NT 0 1),(IL 0 (↑i:Int)),(IT (↑i:Int) (↑m:Int)),zE 246 [(zf30 p),.p (.seq true 1 nb (fun i_1=>[.int .i64 (o i_1)])),.p (.int .i64 (f i))] (zf120 a1 h1) (.ar 1 0 0 a1),(IL 0 (↑k:Int)),(IT (↑k:Int) (↑m:Int)),(AN 1),(NL a1 a1),zE 172 [.p (.seq true 1 a1 (fun i_1=>[.int .i64 (h1 i_1)])),.p (.int .i64 (f k))] [] (.p (.bool false)),(false=false),(ZLo ((↑k:Int)+1)),(ZHi ((↑k:Int)+1)),(AI p.1.1),(AN p.1.2.1.1),(AP p.1.2.1.1 (fun i_1=>[.int .i64 ((p.1.2.1.2 i_1).1),.int .i64 ((p.1.2.1.2 i_1).2.1)])),(AN p.2.1.1),(AP p.2.1.1 (fun i_1=>[.int .i64 (p.2.1.2 i_1)])),(AN 0),(AN c),(AN nb),(AP nb (fun i_1=>[.int .i64 (o i_1)])),(true=true),(AN m),(AP m (fun i_1=>[.int .i64 (f i_1)])),(AI ((↑i:Int))),(AN d),((((↑k:Int)+1):Int)=(↑(k+1):Int)),(AN 3),(NL 1 1),(NL c c),(AA c (fun i_1=>[.p (.seq false 1 ((R i_1).1) (fun i_2=>[.int .i64 ((R i_1).2 i_2)]))])),(NL d d),(AA d (fun i_1=>[.p (.int .i64 (h i_1))]))] [0,1,2,3,4,5,6,7,8,9,10,10,10,10,10,10,10,10,10,10,10,10,10,10,11,12,13,14,15,16,17,18,18,19,20,21,22,23,24,25,18,26,27,28,29,29,13,14,15,16,17,7,30,31,7,32,33]):=by kernel_rfl
theorem bge (p:T_Pinned) (nb:Nat) (o:Nat→Int) (m:Nat) (f:Nat→Int) (c:Nat) (R:Nat→T_IntS) (i d:Nat) (h:Nat→Int) (k:Nat) :
    zM 0 [rg 4,.dec false,rg 8,.dec true,rg 5,rg 3,.head] zf14 (bgT p nb o m f c R i d h k) [0,483] 1 (bgS p nb o true m f (c+1) (snR5 c R (d,h)) (i+1)) =
    some (zf51,zD [((decide ((↑k:Int)<(↑m:Int)))=false),(IL 0 0),(IT 0 (↑d:Int)),(NT 0 d),(IL 0 (↑i:Int)),(IT (↑i:Int) (↑m:Int)),((h 0==f i)=true),(NL 1 1),(NL c c),(NL ((c+1)*24) 140737488355328),(NL (c+1) 9223372036854775807),(ZLo ((↑i:Int)+1)),(ZHi ((↑i:Int)+1)),(AI p.1.1),(AN p.1.2.1.1),(AP p.1.2.1.1 (fun i_1=>[.int .i64 ((p.1.2.1.2 i_1).1),.int .i64 ((p.1.2.1.2 i_1).2.1)])),(AN p.2.1.1),(AP p.2.1.1 (fun i_1=>[.int .i64 (p.2.1.2 i_1)])),(AN 0),(AN ((c+1))),(AN nb),(AP nb (fun i_1=>[.int .i64 (o i_1)])),(true=true),(AN m),(AP m (fun i_1=>[.int .i64 (f i_1)])),((((↑i:Int)+1):Int)=(↑(i+1):Int)),(AN 3),(AN 1),(NL (c+1) (c+1)),(CV [(483,⟨false,1,(c+1),(fun i_2=>(if (i_2<c) then [.p (.seq false 1 ((R i_2).1) (fun i_3=>[.int .i64 ((R i_2).2 i_3)]))] else [.ar 1 2 0 d]))⟩),(451,⟨false,1,1,(fun i_2=>[.ar 1 2 0 d])⟩),(0,⟨true,3,1,(fun i_2=>[.p (.int .i64 p.1.1),.p (.seq true 2 p.1.2.1.1 (fun i_3=>[.int .i64 ((p.1.2.1.2 i_3).1),.int .i64 ((p.1.2.1.2 i_3).2.1)])),.p (.seq true 1 p.2.1.1 (fun i_3=>[.int .i64 (p.2.1.2 i_3)]))])⟩),(2,⟨false,1,d,(fun i_2=>[.p (.int .i64 (h i_2))])⟩)] [0,483] 1 (c+1) (fun i_1=>if (i_1<c) then [.p (.seq false 1 ((R i_1).1) (fun i_2=>[.int .i64 ((R i_1).2 i_2)]))] else [.ar 1 2 0 d]) (fun i_1=>[.p (.seq false 1 ((snR5 c R (d,h) i_1).1) (fun i_2=>[.int .i64 ((snR5 c R (d,h) i_1).2 i_2)]))]))] [0,1,2,3,4,5,6,7,8,9,10,11,12,13,14,15,16,17,18,18,19,20,21,22,23,24,25,26,7,7,13,14,15,16,17,27,28,29]):=by kernel_rfl
theorem bgf (p:T_Pinned) (nb:Nat) (o:Nat→Int) (m:Nat) (f:Nat→Int) (c:Nat) (R:Nat→T_IntS) (i d:Nat) (h:Nat→Int) (k:Nat) :
    zM 0 [rg 4,.dec false,rg 8,.dec false,rg 3,.head] zf14 (bgT p nb o m f c R i d h k) [0,1] 1 (bgS p nb o true m f c R (i+1)) =
    some (zf51,zD [((decide ((↑k:Int)<(↑m:Int)))=false),(IL 0 0),(IT 0 (↑d:Int)),(NT 0 d),(IL 0 (↑i:Int)),(IT (↑i:Int) (↑m:Int)),((h 0==f i)=false),(ZLo ((↑i:Int)+1)),(ZHi ((↑i:Int)+1)),(AI p.1.1),(AN p.1.2.1.1),(AP p.1.2.1.1 (fun i_1=>[.int .i64 ((p.1.2.1.2 i_1).1),.int .i64 ((p.1.2.1.2 i_1).2.1)])),(AN p.2.1.1),(AP p.2.1.1 (fun i_1=>[.int .i64 (p.2.1.2 i_1)])),(AN 0),(AN c),(AN nb),(AP nb (fun i_1=>[.int .i64 (o i_1)])),(true=true),(AN m),(AP m (fun i_1=>[.int .i64 (f i_1)])),((((↑i:Int)+1):Int)=(↑(i+1):Int)),(AN 3),(NL 1 1),(AN 1),(NL c c),(AA c (fun i_1=>[.p (.seq false 1 ((R i_1).1) (fun i_2=>[.int .i64 ((R i_1).2 i_2)]))]))] [0,1,2,3,4,5,6,7,8,9,10,11,12,13,14,14,15,16,17,18,19,20,21,22,23,23,9,10,11,12,13,24,25,26]):=by kernel_rfl
theorem bgg (p:T_Pinned) (nb:Nat) (o:Nat→Int) (b:Bool) (m:Nat) (f:Nat→Int) (c:Nat) (R:Nat→T_IntS) (i:Nat) :
    zP Tryz.f244 0 [rg 7,.dec false,rg 4] zf51 (bgS p nb o b m f c R i) [] 1 [] (.tup [rsL c R,.p (.bool b)]) =
    some [(AG (decide ((↑i:Int)<(↑m:Int)))),((bif decide ((↑i:Int)<(↑m:Int)) then b else false)=false),(AN 1),(NL c c),(AN c),(AP c (fun i_1=>[.seq false 1 ((R i_1).1) (fun i_2=>[.int .i64 ((R i_1).2 i_2)])])),(b=b),(false=false),(∀ i_1:Nat,(((i_1:Nat)<c)→All [(false=false),(AE (((R i_1).1)))]))]:=by kernel_rfl
theorem cgn (p:T_Pinned) (c:Nat) (G:Nat→T_IntS) :
    zS Tryz.f144 [rg 3,rg 2,rm [(1,oc [] (.tup [rsL c G,.p (.bool false)]))] 5,rg 2,.dec true,rg 3] [pinA p] [] [] (.tup [rsL 0 (fun _=>(0,z0)),.p (.bool false)]) =
    some [(NT 0 1),zE 252 [(zf31 p)] [] ((zf105 c G)),((!false)=true),(AN 1),(NL 0 0),(AN 0),(∀ i:Nat,(((i:Nat)<0)→(([.nil]:List PV)=[.seq false 1 0 (fun i_1=>[.int .i64 ((0,z0).2 i_1)])]))),(false=false),(false=false),(∀ i:Nat,(((i:Nat)<0)→All [(false=false),(AE 0)]))]:=by kernel_rfl
theorem cgz (p:T_Pinned) (c:Nat) (G:Nat→T_IntS) :
    zT Tryz.f144 [rg 3,rg 2,rm [(1,oc [] (.tup [rsL c G,.p (.bool true)]))] 5,rg 2,.dec false,rg 2,.head] [pinA p] [0,96,448] (cgS p 0 (fun _=>(0,z0)) 0 z0 c G) =
    some (zf44,zD [(NT 0 1),zE 252 [(zf31 p)] [] ((zf106 c G)),((!true)=false),(AI p.1.1),(AN p.1.2.1.1),(AP p.1.2.1.1 (fun i=>[.int .i64 ((p.1.2.1.2 i).1),.int .i64 ((p.1.2.1.2 i).2.1)])),(AN p.2.1.1),(AP p.2.1.1 (fun i=>[.int .i64 (p.2.1.2 i)])),(AN 0),(AN c),(AP c (fun i=>[.seq false 1 ((G i).1) (fun i_1=>[.int .i64 ((G i).2 i_1)])])),((([AV.p (PV.int IntKind.i64 p.1.1),graphL p.1.2.1,inL p.2.1].length):Nat)=3),(NL 1 1),(AN 1),(NL 0 0),(∀ i:Nat,(((i:Nat)<0)→(All []∧(([.p (.nil)]:List AV)=[.p (.seq false 1 0 (fun i_1=>[.int .i64 ((0,z0).2 i_1)]))])))),(∀ i:Nat,(((i:Nat)<0)→(All []∧(([.p (.int .i64 0)]:List AV)=[.p (.int .i64 (z0 i))]))))] [0,1,2,3,4,5,6,7,8,8,8,9,10,8,8,11,12,12,3,4,5,6,7,13,14,15,13,14,16]):=by kernel_rfl
theorem cga (p:T_Pinned) (r:Nat) (R:Nat→T_IntS) (d:Nat) (D:Nat→Int) (c:Nat) (G:Nat→T_IntS) :
    zM 0 [rg 3,.dec true,rg 3,.head] zf44 (cgS p r R d D c G) [0,1,2] 1 (cgT p r R d D c G 0) =
    some (zf28,zD [((decide ((↑c:Int)>0))=true),(AI p.1.1),(AN p.1.2.1.1),(AP p.1.2.1.1 (fun i=>[.int .i64 ((p.1.2.1.2 i).1),.int .i64 ((p.1.2.1.2 i).2.1)])),(AN p.2.1.1),(AP p.2.1.1 (fun i=>[.int .i64 (p.2.1.2 i)])),(AN 0),(AN r),(AN c),(AP c (fun i=>[.seq false 1 ((G i).1) (fun i_1=>[.int .i64 ((G i).2 i_1)])])),(AN d),(AI ((↑c:Int))),((0:Int)=(↑0:Int)),(AN 3),(NL 1 1),(AN 1),(NL r r),(AA r (fun i=>[.p (.seq false 1 ((R i).1) (fun i_1=>[.int .i64 ((R i).2 i_1)]))])),(NL d d),(AA d (fun i=>[.p (.int .i64 (D i))]))] [0,1,2,3,4,5,6,6,7,8,9,6,10,8,9,11,12,13,14,14,1,2,3,4,5,15,16,17,15,18,19]):=by kernel_rfl
theorem cgb (p:T_Pinned) (r:Nat) (R:Nat→T_IntS) (d:Nat) (D:Nat→Int) (c:Nat) (G:Nat→T_IntS) (i n:Nat) (h:Nat→Int) :
    zM 0 [rg 1,.dec true,rg 5,rg 1,rm [(4,oc [(0,iOb n h)] (.ar 1 0 0 n))] 2,.head] zf28 (cgT p r R d D c G i) [0,1,2] 1 (cgU p r R d D c G i true n h 0) =
    some (zf5,zD [((decide ((↑i:Int)<(↑c:Int)))=true),(IL 0 (↑i:Int)),(IT (↑i:Int) (↑c:Int)),(NT 0 1),(IL 0 0),(IT 0 (↑(G i).1:Int)),zE 253 [(zf30 p),.p (.int .i64 ((G i).2 0))] [(0,⟨false,1,n,(fun i_1=>[.p (.int .i64 (h i_1))])⟩)] (.ar 1 0 0 n),(AI p.1.1),(AN p.1.2.1.1),(AP p.1.2.1.1 (fun i_1=>[.int .i64 ((p.1.2.1.2 i_1).1),.int .i64 ((p.1.2.1.2 i_1).2.1)])),(AN p.2.1.1),(AP p.2.1.1 (fun i_1=>[.int .i64 (p.2.1.2 i_1)])),(AN 0),(AN r),(AN c),(AP c (fun i_1=>[.seq false 1 ((G i_1).1) (fun i_2=>[.int .i64 ((G i_1).2 i_2)])])),(AN d),(AI ((↑i:Int))),(AN (((G i).1))),(AP (((G i).1)) (fun i_1=>[.int .i64 ((G i).2 i_1)])),(true=true),(AI ((↑c:Int))),(AN 1),(NL n n),(AN n),(AP n (fun i_1=>[.int .i64 (h i_1)])),(AI ((↑n:Int))),((0:Int)=(↑0:Int)),(AN 3),(NL 1 1),(NL r r),(AA r (fun i_1=>[.p (.seq false 1 ((R i_1).1) (fun i_2=>[.int .i64 ((R i_1).2 i_2)]))])),(NL d d),(AA d (fun i_1=>[.p (.int .i64 (D i_1))]))] [0,1,2,3,4,5,6,7,8,9,10,11,12,12,13,14,15,12,16,17,18,19,20,14,15,21,17,22,23,24,25,26,27,28,29,29,7,8,9,10,11,22,30,31,22,32,33]):=by kernel_rfl
theorem cgc (p:T_Pinned) (r:Nat) (R:Nat→T_IntS) (d:Nat) (D:Nat→Int) (c:Nat) (G:Nat→T_IntS) (i:Nat) (b:Bool) (n:Nat) (h:Nat→Int) (k:Nat) (b1 b2:Bool) :
    zM 0 [rg 1,.dec true,rg 3,rm [(4,oc [] (.p (.bool b1))),(3,oc [] (.p (.bool b2)))] 3,rg 2,.head] zf5 (cgU p r R d D c G i b n h k) [0,1,2] 1 (cgU p r R d D c G i (bif b then bif b1 then true else b2 else false) n h (k+1)) =
    some (zf5,zD [((decide ((↑k:Int)<(↑n:Int)))=true),(IL 0 (↑k:Int)),(IT (↑k:Int) (↑n:Int)),(AG b),((b=true)→ (AN 1)),((b=true)→(NL d d)),((b=true)→ zE 184 [.p (.seq true 1 d (fun i_1=>[.int .i64 (D i_1)])),.p (.int .i64 (h k))] [] (.p (.bool b1))),(AG (b&&!b1)),(((b&&!b1)=true)→ zE 184 [.p (.seq true 1 ((G i).1) (fun i_1=>[.int .i64 ((G i).2 i_1)])),.p (.int .i64 (h k))] [] (.p (.bool b2))),((b=true)→((b1=false)→ ((b&&!b1)=true))),(ZLo ((↑k:Int)+1)),(ZHi ((↑k:Int)+1)),(AI p.1.1),(AN p.1.2.1.1),(AP p.1.2.1.1 (fun i_1=>[.int .i64 ((p.1.2.1.2 i_1).1),.int .i64 ((p.1.2.1.2 i_1).2.1)])),(AN p.2.1.1),(AP p.2.1.1 (fun i_1=>[.int .i64 (p.2.1.2 i_1)])),(AN 0),(AN r),(AN c),(AP c (fun i_1=>[.seq false 1 ((G i_1).1) (fun i_2=>[.int .i64 ((G i_1).2 i_2)])])),(AN d),(AI ((↑i:Int))),(AN (((G i).1))),(AP (((G i).1)) (fun i_1=>[.int .i64 ((G i).2 i_1)])),((bif b then bif b1 then true else b2 else false)=(bif b then bif b1 then true else b2 else false)),(AI ((↑c:Int))),(AN n),(AP n (fun i_1=>[.int .i64 (h i_1)])),(AI ((↑n:Int))),((((↑k:Int)+1):Int)=(↑(k+1):Int)),(AN 3),(NL 1 1),(AN 1),(NL r r),(AA r (fun i_1=>[.p (.seq false 1 ((R i_1).1) (fun i_2=>[.int .i64 ((R i_1).2 i_2)]))])),(NL d d),(AA d (fun i_1=>[.p (.int .i64 (D i_1))]))] [0,1,2,3,3,4,5,6,3,7,7,8,3,9,3,10,11,12,13,14,15,16,17,17,18,19,20,17,21,22,23,24,25,19,20,26,22,27,28,29,30,31,32,32,12,13,14,15,16,33,34,35,33,36,37]):=by kernel_rfl
theorem cgd (p:T_Pinned) (r:Nat) (R:Nat→T_IntS) (d:Nat) (D:Nat→Int) (c:Nat) (G:Nat→T_IntS) (i:Nat) (n:Nat) (h:Nat→Int) (k:Nat) :
    zM 0 [rg 1,.dec false,rg 1,.dec true,rg 5,rg 4,rg 11,.head] zf5 (cgU p r R d D (c+1) G i true n h k) [0,163,291] 1 (cgS p (r+1) (snR5 r R (G i)) (d+(G i).1) (apI d D (G i).2) c (dlG G i)) =
    some (zf44,zD [((decide ((↑k:Int)<(↑n:Int)))=false),(true=true),(NL 1 1),(NL r r),(NL ((r+1)*24) 140737488355328),(NL (r+1) 9223372036854775807),(NL d d),(NL ((d+(G i).1)*8) 140737488355328),(NL (d+(G i).1) 9223372036854775807),(IL 0 0),(IL 0 (↑i:Int)),(IL (↑i:Int) (↑(c+1):Int)),(NL 0 0),(NL ((0+i)*24) 140737488355328),(NL (0+i) 9223372036854775807),(ZLo ((↑i:Int)+1)),(ZHi ((↑i:Int)+1)),(IL 0 ((↑i:Int)+1)),(IL ((↑i:Int)+1) (↑(c+1):Int)),(IL (↑(c+1):Int) (↑(c+1):Int)),(NL (0+i) (0+i)),(NL ((0+i+(c+1 - (i+1)))*24) 140737488355328),(NL (0+i+(c+1 - (i+1))) 9223372036854775807),(AI p.1.1),(AN p.1.2.1.1),(AP p.1.2.1.1 (fun i_1=>[.int .i64 ((p.1.2.1.2 i_1).1),.int .i64 ((p.1.2.1.2 i_1).2.1)])),(AN p.2.1.1),(AP p.2.1.1 (fun i_1=>[.int .i64 (p.2.1.2 i_1)])),(AN 0),(AN ((r+1))),(AN 1),(NL (0+i+(c+1 - (i+1))) (0+i+(c+1 - (i+1)))),(((0+i+(c+1 - (i+1))):Nat)=c),(∀ i_1:Nat,(((i_1:Nat)<(0+i+(c+1 - (i+1))))→(([(cellP false (if (i_1<0+i) then [.p (.seq false 1 ((G i_1).1) (fun i_2=>[.int .i64 ((G i_1).2 i_2)]))] else [.p (.seq false 1 ((G (i_1 - (0+i)+(i+1))).1) (fun i_2=>[.int .i64 ((G (i_1 - (0+i)+(i+1))).2 i_2)]))]) 0)]:List PV)=[.seq false 1 ((dlG G i i_1).1) (fun i_2=>[.int .i64 ((dlG G i i_1).2 i_2)])]))),(AN ((d+(G i).1))),(AN 3),(NL (r+1) (r+1)),(CV [(643,⟨false,1,(0+i+(c+1 - (i+1))),(fun i_2=>(if (i_2<0+i) then [.p (.seq false 1 ((G i_2).1) (fun i_3=>[.int .i64 ((G i_2).2 i_3)]))] else [.p (.seq false 1 ((G (i_2 - (0+i)+(i+1))).1) (fun i_3=>[.int .i64 ((G (i_2 - (0+i)+(i+1))).2 i_3)]))]))⟩),(291,⟨false,1,(d+(G i).1),(fun i_2=>(if (i_2<d) then [.p (.int .i64 (D i_2))] else [.p (.int .i64 ((G i).2 (i_2 - d)))]))⟩),(163,⟨false,1,(r+1),(fun i_2=>(if (i_2<r) then [.p (.seq false 1 ((R i_2).1) (fun i_3=>[.int .i64 ((R i_2).2 i_3)]))] else [.p (.seq false 1 ((G i).1) (fun i_3=>[.int .i64 ((G i).2 i_3)]))]))⟩),(131,⟨false,1,1,(fun i_2=>[.p (.seq false 1 ((G i).1) (fun i_3=>[.int .i64 ((G i).2 i_3)]))])⟩),(0,⟨true,3,1,(fun i_2=>[.p (.int .i64 p.1.1),.p (.seq true 2 p.1.2.1.1 (fun i_3=>[.int .i64 ((p.1.2.1.2 i_3).1),.int .i64 ((p.1.2.1.2 i_3).2.1)])),.p (.seq true 1 p.2.1.1 (fun i_3=>[.int .i64 (p.2.1.2 i_3)]))])⟩)] [0,163,291] 1 (r+1) (fun i_1=>if (i_1<r) then [.p (.seq false 1 ((R i_1).1) (fun i_2=>[.int .i64 ((R i_1).2 i_2)]))] else [.p (.seq false 1 ((G i).1) (fun i_2=>[.int .i64 ((G i).2 i_2)]))]) (fun i_1=>[.p (.seq false 1 ((snR5 r R (G i) i_1).1) (fun i_2=>[.int .i64 ((snR5 r R (G i) i_1).2 i_2)]))])),(NL (d+(G i).1) (d+(G i).1)),(CV [(643,⟨false,1,(0+i+(c+1 - (i+1))),(fun i_2=>(if (i_2<0+i) then [.p (.seq false 1 ((G i_2).1) (fun i_3=>[.int .i64 ((G i_2).2 i_3)]))] else [.p (.seq false 1 ((G (i_2 - (0+i)+(i+1))).1) (fun i_3=>[.int .i64 ((G (i_2 - (0+i)+(i+1))).2 i_3)]))]))⟩),(291,⟨false,1,(d+(G i).1),(fun i_2=>(if (i_2<d) then [.p (.int .i64 (D i_2))] else [.p (.int .i64 ((G i).2 (i_2 - d)))]))⟩),(163,⟨false,1,(r+1),(fun i_2=>(if (i_2<r) then [.p (.seq false 1 ((R i_2).1) (fun i_3=>[.int .i64 ((R i_2).2 i_3)]))] else [.p (.seq false 1 ((G i).1) (fun i_3=>[.int .i64 ((G i).2 i_3)]))]))⟩),(131,⟨false,1,1,(fun i_2=>[.p (.seq false 1 ((G i).1) (fun i_3=>[.int .i64 ((G i).2 i_3)]))])⟩),(0,⟨true,3,1,(fun i_2=>[.p (.int .i64 p.1.1),.p (.seq true 2 p.1.2.1.1 (fun i_3=>[.int .i64 ((p.1.2.1.2 i_3).1),.int .i64 ((p.1.2.1.2 i_3).2.1)])),.p (.seq true 1 p.2.1.1 (fun i_3=>[.int .i64 (p.2.1.2 i_3)]))])⟩)] [0,163,291] 1 (d+(G i).1) (fun i_1=>if (i_1<d) then [.p (.int .i64 (D i_1))] else [.p (.int .i64 ((G i).2 (i_1 - d)))]) (fun i_1=>[.p (.int .i64 (apI d D (G i).2 i_1))]))] [0,1,2,3,4,5,6,7,8,9,10,11,12,13,14,15,16,17,18,19,20,21,22,23,24,25,26,27,28,28,29,30,31,32,33,28,34,35,2,2,23,24,25,26,27,30,36,37,30,38,39]):=by kernel_rfl
theorem cge (p:T_Pinned) (r:Nat) (R:Nat→T_IntS) (d:Nat) (D:Nat→Int) (c:Nat) (G:Nat→T_IntS) (i:Nat) (n:Nat) (h:Nat→Int) (k:Nat) :
    zM 0 [rg 1,.dec false,rg 1,.dec false,rg 2,.head] zf5 (cgU p r R d D c G i false n h k) [0,1,2] 1 (cgT p r R d D c G (i+1)) =
    some (zf28,zD [((decide ((↑k:Int)<(↑n:Int)))=false),(false=false),(ZLo ((↑i:Int)+1)),(ZHi ((↑i:Int)+1)),(AI p.1.1),(AN p.1.2.1.1),(AP p.1.2.1.1 (fun i_1=>[.int .i64 ((p.1.2.1.2 i_1).1),.int .i64 ((p.1.2.1.2 i_1).2.1)])),(AN p.2.1.1),(AP p.2.1.1 (fun i_1=>[.int .i64 (p.2.1.2 i_1)])),(AN 0),(AN r),(AN c),(AP c (fun i_1=>[.seq false 1 ((G i_1).1) (fun i_2=>[.int .i64 ((G i_1).2 i_2)])])),(AN d),(AI ((↑c:Int))),((((↑i:Int)+1):Int)=(↑(i+1):Int)),(AN 3),(NL 1 1),(AN 1),(NL r r),(AA r (fun i_1=>[.p (.seq false 1 ((R i_1).1) (fun i_2=>[.int .i64 ((R i_1).2 i_2)]))])),(NL d d),(AA d (fun i_1=>[.p (.int .i64 (D i_1))]))] [0,1,2,3,4,5,6,7,8,9,9,10,11,12,9,13,11,12,14,15,16,17,17,4,5,6,7,8,18,19,20,18,21,22]):=by kernel_rfl
theorem cgg (p:T_Pinned) (r:Nat) (R:Nat→T_IntS) (d:Nat) (D:Nat→Int) (c:Nat) (G:Nat→T_IntS) :
    zP Tryz.f144 0 [rg 3,.dec false,rg 3] zf44 (cgS p r R d D c G) [] 1 [] (.tup [rsL r R,.p (.bool true)]) =
    some [((decide ((↑c:Int)>0))=false),(AN 1),(NL r r),(AN r),(AP r (fun i=>[.seq false 1 ((R i).1) (fun i_1=>[.int .i64 ((R i).2 i_1)])])),(true=true),(false=false),(∀ i:Nat,(((i:Nat)<r)→All [(false=false),(AE (((R i).1)))]))]:=by kernel_rfl
theorem dgz (p:T_Pinned) (c:Nat) (G:Nat→T_IntS) (b:Bool) (nb:Nat) (o:Nat→Int) (b2:Bool) :
    zT Tryz.f139 [rg 3,rg 2,rm [(1,oc [] (.tup [rsL c G,.p (.bool b)]))] 5,rm [(1,oc [] (.tup [fzL nb o,.p (.bool b2)]))] 5,rg 2,rg 1,.head] [pinA p] [0,96,608] (dgS p 0 (fun _=>(0,z0)) 0 z0 c G b nb o 0) =
    some (zf38,zD [(NT 0 1),zE 244 [(zf31 p)] [] (.tup [.p (.seq false 1 c (fun i=>[.seq false 1 ((G i).1) (fun i_1=>[.int .i64 ((G i).2 i_1)])])),.p (.bool b)]),zE 245 [(zf31 p)] [] (.tup [.p (.seq false 1 nb (fun i=>[.int .i64 (o i)])),.p (.bool b2)]),(AI p.1.1),(AN p.1.2.1.1),(AP p.1.2.1.1 (fun i=>[.int .i64 ((p.1.2.1.2 i).1),.int .i64 ((p.1.2.1.2 i).2.1)])),(AN p.2.1.1),(AP p.2.1.1 (fun i=>[.int .i64 (p.2.1.2 i)])),(AN 0),(AN c),(AP c (fun i=>[.seq false 1 ((G i).1) (fun i_1=>[.int .i64 ((G i).2 i_1)])])),(b=b),(AN nb),(AP nb (fun i=>[.int .i64 (o i)])),((0:Int)=(↑0:Int)),((([AV.p (PV.int IntKind.i64 p.1.1),graphL p.1.2.1,inL p.2.1].length):Nat)=3),(NL 1 1),(AN 1),(NL 0 0),(∀ i:Nat,(((i:Nat)<0)→(All []∧(([.p (.nil)]:List AV)=[.p (.seq false 1 0 (fun i_1=>[.int .i64 ((0,z0).2 i_1)]))])))),(∀ i:Nat,(((i:Nat)<0)→(All []∧(([.p (.int .i64 0)]:List AV)=[.p (.int .i64 (z0 i))]))))] [0,1,0,2,3,4,5,6,7,8,8,8,9,10,11,12,13,8,8,14,15,16,16,3,4,5,6,7,17,18,19,17,18,20]):=by kernel_rfl
theorem dga (p:T_Pinned) (r:Nat) (R:Nat→T_IntS) (d:Nat) (D:Nat→Int) (c:Nat) (G:Nat→T_IntS) (nb:Nat) (o:Nat→Int) (n:Nat) :
    zM 0 [rg 7,.dec true,rg 1,.head] zf38 (dgS p r R d D c G true nb o n) [0,1,2] 1 (dgT p r R d D c G nb o n 0) =
    some (zf20,zD [(AG (decide ((↑n:Int)<(↑c:Int)))),((bif decide ((↑n:Int)<(↑c:Int)) then true else false)=true),(AI p.1.1),(AN p.1.2.1.1),(AP p.1.2.1.1 (fun i=>[.int .i64 ((p.1.2.1.2 i).1),.int .i64 ((p.1.2.1.2 i).2.1)])),(AN p.2.1.1),(AP p.2.1.1 (fun i=>[.int .i64 (p.2.1.2 i)])),(AN 0),(AN r),(AN c),(AP c (fun i=>[.seq false 1 ((G i).1) (fun i_1=>[.int .i64 ((G i).2 i_1)])])),(true=true),(AN nb),(AP nb (fun i=>[.int .i64 (o i)])),(AN d),(AI ((↑n:Int))),((0:Int)=(↑0:Int)),(AN 3),(NL 1 1),(AN 1),(NL r r),(AA r (fun i=>[.p (.seq false 1 ((R i).1) (fun i_1=>[.int .i64 ((R i).2 i_1)]))])),(NL d d),(AA d (fun i=>[.p (.int .i64 (D i))]))] [0,1,2,3,4,5,6,7,7,8,9,10,11,12,13,7,14,15,16,17,18,18,2,3,4,5,6,19,20,21,19,22,23]):=by kernel_rfl
theorem dgb (p:T_Pinned) (r:Nat) (R:Nat→T_IntS) (d:Nat) (D:Nat→Int) (c:Nat) (G:Nat→T_IntS) (nb:Nat) (o:Nat→Int) (n i:Nat) :
    zM 0 [rg 4,.dec true,rm [(7,oc [] (.p (.bool true)))] 0,.dec true,rg 3,.head] zf20 (dgT p r R d D c G nb o n i) [0,1,2] 1 (dgT p r R d D c G nb o n (i+1)) =
    some (zf20,zD [((decide ((↑i:Int)<(↑c:Int)))=true),(IL 0 (↑i:Int)),(IT (↑i:Int) (↑c:Int)),(IL 0 0),(IT 0 (↑(G i).1:Int)),(AN 1),(NL d d),zE 172 [.p (.seq true 1 d (fun i_1=>[.int .i64 (D i_1)])),.p (.int .i64 ((G i).2 0))] [] (.p (.bool true)),(true=true),(ZLo ((↑i:Int)+1)),(ZHi ((↑i:Int)+1)),(AI p.1.1),(AN p.1.2.1.1),(AP p.1.2.1.1 (fun i_1=>[.int .i64 ((p.1.2.1.2 i_1).1),.int .i64 ((p.1.2.1.2 i_1).2.1)])),(AN p.2.1.1),(AP p.2.1.1 (fun i_1=>[.int .i64 (p.2.1.2 i_1)])),(AN 0),(AN r),(AN c),(AP c (fun i_1=>[.seq false 1 ((G i_1).1) (fun i_2=>[.int .i64 ((G i_1).2 i_2)])])),(AN nb),(AP nb (fun i_1=>[.int .i64 (o i_1)])),(AN d),(AI ((↑n:Int))),((((↑i:Int)+1):Int)=(↑(i+1):Int)),(AN 3),(NL 1 1),(NL r r),(AA r (fun i_1=>[.p (.seq false 1 ((R i_1).1) (fun i_2=>[.int .i64 ((R i_1).2 i_2)]))])),(AA d (fun i_1=>[.p (.int .i64 (D i_1))]))] [0,1,2,3,4,5,6,7,8,9,10,11,12,13,14,15,16,16,17,18,19,8,20,21,16,22,23,24,25,26,26,11,12,13,14,15,5,27,28,5,6,29]):=by kernel_rfl
theorem dgc (p:T_Pinned) (r:Nat) (R:Nat→T_IntS) (d:Nat) (D:Nat→Int) (c:Nat) (G:Nat→T_IntS) (nb:Nat) (o:Nat→Int) (n i m:Nat) (h:Nat→Int) :
    zM 0 [rg 4,.dec true,rm [(7,oc [] (.p (.bool false)))] 0,.dec false,rg 1,rm [(8,oc [(0,iOb m h)] (.ar 1 0 0 m))] 1,rg 1,.head] zf20 (dgT p r R d D c G nb o n i) [0,1,2] 1 (dgU p r R d D c G nb o n i true m h 0) =
    some (zf2,zD [((decide ((↑i:Int)<(↑c:Int)))=true),(IL 0 (↑i:Int)),(IT (↑i:Int) (↑c:Int)),(IL 0 0),(IT 0 (↑(G i).1:Int)),(AN 1),(NL d d),zE 172 [.p (.seq true 1 d (fun i_1=>[.int .i64 (D i_1)])),.p (.int .i64 ((G i).2 0))] [] (.p (.bool false)),(false=false),(NT 0 1),zE 246 [(zf30 p),.p (.seq true 1 nb (fun i_1=>[.int .i64 (o i_1)])),.p (.int .i64 ((G i).2 0))] [(0,⟨false,1,m,(fun i_1=>[.p (.int .i64 (h i_1))])⟩)] (.ar 1 0 0 m),(AI p.1.1),(AN p.1.2.1.1),(AP p.1.2.1.1 (fun i_1=>[.int .i64 ((p.1.2.1.2 i_1).1),.int .i64 ((p.1.2.1.2 i_1).2.1)])),(AN p.2.1.1),(AP p.2.1.1 (fun i_1=>[.int .i64 (p.2.1.2 i_1)])),(AN 0),(AN r),(AN c),(AP c (fun i_1=>[.seq false 1 ((G i_1).1) (fun i_2=>[.int .i64 ((G i_1).2 i_2)])])),(true=true),(AN nb),(AP nb (fun i_1=>[.int .i64 (o i_1)])),(AN d),(AI ((↑n:Int))),(AI ((↑i:Int))),(NL m m),(AN m),(AP m (fun i_1=>[.int .i64 (h i_1)])),((0:Int)=(↑0:Int)),(AN 3),(NL 1 1),(NL r r),(AA r (fun i_1=>[.p (.seq false 1 ((R i_1).1) (fun i_2=>[.int .i64 ((R i_1).2 i_2)]))])),(AA d (fun i_1=>[.p (.int .i64 (D i_1))]))] [0,1,2,3,4,5,6,7,8,9,1,2,3,4,10,11,12,13,14,15,16,16,17,18,19,20,21,22,16,23,24,25,20,5,26,27,28,29,30,31,31,11,12,13,14,15,5,32,33,5,6,34]):=by kernel_rfl
theorem dgd (p:T_Pinned) (r:Nat) (R:Nat→T_IntS) (d:Nat) (D:Nat→Int) (c:Nat) (G:Nat→T_IntS) (nb:Nat) (o:Nat→Int) (n i:Nat) (b:Bool) (m:Nat) (h:Nat→Int) (k:Nat) (b1 b2:Bool) :
    zM 0 [rg 4,.dec true,rm [(7,oc [] (.p (.bool b1))),(9,oc [] (.p (.bool b2)))] 3,rg 3,.head] zf2 (dgU p r R d D c G nb o n i b m h k) [0,1,2] 1 (dgU p r R d D c G nb o n i (bif b then bif b1 then true else b2 else false) m h (k+1)) =
    some (zf2,zD [((decide ((↑k:Int)<(↑m:Int)))=true),(AG b),((b=true)→(IL 0 (↑k:Int))),((b=true)→(IT (↑k:Int) (↑m:Int))),((b=true)→ (AN 1)),((b=true)→(NL d d)),((b=true)→ zE 172 [.p (.seq true 1 d (fun i_1=>[.int .i64 (D i_1)])),.p (.int .i64 (h k))] [] (.p (.bool b1))),(AG (b&&!b1)),(((b&&!b1)=true)→(IL 0 (↑i:Int))),(((b&&!b1)=true)→(IT (↑i:Int) (↑c:Int))),(((b&&!b1)=true)→(IL 0 (↑k:Int))),(((b&&!b1)=true)→(IT (↑k:Int) (↑m:Int))),(((b&&!b1)=true)→ zE 172 [.p (.seq true 1 ((G i).1) (fun i_1=>[.int .i64 ((G i).2 i_1)])),.p (.int .i64 (h k))] [] (.p (.bool b2))),((b=true)→((b1=false)→ ((b&&!b1)=true))),(ZLo ((↑k:Int)+1)),(ZHi ((↑k:Int)+1)),(AI p.1.1),(AN p.1.2.1.1),(AP p.1.2.1.1 (fun i_1=>[.int .i64 ((p.1.2.1.2 i_1).1),.int .i64 ((p.1.2.1.2 i_1).2.1)])),(AN p.2.1.1),(AP p.2.1.1 (fun i_1=>[.int .i64 (p.2.1.2 i_1)])),(AN 0),(AN r),(AN c),(AP c (fun i_1=>[.seq false 1 ((G i_1).1) (fun i_2=>[.int .i64 ((G i_1).2 i_2)])])),(true=true),(AN nb),(AP nb (fun i_1=>[.int .i64 (o i_1)])),(AN d),(AI ((↑n:Int))),(AI ((↑i:Int))),((bif b then bif b1 then true else b2 else false)=(bif b then bif b1 then true else b2 else false)),(AN m),(AP m (fun i_1=>[.int .i64 (h i_1)])),((((↑k:Int)+1):Int)=(↑(k+1):Int)),(AN 3),(NL 1 1),(AN 1),(NL r r),(AA r (fun i_1=>[.p (.seq false 1 ((R i_1).1) (fun i_2=>[.int .i64 ((R i_1).2 i_2)]))])),(NL d d),(AA d (fun i_1=>[.p (.int .i64 (D i_1))]))] [0,1,1,2,3,1,1,1,4,5,6,1,7,7,8,9,7,7,7,10,11,7,7,7,12,1,13,1,14,15,16,17,18,19,20,21,21,22,23,24,25,26,27,21,28,29,30,31,32,33,34,35,36,36,16,17,18,19,20,37,38,39,37,40,41]):=by kernel_rfl
theorem dgj5 (p:T_Pinned) (r:Nat) (R:Nat→T_IntS) (d:Nat) (D:Nat→Int) (c:Nat) (G:Nat→T_IntS) (nb:Nat) (o:Nat→Int) (n i m:Nat) (h:Nat→Int) (k:Nat) :
    zM 0 [rg 4,.dec false,rg 1,.dec true,rg 10,rg 7,rg 3,.head] zf2 (dgU p r R d D c G nb o n i true m h k) [0,419,643] 1 (dgS p (r+1) (snR5 r R (G i)) (d+(G i).1) (apI d D (G i).2) c G true nb o (n+1)) =
    some (zf38,zD [((decide ((↑k:Int)<(↑m:Int)))=false),(true=true),(IL 0 (↑i:Int)),(IT (↑i:Int) (↑c:Int)),(NL 0 0),(NL ((0+(G i).1)*8) 140737488355328),(NL (0+(G i).1) 9223372036854775807),(NL 1 1),(NL r r),(NL ((r+1)*24) 140737488355328),(NL (r+1) 9223372036854775807),(NL d d),(NL ((d+(G i).1)*8) 140737488355328),(NL (d+(G i).1) 9223372036854775807),(ZLo ((↑n:Int)+1)),(ZHi ((↑n:Int)+1)),(AI p.1.1),(AN p.1.2.1.1),(AP p.1.2.1.1 (fun i_1=>[.int .i64 ((p.1.2.1.2 i_1).1),.int .i64 ((p.1.2.1.2 i_1).2.1)])),(AN p.2.1.1),(AP p.2.1.1 (fun i_1=>[.int .i64 (p.2.1.2 i_1)])),(AN 0),(AN ((r+1))),(AN c),(AP c (fun i_1=>[.seq false 1 ((G i_1).1) (fun i_2=>[.int .i64 ((G i_1).2 i_2)])])),(AN nb),(AP nb (fun i_1=>[.int .i64 (o i_1)])),(AN ((d+(G i).1))),((((↑n:Int)+1):Int)=(↑(n+1):Int)),(AN 3),(AN 1),(NL (r+1) (r+1)),(CV [(643,⟨false,1,(d+(G i).1),(fun i_2=>(if (i_2<d) then [.p (.int .i64 (D i_2))] else [.p (.int .i64 ((G i).2 (i_2 - d)))]))⟩),(419,⟨false,1,(r+1),(fun i_2=>(if (i_2<r) then [.p (.seq false 1 ((R i_2).1) (fun i_3=>[.int .i64 ((R i_2).2 i_3)]))] else [.ar 1 355 0 (0+(G i).1)]))⟩),(387,⟨false,1,1,(fun i_2=>[.ar 1 355 0 (0+(G i).1)])⟩),(355,⟨false,1,(0+(G i).1),(fun i_2=>[.p (.int .i64 ((G i).2 i_2))])⟩),(0,⟨true,3,1,(fun i_2=>[.p (.int .i64 p.1.1),.p (.seq true 2 p.1.2.1.1 (fun i_3=>[.int .i64 ((p.1.2.1.2 i_3).1),.int .i64 ((p.1.2.1.2 i_3).2.1)])),.p (.seq true 1 p.2.1.1 (fun i_3=>[.int .i64 (p.2.1.2 i_3)]))])⟩)] [0,419,643] 1 (r+1) (fun i_1=>if (i_1<r) then [.p (.seq false 1 ((R i_1).1) (fun i_2=>[.int .i64 ((R i_1).2 i_2)]))] else [.ar 1 355 0 (0+(G i).1)]) (fun i_1=>[.p (.seq false 1 ((snR5 r R (G i) i_1).1) (fun i_2=>[.int .i64 ((snR5 r R (G i) i_1).2 i_2)]))])),(NL (d+(G i).1) (d+(G i).1)),(CV [(643,⟨false,1,(d+(G i).1),(fun i_2=>(if (i_2<d) then [.p (.int .i64 (D i_2))] else [.p (.int .i64 ((G i).2 (i_2 - d)))]))⟩),(419,⟨false,1,(r+1),(fun i_2=>(if (i_2<r) then [.p (.seq false 1 ((R i_2).1) (fun i_3=>[.int .i64 ((R i_2).2 i_3)]))] else [.ar 1 355 0 (0+(G i).1)]))⟩),(387,⟨false,1,1,(fun i_2=>[.ar 1 355 0 (0+(G i).1)])⟩),(355,⟨false,1,(0+(G i).1),(fun i_2=>[.p (.int .i64 ((G i).2 i_2))])⟩),(0,⟨true,3,1,(fun i_2=>[.p (.int .i64 p.1.1),.p (.seq true 2 p.1.2.1.1 (fun i_3=>[.int .i64 ((p.1.2.1.2 i_3).1),.int .i64 ((p.1.2.1.2 i_3).2.1)])),.p (.seq true 1 p.2.1.1 (fun i_3=>[.int .i64 (p.2.1.2 i_3)]))])⟩)] [0,419,643] 1 (d+(G i).1) (fun i_1=>if (i_1<d) then [.p (.int .i64 (D i_1))] else [.p (.int .i64 ((G i).2 (i_1 - d)))]) (fun i_1=>[.p (.int .i64 (apI d D (G i).2 i_1))]))] [0,1,2,3,4,5,6,7,8,9,10,2,3,11,12,13,14,15,16,17,18,19,20,21,21,22,23,24,1,25,26,21,27,28,29,7,7,16,17,18,19,20,30,31,32,30,33,34]):=by kernel_rfl
theorem dgf (p:T_Pinned) (r:Nat) (R:Nat→T_IntS) (d:Nat) (D:Nat→Int) (c:Nat) (G:Nat→T_IntS) (nb:Nat) (o:Nat→Int) (n i m:Nat) (h:Nat→Int) (k:Nat) :
    zM 0 [rg 4,.dec false,rg 1,.dec false,rg 3,.head] zf2 (dgU p r R d D c G nb o n i false m h k) [0,1,2] 1 (dgT p r R d D c G nb o n (i+1)) =
    some (zf20,zD [((decide ((↑k:Int)<(↑m:Int)))=false),(false=false),(ZLo ((↑i:Int)+1)),(ZHi ((↑i:Int)+1)),(AI p.1.1),(AN p.1.2.1.1),(AP p.1.2.1.1 (fun i_1=>[.int .i64 ((p.1.2.1.2 i_1).1),.int .i64 ((p.1.2.1.2 i_1).2.1)])),(AN p.2.1.1),(AP p.2.1.1 (fun i_1=>[.int .i64 (p.2.1.2 i_1)])),(AN 0),(AN r),(AN c),(AP c (fun i_1=>[.seq false 1 ((G i_1).1) (fun i_2=>[.int .i64 ((G i_1).2 i_2)])])),(true=true),(AN nb),(AP nb (fun i_1=>[.int .i64 (o i_1)])),(AN d),(AI ((↑n:Int))),((((↑i:Int)+1):Int)=(↑(i+1):Int)),(AN 3),(NL 1 1),(AN 1),(NL r r),(AA r (fun i_1=>[.p (.seq false 1 ((R i_1).1) (fun i_2=>[.int .i64 ((R i_1).2 i_2)]))])),(NL d d),(AA d (fun i_1=>[.p (.int .i64 (D i_1))]))] [0,1,2,3,4,5,6,7,8,9,9,10,11,12,13,14,15,9,16,17,18,19,20,20,4,5,6,7,8,21,22,23,21,24,25]):=by kernel_rfl
theorem dgh (p:T_Pinned) (r:Nat) (R:Nat→T_IntS) (d:Nat) (D:Nat→Int) (c:Nat) (G:Nat→T_IntS) (b:Bool) (nb:Nat) (o:Nat→Int) (n:Nat) :
    zP Tryz.f139 0 [rg 7,.dec false,rg 4] zf38 (dgS p r R d D c G b nb o n) [] 1 [] (.tup [rsL r R,.p (.bool b)]) =
    some [(AG (decide ((↑n:Int)<(↑c:Int)))),((bif decide ((↑n:Int)<(↑c:Int)) then b else false)=false),(AN 1),(NL r r),(AN r),(AP r (fun i=>[.seq false 1 ((R i).1) (fun i_1=>[.int .i64 ((R i).2 i_1)])])),(b=b),(false=false),(∀ i:Nat,(((i:Nat)<r)→All [(false=false),(AE (((R i).1)))]))]:=by kernel_rfl
def clK (D:BM) (k:Nat) (i j:Nat):Bool:=D i j||(D i k&&D k j)
def mixD (D:BM) (k i0 j0:Nat) (i j:Nat):Bool:=if i<i0∨(i=i0∧j<j0) then clK D k i j else D i j
theorem clK_col (D:BM) (k i:Nat):clK D k i k=D i k:=by
  unfold clK;cases D i k<;>cases D k k<;>rfl
theorem clK_row (D:BM) (k j:Nat):clK D k k j=D k j:=by
  unfold clK;cases D k j<;>cases D k k<;>rfl
theorem mix_col (D:BM) (k i0 j0 i:Nat):mixD D k i0 j0 i k=D i k:=by
  unfold mixD;split
  · exact clK_col D k i
  · rfl
theorem mix_row (D:BM) (k i0 j0 j:Nat):mixD D k i0 j0 k j=D k j:=by
  unfold mixD;split
  · exact clK_row D k j
  · rfl
theorem mix_here (D:BM) (k i0 j0:Nat):mixD D k i0 j0 i0 j0=D i0 j0:=by unfold mixD;rw [if_neg (by omega)]
theorem mix_step (D:BM) (k i j:Nat):upD (mixD D k i j) i j (bif mixD D k i j i j then true else bif mixD D k i j i k then mixD D k i j k j else false)=mixD D k i (j+1):=by
  rw [mix_here,mix_col,mix_row]
  funext x y
  unfold upD mixD
  by_cases h1:x=i
  · subst h1
    rw [if_pos rfl]
    by_cases h2:y=j
    · subst h2
      rw [if_pos rfl,if_pos (by omega)]
      unfold clK
      cases D x y<;>cases D x k<;>rfl
    · rw [if_neg h2]
      by_cases h3:y<j
      · rw [if_pos (by omega),if_pos (by omega)]
      · rw [if_neg (by omega),if_neg (by omega)]
  · rw [if_neg h1]
    by_cases h3:x<i
    · rw [if_pos (by omega),if_pos (by omega)]
    · rw [if_neg (by omega),if_neg (by omega)]
theorem mix_zero (D:BM) (k:Nat):mixD D k 0 0=D:=by
  funext x y;unfold mixD;rw [if_neg (by omega)]
def EqD (N:Nat) (D E:BM):Prop:=∀ i j,i<N→j<N→D i j=E i j
theorem mix_row_end (D:BM) (k i N:Nat):EqD N (mixD D k i N) (mixD D k (i+1) 0):=fun x y hx hy=>by
  unfold mixD
  by_cases h:x<i+1
  · rw [if_pos (by omega),if_pos (by omega)]
  · rw [if_neg (by omega),if_neg (by omega)]
theorem mix_end (D:BM) (k N:Nat):EqD N (mixD D k N 0) (clK D k):=fun x y hx hy=>by unfold mixD;rw [if_pos (by omega)]
def clD (D:BM):Nat→BM
  | 0=>D
  | k+1=>clK (clD D k) k
structure ClOk (D E:BM) (N k:Nat):Prop where
  up:∀ i j,D i j=true→E i j=true
  tr:∀ t,t<k→∀ i j,E i t=true→E t j=true→E i j=true
  inC:∀ C:Nat→Prop,(∀ u t,C u→D u t=true→C t)→∀ i j,C i→E i j=true→C j
theorem clD_ok (D:BM) (N:Nat):∀ k,ClOk D (clD D k) N k
  | 0=>⟨fun _ _ h=>h,fun t ht=>absurd ht (Nat.not_lt_zero _),fun C hC i j hi h=>hC i j hi h⟩
  | k+1=>by
    have ih:=clD_ok D N k
    have hcl:∀ i j,clD D (k+1) i j=true↔(clD D k i j=true∨(clD D k i k=true∧clD D k k j=true)):=fun i j=>by
      show clK (clD D k) k i j=true↔_
      unfold clK
      simp only [Bool.or_eq_true,Bool.and_eq_true]
    refine ⟨fun i j h=>(hcl i j).2 (.inl (ih.up i j h)),fun t ht i j h1 h2=>?_,fun C hC i j hi h=>?_⟩
    · rw [hcl] at h1 h2 ⊢
      by_cases e:t=k
      · subst e
        have h1:clD D t i t=true:=h1.elim id (fun h=>h.1)
        have h2:clD D t t j=true:=h2.elim id (fun h=>h.2)
        exact .inr ⟨h1,h2⟩
      · have tr:=ih.tr t (by omega)
        rcases h1 with h1 | ⟨h1,h1'⟩
        · rcases h2 with h2 | ⟨h2,h2'⟩
          · exact .inl (tr i j h1 h2)
          · exact .inr ⟨tr i k h1 h2,h2'⟩
        · rcases h2 with h2 | ⟨h2,h2'⟩
          · exact .inr ⟨h1,tr k j h1' h2⟩
          · exact .inr ⟨h1,h2'⟩
    · rw [hcl] at h
      rcases h with h | ⟨h,h'⟩
      · exact ih.inC C hC i j hi h
      · exact ih.inC C hC k j (ih.inC C hC i k hi h) h'
def otO (p:T_Pinned) (o:Nat→Int) (i:Nat):Int:=(p.1.2.1.2 i).1+(p.1.2.1.2 i).2.1 - o i
def erR (p:T_Pinned) (o:Nat→Int) (k:Nat):Nat→T_IntS→T_IntS
  | 0,q=>q
  | i+1,q=>if (o i==(erR p o k i q).2 k&&(!hB (erR p o k i q) (otO p o i).toNat&&inO p (otO p o i)))=true then snL5 (erR p o k i q) (otO p o i) else erR p o k i q
def erL (p:T_Pinned) (o:Nat→Int) (nb:Nat):Nat→Nat→T_IntS→T_IntS
  | 0,_,q=>q
  | d+1,k,q=>if k<q.1 then erL p o nb d (k+1) (erR p o k nb q) else q
def OnB (p:T_Pinned) (o:Nat→Int) (m:Nat) (u t:Nat):Prop:=∃ i,i<m∧o i=(u:Int)∧(otO p o i)=(t:Int)∧inO p (t:Int)=true
structure ErOk (p:T_Pinned) (o:Nat→Int) (N k m:Nat) (q r:T_IntS):Prop where
  dif:DifL N r
  le:q.1≤r.1
  old:∀ i,i<q.1→r.2 i=q.2 i
  up:∀ t,hB q t=true→hB r t=true
  near:∀ t,OnB p o m (q.2 k).toNat t→hB r t=true
  inC:∀ (M:Nat) (C:Nat→Prop),m≤M→(∀ u t,C u→OnB p o M u t→C t)→(∀ t,hB q t=true→C t)→∀ t,hB r t=true→C t
theorem erR_ok {p:T_Pinned} {o:Nat→Int} {N k:Nat} {q:T_IntS} (hq:DifL N q) (hk:k<q.1):∀ m,(∀ i,i<m→0≤otO p o i∧otO p o i<(N:Int))→ErOk p o N k m q (erR p o k m q)
  | 0,_=>⟨hq,Nat.le_refl _,fun _ _=>rfl,fun _ h=>h,fun t ⟨i,hi,_⟩=>absurd hi (Nat.not_lt_zero _),fun _ _ _ _ h=>h⟩
  | m+1,ho=>by
    have ih:=erR_ok (p:=p) (o:=o) hq hk m (fun i hi=>ho i (by omega))
    have hom:=ho m (by omega)
    rw [erR]
    by_cases hc:(o m==(erR p o k m q).2 k&&(!hB (erR p o k m q) (otO p o m).toNat&&inO p (otO p o m)))=true
    · rw [if_pos hc]
      simp only [Bool.and_eq_true,beq_iff_eq,Bool.not_eq_true'] at hc
      obtain ⟨h1,h2,h3⟩:=hc
      rw [ih.old k hk] at h1
      have hsn:snL5 (erR p o k m q) (otO p o m)=snL5 (erR p o k m q) (((otO p o m).toNat:Nat):Int):=by rw [show (((otO p o m).toNat:Nat):Int)=otO p o m by omega]
      rw [hsn]
      refine ⟨difL_sn ih.dif (by omega) h2,Nat.le_succ_of_le ih.le,fun i hi=>?_,fun t ht=>?_,fun t ht=>?_,fun M C hM hC hin t ht=>?_⟩
      · show snI5 _ _ _ i=_
        unfold snI5
        have:=ih.le
        rw [if_pos (by omega)]
        exact ih.old i hi
      · rw [hB_sn,ih.up t ht];rfl
      · rw [hB_sn]
        obtain ⟨i,hi,e1,e2,e3⟩:=ht
        by_cases e:i=m
        · subst e
          rw [decide_eq_true (show t=(otO p o i).toNat by omega),Bool.or_true]
        · rw [ih.near t ⟨i,by omega,e1,e2,e3⟩];rfl
      · rw [hB_sn,Bool.or_eq_true,decide_eq_true_eq] at ht
        rcases ht with ht | ht
        · exact ih.inC M C (by omega) hC hin t ht
        · rw [ht]
          have hqk:=hq k hk
          refine hC (q.2 k).toNat _ (hin _ (hB_iff.2 ⟨k,hk,by omega⟩)) ⟨m,by omega,by omega,by omega,?_⟩
          rw [show (((otO p o m).toNat:Nat):Int)=otO p o m by omega];exact h3
    · rw [if_neg hc]
      refine ⟨ih.dif,ih.le,ih.old,ih.up,fun t ht=>?_,fun M C hM=>ih.inC M C (by omega)⟩
      obtain ⟨i,hi,e1,e2,e3⟩:=ht
      by_cases e:i=m
      · subst e
        have hqk:=hq k hk
        cases hb:hB (erR p o k i q) t with
        | true=>rfl
        | false =>
          refine absurd ?_ hc
          simp only [Bool.and_eq_true,beq_iff_eq,Bool.not_eq_true']
          rw [ih.old k hk]
          refine ⟨by omega,by rw [show (otO p o i).toNat=t by omega];exact hb,by rw [e2];exact e3⟩
      · exact ih.near t ⟨i,by omega,e1,e2,e3⟩
structure ErEnd (p:T_Pinned) (o:Nat→Int) (N nb:Nat) (q Q:T_IntS):Prop where
  dif:DifL N Q
  up:∀ t,hB q t=true→hB Q t=true
  clo:∀ u t,hB Q u=true→OnB p o nb u t→hB Q t=true
  inC:∀ C:Nat→Prop,(∀ u t,C u→OnB p o nb u t→C t)→(∀ t,hB q t=true→C t)→∀ t,hB Q t=true→C t
theorem erL_ok {p:T_Pinned} {o:Nat→Int} {N nb:Nat} (ho:∀ i,i<nb→0≤otO p o i∧otO p o i<(N:Int)):∀ d k (q:T_IntS),k+d=N+1→k≤q.1→DifL N q→(∀ i,i<k→∀ t,OnB p o nb (q.2 i).toNat t→hB q t=true)→ErEnd p o N nb q (erL p o nb d k q)
  | 0,k,q,hd,hk,hq,_=>by have:=difL_le hq;omega
  | d+1,k,q,hd,hk,hq,hcl=>by
    rw [erL]
    by_cases h:k<q.1
    · rw [if_pos h]
      have r:=erR_ok (p:=p) (o:=o) hq h nb ho
      have ih:=erL_ok ho d (k+1) (erR p o k nb q) (by omega) (by have:=r.le;omega) r.dif (fun i hi t ht=>by
        rw [r.old i (by omega)] at ht
        by_cases e:i=k
        · rw [e] at ht;exact r.near t ht
        · exact r.up t (hcl i (by omega) t ht))
      exact ⟨ih.dif,fun t ht=>ih.up t (r.up t ht),ih.clo,fun C hC hin=>ih.inC C hC (r.inC nb C (Nat.le_refl _) hC hin)⟩
    · rw [if_neg h]
      refine ⟨hq,fun _ h=>h,fun u t hu hm=>?_,fun _ _ h=>h⟩
      obtain ⟨i,h1,h2⟩:=hB_iff.1 hu
      exact hcl i (by omega) t (by rw [show (q.2 i).toNat=u by omega];exact hm)
def erQ (p:T_Pinned) (o:Nat→Int) (N nb v:Nat):T_IntS:=erL p o nb (N+1) 0 (oneQ v)
theorem erQ_ok {p:T_Pinned} {o:Nat→Int} {N nb:Nat} (ho:∀ i,i<nb→0≤otO p o i∧otO p o i<(N:Int)) {v:Nat} (hv:v<N):ErEnd p o N nb (oneQ v) (erQ p o N nb v) :=
  erL_ok ho (N+1) 0 (oneQ v) (by omega) (Nat.zero_le _) (difL_one hv) (fun j hj=>absurd hj (Nat.not_lt_zero _))
theorem hB_one (i t:Nat):hB (oneQ i) t=decide (t=i):=by
  rw [show oneQ i=snL5 (0,z0) (i:Int) from rfl,hB_sn];rfl
def dgD (p:T_Pinned) (v:Nat) (i j:Nat):Bool:=if i<v then (if j=i then inO p (i:Int) else false) else false
def edD (p:T_Pinned) (N:Nat) (o:Nat→Int):Nat→BM
  | 0=>dgD p N
  | e+1=>if inO p (otO p o e)=true then upD (edD p N o e) (o e).toNat (otO p o e).toNat true else edD p N o e
theorem ed_iff {p:T_Pinned} {N:Nat} {o:Nat→Int}:∀ nb,(∀ i,i<nb→0≤o i∧0≤otO p o i)→∀ u t,edD p N o nb u t=true↔(OnB p o nb u t∨(u<N∧t=u∧inO p (u:Int)=true))
  | 0,_,u,t=>by
    constructor
    · intro h
      have h:dgD p N u t=true:=h
      unfold dgD at h
      split at h
      · split at h
        · rename_i h1 h2;exact .inr ⟨h1,h2,h⟩
        · cases h
      · cases h
    · rintro (⟨i,hi,_⟩ | ⟨h1,h2,h3⟩)
      · exact absurd hi (Nat.not_lt_zero _)
      · show dgD p N u t=true
        unfold dgD
        rw [if_pos h1,if_pos h2];exact h3
  | e+1,ho,u,t=>by
    have ih:=ed_iff (p:=p) (N:=N) (o:=o) e (fun i hi=>ho i (by omega)) u t
    have h0:=ho e (by omega)
    rw [edD]
    by_cases hc:inO p (otO p o e)=true
    · rw [if_pos hc]
      unfold upD
      by_cases h1:u=(o e).toNat
      · rw [if_pos h1]
        by_cases h2:t=(otO p o e).toNat
        · rw [if_pos h2]
          refine ⟨fun _=>.inl ⟨e,by omega,by omega,by omega,?_⟩,fun _=>rfl⟩
          rw [show (t:Int)=otO p o e by omega];exact hc
        · rw [if_neg h2,ih]
          constructor
          · rintro (⟨i,hi,e1,e2,e3⟩ | h)
            · exact .inl ⟨i,by omega,e1,e2,e3⟩
            · exact .inr h
          · rintro (⟨i,hi,e1,e2,e3⟩ | h)
            · by_cases hie:i=e
              · subst hie;omega
              · exact .inl ⟨i,by omega,e1,e2,e3⟩
            · exact .inr h
      · rw [if_neg h1,ih]
        constructor
        · rintro (⟨i,hi,e1,e2,e3⟩ | h)
          · exact .inl ⟨i,by omega,e1,e2,e3⟩
          · exact .inr h
        · rintro (⟨i,hi,e1,e2,e3⟩ | h)
          · by_cases hie:i=e
            · subst hie;omega
            · exact .inl ⟨i,by omega,e1,e2,e3⟩
          · exact .inr h
    · rw [if_neg hc,ih]
      constructor
      · rintro (⟨i,hi,e1,e2,e3⟩ | h)
        · exact .inl ⟨i,by omega,e1,e2,e3⟩
        · exact .inr h
      · rintro (⟨i,hi,e1,e2,e3⟩ | h)
        · by_cases hie:i=e
          · subst hie
            rw [e2] at hc
            exact absurd e3 hc
          · exact .inl ⟨i,by omega,e1,e2,e3⟩
        · exact .inr h
theorem reach_eq {p:T_Pinned} {N nb:Nat} {o:Nat→Int} (ho:∀ i,i<nb→(0≤o i∧o i<(N:Int))∧0≤otO p o i∧otO p o i<(N:Int)) {v:Nat} (hv:v<N) (hi:inO p (v:Int)=true) (t:Nat) :
    clD (edD p N o nb) N v t=hB (erQ p o N nb v) t:=by
  have hed:=ed_iff (p:=p) (N:=N) (o:=o) nb (fun i hi=>⟨(ho i hi).1.1,(ho i hi).2.1⟩)
  have hc:=clD_ok (edD p N o nb) N N
  have he:=erQ_ok (p:=p) (o:=o) (N:=N) (nb:=nb) (fun i hi=>(ho i hi).2) hv
  rw [Bool.eq_iff_iff]
  constructor
  · intro h
    refine hc.inC (fun t=>hB (erQ p o N nb v) t=true) (fun u t hu hm=>?_) v t (he.up v (by rw [hB_one,decide_eq_true rfl])) h
    rw [hed] at hm
    rcases hm with hm | ⟨_,hm,_⟩
    · exact he.clo u t hu hm
    · rw [hm];exact hu
  · intro h
    have hvv:clD (edD p N o nb) N v v=true:=hc.up v v ((hed v v).2 (.inr ⟨hv,rfl,hi⟩))
    refine (he.inC (fun t=>t<N∧clD (edD p N o nb) N v t=true) (fun u t hu hm=>?_) (fun t ht=>?_) t h).2
    · obtain ⟨i,hi',e1,e2,e3⟩:=hm
      have:=ho i hi'
      refine ⟨by omega,hc.tr u hu.1 v t hu.2 (hc.up u t ((hed u t).2 (.inl ⟨i,hi',e1,e2,e3⟩)))⟩
    · rw [hB_one,decide_eq_true_eq] at ht
      rw [ht];exact ⟨hv,hvv⟩
theorem ow_ok {p:T_Pinned} (h:owB p=true):PinOk p∧owL p=(p.1.2.1.1,owO p) ∧
    ∀ i,i<p.1.2.1.1→(0≤owO p i∧owO p i<p.1.1)∧(0≤otO p (owO p) i∧otO p (owO p) i<p.1.1)∧othF (p.1.2.1.2 i) (owO p i)=otO p (owO p) i:=by
  unfold owB at h
  split at h
  · rename_i hi
    have hp:=iso_ok hi
    have ok:=pin_ok hp
    refine ⟨ok,by unfold owL owB;rw [if_pos hi,if_pos h],fun i hi'=>?_⟩
    have ha:=(asI_ok p.1.2.1.1 0 (fun _=>0) h i (Nat.zero_le _) (by omega)).1
    change owO p i=_∨owO p i=_ at ha
    have hb:=ok.bars i hi'
    unfold otO othF
    rcases ha with ha | ha
    · rw [ha,if_pos rfl];omega
    · rw [ha,if_neg (by omega)];omega
  · cases h
theorem inner_at {p:T_Pinned} (ok:PinOk p) {v:Int} (h0:0≤v∧v<p.1.1):zE 330 [pinA p,.p (.int .i64 v)] [] (.p (.bool (inO p v))):=by
  have ci:=con_inner p v ok.N.1 ok.N.2 (by have:=ok.m;omega)
  rw [show inB v 0 (p.1.1 - 1)=true by simp [inB];omega] at ci
  exact ci
noncomputable def dpD (p:T_Pinned):BM:=clD (edD p p.1.1.toNat (owO p) p.1.2.1.1) p.1.1.toNat
noncomputable def dpN (p:T_Pinned):Nat:=if owB p=true then p.1.1.toNat else 0
theorem dg_step (p:T_Pinned) (v:Nat):upD (zrD (dgD p v) v) v v (inO p (v:Int))=dgD p (v+1):=by
  funext x y
  unfold upD zrD dgD
  by_cases h1:x=v
  · subst h1
    by_cases h2:y=x<;>simp [h2]
  · by_cases h2:x<v
    · simp [h1,h2,show x<v+1 by omega]
    · simp [h1,h2,show ¬ x<v+1 by omega]
theorem con_Dep (p:T_Pinned) (hs:smS s_Pinned p) :
    zE 329 [pinA p] [] (.tup [bbL false (dpN p) (dpN p) (dpD p),.p (.bool (owB p))]):=by
  have c1:=con_Owners_i p hs
  refine csZ Tryz.func329 (fun c hc=>?_)
  unfold dpN
  cases hb:owB p with
  | false =>
    rw [hb] at c1
    rw [if_neg Bool.false_ne_true]
    refine pkZ Tryz.func329 hc (dpn p (owL p).1 (owL p).2 0 (dpD p)) ?_
    and_intros
    iterate 2 all_goals (first | exact zN | (exact c1) | (intros;simp [All,ntAL,ntA,ntP,ntL];done) | simp only [All])
  | true =>
    obtain ⟨ok,hL,ho⟩:=ow_ok hb
    rw [hb,hL] at c1
    rw [if_pos rfl]
    have hin:∀ v:Nat,v<p.1.1.toNat→_:=fun v hv=>inner_at ok (v:=(v:Int)) (by omega)
    have hN:=ok.N
    have hnb:=ok.nb
    have hNN:((p.1.1.toNat:Nat):Int)=p.1.1:=by omega
    unfold dpD
    generalize hNd:p.1.1.toNat=N at *
    generalize owO p=o at *
    generalize hR:Post c [] (.tup [bbL false N N (clD (edD p N o p.1.2.1.1) N),.p (.bool true)])=R
    have hD0:∃ D0,D0=edD p N o p.1.2.1.1:=⟨_,rfl⟩
    have l4:∀ (D:BM) (k i:Nat),k<N→i<N→zR c 329 zf18 (drT p N k (i+1) (mixD D k (i+1) 0)) R →
        ∀ d j,j+d=N→zR c 329 zf3 (drU p N k i j (mixD D k i j)) R:=by
      intro D k i hk hi hr d
      induction d with
      | zero =>
        intro j hj
        obtain rfl:j=N:=by omega
        have hd:decide ((j:Int)<(j:Int))=false:=decide_eq_false (by omega)
        have he:=mix_row_end D k i j
        refine pcZ hc (dpj p j k i j (mixD D k i j) (mixD D k (i+1) 0)) ?_ hr
        repeat' (first | exact aN | apply aI)
        iterate 2 all_goals (first | exact zN | (exact hd) | (intro s hs;exact ⟨trivial,Nat.le_refl _,fun t ht=>by rw [he s t hs ht],trivial⟩) | (intros;simp [All,ntAL,ntA,ntP,ntL];done) | (simp;done) | (simp;omega) | simp only [All])
      | succ d ih =>
        intro j hj
        have hd:decide ((j:Int)<(N:Int))=true:=decide_eq_true (by omega)
        have hrec:=ih (j+1) (by omega)
        rw [← mix_step] at hrec
        generalize mixD D k i j=E at hrec ⊢
        refine pcD hc (dpi p N k i j E) ?_ hrec
        repeat' (first | exact aN | apply aI)
        all_goals (first | exact zH | (exact hd) | (intros;simp [All,ntAL,ntA,ntP,ntL];done) | (simp;done) | (simp;omega) | (intro s hs;by_cases h1:s=i<;>(simp only [h1,if_true,if_false,famE,All];refine ⟨trivial,Nat.le_refl _,fun t ht=>?_,trivial⟩;by_cases h2:t=j<;>simp [h1,h2,upD,toP])))
    have l3:∀ (D:BM) (k:Nat),k<N→zR c 329 zf34 (drS p N (k+1) (clK D k)) R →
        ∀ d i,i+d=N→zR c 329 zf18 (drT p N k i (mixD D k i 0)) R:=by
      intro D k hk hr d
      induction d with
      | zero =>
        intro i hi
        obtain rfl:i=N:=by omega
        have hd:decide ((i:Int)<(i:Int))=false:=decide_eq_false (by omega)
        have he:=mix_end D k i
        refine pcZ hc (dpk p i k i (mixD D k i 0) (clK D k)) ?_ hr
        repeat' (first | exact aN | apply aI)
        iterate 2 all_goals (first | exact zN | (exact hd) | (intro s hs;exact ⟨trivial,Nat.le_refl _,fun t ht=>by rw [he s t hs ht],trivial⟩) | (intros;simp [All,ntAL,ntA,ntP,ntL];done) | (simp;done) | (simp;omega) | simp only [All])
      | succ d ih =>
        intro i hi
        have hd:decide ((i:Int)<(N:Int))=true:=decide_eq_true (by omega)
        refine pcD hc (dph p N k i _) ?_ (l4 D k i hk (by omega) (ih (i+1) (by omega)) N 0 (by omega))
        and_intros
        iterate 2 all_goals (first | exact zN | (exact hd) | (intros;simp [All,ntAL,ntA,ntP,ntL];done) | (simp;done) | (simp;omega) | simp only [All])
    have l2:∀ d k,k+d=N→zR c 329 zf34 (drS p N k (clD (edD p N o p.1.2.1.1) k)) R:=by
      intro d
      induction d with
      | zero =>
        intro k hk
        have hd:decide ((k:Int)<(N:Int))=false:=decide_eq_false (by omega)
        rw [← hR,show clD (edD p N o p.1.2.1.1) N=clD (edD p N o p.1.2.1.1) k by rw [show k=N by omega]]
        refine pkZ Tryz.func329 hc (dpl p N k _) ?_
        repeat' (first | exact aN | apply aI)
        iterate 2 all_goals (first | exact zN | (exact hd) | (intros;simp [All,ntAL,ntA,ntP,ntL];done) | (intro i hi;exact ⟨hi,trivial,Nat.le_refl _,trivial⟩) | simp only [All])
      | succ d ih =>
        intro k hk
        have hd:decide ((k:Int)<(N:Int))=true:=decide_eq_true (by omega)
        have:=l3 (clD (edD p N o p.1.2.1.1) k) k (by omega) (ih (k+1) (by omega)) N 0 (by omega)
        rw [mix_zero] at this
        refine pcZ hc (dpg p N k _) ?_ this
        and_intros
        iterate 2 all_goals (first | exact zN | (exact hd) | (intros;simp [All,ntAL,ntA,ntP,ntL];done) | (simp;done) | (simp;omega) | simp only [All])
    have l1:∀ d e,e+d=p.1.2.1.1→zR c 329 zf37 (dqS p N p.1.2.1.1 o e (edD p N o e)) R:=by
      intro d
      induction d with
      | zero =>
        intro e he
        have hd:decide ((e:Int)<(p.1.2.1.1:Int))=false:=decide_eq_false (by omega)
        have:=l2 N 0 (by omega)
        change Run _ _ _ _ (drS p N 0 (edD p N o p.1.2.1.1)) R at this
        rw [show p.1.2.1.1=e by omega] at this
        refine pcZ hc (dpf p N p.1.2.1.1 o e _) ?_ this
        and_intros
        iterate 2 all_goals (first | exact zN | (exact hd) | (intros;simp [All,ntAL,ntA,ntP,ntL];done) | (simp;done) | (simp;omega) | simp only [All])
      | succ d ih =>
        intro e he
        have hd:decide ((e:Int)<(p.1.2.1.1:Int))=true:=decide_eq_true (by omega)
        have hrec:=ih (e+1) (by omega)
        obtain ⟨h1,h2,h3⟩:=ho e (by omega)
        have co:=con_other (p.1.2.1.2 e) (o e)
        rw [h3] at co
        have ci:=inner_at ok (v:=otO p o e) (by omega)
        rw [edD] at hrec
        have hu:((otO p o e).toNat:Int)=otO p o e:=by omega
        rw [← hu] at co
        rw [← hu] at ci
        by_cases hh:inO p (otO p o e)=true
        · rw [if_pos hh] at hrec
          rw [hu,hh] at ci
          rw [← hu] at ci
          generalize (otO p o e).toNat=u at *
          refine pcD hc (dpd p N p.1.2.1.1 o e u _) ?_ hrec
          repeat' (first | exact aN | apply aI)
          all_goals (first | exact zI | (exact hd) | (exact co) | (exact ci) | (intros;simp [All,ntAL,ntA,ntP,ntL];done) | (simp;done) | (simp;omega) | (intro s hs;by_cases h1:s=(o e).toNat<;>(simp only [h1,if_true,if_false,famE,All];refine ⟨trivial,Nat.le_refl _,fun t ht=>?_,trivial⟩;by_cases h2:t=u<;>simp [h1,h2,upD,toP])))
        · rw [if_neg hh] at hrec
          rw [hu,show inO p (otO p o e)=false by simpa using hh] at ci
          rw [← hu] at ci
          generalize (otO p o e).toNat=u at *
          refine pcD hc (dpe p N p.1.2.1.1 o e u _) ?_ hrec
          and_intros
          iterate 2 all_goals (first | exact zN | (exact hd) | (exact co) | (exact ci) | (intros;simp [All,ntAL,ntA,ntP,ntL];done) | (simp;done) | (simp;omega) | simp only [All])
    have l0:∀ d v,v+d=N→zR c 329 zf47 (dpS p N p.1.2.1.1 o v (dgD p v)) R:=by
      intro d
      induction d with
      | zero =>
        intro v hv
        obtain rfl:v=N:=by omega
        have hd:decide ((v:Int)<(v:Int))=false:=decide_eq_false (by omega)
        refine pcD hc (dpc p v p.1.2.1.1 o _) ?_ (l1 p.1.2.1.1 0 (by omega))
        and_intros
        iterate 2 all_goals (first | exact zN | (exact hd) | (intros;simp [All,ntAL,ntA,ntP,ntL];done) | (simp;done) | (simp;omega) | (intro i hi;simp [hi,cvtL,cvt,tg,tru,idx,idx1,idO,idM,All];done) | simp only [All])
      | succ d ih =>
        intro v hv
        have hd:decide ((v:Int)<(N:Int))=true:=decide_eq_true (by omega)
        have hrec:=ih (v+1) (by omega)
        rw [← dg_step] at hrec
        have ci:=hin v (by omega)
        have hsv:∀ s,¬ s=v→(s<v+1↔s<v):=fun s h=>by omega
        have:v=0∨v=1∨v=2∨v=3∨v=4∨v=5∨v=6∨v=7:=by omega
        rcases this with rfl | rfl | rfl | rfl | rfl | rfl | rfl | rfl
        · refine pcD hc (dpa0 p N p.1.2.1.1 o (dgD p 0) (inO p ((0:Nat):Int))) ?_ hrec
          repeat' (first | exact aN | apply aI)
          iterate 2 all_goals (first | exact zH | (exact hd) | (exact ci) | (intro s hs;by_cases h1:s=0;exact ⟨by simp [h1,hNd,cvtL,cvt,tg,tru,idx,idx1,idO,idM,All],by simp [h1,hNd,cvtL,cvt,tg,tru,idx,idx1,idO,idM]⟩;exact ⟨by simp [h1,cvtL,cvt,tg,tru,idx,idx1,idO,idM,All],by simp [h1,cvtL,cvt,tg,tru,idx,idx1,idO,idM]⟩) | (intro s hs hne;have h1:s<0:=(by omega);exact ⟨h1,trivial,Nat.le_refl _,fun r hr=>by simp [zrD,upD,hne],trivial⟩) | (intro _;exact ⟨trivial,by omega,fun r hr=>by by_cases h2:r=0<;>simp [zrD,upD,h2,toP],trivial⟩) | (intros;simp [All,ntAL,ntA,ntP,ntL];done) | (simp;done) | (simp;omega) | simp only [All])
        · refine pcD hc (dpa1 p N p.1.2.1.1 o (dgD p 1) (inO p ((1:Nat):Int))) ?_ hrec
          repeat' (first | exact aN | apply aI)
          iterate 2 all_goals (first | exact zH | (exact hd) | (exact ci) | (intro s hs;by_cases h1:s=1;exact ⟨by simp [h1,hNd,cvtL,cvt,tg,tru,idx,idx1,idO,idM,All],by simp [h1,hNd,cvtL,cvt,tg,tru,idx,idx1,idO,idM]⟩;by_cases h2:s<1;exact ⟨by simp [h1,h2,hsv s h1,cvtL,cvt,tg,tru,idx,idx1,idO,idM,All],by simp [h1,h2,hsv s h1,cvtL,cvt,tg,tru,idx,idx1,idO,idM]⟩;exact ⟨by simp [h1,h2,hsv s h1,cvtL,cvt,tg,tru,idx,idx1,idO,idM,All],by simp [h1,h2,hsv s h1,cvtL,cvt,tg,tru,idx,idx1,idO,idM]⟩) | (intro s hs hne;have h1:s<1:=(by omega);exact ⟨h1,trivial,Nat.le_refl _,fun r hr=>by simp [zrD,upD,hne],trivial⟩) | (intro _;exact ⟨trivial,by omega,fun r hr=>by by_cases h2:r=1<;>simp [zrD,upD,h2,toP],trivial⟩) | (intros;simp [All,ntAL,ntA,ntP,ntL];done) | (simp;done) | (simp;omega) | simp only [All])
        · refine pcD hc (dpa2 p N p.1.2.1.1 o (dgD p 2) (inO p ((2:Nat):Int))) ?_ hrec
          repeat' (first | exact aN | apply aI)
          iterate 2 all_goals (first | exact zH | (exact hd) | (exact ci) | (intro s hs;by_cases h1:s=2;exact ⟨by simp [h1,hNd,cvtL,cvt,tg,tru,idx,idx1,idO,idM,All],by simp [h1,hNd,cvtL,cvt,tg,tru,idx,idx1,idO,idM]⟩;by_cases h2:s<2;exact ⟨by simp [h1,h2,hsv s h1,cvtL,cvt,tg,tru,idx,idx1,idO,idM,All],by simp [h1,h2,hsv s h1,cvtL,cvt,tg,tru,idx,idx1,idO,idM]⟩;exact ⟨by simp [h1,h2,hsv s h1,cvtL,cvt,tg,tru,idx,idx1,idO,idM,All],by simp [h1,h2,hsv s h1,cvtL,cvt,tg,tru,idx,idx1,idO,idM]⟩) | (intro s hs hne;have h1:s<2:=(by omega);exact ⟨h1,trivial,Nat.le_refl _,fun r hr=>by simp [zrD,upD,hne],trivial⟩) | (intro _;exact ⟨trivial,by omega,fun r hr=>by by_cases h2:r=2<;>simp [zrD,upD,h2,toP],trivial⟩) | (intros;simp [All,ntAL,ntA,ntP,ntL];done) | (simp;done) | (simp;omega) | simp only [All])
        · refine pcD hc (dpa3 p N p.1.2.1.1 o (dgD p 3) (inO p ((3:Nat):Int))) ?_ hrec
          repeat' (first | exact aN | apply aI)
          iterate 2 all_goals (first | exact zH | (exact hd) | (exact ci) | (intro s hs;by_cases h1:s=3;exact ⟨by simp [h1,hNd,cvtL,cvt,tg,tru,idx,idx1,idO,idM,All],by simp [h1,hNd,cvtL,cvt,tg,tru,idx,idx1,idO,idM]⟩;by_cases h2:s<3;exact ⟨by simp [h1,h2,hsv s h1,cvtL,cvt,tg,tru,idx,idx1,idO,idM,All],by simp [h1,h2,hsv s h1,cvtL,cvt,tg,tru,idx,idx1,idO,idM]⟩;exact ⟨by simp [h1,h2,hsv s h1,cvtL,cvt,tg,tru,idx,idx1,idO,idM,All],by simp [h1,h2,hsv s h1,cvtL,cvt,tg,tru,idx,idx1,idO,idM]⟩) | (intro s hs hne;have h1:s<3:=(by omega);exact ⟨h1,trivial,Nat.le_refl _,fun r hr=>by simp [zrD,upD,hne],trivial⟩) | (intro _;exact ⟨trivial,by omega,fun r hr=>by by_cases h2:r=3<;>simp [zrD,upD,h2,toP],trivial⟩) | (intros;simp [All,ntAL,ntA,ntP,ntL];done) | (simp;done) | (simp;omega) | simp only [All])
        · refine pcD hc (dpa4 p N p.1.2.1.1 o (dgD p 4) (inO p ((4:Nat):Int))) ?_ hrec
          repeat' (first | exact aN | apply aI)
          iterate 2 all_goals (first | exact zH | (exact hd) | (exact ci) | (intro s hs;by_cases h1:s=4;exact ⟨by simp [h1,hNd,cvtL,cvt,tg,tru,idx,idx1,idO,idM,All],by simp [h1,hNd,cvtL,cvt,tg,tru,idx,idx1,idO,idM]⟩;by_cases h2:s<4;exact ⟨by simp [h1,h2,hsv s h1,cvtL,cvt,tg,tru,idx,idx1,idO,idM,All],by simp [h1,h2,hsv s h1,cvtL,cvt,tg,tru,idx,idx1,idO,idM]⟩;exact ⟨by simp [h1,h2,hsv s h1,cvtL,cvt,tg,tru,idx,idx1,idO,idM,All],by simp [h1,h2,hsv s h1,cvtL,cvt,tg,tru,idx,idx1,idO,idM]⟩) | (intro s hs hne;have h1:s<4:=(by omega);exact ⟨h1,trivial,Nat.le_refl _,fun r hr=>by simp [zrD,upD,hne],trivial⟩) | (intro _;exact ⟨trivial,by omega,fun r hr=>by by_cases h2:r=4<;>simp [zrD,upD,h2,toP],trivial⟩) | (intros;simp [All,ntAL,ntA,ntP,ntL];done) | (simp;done) | (simp;omega) | simp only [All])
        · refine pcD hc (dpa5 p N p.1.2.1.1 o (dgD p 5) (inO p ((5:Nat):Int))) ?_ hrec
          repeat' (first | exact aN | apply aI)
          iterate 2 all_goals (first | exact zH | (exact hd) | (exact ci) | (intro s hs;by_cases h1:s=5;exact ⟨by simp [h1,hNd,cvtL,cvt,tg,tru,idx,idx1,idO,idM,All],by simp [h1,hNd,cvtL,cvt,tg,tru,idx,idx1,idO,idM]⟩;by_cases h2:s<5;exact ⟨by simp [h1,h2,hsv s h1,cvtL,cvt,tg,tru,idx,idx1,idO,idM,All],by simp [h1,h2,hsv s h1,cvtL,cvt,tg,tru,idx,idx1,idO,idM]⟩;exact ⟨by simp [h1,h2,hsv s h1,cvtL,cvt,tg,tru,idx,idx1,idO,idM,All],by simp [h1,h2,hsv s h1,cvtL,cvt,tg,tru,idx,idx1,idO,idM]⟩) | (intro s hs hne;have h1:s<5:=(by omega);exact ⟨h1,trivial,Nat.le_refl _,fun r hr=>by simp [zrD,upD,hne],trivial⟩) | (intro _;exact ⟨trivial,by omega,fun r hr=>by by_cases h2:r=5<;>simp [zrD,upD,h2,toP],trivial⟩) | (intros;simp [All,ntAL,ntA,ntP,ntL];done) | (simp;done) | (simp;omega) | simp only [All])
        · refine pcD hc (dpa6 p N p.1.2.1.1 o (dgD p 6) (inO p ((6:Nat):Int))) ?_ hrec
          repeat' (first | exact aN | apply aI)
          iterate 2 all_goals (first | exact zH | (exact hd) | (exact ci) | (intro s hs;by_cases h1:s=6;exact ⟨by simp [h1,hNd,cvtL,cvt,tg,tru,idx,idx1,idO,idM,All],by simp [h1,hNd,cvtL,cvt,tg,tru,idx,idx1,idO,idM]⟩;by_cases h2:s<6;exact ⟨by simp [h1,h2,hsv s h1,cvtL,cvt,tg,tru,idx,idx1,idO,idM,All],by simp [h1,h2,hsv s h1,cvtL,cvt,tg,tru,idx,idx1,idO,idM]⟩;exact ⟨by simp [h1,h2,hsv s h1,cvtL,cvt,tg,tru,idx,idx1,idO,idM,All],by simp [h1,h2,hsv s h1,cvtL,cvt,tg,tru,idx,idx1,idO,idM]⟩) | (intro s hs hne;have h1:s<6:=(by omega);exact ⟨h1,trivial,Nat.le_refl _,fun r hr=>by simp [zrD,upD,hne],trivial⟩) | (intro _;exact ⟨trivial,by omega,fun r hr=>by by_cases h2:r=6<;>simp [zrD,upD,h2,toP],trivial⟩) | (intros;simp [All,ntAL,ntA,ntP,ntL];done) | (simp;done) | (simp;omega) | simp only [All])
        · refine pcD hc (dpa7 p N p.1.2.1.1 o (dgD p 7) (inO p ((7:Nat):Int))) ?_ hrec
          repeat' (first | exact aN | apply aI)
          iterate 2 all_goals (first | exact zH | (exact hd) | (exact ci) | (intro s hs;by_cases h1:s=7;exact ⟨by simp [h1,hNd,cvtL,cvt,tg,tru,idx,idx1,idO,idM,All],by simp [h1,hNd,cvtL,cvt,tg,tru,idx,idx1,idO,idM]⟩;by_cases h2:s<7;exact ⟨by simp [h1,h2,hsv s h1,cvtL,cvt,tg,tru,idx,idx1,idO,idM,All],by simp [h1,h2,hsv s h1,cvtL,cvt,tg,tru,idx,idx1,idO,idM]⟩;exact ⟨by simp [h1,h2,hsv s h1,cvtL,cvt,tg,tru,idx,idx1,idO,idM,All],by simp [h1,h2,hsv s h1,cvtL,cvt,tg,tru,idx,idx1,idO,idM]⟩) | (intro s hs hne;have h1:s<7:=(by omega);exact ⟨h1,trivial,Nat.le_refl _,fun r hr=>by simp [zrD,upD,hne],trivial⟩) | (intro _;exact ⟨trivial,by omega,fun r hr=>by by_cases h2:r=7<;>simp [zrD,upD,h2,toP],trivial⟩) | (intros;simp [All,ntAL,ntA,ntP,ntL];done) | (simp;done) | (simp;omega) | simp only [All])
    refine pcD hc (dpz p p.1.2.1.1 o N (dgD p 0)) ?_ (l0 N 0 (by omega))
    and_intros
    all_goals (first | exact zN | (exact c1) | (intros;simp [All,ntAL,ntA,ntP,ntL];done) | (simp;done) | (simp;omega))
noncomputable def rhQ (p:T_Pinned) (v:Nat):T_IntS:=flt (hB (erQ p (owO p) p.1.1.toNat p.1.2.1.1 v)) p.1.1.toNat
theorem con_RchP {p:T_Pinned} (hb:owB p=true) {v:Nat} (hv:v<p.1.1.toNat) :
    zE 246 [pinA p,inL (p.1.2.1.1,owO p),.p (.int .i64 v)] [(0,iOb (rhQ p v).1 (rhQ p v).2)] (.ar 1 0 0 (rhQ p v).1):=by
  obtain ⟨ok,hL,ho⟩:=ow_ok hb
  have hN:=ok.N
  have hnb:=ok.nb
  have hm:=ok.m
  have hNN:((p.1.1.toNat:Nat):Int)=p.1.1:=by omega
  refine csZ Tryz.func246 (fun c hc=>?_)
  unfold rhQ
  generalize hNd:p.1.1.toNat=N at *
  generalize owO p=o at *
  have ho2:∀ i,i<p.1.2.1.1→0≤otO p o i∧otO p o i<(N:Int):=fun i hi=>by have:=(ho i hi).2.1;omega
  generalize hQ:erQ p o N p.1.2.1.1 v=Q
  generalize hX:flt (hB Q) N=X
  generalize hR:Post c [(0,iOb X.1 X.2)] (.ar 1 0 0 X.1)=R
  have l2:DifL N Q→∀ d u,u+d=N→zR c 246 zf48 (rhU p p.1.2.1.1 o v Q.1 Q.2 (flt (hB Q) u).1 (flt (hB Q) u).2 u) R:=by
    intro hdf d
    have hle:=difL_le hdf
    induction d with
    | zero =>
      intro u hu
      have hd:decide ((u:Int)<p.1.1)=false:=decide_eq_false (by omega)
      rw [show u=N by omega] at hd ⊢
      rw [hX,← hR]
      refine pkZ Tryz.func246 hc (rhi p p.1.2.1.1 o v Q.1 Q.2 X.1 X.2 N) ?_
      and_intros
      all_goals (first | exact zN | (exact hd) | (intros;simp [All,ntAL,ntA,ntP,ntL];done))
    | succ d ih =>
      intro u hu
      have hd:decide ((u:Int)<p.1.1)=true:=decide_eq_true (by omega)
      have hrec:=ih (u+1) (by omega)
      have ch:=con_l2Has Q (u:Int) (by omega)
      change Con _ _ _ _ _ _ (.p (.bool (hB Q u))) at ch
      have hn:=flt_n (hB Q) u
      cases hh:hB Q u with
      | true =>
        rw [hh] at ch
        rw [flt_t hh] at hrec
        generalize flt (hB Q) u=F at hrec hn ⊢
        refine pcD hc (rhg p p.1.2.1.1 o v Q.1 Q.2 F.1 F.2 u) ?_ hrec
        and_intros
        all_goals (first | exact zN | (exact hd) | (exact ch) | (intro t ht;by_cases h':t<F.1<;>(simp [h',cvtL,cvt,tg,tru,All];done)) | (intros;simp [All,ntAL,ntA,ntP,ntL];done) | (simp;done) | (simp;omega))
      | false =>
        rw [hh] at ch
        rw [flt_f hh] at hrec
        refine pcD hc (rhh p p.1.2.1.1 o v Q.1 Q.2 _ _ u) ?_ hrec
        and_intros
        all_goals (first | exact zN | (exact hd) | (exact ch) | (intros;simp [All,ntAL,ntA,ntP,ntL];done) | (simp;done) | (simp;omega))
  have inner:∀ (q:T_IntS) (k:Nat),k<q.1→DifL N q→zR c 246 zf86 (rhS p p.1.2.1.1 o v (erR p o k p.1.2.1.1 q).1 (erR p o k p.1.2.1.1 q).2 (k+1)) R →
      ∀ e i,i+e=p.1.2.1.1→zR c 246 zf27 (rhT p p.1.2.1.1 o v (erR p o k i q).1 (erR p o k i q).2 k i) R:=by
    intro q k hk hq hr e
    induction e with
    | zero =>
      intro i hi
      have hd:decide ((i:Int)<(p.1.2.1.1:Int))=false:=decide_eq_false (by omega)
      rw [show i=p.1.2.1.1 by omega] at hd ⊢
      have hle:=difL_le hq
      refine pcD hc (rhe p p.1.2.1.1 o v _ _ k p.1.2.1.1) ?_ hr
      and_intros
      all_goals (first | exact zN | (exact hd) | (intros;simp [All,ntAL,ntA,ntP,ntL];done) | (simp;done) | (simp;omega))
    | succ e ih =>
      intro i hi
      have hd:decide ((i:Int)<(p.1.2.1.1:Int))=true:=decide_eq_true (by omega)
      have hrec:=ih (i+1) (by omega)
      have ro:=erR_ok (p:=p) (o:=o) hq hk i (fun i hi=>ho2 i (by omega))
      rw [erR] at hrec
      generalize erR p o k i q=u at hrec ro ⊢
      have hle:=difL_le ro.dif
      have hk2:k<u.1:=Nat.lt_of_lt_of_le hk ro.le
      have hx:=ro.dif k hk2
      obtain ⟨h1,h2,h3⟩:=ho i (by omega)
      have hbar:=ok.bars i (by omega)
      cases hm:(o i==u.2 k) with
      | false =>
        rw [hm] at hrec
        rw [if_neg (by rw [Bool.false_and];exact Bool.false_ne_true)] at hrec
        refine pcD hc (rhb p p.1.2.1.1 o v u.1 u.2 k i) ?_ hrec
        and_intros
        all_goals (first | exact zN | (exact hd) | (exact hm) | (intros;simp [All,ntAL,ntA,ntP,ntL];done) | (simp;done) | (simp;omega))
      | true =>
        rw [hm,Bool.true_and] at hrec
        have co:=con_l4Other (p.1.2.1.2 i) (o i) (by omega) (by omega) (by omega)
        change Con _ _ _ _ _ _ (.p (.int .i64 (otO p o i))) at co
        have hu:((otO p o i).toNat:Int)=otO p o i:=by omega
        have c1:=con_l2Has u (otO p o i) (by omega)
        rw [← hu] at co c1
        change Con _ _ _ _ _ _ (.p (.bool (hB u (otO p o i).toNat))) at c1
        have c2:=con_l2Has p.2.1 (((otO p o i).toNat:Nat):Int) (by omega)
        rw [← hu] at hrec
        rw [hu] at hrec
        by_cases hcc:(!hB u (otO p o i).toNat&&inO p (otO p o i))=true
        · rw [if_pos hcc] at hrec
          simp only [Bool.and_eq_true,Bool.not_eq_true'] at hcc
          rw [hcc.1] at c1
          have hi2:=hcc.2
          unfold inO at hi2
          rw [← hu] at hi2
          rw [show hasI p.2.1.2 (((otO p o i).toNat:Nat):Int) p.2.1.1=false by simpa using hi2] at c2
          rw [← hu] at hrec
          generalize (otO p o i).toNat=w at *
          refine pcD hc (rhc p p.1.2.1.1 o v u.1 u.2 k i w) ?_ hrec
          and_intros
          all_goals (first | exact zI | (exact hd) | (exact hm) | (exact co) | (exact c1) | (intro _;exact c2) | (intro t ht;by_cases h':t<u.1<;>(simp [h',snI5,cvtL,cvt,tg,tru,All];done)) | (intros;simp [All,ntAL,ntA,ntP,ntL];done) | (simp;done) | (simp;omega))
        · rw [if_neg hcc] at hrec
          have hcd:(bif !(hB u (otO p o i).toNat) then !(hasI p.2.1.2 (((otO p o i).toNat:Nat):Int) p.2.1.1) else false)=false:=by
            rw [hu]
            unfold inO at hcc
            cases h1:hB u (otO p o i).toNat with
            | true=>rfl
            | false =>
              rw [h1] at hcc
              cases h2:hasI p.2.1.2 (otO p o i) p.2.1.1 with
              | true=>rfl
              | false=>rw [h2] at hcc;exact absurd rfl hcc
          generalize (otO p o i).toNat=w at *
          refine pcD hc (rhd p p.1.2.1.1 o v u.1 u.2 k i w (hB u w) (hasI p.2.1.2 (w:Int) p.2.1.1)) ?_ hrec
          and_intros
          all_goals (first | exact zI | (exact hd) | (exact hm) | (exact co) | (exact c1) | (intro _;exact c2) | (exact hcd) | (intros;simp [All,ntAL,ntA,ntP,ntL];done) | (simp;done) | (simp;omega))
  have outer:∀ d k (q:T_IntS),k+d=N+1→k≤q.1→DifL N q→erL p o p.1.2.1.1 d k q=Q→zR c 246 zf86 (rhS p p.1.2.1.1 o v q.1 q.2 k) R:=by
    intro d
    induction d with
    | zero=>intro k q hd hk hq _;have:=difL_le hq;omega
    | succ d ih =>
      intro k q hd hk hq hqQ
      have hle:=difL_le hq
      rw [erL] at hqQ
      by_cases h:k<q.1
      · rw [if_pos h] at hqQ
        have hdk:decide ((k:Int)<(q.1:Int))=true:=decide_eq_true (by omega)
        have ro:=erR_ok (p:=p) (o:=o) hq h p.1.2.1.1 ho2
        have:=ro.le
        refine pcD hc (rha p p.1.2.1.1 o v q.1 q.2 k) ?_ (inner q k h hq (ih (k+1) _ (by omega) (by omega) ro.dif hqQ) p.1.2.1.1 0 (by omega))
        and_intros
        all_goals (first | exact zN | (exact hdk) | (intros;simp [All,ntAL,ntA,ntP,ntL];done) | (simp;done) | (simp;omega))
      · rw [if_neg h] at hqQ
        have hdk:decide ((k:Int)<(q.1:Int))=false:=decide_eq_false (by omega)
        subst hqQ
        refine pcD hc (rhf p p.1.2.1.1 o v q.1 q.2 k) ?_ (l2 hq N 0 (by omega))
        and_intros
        iterate 2 all_goals (first | exact zN | (exact hdk) | (intro t ht;exact absurd ht (Nat.not_lt_zero _)) | (intros;simp [All,ntAL,ntA,ntP,ntL];done) | (simp;done) | (simp;omega) | simp only [All])
  refine pcD hc (rhz p p.1.2.1.1 o v) ?_ (outer (N+1) 0 (oneQ v) (by omega) (Nat.zero_le _) (difL_one hv) (by rw [← hQ];rfl))
  and_intros
  all_goals (first | exact zN | (intro t ht;rw [show t=0 by omega];simp [cvtL,cvt,tg,tru,All];done) | (intros;simp [All,ntAL,ntA,ntP,ntL];done) | (simp;done))
theorem dp_rh {p:T_Pinned} (hb:owB p=true) {v:Nat} (hv:v<p.1.1.toNat) (hi:inO p (v:Int)=true):flt (dpD p v) p.1.1.toNat=rhQ p v:=by
  obtain ⟨ok,hL,ho⟩:=ow_ok hb
  have hN:=ok.N
  exact flt_congr _ (fun t _=>reach_eq (fun i hi=>by have:=ho i hi;omega) hv hi t)
theorem con_DependsOn {p:T_Pinned} (hs:smS s_Pinned p) (hb:owB p=true) {v:Nat} (hv:v<p.1.1.toNat) (hi:inO p (v:Int)=true) :
    zE 253 [pinA p,.p (.int .i64 v)] [(0,iOb (rhQ p v).1 (rhQ p v).2)] (.ar 1 0 0 (rhQ p v).1):=by
  have c1:=con_Dep p hs
  obtain ⟨ok,hL,ho⟩:=ow_ok hb
  have hN:=ok.N
  have c2:=inner_at ok (v:=(v:Int)) (by omega)
  rw [hi] at c2
  rw [hb] at c1
  rw [show dpN p=p.1.1.toNat by unfold dpN;rw [if_pos hb]] at c1
  rw [← dp_rh hb hv hi]
  have hN8:p.1.1.toNat≤8:=by omega
  refine csZ Tryz.func253 (fun c hc=>?_)
  generalize dpD p=D at *
  generalize p.1.1.toNat=N at *
  generalize hX:flt (D v) N=X
  generalize hR:Post c [(0,iOb X.1 X.2)] (.ar 1 0 0 X.1)=R
  have lo:∀ d u,u+d=N→zR c 253 zf49 (deS p N v (D v) (flt (D v) u).1 (flt (D v) u).2 u) R:=by
    intro d
    induction d with
    | zero =>
      intro u hu
      have hd:decide ((u:Int)<(N:Int))=false:=decide_eq_false (by omega)
      rw [show u=N by omega] at hd ⊢
      rw [hX,← hR]
      refine pkZ Tryz.func253 hc (dee p v N (D v) X.1 X.2 N) ?_
      and_intros
      all_goals (first | exact zN | (exact hd) | (intros;simp [All,ntAL,ntA,ntP,ntL];done))
    | succ d ih =>
      intro u hu
      have hd:decide ((u:Int)<(N:Int))=true:=decide_eq_true (by omega)
      have hrec:=ih (u+1) (by omega)
      have hn:=flt_n (D v) u
      cases hh:D v u with
      | true =>
        rw [flt_t hh] at hrec
        generalize flt (D v) u=F at hrec hn ⊢
        refine pcZ hc (dea p v N (D v) F.1 F.2 u) ?_ hrec
        and_intros
        all_goals (first | exact zN | (exact hd) | (exact hh) | (intro t ht;by_cases h':t<F.1<;>(simp [h',cvtL,cvt,tg,tru,All];done)) | (intros;simp [All,ntAL,ntA,ntP,ntL];done) | (simp;done) | (simp;omega))
      | false =>
        rw [flt_f hh] at hrec
        refine pcZ hc (deb p v N (D v) _ _ u) ?_ hrec
        and_intros
        all_goals (first | exact zN | (exact hd) | (exact hh) | (intros;simp [All,ntAL,ntA,ntP,ntL];done) | (simp;done) | (simp;omega))
  refine pcZ hc (dez p v N D) ?_ (lo N 0 (by omega))
  and_intros
  iterate 2 all_goals (first | exact zH | (exact c1) | (exact c2) | (intro t ht;exact absurd ht (Nat.not_lt_zero _)) | (intros;simp [All,ntAL,ntA,ntP,ntL];done) | (simp;done) | (simp;omega) | simp only [All])
def nS (q:T_IntS) (x:Int):T_IntS:=nzL (snL5 q x)
theorem nz_eq {x y:T_IntS} (h:x.1=y.1) (he:∀ s,s<x.1→x.2 s=y.2 s):nzL x=nzL y:=by
  obtain ⟨n,f⟩:=x
  obtain ⟨m,g⟩:=y
  simp only at h he
  subst h
  unfold nzL
  congr 1
  funext s
  show nzI n f s=nzI n g s
  unfold nzI
  split
  · rename_i h;exact he s h
  · rfl
theorem nS_head (q:T_IntS) (x:Int):(nS q x).1=q.1+1∧(∀ s,s<q.1→(nS q x).2 s=q.2 s)∧(nS q x).2 q.1=x:=by
  refine ⟨rfl,fun s hs=>?_,?_⟩
  · show (if s<q.1+1 then (if s<q.1 then q.2 s else x) else 0)=_
    rw [if_pos (by omega),if_pos hs]
  · show (if q.1<q.1+1 then (if q.1<q.1 then q.2 q.1 else x) else 0)=_
    rw [if_pos (by omega),if_neg (by omega)]
structure EqvB (mu:Nat→Nat→Bool) (m:Nat):Prop where
  rf:∀ i,i<m→mu i i=true
  sy:∀ i k,i<m→k<m→mu i k=true→mu k i=true
  tr:∀ i k l,i<m→k<m→l<m→mu i k=true→mu k l=true→mu i l=true
def clR5 (mu:Nat→Nat→Bool) (f:Nat→Int) (i:Nat):Nat→T_IntS
  | 0=>(0,z0)
  | k+1=>if mu i k=true then nS (clR5 mu f i k) (f k) else clR5 mu f i k
def repB (mu:Nat→Nat→Bool) (i:Nat):Bool:=allB (fun k=>!mu i k) i
def bgR (mu:Nat→Nat→Bool) (f:Nat→Int) (m:Nat):Nat→RmL
  | 0=>(0,fun _=>(0,z0))
  | i+1=>if ((clR5 mu f i m).2 0==f i)=true then ((bgR mu f m i).1+1,snR5 (bgR mu f m i).1 (bgR mu f m i).2 (clR5 mu f i m)) else bgR mu f m i
theorem clR5_n (mu:Nat→Nat→Bool) (f:Nat→Int) (i:Nat):∀ k,(clR5 mu f i k).1≤k
  | 0=>Nat.le_refl _
  | k+1=>by
    have:=clR5_n mu f i k
    rw [clR5]
    split
    · show _+1≤_;omega
    · omega
theorem clR5_zero {mu:Nat→Nat→Bool} {f:Nat→Int} {i:Nat}:∀ k,(∀ l,l<k→mu i l=false)→clR5 mu f i k=(0,z0)
  | 0,_=>rfl
  | k+1,h=>by rw [clR5,if_neg (by rw [h k (by omega)];exact Bool.false_ne_true)];exact clR5_zero k (fun l hl=>h l (by omega))
theorem clR5_head {mu:Nat→Nat→Bool} {f:Nat→Int} {i a:Nat} (ha:mu i a=true) (hl:∀ l,l<a→mu i l=false):∀ k,a<k→0<(clR5 mu f i k).1∧(clR5 mu f i k).2 0=f a
  | 0,h=>absurd h (Nat.not_lt_zero _)
  | k+1,h=>by
    rw [clR5]
    by_cases e:k=a
    · subst e
      rw [if_pos ha,clR5_zero k hl]
      exact ⟨Nat.one_pos,(nS_head (0,z0) (f k)).2.2⟩
    · have ih:=clR5_head (f:=f) ha hl k (by omega)
      split
      · exact ⟨Nat.succ_pos _,((nS_head _ _).2.1 0 ih.1).trans ih.2⟩
      · exact ih
theorem rep_iff {mu:Nat→Nat→Bool} {i:Nat}:repB mu i=true↔∀ k,k<i→mu i k=false:=by
  unfold repB
  rw [all_iff]
  constructor
  · intro h k hk;have:=h k hk;simpa using this
  · intro h k hk;rw [h k hk];rfl
theorem least {q:Nat→Bool}:∀ n,q n=true→∃ a,a≤n∧q a=true∧∀ l,l<a→q l=false:=by
  intro n
  induction n using Nat.strongRecOn with
  | ind n ih =>
    intro h
    by_cases hx:∃ l,l<n∧q l=true
    · obtain ⟨l,h1,h2⟩:=hx
      obtain ⟨a,h3,h4,h5⟩:=ih l h1 h2
      exact ⟨a,by omega,h4,h5⟩
    · refine ⟨n,Nat.le_refl _,h,fun l hl=>?_⟩
      cases hq:q l with
      | false=>rfl
      | true=>exact absurd ⟨l,hl,hq⟩ hx
theorem bg_head {mu:Nat→Nat→Bool} {f:Nat→Int} {m:Nat} (he:EqvB mu m) (hf:∀ i j,i<j→j<m→f i<f j) {i:Nat} (hi:i<m):((clR5 mu f i m).2 0==f i)=repB mu i:=by
  obtain ⟨a,h1,h2,h3⟩:=least (q:=mu i) i (he.rf i hi)
  rw [(clR5_head h2 h3 m (by omega)).2,Bool.eq_iff_iff,beq_iff_eq,rep_iff]
  constructor
  · intro h k hk
    by_cases e:a=i
    · exact h3 k (by omega)
    · have:=hf a i (by omega) hi;omega
  · intro h
    by_cases e:a=i
    · rw [e]
    · rw [h a (by omega)] at h2;cases h2
theorem bgR_ok {mu:Nat→Nat→Bool} {f:Nat→Int} {m:Nat} (he:EqvB mu m) (hf:∀ i j,i<j→j<m→f i<f j):∀ i,i≤m→(bgR mu f m i).1=(flt (repB mu) i).1∧∀ s,s<(flt (repB mu) i).1→(bgR mu f m i).2 s=clR5 mu f ((flt (repB mu) i).2 s).toNat m
  | 0,_=>⟨rfl,fun s hs=>absurd hs (Nat.not_lt_zero _)⟩
  | i+1,hi=>by
    have ih:=bgR_ok he hf i (by omega)
    rw [bgR,bg_head he hf (by omega)]
    cases hr:repB mu i with
    | false=>rw [if_neg Bool.false_ne_true,flt_f hr];exact ih
    | true =>
      rw [if_pos rfl,flt_t hr]
      refine ⟨by show _+1=_+1;rw [ih.1],fun s hs=>?_⟩
      have hs:s<(flt (repB mu) i).1+1:=hs
      show snR5 _ _ _ s=clR5 mu f (if s<(flt (repB mu) i).1 then (flt (repB mu) i).2 s else (i:Int)).toNat m
      unfold snR5
      rw [ih.1]
      by_cases h:s<(flt (repB mu) i).1
      · rw [if_pos h,if_pos h];exact ih.2 s h
      · rw [if_neg h,if_neg h];rfl
def agK (D:BM) (v:Int) (G:Nat→T_IntS) (i:Nat):Bool:=bif D v.toNat ((G i).2 0).toNat then D ((G i).2 0).toNat v.toNat else false
def agJ (D:BM) (v:Int) (c:Nat) (G:Nat→T_IntS):Nat→Nat→RmL
  | 0,_=>(c+1,snR5 c G (nzL (1,fun _=>v)))
  | d+1,i=>if agK D v G i=true then (c,apG G i v) else agJ D v c G d (i+1)
def agR (D:BM) (f:Nat→Int):Nat→RmL
  | 0=>(0,fun _=>(0,z0))
  | t+1=>agJ D (f t) (agR D f t).1 (agR D f t).2 (agR D f t).1 0
def muD (D:BM) (f:Nat→Int) (i k:Nat):Bool:=bif D (f i).toNat (f k).toNat then D (f k).toNat (f i).toNat else false
def AgI (mu:Nat→Nat→Bool) (f:Nat→Int) (t:Nat) (X:RmL):Prop:=X.1=(flt (repB mu) t).1∧∀ s,s<X.1→X.2 s=clR5 mu f ((flt (repB mu) t).2 s).toNat t
theorem agR_ok {D:BM} {f:Nat→Int} {m:Nat} (he:EqvB (muD D f) m):∀ t,t≤m→AgI (muD D f) f t (agR D f t)
  | 0,_=>⟨rfl,fun s hs=>absurd hs (Nat.not_lt_zero _)⟩
  | t+1,ht=>by
    have ih:=agR_ok he t (by omega)
    rw [agR]
    generalize agR D f t=X at ih ⊢
    obtain ⟨hc,hG⟩:=ih
    have hr:=flt_rn (repB (muD D f)) t
    have hrep:∀ s,s<X.1→∃ r:Nat,(flt (repB (muD D f)) t).2 s=(r:Int)∧r<t∧(∀ k,k<r→muD D f r k=false):=fun s hs=>by
      have h:=hr s (by omega)
      refine ⟨((flt (repB (muD D f)) t).2 s).toNat,by omega,by omega,?_⟩
      exact rep_iff.1 h.2.2.1
    have hhead:∀ s,s<X.1→agK D (f t) X.2 s=muD D f t ((flt (repB (muD D f)) t).2 s).toNat∧(X.2 s).1≤t:=fun s hs=>by
      obtain ⟨r,h1,h2,h3⟩:=hrep s hs
      have hd:=clR5_head (f:=f) (he.rf r (by omega)) h3 t h2
      have hG':=hG s hs
      rw [h1,show ((r:Nat):Int).toNat=r by omega] at hG'
      refine ⟨?_,by rw [hG'];exact clR5_n _ _ _ _⟩
      unfold agK muD
      have e:((flt (repB (muD D f)) t).2 s).toNat=r:=by omega
      unfold muD at e
      rw [e,hG',hd.2]
    have hsame:∀ s,s<X.1→muD D f t ((flt (repB (muD D f)) t).2 s).toNat=false→X.2 s=clR5 (muD D f) f ((flt (repB (muD D f)) t).2 s).toNat (t+1):=fun s hs hm=>by
      obtain ⟨r,h1,h2,h3⟩:=hrep s hs
      have hG':=hG s hs
      rw [h1,show ((r:Nat):Int).toNat=r by omega] at hG' hm ⊢
      rw [clR5,if_neg (fun h=>by rw [he.sy r t (by omega) (by omega) h] at hm;cases hm)]
      exact hG'
    have key:∀ d i,i+d=X.1→(∀ s,s<i→muD D f t ((flt (repB (muD D f)) t).2 s).toNat=false)→AgI (muD D f) f (t+1) (agJ D (f t) X.1 X.2 d i):=by
      intro d
      induction d with
      | zero =>
        intro i hi hno
        obtain rfl:i=X.1:=by omega
        have hrt:repB (muD D f) t=true:=by
          rw [rep_iff]
          intro k hk
          cases hmk:muD D f t k with
          | false=>rfl
          | true =>
            obtain ⟨a,a1,a2,a3⟩:=least (q:=muD D f t) k hmk
            have hra:repB (muD D f) a=true:=by
              rw [rep_iff]
              intro l hl
              cases hml:muD D f a l with
              | false=>rfl
              | true =>
                have:=a3 l hl
                rw [he.tr t a l (by omega) (by omega) (by omega) a2 hml] at this
                cases this
            have hat:=flt_at hra (show a<t by omega)
            have:=hno _ (by rw [hc];exact hat.1)
            rw [hat.2,show ((a:Nat):Int).toNat=a by omega,a2] at this
            cases this
        rw [agJ]
        refine ⟨by rw [flt_t hrt];show X.1+1=_+1;rw [hc],fun s hs=>?_⟩
        have hs:s<X.1+1:=hs
        rw [flt_t hrt]
        show snR5 X.1 X.2 (nzL (1,fun _=>f t)) s=clR5 _ _ (if s<(flt (repB (muD D f)) t).1 then (flt (repB (muD D f)) t).2 s else (t:Int)).toNat (t+1)
        unfold snR5
        by_cases h:s<X.1
        · rw [if_pos h,if_pos (by omega)]
          exact hsame s h (hno s h)
        · rw [if_neg h,if_neg (by omega),show ((t:Nat):Int).toNat=t by omega,clR5,if_pos (he.rf t (by omega)),clR5_zero t (rep_iff.1 hrt)]
          refine nz_eq rfl (fun s hs=>?_)
          have hs:s<1:=hs
          show f t=snI5 0 z0 (f t) s
          unfold snI5
          rw [if_neg (by omega)]
      | succ d ihd =>
        intro i hi hno
        rw [agJ,(hhead i (by omega)).1]
        cases hm:muD D f t ((flt (repB (muD D f)) t).2 i).toNat with
        | false =>
          rw [if_neg Bool.false_ne_true]
          exact ihd (i+1) (by omega) (fun s hs=>by
            by_cases e:s=i
            · rw [e];exact hm
            · exact hno s (by omega))
        | true =>
          rw [if_pos rfl]
          obtain ⟨r,h1,h2,h3⟩:=hrep i (by omega)
          rw [h1,show ((r:Nat):Int).toNat=r by omega] at hm
          have hrt:repB (muD D f) t=false:=by
            cases hx:repB (muD D f) t with
            | false=>rfl
            | true=>rw [rep_iff.1 hx r h2] at hm;cases hm
          refine ⟨by rw [flt_f hrt];exact hc,fun s hs=>?_⟩
          have hs:s<X.1:=hs
          rw [flt_f hrt]
          show apG X.2 i (f t) s=_
          unfold apG
          by_cases e:s=i
          · subst e
            rw [if_pos rfl,h1,show ((r:Nat):Int).toNat=r by omega,clR5,if_pos (he.sy t r (by omega) (by omega) hm)]
            have hG':=hG s hs
            rw [h1,show ((r:Nat):Int).toNat=r by omega] at hG'
            rw [hG'];rfl
          · rw [if_neg e]
            refine hsame s hs ?_
            obtain ⟨r',h1',h2',h3'⟩:=hrep s hs
            rw [h1',show ((r':Nat):Int).toNat=r' by omega]
            cases hx:muD D f t r' with
            | false=>rfl
            | true =>
              have hne:r≠r':=fun hh=>by
                have h4:=hr s (by omega)
                have h5:=hr i (by omega)
                rcases Nat.lt_or_ge s i with hsi | hsi
                · have:=h5.2.2.2 s hsi;omega
                · have:=h4.2.2.2 i (by omega);omega
              have hrr:muD D f r r'=true:=he.tr r t r' (by omega) (by omega) (by omega) (he.sy t r (by omega) (by omega) hm) hx
              rcases Nat.lt_or_ge r r' with hlt | hge
              · have:=h3' r hlt
                rw [he.sy r r' (by omega) (by omega) hrr] at this;cases this
              · have:=h3 r' (by omega)
                rw [hrr] at this;cases this
    exact key X.1 0 (by omega) (fun s hs=>absurd hs (Nat.not_lt_zero _))
theorem ag_bg {D:BM} {f:Nat→Int} {m:Nat} (he:EqvB (muD D f) m) (hf:∀ i j,i<j→j<m→f i<f j):(agR D f m).1=(bgR (muD D f) f m m).1∧∀ s,s<(agR D f m).1→(agR D f m).2 s=(bgR (muD D f) f m m).2 s:=by
  obtain ⟨h1,h2⟩:=agR_ok he m (Nat.le_refl _)
  obtain ⟨h3,h4⟩:=bgR_ok he hf m (Nat.le_refl _)
  exact ⟨by rw [h1,h3],fun s hs=>by rw [h4 s (by omega)];exact h2 s hs⟩
theorem ag_head {mu:Nat→Nat→Bool} {f:Nat→Int} {m t:Nat} {X:RmL} (he:EqvB mu m) (ht:t≤m) (h:AgI mu f t X):X.1≤t∧∀ s,s<X.1→∃ r,r<t∧0<(X.2 s).1∧(X.2 s).1≤t∧(X.2 s).2 0=f r:=by
  refine ⟨by rw [h.1];exact flt_n _ _,fun s hs=>?_⟩
  have hr:=flt_rn (repB mu) t s (by rw [← h.1];exact hs)
  have hrep:=rep_iff.1 hr.2.2.1
  have hd:=clR5_head (f:=f) (he.rf ((flt (repB mu) t).2 s).toNat (by omega)) hrep t (by omega)
  refine ⟨((flt (repB mu) t).2 s).toNat,by omega,?_,?_,?_⟩
  · rw [h.2 s hs];exact hd.1
  · rw [h.2 s hs];exact clR5_n _ _ _ _
  · rw [h.2 s hs];exact hd.2
theorem inrD_flt (p:T_Pinned):∀ v,inrD p v=flt (fun t=>inO p (t:Int)) v
  | 0=>rfl
  | v+1=>by
    rw [inrD,inrD_flt p v]
    cases h:hasI p.2.1.2 (v:Int) p.2.1.1 with
    | true=>rw [if_pos rfl,flt_f (p:=fun t:Nat=>inO p (t:Int)) (by show inO p (v:Int)=false;unfold inO;rw [h];rfl)]
    | false=>rw [if_neg Bool.false_ne_true,flt_t (p:=fun t:Nat=>inO p (t:Int)) (by show inO p (v:Int)=true;unfold inO;rw [h];rfl)];rfl
theorem ow_pin {p:T_Pinned} (h:owB p=true):pinnedF p=true:=by
  unfold owB at h
  split at h
  · rename_i hi;exact iso_ok hi
  · cases h
structure InOk (p:T_Pinned):Prop where
  n:(inrP p).1≤8
  rn:∀ i,i<(inrP p).1→0≤(inrP p).2 i∧(inrP p).2 i<(p.1.1.toNat:Int)∧inO p ((inrP p).2 i)=true
  asc:∀ i j,i<j→j<(inrP p).1→(inrP p).2 i<(inrP p).2 j
  all:∀ v:Nat,v<p.1.1.toNat→inO p (v:Int)=true→∃ i,i<(inrP p).1∧(inrP p).2 i=(v:Int)
theorem in_ok {p:T_Pinned} (h:pinnedF p=true):InOk p:=by
  have e:inrP p=flt (fun t=>inO p (t:Int)) p.1.1.toNat:=by unfold inrP;rw [if_pos h,inrD_flt]
  have hr:=flt_rn (fun t:Nat=>inO p (t:Int)) p.1.1.toNat
  refine ⟨inrP_n p,fun i hi=>?_,fun i j hij hj=>?_,fun v hv hv2=>?_⟩
  · rw [e] at hi ⊢
    have:=hr i hi
    refine ⟨this.1,this.2.1,?_⟩
    have h3:=this.2.2.1
    rw [show ((((flt (fun t:Nat=>inO p (t:Int)) p.1.1.toNat).2 i).toNat:Nat):Int)=(flt (fun t:Nat=>inO p (t:Int)) p.1.1.toNat).2 i by omega] at h3
    exact h3
  · rw [e] at hj ⊢
    exact (hr j hj).2.2.2 i hij
  · rw [e]
    have:=flt_at (p:=fun t:Nat=>inO p (t:Int)) hv2 hv
    exact ⟨_,this.1,this.2⟩
theorem dp_eqv {p:T_Pinned} (hb:owB p=true):EqvB (muD (dpD p) (inrP p).2) (inrP p).1:=by
  obtain ⟨ok,hL,ho⟩:=ow_ok hb
  have hN:=ok.N
  have io:=in_ok (ow_pin hb)
  have hc:=clD_ok (edD p p.1.1.toNat (owO p) p.1.2.1.1) p.1.1.toNat p.1.1.toNat
  have hed:=ed_iff (p:=p) (N:=p.1.1.toNat) (o:=owO p) p.1.2.1.1 (fun i hi=>⟨(ho i hi).1.1,(ho i hi).2.1.1⟩)
  have hx:∀ i k,muD (dpD p) (inrP p).2 i k=true↔dpD p ((inrP p).2 i).toNat ((inrP p).2 k).toNat=true∧dpD p ((inrP p).2 k).toNat ((inrP p).2 i).toNat=true:=fun i k=>by
    unfold muD
    cases dpD p ((inrP p).2 i).toNat ((inrP p).2 k).toNat<;>simp
  refine ⟨fun i hi=>?_,fun i k hi hk h=>?_,fun i k l hi hk hl h1 h2=>?_⟩
  · rw [hx]
    have h:=io.rn i hi
    have:dpD p ((inrP p).2 i).toNat ((inrP p).2 i).toNat=true:=hc.up _ _ ((hed _ _).2 (.inr ⟨by omega,rfl,by rw [show ((((inrP p).2 i).toNat:Nat):Int)=(inrP p).2 i by omega];exact h.2.2⟩))
    exact ⟨this,this⟩
  · rw [hx] at h ⊢
    exact ⟨h.2,h.1⟩
  · rw [hx] at h1 h2 ⊢
    have hk':=io.rn k hk
    exact ⟨hc.tr _ (by omega) _ _ h1.1 h2.1,hc.tr _ (by omega) _ _ h2.2 h1.2⟩
theorem rh_has {p:T_Pinned} (hb:owB p=true) {i k:Nat} (hi:i<(inrP p).1) (hk:k<(inrP p).1) :
    hasI (rhQ p ((inrP p).2 i).toNat).2 ((inrP p).2 k) (rhQ p ((inrP p).2 i).toNat).1=dpD p ((inrP p).2 i).toNat ((inrP p).2 k).toNat:=by
  have io:=in_ok (ow_pin hb)
  have h1:=io.rn i hi
  have h2:=io.rn k hk
  rw [← dp_rh hb (by omega) (by rw [show ((((inrP p).2 i).toNat:Nat):Int)=(inrP p).2 i by omega];exact h1.2.2)]
  have:=flt_has5 (dpD p ((inrP p).2 i).toNat) ((inrP p).2 k).toNat p.1.1.toNat
  rw [show ((((inrP p).2 k).toNat:Nat):Int)=(inrP p).2 k by omega,decide_eq_true (show ((inrP p).2 k).toNat<p.1.1.toNat by omega),Bool.true_and] at this
  exact this
noncomputable def asG (p:T_Pinned):RmL:=if owB p=true then bgR (muD (dpD p) (inrP p).2) (inrP p).2 (inrP p).1 (inrP p).1 else (0,fun _=>(0,z0))
theorem con_Assur_s (p:T_Pinned) (hs:smS s_Pinned p):zE 244 [pinA p] [] (.tup [rsL (asG p).1 (asG p).2,.p (.bool (owB p))]):=by
  have c1:=con_Owners_s p hs
  have c2:=con_InnerPoints_s p hs
  have hn8:=inrP_n p
  refine csZ Tryz.func244 (fun c hc=>?_)
  unfold asG
  cases hb:owB p with
  | false =>
    rw [hb] at c1
    rw [if_neg Bool.false_ne_true]
    have hgo:zR c 244 zf51 (bgS p (owL p).1 (owL p).2 false (inrP p).1 (inrP p).2 0 (fun _=>(0,z0)) 0) (Post c [] (.tup [rsL 0 (fun _=>(0,z0)),.p (.bool false)])):=by
      have hd:(bif decide (((0:Nat):Int)<((inrP p).1:Int)) then false else false)=false:=by cases decide (((0:Nat):Int)<((inrP p).1:Int))<;>rfl
      refine pkZ Tryz.func244 hc (bgg p (owL p).1 (owL p).2 false (inrP p).1 (inrP p).2 0 (fun _=>(0,z0)) 0) ?_
      and_intros
      iterate 2 all_goals (first | exact zN | (exact hd) | (intro t ht;exact absurd ht (Nat.not_lt_zero _)) | simp only [All])
    refine pcD hc (bgz p (owL p).1 (owL p).2 false (inrP p).1 (inrP p).2) ?_ hgo
    and_intros
    iterate 2 all_goals (first | exact zN | (exact c1) | (exact c2) | (intro t ht;exact absurd ht (Nat.not_lt_zero _)) | (intros;simp [All,ntAL,ntA,ntP,ntL];done) | (simp;done) | simp only [All])
  | true =>
    obtain ⟨ok,hL,ho⟩:=ow_ok hb
    rw [hb,hL] at c1
    rw [if_pos rfl]
    have hN:=ok.N
    have hnb:=ok.nb
    have io:=in_ok (ow_pin hb)
    have hrh:=fun i k (hi:i<(inrP p).1) (hk:k<(inrP p).1)=>rh_has hb hi hk
    have crch:∀ i,i<(inrP p).1→_:=fun i hi=>con_RchP hb (v:=((inrP p).2 i).toNat) (by have:=io.rn i hi;omega)
    have hcl:=fun i k=>clR5_n (muD (dpD p) (inrP p).2) (inrP p).2 i k
    have hclh:∀ i,i<(inrP p).1→0<(clR5 (muD (dpD p) (inrP p).2) (inrP p).2 i (inrP p).1).1:=fun i hi=>by
      obtain ⟨a,h1,h2,h3⟩:=least (q:=muD (dpD p) (inrP p).2 i) i ((dp_eqv hb).rf i hi)
      exact (clR5_head h2 h3 _ (by omega)).1
    have hfv:∀ i,i<(inrP p).1→((((inrP p).2 i).toNat:Nat):Int)=(inrP p).2 i:=fun i hi=>by have:=io.rn i hi;omega
    have hbn:∀ i,(bgR (muD (dpD p) (inrP p).2) (inrP p).2 (inrP p).1 i).1≤i:=fun i=>by
      induction i with
      | zero=>exact Nat.le_refl _
      | succ i ih =>
        rw [bgR]
        split
        · show _+1≤_;omega
        · omega
    have hrl:∀ v,(rhQ p v).1≤8:=fun v=>by have:=flt_n (hB (erQ p (owO p) p.1.1.toNat p.1.2.1.1 v)) p.1.1.toNat;unfold rhQ;omega
    generalize owO p=o at *
    generalize hmu:muD (dpD p) (inrP p).2=mu at *
    generalize hX:bgR mu (inrP p).2 (inrP p).1 (inrP p).1=X
    generalize hR:Post c [] (.tup [rsL X.1 X.2,.p (.bool true)])=R
    have hmu':∀ i k,mu i k=(bif dpD p ((inrP p).2 i).toNat ((inrP p).2 k).toNat then dpD p ((inrP p).2 k).toNat ((inrP p).2 i).toNat else false):=fun i k=>by rw [← hmu];rfl
    have hrn:=io.rn
    generalize (inrP p).1=m at *
    generalize (inrP p).2=f at *
    have inner:∀ (i cn:Nat) (Q:Nat→T_IntS),i<m→zR c 244 zf14 (bgT p p.1.2.1.1 o m f cn Q i (clR5 mu f i m).1 (clR5 mu f i m).2 m) R →
        ∀ e k,k+e=m→zR c 244 zf14 (bgT p p.1.2.1.1 o m f cn Q i (clR5 mu f i k).1 (clR5 mu f i k).2 k) R:=by
      intro i cn Q hi hr e
      induction e with
      | zero=>intro k hk;rw [show k=m by omega];exact hr
      | succ e ih =>
        intro k hk
        have hrec:=ih (k+1) (by omega)
        have hd:decide ((k:Int)<(m:Int))=true:=decide_eq_true (by omega)
        have r1:=crch i hi
        have r2:=crch k (by omega)
        rw [hfv i hi] at r1
        rw [hfv k (by omega)] at r2
        have l1:=hrl (f i).toNat
        have l2:=hrl (f k).toNat
        have h1:=con_l2Has (rhQ p (f i).toNat) (f k) (by omega)
        have h2:=con_l2Has (rhQ p (f k).toNat) (f i) (by omega)
        rw [hrh i k hi (by omega)] at h1
        rw [hrh k i (by omega) hi] at h2
        have hm:=hmu' i k
        have hle:=hcl i k
        rw [clR5] at hrec
        generalize clR5 mu f i k=U at hrec hle ⊢
        generalize rhQ p (f i).toNat=A1 at *
        generalize rhQ p (f k).toNat=A2 at *
        cases ha:dpD p (f i).toNat (f k).toNat with
        | false =>
          rw [ha] at h1 hm
          rw [if_neg (by rw [hm];exact Bool.false_ne_true)] at hrec
          refine pcD hc (bgd p p.1.2.1.1 o m f cn Q i U.1 U.2 k A1.1 A1.2) ?_ hrec
          and_intros
          all_goals (first | exact zN | (exact hd) | (exact r1) | (exact h1) | (intros;simp [All,ntAL,ntA,ntP,ntL];done) | (simp;done) | (simp;omega))
        | true =>
          rw [ha] at h1 hm
          cases hbb:dpD p (f k).toNat (f i).toNat with
          | false =>
            rw [hbb] at h2 hm
            rw [if_neg (by rw [hm];exact Bool.false_ne_true)] at hrec
            refine pcD hc (bgc p p.1.2.1.1 o m f cn Q i U.1 U.2 k A1.1 A2.1 A1.2 A2.2) ?_ hrec
            and_intros
            all_goals (first | exact zN | (exact hd) | (exact r1) | (exact h1) | (exact r2) | (exact h2) | (intros;exact r2) | (intros;exact h2) | (intros;simp [All,ntAL,ntA,ntP,ntL];done) | (simp;done) | (simp;omega))
          | true =>
            rw [hbb] at h2 hm
            have hm':mu i k=true:=hm
            rw [if_pos hm'] at hrec
            refine pcD hc (bgb p p.1.2.1.1 o m f cn Q i U.1 U.2 k A1.1 A2.1 A1.2 A2.2 (nS U (f k)).2) ?_ hrec
            and_intros
            all_goals (first | exact zN | (exact hd) | (exact r1) | (exact h1) | (exact r2) | (exact h2) | (intros;exact r2) | (intros;exact h2) | (intro t ht;by_cases h':t<U.1<;>(simp [h',ht,nS,nzL,nzI,snL5,snI5,cvtL,cvt,tg,tru,All];done)) | (intros;simp [All,ntAL,ntA,ntP,ntL];done) | (simp;done) | (simp;omega))
    have lo:∀ e i,i+e=m→zR c 244 zf51 (bgS p p.1.2.1.1 o true m f (bgR mu f m i).1 (bgR mu f m i).2 i) R:=by
      intro e
      induction e with
      | zero =>
        intro i hi
        have hd:(bif decide ((i:Int)<(m:Int)) then true else false)=false:=by rw [decide_eq_false (show ¬ ((i:Int)<(m:Int)) by omega)];rfl
        rw [show i=m by omega] at hd ⊢
        rw [hX,← hR]
        refine pkZ Tryz.func244 hc (bgg p p.1.2.1.1 o true m f X.1 X.2 m) ?_
        and_intros
        iterate 2 all_goals (first | exact zN | (exact hd) | (intros;simp [All,ntAL,ntA,ntP,ntL];done) | simp only [All])
      | succ e ih =>
        intro i hi
        have hrec:=ih (i+1) (by omega)
        have hd:(bif decide ((i:Int)<(m:Int)) then true else false)=true:=by rw [decide_eq_true (show ((i:Int)<(m:Int)) by omega)];rfl
        have hd2:decide ((m:Int)<(m:Int))=false:=decide_eq_false (by omega)
        have hbi:=hbn i
        have hci:=hcl i m
        have hch:=hclh i (by omega)
        rw [bgR] at hrec
        generalize bgR mu f m i=S at hrec hbi ⊢
        have hend:zR c 244 zf14 (bgT p p.1.2.1.1 o m f S.1 S.2 i (clR5 mu f i m).1 (clR5 mu f i m).2 m) R:=by
          generalize clR5 mu f i m=U at hrec hci hch ⊢
          cases hq:(U.2 0==f i) with
          | true =>
            rw [hq,if_pos rfl] at hrec
            refine pcD hc (bge p p.1.2.1.1 o m f S.1 S.2 i U.1 U.2 m) ?_ hrec
            and_intros
            all_goals (first | exact zN | (exact hd2) | (exact hq) | (intro t ht;by_cases h':t<S.1<;>(simp [h',snR5,cvtL,cvt,lendP,cellP,tab,idx,idx1,lkk,idO,idM,Ob.isF,List.lookup,tg,tru,All];done)) | (intros;simp [All,ntAL,ntA,ntP,ntL];done) | (simp;done) | (simp;omega))
          | false =>
            rw [hq,if_neg Bool.false_ne_true] at hrec
            refine pcD hc (bgf p p.1.2.1.1 o m f S.1 S.2 i U.1 U.2 m) ?_ hrec
            and_intros
            all_goals (first | exact zN | (exact hd2) | (exact hq) | (intros;simp [All,ntAL,ntA,ntP,ntL];done) | (simp;done) | (simp;omega))
        refine pcD hc (bga p p.1.2.1.1 o m f S.1 S.2 i) ?_ (inner i S.1 S.2 (by omega) hend m 0 (by omega))
        and_intros
        iterate 2 all_goals (first | exact zN | (exact hd) | (intro t ht;exact absurd ht (Nat.not_lt_zero _)) | (intros;simp [All,ntAL,ntA,ntP,ntL];done) | (simp;done) | (simp;omega) | simp only [All])
    refine pcD hc (bgz p p.1.2.1.1 o true m f) ?_ (lo m 0 (by omega))
    and_intros
    iterate 2 all_goals (first | exact zN | (exact c1) | (exact c2) | (intro t ht;exact absurd ht (Nat.not_lt_zero _)) | (intros;simp [All,ntAL,ntA,ntP,ntL];done) | (simp;done) | simp only [All])
theorem con_Assur_i (p:T_Pinned) (hs:smS s_Pinned p):zE 252 [pinA p] [] (.tup [rsL (asG p).1 (asG p).2,.p (.bool (owB p))]):=by
  have c1:=con_Dep p hs
  have c2:=con_InnerPoints_i p hs
  have hn8:=inrP_n p
  refine csZ Tryz.func252 (fun c hc=>?_)
  unfold asG
  cases hb:owB p with
  | false =>
    rw [hb] at c1
    rw [if_neg Bool.false_ne_true]
    refine pkZ Tryz.func252 hc (agn p (dpN p) (dpD p)) ?_
    and_intros
    iterate 2 all_goals (first | exact zN | (exact c1) | (intro t ht;exact absurd ht (Nat.not_lt_zero _)) | (intros;simp [All,ntAL,ntA,ntP,ntL];done) | simp only [All])
  | true =>
    obtain ⟨ok,hL,ho⟩:=ow_ok hb
    rw [hb] at c1
    rw [show dpN p=p.1.1.toNat by unfold dpN;rw [if_pos hb]] at c1
    rw [if_pos rfl]
    have hN:=ok.N
    have io:=in_ok (ow_pin hb)
    have hev:=dp_eqv hb
    have hrn:=io.rn
    have hasc:=io.asc
    generalize dpD p=D at *
    generalize (inrP p).1=m at *
    generalize (inrP p).2=f at *
    generalize p.1.1.toNat=N at *
    have hab:=ag_bg hev hasc
    generalize hX:bgR (muD D f) f m m=X at hab ⊢
    generalize hR:Post c [] (.tup [rsL X.1 X.2,.p (.bool true)])=R
    have inner:∀ (t:Nat) (c0:Nat) (G:Nat→T_IntS),t<m→c0≤t→(∀ s,s<c0→∃ r,r<t∧0<(G s).1∧(G s).1≤t∧(G s).2 0=f r) →
        zR c 252 zf50 (agS N D m f (agJ D (f t) c0 G c0 0).1 (agJ D (f t) c0 G c0 0).2 (t+1)) R →
        ∀ d i,i+d=c0→agJ D (f t) c0 G d i=agJ D (f t) c0 G c0 0→zR c 252 zf10 (agT N D m f c0 G t (f t) i) R:=by
      intro t c0 G ht hct hG hr d
      have hft:=hrn t ht
      induction d with
      | zero =>
        intro i hi he
        obtain rfl:i=c0:=by omega
        have hd:decide ((i:Int)<(i:Int))=false:=decide_eq_false (by omega)
        rw [← he] at hr
        rw [agJ] at hr
        refine pcZ hc (agd N D m f i G t (f t)) ?_ hr
        repeat' (first | exact aN | apply aI)
        iterate 2 all_goals (first | exact zH | (exact hd) | (intro t ht;by_cases h':t<i;exact ⟨by simp [h',snR5,cvtL,cvt,tg,tru,idx,idx1,idO,idM,All,Nat.ne_of_lt h'],by simp [h',snR5,cvtL,cvt,tg,tru,idx,idx1,idO,idM]⟩;rw [show t=i by omega];exact ⟨by simp [snR5,cvtL,cvt,tg,tru,idx,idx1,idO,idM,All],by simp [snR5,nzL,cvtL,cvt,tg,tru,idx,idx1,idO,idM]⟩) | (intro t ht hne;have h':t<i:=(by omega);exact ⟨h',by simp [snR5,h',All]⟩) | (intro _;simp [snR5,nzL,nzI,All];done) | (intros;simp [All,ntAL,ntA,ntP,ntL];done) | (simp;done) | (simp;omega) | simp only [All])
      | succ d ih =>
        intro i hi he
        have hd:decide ((i:Int)<(c0:Int))=true:=decide_eq_true (by omega)
        obtain ⟨r,h1,h2,h3,h4⟩:=hG i (by omega)
        have hfr:=hrn r (by omega)
        rw [agJ] at he
        have hk:agK D (f t) G i=(bif D (f t).toNat ((G i).2 0).toNat then D ((G i).2 0).toNat (f t).toNat else false):=rfl
        cases hq:agK D (f t) G i with
        | true =>
          rw [hq] at hk
          rw [hq,if_pos rfl] at he
          rw [← he] at hr
          refine pcD hc (agc N D m f c0 G t (f t) i) ?_ hr
          repeat' (first | exact aN | apply aI)
          iterate 2 all_goals (first | exact zH | (exact hd) | (exact hk.symm) | (intros;simp [All,ntAL,ntA,ntP,ntL];done) | (simp;done) | (simp;omega) | (intro s hs;by_cases h':s=i<;>simp [h',apG,nzL,cvtL,cvt,tg,tru,idx,idx1,idO,idM,All];done) | (intro s hs hne;exact ⟨hs,by simp [apG,hne,famE,All]⟩) | (intro _;refine ⟨trivial,by simp [apG,nzL],fun r hr=>?_,trivial⟩;have hr':r<(G i).1+1:=(by simpa [apG,nzL] using hr);by_cases h2:r<(G i).1<;>simp [h2,hr',apG,nzL,nzI,snI5,toP]) | simp only [All])
        | false =>
          rw [hq] at hk
          rw [hq,if_neg Bool.false_ne_true] at he
          refine pcD hc (agb N D m f c0 G t (f t) i) ?_ (ih (i+1) (by omega) he)
          and_intros
          iterate 2 all_goals (first | exact zI | (exact hd) | (exact hk.symm) | (intros;simp [All,ntAL,ntA,ntP,ntL];done) | (simp;done) | (simp;omega) | simp only [All])
    have lo:∀ e t,t+e=m→zR c 252 zf50 (agS N D m f (agR D f t).1 (agR D f t).2 t) R:=by
      intro e
      induction e with
      | zero =>
        intro t ht
        obtain rfl:t=m:=by omega
        have hd:decide ((t:Int)<(t:Int))=false:=decide_eq_false (by omega)
        obtain ⟨q1,q2⟩:=hab
        generalize agR D f t=Y at q1 q2 ⊢
        rw [← hR,← q1]
        refine pkZ Tryz.func252 hc (agf N D t f Y.1 Y.2 X.2 t) ?_
        repeat' (first | exact aN | apply aI)
        iterate 2 all_goals (first | exact zN | (exact hd) | (intro i hi;exact ⟨hi,trivial,by rw [q2 i hi];exact Nat.le_refl _,trivial⟩) | (intro i hi;rw [q2 i hi];done) | (intros;simp [All,ntAL,ntA,ntP,ntL];done) | simp only [All])
      | succ e ih =>
        intro t ht
        have hd:decide ((t:Int)<(m:Int))=true:=decide_eq_true (by omega)
        have hrec:=ih (t+1) (by omega)
        have hh:=ag_head hev (by omega) (agR_ok hev t (by omega))
        rw [agR] at hrec
        generalize agR D f t=Y at hrec hh ⊢
        refine pcZ hc (aga N D m f Y.1 Y.2 t) ?_ (inner t Y.1 Y.2 (by omega) hh.1 hh.2 hrec Y.1 0 (by omega) rfl)
        and_intros
        iterate 2 all_goals (first | exact zN | (exact hd) | (intros;simp [All,ntAL,ntA,ntP,ntL];done) | (simp;done) | (simp;omega) | simp only [All])
    refine pcZ hc (agz p N D m f) ?_ (lo m 0 (by omega))
    and_intros
    iterate 2 all_goals (first | exact zN | (exact c1) | (exact c2) | (intro t ht;exact absurd ht (Nat.not_lt_zero _)) | (intros;simp [All,ntAL,ntA,ntP,ntL];done) | (simp;done) | simp only [All])
theorem hasI_app (d:Nat) (D:Nat→Int) (g:Nat→Int) (x:Int):∀ n,hasI (apI d D g) x (d+n)=(hasI D x d||hasI g x n)
  | 0=>by
    rw [Nat.add_zero,show hasI g x 0=false from rfl,Bool.or_false]
    exact hasI_congr _ _ x d (fun i hi=>by unfold apI;rw [if_pos hi])
  | n+1=>by
    rw [← Nat.add_assoc,hasI,hasI_app d D g x n,hasI,Bool.or_assoc]
    congr 2
    unfold apI
    rw [if_neg (by omega),show d+n - d=n by omega]
theorem hasI_nS (q:T_IntS) (x y:Int):hasI (nS q x).2 y (nS q x).1=(hasI q.2 y q.1||x==y):=by
  obtain ⟨h1,h2,h3⟩:=nS_head q x
  rw [h1,hasI,h3,hasI_congr _ q.2 y q.1 h2]
theorem clR5_has {mu:Nat→Nat→Bool} {f:Nat→Int} {m:Nat} (hf:∀ i j,i<j→j<m→f i<f j) (i:Nat) {k:Nat} (hk:k<m):∀ t,t≤m→hasI (clR5 mu f i t).2 (f k) (clR5 mu f i t).1=(decide (k<t)&&mu i k)
  | 0,_=>by simp [clR5,hasI]
  | t+1,ht=>by
    have ih:=clR5_has (mu:=mu) hf i hk t (by omega)
    have hne:k≠t→(f t==f k)=false:=fun h=>beq_eq_false_iff_ne.2 (by
      rcases Nat.lt_or_gt_of_ne h with h | h
      · have:=hf k t h (by omega);omega
      · have:=hf t k h (by omega);omega)
    rw [clR5]
    by_cases e:k=t
    · subst e
      rw [decide_eq_false (Nat.lt_irrefl _),Bool.false_and] at ih
      rw [decide_eq_true (Nat.lt_succ_self _),Bool.true_and]
      cases hm:mu i k with
      | true=>rw [if_pos rfl,hasI_nS,ih,beq_self_eq_true];rfl
      | false=>rw [if_neg Bool.false_ne_true];exact ih
    · have hd:decide (k<t+1)=decide (k<t):=by rw [decide_eq_decide];omega
      rw [hd]
      split
      · rw [hasI_nS,ih,hne e,Bool.or_false]
      · exact ih
theorem clR5_in {mu:Nat→Nat→Bool} {f:Nat→Int} (i:Nat) {y:Int}:∀ t,hasI (clR5 mu f i t).2 y (clR5 mu f i t).1=true→∃ k,k<t∧f k=y
  | 0,h=>by cases h
  | t+1,h=>by
    rw [clR5] at h
    split at h
    · rw [hasI_nS,Bool.or_eq_true,beq_iff_eq] at h
      rcases h with h | h
      · obtain ⟨k,h1,h2⟩:=clR5_in i t h;exact ⟨k,by omega,h2⟩
      · exact ⟨t,by omega,h⟩
    · obtain ⟨k,h1,h2⟩:=clR5_in i t h;exact ⟨k,by omega,h2⟩
theorem flt_lt {q q':Nat→Bool} (hs:∀ t,q t=true→q' t=true) {v:Nat} (h1:q v=false) (h2:q' v=true):∀ N,v<N→(flt q N).1<(flt q' N).1
  | 0,h=>absurd h (Nat.not_lt_zero _)
  | N+1,h=>by
    have hle:∀ N,(flt q N).1≤(flt q' N).1:=fun N=>by
      induction N with
      | zero=>exact Nat.le_refl _
      | succ N ih =>
        cases hq:q N with
        | true=>rw [flt_t hq,flt_t (hs N hq)];exact Nat.succ_le_succ ih
        | false =>
          rw [flt_f hq]
          cases hq':q' N with
          | true=>rw [flt_t hq'];exact Nat.le_succ_of_le ih
          | false=>rw [flt_f hq'];exact ih
    by_cases e:v=N
    · subst e
      rw [flt_f h1,flt_t h2]
      exact Nat.lt_succ_of_le (hle v)
    · have ih:=flt_lt hs h1 h2 N (by omega)
      cases hq:q N with
      | true=>rw [flt_t hq,flt_t (hs N hq)];exact Nat.succ_lt_succ ih
      | false =>
        rw [flt_f hq]
        cases hq':q' N with
        | true=>rw [flt_t hq'];exact Nat.lt_succ_of_lt ih
        | false=>rw [flt_f hq'];exact ih
structure GrOk (D:BM) (N m:Nat) (f:Nat→Int) (c:Nat) (G:Nat→T_IntS) (rp:Nat→Nat):Prop where
  cm:c≤m
  pos:∀ s,s<c→0<(G s).1∧(G s).1≤m
  hd:∀ s,s<c→rp s<m∧(G s).2 0=f (rp s)
  has:∀ s k,s<c→k<m→hasI (G s).2 (f k) (G s).1=muD D f (rp s) k
  only:∀ s y,s<c→hasI (G s).2 y (G s).1=true→∃ k,k<m∧f k=y
  uni:∀ s t,s<c→t<c→muD D f (rp s) (rp t)=true→s=t
  cov:∀ k,k<m→∃ s,s<c∧muD D f (rp s) k=true
theorem gr_ok {D:BM} {N m:Nat} {f:Nat→Int} (he:EqvB (muD D f) m) (hf:∀ i j,i<j→j<m→f i<f j) :
    GrOk D N m f (bgR (muD D f) f m m).1 (bgR (muD D f) f m m).2 (fun s=>((flt (repB (muD D f)) m).2 s).toNat):=by
  obtain ⟨h1,h2⟩:=bgR_ok he hf m (Nat.le_refl _)
  have hr:=flt_rn (repB (muD D f)) m
  rw [h1]
  have hrp:∀ s,s<(flt (repB (muD D f)) m).1→((flt (repB (muD D f)) m).2 s).toNat<m∧∀ k,k<((flt (repB (muD D f)) m).2 s).toNat→muD D f ((flt (repB (muD D f)) m).2 s).toNat k=false:=fun s hs=>by
    have:=hr s hs
    exact ⟨by omega,rep_iff.1 this.2.2.1⟩
  have hhead:=fun s hs=>clR5_head (f:=f) (he.rf _ (hrp s hs).1) (hrp s hs).2 m (hrp s hs).1
  refine ⟨flt_n _ _,fun s hs=>?_,fun s hs=>?_,fun s k hs hk=>?_,fun s y hs hy=>?_,fun s t hs ht h=>?_,fun k hk=>?_⟩
  · rw [h2 s hs];exact ⟨(hhead s hs).1,clR5_n _ _ _ _⟩
  · rw [h2 s hs];exact ⟨(hrp s hs).1,(hhead s hs).2⟩
  · rw [h2 s hs,clR5_has hf _ hk m (Nat.le_refl _),decide_eq_true hk,Bool.true_and]
  · rw [h2 s hs] at hy;exact clR5_in _ m hy
  · have hs':=hrp s hs
    have ht':=hrp t ht
    have e:((flt (repB (muD D f)) m).2 s).toNat=((flt (repB (muD D f)) m).2 t).toNat:=by
      rcases Nat.lt_trichotomy ((flt (repB (muD D f)) m).2 s).toNat ((flt (repB (muD D f)) m).2 t).toNat with hlt | heq | hgt
      · have:=ht'.2 _ hlt
        rw [he.sy _ _ hs'.1 ht'.1 h] at this;cases this
      · exact heq
      · have:=hs'.2 _ hgt
        rw [h] at this;cases this
    rcases Nat.lt_trichotomy s t with hlt | heq | hgt
    · have h3:=hr s hs
      have h4:=(hr t ht).2.2.2 s hlt
      omega
    · exact heq
    · have h3:=hr t ht
      have h4:=(hr s hs).2.2.2 t hgt
      omega
  · obtain ⟨a,a1,a2,a3⟩:=least (q:=muD D f k) k (he.rf k hk)
    have hra:repB (muD D f) a=true:=by
      rw [rep_iff]
      intro l hl
      cases hml:muD D f a l with
      | false=>rfl
      | true =>
        have:=a3 l hl
        rw [he.tr k a l hk (by omega) (by omega) a2 hml] at this
        cases this
    have hat:=flt_at hra (show a<m by omega)
    refine ⟨_,hat.1,?_⟩
    rw [hat.2,show ((a:Nat):Int).toNat=a by omega]
    exact he.sy k a hk (by omega) a2
def rdB (p:T_Pinned) (h:T_IntS) (D:T_IntS) (g:T_IntS):Nat→Bool:=allB (fun k=>hasI D.2 (h.2 k) D.1||hasI g.2 (h.2 k) g.1)
noncomputable def rdG (p:T_Pinned) (D:T_IntS) (g:T_IntS):Bool:=rdB p (rhQ p (g.2 0).toNat) D g (rhQ p (g.2 0).toNat).1
noncomputable def pkB (p:T_Pinned) (G:Nat→T_IntS) (D:T_IntS) (s:Nat):Bool:=!hasI D.2 ((G s).2 0) D.1&&rdG p D (G s)
noncomputable def pkF (p:T_Pinned) (G:Nat→T_IntS) (D:T_IntS):Nat→Nat→Nat
  | 0,_=>0
  | d+1,i=>if pkB p G D i=true then i else pkF p G D d (i+1)
def apL (D g:T_IntS):T_IntS:=(D.1+g.1,apI D.1 D.2 g.2)
noncomputable def ogS (p:T_Pinned) (c:Nat) (G:Nat→T_IntS):Nat→RmL×T_IntS
  | 0=>((0,fun _=>(0,z0)),(0,z0))
  | n+1=>(((ogS p c G n).1.1+1,snR5 (ogS p c G n).1.1 (ogS p c G n).1.2 (G (pkF p G (ogS p c G n).2 c 0))),apL (ogS p c G n).2 (G (pkF p G (ogS p c G n).2 c 0)))
theorem pkF_ok {p:T_Pinned} {G:Nat→T_IntS} {D:T_IntS}:∀ d i,(∃ s,i≤s∧s<i+d∧pkB p G D s=true)→i≤pkF p G D d i∧pkF p G D d i<i+d∧pkB p G D (pkF p G D d i)=true∧∀ l,i≤l→l<pkF p G D d i→pkB p G D l=false
  | 0,i,⟨s,h1,h2,_⟩=>by omega
  | d+1,i,⟨s,h1,h2,h3⟩=>by
    rw [pkF]
    by_cases h:pkB p G D i=true
    · rw [if_pos h]
      exact ⟨Nat.le_refl _,by omega,h,fun l h1 h2=>by omega⟩
    · rw [if_neg h]
      have hs:s≠i:=fun e=>h (e ▸ h3)
      have ih:=pkF_ok (p:=p) (G:=G) (D:=D) d (i+1) ⟨s,by omega,by omega,h3⟩
      refine ⟨by omega,by omega,ih.2.2.1,fun l h4 h5=>?_⟩
      by_cases e:l=i
      · rw [e];simpa using h
      · exact ih.2.2.2 l (by omega) h5
structure DnOk (m:Nat) (f:Nat→Int) (c:Nat) (G:Nat→T_IntS) (D:T_IntS):Prop where
  all:∀ y,hasI D.2 y D.1=true↔∃ s,s<c∧hasI D.2 ((G s).2 0) D.1=true∧hasI (G s).2 y (G s).1=true
theorem dn_zero {m:Nat} {f:Nat→Int} {c:Nat} {G:Nat→T_IntS}:DnOk m f c G (0,z0):=⟨fun y=>⟨fun h=>absurd h Bool.false_ne_true,fun h=>by obtain ⟨s,_,h,_⟩:=h;cases h⟩⟩
theorem dn_step {D0:BM} {N m:Nat} {f:Nat→Int} {c:Nat} {G:Nat→T_IntS} {rp:Nat→Nat} (he:EqvB (muD D0 f) m) (hg:GrOk D0 N m f c G rp) {D:T_IntS} (hD:DnOk m f c G D) {s:Nat} (hs:s<c) :
    DnOk m f c G (apL D (G s))∧∀ i,i<c→hasI (apL D (G s)).2 ((G i).2 0) (apL D (G s)).1=(hasI D.2 ((G i).2 0) D.1||decide (i=s)):=by
  have hap:∀ y,hasI (apL D (G s)).2 y (apL D (G s)).1=(hasI D.2 y D.1||hasI (G s).2 y (G s).1):=fun y=>hasI_app D.1 D.2 (G s).2 y (G s).1
  have hh:∀ i,i<c→hasI (G s).2 ((G i).2 0) (G s).1=decide (i=s):=fun i hi=>by
    obtain ⟨h1,h2⟩:=hg.hd i hi
    rw [h2,hg.has s (rp i) hs h1]
    by_cases e:i=s
    · subst e
      rw [decide_eq_true rfl];exact he.rf _ h1
    · rw [decide_eq_false e]
      cases hm:muD D0 f (rp s) (rp i) with
      | false=>rfl
      | true=>exact absurd (hg.uni s i hs hi hm).symm e
  refine ⟨⟨fun y=>?_⟩,fun i hi=>by rw [hap,hh i hi]⟩
  rw [hap,Bool.or_eq_true,hD.all y]
  constructor
  · rintro (⟨t,h1,h2,h3⟩ | h)
    · exact ⟨t,h1,by rw [hap,h2];rfl,h3⟩
    · exact ⟨s,hs,by rw [hap,hh s hs,decide_eq_true rfl,Bool.or_true],h⟩
  · rintro ⟨t,h1,h2,h3⟩
    rw [hap,hh t h1,Bool.or_eq_true,decide_eq_true_eq] at h2
    rcases h2 with h2 | h2
    · exact .inl ⟨t,h1,h2,h3⟩
    · rw [h2] at h3;exact .inr h3
theorem pk_ex {p:T_Pinned} (hb:owB p=true) {c:Nat} {G:Nat→T_IntS} {rp:Nat→Nat} (hg:GrOk (dpD p) p.1.1.toNat (inrP p).1 (inrP p).2 c G rp) {D:T_IntS} (hD:DnOk (inrP p).1 (inrP p).2 c G D)
    {s0:Nat} (h0:s0<c) (hn0:hasI D.2 ((G s0).2 0) D.1=false):∃ s,s<c∧pkB p G D s=true:=by
  have he:=dp_eqv hb
  have io:=in_ok (ow_pin hb)
  obtain ⟨ok,hL,ho⟩:=ow_ok hb
  have hN:=ok.N
  have hc:=clD_ok (edD p p.1.1.toNat (owO p) p.1.2.1.1) p.1.1.toNat p.1.1.toNat
  have hx:∀ i k,muD (dpD p) (inrP p).2 i k=true↔dpD p ((inrP p).2 i).toNat ((inrP p).2 k).toNat=true∧dpD p ((inrP p).2 k).toNat ((inrP p).2 i).toNat=true:=fun i k=>by
    unfold muD
    cases dpD p ((inrP p).2 i).toNat ((inrP p).2 k).toNat<;>simp
  have htr:∀ a b d:Nat,b<p.1.1.toNat→dpD p a b=true→dpD p b d=true→dpD p a d=true:=fun a b d hb' h1 h2=>hc.tr b hb' a d h1 h2
  have key:∀ n s,(flt (dpD p ((G s).2 0).toNat) p.1.1.toNat).1=n→s<c→hasI D.2 ((G s).2 0) D.1=false→∃ s,s<c∧pkB p G D s=true:=by
    intro n
    induction n using Nat.strongRecOn with
    | ind n ih =>
      intro s hn hs hns
      by_cases hr:rdG p D (G s)=true
      · exact ⟨s,hs,by unfold pkB;rw [hns,hr];rfl⟩
      · obtain ⟨g1,g2⟩:=hg.hd s hs
        have gr:=io.rn (rp s) g1
        have hrq:rhQ p ((G s).2 0).toNat=flt (dpD p ((G s).2 0).toNat) p.1.1.toNat:=by
          rw [g2]
          exact (dp_rh hb (by omega) (by rw [show ((((inrP p).2 (rp s)).toNat:Nat):Int)=(inrP p).2 (rp s) by omega];exact gr.2.2)).symm
        have hex:∃ k,k<(rhQ p ((G s).2 0).toNat).1∧(hasI D.2 ((rhQ p ((G s).2 0).toNat).2 k) D.1||hasI (G s).2 ((rhQ p ((G s).2 0).toNat).2 k) (G s).1)=false:=by
          refine Classical.byContradiction (fun hno=>hr ?_)
          unfold rdG rdB
          rw [all_iff]
          intro k hk
          cases hq:(hasI D.2 ((rhQ p ((G s).2 0).toNat).2 k) D.1||hasI (G s).2 ((rhQ p ((G s).2 0).toNat).2 k) (G s).1) with
          | true=>rfl
          | false=>exact absurd ⟨k,hk,hq⟩ hno
        obtain ⟨k,hk,hq⟩:=hex
        rw [hrq] at hk hq
        have hu:=flt_rn _ _ k hk
        generalize hy:(flt (dpD p ((G s).2 0).toNat) p.1.1.toNat).2 k=u at hq hu
        rw [Bool.or_eq_false_iff] at hq
        have huD:dpD p ((G s).2 0).toNat u.toNat=true:=hu.2.2.1
        have hui:inO p u=true:=by
          have hv:((G s).2 0).toNat<p.1.1.toNat:=by rw [g2];omega
          have hio:inO p ((((G s).2 0).toNat:Nat):Int)=true:=by rw [g2,show ((((inrP p).2 (rp s)).toNat:Nat):Int)=(inrP p).2 (rp s) by omega];exact gr.2.2
          have hh:=reach_eq (p:=p) (N:=p.1.1.toNat) (nb:=p.1.2.1.1) (o:=owO p) (fun i hi=>by have:=ho i hi;omega) hv hio u.toNat
          have huD':hB (erQ p (owO p) p.1.1.toNat p.1.2.1.1 ((G s).2 0).toNat) u.toNat=true:=by rw [← hh];exact huD
          have hend:=erQ_ok (p:=p) (o:=owO p) (N:=p.1.1.toNat) (nb:=p.1.2.1.1) (fun i hi=>by have:=ho i hi;omega) hv
          have:=hend.inC (fun t=>inO p (t:Int)=true) (fun a t _ hm=>by obtain ⟨i,_,_,_,e3⟩:=hm;exact e3) (fun t ht=>by
            rw [hB_one,decide_eq_true_eq] at ht
            rw [ht];exact hio) u.toNat huD'
          rw [show ((u.toNat:Nat):Int)=u by omega] at this
          exact this
        obtain ⟨j,hj,hju⟩:=io.all u.toNat (by omega) (by rw [show ((u.toNat:Nat):Int)=u by omega];exact hui)
        rw [show ((u.toNat:Nat):Int)=u by omega] at hju
        obtain ⟨t,ht,htj⟩:=hg.cov j hj
        obtain ⟨t1,t2⟩:=hg.hd t ht
        have grt:=io.rn (rp t) t1
        have htu:hasI (G t).2 u (G t).1=true:=by rw [← hju,hg.has t j ht hj];exact htj
        have htn:hasI D.2 ((G t).2 0) D.1=false:=by
          cases hd:hasI D.2 ((G t).2 0) D.1 with
          | false=>rfl
          | true =>
            have:=(hD.all u).2 ⟨t,ht,hd,htu⟩
            rw [hq.1] at this;cases this
        have hts:t≠s:=fun e=>by rw [e,hq.2] at htu;cases htu
        have htj':=(hx (rp t) j).1 htj
        rw [hju] at htj'
        have hst:dpD p ((G s).2 0).toNat ((G t).2 0).toNat=true:=htr _ u.toNat _ (by omega) huD (by rw [t2];exact htj'.2)
        have hnts:dpD p ((G t).2 0).toNat ((G s).2 0).toNat=false:=by
          cases hd:dpD p ((G t).2 0).toNat ((G s).2 0).toNat with
          | false=>rfl
          | true =>
            rw [g2,t2] at hst hd
            exact absurd (hg.uni t s ht hs ((hx _ _).2 ⟨hd,hst⟩)) hts
        refine ih _ ?_ t rfl ht htn
        rw [← hn]
        refine flt_lt (q:=dpD p ((G t).2 0).toNat) (q':=dpD p ((G s).2 0).toNat) (v:=((G s).2 0).toNat) (fun w hw=>htr _ ((G t).2 0).toNat w (by rw [t2];omega) hst hw) hnts ?_ _ (show ((G s).2 0).toNat<p.1.1.toNat by rw [g2];omega)
        rw [g2]
        exact ((hx (rp s) (rp s)).1 (he.rf _ g1)).1
  exact key _ s0 rfl h0 hn0
def hasB (b:T_Bar) (p:Int):Bool:=bif b.1==p then true else b.2.1==p
theorem pDh (b:T_Bar) (p:Int) :
    zS Tryz.f222 [rg 2,rg 11] [barA b,.p (.int .i64 p)] [] [] (.p (.bool (hasB b p))) =
    some (zD [(NT 0 1),(AG (!b.1==p)),(((!b.1==p)=true)→(NT 0 1)),(((b.1==p)=false)→ ((!b.1==p)=true)),((bif b.1==p then true else b.2.1==p)=(hasB b p))] [0,1,2,1,1,3,4]):=by kernel_rfl
theorem con_hasD (b:T_Bar) (p:Int):zE 222 [barA b,.p (.int .i64 p)] [] (.p (.bool (hasB b p))):=by
  refine csZ Tryz.func222 (fun c hc=>?_)
  refine pkD Tryz.func222 hc (pDh b p) ?_
  and_intros
  all_goals (first | exact zH)
def bhB (x:T_Bar) (v:Int):Bool:=bif x.1==v then true else x.2.1==v
def hoB (p:T_Pinned) (u:T_IntS) (v:Int) (e:Nat):Bool :=
  bif bhB (p.1.2.1.2 e) v then (bif hasI p.2.1.2 (othF (p.1.2.1.2 e) v) p.2.1.1 then true else hasI u.2 (othF (p.1.2.1.2 e) v) u.1) else false
theorem oth_sum5 {x:T_Bar} {v:Int} (h:bhB x v=true):x.1+x.2.1 - v=othF x v:=by
  unfold bhB at h
  unfold othF
  by_cases e:x.1=v
  · rw [if_pos e];omega
  · rw [if_neg e]
    rw [beq_eq_false_iff_ne.2 e] at h
    have:=beq_iff_eq.1 h
    omega
theorem con_barH (x:T_Bar) (v:Int):zE 222 [brA x,.p (.int .i64 v)] [] (.p (.bool (bhB x v))):=con_hasD x v
theorem con_holds {p:T_Pinned} (ok:PinOk p) (u:T_IntS) (hu:u.1≤1048576) (v:Int) {e:Nat} (he:e<p.1.2.1.1) :
    zE 255 [pinA p,inL u,.p (.int .i64 v),.p (.int .i64 e)] [] (.p (.bool (hoB p u v e))):=by
  have c1:=con_within (e:Int) 0 ((p.1.2.1.1:Int) - 1)
  rw [show inB (e:Int) 0 ((p.1.2.1.1:Int) - 1)=true by simp [inB];omega] at c1
  have c2:=con_barH (p.1.2.1.2 e) v
  have hnb:=ok.nb
  have hm:=ok.m
  refine csZ Tryz.func255 (fun c hc=>?_)
  unfold hoB
  cases hb:bhB (p.1.2.1.2 e) v with
  | false =>
    rw [hb] at c2
    refine pkD Tryz.func255 hc (hoa p u v e) ?_
    and_intros
    all_goals (first | exact zH | (exact c1) | (intros;exact c2) | (simp;done) | (simp;omega))
  | true =>
    rw [hb] at c2
    have c3:=con_other (p.1.2.1.2 e) v
    have c4:=con_Contains p.2.1 (othF (p.1.2.1.2 e) v) (by omega)
    have c5:=con_Contains u (othF (p.1.2.1.2 e) v) hu
    refine pkD Tryz.func255 hc (hob p u v e (othF (p.1.2.1.2 e) v) (hasI p.2.1.2 (othF (p.1.2.1.2 e) v) p.2.1.1) (hasI u.2 (othF (p.1.2.1.2 e) v) u.1)) ?_
    and_intros
    all_goals (first | exact zH | (exact c1) | (intros;exact c2) | (exact c3) | (exact c4) | (intros;exact c5) | (simp;done) | (simp;omega))
def cdL (p:T_Pinned) (u:T_IntS) (v:Int):T_IntS:=flt (hoB p u v) p.1.2.1.1
theorem cdL_n (p:T_Pinned) (u:T_IntS) (v:Int):(cdL p u v).1≤p.1.2.1.1:=flt_n _ _
def rcB (p:T_Pinned) (D:T_IntS) (v:Int):Bool:=bif !(hasI D.2 v D.1) then decide (((cdL p D v).1:Int)≥2) else false
theorem con_IsRaise {p:T_Pinned} (hp:pinnedF p=true) (hs:smS s_Pinned p) (D:T_IntS) (hD:D.1≤1048576) {v:Int} (hv:0≤v∧v<p.1.1) (hi:inO p v=true) :
    zE 256 [pinA p,inL D,rzX v (cdL p D v)] [] (.p (.bool (rcB p D v))):=by
  have ok:=pin_ok hp
  have hnb:=ok.nb
  have c1:=con_IsPinned_i p hs
  rw [hp] at c1
  have c2:=inner_at ok hv
  rw [hi] at c2
  have c3:=con_Contains D v hD
  have hn:=cdL_n p D v
  have hr:=flt_rn (hoB p D v) p.1.2.1.1
  change ∀ i,i<(cdL p D v).1→0≤(cdL p D v).2 i∧(cdL p D v).2 i<(p.1.2.1.1:Int)∧hoB p D v ((cdL p D v).2 i).toNat=true∧∀ j,j<i→(cdL p D v).2 j<(cdL p D v).2 i at hr
  have ch:∀ i,i<(cdL p D v).1→zE 255 [pinA p,inL D,.p (.int .i64 v),.p (.int .i64 ((cdL p D v).2 i))] [] (.p (.bool true)):=fun i hi=>by
    have h:=hr i hi
    have:=con_holds ok D hD v (e:=((cdL p D v).2 i).toNat) (by omega)
    rw [h.2.2.1,show ((((cdL p D v).2 i).toNat:Nat):Int)=(cdL p D v).2 i by omega] at this
    exact this
  unfold rcB
  generalize cdL p D v=q at *
  refine csZ Tryz.func256 (fun c hc=>?_)
  have hcond:(bif bif bif !true then true else !true then true else hasI D.2 v D.1 then true else decide ((q.1:Int)<2))=!(bif !(hasI D.2 v D.1) then decide ((q.1:Int)≥2) else false):=by
    cases hasI D.2 v D.1 with
    | true=>rfl
    | false =>
      show decide _=!decide _
      by_cases h:(q.1:Int)<2
      · rw [decide_eq_true h,decide_eq_false (by omega)];rfl
      · rw [decide_eq_false h,decide_eq_true (by omega)];rfl
  cases hb:(bif !(hasI D.2 v D.1) then decide ((q.1:Int)≥2) else false) with
  | false =>
    rw [hb] at hcond
    refine pkD Tryz.func256 hc (ira p D v q true true (hasI D.2 v D.1)) ?_
    and_intros
    all_goals (first | exact zH | (exact c1) | (intros;exact c2) | (intros;exact c3) | (exact hcond) | (simp;done) | (simp;omega))
  | true =>
    rw [hb] at hcond
    have lo:∀ d i,i+d=q.1→zR c 256 zf83 (irS p D v q i) (Post c [] (.p (.bool true))):=by
      intro d
      induction d with
      | zero =>
        intro i hi
        have hd:decide ((i:Int)<(q.1:Int))=false:=decide_eq_false (by omega)
        refine pkZ Tryz.func256 hc (ire p D v q i) ?_
        and_intros
        all_goals (first | exact zN | (exact hd))
      | succ d ih =>
        intro i hi
        have hd:decide ((i:Int)<(q.1:Int))=true:=decide_eq_true (by omega)
        have h:=hr i (by omega)
        have hx:(bif !true then true else bif decide ((i:Int)>0) then decide (q.2 ((i:Int) - 1).toNat≥q.2 i) else false)=false:=by
          by_cases h0:0<i
          · have:=h.2.2.2 (i - 1) (by omega)
            rw [show ((i:Int) - 1).toNat=i - 1 by omega,decide_eq_false (show ¬ (q.2 (i - 1)≥q.2 i) by omega)]
            cases decide ((i:Int)>0)<;>rfl
          · rw [decide_eq_false (show ¬ ((i:Int)>0) by omega)];rfl
        refine pcD hc (irb p D v q i) ?_ (ih (i+1) (by omega))
        and_intros
        all_goals (first | exact zH | (exact hd) | (exact ch i (by omega)) | (exact hx) | (intro h;simp at h;omega) | (intros;simp [All,ntAL,ntA,ntP,ntL];done) | (simp;done) | (simp;omega))
    refine pcD hc (irz p D v q true true (hasI D.2 v D.1)) ?_ (lo q.1 0 (by omega))
    and_intros
    all_goals (first | exact zH | (exact c1) | (intros;exact c2) | (intros;exact c3) | (exact hcond) | (intros;simp [All,ntAL,ntA,ntP,ntL];done) | (simp;done) | (simp;omega))
theorem con_Bars26 {p:T_Pinned} (ok:PinOk p) (u:T_IntS) (hu:u.1≤1048576) {v:Int} (hv:0≤v∧v<p.1.1) :
    zE 248 [pinA p,inL u,.p (.int .i64 v)] [(0,iOb (cdL p u v).1 (cdL p u v).2)] (.ar 1 0 0 (cdL p u v).1):=by
  have hnb:=ok.nb
  have hm:=ok.m
  have hN:=ok.N
  refine csZ Tryz.func248 (fun c hc=>?_)
  generalize hX:cdL p u v=X
  generalize hR:Post c [(0,iOb X.1 X.2)] (.ar 1 0 0 X.1)=R
  have lo:∀ d i,i+d=p.1.2.1.1→zR c 248 zf84 (lbS p u v (flt (hoB p u v) i).1 (flt (hoB p u v) i).2 i) R:=by
    intro d
    induction d with
    | zero =>
      intro i hi
      have hd:decide ((i:Int)<(p.1.2.1.1:Int))=false:=decide_eq_false (by omega)
      rw [show i=p.1.2.1.1 by omega] at hd ⊢
      rw [show flt (hoB p u v) p.1.2.1.1=X from hX,← hR]
      refine pkZ Tryz.func248 hc (lbe p u v X.1 X.2 p.1.2.1.1) ?_
      and_intros
      all_goals (first | exact zN | (exact hd) | (intros;simp [All,ntAL,ntA,ntP,ntL];done))
    | succ d ih =>
      intro i hi
      have hd:decide ((i:Int)<(p.1.2.1.1:Int))=true:=decide_eq_true (by omega)
      have hrec:=ih (i+1) (by omega)
      have hbar:=ok.bars i (by omega)
      have hn:=flt_n (hoB p u v) i
      have hh:hoB p u v i=(bif bhB (p.1.2.1.2 i) v then (bif hasI p.2.1.2 (othF (p.1.2.1.2 i) v) p.2.1.1 then true else hasI u.2 (othF (p.1.2.1.2 i) v) u.1) else false):=rfl
      cases hb:bhB (p.1.2.1.2 i) v with
      | false =>
        rw [hb] at hh
        rw [flt_f hh] at hrec
        have hb':(bif (p.1.2.1.2 i).1==v then true else (p.1.2.1.2 i).2.1==v)=false:=hb
        refine pcD hc (lbc p u v _ _ i) ?_ hrec
        and_intros
        all_goals (first | exact zH | (exact hd) | (exact hb') | (intros;simp [All,ntAL,ntA,ntP,ntL];done) | (simp;done) | (simp;omega))
      | true =>
        rw [hb] at hh
        have hb':(bif (p.1.2.1.2 i).1==v then true else (p.1.2.1.2 i).2.1==v)=true:=hb
        have co:=con_l4Other (p.1.2.1.2 i) v (by omega) (by omega) (by omega)
        rw [oth_sum5 hb] at co
        have c4:=con_l2Has p.2.1 (othF (p.1.2.1.2 i) v) (by omega)
        have c5:=con_l2Has u (othF (p.1.2.1.2 i) v) hu
        cases hq:(bif hasI p.2.1.2 (othF (p.1.2.1.2 i) v) p.2.1.1 then true else hasI u.2 (othF (p.1.2.1.2 i) v) u.1) with
        | true =>
          rw [hq] at hh
          rw [flt_t hh] at hrec
          generalize flt (hoB p u v) i=F at hrec hn ⊢
          refine pcD hc (lba p u v F.1 F.2 i (othF (p.1.2.1.2 i) v) (hasI p.2.1.2 (othF (p.1.2.1.2 i) v) p.2.1.1) (hasI u.2 (othF (p.1.2.1.2 i) v) u.1)) ?_ hrec
          and_intros
          all_goals (first | exact zH | (exact hd) | (exact hb') | (exact co) | (exact c4) | (intros;exact c5) | (exact hq) | (intro t ht;by_cases h':t<F.1<;>(simp [h',snI5,cvtL,cvt,tg,tru,All];done)) | (intros;simp [All,ntAL,ntA,ntP,ntL];done) | (simp;done) | (simp;omega))
        | false =>
          rw [hq] at hh
          rw [flt_f hh] at hrec
          refine pcD hc (lbb p u v _ _ i (othF (p.1.2.1.2 i) v) (hasI p.2.1.2 (othF (p.1.2.1.2 i) v) p.2.1.1) (hasI u.2 (othF (p.1.2.1.2 i) v) u.1)) ?_ hrec
          and_intros
          all_goals (first | exact zH | (exact hd) | (exact hb') | (exact co) | (exact c4) | (intros;exact c5) | (exact hq) | (intros;simp [All,ntAL,ntA,ntP,ntL];done) | (simp;done) | (simp;omega))
  refine pcD hc (lbz p u v) ?_ (lo p.1.2.1.1 0 (by omega))
  and_intros
  iterate 2 all_goals (first | exact zN | (intro t ht;exact absurd ht (Nat.not_lt_zero _)) | (intros;simp [All,ntAL,ntA,ntP,ntL];done) | (simp;done) | (simp;omega) | simp only [All])
abbrev RzS:=(Nat×(Nat→RzE))×T_IntS
def pkR (p:T_Pinned) (f:Nat→Int) (D:T_IntS):Nat→Nat→Nat
  | 0,i=>i
  | d+1,i=>if rcB p D (f i)=true then i else pkR p f D d (i+1)
def apZ (p:T_Pinned) (S:RzS) (v:Int):RzS:=((S.1.1+1,snZ S.1.1 S.1.2 (v,cdL p S.2 v)),snL5 S.2 v)
def rzN (p:T_Pinned) (m:Nat) (f:Nat→Int):Nat→RzS
  | 0=>((0,fun _=>(0,(0,z0))),(0,z0))
  | n+1=>if pkR p f (rzN p m f n).2 m 0<m then apZ p (rzN p m f n) (f (pkR p f (rzN p m f n).2 m 0)) else rzN p m f n
theorem pkR_ok {p:T_Pinned} {f:Nat→Int} {D:T_IntS}:∀ d i,i≤pkR p f D d i∧pkR p f D d i≤i+d∧(pkR p f D d i<i+d→rcB p D (f (pkR p f D d i))=true)∧∀ l,i≤l→l<pkR p f D d i→rcB p D (f l)=false
  | 0,i=>⟨Nat.le_refl _,Nat.le_refl _,fun h=>absurd h (Nat.lt_irrefl _),fun l h1 h2=>absurd h2 (by show ¬ l<i;omega)⟩
  | d+1,i=>by
    rw [pkR]
    by_cases h:rcB p D (f i)=true
    · rw [if_pos h]
      exact ⟨Nat.le_refl _,by omega,fun _=>h,fun l h1 h2=>by omega⟩
    · rw [if_neg h]
      have ih:=pkR_ok (p:=p) (f:=f) (D:=D) d (i+1)
      refine ⟨by omega,by omega,fun h2=>ih.2.2.1 (by omega),fun l h1 h2=>?_⟩
      by_cases e:l=i
      · rw [e];simpa using h
      · exact ih.2.2.2 l (by omega) h2
structure RzI (p:T_Pinned) (m:Nat) (f:Nat→Int) (n:Nat) (S:RzS):Prop where
  cnt:S.1.1=S.2.1
  le:S.2.1≤n
  dif:DifL p.1.1.toNat S.2
  inn:∀ v,hB S.2 v=true→inO p (v:Int)=true
  rz:∀ i,i<S.1.1→(S.1.2 i).2.1≤15∧0≤(S.1.2 i).1∧(S.1.2 i).1<p.1.1∧∀ s,s<(S.1.2 i).2.1→0≤(S.1.2 i).2.2 s∧(S.1.2 i).2.2 s<15
theorem rz_step {p:T_Pinned} (hp:pinnedF p=true) {n:Nat} {S:RzS} (h:RzI p (inrP p).1 (inrP p).2 n S) {i:Nat} (hi:i<(inrP p).1) (hr:rcB p S.2 ((inrP p).2 i)=true):RzI p (inrP p).1 (inrP p).2 (n+1) (apZ p S ((inrP p).2 i)):=by
  have io:=in_ok hp
  have ok:=pin_ok hp
  have h1:=io.rn i hi
  have hN:=ok.N
  have hx:hB S.2 ((inrP p).2 i).toNat=false:=by
    unfold hB
    rw [show ((((inrP p).2 i).toNat:Nat):Int)=(inrP p).2 i by omega]
    unfold rcB at hr
    cases hb:hasI S.2.2 ((inrP p).2 i) S.2.1 with
    | false=>rfl
    | true=>rw [hb] at hr;cases hr
  have hsn:snL5 S.2 ((inrP p).2 i)=snL5 S.2 ((((inrP p).2 i).toNat:Nat):Int):=by rw [show ((((inrP p).2 i).toNat:Nat):Int)=(inrP p).2 i by omega]
  refine ⟨by show S.1.1+1=S.2.1+1;rw [h.cnt],Nat.succ_le_succ h.le,?_,fun v hv=>?_,fun j hj=>?_⟩
  · show DifL _ (snL5 S.2 ((inrP p).2 i))
    rw [hsn];exact difL_sn h.dif (by omega) hx
  · change hB (snL5 S.2 ((inrP p).2 i)) v=true at hv
    rw [hsn,hB_sn,Bool.or_eq_true,decide_eq_true_eq] at hv
    rcases hv with hv | hv
    · exact h.inn v hv
    · rw [hv,show ((((inrP p).2 i).toNat:Nat):Int)=(inrP p).2 i by omega];exact h1.2.2
  · have hj:j<S.1.1+1:=hj
    show (snZ S.1.1 S.1.2 _ j).2.1≤15∧0≤(snZ S.1.1 S.1.2 _ j).1∧(snZ S.1.1 S.1.2 _ j).1<p.1.1∧∀ s,s<(snZ S.1.1 S.1.2 _ j).2.1→0≤(snZ S.1.1 S.1.2 _ j).2.2 s∧(snZ S.1.1 S.1.2 _ j).2.2 s<15
    unfold snZ
    by_cases e:j<S.1.1
    · rw [if_pos e];exact h.rz j e
    · rw [if_neg e]
      have hn:=cdL_n p S.2 ((inrP p).2 i)
      have hrn:=flt_rn (hoB p S.2 ((inrP p).2 i)) p.1.2.1.1
      have hnb:=ok.nb
      refine ⟨by show (cdL p S.2 _).1≤15;omega,h1.1,by show (inrP p).2 i<_;omega,fun s hs=>?_⟩
      have:=hrn s hs
      show 0≤(cdL p S.2 _).2 s∧(cdL p S.2 _).2 s<15
      unfold cdL
      omega
theorem rz_ok {p:T_Pinned} (hp:pinnedF p=true):∀ n,RzI p (inrP p).1 (inrP p).2 n (rzN p (inrP p).1 (inrP p).2 n)
  | 0=>⟨rfl,Nat.le_refl _,fun i hi=>absurd hi (Nat.not_lt_zero _),fun v hv=>absurd hv Bool.false_ne_true,fun i hi=>absurd hi (Nat.not_lt_zero _)⟩
  | n+1=>by
    have ih:=rz_ok hp n
    rw [rzN]
    split
    · rename_i h
      exact rz_step hp ih h ((pkR_ok (p:=p) (f:=(inrP p).2) (D:=(rzN p (inrP p).1 (inrP p).2 n).2) (inrP p).1 0).2.2.1 (by omega))
    · exact ⟨ih.cnt,Nat.le_succ_of_le ih.le,ih.dif,ih.inn,ih.rz⟩
theorem rz_stop {p:T_Pinned} {m:Nat} {f:Nat→Int} {n:Nat} (h:¬ pkR p f (rzN p m f n).2 m 0<m):∀ d,rzN p m f (n+d)=rzN p m f n
  | 0=>rfl
  | d+1=>by
    have ih:=rz_stop h d
    rw [← Nat.add_assoc,rzN,ih,if_neg h]
theorem rz_full {p:T_Pinned} (hp:pinnedF p=true) {n:Nat} {S:RzS} (h:RzI p (inrP p).1 (inrP p).2 n S) (hf:S.2.1=(inrP p).1):¬ pkR p (inrP p).2 S.2 (inrP p).1 0<(inrP p).1:=by
  intro hlt
  have io:=in_ok hp
  have hr:=(pkR_ok (p:=p) (f:=(inrP p).2) (D:=S.2) (inrP p).1 0).2.2.1 (by omega)
  generalize pkR p (inrP p).2 S.2 (inrP p).1 0=i at hlt hr
  have h1:=io.rn i hlt
  have hno:hB S.2 ((inrP p).2 i).toNat=false:=by
    unfold hB
    rw [show ((((inrP p).2 i).toNat:Nat):Int)=(inrP p).2 i by omega]
    unfold rcB at hr
    cases hb:hasI S.2.2 ((inrP p).2 i) S.2.1 with
    | false=>rfl
    | true=>rw [hb] at hr;cases hr
  have hl:=flt_lt (q:=hB S.2) (q':=fun t=>inO p (t:Int)) (fun t ht=>h.inn t ht) hno (by show inO p _=true;rw [show ((((inrP p).2 i).toNat:Nat):Int)=(inrP p).2 i by omega];exact h1.2.2) p.1.1.toNat (by omega)
  have e1:=difL_n S.2.2 S.2.1 h.dif
  have e2:(inrP p).1=(flt (fun t=>inO p (t:Int)) p.1.1.toNat).1:=by unfold inrP;rw [if_pos hp,inrD_flt]
  change (flt (hB S.2) p.1.1.toNat).1=S.2.1 at e1
  omega
def frOk (p:T_Pinned):Bool:=if pinnedF p=true then !decide ((((rzN p (inrP p).1 (inrP p).2 (inrP p).1).2.1:Nat):Int)<((inrP p).1:Int)) else false
def frF (p:T_Pinned):Nat×(Nat→RzE):=if frOk p=true then (rzN p (inrP p).1 (inrP p).2 (inrP p).1).1 else (0,fun _=>(0,(0,z0)))
theorem pkR_at {p:T_Pinned} {f:Nat→Int} {D:T_IntS} {m i:Nat} (hi:i<m) (hr:rcB p D (f i)=true) (hno:∀ l,l<i→rcB p D (f l)=false):pkR p f D m 0=i:=by
  have h:=pkR_ok (p:=p) (f:=f) (D:=D) m 0
  generalize pkR p f D m 0=j at h ⊢
  rcases Nat.lt_trichotomy j i with hl | he | hg
  · have:=h.2.2.1 (by omega)
    rw [hno j hl] at this;cases this
  · exact he
  · have:=h.2.2.2 i (Nat.zero_le _) hg
    rw [hr] at this;cases this
theorem pkR_none {p:T_Pinned} {f:Nat→Int} {D:T_IntS} {m:Nat} (hno:∀ l,l<m→rcB p D (f l)=false):pkR p f D m 0=m:=by
  have h:=pkR_ok (p:=p) (f:=f) (D:=D) m 0
  generalize pkR p f D m 0=j at h ⊢
  by_cases hl:j<m
  · have:=h.2.2.1 (by omega)
    rw [hno j hl] at this;cases this
  · omega
theorem con_Raising_s (p:T_Pinned) (hs:smS s_Pinned p):zE 140 [pinA p] [] (.tup [rzL false (frF p).1 (frF p).2,.p (.bool (frOk p))]):=by
  have c1:=con_InnerPoints_s p hs
  have c2:=con_IsPinned_s p hs
  refine csZ Tryz.func140 (fun c hc=>?_)
  unfold frF
  cases hp:pinnedF p with
  | false =>
    have hok:frOk p=false:=by unfold frOk;rw [hp];rfl
    rw [hok,if_neg Bool.false_ne_true]
    rw [hp] at c2
    rw [show inrP p=(0,fun _=>0) by unfold inrP;rw [hp];rfl] at c1
    have hgo:zR c 140 zf46 (grS5 p 0 (fun _=>(0,(0,z0))) 0 z0 0 (fun _=>0) 0) (Post c [] (.tup [rzL false 0 (fun _=>(0,(0,z0))),.p (.bool false)])):=by
      have hd:decide (((0:Nat):Int)<((0:Nat):Int))=false:=by decide
      refine pkD Tryz.func140 hc (gre p 0 (fun _=>(0,(0,z0))) 0 z0 0 (fun _=>0) 0 false) ?_
      and_intros
      iterate 2 all_goals (first | exact zH | (exact hd) | (exact c2) | (intro t ht;exact absurd ht (Nat.not_lt_zero _)) | (simp;done) | simp only [All])
    refine pcD hc (grz p 0 (fun _=>0)) ?_ hgo
    and_intros
    iterate 2 all_goals (first | exact zN | (exact c1) | (intro t ht;exact absurd ht (Nat.not_lt_zero _)) | (intros;simp [All,ntAL,ntA,ntP,ntL];done) | (simp;done) | simp only [All])
  | true =>
    rw [hp] at c2
    have ok:=pin_ok hp
    have io:=in_ok hp
    have hN:=ok.N
    have hrz:=rz_ok hp
    have hn8:=io.n
    have cb:∀ (D:T_IntS) i,D.1≤1048576→i<(inrP p).1→_:=fun D i hD hi=>con_Bars26 ok D hD (v:=(inrP p).2 i) (by have:=io.rn i hi;omega)
    have hok:frOk p=!decide ((((rzN p (inrP p).1 (inrP p).2 (inrP p).1).2.1:Nat):Int)<((inrP p).1:Int)):=by unfold frOk;rw [hp];rfl
    rw [hok]
    generalize (inrP p).1=m at *
    generalize (inrP p).2=f at *
    generalize hR:Post c [] (.tup [rzL false (if (!decide ((((rzN p m f m).2.1:Nat):Int)<(m:Int)))=true then (rzN p m f m).1 else (0,fun _=>(0,(0,z0)))).1 (if (!decide ((((rzN p m f m).2.1:Nat):Int)<(m:Int)))=true then (rzN p m f m).1 else (0,fun _=>(0,(0,z0)))).2,.p (.bool (!decide ((((rzN p m f m).2.1:Nat):Int)<(m:Int))))])=R
    have inner:∀ (n:Nat) (S:RzS),n<m→S.1.1=S.2.1→S.2.1≤8 →
        zR c 140 zf46 (let T:RzS:=if pkR p f S.2 m 0<m then apZ p S (f (pkR p f S.2 m 0)) else S;grS5 p T.1.1 T.1.2 T.2.1 T.2.2 m f (n+1)) R →
        ∀ d i,i+d=m→(∀ l,l<i→rcB p S.2 (f l)=false)→zR c 140 zf21 (grT5 p S.1.1 S.1.2 S.2.1 S.2.2 m f n i) R:=by
      intro n S hn hS1 hS8 hr d
      induction d with
      | zero =>
        intro i hi hno
        obtain rfl:i=m:=by omega
        rw [pkR_none hno,if_neg (Nat.lt_irrefl _)] at hr
        have hd:decide ((i:Int)<(i:Int))=false:=decide_eq_false (by omega)
        refine pcD hc (grd p S.1.1 S.1.2 S.2.1 S.2.2 i f n i) ?_ hr
        and_intros
        all_goals (first | exact zN | (exact hd) | (intros;simp [All,ntAL,ntA,ntP,ntL];done) | (simp;done) | (simp;omega))
      | succ d ih =>
        intro i hi hno
        have hd:decide ((i:Int)<(m:Int))=true:=decide_eq_true (by omega)
        have c3:=cb S.2 i (by omega) (by omega)
        have c4:=con_l2Has S.2 (f i) (by omega)
        have hcn:=cdL_n p S.2 (f i)
        have hnb:=ok.nb
        have hq:rcB p S.2 (f i)=(bif !(hasI S.2.2 (f i) S.2.1) then decide (((cdL p S.2 (f i)).1:Int)≥2) else false):=rfl
        cases hrc:rcB p S.2 (f i) with
        | true =>
          rw [pkR_at (by omega) hrc hno,if_pos (by omega)] at hr
          rw [hrc] at hq
          have hh:hasI S.2.2 (f i) S.2.1=false:=by
            cases hx:hasI S.2.2 (f i) S.2.1 with
            | false=>rfl
            | true=>rw [hx] at hq;cases hq
          rw [hh] at c4 hq
          have hr':zR c 140 zf46 (grS5 p (S.1.1+1) (snZ S.1.1 S.1.2 (f i,((cdL p S.2 (f i)).1,(cdL p S.2 (f i)).2))) (S.2.1+1) (snI5 S.2.1 S.2.2 (f i)) m f (n+1)) R:=hr
          generalize cdL p S.2 (f i)=q at c3 hcn hq hr'
          refine pcD hc (grc p S.1.1 S.1.2 S.2.1 S.2.2 m f n i q.1 q.2) ?_ hr'
          and_intros
          all_goals (first | exact zN | (exact hd) | (exact c3) | (exact c4) | (exact hq.symm) | (intro t ht;by_cases h':t<S.1.1<;>(simp [h',snZ,cvtL,cvt,lendP,cellP,tab,idx,idx1,lkk,idO,idM,Ob.isF,List.lookup,tg,tru,All];done)) | (intro t ht;by_cases h':t<S.2.1<;>(simp [h',snI5,cvtL,cvt,tg,tru,All];done)) | (intros;simp [All,ntAL,ntA,ntP,ntL];done) | (simp;done) | (simp;omega))
        | false =>
          rw [hrc] at hq
          have hrec:=ih (i+1) (by omega) (fun l hl=>by
            by_cases e:l=i
            · rw [e];exact hrc
            · exact hno l (by omega))
          generalize cdL p S.2 (f i)=q at c3 hcn hq
          refine pcD hc (grb p S.1.1 S.1.2 S.2.1 S.2.2 m f n i q.1 q.2 (hasI S.2.2 (f i) S.2.1)) ?_ hrec
          and_intros
          all_goals (first | exact zN | (exact hd) | (exact c3) | (exact c4) | (exact hq.symm) | (intros;simp [All,ntAL,ntA,ntP,ntL];done) | (simp;done) | (simp;omega))
    have lo:∀ e n,n+e=m→zR c 140 zf46 (grS5 p (rzN p m f n).1.1 (rzN p m f n).1.2 (rzN p m f n).2.1 (rzN p m f n).2.2 m f n) R:=by
      intro e
      induction e with
      | zero =>
        intro n hn
        obtain rfl:n=m:=by omega
        have hd:decide ((n:Int)<(n:Int))=false:=decide_eq_false (by omega)
        rw [← hR]
        generalize rzN p n f n=S
        cases hq:decide (((S.2.1:Nat):Int)<(n:Int)) with
        | true =>
          have hcond:(bif !true then true else decide (((S.2.1:Nat):Int)<(n:Int)))=true:=hq
          rw [if_neg (by decide)]
          refine pkD Tryz.func140 hc (gre p S.1.1 S.1.2 S.2.1 S.2.2 n f n true) ?_
          and_intros
          iterate 2 all_goals (first | exact zH | (exact hd) | (exact c2) | (exact hcond) | (intro t ht;exact absurd ht (Nat.not_lt_zero _)) | (simp;done) | simp only [All])
        | false =>
          have hcond:(bif !true then true else decide (((S.2.1:Nat):Int)<(n:Int)))=false:=hq
          rw [if_pos (by decide)]
          refine pkZ Tryz.func140 hc (grf p S.1.1 S.1.2 S.2.1 S.2.2 n f n) ?_
          and_intros
          iterate 2 all_goals (first | exact zH | (exact hd) | (exact c2) | (exact hcond) | (intros;simp [All,ntAL,ntA,ntP,ntL];done) | (simp;done) | simp only [All])
      | succ e ih =>
        intro n hn
        have hd:decide ((n:Int)<(m:Int))=true:=decide_eq_true (by omega)
        have hrec:=ih (n+1) (by omega)
        have h:=hrz n
        rw [rzN] at hrec
        have h1:=h.cnt
        have h2:=h.le
        generalize rzN p m f n=S at hrec h1 h2 ⊢
        refine pcD hc (gra p S.1.1 S.1.2 S.2.1 S.2.2 m f n) ?_ (inner n S (by omega) h1 (by omega) hrec m 0 (by omega) (fun l hl=>absurd hl (Nat.not_lt_zero _)))
        and_intros
        all_goals (first | exact zN | (exact hd) | (intros;simp [All,ntAL,ntA,ntP,ntL];done) | (simp;done) | (simp;omega))
    refine pcD hc (grz p m f) ?_ (lo m 0 (by omega))
    and_intros
    iterate 2 all_goals (first | exact zN | (exact c1) | (intro t ht;exact absurd ht (Nat.not_lt_zero _)) | (intros;simp [All,ntAL,ntA,ntP,ntL];done) | (simp;done) | simp only [All])
theorem con_Raising_i (p:T_Pinned) (hs:smS s_Pinned p):zE 145 [pinA p] [] (.tup [rzL false (frF p).1 (frF p).2,.p (.bool (frOk p))]):=by
  have c1:=con_InnerPoints_i p hs
  have c2:=con_IsPinned_i p hs
  refine csZ Tryz.func145 (fun c hc=>?_)
  unfold frF
  cases hp:pinnedF p with
  | false =>
    have hok:frOk p=false:=by unfold frOk;rw [hp];rfl
    rw [hok,if_neg Bool.false_ne_true]
    rw [hp] at c2
    refine pkZ Tryz.func145 hc (frn p) ?_
    and_intros
    iterate 2 all_goals (first | exact zN | (exact c2) | (intro t ht;exact absurd ht (Nat.not_lt_zero _)) | (simp;done) | simp only [All])
  | true =>
    rw [hp] at c2
    have ok:=pin_ok hp
    have io:=in_ok hp
    have hN:=ok.N
    have hnb:=ok.nb
    have hrz:=rz_ok hp
    have hn8:=io.n
    have hrn:=io.rn
    have hstep:=fun {n:Nat} {S:RzS} (h:RzI p (inrP p).1 (inrP p).2 n S)=>rz_full hp h
    have hok:frOk p=!decide ((((rzN p (inrP p).1 (inrP p).2 (inrP p).1).2.1:Nat):Int)<((inrP p).1:Int)):=by unfold frOk;rw [hp];rfl
    rw [hok]
    generalize (inrP p).1=m at *
    generalize (inrP p).2=f at *
    generalize hR:Post c [] (.tup [rzL false (if (!decide ((((rzN p m f m).2.1:Nat):Int)<(m:Int)))=true then (rzN p m f m).1 else (0,fun _=>(0,(0,z0)))).1 (if (!decide ((((rzN p m f m).2.1:Nat):Int)<(m:Int)))=true then (rzN p m f m).1 else (0,fun _=>(0,(0,z0)))).2,.p (.bool (!decide ((((rzN p m f m).2.1:Nat):Int)<(m:Int))))])=R
    have build:∀ (S:RzS) (i:Nat),i<m→S.1.1=S.2.1→S.2.1≤8→zR c 145 zf13 (frT p S.1.1 S.1.2 S.2.1 S.2.2 m f i (f i) (cdL p S.2 (f i)).1 (cdL p S.2 (f i)).2 p.1.2.1.1) R →
        ∀ d e,e+d=p.1.2.1.1→zR c 145 zf13 (frT p S.1.1 S.1.2 S.2.1 S.2.2 m f i (f i) (flt (hoB p S.2 (f i)) e).1 (flt (hoB p S.2 (f i)) e).2 e) R:=by
      intro S i hi hS1 hS8 hr d
      induction d with
      | zero=>intro e he;rw [show e=p.1.2.1.1 by omega];exact hr
      | succ d ih =>
        intro e he
        have hrec:=ih (e+1) (by omega)
        have hd:decide ((e:Int)<(p.1.2.1.1:Int))=true:=decide_eq_true (by omega)
        have chh:=con_holds ok S.2 (by omega) (f i) (e:=e) (by omega)
        have hn:=flt_n (hoB p S.2 (f i)) e
        cases hh:hoB p S.2 (f i) e with
        | true =>
          rw [hh] at chh
          rw [flt_t hh] at hrec
          generalize flt (hoB p S.2 (f i)) e=F at hrec hn ⊢
          refine pcD hc (frb p S.1.1 S.1.2 S.2.1 S.2.2 m f i (f i) F.1 F.2 e) ?_ hrec
          and_intros
          all_goals (first | exact zI | (exact hd) | (exact chh) | (intro t ht;by_cases h':t<F.1<;>(simp [h',snI5,cvtL,cvt,tg,tru,All];done)) | (intros;simp [All,ntAL,ntA,ntP,ntL];done) | (simp;done) | (simp;omega))
        | false =>
          rw [hh] at chh
          rw [flt_f hh] at hrec
          refine pcD hc (frc p S.1.1 S.1.2 S.2.1 S.2.2 m f i (f i) _ _ e) ?_ hrec
          and_intros
          all_goals (first | exact zN | (exact hd) | (exact chh) | (intros;simp [All,ntAL,ntA,ntP,ntL];done) | (simp;done) | (simp;omega))
    have scan:∀ (k:Nat) (S:RzS),k≤m→S=rzN p m f k→S.2.1=k →
        (k<m→∀ T:RzS,T=rzN p m f (k+1)→T.2.1=k+1→zR c 145 zf36 (frS p T.1.1 T.1.2 T.2.1 T.2.2 m f 0) R) →
        ∀ d i,i+d=m→(∀ l,l<i→rcB p S.2 (f l)=false)→zR c 145 zf36 (frS p S.1.1 S.1.2 S.2.1 S.2.2 m f i) R:=by
      intro k S hk hS hSk hnext d
      have hI:=hrz k
      rw [← hS] at hI
      have h1:=hI.cnt
      induction d with
      | zero =>
        intro i hi hno
        obtain rfl:i=m:=by omega
        have hd:decide ((i:Int)<(i:Int))=false:=decide_eq_false (by omega)
        have hst:=rz_stop (p:=p) (m:=i) (f:=f) (n:=k) (by rw [← hS,pkR_none hno];exact Nat.lt_irrefl _) (i - k)
        rw [show k+(i - k)=i by omega,← hS] at hst
        rw [← hR,hst]
        cases hq:decide (((S.2.1:Nat):Int)<(i:Int)) with
        | true =>
          have:=of_decide_eq_true hq
          have hcond:(((S.2.1:Nat):Int) != (i:Int))=true:=by simp;omega
          rw [if_neg (by decide)]
          refine pkZ Tryz.func145 hc (frf p S.1.1 S.1.2 S.2.1 S.2.2 i f i) ?_
          and_intros
          iterate 2 all_goals (first | exact zN | (exact hd) | (exact hcond) | (intro t ht;exact absurd ht (Nat.not_lt_zero _)) | (simp;done) | simp only [All])
        | false =>
          have:=of_decide_eq_false hq
          have hcond:(((S.2.1:Nat):Int) != (i:Int))=false:=by simp;omega
          rw [if_pos (by decide)]
          refine pkZ Tryz.func145 hc (frg p S.1.1 S.1.2 S.2.1 S.2.2 i f i) ?_
          and_intros
          iterate 2 all_goals (first | exact zN | (exact hd) | (exact hcond) | (intros;simp [All,ntAL,ntA,ntP,ntL];done) | (simp;done) | simp only [All])
      | succ d ih =>
        intro i hi hno
        have hd:decide ((i:Int)<(m:Int))=true:=decide_eq_true (by omega)
        have hfi:=hrn i (by omega)
        have cr:=con_IsRaise hp hs S.2 (by omega) (v:=f i) (by omega) hfi.2.2
        have hcn:=cdL_n p S.2 (f i)
        have hde:decide ((p.1.2.1.1:Int)<(p.1.2.1.1:Int))=false:=decide_eq_false (by omega)
        have hend:zR c 145 zf13 (frT p S.1.1 S.1.2 S.2.1 S.2.2 m f i (f i) (cdL p S.2 (f i)).1 (cdL p S.2 (f i)).2 p.1.2.1.1) R:=by
          cases hrc:rcB p S.2 (f i) with
          | true =>
            have hpk:=pkR_at (m:=m) (i:=i) (by omega) hrc hno
            have hkm:k<m:=by
              refine Nat.lt_of_le_of_ne hk (fun e=>?_)
              exact hstep hI (by omega) (by rw [hpk];omega)
            have hT:rzN p m f (k+1)=apZ p S (f i):=by rw [rzN,← hS,hpk,if_pos (by omega)]
            have hr:=hnext hkm (apZ p S (f i)) hT.symm (by show S.2.1+1=k+1;omega)
            have hr':zR c 145 zf36 (frS p (S.1.1+1) (snZ S.1.1 S.1.2 (f i,((cdL p S.2 (f i)).1,(cdL p S.2 (f i)).2))) (S.2.1+1) (snI5 S.2.1 S.2.2 (f i)) m f 0) R:=hr
            rw [hrc] at cr
            generalize cdL p S.2 (f i)=q at cr hcn hr' ⊢
            refine pcD hc (frd p S.1.1 S.1.2 S.2.1 S.2.2 m f i (f i) q.1 q.2 p.1.2.1.1) ?_ hr'
            and_intros
            all_goals (first | exact zN | (exact hde) | (exact cr) | (intro t ht;by_cases h':t<S.1.1<;>(simp [h',snZ,cvtL,cvt,lendP,cellP,tab,idx,idx1,lkk,idO,idM,Ob.isF,List.lookup,tg,tru,All];done)) | (intro t ht;by_cases h':t<S.2.1<;>(simp [h',snI5,cvtL,cvt,tg,tru,All];done)) | (intros;simp [All,ntAL,ntA,ntP,ntL];done) | (simp;done) | (simp;omega))
          | false =>
            have hrec:=ih (i+1) (by omega) (fun l hl=>by
              by_cases e:l=i
              · rw [e];exact hrc
              · exact hno l (by omega))
            rw [hrc] at cr
            generalize cdL p S.2 (f i)=q at cr hcn ⊢
            refine pcD hc (fre p S.1.1 S.1.2 S.2.1 S.2.2 m f i (f i) q.1 q.2 p.1.2.1.1) ?_ hrec
            and_intros
            all_goals (first | exact zN | (exact hde) | (exact cr) | (intros;simp [All,ntAL,ntA,ntP,ntL];done) | (simp;done) | (simp;omega))
        refine pcD hc (fra p S.1.1 S.1.2 S.2.1 S.2.2 m f i) ?_ (build S i (by omega) h1 (by omega) hend p.1.2.1.1 0 (by omega))
        and_intros
        all_goals (first | exact zI | (exact hd) | (intro t ht;exact absurd ht (Nat.not_lt_zero _)) | (intros;simp [All,ntAL,ntA,ntP,ntL];done) | (simp;done) | (simp;omega))
    have lo:∀ e k,k+e=m→∀ S:RzS,S=rzN p m f k→S.2.1=k→zR c 145 zf36 (frS p S.1.1 S.1.2 S.2.1 S.2.2 m f 0) R:=by
      intro e
      induction e with
      | zero=>intro k hk S hS hSk;exact scan k S (by omega) hS hSk (fun h=>absurd h (by omega)) m 0 (by omega) (fun l hl=>absurd hl (Nat.not_lt_zero _))
      | succ e ih=>intro k hk S hS hSk;exact scan k S (by omega) hS hSk (fun h T hT hT1=>ih (k+1) (by omega) T hT hT1) m 0 (by omega) (fun l hl=>absurd hl (Nat.not_lt_zero _))
    refine pcD hc (frz p m f) ?_ (lo m 0 (by omega) _ rfl rfl)
    and_intros
    iterate 2 all_goals (first | exact zN | (exact c2) | (exact c1) | (intro t ht;exact absurd ht (Nat.not_lt_zero _)) | (intros;simp [All,ntAL,ntA,ntP,ntL];done) | (simp;done) | simp only [All])
noncomputable def ogF (p:T_Pinned):RmL:=if owB p=true then (ogS p (asG p).1 (asG p).2 (asG p).1).1 else (0,fun _=>(0,z0))
structure LfOk (c:Nat) (G:Nat→T_IntS) (D:T_IntS) (q:Nat) (ix:Nat→Nat):Prop where
  un:∀ s,s<q→ix s<c∧hasI D.2 ((G (ix s)).2 0) D.1=false
  asc:∀ s t,s<t→t<q→ix s<ix t
  all:∀ i,i<c→hasI D.2 ((G i).2 0) D.1=false→∃ s,s<q∧ix s=i
def dlx (ix:Nat→Nat) (j s:Nat):Nat:=if s<j then ix s else ix (s+1)
theorem lf_step {c:Nat} {G:Nat→T_IntS} {D D':T_IntS} {q:Nat} {ix:Nat→Nat} (h:LfOk c G D (q+1) ix) {j:Nat} (hj:j<q+1)
    (hD:∀ i,i<c→hasI D'.2 ((G i).2 0) D'.1=(hasI D.2 ((G i).2 0) D.1||decide (i=ix j))):LfOk c G D' q (dlx ix j):=by
  have hne:∀ s,s<q+1→s≠j→ix s≠ix j:=fun s hs hn e=>by
    rcases Nat.lt_or_gt_of_ne hn with hl | hl
    · have:=h.asc s j hl hj;omega
    · have:=h.asc j s hl hs;omega
  refine ⟨fun s hs=>?_,fun s t hst ht=>?_,fun i hi hn=>?_⟩
  · unfold dlx
    split
    · have h1:=h.un s (by omega)
      refine ⟨h1.1,?_⟩
      rw [hD _ h1.1,h1.2,decide_eq_false (hne s (by omega) (by omega))];rfl
    · have h1:=h.un (s+1) (by omega)
      refine ⟨h1.1,?_⟩
      rw [hD _ h1.1,h1.2,decide_eq_false (hne (s+1) (by omega) (by omega))];rfl
  · unfold dlx
    split
    · split
      · exact h.asc s t hst (by omega)
      · exact h.asc s (t+1) (by omega) (by omega)
    · rw [if_neg (by omega)]
      exact h.asc (s+1) (t+1) (by omega) (by omega)
  · rw [hD i hi,Bool.or_eq_false_iff,decide_eq_false_iff_not] at hn
    obtain ⟨s,hs,e⟩:=h.all i hi hn.1
    have hsj:s≠j:=fun e2=>hn.2 (by rw [← e,e2])
    unfold dlx
    by_cases hlt:s<j
    · exact ⟨s,by omega,by rw [if_pos hlt];exact e⟩
    · exact ⟨s - 1,by omega,by rw [if_neg (by omega),show s - 1+1=s by omega];exact e⟩
theorem lf_zero {c:Nat} {G:Nat→T_IntS}:LfOk c G (0,z0) c (fun s=>s) :=
  ⟨fun s hs=>⟨hs,rfl⟩,fun s t h _=>h,fun i hi _=>⟨i,hi,rfl⟩⟩
structure OgI (p:T_Pinned) (c:Nat) (G:Nat→T_IntS) (n:Nat) (ix:Nat→Nat):Prop where
  cnt:(ogS p c G n).1.1=n
  dn:DnOk (inrP p).1 (inrP p).2 c G (ogS p c G n).2
  lf:LfOk c G (ogS p c G n).2 (c - n) ix
  le:(ogS p c G n).2.1≤n*8
theorem og_round {p:T_Pinned} (hb:owB p=true) {c:Nat} {G:Nat→T_IntS} {rp:Nat→Nat} (hg:GrOk (dpD p) p.1.1.toNat (inrP p).1 (inrP p).2 c G rp) {n:Nat} {ix:Nat→Nat} (hn:n<c) (hi:OgI p c G n ix) :
    ∃ j,j<c - n∧ix j=pkF p G (ogS p c G n).2 c 0∧pkB p G (ogS p c G n).2 (ix j)=true∧(∀ l,l<ix j→pkB p G (ogS p c G n).2 l=false)∧OgI p c G (n+1) (dlx ix j):=by
  have h0:=hi.lf.un 0 (by omega)
  obtain ⟨s,h1,h2⟩:=pk_ex hb hg hi.dn h0.1 h0.2
  have hp:=pkF_ok (p:=p) (G:=G) (D:=(ogS p c G n).2) c 0 ⟨s,Nat.zero_le _,by omega,h2⟩
  have hund:hasI (ogS p c G n).2.2 ((G (pkF p G (ogS p c G n).2 c 0)).2 0) (ogS p c G n).2.1=false:=by
    have:=hp.2.2.1
    unfold pkB at this
    rw [Bool.and_eq_true] at this
    simpa using this.1
  obtain ⟨j,hj,e⟩:=hi.lf.all _ (by omega) hund
  have hst:=dn_step (dp_eqv hb) hg hi.dn (s:=ix j) (by rw [e];omega)
  have hs1:(ogS p c G (n+1)).2=apL (ogS p c G n).2 (G (ix j)):=by rw [e];rfl
  refine ⟨j,hj,e,by rw [e];exact hp.2.2.1,fun l hl=>hp.2.2.2 l (Nat.zero_le _) (by omega),⟨?_,?_,?_,?_⟩⟩
  · show (ogS p c G n).1.1+1=n+1
    rw [hi.cnt]
  · rw [hs1];exact hst.1
  · rw [hs1]
    have:=hi.lf
    rw [show c - n=(c - (n+1))+1 by omega] at this hj
    exact lf_step this hj hst.2
  · rw [hs1]
    show (ogS p c G n).2.1+(G (ix j)).1≤_
    have h3:=hi.le
    have h4:=(hg.pos (ix j) (by rw [e];omega)).2
    have h5:=inrP_n p
    omega
theorem og_start {p:T_Pinned} {c:Nat} {G:Nat→T_IntS}:OgI p c G 0 (fun s=>s):=⟨rfl,dn_zero,by rw [Nat.sub_zero];exact lf_zero,Nat.zero_le _⟩
theorem og_all {p:T_Pinned} (hb:owB p=true) {c:Nat} {G:Nat→T_IntS} {rp:Nat→Nat} (hg:GrOk (dpD p) p.1.1.toNat (inrP p).1 (inrP p).2 c G rp):∀ n,n≤c→∃ ix,OgI p c G n ix
  | 0,_=>⟨_,og_start⟩
  | n+1,h=>by
    obtain ⟨ix,hi⟩:=og_all hb hg n (by omega)
    obtain ⟨j,_,_,_,_,h⟩:=og_round hb hg (by omega) hi
    exact ⟨_,h⟩
theorem rd_step (p:T_Pinned) (h D g:T_IntS) (k:Nat):(bif rdB p h D g k then bif hasI D.2 (h.2 k) D.1 then true else hasI g.2 (h.2 k) g.1 else false)=rdB p h D g (k+1):=by
  show _=(rdB p h D g k&&(hasI D.2 (h.2 k) D.1||hasI g.2 (h.2 k) g.1))
  cases rdB p h D g k<;>cases hasI D.2 (h.2 k) D.1<;>rfl
theorem as_gr {p:T_Pinned} (hb:owB p=true):∃ rp,GrOk (dpD p) p.1.1.toNat (inrP p).1 (inrP p).2 (asG p).1 (asG p).2 rp:=by
  have io:=in_ok (ow_pin hb)
  have:=gr_ok (N:=p.1.1.toNat) (dp_eqv hb) io.asc
  unfold asG
  rw [if_pos hb]
  exact ⟨_,this⟩
theorem rh_n (p:T_Pinned) (h:p.1.1≤8) (v:Nat):(rhQ p v).1≤8:=by
  have:=flt_n (hB (erQ p (owO p) p.1.1.toNat p.1.2.1.1 v)) p.1.1.toNat
  unfold rhQ;omega
theorem con_Order_s (p:T_Pinned) (hs:smS s_Pinned p):zE 139 [pinA p] [] (.tup [rsL (ogF p).1 (ogF p).2,.p (.bool (owB p))]):=by
  have c1:=con_Assur_s p hs
  have c2:=con_Owners_s p hs
  refine csZ Tryz.func139 (fun c hc=>?_)
  unfold ogF
  cases hb:owB p with
  | false =>
    rw [hb] at c1 c2
    rw [if_neg Bool.false_ne_true]
    have hgo:zR c 139 zf38 (dgS p 0 (fun _=>(0,z0)) 0 z0 (asG p).1 (asG p).2 false (owL p).1 (owL p).2 0) (Post c [] (.tup [rsL 0 (fun _=>(0,z0)),.p (.bool false)])):=by
      have hd:(bif decide (((0:Nat):Int)<((asG p).1:Int)) then false else false)=false:=by cases decide (((0:Nat):Int)<((asG p).1:Int))<;>rfl
      refine pkZ Tryz.func139 hc (dgh p 0 (fun _=>(0,z0)) 0 z0 (asG p).1 (asG p).2 false (owL p).1 (owL p).2 0) ?_
      and_intros
      iterate 2 all_goals (first | exact zN | (exact hd) | (intro t ht;exact absurd ht (Nat.not_lt_zero _)) | simp only [All])
    refine pcD hc (dgz p (asG p).1 (asG p).2 false (owL p).1 (owL p).2 false) ?_ hgo
    and_intros
    iterate 2 all_goals (first | exact zN | (exact c1) | (exact c2) | (intro t ht;exact absurd ht (Nat.not_lt_zero _)) | (intros;simp [All,ntAL,ntA,ntP,ntL];done) | (simp;done) | simp only [All])
  | true =>
    obtain ⟨ok,hL,ho⟩:=ow_ok hb
    rw [hb] at c1 c2
    rw [hL] at c2
    rw [if_pos rfl]
    obtain ⟨rp,hg⟩:=as_gr hb
    have io:=in_ok (ow_pin hb)
    have hN:=ok.N
    have hnb:=ok.nb
    have hrl:=fun v=>rh_n p (by omega) v
    have hm8:=io.n
    have hround:=fun {n:Nat} {ix:Nat→Nat} (hn:n<(asG p).1) (hi:OgI p (asG p).1 (asG p).2 n ix)=>og_round hb hg hn hi
    have crch:∀ s,s<(asG p).1→zE 246 [pinA p,inL (p.1.2.1.1,owO p),.p (.int .i64 (((asG p).2 s).2 0))] [(0,iOb (rhQ p (((asG p).2 s).2 0).toNat).1 (rhQ p (((asG p).2 s).2 0).toNat).2)] (.ar 1 0 0 (rhQ p (((asG p).2 s).2 0).toNat).1):=fun s hs=>by
      obtain ⟨g1,g2⟩:=hg.hd s hs
      have gr:=io.rn (rp s) g1
      have:=con_RchP hb (v:=(((asG p).2 s).2 0).toNat) (by rw [g2];omega)
      rw [show (((((asG p).2 s).2 0).toNat:Nat):Int)=((asG p).2 s).2 0 by rw [g2];omega] at this
      exact this
    have hpos:=hg.pos
    have hcm:=hg.cm
    generalize owO p=o at *
    generalize (asG p).1=cg at *
    generalize (asG p).2=G at *
    generalize hX:(ogS p cg G cg).1=X
    generalize hR:Post c [] (.tup [rsL X.1 X.2,.p (.bool true)])=R
    have l2:∀ (r:Nat) (Q:Nat→T_IntS) (D:T_IntS) (n i:Nat) (h:T_IntS),D.1≤64→h.1≤8→i<cg→(∀ b,rdB p h D (G i) h.1=b→zR c 139 zf2 (dgU p r Q D.1 D.2 cg G p.1.2.1.1 o n i b h.1 h.2 h.1) R) →
        ∀ e k,k+e=h.1→zR c 139 zf2 (dgU p r Q D.1 D.2 cg G p.1.2.1.1 o n i (rdB p h D (G i) k) h.1 h.2 k) R:=by
      intro r Q D n i h hD8 hh8 hi hr e
      induction e with
      | zero=>intro k hk;rw [show k=h.1 by omega];exact hr _ rfl
      | succ e ih =>
        intro k hk
        have hrec:=ih (k+1) (by omega)
        rw [← rd_step] at hrec
        have hd:decide ((k:Int)<(h.1:Int))=true:=decide_eq_true (by omega)
        have hp:=hpos i hi
        have h1:=con_l2Has D (h.2 k) (by omega)
        have h2:=con_l2Has (G i) (h.2 k) (by omega)
        refine pcD hc (dgd p r Q D.1 D.2 cg G p.1.2.1.1 o n i (rdB p h D (G i) k) h.1 h.2 k (hasI D.2 (h.2 k) D.1) (hasI (G i).2 (h.2 k) (G i).1)) ?_ hrec
        and_intros
        all_goals (first | exact zH | (exact hd) | (intros;exact h1) | (intros;exact h2) | (intros;simp [All,ntAL,ntA,ntP,ntL];done) | (simp;done) | (simp;omega))
    have l1:∀ (n:Nat) (S:RmL×T_IntS) (s:Nat),n<cg→S.1.1=n→S.2.1≤64→s<cg→pkB p G S.2 s=true→(∀ l,l<s→pkB p G S.2 l=false) →
        zR c 139 zf38 (dgS p (S.1.1+1) (snR5 S.1.1 S.1.2 (G s)) (S.2.1+(G s).1) (apI S.2.1 S.2.2 (G s).2) cg G true p.1.2.1.1 o (n+1)) R →
        ∀ e i,i+e=s→zR c 139 zf20 (dgT p S.1.1 S.1.2 S.2.1 S.2.2 cg G p.1.2.1.1 o n i) R:=by
      intro n S s hn hS1 hS8 hs hps hno hr e
      induction e with
      | zero =>
        intro i hi
        obtain rfl:i=s:=by omega
        have hd:decide ((i:Int)<(cg:Int))=true:=decide_eq_true (by omega)
        unfold pkB at hps
        simp only [Bool.and_eq_true,Bool.not_eq_true'] at hps
        have ch:=con_l2Has S.2 ((G i).2 0) (by omega)
        rw [hps.1] at ch
        have cr:=crch i hs
        have hp:=hpos i hs
        have hh8:=hrl ((G i).2 0).toNat
        have hrd:=hps.2
        unfold rdG at hrd
        generalize rhQ p ((G i).2 0).toNat=h at cr hh8 hrd
        refine pcD hc (dgc p S.1.1 S.1.2 S.2.1 S.2.2 cg G p.1.2.1.1 o n i h.1 h.2) ?_ (l2 S.1.1 S.1.2 S.2 n i h hS8 hh8 hs (fun b hb=>?_) h.1 0 (by omega))
        ·
          and_intros
          all_goals (first | exact zN | (exact hd) | (exact ch) | (exact cr) | (intros;simp [All,ntAL,ntA,ntP,ntL];done) | (simp;done) | (simp;omega))
        · rw [hrd] at hb
          subst hb
          have hd2:decide ((h.1:Int)<(h.1:Int))=false:=decide_eq_false (by omega)
          refine pcD hc (dgj5 p S.1.1 S.1.2 S.2.1 S.2.2 cg G p.1.2.1.1 o n i h.1 h.2 h.1) ?_ hr
          and_intros
          all_goals (first | exact zN | (exact hd2) | (intro t ht;by_cases h':t<S.1.1<;>(simp [h',snR5,cvtL,cvt,lendP,cellP,tab,idx,idx1,lkk,idO,idM,Ob.isF,List.lookup,tg,tru,All];done)) | (intro t ht;by_cases h':t<S.2.1<;>(simp [h',apI,cvtL,cvt,tg,tru,All];done)) | (intros;simp [All,ntAL,ntA,ntP,ntL];done) | (simp;done) | (simp;omega))
      | succ e ih =>
        intro i hi
        have hrec:=ih (i+1) (by omega)
        have hd:decide ((i:Int)<(cg:Int))=true:=decide_eq_true (by omega)
        have hpi:=hno i (by omega)
        have ch:=con_l2Has S.2 ((G i).2 0) (by omega)
        have hp:=hpos i (by omega)
        cases hdn:hasI S.2.2 ((G i).2 0) S.2.1 with
        | true =>
          rw [hdn] at ch
          refine pcD hc (dgb p S.1.1 S.1.2 S.2.1 S.2.2 cg G p.1.2.1.1 o n i) ?_ hrec
          and_intros
          all_goals (first | exact zN | (exact hd) | (exact ch) | (intros;simp [All,ntAL,ntA,ntP,ntL];done) | (simp;done) | (simp;omega))
        | false =>
          rw [hdn] at ch
          have hrd:rdG p S.2 (G i)=false:=by
            unfold pkB at hpi
            rw [hdn] at hpi
            simpa using hpi
          have cr:=crch i (by omega)
          have hh8:=hrl ((G i).2 0).toNat
          unfold rdG at hrd
          generalize rhQ p ((G i).2 0).toNat=h at cr hh8 hrd
          refine pcD hc (dgc p S.1.1 S.1.2 S.2.1 S.2.2 cg G p.1.2.1.1 o n i h.1 h.2) ?_ (l2 S.1.1 S.1.2 S.2 n i h hS8 hh8 (by omega) (fun b hb=>?_) h.1 0 (by omega))
          ·
            and_intros
            all_goals (first | exact zN | (exact hd) | (exact ch) | (exact cr) | (intros;simp [All,ntAL,ntA,ntP,ntL];done) | (simp;done) | (simp;omega))
          · rw [hrd] at hb
            subst hb
            have hd2:decide ((h.1:Int)<(h.1:Int))=false:=decide_eq_false (by omega)
            refine pcD hc (dgf p S.1.1 S.1.2 S.2.1 S.2.2 cg G p.1.2.1.1 o n i h.1 h.2 h.1) ?_ hrec
            and_intros
            all_goals (first | exact zN | (exact hd2) | (intros;simp [All,ntAL,ntA,ntP,ntL];done) | (simp;done) | (simp;omega))
    have lo:∀ e n ix,n+e=cg→OgI p cg G n ix→zR c 139 zf38 (dgS p (ogS p cg G n).1.1 (ogS p cg G n).1.2 (ogS p cg G n).2.1 (ogS p cg G n).2.2 cg G true p.1.2.1.1 o n) R:=by
      intro e
      induction e with
      | zero =>
        intro n ix hn hi
        have hd:(bif decide ((n:Int)<(cg:Int)) then true else false)=false:=by rw [decide_eq_false (show ¬ ((n:Int)<(cg:Int)) by omega)];rfl
        rw [show n=cg by omega] at hd ⊢
        rw [hX,← hR]
        refine pkZ Tryz.func139 hc (dgh p X.1 X.2 _ _ cg G true p.1.2.1.1 o cg) ?_
        and_intros
        iterate 2 all_goals (first | exact zN | (exact hd) | (intros;simp [All,ntAL,ntA,ntP,ntL];done) | simp only [All])
      | succ e ih =>
        intro n ix hn hi
        have hd:(bif decide ((n:Int)<(cg:Int)) then true else false)=true:=by rw [decide_eq_true (show ((n:Int)<(cg:Int)) by omega)];rfl
        obtain ⟨j,hj,ej,hpj,hlj,hnx⟩:=hround (by omega) hi
        have hrec:=ih (n+1) _ (by omega) hnx
        have hle:=hi.le
        have hcn:=hi.cnt
        have hjc:=(hi.lf.un j hj).1
        rw [ogS,← ej] at hrec
        generalize ogS p cg G n=S at hrec hle hcn hpj hlj ⊢
        refine pcD hc (dga p S.1.1 S.1.2 S.2.1 S.2.2 cg G p.1.2.1.1 o n) ?_ (l1 n S (ix j) (by omega) hcn (by omega) hjc hpj hlj hrec (ix j) 0 (by omega))
        and_intros
        all_goals (first | exact zN | (exact hd) | (intros;simp [All,ntAL,ntA,ntP,ntL];done) | (simp;done) | (simp;omega))
    refine pcD hc (dgz p cg G true p.1.2.1.1 o true) ?_ (lo cg 0 _ (by omega) og_start)
    and_intros
    iterate 2 all_goals (first | exact zN | (exact c1) | (exact c2) | (intro t ht;exact absurd ht (Nat.not_lt_zero _)) | (intros;simp [All,ntAL,ntA,ntP,ntL];done) | (simp;done) | simp only [All])
theorem con_Order_i (p:T_Pinned) (hs:smS s_Pinned p):zE 144 [pinA p] [] (.tup [rsL (ogF p).1 (ogF p).2,.p (.bool (owB p))]):=by
  have c1:=con_Assur_i p hs
  refine csZ Tryz.func144 (fun c hc=>?_)
  unfold ogF
  cases hb:owB p with
  | false =>
    rw [hb] at c1
    rw [if_neg Bool.false_ne_true]
    refine pkZ Tryz.func144 hc (cgn p (asG p).1 (asG p).2) ?_
    and_intros
    iterate 2 all_goals (first | exact zN | (exact c1) | (intro t ht;exact absurd ht (Nat.not_lt_zero _)) | (intros;simp [All,ntAL,ntA,ntP,ntL];done) | simp only [All])
  | true =>
    obtain ⟨ok,hL,ho⟩:=ow_ok hb
    rw [hb] at c1
    rw [if_pos rfl]
    obtain ⟨rp,hg⟩:=as_gr hb
    have io:=in_ok (ow_pin hb)
    have hN:=ok.N
    have hnb:=ok.nb
    have hrl:=fun v=>rh_n p (by omega) v
    have hm8:=io.n
    have hround:=fun {n:Nat} {ix:Nat→Nat} (hn:n<(asG p).1) (hi:OgI p (asG p).1 (asG p).2 n ix)=>og_round hb hg hn hi
    have crch:∀ s,s<(asG p).1→zE 253 [pinA p,.p (.int .i64 (((asG p).2 s).2 0))] [(0,iOb (rhQ p (((asG p).2 s).2 0).toNat).1 (rhQ p (((asG p).2 s).2 0).toNat).2)] (.ar 1 0 0 (rhQ p (((asG p).2 s).2 0).toNat).1):=fun s h=>by
      obtain ⟨g1,g2⟩:=hg.hd s h
      have gr:=io.rn (rp s) g1
      have hc0:(((((asG p).2 s).2 0).toNat:Nat):Int)=((asG p).2 s).2 0:=by rw [g2];omega
      have:=con_DependsOn hs hb (v:=(((asG p).2 s).2 0).toNat) (by rw [g2];omega) (by rw [hc0,g2];exact gr.2.2)
      rw [hc0] at this
      exact this
    have hpos:=hg.pos
    have hcm:=hg.cm
    generalize (asG p).1=cg at *
    generalize (asG p).2=G at *
    generalize hX:(ogS p cg G cg).1=X
    generalize hR:Post c [] (.tup [rsL X.1 X.2,.p (.bool true)])=R
    have l2:∀ (r:Nat) (Q:Nat→T_IntS) (D:T_IntS) (q:Nat) (H:Nat→T_IntS) (j:Nat) (h:T_IntS),D.1≤64→h.1≤8→j<q→(H j).1≤8→0<(H j).1→(∀ b,rdB p h D (H j) h.1=b→zR c 144 zf5 (cgU p r Q D.1 D.2 q H j b h.1 h.2 h.1) R) →
        ∀ e k,k+e=h.1→zR c 144 zf5 (cgU p r Q D.1 D.2 q H j (rdB p h D (H j) k) h.1 h.2 k) R:=by
      intro r Q D q H j h hD8 hh8 hj hp hp0 hr e
      induction e with
      | zero=>intro k hk;rw [show k=h.1 by omega];exact hr _ rfl
      | succ e ih =>
        intro k hk
        have hrec:=ih (k+1) (by omega)
        rw [← rd_step] at hrec
        have hd:decide ((k:Int)<(h.1:Int))=true:=decide_eq_true (by omega)
        have h1:=con_Contains D (h.2 k) (by omega)
        have h2:=con_Contains (H j) (h.2 k) (by omega)
        refine pcD hc (cgc p r Q D.1 D.2 q H j (rdB p h D (H j) k) h.1 h.2 k (hasI D.2 (h.2 k) D.1) (hasI (H j).2 (h.2 k) (H j).1)) ?_ hrec
        and_intros
        all_goals (first | exact zH | (exact hd) | (intros;exact h1) | (intros;exact h2) | (intros;simp [All,ntAL,ntA,ntP,ntL];done) | (simp;done) | (simp;omega))
    have l1:∀ (q:Nat) (S:RmL×T_IntS) (ix:Nat→Nat) (j:Nat),q<8→S.1.1≤8→S.2.1≤64→j<q+1→(∀ s,s<q+1→ix s<cg∧hasI S.2.2 ((G (ix s)).2 0) S.2.1=false)→(∀ s,s<j→ix s<ix j)→pkB p G S.2 (ix j)=true→(∀ l,l<ix j→pkB p G S.2 l=false) →
        zR c 144 zf44 (cgS p (S.1.1+1) (snR5 S.1.1 S.1.2 (G (ix j))) (S.2.1+(G (ix j)).1) (apI S.2.1 S.2.2 (G (ix j)).2) q (fun s=>G (dlx ix j s))) R →
        ∀ e i,i+e=j→zR c 144 zf28 (cgT p S.1.1 S.1.2 S.2.1 S.2.2 (q+1) (fun s=>G (ix s)) i) R:=by
      intro q S ix j hq8 hS1 hS8 hj hun hasc hps hno hr e
      have hdl:(fun s=>G (dlx ix j s))=dlG (fun s=>G (ix s)) j:=funext fun s=>by unfold dlx dlG;split<;>rfl
      induction e with
      | zero =>
        intro i hi
        obtain rfl:i=j:=by omega
        have hd:decide ((i:Int)<((q+1:Nat):Int))=true:=decide_eq_true (by omega)
        unfold pkB at hps
        simp only [Bool.and_eq_true,Bool.not_eq_true'] at hps
        have cr:=crch (ix i) (hun i hj).1
        have hp:=hpos (ix i) (hun i hj).1
        have hh8:=hrl ((G (ix i)).2 0).toNat
        have hrd:=hps.2
        unfold rdG at hrd
        generalize rhQ p ((G (ix i)).2 0).toNat=h at cr hh8 hrd
        rw [hdl] at hr
        refine pcD hc (cgb p S.1.1 S.1.2 S.2.1 S.2.2 (q+1) (fun s=>G (ix s)) i h.1 h.2) ?_ (l2 S.1.1 S.1.2 S.2 (q+1) (fun s=>G (ix s)) i h hS8 hh8 hj (by show (G (ix i)).1≤8;omega) hp.1 (fun b hb=>?_) h.1 0 (by omega))
        ·
          and_intros
          all_goals (first | exact zN | (exact hd) | (exact cr) | (intros;simp [All,ntAL,ntA,ntP,ntL];done) | (simp;done) | (simp;omega))
        · have hb:true=b:=by rw [← hb];exact hrd.symm
          subst hb
          have hd2:decide ((h.1:Int)<(h.1:Int))=false:=decide_eq_false (by omega)
          have hrowG:∀ t,t<0+i+(q+1 - (i+1))→([cellP false (if t<0+i then [AV.p (PV.seq false 1 (G (ix t)).1 fun s=>[PV.int IntKind.i64 ((G (ix t)).2 s)])] else [AV.p (PV.seq false 1 (G (ix (t - (0+i)+(i+1)))).1 fun s=>[PV.int IntKind.i64 ((G (ix (t - (0+i)+(i+1)))).2 s)])]) 0]:List PV)
              = [PV.seq false 1 (dlG (fun s=>G (ix s)) i t).1 fun s=>[PV.int IntKind.i64 ((dlG (fun s=>G (ix s)) i t).2 s)]]:=by
            intro t _
            rw [Nat.zero_add]
            unfold dlG
            by_cases h:t<i
            · simp only [if_pos h];rfl
            · rw [show t - i+(i+1)=t+1 by omega];simp only [if_neg h];rfl
          refine pcD hc (cgd p S.1.1 S.1.2 S.2.1 S.2.2 q (fun s=>G (ix s)) i h.1 h.2 h.1) ?_ hr
          and_intros
          all_goals (first | exact zN | (exact hd2) | (intro t ht;by_cases h':t<S.1.1<;>(simp [h',snR5,cvtL,cvt,lendP,cellP,tab,idx,idx1,lkk,idO,idM,Ob.isF,List.lookup,tg,tru,All];done)) | (intro t ht;by_cases h':t<S.2.1<;>(simp [h',apI,cvtL,cvt,tg,tru,All];done)) | (intros;simp [All,ntAL,ntA,ntP,ntL];done) | (simp;done) | (simp;omega) | (exact hrowG))
      | succ e ih =>
        intro i hi
        have hrec:=ih (i+1) (by omega)
        have hd:decide ((i:Int)<((q+1:Nat):Int))=true:=decide_eq_true (by omega)
        have hui:=hun i (by omega)
        have hpi:=hno (ix i) (hasc i (by omega))
        have cr:=crch (ix i) hui.1
        have hp:=hpos (ix i) hui.1
        have hh8:=hrl ((G (ix i)).2 0).toNat
        have hrd:rdG p S.2 (G (ix i))=false:=by
          unfold pkB at hpi
          rw [hui.2] at hpi
          simpa using hpi
        unfold rdG at hrd
        generalize rhQ p ((G (ix i)).2 0).toNat=h at cr hh8 hrd
        refine pcD hc (cgb p S.1.1 S.1.2 S.2.1 S.2.2 (q+1) (fun s=>G (ix s)) i h.1 h.2) ?_ (l2 S.1.1 S.1.2 S.2 (q+1) (fun s=>G (ix s)) i h hS8 hh8 (by omega) (by show (G (ix i)).1≤8;omega) hp.1 (fun b hb=>?_) h.1 0 (by omega))
        ·
          and_intros
          all_goals (first | exact zN | (exact hd) | (exact cr) | (intros;simp [All,ntAL,ntA,ntP,ntL];done) | (simp;done) | (simp;omega))
        · have hb:false=b:=by rw [← hb];exact hrd.symm
          subst hb
          have hd2:decide ((h.1:Int)<(h.1:Int))=false:=decide_eq_false (by omega)
          refine pcD hc (cge p S.1.1 S.1.2 S.2.1 S.2.2 (q+1) (fun s=>G (ix s)) i h.1 h.2 h.1) ?_ hrec
          and_intros
          all_goals (first | exact zN | (exact hd2) | (intros;simp [All,ntAL,ntA,ntP,ntL];done) | (simp;done) | (simp;omega))
    have lo:∀ e n ix,n+e=cg→OgI p cg G n ix→zR c 144 zf44 (cgS p (ogS p cg G n).1.1 (ogS p cg G n).1.2 (ogS p cg G n).2.1 (ogS p cg G n).2.2 e (fun s=>G (ix s))) R:=by
      intro e
      induction e with
      | zero =>
        intro n ix hn hi
        have hd:decide (((0:Nat):Int)>0)=false:=by decide
        rw [show n=cg by omega,hX,← hR]
        refine pkZ Tryz.func144 hc (cgg p X.1 X.2 _ _ 0 _) ?_
        and_intros
        iterate 2 all_goals (first | exact zN | (exact hd) | (intros;simp [All,ntAL,ntA,ntP,ntL];done) | simp only [All])
      | succ e ih =>
        intro n ix hn hi
        have hd:decide (((e+1:Nat):Int)>0)=true:=decide_eq_true (by omega)
        obtain ⟨j,hj,ej,hpj,hlj,hnx⟩:=hround (by omega) hi
        have hrec:=ih (n+1) _ (by omega) hnx
        have hle:=hi.le
        have hcn:=hi.cnt
        have hlf:=hi.lf
        rw [show cg - n=e+1 by omega] at hj hlf
        rw [ogS,← ej] at hrec
        generalize ogS p cg G n=S at hrec hle hcn hpj hlj hlf ⊢
        refine pcD hc (cga p S.1.1 S.1.2 S.2.1 S.2.2 (e+1) (fun s=>G (ix s))) ?_ (l1 e S ix j (by omega) (by omega) (by omega) hj hlf.un (fun s hs=>hlf.asc s j hs hj) hpj hlj hrec j 0 (by omega))
        and_intros
        all_goals (first | exact zN | (exact hd) | (intros;simp [All,ntAL,ntA,ntP,ntL];done) | (simp;done) | (simp;omega))
    refine pcD hc (cgz p cg G) ?_ (lo cg 0 (fun s=>s) (by omega) og_start)
    and_intros
    iterate 2 all_goals (first | exact zN | (exact c1) | (intro t ht;exact absurd ht (Nat.not_lt_zero _)) | (intros;simp [All,ntAL,ntA,ntP,ntL];done) | (simp;done) | simp only [All])
def kDash:ByteArray:=⟨#[45]⟩
theorem kDash_z:(ByteArray.mk #[45]).size=1:=rfl
theorem lEn (x:T_Bar) (fa fb:ByteArray) :
    zS Tryz.f115 [rg 2,rm [(5,oc [] (.p (.str fa))),(6,oc [] (.p (.str fb)))] 2] [.agg [.p (.int .i64 x.1),.p (.int .i64 x.2.1)]] [] [] (.p (.str ((fa++kDash)++fb))) =
    some [(NT 0 1),(NT 0 1),zE 129 [.p (.int .i64 (if false=true then if x.2.1>x.1 then x.2.1 else x.1 else if x.2.1<x.1 then x.2.1 else x.1))] [] (.p (.str fa)),(NL (fa.size+(ByteArray.mk #[45]).size) 9223372036854775807),(NT 0 1),(NT 0 1),zE 129 [.p (.int .i64 (if true=true then if x.2.1>x.1 then x.2.1 else x.1 else if x.2.1<x.1 then x.2.1 else x.1))] [] (.p (.str fb)),(NL ((fa++ByteArray.mk #[45]).size+fb.size) 9223372036854775807),(fa++ByteArray.mk #[45]++fb=fa++kDash++fb)]:=by kernel_rfl
def enB (x:T_Bar):ByteArray:=(fmtI (if x.2.1<x.1 then x.2.1 else x.1)++kDash)++fmtI (if x.2.1>x.1 then x.2.1 else x.1)
theorem enB_size (x:T_Bar):(enB x).size≤43:=by
  have h1:=fmt_size (if x.2.1<x.1 then x.2.1 else x.1)
  have h2:=fmt_size (if x.2.1>x.1 then x.2.1 else x.1)
  unfold enB
  simp only [ByteArray.size_append,show kDash.size=1 from rfl]
  omega
theorem con_ends (x:T_Bar) (h0:-9223372036854775808≤x.1∧x.1≤9223372036854775807) (h1:-9223372036854775808≤x.2.1∧x.2.1≤9223372036854775807):zE 115 [.agg [.p (.int .i64 x.1),.p (.int .i64 x.2.1)]] [] (.p (.str (enB x))):=by
  have c1:=con_FormatInt_i (if x.2.1<x.1 then x.2.1 else x.1) (by split<;>omega) (by split<;>omega)
  have c2:=con_FormatInt_i (if x.2.1>x.1 then x.2.1 else x.1) (by split<;>omega) (by split<;>omega)
  have s1:=fmt_size (if x.2.1<x.1 then x.2.1 else x.1)
  have s2:=fmt_size (if x.2.1>x.1 then x.2.1 else x.1)
  unfold enB
  generalize fmtI (if x.2.1<x.1 then x.2.1 else x.1)=fa at *
  generalize fmtI (if x.2.1>x.1 then x.2.1 else x.1)=fb at *
  refine csZ Tryz.func115 (fun c hc=>?_)
  refine pkZ Tryz.func115 hc (lEn x fa fb) ?_
  and_intros
  all_goals (first | exact zN | (exact c1) | (exact c2) | (simp only [ByteArray.size_append,kDash_z];omega))
open Go Go.Shelf Go.RowKit Go.Lib Go.Sort
theorem run_clear2 {P:Program} (w:World) (t e ty:TypeId) (z c0:Value) (ht:P.underlying t=some (.slice e)) (hv:∀ w,(zeroValue e).run P w=.ok z w) (hz:z.cells = #[c0,c0]) (h1:c0.oneCell'=true) (b o n c:Nat) (hn:0<n)
    (hc:∀ j,j<n*2→(w.cell? ⟨b,o+j,none⟩).isSome=true) (hf:∀ j,j<n*2→w.frozen? ⟨b,o+j,none⟩=false) :
    (Builtin.clear_ #[t] ty #[.slice (some ⟨b,o,none⟩) n c]).run P w=.ok (.tuple #[]) (w.setCells b o (List.replicate (n*2) c0)):=by
  have hzc:(Builtin.zeroCells z.cells n).toList=List.replicate (n*2) c0:=by
    rw [hz]
    simp [Builtin.zeroCells]
    apply List.ext_getElem
    · simp
    · intro i h1 h2
      have:i % 2=0∨i % 2=1:=by omega
      rcases this with h | h<;>simp [h]
  have hst:=run_storeCells_cells (P:=P) b o (List.replicate (n*2) c0) 0 w (by simpa using hc) (by simpa using hf) (by intro v hv';rw [List.eq_of_mem_replicate hv'];exact h1)
  simp only [Nat.add_zero] at hst
  obtain ⟨m,rfl⟩:∃ m,n=m+1:=⟨n - 1,by omega⟩
  simp [Builtin.clear_,run_underlying ht,hv,hzc,hst]
set_option maxHeartbeats 4000000 in
set_option maxRecDepth 1000000 in
theorem delete_walk (blk off cap n i j:Nat) (d:Array Value) (w:World) (hn:d.size=n*2) (hH:Holds id w blk off d) (hcap:n≤cap) (hlt:i<j) (hj:j≤n) (h1c:∀ v∈d.toList,v.oneCell'=true) :
    Calls Tryz.prog 398 #[.slice (some ⟨blk,off,none⟩) n cap,.int .i64 i,.int .i64 j] w fun e w'=>e=.returned (.slice (some ⟨blk,off,none⟩) (n - (j - i)) cap)∧∃ q,w'=putRow id (Sort.ahead w q) blk off (d.toList.take (i*2)++d.toList.drop (j*2)++List.replicate ((j - i)*2) (Value.int .i64 0)).toArray:=by
  have mx:Tryz.prog.follows .mixedOrders=true:=mixed
  have t0:=Tryz.underlying0
  have t3:=Tryz.underlying3
  have t4:=Tryz.underlying4
  have vBS:=Tryz.zeroValue26
  have tBS:=Tryz.underlying26
  have zBS:=Tryz.sizeOf26
  have zBR:=Tryz.sizeOf121
  have vBR:=Tryz.zeroValue121
  obtain ⟨i0,hi0⟩:∃ i0,Tryz.prog.info? 121=some i0:=by
    cases h:Tryz.prog.info? 121 with
    | some i=>exact ⟨i,rfl⟩
    | none =>
      have:(Tryz.prog.info? 121).isSome=true:=by kernel_rfl
      rw [h] at this;cases this
  have hz1:i0.size=2:=by
    have:(Tryz.prog.info? 121).map (·.size)=some 2:=by kernel_rfl
    rw [hi0] at this;simpa using this
  obtain ⟨news,hnews⟩:∃ news,news=d.toList.drop (j*2):=⟨_,rfl⟩
  have hlen:news.length=(n - j)*2:=by rw [hnews,List.length_drop,Array.length_toList];omega
  have hget:∀ t,t<(n - j)*2→news[t]? = some d[j*2+t]!:=by
    intro t ht
    rw [hnews,List.getElem?_drop,Array.getElem?_toList,getElem!_pos d (j*2+t) (by omega),Array.getElem?_eq_getElem (by omega)]
  obtain ⟨A,hA,hsrc⟩:∃ A:Addr,(if cap=j then some (⟨blk,off,none⟩:Addr) else some ⟨blk,off+j*2,none⟩)=some A∧Hid (∀ t u,news[t]? = some u→w.drew.cell? (A.add t)=some u):=by
    by_cases h:cap=j
    · refine ⟨⟨blk,off,none⟩,by simp [h],fun t u hu=>?_⟩
      have h0:news.length=0:=by rw [hlen];omega
      rw [List.length_eq_zero_iff.1 h0] at hu
      simp at hu
    · refine ⟨⟨blk,off+j*2,none⟩,by simp [h],fun t u hu=>?_⟩
      have ht:t<(n - j)*2:=by
        have:=(List.getElem?_eq_some_iff.1 hu).1
        rwa [hlen] at this
      rw [hget t ht] at hu
      rw [Addr.add_lit,show off+j*2+t=off+(j*2+t) by omega]
      exact (hH (j*2+t) (by omega)).1.trans hu
  have s1:Hid (news.length=(n - j)*2):=hlen
  have s2:Hid (∀ u∈news,u.oneCell'=true):=by
    intro u hu
    rw [hnews] at hu
    exact h1c u (List.mem_of_mem_drop hu)
  have s3:Hid (∀ t,t<news.length→(w.drew.cell? ⟨blk,off+i*2+t,none⟩).isSome=true∧w.drew.frozen? ⟨blk,off+i*2+t,none⟩=false):=by
    intro t ht
    rw [hlen] at ht
    rw [Nat.add_assoc]
    exact ⟨by show (w.cell? _).isSome=true;rw [(hH (i*2+t) (by omega)).1];rfl,(hH (i*2+t) (by omega)).2⟩
  obtain ⟨W1,hW1⟩:∃ W1,W1=w.drew.setCells blk (off+i*2) news:=⟨_,rfl⟩
  have hW1':W1=putRow id (Sort.ahead w 1) blk off (lay d (i*2) (d.toList.drop (j*2))):=by
    have e:=putRow_setCells id (Sort.ahead w 1) blk off (d.toList.drop (j*2)) d (i*2) (by simp;omega)
    rw [putRow_self id (Sort.ahead w 1) blk off d (holds_ahead id w 1 blk off d hH),List.map_id] at e
    rw [hW1,hnews]
    exact e
  have hH1:Holds id W1 blk off (lay d (i*2) (d.toList.drop (j*2))):=by rw [hW1'];exact holds_putRow id _ blk off d _ (holds_ahead id w 1 blk off d hH) (lay_size _ _ _)
  have hcl:∀ ty,(Builtin.clear_ #[26] ty #[.slice (some ⟨blk,off+(i+(n - j))*2,none⟩) (n - (i+(n - j))) (cap - (i+(n - j)))]).run Tryz.prog W1=.ok (.tuple #[]) (W1.setCells blk (off+(i+(n - j))*2) (List.replicate ((n - (i+(n - j)))*2) (.int .i64 0))) :=
    fun ty=>run_clear2 W1 26 121 ty _ (.int .i64 0) tBS vBR (by rfl) rfl blk (off+(i+(n - j))*2) _ _ (by omega)
      (fun t ht=>by rw [show off+(i+(n - j))*2+t=off+((i+(n - j))*2+t) by omega,(hH1 _ (by rw [lay_size];omega)).1];rfl)
      (fun t ht=>by rw [show off+(i+(n - j))*2+t=off+((i+(n - j))*2+t) by omega];exact (hH1 _ (by rw [lay_size];omega)).2)
  have X:Aside (W1=putRow id (Sort.ahead w 1) blk off (lay d (i*2) (d.toList.drop (j*2)))):=hW1'
  have hW:Hid (W1=w.drew.setCells blk (off+i*2) news):=hW1
  have hic:i≤cap:=by omega
  have hjc:j≤cap:=by omega
  have hin:i≤n:=by omega
  clear hW1 hW1' hH1 hH hget hnews hlen h1c
  go_enter Tryz.func398,Tryz.ntmps398
  go_wp2_with fail
  go_region_law_o (refine step_append_room rfl (.tmp 22) (.tmp 25) 26 rfl 121 i0 2 tBS hi0 hz1 blk off i cap (by simp [Act.eval,Act.put]) A (n - j) (cap - j) news (by simp [Act.eval,Act.put]) s1.out hsrc.out s2.out (by omega) s3.out ?_;rw [← hW.out])
  go_wp2
  go_ret
  refine ⟨by rw [show n - (j - i)=i+(n - j) by omega];rfl,1,?_⟩
  have e:=putRow_setCells id (Sort.ahead w 1) blk off (List.replicate ((n - (i+(n - j)))*2) (Value.int .i64 0)) (lay d (i*2) (d.toList.drop (j*2))) (i*2+(d.size - j*2)) (by rw [lay_size];simp;omega)
  rw [← X.out,List.map_id] at e
  rw [show (j - i)*2=j*2 - i*2 by omega,← delete_arr d (i*2) (j*2) _ (by omega) (by omega),show j*2 - i*2=(n - (i+(n - j)))*2 by omega,← e,show off+(i+(n - j))*2=off+(i*2+(d.size - j*2)) by omega]
open Go Go.Shelf Go.RowKit Go.Lib Go.Sort
def delB (n:Nat) (h:Nat→T_Bar) (e i:Nat):T_Bar:=if i<e then h i else if i+1<n then h (i+1) else (0,0,())
def cB (h:Nat→T_Bar) (t:Nat):Value:=if t % 2=0 then .int .i64 (h (t / 2)).1 else .int .i64 (h (t / 2)).2.1
def rowB (n:Nat) (h:Nat→T_Bar):Array Value:=((List.range (n*2)).map (cB h)).toArray
theorem rowB_size (n:Nat) (h:Nat→T_Bar):(rowB n h).size=n*2:=by simp [rowB]
theorem rowB_get (n:Nat) (h:Nat→T_Bar) (t:Nat) (ht:t<n*2):(rowB n h)[t]! = cB h t:=by
  rw [getElem!_pos _ t (by rw [rowB_size];exact ht)]
  simp [rowB]
def delF (n:Nat) (h:Nat→T_Bar) (e:Nat):Array Value:=((rowB n h).toList.take (e*2)++(rowB n h).toList.drop ((e+1)*2)++List.replicate ((e+1 - e)*2) (Value.int .i64 0)).toArray
theorem delF_size (n:Nat) (h:Nat→T_Bar) (e:Nat) (he:e<n):(delF n h e).size=n*2:=by
  have:=rowB_size n h
  simp only [delF,List.size_toArray,List.length_append,List.length_take,List.length_drop,List.length_replicate,Array.length_toList,this]
  omega
theorem delF_get (n:Nat) (h:Nat→T_Bar) (e:Nat) (he:e<n) (t:Nat) (ht:t<n*2):(delF n h e)[t]! = cB (delB n h e) t:=by
  have hs:=rowB_size n h
  have hz:=delF_size n h e he
  have l1:((rowB n h).toList.take (e*2)).length=e*2:=by simp [hs];omega
  have l2:((rowB n h).toList.drop ((e+1)*2)).length=n*2 - (e+1)*2:=by simp [hs]
  have key:(delF n h e)[t]? = some (cB (delB n h e) t):=by
    show ((rowB n h).toList.take (e*2)++(rowB n h).toList.drop ((e+1)*2)++List.replicate ((e+1 - e)*2) (Value.int .i64 0)).toArray[t]? = _
    rw [List.getElem?_toArray]
    by_cases c1:t<e*2
    · rw [List.getElem?_append_left (by simp only [List.length_append];omega),List.getElem?_append_left (by omega),List.getElem?_take,if_pos c1,Array.getElem?_toList,Array.getElem?_eq_getElem (by omega)]
      have:=rowB_get n h t ht
      rw [getElem!_pos _ t (by omega)] at this
      rw [this]
      simp only [cB,delB,show t / 2<e by omega,if_true]
    · by_cases c2:t<n*2 - 2
      · rw [List.getElem?_append_left (by simp only [List.length_append];omega),List.getElem?_append_right (by omega),List.getElem?_drop,Array.getElem?_toList,l1,show (e+1)*2+(t - e*2)=t+2 by omega,Array.getElem?_eq_getElem (by omega)]
        have:=rowB_get n h (t+2) (by omega)
        rw [getElem!_pos _ (t+2) (by omega)] at this
        rw [this]
        simp only [cB,delB,show ¬ t / 2<e by omega,show t / 2+1<n by omega,show (t+2) % 2=t % 2 by omega,show (t+2) / 2=t / 2+1 by omega,if_true,if_false]
      · rw [List.getElem?_append_right (by simp only [List.length_append];omega),List.getElem?_replicate]
        simp only [List.length_append,l1,l2]
        rw [if_pos (by omega)]
        simp only [cB,delB,show ¬ t / 2<e by omega,show ¬ t / 2+1<n by omega,if_false]
        split<;>rfl
  rw [getElem!_pos _ t (by omega)]
  rw [Array.getElem?_eq_getElem (by omega)] at key
  exact Option.some.inj key
theorem con_DelBar (n e:Nat) (h:Nat→T_Bar) (he:e<n) (hn:n≤1048576) :
    Con Tryz.prog 398 1 [(0,brOb n h)] [.ar 2 0 0 n,.p (.int .i64 e),.p (.int .i64 ((e:Int)+1))] [(0,brOb n (delB n h e))] (.ar 2 0 0 (n - 1)):=by
  refine ⟨by kernel_rfl,fun w β X vals hX hH hS hd hl ha=>?_⟩
  obtain ⟨v0,v1,v2,rfl⟩:∃ v0 v1 v2,vals = #[v0,v1,v2]:=by
    rcases vals with ⟨l⟩
    match l,hl with
    | [a,b,c],_=>exact ⟨a,b,c,rfl⟩
  have h0:VR w β (ow X β [(0,brOb n h)]) (.ar 2 0 0 n) v0:=ha 0 (by simp)
  have e1:=vr_int (ha 1 (by simp))
  have e2:=vr_int (ha 2 (by simp))
  change v1=_ at e1
  change v2=_ at e2
  subst e1
  subst e2
  cases h0 with
  | ar0=>exact absurd he (Nat.not_lt_zero _)
  | ar _ _ _ _ b base c cells elem fr' hβ hh hsz hc =>
    rcases hH 0 _ (lk_one _) with ⟨hb,_⟩ | ⟨b',base',cells',el',hβ',hh',hrw⟩ | hm
    · rw [hb] at hβ;cases hβ
    · rw [hβ] at hβ'
      injection hβ' with hβ'
      injection hβ' with i1 i2 _
      subst i1;subst i2
      rw [hh] at hh'
      injection hh' with hh'
      injection hh' with i1 i2 i3
      subst i1;subst i2;subst i3
      have hcell:∀ t,t<n*2→cells[base+t]? = some (cB h t):=by
        intro t ht
        have hm2:=Nat.mod_lt t (show 0<2 by omega)
        obtain ⟨u,hu1,hu2,hu3⟩:=hrw (t / 2) (by show t / 2<n;omega) (t % 2) (by show t % 2<2;omega)
        have ee:base+(t / 2*2+t % 2)=base+t:=by omega
        change cells[base+(t / 2*2+t % 2)]? = some u at hu1
        rw [ee] at hu1
        rcases Nat.mod_two_eq_zero_or_one t with h2 | h2
        · rw [h2] at hu3
          have:=vr_int (k:=.i64) (x:=(h (t / 2)).1) hu3
          rw [hu1,this];simp [cB,h2]
        · rw [h2] at hu3
          have:=vr_int (k:=.i64) (x:=(h (t / 2)).2.1) hu3
          rw [hu1,this];simp [cB,h2]
      have hend:base+n*2≤cells.size:=by
        have:=hcell (n*2 - 1) (by omega)
        rcases Nat.lt_or_ge (base+(n*2 - 1)) cells.size with h' | h'
        · omega
        · rw [Array.getElem?_eq_none h'] at this;cases this
      have hd2:Holds id w b base (rowB n h):=by
        intro t ht
        rw [rowB_size] at ht
        refine ⟨?_,by simp [World.frozen?,hh]⟩
        simp only [World.cell?,hh]
        rw [hcell t ht,rowB_get n h t ht]
        rfl
      refine (delete_walk b base c n e (e+1) (rowB n h) w (rowB_size n h) hd2 (by omega) (by omega) (by omega) (fun v hv=>?_)).mono ?_
      · simp only [rowB,List.mem_map,List.mem_range] at hv
        obtain ⟨t,_,rfl⟩:=hv
        unfold cB
        split<;>rfl
      · rintro e' w' ⟨rfl,q,rfl⟩
        have eg:∀ w:World,w=grow w #[]:=fun w=>by simp [grow]
        have hw:putRow id (Sort.ahead w q) b base ((rowB n h).toList.take (e*2)++(rowB n h).toList.drop ((e+1)*2)++List.replicate ((e+1 - e)*2) (Value.int .i64 0)).toArray=sW w b base q (delF n h e) #[]:=eg _
        rw [hw,show n - (e+1 - e)=n - 1 by omega]
        refine sW_post (z:=2) (os:=#[]) hβ hh hS hend (delF_size n h e he) (fun i hi j hj=>?_) (fun own=>?_)
        · rw [delF_get n h e he _ (by omega)]
          unfold cB
          have:j=0∨j=1:=by omega
          rcases this with rfl | rfl
          · rw [if_pos (by omega),show (i*2+0) / 2=i by omega]
            exact ⟨rfl,fun w own=>.p _ _ (.int _ _)⟩
          · rw [if_neg (by omega),show (i*2+1) / 2=i by omega]
            exact ⟨rfl,fun w own=>.p _ _ (.int _ _)⟩
        · have hv:VR (sW w b base q (delF n h e) #[]) β own (.ar 2 0 0 (n - 1)) (.slice (some ⟨b,base+0*2,none⟩) (n - 1) c):=.ar 2 0 0 (n - 1) b base c (putCells id base (delF n h e) cells) elem (0,0) hβ (sW_at hh) (by rw [putCells_size];exact hsz) (by omega)
          rw [show base+0*2=base by omega] at hv
          exact hv
    · exact absurd hm.2.1 (by simp [brOb])
theorem ins_asc (g:Nat→T_Bar) (x:T_Bar) (nb:Nat) (hg:AscB nb g):∀ i,i≤nb→AscB (insD g x i).2.1 (insD g x i).2.2∧(0<i→0<(insD g x i).2.1∧(insD g x i).2.2 ((insD g x i).2.1 - 1)=g (i - 1))∧((insD g x i).1=false→(insD g x i).2.1=i∧(0<i→aft (g (i - 1)) x=true))
  | 0,_=>⟨fun s hs=>absurd hs (Nat.not_lt_zero _),fun h=>absurd h (Nat.lt_irrefl 0),fun _=>⟨rfl,fun h=>absurd h (Nat.lt_irrefl 0)⟩⟩
  | i+1,hi=>by
    obtain ⟨h1,h2,h3⟩:=ins_asc g x nb hg i (by omega)
    have hgi:0<i→aft (g (i - 1)) (g i)=true:=by
      intro h
      have:=hg (i - 1) (by omega)
      rw [show i - 1+1=i by omega] at this
      exact this
    have hlast:0<(insD g x i).2.1→(0<i→(insD g x i).2.2 ((insD g x i).2.1 - 1)=g (i - 1)):=fun _ h=>(h2 h).2
    have hpos:(insD g x i).2.1=i+(if (insD g x i).1=true then 1 else 0):=insD_n g x i
    simp only [insD]
    split
    · rename_i h
      have hf:(insD g x i).1=false:=by
        cases e:(insD g x i).1 with
        | false=>rfl
        | true=>rw [e] at h;simp at h
      obtain ⟨h4,h5⟩:=h3 hf
      rw [hf] at h
      have hxg:aft x (g i)=true:=by
        have hn:¬ (aft (g i) x=true):=by simpa using h
        rw [aft_or] at hn ⊢
        omega
      refine ⟨ascB_snoc (ascB_snoc h1 (fun h0=>?_)) (fun _=>?_),fun _=>⟨by show 0<(insD g x i).2.1+1+1;omega,?_⟩,fun h'=>by cases h'⟩
      · rw [hlast h0 (by omega)];exact h5 (by omega)
      · rw [show (insD g x i).2.1+1 - 1=(insD g x i).2.1 by omega,snoc_ge (Nat.lt_irrefl _)];exact hxg
      · show snoc ((insD g x i).2.1+1) _ (g i) ((insD g x i).2.1+1+1 - 1)=g (i+1 - 1)
        rw [show (insD g x i).2.1+1+1 - 1=(insD g x i).2.1+1 by omega,snoc_ge (Nat.lt_irrefl _)]
        rfl
    · rename_i h
      refine ⟨ascB_snoc h1 (fun h0=>?_),fun _=>⟨by show 0<(insD g x i).2.1+1;omega,?_⟩,fun h'=>?_⟩
      · by_cases h6:0<i
        · rw [hlast h0 h6];exact hgi h6
        · exfalso
          obtain rfl:i=0:=by omega
          exact absurd h0 (Nat.lt_irrefl 0)
      · show snoc (insD g x i).2.1 _ (g i) ((insD g x i).2.1+1 - 1)=g (i+1 - 1)
        rw [show (insD g x i).2.1+1 - 1=(insD g x i).2.1 by omega,snoc_ge (Nat.lt_irrefl _)]
        rfl
      · have h7:(insD g x i).1=false:=h'
        obtain ⟨h4,h5⟩:=h3 h7
        refine ⟨by show (insD g x i).2.1+1=i+1;omega,fun _=>?_⟩
        rw [h7] at h
        show aft (g i) x=true
        simpa using h
theorem insR_asc {g:Nat→T_Bar} {nb:Nat} (x:T_Bar) (hg:AscB nb g):AscB (insR g nb x).1 (insR g nb x).2:=by
  obtain ⟨h1,h2,h3⟩:=ins_asc g x nb hg nb (Nat.le_refl _)
  unfold insR
  split
  · exact h1
  · rename_i h
    have hf:(insD g x nb).1=false:=by simpa using h
    obtain ⟨h4,h5⟩:=h3 hf
    refine ascB_snoc h1 (fun h0=>?_)
    rw [(h2 (by omega)).2]
    exact h5 (by omega)
theorem hS_asc (s:Nat→Int):∀ k,AscB (hS s k).1 (hS s k).2
  | 0=>fun t ht=>absurd ht (Nat.not_lt_zero _)
  | k+1=>by
    have ih:=hS_asc s k
    simp only [hS]
    split
    · exact insR_asc _ (insR_asc _ ih)
    · exact insR_asc _ ih
theorem aS_asc (g:Nat→T_Bar) {r:NB} (hr:AscB r.1 r.2):∀ k,AscB (aS g r k).1 (aS g r k).2
  | 0=>hr
  | k+1=>by
    have ih:=aS_asc g hr k
    simp only [aS]
    exact insR_asc _ ih
theorem alS_asc (p:T_Pinned):AscB (alS p).1 (alS p).2:=aS_asc _ (hS_asc _ _) _
open Go Go.Sort
def SYs (p:T_Pinned) (v n:Nat) (h:Nat→Int):St :=
  ⟨[pinA p,.pt 3 0 0 0,.p .any,.ar 1 1 0 n,.p (.int .i64 v)]++List.replicate 36 anyA,[(0,boxP p),(1,iOb n h)],2⟩
def SYi (p:T_Pinned) (v n m:Nat) (h:Nat→Int) (r:Nat→T_Bar):St :=
  ⟨[pinA p,.pt 3 0 0 0,.p .any,.ar 1 1 0 n,.ar 2 2 0 m]++List.replicate 17 anyA++[.p (.int .i64 p.1.1),.p (.int .i64 v)]++List.replicate 34 anyA,[(0,boxP p),(1,iOb n h),(2,brOb m r)],3⟩
def SYj (p:T_Pinned) (v j n m:Nat) (h:Nat→Int) (r:Nat→T_Bar) (b:Bool):St :=
  ⟨[pinA p,.pt 3 0 0 0,.p .any,.ar 1 1 0 n,.ar 2 2 0 m,.p (.int .i64 v),.p (.bool b)]++List.replicate 15 anyA++[.p (.int .i64 p.1.1),.p (.int .i64 v)]++List.replicate 3 anyA ++
    [inL p.2.1,.p (.int .i64 p.2.1.1),.p (.int .i64 j)]++List.replicate 28 anyA,[(0,boxP p),(1,iOb n h),(2,brOb m r)],3⟩
def SYf (p:T_Pinned) (e k n a b:Nat) (h r s:Nat→Int):St :=
  ⟨[pinA p,.p (.int .i64 e),.pt 3 0 0 0,.p .any,.p .any,.ar 1 1 0 n,.ar 1 2 0 a,.p .any,.p .any]++List.replicate 20 anyA++[.ar 1 3 0 b,.p (.int .i64 b),.p (.int .i64 k)]++List.replicate 13 anyA,
   [(0,boxP p),(1,iOb n h),(2,iOb a r),(3,iOb b s)],4⟩
def SYg (p:T_Pinned) (e k n a b:Nat) (h r s:Nat→Int):St :=
  ⟨[pinA p,.p (.int .i64 e),.pt 3 0 0 0,.p .any,.p .any,.ar 1 1 0 n,.ar 1 3 0 b,.ar 1 2 0 a,.p (.int .i64 k)]++List.replicate 44 anyA,
   [(0,boxP p),(1,iOb n h),(2,iOb a r),(3,iOb b s)],4⟩
def SYw (p:T_Pinned) (k:Nat) (w m:Int):St :=
  ⟨[pinA p,.pt 3 0 0 0,.p .any,.p .any,.p (.int .i64 w),.p (.int .i64 m)]++List.replicate 5 anyA++[.p (.int .i64 p.1.2.1.1),.p (.int .i64 k)]++List.replicate 14 anyA,[(0,boxP p)],1⟩
def SYv (p:T_Pinned) (k:Nat) (w m:Int):St :=
  ⟨[pinA p,.pt 3 0 0 0,.p .any,.p .any,.p (.int .i64 w),.p (.int .i64 m),.p (.int .i64 k)]++List.replicate 20 anyA,[(0,boxP p)],1⟩
theorem zqRb (v:T_Graph) (e:Nat) :
    zS Tryz.f259 [rg 3,rm [(1,oc [] (.p (.bool true)))] 12,.dec false,rg 17] [graphA v,.p (.int .i64 e)] [960] [(0,brOb (v.2.1.1 - 1) (delB v.2.1.1 v.2.1.2 e))] (.tup [.agg [.p (.int .i64 v.1),.ar 2 0 0 (v.2.1.1 - 1)],.p (.bool true)]) =
    some (zD [(NT 0 1),zE 53 [(zf104 v)] [] (.p (.bool true)),(AG (!!true)),(((!true)=false)→ ((!!true)=true)),(AG (!bif !true then true else decide ((↑e:Int)<0))),(((!bif !true then true else decide ((↑e:Int)<0))=true)→(NT 0 1)),(((bif !true then true else decide ((↑e:Int)<0))=false)→ ((!bif !true then true else decide ((↑e:Int)<0))=true)),((bif bif !true then true else decide ((↑e:Int)<0) then true else decide ((↑e:Int)≥(↑v.2.1.1:Int)))=false),(IL 0 0),(IL 0 (↑e:Int)),(IL (↑e:Int) (↑v.2.1.1:Int)),(NL 0 0),(NL ((0+e)*16) 140737488355328),(NL (0+e) 9223372036854775807),(ZLo ((↑e:Int)+1)),(ZHi ((↑e:Int)+1)),(IL 0 ((↑e:Int)+1)),(IL ((↑e:Int)+1) (↑v.2.1.1:Int)),(IL (↑v.2.1.1:Int) (↑v.2.1.1:Int)),(NL (0+e) (0+e)),(NL ((0+e+(v.2.1.1 - (e+1)))*16) 140737488355328),(NL (0+e+(v.2.1.1 - (e+1))) 9223372036854775807),((true=true)→ (AN 1)),(AI v.1),(AN 0),(((0+e+(v.2.1.1 - (e+1))):Nat)=(v.2.1.1 - 1)),(true=true),(AN 2),(NL (v.2.1.1 - 1) (0+e+(v.2.1.1 - (e+1)))),(∀ i:Nat,(((i:Nat)<(v.2.1.1 - 1))→(All (cvtL false [(32,⟨true,2,1,(fun i_1=>[.p (.int .i64 v.1),.ar 2 960 0 (0+e+(v.2.1.1 - (e+1)))])⟩),(960,⟨false,2,(0+e+(v.2.1.1 - (e+1))),(fun i_1=>(if (i_1<0+e) then [.p (.int .i64 ((v.2.1.2 i_1).1)),.p (.int .i64 ((v.2.1.2 i_1).2.1))] else [.p (.int .i64 ((v.2.1.2 (i_1 - (0+e)+(e+1))).1)),.p (.int .i64 ((v.2.1.2 (i_1 - (0+e)+(e+1))).2.1))]))⟩),(0,⟨true,2,1,(fun i_1=>[.p (.int .i64 v.1),.p (.seq true 2 v.2.1.1 (bRw v.2.1.2))])⟩)] [960] 1 (if (i<0+e) then [.p (.int .i64 ((v.2.1.2 i).1)),.p (.int .i64 ((v.2.1.2 i).2.1))] else [.p (.int .i64 ((v.2.1.2 (i - (0+e)+(e+1))).1)),.p (.int .i64 ((v.2.1.2 (i - (0+e)+(e+1))).2.1))])).2∧(((cvtL false [(32,⟨true,2,1,(fun i_1=>[.p (.int .i64 v.1),.ar 2 960 0 (0+e+(v.2.1.1 - (e+1)))])⟩),(960,⟨false,2,(0+e+(v.2.1.1 - (e+1))),(fun i_1=>(if (i_1<0+e) then [.p (.int .i64 ((v.2.1.2 i_1).1)),.p (.int .i64 ((v.2.1.2 i_1).2.1))] else [.p (.int .i64 ((v.2.1.2 (i_1 - (0+e)+(e+1))).1)),.p (.int .i64 ((v.2.1.2 (i_1 - (0+e)+(e+1))).2.1))]))⟩),(0,⟨true,2,1,(fun i_1=>[.p (.int .i64 v.1),.p (.seq true 2 v.2.1.1 (bRw v.2.1.2))])⟩)] [960] 1 (if (i<0+e) then [.p (.int .i64 ((v.2.1.2 i).1)),.p (.int .i64 ((v.2.1.2 i).2.1))] else [.p (.int .i64 ((v.2.1.2 (i - (0+e)+(e+1))).1)),.p (.int .i64 ((v.2.1.2 (i - (0+e)+(e+1))).2.1))])).1:List AV)=[.p (.int .i64 ((delB v.2.1.1 v.2.1.2 e i).1)),.p (.int .i64 ((delB v.2.1.1 v.2.1.2 e i).2.1))])))),(AE ((v.2.1.1 - 1)))] [0,1,2,3,4,5,4,4,4,6,7,0,0,8,9,10,11,12,13,0,14,15,16,17,18,19,20,21,0,22,0,23,24,25,26,27,28,29,30]):=by kernel_rfl
theorem zqLl (p:T_Pinned) (e n:Nat) (h:Nat→T_Bar) :
    zS Tryz.f358 [rg 2,rm [(3,oc [(0,brOb n h)] (.tup [.agg [.p (.int .i64 p.1.1),.ar 2 0 0 n],.p (.bool true)]))] 6,rg 7] [pinA p,.p (.int .i64 e)] [160,512] [(0,brOb n h),(1,iOb p.2.1.1 p.2.1.2)] (.agg [.p (.int .i64 p.1.1),.ar 2 0 0 n,.ar 1 1 0 p.2.1.1]) =
    some (zD [(NT 0 1),zE 259 [(zf103 p),.p (.int .i64 (↑e:Int))] (zf112 n h) (.tup [.agg [.p (.int .i64 p.1.1),.ar 2 0 0 n],.p (.bool true)]),((true=true)→ (AN 1)),(NL 0 0),(NL ((0+p.2.1.1)*8) 140737488355328),(NL (0+p.2.1.1) 9223372036854775807),(AI p.1.1),(AN 0),(AN n),(((0+p.2.1.1):Nat)=p.2.1.1),(AN 2),(NL n n),(AA n (fun i=>[.p (.int .i64 ((h i).1)),.p (.int .i64 ((h i).2.1))])),(AN 1),(NL p.2.1.1 (0+p.2.1.1)),(AA p.2.1.1 (fun i=>[.p (.int .i64 (p.2.1.2 i))])),(AE n),(AE p.2.1.1)] [0,1,0,2,0,0,3,4,5,0,2,0,6,7,8,7,9,10,11,12,13,14,15,16,17]):=by kernel_rfl
theorem zqWo (p:T_Pinned) (e n:Nat) (h:Nat→T_Bar) :
    zS Tryz.f361 [rg 2,rm [(1,oc [(0,brOb p.1.2.1.1 p.1.2.1.2),(1,iOb p.2.1.1 p.2.1.2)] (zf117 p))] 2,rm [(6,oq [96] [(0,brOb p.1.2.1.1 h)] (.ar 2 0 0 n))] 3,rg 2] [pinA p,.p (.int .i64 e)] [96,97] [(0,brOb n h),(1,iOb p.2.1.1 p.2.1.2)] (.agg [.p (.int .i64 p.1.1),.ar 2 0 0 n,.ar 1 1 0 p.2.1.1]) =
    some (zD [(NT 0 1),zE 397 [(zf31 p)] (zf41 p) ((zf117 p)),((true=true)→ (AN 1)),(ZLo ((↑e:Int)+1)),(ZHi ((↑e:Int)+1)),(AE p.1.2.1.1),Con Tryz.prog 398 1 (zf108 p) [.ar 2 0 0 p.1.2.1.1,.p (.int .i64 (↑e:Int)),.p (.int .i64 ((↑e:Int)+1))] [(0,⟨false,2,p.1.2.1.1,(fun i=>[.p (.int .i64 ((h i).1)),.p (.int .i64 ((h i).2.1))])⟩)] (.ar 2 0 0 n),(AI p.1.1),(AN 0),(AN n),(AN p.2.1.1),(AN 2),(NL n p.1.2.1.1),(AA n (fun i=>[.p (.int .i64 ((h i).1)),.p (.int .i64 ((h i).2.1))])),(AN 1),(NL p.2.1.1 p.2.1.1),(AA p.2.1.1 (fun i=>[.p (.int .i64 (p.2.1.2 i))])),(AE n),(AE p.2.1.1)] [0,1,0,2,0,3,4,5,6,0,2,0,0,2,0,7,8,9,8,10,11,12,13,14,15,16,17,18]):=by kernel_rfl
theorem zqSz (p:T_Pinned) :
    zT Tryz.f242 [rg 2,rg 2,rg 1,.head] [pinA p] [0,64] (SYs p 0 0 (fun _=>0)) =
    some (zf87,zD [(AI p.1.1),(AN p.1.2.1.1),(AP p.1.2.1.1 (fun i=>[.int .i64 ((p.1.2.1.2 i).1),.int .i64 ((p.1.2.1.2 i).2.1)])),(AN p.2.1.1),(AP p.2.1.1 (fun i=>[.int .i64 (p.2.1.2 i)])),(AN 0),((0:Int)=(↑0:Int)),((([AV.p (PV.int IntKind.i64 p.1.1),graphL p.1.2.1,inL p.2.1].length):Nat)=3),(NL 1 1),(AN 1),(NL 0 0),(AA 0 (fun i=>[.p (.int .i64 0)]))] [0,1,2,3,4,5,5,5,6,7,8,8,0,1,2,3,4,9,10,11]):=by kernel_rfl
theorem zqSa (p:T_Pinned) (v n m:Nat) (h:Nat→Int) (r:Nat→T_Bar) (b1 b2:Bool) :
    zM 0 [rm [(7,oc [] (.p (.bool true)))] 1,.dec true,rm [(1,oc [(0,brOb m r)] (.agg [.p (.int .i64 p.1.1),.ar 2 0 0 m]))] 2,rm [(6,oc [] (.p (.bool b1))),(7,oc [] (.p (.bool b2)))] 1,.dec true,rg 5,rg 3,.head] zf87 (SYs p v n h) [0,1026] 1 (SYs p (v+1) (n+1) (snI n h v)) =
    some (zf87,zD [(NT 0 1),(((decide ((↑v:Int)<p.1.1))=true)→(NT 0 1)),(AG (decide ((↑v:Int)<p.1.1))),(((decide ((↑v:Int)<p.1.1))=true)→ zE 240 [(zf31 p)] [] (.p (.bool true))),((bif decide ((↑v:Int)<p.1.1) then true else false)=true),zE 320 [(zf31 p)] (zf112 m r) (.agg [.p (.int .i64 p.1.1),.ar 2 0 0 m]),((true=true)→ (AN 1)),(IL 0 0),(IT 0 (↑p.2.1.1:Int)),(AN 2),(NL m m),zE 286 [(zf110 p m r),.p (.int .i64 (p.2.1.2 0)),.p (.int .i64 (↑v:Int))] [] (.p (.bool b1)),((b1=true)→(NT 0 1)),(AG b1),((b1=true)→(IL 0 1)),((b1=true)→(IT 1 (↑p.2.1.1:Int))),((b1=true)→ (AN 2)),((b1=true)→(NL m m)),((b1=true)→ zE 286 [(zf110 p m r),.p (.int .i64 (p.2.1.2 1)),.p (.int .i64 (↑v:Int))] [] (.p (.bool b2))),((bif b1 then b2 else false)=true),(NL 1 1),(NL n n),(NL ((n+1)*8) 140737488355328),(NL (n+1) 9223372036854775807),(ZLo ((↑v:Int)+1)),(ZHi ((↑v:Int)+1)),(AI p.1.1),(AN p.1.2.1.1),(AP p.1.2.1.1 (fun i=>[.int .i64 ((p.1.2.1.2 i).1),.int .i64 ((p.1.2.1.2 i).2.1)])),(AN p.2.1.1),(AP p.2.1.1 (fun i=>[.int .i64 (p.2.1.2 i)])),(AN 0),(AN ((n+1))),((((↑v:Int)+1):Int)=(↑(v+1):Int)),(AN 3),(AN 1),(NL (n+1) (n+1)),(CV [(1026,⟨false,1,(n+1),(fun i_1=>(if (i_1<n) then [.p (.int .i64 (h i_1))] else [.p (.int .i64 (↑v:Int))]))⟩),(994,⟨false,1,1,(fun i_1=>[.p (.int .i64 (↑v:Int))])⟩),(354,⟨true,2,1,(fun i_1=>[.p (.int .i64 p.1.1),.ar 2 322 0 m])⟩),(322,⟨false,2,m,(fun i_1=>[.p (.int .i64 ((r i_1).1)),.p (.int .i64 ((r i_1).2.1))])⟩),(0,⟨true,3,1,(fun i_1=>[.p (.int .i64 p.1.1),.p (.seq true 2 p.1.2.1.1 (fun i_2=>[.int .i64 ((p.1.2.1.2 i_2).1),.int .i64 ((p.1.2.1.2 i_2).2.1)])),.p (.seq true 1 p.2.1.1 (fun i_2=>[.int .i64 (p.2.1.2 i_2)]))])⟩)] [0,1026] 1 (n+1) (fun i=>if (i<n) then [.p (.int .i64 (h i))] else [.p (.int .i64 (↑v:Int))]) (fun i=>[.p (.int .i64 (snI n h (↑v:Int) i))]))] [0,1,2,3,2,4,0,5,0,6,0,0,7,8,9,10,11,12,13,12,13,14,15,13,13,13,13,16,17,18,13,19,20,21,22,23,24,25,26,27,28,29,30,31,31,32,33,34,20,20,26,27,28,29,30,35,36,37]):=by kernel_rfl
theorem zqSb (p:T_Pinned) (v n m:Nat) (h:Nat→Int) (r:Nat→T_Bar) (b1 b2:Bool) :
    zM 0 [rm [(7,oc [] (.p (.bool true)))] 1,.dec true,rm [(1,oc [(0,brOb m r)] (.agg [.p (.int .i64 p.1.1),.ar 2 0 0 m]))] 2,rm [(6,oc [] (.p (.bool b1))),(7,oc [] (.p (.bool b2)))] 1,.dec false,rg 3,.head] zf87 (SYs p v n h) [0,1] 1 (SYs p (v+1) n h) =
    some (zf87,zD [(NT 0 1),(((decide ((↑v:Int)<p.1.1))=true)→(NT 0 1)),(AG (decide ((↑v:Int)<p.1.1))),(((decide ((↑v:Int)<p.1.1))=true)→ zE 240 [(zf31 p)] [] (.p (.bool true))),((bif decide ((↑v:Int)<p.1.1) then true else false)=true),zE 320 [(zf31 p)] (zf112 m r) (.agg [.p (.int .i64 p.1.1),.ar 2 0 0 m]),((true=true)→ (AN 1)),(IL 0 0),(IT 0 (↑p.2.1.1:Int)),(AN 2),(NL m m),zE 286 [(zf110 p m r),.p (.int .i64 (p.2.1.2 0)),.p (.int .i64 (↑v:Int))] [] (.p (.bool b1)),((b1=true)→(NT 0 1)),(AG b1),((b1=true)→(IL 0 1)),((b1=true)→(IT 1 (↑p.2.1.1:Int))),((b1=true)→ (AN 2)),((b1=true)→(NL m m)),((b1=true)→ zE 286 [(zf110 p m r),.p (.int .i64 (p.2.1.2 1)),.p (.int .i64 (↑v:Int))] [] (.p (.bool b2))),((bif b1 then b2 else false)=false),(ZLo ((↑v:Int)+1)),(ZHi ((↑v:Int)+1)),(AI p.1.1),(AN p.1.2.1.1),(AP p.1.2.1.1 (fun i=>[.int .i64 ((p.1.2.1.2 i).1),.int .i64 ((p.1.2.1.2 i).2.1)])),(AN p.2.1.1),(AP p.2.1.1 (fun i=>[.int .i64 (p.2.1.2 i)])),(AN 0),(AN n),((((↑v:Int)+1):Int)=(↑(v+1):Int)),(AN 3),(NL 1 1),(AN 1),(NL n n),(AA n (fun i=>[.p (.int .i64 (h i))]))] [0,1,2,3,2,4,0,5,0,6,0,0,7,8,9,10,11,12,13,12,13,14,15,13,13,13,13,16,17,18,13,19,20,21,22,23,24,25,26,27,27,28,29,30,31,31,22,23,24,25,26,32,33,34]):=by kernel_rfl
theorem zqSe (p:T_Pinned) (v n:Nat) (h:Nat→Int) (b:Bool) :
    zP Tryz.f242 0 [rm [(7,oc [] (.p (.bool b)))] 1,.dec false,rg 2] zf87 (SYs p v n h) [1] 1 [(0,iOb n h)] (.ar 1 0 0 n) =
    some [(NT 0 1),(((decide ((↑v:Int)<p.1.1))=true)→(NT 0 1)),(AG (decide ((↑v:Int)<p.1.1))),(((decide ((↑v:Int)<p.1.1))=true)→ zE 240 [(zf31 p)] [] (.p (.bool b))),(AG (decide ((↑v:Int)<p.1.1))),((bif decide ((↑v:Int)<p.1.1) then b else false)=false),(AN 0),(AN n),(AN 1),(NL n n),(AA n (fun i=>[.p (.int .i64 (h i))])),(AE n)]:=by kernel_rfl
theorem zqIn (p:T_Pinned) :
    zS Tryz.f250 [rg 2,rg 2,rm [(1,oc [] (.p (.bool false)))] 1,.dec true,rg 2] [pinA p] [64] [(0,iOb 0 (fun _=>0))] (.ar 1 0 0 0) =
    some [(NT 0 1),zE 142 [(zf31 p)] [] (.p (.bool false)),((!false)=true),(AN 0),(AN 0),(AN 1),(NL 0 0),(AA 0 (fun i=>[.p (.int .i64 0)])),(AE 0)]:=by kernel_rfl
theorem zqIz (p:T_Pinned) (n m:Nat) (h r:Nat→T_Bar) :
    zT Tryz.f250 [rg 2,rg 2,rm [(1,oc [] (.p (.bool true)))] 1,.dec false,rm [(1,oc [(0,brOb n h)] (.ar 2 0 0 n))] 5,rg 4,.head] [pinA p] [0,64,384] (SYi p 0 0 m (fun _=>0) r) =
    some (zf52,zD [(NT 0 1),zE 142 [(zf31 p)] [] (.p (.bool true)),((!true)=false),zE 326 [(zf31 p)] (zf112 n h) (.ar 2 0 0 n),(NL n n),(NL ((n+p.1.2.1.1)*16) 140737488355328),(NL (n+p.1.2.1.1) 9223372036854775807),(AI p.1.1),(AN p.1.2.1.1),(AP p.1.2.1.1 (fun i=>[.int .i64 ((p.1.2.1.2 i).1),.int .i64 ((p.1.2.1.2 i).2.1)])),(AN p.2.1.1),(AP p.2.1.1 (fun i=>[.int .i64 (p.2.1.2 i)])),(AN 0),(((n+p.1.2.1.1):Nat)=m),((0:Int)=(↑0:Int)),((([AV.p (PV.int IntKind.i64 p.1.1),graphL p.1.2.1,inL p.2.1].length):Nat)=3),(NL 1 1),(AN 1),(NL 0 0),(AA 0 (fun i=>[.p (.int .i64 0)])),(AN 2),(NL m (n+p.1.2.1.1)),(CV [(384,⟨false,2,(n+p.1.2.1.1),(fun i_1=>(if (i_1<n) then [.p (.int .i64 ((h i_1).1)),.p (.int .i64 ((h i_1).2.1))] else [.p (.int .i64 ((p.1.2.1.2 (i_1 - n)).1)),.p (.int .i64 ((p.1.2.1.2 (i_1 - n)).2.1))]))⟩),(64,⟨false,1,0,(fun i_1=>[.p (.int .i64 0)])⟩),(0,⟨true,3,1,(fun i_1=>[.p (.int .i64 p.1.1),.p (.seq true 2 p.1.2.1.1 (fun i_2=>[.int .i64 ((p.1.2.1.2 i_2).1),.int .i64 ((p.1.2.1.2 i_2).2.1)])),.p (.seq true 1 p.2.1.1 (fun i_2=>[.int .i64 (p.2.1.2 i_2)]))])⟩)] [0,64,384] 1 m (fun i=>if (i<n) then [.p (.int .i64 ((h i).1)),.p (.int .i64 ((h i).2.1))] else [.p (.int .i64 ((p.1.2.1.2 (i - n)).1)),.p (.int .i64 ((p.1.2.1.2 (i - n)).2.1))]) (fun i=>[.p (.int .i64 ((r i).1)),.p (.int .i64 ((r i).2.1))]))] [0,1,2,0,3,0,4,5,6,0,7,8,9,10,11,12,12,12,12,13,7,14,15,16,16,7,8,9,10,11,17,18,19,20,21,22]):=by kernel_rfl
theorem zqIo (p:T_Pinned) (v n m:Nat) (h:Nat→Int) (r:Nat→T_Bar) :
    zM 0 [rg 1,.dec true,rg 2,rg 1,rg 4,.head] zf52 (SYi p v n m h r) [0,1,2] 1 (SYj p v 0 n m h r true) =
    some (zf11,zD [((decide ((↑v:Int)<p.1.1))=true),(NT 0 1),(AI p.1.1),(AN p.1.2.1.1),(AP p.1.2.1.1 (fun i=>[.int .i64 ((p.1.2.1.2 i).1),.int .i64 ((p.1.2.1.2 i).2.1)])),(AN p.2.1.1),(AP p.2.1.1 (fun i=>[.int .i64 (p.2.1.2 i)])),(AN 0),(AN n),(AN m),(AI ((↑v:Int))),(true=true),(AI ((↑p.2.1.1:Int))),((0:Int)=(↑0:Int)),(AN 3),(NL 1 1),(AN 1),(NL n n),(AA n (fun i=>[.p (.int .i64 (h i))])),(AN 2),(NL m m),(AA m (fun i=>[.p (.int .i64 ((r i).1)),.p (.int .i64 ((r i).2.1))]))] [0,1,2,3,4,5,6,7,7,8,7,9,10,11,2,10,5,6,12,13,14,15,15,2,3,4,5,6,16,17,18,19,20,21]):=by kernel_rfl
theorem zqIi (p:T_Pinned) (v j n m:Nat) (h:Nat→Int) (r:Nat→T_Bar) (b q:Bool) (x:T_Bar) :
    zM 0 [rg 1,.dec true,rg 3,rm [(12,oc [] (.agg [.p (.int .i64 x.1),.p (.int .i64 x.2.1)])),(0,oc [] (.p (.bool q)))] 4,rg 2,.head] zf11 (SYj p v j n m h r b) [0,1,2] 1 (SYj p v (j+1) n m h r (bif b then (bif p.2.1.2 j==(v:Int) then true else !q) else false)) =
    some (zf11,zD [((decide ((↑j:Int)<(↑p.2.1.1:Int)))=true),(IL 0 (↑j:Int)),(IT (↑j:Int) (↑p.2.1.1:Int)),(AG b),(AG (b&&!p.2.1.2 j==(↑v:Int))),(((b&&!p.2.1.2 j==(↑v:Int))=true)→(NT 0 1)),(((b&&!p.2.1.2 j==(↑v:Int))=true)→ zE 290 [.p (.int .i64 (p.2.1.2 j)),.p (.int .i64 (↑v:Int))] [] (.agg [.p (.int .i64 x.1),.p (.int .i64 x.2.1)])),(((b&&!p.2.1.2 j==(↑v:Int))=true)→ (AN 2)),(((b&&!p.2.1.2 j==(↑v:Int))=true)→(NL m m)),(((b&&!p.2.1.2 j==(↑v:Int))=true)→ zE 327 [.p (.int .i64 p.1.1),.p (.seq true 2 m (bRw r)),.agg [.p (.int .i64 x.1),.p (.int .i64 x.2.1)]] [] (.p (.bool q))),((b=true)→(((p.2.1.2 j==(↑v:Int))=false)→ ((b&&!p.2.1.2 j==(↑v:Int))=true))),(ZLo ((↑j:Int)+1)),(ZHi ((↑j:Int)+1)),(AI p.1.1),(AN p.1.2.1.1),(AP p.1.2.1.1 (fun i=>[.int .i64 ((p.1.2.1.2 i).1),.int .i64 ((p.1.2.1.2 i).2.1)])),(AN p.2.1.1),(AP p.2.1.1 (fun i=>[.int .i64 (p.2.1.2 i)])),(AN 0),(AN n),(AN m),(AI ((↑v:Int))),((bif b then bif p.2.1.2 j==(↑v:Int) then true else !q else false)=(bif b then bif p.2.1.2 j==(↑v:Int) then true else !q else false)),(AI ((↑p.2.1.1:Int))),((((↑j:Int)+1):Int)=(↑(j+1):Int)),(AN 3),(NL 1 1),(AN 1),(NL n n),(AA n (fun i=>[.p (.int .i64 (h i))])),(AN 2),(NL m m),(AA m (fun i=>[.p (.int .i64 ((r i).1)),.p (.int .i64 ((r i).2.1))]))] [0,1,2,3,3,3,4,4,5,4,4,6,4,4,4,7,8,9,4,3,10,3,11,12,13,14,15,16,17,18,18,19,18,20,21,22,13,21,16,17,23,24,25,26,26,13,14,15,16,17,27,28,29,30,31,32]):=by kernel_rfl
theorem zqIt (p:T_Pinned) (v j n m:Nat) (h:Nat→Int) (r:Nat→T_Bar) (b:Bool) :
    zM 0 [rg 1,.dec false,rg 1,.dec true,rg 5,rg 2,.head] zf11 (SYj p v j n m h r b) [0,163,2] 1 (SYi p (v+1) (n+1) m (snI n h v) r) =
    some (zf52,zD [((decide ((↑j:Int)<(↑p.2.1.1:Int)))=false),(b=true),(NL 1 1),(NL n n),(NL ((n+1)*8) 140737488355328),(NL (n+1) 9223372036854775807),(ZLo ((↑v:Int)+1)),(ZHi ((↑v:Int)+1)),(AI p.1.1),(AN p.1.2.1.1),(AP p.1.2.1.1 (fun i=>[.int .i64 ((p.1.2.1.2 i).1),.int .i64 ((p.1.2.1.2 i).2.1)])),(AN p.2.1.1),(AP p.2.1.1 (fun i=>[.int .i64 (p.2.1.2 i)])),(AN 0),(AN ((n+1))),(AN m),((((↑v:Int)+1):Int)=(↑(v+1):Int)),(AN 3),(AN 1),(NL (n+1) (n+1)),(CV [(163,⟨false,1,(n+1),(fun i_1=>(if (i_1<n) then [.p (.int .i64 (h i_1))] else [.p (.int .i64 (↑v:Int))]))⟩),(131,⟨false,1,1,(fun i_1=>[.p (.int .i64 (↑v:Int))])⟩),(0,⟨true,3,1,(fun i_1=>[.p (.int .i64 p.1.1),.p (.seq true 2 p.1.2.1.1 (fun i_2=>[.int .i64 ((p.1.2.1.2 i_2).1),.int .i64 ((p.1.2.1.2 i_2).2.1)])),.p (.seq true 1 p.2.1.1 (fun i_2=>[.int .i64 (p.2.1.2 i_2)]))])⟩),(2,⟨false,2,m,(fun i_1=>[.p (.int .i64 ((r i_1).1)),.p (.int .i64 ((r i_1).2.1))])⟩)] [0,163,2] 1 (n+1) (fun i=>if (i<n) then [.p (.int .i64 (h i))] else [.p (.int .i64 (↑v:Int))]) (fun i=>[.p (.int .i64 (snI n h (↑v:Int) i))])),(AN 2),(NL m m),(AA m (fun i=>[.p (.int .i64 ((r i).1)),.p (.int .i64 ((r i).2.1))]))] [0,1,2,3,4,5,6,7,8,9,10,11,12,13,13,14,13,15,8,16,17,2,2,8,9,10,11,12,18,19,20,21,22,23]):=by kernel_rfl
theorem zqIf (p:T_Pinned) (v j n m:Nat) (h:Nat→Int) (r:Nat→T_Bar) (b:Bool) :
    zM 0 [rg 1,.dec false,rg 1,.dec false,rg 2,.head] zf11 (SYj p v j n m h r b) [0,1,2] 1 (SYi p (v+1) n m h r) =
    some (zf52,zD [((decide ((↑j:Int)<(↑p.2.1.1:Int)))=false),(b=false),(ZLo ((↑v:Int)+1)),(ZHi ((↑v:Int)+1)),(AI p.1.1),(AN p.1.2.1.1),(AP p.1.2.1.1 (fun i=>[.int .i64 ((p.1.2.1.2 i).1),.int .i64 ((p.1.2.1.2 i).2.1)])),(AN p.2.1.1),(AP p.2.1.1 (fun i=>[.int .i64 (p.2.1.2 i)])),(AN 0),(AN n),(AN m),((((↑v:Int)+1):Int)=(↑(v+1):Int)),(AN 3),(NL 1 1),(AN 1),(NL n n),(AA n (fun i=>[.p (.int .i64 (h i))])),(AN 2),(NL m m),(AA m (fun i=>[.p (.int .i64 ((r i).1)),.p (.int .i64 ((r i).2.1))]))] [0,1,2,3,4,5,6,7,8,9,9,10,9,11,4,12,13,14,14,4,5,6,7,8,15,16,17,18,19,20]):=by kernel_rfl
theorem zqIe (p:T_Pinned) (v n m:Nat) (h:Nat→Int) (r:Nat→T_Bar) :
    zP Tryz.f250 0 [rg 1,.dec false,rg 2] zf52 (SYi p v n m h r) [1] 1 [(0,iOb n h)] (.ar 1 0 0 n) =
    some [((decide ((↑v:Int)<p.1.1))=false),(AN 0),(AN n),(AN 1),(NL n n),(AA n (fun i=>[.p (.int .i64 (h i))])),(AE n)]:=by kernel_rfl
theorem zqFz (p:T_Pinned) (e a b nb:Nat) (r s:Nat→Int) (g:Nat→T_Bar) :
    zT Tryz.f328 [rg 2,rg 2,rm [(1,oc [] (.p (.bool true))),(8,oc [] (.p (.bool true)))] 2,.dec false,rm [(2,oc [(0,brOb nb g),(1,iOb p.2.1.1 p.2.1.2)] (.agg [.p (.int .i64 p.1.1),.ar 2 0 0 nb,.ar 1 1 0 p.2.1.1])),(0,oc [(0,iOb a r)] (.ar 1 0 0 a))] 1,rm [(1,oc [(0,iOb b s)] (.ar 1 0 0 b))] 2,.head] [pinA p,.p (.int .i64 e)] [0,64,640,736] (SYf p e 0 0 a b (fun _=>0) r s) =
    some (zf53,zD [(NT 0 1),zE 142 [(zf31 p)] [] (.p (.bool true)),(AG (!!true)),(((!!true)=true)→(NT 0 1)),(((!!true)=true)→(ZLo ((↑p.1.2.1.1:Int) - 1))),(((!!true)=true)→(ZHi ((↑p.1.2.1.1:Int) - 1))),(((!!true)=true)→ zE 179 [.p (.int .i64 (↑e:Int)),.p (.int .i64 0),.p (.int .i64 ((↑p.1.2.1.1:Int) - 1))] [] (.p (.bool true))),(((!true)=false)→ ((!!true)=true)),((bif !true then true else !true)=false),zE 361 [(zf31 p),.p (.int .i64 (↑e:Int))] [(0,⟨false,2,nb,(fun i=>[.p (.int .i64 ((g i).1)),.p (.int .i64 ((g i).2.1))])⟩),(1,⟨false,1,p.2.1.1,(fun i=>[.p (.int .i64 (p.2.1.2 i))])⟩)] (.agg [.p (.int .i64 p.1.1),.ar 2 0 0 nb,.ar 1 1 0 p.2.1.1]),(AN 2),(NL nb nb),(AN 1),(NL p.2.1.1 p.2.1.1),zE 250 [.agg [.p (.int .i64 p.1.1),.p (.seq true 2 nb (bRw g)),.p (.seq true 1 p.2.1.1 (fun i=>[.int .i64 (p.2.1.2 i)]))]] [(0,⟨false,1,a,(fun i=>[.p (.int .i64 (r i))])⟩)] (.ar 1 0 0 a),zE 250 [(zf31 p)] [(0,⟨false,1,b,(fun i=>[.p (.int .i64 (s i))])⟩)] (.ar 1 0 0 b),(AI p.1.1),(AN p.1.2.1.1),(AP p.1.2.1.1 (fun i=>[.int .i64 ((p.1.2.1.2 i).1),.int .i64 ((p.1.2.1.2 i).2.1)])),(AN p.2.1.1),(AP p.2.1.1 (fun i=>[.int .i64 (p.2.1.2 i)])),(AI ((↑e:Int))),(AN 0),(AN a),(AN b),(AI ((↑b:Int))),((0:Int)=(↑0:Int)),((([AV.p (PV.int IntKind.i64 p.1.1),graphL p.1.2.1,inL p.2.1].length):Nat)=3),(NL 1 1),(NL 0 0),(AA 0 (fun i=>[.p (.int .i64 0)])),(NL a a),(AA a (fun i=>[.p (.int .i64 (r i))])),(NL b b),(AA b (fun i=>[.p (.int .i64 (s i))]))] [0,1,2,2,3,2,2,4,5,2,2,6,2,7,8,0,9,10,11,12,13,14,0,15,16,17,18,19,20,21,22,22,22,22,23,22,24,25,26,27,28,28,16,17,18,19,20,12,29,30,12,31,32,12,33,34]):=by kernel_rfl
theorem zqFa (p:T_Pinned) (e k n a b:Nat) (h r s:Nat→Int) :
    zM 0 [rg 1,.dec true,rg 3,rm [(2,oc [] (.p (.bool false)))] 1,.dec true,rg 5,rg 2,.head] zf53 (SYf p e k n a b h r s) [0,356,2,3] 1 (SYf p e (k+1) (n+1) a b (snI n h (s k)) r s) =
    some (zf53,zD [((decide ((↑k:Int)<(↑b:Int)))=true),(IL 0 (↑k:Int)),(IT (↑k:Int) (↑b:Int)),(NT k b),(AN 1),(NL a a),zE 184 [.p (.seq true 1 a (fun i=>[.int .i64 (r i)])),.p (.int .i64 (s k))] [] (.p (.bool false)),((!false)=true),(NL 1 1),(NL n n),(NL ((n+1)*8) 140737488355328),(NL (n+1) 9223372036854775807),(ZLo ((↑k:Int)+1)),(ZHi ((↑k:Int)+1)),(AI p.1.1),(AN p.1.2.1.1),(AP p.1.2.1.1 (fun i=>[.int .i64 ((p.1.2.1.2 i).1),.int .i64 ((p.1.2.1.2 i).2.1)])),(AN p.2.1.1),(AP p.2.1.1 (fun i=>[.int .i64 (p.2.1.2 i)])),(AI ((↑e:Int))),(AN 0),(AN ((n+1))),(AN a),(AN b),(AI ((↑b:Int))),((((↑k:Int)+1):Int)=(↑(k+1):Int)),(AN 3),(NL (n+1) (n+1)),(CV [(356,⟨false,1,(n+1),(fun i_1=>(if (i_1<n) then [.p (.int .i64 (h i_1))] else [.p (.int .i64 (s k))]))⟩),(324,⟨false,1,1,(fun i_1=>[.p (.int .i64 (s k))])⟩),(0,⟨true,3,1,(fun i_1=>[.p (.int .i64 p.1.1),.p (.seq true 2 p.1.2.1.1 (fun i_2=>[.int .i64 ((p.1.2.1.2 i_2).1),.int .i64 ((p.1.2.1.2 i_2).2.1)])),.p (.seq true 1 p.2.1.1 (fun i_2=>[.int .i64 (p.2.1.2 i_2)]))])⟩),(2,⟨false,1,a,(fun i_1=>[.p (.int .i64 (r i_1))])⟩),(3,⟨false,1,b,(fun i_1=>[.p (.int .i64 (s i_1))])⟩)] [0,356,2,3] 1 (n+1) (fun i=>if (i<n) then [.p (.int .i64 (h i))] else [.p (.int .i64 (s k))]) (fun i=>[.p (.int .i64 (snI n h (s k) i))])),(AA a (fun i=>[.p (.int .i64 (r i))])),(NL b b),(AA b (fun i=>[.p (.int .i64 (s i))]))] [0,1,2,3,4,5,6,7,8,9,10,11,12,13,14,15,16,17,18,19,20,20,21,20,22,20,23,24,25,26,8,8,14,15,16,17,18,4,27,28,4,5,29,4,30,31]):=by kernel_rfl
theorem zqFb (p:T_Pinned) (e k n a b:Nat) (h r s:Nat→Int) :
    zM 0 [rg 1,.dec true,rg 3,rm [(2,oc [] (.p (.bool true)))] 1,.dec false,rg 2,.head] zf53 (SYf p e k n a b h r s) [0,1,2,3] 1 (SYf p e (k+1) n a b h r s) =
    some (zf53,zD [((decide ((↑k:Int)<(↑b:Int)))=true),(IL 0 (↑k:Int)),(IT (↑k:Int) (↑b:Int)),(NT k b),(AN 1),(NL a a),zE 184 [.p (.seq true 1 a (fun i=>[.int .i64 (r i)])),.p (.int .i64 (s k))] [] (.p (.bool true)),((!true)=false),(ZLo ((↑k:Int)+1)),(ZHi ((↑k:Int)+1)),(AI p.1.1),(AN p.1.2.1.1),(AP p.1.2.1.1 (fun i=>[.int .i64 ((p.1.2.1.2 i).1),.int .i64 ((p.1.2.1.2 i).2.1)])),(AN p.2.1.1),(AP p.2.1.1 (fun i=>[.int .i64 (p.2.1.2 i)])),(AI ((↑e:Int))),(AN 0),(AN n),(AN a),(AN b),(AI ((↑b:Int))),((((↑k:Int)+1):Int)=(↑(k+1):Int)),(AN 3),(NL 1 1),(NL n n),(AA n (fun i=>[.p (.int .i64 (h i))])),(AA a (fun i=>[.p (.int .i64 (r i))])),(NL b b),(AA b (fun i=>[.p (.int .i64 (s i))]))] [0,1,2,3,4,5,6,7,8,9,10,11,12,13,14,15,16,16,17,16,18,16,19,20,21,22,23,23,10,11,12,13,14,4,24,25,4,5,26,4,27,28]):=by kernel_rfl
theorem zqFe (p:T_Pinned) (e k n a b:Nat) (h r s:Nat→Int) :
    zP Tryz.f328 0 [rg 1,.dec false,rg 2] zf53 (SYf p e k n a b h r s) [1] 1 [(0,iOb n h)] (.ar 1 0 0 n) =
    some [((decide ((↑k:Int)<(↑b:Int)))=false),(AN 0),(AN n),(AN 1),(NL n n),(AA n (fun i=>[.p (.int .i64 (h i))])),(AE n)]:=by kernel_rfl
theorem zqGz (p:T_Pinned) (e a b nb:Nat) (r s:Nat→Int) (g:Nat→T_Bar) :
    zT Tryz.f321 [rg 2,rg 2,rm [(1,oc [] (.p (.bool true)))] 13,.dec false,rm [(1,oc [(0,iOb b s)] (.ar 1 0 0 b))] 1,rm [(2,oc [(0,brOb nb g),(1,iOb p.2.1.1 p.2.1.2)] (.agg [.p (.int .i64 p.1.1),.ar 2 0 0 nb,.ar 1 1 0 p.2.1.1])),(0,oc [(0,iOb a r)] (.ar 1 0 0 a))] 1,rg 1,.head] [pinA p,.p (.int .i64 e)] [0,64,800,640] (SYg p e 0 0 a b (fun _=>0) r s) =
    some (zf39,zD [(NT 0 1),zE 240 [(zf31 p)] [] (.p (.bool true)),(AG (!!true)),(((!true)=false)→ ((!!true)=true)),(AG (!bif !true then true else decide ((↑e:Int)<0))),(((!bif !true then true else decide ((↑e:Int)<0))=true)→(NT 0 1)),(((bif !true then true else decide ((↑e:Int)<0))=false)→ ((!bif !true then true else decide ((↑e:Int)<0))=true)),((bif bif !true then true else decide ((↑e:Int)<0) then true else decide ((↑e:Int)≥(↑p.1.2.1.1:Int)))=false),zE 242 [(zf31 p)] [(0,⟨false,1,b,(fun i=>[.p (.int .i64 (s i))])⟩)] (.ar 1 0 0 b),zE 358 [(zf31 p),.p (.int .i64 (↑e:Int))] [(0,⟨false,2,nb,(fun i=>[.p (.int .i64 ((g i).1)),.p (.int .i64 ((g i).2.1))])⟩),(1,⟨false,1,p.2.1.1,(fun i=>[.p (.int .i64 (p.2.1.2 i))])⟩)] (.agg [.p (.int .i64 p.1.1),.ar 2 0 0 nb,.ar 1 1 0 p.2.1.1]),(AN 2),(NL nb nb),(AN 1),(NL p.2.1.1 p.2.1.1),zE 242 [.agg [.p (.int .i64 p.1.1),.p (.seq true 2 nb (bRw g)),.p (.seq true 1 p.2.1.1 (fun i=>[.int .i64 (p.2.1.2 i)]))]] [(0,⟨false,1,a,(fun i=>[.p (.int .i64 (r i))])⟩)] (.ar 1 0 0 a),(AI p.1.1),(AN p.1.2.1.1),(AP p.1.2.1.1 (fun i=>[.int .i64 ((p.1.2.1.2 i).1),.int .i64 ((p.1.2.1.2 i).2.1)])),(AN p.2.1.1),(AP p.2.1.1 (fun i=>[.int .i64 (p.2.1.2 i)])),(AI ((↑e:Int))),(AN 0),(AN b),(AN a),((0:Int)=(↑0:Int)),((([AV.p (PV.int IntKind.i64 p.1.1),graphL p.1.2.1,inL p.2.1].length):Nat)=3),(NL 1 1),(NL 0 0),(AA 0 (fun i=>[.p (.int .i64 0)])),(NL a a),(AA a (fun i=>[.p (.int .i64 (r i))])),(NL b b),(AA b (fun i=>[.p (.int .i64 (s i))]))] [0,1,2,3,4,4,5,4,4,4,6,7,0,8,0,9,10,11,12,13,14,15,16,17,18,19,20,21,21,21,21,22,21,23,24,25,26,26,15,16,17,18,19,12,27,28,12,29,30,12,31,32]):=by kernel_rfl
theorem zqGa (p:T_Pinned) (e k n a b:Nat) (h r s:Nat→Int) :
    zM 0 [rg 4,.dec true,rm [(5,oc [] (.p (.bool false)))] 1,.dec true,rg 8,rg 3,.head] zf39 (SYg p e k n a b h r s) [0,548,2,3] 1 (SYg p e (k+1) (n+1) a b (snI n h (s k)) r s) =
    some (zf39,zD [((decide ((↑k:Int)<(↑b:Int)))=true),(IL 0 (↑k:Int)),(IT (↑k:Int) (↑b:Int)),(NT k b),(AN 1),(NL a a),zE 172 [.p (.seq true 1 a (fun i=>[.int .i64 (r i)])),.p (.int .i64 (s k))] [] (.p (.bool false)),((!false)=true),(NL 1 1),(NL n n),(NL ((n+1)*8) 140737488355328),(NL (n+1) 9223372036854775807),(ZLo ((↑k:Int)+1)),(ZHi ((↑k:Int)+1)),(AI p.1.1),(AN p.1.2.1.1),(AP p.1.2.1.1 (fun i=>[.int .i64 ((p.1.2.1.2 i).1),.int .i64 ((p.1.2.1.2 i).2.1)])),(AN p.2.1.1),(AP p.2.1.1 (fun i=>[.int .i64 (p.2.1.2 i)])),(AI ((↑e:Int))),(AN 0),(AN ((n+1))),(AN b),(AN a),((((↑k:Int)+1):Int)=(↑(k+1):Int)),(AN 3),(NL (n+1) (n+1)),(CV [(548,⟨false,1,(n+1),(fun i_1=>(if (i_1<n) then [.p (.int .i64 (h i_1))] else [.p (.int .i64 (s k))]))⟩),(516,⟨false,1,1,(fun i_1=>[.p (.int .i64 (s k))])⟩),(0,⟨true,3,1,(fun i_1=>[.p (.int .i64 p.1.1),.p (.seq true 2 p.1.2.1.1 (fun i_2=>[.int .i64 ((p.1.2.1.2 i_2).1),.int .i64 ((p.1.2.1.2 i_2).2.1)])),.p (.seq true 1 p.2.1.1 (fun i_2=>[.int .i64 (p.2.1.2 i_2)]))])⟩),(2,⟨false,1,a,(fun i_1=>[.p (.int .i64 (r i_1))])⟩),(3,⟨false,1,b,(fun i_1=>[.p (.int .i64 (s i_1))])⟩)] [0,548,2,3] 1 (n+1) (fun i=>if (i<n) then [.p (.int .i64 (h i))] else [.p (.int .i64 (s k))]) (fun i=>[.p (.int .i64 (snI n h (s k) i))])),(AA a (fun i=>[.p (.int .i64 (r i))])),(NL b b),(AA b (fun i=>[.p (.int .i64 (s i))]))] [0,1,2,3,4,5,6,7,1,2,3,8,9,10,11,12,13,14,15,16,17,18,19,20,20,21,20,22,20,23,24,25,8,8,14,15,16,17,18,4,26,27,4,5,28,4,29,30]):=by kernel_rfl
theorem zqGb (p:T_Pinned) (e k n a b:Nat) (h r s:Nat→Int) :
    zM 0 [rg 4,.dec true,rm [(5,oc [] (.p (.bool true)))] 1,.dec false,rg 3,.head] zf39 (SYg p e k n a b h r s) [0,1,2,3] 1 (SYg p e (k+1) n a b h r s) =
    some (zf39,zD [((decide ((↑k:Int)<(↑b:Int)))=true),(IL 0 (↑k:Int)),(IT (↑k:Int) (↑b:Int)),(NT k b),(AN 1),(NL a a),zE 172 [.p (.seq true 1 a (fun i=>[.int .i64 (r i)])),.p (.int .i64 (s k))] [] (.p (.bool true)),((!true)=false),(ZLo ((↑k:Int)+1)),(ZHi ((↑k:Int)+1)),(AI p.1.1),(AN p.1.2.1.1),(AP p.1.2.1.1 (fun i=>[.int .i64 ((p.1.2.1.2 i).1),.int .i64 ((p.1.2.1.2 i).2.1)])),(AN p.2.1.1),(AP p.2.1.1 (fun i=>[.int .i64 (p.2.1.2 i)])),(AI ((↑e:Int))),(AN 0),(AN n),(AN b),(AN a),((((↑k:Int)+1):Int)=(↑(k+1):Int)),(AN 3),(NL 1 1),(NL n n),(AA n (fun i=>[.p (.int .i64 (h i))])),(AA a (fun i=>[.p (.int .i64 (r i))])),(NL b b),(AA b (fun i=>[.p (.int .i64 (s i))]))] [0,1,2,3,4,5,6,7,8,9,10,11,12,13,14,15,16,16,17,16,18,16,19,20,21,22,22,10,11,12,13,14,4,23,24,4,5,25,4,26,27]):=by kernel_rfl
theorem zqGe (p:T_Pinned) (e k n a b:Nat) (h r s:Nat→Int) :
    zP Tryz.f321 0 [rg 4,.dec false,rg 2] zf39 (SYg p e k n a b h r s) [1] 1 [(0,iOb n h)] (.ar 1 0 0 n) =
    some [((decide ((↑k:Int)<(↑b:Int)))=false),(AN 0),(AN n),(AN 1),(NL n n),(AA n (fun i=>[.p (.int .i64 (h i))])),(AE n)]:=by kernel_rfl
theorem zqWz (p:T_Pinned) :
    zT Tryz.f251 [rg 3,rg 2,rg 5,.head] [pinA p] [0] (SYw p 0 (-1) 0) =
    some (zf88,zD [(NT 0 1),(AI p.1.1),(AN p.1.2.1.1),(AP p.1.2.1.1 (fun i=>[.int .i64 ((p.1.2.1.2 i).1),.int .i64 ((p.1.2.1.2 i).2.1)])),(AN p.2.1.1),(AP p.2.1.1 (fun i=>[.int .i64 (p.2.1.2 i)])),(AN 0),(AI ((-1))),(AI 0),(AI ((↑p.1.2.1.1:Int))),((0:Int)=(↑0:Int)),((([AV.p (PV.int IntKind.i64 p.1.1),graphL p.1.2.1,inL p.2.1].length):Nat)=3),(NL 1 1)] [0,1,2,3,4,5,6,7,8,9,10,11,12,12,1,2,3,4,5]):=by kernel_rfl
theorem zqWa (p:T_Pinned) (k n:Nat) (w m:Int) (h:Nat→Int) :
    zM 0 [rg 1,.dec true,rg 2,rm [(2,oc [(0,iOb n h)] (.ar 1 0 0 n))] 2,rg 3,.dec true,rg 4,rg 2,.head] zf88 (SYw p k w m) [0] 1 (SYw p (k+1) k n) =
    some (zf88,zD [((decide ((↑k:Int)<(↑p.1.2.1.1:Int)))=true),(NT 0 1),zE 328 [(zf31 p),.p (.int .i64 (↑k:Int))] [(0,⟨false,1,n,(fun i=>[.p (.int .i64 (h i))])⟩)] (.ar 1 0 0 n),((decide ((↑n:Int)>m))=true),(ZLo ((↑k:Int)+1)),(ZHi ((↑k:Int)+1)),(AI p.1.1),(AN p.1.2.1.1),(AP p.1.2.1.1 (fun i=>[.int .i64 ((p.1.2.1.2 i).1),.int .i64 ((p.1.2.1.2 i).2.1)])),(AN p.2.1.1),(AP p.2.1.1 (fun i=>[.int .i64 (p.2.1.2 i)])),(AN 0),(AI ((↑k:Int))),(AI ((↑n:Int))),(AI ((↑p.1.2.1.1:Int))),((((↑k:Int)+1):Int)=(↑(k+1):Int)),(AN 3),(NL 1 1)] [0,1,2,3,4,5,6,7,8,9,10,11,12,13,14,15,16,17,17,6,7,8,9,10]):=by kernel_rfl
theorem zqWb (p:T_Pinned) (k n:Nat) (w m:Int) (h:Nat→Int) :
    zM 0 [rg 1,.dec true,rg 2,rm [(2,oc [(0,iOb n h)] (.ar 1 0 0 n))] 2,rg 3,.dec false,rg 2,.head] zf88 (SYw p k w m) [0] 1 (SYw p (k+1) w m) =
    some (zf88,zD [((decide ((↑k:Int)<(↑p.1.2.1.1:Int)))=true),(NT 0 1),zE 328 [(zf31 p),.p (.int .i64 (↑k:Int))] [(0,⟨false,1,n,(fun i=>[.p (.int .i64 (h i))])⟩)] (.ar 1 0 0 n),((decide ((↑n:Int)>m))=false),(ZLo ((↑k:Int)+1)),(ZHi ((↑k:Int)+1)),(AI p.1.1),(AN p.1.2.1.1),(AP p.1.2.1.1 (fun i=>[.int .i64 ((p.1.2.1.2 i).1),.int .i64 ((p.1.2.1.2 i).2.1)])),(AN p.2.1.1),(AP p.2.1.1 (fun i=>[.int .i64 (p.2.1.2 i)])),(AN 0),(AI w),(AI m),(AI ((↑p.1.2.1.1:Int))),((((↑k:Int)+1):Int)=(↑(k+1):Int)),(AN 3),(NL 1 1)] [0,1,2,3,4,5,6,7,8,9,10,11,12,13,14,15,16,17,17,6,7,8,9,10]):=by kernel_rfl
theorem zqWe (p:T_Pinned) (k:Nat) (w m:Int) :
    zP Tryz.f251 0 [rg 1,.dec false,rg 4] zf88 (SYw p k w m) [] 1 [] (.tup [.p (.int .i64 w),.p (.int .i64 m)]) =
    some [((decide ((↑k:Int)<(↑p.1.2.1.1:Int)))=false),(AI w),(AI m)]:=by kernel_rfl
theorem zqVz (p:T_Pinned) :
    zT Tryz.f243 [rg 3,rg 1,rg 1,rg 1,.head] [pinA p] [0] (SYv p 0 (-1) 0) =
    some (zf70,zD [(AI p.1.1),(AN p.1.2.1.1),(AP p.1.2.1.1 (fun i=>[.int .i64 ((p.1.2.1.2 i).1),.int .i64 ((p.1.2.1.2 i).2.1)])),(AN p.2.1.1),(AP p.2.1.1 (fun i=>[.int .i64 (p.2.1.2 i)])),(AN 0),(AI ((-1))),(AI 0),((0:Int)=(↑0:Int)),((([AV.p (PV.int IntKind.i64 p.1.1),graphL p.1.2.1,inL p.2.1].length):Nat)=3),(NL 1 1)] [0,1,2,3,4,5,6,7,8,9,10,10,0,1,2,3,4]):=by kernel_rfl
theorem zqVa (p:T_Pinned) (k n:Nat) (w m:Int) (h:Nat→Int) :
    zM 0 [rg 6,.dec true,rm [(2,oc [(0,iOb n h)] (.ar 1 0 0 n))] 2,rg 3,.dec true,rg 2,rg 2,rg 3,.head] zf70 (SYv p k w m) [0] 1 (SYv p (k+1) k n) =
    some (zf70,zD [(NT 0 1),((decide ((↑k:Int)<(↑p.1.2.1.1:Int)))=true),zE 321 [(zf31 p),.p (.int .i64 (↑k:Int))] [(0,⟨false,1,n,(fun i=>[.p (.int .i64 (h i))])⟩)] (.ar 1 0 0 n),((decide ((↑n:Int)>m))=true),(ZLo ((↑k:Int)+1)),(ZHi ((↑k:Int)+1)),(AI p.1.1),(AN p.1.2.1.1),(AP p.1.2.1.1 (fun i=>[.int .i64 ((p.1.2.1.2 i).1),.int .i64 ((p.1.2.1.2 i).2.1)])),(AN p.2.1.1),(AP p.2.1.1 (fun i=>[.int .i64 (p.2.1.2 i)])),(AN 0),(AI ((↑k:Int))),(AI ((↑n:Int))),((((↑k:Int)+1):Int)=(↑(k+1):Int)),(AN 3),(NL 1 1)] [0,1,0,2,3,4,5,6,7,8,9,10,11,12,13,14,15,16,16,6,7,8,9,10]):=by kernel_rfl
theorem zqVb (p:T_Pinned) (k n:Nat) (w m:Int) (h:Nat→Int) :
    zM 0 [rg 6,.dec true,rm [(2,oc [(0,iOb n h)] (.ar 1 0 0 n))] 2,rg 3,.dec false,rg 3,.head] zf70 (SYv p k w m) [0] 1 (SYv p (k+1) w m) =
    some (zf70,zD [(NT 0 1),((decide ((↑k:Int)<(↑p.1.2.1.1:Int)))=true),zE 321 [(zf31 p),.p (.int .i64 (↑k:Int))] [(0,⟨false,1,n,(fun i=>[.p (.int .i64 (h i))])⟩)] (.ar 1 0 0 n),((decide ((↑n:Int)>m))=false),(ZLo ((↑k:Int)+1)),(ZHi ((↑k:Int)+1)),(AI p.1.1),(AN p.1.2.1.1),(AP p.1.2.1.1 (fun i=>[.int .i64 ((p.1.2.1.2 i).1),.int .i64 ((p.1.2.1.2 i).2.1)])),(AN p.2.1.1),(AP p.2.1.1 (fun i=>[.int .i64 (p.2.1.2 i)])),(AN 0),(AI w),(AI m),((((↑k:Int)+1):Int)=(↑(k+1):Int)),(AN 3),(NL 1 1)] [0,1,0,2,3,4,5,6,7,8,9,10,11,12,13,14,15,16,16,6,7,8,9,10]):=by kernel_rfl
theorem zqVe (p:T_Pinned) (k:Nat) (w m:Int) :
    zP Tryz.f243 0 [rg 6,.dec false,rg 4] zf70 (SYv p k w m) [] 1 [] (.tup [.p (.int .i64 w),.p (.int .i64 m)]) =
    some [(NT 0 1),((decide ((↑k:Int)<(↑p.1.2.1.1:Int)))=false),(AI w),(AI m)]:=by kernel_rfl
theorem imp_symm {N:Nat} {I:List (Nat×Nat)} {a b:Nat} (h:Mat.Imp N I a b):Mat.Imp N I b a:=by
  obtain ⟨R,t,h1,h2⟩:=h
  exact ⟨R,t,h2,h1⟩
theorem rk_swap {N:Nat} {L:List (Nat×Nat)} (hL:∀ x∈L,Mat.GoodBar N x) {a b:Nat} (h1:a≠b) (h2:a<N) (h3:b<N):Mat.rk N (L++[(a,b)])=Mat.rk N L↔Mat.rk N (L++[(b,a)])=Mat.rk N L:=by
  rw [Mat.rk_same_iff hL ⟨h1,h2,h3⟩,Mat.rk_same_iff hL ⟨Ne.symm h1,h3,h2⟩]
  exact ⟨imp_symm,imp_symm⟩
theorem bL_congr {g g':Nat→T_Bar}:∀ n,(∀ i,i<n→g i=g' i)→bL g n=bL g' n
  | 0,_=>rfl
  | n+1,h=>by rw [bL,bL,bL_congr n (fun i hi=>h i (by omega)),h n (by omega)]
theorem bL_snoc (g:Nat→T_Bar) (nb:Nat) (x:T_Bar):bL (snoc nb g x) (nb+1)=bL g nb++[brN x]:=by
  rw [bL,bL_congr (g:=snoc nb g x) (g':=g) nb (fun i hi=>snoc_lt hi),snoc_ge (Nat.lt_irrefl _)]
theorem rk_brX {N:Nat} {L:List (Nat×Nat)} (hL:∀ x∈L,Mat.GoodBar N x) {a b:Int} (hab:a≠b) (ha:0≤a∧a<N) (hb:0≤b∧b<N):Mat.rk N (L++[brN (brX a b)])=Mat.rk N L↔Mat.rk N (L++[(a.toNat,b.toNat)])=Mat.rk N L:=by
  by_cases h:b<a
  · have e:brN (brX a b)=(b.toNat,a.toNat):=by
      simp only [brN,brX]
      rw [if_pos h,if_neg (by omega)]
    rw [e]
    exact rk_swap hL (by omega) (by omega) (by omega)
  · have e:brN (brX a b)=(a.toNat,b.toNat):=by
      simp only [brN,brX]
      rw [if_neg h,if_pos (by omega)]
    rw [e]
theorem impB_iff {N nb:Nat} {g:Nat→T_Bar} (hok:OkBars N nb g) {a b:Int} (ha:0≤a∧a<N) (hb:0≤b∧b<N) :
    impB N nb g a b=true↔a=b∨Mat.rk N (bL g nb++[(a.toNat,b.toNat)])=Mat.rk N (bL g nb):=by
  unfold impB
  by_cases h:a=b
  · simp [h]
  · have h':(a==b)=false:=beq_eq_false_iff_ne.2 h
    rw [h',cond_false,acc_len,acc_len,bL_snoc]
    have:=rk_brX (bL_good hok) h ha hb
    unfold Mat.rk at this ⊢
    rw [← this]
    simp [h,Int.ofNat_inj]
noncomputable def sdB (p:T_Pinned) (v:Nat):Bool:=bif impB p.1.1.toNat (alS p).1 (alS p).2 (p.2.1.2 0) v then impB p.1.1.toNat (alS p).1 (alS p).2 (p.2.1.2 1) v else false
noncomputable def rsB (p:T_Pinned) (x:T_Bar):Bool:=decide (((accI p.1.1.toNat 2 3 (snoc (alC p).1 (alC p).2 x) ((alC p).1+1)).length:Int)>((accI p.1.1.toNat 2 3 (alC p).2 (alC p).1).length:Int))
noncomputable def sdI (p:T_Pinned) (v:Nat):Nat→Bool
  | 0=>true
  | j+1=>bif sdI p v j then (bif p.2.1.2 j==(v:Int) then true else !(rsB p (brX (p.2.1.2 j) v))) else false
theorem PinOk.raise {p:T_Pinned} (h:PinOk p) {u:Int} {v:Nat} (hu:0≤u∧u<p.1.1) (hv:(v:Int)<p.1.1) (hne:u≠v) :
    rsB p (brX u v)=false↔Mat.rk p.1.1.toNat (bL (alS p).2 (alS p).1++[(u.toNat,v)])=Mat.rk p.1.1.toNat (bL (alS p).2 (alS p).1):=by
  have hN:=h.N
  have hx:=brX_ok (N:=p.1.1.toNat) (a:=u) (b:=v) (by omega) (by omega) hne
  have e1:rkN p.1.1.toNat ((alC p).1+1,snoc (alC p).1 (alC p).2 (brX u v))=rkN p.1.1.toNat ((alS p).1+1,snoc (alS p).1 (alS p).2 (brX u v)):=by
    refine h.same (ok_snoc h.okAS hx) (ok_snoc h.okAC hx) (fun y hy=>?_) (fun y hy=>?_) (fun y hy=>?_)
    · show ∃ s,s<(alS p).1+1∧snoc (alS p).1 (alS p).2 (brX u v) s=y
      rw [snoc_mem]
      refine .inl ?_
      show mem (alS p) y
      rw [alS,aS_mem];exact .inl hy
    · show ∃ s,s<(alC p).1+1∧snoc (alC p).1 (alC p).2 (brX u v) s=y
      have hy':∃ s,s<(alS p).1+1∧snoc (alS p).1 (alS p).2 (brX u v) s=y:=hy
      rw [snoc_mem] at hy' ⊢
      rcases hy' with hy' | hy'
      · left
        have hm:mem (alS p) y:=hy'
        show mem (alC p) y
        rw [alS,aS_mem] at hm
        rw [alC,aC_mem]
        exact hm.imp (h.few y) id
      · exact .inr hy'
    · have hy':∃ s,s<(alC p).1+1∧snoc (alC p).1 (alC p).2 (brX u v) s=y:=hy
      show (∃ s,s<(alS p).1+1∧snoc (alS p).1 (alS p).2 (brX u v) s=y)∨_
      rw [snoc_mem] at hy' ⊢
      rcases hy' with hy' | hy'
      · have hm:mem (alC p) y:=hy'
        rw [alC,aC_mem] at hm
        rcases hm with hm | hm
        · exact .inr hm
        · refine .inl (.inl ?_)
          show mem (alS p) y
          rw [alS,aS_mem];exact .inr hm
      · exact .inl (.inr hy')
  have e2:=h.rkA
  have e3:=rk_brX (bL_good h.okAS) hne (show 0≤u∧u<(p.1.1.toNat:Nat) by omega) (show (0:Int)≤v∧(v:Int)<(p.1.1.toNat:Nat) by omega)
  rw [Int.toNat_natCast] at e3
  rw [← e3]
  have e4:=rkN_rk p.1.1.toNat (alS p)
  have e5:rkN p.1.1.toNat ((alS p).1+1,snoc (alS p).1 (alS p).2 (brX u v))=Mat.rk p.1.1.toNat (bL (alS p).2 (alS p).1++[brN (brX u v)]):=by
    rw [rkN_rk];show Mat.rk _ (bL (snoc _ _ _) _)=_;rw [bL_snoc]
  have e6:=Mat.rk_le_succ (N:=p.1.1.toNat) (L:=bL (alS p).2 (alS p).1) (brN (brX u v))
  have e7:rsB p (brX u v)=decide ((rkN p.1.1.toNat ((alC p).1+1,snoc (alC p).1 (alC p).2 (brX u v)):Int)>(rkN p.1.1.toNat (alC p):Int)):=rfl
  rw [e7,e1,e2,e4,e5,decide_eq_false_iff_not]
  omega
theorem PinOk.steady {p:T_Pinned} (h:PinOk p) {v:Nat} (hv:(v:Int)<p.1.1):sdI p v p.2.1.1=sdB p v:=by
  have hN:=h.N;have hm:=h.m
  have key:∀ j,j≤p.2.1.1→(sdI p v j=true↔∀ i,i<j→(p.2.1.2 i).toNat=v∨Mat.rk p.1.1.toNat (bL (alS p).2 (alS p).1++[((p.2.1.2 i).toNat,v)])=Mat.rk p.1.1.toNat (bL (alS p).2 (alS p).1)):=by
    intro j
    induction j with
    | zero=>intro _;simp [sdI]
    | succ j ih =>
      intro hj
      have ih:=ih (by omega)
      have hg:=h.gr j (by omega)
      have step:(bif p.2.1.2 j==(v:Int) then true else !(rsB p (brX (p.2.1.2 j) v)))=true↔((p.2.1.2 j).toNat=v∨Mat.rk p.1.1.toNat (bL (alS p).2 (alS p).1++[((p.2.1.2 j).toNat,v)])=Mat.rk p.1.1.toNat (bL (alS p).2 (alS p).1)):=by
        by_cases e:p.2.1.2 j=(v:Int)
        · have e':(p.2.1.2 j==(v:Int))=true:=beq_iff_eq.2 e
          rw [e',cond_true]
          exact ⟨fun _=>.inl (by omega),fun _=>rfl⟩
        · have e':(p.2.1.2 j==(v:Int))=false:=beq_eq_false_iff_ne.2 e
          rw [e',cond_false,Bool.not_eq_true',h.raise hg hv e]
          constructor
          · intro h';exact .inr h'
          · rintro (h' | h')
            · omega
            · exact h'
      rw [sdI]
      constructor
      · intro hh i hi
        cases hs:sdI p v j with
        | false=>rw [hs,cond_false] at hh;cases hh
        | true =>
          rw [hs,cond_true] at hh
          by_cases e:i=j
          · subst e;exact step.1 hh
          · exact (ih.1 hs) i (by omega)
      · intro hh
        rw [ih.2 (fun i hi=>hh i (by omega)),cond_true]
        exact step.2 (hh j (by omega))
  have g0:=h.gr 0 (by omega)
  have g1:=h.gr 1 (by omega)
  have k0:=impB_iff h.okAS (a:=p.2.1.2 0) (b:=(v:Int)) (by omega) (by omega)
  have k1:=impB_iff h.okAS (a:=p.2.1.2 1) (b:=(v:Int)) (by omega) (by omega)
  rw [Int.toNat_natCast] at k0 k1
  have hst:=h.grd.steady (L:=bL (alS p).2 (alS p).1) (bL_good h.okAS) (fun x hx=>by
    rw [bL_in] at hx ⊢
    obtain ⟨y,h1,h2⟩:=hx
    exact ⟨y,by rw [alS,aS_mem];exact .inl h1,h2⟩) (v:=v) (by omega)
  have kk:=key p.2.1.1 (Nat.le_refl _)
  have e0:((p.2.1.2 0).toNat=v)↔p.2.1.2 0=(v:Int):=by omega
  have e1:((p.2.1.2 1).toNat=v)↔p.2.1.2 1=(v:Int):=by omega
  have hb:sdB p v=true↔sdI p v p.2.1.1=true:=by
    rw [kk,← hst]
    unfold sdB
    show _↔((p.2.1.2 0).toNat=v∨_)∧((p.2.1.2 1).toNat=v∨_)
    rw [e0,e1,← k0,← k1]
    cases impB p.1.1.toNat (alS p).1 (alS p).2 (p.2.1.2 0) v<;>simp
  cases h1:sdB p v<;>cases h2:sdI p v p.2.1.1<;>simp_all
noncomputable def sdD (p:T_Pinned):Nat→NI
  | 0=>zNI
  | v+1=>if sdB p v=true then snN (sdD p v) v else sdD p v
noncomputable def sdR (p:T_Pinned):NI:=if pinnedF p=true then sdD p p.1.1.toNat else zNI
theorem sdD_n (p:T_Pinned):∀ v,(sdD p v).1≤v
  | 0=>Nat.le_refl _
  | v+1=>by
    have:=sdD_n p v
    simp only [sdD]
    split
    · simp only [snN];omega
    · omega
theorem sdR_n (p:T_Pinned):(sdR p).1≤8:=by
  unfold sdR
  split
  · rename_i h
    have:=(pin_ok h).N
    have:=sdD_n p p.1.1.toNat
    omega
  · exact Nat.zero_le _
theorem PinOk.isG {p:T_Pinned} (h:PinOk p):isGraphF ((p.1.1.toNat:Int),((alS p).1,(alS p).2),())=true:=by
  have hN:=h.N;have hn:=h.nS;have ha:=alS_n p
  exact isG_of (by omega) (by omega) h.okAS (alS_asc p)
theorem con_Steady_s (p:T_Pinned) (hs:smS s_Pinned p):zE 242 [pinA p] [(0,iOb (sdR p).1 (sdR p).2)] (.ar 1 0 0 (sdR p).1):=by
  have c1:=con_IsPinned_s p hs
  refine csZ Tryz.func242 (fun c hc=>?_)
  cases hp:pinnedF p with
  | false =>
    rw [hp] at c1
    rw [show sdR p=zNI by simp [sdR,hp]]
    have hd:(bif decide (((0:Nat):Int)<p.1.1) then false else false)=false:=by cases decide (((0:Nat):Int)<p.1.1)<;>rfl
    have he:zR c 242 zf87 (SYs p 0 0 (fun _=>0)) (Post c [(0,iOb zNI.1 zNI.2)] (.ar 1 0 0 zNI.1)):=by
      refine pkZ Tryz.func242 hc (zqSe p 0 0 (fun _=>0) false) ?_
      and_intros
      all_goals (first | exact zI | (intros;exact c1) | (exact hd) | (intro t ht;exact absurd ht (Nat.not_lt_zero _)) | (intro t ht;simp [All]))
    refine pcD hc (zqSz p) ?_ he
    and_intros
    all_goals (first | exact zN | (intro t ht;exact absurd ht (Nat.not_lt_zero _)) | (intro t ht;simp [All]))
  | true =>
    have ok:=pin_ok hp
    have hN:=ok.N;have hm:=ok.m;have hnb:=ok.nb
    have hNz:((p.1.1.toNat:Nat):Int)=p.1.1:=by omega
    have hG:=ok.isG
    have ca:=con_l20All p (by omega) (by omega) (by omega)
    rw [hp] at c1
    rw [show sdR p=sdD p p.1.1.toNat by simp [sdR,hp]]
    generalize hR:sdD p p.1.1.toNat=R
    have lo:∀ d v,v+d=p.1.1.toNat→zR c 242 zf87 (SYs p v (sdD p v).1 (sdD p v).2) (Post c [(0,iOb R.1 R.2)] (.ar 1 0 0 R.1)):=by
      intro d
      induction d with
      | zero =>
        intro v hv
        obtain rfl:v=p.1.1.toNat:=by omega
        have hd:(bif decide (((p.1.1.toNat:Nat):Int)<p.1.1) then true else false)=false:=by
          rw [show decide (((p.1.1.toNat:Nat):Int)<p.1.1)=false from decide_eq_false (by omega)];rfl
        rw [hR]
        refine pkZ Tryz.func242 hc (zqSe p p.1.1.toNat R.1 R.2 true) ?_
        and_intros
        all_goals (first | exact zI | (exact hd) | (intros;exact c1) | (intro t ht;simp [All]))
      | succ d ih =>
        intro v hv
        have hrec:=ih (v+1) (by omega)
        have hd:(bif decide ((v:Int)<p.1.1) then true else false)=true:=by
          rw [show decide ((v:Int)<p.1.1)=true from decide_eq_true (by omega)];rfl
        have hn:=sdD_n p v
        have g0:=ok.gr 0 (by omega)
        have g1:=ok.gr 1 (by omega)
        have i0:=con_IsImplied_s hG ok.okAS (by omega) (by have:=ok.nS;have:=alS_n p;omega) (a:=p.2.1.2 0) (b:=(v:Int)) (by omega) (by omega)
        have i1:=con_IsImplied_s hG ok.okAS (by omega) (by have:=ok.nS;have:=alS_n p;omega) (a:=p.2.1.2 1) (b:=(v:Int)) (by omega) (by omega)
        rw [grG,hNz] at i0 i1
        have hst:sdB p v=bif impB p.1.1.toNat (alS p).1 (alS p).2 (p.2.1.2 0) v then impB p.1.1.toNat (alS p).1 (alS p).2 (p.2.1.2 1) v else false:=rfl
        generalize impB p.1.1.toNat (alS p).1 (alS p).2 (p.2.1.2 0) v=b1 at i0 hst
        generalize impB p.1.1.toNat (alS p).1 (alS p).2 (p.2.1.2 1) v=b2 at i1 hst
        cases hh:sdB p v with
        | false =>
          rw [hh] at hst
          rw [show sdD p (v+1)=sdD p v by simp [sdD,hh]] at hrec
          generalize sdD p v=q at hn hrec ⊢
          refine pcD hc (zqSb p v q.1 (alS p).1 q.2 (alS p).2 b1 b2) ?_ hrec
          and_intros
          all_goals (first | exact zI | (exact hd) | (intros;exact c1) | (exact ca) | (exact i0) | (intros;exact i1) | (exact hst.symm) | (intro t ht;simp [All]))
        | true =>
          rw [hh] at hst
          rw [show sdD p (v+1)=snN (sdD p v) v by simp [sdD,hh]] at hrec
          generalize sdD p v=q at hn hrec ⊢
          refine pcD hc (zqSa p v q.1 (alS p).1 q.2 (alS p).2 b1 b2) ?_ hrec
          and_intros
          all_goals (first | exact zI | (exact hd) | (intros;exact c1) | (exact ca) | (exact i0) | (intros;exact i1) | (exact hst.symm) | (intro t ht;by_cases h':t<q.1<;>simp [h',snI,cvtL,cvt,tg,tru,All]))
    refine pcD hc (zqSz p) ?_ (lo p.1.1.toNat 0 (by omega))
    and_intros
    all_goals (first | exact zN | (intro t ht;exact absurd ht (Nat.not_lt_zero _)) | (intro t ht;simp [All]))
theorem con_Steady_i (p:T_Pinned) (hs:smS s_Pinned p):zE 250 [pinA p] [(0,iOb (sdR p).1 (sdR p).2)] (.ar 1 0 0 (sdR p).1):=by
  have c1:=con_IsPinned_i p hs
  refine csZ Tryz.func250 (fun c hc=>?_)
  cases hp:pinnedF p with
  | false =>
    rw [hp] at c1
    rw [show sdR p=zNI by simp [sdR,hp]]
    refine pkZ Tryz.func250 hc (zqIn p) ?_
    and_intros
    all_goals (first | exact zN | (exact c1) | (intro t ht;exact absurd ht (Nat.not_lt_zero _)) | (simp;done))
  | true =>
    have ok:=pin_ok hp
    have hN:=ok.N;have hm:=ok.m;have hnb:=ok.nb;have hnC:=ok.nC
    have hNz:((p.1.1.toNat:Nat):Int)=p.1.1:=by omega
    have ch:=con_held p hm.2
    rw [show hC p.2.1.2 p.2.1.1 p.2.1.1=hlC p from rfl] at ch
    rw [hp] at c1
    rw [show sdR p=sdD p p.1.1.toNat by simp [sdR,hp]]
    generalize hR:sdD p p.1.1.toNat=R
    have nC:(alC p).1=(hlC p).1+p.1.2.1.1:=rfl
    have li:∀ v:Nat,(v:Int)<p.1.1→∀ q:NI,q.1≤8→(zR c 250 zf52 (SYi p (v+1) (if sdB p v=true then snN q v else q).1 (alC p).1 (if sdB p v=true then snN q v else q).2 (alC p).2) (Post c [(0,iOb R.1 R.2)] (.ar 1 0 0 R.1))) →
        ∀ d j,j+d=p.2.1.1→zR c 250 zf11 (SYj p v j q.1 (alC p).1 q.2 (alC p).2 (sdI p v j)) (Post c [(0,iOb R.1 R.2)] (.ar 1 0 0 R.1)):=by
      intro v hv q hq hk d
      induction d with
      | zero =>
        intro j hj
        obtain rfl:j=p.2.1.1:=by omega
        have hd:decide ((p.2.1.1:Int)<(p.2.1.1:Int))=false:=by simp
        rw [ok.steady hv]
        cases hh:sdB p v with
        | false =>
          rw [hh,if_neg (by simp)] at hk
          refine pcD hc (zqIf p v p.2.1.1 q.1 (alC p).1 q.2 (alC p).2 false) ?_ hk
          and_intros
          all_goals (first | exact zN | (exact hd) | (intro t ht;simp [All]))
        | true =>
          rw [hh,if_pos rfl] at hk
          refine pcD hc (zqIt p v p.2.1.1 q.1 (alC p).1 q.2 (alC p).2 true) ?_ hk
          and_intros
          all_goals (first | exact zN | (exact hd) | (intro t ht;by_cases h':t<q.1<;>simp [h',snI,cvtL,cvt,tg,tru,All]) | (intro t ht;simp [All]))
      | succ d ih =>
        intro j hj
        have hd:decide ((j:Int)<(p.2.1.1:Int))=true:=decide_eq_true (by omega)
        have hg:=ok.gr j (by omega)
        have cb:=con_barX (p.2.1.2 j) v
        have hrec:=ih (j+1) (by omega)
        rw [show sdI p v (j+1)=bif sdI p v j then (bif p.2.1.2 j==(v:Int) then true else !(rsB p (brX (p.2.1.2 j) v))) else false from rfl] at hrec
        have cr:p.2.1.2 j≠(v:Int)→zE 327 [.p (.int .i64 p.1.1),brL (alC p).2 (alC p).1,brA (brX (p.2.1.2 j) v)] [] (.p (.bool (rsB p (brX (p.2.1.2 j) v)))):=by
          intro hne
          have hx:=brX_ok (N:=p.1.1.toNat) (a:=p.2.1.2 j) (b:=v) (by omega) (by omega) hne
          have:=con_raises ok.okAC hx (by omega) (by omega)
          rw [hNz] at this
          exact this
        refine pcD hc (zqIi p v j q.1 (alC p).1 q.2 (alC p).2 (sdI p v j) (rsB p (brX (p.2.1.2 j) v)) (brX (p.2.1.2 j) v)) ?_ hrec
        and_intros
        all_goals (first | exact zH | (exact hd) | (intros;exact cb) | (intro h3;refine cr ?_;simp only [Bool.and_eq_true,Bool.not_eq_true',beq_eq_false_iff_ne] at h3;exact h3.2) | (intro t ht;simp [All]))
    have lo:∀ d v,v+d=p.1.1.toNat→zR c 250 zf52 (SYi p v (sdD p v).1 (alC p).1 (sdD p v).2 (alC p).2) (Post c [(0,iOb R.1 R.2)] (.ar 1 0 0 R.1)):=by
      intro d
      induction d with
      | zero =>
        intro v hv
        obtain rfl:v=p.1.1.toNat:=by omega
        have hd:decide (((p.1.1.toNat:Nat):Int)<p.1.1)=false:=decide_eq_false (by omega)
        rw [hR]
        refine pkZ Tryz.func250 hc (zqIe p p.1.1.toNat R.1 (alC p).1 R.2 (alC p).2) ?_
        and_intros
        all_goals (first | exact zN | (exact hd) | (intro t ht;simp [All]))
      | succ d ih =>
        intro v hv
        have hrec:=ih (v+1) (by omega)
        have hd:decide ((v:Int)<p.1.1)=true:=decide_eq_true (by omega)
        have hn:=sdD_n p v
        refine pcD hc (zqIo p v (sdD p v).1 (alC p).1 (sdD p v).2 (alC p).2) ?_ (li v (by omega) (sdD p v) (by omega) hrec p.2.1.1 0 (by omega))
        and_intros
        all_goals (first | exact zN | (exact hd) | (intro t ht;simp [All]))
    refine pcD hc (zqIz p (hlC p).1 (alC p).1 (hlC p).2 (alC p).2) ?_ (lo p.1.1.toNat 0 (by omega))
    and_intros
    all_goals (first | exact zN | (exact c1) | (exact ch) | (intro t ht;exact absurd ht (Nat.not_lt_zero _)) | (intro t ht;by_cases h:t<(hlC p).1<;>simp [h,cvtL,cvt,tg,tru,All,alC,aC]))
end Go.Proofs.YtkkjoghiigiokaaGreat.Mach
