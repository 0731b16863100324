/- What the law Em needs, part 6 of 6: the abstract machine and the contracts of the functions. Conditions: as each theorem says. -/
import Derived.Test.YtkepkjbofchckaaGreatEmP5
namespace Go.Proofs.YtkepkjbofchckaaGreat.Mach
open Go Go.Sort
set_option linter.unusedVariables false
set_option linter.unusedSimpArgs false
def STt (n k:Nat) (f:Nat→ByteArray):St :=
  ⟨[stLt n f,stLt n f,.p .any,.p .any,.p .any,.p (.int .i64 k)]++List.replicate 20 anyA,[],0⟩
def SEn (n:Nat) (f:Nat→Int) (m:Int) (c:Nat) (G:Nat→T_BarS) (k:Nat):St :=
  ⟨[cdA n f,.p .any,.p .any,.p .any,.ar 2 0 0 c,.p .any,.ar 2 1 0 c,.p .any,.p (.int .i64 k)]++List.replicate 179 anyA,[(0,gsOb m c G),(1,gsOb m c G)],2⟩
theorem tsA (n:Nat) (f:Nat→ByteArray) :
    zT Tryz.f54 [rg 1,rg 5,.dec false,rg 1,.head] [stLt n f,stLt n f] [] (STt n 0 f) =
    some (zf79,zD [(((↑n:Int) != (↑n:Int))=false),(AN n),(AP n (fun i=>[.str (f i)])),((0:Int)=(↑0:Int))] [0,1,2,1,2,3]):=by kernel_rfl
theorem tsB (n k:Nat) (f:Nat→ByteArray) :
    zM 0 [rg 4,.dec true,rg 9,.dec false,rg 3,.head] zf79 (STt n k f) [] 1 (STt n (k+1) f) =
    some (zf79,zD [((decide ((↑k:Int)<(↑n:Int)))=true),(IL 0 (↑k:Int)),(IT (↑k:Int) (↑n:Int)),((!(f k).toList==(f k).toList)=false),(ZLo ((↑k:Int)+1)),(ZHi ((↑k:Int)+1)),(AN n),(AP n (fun i=>[.str (f i)])),((((↑k:Int)+1):Int)=(↑(k+1):Int))] [0,1,2,1,2,3,4,5,6,7,6,7,8]):=by kernel_rfl
theorem tsC (n k:Nat) (f:Nat→ByteArray) :
    zP Tryz.f54 0 [rg 4,.dec false,rg 1] zf79 (STt n k f) [] 1 [] (.p (.bool true)) =
    some [((decide ((↑k:Int)<(↑n:Int)))=false),(true=true)]:=by kernel_rfl
theorem emZ (n:Nat) (f:Nat→Int) :
    zS Tryz.f5 [rg 1,rm [(1,oc [] (.p (.bool true)))] 0,.dec true,rg 1] [cdA n f] [] [] (.p (.bool true)) =
    some [zE 6 [.p (.seq true 1 n (fun i=>[.int .u8 (f i)]))] [] (.p (.bool true)),(true=true),(true=true)]:=by kernel_rfl
theorem emA (n:Nat) (f:Nat→Int) (m:Int) (b:Bool) (c:Nat) (G:Nat→T_BarS) (x:Int) (e:Nat) (t:Nat→ByteArray) :
    zT Tryz.f5 [rg 1,rm [(1,oc [] (.p (.bool false)))] 0,.dec false,rm [(1,oc [] (.p (.int .i64 m)))] 1,rm [(1,oc [(0,gsOb m c G)] (.tup [.ar 2 0 0 c,.p (.bool b)]))] 5,rm [(1,oc [(0,gsOb m c G)] (.tup [.ar 2 0 0 c,.p (.bool b)]))] 5,rm [(4,gT),(0,gT),(0,gT),(0,gT),(0,gT),(0,gF),(1,gT),(0,⟨true,(some ⟨[],[],[],1,[],.p (.int .i64 x)⟩),some true⟩),(0,gT),(0,⟨true,(some ⟨[],[],[],1,[],.p (.int .i64 x)⟩),some true⟩),(0,gT),(0,gF),(1,gT),(0,⟨true,(some ⟨[],[],[],1,[(0,stOt e t)],.ar 1 0 0 e⟩),some true⟩),(0,gT),(0,⟨true,(some ⟨[],[],[],1,[(0,stOt e t)],.ar 1 0 0 e⟩),some true⟩),(0,⟨true,(some ⟨[],[],[],1,[],.p (.bool true)⟩),some true⟩),(0,gT),(0,gF)] 0,.dec false,rg 1,.head] [cdA n f] [224,448] (SEn n f m c G 0) =
    some (zf24,zD [zE 6 [.p (.seq true 1 n (fun i=>[.int .u8 (f i)]))] [] (.p (.bool false)),(false=false),zE 49 [.p (.seq true 1 n (fun i=>[.int .u8 (f i)]))] [] (.p (.int .i64 m)),zE 50 [.p (.int .i64 m)] (zf58 c m G) (.tup [.ar 2 0 0 c,.p (.bool b)]),zE 51 [.p (.int .i64 m)] (zf58 c m G) (.tup [.ar 2 0 0 c,.p (.bool b)]),((!!b==b)=true),((!b==b)=false),((!(↑c:Int) != (↑c:Int))=true),zE 52 [.p (.int .i64 m)] [] (.p (.int .i64 x)),zE 53 [.p (.int .i64 m)] [] (.p (.int .i64 x)),(((↑c:Int) != (↑c:Int))=false),((!x != x)=true),zE 55 [.p (.int .i64 m)] [(0,⟨false,1,e,(fun i=>[.p (.str (t i))])⟩)] (.ar 1 0 0 e),zE 56 [.p (.int .i64 m)] [(0,⟨false,1,e,(fun i=>[.p (.str (t i))])⟩)] (.ar 1 0 0 e),(AN 1),(NL e e),zE 54 [.p (.seq true 1 e (fun i=>[.str (t i)])),.p (.seq true 1 e (fun i=>[.str (t i)]))] [] (.p (.bool true)),((x != x)=false),((!true)=false),(AN n),(AP n (fun i=>[.int .u8 (f i)])),(AN 0),(AN c),((0:Int)=(↑0:Int)),(AN 2),(NL c c),(AA c (fun i=>[.p (.int .i64 m),.p (.seq false 2 ((G i).1) (fun i_1=>[.int .i64 (((G i).2 i_1).1),.int .i64 (((G i).2 i_1).2.1)]))]))] [0,1,2,3,4,5,5,5,5,5,6,7,7,8,7,7,9,7,10,11,11,12,11,11,13,11,14,15,14,15,16,11,17,18,19,20,21,22,21,22,23,24,25,26,24,25,26]):=by kernel_rfl
theorem emB (n:Nat) (f:Nat→Int) (m:Int) (c:Nat) (G:Nat→T_BarS) (k:Nat) :
    zM 0 [rg 4,.dec true,rm [(8,oc [] (.p (.bool true))),(6,oc [] (.p (.bool true)))] 2,.dec false,rg 3,.head] zf24 (SEn n f m c G k) [0,1] 1 (SEn n f m c G (k+1)) =
    some (zf24,zD [((decide ((↑k:Int)<(↑c:Int)))=true),(IL 0 (↑k:Int)),(IT (↑k:Int) (↑c:Int)),(NT k c),zE 57 [(zf95 m G k),(zf95 m G k)] [] (.p (.bool true)),(AG (!!true)),(((!!true)=true)→(IL 0 (↑k:Int))),(((!!true)=true)→(IT (↑k:Int) (↑c:Int))),(((!!true)=true)→(NT k c)),(((!!true)=true)→ zE 58 [(zf95 m G k)] [] (.p (.bool true))),(((!true)=false)→ ((!!true)=true)),((bif !true then true else !true)=false),(ZLo ((↑k:Int)+1)),(ZHi ((↑k:Int)+1)),(AN n),(AP n (fun i=>[.int .u8 (f i)])),(AN 0),(AN c),((((↑k:Int)+1):Int)=(↑(k+1):Int)),(AN 2),(NL c c),(AA c (fun i=>[.p (.int .i64 m),.p (.seq false 2 ((G i).1) (fun i_1=>[.int .i64 (((G i).2 i_1).1),.int .i64 (((G i).2 i_1).2.1)]))]))] [0,1,2,3,1,2,3,4,5,5,6,7,5,8,5,9,5,10,11,12,13,14,15,16,17,16,17,18,19,20,21,19,20,21]):=by kernel_rfl
theorem emC (n:Nat) (f:Nat→Int) (m:Int) (c:Nat) (G:Nat→T_BarS) (k:Nat) (v:T_Graph) (u:T_IntS) (w:T_Graph) (b:Bool) (x:Int) (y z:Bool) (p q:T_Graph) (o:T_Graph) (s:T_Graph) (r:T_Graph) (i:Bool) :
    zP Tryz.f5 0 [rg 4,.dec false,rm [(1,oc [(0,brOb v.2.1.1 v.2.1.2),(1,iOb u.1 u.2)] (.tup [grR v.1 v.2.1.1 0,.ar 1 1 0 u.1]))] 6,rm [(2,oc [(0,brOb w.2.1.1 w.2.1.2)] (zf116 w b))] 6,rm [(2,oc [(0,brOb w.2.1.1 w.2.1.2)] (zf116 w b))] 6,rm [(6,oc [] (.p (.bool true))),(6,oc [] (.p (.int .i64 x))),(1,oc [] (.p (.int .i64 x))),(3,oc [] (.p (.bool y))),(1,oc [] (.p (.bool y))),(9,oc [] (.p (.bool z)))] 5,.dec false,rm [(1,oc [(0,brOb p.2.1.1 p.2.1.2)] (grR p.1 p.2.1.1 0))] 2,rm [(1,oc [(0,brOb q.2.1.1 q.2.1.2)] (zf114 q))] 6,rm [(1,oc [(0,brOb q.2.1.1 q.2.1.2)] (zf114 q))] 6,rm [(6,oc [] (.p (.bool true)))] 2,.dec false,rg 1,.dec true,rm [(1,oc [(0,brOb o.2.1.1 o.2.1.2)] (zf114 o))] 6,rm [(5,oc [] (.p (.bool true)))] 2,.dec false,rm [(1,oc [(0,brOb s.2.1.1 s.2.1.2),(1,brOb r.2.1.1 r.2.1.2)] (.tup [grR s.1 s.2.1.1 0,grR r.1 r.2.1.1 1]))] 7,rm [(2,oc [] (.p (.bool i))),(2,oc [] (.p (.bool i)))] 2] zf24 (SEn n f m c G k) [] 1 [] (.p (.bool true)) =
    some (zD [((decide ((↑k:Int)<(↑c:Int)))=false),zE 59 [.p (.seq true 1 n (fun i_1=>[.int .u8 (f i_1)]))] [(0,⟨false,2,v.2.1.1,(fun i_1=>[.p (.int .i64 ((v.2.1.2 i_1).1)),.p (.int .i64 ((v.2.1.2 i_1).2.1))])⟩),(1,⟨false,1,u.1,(fun i_1=>[.p (.int .i64 (u.2 i_1))])⟩)] (.tup [.agg [.p (.int .i64 v.1),.ar 2 0 0 v.2.1.1],.ar 1 1 0 u.1]),(NT 0 1),((true=true)→ (AN 1)),(AN 2),(NL v.2.1.1 v.2.1.1),(AN 1),(NL u.1 u.1),zE 60 [(zf94 v),.p (.seq true 1 u.1 (iRw u))] (zf100 w) ((zf116 w b)),zE 61 [(zf94 v),.p (.seq true 1 u.1 (iRw u))] (zf100 w) ((zf116 w b)),(((!!b==b)=true)→(NT 0 1)),(AG (!!b==b)),(((!!b==b)=true)→ (AN 2)),(((!!b==b)=true)→(NL w.2.1.1 w.2.1.1)),(((!!b==b)=true)→ zE 57 [(zf94 w),(zf94 w)] [] (.p (.bool true))),(((!b==b)=false)→ ((!!b==b)=true)),(AG (!bif !b==b then true else !true)),((((!bif !b==b then true else !true)&&b)=true)→(NT 0 1)),(AG ((!bif !b==b then true else !true)&&b)),((((!bif !b==b then true else !true)&&b)=true)→ (AN 2)),((((!bif !b==b then true else !true)&&b)=true)→(NL w.2.1.1 w.2.1.1)),((((!bif !b==b then true else !true)&&b)=true)→ zE 62 [(zf94 w),.p (.int .i64 2),.p (.int .i64 3)] [] (.p (.int .i64 x))),((((!bif !b==b then true else !true)&&b)=true)→(NL v.2.1.1 v.2.1.1)),((((!bif !b==b then true else !true)&&b)=true)→ zE 63 [(zf94 v),.p (.int .i64 2),.p (.int .i64 3)] [] (.p (.int .i64 x))),((((!bif !b==b then true else !true)&&b&&!x != x)=true)→(NT 0 1)),(AG ((!bif !b==b then true else !true)&&b&&!x != x)),((((!bif !b==b then true else !true)&&b&&!x != x)=true)→ (AN 2)),((((!bif !b==b then true else !true)&&b&&!x != x)=true)→(NL w.2.1.1 w.2.1.1)),((((!bif !b==b then true else !true)&&b&&!x != x)=true)→ zE 64 [(zf94 w)] [] (.p (.bool y))),((((!bif !b==b then true else !true)&&b&&!x != x)=true)→(NL v.2.1.1 v.2.1.1)),((((!bif !b==b then true else !true)&&b&&!x != x)=true)→ zE 65 [(zf94 v)] [] (.p (.bool y))),((((!bif !b==b then true else !true)&&b)=true)→(((x != x)=false)→ (((!bif !b==b then true else !true)&&b&&!x != x)=true))),(AG ((!bif !b==b then true else !true)&&b&&!bif x != x then true else !y==y)),((((!bif !b==b then true else !true)&&b&&!bif x != x then true else !y==y)=true)→(NT 0 1)),(((((!bif !b==b then true else !true)&&b&&!bif x != x then true else !y==y)&&decide (v.1≤5))=true)→(NT 0 1)),(AG (((!bif !b==b then true else !true)&&b&&!bif x != x then true else !y==y)&&decide (v.1≤5))),(((((!bif !b==b then true else !true)&&b&&!bif x != x then true else !y==y)&&decide (v.1≤5))=true)→ (AN 2)),(((((!bif !b==b then true else !true)&&b&&!bif x != x then true else !y==y)&&decide (v.1≤5))=true)→(NL v.2.1.1 v.2.1.1)),(((((!bif !b==b then true else !true)&&b&&!bif x != x then true else !y==y)&&decide (v.1≤5))=true)→(NL w.2.1.1 w.2.1.1)),(((((!bif !b==b then true else !true)&&b&&!bif x != x then true else !y==y)&&decide (v.1≤5))=true)→ zE 66 [(zf94 v),(zf94 w)] [] (.p (.bool z))),((((!bif !b==b then true else !true)&&b&&!bif x != x then true else !y==y)=true)→(((decide (v.1≤5))=true)→ ((((!bif !b==b then true else !true)&&b&&!bif x != x then true else !y==y)&&decide (v.1≤5))=true))),((((!bif !b==b then true else !true)&&b)=true)→(((bif x != x then true else !y==y)=false)→ (((!bif !b==b then true else !true)&&b&&!bif x != x then true else !y==y)=true))),(((!bif !b==b then true else !true)=true)→((b=true)→ (((!bif !b==b then true else !true)&&b)=true))),(((bif !b==b then true else !true)=false)→ ((!bif !b==b then true else !true)=true)),((bif bif !b==b then true else !true then true else bif b then bif bif x != x then true else !y==y then true else bif decide (v.1≤5) then !z else false else false)=false),zE 67 [.p (.seq true 1 n (fun i_1=>[.int .u8 (f i_1)]))] (zf100 p) (.agg [.p (.int .i64 p.1),.ar 2 0 0 p.2.1.1]),(NL p.2.1.1 p.2.1.1),zE 68 [(zf94 p)] (zf100 q) ((zf114 q)),zE 69 [(zf94 p)] (zf100 q) ((zf114 q)),(((!!true==true)=true)→(NT 0 1)),(AG (!!true==true)),(((!!true==true)=true)→ (AN 2)),(((!!true==true)=true)→(NL q.2.1.1 q.2.1.1)),(((!!true==true)=true)→ zE 57 [(zf94 q),(zf94 q)] [] (.p (.bool true))),(((!true==true)=false)→ ((!!true==true)=true)),((bif !true==true then true else !true)=false),(true=true),(NL q.2.1.1 q.2.1.1),zE 68 [(zf94 q)] (zf100 o) ((zf114 o)),(((!!true)=true)→(NT 0 1)),(AG (!!true)),(((!!true)=true)→ (AN 2)),(((!!true)=true)→(NL o.2.1.1 o.2.1.1)),(((!!true)=true)→(NL q.2.1.1 q.2.1.1)),(((!!true)=true)→ zE 57 [(zf94 o),(zf94 q)] [] (.p (.bool true))),(((!true)=false)→ ((!!true)=true)),((bif !true then true else !true)=false),zE 70 [.p (.seq true 1 n (fun i_1=>[.int .u8 (f i_1)]))] (zf21 s r) (.tup [.agg [.p (.int .i64 s.1),.ar 2 0 0 s.2.1.1],.agg [.p (.int .i64 r.1),.ar 2 1 0 r.2.1.1]]),(NL s.2.1.1 s.2.1.1),(NL r.2.1.1 r.2.1.1),zE 66 [(zf94 s),(zf94 r)] [] (.p (.bool i)),zE 71 [(zf94 s),(zf94 r)] [] (.p (.bool i)),((i==i)=true)] [0,1,2,3,2,4,5,6,7,8,2,3,2,4,5,6,7,9,2,3,10,10,11,11,12,13,12,13,14,11,15,16,17,18,19,20,21,17,18,19,22,23,18,18,18,24,25,26,27,28,24,25,26,29,30,25,25,18,31,18,32,33,32,32,34,34,35,35,36,37,36,38,39,35,32,40,18,41,16,42,43,44,45,2,3,2,4,46,47,2,3,2,4,46,48,2,3,49,49,50,50,51,52,51,52,53,50,54,55,56,2,4,57,58,2,3,59,59,60,60,61,62,61,63,64,60,65,66,67,2,3,2,3,2,2,4,68,4,69,70,2,2,4,68,4,69,71,72]):=by kernel_rfl
theorem emD (n:Nat) (f:Nat→Int) (m:Int) (c:Nat) (G:Nat→T_BarS) (k:Nat) (v:T_Graph) (u:T_IntS) (w:T_Graph) (b:Bool) (x:Int) (y z:Bool) (p q:T_Graph) (s:T_Graph) (r:T_Graph) (i:Bool) :
    zP Tryz.f5 0 [rg 4,.dec false,rm [(1,oc [(0,brOb v.2.1.1 v.2.1.2),(1,iOb u.1 u.2)] (.tup [grR v.1 v.2.1.1 0,.ar 1 1 0 u.1]))] 6,rm [(2,oc [(0,brOb w.2.1.1 w.2.1.2)] (zf116 w b))] 6,rm [(2,oc [(0,brOb w.2.1.1 w.2.1.2)] (zf116 w b))] 6,rm [(6,oc [] (.p (.bool true))),(6,oc [] (.p (.int .i64 x))),(1,oc [] (.p (.int .i64 x))),(3,oc [] (.p (.bool y))),(1,oc [] (.p (.bool y))),(9,oc [] (.p (.bool z)))] 5,.dec false,rm [(1,oc [(0,brOb p.2.1.1 p.2.1.2)] (grR p.1 p.2.1.1 0))] 2,rm [(1,oc [(0,brOb q.2.1.1 q.2.1.2)] (zf112 q))] 6,rm [(1,oc [(0,brOb q.2.1.1 q.2.1.2)] (zf112 q))] 6,rm [(6,oc [] (.p (.bool true)))] 2,.dec false,rg 1,.dec false,rm [(1,oc [(0,brOb s.2.1.1 s.2.1.2),(1,brOb r.2.1.1 r.2.1.2)] (.tup [grR s.1 s.2.1.1 0,grR r.1 r.2.1.1 1]))] 7,rm [(2,oc [] (.p (.bool i))),(2,oc [] (.p (.bool i)))] 2] zf24 (SEn n f m c G k) [] 1 [] (.p (.bool true)) =
    some (zD [((decide ((↑k:Int)<(↑c:Int)))=false),zE 59 [.p (.seq true 1 n (fun i_1=>[.int .u8 (f i_1)]))] [(0,⟨false,2,v.2.1.1,(fun i_1=>[.p (.int .i64 ((v.2.1.2 i_1).1)),.p (.int .i64 ((v.2.1.2 i_1).2.1))])⟩),(1,⟨false,1,u.1,(fun i_1=>[.p (.int .i64 (u.2 i_1))])⟩)] (.tup [.agg [.p (.int .i64 v.1),.ar 2 0 0 v.2.1.1],.ar 1 1 0 u.1]),(NT 0 1),((true=true)→ (AN 1)),(AN 2),(NL v.2.1.1 v.2.1.1),(AN 1),(NL u.1 u.1),zE 60 [(zf94 v),.p (.seq true 1 u.1 (iRw u))] (zf100 w) ((zf116 w b)),zE 61 [(zf94 v),.p (.seq true 1 u.1 (iRw u))] (zf100 w) ((zf116 w b)),(((!!b==b)=true)→(NT 0 1)),(AG (!!b==b)),(((!!b==b)=true)→ (AN 2)),(((!!b==b)=true)→(NL w.2.1.1 w.2.1.1)),(((!!b==b)=true)→ zE 57 [(zf94 w),(zf94 w)] [] (.p (.bool true))),(((!b==b)=false)→ ((!!b==b)=true)),(AG (!bif !b==b then true else !true)),((((!bif !b==b then true else !true)&&b)=true)→(NT 0 1)),(AG ((!bif !b==b then true else !true)&&b)),((((!bif !b==b then true else !true)&&b)=true)→ (AN 2)),((((!bif !b==b then true else !true)&&b)=true)→(NL w.2.1.1 w.2.1.1)),((((!bif !b==b then true else !true)&&b)=true)→ zE 62 [(zf94 w),.p (.int .i64 2),.p (.int .i64 3)] [] (.p (.int .i64 x))),((((!bif !b==b then true else !true)&&b)=true)→(NL v.2.1.1 v.2.1.1)),((((!bif !b==b then true else !true)&&b)=true)→ zE 63 [(zf94 v),.p (.int .i64 2),.p (.int .i64 3)] [] (.p (.int .i64 x))),((((!bif !b==b then true else !true)&&b&&!x != x)=true)→(NT 0 1)),(AG ((!bif !b==b then true else !true)&&b&&!x != x)),((((!bif !b==b then true else !true)&&b&&!x != x)=true)→ (AN 2)),((((!bif !b==b then true else !true)&&b&&!x != x)=true)→(NL w.2.1.1 w.2.1.1)),((((!bif !b==b then true else !true)&&b&&!x != x)=true)→ zE 64 [(zf94 w)] [] (.p (.bool y))),((((!bif !b==b then true else !true)&&b&&!x != x)=true)→(NL v.2.1.1 v.2.1.1)),((((!bif !b==b then true else !true)&&b&&!x != x)=true)→ zE 65 [(zf94 v)] [] (.p (.bool y))),((((!bif !b==b then true else !true)&&b)=true)→(((x != x)=false)→ (((!bif !b==b then true else !true)&&b&&!x != x)=true))),(AG ((!bif !b==b then true else !true)&&b&&!bif x != x then true else !y==y)),((((!bif !b==b then true else !true)&&b&&!bif x != x then true else !y==y)=true)→(NT 0 1)),(((((!bif !b==b then true else !true)&&b&&!bif x != x then true else !y==y)&&decide (v.1≤5))=true)→(NT 0 1)),(AG (((!bif !b==b then true else !true)&&b&&!bif x != x then true else !y==y)&&decide (v.1≤5))),(((((!bif !b==b then true else !true)&&b&&!bif x != x then true else !y==y)&&decide (v.1≤5))=true)→ (AN 2)),(((((!bif !b==b then true else !true)&&b&&!bif x != x then true else !y==y)&&decide (v.1≤5))=true)→(NL v.2.1.1 v.2.1.1)),(((((!bif !b==b then true else !true)&&b&&!bif x != x then true else !y==y)&&decide (v.1≤5))=true)→(NL w.2.1.1 w.2.1.1)),(((((!bif !b==b then true else !true)&&b&&!bif x != x then true else !y==y)&&decide (v.1≤5))=true)→ zE 66 [(zf94 v),(zf94 w)] [] (.p (.bool z))),((((!bif !b==b then true else !true)&&b&&!bif x != x then true else !y==y)=true)→(((decide (v.1≤5))=true)→ ((((!bif !b==b then true else !true)&&b&&!bif x != x then true else !y==y)&&decide (v.1≤5))=true))),((((!bif !b==b then true else !true)&&b)=true)→(((bif x != x then true else !y==y)=false)→ (((!bif !b==b then true else !true)&&b&&!bif x != x then true else !y==y)=true))),(((!bif !b==b then true else !true)=true)→((b=true)→ (((!bif !b==b then true else !true)&&b)=true))),(((bif !b==b then true else !true)=false)→ ((!bif !b==b then true else !true)=true)),((bif bif !b==b then true else !true then true else bif b then bif bif x != x then true else !y==y then true else bif decide (v.1≤5) then !z else false else false)=false),zE 67 [.p (.seq true 1 n (fun i_1=>[.int .u8 (f i_1)]))] (zf100 p) (.agg [.p (.int .i64 p.1),.ar 2 0 0 p.2.1.1]),(NL p.2.1.1 p.2.1.1),zE 68 [(zf94 p)] (zf100 q) ((zf112 q)),zE 69 [(zf94 p)] (zf100 q) ((zf112 q)),(((!!false==false)=true)→(NT 0 1)),(AG (!!false==false)),(((!!false==false)=true)→ (AN 2)),(((!!false==false)=true)→(NL q.2.1.1 q.2.1.1)),(((!!false==false)=true)→ zE 57 [(zf94 q),(zf94 q)] [] (.p (.bool true))),(((!false==false)=false)→ ((!!false==false)=true)),((bif !false==false then true else !true)=false),(false=false),zE 70 [.p (.seq true 1 n (fun i_1=>[.int .u8 (f i_1)]))] (zf21 s r) (.tup [.agg [.p (.int .i64 s.1),.ar 2 0 0 s.2.1.1],.agg [.p (.int .i64 r.1),.ar 2 1 0 r.2.1.1]]),(NL s.2.1.1 s.2.1.1),(NL r.2.1.1 r.2.1.1),zE 66 [(zf94 s),(zf94 r)] [] (.p (.bool i)),zE 71 [(zf94 s),(zf94 r)] [] (.p (.bool i)),((i==i)=true)] [0,1,2,3,2,4,5,6,7,8,2,3,2,4,5,6,7,9,2,3,10,10,11,11,12,13,12,13,14,11,15,16,17,18,19,20,21,17,18,19,22,23,18,18,18,24,25,26,27,28,24,25,26,29,30,25,25,18,31,18,32,33,32,32,34,34,35,35,36,37,36,38,39,35,32,40,18,41,16,42,43,44,45,2,3,2,4,46,47,2,3,2,4,46,48,2,3,49,49,50,50,51,52,51,52,53,50,54,55,56,57,2,3,2,3,2,2,4,58,4,59,60,2,2,4,58,4,59,61,62]):=by kernel_rfl
theorem con_sameTexts (n:Nat) (f:Nat→ByteArray) (hn:n≤1048576):zE 54 [stLt n f,stLt n f] [] (.p (.bool true)):=by
  refine csZ Tryz.func54 (fun c hc=>?_)
  have lp:∀ m k,k+m=n→zR c 54 zf79 (STt n k f) (Post c [] (.p (.bool true))):=by
    intro m
    induction m with
    | zero =>
      intro k hk
      refine pkZ Tryz.func54 hc (tsC n k f) ?_
      and_intros
      all_goals (first | exact zN | (simp;try omega))
    | succ m ih =>
      intro k hk
      have hlt:decide ((k:Int)<(n:Int))=true:=by simp;omega
      refine pcD hc (tsB n k f) ?_ (ih (k+1) (by omega))
      and_intros
      all_goals (first | exact zN | simp)
  refine pcD hc (tsA n f) ?_ (lp n 0 (by omega))
  and_intros
  all_goals (first | exact zN | simp)
theorem and_fst {A B:Bool} (h:(A&&B)=true):A=true:=by
  rw [Bool.and_eq_true] at h
  exact h.1
theorem and_lst {A B:Bool} (h:(A&&B)=true):B=true:=by
  rw [Bool.and_eq_true] at h
  exact h.2
set_option maxRecDepth 20000 in
theorem con_law_FnEnumerations (v0:Nat×(Nat→Int)) (k0:okS (.sl (.int .u8)) v0):zE 5 [cdA v0.1 v0.2] [] (.p (.bool true)):=by
  obtain ⟨n,f⟩:=v0
  have hbig:=con_big n f
  refine csZ Tryz.func5 (fun c hc=>?_)
  by_cases hn:n≤1048576
  · have hd:decide ((n:Int)>1048576)=false:=decide_eq_false (by omega)
    rw [hd] at hbig
    have hcd:CdOk n f:=⟨hn,fun i hi=>by have:=k0.2 i hi;simpa [okS,imin,imax] using this⟩
    obtain ⟨m,cm⟩:=con_DrawRigid n f hcd
    have g1:=con_RigidGraphs_i m
    have g2:=con_RigidGraphs_s m
    have hG:=rgG_in m
    have hM:=rgG_mr m
    have g3:=con_CountRigid_i m
    have g4:=con_CountRigid_s m
    have t1:=con_Kinds_i m
    have t2:=con_Kinds_s m
    have t3:=con_sameTexts (kdR m).1 (kdR m).2 (by have:=kdR_n m;omega)
    obtain ⟨v,u,hv,hu,cv⟩:=con_DrawRename n f hcd
    obtain ⟨p,hp,cp⟩:=con_DrawCanon n f hcd
    obtain ⟨s,r,hs,hr,cs⟩:=con_DrawIso n f hcd
    generalize rgG m=R at *
    have sv:smS s_Graph v:=sm_graph (by omega)
    have v1:=con_Rename_i v sv u (by omega)
    have v2:=con_Rename_s v sv u (by omega)
    have hw:(rnG v u).2.1.1≤25:=by
      unfold rnG
      split
      · exact hv
      · exact Nat.zero_le _
    have sw:smS s_Graph (rnG v u):=sm_graph (by omega)
    have v3:=con_EqualGraphs_s (rnG v u) (rnG v u) (by omega)
    rw [eqGr_rf] at v3
    have v4:rnB v u=true→zE 62 [graphA (rnG v u),.p (.int .i64 2),.p (.int .i64 3)] [] (.p (.int .i64 ((accI v.1.toNat 2 3 v.2.1.2 v.2.1.1).length:Nat))):=fun h=>by
      have:=con_RankV_i (rn_graph h)
      rw [rn_rank h] at this
      exact this
    have v5:rnB v u=true→zE 63 [graphA v,.p (.int .i64 2),.p (.int .i64 3)] [] (.p (.int .i64 ((accI v.1.toNat 2 3 v.2.1.2 v.2.1.1).length:Nat))):=fun h=>con_RankV_s (rn_nam h).2.1
    have v6:rnB v u=true→zE 64 [graphA (rnG v u)] [] (.p (.bool (glB v.1.toNat v.2.1.1 v.2.1.2))):=fun h=>by
      have:=con_GlobV_i (rn_graph h)
      rw [show (rnG v u).1=v.1 by unfold rnG;rw [if_pos h],show (rnG v u).2.1.1=v.2.1.1 by unfold rnG;rw [if_pos h],rn_glob h] at this
      exact this
    have v7:rnB v u=true→zE 65 [graphA v] [] (.p (.bool (glB v.1.toNat v.2.1.1 v.2.1.2))):=fun h=>con_GlobV_s (rn_nam h).2.1
    have v8:=con_Iso_i v (rnG v u) sv sw
    have d1:(bif bif !rnB v u==rnB v u then true else !true then true else bif rnB v u then bif bif (((accI v.1.toNat 2 3 v.2.1.2 v.2.1.1).length:Nat):Int) != (((accI v.1.toNat 2 3 v.2.1.2 v.2.1.1).length:Nat):Int) then true else !glB v.1.toNat v.2.1.1 v.2.1.2==glB v.1.toNat v.2.1.1 v.2.1.2 then true else bif decide (v.1≤5) then !isB' v (rnG v u) else false else false)=false:=by
      cases hb:rnB v u with
      | false=>simp
      | true =>
        by_cases h5:v.1≤5
        · rw [iso_rn hb h5];simp
        · rw [decide_eq_false h5];simp
    have p1:=con_Canon_i p (sm_graph (by omega))
    have p2:=con_Canon_s p (sm_graph (by omega))
    have hq:(cnG p).2.1.1≤24:=cnG_n p
    have p3:=con_EqualGraphs_s (cnG p) (cnG p) (by omega)
    rw [eqGr_rf] at p3
    have s1:=con_Iso_i s r (sm_graph (by omega)) (sm_graph (by omega))
    have s2:=con_Iso_s s r (sm_graph (by omega)) (sm_graph (by omega))
    have lp:∀ d k,k+d=R.1→zR c 5 zf24 (SEn n f m R.1 R.2 k) (Post c [] (.p (.bool true))):=by
      intro d
      induction d with
      | zero =>
        intro k hk
        have hk0:decide ((k:Int)<(R.1:Int))=false:=decide_eq_false (by omega)
        cases hb:cnQ p with
        | true =>
          rw [hb] at p1 p2
          have p4:=con_Canon_i (cnG p) (sm_graph (by omega))
          obtain ⟨e1,e2⟩:=cn_cn hb
          rw [e1] at p4
          have p5:=con_EqualGraphs_s (cnG (cnG p)) (cnG p) (by have:=cnG_n (cnG p);omega)
          rw [e2] at p5
          refine pkD Tryz.func5 hc (emC n f m R.1 R.2 k v u (rnG v u) (rnB v u) (((accI v.1.toNat 2 3 v.2.1.2 v.2.1.1).length:Nat):Int) (glB v.1.toNat v.2.1.1 v.2.1.2) (isB' v (rnG v u)) p (cnG p) (cnG (cnG p)) s r (isB' s r)) ?_
          and_intros
          all_goals (first | exact zH | (exact hk0) | (exact cv) | (exact v1) | (exact v2) | (intros;exact v3) | (intro h;exact v4 (and_lst h)) | (intro h;exact v4 (and_lst (and_fst h))) | (intro h;exact v5 (and_lst h)) | (intro h;exact v5 (and_lst (and_fst h))) | (intro h;exact v6 (and_lst h)) | (intro h;exact v6 (and_lst (and_fst h))) | (intro h;exact v7 (and_lst h)) | (intro h;exact v7 (and_lst (and_fst h))) | (intros;exact v8) | (exact d1) | (exact cp) | (exact p1) | (exact p2) | (intros;exact p3) | (exact p4) | (intros;exact p5) | (exact cs) | (exact s1) | (exact s2) | (intros;simp [All];done) | (intros;simp_all;done))
        | false =>
          rw [hb] at p1 p2
          refine pkD Tryz.func5 hc (emD n f m R.1 R.2 k v u (rnG v u) (rnB v u) (((accI v.1.toNat 2 3 v.2.1.2 v.2.1.1).length:Nat):Int) (glB v.1.toNat v.2.1.1 v.2.1.2) (isB' v (rnG v u)) p (cnG p) s r (isB' s r)) ?_
          and_intros
          all_goals (first | exact zH | (exact hk0) | (exact cv) | (exact v1) | (exact v2) | (intros;exact v3) | (intro h;exact v4 (and_lst h)) | (intro h;exact v4 (and_lst (and_fst h))) | (intro h;exact v5 (and_lst h)) | (intro h;exact v5 (and_lst (and_fst h))) | (intro h;exact v6 (and_lst h)) | (intro h;exact v6 (and_lst (and_fst h))) | (intro h;exact v7 (and_lst h)) | (intro h;exact v7 (and_lst (and_fst h))) | (intros;exact v8) | (exact d1) | (exact cp) | (exact p1) | (exact p2) | (intros;exact p3) | (exact cs) | (exact s1) | (exact s2) | (intros;simp [All];done) | (intros;simp_all;done))
      | succ d ih =>
        intro k hk
        have hk1:decide ((k:Int)<(R.1:Int))=true:=decide_eq_true (by omega)
        have hk2:=hG.2 k (by omega)
        have q1:=con_EqualGraphs_s (m,R.2 k,()) (m,R.2 k,()) hk2
        rw [eqGr_rf] at q1
        have q2:=con_IsMin_i (m,R.2 k,()) (sm_graph hk2)
        rw [hM k (by omega)] at q2
        refine pcD hc (emB n f m R.1 R.2 k) ?_ (ih (k+1) (by omega))
        and_intros
        all_goals (first | exact zH | (exact hk1) | (exact q1) | (intros;exact q2) | (intros;simp [All];done))
    refine pcD hc (emA n f m (inB m 1 5) R.1 R.2 (crG m) (kdR m).1 (kdR m).2) ?_ (lp R.1 0 (by omega))
    and_intros
    all_goals (first | exact zN | (exact hbig) | (exact cm) | (exact g1) | (exact g2) | (exact g3) | (exact g4) | (intros;exact g3) | (intros;exact g4) | (exact t1) | (exact t2) | (exact t3) | (intros;simp [All];done) | (simp;done))
  · have hd:decide ((n:Int)>1048576)=true:=decide_eq_true (by omega)
    rw [hd] at hbig
    refine pkZ Tryz.func5 hc (emZ n f) ?_
    and_intros
    all_goals (first | exact zN | (exact hbig))
end Go.Proofs.YtkepkjbofchckaaGreat.Mach
