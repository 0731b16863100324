/- What the law Ck needs, part 4 of 6: the abstract machine and the contracts of the functions. Conditions: as each theorem says. -/
import Derived.WalkKit
import Derived.Test.YtkkjoghiigiokaaGreatCkP3
namespace Go.Proofs.YtkkjoghiigiokaaGreat.Mach
open Go
set_option linter.unusedVariables false
set_option linter.unusedSimpArgs false
def ssA2 (n:Nat) (C:Nat→T_IntS):AV:=.p (.seq true 1 n (fun i=>[.seq true 1 (C i).1 (fun s=>[.int .i64 ((C i).2 s)])]))
def ooOb (F m:Nat) (C:Nat→T_IntS):Ob:=⟨false,1,m,fun i=>[.ar 1 ⟨F,some i⟩ 0 (C i).1]⟩
def ffOb (m:Nat) (C:Nat→T_IntS):Ob:=⟨true,0,m,fun i=>[.p (.seq false 1 (C i).1 (fun s=>[.int .i64 ((C i).2 s)]))]⟩
def CLs (m:Nat) (C:Nat→T_IntS) (i:Nat):St:=⟨[.p .any,.p .any,.p .any,.ar 1 0 0 i,.p .any,.p .any,.p .any,ssA2 m C,.p (.int .i64 m),.p (.int .i64 i)]++List.replicate 10 anyA,[(0,ooOb 1 i C),(1,ffOb i C)],2⟩
def cM (n:Nat) (M:Nat→Nat→Int) (i:Nat):T_IntS:=(n,M i)
def mH (n m:Nat) (M:Nat→Nat→Int) (r:Nat) (p:Nat→Int):Hp:=[(0,ooOb 1 m (cM n M)),(1,ffOb m (cM n M)),(2,iOb r p)]
def R0 (n m:Nat) (M:Nat→Nat→Int) (r:Nat) (p:Nat→Int) (d:Int) (c:Nat):St :=
  ⟨[.p .any,.p (.int .i64 n),.p .any,.p .any,.p .any,.p .any,.p .any,.ar 1 0 0 m,.ar 1 2 0 r,.p (.int .i64 d),.p (.int .i64 c)]++List.replicate 121 anyA,mH n m M r p,3⟩
def R1 (n m:Nat) (M:Nat→Nat→Int) (r:Nat) (p:Nat→Int) (d:Int) (c i:Nat):St :=
  ⟨[.p .any,.p (.int .i64 n),.p .any,.p .any,.p .any,.p .any,.p .any,.ar 1 0 0 m,.ar 1 2 0 r,.p (.int .i64 d),.p (.int .i64 c),.p (.int .i64 r),.p (.int .i64 i)]++List.replicate 119 anyA,mH n m M r p,3⟩
def R2 (n m:Nat) (M:Nat→Nat→Int) (r:Nat) (p:Nat→Int) (d:Int) (c:Nat) (x:Int) (i:Nat):St :=
  ⟨[.p .any,.p (.int .i64 n),.p .any,.p .any,.p .any,.p .any,.p .any,.ar 1 0 0 m,.ar 1 2 0 r,.p (.int .i64 d),.p (.int .i64 c),.p (.int .i64 r),.p .any,.p (.int .i64 x)]++List.replicate 63 anyA++[.p (.int .i64 m),.p (.int .i64 i)]++List.replicate 53 anyA,mH n m M r p,3⟩
def R3 (n m:Nat) (M:Nat→Nat→Int) (r:Nat) (p:Nat→Int) (d:Int) (c:Nat) (x:Int) (i:Nat) (f:Int) (k:Nat):St :=
  ⟨[.p .any,.p (.int .i64 n),.p .any,.p .any,.p .any,.p .any,.p .any,.ar 1 0 0 m,.ar 1 2 0 r,.p (.int .i64 d),.p (.int .i64 c),.p (.int .i64 r),.p .any,.p (.int .i64 x),.p (.int .i64 i),.p (.int .i64 f)]++List.replicate 61 anyA++[.p (.int .i64 m),.p (.int .i64 i)]++List.replicate 12 anyA++[.p (.int .i64 n),.p (.int .i64 k)]++List.replicate 39 anyA,mH n m M r p,3⟩
def sI (r q:Nat):Nat→Nat:=Had.sw (fun i=>i) r q
def WoS (n:Nat) (a row:Nat→Int) (x y:Int) (i:Nat) (h:Nat→Int):St :=
  ⟨[inD n a,inD n row,.p .any,.p .any,.p .any,.p .any,.p .any,.p .any,.p (.int .i64 x),.p (.int .i64 y),.ar 1 0 0 i,.p (.int .i64 i)]++List.replicate 46 anyA,[(0,iOb i h)],1⟩
def Q0 (m:Nat) (C:Nat→T_IntS) (i:Nat) (D:Nat→T_IntS):St:=⟨[ssA2 m C,.p .any,.p .any,.p .any,.ar 1 0 0 i,.p (.int .i64 i)]++List.replicate 109 anyA,[(0,ooOb 1 i D),(1,ffOb i D)],2⟩
def Q1 (n m:Nat) (M:Nat→Nat→Int) (r:Nat) (p:Nat→Int) (c:Nat):St :=
  ⟨[.p .any,.p .any,.p .any,.p .any,.ar 1 0 0 m,.p .any,.ar 1 2 0 r,.p (.int .i64 c)]++List.replicate 107 anyA,mH n m M r p,3⟩
def Q2 (n m:Nat) (M:Nat→Nat→Int) (r:Nat) (p:Nat→Int) (c i:Nat):St :=
  ⟨[.p .any,.p .any,.p .any,.p .any,.ar 1 0 0 m,.p .any,.ar 1 2 0 r,.p (.int .i64 c),.p (.int .i64 i)]++List.replicate 106 anyA,mH n m M r p,3⟩
def Q3 (n m:Nat) (M:Nat→Nat→Int) (r:Nat) (p:Nat→Int) (c i:Nat):St :=
  ⟨[.p .any,.p .any,.p .any,.p .any,.ar 1 0 0 m,.p .any,.ar 1 2 0 r,.p (.int .i64 c),.p .any,.ar 1 ⟨1,some r⟩ 0 n,.p (.int .i64 i)]++List.replicate 104 anyA,mH n m M r p,3⟩
theorem cpz (m:Nat) (C:Nat→T_IntS) :
    pieceOb Tryz.prog 0 [rg 1,rg 2,rg 3,.head] [.code (bodyOf Tryz.f355)] (start Tryz.f355 [] 0 [ssA2 m C]) [32] 1 (CLs m C 0) =
    some (zf63,[(AN 0),(AN 0),(AN m),(AP m (fun i=>[.seq true 1 ((C i).1) (fun i_1=>[.int .i64 ((C i).2 i_1)])])),(AI ((↑m:Int))),((0:Int)=(↑0:Int)),(AN 1),(NL 0 0),(∀ i:Nat,(((i:Nat)<0)→(All []∧(([.p (.nil)]:List AV)=[.ar 1 ⟨1,some i⟩ 0 ((C i).1)])))),(AN 0)]):=by kernel_rfl
theorem cpt (m:Nat) (C:Nat→T_IntS) (i:Nat) :
    pieceOb Tryz.prog 0 [rg 1,.dec true,rg 3,rm [(2,oc [(0,iOb (C i).1 (C i).2)] (.ar 1 0 0 (C i).1))] 3,rg 2,.head] zf63 (CLs m C i) [258,.ins 1 i 194] 1 (CLs m C (i+1)) =
    some (zf63,[((decide ((↑i:Int)<(↑m:Int)))=true),(IL 0 (↑i:Int)),(IT (↑i:Int) (↑m:Int)),Con Tryz.prog 165 0 [] [.p (.seq true 1 ((C i).1) (fun i_1=>[.int .i64 ((C i).2 i_1)]))] [(0,⟨false,1,((C i).1),(fun i_1=>[.p (.int .i64 ((C i).2 i_1))])⟩)] (.ar 1 0 0 ((C i).1)),(NL 1 1),(NL i i),(NL ((i+1)*24) 140737488355328),(NL (i+1) 9223372036854775807),(ZLo ((↑i:Int)+1)),(ZHi ((↑i:Int)+1)),(AN 0),(AN ((i+1))),(AN m),(AP m (fun i_1=>[.seq true 1 ((C i_1).1) (fun i_2=>[.int .i64 ((C i_1).2 i_2)])])),(AI ((↑m:Int))),((((↑i:Int)+1):Int)=(↑(i+1):Int)),(AN 1),(NL (i+1) (i+1)),(CV [(258,⟨false,1,(i+1),(fun i_2=>(if (i_2<i) then [.ar 1 ⟨1,some i_2⟩ 0 ((C i_2).1)] else [.ar 1 194 0 ((C i).1)]))⟩),(226,⟨false,1,1,(fun i_2=>[.ar 1 194 0 ((C i).1)])⟩),(194,⟨false,1,((C i).1),(fun i_2=>[.p (.int .i64 ((C i).2 i_2))])⟩),(1,⟨true,0,i,(fun i_2=>[.p (.seq false 1 ((C i_2).1) (fun i_3=>[.int .i64 ((C i_2).2 i_3)]))])⟩)] [258,.ins 1 i 194] 1 (i+1) (fun i_1=>if (i_1<i) then [.ar 1 ⟨1,some i_1⟩ 0 ((C i_1).1)] else [.ar 1 194 0 ((C i).1)]) (fun i_1=>[.ar 1 ⟨1,some i_1⟩ 0 ((C i_1).1)])),(∀ i_1:Nat,(((i_1:Nat)<(i+1))→(((i_1:Nat)≠i)→(((i_1:Nat)<i)∧All [(AN 1),((((C i_1).1):Nat)≤((C i_1).1)),(AP (((C i_1).1)) (fun r=>[.int .i64 ((C i_1).2 r)]))])))),(((i:Nat)<(i+1))→ All [(AN 1),((((C i).1):Nat)≤((C i).1)),(AP (((C i).1)) (fun r=>[.int .i64 ((C i).2 r)]))])]):=by kernel_rfl
theorem cpe (m:Nat) (C:Nat→T_IntS) (i:Nat) :
    pathOb Tryz.prog Tryz.f355 0 [rg 1,.dec false,rg 2] zf63 (CLs m C i) [0,1] 1 [(0,ooOb 1 i C),(1,ffOb i C)] (.ar 1 0 0 i) =
    some [((decide ((↑i:Int)<(↑m:Int)))=false),(AN 0),(AN i),(AN 1),(NL i i),(AA i (fun i_1=>[.ar 1 ⟨1,some i_1⟩ 0 ((C i_1).1)])),(NL i i),(∀ i_1:Nat,(((i_1:Nat)<i)→All [(AN 1),((((C i_1).1):Nat)≤((C i_1).1)),(AP (((C i_1).1)) (fun r=>[.int .i64 ((C i_1).2 r)]))])),(AE i),(∀ i_1:Nat,(((i_1:Nat)<i)→All [(false=false),(AE (((C i_1).1)))]))]:=by kernel_rfl
theorem rdz (n m:Nat) (M:Nat→Nat→Int) :
    pieceOb Tryz.prog 0 [rg 3,rm [(1,oc [(0,ooOb 1 m (cM n M)),(1,ffOb m (cM n M))] (.ar 1 0 0 m))] 1,rg 2,rg 1,rg 1,.head] [.code (bodyOf Tryz.f317)] (start Tryz.f317 [] 0 [ssA2 m (cM n M),.p (.int .i64 n)]) [128,129,192] 1 (R0 n m M 0 (fun _=>0) 1 0) =
    some (zf37,[Con Tryz.prog 355 0 [] [.p (.seq true 1 m (fun i=>[.seq true 1 n (fun i_1=>[.int .i64 ((cM n M i).2 i_1)])]))] [(0,⟨false,1,m,(fun i=>[.ar 1 ⟨1,some i⟩ 0 n])⟩),(1,⟨true,0,m,(fun i=>[.p (.seq false 1 n (fun i_1=>[.int .i64 ((cM n M i).2 i_1)]))])⟩)] (.ar 1 0 0 m),(AI ((↑n:Int))),(AN 0),(AN m),(AN 0),(AN 0),(AI 1),((0:Int)=(↑0:Int)),(AN 1),(NL m m),(AA m (fun i=>[.ar 1 ⟨1,some i⟩ 0 n])),(NL m m),(∀ i:Nat,(((i:Nat)<m)→All [(AN 1),((n:Nat)≤n),(AP n (fun r=>[.int .i64 ((cM n M i).2 r)]))])),(AN 1),(NL 0 0),(AA 0 (fun i=>[.p (.int .i64 0)]))]):=by kernel_rfl
theorem rde (n m:Nat) (M:Nat→Nat→Int) (r:Nat) (p:Nat→Int) (d:Int) (c:Nat) :
    pathOb Tryz.prog Tryz.f317 0 [rg 10,.dec false,rg 6] zf37 (R0 n m M r p d c) [0,1,2] 1 (mH n m M r p) (.tup [.ar 1 0 0 m,.ar 1 2 0 r,.p (.int .i64 d)]) =
    some [(AG (decide ((↑c:Int)<(↑n:Int)))),(AG (decide ((↑c:Int)<(↑n:Int)))),(AG (decide ((↑c:Int)<(↑n:Int)))),(AG (decide ((↑c:Int)<(↑n:Int)))),(AG (decide ((↑c:Int)<(↑n:Int)))),((bif decide ((↑c:Int)<(↑n:Int)) then decide ((↑r:Int)<(↑m:Int)) else false)=false),(AN 0),(AN m),(AN 0),(AN r),(AI d),(AN 1),(NL m m),(AA m (fun i=>[.ar 1 ⟨1,some i⟩ 0 n])),(NL m m),(∀ i:Nat,(((i:Nat)<m)→All [(AN 1),((n:Nat)≤n),(AP n (fun r_1=>[.int .i64 ((cM n M i).2 r_1)]))])),(AN 1),(NL r r),(AA r (fun i=>[.p (.int .i64 (p i))])),(AE m),(∀ i:Nat,(((i:Nat)<m)→All [(false=false),(AE n)])),(AE r)]:=by kernel_rfl
theorem rdb (n m:Nat) (M:Nat→Nat→Int) (r:Nat) (p:Nat→Int) (d:Int) (c:Nat) :
    pieceOb Tryz.prog 0 [rg 10,.dec true,rg 3,rg 2,.head] zf37 (R0 n m M r p d c) [0,1,2] 1 (R1 n m M r p d c r) =
    some (zf9,[(AG (decide ((↑c:Int)<(↑n:Int)))),(AG (decide ((↑c:Int)<(↑n:Int)))),(AG (decide ((↑c:Int)<(↑n:Int)))),(AG (decide ((↑c:Int)<(↑n:Int)))),(AG (decide ((↑c:Int)<(↑n:Int)))),((bif decide ((↑c:Int)<(↑n:Int)) then decide ((↑r:Int)<(↑m:Int)) else false)=true),(AI ((↑n:Int))),(AN 0),(AN m),(AN 0),(AN r),(AI d),(AI ((↑c:Int))),(AI ((↑r:Int))),(AI ((↑r:Int))),(AN 1),(NL m m),(AA m (fun i=>[.ar 1 ⟨1,some i⟩ 0 n])),(NL m m),(∀ i:Nat,(((i:Nat)<m)→All [(AN 1),((n:Nat)≤n),(AP n (fun r_1=>[.int .i64 ((cM n M i).2 r_1)]))])),(AN 1),(NL r r),(AA r (fun i=>[.p (.int .i64 (p i))]))]):=by kernel_rfl
theorem rds (n m:Nat) (M:Nat→Nat→Int) (r:Nat) (p:Nat→Int) (d:Int) (c i:Nat) :
    pieceOb Tryz.prog 0 [rg 14,.dec true,rg 3,.head] zf9 (R1 n m M r p d c i) [0,1,2] 1 (R1 n m M r p d c (i+1)) =
    some (zf9,[(AG (decide ((↑i:Int)<(↑m:Int)))),(AG (decide ((↑i:Int)<(↑m:Int)))),(((decide ((↑i:Int)<(↑m:Int)))=true)→(IL 0 (↑i:Int))),(((decide ((↑i:Int)<(↑m:Int)))=true)→(IT (↑i:Int) (↑m:Int))),(AG (decide ((↑i:Int)<(↑m:Int)))),(((decide ((↑i:Int)<(↑m:Int)))=true)→(NT i m)),(AG (decide ((↑i:Int)<(↑m:Int)))),(AG (decide ((↑i:Int)<(↑m:Int)))),(((decide ((↑i:Int)<(↑m:Int)))=true)→(IL 0 (↑c:Int))),(((decide ((↑i:Int)<(↑m:Int)))=true)→(IT (↑c:Int) (↑n:Int))),(AG (decide ((↑i:Int)<(↑m:Int)))),(((decide ((↑i:Int)<(↑m:Int)))=true)→(NT i m)),(((decide ((↑i:Int)<(↑m:Int)))=true)→(NT c n)),(AG (decide ((↑i:Int)<(↑m:Int)))),(AG (decide ((↑i:Int)<(↑m:Int)))),((bif decide ((↑i:Int)<(↑m:Int)) then (cM n M i).2 c==0 else false)=true),(ZLo ((↑i:Int)+1)),(ZHi ((↑i:Int)+1)),(AI ((↑n:Int))),(AN 0),(AN m),(AN 0),(AN r),(AI d),(AI ((↑c:Int))),(AI ((↑r:Int))),((((↑i:Int)+1):Int)=(↑(i+1):Int)),(AN 1),(NL m m),(AA m (fun i_1=>[.ar 1 ⟨1,some i_1⟩ 0 n])),(NL m m),(∀ i_1:Nat,(((i_1:Nat)<m)→All [(AN 1),((n:Nat)≤n),(AP n (fun r_1=>[.int .i64 ((cM n M i_1).2 r_1)]))])),(AN 1),(NL r r),(AA r (fun i_1=>[.p (.int .i64 (p i_1))]))]):=by kernel_rfl
theorem rdn (n m:Nat) (M:Nat→Nat→Int) (r:Nat) (p:Nat→Int) (d:Int) (c i:Nat) :
    pieceOb Tryz.prog 0 [rg 14,.dec false,rg 4,.dec true,rg 3,.head] zf9 (R1 n m M r p d c i) [0,1,2] 1 (R0 n m M r p d (c+1)) =
    some (zf37,[(AG (decide ((↑i:Int)<(↑m:Int)))),(AG (decide ((↑i:Int)<(↑m:Int)))),(((decide ((↑i:Int)<(↑m:Int)))=true)→(IL 0 (↑i:Int))),(((decide ((↑i:Int)<(↑m:Int)))=true)→(IT (↑i:Int) (↑m:Int))),(AG (decide ((↑i:Int)<(↑m:Int)))),(((decide ((↑i:Int)<(↑m:Int)))=true)→(NT i m)),(AG (decide ((↑i:Int)<(↑m:Int)))),(AG (decide ((↑i:Int)<(↑m:Int)))),(((decide ((↑i:Int)<(↑m:Int)))=true)→(IL 0 (↑c:Int))),(((decide ((↑i:Int)<(↑m:Int)))=true)→(IT (↑c:Int) (↑n:Int))),(AG (decide ((↑i:Int)<(↑m:Int)))),(((decide ((↑i:Int)<(↑m:Int)))=true)→(NT i m)),(((decide ((↑i:Int)<(↑m:Int)))=true)→(NT c n)),(AG (decide ((↑i:Int)<(↑m:Int)))),(AG (decide ((↑i:Int)<(↑m:Int)))),((bif decide ((↑i:Int)<(↑m:Int)) then (cM n M i).2 c==0 else false)=false),(((↑i:Int)==(↑m:Int))=true),(ZLo ((↑c:Int)+1)),(ZHi ((↑c:Int)+1)),(AI ((↑n:Int))),(AN 0),(AN m),(AN 0),(AN r),(AI d),((((↑c:Int)+1):Int)=(↑(c+1):Int)),(AN 1),(NL m m),(AA m (fun i_1=>[.ar 1 ⟨1,some i_1⟩ 0 n])),(NL m m),(∀ i_1:Nat,(((i_1:Nat)<m)→All [(AN 1),((n:Nat)≤n),(AP n (fun r_1=>[.int .i64 ((cM n M i_1).2 r_1)]))])),(AN 1),(NL r r),(AA r (fun i_1=>[.p (.int .i64 (p i_1))]))]):=by kernel_rfl
theorem rdp (n m:Nat) (M:Nat→Nat→Int) (r:Nat) (p:Nat→Int) (d:Int) (c q:Nat) :
    pieceOb Tryz.prog 0 [rg 14,.dec false,rg 4,.dec false,rg 16,.head] zf9 (R1 n m M r p d c q) [0,.perm 1 (sI r q) (sI r q),2] 1 (R1 n m (Had.sw M r q) r p d c q) =
    some (zf12,[(AG (decide ((↑q:Int)<(↑m:Int)))),(AG (decide ((↑q:Int)<(↑m:Int)))),(((decide ((↑q:Int)<(↑m:Int)))=true)→(IL 0 (↑q:Int))),(((decide ((↑q:Int)<(↑m:Int)))=true)→(IT (↑q:Int) (↑m:Int))),(AG (decide ((↑q:Int)<(↑m:Int)))),(((decide ((↑q:Int)<(↑m:Int)))=true)→(NT q m)),(AG (decide ((↑q:Int)<(↑m:Int)))),(AG (decide ((↑q:Int)<(↑m:Int)))),(((decide ((↑q:Int)<(↑m:Int)))=true)→(IL 0 (↑c:Int))),(((decide ((↑q:Int)<(↑m:Int)))=true)→(IT (↑c:Int) (↑n:Int))),(AG (decide ((↑q:Int)<(↑m:Int)))),(((decide ((↑q:Int)<(↑m:Int)))=true)→(NT q m)),(((decide ((↑q:Int)<(↑m:Int)))=true)→(NT c n)),(AG (decide ((↑q:Int)<(↑m:Int)))),(AG (decide ((↑q:Int)<(↑m:Int)))),((bif decide ((↑q:Int)<(↑m:Int)) then (cM n M q).2 c==0 else false)=false),(((↑q:Int)==(↑m:Int))=false),(IL 0 (↑q:Int)),(IT (↑q:Int) (↑m:Int)),(NT q m),(IL 0 (↑r:Int)),(IT (↑r:Int) (↑m:Int)),(NT r m),(IL 0 (↑r:Int)),(IT (↑r:Int) (↑m:Int)),(NT r m),((false=true)→ ((m:Nat)=1)),(IL 0 (↑q:Int)),(IT (↑q:Int) (↑m:Int)),(NT q m),((false=true)→ ((m:Nat)=1)),(AI ((↑n:Int))),(AN 0),(AN m),(AN 0),(AN r),(AI d),(AI ((↑c:Int))),(AI ((↑r:Int))),(AI ((↑q:Int))),(AN 1),(NL m m),(∀ i:Nat,(((i:Nat)<m)→(All (cvtL false [(0,⟨false,1,m,(fun i_1=>(if (i_1=q) then [.ar 1 ⟨1,some r⟩ 0 n] else (if (i_1=r) then [.ar 1 ⟨1,some q⟩ 0 n] else [.ar 1 ⟨1,some i_1⟩ 0 n])))⟩),(1,⟨true,0,m,(fun i_1=>[.p (.seq false 1 n (fun i_2=>[.int .i64 ((cM n M i_1).2 i_2)]))])⟩),(2,⟨false,1,r,(fun i_1=>[.p (.int .i64 (p i_1))])⟩)] [0,.perm 1 (sI r q) (sI r q),2] 1 (if (i=q) then [.ar 1 ⟨1,some r⟩ 0 n] else (if (i=r) then [.ar 1 ⟨1,some q⟩ 0 n] else [.ar 1 ⟨1,some i⟩ 0 n]))).2∧(((cvtL false [(0,⟨false,1,m,(fun i_1=>(if (i_1=q) then [.ar 1 ⟨1,some r⟩ 0 n] else (if (i_1=r) then [.ar 1 ⟨1,some q⟩ 0 n] else [.ar 1 ⟨1,some i_1⟩ 0 n])))⟩),(1,⟨true,0,m,(fun i_1=>[.p (.seq false 1 n (fun i_2=>[.int .i64 ((cM n M i_1).2 i_2)]))])⟩),(2,⟨false,1,r,(fun i_1=>[.p (.int .i64 (p i_1))])⟩)] [0,.perm 1 (sI r q) (sI r q),2] 1 (if (i=q) then [.ar 1 ⟨1,some r⟩ 0 n] else (if (i=r) then [.ar 1 ⟨1,some q⟩ 0 n] else [.ar 1 ⟨1,some i⟩ 0 n]))).1:List AV)=[.ar 1 ⟨1,some i⟩ 0 n])))),(∀ i:Nat,(((i:Nat)<m)→((((sI r q i):Nat)<m)∧((((sI r q (sI r q i)):Nat)=i)∧All [(AN 1),((n:Nat)≤n),(∀ r_1:Nat,(((r_1:Nat)<n)→(([.int .i64 ((cM n M (sI r q i)).2 r_1)]:List PV)=[.int .i64 ((cM n (Had.sw M r q) i).2 r_1)])))])))),(AN 1),(NL r r),(AA r (fun i=>[.p (.int .i64 (p i))]))]):=by kernel_rfl
theorem rdq (n m:Nat) (M:Nat→Nat→Int) (r:Nat) (p:Nat→Int) (d:Int) (c q:Nat) :
    pieceOb Tryz.prog 0 [rg 8,rg 3,.head] zf12 (R1 n m M r p d c q) [0,1,2] 1 (R2 n m M r p d c (M r c) 0) =
    some (zf6,[(IL 0 (↑r:Int)),(IT (↑r:Int) (↑m:Int)),(NT r m),(IL 0 (↑c:Int)),(IT (↑c:Int) (↑n:Int)),(NT r m),(NT c n),(AI ((↑n:Int))),(AN 0),(AN m),(AN 0),(AN r),(AI d),(AI ((↑c:Int))),(AI ((↑r:Int))),((((cM n M r).2 c):Int)=(M r c)),(AI ((↑m:Int))),((0:Int)=(↑0:Int)),(AN 1),(NL m m),(AA m (fun i=>[.ar 1 ⟨1,some i⟩ 0 n])),(NL m m),(∀ i:Nat,(((i:Nat)<m)→All [(AN 1),((n:Nat)≤n),(AP n (fun r_1=>[.int .i64 ((cM n M i).2 r_1)]))])),(AN 1),(NL r r),(AA r (fun i=>[.p (.int .i64 (p i))]))]):=by kernel_rfl
theorem rdr (n m:Nat) (M M':Nat→Nat→Int) (r:Nat) (p:Nat→Int) (d:Int) (c:Nat) (x:Int) (i:Nat) :
    pieceOb Tryz.prog 0 [rg 1,.dec true,rg 2,rg 3,.dec true,rg 2,.head] zf6 (R2 n m M r p d c x i) [0,1,2] 1 (R2 n m M' r p d c x (i+1)) =
    some (zf6,[((decide ((↑i:Int)<(↑m:Int)))=true),(((↑i:Int)==(↑r:Int))=true),(ZLo ((↑i:Int)+1)),(ZHi ((↑i:Int)+1)),(AI ((↑n:Int))),(AN 0),(AN m),(AN 0),(AN r),(AI d),(AI ((↑c:Int))),(AI ((↑r:Int))),(AI x),(AI ((↑m:Int))),((((↑i:Int)+1):Int)=(↑(i+1):Int)),(AN 1),(NL m m),(AA m (fun i_1=>[.ar 1 ⟨1,some i_1⟩ 0 n])),(NL m m),(∀ i_1:Nat,(((i_1:Nat)<m)→All [(AN 1),((n:Nat)≤n),(∀ r_1:Nat,(((r_1:Nat)<n)→(([.int .i64 ((cM n M i_1).2 r_1)]:List PV)=[.int .i64 ((cM n M' i_1).2 r_1)])))])),(AN 1),(NL r r),(AA r (fun i_1=>[.p (.int .i64 (p i_1))]))]):=by kernel_rfl
theorem rdi (n m:Nat) (M:Nat→Nat→Int) (r:Nat) (p:Nat→Int) (d:Int) (c:Nat) (x:Int) (i:Nat) :
    pieceOb Tryz.prog 0 [rg 1,.dec true,rg 2,rg 3,.dec false,rg 8,rg 2,.head] zf6 (R2 n m M r p d c x i) [0,1,2] 1 (R3 n m M r p d c x i (M i c) 0) =
    some (zf4,[((decide ((↑i:Int)<(↑m:Int)))=true),(((↑i:Int)==(↑r:Int))=false),(IL 0 (↑i:Int)),(IT (↑i:Int) (↑m:Int)),(NT i m),(IL 0 (↑c:Int)),(IT (↑c:Int) (↑n:Int)),(NT i m),(NT c n),(AI ((↑n:Int))),(AN 0),(AN m),(AN 0),(AN r),(AI d),(AI ((↑c:Int))),(AI ((↑r:Int))),(AI x),(AI ((↑i:Int))),((((cM n M i).2 c):Int)=(M i c)),(AI ((↑m:Int))),(AI ((↑i:Int))),(AI ((↑n:Int))),((0:Int)=(↑0:Int)),(AN 1),(NL m m),(AA m (fun i_1=>[.ar 1 ⟨1,some i_1⟩ 0 n])),(NL m m),(∀ i_1:Nat,(((i_1:Nat)<m)→All [(AN 1),((n:Nat)≤n),(AP n (fun r_1=>[.int .i64 ((cM n M i_1).2 r_1)]))])),(AN 1),(NL r r),(AA r (fun i_1=>[.p (.int .i64 (p i_1))]))]):=by kernel_rfl
theorem rdk (n m:Nat) (M M':Nat→Nat→Int) (r:Nat) (p:Nat→Int) (d:Int) (c:Nat) (x:Int) (i:Nat) (f:Int) (k:Nat) :
    pieceOb Tryz.prog 0 [rg 1,.dec true,rg 2,rm [(13,oF),(8,oF),(0,oF),(1,oF)] 2,rg 2,.head] zf4 (R3 n m M r p d c x i f k) [0,1,2] 1 (R3 n m M' r p d c x i f (k+1)) =
    some (zf4,[((decide ((↑k:Int)<(↑n:Int)))=true),(IL 0 (↑i:Int)),(IT (↑i:Int) (↑m:Int)),(NT i m),(IL 0 (↑i:Int)),(IT (↑i:Int) (↑m:Int)),(NT i m),(IL 0 (↑k:Int)),(IT (↑k:Int) (↑n:Int)),(NT i m),(NT k n),(IL 0 (↑r:Int)),(IT (↑r:Int) (↑m:Int)),(NT r m),(IL 0 (↑k:Int)),(IT (↑k:Int) (↑n:Int)),(NT r m),(NT k n),((d:Int)≠0),(IL 0 (↑k:Int)),(IT (↑k:Int) (↑n:Int)),(NT i m),(NT k n),((false=true)→ ((n:Nat)=1)),(ZLo ((↑k:Int)+1)),(ZHi ((↑k:Int)+1)),(AI ((↑n:Int))),(AN 0),(AN m),(AN 0),(AN r),(AI d),(AI ((↑c:Int))),(AI ((↑r:Int))),(AI x),(AI ((↑i:Int))),(AI f),(AI ((↑m:Int))),(AI ((↑i:Int))),(AI ((↑n:Int))),((((↑k:Int)+1):Int)=(↑(k+1):Int)),(AN 1),(NL m m),(AA m (fun i_1=>[.ar 1 ⟨1,some i_1⟩ 0 n])),(NL m m),(∀ i_1:Nat,(((i_1:Nat)<m)→All (famE (if (i_1=i) then [.p (.seq false 1 n (fun i_2=>[(toP (List.getD ((if (i_2=k) then [.p (.int .i64 (IntKind.i64.wrap ((IntKind.i64.wrap (IntKind.i64.wrap (x*(cM n M i).2 k) - IntKind.i64.wrap (f*(cM n M r).2 k))).tdiv d)))] else [.p (.int .i64 ((cM n M i).2 i_2))]):List AV) 0 (.p .any)))]))] else [.p (.seq false 1 n (fun i_2=>[.int .i64 ((cM n M i_1).2 i_2)]))]) [.p (.seq false 1 n (fun i_2=>[.int .i64 ((cM n M' i_1).2 i_2)]))]))),(AN 1),(NL r r),(AA r (fun i_1=>[.p (.int .i64 (p i_1))]))]):=by kernel_rfl
theorem rdx (n m:Nat) (M M':Nat→Nat→Int) (r:Nat) (p:Nat→Int) (d:Int) (c:Nat) (x:Int) (i:Nat) (f:Int) (k:Nat) :
    pieceOb Tryz.prog 0 [rg 1,.dec false,rg 2,.head] zf4 (R3 n m M r p d c x i f k) [0,1,2] 1 (R2 n m M' r p d c x (i+1)) =
    some (zf6,[((decide ((↑k:Int)<(↑n:Int)))=false),(ZLo ((↑i:Int)+1)),(ZHi ((↑i:Int)+1)),(AI ((↑n:Int))),(AN 0),(AN m),(AN 0),(AN r),(AI d),(AI ((↑c:Int))),(AI ((↑r:Int))),(AI x),(AI ((↑m:Int))),((((↑i:Int)+1):Int)=(↑(i+1):Int)),(AN 1),(NL m m),(AA m (fun i_1=>[.ar 1 ⟨1,some i_1⟩ 0 n])),(NL m m),(∀ i_1:Nat,(((i_1:Nat)<m)→All [(AN 1),((n:Nat)≤n),(∀ r_1:Nat,(((r_1:Nat)<n)→(([.int .i64 ((cM n M i_1).2 r_1)]:List PV)=[.int .i64 ((cM n M' i_1).2 r_1)])))])),(AN 1),(NL r r),(AA r (fun i_1=>[.p (.int .i64 (p i_1))]))]):=by kernel_rfl
theorem rdy (n m:Nat) (M M':Nat→Nat→Int) (r:Nat) (p p':Nat→Int) (d:Int) (c:Nat) (x:Int) (i:Nat) :
    pieceOb Tryz.prog 0 [rg 1,.dec false,rg 5,rg 2,rg 3,.head] zf6 (R2 n m M r p d c x i) [0,1,131] 1 (R0 n m M' (r+1) p' x (c+1)) =
    some (zf37,[((decide ((↑i:Int)<(↑m:Int)))=false),(NL 1 1),(NL r r),(NL ((r+1)*8) 140737488355328),(NL (r+1) 9223372036854775807),(ZLo ((↑c:Int)+1)),(ZHi ((↑c:Int)+1)),(AI ((↑n:Int))),(AN 0),(AN m),(AN 0),(AN ((r+1))),(AI x),((((↑c:Int)+1):Int)=(↑(c+1):Int)),(AN 1),(NL m m),(AA m (fun i_1=>[.ar 1 ⟨1,some i_1⟩ 0 n])),(NL m m),(∀ i_1:Nat,(((i_1:Nat)<m)→All [(AN 1),((n:Nat)≤n),(∀ r_1:Nat,(((r_1:Nat)<n)→(([.int .i64 ((cM n M i_1).2 r_1)]:List PV)=[.int .i64 ((cM n M' i_1).2 r_1)])))])),(AN 1),(NL (r+1) (r+1)),(∀ i_1:Nat,(((i_1:Nat)<(r+1))→(All (cvtL false [(131,⟨false,1,(r+1),(fun i_2=>(if (i_2<r) then [.p (.int .i64 (p i_2))] else [.p (.int .i64 (↑c:Int))]))⟩),(99,⟨false,1,1,(fun i_2=>[.p (.int .i64 (↑c:Int))])⟩),(0,⟨false,1,m,(fun i_2=>[.ar 1 ⟨1,some i_2⟩ 0 n])⟩),(1,⟨true,0,m,(fun i_2=>[.p (.seq false 1 n (fun i_3=>[.int .i64 ((cM n M i_2).2 i_3)]))])⟩)] [0,1,131] 1 (if (i_1<r) then [.p (.int .i64 (p i_1))] else [.p (.int .i64 (↑c:Int))])).2∧(((cvtL false [(131,⟨false,1,(r+1),(fun i_2=>(if (i_2<r) then [.p (.int .i64 (p i_2))] else [.p (.int .i64 (↑c:Int))]))⟩),(99,⟨false,1,1,(fun i_2=>[.p (.int .i64 (↑c:Int))])⟩),(0,⟨false,1,m,(fun i_2=>[.ar 1 ⟨1,some i_2⟩ 0 n])⟩),(1,⟨true,0,m,(fun i_2=>[.p (.seq false 1 n (fun i_3=>[.int .i64 ((cM n M i_2).2 i_3)]))])⟩)] [0,1,131] 1 (if (i_1<r) then [.p (.int .i64 (p i_1))] else [.p (.int .i64 (↑c:Int))])).1:List AV)=[.p (.int .i64 (p' i_1))]))))]):=by kernel_rfl
theorem wxz (n j:Nat) (a row:Nat→Int) (g x y:Int) (h:Nat→Int) :
    pieceOb Tryz.prog 0 [rg 1,rm [(8,oc [] (.p (.int .i64 g)))] 1,rm [(5,oF)] 1,rm [(5,oF)] 1,rg 2,rg 1,.head] [.code (bodyOf Tryz.f314)] (start Tryz.f314 [] 0 [inD n a,inD n row,.p (.int .i64 j)]) [800] 1 (WoS n a row x y 0 h) =
    some (zf34,[(IL 0 (↑j:Int)),(IT (↑j:Int) (↑n:Int)),(IL 0 (↑j:Int)),(IT (↑j:Int) (↑n:Int)),Con Tryz.prog 354 0 [] [.p (.int .i64 (a j)),.p (.int .i64 (row j))] [] (.p (.int .i64 g)),(IL 0 (↑j:Int)),(IT (↑j:Int) (↑n:Int)),((g:Int)≠0),(IL 0 (↑j:Int)),(IT (↑j:Int) (↑n:Int)),((g:Int)≠0),(AN n),(AP n (fun i=>[.int .i64 (a i)])),(AN n),(AP n (fun i=>[.int .i64 (row i)])),(((IntKind.i64.wrap ((row j).tdiv g)):Int)=x),(((IntKind.i64.wrap ((a j).tdiv g)):Int)=y),(AN 0),(AN 0),((0:Int)=(↑0:Int)),(AN 1),(NL 0 0),(∀ i:Nat,(((i:Nat)<0)→(All []∧(([.p (.int .i64 0)]:List AV)=[.p (.int .i64 (h i))]))))]):=by kernel_rfl
theorem wxt (n:Nat) (a row:Nat→Int) (x y:Int) (i:Nat) (h h':Nat→Int) :
    pieceOb Tryz.prog 0 [rg 4,.dec true,rm [(6,oF),(5,oF),(0,oF)] 3,rg 3,.head] zf34 (WoS n a row x y i h) [609] 1 (WoS n a row x y (i+1) h') =
    some (zf34,[((decide ((↑i:Int)<(↑n:Int)))=true),(IL 0 (↑i:Int)),(IT (↑i:Int) (↑n:Int)),(IL 0 (↑i:Int)),(IT (↑i:Int) (↑n:Int)),(NL 1 1),(NL i i),(NL ((i+1)*8) 140737488355328),(NL (i+1) 9223372036854775807),(ZLo ((↑i:Int)+1)),(ZHi ((↑i:Int)+1)),(AN n),(AP n (fun i_1=>[.int .i64 (a i_1)])),(AN n),(AP n (fun i_1=>[.int .i64 (row i_1)])),(AI x),(AI y),(AN 0),(AN ((i+1))),((((↑i:Int)+1):Int)=(↑(i+1):Int)),(AN 1),(NL (i+1) (i+1)),(∀ i_1:Nat,(((i_1:Nat)<(i+1))→(All (cvtL false [(609,⟨false,1,(i+1),(fun i_2=>(if (i_2<i) then [.p (.int .i64 (h i_2))] else [.p (.int .i64 (IntKind.i64.wrap (IntKind.i64.wrap (a i*x) - IntKind.i64.wrap (row i*y))))]))⟩),(577,⟨false,1,1,(fun i_2=>[.p (.int .i64 (IntKind.i64.wrap (IntKind.i64.wrap (a i*x) - IntKind.i64.wrap (row i*y))))])⟩)] [609] 1 (if (i_1<i) then [.p (.int .i64 (h i_1))] else [.p (.int .i64 (IntKind.i64.wrap (IntKind.i64.wrap (a i*x) - IntKind.i64.wrap (row i*y))))])).2∧(((cvtL false [(609,⟨false,1,(i+1),(fun i_2=>(if (i_2<i) then [.p (.int .i64 (h i_2))] else [.p (.int .i64 (IntKind.i64.wrap (IntKind.i64.wrap (a i*x) - IntKind.i64.wrap (row i*y))))]))⟩),(577,⟨false,1,1,(fun i_2=>[.p (.int .i64 (IntKind.i64.wrap (IntKind.i64.wrap (a i*x) - IntKind.i64.wrap (row i*y))))])⟩)] [609] 1 (if (i_1<i) then [.p (.int .i64 (h i_1))] else [.p (.int .i64 (IntKind.i64.wrap (IntKind.i64.wrap (a i*x) - IntKind.i64.wrap (row i*y))))])).1:List AV)=[.p (.int .i64 (h' i_1))]))))]):=by kernel_rfl
theorem wxe (n:Nat) (a row:Nat→Int) (x y:Int) (h r:Nat→Int) :
    pathOb Tryz.prog Tryz.f314 0 [rg 4,.dec false,rm [(1,oc [(0,iOb n r)] (.ar 1 0 0 n))] 1] zf34 (WoS n a row x y n h) [161] 1 [(0,iOb n r)] (.ar 1 0 0 n) =
    some [((decide ((↑n:Int)<(↑n:Int)))=false),(AN 1),(NL n n),Con Tryz.prog 313 0 [] [.p (.seq true 1 n (fun i=>[.int .i64 (h i)]))] [(0,⟨false,1,n,(fun i=>[.p (.int .i64 (r i))])⟩)] (.ar 1 0 0 n),(AN 0),(AN n),(AN 1),(NL n n),(AA n (fun i=>[.p (.int .i64 (r i))])),(AE n)]:=by kernel_rfl
theorem qza (m:Nat) (C D:Nat→T_IntS) :
    pieceOb Tryz.prog 0 [rg 2,rg 2,rg 1,.head] [.code (bodyOf Tryz.f226)] (start Tryz.f226 [] 0 [ssA2 m C]) [64] 1 (Q0 m C 0 D) =
    some (zf64,[(AN m),(AP m (fun i=>[.seq true 1 ((C i).1) (fun i_1=>[.int .i64 ((C i).2 i_1)])])),(AN 0),(AN 0),((0:Int)=(↑0:Int)),(AN 1),(NL 0 0),(∀ i:Nat,(((i:Nat)<0)→(All []∧(([.p (.nil)]:List AV)=[.ar 1 ⟨1,some i⟩ 0 ((D i).1)])))),(AN 0)]):=by kernel_rfl
theorem qzb (m:Nat) (C D:Nat→T_IntS) (i:Nat) :
    pieceOb Tryz.prog 0 [rg 4,.dec true,rm [(5,oc [(0,iOb (D i).1 (D i).2)] (.ar 1 0 0 (D i).1))] 3,rg 3,.head] zf64 (Q0 m C i D) [354,.ins 1 i 290] 1 (Q0 m C (i+1) D) =
    some (zf64,[((decide ((↑i:Int)<(↑m:Int)))=true),(IL 0 (↑i:Int)),(IT (↑i:Int) (↑m:Int)),Con Tryz.prog 313 0 [] [.p (.seq true 1 ((C i).1) (fun i_1=>[.int .i64 ((C i).2 i_1)]))] [(0,⟨false,1,((D i).1),(fun i_1=>[.p (.int .i64 ((D i).2 i_1))])⟩)] (.ar 1 0 0 ((D i).1)),(NL 1 1),(NL i i),(NL ((i+1)*24) 140737488355328),(NL (i+1) 9223372036854775807),(ZLo ((↑i:Int)+1)),(ZHi ((↑i:Int)+1)),(AN m),(AP m (fun i_1=>[.seq true 1 ((C i_1).1) (fun i_2=>[.int .i64 ((C i_1).2 i_2)])])),(AN 0),(AN ((i+1))),((((↑i:Int)+1):Int)=(↑(i+1):Int)),(AN 1),(NL (i+1) (i+1)),(CV [(354,⟨false,1,(i+1),(fun i_2=>(if (i_2<i) then [.ar 1 ⟨1,some i_2⟩ 0 ((D i_2).1)] else [.ar 1 290 0 ((D i).1)]))⟩),(322,⟨false,1,1,(fun i_2=>[.ar 1 290 0 ((D i).1)])⟩),(290,⟨false,1,((D i).1),(fun i_2=>[.p (.int .i64 ((D i).2 i_2))])⟩),(1,⟨true,0,i,(fun i_2=>[.p (.seq false 1 ((D i_2).1) (fun i_3=>[.int .i64 ((D i_2).2 i_3)]))])⟩)] [354,.ins 1 i 290] 1 (i+1) (fun i_1=>if (i_1<i) then [.ar 1 ⟨1,some i_1⟩ 0 ((D i_1).1)] else [.ar 1 290 0 ((D i).1)]) (fun i_1=>[.ar 1 ⟨1,some i_1⟩ 0 ((D i_1).1)])),(∀ i_1:Nat,(((i_1:Nat)<(i+1))→(((i_1:Nat)≠i)→(((i_1:Nat)<i)∧All [(AN 1),((((D i_1).1):Nat)≤((D i_1).1)),(AP (((D i_1).1)) (fun r=>[.int .i64 ((D i_1).2 r)]))])))),(((i:Nat)<(i+1))→ All [(AN 1),((((D i).1):Nat)≤((D i).1)),(AP (((D i).1)) (fun r=>[.int .i64 ((D i).2 r)]))])]):=by kernel_rfl
theorem qzc (n m:Nat) (C:Nat→T_IntS) (M:Nat→Nat→Int) :
    pieceOb Tryz.prog 0 [rg 4,.dec false,rg 2,rg 1,.head] zf64 (Q0 m C m (cM n M)) [0,1,130] 1 (Q1 n m M 0 (fun _=>0) 0) =
    some (zf38,[((decide ((↑m:Int)<(↑m:Int)))=false),(AN 0),(AN m),(AN 0),(AN 0),((0:Int)=(↑0:Int)),(AN 1),(NL m m),(AA m (fun i=>[.ar 1 ⟨1,some i⟩ 0 n])),(NL m m),(∀ i:Nat,(((i:Nat)<m)→All [(AN 1),((n:Nat)≤n),(AP n (fun r=>[.int .i64 ((cM n M i).2 r)]))])),(AN 1),(NL 0 0),(AA 0 (fun i=>[.p (.int .i64 0)]))]):=by kernel_rfl
theorem qe (n m:Nat) (M:Nat→Nat→Int) (r:Nat) (p:Nat→Int) (c:Nat) :
    pathOb Tryz.prog Tryz.f226 0 [rg 11,.dec false,rg 4] zf38 (Q1 n m M r p c) [0,1,2] 1 (mH n m M r p) (.tup [.ar 1 0 0 m,.ar 1 2 0 r]) =
    some [(AG (decide ((↑m:Int)>0))),(((decide ((↑m:Int)>0))=true)→(IL 0 0)),(((decide ((↑m:Int)>0))=true)→(IT 0 (↑m:Int))),(AG (decide ((↑m:Int)>0))),(((decide ((↑m:Int)>0))=true)→(NT 0 m)),(AG (decide ((↑m:Int)>0))),(AG (decide ((↑m:Int)>0))),(AG (decide ((↑m:Int)>0))),(AG (decide ((↑m:Int)>0))),((bif decide ((↑m:Int)>0) then decide ((↑c:Int)<(↑(cM n M (Int.toNat 0+0)).1:Int)) else false)=false),(AN 0),(AN m),(AN 0),(AN r),(AN 1),(NL m m),(AA m (fun i=>[.ar 1 ⟨1,some i⟩ 0 n])),(NL m m),(∀ i:Nat,(((i:Nat)<m)→All [(AN 1),((n:Nat)≤n),(AP n (fun r_1=>[.int .i64 ((cM n M i).2 r_1)]))])),(AN 1),(NL r r),(AA r (fun i=>[.p (.int .i64 (p i))])),(AE m),(∀ i:Nat,(((i:Nat)<m)→All [(false=false),(AE n)])),(AE r)]:=by kernel_rfl
theorem qb (n m:Nat) (M:Nat→Nat→Int) (r:Nat) (p:Nat→Int) (c:Nat) :
    pieceOb Tryz.prog 0 [rg 11,.dec true,rg 3,.head] zf38 (Q1 n m M r p c) [0,1,2] 1 (Q2 n m M r p c r) =
    some (zf10,[(AG (decide ((↑m:Int)>0))),(((decide ((↑m:Int)>0))=true)→(IL 0 0)),(((decide ((↑m:Int)>0))=true)→(IT 0 (↑m:Int))),(AG (decide ((↑m:Int)>0))),(((decide ((↑m:Int)>0))=true)→(NT 0 m)),(AG (decide ((↑m:Int)>0))),(AG (decide ((↑m:Int)>0))),(AG (decide ((↑m:Int)>0))),(AG (decide ((↑m:Int)>0))),((bif decide ((↑m:Int)>0) then decide ((↑c:Int)<(↑(cM n M (Int.toNat 0+0)).1:Int)) else false)=true),(AN 0),(AN m),(AN 0),(AN r),(AI ((↑c:Int))),(AI ((↑r:Int))),(AN 1),(NL m m),(AA m (fun i=>[.ar 1 ⟨1,some i⟩ 0 n])),(NL m m),(∀ i:Nat,(((i:Nat)<m)→All [(AN 1),((n:Nat)≤n),(AP n (fun r_1=>[.int .i64 ((cM n M i).2 r_1)]))])),(AN 1),(NL r r),(AA r (fun i=>[.p (.int .i64 (p i))]))]):=by kernel_rfl
theorem qs (n m:Nat) (M:Nat→Nat→Int) (r:Nat) (p:Nat→Int) (c i:Nat) :
    pieceOb Tryz.prog 0 [rg 14,.dec true,rg 3,.head] zf10 (Q2 n m M r p c i) [0,1,2] 1 (Q2 n m M r p c (i+1)) =
    some (zf10,[(AG (decide ((↑i:Int)<(↑m:Int)))),(AG (decide ((↑i:Int)<(↑m:Int)))),(((decide ((↑i:Int)<(↑m:Int)))=true)→(IL 0 (↑i:Int))),(((decide ((↑i:Int)<(↑m:Int)))=true)→(IT (↑i:Int) (↑m:Int))),(AG (decide ((↑i:Int)<(↑m:Int)))),(((decide ((↑i:Int)<(↑m:Int)))=true)→(NT i m)),(AG (decide ((↑i:Int)<(↑m:Int)))),(AG (decide ((↑i:Int)<(↑m:Int)))),(((decide ((↑i:Int)<(↑m:Int)))=true)→(IL 0 (↑c:Int))),(((decide ((↑i:Int)<(↑m:Int)))=true)→(IT (↑c:Int) (↑n:Int))),(AG (decide ((↑i:Int)<(↑m:Int)))),(((decide ((↑i:Int)<(↑m:Int)))=true)→(NT i m)),(((decide ((↑i:Int)<(↑m:Int)))=true)→(NT c n)),(AG (decide ((↑i:Int)<(↑m:Int)))),(AG (decide ((↑i:Int)<(↑m:Int)))),((bif decide ((↑i:Int)<(↑m:Int)) then (cM n M i).2 c==0 else false)=true),(ZLo ((↑i:Int)+1)),(ZHi ((↑i:Int)+1)),(AN 0),(AN m),(AN 0),(AN r),(AI ((↑c:Int))),((((↑i:Int)+1):Int)=(↑(i+1):Int)),(AN 1),(NL m m),(AA m (fun i_1=>[.ar 1 ⟨1,some i_1⟩ 0 n])),(NL m m),(∀ i_1:Nat,(((i_1:Nat)<m)→All [(AN 1),((n:Nat)≤n),(AP n (fun r_1=>[.int .i64 ((cM n M i_1).2 r_1)]))])),(AN 1),(NL r r),(AA r (fun i_1=>[.p (.int .i64 (p i_1))]))]):=by kernel_rfl
theorem qn (n m:Nat) (M:Nat→Nat→Int) (r:Nat) (p:Nat→Int) (c i:Nat) :
    pieceOb Tryz.prog 0 [rg 14,.dec false,rg 4,.dec true,rg 3,.head] zf10 (Q2 n m M r p c i) [0,1,2] 1 (Q1 n m M r p (c+1)) =
    some (zf38,[(AG (decide ((↑i:Int)<(↑m:Int)))),(AG (decide ((↑i:Int)<(↑m:Int)))),(((decide ((↑i:Int)<(↑m:Int)))=true)→(IL 0 (↑i:Int))),(((decide ((↑i:Int)<(↑m:Int)))=true)→(IT (↑i:Int) (↑m:Int))),(AG (decide ((↑i:Int)<(↑m:Int)))),(((decide ((↑i:Int)<(↑m:Int)))=true)→(NT i m)),(AG (decide ((↑i:Int)<(↑m:Int)))),(AG (decide ((↑i:Int)<(↑m:Int)))),(((decide ((↑i:Int)<(↑m:Int)))=true)→(IL 0 (↑c:Int))),(((decide ((↑i:Int)<(↑m:Int)))=true)→(IT (↑c:Int) (↑n:Int))),(AG (decide ((↑i:Int)<(↑m:Int)))),(((decide ((↑i:Int)<(↑m:Int)))=true)→(NT i m)),(((decide ((↑i:Int)<(↑m:Int)))=true)→(NT c n)),(AG (decide ((↑i:Int)<(↑m:Int)))),(AG (decide ((↑i:Int)<(↑m:Int)))),((bif decide ((↑i:Int)<(↑m:Int)) then (cM n M i).2 c==0 else false)=false),(((↑i:Int)==(↑m:Int))=true),(ZLo ((↑c:Int)+1)),(ZHi ((↑c:Int)+1)),(AN 0),(AN m),(AN 0),(AN r),((((↑c:Int)+1):Int)=(↑(c+1):Int)),(AN 1),(NL m m),(AA m (fun i_1=>[.ar 1 ⟨1,some i_1⟩ 0 n])),(NL m m),(∀ i_1:Nat,(((i_1:Nat)<m)→All [(AN 1),((n:Nat)≤n),(AP n (fun r_1=>[.int .i64 ((cM n M i_1).2 r_1)]))])),(AN 1),(NL r r),(AA r (fun i_1=>[.p (.int .i64 (p i_1))]))]):=by kernel_rfl
theorem qp (n m:Nat) (M:Nat→Nat→Int) (r:Nat) (p:Nat→Int) (c q:Nat) :
    pieceOb Tryz.prog 0 [rg 14,.dec false,rg 4,.dec false,rg 5,rg 9,rg 6,rg 1,.head] zf10 (Q2 n m M r p c q) [0,.perm 1 (sI r q) (sI r q),2] 1 (Q3 n m (Had.sw M r q) r p c 0) =
    some (zf7,[(AG (decide ((↑q:Int)<(↑m:Int)))),(AG (decide ((↑q:Int)<(↑m:Int)))),(((decide ((↑q:Int)<(↑m:Int)))=true)→(IL 0 (↑q:Int))),(((decide ((↑q:Int)<(↑m:Int)))=true)→(IT (↑q:Int) (↑m:Int))),(AG (decide ((↑q:Int)<(↑m:Int)))),(((decide ((↑q:Int)<(↑m:Int)))=true)→(NT q m)),(AG (decide ((↑q:Int)<(↑m:Int)))),(AG (decide ((↑q:Int)<(↑m:Int)))),(((decide ((↑q:Int)<(↑m:Int)))=true)→(IL 0 (↑c:Int))),(((decide ((↑q:Int)<(↑m:Int)))=true)→(IT (↑c:Int) (↑n:Int))),(AG (decide ((↑q:Int)<(↑m:Int)))),(((decide ((↑q:Int)<(↑m:Int)))=true)→(NT q m)),(((decide ((↑q:Int)<(↑m:Int)))=true)→(NT c n)),(AG (decide ((↑q:Int)<(↑m:Int)))),(AG (decide ((↑q:Int)<(↑m:Int)))),((bif decide ((↑q:Int)<(↑m:Int)) then (cM n M q).2 c==0 else false)=false),(((↑q:Int)==(↑m:Int))=false),(IL 0 (↑q:Int)),(IT (↑q:Int) (↑m:Int)),(NT q m),(IL 0 (↑r:Int)),(IT (↑r:Int) (↑m:Int)),(NT r m),(IL 0 (↑q:Int)),(IT (↑q:Int) (↑m:Int)),(NT q m),((false=true)→ ((m:Nat)=1)),(IL 0 (↑r:Int)),(IT (↑r:Int) (↑m:Int)),(NT r m),((false=true)→ ((m:Nat)=1)),(AN 0),(AN m),(AN 0),(AN r),(AI ((↑c:Int))),(((sI r q (sI r q q)):Nat)=q),(((sI r q q):Nat)=r),(AN 0),(AN n),((0:Int)=(↑0:Int)),(AN 1),(NL m m),(∀ i:Nat,(((i:Nat)<m)→(All (cvtL false [(0,⟨false,1,m,(fun i_1=>(if (i_1=r) then [.ar 1 ⟨1,some q⟩ 0 n] else (if (i_1=q) then [.ar 1 ⟨1,some r⟩ 0 n] else [.ar 1 ⟨1,some i_1⟩ 0 n])))⟩),(1,⟨true,0,m,(fun i_1=>[.p (.seq false 1 n (fun i_2=>[.int .i64 ((cM n M i_1).2 i_2)]))])⟩),(2,⟨false,1,r,(fun i_1=>[.p (.int .i64 (p i_1))])⟩)] [0,.perm 1 (sI r q) (sI r q),2] 1 (if (i=r) then [.ar 1 ⟨1,some q⟩ 0 n] else (if (i=q) then [.ar 1 ⟨1,some r⟩ 0 n] else [.ar 1 ⟨1,some i⟩ 0 n]))).2∧(((cvtL false [(0,⟨false,1,m,(fun i_1=>(if (i_1=r) then [.ar 1 ⟨1,some q⟩ 0 n] else (if (i_1=q) then [.ar 1 ⟨1,some r⟩ 0 n] else [.ar 1 ⟨1,some i_1⟩ 0 n])))⟩),(1,⟨true,0,m,(fun i_1=>[.p (.seq false 1 n (fun i_2=>[.int .i64 ((cM n M i_1).2 i_2)]))])⟩),(2,⟨false,1,r,(fun i_1=>[.p (.int .i64 (p i_1))])⟩)] [0,.perm 1 (sI r q) (sI r q),2] 1 (if (i=r) then [.ar 1 ⟨1,some q⟩ 0 n] else (if (i=q) then [.ar 1 ⟨1,some r⟩ 0 n] else [.ar 1 ⟨1,some i⟩ 0 n]))).1:List AV)=[.ar 1 ⟨1,some i⟩ 0 n])))),(∀ i:Nat,(((i:Nat)<m)→((((sI r q i):Nat)<m)∧((((sI r q (sI r q i)):Nat)=i)∧All [(AN 1),((n:Nat)≤n),(∀ r_1:Nat,(((r_1:Nat)<n)→(([.int .i64 ((cM n M (sI r q i)).2 r_1)]:List PV)=[.int .i64 ((cM n (Had.sw M r q) i).2 r_1)])))])))),(AN 1),(NL r r),(AA r (fun i=>[.p (.int .i64 (p i))]))]):=by kernel_rfl
theorem qt (n m:Nat) (M M':Nat→Nat→Int) (r:Nat) (p:Nat→Int) (c i:Nat) (w:Nat→Int) :
    pieceOb Tryz.prog 0 [rg 4,.dec true,rg 14,.dec true,rm [(8,oc [(0,iOb n w)] (.ar 1 0 0 n))] 2,rg 3,.head] zf7 (Q3 n m M r p c i) [0,.ins 1 i 835,2] 1 (Q3 n m M' r p c (i+1)) =
    some (zf7,[((decide ((↑i:Int)<(↑m:Int)))=true),(AG ((↑i:Int) != (↑r:Int))),(AG ((↑i:Int) != (↑r:Int))),((((↑i:Int) != (↑r:Int))=true)→(IL 0 (↑i:Int))),((((↑i:Int) != (↑r:Int))=true)→(IT (↑i:Int) (↑m:Int))),(AG ((↑i:Int) != (↑r:Int))),((((↑i:Int) != (↑r:Int))=true)→(NT i m)),(AG ((↑i:Int) != (↑r:Int))),(AG ((↑i:Int) != (↑r:Int))),((((↑i:Int) != (↑r:Int))=true)→(IL 0 (↑c:Int))),((((↑i:Int) != (↑r:Int))=true)→(IT (↑c:Int) (↑n:Int))),(AG ((↑i:Int) != (↑r:Int))),((((↑i:Int) != (↑r:Int))=true)→(NT i m)),((((↑i:Int) != (↑r:Int))=true)→(NT c n)),(AG ((↑i:Int) != (↑r:Int))),(AG ((↑i:Int) != (↑r:Int))),((bif (↑i:Int) != (↑r:Int) then (cM n M i).2 c != 0 else false)=true),(IL 0 (↑i:Int)),(IT (↑i:Int) (↑m:Int)),(NT i m),(NT i m),(AN 1),(NL n n),(NT r m),(AN 1),(NL n n),Con Tryz.prog 314 0 [] [.p (.seq true 1 n (fun i_1=>[.int .i64 ((cM n M i).2 i_1)])),.p (.seq true 1 n (fun i_1=>[.int .i64 ((cM n M r).2 i_1)])),.p (.int .i64 (↑c:Int))] [(0,⟨false,1,n,(fun i_1=>[.p (.int .i64 (w i_1))])⟩)] (.ar 1 0 0 n),(IL 0 (↑i:Int)),(IT (↑i:Int) (↑m:Int)),(NT i m),((false=true)→ ((m:Nat)=1)),(ZLo ((↑i:Int)+1)),(ZHi ((↑i:Int)+1)),(AN 0),(AN m),(AN 0),(AN r),(AI ((↑c:Int))),((r:Nat)≠i),(AN r),(AN 0),(AN n),((((↑i:Int)+1):Int)=(↑(i+1):Int)),(AN 1),(NL m m),(CV [(0,⟨false,1,m,(fun i_2=>(if (i_2=i) then [.ar 1 835 0 n] else [.ar 1 ⟨1,some i_2⟩ 0 n]))⟩),(835,⟨false,1,n,(fun i_2=>[.p (.int .i64 (w i_2))])⟩),(1,⟨true,0,m,(fun i_2=>[.p (.seq false 1 n (fun i_3=>[.int .i64 ((cM n M i_2).2 i_3)]))])⟩),(2,⟨false,1,r,(fun i_2=>[.p (.int .i64 (p i_2))])⟩)] [0,.ins 1 i 835,2] 1 m (fun i_1=>if (i_1=i) then [.ar 1 835 0 n] else [.ar 1 ⟨1,some i_1⟩ 0 n]) (fun i_1=>[.ar 1 ⟨1,some i_1⟩ 0 n])),(∀ i_1:Nat,(((i_1:Nat)<m)→(((i_1:Nat)≠i)→(((i_1:Nat)<m)∧All [(AN 1),((n:Nat)≤n),(∀ r_1:Nat,(((r_1:Nat)<n)→(([.int .i64 ((cM n M i_1).2 r_1)]:List PV)=[.int .i64 ((cM n M' i_1).2 r_1)])))])))),(((i:Nat)<m)→ All [(AN 1),((n:Nat)≤n),(∀ r_1:Nat,(((r_1:Nat)<n)→(([.int .i64 (w r_1)]:List PV)=[.int .i64 ((cM n M' i).2 r_1)])))]),(AN 1),(NL r r),(AA r (fun i_1=>[.p (.int .i64 (p i_1))]))]):=by kernel_rfl
theorem qf (n m:Nat) (M M':Nat→Nat→Int) (r:Nat) (p:Nat→Int) (c i:Nat) :
    pieceOb Tryz.prog 0 [rg 4,.dec true,rg 14,.dec false,rg 3,.head] zf7 (Q3 n m M r p c i) [0,1,2] 1 (Q3 n m M' r p c (i+1)) =
    some (zf7,[((decide ((↑i:Int)<(↑m:Int)))=true),(AG ((↑i:Int) != (↑r:Int))),(AG ((↑i:Int) != (↑r:Int))),((((↑i:Int) != (↑r:Int))=true)→(IL 0 (↑i:Int))),((((↑i:Int) != (↑r:Int))=true)→(IT (↑i:Int) (↑m:Int))),(AG ((↑i:Int) != (↑r:Int))),((((↑i:Int) != (↑r:Int))=true)→(NT i m)),(AG ((↑i:Int) != (↑r:Int))),(AG ((↑i:Int) != (↑r:Int))),((((↑i:Int) != (↑r:Int))=true)→(IL 0 (↑c:Int))),((((↑i:Int) != (↑r:Int))=true)→(IT (↑c:Int) (↑n:Int))),(AG ((↑i:Int) != (↑r:Int))),((((↑i:Int) != (↑r:Int))=true)→(NT i m)),((((↑i:Int) != (↑r:Int))=true)→(NT c n)),(AG ((↑i:Int) != (↑r:Int))),(AG ((↑i:Int) != (↑r:Int))),((bif (↑i:Int) != (↑r:Int) then (cM n M i).2 c != 0 else false)=false),(ZLo ((↑i:Int)+1)),(ZHi ((↑i:Int)+1)),(AN 0),(AN m),(AN 0),(AN r),(AI ((↑c:Int))),(AN r),(AN 0),(AN n),((((↑i:Int)+1):Int)=(↑(i+1):Int)),(AN 1),(NL m m),(AA m (fun i_1=>[.ar 1 ⟨1,some i_1⟩ 0 n])),(NL m m),(∀ i_1:Nat,(((i_1:Nat)<m)→All [(AN 1),((n:Nat)≤n),(∀ r_1:Nat,(((r_1:Nat)<n)→(([.int .i64 ((cM n M i_1).2 r_1)]:List PV)=[.int .i64 ((cM n M' i_1).2 r_1)])))])),(AN 1),(NL r r),(AA r (fun i_1=>[.p (.int .i64 (p i_1))]))]):=by kernel_rfl
theorem qx (n m:Nat) (M M':Nat→Nat→Int) (r:Nat) (p p':Nat→Int) (c i:Nat) :
    pieceOb Tryz.prog 0 [rg 4,.dec false,rg 5,rg 3,.head] zf7 (Q3 n m M r p c i) [0,1,227] 1 (Q1 n m M' (r+1) p' (c+1)) =
    some (zf38,[((decide ((↑i:Int)<(↑m:Int)))=false),(NL 1 1),(NL r r),(NL ((r+1)*8) 140737488355328),(NL (r+1) 9223372036854775807),(ZLo ((↑c:Int)+1)),(ZHi ((↑c:Int)+1)),(AN 0),(AN m),(AN 0),(AN ((r+1))),((((↑c:Int)+1):Int)=(↑(c+1):Int)),(AN 1),(NL m m),(AA m (fun i_1=>[.ar 1 ⟨1,some i_1⟩ 0 n])),(NL m m),(∀ i_1:Nat,(((i_1:Nat)<m)→All [(AN 1),((n:Nat)≤n),(∀ r_1:Nat,(((r_1:Nat)<n)→(([.int .i64 ((cM n M i_1).2 r_1)]:List PV)=[.int .i64 ((cM n M' i_1).2 r_1)])))])),(AN 1),(NL (r+1) (r+1)),(∀ i_1:Nat,(((i_1:Nat)<(r+1))→(All (cvtL false [(227,⟨false,1,(r+1),(fun i_2=>(if (i_2<r) then [.p (.int .i64 (p i_2))] else [.p (.int .i64 (↑c:Int))]))⟩),(195,⟨false,1,1,(fun i_2=>[.p (.int .i64 (↑c:Int))])⟩),(0,⟨false,1,m,(fun i_2=>[.ar 1 ⟨1,some i_2⟩ 0 n])⟩),(1,⟨true,0,m,(fun i_2=>[.p (.seq false 1 n (fun i_3=>[.int .i64 ((cM n M i_2).2 i_3)]))])⟩)] [0,1,227] 1 (if (i_1<r) then [.p (.int .i64 (p i_1))] else [.p (.int .i64 (↑c:Int))])).2∧(((cvtL false [(227,⟨false,1,(r+1),(fun i_2=>(if (i_2<r) then [.p (.int .i64 (p i_2))] else [.p (.int .i64 (↑c:Int))]))⟩),(195,⟨false,1,1,(fun i_2=>[.p (.int .i64 (↑c:Int))])⟩),(0,⟨false,1,m,(fun i_2=>[.ar 1 ⟨1,some i_2⟩ 0 n])⟩),(1,⟨true,0,m,(fun i_2=>[.p (.seq false 1 n (fun i_3=>[.int .i64 ((cM n M i_2).2 i_3)]))])⟩)] [0,1,227] 1 (if (i_1<r) then [.p (.int .i64 (p i_1))] else [.p (.int .i64 (↑c:Int))])).1:List AV)=[.p (.int .i64 (p' i_1))]))))]):=by kernel_rfl
end Go.Proofs.YtkkjoghiigiokaaGreat.Mach
namespace Go.Proofs.YtkkjoghiigiokaaGreat.Mach
open Go
set_option linter.unusedVariables false
set_option linter.unusedSimpArgs false
def brBx (x:T_Bar):Ob:=⟨true,2,1,fun _=>[.p (.int .i64 x.1),.p (.int .i64 x.2.1)]⟩
def SVi (v:T_Graph) (x:T_Bar) (k:Nat):St :=
  ⟨[graphL v.2.1,.agg [.p (.int .i64 x.1),.p (.int .i64 x.2.1)],.p .any,.pt 2 0 0 0,.p .any,.p .any,graphL v.2.1,.p (.int .i64 v.2.1.1),.p (.int .i64 k)]++List.replicate 10 anyA,[(0,brBx x)],1⟩
def SVs (v:T_Graph) (a b:Int) (k:Nat):St :=
  ⟨[graphA v,.p (.int .i64 a),.p (.int .i64 b),.pt 2 0 0 0,.p .any,.p .any,.p .any,.p (.int .i64 k)]++List.replicate 30 anyA,[(0,boxG v)],1⟩
def beqB (x y:T_Bar):Bool:=(x.1==y.1)&&((x.2.1==y.2.1)&&true)
theorem vIz (v:T_Graph) (x:T_Bar) :
    pieceOb Tryz.prog 0 [rg 2,rg 3,.head] [.code (bodyOf Tryz.f203)] (start Tryz.f203 [] 0 [graphL v.2.1,.agg [.p (.int .i64 x.1),.p (.int .i64 x.2.1)]]) [0] 1 (SVi v x 0) =
    some (zf93,[(AN v.2.1.1),(AP v.2.1.1 (fun i=>[.int .i64 ((v.2.1.2 i).1),.int .i64 ((v.2.1.2 i).2.1)])),(AI x.1),(AI x.2.1),(AN 0),(AN v.2.1.1),(AP v.2.1.1 (fun i=>[.int .i64 ((v.2.1.2 i).1),.int .i64 ((v.2.1.2 i).2.1)])),(AI ((↑v.2.1.1:Int))),((0:Int)=(↑0:Int)),((([AV.p (PV.int IntKind.i64 x.1),AV.p (PV.int IntKind.i64 x.2.1)].length):Nat)=2),(NL 1 1),(NL 1 1),(AI x.1),(AI x.2.1)]):=by kernel_rfl
theorem vIa (v:T_Graph) (x:T_Bar) (k:Nat) :
    pieceOb Tryz.prog 0 [rg 1,.dec true,rg 2,rg 6,.dec false,rg 2,.head] zf93 (SVi v x k) [0] 1 (SVi v x (k+1)) =
    some (zf93,[((decide ((↑k:Int)<(↑v.2.1.1:Int)))=true),(NT 0 1),(IL 0 (↑k:Int)),(IT (↑k:Int) (↑v.2.1.1:Int)),((x.1==(v.2.1.2 k).1&&(x.2.1==(v.2.1.2 k).2.1&&true))=false),(ZLo ((↑k:Int)+1)),(ZHi ((↑k:Int)+1)),(AN v.2.1.1),(AP v.2.1.1 (fun i=>[.int .i64 ((v.2.1.2 i).1),.int .i64 ((v.2.1.2 i).2.1)])),(AI x.1),(AI x.2.1),(AN 0),(AN v.2.1.1),(AP v.2.1.1 (fun i=>[.int .i64 ((v.2.1.2 i).1),.int .i64 ((v.2.1.2 i).2.1)])),(AI ((↑v.2.1.1:Int))),((((↑k:Int)+1):Int)=(↑(k+1):Int)),(AN 2),(NL 1 1),(NL 1 1),(AI x.1),(AI x.2.1)]):=by kernel_rfl
theorem vIb (v:T_Graph) (x:T_Bar) (k:Nat) :
    pathOb Tryz.prog Tryz.f203 0 [rg 1,.dec true,rg 2,rg 6,.dec true,rg 2] zf93 (SVi v x k) [] 1 [] (.p (.int .i64 k)) =
    some [((decide ((↑k:Int)<(↑v.2.1.1:Int)))=true),(NT 0 1),(IL 0 (↑k:Int)),(IT (↑k:Int) (↑v.2.1.1:Int)),((x.1==(v.2.1.2 k).1&&(x.2.1==(v.2.1.2 k).2.1&&true))=true),(AI ((↑k:Int)))]:=by kernel_rfl
theorem vIe (v:T_Graph) (x:T_Bar) (k:Nat) :
    pathOb Tryz.prog Tryz.f203 0 [rg 1,.dec false,rg 1] zf93 (SVi v x k) [] 1 [] (.p (.int .i64 (-1))) =
    some [((decide ((↑k:Int)<(↑v.2.1.1:Int)))=false),(AI ((-1)))]:=by kernel_rfl
theorem vAz (v:T_Graph) (a b:Int) :
    pieceOb Tryz.prog 0 [rg 2,rg 1,.head] [.code (bodyOf Tryz.f297)] (start Tryz.f297 [] 0 [graphA v,.p (.int .i64 a),.p (.int .i64 b)]) [0] 1 (SVs v a b 0) =
    some (zf94,[(AI v.1),(AN v.2.1.1),(AP v.2.1.1 (fun i=>[.int .i64 ((v.2.1.2 i).1),.int .i64 ((v.2.1.2 i).2.1)])),(AI a),(AI b),(AN 0),((0:Int)=(↑0:Int)),((([AV.p (PV.int IntKind.i64 v.1),graphL v.2.1].length):Nat)=2),(NL 1 1),(NL 1 1),(AI v.1),(AN v.2.1.1),(AP v.2.1.1 (fun i=>[.int .i64 ((v.2.1.2 i).1),.int .i64 ((v.2.1.2 i).2.1)]))]):=by kernel_rfl
theorem vAa (v:T_Graph) (a b:Int) (k:Nat) :
    pieceOb Tryz.prog 0 [rg 5,.dec true,rg 22,.dec false,rg 3,.head] zf94 (SVs v a b k) [0] 1 (SVs v a b (k+1)) =
    some (zf94,[(NT 0 1),((decide ((↑k:Int)<(↑v.2.1.1:Int)))=true),(NT 0 1),(IL 0 (↑k:Int)),(IT (↑k:Int) (↑v.2.1.1:Int)),(AG ((v.2.1.2 k).1==if false=true then if b>a then b else a else if b<a then b else a)),((((v.2.1.2 k).1==if false=true then if b>a then b else a else if b<a then b else a)=true)→(NT 0 1)),(AG ((v.2.1.2 k).1==if false=true then if b>a then b else a else if b<a then b else a)),(AG ((v.2.1.2 k).1==if false=true then if b>a then b else a else if b<a then b else a)),((((v.2.1.2 k).1==if false=true then if b>a then b else a else if b<a then b else a)=true)→(IL 0 (↑k:Int))),((((v.2.1.2 k).1==if false=true then if b>a then b else a else if b<a then b else a)=true)→(IT (↑k:Int) (↑v.2.1.1:Int))),(AG ((v.2.1.2 k).1==if false=true then if b>a then b else a else if b<a then b else a)),(AG ((v.2.1.2 k).1==if false=true then if b>a then b else a else if b<a then b else a)),(AG ((v.2.1.2 k).1==if false=true then if b>a then b else a else if b<a then b else a)),(AG ((v.2.1.2 k).1==if false=true then if b>a then b else a else if b<a then b else a)),(AG ((v.2.1.2 k).1==if false=true then if b>a then b else a else if b<a then b else a)),(AG ((v.2.1.2 k).1==if false=true then if b>a then b else a else if b<a then b else a)),(AG ((v.2.1.2 k).1==if false=true then if b>a then b else a else if b<a then b else a)),((bif (v.2.1.2 k).1==if false=true then if b>a then b else a else if b<a then b else a then (v.2.1.2 k).2.1==if true=true then if b>a then b else a else if b<a then b else a else false)=false),(ZLo ((↑k:Int)+1)),(ZHi ((↑k:Int)+1)),(AI v.1),(AN v.2.1.1),(AP v.2.1.1 (fun i=>[.int .i64 ((v.2.1.2 i).1),.int .i64 ((v.2.1.2 i).2.1)])),(AI a),(AI b),(AN 0),((((↑k:Int)+1):Int)=(↑(k+1):Int)),(AN 2),(NL 1 1),(NL 1 1),(AI v.1),(AN v.2.1.1),(AP v.2.1.1 (fun i=>[.int .i64 ((v.2.1.2 i).1),.int .i64 ((v.2.1.2 i).2.1)]))]):=by kernel_rfl
theorem vAb (v:T_Graph) (a b:Int) (k:Nat) :
    pathOb Tryz.prog Tryz.f297 0 [rg 5,.dec true,rg 22,.dec true,rg 2] zf94 (SVs v a b k) [] 1 [] (.p (.int .i64 k)) =
    some [(NT 0 1),((decide ((↑k:Int)<(↑v.2.1.1:Int)))=true),(NT 0 1),(IL 0 (↑k:Int)),(IT (↑k:Int) (↑v.2.1.1:Int)),(AG ((v.2.1.2 k).1==if false=true then if b>a then b else a else if b<a then b else a)),((((v.2.1.2 k).1==if false=true then if b>a then b else a else if b<a then b else a)=true)→(NT 0 1)),(AG ((v.2.1.2 k).1==if false=true then if b>a then b else a else if b<a then b else a)),(AG ((v.2.1.2 k).1==if false=true then if b>a then b else a else if b<a then b else a)),((((v.2.1.2 k).1==if false=true then if b>a then b else a else if b<a then b else a)=true)→(IL 0 (↑k:Int))),((((v.2.1.2 k).1==if false=true then if b>a then b else a else if b<a then b else a)=true)→(IT (↑k:Int) (↑v.2.1.1:Int))),(AG ((v.2.1.2 k).1==if false=true then if b>a then b else a else if b<a then b else a)),(AG ((v.2.1.2 k).1==if false=true then if b>a then b else a else if b<a then b else a)),(AG ((v.2.1.2 k).1==if false=true then if b>a then b else a else if b<a then b else a)),(AG ((v.2.1.2 k).1==if false=true then if b>a then b else a else if b<a then b else a)),(AG ((v.2.1.2 k).1==if false=true then if b>a then b else a else if b<a then b else a)),(AG ((v.2.1.2 k).1==if false=true then if b>a then b else a else if b<a then b else a)),(AG ((v.2.1.2 k).1==if false=true then if b>a then b else a else if b<a then b else a)),((bif (v.2.1.2 k).1==if false=true then if b>a then b else a else if b<a then b else a then (v.2.1.2 k).2.1==if true=true then if b>a then b else a else if b<a then b else a else false)=true),(AI ((↑k:Int)))]:=by kernel_rfl
theorem vAe (v:T_Graph) (a b:Int) (k:Nat) :
    pathOb Tryz.prog Tryz.f297 0 [rg 5,.dec false,rg 1] zf94 (SVs v a b k) [] 1 [] (.p (.int .i64 (-1))) =
    some [(NT 0 1),((decide ((↑k:Int)<(↑v.2.1.1:Int)))=false),(AI ((-1)))]:=by kernel_rfl
def ixI (g:Nat→T_Bar) (x:T_Bar):Nat→Nat→Int
  | 0,_=>-1
  | d+1,i=>if beqB x (g i)=true then (i:Int) else ixI g x d (i+1)
theorem ixI_in (g:Nat→T_Bar) (x:T_Bar):∀ d i,ixI g x d i = -1∨((i:Int)≤ixI g x d i∧ixI g x d i<i+d∧beqB x (g (ixI g x d i).toNat)=true)
  | 0,_=>.inl rfl
  | d+1,i=>by
    simp only [ixI]
    split
    · rename_i h;right;exact ⟨Int.le_refl _,by omega,by rw [Int.toNat_natCast];exact h⟩
    · rcases ixI_in g x d (i+1) with h | ⟨h1,h2,h3⟩
      · exact .inl h
      · exact .inr ⟨by omega,by omega,h3⟩
theorem beqB_eq {x y:T_Bar} (h:beqB x y=true):x=y:=by
  obtain ⟨a,b,⟨⟩⟩:=x
  obtain ⟨c,d,⟨⟩⟩:=y
  simp only [beqB,Bool.and_eq_true,beq_iff_eq] at h
  rw [h.1,h.2.1]
theorem beqB_swap (x y:T_Bar):(bif y.1==x.1 then y.2.1==x.2.1 else false)=beqB x y:=by
  unfold beqB
  by_cases h1:x.1=y.1
  · by_cases h2:x.2.1=y.2.1
    · simp [h1,h2]
    · have:¬ y.2.1=x.2.1:=fun h=>h2 h.symm
      rw [beq_eq_false_iff_ne.2 this,beq_eq_false_iff_ne.2 h2,h1];simp
  · have:¬ y.1=x.1:=fun h=>h1 h.symm
    have e1:(x.1==y.1)=false:=beq_eq_false_iff_ne.2 h1
    have e2:(y.1==x.1)=false:=beq_eq_false_iff_ne.2 this
    rw [e1,e2];rfl
theorem con_IndexB (v:T_Graph) (x:T_Bar) (hn:v.2.1.1≤1048576):Con Tryz.prog 203 0 [] [graphL v.2.1,.agg [.p (.int .i64 x.1),.p (.int .i64 x.2.1)]] [] (.p (.int .i64 (ixI v.2.1.2 x v.2.1.1 0))):=by
  refine csZ Tryz.func203 (fun c hc=>?_)
  have lo:∀ d k,k+d=v.2.1.1→Run Tryz.prog c 203 zf93 (SVi v x k) (Post c [] (.p (.int .i64 (ixI v.2.1.2 x d k)))):=by
    intro d
    induction d with
    | zero =>
      intro k hk
      have hd:decide ((k:Int)<(v.2.1.1:Int))=false:=decide_eq_false (by omega)
      refine pkZ Tryz.func203 hc (vIe v x k) ?_
      repeat' (first | exact aN | apply aI)
      all_goals (first | omega | rfl | (intros;first | assumption | exact trivial | rfl) | (exact hd))
    | succ d ih =>
      intro k hk
      have hd:decide ((k:Int)<(v.2.1.1:Int))=true:=decide_eq_true (by omega)
      simp only [ixI]
      by_cases h:beqB x (v.2.1.2 k)=true
      · rw [if_pos h]
        refine pkZ Tryz.func203 hc (vIb v x k) ?_
        repeat' (first | exact aN | apply aI)
        all_goals (first | omega | rfl | (intros;first | assumption | exact trivial | rfl) | (exact hd) | (exact h))
      · rw [if_neg h]
        have h':beqB x (v.2.1.2 k)=false:=by simpa using h
        refine pcZ hc (vIa v x k) ?_ (ih (k+1) (by omega))
        repeat' (first | exact aN | apply aI)
        all_goals (first | exact aP _ _ | omega | rfl | (intros;first | assumption | exact trivial | rfl) | (exact hd) | (exact h') | (intros;simp [All];done))
  refine pcZ hc (vIz v x) ?_ (lo v.2.1.1 0 (by omega))
  repeat' (first | exact aN | apply aI)
  all_goals (first | exact aP _ _ | omega | rfl | (intros;first | assumption | exact trivial | rfl) | (intros;simp [All];done))
theorem con_l7At (v:T_Graph) (a b:Int) (hn:v.2.1.1≤1048576):Con Tryz.prog 297 0 [] [graphA v,.p (.int .i64 a),.p (.int .i64 b)] [] (.p (.int .i64 (ixI v.2.1.2 (brX a b) v.2.1.1 0))):=by
  refine csZ Tryz.func297 (fun c hc=>?_)
  have lo:∀ d k,k+d=v.2.1.1→Run Tryz.prog c 297 zf94 (SVs v a b k) (Post c [] (.p (.int .i64 (ixI v.2.1.2 (brX a b) d k)))):=by
    intro d
    induction d with
    | zero =>
      intro k hk
      have hd:decide ((k:Int)<(v.2.1.1:Int))=false:=decide_eq_false (by omega)
      refine pkZ Tryz.func297 hc (vAe v a b k) ?_
      repeat' (first | exact aN | apply aI)
      all_goals (first | omega | rfl | (intros;first | assumption | exact trivial | rfl) | (exact hd))
    | succ d ih =>
      intro k hk
      have hd:decide ((k:Int)<(v.2.1.1:Int))=true:=decide_eq_true (by omega)
      have hsw:=beqB_swap (brX a b) (v.2.1.2 k)
      simp only [ixI]
      by_cases h:beqB (brX a b) (v.2.1.2 k)=true
      · rw [if_pos h]
        rw [h] at hsw
        refine pkZ Tryz.func297 hc (vAb v a b k) ?_
        repeat' (first | exact aN | apply aI)
        all_goals (first | exact aG _ | omega | rfl | (intros;first | assumption | exact trivial | rfl | exact fT ‹_›) | (exact hd) | (exact hsw) | (intros;omega))
      · rw [if_neg h]
        have h':beqB (brX a b) (v.2.1.2 k)=false:=by simpa using h
        rw [h'] at hsw
        refine pcZ hc (vAa v a b k) ?_ (ih (k+1) (by omega))
        repeat' (first | exact aN | apply aI)
        all_goals (first | exact aG _ | exact aP _ _ | omega | rfl | (intros;first | assumption | exact trivial | rfl | exact fT ‹_›) | (exact hd) | (exact hsw) | (intros;omega) | (intros;simp [All];done))
  refine pcZ hc (vAz v a b) ?_ (lo v.2.1.1 0 (by omega))
  repeat' (first | exact aN | apply aI)
  all_goals (first | exact aP _ _ | omega | rfl | (intros;first | assumption | exact trivial | rfl) | (intros;simp [All];done))
end Go.Proofs.YtkkjoghiigiokaaGreat.Mach
namespace Go.Proofs.YtkkjoghiigiokaaGreat.Mach
open Go Go.Sort
set_option linter.unusedVariables false
set_option linter.unusedSimpArgs false
def hitB (x:T_Bar) (a b:Int):Bool:=bif bif x.1==a then x.2.1==b else false then true else bif x.1==b then x.2.1==a else false
def SOs (v:T_Graph) (a b:Int) (k n:Nat):St :=
  ⟨[graphA v,.p (.int .i64 a),.p (.int .i64 b),.pt 2 0 0 0,.p .any,.p .any,.p .any,.p (.int .i64 n),.p (.int .i64 k)]++List.replicate 48 anyA,[(0,boxG v)],1⟩
theorem oSz (v:T_Graph) (a b:Int) :
    pieceOb Tryz.prog 0 [rg 2,rg 1,rg 1,.head] [.code (bodyOf Tryz.f196)] (start Tryz.f196 [] 0 [graphA v,.p (.int .i64 a),.p (.int .i64 b)]) [0] 1 (SOs v a b 0 0) =
    some (zf65,[(AI v.1),(AN v.2.1.1),(AP v.2.1.1 (fun i=>[.int .i64 ((v.2.1.2 i).1),.int .i64 ((v.2.1.2 i).2.1)])),(AI a),(AI b),(AN 0),((0:Int)=(↑0:Int)),((0:Int)=(↑0:Int)),((([AV.p (PV.int IntKind.i64 v.1),graphL v.2.1].length):Nat)=2),(NL 1 1),(NL 1 1),(AI v.1),(AN v.2.1.1),(AP v.2.1.1 (fun i=>[.int .i64 ((v.2.1.2 i).1),.int .i64 ((v.2.1.2 i).2.1)]))]):=by kernel_rfl
theorem oSt (v:T_Graph) (a b:Int) (k n:Nat) :
    pieceOb Tryz.prog 0 [rg 5,.dec true,rg 38,.dec true,rg 3,rg 3,.head] zf65 (SOs v a b k n) [0] 1 (SOs v a b (k+1) (n+1)) =
    some (zf65,[(NT 0 1),((decide ((↑k:Int)<(↑v.2.1.1:Int)))=true),(NT 0 1),(IL 0 (↑k:Int)),(IT (↑k:Int) (↑v.2.1.1:Int)),(AG ((v.2.1.2 k).1==a)),((((v.2.1.2 k).1==a)=true)→(NT 0 1)),(AG ((v.2.1.2 k).1==a)),(AG ((v.2.1.2 k).1==a)),((((v.2.1.2 k).1==a)=true)→(IL 0 (↑k:Int))),((((v.2.1.2 k).1==a)=true)→(IT (↑k:Int) (↑v.2.1.1:Int))),(AG ((v.2.1.2 k).1==a)),(AG ((v.2.1.2 k).1==a)),(AG ((v.2.1.2 k).1==a)),(AG ((v.2.1.2 k).1==a)),(AG ((v.2.1.2 k).1==a)),(AG (!bif (v.2.1.2 k).1==a then (v.2.1.2 k).2.1==b else false)),(((!bif (v.2.1.2 k).1==a then (v.2.1.2 k).2.1==b else false)=true)→(NT 0 1)),(AG (!bif (v.2.1.2 k).1==a then (v.2.1.2 k).2.1==b else false)),(AG (!bif (v.2.1.2 k).1==a then (v.2.1.2 k).2.1==b else false)),(((!bif (v.2.1.2 k).1==a then (v.2.1.2 k).2.1==b else false)=true)→(IL 0 (↑k:Int))),(((!bif (v.2.1.2 k).1==a then (v.2.1.2 k).2.1==b else false)=true)→(IT (↑k:Int) (↑v.2.1.1:Int))),(AG (!bif (v.2.1.2 k).1==a then (v.2.1.2 k).2.1==b else false)),(AG (!bif (v.2.1.2 k).1==a then (v.2.1.2 k).2.1==b else false)),(AG (!bif (v.2.1.2 k).1==a then (v.2.1.2 k).2.1==b else false)),(AG (!bif (v.2.1.2 k).1==a then (v.2.1.2 k).2.1==b else false)),(AG (!bif (v.2.1.2 k).1==a then (v.2.1.2 k).2.1==b else false)),(AG ((!bif (v.2.1.2 k).1==a then (v.2.1.2 k).2.1==b else false)&&(v.2.1.2 k).1==b)),((((!bif (v.2.1.2 k).1==a then (v.2.1.2 k).2.1==b else false)&&(v.2.1.2 k).1==b)=true)→(NT 0 1)),(AG ((!bif (v.2.1.2 k).1==a then (v.2.1.2 k).2.1==b else false)&&(v.2.1.2 k).1==b)),(AG ((!bif (v.2.1.2 k).1==a then (v.2.1.2 k).2.1==b else false)&&(v.2.1.2 k).1==b)),((((!bif (v.2.1.2 k).1==a then (v.2.1.2 k).2.1==b else false)&&(v.2.1.2 k).1==b)=true)→(IL 0 (↑k:Int))),((((!bif (v.2.1.2 k).1==a then (v.2.1.2 k).2.1==b else false)&&(v.2.1.2 k).1==b)=true)→(IT (↑k:Int) (↑v.2.1.1:Int))),(AG ((!bif (v.2.1.2 k).1==a then (v.2.1.2 k).2.1==b else false)&&(v.2.1.2 k).1==b)),(AG ((!bif (v.2.1.2 k).1==a then (v.2.1.2 k).2.1==b else false)&&(v.2.1.2 k).1==b)),(AG ((!bif (v.2.1.2 k).1==a then (v.2.1.2 k).2.1==b else false)&&(v.2.1.2 k).1==b)),(AG ((!bif (v.2.1.2 k).1==a then (v.2.1.2 k).2.1==b else false)&&(v.2.1.2 k).1==b)),(AG (!bif (v.2.1.2 k).1==a then (v.2.1.2 k).2.1==b else false)),(((!bif (v.2.1.2 k).1==a then (v.2.1.2 k).2.1==b else false)=true)→((((v.2.1.2 k).1==b)=true)→ (((!bif (v.2.1.2 k).1==a then (v.2.1.2 k).2.1==b else false)&&(v.2.1.2 k).1==b)=true))),(((bif (v.2.1.2 k).1==a then (v.2.1.2 k).2.1==b else false)=false)→ ((!bif (v.2.1.2 k).1==a then (v.2.1.2 k).2.1==b else false)=true)),((bif bif (v.2.1.2 k).1==a then (v.2.1.2 k).2.1==b else false then true else bif (v.2.1.2 k).1==b then (v.2.1.2 k).2.1==a else false)=true),(ZLo ((↑n:Int)+1)),(ZHi ((↑n:Int)+1)),(ZLo ((↑k:Int)+1)),(ZHi ((↑k:Int)+1)),(AI v.1),(AN v.2.1.1),(AP v.2.1.1 (fun i=>[.int .i64 ((v.2.1.2 i).1),.int .i64 ((v.2.1.2 i).2.1)])),(AI a),(AI b),(AN 0),((((↑n:Int)+1):Int)=(↑(n+1):Int)),((((↑k:Int)+1):Int)=(↑(k+1):Int)),(AN 2),(NL 1 1),(NL 1 1),(AI v.1),(AN v.2.1.1),(AP v.2.1.1 (fun i=>[.int .i64 ((v.2.1.2 i).1),.int .i64 ((v.2.1.2 i).2.1)]))]):=by kernel_rfl
theorem oSf (v:T_Graph) (a b:Int) (k n:Nat) :
    pieceOb Tryz.prog 0 [rg 5,.dec true,rg 38,.dec false,rg 3,.head] zf65 (SOs v a b k n) [0] 1 (SOs v a b (k+1) n) =
    some (zf65,[(NT 0 1),((decide ((↑k:Int)<(↑v.2.1.1:Int)))=true),(NT 0 1),(IL 0 (↑k:Int)),(IT (↑k:Int) (↑v.2.1.1:Int)),(AG ((v.2.1.2 k).1==a)),((((v.2.1.2 k).1==a)=true)→(NT 0 1)),(AG ((v.2.1.2 k).1==a)),(AG ((v.2.1.2 k).1==a)),((((v.2.1.2 k).1==a)=true)→(IL 0 (↑k:Int))),((((v.2.1.2 k).1==a)=true)→(IT (↑k:Int) (↑v.2.1.1:Int))),(AG ((v.2.1.2 k).1==a)),(AG ((v.2.1.2 k).1==a)),(AG ((v.2.1.2 k).1==a)),(AG ((v.2.1.2 k).1==a)),(AG ((v.2.1.2 k).1==a)),(AG (!bif (v.2.1.2 k).1==a then (v.2.1.2 k).2.1==b else false)),(((!bif (v.2.1.2 k).1==a then (v.2.1.2 k).2.1==b else false)=true)→(NT 0 1)),(AG (!bif (v.2.1.2 k).1==a then (v.2.1.2 k).2.1==b else false)),(AG (!bif (v.2.1.2 k).1==a then (v.2.1.2 k).2.1==b else false)),(((!bif (v.2.1.2 k).1==a then (v.2.1.2 k).2.1==b else false)=true)→(IL 0 (↑k:Int))),(((!bif (v.2.1.2 k).1==a then (v.2.1.2 k).2.1==b else false)=true)→(IT (↑k:Int) (↑v.2.1.1:Int))),(AG (!bif (v.2.1.2 k).1==a then (v.2.1.2 k).2.1==b else false)),(AG (!bif (v.2.1.2 k).1==a then (v.2.1.2 k).2.1==b else false)),(AG (!bif (v.2.1.2 k).1==a then (v.2.1.2 k).2.1==b else false)),(AG (!bif (v.2.1.2 k).1==a then (v.2.1.2 k).2.1==b else false)),(AG (!bif (v.2.1.2 k).1==a then (v.2.1.2 k).2.1==b else false)),(AG ((!bif (v.2.1.2 k).1==a then (v.2.1.2 k).2.1==b else false)&&(v.2.1.2 k).1==b)),((((!bif (v.2.1.2 k).1==a then (v.2.1.2 k).2.1==b else false)&&(v.2.1.2 k).1==b)=true)→(NT 0 1)),(AG ((!bif (v.2.1.2 k).1==a then (v.2.1.2 k).2.1==b else false)&&(v.2.1.2 k).1==b)),(AG ((!bif (v.2.1.2 k).1==a then (v.2.1.2 k).2.1==b else false)&&(v.2.1.2 k).1==b)),((((!bif (v.2.1.2 k).1==a then (v.2.1.2 k).2.1==b else false)&&(v.2.1.2 k).1==b)=true)→(IL 0 (↑k:Int))),((((!bif (v.2.1.2 k).1==a then (v.2.1.2 k).2.1==b else false)&&(v.2.1.2 k).1==b)=true)→(IT (↑k:Int) (↑v.2.1.1:Int))),(AG ((!bif (v.2.1.2 k).1==a then (v.2.1.2 k).2.1==b else false)&&(v.2.1.2 k).1==b)),(AG ((!bif (v.2.1.2 k).1==a then (v.2.1.2 k).2.1==b else false)&&(v.2.1.2 k).1==b)),(AG ((!bif (v.2.1.2 k).1==a then (v.2.1.2 k).2.1==b else false)&&(v.2.1.2 k).1==b)),(AG ((!bif (v.2.1.2 k).1==a then (v.2.1.2 k).2.1==b else false)&&(v.2.1.2 k).1==b)),(AG (!bif (v.2.1.2 k).1==a then (v.2.1.2 k).2.1==b else false)),(((!bif (v.2.1.2 k).1==a then (v.2.1.2 k).2.1==b else false)=true)→((((v.2.1.2 k).1==b)=true)→ (((!bif (v.2.1.2 k).1==a then (v.2.1.2 k).2.1==b else false)&&(v.2.1.2 k).1==b)=true))),(((bif (v.2.1.2 k).1==a then (v.2.1.2 k).2.1==b else false)=false)→ ((!bif (v.2.1.2 k).1==a then (v.2.1.2 k).2.1==b else false)=true)),((bif bif (v.2.1.2 k).1==a then (v.2.1.2 k).2.1==b else false then true else bif (v.2.1.2 k).1==b then (v.2.1.2 k).2.1==a else false)=false),(ZLo ((↑k:Int)+1)),(ZHi ((↑k:Int)+1)),(AI v.1),(AN v.2.1.1),(AP v.2.1.1 (fun i=>[.int .i64 ((v.2.1.2 i).1),.int .i64 ((v.2.1.2 i).2.1)])),(AI a),(AI b),(AN 0),(AI ((↑n:Int))),((((↑k:Int)+1):Int)=(↑(k+1):Int)),(AN 2),(NL 1 1),(NL 1 1),(AI v.1),(AN v.2.1.1),(AP v.2.1.1 (fun i=>[.int .i64 ((v.2.1.2 i).1),.int .i64 ((v.2.1.2 i).2.1)]))]):=by kernel_rfl
theorem oSe (v:T_Graph) (a b:Int) (k n:Nat) :
    pathOb Tryz.prog Tryz.f196 0 [rg 5,.dec false,rg 2] zf65 (SOs v a b k n) [] 1 [] (.p (.int .i64 n)) =
    some [(NT 0 1),((decide ((↑k:Int)<(↑v.2.1.1:Int)))=false),(AI ((↑n:Int)))]:=by kernel_rfl
def cbN (g:Nat→T_Bar) (a b:Int):Nat→Nat
  | 0=>0
  | k+1=>if hitB (g k) a b=true then cbN g a b k+1 else cbN g a b k
theorem cbN_le (g:Nat→T_Bar) (a b:Int):∀ k,cbN g a b k≤k
  | 0=>Nat.le_refl _
  | k+1=>by
    have:=cbN_le g a b k
    simp only [cbN]
    split<;>omega
theorem con_CountBar_s (v:T_Graph) (hs:smS s_Graph v) (a b:Int):Con Tryz.prog 196 0 [] [graphA v,.p (.int .i64 a),.p (.int .i64 b)] [] (.p (.int .i64 (cbN v.2.1.2 a b v.2.1.1))):=by
  have hn:v.2.1.1≤1048576:=hs.2.1.1
  refine csZ Tryz.func196 (fun c hc=>?_)
  have lo:∀ d k,k+d=v.2.1.1→Run Tryz.prog c 196 zf65 (SOs v a b k (cbN v.2.1.2 a b k)) (Post c [] (.p (.int .i64 (cbN v.2.1.2 a b v.2.1.1)))):=by
    intro d
    induction d with
    | zero =>
      intro k hk
      obtain rfl:k=v.2.1.1:=by omega
      have hd:decide ((v.2.1.1:Int)<(v.2.1.1:Int))=false:=by simp
      refine pkZ Tryz.func196 hc (oSe v a b v.2.1.1 _) ?_
      repeat' (first | exact aN | apply aI)
      all_goals (first | omega | rfl | (intros;first | assumption | exact trivial | rfl) | (exact hd))
    | succ d ih =>
      intro k hk
      have hd:decide ((k:Int)<(v.2.1.1:Int))=true:=decide_eq_true (by omega)
      have hrec:=ih (k+1) (by omega)
      have hl:=cbN_le v.2.1.2 a b k
      cases hh:hitB (v.2.1.2 k) a b with
      | true =>
        rw [show cbN v.2.1.2 a b (k+1)=cbN v.2.1.2 a b k+1 by simp [cbN,hh]] at hrec
        refine pcZ hc (oSt v a b k _) ?_ hrec
        repeat' (first | exact aN | apply aI)
        all_goals (first | exact aG _ | exact aP _ _ | omega | rfl | (intros;first | assumption | exact trivial | rfl | exact fT ‹_› | ((repeat' (first | assumption | apply anda | apply notf));done)) | (exact hd) | (exact hh) | (simp;omega))
      | false =>
        rw [show cbN v.2.1.2 a b (k+1)=cbN v.2.1.2 a b k by simp [cbN,hh]] at hrec
        refine pcZ hc (oSf v a b k _) ?_ hrec
        repeat' (first | exact aN | apply aI)
        all_goals (first | exact aG _ | exact aP _ _ | omega | rfl | (intros;first | assumption | exact trivial | rfl | exact fT ‹_› | ((repeat' (first | assumption | apply anda | apply notf));done)) | (exact hd) | (exact hh) | (simp;omega))
  refine pcZ hc (oSz v a b) ?_ (lo v.2.1.1 0 (by omega))
  repeat' (first | exact aN | apply aI)
  all_goals (first | exact aP _ _ | omega | rfl | (intros;first | assumption | exact trivial | rfl) | (simp;omega))
end Go.Proofs.YtkkjoghiigiokaaGreat.Mach
namespace Go.Proofs.YtkkjoghiigiokaaGreat.Mach
open Go
set_option linter.unusedVariables false
set_option linter.unusedSimpArgs false
def bbL (n:Nat) (m:Nat→Bool):AV:=.p (.seq true 1 n (fun i=>[.bool (m i)]))
def IbS (n:Nat) (m:Nat→Bool) (k:Nat):St :=
  ⟨[bbL n m,.p (.bool false),.p .any,.p .any,.p .any,.p .any,bbL n m,.p (.int .i64 n),.p (.int .i64 k)]++List.replicate 10 anyA,[],0⟩
def InS2 (x v:T_Graph) (i:Nat):St :=
  ⟨[graphA x,graphA v,.pt 2 0 0 0,.pt 2 1 0 0,.p .any,.p (.int .i64 i)]++List.replicate 27 anyA,[(0,bxV x),(1,bxV v)],2⟩
def PcI (v:T_Graph) (u:T_IntS) (cn:Nat) (C:Nat→T_IntS) (s:T_IntS) (k:Nat):St :=
  ⟨[graphA v,inL u,.pt 2 0 0 0,.p .any,.p .any,.p .any,.ar 1 1 0 cn,.ar 1 2 0 s.1,.p .any,.p .any,.p .any,.p .any,inL u,.p (.int .i64 u.1),.p (.int .i64 k)]++List.replicate 25 anyA,[(0,bxV v),(1,ssOb cn C),(2,iOb s.1 s.2)],3⟩
def PcS (u:T_IntS) (cn:Nat) (C:Nat→T_IntS) (s:T_IntS) (k:Nat):St :=
  ⟨[inL u,.p .any,.p .any,.ar 1 0 0 cn,.ar 1 1 0 s.1,.p (.int .i64 k)]++List.replicate 26 anyA,[(0,ssOb cn C),(1,iOb s.1 s.2)],2⟩
def Cv0 (v:T_Graph) (cn:Nat) (C:Nat→T_IntS) (n:Int) (i:Nat):St :=
  ⟨[graphA v,ssA2 cn C,.pt 2 0 0 0,.p .any,.p .any,.p (.int .i64 n),.p (.int .i64 i)]++List.replicate 82 anyA,[(0,bxV v)],1⟩
def Cv1 (v:T_Graph) (cn:Nat) (C:Nat→T_IntS) (n:Int) (e:Nat):St :=
  ⟨[graphA v,ssA2 cn C,.pt 2 0 0 0,.p .any,.p .any,.p (.int .i64 n),.p .any,.p (.int .i64 e)]++List.replicate 81 anyA,[(0,bxV v)],1⟩
def Cv2 (v:T_Graph) (cn:Nat) (C:Nat→T_IntS) (n:Int) (e:Nat) (b:Bool) (i:Nat):St :=
  ⟨[graphA v,ssA2 cn C,.pt 2 0 0 0,.p .any,.p .any,.p (.int .i64 n),.p .any,.p (.int .i64 e),.p (.bool b),.p (.int .i64 i)]++List.replicate 79 anyA,[(0,bxV v)],1⟩
theorem ibz (n:Nat) (m:Nat→Bool) :
    pieceOb Tryz.prog 0 [rg 1,rg 3,.head] [.code (bodyOf Tryz.f204)] (start Tryz.f204 [] 0 [bbL n m,.p (.bool false)]) [] 1 (IbS n m 0) =
    some (zf95,[(AN n),(AP n (fun i=>[.bool (m i)])),(false=false),(AN n),(AP n (fun i=>[.bool (m i)])),(AI ((↑n:Int))),((0:Int)=(↑0:Int))]):=by kernel_rfl
theorem ibt (n:Nat) (m:Nat→Bool) (k:Nat) :
    pieceOb Tryz.prog 0 [rg 1,.dec true,rg 2,rg 6,.dec false,rg 2,.head] zf95 (IbS n m k) [] 1 (IbS n m (k+1)) =
    some (zf95,[((decide ((↑k:Int)<(↑n:Int)))=true),(IL 0 (↑k:Int)),(IT (↑k:Int) (↑n:Int)),((false==m k)=false),(ZLo ((↑k:Int)+1)),(ZHi ((↑k:Int)+1)),(AN n),(AP n (fun i=>[.bool (m i)])),(false=false),(AN n),(AP n (fun i=>[.bool (m i)])),(AI ((↑n:Int))),((((↑k:Int)+1):Int)=(↑(k+1):Int))]):=by kernel_rfl
theorem ibf (n:Nat) (m:Nat→Bool) (k:Nat) :
    pathOb Tryz.prog Tryz.f204 0 [rg 1,.dec true,rg 2,rg 6,.dec true,rg 2] zf95 (IbS n m k) [] 1 [] (.p (.int .i64 k)) =
    some [((decide ((↑k:Int)<(↑n:Int)))=true),(IL 0 (↑k:Int)),(IT (↑k:Int) (↑n:Int)),((false==m k)=true),(AI ((↑k:Int)))]:=by kernel_rfl
theorem ibe (n:Nat) (m:Nat→Bool) (k:Nat) :
    pathOb Tryz.prog Tryz.f204 0 [rg 1,.dec false,rg 1] zf95 (IbS n m k) [] 1 [] (.p (.int .i64 (-1))) =
    some [((decide ((↑k:Int)<(↑n:Int)))=false),(AI ((-1)))]:=by kernel_rfl
theorem cnb (n:Nat) (m:Nat→Bool) (r:Int) :
    pathOb Tryz.prog Tryz.f96 0 [rg 1,rm [(2,oc [] (.p (.int .i64 r)))] 2] [.code (bodyOf Tryz.f96)] (start Tryz.f96 [] 0 [bbL n m,.p (.bool false)]) [] 1 [] (.p (.bool (decide (r≥0)))) =
    some [Con Tryz.prog 204 0 [] [.p (.seq true 1 n (fun i=>[.bool (m i)])),.p (.bool false)] [] (.p (.int .i64 r)),((decide (r≥0))=(decide (r≥0)))]:=by kernel_rfl
theorem cbr (v:T_Graph) (x:T_Bar) (r:Int) :
    pathOb Tryz.prog Tryz.f93 0 [rg 2,rm [(2,oc [] (.p (.int .i64 r)))] 2] [.code (bodyOf Tryz.f93)] (start Tryz.f93 [] 0 [graphL v.2.1,.agg [.p (.int .i64 x.1),.p (.int .i64 x.2.1)]]) [] 1 [] (.p (.bool (decide (r≥0)))) =
    some [(NT 0 1),Con Tryz.prog 203 0 [] [.p (.seq true 2 v.2.1.1 (fun i=>[.int .i64 ((v.2.1.2 i).1),.int .i64 ((v.2.1.2 i).2.1)])),.agg [.p (.int .i64 x.1),.p (.int .i64 x.2.1)]] [] (.p (.int .i64 r)),((decide (r≥0))=(decide (r≥0)))]:=by kernel_rfl
theorem inz (x v:T_Graph) :
    pieceOb Tryz.prog 0 [rg 3,rg 1,.head] [.code (bodyOf Tryz.f82)] (start Tryz.f82 [] 0 [graphA x,graphA v]) [0,32] 1 (InS2 x v 0) =
    some (zf105,[(AI x.1),(AN x.2.1.1),(AP x.2.1.1 (fun i=>[.int .i64 ((x.2.1.2 i).1),.int .i64 ((x.2.1.2 i).2.1)])),(AI v.1),(AN v.2.1.1),(AP v.2.1.1 (fun i=>[.int .i64 ((v.2.1.2 i).1),.int .i64 ((v.2.1.2 i).2.1)])),(AN 0),(AN 0),((0:Int)=(↑0:Int)),((([AV.p (PV.int IntKind.i64 x.1),graphL x.2.1].length):Nat)=2),(NL 1 1),(NL 1 1),(AI x.1),(AN x.2.1.1),(AP x.2.1.1 (fun i=>[.int .i64 ((x.2.1.2 i).1),.int .i64 ((x.2.1.2 i).2.1)])),((([AV.p (PV.int IntKind.i64 v.1),graphL v.2.1].length):Nat)=2),(NL 1 1),(NL 1 1),(AI v.1),(AN v.2.1.1),(AP v.2.1.1 (fun i=>[.int .i64 ((v.2.1.2 i).1),.int .i64 ((v.2.1.2 i).2.1)]))]):=by kernel_rfl
theorem inq (x v:T_Graph) (i:Nat) (r:Int) :
    pieceOb Tryz.prog 0 [rg 5,.dec true,rm [(13,oc [] (.p (.int .i64 r)))] 1,.dec false,rg 3,.head] zf105 (InS2 x v i) [0,1] 1 (InS2 x v (i+1)) =
    some (zf105,[(NT 0 1),((decide ((↑i:Int)<(↑x.2.1.1:Int)))=true),(NT 0 1),(NT 0 1),(IL 0 (↑i:Int)),(IT (↑i:Int) (↑x.2.1.1:Int)),(NT 0 1),(IL 0 (↑i:Int)),(IT (↑i:Int) (↑x.2.1.1:Int)),Con Tryz.prog 196 0 [] [(zf109 v),.p (.int .i64 ((x.2.1.2 i).1)),.p (.int .i64 ((x.2.1.2 i).2.1))] [] (.p (.int .i64 r)),((r==0)=false),(ZLo ((↑i:Int)+1)),(ZHi ((↑i:Int)+1)),(AI x.1),(AN x.2.1.1),(AP x.2.1.1 (fun i_1=>[.int .i64 ((x.2.1.2 i_1).1),.int .i64 ((x.2.1.2 i_1).2.1)])),(AI v.1),(AN v.2.1.1),(AP v.2.1.1 (fun i_1=>[.int .i64 ((v.2.1.2 i_1).1),.int .i64 ((v.2.1.2 i_1).2.1)])),(AN 0),(AN 0),((((↑i:Int)+1):Int)=(↑(i+1):Int)),(AN 2),(NL 1 1),(NL 1 1),(AI x.1),(AN x.2.1.1),(AP x.2.1.1 (fun i_1=>[.int .i64 ((x.2.1.2 i_1).1),.int .i64 ((x.2.1.2 i_1).2.1)])),(AN 2),(NL 1 1),(NL 1 1),(AI v.1),(AN v.2.1.1),(AP v.2.1.1 (fun i_1=>[.int .i64 ((v.2.1.2 i_1).1),.int .i64 ((v.2.1.2 i_1).2.1)]))]):=by kernel_rfl
theorem inw (x v:T_Graph) (i:Nat) (r:Int) :
    pathOb Tryz.prog Tryz.f82 0 [rg 5,.dec true,rm [(13,oc [] (.p (.int .i64 r)))] 1,.dec true,rg 1] zf105 (InS2 x v i) [] 1 [] (.p (.bool false)) =
    some [(NT 0 1),((decide ((↑i:Int)<(↑x.2.1.1:Int)))=true),(NT 0 1),(NT 0 1),(IL 0 (↑i:Int)),(IT (↑i:Int) (↑x.2.1.1:Int)),(NT 0 1),(IL 0 (↑i:Int)),(IT (↑i:Int) (↑x.2.1.1:Int)),Con Tryz.prog 196 0 [] [(zf109 v),.p (.int .i64 ((x.2.1.2 i).1)),.p (.int .i64 ((x.2.1.2 i).2.1))] [] (.p (.int .i64 r)),((r==0)=true),(false=false)]:=by kernel_rfl
theorem ine (x v:T_Graph) (i:Nat) :
    pathOb Tryz.prog Tryz.f82 0 [rg 5,.dec false,rg 6] zf105 (InS2 x v i) [] 1 [] (.p (.bool (x.1==v.1))) =
    some [(NT 0 1),((decide ((↑i:Int)<(↑x.2.1.1:Int)))=false),(NT 0 1),(NT 0 1),((x.1==v.1)=(x.1==v.1))]:=by kernel_rfl
theorem pcz (v:T_Graph) (u:T_IntS) :
    pieceOb Tryz.prog 0 [rg 3,rg 2,rg 2,rg 3,.head] [.code (bodyOf Tryz.f94)] (start Tryz.f94 [] 0 [graphA v,inL u]) [0,96,160] 1 (PcI v u 0 (fun _=>zPc0) zPc0 0) =
    some (zf53,[(AI v.1),(AN v.2.1.1),(AP v.2.1.1 (fun i=>[.int .i64 ((v.2.1.2 i).1),.int .i64 ((v.2.1.2 i).2.1)])),(AN u.1),(AP u.1 (fun i=>[.int .i64 (u.2 i)])),(AN 0),(AN 0),(AN 0),(AN 0),(AN 0),(AN u.1),(AP u.1 (fun i=>[.int .i64 (u.2 i)])),(AI ((↑u.1:Int))),((0:Int)=(↑0:Int)),((([AV.p (PV.int IntKind.i64 v.1),graphL v.2.1].length):Nat)=2),(NL 1 1),(NL 1 1),(AI v.1),(AN v.2.1.1),(AP v.2.1.1 (fun i=>[.int .i64 ((v.2.1.2 i).1),.int .i64 ((v.2.1.2 i).2.1)])),(AN 1),(NL 0 0),(∀ i:Nat,(((i:Nat)<0)→(All []∧(([.p (.nil)]:List AV)=[.p (.seq false 1 0 (fun i_1=>[.int .i64 (zPc0.2 i_1)]))])))),(AN 1),(NL 0 0),(∀ i:Nat,(((i:Nat)<0)→(All []∧(([.p (.int .i64 0)]:List AV)=[.p (.int .i64 (zPc0.2 i))]))))]):=by kernel_rfl
theorem pca (v:T_Graph) (u:T_IntS) (cn:Nat) (C:Nat→T_IntS) (s:T_IntS) (k:Nat) :
    pieceOb Tryz.prog 0 [rg 1,.dec true,rg 3,rg 2,.dec true,rg 5,rg 2,.head] zf53 (PcI v u cn C s k) [0,1,291] 1 (PcI v u cn C (snI s (u.2 k)) (k+1)) =
    some (zf53,[((decide ((↑k:Int)<(↑u.1:Int)))=true),(IL 0 (↑k:Int)),(IT (↑k:Int) (↑u.1:Int)),((u.2 k != -1)=true),(NL 1 1),(NL s.1 s.1),(NL ((s.1+1)*8) 140737488355328),(NL (s.1+1) 9223372036854775807),(ZLo ((↑k:Int)+1)),(ZHi ((↑k:Int)+1)),(AI v.1),(AN v.2.1.1),(AP v.2.1.1 (fun i=>[.int .i64 ((v.2.1.2 i).1),.int .i64 ((v.2.1.2 i).2.1)])),(AN u.1),(AP u.1 (fun i=>[.int .i64 (u.2 i)])),(AN 0),(AN 0),(AN cn),(AN 0),(AN ((s.1+1))),(AN u.1),(AP u.1 (fun i=>[.int .i64 (u.2 i)])),(AI ((↑u.1:Int))),((((↑k:Int)+1):Int)=(↑(k+1):Int)),(AN 2),(NL 1 1),(NL 1 1),(AI v.1),(AN v.2.1.1),(AP v.2.1.1 (fun i=>[.int .i64 ((v.2.1.2 i).1),.int .i64 ((v.2.1.2 i).2.1)])),(AN 1),(NL cn cn),(AA cn (fun i=>[.p (.seq false 1 ((C i).1) (fun i_1=>[.int .i64 ((C i).2 i_1)]))])),(AN 1),(NL (s.1+1) (s.1+1)),(CV [(291,⟨false,1,(s.1+1),(fun i_1=>(if (i_1<s.1) then [.p (.int .i64 (s.2 i_1))] else [.p (.int .i64 (u.2 k))]))⟩),(259,⟨false,1,1,(fun i_1=>[.p (.int .i64 (u.2 k))])⟩),(0,⟨true,2,1,(fun i_1=>[.p (.int .i64 v.1),.p (.seq true 2 v.2.1.1 (fun i_2=>[.int .i64 ((v.2.1.2 i_2).1),.int .i64 ((v.2.1.2 i_2).2.1)]))])⟩),(1,⟨false,1,cn,(fun i_1=>[.p (.seq false 1 ((C i_1).1) (fun i_2=>[.int .i64 ((C i_1).2 i_2)]))])⟩)] [0,1,291] 1 (s.1+1) (fun i=>if (i<s.1) then [.p (.int .i64 (s.2 i))] else [.p (.int .i64 (u.2 k))]) (fun i=>[.p (.int .i64 ((snI s (u.2 k)).2 i))]))]):=by kernel_rfl
theorem pcb (v:T_Graph) (u:T_IntS) (cn:Nat) (C:Nat→T_IntS) (s:T_IntS) (k:Nat) :
    pieceOb Tryz.prog 0 [rg 1,.dec true,rg 3,rg 2,.dec false,rm [(6,oc [] (.p (.bool true)))] 2,.dec false,rg 5,rg 2,rg 2,.head] zf53 (PcI v u cn C s k) [0,579,643] 1 (PcI v u (cn+1) (snocC cn C s) zPc0 (k+1)) =
    some (zf53,[((decide ((↑k:Int)<(↑u.1:Int)))=true),(IL 0 (↑k:Int)),(IT (↑k:Int) (↑u.1:Int)),((u.2 k != -1)=false),(((!decide ((↑s.1:Int)<2))=true)→(NT 0 1)),(AG (!decide ((↑s.1:Int)<2))),(AG (!decide ((↑s.1:Int)<2))),(((!decide ((↑s.1:Int)<2))=true)→ (AN 1)),(((!decide ((↑s.1:Int)<2))=true)→(NL s.1 s.1)),(((!decide ((↑s.1:Int)<2))=true)→ Con Tryz.prog 97 0 [] [(zf110 v),.p (.seq true 1 s.1 (fun i=>[.int .i64 (s.2 i)]))] [] (.p (.bool true))),(AG (!decide ((↑s.1:Int)<2))),(((decide ((↑s.1:Int)<2))=false)→ ((!decide ((↑s.1:Int)<2))=true)),((bif decide ((↑s.1:Int)<2) then true else !true)=false),(NL 1 1),(NL cn cn),(NL ((cn+1)*24) 140737488355328),(NL (cn+1) 9223372036854775807),(ZLo ((↑k:Int)+1)),(ZHi ((↑k:Int)+1)),(AI v.1),(AN v.2.1.1),(AP v.2.1.1 (fun i=>[.int .i64 ((v.2.1.2 i).1),.int .i64 ((v.2.1.2 i).2.1)])),(AN u.1),(AP u.1 (fun i=>[.int .i64 (u.2 i)])),(AN 0),(AN 0),(AN ((cn+1))),(AN 0),(AN 0),(AN u.1),(AP u.1 (fun i=>[.int .i64 (u.2 i)])),(AI ((↑u.1:Int))),((((↑k:Int)+1):Int)=(↑(k+1):Int)),(AN 2),(NL 1 1),(NL 1 1),(AI v.1),(AN v.2.1.1),(AP v.2.1.1 (fun i=>[.int .i64 ((v.2.1.2 i).1),.int .i64 ((v.2.1.2 i).2.1)])),(AN 1),(NL (cn+1) (cn+1)),(CV [(643,⟨false,1,0,(fun i_1=>[.p (.int .i64 0)])⟩),(579,⟨false,1,(cn+1),(fun i_1=>(if (i_1<cn) then [.p (.seq false 1 ((C i_1).1) (fun i_2=>[.int .i64 ((C i_1).2 i_2)]))] else [.ar 1 2 0 s.1]))⟩),(547,⟨false,1,1,(fun i_1=>[.ar 1 2 0 s.1])⟩),(0,⟨true,2,1,(fun i_1=>[.p (.int .i64 v.1),.p (.seq true 2 v.2.1.1 (fun i_2=>[.int .i64 ((v.2.1.2 i_2).1),.int .i64 ((v.2.1.2 i_2).2.1)]))])⟩),(2,⟨false,1,s.1,(fun i_1=>[.p (.int .i64 (s.2 i_1))])⟩)] [0,579,643] 1 (cn+1) (fun i=>if (i<cn) then [.p (.seq false 1 ((C i).1) (fun i_1=>[.int .i64 ((C i).2 i_1)]))] else [.ar 1 2 0 s.1]) (fun i=>[.p (.seq false 1 (if i<cn then (C i).1 else s.1) (fun i_1=>[.int .i64 ((snocC cn C s i).2 i_1)]))])),(AN 1),(NL 0 0),(∀ i:Nat,(((i:Nat)<0)→(All []∧(([.p (.int .i64 0)]:List AV)=[.p (.int .i64 (zPc0.2 i))]))))]):=by kernel_rfl
theorem pcx (v:T_Graph) (u:T_IntS) (cn:Nat) (C:Nat→T_IntS) (s:T_IntS) (k:Nat) (b:Bool) :
    pathOb Tryz.prog Tryz.f94 0 [rg 1,.dec true,rg 3,rg 2,.dec false,rm [(6,oc [] (.p (.bool b)))] 2,.dec true,rg 2] zf53 (PcI v u cn C s k) [] 1 [] (.tup [.p .nil,.p (.bool false)]) =
    some [((decide ((↑k:Int)<(↑u.1:Int)))=true),(IL 0 (↑k:Int)),(IT (↑k:Int) (↑u.1:Int)),((u.2 k != -1)=false),(((!decide ((↑s.1:Int)<2))=true)→(NT 0 1)),(AG (!decide ((↑s.1:Int)<2))),(AG (!decide ((↑s.1:Int)<2))),(((!decide ((↑s.1:Int)<2))=true)→ (AN 1)),(((!decide ((↑s.1:Int)<2))=true)→(NL s.1 s.1)),(((!decide ((↑s.1:Int)<2))=true)→ Con Tryz.prog 97 0 [] [(zf110 v),.p (.seq true 1 s.1 (fun i=>[.int .i64 (s.2 i)]))] [] (.p (.bool b))),(AG (!decide ((↑s.1:Int)<2))),(((decide ((↑s.1:Int)<2))=false)→ ((!decide ((↑s.1:Int)<2))=true)),((bif decide ((↑s.1:Int)<2) then true else !b)=true),(false=false)]:=by kernel_rfl
theorem pce (v:T_Graph) (u:T_IntS) (cn:Nat) (C:Nat→T_IntS) (s:T_IntS) (k:Nat) :
    pathOb Tryz.prog Tryz.f94 0 [rg 1,.dec false,rg 3] zf53 (PcI v u cn C s k) [1] 1 [(0,ssOb cn C)] (.tup [.ar 1 0 0 cn,.p (.bool true)]) =
    some [((decide ((↑k:Int)<(↑u.1:Int)))=false),(AN 0),(AN cn),(true=true),(AN 1),(NL cn cn),(AA cn (fun i=>[.p (.seq false 1 ((C i).1) (fun i_1=>[.int .i64 ((C i).2 i_1)]))])),(∀ i:Nat,(((i:Nat)<cn)→All [(false=false),(AE (((C i).1)))]))]:=by kernel_rfl
theorem sez (u:T_IntS) :
    pieceOb Tryz.prog 0 [rg 1,rg 2,rg 2,rg 1,.head] [.code (bodyOf Tryz.f85)] (start Tryz.f85 [] 0 [inL u]) [32,96] 1 (PcS u 0 (fun _=>zPc0) zPc0 0) =
    some (zf54,[(AN u.1),(AP u.1 (fun i=>[.int .i64 (u.2 i)])),(AN 0),(AN 0),(AN 0),(AN 0),((0:Int)=(↑0:Int)),(AN 1),(NL 0 0),(∀ i:Nat,(((i:Nat)<0)→(All []∧(([.p (.nil)]:List AV)=[.p (.seq false 1 0 (fun i_1=>[.int .i64 (zPc0.2 i_1)]))])))),(AN 1),(NL 0 0),(∀ i:Nat,(((i:Nat)<0)→(All []∧(([.p (.int .i64 0)]:List AV)=[.p (.int .i64 (zPc0.2 i))]))))]):=by kernel_rfl
theorem sea (u:T_IntS) (cn:Nat) (C:Nat→T_IntS) (s:T_IntS) (k:Nat) :
    pieceOb Tryz.prog 0 [rg 4,.dec true,rg 5,.dec false,rg 8,rg 3,.head] zf54 (PcS u cn C s k) [0,482] 1 (PcS u cn C (snI s (u.2 k)) (k+1)) =
    some (zf54,[((decide ((↑k:Int)<(↑u.1:Int)))=true),(IL 0 (↑k:Int)),(IT (↑k:Int) (↑u.1:Int)),((u.2 k == -1)=false),(IL 0 (↑k:Int)),(IT (↑k:Int) (↑u.1:Int)),(NL 1 1),(NL s.1 s.1),(NL ((s.1+1)*8) 140737488355328),(NL (s.1+1) 9223372036854775807),(ZLo ((↑k:Int)+1)),(ZHi ((↑k:Int)+1)),(AN u.1),(AP u.1 (fun i=>[.int .i64 (u.2 i)])),(AN 0),(AN cn),(AN 0),(AN ((s.1+1))),((((↑k:Int)+1):Int)=(↑(k+1):Int)),(AN 1),(NL cn cn),(AA cn (fun i=>[.p (.seq false 1 ((C i).1) (fun i_1=>[.int .i64 ((C i).2 i_1)]))])),(AN 1),(NL (s.1+1) (s.1+1)),(CV [(482,⟨false,1,(s.1+1),(fun i_1=>(if (i_1<s.1) then [.p (.int .i64 (s.2 i_1))] else [.p (.int .i64 (u.2 k))]))⟩),(450,⟨false,1,1,(fun i_1=>[.p (.int .i64 (u.2 k))])⟩),(0,⟨false,1,cn,(fun i_1=>[.p (.seq false 1 ((C i_1).1) (fun i_2=>[.int .i64 ((C i_1).2 i_2)]))])⟩)] [0,482] 1 (s.1+1) (fun i=>if (i<s.1) then [.p (.int .i64 (s.2 i))] else [.p (.int .i64 (u.2 k))]) (fun i=>[.p (.int .i64 ((snI s (u.2 k)).2 i))]))]):=by kernel_rfl
theorem seb (u:T_IntS) (cn:Nat) (C:Nat→T_IntS) (s:T_IntS) (k:Nat) :
    pieceOb Tryz.prog 0 [rg 4,.dec true,rg 5,.dec true,rg 5,rg 2,rg 3,.head] zf54 (PcS u cn C s k) [386,450] 1 (PcS u (cn+1) (snocC cn C s) zPc0 (k+1)) =
    some (zf54,[((decide ((↑k:Int)<(↑u.1:Int)))=true),(IL 0 (↑k:Int)),(IT (↑k:Int) (↑u.1:Int)),((u.2 k == -1)=true),(NL 1 1),(NL cn cn),(NL ((cn+1)*24) 140737488355328),(NL (cn+1) 9223372036854775807),(ZLo ((↑k:Int)+1)),(ZHi ((↑k:Int)+1)),(AN u.1),(AP u.1 (fun i=>[.int .i64 (u.2 i)])),(AN 0),(AN ((cn+1))),(AN 0),(AN 0),((((↑k:Int)+1):Int)=(↑(k+1):Int)),(AN 1),(NL (cn+1) (cn+1)),(CV [(450,⟨false,1,0,(fun i_1=>[.p (.int .i64 0)])⟩),(386,⟨false,1,(cn+1),(fun i_1=>(if (i_1<cn) then [.p (.seq false 1 ((C i_1).1) (fun i_2=>[.int .i64 ((C i_1).2 i_2)]))] else [.ar 1 1 0 s.1]))⟩),(354,⟨false,1,1,(fun i_1=>[.ar 1 1 0 s.1])⟩),(1,⟨false,1,s.1,(fun i_1=>[.p (.int .i64 (s.2 i_1))])⟩)] [386,450] 1 (cn+1) (fun i=>if (i<cn) then [.p (.seq false 1 ((C i).1) (fun i_1=>[.int .i64 ((C i).2 i_1)]))] else [.ar 1 1 0 s.1]) (fun i=>[.p (.seq false 1 (if i<cn then (C i).1 else s.1) (fun i_1=>[.int .i64 ((snocC cn C s i).2 i_1)]))])),(AN 1),(NL 0 0),(∀ i:Nat,(((i:Nat)<0)→(All []∧(([.p (.int .i64 0)]:List AV)=[.p (.int .i64 (zPc0.2 i))]))))]):=by kernel_rfl
theorem see (u:T_IntS) (cn:Nat) (C:Nat→T_IntS) (s:T_IntS) (k:Nat) :
    pathOb Tryz.prog Tryz.f85 0 [rg 4,.dec false,rg 2] zf54 (PcS u cn C s k) [0] 1 [(0,ssOb cn C)] (.ar 1 0 0 cn) =
    some [((decide ((↑k:Int)<(↑u.1:Int)))=false),(AN 0),(AN cn),(AN 1),(NL cn cn),(AA cn (fun i=>[.p (.seq false 1 ((C i).1) (fun i_1=>[.int .i64 ((C i).2 i_1)]))])),(∀ i:Nat,(((i:Nat)<cn)→All [(false=false),(AE (((C i).1)))]))]:=by kernel_rfl
theorem cvz (v:T_Graph) (cn:Nat) (C:Nat→T_IntS) :
    pieceOb Tryz.prog 0 [rg 2,rg 1,rg 1,.head] [.code (bodyOf Tryz.f84)] (start Tryz.f84 [] 0 [graphA v,ssA2 cn C]) [0] 1 (Cv0 v cn C 0 0) =
    some (zf86,[(AI v.1),(AN v.2.1.1),(AP v.2.1.1 (fun i=>[.int .i64 ((v.2.1.2 i).1),.int .i64 ((v.2.1.2 i).2.1)])),(AN cn),(AP cn (fun i=>[.seq true 1 ((C i).1) (fun i_1=>[.int .i64 ((C i).2 i_1)])])),(AN 0),(AI 0),((0:Int)=(↑0:Int)),((([AV.p (PV.int IntKind.i64 v.1),graphL v.2.1].length):Nat)=2),(NL 1 1),(NL 1 1),(AI v.1),(AN v.2.1.1),(AP v.2.1.1 (fun i=>[.int .i64 ((v.2.1.2 i).1),.int .i64 ((v.2.1.2 i).2.1)]))]):=by kernel_rfl
theorem cva (v:T_Graph) (cn:Nat) (C:Nat→T_IntS) (n:Int) (i:Nat) :
    pieceOb Tryz.prog 0 [rg 4,.dec true,rm [(5,oc [] (.p (.bool true)))] 9,.dec false,rg 10,rg 3,.head] zf86 (Cv0 v cn C n i) [0] 1 (Cv0 v cn C (n+2*((C i).1:Int) - 3) (i+1)) =
    some (zf86,[((decide ((↑i:Int)<(↑cn:Int)))=true),(NT 0 1),(IL 0 (↑i:Int)),(IT (↑i:Int) (↑cn:Int)),Con Tryz.prog 86 0 [] [(zf109 v),.p (.seq true 1 ((C i).1) (fun i_1=>[.int .i64 ((C i).2 i_1)]))] [] (.p (.bool true)),(AG (!!true)),(AG (!!true)),(((!!true)=true)→(IL 0 (↑i:Int))),(((!!true)=true)→(IT (↑i:Int) (↑cn:Int))),(AG (!!true)),(AG (!!true)),(AG (!!true)),(((!true)=false)→ ((!!true)=true)),((bif !true then true else decide ((↑(C (↑i:Int).toNat).1:Int)<2))=false),(IL 0 (↑i:Int)),(IT (↑i:Int) (↑cn:Int)),(ZLo (2*(↑(C i).1:Int))),(ZHi (2*(↑(C i).1:Int))),(ZLo (n+2*(↑(C i).1:Int))),(ZHi (n+2*(↑(C i).1:Int))),(ZLo (n+2*(↑(C i).1:Int) - 3)),(ZHi (n+2*(↑(C i).1:Int) - 3)),(ZLo ((↑i:Int)+1)),(ZHi ((↑i:Int)+1)),(AI v.1),(AN v.2.1.1),(AP v.2.1.1 (fun i_1=>[.int .i64 ((v.2.1.2 i_1).1),.int .i64 ((v.2.1.2 i_1).2.1)])),(AN cn),(AP cn (fun i_1=>[.seq true 1 ((C i_1).1) (fun i_2=>[.int .i64 ((C i_1).2 i_2)])])),(AN 0),(AI ((n+2*(↑(C i).1:Int) - 3))),((((↑i:Int)+1):Int)=(↑(i+1):Int)),(AN 2),(NL 1 1),(NL 1 1),(AI v.1),(AN v.2.1.1),(AP v.2.1.1 (fun i_1=>[.int .i64 ((v.2.1.2 i_1).1),.int .i64 ((v.2.1.2 i_1).2.1)]))]):=by kernel_rfl
theorem cvx (v:T_Graph) (cn:Nat) (C:Nat→T_IntS) (n:Int) (i:Nat) (b:Bool) :
    pathOb Tryz.prog Tryz.f84 0 [rg 4,.dec true,rm [(5,oc [] (.p (.bool b)))] 9,.dec true,rg 1] zf86 (Cv0 v cn C n i) [] 1 [] (.p (.bool false)) =
    some [((decide ((↑i:Int)<(↑cn:Int)))=true),(NT 0 1),(IL 0 (↑i:Int)),(IT (↑i:Int) (↑cn:Int)),Con Tryz.prog 86 0 [] [(zf109 v),.p (.seq true 1 ((C i).1) (fun i_1=>[.int .i64 ((C i).2 i_1)]))] [] (.p (.bool b)),(AG (!!b)),(AG (!!b)),(((!!b)=true)→(IL 0 (↑i:Int))),(((!!b)=true)→(IT (↑i:Int) (↑cn:Int))),(AG (!!b)),(AG (!!b)),(AG (!!b)),(((!b)=false)→ ((!!b)=true)),((bif !b then true else decide ((↑(C (↑i:Int).toNat).1:Int)<2))=true),(false=false)]:=by kernel_rfl
theorem cvb (v:T_Graph) (cn:Nat) (C:Nat→T_IntS) (n:Int) (i:Nat) :
    pieceOb Tryz.prog 0 [rg 4,.dec false,rg 1,.head] zf86 (Cv0 v cn C n i) [0] 1 (Cv1 v cn C n 0) =
    some (zf55,[((decide ((↑i:Int)<(↑cn:Int)))=false),(AI v.1),(AN v.2.1.1),(AP v.2.1.1 (fun i_1=>[.int .i64 ((v.2.1.2 i_1).1),.int .i64 ((v.2.1.2 i_1).2.1)])),(AN cn),(AP cn (fun i_1=>[.seq true 1 ((C i_1).1) (fun i_2=>[.int .i64 ((C i_1).2 i_2)])])),(AN 0),(AI n),((0:Int)=(↑0:Int)),(AN 2),(NL 1 1),(NL 1 1),(AI v.1),(AN v.2.1.1),(AP v.2.1.1 (fun i_1=>[.int .i64 ((v.2.1.2 i_1).1),.int .i64 ((v.2.1.2 i_1).2.1)]))]):=by kernel_rfl
theorem cvc (v:T_Graph) (cn:Nat) (C:Nat→T_IntS) (n:Int) (e:Nat) :
    pieceOb Tryz.prog 0 [rg 5,.dec true,rg 1,rg 1,.head] zf55 (Cv1 v cn C n e) [0] 1 (Cv2 v cn C n e false 0) =
    some (zf11,[(NT 0 1),((decide ((↑e:Int)<(↑v.2.1.1:Int)))=true),(AI v.1),(AN v.2.1.1),(AP v.2.1.1 (fun i=>[.int .i64 ((v.2.1.2 i).1),.int .i64 ((v.2.1.2 i).2.1)])),(AN cn),(AP cn (fun i=>[.seq true 1 ((C i).1) (fun i_1=>[.int .i64 ((C i).2 i_1)])])),(AN 0),(AI n),(AI ((↑e:Int))),(false=false),((0:Int)=(↑0:Int)),(AN 2),(NL 1 1),(NL 1 1),(AI v.1),(AN v.2.1.1),(AP v.2.1.1 (fun i=>[.int .i64 ((v.2.1.2 i).1),.int .i64 ((v.2.1.2 i).2.1)]))]):=by kernel_rfl
theorem cvd (v:T_Graph) (cn:Nat) (C:Nat→T_IntS) (n:Int) (e:Nat) (b:Bool) (i:Nat) (b1 b2:Bool) :
    pieceOb Tryz.prog 0 [rg 4,.dec true,rm [(12,oc [] (.p (.bool b1))),(11,oc [] (.p (.bool b2)))] 3,rg 3,.head] zf11 (Cv2 v cn C n e b i) [0] 1 (Cv2 v cn C n e (bif b then true else bif b1 then b2 else false) (i+1)) =
    some (zf11,[((decide ((↑i:Int)<(↑cn:Int)))=true),(AG (!b)),(AG (!b)),(((!b)=true)→(IL 0 (↑i:Int))),(((!b)=true)→(IT (↑i:Int) (↑cn:Int))),(AG (!b)),(AG (!b)),(((!b)=true)→(NT 0 1)),(AG (!b)),(AG (!b)),(((!b)=true)→(IL 0 (↑e:Int))),(((!b)=true)→(IT (↑e:Int) (↑v.2.1.1:Int))),(AG (!b)),(AG (!b)),(AG (!b)),(AG (!b)),(((!b)=true)→ Con Tryz.prog 172 0 [] [.p (.seq true 1 ((C i).1) (fun i_1=>[.int .i64 ((C i).2 i_1)])),.p (.int .i64 ((v.2.1.2 e).1))] [] (.p (.bool b1))),(AG (!b)),(AG (!b&&b1)),(AG (!b&&b1)),(((!b&&b1)=true)→(IL 0 (↑i:Int))),(((!b&&b1)=true)→(IT (↑i:Int) (↑cn:Int))),(AG (!b&&b1)),(AG (!b&&b1)),(((!b&&b1)=true)→(NT 0 1)),(AG (!b&&b1)),(AG (!b&&b1)),(((!b&&b1)=true)→(IL 0 (↑e:Int))),(((!b&&b1)=true)→(IT (↑e:Int) (↑v.2.1.1:Int))),(AG (!b&&b1)),(AG (!b&&b1)),(AG (!b&&b1)),(AG (!b&&b1)),(((!b&&b1)=true)→ Con Tryz.prog 172 0 [] [.p (.seq true 1 ((C i).1) (fun i_1=>[.int .i64 ((C i).2 i_1)])),.p (.int .i64 ((v.2.1.2 e).2.1))] [] (.p (.bool b2))),(AG (!b)),(((!b)=true)→((b1=true)→ ((!b&&b1)=true))),((b=false)→ ((!b)=true)),(ZLo ((↑i:Int)+1)),(ZHi ((↑i:Int)+1)),(AI v.1),(AN v.2.1.1),(AP v.2.1.1 (fun i_1=>[.int .i64 ((v.2.1.2 i_1).1),.int .i64 ((v.2.1.2 i_1).2.1)])),(AN cn),(AP cn (fun i_1=>[.seq true 1 ((C i_1).1) (fun i_2=>[.int .i64 ((C i_1).2 i_2)])])),(AN 0),(AI n),(AI ((↑e:Int))),((bif b then true else bif b1 then b2 else false)=(bif b then true else bif b1 then b2 else false)),((((↑i:Int)+1):Int)=(↑(i+1):Int)),(AN 2),(NL 1 1),(NL 1 1),(AI v.1),(AN v.2.1.1),(AP v.2.1.1 (fun i_1=>[.int .i64 ((v.2.1.2 i_1).1),.int .i64 ((v.2.1.2 i_1).2.1)]))]):=by kernel_rfl
theorem cvf (v:T_Graph) (cn:Nat) (C:Nat→T_IntS) (n:Int) (e i:Nat) :
    pieceOb Tryz.prog 0 [rg 4,.dec false,rg 2,.dec false,rg 3,.head] zf11 (Cv2 v cn C n e true i) [0] 1 (Cv1 v cn C n (e+1)) =
    some (zf55,[((decide ((↑i:Int)<(↑cn:Int)))=false),((!true)=false),(ZLo ((↑e:Int)+1)),(ZHi ((↑e:Int)+1)),(AI v.1),(AN v.2.1.1),(AP v.2.1.1 (fun i_1=>[.int .i64 ((v.2.1.2 i_1).1),.int .i64 ((v.2.1.2 i_1).2.1)])),(AN cn),(AP cn (fun i_1=>[.seq true 1 ((C i_1).1) (fun i_2=>[.int .i64 ((C i_1).2 i_2)])])),(AN 0),(AI n),((((↑e:Int)+1):Int)=(↑(e+1):Int)),(AN 2),(NL 1 1),(NL 1 1),(AI v.1),(AN v.2.1.1),(AP v.2.1.1 (fun i_1=>[.int .i64 ((v.2.1.2 i_1).1),.int .i64 ((v.2.1.2 i_1).2.1)]))]):=by kernel_rfl
theorem cvg (v:T_Graph) (cn:Nat) (C:Nat→T_IntS) (n:Int) (e i:Nat) :
    pathOb Tryz.prog Tryz.f84 0 [rg 4,.dec false,rg 2,.dec true,rg 1] zf11 (Cv2 v cn C n e false i) [] 1 [] (.p (.bool false)) =
    some [((decide ((↑i:Int)<(↑cn:Int)))=false),((!false)=true),(false=false)]:=by kernel_rfl
theorem cve (v:T_Graph) (cn:Nat) (C:Nat→T_IntS) (n:Int) (e:Nat) :
    pathOb Tryz.prog Tryz.f84 0 [rg 5,.dec false,rg 8] zf55 (Cv1 v cn C n e) [] 1 [] (.p (.bool (decide (n<max 0 (2*v.1 - 3))))) =
    some [(NT 0 1),((decide ((↑e:Int)<(↑v.2.1.1:Int)))=false),(NT 0 1),(ZLo (2*v.1)),(ZHi (2*v.1)),(ZLo (2*v.1 - 3)),(ZHi (2*v.1 - 3)),((decide (n<if true=true then if 2*v.1 - 3>0 then 2*v.1 - 3 else 0 else if 2*v.1 - 3<0 then 2*v.1 - 3 else 0))=(decide (n<max 0 (2*v.1 - 3))))]:=by kernel_rfl
end Go.Proofs.YtkkjoghiigiokaaGreat.Mach
namespace Go.Proofs.YtkkjoghiigiokaaGreat.Mach
open Go
set_option linter.unusedVariables false
set_option linter.unusedSimpArgs false
def ixF (m:Nat→Bool):Nat→Nat→Int
  | 0,_=>-1
  | d+1,i=>if m i=true then ixF m d (i+1) else (i:Int)
theorem ixF_ge (m:Nat→Bool):∀ d i,(∀ j,j<i→m j=true)→decide (ixF m d i≥0)=!allB m (i+d)
  | 0,i,h=>by
    rw [Nat.add_zero,(all_iff m i).2 h];rfl
  | d+1,i,h=>by
    rw [ixF]
    cases hm:m i with
    | true =>
      rw [if_pos rfl,ixF_ge m d (i+1) (fun j hj=>by
        by_cases e:j=i
        · rw [e];exact hm
        · exact h j (by omega)),show i+1+d=i+(d+1) by omega]
    | false =>
      rw [if_neg Bool.false_ne_true,all_no (show i<i+(d+1) by omega) hm,decide_eq_true (by omega)];rfl
theorem con_IndexF (n:Nat) (m:Nat→Bool) (hn:n≤1048576):Con Tryz.prog 204 0 [] [bbL n m,.p (.bool false)] [] (.p (.int .i64 (ixF m n 0))):=by
  refine csZ Tryz.func204 (fun c hc=>?_)
  have lo:∀ d k,k+d=n→Run Tryz.prog c 204 zf95 (IbS n m k) (Post c [] (.p (.int .i64 (ixF m d k)))):=by
    intro d
    induction d with
    | zero =>
      intro k hk
      have hd:decide ((k:Int)<(n:Int))=false:=decide_eq_false (by omega)
      refine pkZ Tryz.func204 hc (ibe n m k) ?_
      repeat' (first | exact aN | apply aI)
      all_goals (first | omega | rfl | (intros;first | assumption | exact trivial | rfl) | (exact hd))
    | succ d ih =>
      intro k hk
      have hd:decide ((k:Int)<(n:Int))=true:=decide_eq_true (by omega)
      rw [ixF]
      cases hm:m k with
      | true =>
        rw [if_pos rfl]
        refine pcZ hc (ibt n m k) ?_ (ih (k+1) (by omega))
        repeat' (first | exact aN | apply aI)
        all_goals (first | exact aP _ _ | omega | rfl | (intros;first | assumption | exact trivial | rfl) | (exact hd) | (rw [hm];rfl) | (intros;simp [All];done))
      | false =>
        rw [if_neg Bool.false_ne_true]
        refine pkZ Tryz.func204 hc (ibf n m k) ?_
        repeat' (first | exact aN | apply aI)
        all_goals (first | omega | rfl | (intros;first | assumption | exact trivial | rfl) | (exact hd) | (rw [hm];rfl))
  refine pcZ hc (ibz n m) ?_ (lo n 0 (by omega))
  repeat' (first | exact aN | apply aI)
  all_goals (first | exact aP _ _ | omega | rfl | (intros;first | assumption | exact trivial | rfl) | (intros;simp [All];done))
theorem con_ContF (n:Nat) (m:Nat→Bool) (hn:n≤1048576):Con Tryz.prog 96 0 [] [bbL n m,.p (.bool false)] [] (.p (.bool !(allB m n))):=by
  have c1:=con_IndexF n m hn
  have e:=ixF_ge m n 0 (fun j hj=>absurd hj (Nat.not_lt_zero _))
  rw [Nat.zero_add] at e
  rw [← e]
  refine csZ Tryz.func96 (fun c hc=>?_)
  refine pkZ Tryz.func96 hc (cnb n m (ixF m n 0)) ?_
  repeat' (first | exact aN | apply aI)
  all_goals (first | omega | rfl | (intros;first | assumption | exact trivial | rfl) | (exact c1))
def hsB (g:Nat→T_Bar) (n:Nat) (x:T_Bar):Bool:=anF (fun i=>beqB x (g i)) n
theorem an_iff (p:Nat→Bool):∀ n,anF p n=true↔∃ i,i<n∧p i=true
  | 0=>⟨fun h=>Bool.noConfusion (show false=true from h),fun ⟨i,h,_⟩=>absurd h (Nat.not_lt_zero _)⟩
  | n+1=>by
    rw [anF,Bool.or_eq_true,an_iff p n]
    constructor
    · rintro (⟨i,h1,h2⟩ | h)
      · exact ⟨i,by omega,h2⟩
      · exact ⟨n,by omega,h⟩
    · rintro ⟨i,h1,h2⟩
      by_cases e:i=n
      · right;rw [← e];exact h2
      · left;exact ⟨i,by omega,h2⟩
theorem ixI_ge (g:Nat→T_Bar) (x:T_Bar):∀ d i,decide (ixI g x d i≥0)=true↔∃ j,i≤j∧j<i+d∧beqB x (g j)=true
  | 0,i=>by
    rw [ixI]
    constructor
    · intro h;exact absurd h (by decide)
    · rintro ⟨j,h1,h2,_⟩;omega
  | d+1,i=>by
    rw [ixI]
    by_cases h:beqB x (g i)=true
    · rw [if_pos h]
      constructor
      · intro _;exact ⟨i,Nat.le_refl _,by omega,h⟩
      · intro _;exact decide_eq_true (by omega)
    · rw [if_neg h,ixI_ge g x d (i+1)]
      constructor
      · rintro ⟨j,h1,h2,h3⟩;exact ⟨j,by omega,by omega,h3⟩
      · rintro ⟨j,h1,h2,h3⟩
        refine ⟨j,?_,by omega,h3⟩
        by_cases e:j=i
        · rw [e] at h3;exact absurd h3 h
        · omega
theorem ix_has (g:Nat→T_Bar) (n:Nat) (x:T_Bar):decide (ixI g x n 0≥0)=hsB g n x:=by
  rw [Bool.eq_iff_iff,ixI_ge,hsB,an_iff]
  constructor
  · rintro ⟨j,_,h2,h3⟩;exact ⟨j,by omega,h3⟩
  · rintro ⟨j,h2,h3⟩;exact ⟨j,Nat.zero_le _,by omega,h3⟩
theorem con_ContB (v:T_Graph) (x:T_Bar) (hn:v.2.1.1≤1048576):Con Tryz.prog 93 0 [] [graphL v.2.1,.agg [.p (.int .i64 x.1),.p (.int .i64 x.2.1)]] [] (.p (.bool (hsB v.2.1.2 v.2.1.1 x))):=by
  have c1:=con_IndexB v x hn
  rw [← ix_has]
  refine csZ Tryz.func93 (fun c hc=>?_)
  refine pkZ Tryz.func93 hc (cbr v x (ixI v.2.1.2 x v.2.1.1 0)) ?_
  repeat' (first | exact aN | apply aI)
  all_goals (first | omega | rfl | (intros;first | assumption | exact trivial | rfl) | (exact c1))
theorem cb_has {N n:Nat} {g:Nat→T_Bar} (ok:OkBars N n g) {x:T_Bar} (hx:x.1<x.2.1):((cbN g x.1 x.2.1 n:Int)==0)=!hsB g n x:=by
  have key:∀ k,k≤n→(((cbN g x.1 x.2.1 k:Int)==0)=!anF (fun i=>beqB x (g i)) k):=by
    intro k
    induction k with
    | zero=>intro _;rfl
    | succ k ih =>
      intro hk
      have h1:=ih (by omega)
      have hb:=ok k (by omega)
      have e:hitB (g k) x.1 x.2.1=beqB x (g k):=by
        have e2:((g k).1==x.2.1&&(g k).2.1==x.1)=false:=by
          cases h:((g k).1==x.2.1&&(g k).2.1==x.1) with
          | false=>rfl
          | true=>simp at h;omega
        unfold hitB
        rw [← beqB_swap]
        cases h3:(bif (g k).1==x.1 then (g k).2.1==x.2.1 else false) with
        | true=>rfl
        | false =>
          show (bif (g k).1==x.2.1 then (g k).2.1==x.1 else false)=false
          rw [← e2];cases ((g k).1==x.2.1)<;>rfl
      rw [anF,cbN,e]
      cases h:beqB x (g k) with
      | true =>
        rw [Bool.or_true]
        simp
        omega
      | false =>
        rw [Bool.or_false,← h1];simp
  exact key n (Nat.le_refl _)
def inB2 (x v:T_Graph):Bool:=bif allB (fun i=>!((cbN v.2.1.2 (x.2.1.2 i).1 (x.2.1.2 i).2.1 v.2.1.1:Int)==0)) x.2.1.1 then x.1==v.1 else false
theorem con_Inside (x v:T_Graph) (hs:smS s_Graph v) (hn:x.2.1.1≤1048576):Con Tryz.prog 82 0 [] [graphA x,graphA v] [] (.p (.bool (inB2 x v))):=by
  refine csZ Tryz.func82 (fun c hc=>?_)
  generalize hp:(fun i=>!((cbN v.2.1.2 (x.2.1.2 i).1 (x.2.1.2 i).2.1 v.2.1.1:Int)==0))=p
  have hr:inB2 x v=bif allB p x.2.1.1 then x.1==v.1 else false:=by rw [← hp];rfl
  have lo:∀ d i,i+d=x.2.1.1→allB p i=true→Run Tryz.prog c 82 zf105 (InS2 x v i) (Post c [] (.p (.bool (inB2 x v)))):=by
    intro d
    induction d with
    | zero =>
      intro i hi ha
      obtain rfl:i=x.2.1.1:=by omega
      have hd:decide ((x.2.1.1:Int)<(x.2.1.1:Int))=false:=decide_eq_false (by omega)
      rw [hr,ha]
      refine pkZ Tryz.func82 hc (ine x v x.2.1.1) ?_
      repeat' (first | exact aN | apply aI)
      all_goals (first | omega | rfl | (intros;first | assumption | exact trivial | rfl) | (exact hd))
    | succ d ih =>
      intro i hi ha
      have hd:decide ((i:Int)<(x.2.1.1:Int))=true:=decide_eq_true (by omega)
      have c1:=con_CountBar_s v hs (x.2.1.2 i).1 (x.2.1.2 i).2.1
      have hpi:p i=!((cbN v.2.1.2 (x.2.1.2 i).1 (x.2.1.2 i).2.1 v.2.1.1:Int)==0):=by rw [← hp]
      generalize (cbN v.2.1.2 (x.2.1.2 i).1 (x.2.1.2 i).2.1 v.2.1.1:Int)=r at c1 hpi
      cases hs:p i with
      | true =>
        have h0:(r==0)=false:=by rw [hs] at hpi;cases h:(r==0)<;>rw [h] at hpi<;>first | rfl | cases hpi
        refine pcZ hc (inq x v i r) ?_ (ih (i+1) (by omega) (by rw [allB,ha,hs];rfl))
        repeat' (first | exact aN | apply aI)
        all_goals (first | exact aP _ _ | omega | rfl | (intros;first | assumption | exact trivial | rfl) | (exact hd) | (exact c1) | (exact h0) | (intros;simp [All];done))
      | false =>
        have h0:(r==0)=true:=by rw [hs] at hpi;cases h:(r==0)<;>rw [h] at hpi<;>first | rfl | cases hpi
        rw [hr,all_no (i:=i) (by omega) hs]
        refine pkZ Tryz.func82 hc (inw x v i r) ?_
        repeat' (first | exact aN | apply aI)
        all_goals (first | omega | rfl | (intros;first | assumption | exact trivial | rfl) | (exact hd) | (exact c1) | (exact h0))
  refine pcZ hc (inz x v) ?_ (lo x.2.1.1 0 (by omega) rfl)
  repeat' (first | exact aN | apply aI)
  all_goals (first | exact aP _ _ | omega | rfl | (intros;first | assumption | exact trivial | rfl) | (intros;simp [All];done))
end Go.Proofs.YtkkjoghiigiokaaGreat.Mach
namespace Go.Proofs.YtkkjoghiigiokaaGreat.Mach
open Go
set_option linter.unusedVariables false
set_option linter.unusedSimpArgs false
def pcR (N:Int) (u:T_IntS):AV:=if pcB N u.2 u.1=true then .tup [.ar 1 0 0 (pcN u.2 u.1),.p (.bool true)] else .tup [.p .nil,.p (.bool false)]
def pcH (N:Int) (u:T_IntS):List (Nat×Ob):=if pcB N u.2 u.1=true then [(0,ssOb (pcN u.2 u.1) (pcC u.2 u.1))] else []
theorem con_pieces (v:T_Graph) (u:T_IntS) (h1:1≤v.1) (h2:v.1≤8) (hu:u.1≤1048576) :
    Con Tryz.prog 94 0 [] [graphA v,inL u] (pcH v.1 u) (pcR v.1 u):=by
  refine csZ Tryz.func94 (fun c hc=>?_)
  have lo:∀ d k,k+d=u.1→pcB v.1 u.2 k=true→Run Tryz.prog c 94 zf53 (PcI v u (pcN u.2 k) (pcC u.2 k) (pcU u.2 k) k) (Post c (pcH v.1 u) (pcR v.1 u)):=by
    intro d
    induction d with
    | zero =>
      intro k hk hb
      obtain rfl:k=u.1:=by omega
      have hd:decide ((u.1:Int)<(u.1:Int))=false:=decide_eq_false (by omega)
      unfold pcR pcH
      rw [if_pos hb,if_pos hb]
      refine pkZ Tryz.func94 hc (pce v u (pcN u.2 u.1) (pcC u.2 u.1) (pcU u.2 u.1) u.1) ?_
      repeat' (first | exact aN | apply aI)
      all_goals (first | exact aA _ _ | exact aE _ | omega | rfl | (intros;first | assumption | exact trivial | rfl) | (exact hd) | (intro t ht;simp [All];done) | (simp only [All];first | exact aA _ _ | exact aE _ | omega | rfl | (intros;first | assumption | exact trivial | rfl) | (exact hd) | (intro t ht;simp [All];done)))
    | succ d ih =>
      intro k hk hb
      have hd:decide ((k:Int)<(u.1:Int))=true:=decide_eq_true (by omega)
      have hsl:=pcU_le u.2 k
      have hnl:=pcN_le u.2 k
      have hcl:=pcC_le u.2 k
      by_cases hm:u.2 k = -1
      · have hne:(!(u.2 k == -1))=false:=by rw [hm];rfl
        have cd:=con_areDifferent v (pcU u.2 k) h1 h2 (by omega)
        cases hq:qsB v.1 (pcU u.2 k) with
        | true =>
          have hr:=ih (k+1) (by omega) (pcB_t hb (.inr hq))
          obtain ⟨e1,e2,e3⟩:=pcC_nlen hm
          rw [e1,e2,e3] at hr
          generalize pcU u.2 k=s at *
          generalize pcN u.2 k=cn at *
          generalize pcC u.2 k=C at *
          have h3:decide ((s.1:Int)<2)=false:=by
            unfold qsB at hq
            cases h:decide ((s.1:Int)<2) with
            | false=>rfl
            | true=>rw [h] at hq;cases hq
          have h4:okD v.1 s.2 s.1=true:=by unfold qsB at hq;rw [h3] at hq;exact hq
          rw [h4] at cd
          refine pcZ hc (pcb v u cn C s k) ?_ hr
          repeat' (first | exact aN | apply aI)
          all_goals (first | exact aG _ | exact aP _ _ | omega | rfl | (intros;first | assumption | exact trivial | rfl | exact fT ‹_› | ((repeat' (first | assumption | apply anda | apply notf));done)) | (exact hd) | (exact hne) | (exact cd) | (intros;exact cd) | (rw [h3];rfl) | (intro t ht;exact absurd ht (Nat.not_lt_zero _)) | (intro t ht;simp [All];done) | (intro j hj;by_cases h:j<cn<;>simp [h,snocC,cvtL,cvt,lendP,cellP,tab,idx,idx1,lkk,idO,idM,Ob.isF,List.lookup,iOb,tg,tru,All]) | (simp only [All];first | exact aG _ | exact aP _ _ | omega | rfl | (intros;first | assumption | exact trivial | rfl | exact fT ‹_› | ((repeat' (first | assumption | apply anda | apply notf));done)) | (exact hd) | (exact hne) | (exact cd) | (intros;exact cd) | (rw [h3];rfl) | (intro t ht;exact absurd ht (Nat.not_lt_zero _)) | (intro t ht;simp [All];done) | (intro j hj;by_cases h:j<cn<;>simp [h,snocC,cvtL,cvt,lendP,cellP,tab,idx,idx1,lkk,idO,idM,Ob.isF,List.lookup,iOb,tg,tru,All])))
        | false =>
          unfold pcR pcH
          have hf:=pcB_f (N:=v.1) hm hq (u.1 - (k+1))
          rw [show k+1+(u.1 - (k+1))=u.1 by omega] at hf
          rw [if_neg (by rw [hf];exact Bool.false_ne_true),if_neg (by rw [hf];exact Bool.false_ne_true)]
          generalize pcU u.2 k=s at *
          generalize pcN u.2 k=cn at *
          generalize pcC u.2 k=C at *
          have hx:(bif decide ((s.1:Int)<2) then true else !okD v.1 s.2 s.1)=true:=by
            unfold qsB at hq;revert hq
            cases decide ((s.1:Int)<2)<;>cases okD v.1 s.2 s.1<;>intro hq<;>first | rfl | cases hq
          refine pkZ Tryz.func94 hc (pcx v u cn C s k (okD v.1 s.2 s.1)) ?_
          repeat' (first | exact aN | apply aI)
          all_goals (first | exact aG _ | omega | rfl | (intros;first | assumption | exact trivial | rfl | exact fT ‹_› | ((repeat' (first | assumption | apply anda | apply notf));done)) | (exact hd) | (exact hne) | (exact hx) | (exact cd) | (intros;exact cd))
      · have hne:(!(u.2 k == -1))=true:=by rw [beq_eq_false_iff_ne.2 hm];rfl
        have hr:=ih (k+1) (by omega) (pcB_t hb (.inl hm))
        obtain ⟨e1,e2,e3⟩:=pcC_add hm
        rw [e1,e2,e3] at hr
        generalize pcU u.2 k=s at *
        generalize pcN u.2 k=cn at *
        generalize pcC u.2 k=C at *
        refine pcZ hc (pca v u cn C s k) ?_ hr
        repeat' (first | exact aN | apply aI)
        all_goals (first | exact aP _ _ | exact aA _ _ | omega | rfl | (intros;first | assumption | exact trivial | rfl) | (exact hd) | (exact hne) | (intro t ht;simp [All];done) | (intro j hj;by_cases h:j<s.1<;>(simp [h,snI,cvtL,cvt,tg,tru,All];done)))
  refine pcZ hc (pcz v u) ?_ (lo u.1 0 (by omega) rfl)
  repeat' (first | exact aN | apply aI)
  all_goals (first | exact aP _ _ | omega | rfl | (intros;first | assumption | exact trivial | rfl) | (intro t ht;exact absurd ht (Nat.not_lt_zero _)) | (intro t ht;simp [All];done) | (simp only [All];first | exact aP _ _ | omega | rfl | (intros;first | assumption | exact trivial | rfl) | (intro t ht;exact absurd ht (Nat.not_lt_zero _)) | (intro t ht;simp [All];done)))
theorem con_l33Sets (u:T_IntS) (hu:u.1≤1048576) :
    Con Tryz.prog 85 0 [] [inL u] [(0,ssOb (pcN u.2 u.1) (pcC u.2 u.1))] (.ar 1 0 0 (pcN u.2 u.1)):=by
  refine csZ Tryz.func85 (fun c hc=>?_)
  have lo:∀ d k,k+d=u.1→Run Tryz.prog c 85 zf54 (PcS u (pcN u.2 k) (pcC u.2 k) (pcU u.2 k) k) (Post c [(0,ssOb (pcN u.2 u.1) (pcC u.2 u.1))] (.ar 1 0 0 (pcN u.2 u.1))):=by
    intro d
    induction d with
    | zero =>
      intro k hk
      obtain rfl:k=u.1:=by omega
      have hd:decide ((u.1:Int)<(u.1:Int))=false:=decide_eq_false (by omega)
      refine pkZ Tryz.func85 hc (see u (pcN u.2 u.1) (pcC u.2 u.1) (pcU u.2 u.1) u.1) ?_
      repeat' (first | exact aN | apply aI)
      all_goals (first | exact aA _ _ | exact aE _ | omega | rfl | (intros;first | assumption | exact trivial | rfl) | (exact hd) | (intro t ht;simp [All];done) | (simp only [All];first | exact aA _ _ | exact aE _ | omega | rfl | (intros;first | assumption | exact trivial | rfl) | (exact hd) | (intro t ht;simp [All];done)))
    | succ d ih =>
      intro k hk
      have hd:decide ((k:Int)<(u.1:Int))=true:=decide_eq_true (by omega)
      have hsl:=pcU_le u.2 k
      have hnl:=pcN_le u.2 k
      have hr:=ih (k+1) (by omega)
      by_cases hm:u.2 k = -1
      · have hne:(u.2 k == -1)=true:=by rw [hm];rfl
        obtain ⟨e1,e2,e3⟩:=pcC_nlen hm
        rw [e1,e2,e3] at hr
        generalize pcU u.2 k=s at *
        generalize pcN u.2 k=cn at *
        generalize pcC u.2 k=C at *
        refine pcZ hc (seb u cn C s k) ?_ hr
        repeat' (first | exact aN | apply aI)
        all_goals (first | exact aP _ _ | omega | rfl | (intros;first | assumption | exact trivial | rfl) | (exact hd) | (exact hne) | (intro t ht;exact absurd ht (Nat.not_lt_zero _)) | (intro t ht;simp [All];done) | (intro j hj;by_cases h:j<cn<;>simp [h,snocC,cvtL,cvt,lendP,cellP,tab,idx,idx1,lkk,idO,idM,Ob.isF,List.lookup,iOb,tg,tru,All]) | (simp only [All];first | exact aP _ _ | omega | rfl | (intros;first | assumption | exact trivial | rfl) | (exact hd) | (exact hne) | (intro t ht;exact absurd ht (Nat.not_lt_zero _)) | (intro t ht;simp [All];done) | (intro j hj;by_cases h:j<cn<;>simp [h,snocC,cvtL,cvt,lendP,cellP,tab,idx,idx1,lkk,idO,idM,Ob.isF,List.lookup,iOb,tg,tru,All])))
      · have hne:(u.2 k == -1)=false:=beq_eq_false_iff_ne.2 hm
        obtain ⟨e1,e2,e3⟩:=pcC_add hm
        rw [e1,e2,e3] at hr
        generalize pcU u.2 k=s at *
        generalize pcN u.2 k=cn at *
        generalize pcC u.2 k=C at *
        refine pcZ hc (sea u cn C s k) ?_ hr
        repeat' (first | exact aN | apply aI)
        all_goals (first | exact aP _ _ | exact aA _ _ | omega | rfl | (intros;first | assumption | exact trivial | rfl) | (exact hd) | (exact hne) | (intro t ht;simp [All];done) | (intro j hj;by_cases h:j<s.1<;>(simp [h,snI,cvtL,cvt,tg,tru,All];done)))
  refine pcZ hc (sez u) ?_ (lo u.1 0 (by omega))
  repeat' (first | exact aN | apply aI)
  all_goals (first | exact aP _ _ | omega | rfl | (intros;first | assumption | exact trivial | rfl) | (intro t ht;exact absurd ht (Nat.not_lt_zero _)) | (intro t ht;simp [All];done) | (simp only [All];first | exact aP _ _ | omega | rfl | (intros;first | assumption | exact trivial | rfl) | (intro t ht;exact absurd ht (Nat.not_lt_zero _)) | (intro t ht;simp [All];done)))
theorem mx0 (x:Int):(if True then if x>0 then x else 0 else if x<0 then x else 0)=max 0 x:=by
  rw [if_pos trivial];split<;>omega
theorem mx1 (x:Int):(if true=true then if x>0 then x else 0 else if x<0 then x else 0)=max 0 x:=by
  rw [if_pos rfl];split<;>omega
def cvrR (v:T_Graph) (cn:Nat) (C:Nat→T_IntS):Bool :=
  allB (fun i=>qsB v.1 (C i)) cn&&(cvrB v.2.1.2 v.2.1.1 cn C&&decide (cvrS C cn<max 0 (2*v.1 - 3)))
theorem con_Covers (v:T_Graph) (cn:Nat) (C:Nat→T_IntS) (h1:1≤v.1) (h2:v.1≤8) (hnb:v.2.1.1≤1048576) (hn:cn≤1048576) (hC:∀ i,(C i).1≤1048576) :
    Con Tryz.prog 84 0 [] [graphA v,ssA2 cn C] [] (.p (.bool (cvrR v cn C))):=by
  refine csZ Tryz.func84 (fun c hc=>?_)
  have sb:=fun k=>cvrS_b (C:=C) hC k
  have lb:allB (fun i=>qsB v.1 (C i)) cn=true→∀ d e,e+d=v.2.1.1→allB (cvM v.2.1.2 C cn) e=true→Run Tryz.prog c 84 zf55 (Cv1 v cn C (cvrS C cn) e) (Post c [] (.p (.bool (cvrR v cn C)))):=by
    intro hq d
    induction d with
    | zero =>
      intro e he ha
      obtain rfl:e=v.2.1.1:=by omega
      have hd:decide ((v.2.1.1:Int)<(v.2.1.1:Int))=false:=decide_eq_false (by omega)
      rw [show cvrR v cn C=decide (cvrS C cn<max 0 (2*v.1 - 3)) by unfold cvrR cvrB;rw [hq,ha];rfl]
      refine pkZ Tryz.func84 hc (cve v cn C (cvrS C cn) v.2.1.1) ?_
      repeat' (first | exact aN | apply aI)
      all_goals (first | omega | rfl | (intros;first | assumption | exact trivial | rfl) | (exact hd) | (rw [mx0]) | (rw [mx1]))
    | succ d ih =>
      intro e he ha
      have hd:decide ((e:Int)<(v.2.1.1:Int))=true:=decide_eq_true (by omega)
      have li:∀ d i,i+d=cn→Run Tryz.prog c 84 zf11 (Cv2 v cn C (cvrS C cn) e (cvM v.2.1.2 C i e) i) (Post c [] (.p (.bool (cvrR v cn C)))):=by
        intro d
        induction d with
        | zero =>
          intro i hi
          obtain rfl:i=cn:=by omega
          have hd:decide ((i:Int)<(i:Int))=false:=decide_eq_false (by omega)
          cases hm:cvM v.2.1.2 C i e with
          | true =>
            refine pcZ hc (cvf v i C (cvrS C i) e i) ?_ (ih (e+1) (by omega) (by rw [allB,ha,hm];rfl))
            repeat' (first | exact aN | apply aI)
            all_goals (first | exact aP _ _ | omega | rfl | (intros;first | assumption | exact trivial | rfl) | (exact hd) | (intro t ht;simp [All];done))
          | false =>
            rw [show cvrR v i C=false by unfold cvrR cvrB;rw [all_no (i:=e) (by omega) hm];cases allB (fun i=>qsB v.1 (C i)) i<;>rfl]
            refine pkZ Tryz.func84 hc (cvg v i C (cvrS C i) e i) ?_
            repeat' (first | exact aN | apply aI)
            all_goals (first | omega | rfl | (intros;first | assumption | exact trivial | rfl) | (exact hd))
        | succ d ih2 =>
          intro i hi
          have hd:decide ((i:Int)<(cn:Int))=true:=decide_eq_true (by omega)
          have k1:=con_l2Has (C i) (v.2.1.2 e).1 (hC i)
          have k2:=con_l2Has (C i) (v.2.1.2 e).2.1 (hC i)
          have hr:=ih2 (i+1) (by omega)
          have em:cvM v.2.1.2 C (i+1) e=(bif cvM v.2.1.2 C i e then true else bif hasI (C i).2 (v.2.1.2 e).1 (C i).1 then hasI (C i).2 (v.2.1.2 e).2.1 (C i).1 else false):=by
            show (cvM v.2.1.2 C i e||(hasI (C i).2 (v.2.1.2 e).1 (C i).1&&hasI (C i).2 (v.2.1.2 e).2.1 (C i).1))=_
            cases cvM v.2.1.2 C i e<;>cases hasI (C i).2 (v.2.1.2 e).1 (C i).1<;>rfl
          rw [em] at hr
          refine pcZ hc (cvd v cn C (cvrS C cn) e (cvM v.2.1.2 C i e) i (hasI (C i).2 (v.2.1.2 e).1 (C i).1) (hasI (C i).2 (v.2.1.2 e).2.1 (C i).1)) ?_ hr
          repeat' (first | exact aN | apply aI)
          all_goals (first | exact aG _ | exact aP _ _ | omega | rfl | (intros;first | assumption | exact trivial | rfl | exact fT ‹_› | ((repeat' (first | assumption | apply anda | apply notf));done)) | (exact hd) | (intros;exact k1) | (intros;exact k2) | (intro t ht;simp [All];done))
      refine pcZ hc (cvc v cn C (cvrS C cn) e) ?_ (li cn 0 (by omega))
      repeat' (first | exact aN | apply aI)
      all_goals (first | exact aP _ _ | omega | rfl | (intros;first | assumption | exact trivial | rfl) | (exact hd) | (intro t ht;simp [All];done))
  have lo:∀ d i,i+d=cn→allB (fun i=>qsB v.1 (C i)) i=true→Run Tryz.prog c 84 zf86 (Cv0 v cn C (cvrS C i) i) (Post c [] (.p (.bool (cvrR v cn C)))):=by
    intro d
    induction d with
    | zero =>
      intro i hi ha
      obtain rfl:i=cn:=by omega
      have hd:decide ((i:Int)<(i:Int))=false:=decide_eq_false (by omega)
      refine pcZ hc (cvb v i C (cvrS C i) i) ?_ (lb ha v.2.1.1 0 (by omega) rfl)
      repeat' (first | exact aN | apply aI)
      all_goals (first | exact aP _ _ | omega | rfl | (intros;first | assumption | exact trivial | rfl) | (exact hd) | (intro t ht;simp [All];done))
    | succ d ih =>
      intro i hi ha
      have hd:decide ((i:Int)<(cn:Int))=true:=decide_eq_true (by omega)
      have k1:=con_l7Points v (C i) (hC i)
      have hCi:=hC i
      have hb:=sb i
      cases hq:qsB v.1 (C i) with
      | true =>
        have h3:decide (((C i).1:Int)<2)=false:=by
          unfold qsB at hq
          cases h:decide (((C i).1:Int)<2) with
          | false=>rfl
          | true=>rw [h] at hq;cases hq
        have h4:okD v.1 (C i).2 (C i).1=true:=by unfold qsB at hq;rw [h3] at hq;exact hq
        rw [h4] at k1
        have hr:=ih (i+1) (by omega) (by rw [allB,ha,hq];rfl)
        rw [show cvrS C (i+1)=cvrS C i+2*((C i).1:Int) - 3 from rfl] at hr
        refine pcZ hc (cva v cn C (cvrS C i) i) ?_ hr
        repeat' (first | exact aN | apply aI)
        all_goals (first | exact aG _ | exact aP _ _ | omega | rfl | (intros;first | assumption | exact trivial | rfl | exact fT ‹_› | ((repeat' (first | assumption | apply anda | apply notf));done)) | (exact hd) | (exact k1) | (intros;exact k1) | (exact h3) | (intros;exact h3) | (intro t ht;simp [All];done))
      | false =>
        rw [show cvrR v cn C=false by unfold cvrR;rw [all_no (i:=i) (by omega) hq];rfl]
        have hx:(bif !okD v.1 (C i).2 (C i).1 then true else decide (((C i).1:Int)<2))=true:=by
          unfold qsB at hq;revert hq
          cases decide (((C i).1:Int)<2)<;>cases okD v.1 (C i).2 (C i).1<;>intro hq<;>first | rfl | cases hq
        refine pkZ Tryz.func84 hc (cvx v cn C (cvrS C i) i (okD v.1 (C i).2 (C i).1)) ?_
        repeat' (first | exact aN | apply aI)
        all_goals (first | exact aG _ | omega | rfl | (intros;first | assumption | exact trivial | rfl | exact fT ‹_› | ((repeat' (first | assumption | apply anda | apply notf));done)) | (exact hd) | (exact hx) | (exact k1) | (intros;exact k1))
  refine pcZ hc (cvz v cn C) ?_ (lo cn 0 (by omega) rfl)
  repeat' (first | exact aN | apply aI)
  all_goals (first | exact aP _ _ | omega | rfl | (intros;first | assumption | exact trivial | rfl) | (intro t ht;simp [All];done))
end Go.Proofs.YtkkjoghiigiokaaGreat.Mach
namespace Go.Proofs.YtkkjoghiigiokaaGreat.Mach
open Go
set_option linter.unusedVariables false
set_option linter.unusedSimpArgs false
theorem con_copyLists (m:Nat) (C:Nat→T_IntS) (hm:m≤1000) (hC:∀ i,i<m→(C i).1≤1000):Con Tryz.prog 355 0 [] [ssA2 m C] [(0,ooOb 1 m C),(1,ffOb m C)] (.ar 1 0 0 m):=by
  refine csZ Tryz.func355 (fun c hc=>?_)
  have lo:∀ d i,i+d=m→Run Tryz.prog c 355 zf63 (CLs m C i) (Post c [(0,ooOb 1 m C),(1,ffOb m C)] (.ar 1 0 0 m)):=by
    intro d
    induction d with
    | zero =>
      intro i hi
      obtain rfl:i=m:=by omega
      have hd:decide ((i:Int)<(i:Int))=false:=decide_eq_false (by omega)
      refine pkZ Tryz.func355 hc (cpe i C i) ?_
      repeat' (first | exact aN | apply aI)
      all_goals (first | exact aP _ _ | exact aA _ _ | exact aE _ | omega | rfl | (intros;first | assumption | exact trivial | rfl) | (exact hd) | (intro t ht;simp [All];done) | (simp only [All];first | exact aP _ _ | exact aA _ _ | exact aE _ | omega | rfl | (intros;first | assumption | exact trivial | rfl) | (exact hd) | (intro t ht;simp [All];done)))
    | succ d ih =>
      intro i hi
      have hd:decide ((i:Int)<(m:Int))=true:=decide_eq_true (by omega)
      have cc:=con_copyInts (C i).1 (C i).2 (by have:=hC i (by omega);omega)
      refine pcZ hc (cpt m C i) ?_ (ih (i+1) (by omega))
      repeat' (first | exact aN | apply aI)
      all_goals (first | exact aP _ _ | omega | rfl | (intros;first | assumption | exact trivial | rfl | exact fT ‹_›) | (exact hd) | (exact cc) | (intro t ht;by_cases h':t<i;exact ⟨by simp [h',cvtL,cvt,tg,tru,idx,idx1,idO,idM,All,Nat.ne_of_lt h'],by simp [h',cvtL,cvt,tg,tru,idx,idx1,idO,idM]⟩;rw [show t=i by omega];exact ⟨by simp [cvtL,cvt,tg,tru,idx,idx1,idO,idM,All],by simp [cvtL,cvt,tg,tru,idx,idx1,idO,idM]⟩) | (intro t ht hne;exact ⟨by omega,by simp [All]⟩) | (intro t ht;simp [All];done) | (intro h;simp [All];done) | (simp only [All];first | exact aP _ _ | omega | rfl | (intros;first | assumption | exact trivial | rfl | exact fT ‹_›) | (exact hd) | (exact cc) | (intro t ht;by_cases h':t<i;exact ⟨by simp [h',cvtL,cvt,tg,tru,idx,idx1,idO,idM,All,Nat.ne_of_lt h'],by simp [h',cvtL,cvt,tg,tru,idx,idx1,idO,idM]⟩;rw [show t=i by omega];exact ⟨by simp [cvtL,cvt,tg,tru,idx,idx1,idO,idM,All],by simp [cvtL,cvt,tg,tru,idx,idx1,idO,idM]⟩) | (intro t ht hne;exact ⟨by omega,by simp [All]⟩) | (intro t ht;simp [All];done) | (intro h;simp [All];done)))
  refine pcZ hc (cpz m C) ?_ (lo m 0 (by omega))
  repeat' (first | exact aN | apply aI)
  all_goals (first | exact aP _ _ | omega | rfl | (intros;first | assumption | exact trivial | rfl) | (intro t ht;exact absurd ht (Nat.not_lt_zero _)) | (intro t ht;simp [All];done) | (simp only [All];first | exact aP _ _ | omega | rfl | (intros;first | assumption | exact trivial | rfl) | (intro t ht;exact absurd ht (Nat.not_lt_zero _)) | (intro t ht;simp [All];done)))
theorem fnd_is {A:Nat→Nat→Int} {c m r i:Nat} (hr:r≤i) (hm:i≤m) (hz:∀ j,r≤j→j<i→A j c=0) (hi:i=m∨A i c≠0):Had.fnd A c m m r=i:=by
  have h1:=Had.fnd_ge A c m m r
  have h2:=Had.fnd_le A c m m r (by omega)
  have h3:=Had.fnd_zero A c m m r i hr
  have h4:=Had.fnd_hit A c m m r (by omega)
  rcases Nat.lt_trichotomy (Had.fnd A c m m r) i with h | h | h
  · exact absurd (hz _ h1 h) (h4 (by omega))
  · exact h
  · rcases hi with hi | hi
    · omega
    · exact absurd (h3 h) hi
def paE (N:Nat→Nat→Int) (r c:Nat) (d:Int) (i k i' k':Nat):Int:=if i'<i then Had.el N r c d i' k' else if i'=i∧k'<k then Had.el N r c d i' k' else N i' k'
theorem el_r (N:Nat→Nat→Int) (r c:Nat) (d:Int) (k:Nat):Had.el N r c d r k=N r k:=by unfold Had.el;rw [if_pos rfl]
theorem paE_r (N:Nat→Nat→Int) (r c:Nat) (d:Int) (i k k':Nat):paE N r c d i k r k'=N r k':=by
  unfold paE
  split
  · exact el_r ..
  · split
    · exact el_r ..
    · rfl
theorem paE_i (N:Nat→Nat→Int) (r c:Nat) (d:Int) (i k k':Nat) (h:k≤k'):paE N r c d i k i k'=N i k':=by
  unfold paE;rw [if_neg (by omega),if_neg (by omega)]
theorem wrap_el {x a f b d:Int} (h:-(2 ^ 62)≤x*a - f*b∧x*a - f*b≤2 ^ 62) (hd:d≠0) (hv:d ∣ x*a - f*b) :
    IntKind.wrap .i64 ((IntKind.wrap .i64 (IntKind.wrap .i64 (x*a) - IntKind.wrap .i64 (f*b))).tdiv d)=(x*a - f*b).tdiv d:=by
  have e:IntKind.wrap .i64 (IntKind.wrap .i64 (x*a) - IntKind.wrap .i64 (f*b))=x*a - f*b:=by
    have h2:IntKind.wrap .i64 (x*a - f*b)=x*a - f*b:=wrap_in (by simp only [imin];omega) (by simp only [imax];omega)
    generalize x*a=u at h h2 ⊢
    generalize f*b=v at h h2 ⊢
    simp only [IntKind.wrap,IntKind.bits,IntKind.signed] at h2 ⊢
    simp at h2 ⊢
    omega
  rw [e]
  refine tdiv_wrap hv hd ?_
  have:=Int.mul_le_mul (a:=(x*a - f*b).natAbs) (b:=(x*a - f*b).natAbs) (c:=2 ^ 62) (d:=2 ^ 62) (by omega) (by omega) (by omega) (by omega)
  rw [Int.natAbs_mul_self'] at this
  exact this
theorem paE_00 (N:Nat→Nat→Int) (r c:Nat) (d:Int):paE N r c d 0 0=N:=by
  funext i k;unfold paE;rw [if_neg (Nat.not_lt_zero _),if_neg (fun h=>absurd h.2 (Nat.not_lt_zero _))]
theorem sI_sI (r q x:Nat):sI r q (sI r q x)=x:=by
  unfold sI Had.sw
  by_cases h1:x=r
  · rw [if_pos h1]
    by_cases h2:q=r
    · rw [if_pos h2,h1,h2]
    · rw [if_neg h2,if_pos rfl,h1]
  · by_cases h2:x=q
    · rw [if_neg h1,if_pos h2,if_pos rfl,h2]
    · rw [if_neg h1,if_neg h2,if_neg h1,if_neg h2]
theorem sI_lt {r q m x:Nat} (hr:r<m) (hq:q<m) (hx:x<m):sI r q x<m:=by
  unfold sI Had.sw;split
  · exact hq
  · split
    · exact hr
    · exact hx
theorem sw_sI {α:Type} (M:Nat→α) (r q i:Nat):M (sI r q i)=Had.sw M r q i:=by
  unfold sI Had.sw;split
  · rfl
  · split<;>rfl
theorem rowsw (r q n t:Nat):(if t=q then [AV.ar 1 ⟨1,some r⟩ 0 n] else if t=r then [AV.ar 1 ⟨1,some q⟩ 0 n] else [AV.ar 1 ⟨1,some t⟩ 0 n])=[AV.ar 1 ⟨1,some (sI r q t)⟩ 0 n]:=by
  unfold sI Had.sw
  by_cases h1:t=q
  · by_cases h2:t=r
    · rw [if_pos h1,if_pos h2,← h1,h2]
    · rw [if_pos h1,if_neg h2,if_pos h1]
  · by_cases h2:t=r
    · rw [if_neg h1,if_pos h2,if_pos h2]
    · rw [if_neg h1,if_neg h2,if_neg h2,if_neg h1]
theorem sI_q (r q:Nat):sI r q q=r:=by
  unfold sI Had.sw;split
  · rename_i h;exact h
  · rw [if_pos rfl]
theorem rstep_full {m c:Nat} {T:Had.RS} (h:T.r=m):Had.rstep m c T=T:=by
  unfold Had.rstep
  have:=Had.fnd_ge T.A c m m T.r
  rw [if_neg (by omega)]
theorem rrun_full {m:Nat} {S:Had.RS} {c:Nat} (h:(Had.rrun m S c).r=m):∀ e,Had.rrun m S (c+e)=Had.rrun m S c
  | 0=>rfl
  | e+1=>by
    rw [show c+(e+1)=(c+e)+1 by omega,Had.rrun,rrun_full h e,rstep_full h]
theorem con_reduced {n m rmx:Nat} {B:Int} {M:Nat→Nat→Int} {K:Nat→Nat→(Nat→Nat→Int)→Prop} (hn:n≤1000) (hm:m≤1000) (hB:1≤B) (hM:B ^ (2*rmx)≤2 ^ 124)
    (hok:∀ c,c≤n→Had.ROK n m rmx B K c (Had.rrun m (Had.rini M) c)) {S:Had.RS} (hS:Had.rrun m (Had.rini M) n=S) :
    Con Tryz.prog 317 0 [] [ssA2 m (cM n M),.p (.int .i64 n)] (mH n m S.A S.r (fun i=>(S.p i:Int))) (.tup [.ar 1 0 0 m,.ar 1 2 0 S.r,.p (.int .i64 S.d)]):=by
  have ccp:=con_copyLists m (cM n M) hm (fun i _=>hn)
  refine csZ Tryz.func317 (fun cx hc=>?_)
  generalize hQ:Post cx (mH n m S.A S.r (fun i=>(S.p i:Int))) (.tup [.ar 1 0 0 m,.ar 1 2 0 S.r,.p (.int .i64 S.d)])=Q
  have l3:∀ (N:Nat→Nat→Int) (r q:Nat) (p:Nat→Int) (d:Int) (c i:Nat),c<n→r<m→i<m→i≠r→d≠0 →
      (∀ k,k<n→d*Had.el N r c d i k=N r c*N i k - N i c*N r k∧-(2 ^ 62)≤N r c*N i k - N i c*N r k∧N r c*N i k - N i c*N r k≤2 ^ 62) →
      Run Tryz.prog cx 317 zf6 (R2 n m (paE N r c d (i+1) 0) r p d c (N r c) (i+1)) Q →
      ∀ e k,k+e=n→Run Tryz.prog cx 317 zf4 (R3 n m (paE N r c d i k) r p d c (N r c) i (N i c) k) Q:=by
    intro N r q p d c i hcn hrm him hir hd0 hE hnext e
    induction e with
    | zero =>
      intro k hk
      obtain rfl:k=n:=by omega
      have hd:decide ((k:Int)<(k:Int))=false:=decide_eq_false (by omega)
      have hT:∀ s,s<m→∀ t,t<k→paE N r c d i k s t=paE N r c d (i+1) 0 s t:=by
        intro s hs t ht
        unfold paE
        by_cases h1:s<i
        · rw [if_pos h1,if_pos (by omega)]
        · by_cases h2:s=i
          · rw [if_neg h1,if_pos ⟨h2,ht⟩,if_pos (by omega)]
          · rw [if_neg h1,if_neg (by omega),if_neg (by omega),if_neg (by omega)]
      refine pcZ hc (rdx k m (paE N r c d i k) (paE N r c d (i+1) 0) r p d c (N r c) i (N i c) k) ?_ hnext
      repeat' (first | exact aN | apply aI)
      all_goals (first | exact aA _ _ | omega | rfl | (intros;first | assumption | exact trivial | rfl) | (exact hd) | (intro s hs;simp only [All,cM];exact ⟨trivial,Nat.le_refl _,fun t ht=>by rw [hT s hs t ht],trivial⟩) | (intro t ht;simp [All];done) | (simp only [All];first | exact aA _ _ | omega | rfl | (intros;first | assumption | exact trivial | rfl) | (exact hd) | (intro s hs;simp only [All,cM];exact ⟨trivial,Nat.le_refl _,fun t ht=>by rw [hT s hs t ht],trivial⟩) | (intro t ht;simp [All];done)))
    | succ e ih =>
      intro k hk
      have hd:decide ((k:Int)<(n:Int))=true:=decide_eq_true (by omega)
      obtain ⟨e1,e2⟩:=hE k (by omega)
      have hw:=wrap_el e2 hd0 ⟨_,e1.symm⟩
      have hv:(N r c*N i k - N i c*N r k).tdiv d=Had.el N r c d i k:=by rw [← e1,Int.mul_tdiv_cancel_left _ hd0]
      rw [hv] at hw
      have hT:∀ s,s<m→∀ t,t<n→paE N r c d i (k+1) s t=if s=i∧t=k then Had.el N r c d i k else paE N r c d i k s t:=by
        intro s hs t ht
        by_cases h1:s=i∧t=k
        · rw [if_pos h1,h1.1,h1.2];unfold paE;rw [if_neg (by omega),if_pos ⟨rfl,by omega⟩]
        · rw [if_neg h1];unfold paE
          by_cases h2:s<i
          · rw [if_pos h2,if_pos h2]
          · rw [if_neg h2,if_neg h2]
            by_cases h3:s=i∧t<k
            · rw [if_pos h3,if_pos (by omega)]
            · rw [if_neg h3,if_neg (by omega)]
      refine pcZ hc (rdk n m (paE N r c d i k) (paE N r c d i (k+1)) r p d c (N r c) i (N i c) k) ?_ (ih (k+1) (by omega))
      repeat' (first | exact aN | apply aI)
      all_goals (first | exact aA _ _ | omega | rfl | (intros;first | assumption | exact trivial | rfl | exact fT ‹_›) | (exact hd) | (exact hd0) | (intro s hs;simp only [cM,paE_r,paE_i N r c d i k k (Nat.le_refl _),hw];by_cases h1:s=i<;>(simp only [h1,if_true,if_false,famE,All];refine ⟨trivial,Nat.le_refl _,fun t ht=>?_,trivial⟩;rw [hT _ (by omega) t ht];by_cases h2:t=k<;>simp [h1,h2,toP])) | (intro t ht;simp [All];done))
  have l2:∀ (N:Nat→Nat→Int) (r:Nat) (p:Nat→Int) (d:Int) (c:Nat),c<n→r<m→r<1000→d≠0 →
      (∀ i k,i<m→i≠r→k<n→d*Had.el N r c d i k=N r c*N i k - N i c*N r k∧-(2 ^ 62)≤N r c*N i k - N i c*N r k∧N r c*N i k - N i c*N r k≤2 ^ 62) →
      ∀ p':Nat→Int,(∀ t,t<r+1→p' t=if t<r then p t else c)→Run Tryz.prog cx 317 zf37 (R0 n m (Had.el N r c d) (r+1) p' (N r c) (c+1)) Q →
      ∀ e i,i+e=m→Run Tryz.prog cx 317 zf6 (R2 n m (paE N r c d i 0) r p d c (N r c) i) Q:=by
    intro N r p d c hcn hrm hr1 hd0 hE p' hp hnext e
    induction e with
    | zero =>
      intro i hi
      obtain rfl:i=m:=by omega
      have hd:decide ((i:Int)<(i:Int))=false:=decide_eq_false (by omega)
      have hT:∀ s,s<i→∀ t,t<n→paE N r c d i 0 s t=Had.el N r c d s t:=fun s hs t _=>by unfold paE;rw [if_pos hs]
      refine pcZ hc (rdy n i (paE N r c d i 0) (Had.el N r c d) r p p' d c (N r c) i) ?_ hnext
      repeat' (first | exact aN | apply aI)
      all_goals (first | exact aA _ _ | omega | rfl | (intros;first | assumption | exact trivial | rfl) | (exact hd) | (intro s hs;simp only [All,cM];exact ⟨trivial,Nat.le_refl _,fun t ht=>by rw [hT s hs t ht],trivial⟩) | (intro t ht;rw [hp t ht];by_cases h':t<r<;>simp [h',cvtL,cvt,tg,tru,All];done) | (intro t ht;simp [All];done) | (simp only [All];first | exact aA _ _ | omega | rfl | (intros;first | assumption | exact trivial | rfl) | (exact hd) | (intro s hs;simp only [All,cM];exact ⟨trivial,Nat.le_refl _,fun t ht=>by rw [hT s hs t ht],trivial⟩) | (intro t ht;rw [hp t ht];by_cases h':t<r<;>simp [h',cvtL,cvt,tg,tru,All];done) | (intro t ht;simp [All];done)))
    | succ e ih =>
      intro i hi
      have hd:decide ((i:Int)<(m:Int))=true:=decide_eq_true (by omega)
      have hr:=ih (i+1) (by omega)
      by_cases hir:i=r
      · have hq:((i:Int)==(r:Int))=true:=by simp [hir]
        have hT:∀ s,s<m→∀ t,t<n→paE N r c d i 0 s t=paE N r c d (i+1) 0 s t:=by
          intro s hs t ht
          unfold paE
          by_cases h1:s<i
          · rw [if_pos h1,if_pos (by omega)]
          · by_cases h2:s=i
            · rw [if_neg h1,if_neg (by omega),if_pos (by omega),h2,hir,el_r]
            · rw [if_neg h1,if_neg (by omega),if_neg (by omega),if_neg (by omega)]
        refine pcZ hc (rdr n m (paE N r c d i 0) (paE N r c d (i+1) 0) r p d c (N r c) i) ?_ hr
        repeat' (first | exact aN | apply aI)
        all_goals (first | exact aA _ _ | omega | rfl | (intros;first | assumption | exact trivial | rfl) | (exact hd) | (exact hq) | (intro s hs;simp only [All,cM];exact ⟨trivial,Nat.le_refl _,fun t ht=>by rw [hT s hs t ht],trivial⟩) | (intro t ht;simp [All];done) | (simp only [All];first | exact aA _ _ | omega | rfl | (intros;first | assumption | exact trivial | rfl) | (exact hd) | (exact hq) | (intro s hs;simp only [All,cM];exact ⟨trivial,Nat.le_refl _,fun t ht=>by rw [hT s hs t ht],trivial⟩) | (intro t ht;simp [All];done)))
      · have hq:((i:Int)==(r:Int))=false:=by simp;omega
        have h3:=l3 N r 0 p d c i hcn hrm (by omega) hir hd0 (fun k hk=>hE i k (by omega) hir hk) hr n 0 (by omega)
        have e1:paE N r c d i 0 i c=N i c:=paE_i N r c d i 0 c (Nat.zero_le _)
        rw [← e1] at h3
        refine pcZ hc (rdi n m (paE N r c d i 0) r p d c (N r c) i) ?_ h3
        repeat' (first | exact aN | apply aI)
        all_goals (first | exact aP _ _ | exact aA _ _ | omega | rfl | (intros;first | assumption | exact trivial | rfl) | (exact hd) | (exact hq) | (intro t ht;simp [All];done) | (simp only [All];first | exact aP _ _ | exact aA _ _ | omega | rfl | (intros;first | assumption | exact trivial | rfl) | (exact hd) | (exact hq) | (intro t ht;simp [All];done)))
  have l0:∀ e c,c+e=n→Run Tryz.prog cx 317 zf37 (R0 n m (Had.rrun m (Had.rini M) c).A (Had.rrun m (Had.rini M) c).r (fun i=>((Had.rrun m (Had.rini M) c).p i:Int)) (Had.rrun m (Had.rini M) c).d c) Q:=by
    intro e
    induction e with
    | zero =>
      intro c hcn
      obtain rfl:c=n:=by omega
      rw [hS,← hQ]
      have hd:(bif decide ((c:Int)<(c:Int)) then decide ((S.r:Int)<(m:Int)) else false)=false:=by simp
      refine pkZ Tryz.func317 hc (rde c m S.A S.r (fun i=>(S.p i:Int)) S.d c) ?_
      repeat' (first | exact aN | apply aI)
      all_goals (first | exact aG _ | exact aP _ _ | exact aA _ _ | exact aE _ | omega | rfl | (intros;first | assumption | exact trivial | rfl) | (exact hd) | (intro h;exact h) | (intro t ht;simp [All];done) | (simp only [All];first | exact aG _ | exact aP _ _ | exact aA _ _ | exact aE _ | omega | rfl | (intros;first | assumption | exact trivial | rfl) | (exact hd) | (intro h;exact h) | (intro t ht;simp [All];done)))
    | succ e ih =>
      intro c hcn
      have hr:=ih (c+1) (by omega)
      have ok:=hok c (by omega)
      have ok':=hok (c+1) (by omega)
      have hst:Had.rrun m (Had.rini M) (c+1)=Had.rstep m c (Had.rrun m (Had.rini M) c):=rfl
      rw [hst] at hr ok'
      generalize Had.rrun m (Had.rini M) c=T at *
      have hrm:=ok.bar.rm
      by_cases hrl:T.r<m
      · have hd:(bif decide ((c:Int)<(n:Int)) then decide ((T.r:Int)<(m:Int)) else false)=true:=by
          rw [decide_eq_true (show (c:Int)<(n:Int) by omega),decide_eq_true (show (T.r:Int)<(m:Int) by omega)];rfl
        have l1:∀ e i,i+e=m→T.r≤i→(∀ j,T.r≤j→j<i→T.A j c=0)→Run Tryz.prog cx 317 zf9 (R1 n m T.A T.r (fun i=>(T.p i:Int)) T.d c i) Q:=by
          intro e
          induction e with
          | zero =>
            intro i hi hri hz
            obtain rfl:i=m:=by omega
            have hf:=fnd_is hri (Nat.le_refl _) hz (.inl rfl)
            have hst:Had.rstep i c T=T:=by unfold Had.rstep;rw [hf,if_neg (Nat.lt_irrefl _)]
            rw [hst] at hr
            have hd0:decide ((i:Int)<(i:Int))=false:=decide_eq_false (by omega)
            have hq:((i:Int)==(i:Int))=true:=by simp
            refine pcZ hc (rdn n i T.A T.r (fun i=>(T.p i:Int)) T.d c i) ?_ hr
            repeat' (first | exact aN | apply aI)
            all_goals (first | exact aG _ | exact aP _ _ | exact aA _ _ | omega | rfl | (intros;first | assumption | exact trivial | rfl | exact fT ‹_›) | (rw [hd0];rfl) | (exact hq) | (intro h;exact h) | (intro h;rw [hd0] at h;cases h) | (intro t ht;simp [All];done) | (simp only [All];first | exact aG _ | exact aP _ _ | exact aA _ _ | omega | rfl | (intros;first | assumption | exact trivial | rfl | exact fT ‹_›) | (rw [hd0];rfl) | (exact hq) | (intro h;exact h) | (intro h;rw [hd0] at h;cases h) | (intro t ht;simp [All];done)))
          | succ e ih2 =>
            intro i hi hri hz
            have hd1:decide ((i:Int)<(m:Int))=true:=decide_eq_true (by omega)
            by_cases h0:T.A i c=0
            · have hb:(bif decide ((i:Int)<(m:Int)) then (cM n T.A i).2 c==0 else false)=true:=by
                rw [hd1];show (T.A i c==0)=true;simp [h0]
              refine pcZ hc (rds n m T.A T.r (fun i=>(T.p i:Int)) T.d c i) ?_ (ih2 (i+1) (by omega) (by omega) (fun j j1 j2=>by
                by_cases h:j=i
                · rw [h];exact h0
                · exact hz j j1 (by omega)))
              repeat' (first | exact aN | apply aI)
              all_goals (first | exact aG _ | exact aP _ _ | exact aA _ _ | omega | rfl | (intros;first | assumption | exact trivial | rfl | exact fT ‹_›) | (exact hb) | (intro h;exact h) | (intro h;omega) | (intro t ht;simp [All];done) | (simp only [All];first | exact aG _ | exact aP _ _ | exact aA _ _ | omega | rfl | (intros;first | assumption | exact trivial | rfl | exact fT ‹_›) | (exact hb) | (intro h;exact h) | (intro h;omega) | (intro t ht;simp [All];done)))
            · have hb:(bif decide ((i:Int)<(m:Int)) then (cM n T.A i).2 c==0 else false)=false:=by
                rw [hd1];show (T.A i c==0)=false;simp [h0]
              have hq:((i:Int)==(m:Int))=false:=by simp;omega
              have hf:=fnd_is hri (show i≤m by omega) hz (.inr h0)
              have hst:Had.rstep m c T=⟨Had.el (Had.sw T.A T.r i) T.r c T.d,T.r+1,fun j=>if j=T.r then c else T.p j,T.A i c⟩:=by
                unfold Had.rstep;rw [hf,if_pos (show i<m by omega)]
              rw [hst] at hr ok'
              have hsw:=ok.bar.swap hri (by omega:i<m)
              have hx:Had.sw T.A T.r i T.r c≠0:=by rw [Had.sw_at];exact h0
              obtain ⟨b1,b2⟩:=hsw.elim (c:=c) hrl (by omega) hx
              have hr2:=ok'.r
              have hr2:T.r+1≤rmx:=hr2
              have hE:∀ i' k,i'<m→i'≠T.r→k<n→T.d*Had.el (Had.sw T.A T.r i) T.r c T.d i' k=Had.sw T.A T.r i T.r c*Had.sw T.A T.r i i' k - Had.sw T.A T.r i i' c*Had.sw T.A T.r i T.r k ∧
                  -(2 ^ 62)≤Had.sw T.A T.r i T.r c*Had.sw T.A T.r i i' k - Had.sw T.A T.r i i' c*Had.sw T.A T.r i T.r k∧Had.sw T.A T.r i T.r c*Had.sw T.A T.r i i' k - Had.sw T.A T.r i i' c*Had.sw T.A T.r i T.r k≤2 ^ 62:=by
                intro i' k h1 h2 h3
                have e1:=b2 i' k h1 h2 h3
                refine ⟨e1,?_⟩
                rw [← e1]
                have hd2:=ok.bar.bd
                have hv:Had.el (Had.sw T.A T.r i) T.r c T.d i' k*Had.el (Had.sw T.A T.r i) T.r c T.d i' k≤B ^ (T.r+2):=by
                  by_cases h4:i'<T.r+1
                  · exact Int.le_trans (b1.bpiv h4 h3) (Had.pow_mono hB (by omega))
                  · exact b1.bnon (by omega) h1 h3
                exact Had.prod_le hB hM hd2 hv (by omega)
              rw [← Had.sw_at T.A T.r i] at hr
              have h2:=l2 (Had.sw T.A T.r i) T.r (fun i=>(T.p i:Int)) T.d c (by omega) hrl (by omega) ok.bar.d0 hE _ (fun t ht=>by
                show ((if t=T.r then c else T.p t:Nat):Int)=_
                by_cases h:t<T.r
                · rw [if_pos h,if_neg (by omega)]
                · rw [if_neg h,if_pos (by omega)]) hr m 0 (by omega)
              rw [paE_00] at h2
              have hsI:∀ t,T.A (sI T.r i t)=Had.sw T.A T.r i t:=fun t=>sw_sI T.A T.r i t
              refine pcZ hc (rdp n m T.A T.r (fun i=>(T.p i:Int)) T.d c i) ?_ (pcZ hc (rdq n m (Had.sw T.A T.r i) T.r (fun i=>(T.p i:Int)) T.d c i) ?_ h2)
              ·
                repeat' (first | exact aN | apply aI)
                all_goals (first | exact aG _ | exact aA _ _ | omega | rfl | (intros;first | assumption | exact trivial | rfl | exact fT ‹_›) | (exact hb) | (exact hq) | (intro h;exact h) | (intro h;omega) | (intro t ht;simp only [rowsw];exact ⟨by simp [cvtL,cvt,idx,idx1,idO,idM,All,sI_sI],by simp [cvtL,cvt,idx,idx1,idO,idM,sI_sI]⟩) | (intro t ht;refine ⟨sI_lt (by omega) (by omega) ht,sI_sI _ _ _,?_⟩;simp [cM,hsI];done) | (intro t ht;simp [All];done) | (simp only [All];first | exact aG _ | exact aA _ _ | omega | rfl | (intros;first | assumption | exact trivial | rfl | exact fT ‹_›) | (exact hb) | (exact hq) | (intro h;exact h) | (intro h;omega) | (intro t ht;simp only [rowsw];exact ⟨by simp [cvtL,cvt,idx,idx1,idO,idM,All,sI_sI],by simp [cvtL,cvt,idx,idx1,idO,idM,sI_sI]⟩) | (intro t ht;refine ⟨sI_lt (by omega) (by omega) ht,sI_sI _ _ _,?_⟩;simp [cM,hsI];done) | (intro t ht;simp [All];done)))
              ·
                repeat' (first | exact aN | apply aI)
                all_goals (first | exact aG _ | exact aP _ _ | exact aA _ _ | exact aE _ | omega | rfl | (intros;first | assumption | exact trivial | rfl | exact fT ‹_› | ((repeat' (first | assumption | apply anda | apply notf));done)) | (intro t ht;simp [All];done))
        refine pcZ hc (rdb n m T.A T.r (fun i=>(T.p i:Int)) T.d c) ?_ (l1 (m - T.r) T.r (by omega) (Nat.le_refl _) (fun j j1 j2=>absurd j2 (by omega)))
        repeat' (first | exact aN | apply aI)
        all_goals (first | exact aG _ | exact aP _ _ | exact aA _ _ | omega | rfl | (intros;first | assumption | exact trivial | rfl) | (exact hd) | (intro h;exact h) | (intro t ht;simp [All];done) | (simp only [All];first | exact aG _ | exact aP _ _ | exact aA _ _ | omega | rfl | (intros;first | assumption | exact trivial | rfl) | (exact hd) | (intro h;exact h) | (intro t ht;simp [All];done)))
      · have hrm':T.r=m:=by omega
        have hd:(bif decide ((c:Int)<(n:Int)) then decide ((T.r:Int)<(m:Int)) else false)=false:=by
          rw [decide_eq_false (show ¬ (T.r:Int)<(m:Int) by omega)];cases decide ((c:Int)<(n:Int))<;>rfl
        rw [rstep_full hrm'] at hst
        have hSe:S=T:=by
          rw [← hS,← hst,show n=(c+1)+e by omega]
          exact rrun_full (by rw [hst];exact hrm') e
        rw [← hQ,hSe]
        refine pkZ Tryz.func317 hc (rde n m T.A T.r (fun i=>(T.p i:Int)) T.d c) ?_
        repeat' (first | exact aN | apply aI)
        all_goals (first | exact aG _ | exact aP _ _ | exact aA _ _ | exact aE _ | omega | rfl | (intros;first | assumption | exact trivial | rfl) | (exact hd) | (intro h;exact h) | (intro t ht;simp [All];done) | (simp only [All];first | exact aG _ | exact aP _ _ | exact aA _ _ | exact aE _ | omega | rfl | (intros;first | assumption | exact trivial | rfl) | (exact hd) | (intro h;exact h) | (intro t ht;simp [All];done)))
  refine pcZ hc (rdz n m M) ?_ (l0 n 0 (by omega))
  repeat' (first | exact aN | apply aI)
  all_goals (first | exact aP _ _ | exact aA _ _ | omega | rfl | (intros;first | assumption | exact trivial | rfl) | (exact ccp) | (intro t ht;exact absurd ht (Nat.not_lt_zero _)) | (intro t ht;simp [All];done) | (simp only [All];first | exact aP _ _ | exact aA _ _ | omega | rfl | (intros;first | assumption | exact trivial | rfl) | (exact ccp) | (intro t ht;exact absurd ht (Nat.not_lt_zero _)) | (intro t ht;simp [All];done)))
end Go.Proofs.YtkkjoghiigiokaaGreat.Mach
namespace Go.Proofs.YtkkjoghiigiokaaGreat.Mach
open Go
set_option linter.unusedVariables false
set_option linter.unusedSimpArgs false
theorem wrap_sub {u v:Int} (h:-(2 ^ 62)≤u - v∧u - v≤2 ^ 62):IntKind.wrap .i64 (IntKind.wrap .i64 u - IntKind.wrap .i64 v)=u - v:=by
  simp only [IntKind.wrap,IntKind.bits,IntKind.signed]
  simp
  omega
theorem sq_of {x:Int} (h:-(2 ^ 62)≤x∧x≤2 ^ 62):x*x≤2 ^ 124:=by
  have:=sq_nat (x:=x.natAbs) (by omega)
  rwa [Int.natAbs_mul_self'] at this
theorem con_Without (n j:Nat) (a row:Nat→Int) (hn:n≤1000) (hj:j<n) (h0:row j≠0) (ha:∀ k,k<n→a k*a k≤2 ^ 124) (hr:∀ k,k<n→row k*row k≤2 ^ 124)
    (hw:∀ k,k<n→Had.wo a row j k*Had.wo a row j k≤2 ^ 124) :
    Con Tryz.prog 314 0 [] [inD n a,inD n row,.p (.int .i64 j)] [(0,iOb n (Had.prm n (Had.wo a row j)))] (.ar 1 0 0 n):=by
  have cg:=con_Gcd_s (ha j hj) (hr j hj)
  have cc:=con_Clean n (Had.wo a row j) hn hw
  have g0:((Int.gcd (a j) (row j):Nat):Int)≠0:=fun h=>by
    have:Int.gcd (a j) (row j)=0:=by omega
    rw [Int.gcd_eq_zero_iff] at this;exact h0 this.2
  have w1:=tdiv_wrap (Int.gcd_dvd_right (a j) (row j)) g0 (hr j hj)
  have w2:=tdiv_wrap (Int.gcd_dvd_left (a j) (row j)) g0 (ha j hj)
  have hwo:∀ k,k<n→IntKind.wrap .i64 (IntKind.wrap .i64 (a k*(row j).tdiv (Int.gcd (a j) (row j):Nat)) - IntKind.wrap .i64 (row k*(a j).tdiv (Int.gcd (a j) (row j):Nat)))=Had.wo a row j k:=fun k hk =>
    wrap_sub (Had.sq_le (y:=2 ^ 62) (by decide) (hw k hk))
  generalize hG:((Int.gcd (a j) (row j):Nat):Int)=G at *
  refine csZ Tryz.func314 (fun c hc=>?_)
  have lo:∀ d i,i+d=n→Run Tryz.prog c 314 zf34 (WoS n a row ((row j).tdiv G) ((a j).tdiv G) i (Had.wo a row j)) (Post c [(0,iOb n (Had.prm n (Had.wo a row j)))] (.ar 1 0 0 n)):=by
    intro d
    induction d with
    | zero =>
      intro i hi
      obtain rfl:i=n:=by omega
      have hd:decide ((i:Int)<(i:Int))=false:=decide_eq_false (by omega)
      refine pkZ Tryz.func314 hc (wxe i a row ((row j).tdiv G) ((a j).tdiv G) (Had.wo a row j) (Had.prm i (Had.wo a row j))) ?_
      repeat' (first | exact aN | apply aI)
      all_goals (first | exact aA _ _ | exact aE _ | omega | rfl | (intros;first | assumption | exact trivial | rfl) | (exact hd) | (exact cc) | (intro t ht;simp [All];done))
    | succ d ih =>
      intro i hi
      have hd:decide ((i:Int)<(n:Int))=true:=decide_eq_true (by omega)
      have hi':=hwo i (by omega)
      refine pcZ hc (wxt n a row ((row j).tdiv G) ((a j).tdiv G) i (Had.wo a row j) (Had.wo a row j)) ?_ (ih (i+1) (by omega))
      repeat' (first | exact aN | apply aI)
      all_goals (first | exact aP _ _ | omega | rfl | (intros;first | assumption | exact trivial | rfl) | (exact hd) | (intro t ht;rw [hi'];by_cases h':t<i;exact ⟨by simp [h',cvtL,cvt,tg,tru,All],by simp [h',cvtL,cvt,tg,tru]⟩;rw [show t=i by omega];exact ⟨by simp [cvtL,cvt,tg,tru,All],by simp [cvtL,cvt,tg,tru]⟩) | (intro t ht;simp [All];done))
  refine pcZ hc (wxz n j a row G ((row j).tdiv G) ((a j).tdiv G) (Had.wo a row j)) ?_ (lo n 0 (by omega))
  repeat' (first | exact aN | apply aI)
  all_goals (first | exact aP _ _ | omega | rfl | (intros;first | assumption | exact trivial | rfl) | (exact cg) | (exact g0) | (exact w1) | (exact w2) | (intro t ht;exact absurd ht (Nat.not_lt_zero _)) | (intro t ht;simp [All];done) | (simp only [All];first | exact aP _ _ | omega | rfl | (intros;first | assumption | exact trivial | rfl) | (exact cg) | (exact g0) | (exact w1) | (exact w2) | (intro t ht;exact absurd ht (Nat.not_lt_zero _)) | (intro t ht;simp [All];done)))
theorem rowsw' (r q n t:Nat):(if t=r then [AV.ar 1 ⟨1,some q⟩ 0 n] else if t=q then [AV.ar 1 ⟨1,some r⟩ 0 n] else [AV.ar 1 ⟨1,some t⟩ 0 n])=[AV.ar 1 ⟨1,some (sI r q t)⟩ 0 n]:=by
  unfold sI Had.sw
  by_cases h1:t=r
  · rw [if_pos h1,if_pos h1]
  · by_cases h2:t=q
    · rw [if_neg h1,if_pos h2,if_neg h1,if_pos h2]
    · rw [if_neg h1,if_neg h2,if_neg h1,if_neg h2]
theorem el_rf (N:Nat→Nat→Int) (r c:Nat) (d:Int):Had.el N r c d r=N r:=funext fun k=>el_r N r c d k
theorem con_l9Reduced {n m rmx:Nat} {B:Int} {M:Nat→Nat→Int} {K:Nat→Nat→(Nat→Nat→Int)→Prop} (hn:n≤1000) (hm:m≤1000) (hB:1≤B) (hM:B ^ (2*rmx)≤2 ^ 124) (hx1:1≤rmx)
    (hok:∀ c,c≤n→Had.ROK n m rmx B K c (Had.rrun m (Had.rini M) c)) {S:Had.RS} (hS:Had.rrun m (Had.rini M) n=S) :
    Con Tryz.prog 226 0 [] [ssA2 m (cM n M)] (mH n m (fun i=>Had.prm n (S.A i)) S.r (fun i=>(S.p i:Int))) (.tup [.ar 1 0 0 m,.ar 1 2 0 S.r]):=by
  refine csZ Tryz.func226 (fun cx hc=>?_)
  generalize hQ:Post cx (mH n m (fun i=>Had.prm n (S.A i)) S.r (fun i=>(S.p i:Int))) (.tup [.ar 1 0 0 m,.ar 1 2 0 S.r])=Q
  have hpow:∀ j,j≤2*rmx→B ^ j≤2 ^ 124:=fun j hj=>Int.le_trans (Had.pow_mono hB hj) hM
  have l3:∀ (N:Nat→Nat→Int) (r:Nat) (p:Nat→Int) (d:Int) (c:Nat),c<n→r<m→d≠0→N r c≠0 →
      (∀ i k,i<m→k<n→N i k*N i k≤2 ^ 124) →
      (∀ i k,i<m→i≠r→k<n→d*Had.el N r c d i k=N r c*N i k - N i c*N r k∧(d*Had.el N r c d i k)*(d*Had.el N r c d i k)≤2 ^ 124) →
      ∀ p':Nat→Int,(∀ t,t<r+1→p' t=if t<r then p t else c) →
      Run Tryz.prog cx 226 zf38 (Q1 n m (fun i=>Had.prm n (Had.el N r c d i)) (r+1) p' (c+1)) Q →
      ∀ e i,i+e=m→Run Tryz.prog cx 226 zf7 (Q3 n m (fun i'=>if i'<i then Had.prm n (Had.el N r c d i') else Had.prm n (N i')) r p c i) Q:=by
    intro N r p d c hcn hrm hd0 hx hN hE p' hp hnext e
    induction e with
    | zero =>
      intro i hi
      obtain rfl:i=m:=by omega
      have hd:decide ((i:Int)<(i:Int))=false:=decide_eq_false (by omega)
      have hT:∀ s,s<i→(if s<i then Had.prm n (Had.el N r c d s) else Had.prm n (N s))=Had.prm n (Had.el N r c d s):=fun s hs=>if_pos hs
      refine pcZ hc (qx n i (fun i'=>if i'<i then Had.prm n (Had.el N r c d i') else Had.prm n (N i')) (fun i=>Had.prm n (Had.el N r c d i)) r p p' c i) ?_ hnext
      repeat' (first | exact aN | apply aI)
      all_goals (first | exact aA _ _ | omega | rfl | (intros;first | assumption | exact trivial | rfl) | (exact hd) | (intro s hs;simp only [All,cM];exact ⟨trivial,Nat.le_refl _,fun t ht=>by rw [hT s hs],trivial⟩) | (intro t ht;rw [hp t ht];by_cases h':t<r<;>simp [h',cvtL,cvt,tg,tru,All];done) | (intro t ht;simp [All];done) | (simp only [All];first | exact aA _ _ | omega | rfl | (intros;first | assumption | exact trivial | rfl) | (exact hd) | (intro s hs;simp only [All,cM];exact ⟨trivial,Nat.le_refl _,fun t ht=>by rw [hT s hs],trivial⟩) | (intro t ht;rw [hp t ht];by_cases h':t<r<;>simp [h',cvtL,cvt,tg,tru,All];done) | (intro t ht;simp [All];done)))
    | succ e ih =>
      intro i hi
      have hr:=ih (i+1) (by omega)
      have hd:decide ((i:Int)<(m:Int))=true:=decide_eq_true (by omega)
      have e1:(if i<i then Had.prm n (Had.el N r c d i) else Had.prm n (N i))=Had.prm n (N i):=if_neg (Nat.lt_irrefl _)
      have e2:(if r<i then Had.prm n (Had.el N r c d r) else Had.prm n (N r))=Had.prm n (N r):=by rw [el_rf];split<;>rfl
      have next:(∀ k,k<n→Had.prm n (Had.el N r c d i) k=Had.prm n (N i) k)→∀ s,s<m→∀ t,t<n →
          (if s<i then Had.prm n (Had.el N r c d s) else Had.prm n (N s)) t=(if s<i+1 then Had.prm n (Had.el N r c d s) else Had.prm n (N s)) t:=by
        intro h s hs t ht
        by_cases h1:s<i
        · rw [if_pos h1,if_pos (by omega)]
        · by_cases h2:s=i
          · rw [if_neg h1,if_pos (by omega),h2,h t ht]
          · rw [if_neg h1,if_neg (by omega)]
      by_cases hir:i=r
      · have hb:(bif (i:Int) != (r:Int) then (cM n (fun i'=>if i'<i then Had.prm n (Had.el N r c d i') else Had.prm n (N i')) i).2 c != 0 else false)=false:=by simp [hir]
        have hT:=next (fun k hk=>by rw [hir,el_rf])
        refine pcZ hc (qf n m (fun i'=>if i'<i then Had.prm n (Had.el N r c d i') else Had.prm n (N i')) (fun i'=>if i'<i+1 then Had.prm n (Had.el N r c d i') else Had.prm n (N i')) r p c i) ?_ hr
        repeat' (first | exact aN | apply aI)
        all_goals (first | exact aG _ | exact aA _ _ | omega | rfl | (intros;first | assumption | exact trivial | rfl | exact fT ‹_›) | (exact hd) | (exact hb) | (intro s hs;simp only [All,cM];exact ⟨trivial,Nat.le_refl _,fun t ht=>by rw [hT s hs t ht],trivial⟩) | (intro h;exact h) | (intro h;omega) | (intro t ht;simp [All];done) | (simp only [All];first | exact aG _ | exact aA _ _ | omega | rfl | (intros;first | assumption | exact trivial | rfl | exact fT ‹_›) | (exact hd) | (exact hb) | (intro s hs;simp only [All,cM];exact ⟨trivial,Nat.le_refl _,fun t ht=>by rw [hT s hs t ht],trivial⟩) | (intro h;exact h) | (intro h;omega) | (intro t ht;simp [All];done)))
      · have hi1:(i:Int) != (r:Int):=by simp;omega
        have sp:=fun k hk=>Had.step_prm (n:=n) (u:=N i) (v:=N r) (w:=Had.el N r c d i) hd0 hcn hx (fun k hk=>(hE i k (by omega) hir hk).1) (k:=k) hk
        by_cases h0:Had.prm n (N i) c=0
        · have hb:(bif (i:Int) != (r:Int) then (cM n (fun i'=>if i'<i then Had.prm n (Had.el N r c d i') else Had.prm n (N i')) i).2 c != 0 else false)=false:=by
            rw [hi1]
            show ((if i<i then Had.prm n (Had.el N r c d i) else Had.prm n (N i)) c != 0)=false
            rw [e1,h0];rfl
          have hT:=next (fun k hk=>by rw [(sp k hk).1,if_pos h0])
          refine pcZ hc (qf n m (fun i'=>if i'<i then Had.prm n (Had.el N r c d i') else Had.prm n (N i')) (fun i'=>if i'<i+1 then Had.prm n (Had.el N r c d i') else Had.prm n (N i')) r p c i) ?_ hr
          repeat' (first | exact aN | apply aI)
          all_goals (first | exact aG _ | exact aA _ _ | omega | rfl | (intros;first | assumption | exact trivial | rfl | exact fT ‹_›) | (exact hd) | (exact hb) | (intro s hs;simp only [All,cM];exact ⟨trivial,Nat.le_refl _,fun t ht=>by rw [hT s hs t ht],trivial⟩) | (intro h;exact h) | (intro h;omega) | (intro t ht;simp [All];done) | (simp only [All];first | exact aG _ | exact aA _ _ | omega | rfl | (intros;first | assumption | exact trivial | rfl | exact fT ‹_›) | (exact hd) | (exact hb) | (intro s hs;simp only [All,cM];exact ⟨trivial,Nat.le_refl _,fun t ht=>by rw [hT s hs t ht],trivial⟩) | (intro h;exact h) | (intro h;omega) | (intro t ht;simp [All];done)))
        · have hb:(bif (i:Int) != (r:Int) then (cM n (fun i'=>if i'<i then Had.prm n (Had.el N r c d i') else Had.prm n (N i')) i).2 c != 0 else false)=true:=by
            rw [hi1]
            show ((if i<i then Had.prm n (Had.el N r c d i) else Had.prm n (N i)) c != 0)=true
            rw [e1];simpa using h0
          have cw:=con_Without n c (Had.prm n (N i)) (Had.prm n (N r)) hn hcn (fun h=>hx ((Had.prm_zero hcn).1 h)) (fun k hk=>Int.le_trans (Had.prm_sq hk) (hN i k (by omega) hk)) (fun k hk=>Int.le_trans (Had.prm_sq hk) (hN r k hrm hk))
            (fun k hk=>Int.le_trans ((sp k hk).2 k hk) (hE i k (by omega) hir hk).2)
          have hT:∀ t,t<n→Had.prm n (Had.wo (Had.prm n (N i)) (Had.prm n (N r)) c) t=Had.prm n (Had.el N r c d i) t:=fun t ht=>by rw [(sp t ht).1,if_neg h0]
          generalize Had.prm n (Had.wo (Had.prm n (N i)) (Had.prm n (N r)) c)=w at cw hT
          have cw':Con Tryz.prog 314 0 [] [inD n (if i<i then Had.prm n (Had.el N r c d i) else Had.prm n (N i)),inD n (if r<i then Had.prm n (Had.el N r c d r) else Had.prm n (N r)),.p (.int .i64 c)] [(0,iOb n w)] (.ar 1 0 0 n):=by
            rw [e1,e2];exact cw
          have hN1:∀ s,s≠i→(if s<i then Had.prm n (Had.el N r c d s) else Had.prm n (N s))=(if s<i+1 then Had.prm n (Had.el N r c d s) else Had.prm n (N s)):=fun s hs=>by
            by_cases h1:s<i
            · rw [if_pos h1,if_pos (by omega)]
            · rw [if_neg h1,if_neg (by omega)]
          have hN2:(if i<i+1 then Had.prm n (Had.el N r c d i) else Had.prm n (N i))=Had.prm n (Had.el N r c d i):=if_pos (by omega)
          refine pcZ hc (qt n m (fun i'=>if i'<i then Had.prm n (Had.el N r c d i') else Had.prm n (N i')) (fun i'=>if i'<i+1 then Had.prm n (Had.el N r c d i') else Had.prm n (N i')) r p c i w) ?_ hr
          repeat' (first | exact aN | apply aI)
          all_goals (first | exact aG _ | exact aA _ _ | omega | rfl | (intros;first | assumption | exact trivial | rfl | exact fT ‹_› | ((repeat' (first | assumption | apply anda | apply notf));done)) | (exact hd) | (exact hb) | (exact cw') | (intro h;exact h) | (intro h;omega) | (intro s hs;by_cases h1:s=i;exact ⟨by simp [h1,cvtL,cvt,idx,idx1,idO,idM,All],by simp [h1,cvtL,cvt,idx,idx1,idO,idM]⟩;exact ⟨by simp [h1,cvtL,cvt,idx,idx1,idO,idM,All],by simp [h1,cvtL,cvt,idx,idx1,idO,idM]⟩) | (intro s hs hne;refine ⟨hs,?_⟩;simp only [All,cM];exact ⟨trivial,Nat.le_refl _,fun t ht=>by rw [hN1 s hne],trivial⟩) | (intro _;simp only [All,cM];exact ⟨trivial,Nat.le_refl _,fun t ht=>by rw [hN2,hT t ht],trivial⟩) | (intro t ht;simp [All];done) | (simp only [All];first | exact aG _ | exact aA _ _ | omega | rfl | (intros;first | assumption | exact trivial | rfl | exact fT ‹_› | ((repeat' (first | assumption | apply anda | apply notf));done)) | (exact hd) | (exact hb) | (exact cw') | (intro h;exact h) | (intro h;omega) | (intro s hs;by_cases h1:s=i;exact ⟨by simp [h1,cvtL,cvt,idx,idx1,idO,idM,All],by simp [h1,cvtL,cvt,idx,idx1,idO,idM]⟩;exact ⟨by simp [h1,cvtL,cvt,idx,idx1,idO,idM,All],by simp [h1,cvtL,cvt,idx,idx1,idO,idM]⟩) | (intro s hs hne;refine ⟨hs,?_⟩;simp only [All,cM];exact ⟨trivial,Nat.le_refl _,fun t ht=>by rw [hN1 s hne],trivial⟩) | (intro _;simp only [All,cM];exact ⟨trivial,Nat.le_refl _,fun t ht=>by rw [hN2,hT t ht],trivial⟩) | (intro t ht;simp [All];done)))
  have l1:0<m→∀ e c,c+e=n→Run Tryz.prog cx 226 zf38 (Q1 n m (fun i=>Had.prm n ((Had.rrun m (Had.rini M) c).A i)) (Had.rrun m (Had.rini M) c).r (fun i=>((Had.rrun m (Had.rini M) c).p i:Int)) c) Q:=by
    intro hm0 e
    have dm:decide ((m:Int)>0)=true:=decide_eq_true (by omega)
    induction e with
    | zero =>
      intro c hcn
      obtain rfl:c=n:=by omega
      rw [hS,← hQ]
      have hd:(bif decide ((m:Int)>0) then decide ((c:Int)<(c:Int)) else false)=false:=by rw [dm];simp
      refine pkZ Tryz.func226 hc (qe c m (fun i=>Had.prm c (S.A i)) S.r (fun i=>(S.p i:Int)) c) ?_
      repeat' (first | exact aN | apply aI)
      all_goals (first | exact aG _ | exact aP _ _ | exact aA _ _ | exact aE _ | omega | rfl | (intros;first | assumption | exact trivial | rfl | exact fT ‹_›) | (exact hd) | (intro h;exact h) | (intro h;omega) | (intro t ht;simp [All];done) | (simp only [All];first | exact aG _ | exact aP _ _ | exact aA _ _ | exact aE _ | omega | rfl | (intros;first | assumption | exact trivial | rfl | exact fT ‹_›) | (exact hd) | (intro h;exact h) | (intro h;omega) | (intro t ht;simp [All];done)))
    | succ e ih =>
      intro c hcn
      have hr:=ih (c+1) (by omega)
      have ok:=hok c (by omega)
      have ok':=hok (c+1) (by omega)
      have hst:Had.rrun m (Had.rini M) (c+1)=Had.rstep m c (Had.rrun m (Had.rini M) c):=rfl
      rw [hst] at hr ok'
      generalize Had.rrun m (Had.rini M) c=T at *
      have hrm:=ok.bar.rm
      have hd:(bif decide ((m:Int)>0) then decide ((c:Int)<(n:Int)) else false)=true:=by
        rw [dm,decide_eq_true (show (c:Int)<(n:Int) by omega)];rfl
      have l2:∀ e i,i+e=m→T.r≤i→(∀ j,T.r≤j→j<i→T.A j c=0)→Run Tryz.prog cx 226 zf10 (Q2 n m (fun i=>Had.prm n (T.A i)) T.r (fun i=>(T.p i:Int)) c i) Q:=by
        intro e
        induction e with
        | zero =>
          intro i hi hri hz
          obtain rfl:i=m:=by omega
          have hf:=fnd_is hri (Nat.le_refl _) hz (.inl rfl)
          have hst:Had.rstep i c T=T:=by unfold Had.rstep;rw [hf,if_neg (Nat.lt_irrefl _)]
          rw [hst] at hr
          have hd0:decide ((i:Int)<(i:Int))=false:=decide_eq_false (by omega)
          have hq:((i:Int)==(i:Int))=true:=by simp
          refine pcZ hc (qn n i (fun i=>Had.prm n (T.A i)) T.r (fun i=>(T.p i:Int)) c i) ?_ hr
          repeat' (first | exact aN | apply aI)
          all_goals (first | exact aG _ | exact aP _ _ | exact aA _ _ | omega | rfl | (intros;first | assumption | exact trivial | rfl | exact fT ‹_›) | (rw [hd0];rfl) | (exact hq) | (intro h;exact h) | (intro h;rw [hd0] at h;cases h) | (intro t ht;simp [All];done) | (simp only [All];first | exact aG _ | exact aP _ _ | exact aA _ _ | omega | rfl | (intros;first | assumption | exact trivial | rfl | exact fT ‹_›) | (rw [hd0];rfl) | (exact hq) | (intro h;exact h) | (intro h;rw [hd0] at h;cases h) | (intro t ht;simp [All];done)))
        | succ e ih2 =>
          intro i hi hri hz
          have hd1:decide ((i:Int)<(m:Int))=true:=decide_eq_true (by omega)
          by_cases h0:T.A i c=0
          · have hb:(bif decide ((i:Int)<(m:Int)) then (cM n (fun i=>Had.prm n (T.A i)) i).2 c==0 else false)=true:=by
              rw [hd1];show (Had.prm n (T.A i) c==0)=true;rw [(Had.prm_zero (by omega)).2 h0];rfl
            refine pcZ hc (qs n m (fun i=>Had.prm n (T.A i)) T.r (fun i=>(T.p i:Int)) c i) ?_ (ih2 (i+1) (by omega) (by omega) (fun j j1 j2=>by
              by_cases h:j=i
              · rw [h];exact h0
              · exact hz j j1 (by omega)))
            repeat' (first | exact aN | apply aI)
            all_goals (first | exact aG _ | exact aP _ _ | exact aA _ _ | omega | rfl | (intros;first | assumption | exact trivial | rfl | exact fT ‹_›) | (exact hb) | (intro h;exact h) | (intro h;omega) | (intro t ht;simp [All];done) | (simp only [All];first | exact aG _ | exact aP _ _ | exact aA _ _ | omega | rfl | (intros;first | assumption | exact trivial | rfl | exact fT ‹_›) | (exact hb) | (intro h;exact h) | (intro h;omega) | (intro t ht;simp [All];done)))
          · have hp0:Had.prm n (T.A i) c≠0:=fun h=>h0 ((Had.prm_zero (by omega)).1 h)
            have hb:(bif decide ((i:Int)<(m:Int)) then (cM n (fun i=>Had.prm n (T.A i)) i).2 c==0 else false)=false:=by
              rw [hd1];show (Had.prm n (T.A i) c==0)=false;simpa using hp0
            have hq:((i:Int)==(m:Int))=false:=by simp;omega
            have hf:=fnd_is hri (show i≤m by omega) hz (.inr h0)
            have hst:Had.rstep m c T=⟨Had.el (Had.sw T.A T.r i) T.r c T.d,T.r+1,fun j=>if j=T.r then c else T.p j,T.A i c⟩:=by
              unfold Had.rstep;rw [hf,if_pos (show i<m by omega)]
            rw [hst] at hr ok'
            have hrl:T.r<m:=by omega
            have hsw:=ok.bar.swap hri (by omega:i<m)
            have hx:Had.sw T.A T.r i T.r c≠0:=by rw [Had.sw_at];exact h0
            obtain ⟨b1,b2⟩:=hsw.elim (c:=c) hrl (by omega) hx
            have hr2:T.r+1≤rmx:=ok'.r
            have hE:∀ i' k,i'<m→i'≠T.r→k<n→T.d*Had.el (Had.sw T.A T.r i) T.r c T.d i' k=Had.sw T.A T.r i T.r c*Had.sw T.A T.r i i' k - Had.sw T.A T.r i i' c*Had.sw T.A T.r i T.r k ∧
                (T.d*Had.el (Had.sw T.A T.r i) T.r c T.d i' k)*(T.d*Had.el (Had.sw T.A T.r i) T.r c T.d i' k)≤2 ^ 124:=by
              intro i' k h1 h2 h3
              refine ⟨b2 i' k h1 h2 h3,sq_of ?_⟩
              have hd2:=ok.bar.bd
              have hv:Had.el (Had.sw T.A T.r i) T.r c T.d i' k*Had.el (Had.sw T.A T.r i) T.r c T.d i' k≤B ^ (T.r+2):=by
                by_cases h4:i'<T.r+1
                · exact Int.le_trans (b1.bpiv h4 h3) (Had.pow_mono hB (by omega))
                · exact b1.bnon (by omega) h1 h3
              exact Had.prod_le hB hM hd2 hv (by omega)
            have hN:∀ i' k,i'<m→k<n→Had.sw T.A T.r i i' k*Had.sw T.A T.r i i' k≤2 ^ 124:=by
              intro i' k h1 h2
              by_cases h4:i'<T.r
              · exact Int.le_trans (hsw.bpiv h4 h2) (hpow _ (by omega))
              · exact Int.le_trans (hsw.bnon (by omega) h1 h2) (hpow _ (by omega))
            have h3:=l3 (Had.sw T.A T.r i) T.r (fun i=>(T.p i:Int)) T.d c (by omega) hrl ok.bar.d0 hx hN hE _ (fun t ht=>by
              show ((if t=T.r then c else T.p t:Nat):Int)=_
              by_cases h:t<T.r
              · rw [if_pos h,if_neg (by omega)]
              · rw [if_neg h,if_pos (by omega)]) hr m 0 (by omega)
            have hsI:∀ t,T.A (sI T.r i t)=Had.sw T.A T.r i t:=fun t=>sw_sI T.A T.r i t
            have e0:(fun i'=>if i'<0 then Had.prm n (Had.el (Had.sw T.A T.r i) T.r c T.d i') else Had.prm n (Had.sw T.A T.r i i'))=Had.sw (fun i=>Had.prm n (T.A i)) T.r i:=funext fun i'=>by
              rw [if_neg (Nat.not_lt_zero _),← sw_sI (fun i=>Had.prm n (T.A i)) T.r i i',← hsI]
            rw [e0] at h3
            have hsJ:∀ t,Had.prm n (T.A (sI T.r i t))=Had.sw (fun i=>Had.prm n (T.A i)) T.r i t:=fun t=>sw_sI (fun i=>Had.prm n (T.A i)) T.r i t
            refine pcZ hc (qp n m (fun i=>Had.prm n (T.A i)) T.r (fun i=>(T.p i:Int)) c i) ?_ h3
            repeat' (first | exact aN | apply aI)
            all_goals (first | exact aG _ | exact aA _ _ | omega | rfl | (intros;first | assumption | exact trivial | rfl | exact fT ‹_›) | (exact hb) | (exact hq) | (intro h;exact h) | (intro h;omega) | (exact sI_q _ _) | (exact sI_sI _ _ _) | (intro t ht;simp only [rowsw'];exact ⟨by simp [cvtL,cvt,idx,idx1,idO,idM,All,sI_sI],by simp [cvtL,cvt,idx,idx1,idO,idM,sI_sI]⟩) | (intro t ht;refine ⟨sI_lt (by omega) (by omega) ht,sI_sI _ _ _,?_⟩;simp [cM,hsJ];done) | (intro t ht;simp [All];done) | (simp only [All];first | exact aG _ | exact aA _ _ | omega | rfl | (intros;first | assumption | exact trivial | rfl | exact fT ‹_›) | (exact hb) | (exact hq) | (intro h;exact h) | (intro h;omega) | (exact sI_q _ _) | (exact sI_sI _ _ _) | (intro t ht;simp only [rowsw'];exact ⟨by simp [cvtL,cvt,idx,idx1,idO,idM,All,sI_sI],by simp [cvtL,cvt,idx,idx1,idO,idM,sI_sI]⟩) | (intro t ht;refine ⟨sI_lt (by omega) (by omega) ht,sI_sI _ _ _,?_⟩;simp [cM,hsJ];done) | (intro t ht;simp [All];done)))
      refine pcZ hc (qb n m (fun i=>Had.prm n (T.A i)) T.r (fun i=>(T.p i:Int)) c) ?_ (l2 (m - T.r) T.r (by omega) (Nat.le_refl _) (fun j j1 j2=>absurd j2 (by omega)))
      repeat' (first | exact aN | apply aI)
      all_goals (first | exact aG _ | exact aP _ _ | exact aA _ _ | omega | rfl | (intros;first | assumption | exact trivial | rfl | exact fT ‹_›) | (exact hd) | (intro h;exact h) | (intro h;omega) | (intro t ht;simp [All];done) | (simp only [All];first | exact aG _ | exact aP _ _ | exact aA _ _ | omega | rfl | (intros;first | assumption | exact trivial | rfl | exact fT ‹_›) | (exact hd) | (intro h;exact h) | (intro h;omega) | (intro t ht;simp [All];done)))
  have hb0:=(hok 0 (Nat.zero_le _)).bar
  have l0:∀ e i,i+e=m→Run Tryz.prog cx 226 zf64 (Q0 m (cM n M) i (cM n (fun i=>Had.prm n (M i)))) Q:=by
    intro e
    induction e with
    | zero =>
      intro i hi
      obtain rfl:i=m:=by omega
      have hd:decide ((i:Int)<(i:Int))=false:=decide_eq_false (by omega)
      by_cases hm0:0<i
      · refine pcZ hc (qzc n i (cM n M) (fun i=>Had.prm n (M i))) ?_ (l1 hm0 n 0 (by omega))
        repeat' (first | exact aN | apply aI)
        all_goals (first | exact aP _ _ | exact aA _ _ | omega | rfl | (intros;first | assumption | exact trivial | rfl) | (exact hd) | (intro t ht;exact absurd ht (Nat.not_lt_zero _)) | (intro t ht;simp [All];done) | (simp only [All];first | exact aP _ _ | exact aA _ _ | omega | rfl | (intros;first | assumption | exact trivial | rfl) | (exact hd) | (intro t ht;exact absurd ht (Nat.not_lt_zero _)) | (intro t ht;simp [All];done)))
      · obtain rfl:i=0:=by omega
        have hSe:S=Had.rini M:=by
          rw [← hS,show n=0+n by omega]
          exact rrun_full (S:=Had.rini M) (c:=0) rfl n
        have dm:decide (((0:Nat):Int)>0)=false:=decide_eq_false (by omega)
        have hd2:(bif decide (((0:Nat):Int)>0) then decide (((0:Nat):Int)<(n:Int)) else false)=false:=by rw [dm];rfl
        rw [← hQ,hSe]
        refine pcZ hc (qzc n 0 (cM n M) (fun i=>Had.prm n (M i))) ?_ (pkZ Tryz.func226 hc (qe n 0 (fun i=>Had.prm n (M i)) 0 (fun _=>0) 0) ?_)
        ·
          repeat' (first | exact aN | apply aI)
          all_goals (first | exact aP _ _ | exact aA _ _ | omega | rfl | (intros;first | assumption | exact trivial | rfl) | (exact hd) | (intro t ht;exact absurd ht (Nat.not_lt_zero _)) | (intro t ht;simp [All];done) | (simp only [All];first | exact aP _ _ | exact aA _ _ | omega | rfl | (intros;first | assumption | exact trivial | rfl) | (exact hd) | (intro t ht;exact absurd ht (Nat.not_lt_zero _)) | (intro t ht;simp [All];done)))
        ·
          repeat' (first | exact aN | apply aI)
          all_goals (first | exact aG _ | exact aP _ _ | exact aA _ _ | exact aE _ | omega | rfl | (intros;first | assumption | exact trivial | rfl | exact fT ‹_› | ((repeat' (first | assumption | apply anda | apply notf));done)) | (exact hd2) | (intro h;exact h) | (intro h;rw [dm] at h;cases h) | (intro t ht;exact absurd ht (Nat.not_lt_zero _)) | (intro t ht;simp [All];done))
    | succ e ih =>
      intro i hi
      have hd:decide ((i:Int)<(m:Int))=true:=decide_eq_true (by omega)
      have cc:=con_Clean n (M i) hn (fun k hk=>Int.le_trans (hb0.bnon (Nat.zero_le i) (by omega) hk) (hpow 1 (by omega)))
      refine pcZ hc (qzb m (cM n M) (cM n (fun i=>Had.prm n (M i))) i) ?_ (ih (i+1) (by omega))
      repeat' (first | exact aN | apply aI)
      all_goals (first | exact aP _ _ | omega | rfl | (intros;first | assumption | exact trivial | rfl | exact fT ‹_›) | (exact hd) | (exact cc) | (intro t ht;by_cases h':t<i;exact ⟨by simp [h',cvtL,cvt,tg,tru,idx,idx1,idO,idM,All,Nat.ne_of_lt h'],by simp [h',cvtL,cvt,tg,tru,idx,idx1,idO,idM]⟩;rw [show t=i by omega];exact ⟨by simp [cvtL,cvt,tg,tru,idx,idx1,idO,idM,All],by simp [cvtL,cvt,tg,tru,idx,idx1,idO,idM]⟩) | (intro t ht hne;exact ⟨by omega,by simp [All]⟩) | (intro t ht;simp [All];done) | (intro h;simp [All];done) | (simp only [All];first | exact aP _ _ | omega | rfl | (intros;first | assumption | exact trivial | rfl | exact fT ‹_›) | (exact hd) | (exact cc) | (intro t ht;by_cases h':t<i;exact ⟨by simp [h',cvtL,cvt,tg,tru,idx,idx1,idO,idM,All,Nat.ne_of_lt h'],by simp [h',cvtL,cvt,tg,tru,idx,idx1,idO,idM]⟩;rw [show t=i by omega];exact ⟨by simp [cvtL,cvt,tg,tru,idx,idx1,idO,idM,All],by simp [cvtL,cvt,tg,tru,idx,idx1,idO,idM]⟩) | (intro t ht hne;exact ⟨by omega,by simp [All]⟩) | (intro t ht;simp [All];done) | (intro h;simp [All];done)))
  refine pcZ hc (qza m (cM n M) (cM n (fun i=>Had.prm n (M i)))) ?_ (l0 m 0 (by omega))
  repeat' (first | exact aN | apply aI)
  all_goals (first | exact aP _ _ | omega | rfl | (intros;first | assumption | exact trivial | rfl) | (intro t ht;exact absurd ht (Nat.not_lt_zero _)) | (intro t ht;simp [All];done) | (simp only [All];first | exact aP _ _ | omega | rfl | (intros;first | assumption | exact trivial | rfl) | (intro t ht;exact absurd ht (Nat.not_lt_zero _)) | (intro t ht;simp [All];done)))
end Go.Proofs.YtkkjoghiigiokaaGreat.Mach
namespace Go.Proofs.YtkkjoghiigiokaaGreat.Mach
open Go
set_option linter.unusedVariables false
set_option linter.unusedSimpArgs false
theorem aft_or (a b:T_Bar):aft a b=true↔a.1<b.1∨(a.1=b.1∧a.2.1≤b.2.1):=by
  unfold aft
  by_cases h1:a.1<b.1
  · simp [h1]
  · by_cases h2:a.1=b.1
    · simp [h2]
    · have:(a.1==b.1)=false:=beq_eq_false_iff_ne.2 h2
      simp [h1,h2]
def AscB (n:Nat) (h:Nat→T_Bar):Prop:=∀ s,s+1<n→aft (h s) (h (s+1))=true
theorem isG_of {N nb:Nat} {g:Nat→T_Bar} (hN:1≤N∧N≤8) (hnb:nb≤24) (hok:OkBars N nb g) (ha:AscB nb g):isGraphF ((N:Int),(nb,g),())=true:=by
  have hgood:∀ k,k≤nb→goodB (N:Int) g k=true:=by
    intro k
    induction k with
    | zero=>intro _;rfl
    | succ k ih =>
      intro hk
      rw [goodB,ih (by omega),Bool.true_and,Bool.not_eq_true']
      have hb:=hok k (by omega)
      have a1:decide ((g k).1<0)=false:=decide_eq_false (by omega)
      have a2:decide ((g k).1≥(g k).2.1)=false:=decide_eq_false (by omega)
      have a3:decide ((g k).2.1≥(N:Int))=false:=decide_eq_false (by omega)
      unfold badB
      rw [a1,a2,a3]
      simp only [cond_false]
      by_cases h0:k=0
      · subst h0;rfl
      · have:=ha (k - 1) (by omega)
        rw [show k - 1+1=k by omega] at this
        rw [show ((k:Int) - 1).toNat=k - 1 by omega,this]
        cases decide ((k:Int)>0)<;>rfl
  have hin:inB (N:Int) 1 8=true:=by simp [inB];omega
  rw [isGraphF,if_pos ⟨hin,hnb⟩]
  exact hgood nb (Nat.le_refl _)
theorem bad_parts {N:Int} {g:Nat→T_Bar} {k:Nat} (h:badB N g k=false):0≤(g k).1∧(g k).1<(g k).2.1∧(g k).2.1<N∧(0<k→aft (g (k - 1)) (g k)=true):=by
  unfold badB at h
  by_cases h1:(g k).1<0
  · rw [decide_eq_true h1] at h;cases h
  by_cases h2:(g k).1≥(g k).2.1
  · rw [decide_eq_false h1,decide_eq_true h2] at h;cases h
  by_cases h3:(g k).2.1≥N
  · rw [decide_eq_false h1,decide_eq_false h2,decide_eq_true h3] at h;cases h
  rw [decide_eq_false h1,decide_eq_false h2,decide_eq_false h3] at h
  refine ⟨by omega,by omega,by omega,fun hk=>?_⟩
  rw [decide_eq_true (show (k:Int)>0 by omega)] at h
  rw [show ((k:Int) - 1).toNat=k - 1 by omega] at h
  simpa using h
theorem asc_of {N nb:Nat} {g:Nat→T_Bar} (hg:isGraphF ((N:Int),(nb,g),())=true):AscB nb g:=by
  have h:=(graph_inR hg).2.2.2
  intro s hs
  have:=(bad_parts (goodB_in (N:Int) g nb h (s+1) hs)).2.2.2 (by omega)
  rwa [show s+1 - 1=s by omega] at this
theorem aft_trans {a b c:T_Bar} (h1:aft a b=true) (h2:aft b c=true):aft a c=true:=by
  rw [aft_or] at *
  omega
theorem asc_steps {n:Nat} {g:Nat→T_Bar} (h:AscB n g):∀ d i,i+(d+1)<n→aft (g i) (g (i+(d+1)))=true
  | 0,i,hi=>h i hi
  | d+1,i,hi=>aft_trans (asc_steps h d i (by omega)) (h (i+(d+1)) (by omega))
theorem asc_lt {n:Nat} {g:Nat→T_Bar} (h:AscB n g) {i j:Nat} (hij:i<j) (hj:j<n):aft (g i) (g j)=true:=by
  have:=asc_steps h (j - i - 1) i (by omega)
  rwa [show i+(j - i - 1+1)=j by omega] at this
end Go.Proofs.YtkkjoghiigiokaaGreat.Mach
namespace Go.Proofs.YtkkjoghiigiokaaGreat.Mach
open Go
set_option linter.unusedVariables false
set_option linter.unusedSimpArgs false
def fbx (g:Nat→T_Bar) (nb N:Nat) (pl:Nat→T_Place) (np:Nat):Ob:=⟨true,3,1,fun _=>[.p (.int .i64 N),brL g nb,pcL pl np]⟩
def RmI (g:Nat→T_Bar) (nb N:Nat) (pl:Nat→T_Place) (np:Nat) (M:Nat→Nat→Int) (i:Nat):St :=
  ⟨[.p .any,.pt 3 0 0 0,.p .any,.ar 1 1 0 i]++List.replicate 12 anyA++[brL g nb,.p (.int .i64 nb),.p (.int .i64 i)]++List.replicate 68 anyA,[(0,fbx g nb N pl np),(1,ooOb 2 i (cM (2*N) M)),(2,ffOb i (cM (2*N) M))],3⟩
def RmS (g:Nat→T_Bar) (nb N:Nat) (pl:Nat→T_Place) (np:Nat) (M:Nat→Nat→Int) (i:Nat):St :=
  ⟨[.p .any,.pt 3 0 0 0,.p .any,.ar 1 1 0 i,.p (.int .i64 i)]++List.replicate 91 anyA,[(0,fbx g nb N pl np),(1,ooOb 2 i (cM (2*N) M)),(2,ffOb i (cM (2*N) M))],3⟩
theorem rmz (g:Nat→T_Bar) (nb N:Nat) (pl:Nat→T_Place) (np:Nat) (M:Nat→Nat→Int) :
    pieceOb Tryz.prog 0 [rg 2,rg 2,rm [(1,oc [] (.p (.bool true)))] 1,.dec false,rg 5,.head] [.code (bodyOf Tryz.f235)] (start Tryz.f235 [] 0 [frA g nb N pl np]) [0,64] 1 (RmI g nb N pl np M 0) =
    some (zf46,[(NT 0 1),Con Tryz.prog 128 0 [] [(zf32 N nb g np pl)] [] (.p (.bool true)),((!true)=false),(NT 0 1),(AN 0),(AN 0),(AN 0),(AN nb),(AP nb (fun i=>[.int .i64 ((g i).1),.int .i64 ((g i).2.1)])),(AI ((↑nb:Int))),((0:Int)=(↑0:Int)),((([AV.p (PV.int IntKind.i64 (↑N:Int)),brL g nb,pcL pl np].length):Nat)=3),(NL 1 1),(NL 1 1),(AI ((↑N:Int))),(AN nb),(AP nb (fun i=>[.int .i64 ((g i).1),.int .i64 ((g i).2.1)])),(AN np),(AP np (fun i=>[.int .i64 ((pl i).1),.int .i64 ((pl i).2.1)])),(AN 1),(NL 0 0),(∀ i:Nat,(((i:Nat)<0)→(All []∧(([.p (.nil)]:List AV)=[.ar 1 ⟨2,some i⟩ 0 (2*N)])))),(AN 0)]):=by kernel_rfl
theorem rmt (g:Nat→T_Bar) (nb N:Nat) (pl:Nat→T_Place) (np:Nat) (M:Nat→Nat→Int) (i:Nat) :
    pieceOb Tryz.prog 0 [rg 1,.dec true,rg 4,rg 6,rg 16,rg 23,rg 23,rg 5,rg 2,.head] zf46 (RmI g nb N pl np M i) [0,2435,.ins 2 i 291] 1 (RmI g nb N pl np M (i+1)) =
    some (zf46,[((decide ((↑i:Int)<(↑nb:Int)))=true),(IL 0 (↑i:Int)),(IT (↑i:Int) (↑nb:Int)),(NT 0 1),((true=true)→ (AN 1)),(NT 0 1),(ZLo (2*(↑N:Int))),(ZHi (2*(↑N:Int))),(IL 0 (2*(↑N:Int))),(IL (2*(↑N:Int)) (2*(↑N:Int))),(IL (2*(↑N:Int)*(↑8:Int)) 281474976710656),(ZHi (2*(↑N:Int))),(NT 0 1),(NT 0 1),(IL 0 ((g i).1)),(IT ((g i).1) (↑np:Int)),(NT 0 1),(NT 0 1),(IL 0 ((g i).2.1)),(IT ((g i).2.1) (↑np:Int)),(NT 0 1),((true=true)→ (AN 1)),(NT 0 1),((true=true)→ (AN 1)),(NT 0 1),(ZLo (2*(g i).1)),(ZHi (2*(g i).1)),(NT 0 1),(ZLo (2*(g i).1)),(ZHi (2*(g i).1)),(ZLo (2*(g i).1+1)),(ZHi (2*(g i).1+1)),(NT 0 1),(NT 0 1),(ZLo ((pl (g i).1.toNat).1 - (pl (g i).2.1.toNat).1)),(ZHi ((pl (g i).1.toNat).1 - (pl (g i).2.1.toNat).1)),(NT 0 1),(NT 0 1),(ZLo ((pl (g i).1.toNat).2.1 - (pl (g i).2.1.toNat).2.1)),(ZHi ((pl (g i).1.toNat).2.1 - (pl (g i).2.1.toNat).2.1)),(IL 0 (2*(g i).1)),(IT (2*(g i).1) (↑(2*N):Int)),(NT ((2*(g i).1).toNat) (2*N)),((false=true)→ (((2*N):Nat)=1)),(IL 0 (2*(g i).1+1)),(IT (2*(g i).1+1) (↑(2*N):Int)),(NT ((2*(g i).1+1).toNat) (2*N)),((false=true)→ (((2*N):Nat)=1)),(NT 0 1),(ZLo (2*(g i).2.1)),(ZHi (2*(g i).2.1)),(NT 0 1),(ZLo (2*(g i).2.1)),(ZHi (2*(g i).2.1)),(ZLo (2*(g i).2.1+1)),(ZHi (2*(g i).2.1+1)),(NT 0 1),(NT 0 1),(ZLo ((pl (g i).2.1.toNat).1 - (pl (g i).1.toNat).1)),(ZHi ((pl (g i).2.1.toNat).1 - (pl (g i).1.toNat).1)),(NT 0 1),(NT 0 1),(ZLo ((pl (g i).2.1.toNat).2.1 - (pl (g i).1.toNat).2.1)),(ZHi ((pl (g i).2.1.toNat).2.1 - (pl (g i).1.toNat).2.1)),(IL 0 (2*(g i).2.1)),(IT (2*(g i).2.1) (↑(2*N):Int)),(NT ((2*(g i).2.1).toNat) (2*N)),((false=true)→ (((2*N):Nat)=1)),(IL 0 (2*(g i).2.1+1)),(IT (2*(g i).2.1+1) (↑(2*N):Int)),(NT ((2*(g i).2.1+1).toNat) (2*N)),((false=true)→ (((2*N):Nat)=1)),(NL 1 1),(NL i i),(NL ((i+1)*24) 140737488355328),(NL (i+1) 9223372036854775807),(ZLo ((↑i:Int)+1)),(ZHi ((↑i:Int)+1)),(AN 0),(AN 0),(AN ((i+1))),(AN nb),(AP nb (fun i_1=>[.int .i64 ((g i_1).1),.int .i64 ((g i_1).2.1)])),(AI ((↑nb:Int))),((((↑i:Int)+1):Int)=(↑(i+1):Int)),(AN 3),(NL 1 1),(NL 1 1),(AI ((↑N:Int))),(AN nb),(AP nb (fun i_1=>[.int .i64 ((g i_1).1),.int .i64 ((g i_1).2.1)])),(AN np),(AP np (fun i_1=>[.int .i64 ((pl i_1).1),.int .i64 ((pl i_1).2.1)])),(AN 1),(NL (i+1) (i+1)),(CV [(2435,⟨false,1,(i+1),(fun i_2=>(if (i_2<i) then [.ar 1 ⟨2,some i_2⟩ 0 (2*N)] else [.ar 1 291 0 (2*N)]))⟩),(2403,⟨false,1,1,(fun i_2=>[.ar 1 291 0 (2*N)])⟩),(291,⟨false,1,(2*N),(fun i_2=>(if (i_2=(2*(g i).2.1+1).toNat) then [.p (.int .i64 ((pl (g i).2.1.toNat).2.1 - (pl (g i).1.toNat).2.1))] else (if (i_2=(2*(g i).2.1).toNat) then [.p (.int .i64 ((pl (g i).2.1.toNat).1 - (pl (g i).1.toNat).1))] else (if (i_2=(2*(g i).1+1).toNat) then [.p (.int .i64 ((pl (g i).1.toNat).2.1 - (pl (g i).2.1.toNat).2.1))] else (if (i_2=(2*(g i).1).toNat) then [.p (.int .i64 ((pl (g i).1.toNat).1 - (pl (g i).2.1.toNat).1))] else [.p (.int .i64 0)])))))⟩),(771,⟨true,2,1,(fun i_2=>[.p (.int .i64 ((pl (g i).2.1.toNat).1)),.p (.int .i64 ((pl (g i).2.1.toNat).2.1))])⟩),(739,⟨true,2,1,(fun i_2=>[.p (.int .i64 ((pl (g i).1.toNat).1)),.p (.int .i64 ((pl (g i).1.toNat).2.1))])⟩),(99,⟨true,2,1,(fun i_2=>[.p (.int .i64 ((g i).1)),.p (.int .i64 ((g i).2.1))])⟩),(0,⟨true,3,1,(fun i_2=>[.p (.int .i64 (↑N:Int)),.p (.seq true 2 nb (fun i_3=>[.int .i64 ((g i_3).1),.int .i64 ((g i_3).2.1)])),.p (.seq true 2 np (fun i_3=>[.int .i64 ((pl i_3).1),.int .i64 ((pl i_3).2.1)]))])⟩),(2,⟨true,0,i,(fun i_2=>[.p (.seq false 1 (2*N) (fun i_3=>[.int .i64 ((cM (2*N) M i_2).2 i_3)]))])⟩)] [0,2435,.ins 2 i 291] 1 (i+1) (fun i_1=>if (i_1<i) then [.ar 1 ⟨2,some i_1⟩ 0 (2*N)] else [.ar 1 291 0 (2*N)]) (fun i_1=>[.ar 1 ⟨2,some i_1⟩ 0 (2*N)])),(∀ i_1:Nat,(((i_1:Nat)<(i+1))→(((i_1:Nat)≠i)→(((i_1:Nat)<i)∧All [(AN 1),(((2*N):Nat)≤(2*N)),(AP ((2*N)) (fun r=>[.int .i64 ((cM (2*N) M i_1).2 r)]))])))),(((i:Nat)<(i+1))→ All [(AN 1),(((2*N):Nat)≤(2*N)),(∀ r:Nat,(((r:Nat)<(2*N))→(([(toP (List.getD ((if (r=(2*(g i).2.1+1).toNat) then [.p (.int .i64 ((pl (g i).2.1.toNat).2.1 - (pl (g i).1.toNat).2.1))] else (if (r=(2*(g i).2.1).toNat) then [.p (.int .i64 ((pl (g i).2.1.toNat).1 - (pl (g i).1.toNat).1))] else (if (r=(2*(g i).1+1).toNat) then [.p (.int .i64 ((pl (g i).1.toNat).2.1 - (pl (g i).2.1.toNat).2.1))] else (if (r=(2*(g i).1).toNat) then [.p (.int .i64 ((pl (g i).1.toNat).1 - (pl (g i).2.1.toNat).1))] else [.p (.int .i64 0)])))):List AV) 0 (.p .any)))]:List PV)=[.int .i64 ((cM (2*N) M i).2 r)])))])]):=by kernel_rfl
theorem rme (g:Nat→T_Bar) (nb N:Nat) (pl:Nat→T_Place) (np:Nat) (M:Nat→Nat→Int) (i:Nat) :
    pathOb Tryz.prog Tryz.f235 0 [rg 1,.dec false,rg 2] zf46 (RmI g nb N pl np M i) [1,2] 1 [(0,ooOb 1 i (cM (2*N) M)),(1,ffOb i (cM (2*N) M))] (.ar 1 0 0 i) =
    some [((decide ((↑i:Int)<(↑nb:Int)))=false),(AN 0),(AN i),(AN 1),(NL i i),(AA i (fun i_1=>[.ar 1 ⟨1,some i_1⟩ 0 (2*N)])),(NL i i),(∀ i_1:Nat,(((i_1:Nat)<i)→All [(AN 1),(((2*N):Nat)≤(2*N)),(AP ((2*N)) (fun r=>[.int .i64 ((cM (2*N) M i_1).2 r)]))])),(AE i),(∀ i_1:Nat,(((i_1:Nat)<i)→All [(false=false),(AE ((2*N)))]))]:=by kernel_rfl
theorem rsz (g:Nat→T_Bar) (nb N:Nat) (pl:Nat→T_Place) (np:Nat) (M:Nat→Nat→Int) :
    pieceOb Tryz.prog 0 [rg 2,rg 2,rg 1,.head] [.code (bodyOf Tryz.f227)] (start Tryz.f227 [] 0 [frA g nb N pl np]) [0,64] 1 (RmS g nb N pl np M 0) =
    some (zf66,[(AN 0),(AN 0),(AN 0),((0:Int)=(↑0:Int)),((([AV.p (PV.int IntKind.i64 (↑N:Int)),brL g nb,pcL pl np].length):Nat)=3),(NL 1 1),(NL 1 1),(AI ((↑N:Int))),(AN nb),(AP nb (fun i=>[.int .i64 ((g i).1),.int .i64 ((g i).2.1)])),(AN np),(AP np (fun i=>[.int .i64 ((pl i).1),.int .i64 ((pl i).2.1)])),(AN 1),(NL 0 0),(∀ i:Nat,(((i:Nat)<0)→(All []∧(([.p (.nil)]:List AV)=[.ar 1 ⟨2,some i⟩ 0 (2*N)])))),(AN 0)]):=by kernel_rfl
theorem rst (g:Nat→T_Bar) (nb N:Nat) (pl:Nat→T_Place) (np:Nat) (M:Nat→Nat→Int) (i:Nat) :
    pieceOb Tryz.prog 0 [rm [(8,oc [] (.p (.bool true)))] 1,.dec true,rg 8,rg 6,rg 16,rg 16,rg 7,rg 8,rg 8,rg 9,rg 5,rg 3,.head] zf66 (RmS g nb N pl np M i) [0,2915,.ins 2 i 707] 1 (RmS g nb N pl np M (i+1)) =
    some (zf66,[(NT 0 1),(((decide ((↑i:Int)<(↑nb:Int)))=true)→(NT 0 1)),(AG (decide ((↑i:Int)<(↑nb:Int)))),(((decide ((↑i:Int)<(↑nb:Int)))=true)→ Con Tryz.prog 117 0 [] [(zf28 N nb g np pl)] [] (.p (.bool true))),(AG (decide ((↑i:Int)<(↑nb:Int)))),((bif decide ((↑i:Int)<(↑nb:Int)) then true else false)=true),(NT 0 1),(IL 0 (↑i:Int)),(IT (↑i:Int) (↑nb:Int)),(NT 0 1),((true=true)→ (AN 1)),(NT 0 1),(ZLo (2*(↑N:Int))),(ZHi (2*(↑N:Int))),(IL 0 (2*(↑N:Int))),(IL (2*(↑N:Int)) (2*(↑N:Int))),(IL (2*(↑N:Int)*(↑8:Int)) 281474976710656),(ZHi (2*(↑N:Int))),(NT 0 1),(NT 0 1),(IL 0 ((g i).1)),(IT ((g i).1) (↑np:Int)),(NT 0 1),(NT 0 1),(IL 0 ((g i).2.1)),(IT ((g i).2.1) (↑np:Int)),(ZLo ((pl (g i).1.toNat).1 - (pl (g i).2.1.toNat).1)),(ZHi ((pl (g i).1.toNat).1 - (pl (g i).2.1.toNat).1)),(NT 0 1),(NT 0 1),(IL 0 ((g i).1)),(IT ((g i).1) (↑np:Int)),(NT 0 1),(NT 0 1),(IL 0 ((g i).2.1)),(IT ((g i).2.1) (↑np:Int)),(ZLo ((pl (g i).1.toNat).2.1 - (pl (g i).2.1.toNat).2.1)),(ZHi ((pl (g i).1.toNat).2.1 - (pl (g i).2.1.toNat).2.1)),(NT 0 1),(ZLo (2*(g i).1)),(ZHi (2*(g i).1)),(IL 0 (2*(g i).1)),(IT (2*(g i).1) (↑(2*N):Int)),(NT ((2*(g i).1).toNat) (2*N)),((false=true)→ (((2*N):Nat)=1)),(NT 0 1),(ZLo (2*(g i).1)),(ZHi (2*(g i).1)),(ZLo (2*(g i).1+1)),(ZHi (2*(g i).1+1)),(IL 0 (2*(g i).1+1)),(IT (2*(g i).1+1) (↑(2*N):Int)),(NT ((2*(g i).1+1).toNat) (2*N)),((false=true)→ (((2*N):Nat)=1)),(NT 0 1),(ZLo (2*(g i).2.1)),(ZHi (2*(g i).2.1)),(ZLo (0 - ((pl (g i).1.toNat).1 - (pl (g i).2.1.toNat).1))),(ZHi (0 - ((pl (g i).1.toNat).1 - (pl (g i).2.1.toNat).1))),(IL 0 (2*(g i).2.1)),(IT (2*(g i).2.1) (↑(2*N):Int)),(NT ((2*(g i).2.1).toNat) (2*N)),((false=true)→ (((2*N):Nat)=1)),(NT 0 1),(ZLo (2*(g i).2.1)),(ZHi (2*(g i).2.1)),(ZLo (2*(g i).2.1+1)),(ZHi (2*(g i).2.1+1)),(ZLo (0 - ((pl (g i).1.toNat).2.1 - (pl (g i).2.1.toNat).2.1))),(ZHi (0 - ((pl (g i).1.toNat).2.1 - (pl (g i).2.1.toNat).2.1))),(IL 0 (2*(g i).2.1+1)),(IT (2*(g i).2.1+1) (↑(2*N):Int)),(NT ((2*(g i).2.1+1).toNat) (2*N)),((false=true)→ (((2*N):Nat)=1)),(NL 1 1),(NL i i),(NL ((i+1)*24) 140737488355328),(NL (i+1) 9223372036854775807),(ZLo ((↑i:Int)+1)),(ZHi ((↑i:Int)+1)),(AN 0),(AN 0),(AN ((i+1))),((((↑i:Int)+1):Int)=(↑(i+1):Int)),(AN 3),(NL 1 1),(NL 1 1),(AI ((↑N:Int))),(AN nb),(AP nb (fun i_1=>[.int .i64 ((g i_1).1),.int .i64 ((g i_1).2.1)])),(AN np),(AP np (fun i_1=>[.int .i64 ((pl i_1).1),.int .i64 ((pl i_1).2.1)])),(AN 1),(NL (i+1) (i+1)),(CV [(2915,⟨false,1,(i+1),(fun i_2=>(if (i_2<i) then [.ar 1 ⟨2,some i_2⟩ 0 (2*N)] else [.ar 1 707 0 (2*N)]))⟩),(2883,⟨false,1,1,(fun i_2=>[.ar 1 707 0 (2*N)])⟩),(707,⟨false,1,(2*N),(fun i_2=>(if (i_2=(2*(g i).2.1+1).toNat) then [.p (.int .i64 (0 - ((pl (g i).1.toNat).2.1 - (pl (g i).2.1.toNat).2.1)))] else (if (i_2=(2*(g i).2.1).toNat) then [.p (.int .i64 (0 - ((pl (g i).1.toNat).1 - (pl (g i).2.1.toNat).1)))] else (if (i_2=(2*(g i).1+1).toNat) then [.p (.int .i64 ((pl (g i).1.toNat).2.1 - (pl (g i).2.1.toNat).2.1))] else (if (i_2=(2*(g i).1).toNat) then [.p (.int .i64 ((pl (g i).1.toNat).1 - (pl (g i).2.1.toNat).1))] else [.p (.int .i64 0)])))))⟩),(515,⟨true,2,1,(fun i_2=>[.p (.int .i64 ((g i).1)),.p (.int .i64 ((g i).2.1))])⟩),(0,⟨true,3,1,(fun i_2=>[.p (.int .i64 (↑N:Int)),.p (.seq true 2 nb (fun i_3=>[.int .i64 ((g i_3).1),.int .i64 ((g i_3).2.1)])),.p (.seq true 2 np (fun i_3=>[.int .i64 ((pl i_3).1),.int .i64 ((pl i_3).2.1)]))])⟩),(2,⟨true,0,i,(fun i_2=>[.p (.seq false 1 (2*N) (fun i_3=>[.int .i64 ((cM (2*N) M i_2).2 i_3)]))])⟩)] [0,2915,.ins 2 i 707] 1 (i+1) (fun i_1=>if (i_1<i) then [.ar 1 ⟨2,some i_1⟩ 0 (2*N)] else [.ar 1 707 0 (2*N)]) (fun i_1=>[.ar 1 ⟨2,some i_1⟩ 0 (2*N)])),(∀ i_1:Nat,(((i_1:Nat)<(i+1))→(((i_1:Nat)≠i)→(((i_1:Nat)<i)∧All [(AN 1),(((2*N):Nat)≤(2*N)),(AP ((2*N)) (fun r=>[.int .i64 ((cM (2*N) M i_1).2 r)]))])))),(((i:Nat)<(i+1))→ All [(AN 1),(((2*N):Nat)≤(2*N)),(∀ r:Nat,(((r:Nat)<(2*N))→(([(toP (List.getD ((if (r=(2*(g i).2.1+1).toNat) then [.p (.int .i64 (0 - ((pl (g i).1.toNat).2.1 - (pl (g i).2.1.toNat).2.1)))] else (if (r=(2*(g i).2.1).toNat) then [.p (.int .i64 (0 - ((pl (g i).1.toNat).1 - (pl (g i).2.1.toNat).1)))] else (if (r=(2*(g i).1+1).toNat) then [.p (.int .i64 ((pl (g i).1.toNat).2.1 - (pl (g i).2.1.toNat).2.1))] else (if (r=(2*(g i).1).toNat) then [.p (.int .i64 ((pl (g i).1.toNat).1 - (pl (g i).2.1.toNat).1))] else [.p (.int .i64 0)])))):List AV) 0 (.p .any)))]:List PV)=[.int .i64 ((cM (2*N) M i).2 r)])))])]):=by kernel_rfl
theorem rse (g:Nat→T_Bar) (nb N:Nat) (pl:Nat→T_Place) (np:Nat) (M:Nat→Nat→Int) (i:Nat) :
    pathOb Tryz.prog Tryz.f227 0 [rm [(8,oc [] (.p (.bool true)))] 1,.dec false,rg 2] zf66 (RmS g nb N pl np M i) [1,2] 1 [(0,ooOb 1 i (cM (2*N) M)),(1,ffOb i (cM (2*N) M))] (.ar 1 0 0 i) =
    some [(NT 0 1),(((decide ((↑i:Int)<(↑nb:Int)))=true)→(NT 0 1)),(AG (decide ((↑i:Int)<(↑nb:Int)))),(((decide ((↑i:Int)<(↑nb:Int)))=true)→ Con Tryz.prog 117 0 [] [(zf28 N nb g np pl)] [] (.p (.bool true))),(AG (decide ((↑i:Int)<(↑nb:Int)))),((bif decide ((↑i:Int)<(↑nb:Int)) then true else false)=false),(AN 0),(AN i),(AN 1),(NL i i),(AA i (fun i_1=>[.ar 1 ⟨1,some i_1⟩ 0 (2*N)])),(NL i i),(∀ i_1:Nat,(((i_1:Nat)<i)→All [(AN 1),(((2*N):Nat)≤(2*N)),(AP ((2*N)) (fun r=>[.int .i64 ((cM (2*N) M i_1).2 r)]))])),(AE i),(∀ i_1:Nat,(((i_1:Nat)<i)→All [(false=false),(AE ((2*N)))]))]:=by kernel_rfl
theorem rkI (n m:Nat) (M M':Nat→Nat→Int) (r:Nat) (p:Nat→Int) (d:Int) :
    pathOb Tryz.prog Tryz.f234 0 [rg 1,rm [(2,oc (mH n m M' r p) (.tup [.ar 1 0 0 m,.ar 1 2 0 r,.p (.int .i64 d)]))] 7,rg 3] [.code (bodyOf Tryz.f234)] (start Tryz.f234 [] 0 [ssA2 m (cM n M),.p (.int .i64 n)]) [] 1 [] (.p (.int .i64 r)) =
    some [Con Tryz.prog 317 0 [] [.p (.seq true 1 m (fun i=>[.seq true 1 n (fun i_1=>[.int .i64 ((cM n M i).2 i_1)])])),.p (.int .i64 (↑n:Int))] [(0,⟨false,1,m,(fun i=>[.ar 1 ⟨1,some i⟩ 0 n])⟩),(1,⟨true,0,m,(fun i=>[.p (.seq false 1 n (fun i_1=>[.int .i64 ((cM n M' i).2 i_1)]))])⟩),(2,⟨false,1,r,(fun i=>[.p (.int .i64 (p i))])⟩)] (.tup [.ar 1 0 0 m,.ar 1 2 0 r,.p (.int .i64 d)]),(AI ((↑r:Int)))]:=by kernel_rfl
theorem frN (g:Nat→T_Bar) (nb:Nat) (N:Int) (pl:Nat→T_Place) (np:Nat) :
    pathOb Tryz.prog Tryz.f130 0 [rg 2,rm [(1,oc [] (.p (.bool false)))] 1,.dec true,rg 1] [.code (bodyOf Tryz.f130)] (start Tryz.f130 [] 0 [frA g nb N pl np]) [] 1 [] (.p (.int .i64 (-1))) =
    some [(NT 0 1),Con Tryz.prog 128 0 [] [(zf35 N nb g np pl)] [] (.p (.bool false)),((!false)=true),(AI ((-1)))]:=by kernel_rfl
theorem frR (g:Nat→T_Bar) (nb N:Nat) (pl:Nat→T_Place) (np:Nat) (M:Nat→Nat→Int) (r:Nat) :
    pathOb Tryz.prog Tryz.f130 0 [rg 2,rm [(1,oc [] (.p (.bool true)))] 1,.dec false,rm [(1,oc [(0,ooOb 1 nb (cM (2*N) M)),(1,ffOb nb (cM (2*N) M))] (.ar 1 0 0 nb)),(4,⟨true,(some ⟨[],[],[193],2,[],.p (.int .i64 r)⟩),none⟩)] 1] [.code (bodyOf Tryz.f130)] (start Tryz.f130 [] 0 [frA g nb N pl np]) [] 1 [] (.p (.int .i64 r)) =
    some [(NT 0 1),Con Tryz.prog 128 0 [] [(zf32 N nb g np pl)] [] (.p (.bool true)),((!true)=false),(NT 0 1),Con Tryz.prog 235 0 [] [(zf32 N nb g np pl)] [(0,⟨false,1,nb,(fun i=>[.ar 1 ⟨1,some i⟩ 0 (2*N)])⟩),(1,⟨true,0,nb,(fun i=>[.p (.seq false 1 (2*N) (fun i_1=>[.int .i64 ((cM (2*N) M i).2 i_1)]))])⟩)] (.ar 1 0 0 nb),(NT 0 1),(ZLo (2*(↑N:Int))),(ZHi (2*(↑N:Int))),(AN 1),(NL nb nb),(∀ i:Nat,(((i:Nat)<nb)→All [((i:Nat)<nb),(AN 1),(((2*N):Nat)≤(2*N))])),Con Tryz.prog 234 0 [] [.p (.seq true 1 nb (fun i=>[.seq true 1 (2*N) (fun i_1=>[.int .i64 ((cM (2*N) M i).2 i_1)])])),.p (.int .i64 (2*(↑N:Int)))] [] (.p (.int .i64 (↑r:Int))),(AI ((↑r:Int)))]:=by kernel_rfl
theorem fsM (g:Nat→T_Bar) (nb:Nat) (N:Int) (pl:Nat→T_Place) (np:Nat) :
    pathOb Tryz.prog Tryz.f119 0 [rg 2,rm [(1,oc [] (.p (.bool false)))] 1,.dec true,rg 1] [.code (bodyOf Tryz.f119)] (start Tryz.f119 [] 0 [frA g nb N pl np]) [] 1 [] (.p (.int .i64 (-1))) =
    some [(NT 0 1),Con Tryz.prog 117 0 [] [(zf35 N nb g np pl)] [] (.p (.bool false)),((!false)=true),(AI ((-1)))]:=by kernel_rfl
theorem fsR (g:Nat→T_Bar) (nb N:Nat) (pl:Nat→T_Place) (np:Nat) (M M':Nat→Nat→Int) (r:Nat) (p:Nat→Int) :
    pathOb Tryz.prog Tryz.f119 0 [rg 2,rm [(1,oc [] (.p (.bool true)))] 1,.dec false,rm [(1,oc [(0,ooOb 1 nb (cM (2*N) M)),(1,ffOb nb (cM (2*N) M))] (.ar 1 0 0 nb)),(0,⟨true,(some ⟨[],[],[193],2,(mH (2*N) nb M' r p),.tup [.ar 1 0 0 nb,.ar 1 2 0 r]⟩),none⟩)] 5,rg 3] [.code (bodyOf Tryz.f119)] (start Tryz.f119 [] 0 [frA g nb N pl np]) [] 1 [] (.p (.int .i64 r)) =
    some [(NT 0 1),Con Tryz.prog 117 0 [] [(zf32 N nb g np pl)] [] (.p (.bool true)),((!true)=false),(NT 0 1),Con Tryz.prog 227 0 [] [(zf32 N nb g np pl)] [(0,⟨false,1,nb,(fun i=>[.ar 1 ⟨1,some i⟩ 0 (2*N)])⟩),(1,⟨true,0,nb,(fun i=>[.p (.seq false 1 (2*N) (fun i_1=>[.int .i64 ((cM (2*N) M i).2 i_1)]))])⟩)] (.ar 1 0 0 nb),(AN 1),(NL nb nb),(∀ i:Nat,(((i:Nat)<nb)→All [((i:Nat)<nb),(AN 1),(((2*N):Nat)≤(2*N))])),Con Tryz.prog 226 0 [] [.p (.seq true 1 nb (fun i=>[.seq true 1 (2*N) (fun i_1=>[.int .i64 ((cM (2*N) M i).2 i_1)])]))] [(0,⟨false,1,nb,(fun i=>[.ar 1 ⟨1,some i⟩ 0 (2*N)])⟩),(1,⟨true,0,nb,(fun i=>[.p (.seq false 1 (2*N) (fun i_1=>[.int .i64 ((cM (2*N) M' i).2 i_1)]))])⟩),(2,⟨false,1,r,(fun i=>[.p (.int .i64 (p i))])⟩)] (.tup [.ar 1 0 0 nb,.ar 1 2 0 r]),(AI ((↑r:Int)))]:=by kernel_rfl
end Go.Proofs.YtkkjoghiigiokaaGreat.Mach
namespace Go.Proofs.YtkkjoghiigiokaaGreat.Mach
open Go
set_option linter.unusedVariables false
set_option linter.unusedSimpArgs false
def gA (g:Nat→T_Bar) (k:Nat):Nat:=(g k).1.toNat
def gB (g:Nat→T_Bar) (k:Nat):Nat:=(g k).2.1.toNat
def pX (pl:Nat→T_Place) (v:Nat):Int:=(pl v).1
def pY (pl:Nat→T_Place) (v:Nat):Int:=(pl v).2.1
def rgM (g:Nat→T_Bar) (pl:Nat→T_Place):Nat→Nat→Int:=Had.rg (gA g) (gB g) (pX pl) (pY pl)
theorem inB_iff {x a b:Int}:inB x a b=true↔a≤x∧x≤b:=by simp [inB]
theorem fw_parts {g:Nat→T_Bar} {nb:Nat} {N:Int} {pl:Nat→T_Place} {np:Nat} (h:fwB g nb N pl np=true) :
    isGraphF (N,(nb,g),())=true∧N≤6∧nb≤15∧(np:Int)=N∧(∀ i,i<np→(0≤(pl i).1∧(pl i).1≤4)∧(0≤(pl i).2.1∧(pl i).2.1≤4))∧∀ i,i<nb→brP g pl i=true:=by
  unfold fwB at h
  simp only [Bool.and_eq_true,decide_eq_true_eq,all_iff] at h
  obtain ⟨⟨h1,h2,h3,h4⟩,h5,h6⟩:=h
  refine ⟨h1,h2,h3,h4,fun i hi=>?_,h6⟩
  have:=h5 i hi
  unfold plP at this
  cases hb:inB (pl i).1 0 4 with
  | false=>rw [hb] at this;cases this
  | true =>
    rw [hb] at this
    exact ⟨inB_iff.1 hb,inB_iff.1 this⟩
theorem fw_ok {g:Nat→T_Bar} {nb N:Nat} {pl:Nat→T_Place} {np:Nat} (h:fwB g nb N pl np=true) :
    isGraphF ((N:Int),(nb,g),())=true∧N≤6∧nb≤15∧np=N∧OkBars N nb g∧Had.Bars N nb (gA g) (gB g) (pX pl) (pY pl):=by
  obtain ⟨h1,h2,h3,h4,h5,h6⟩:=fw_parts h
  obtain ⟨hN,hnb,hok⟩:=graph_in h1
  have ha:=asc_of h1
  refine ⟨h1,by omega,h3,by omega,hok,⟨by omega,fun k hk=>?_,fun k hk=>?_,fun v hv=>(h5 v (by omega)).1,fun v hv=>(h5 v (by omega)).2,fun k hk=>?_⟩⟩
  · obtain ⟨a1,a2,a3⟩:=hok k hk
    unfold gA gB
    omega
  · obtain ⟨a1,a2,a3⟩:=hok k (by omega)
    obtain ⟨b1,b2,b3⟩:=hok (k+1) hk
    have h7:=(aft_or _ _).1 (ha k hk)
    have h8:=h6 (k+1) hk
    unfold brP eA at h8
    rw [decide_eq_true (show ((k+1:Nat):Int)>0 by omega),show (((k+1:Nat):Int) - 1).toNat=k by omega] at h8
    simp only [cond_true,Bool.and_true] at h8
    have h9:¬ ((g k).1=(g (k+1)).1∧(g k).2.1=(g (k+1)).2.1):=fun ⟨e1,e2⟩=>by
      rw [e1,e2] at h8;simp at h8
    unfold gA gB
    omega
  · have h8:=h6 k hk
    unfold brP at h8
    have h9:eB g pl k=false:=by
      cases he:eB g pl k with
      | false=>rfl
      | true =>
        rw [he] at h8
        cases hx:(bif decide ((k:Int)>0) then eA g k else false)<;>rw [hx] at h8<;>cases h8
    unfold eB at h9
    unfold pX pY gA gB
    by_cases e1:(pl (g k).1.toNat).1=(pl (g k).2.1.toNat).1
    · by_cases e2:(pl (g k).1.toNat).2.1=(pl (g k).2.1.toNat).2.1
      · rw [e1,e2] at h9;simp at h9
      · exact .inr e2
    · exact .inl e1
theorem tog {c1 c2 c3 c4:Prop} [Decidable c1] [Decidable c2] [Decidable c3] [Decidable c4] (a1 a2 a3 a4:Int) :
    toP (List.getD ((if c1 then [.p (.int .i64 a1)] else (if c2 then [.p (.int .i64 a2)] else (if c3 then [.p (.int .i64 a3)] else (if c4 then [.p (.int .i64 a4)] else [.p (.int .i64 0)])))):List AV) 0 (.p .any)) =
      .int .i64 (if c1 then a1 else if c2 then a2 else if c3 then a3 else if c4 then a4 else 0):=by
  repeat' split
  all_goals rfl
theorem chain_i {a b xA xB yA yB:Int} (h0:0≤a) (h1:a<b) (r:Nat) :
    (if r=(2*b+1).toNat then yB - yA else if r=(2*b).toNat then xB - xA else if r=(2*a+1).toNat then yA - yB else if r=(2*a).toNat then xA - xB else 0)=Had.rv (xA - xB) (yA - yB) a.toNat b.toNat r:=by
  unfold Had.rv
  repeat' split
  all_goals omega
theorem chain_s {a b dx dy:Int} (h0:0≤a) (h1:a<b) (r:Nat) :
    (if r=(2*b+1).toNat then 0 - dy else if r=(2*b).toNat then 0 - dx else if r=(2*a+1).toNat then dy else if r=(2*a).toNat then dx else 0)=Had.rv dx dy a.toNat b.toNat r:=by
  unfold Had.rv
  repeat' split
  all_goals omega
theorem con_RM_i {g:Nat→T_Bar} {nb N:Nat} {pl:Nat→T_Place} {np:Nat} (h:fwB g nb N pl np=true) :
    Con Tryz.prog 235 0 [] [frA g nb N pl np] [(0,ooOb 1 nb (cM (2*N) (rgM g pl))),(1,ffOb nb (cM (2*N) (rgM g pl)))] (.ar 1 0 0 nb):=by
  obtain ⟨h1,h2,h3,h4,hok,hb⟩:=fw_ok h
  have cf:=con_IsFramework_i g nb N pl np (by omega)
  rw [h] at cf
  refine csZ Tryz.func235 (fun c hc=>?_)
  have lo:∀ d i,i+d=nb→Run Tryz.prog c 235 zf46 (RmI g nb N pl np (rgM g pl) i) (Post c [(0,ooOb 1 nb (cM (2*N) (rgM g pl))),(1,ffOb nb (cM (2*N) (rgM g pl)))] (.ar 1 0 0 nb)):=by
    intro d
    induction d with
    | zero =>
      intro i hi
      obtain rfl:i=nb:=by omega
      have hd:decide ((i:Int)<(i:Int))=false:=decide_eq_false (by omega)
      refine pkZ Tryz.func235 hc (rme g i N pl np (rgM g pl) i) ?_
      repeat' (first | exact aN | apply aI)
      all_goals (first | exact aP _ _ | exact aA _ _ | exact aE _ | omega | rfl | (intros;first | assumption | exact trivial | rfl) | (exact hd) | (intro t ht;simp [All];done) | (simp only [All];first | exact aP _ _ | exact aA _ _ | exact aE _ | omega | rfl | (intros;first | assumption | exact trivial | rfl) | (exact hd) | (intro t ht;simp [All];done)))
    | succ d ih =>
      intro i hi
      have hd:decide ((i:Int)<(nb:Int))=true:=decide_eq_true (by omega)
      obtain ⟨o1,o2,o3⟩:=hok i (by omega)
      have q1:=hb.gx (gA g i) (by unfold gA;omega)
      have q2:=hb.gx (gB g i) (by unfold gB;omega)
      have q3:=hb.gy (gA g i) (by unfold gA;omega)
      have q4:=hb.gy (gB g i) (by unfold gB;omega)
      unfold pX gA at q1
      unfold pX gB at q2
      unfold pY gA at q3
      unfold pY gB at q4
      have hrow:∀ r,(if r=(2*(g i).2.1+1).toNat then (pl (g i).2.1.toNat).2.1 - (pl (g i).1.toNat).2.1 else if r=(2*(g i).2.1).toNat then (pl (g i).2.1.toNat).1 - (pl (g i).1.toNat).1 else if r=(2*(g i).1+1).toNat then (pl (g i).1.toNat).2.1 - (pl (g i).2.1.toNat).2.1 else if r=(2*(g i).1).toNat then (pl (g i).1.toNat).1 - (pl (g i).2.1.toNat).1 else 0)=rgM g pl i r :=
        fun r=>chain_i o1 o2 r
      refine pcZ hc (rmt g nb N pl np (rgM g pl) i) ?_ (ih (i+1) (by omega))
      repeat' (first | exact aN | apply aI)
      all_goals (first | exact aP _ _ | omega | rfl | (intros;first | assumption | exact trivial | rfl | exact fT ‹_› | ((repeat' (first | assumption | apply anda | apply notf));done)) | (exact hd) | (intro t ht;by_cases h':t<i;exact ⟨by simp [h',cvtL,cvt,tg,tru,idx,idx1,idO,idM,All,Nat.ne_of_lt h'],by simp [h',cvtL,cvt,tg,tru,idx,idx1,idO,idM]⟩;rw [show t=i by omega];exact ⟨by simp [cvtL,cvt,tg,tru,idx,idx1,idO,idM,All],by simp [cvtL,cvt,tg,tru,idx,idx1,idO,idM]⟩) | (intro t ht hne;exact ⟨by omega,by simp [All]⟩) | (intro _;simp only [All,cM];exact ⟨trivial,Nat.le_refl _,fun r hr=>by rw [tog,hrow],trivial⟩) | (intro t ht;simp [All];done) | (simp only [All];first | exact aP _ _ | omega | rfl | (intros;first | assumption | exact trivial | rfl | exact fT ‹_› | ((repeat' (first | assumption | apply anda | apply notf));done)) | (exact hd) | (intro t ht;by_cases h':t<i;exact ⟨by simp [h',cvtL,cvt,tg,tru,idx,idx1,idO,idM,All,Nat.ne_of_lt h'],by simp [h',cvtL,cvt,tg,tru,idx,idx1,idO,idM]⟩;rw [show t=i by omega];exact ⟨by simp [cvtL,cvt,tg,tru,idx,idx1,idO,idM,All],by simp [cvtL,cvt,tg,tru,idx,idx1,idO,idM]⟩) | (intro t ht hne;exact ⟨by omega,by simp [All]⟩) | (intro _;simp only [All,cM];exact ⟨trivial,Nat.le_refl _,fun r hr=>by rw [tog,hrow],trivial⟩) | (intro t ht;simp [All];done)))
  refine pcZ hc (rmz g nb N pl np (rgM g pl)) ?_ (lo nb 0 (by omega))
  repeat' (first | exact aN | apply aI)
  all_goals (first | exact aP _ _ | omega | rfl | (intros;first | assumption | exact trivial | rfl) | (exact cf) | (intro t ht;exact absurd ht (Nat.not_lt_zero _)) | (intro t ht;simp [All];done) | (simp only [All];first | exact aP _ _ | omega | rfl | (intros;first | assumption | exact trivial | rfl) | (exact cf) | (intro t ht;exact absurd ht (Nat.not_lt_zero _)) | (intro t ht;simp [All];done)))
theorem con_RM_s {g:Nat→T_Bar} {nb N:Nat} {pl:Nat→T_Place} {np:Nat} (h:fwB g nb N pl np=true) :
    Con Tryz.prog 227 0 [] [frA g nb N pl np] [(0,ooOb 1 nb (cM (2*N) (rgM g pl))),(1,ffOb nb (cM (2*N) (rgM g pl)))] (.ar 1 0 0 nb):=by
  obtain ⟨h1,h2,h3,h4,hok,hb⟩:=fw_ok h
  have cf:=con_IsFramework_s g nb N pl np (by omega)
  rw [h] at cf
  refine csZ Tryz.func227 (fun c hc=>?_)
  have lo:∀ d i,i+d=nb→Run Tryz.prog c 227 zf66 (RmS g nb N pl np (rgM g pl) i) (Post c [(0,ooOb 1 nb (cM (2*N) (rgM g pl))),(1,ffOb nb (cM (2*N) (rgM g pl)))] (.ar 1 0 0 nb)):=by
    intro d
    induction d with
    | zero =>
      intro i hi
      obtain rfl:i=nb:=by omega
      have hd:decide ((i:Int)<(i:Int))=false:=decide_eq_false (by omega)
      refine pkZ Tryz.func227 hc (rse g i N pl np (rgM g pl) i) ?_
      repeat' (first | exact aN | apply aI)
      all_goals (first | exact aG _ | exact aP _ _ | exact aA _ _ | exact aE _ | omega | rfl | (intros;first | assumption | exact trivial | rfl | exact fT ‹_›) | (rw [hd];rfl) | (intro h;exact h) | (intro h;rw [hd] at h;cases h) | (intro t ht;simp [All];done) | (simp only [All];first | exact aG _ | exact aP _ _ | exact aA _ _ | exact aE _ | omega | rfl | (intros;first | assumption | exact trivial | rfl | exact fT ‹_›) | (rw [hd];rfl) | (intro h;exact h) | (intro h;rw [hd] at h;cases h) | (intro t ht;simp [All];done)))
    | succ d ih =>
      intro i hi
      have hd:decide ((i:Int)<(nb:Int))=true:=decide_eq_true (by omega)
      obtain ⟨o1,o2,o3⟩:=hok i (by omega)
      have q1:=hb.gx (gA g i) (by unfold gA;omega)
      have q2:=hb.gx (gB g i) (by unfold gB;omega)
      have q3:=hb.gy (gA g i) (by unfold gA;omega)
      have q4:=hb.gy (gB g i) (by unfold gB;omega)
      unfold pX gA at q1
      unfold pX gB at q2
      unfold pY gA at q3
      unfold pY gB at q4
      have hrow:∀ r,(if r=(2*(g i).2.1+1).toNat then 0 - ((pl (g i).1.toNat).2.1 - (pl (g i).2.1.toNat).2.1) else if r=(2*(g i).2.1).toNat then 0 - ((pl (g i).1.toNat).1 - (pl (g i).2.1.toNat).1) else if r=(2*(g i).1+1).toNat then (pl (g i).1.toNat).2.1 - (pl (g i).2.1.toNat).2.1 else if r=(2*(g i).1).toNat then (pl (g i).1.toNat).1 - (pl (g i).2.1.toNat).1 else 0)=rgM g pl i r :=
        fun r=>chain_s o1 o2 r
      refine pcZ hc (rst g nb N pl np (rgM g pl) i) ?_ (ih (i+1) (by omega))
      repeat' (first | exact aN | apply aI)
      all_goals (first | exact aG _ | exact aP _ _ | omega | rfl | (intros;first | assumption | exact trivial | rfl | exact fT ‹_› | ((repeat' (first | assumption | apply anda | apply notf));done)) | (rw [hd];rfl) | (intro _;exact cf) | (intro t ht;by_cases h':t<i;exact ⟨by simp [h',cvtL,cvt,tg,tru,idx,idx1,idO,idM,All,Nat.ne_of_lt h'],by simp [h',cvtL,cvt,tg,tru,idx,idx1,idO,idM]⟩;rw [show t=i by omega];exact ⟨by simp [cvtL,cvt,tg,tru,idx,idx1,idO,idM,All],by simp [cvtL,cvt,tg,tru,idx,idx1,idO,idM]⟩) | (intro t ht hne;exact ⟨by omega,by simp [All]⟩) | (intro _;simp only [All,cM];exact ⟨trivial,Nat.le_refl _,fun r hr=>by rw [tog,hrow],trivial⟩) | (intro h;exact h) | (intro t ht;simp [All];done) | (simp only [All];first | exact aG _ | exact aP _ _ | omega | rfl | (intros;first | assumption | exact trivial | rfl | exact fT ‹_› | ((repeat' (first | assumption | apply anda | apply notf));done)) | (rw [hd];rfl) | (intro _;exact cf) | (intro t ht;by_cases h':t<i;exact ⟨by simp [h',cvtL,cvt,tg,tru,idx,idx1,idO,idM,All,Nat.ne_of_lt h'],by simp [h',cvtL,cvt,tg,tru,idx,idx1,idO,idM]⟩;rw [show t=i by omega];exact ⟨by simp [cvtL,cvt,tg,tru,idx,idx1,idO,idM,All],by simp [cvtL,cvt,tg,tru,idx,idx1,idO,idM]⟩) | (intro t ht hne;exact ⟨by omega,by simp [All]⟩) | (intro _;simp only [All,cM];exact ⟨trivial,Nat.le_refl _,fun r hr=>by rw [tog,hrow],trivial⟩) | (intro h;exact h) | (intro t ht;simp [All];done)))
  refine pcZ hc (rsz g nb N pl np (rgM g pl)) ?_ (lo nb 0 (by omega))
  repeat' (first | exact aN | apply aI)
  all_goals (first | exact aP _ _ | omega | rfl | (intros;first | assumption | exact trivial | rfl) | (intro t ht;exact absurd ht (Nat.not_lt_zero _)) | (intro t ht;simp [All];done) | (simp only [All];first | exact aP _ _ | omega | rfl | (intros;first | assumption | exact trivial | rfl) | (intro t ht;exact absurd ht (Nat.not_lt_zero _)) | (intro t ht;simp [All];done)))
theorem con_rank {n m rmx:Nat} {B:Int} {M:Nat→Nat→Int} {K:Nat→Nat→(Nat→Nat→Int)→Prop} (hn:n≤1000) (hm:m≤1000) (hB:1≤B) (hM:B ^ (2*rmx)≤2 ^ 124)
    (hok:∀ c,c≤n→Had.ROK n m rmx B K c (Had.rrun m (Had.rini M) c)) :
    Con Tryz.prog 234 0 [] [ssA2 m (cM n M),.p (.int .i64 n)] [] (.p (.int .i64 (Had.rrun m (Had.rini M) n).r)):=by
  have cr:=con_reduced hn hm hB hM hok rfl
  generalize Had.rrun m (Had.rini M) n=S at cr ⊢
  refine csZ Tryz.func234 (fun c hc=>?_)
  refine pkZ Tryz.func234 hc (rkI n m M S.A S.r (fun i=>(S.p i:Int)) S.d) ?_
  repeat' (first | exact aN | apply aI)
  all_goals (first | omega | rfl | (intros;first | assumption | exact trivial | rfl) | (exact cr) | rfl)
def rkF (g:Nat→T_Bar) (nb N:Nat) (pl:Nat→T_Place):Nat:=(Had.rrun nb (Had.rini (rgM g pl)) (2*N)).r
def frK (g:Nat→T_Bar) (nb:Nat) (N:Int) (pl:Nat→T_Place) (np:Nat):Int:=if fwB g nb N pl np=true then (rkF g nb N.toNat pl:Int) else -1
theorem fw_N {g:Nat→T_Bar} {nb:Nat} {N:Int} {pl:Nat→T_Place} {np:Nat} (h:fwB g nb N pl np=true):∃ n:Nat,N=n:=by
  obtain ⟨h1,_⟩:=fw_parts h
  have:=(graph_inR h1).1
  exact ⟨N.toNat,by have:(1:Int)≤N:=this;omega⟩
theorem con_FrRank_i (g:Nat→T_Bar) (nb:Nat) (N:Int) (pl:Nat→T_Place) (np:Nat) (hn:nb≤1048576∧np≤1048576) :
    Con Tryz.prog 130 0 [] [frA g nb N pl np] [] (.p (.int .i64 (frK g nb N pl np))):=by
  have cf:=con_IsFramework_i g nb N pl np hn
  unfold frK
  cases hf:fwB g nb N pl np with
  | false =>
    rw [hf] at cf
    rw [if_neg Bool.false_ne_true]
    refine csZ Tryz.func130 (fun c hc=>?_)
    refine pkZ Tryz.func130 hc (frN g nb N pl np) ?_
    repeat' (first | exact aN | apply aI)
    all_goals (first | omega | rfl | (intros;first | assumption | exact trivial | rfl) | (exact cf) | rfl)
  | true =>
    rw [hf] at cf
    rw [if_pos rfl]
    obtain ⟨n,rfl⟩:=fw_N hf
    obtain ⟨h1,h2,h3,h4,hok,hb⟩:=fw_ok hf
    have cm:=con_RM_i hf
    have cr:=con_rank (n:=2*n) (m:=nb) (M:=rgM g pl) (by omega) (by omega) (by decide) Had.big64 (fun c hc=>hb.red c hc)
    rw [show ((2*n:Nat):Int)=2*(n:Int) by omega] at cr
    show Con _ _ _ _ _ _ (.p (.int .i64 ((Had.rrun nb (Had.rini (rgM g pl)) (2*n)).r:Nat)))
    generalize (Had.rrun nb (Had.rini (rgM g pl)) (2*n)).r=r at *
    refine csZ Tryz.func130 (fun c hc=>?_)
    refine pkZ Tryz.func130 hc (frR g nb n pl np (rgM g pl) r) ?_
    repeat' (first | exact aN | apply aI)
    all_goals (first | omega | rfl | (intros;first | assumption | exact trivial | rfl) | (exact cf) | (exact cm) | (exact cr) | rfl | (intro t ht;simp only [All];exact ⟨ht,trivial,Nat.le_refl _,trivial⟩) | (intro t ht;simp [All];omega) | (simp only [All];first | omega | rfl | (intros;first | assumption | exact trivial | rfl) | (exact cf) | (exact cm) | (exact cr) | rfl | (intro t ht;simp only [All];exact ⟨ht,trivial,Nat.le_refl _,trivial⟩) | (intro t ht;simp [All];omega)))
theorem con_FrRank_s (g:Nat→T_Bar) (nb:Nat) (N:Int) (pl:Nat→T_Place) (np:Nat) (hn:nb≤1048576∧np≤1048576) :
    Con Tryz.prog 119 0 [] [frA g nb N pl np] [] (.p (.int .i64 (frK g nb N pl np))):=by
  have cf:=con_IsFramework_s g nb N pl np hn
  unfold frK
  cases hf:fwB g nb N pl np with
  | false =>
    rw [hf] at cf
    rw [if_neg Bool.false_ne_true]
    refine csZ Tryz.func119 (fun c hc=>?_)
    refine pkZ Tryz.func119 hc (fsM g nb N pl np) ?_
    repeat' (first | exact aN | apply aI)
    all_goals (first | omega | rfl | (intros;first | assumption | exact trivial | rfl) | (exact cf) | rfl)
  | true =>
    rw [hf] at cf
    rw [if_pos rfl]
    obtain ⟨n,rfl⟩:=fw_N hf
    obtain ⟨h1,h2,h3,h4,hok,hb⟩:=fw_ok hf
    have cm:=con_RM_s hf
    have cr:=con_l9Reduced (n:=2*n) (m:=nb) (M:=rgM g pl) (by omega) (by omega) (by decide) Had.big64 (by decide) (fun c hc=>hb.red c hc) rfl
    show Con _ _ _ _ _ _ (.p (.int .i64 ((Had.rrun nb (Had.rini (rgM g pl)) (2*n)).r:Nat)))
    generalize Had.rrun nb (Had.rini (rgM g pl)) (2*n)=S at *
    refine csZ Tryz.func119 (fun c hc=>?_)
    refine pkZ Tryz.func119 hc (fsR g nb n pl np (rgM g pl) (fun i=>Had.prm (2*n) (S.A i)) S.r (fun i=>(S.p i:Int))) ?_
    repeat' (first | exact aN | apply aI)
    all_goals (first | omega | rfl | (intros;first | assumption | exact trivial | rfl) | (exact cf) | (exact cm) | (exact cr) | rfl | (intro t ht;simp only [All];exact ⟨ht,trivial,Nat.le_refl _,trivial⟩) | (intro t ht;simp [All];omega) | (simp only [All];first | omega | rfl | (intros;first | assumption | exact trivial | rfl) | (exact cf) | (exact cm) | (exact cr) | rfl | (intro t ht;simp only [All];exact ⟨ht,trivial,Nat.le_refl _,trivial⟩) | (intro t ht;simp [All];omega)))
end Go.Proofs.YtkkjoghiigiokaaGreat.Mach
namespace Go.Proofs.YtkkjoghiigiokaaGreat.Mach
open Go
set_option linter.unusedVariables false
set_option linter.unusedSimpArgs false
def nH (n m:Nat) (M:Nat→Nat→Int) (r:Nat) (p:Nat→Int) (R:Nat→Int):Hp:=[(0,ooOb 1 m (cM n M)),(1,ffOb m (cM n M)),(2,iOb r p),(3,iOb n R)]
def N0 (n m:Nat) (M:Nat→Nat→Int) (r:Nat) (p:Nat→Int) (d:Int) (i:Nat) (R:Nat→Int):St :=
  ⟨[.p .any,.p (.int .i64 n),.p .any,.p .any,.p .any,.ar 1 0 0 m,.ar 1 2 0 r,.p (.int .i64 d),.ar 1 3 0 n]++List.replicate 17 anyA++[.p (.int .i64 n),.p (.int .i64 i)]++List.replicate 65 anyA,nH n m M r p R,4⟩
def N1 (n m:Nat) (M:Nat→Nat→Int) (r:Nat) (p:Nat→Int) (d:Int) (i:Nat) (R:Nat→Int):St :=
  ⟨[.p .any,.p (.int .i64 n),.p .any,.p .any,.p .any,.ar 1 0 0 m,.p .any,.p (.int .i64 d),.ar 1 3 0 n]++List.replicate 25 anyA++[.ar 1 2 0 r,.p (.int .i64 r),.p (.int .i64 i)]++List.replicate 56 anyA,nH n m M r p R,4⟩
def nK (n m:Nat) (M:Nat→Nat→Int) (R:Nat→Int) (q:Nat) (W:Nat→Nat→Int):Hp:=[(0,ooOb 1 m (cM n M)),(1,ffOb m (cM n M)),(2,iOb n R),(3,ooOb 4 q (cM n W)),(4,ffOb q (cM n W))]
def N2 (n m:Nat) (M:Nat→Nat→Int) (d:Int) (R:Nat→Int) (c q:Nat) (W:Nat→Nat→Int):St :=
  ⟨[.p .any,.p (.int .i64 n),.p .any,.p .any,.p .any,.ar 1 0 0 m,.p .any,.p (.int .i64 d),.ar 1 2 0 n,.p .any,.p .any,.p .any,.ar 1 3 0 q]++List.replicate 34 anyA++[.p (.int .i64 n),.p (.int .i64 c)]++List.replicate 44 anyA,nK n m M R q W,5⟩
def sK (n m:Nat) (M:Nat→Nat→Int) (r:Nat) (p:Nat→Int) (q:Nat) (W:Nat→Nat→Int):Hp:=[(0,ooOb 1 m (cM n M)),(1,ffOb m (cM n M)),(2,iOb r p),(3,ooOb 4 q (cM n W)),(4,ffOb q (cM n W))]
def L0 (n m:Nat) (M:Nat→Nat→Int) (r:Nat) (p:Nat→Int) (c q:Nat) (W:Nat→Nat→Int):St :=
  ⟨[.p .any,.p (.int .i64 n),.p .any,.p .any,.p .any,.ar 1 3 0 q,.ar 1 0 0 m,.ar 1 2 0 r,.p (.int .i64 c)]++List.replicate 111 anyA,sK n m M r p q W,5⟩
def L1 (n m:Nat) (M:Nat→Nat→Int) (r:Nat) (p:Nat→Int) (c q:Nat) (W:Nat→Nat→Int) (d:Int) (i:Nat):St :=
  ⟨[.p .any,.p (.int .i64 n),.p .any,.p .any,.p .any,.ar 1 3 0 q,.ar 1 0 0 m,.ar 1 2 0 r,.p (.int .i64 c),.p (.int .i64 d),.p (.int .i64 i)]++List.replicate 109 anyA,sK n m M r p q W,5⟩
def L2 (n m:Nat) (M:Nat→Nat→Int) (r:Nat) (p:Nat→Int) (c q:Nat) (W:Nat→Nat→Int) (d:Int) (v:Nat→Int) (i:Nat):St :=
  ⟨[.p .any,.p (.int .i64 n),.p .any,.p .any,.p .any,.ar 1 3 0 q,.ar 1 0 0 m,.ar 1 2 0 r,.p (.int .i64 c),.p (.int .i64 d),.p .any,.p .any,.p .any,.ar 1 5 0 n,.p (.int .i64 i)]++List.replicate 105 anyA,sK n m M r p q W++[(5,iOb n v)],6⟩
theorem na (n m:Nat) (M:Nat→Nat→Int) (r:Nat) (p:Nat→Int) (d:Int) (i:Nat) (R R':Nat→Int) :
    pieceOb Tryz.prog 0 [rg 1,.dec true,rg 2,rg 4,rg 2,.head] zf47 (N0 n m M r p d i R) [0,1,2,3] 1 (N0 n m M r p d (i+1) R') =
    some (zf47,[((decide ((↑i:Int)<(↑n:Int)))=true),(IL 0 (↑i:Int)),(IT (↑i:Int) (↑n:Int)),(NT i n),((false=true)→ ((n:Nat)=1)),(ZLo ((↑i:Int)+1)),(ZHi ((↑i:Int)+1)),(AI ((↑n:Int))),(AN 0),(AN m),(AN 0),(AN r),(AI d),(AN 0),(AN n),(AI ((↑n:Int))),((((↑i:Int)+1):Int)=(↑(i+1):Int)),(AN 1),(NL m m),(AA m (fun i_1=>[.ar 1 ⟨1,some i_1⟩ 0 n])),(NL m m),(∀ i_1:Nat,(((i_1:Nat)<m)→All [(AN 1),((n:Nat)≤n),(AP n (fun r_1=>[.int .i64 ((cM n M i_1).2 r_1)]))])),(AN 1),(NL r r),(AA r (fun i_1=>[.p (.int .i64 (p i_1))])),(AN 1),(NL n n),(CV [(3,⟨false,1,n,(fun i_2=>(if (i_2=i) then [.p (.int .i64 (-1))] else [.p (.int .i64 (R i_2))]))⟩),(0,⟨false,1,m,(fun i_2=>[.ar 1 ⟨1,some i_2⟩ 0 n])⟩),(1,⟨true,0,m,(fun i_2=>[.p (.seq false 1 n (fun i_3=>[.int .i64 ((cM n M i_2).2 i_3)]))])⟩),(2,⟨false,1,r,(fun i_2=>[.p (.int .i64 (p i_2))])⟩)] [0,1,2,3] 1 n (fun i_1=>if (i_1=i) then [.p (.int .i64 (-1))] else [.p (.int .i64 (R i_1))]) (fun i_1=>[.p (.int .i64 (R' i_1))]))]):=by kernel_rfl
theorem nb (n m:Nat) (M:Nat→Nat→Int) (r:Nat) (p:Nat→Int) (d:Int) (i:Nat) (R R':Nat→Int) :
    pieceOb Tryz.prog 0 [rg 1,.dec false,rg 3,.head] zf47 (N0 n m M r p d i R) [0,1,2,3] 1 (N1 n m M r p d 0 R') =
    some ([.code (cAt (bodyOf Tryz.f318) [1,1,1,1,0,1,0,0]),.inLoop (cAt (bodyOf Tryz.f318) [1,1,1,1,0,1,0,0]),.inBlock 2,.code (cAt (bodyOf Tryz.f318) [1,1,1,1,1])],[((decide ((↑i:Int)<(↑n:Int)))=false),(AI ((↑n:Int))),(AN 0),(AN m),(AI d),(AN 0),(AN n),(AN 0),(AN r),(AI ((↑r:Int))),((0:Int)=(↑0:Int)),(AN 1),(NL m m),(AA m (fun i_1=>[.ar 1 ⟨1,some i_1⟩ 0 n])),(NL m m),(∀ i_1:Nat,(((i_1:Nat)<m)→All [(AN 1),((n:Nat)≤n),(AP n (fun r_1=>[.int .i64 ((cM n M i_1).2 r_1)]))])),(AN 1),(NL r r),(AA r (fun i_1=>[.p (.int .i64 (p i_1))])),(AN 1),(NL n n),(∀ i_1:Nat,(((i_1:Nat)<n)→(All []∧(([.p (.int .i64 (R i_1))]:List AV)=[.p (.int .i64 (R' i_1))]))))]):=by kernel_rfl
theorem ne (n m:Nat) (M:Nat→Nat→Int) (d:Int) (R:Nat→Int) (c q:Nat) (W:Nat→Nat→Int) :
    pieceOb Tryz.prog 0 [rg 1,.dec true,rg 2,rg 5,.dec true,rg 2,.head] zf31 (N2 n m M d R c q W) [0,1,2,3,4] 1 (N2 n m M d R (c+1) q W) =
    some (zf31,[((decide ((↑c:Int)<(↑n:Int)))=true),(IL 0 (↑c:Int)),(IT (↑c:Int) (↑n:Int)),(NT c n),((decide (R ((↑c:Int).toNat+0)≥0))=true),(ZLo ((↑c:Int)+1)),(ZHi ((↑c:Int)+1)),(AI ((↑n:Int))),(AN 0),(AN m),(AI d),(AN 0),(AN n),(AN 0),(AN q),(AI ((↑n:Int))),((((↑c:Int)+1):Int)=(↑(c+1):Int)),(AN 1),(NL m m),(AA m (fun i=>[.ar 1 ⟨1,some i⟩ 0 n])),(NL m m),(∀ i:Nat,(((i:Nat)<m)→All [(AN 1),((n:Nat)≤n),(AP n (fun r=>[.int .i64 ((cM n M i).2 r)]))])),(AN 1),(NL n n),(AA n (fun i=>[.p (.int .i64 (R i))])),(AN 1),(NL q q),(AA q (fun i=>[.ar 1 ⟨4,some i⟩ 0 n])),(NL q q),(∀ i:Nat,(((i:Nat)<q)→All [(AN 1),((n:Nat)≤n),(AP n (fun r=>[.int .i64 ((cM n W i).2 r)]))]))]):=by kernel_rfl
theorem la (n m:Nat) (M:Nat→Nat→Int) (r:Nat) (p:Nat→Int) (c q:Nat) (W:Nat→Nat→Int) :
    pieceOb Tryz.prog 0 [rg 3,.dec true,rm [(2,oc [] (.p (.bool true)))] 0,.dec true,rg 3,.head] zf48 (L0 n m M r p c q W) [0,1,2,3,4] 1 (L0 n m M r p (c+1) q W) =
    some (zf48,[((decide ((↑c:Int)<(↑n:Int)))=true),(AN 1),(NL r r),Con Tryz.prog 172 0 [] [.p (.seq true 1 r (fun i=>[.int .i64 (p i)])),.p (.int .i64 (↑c:Int))] [] (.p (.bool true)),(true=true),(ZLo ((↑c:Int)+1)),(ZHi ((↑c:Int)+1)),(AI ((↑n:Int))),(AN 0),(AN q),(AN 0),(AN m),(AN 0),(AN r),((((↑c:Int)+1):Int)=(↑(c+1):Int)),(AN 1),(NL m m),(AA m (fun i=>[.ar 1 ⟨1,some i⟩ 0 n])),(NL m m),(∀ i:Nat,(((i:Nat)<m)→All [(AN 1),((n:Nat)≤n),(AP n (fun r_1=>[.int .i64 ((cM n M i).2 r_1)]))])),(AN 1),(NL r r),(AA r (fun i=>[.p (.int .i64 (p i))])),(AN 1),(NL q q),(AA q (fun i=>[.ar 1 ⟨4,some i⟩ 0 n])),(NL q q),(∀ i:Nat,(((i:Nat)<q)→All [(AN 1),((n:Nat)≤n),(AP n (fun r_1=>[.int .i64 ((cM n W i).2 r_1)]))]))]):=by kernel_rfl
theorem lb (n m:Nat) (M:Nat→Nat→Int) (r:Nat) (p:Nat→Int) (c q:Nat) (W:Nat→Nat→Int) :
    pieceOb Tryz.prog 0 [rg 3,.dec true,rm [(2,oc [] (.p (.bool false)))] 0,.dec false,rg 1,rg 1,.head] zf48 (L0 n m M r p c q W) [0,1,2,3,4] 1 (L1 n m M r p c q W 1 0) =
    some ([.code (cAt (bodyOf Tryz.f315) [1,1,1,0,1,0,0,1,0,0,1,1,0,1,0,0]),.inLoop (cAt (bodyOf Tryz.f315) [1,1,1,0,1,0,0,1,0,0,1,1,0,1,0,0]),.inBlock 2,.code (cAt (bodyOf Tryz.f315) [1,1,1,0,1,0,0,1,0,0,1,1,1]),.inBlock 1,.code (cAt (bodyOf Tryz.f315) [1,1,1,0,1,0,0,1,1]),.inLoop (cAt (bodyOf Tryz.f315) [1,1,1,0,1,0,0]),.inBlock 0,.code (cAt (bodyOf Tryz.f315) [1,1,1,1])],[((decide ((↑c:Int)<(↑n:Int)))=true),(AN 1),(NL r r),Con Tryz.prog 172 0 [] [.p (.seq true 1 r (fun i=>[.int .i64 (p i)])),.p (.int .i64 (↑c:Int))] [] (.p (.bool false)),(false=false),(AI ((↑n:Int))),(AN 0),(AN q),(AN 0),(AN m),(AN 0),(AN r),(AI ((↑c:Int))),(AI 1),((0:Int)=(↑0:Int)),(AN 1),(NL m m),(AA m (fun i=>[.ar 1 ⟨1,some i⟩ 0 n])),(NL m m),(∀ i:Nat,(((i:Nat)<m)→All [(AN 1),((n:Nat)≤n),(AP n (fun r_1=>[.int .i64 ((cM n M i).2 r_1)]))])),(AN 1),(NL r r),(AA r (fun i=>[.p (.int .i64 (p i))])),(AN 1),(NL q q),(AA q (fun i=>[.ar 1 ⟨4,some i⟩ 0 n])),(NL q q),(∀ i:Nat,(((i:Nat)<q)→All [(AN 1),((n:Nat)≤n),(AP n (fun r_1=>[.int .i64 ((cM n W i).2 r_1)]))]))]):=by kernel_rfl
theorem le (n m:Nat) (M:Nat→Nat→Int) (r:Nat) (p:Nat→Int) (c q:Nat) (W:Nat→Nat→Int) (d:Int) (v v':Nat→Int) (i:Nat) :
    pieceOb Tryz.prog 0 [rg 4,.dec true,rm [(24,oF)] 3,rg 3,.head] zf8 (L2 n m M r p c q W d v i) [0,1,2,3,4,5] 1 (L2 n m M r p c q W d v' (i+1)) =
    some (zf8,[((decide ((↑i:Int)<(↑r:Int)))=true),(IL 0 (↑i:Int)),(IT (↑i:Int) (↑r:Int)),(NT i r),(IL 0 (↑i:Int)),(IT (↑i:Int) (↑m:Int)),(NT i m),(IL 0 (↑c:Int)),(IT (↑c:Int) (↑n:Int)),(NT i m),(NT c n),(ZLo ((cM n M i).2 c*d)),(ZHi ((cM n M i).2 c*d)),(IL 0 (↑i:Int)),(IT (↑i:Int) (↑m:Int)),(NT i m),(IL 0 (↑i:Int)),(IT (↑i:Int) (↑r:Int)),(NT i r),(IL 0 (p i)),(IT (p i) (↑n:Int)),(NT i m),(NT ((p i).toNat) n),((((cM n M i).2 (p i).toNat):Int)≠0),(ZLo (0 - IntKind.i64.wrap (((cM n M i).2 c*d).tdiv ((cM n M i).2 (p i).toNat)))),(ZHi (0 - IntKind.i64.wrap (((cM n M i).2 c*d).tdiv ((cM n M i).2 (p i).toNat)))),(IL 0 (p i)),(IT (p i) (↑n:Int)),(NT ((p i).toNat) n),((false=true)→ ((n:Nat)=1)),(ZLo ((↑i:Int)+1)),(ZHi ((↑i:Int)+1)),(AI ((↑n:Int))),(AN 0),(AN q),(AN 0),(AN m),(AN 0),(AN r),(AI ((↑c:Int))),(AI d),(AN 0),(AN n),((((↑i:Int)+1):Int)=(↑(i+1):Int)),(AN 1),(NL m m),(AA m (fun i_1=>[.ar 1 ⟨1,some i_1⟩ 0 n])),(NL m m),(∀ i_1:Nat,(((i_1:Nat)<m)→All [(AN 1),((n:Nat)≤n),(AP n (fun r_1=>[.int .i64 ((cM n M i_1).2 r_1)]))])),(AN 1),(NL r r),(AA r (fun i_1=>[.p (.int .i64 (p i_1))])),(AN 1),(NL q q),(AA q (fun i_1=>[.ar 1 ⟨4,some i_1⟩ 0 n])),(NL q q),(∀ i_1:Nat,(((i_1:Nat)<q)→All [(AN 1),((n:Nat)≤n),(AP n (fun r_1=>[.int .i64 ((cM n W i_1).2 r_1)]))])),(AN 1),(NL n n),(CV [(5,⟨false,1,n,(fun i_2=>(if (i_2=(p i).toNat) then [.p (.int .i64 (0 - IntKind.i64.wrap (((cM n M i).2 c*d).tdiv ((cM n M i).2 (p i).toNat))))] else [.p (.int .i64 (v i_2))]))⟩),(0,⟨false,1,m,(fun i_2=>[.ar 1 ⟨1,some i_2⟩ 0 n])⟩),(1,⟨true,0,m,(fun i_2=>[.p (.seq false 1 n (fun i_3=>[.int .i64 ((cM n M i_2).2 i_3)]))])⟩),(2,⟨false,1,r,(fun i_2=>[.p (.int .i64 (p i_2))])⟩),(3,⟨false,1,q,(fun i_2=>[.ar 1 ⟨4,some i_2⟩ 0 n])⟩),(4,⟨true,0,q,(fun i_2=>[.p (.seq false 1 n (fun i_3=>[.int .i64 ((cM n W i_2).2 i_3)]))])⟩)] [0,1,2,3,4,5] 1 n (fun i_1=>if (i_1=(p i).toNat) then [.p (.int .i64 (0 - IntKind.i64.wrap (((cM n M i).2 c*d).tdiv ((cM n M i).2 (p i).toNat))))] else [.p (.int .i64 (v i_1))]) (fun i_1=>[.p (.int .i64 (v' i_1))]))]):=by kernel_rfl
theorem lf (n m:Nat) (M:Nat→Nat→Int) (r:Nat) (p:Nat→Int) (c q:Nat) (W W':Nat→Nat→Int) (d:Int) (v w:Nat→Int) (i:Nat) :
    pieceOb Tryz.prog 0 [rg 4,.dec false,rm [(2,oc [(0,iOb n w)] (.ar 1 0 0 n))] 3,rg 3,.head] zf8 (L2 n m M r p c q W d v i) [0,1,2,262,.ins 4 q 198] 1 (L0 n m M r p (c+1) (q+1) W') =
    some (zf48,[((decide ((↑i:Int)<(↑r:Int)))=false),(AN 1),(NL n n),Con Tryz.prog 353 0 [] [.p (.seq true 1 n (fun i_1=>[.int .i64 (v i_1)]))] [(0,⟨false,1,n,(fun i_1=>[.p (.int .i64 (w i_1))])⟩)] (.ar 1 0 0 n),(NL 1 1),(NL q q),(NL ((q+1)*24) 140737488355328),(NL (q+1) 9223372036854775807),(ZLo ((↑c:Int)+1)),(ZHi ((↑c:Int)+1)),(AI ((↑n:Int))),(AN 0),(AN ((q+1))),(AN 0),(AN m),(AN 0),(AN r),((((↑c:Int)+1):Int)=(↑(c+1):Int)),(AN 1),(NL m m),(AA m (fun i_1=>[.ar 1 ⟨1,some i_1⟩ 0 n])),(NL m m),(∀ i_1:Nat,(((i_1:Nat)<m)→All [(AN 1),((n:Nat)≤n),(AP n (fun r_1=>[.int .i64 ((cM n M i_1).2 r_1)]))])),(AN 1),(NL r r),(AA r (fun i_1=>[.p (.int .i64 (p i_1))])),(AN 1),(NL (q+1) (q+1)),(CV [(262,⟨false,1,(q+1),(fun i_2=>(if (i_2<q) then [.ar 1 ⟨4,some i_2⟩ 0 n] else [.ar 1 198 0 n]))⟩),(230,⟨false,1,1,(fun i_2=>[.ar 1 198 0 n])⟩),(198,⟨false,1,n,(fun i_2=>[.p (.int .i64 (w i_2))])⟩),(0,⟨false,1,m,(fun i_2=>[.ar 1 ⟨1,some i_2⟩ 0 n])⟩),(1,⟨true,0,m,(fun i_2=>[.p (.seq false 1 n (fun i_3=>[.int .i64 ((cM n M i_2).2 i_3)]))])⟩),(2,⟨false,1,r,(fun i_2=>[.p (.int .i64 (p i_2))])⟩),(4,⟨true,0,q,(fun i_2=>[.p (.seq false 1 n (fun i_3=>[.int .i64 ((cM n W i_2).2 i_3)]))])⟩),(5,⟨false,1,n,(fun i_2=>[.p (.int .i64 (v i_2))])⟩)] [0,1,2,262,.ins 4 q 198] 1 (q+1) (fun i_1=>if (i_1<q) then [.ar 1 ⟨4,some i_1⟩ 0 n] else [.ar 1 198 0 n]) (fun i_1=>[.ar 1 ⟨4,some i_1⟩ 0 n])),(∀ i_1:Nat,(((i_1:Nat)<(q+1))→(((i_1:Nat)≠q)→(((i_1:Nat)<q)∧All [(AN 1),((n:Nat)≤n),(∀ r_1:Nat,(((r_1:Nat)<n)→(([.int .i64 ((cM n W i_1).2 r_1)]:List PV)=[.int .i64 ((cM n W' i_1).2 r_1)])))])))),(((q:Nat)<(q+1))→ All [(AN 1),((n:Nat)≤n),(∀ r_1:Nat,(((r_1:Nat)<n)→(([.int .i64 (w r_1)]:List PV)=[.int .i64 ((cM n W' q).2 r_1)])))])]):=by kernel_rfl
end Go.Proofs.YtkkjoghiigiokaaGreat.Mach
namespace Go.Proofs.YtkkjoghiigiokaaGreat.Mach
open Go
set_option linter.unusedVariables false
set_option linter.unusedSimpArgs false
def sp0 (pl:Nat→T_Place) (i:Nat):Bool:=(pl i).1==(pl 0).1&&((pl i).2.1==(pl 0).2.1&&true)
def FfI (g:Nat→T_Bar) (nb N:Nat) (pl:Nat→T_Place) (np:Nat) (i:Nat) (b:Bool):St :=
  ⟨[.p .any,.pt 3 0 0 0,.p .any,.p (.int .i64 3),.p (.bool b)]++List.replicate 6 anyA++[pcL pl np,.p (.int .i64 np),.p (.int .i64 i)]++List.replicate 23 anyA,[(0,fbx g nb N pl np)],1⟩
def TvS (g:Nat→T_Bar) (nb N:Nat) (pl:Nat→T_Place) (np:Nat) (i:Nat):St :=
  ⟨[.p .any,.pt 3 0 0 0,.p .any,.p (.int .i64 i)]++List.replicate 17 anyA,[(0,fbx g nb N pl np)],1⟩
theorem ffN (g:Nat→T_Bar) (nb:Nat) (N:Int) (pl:Nat→T_Place) (np:Nat) :
    pathOb Tryz.prog Tryz.f131 0 [rg 2,rm [(1,oc [] (.p (.bool false)))] 1,.dec true,rg 1] [.code (bodyOf Tryz.f131)] (start Tryz.f131 [] 0 [frA g nb N pl np]) [] 1 [] (.p (.int .i64 (-1))) =
    some [(NT 0 1),Con Tryz.prog 128 0 [] [(zf35 N nb g np pl)] [] (.p (.bool false)),((!false)=true),(AI ((-1)))]:=by kernel_rfl
theorem ffZ (g:Nat→T_Bar) (nb N:Nat) (pl:Nat→T_Place) (np:Nat) :
    pieceOb Tryz.prog 0 [rg 2,rm [(1,oc [] (.p (.bool true)))] 1,.dec false,rg 1,rg 1,rg 4,.head] [.code (bodyOf Tryz.f131)] (start Tryz.f131 [] 0 [frA g nb N pl np]) [0] 1 (FfI g nb N pl np 0 true) =
    some (zf39,[(NT 0 1),Con Tryz.prog 128 0 [] [(zf32 N nb g np pl)] [] (.p (.bool true)),((!true)=false),(NT 0 1),(AN 0),(AI 3),(true=true),(AN np),(AP np (fun i=>[.int .i64 ((pl i).1),.int .i64 ((pl i).2.1)])),(AI ((↑np:Int))),((0:Int)=(↑0:Int)),((([AV.p (PV.int IntKind.i64 (↑N:Int)),brL g nb,pcL pl np].length):Nat)=3),(NL 1 1),(NL 1 1),(AI ((↑N:Int))),(AN nb),(AP nb (fun i=>[.int .i64 ((g i).1),.int .i64 ((g i).2.1)])),(AN np),(AP np (fun i=>[.int .i64 ((pl i).1),.int .i64 ((pl i).2.1)]))]):=by kernel_rfl
theorem ffL (g:Nat→T_Bar) (nb N:Nat) (pl:Nat→T_Place) (np:Nat) (i:Nat) (b b':Bool) :
    pieceOb Tryz.prog 0 [rg 1,.dec true,rg 4,rg 10,rg 2,.head] zf39 (FfI g nb N pl np i b) [0] 1 (FfI g nb N pl np (i+1) b') =
    some (zf39,[((decide ((↑i:Int)<(↑np:Int)))=true),(IL 0 (↑i:Int)),(IT (↑i:Int) (↑np:Int)),(NT 0 1),((true=true)→ (AN 1)),((b=true)→(NT 0 1)),(AG b),((b=true)→(NT 0 1)),(AG b),((b=true)→(IL 0 0)),((b=true)→(IT 0 (↑np:Int))),(AG b),(AG b),(AG b),(AG b),(ZLo ((↑i:Int)+1)),(ZHi ((↑i:Int)+1)),(AN 0),(AI 3),((bif b then (pl i).1==(pl 0).1&&((pl i).2.1==(pl 0).2.1&&true) else false)=b'),(AN np),(AP np (fun i_1=>[.int .i64 ((pl i_1).1),.int .i64 ((pl i_1).2.1)])),(AI ((↑np:Int))),((((↑i:Int)+1):Int)=(↑(i+1):Int)),(AN 3),(NL 1 1),(NL 1 1),(AI ((↑N:Int))),(AN nb),(AP nb (fun i_1=>[.int .i64 ((g i_1).1),.int .i64 ((g i_1).2.1)])),(AN np),(AP np (fun i_1=>[.int .i64 ((pl i_1).1),.int .i64 ((pl i_1).2.1)]))]):=by kernel_rfl
theorem ff2 (g:Nat→T_Bar) (nb N:Nat) (pl:Nat→T_Place) (np:Nat) (i:Nat) (r:Int) :
    pathOb Tryz.prog Tryz.f131 0 [rg 1,.dec false,rg 1,.dec true,rg 1,rm [(7,oc [] (.p (.int .i64 r)))] 2] zf39 (FfI g nb N pl np i true) [] 1 [] (.p (.int .i64 (2*(N:Int) - 2 - r))) =
    some [((decide ((↑i:Int)<(↑np:Int)))=false),(true=true),(NT 0 1),(ZLo (2*(↑N:Int))),(ZHi (2*(↑N:Int))),(ZLo (2*(↑N:Int) - 2)),(ZHi (2*(↑N:Int) - 2)),(NT 0 1),Con Tryz.prog 130 0 [] [(zf28 N nb g np pl)] [] (.p (.int .i64 r)),(ZLo (2*(↑N:Int) - 2 - r)),(ZHi (2*(↑N:Int) - 2 - r)),(AI ((2*(↑N:Int) - 2 - r)))]:=by kernel_rfl
theorem ff3 (g:Nat→T_Bar) (nb N:Nat) (pl:Nat→T_Place) (np:Nat) (i:Nat) (r:Int) :
    pathOb Tryz.prog Tryz.f131 0 [rg 1,.dec false,rg 1,.dec false,rm [(7,oc [] (.p (.int .i64 r)))] 2] zf39 (FfI g nb N pl np i false) [] 1 [] (.p (.int .i64 (2*(N:Int) - 3 - r))) =
    some [((decide ((↑i:Int)<(↑np:Int)))=false),(false=false),(NT 0 1),(ZLo (2*(↑N:Int))),(ZHi (2*(↑N:Int))),(ZLo (2*(↑N:Int) - 3)),(ZHi (2*(↑N:Int) - 3)),(NT 0 1),Con Tryz.prog 130 0 [] [(zf28 N nb g np pl)] [] (.p (.int .i64 r)),(ZLo (2*(↑N:Int) - 3 - r)),(ZHi (2*(↑N:Int) - 3 - r)),(AI ((2*(↑N:Int) - 3 - r)))]:=by kernel_rfl
theorem fgN (g:Nat→T_Bar) (nb:Nat) (N:Int) (pl:Nat→T_Place) (np:Nat) :
    pathOb Tryz.prog Tryz.f120 0 [rg 2,rm [(1,oc [] (.p (.bool false)))] 1,.dec true,rg 1] [.code (bodyOf Tryz.f120)] (start Tryz.f120 [] 0 [frA g nb N pl np]) [] 1 [] (.p (.int .i64 (-1))) =
    some [(NT 0 1),Con Tryz.prog 117 0 [] [(zf35 N nb g np pl)] [] (.p (.bool false)),((!false)=true),(AI ((-1)))]:=by kernel_rfl
theorem fgR (g:Nat→T_Bar) (nb N:Nat) (pl:Nat→T_Place) (np:Nat) (t r:Int) :
    pathOb Tryz.prog Tryz.f120 0 [rg 2,rm [(1,oc [] (.p (.bool true)))] 1,.dec false,rm [(5,oc [] (.p (.int .i64 t))),(2,oc [] (.p (.int .i64 r)))] 2] [.code (bodyOf Tryz.f120)] (start Tryz.f120 [] 0 [frA g nb N pl np]) [] 1 [] (.p (.int .i64 (2*(N:Int) - t - r))) =
    some [(NT 0 1),Con Tryz.prog 117 0 [] [(zf32 N nb g np pl)] [] (.p (.bool true)),((!true)=false),(NT 0 1),(ZLo (2*(↑N:Int))),(ZHi (2*(↑N:Int))),(NT 0 1),Con Tryz.prog 228 0 [] [(zf32 N nb g np pl)] [] (.p (.int .i64 t)),(ZLo (2*(↑N:Int) - t)),(ZHi (2*(↑N:Int) - t)),(NT 0 1),Con Tryz.prog 119 0 [] [(zf32 N nb g np pl)] [] (.p (.int .i64 r)),(ZLo (2*(↑N:Int) - t - r)),(ZHi (2*(↑N:Int) - t - r)),(AI ((2*(↑N:Int) - t - r)))]:=by kernel_rfl
theorem tvZ (g:Nat→T_Bar) (nb N:Nat) (pl:Nat→T_Place) (np:Nat) :
    pieceOb Tryz.prog 0 [rg 2,rg 1,.head] [.code (bodyOf Tryz.f228)] (start Tryz.f228 [] 0 [frA g nb N pl np]) [0] 1 (TvS g nb N pl np 1) =
    some (zf96,[(AN 0),((1:Int)=(↑1:Int)),((([AV.p (PV.int IntKind.i64 (↑N:Int)),brL g nb,pcL pl np].length):Nat)=3),(NL 1 1),(NL 1 1),(AI ((↑N:Int))),(AN nb),(AP nb (fun i=>[.int .i64 ((g i).1),.int .i64 ((g i).2.1)])),(AN np),(AP np (fun i=>[.int .i64 ((pl i).1),.int .i64 ((pl i).2.1)]))]):=by kernel_rfl
theorem tvL (g:Nat→T_Bar) (nb N:Nat) (pl:Nat→T_Place) (np:Nat) (i:Nat) :
    pieceOb Tryz.prog 0 [rg 5,.dec true,rg 10,.dec false,rg 3,.head] zf96 (TvS g nb N pl np i) [0] 1 (TvS g nb N pl np (i+1)) =
    some (zf96,[(NT 0 1),((decide ((↑i:Int)<(↑np:Int)))=true),(NT 0 1),(IL 0 (↑i:Int)),(IT (↑i:Int) (↑np:Int)),(NT 0 1),(IL 0 0),(IT 0 (↑np:Int)),((!((pl i).1==(pl 0).1&&((pl i).2.1==(pl 0).2.1&&true)))=false),(ZLo ((↑i:Int)+1)),(ZHi ((↑i:Int)+1)),(AN 0),((((↑i:Int)+1):Int)=(↑(i+1):Int)),(AN 3),(NL 1 1),(NL 1 1),(AI ((↑N:Int))),(AN nb),(AP nb (fun i_1=>[.int .i64 ((g i_1).1),.int .i64 ((g i_1).2.1)])),(AN np),(AP np (fun i_1=>[.int .i64 ((pl i_1).1),.int .i64 ((pl i_1).2.1)]))]):=by kernel_rfl
theorem tv3 (g:Nat→T_Bar) (nb N:Nat) (pl:Nat→T_Place) (np:Nat) (i:Nat) :
    pathOb Tryz.prog Tryz.f228 0 [rg 5,.dec true,rg 10,.dec true,rg 1] zf96 (TvS g nb N pl np i) [] 1 [] (.p (.int .i64 3)) =
    some [(NT 0 1),((decide ((↑i:Int)<(↑np:Int)))=true),(NT 0 1),(IL 0 (↑i:Int)),(IT (↑i:Int) (↑np:Int)),(NT 0 1),(IL 0 0),(IT 0 (↑np:Int)),((!((pl i).1==(pl 0).1&&((pl i).2.1==(pl 0).2.1&&true)))=true),(AI 3)]:=by kernel_rfl
theorem tv2 (g:Nat→T_Bar) (nb N:Nat) (pl:Nat→T_Place) (np:Nat) (i:Nat) :
    pathOb Tryz.prog Tryz.f228 0 [rg 5,.dec false,rg 1] zf96 (TvS g nb N pl np i) [] 1 [] (.p (.int .i64 2)) =
    some [(NT 0 1),((decide ((↑i:Int)<(↑np:Int)))=false),(AI 2)]:=by kernel_rfl
theorem isI (g:Nat→T_Bar) (nb:Nat) (N:Int) (pl:Nat→T_Place) (np:Nat) (r:Int) :
    pathOb Tryz.prog Tryz.f133 0 [rg 2,rm [(1,oc [] (.p (.int .i64 r)))] 2] [.code (bodyOf Tryz.f133)] (start Tryz.f133 [] 0 [frA g nb N pl np]) [] 1 [] (.p (.bool (r==0))) =
    some [(NT 0 1),Con Tryz.prog 131 0 [] [(zf35 N nb g np pl)] [] (.p (.int .i64 r)),((r==0)=(r==0))]:=by kernel_rfl
theorem isS (g:Nat→T_Bar) (nb:Nat) (N:Int) (pl:Nat→T_Place) (np:Nat) (r:Int) :
    pathOb Tryz.prog Tryz.f123 0 [rg 2,rm [(1,oc [] (.p (.int .i64 r)))] 2] [.code (bodyOf Tryz.f123)] (start Tryz.f123 [] 0 [frA g nb N pl np]) [] 1 [] (.p (.bool (r==0))) =
    some [(NT 0 1),Con Tryz.prog 120 0 [] [(zf35 N nb g np pl)] [] (.p (.int .i64 r)),((r==0)=(r==0))]:=by kernel_rfl
def tvF (pl:Nat→T_Place) (np:Nat):Int:=if allB (sp0 pl) np=true then 2 else 3
def ffF (g:Nat→T_Bar) (nb:Nat) (N:Int) (pl:Nat→T_Place) (np:Nat):Int:=if fwB g nb N pl np=true then 2*N - tvF pl np - frK g nb N pl np else -1
theorem frK_b (g:Nat→T_Bar) (nb:Nat) (N:Int) (pl:Nat→T_Place) (np:Nat):-1≤frK g nb N pl np∧frK g nb N pl np≤10:=by
  unfold frK
  split
  · rename_i h
    obtain ⟨n,rfl⟩:=fw_N h
    obtain ⟨h1,h2,h3,h4,hok,hb⟩:=fw_ok h
    have:=(hb.red (2*n) (Nat.le_refl _)).r
    show -1≤((Had.rrun nb (Had.rini (rgM g pl)) (2*n)).r:Int)∧((Had.rrun nb (Had.rini (rgM g pl)) (2*n)).r:Int)≤10
    unfold rgM
    omega
  · omega
theorem con_Freedom_i (g:Nat→T_Bar) (nb:Nat) (N:Int) (pl:Nat→T_Place) (np:Nat) (hn:nb≤1048576∧np≤1048576) :
    Con Tryz.prog 131 0 [] [frA g nb N pl np] [] (.p (.int .i64 (ffF g nb N pl np))):=by
  have cf:=con_IsFramework_i g nb N pl np hn
  have ck:=con_FrRank_i g nb N pl np hn
  have hk:=frK_b g nb N pl np
  unfold ffF
  cases hf:fwB g nb N pl np with
  | false =>
    rw [hf] at cf
    rw [if_neg Bool.false_ne_true]
    refine csZ Tryz.func131 (fun c hc=>?_)
    refine pkZ Tryz.func131 hc (ffN g nb N pl np) ?_
    repeat' (first | exact aN | apply aI)
    all_goals (first | omega | rfl | (intros;first | assumption | exact trivial | rfl) | (exact cf) | rfl)
  | true =>
    rw [hf] at cf
    rw [if_pos rfl]
    obtain ⟨n,rfl⟩:=fw_N hf
    obtain ⟨h1,h2,h3,h4,hok,hb⟩:=fw_ok hf
    generalize frK g nb n pl np=r at *
    refine csZ Tryz.func131 (fun c hc=>?_)
    have lo:∀ d i,i+d=np→Run Tryz.prog c 131 zf39 (FfI g nb n pl np i (allB (sp0 pl) i)) (Post c [] (.p (.int .i64 (2*(n:Int) - tvF pl np - r)))):=by
      intro d
      induction d with
      | zero =>
        intro i hi
        obtain rfl:i=np:=by omega
        have hd:decide ((i:Int)<(i:Int))=false:=decide_eq_false (by omega)
        unfold tvF
        cases hs:allB (sp0 pl) i with
        | true =>
          rw [if_pos rfl]
          refine pkZ Tryz.func131 hc (ff2 g nb n pl i i r) ?_
          repeat' (first | exact aN | apply aI)
          all_goals (first | omega | rfl | (intros;first | assumption | exact trivial | rfl) | (exact hd) | (exact ck))
        | false =>
          rw [if_neg Bool.false_ne_true]
          refine pkZ Tryz.func131 hc (ff3 g nb n pl i i r) ?_
          repeat' (first | exact aN | apply aI)
          all_goals (first | omega | rfl | (intros;first | assumption | exact trivial | rfl) | (exact hd) | (exact ck))
      | succ d ih =>
        intro i hi
        have hd:decide ((i:Int)<(np:Int))=true:=decide_eq_true (by omega)
        have hb':(bif allB (sp0 pl) i then (pl i).1==(pl 0).1&&((pl i).2.1==(pl 0).2.1&&true) else false)=allB (sp0 pl) (i+1):=by
          rw [allB];cases allB (sp0 pl) i<;>rfl
        refine pcZ hc (ffL g nb n pl np i (allB (sp0 pl) i) (allB (sp0 pl) (i+1))) ?_ (ih (i+1) (by omega))
        repeat' (first | exact aN | apply aI)
        all_goals (first | exact aG _ | exact aP _ _ | omega | rfl | (intros;first | assumption | exact trivial | rfl | exact fT ‹_›) | (exact hd) | (exact hb') | (intro h;exact h) | (intro h;omega) | (intro t ht;simp [All];done))
    refine pcZ hc (ffZ g nb n pl np) ?_ (lo np 0 (by omega))
    repeat' (first | exact aN | apply aI)
    all_goals (first | exact aP _ _ | omega | rfl | (intros;first | assumption | exact trivial | rfl) | (exact cf) | (intro t ht;simp [All];done))
theorem con_Trivial_s {g:Nat→T_Bar} {nb N:Nat} {pl:Nat→T_Place} {np:Nat} (hf:fwB g nb N pl np=true) :
    Con Tryz.prog 228 0 [] [frA g nb N pl np] [] (.p (.int .i64 (tvF pl np))):=by
  obtain ⟨h1,h2,h3,h4,hok,hb⟩:=fw_ok hf
  have hN:=(graph_in h1).1
  refine csZ Tryz.func228 (fun c hc=>?_)
  have lo:∀ d i,i+d=np→1≤i→allB (sp0 pl) i=true→Run Tryz.prog c 228 zf96 (TvS g nb N pl np i) (Post c [] (.p (.int .i64 (tvF pl np)))):=by
    intro d
    induction d with
    | zero =>
      intro i hi h1 ha
      obtain rfl:i=np:=by omega
      have hd:decide ((i:Int)<(i:Int))=false:=decide_eq_false (by omega)
      unfold tvF
      rw [if_pos ha]
      refine pkZ Tryz.func228 hc (tv2 g nb N pl i i) ?_
      repeat' (first | exact aN | apply aI)
      all_goals (first | omega | rfl | (intros;first | assumption | exact trivial | rfl) | (exact hd))
    | succ d ih =>
      intro i hi h1 ha
      have hd:decide ((i:Int)<(np:Int))=true:=decide_eq_true (by omega)
      cases hs:sp0 pl i with
      | true =>
        have he:(!((pl i).1==(pl 0).1&&((pl i).2.1==(pl 0).2.1&&true)))=false:=by
          show (!sp0 pl i)=false;rw [hs];rfl
        refine pcZ hc (tvL g nb N pl np i) ?_ (ih (i+1) (by omega) (by omega) (by rw [allB,ha,hs];rfl))
        repeat' (first | exact aN | apply aI)
        all_goals (first | exact aP _ _ | omega | rfl | (intros;first | assumption | exact trivial | rfl) | (exact hd) | (exact he) | (intro t ht;simp [All];done))
      | false =>
        have he:(!((pl i).1==(pl 0).1&&((pl i).2.1==(pl 0).2.1&&true)))=true:=by
          show (!sp0 pl i)=true;rw [hs];rfl
        unfold tvF
        rw [if_neg (by rw [all_no (i:=i) (by omega) hs];exact Bool.false_ne_true)]
        refine pkZ Tryz.func228 hc (tv3 g nb N pl np i) ?_
        repeat' (first | exact aN | apply aI)
        all_goals (first | omega | rfl | (intros;first | assumption | exact trivial | rfl) | (exact hd) | (exact he))
  refine pcZ hc (tvZ g nb N pl np) ?_ (lo (np - 1) 1 (by omega) (Nat.le_refl _) (by simp [allB,sp0]))
  repeat' (first | exact aN | apply aI)
  all_goals (first | exact aP _ _ | omega | rfl | (intros;first | assumption | exact trivial | rfl) | (intro t ht;simp [All];done))
theorem con_Freedom_s (g:Nat→T_Bar) (nb:Nat) (N:Int) (pl:Nat→T_Place) (np:Nat) (hn:nb≤1048576∧np≤1048576) :
    Con Tryz.prog 120 0 [] [frA g nb N pl np] [] (.p (.int .i64 (ffF g nb N pl np))):=by
  have cf:=con_IsFramework_s g nb N pl np hn
  have ck:=con_FrRank_s g nb N pl np hn
  have hk:=frK_b g nb N pl np
  unfold ffF
  cases hf:fwB g nb N pl np with
  | false =>
    rw [hf] at cf
    rw [if_neg Bool.false_ne_true]
    refine csZ Tryz.func120 (fun c hc=>?_)
    refine pkZ Tryz.func120 hc (fgN g nb N pl np) ?_
    repeat' (first | exact aN | apply aI)
    all_goals (first | omega | rfl | (intros;first | assumption | exact trivial | rfl) | (exact cf) | rfl)
  | true =>
    rw [hf] at cf
    rw [if_pos rfl]
    obtain ⟨n,rfl⟩:=fw_N hf
    obtain ⟨h1,h2,h3,h4,hok,hb⟩:=fw_ok hf
    have ct:=con_Trivial_s hf
    have ht:tvF pl np=2∨tvF pl np=3:=by unfold tvF;split<;>simp
    generalize frK g nb n pl np=r at *
    generalize tvF pl np=t at *
    refine csZ Tryz.func120 (fun c hc=>?_)
    refine pkZ Tryz.func120 hc (fgR g nb n pl np t r) ?_
    repeat' (first | exact aN | apply aI)
    all_goals (first | omega | rfl | (intros;first | assumption | exact trivial | rfl) | (exact cf) | (exact ct) | (exact ck))
theorem con_IsStiff (g:Nat→T_Bar) (nb:Nat) (N:Int) (pl:Nat→T_Place) (np:Nat) (hn:nb≤1048576∧np≤1048576) :
    Con Tryz.prog 133 0 [] [frA g nb N pl np] [] (.p (.bool (ffF g nb N pl np==0)))∧Con Tryz.prog 123 0 [] [frA g nb N pl np] [] (.p (.bool (ffF g nb N pl np==0))):=by
  have c1:=con_Freedom_i g nb N pl np hn
  have c2:=con_Freedom_s g nb N pl np hn
  constructor
  · refine csZ Tryz.func133 (fun c hc=>?_)
    refine pkZ Tryz.func133 hc (isI g nb N pl np (ffF g nb N pl np)) ?_
    repeat' (first | exact aN | apply aI)
    all_goals (first | omega | rfl | (intros;first | assumption | exact trivial | rfl) | (exact c1))
  · refine csZ Tryz.func123 (fun c hc=>?_)
    refine pkZ Tryz.func123 hc (isS g nb N pl np (ffF g nb N pl np)) ?_
    repeat' (first | exact aN | apply aI)
    all_goals (first | omega | rfl | (intros;first | assumption | exact trivial | rfl) | (exact c2))
end Go.Proofs.YtkkjoghiigiokaaGreat.Mach
namespace Go.Proofs.YtkkjoghiigiokaaGreat.Trv
def One (n:Nat) (x y u w:Nat→Int) (num den:Int):Prop:=∀ i,i<n→u i*den = -num*y i∧w i*den=num*x i
structure All2 (n:Nat) (x y u w:Nat→Int):Prop where
  ch:∀ a b,a<n→b<a→(x a - x b)*(u a - u b)+(y a - y b)*(w a - w b)=0
  same:∀ a b,a<n→b<a→x a=x b→y a=y b→u a=u b∧w a=w b
  flat:∀ a b,a<n→b<a→1≤b→x a*y b=y a*x b→x b*u a+y b*w a=x a*u b+y a*w b∧x b*w a - y b*u a=x a*w b - y a*u b
theorem cancel {c a b:Int} (hc:c≠0) (h:c*a=c*b):a=b:=Int.eq_of_mul_eq_mul_left hc h
section
variable {n:Nat} {x y u w:Nat→Int}
theorem one_all {num den:Int} (hd:den≠0) (h:One n x y u w num den):All2 n x y u w where
  ch a b ha hb:=by
    obtain ⟨a1,a2⟩:=h a ha
    obtain ⟨b1,b2⟩:=h b (by omega)
    have e1:(u a - u b)*den = -num*(y a - y b):=by grind
    have e2:(w a - w b)*den=num*(x a - x b):=by grind
    refine cancel hd ?_
    have:den*((x a - x b)*(u a - u b)+(y a - y b)*(w a - w b))=(x a - x b)*((u a - u b)*den)+(y a - y b)*((w a - w b)*den):=by grind
    rw [this,e1,e2]
    grind
  same a b ha hb hx hy:=by
    obtain ⟨a1,a2⟩:=h a ha
    obtain ⟨b1,b2⟩:=h b (by omega)
    exact ⟨cancel hd (by rw [Int.mul_comm,a1,Int.mul_comm den,b1,hy]),cancel hd (by rw [Int.mul_comm,a2,Int.mul_comm den,b2,hx])⟩
  flat a b ha hb h1 hc:=by
    obtain ⟨a1,a2⟩:=h a ha
    obtain ⟨b1,b2⟩:=h b (by omega)
    refine ⟨cancel hd ?_,cancel hd ?_⟩
    · have e1:den*(x b*u a+y b*w a)=x b*(u a*den)+y b*(w a*den):=by grind
      have e2:den*(x a*u b+y a*w b)=x a*(u b*den)+y a*(w b*den):=by grind
      rw [e1,e2,a1,a2,b1,b2]
      grind
    · have e1:den*(x b*w a - y b*u a)=x b*(w a*den) - y b*(u a*den):=by grind
      have e2:den*(x a*w b - y a*u b)=x a*(w b*den) - y a*(u b*den):=by grind
      rw [e1,e2,a1,a2,b1,b2]
      grind
theorem all_one0 (h:All2 n x y u w) (h0:x 0=0∧y 0=0∧u 0=0∧w 0=0) (hz:∀ i,i<n→x i=0∧y i=0):One n x y u w 0 1:=by
  intro i hi
  obtain ⟨z1,z2⟩:=hz i hi
  by_cases h1:i=0
  · subst h1;rw [h0.2.2.1,h0.2.2.2];simp
  · obtain ⟨e1,e2⟩:=h.same i 0 hi (by omega) (by rw [z1,h0.1]) (by rw [z2,h0.2.1])
    rw [e1,e2,h0.2.2.1,h0.2.2.2];simp
theorem all_onej (h:All2 n x y u w) (h0:x 0=0∧y 0=0∧u 0=0∧w 0=0) {j:Nat} (hj:j<n) (hne:x j≠0∨y j≠0) :
    One n x y u w (w j*x j - u j*y j) (x j*x j+y j*y j):=by
  obtain ⟨z1,z2,z3,z4⟩:=h0
  have h1:1≤j:=by
    refine Nat.not_lt.1 (fun hl=>?_)
    have:j=0:=by omega
    subst this;rcases hne with h | h<;>contradiction
  have sj:x j*u j+y j*w j=0:=by
    have:=h.ch j 0 hj (by omega)
    rw [z1,z2,z3,z4] at this
    simpa using this
  generalize hnum:w j*x j - u j*y j=num
  generalize hden:x j*x j+y j*y j=den
  have ej1:u j*den = -num*y j:=by
    have e:u j*(x j*x j+y j*y j)=x j*(x j*u j+y j*w j) - (w j*x j - u j*y j)*y j:=by grind
    rw [← hden,e,sj,← hnum];grind
  have ej2:w j*den=num*x j:=by
    have e:w j*(x j*x j+y j*y j)=y j*(x j*u j+y j*w j)+(w j*x j - u j*y j)*x j:=by grind
    rw [← hden,e,sj,← hnum];grind
  intro i hi
  by_cases hi0:i=0
  · subst hi0;rw [z1,z2,z3,z4];simp
  by_cases hij:i=j
  · subst hij;exact ⟨ej1,ej2⟩
  have si:x i*u i+y i*w i=0:=by
    have:=h.ch i 0 hi (by omega)
    rw [z1,z2,z3,z4] at this
    simpa using this
  have sij:(x i*u j+y i*w j)+(x j*u i+y j*w i)=0:=by
    rcases Nat.lt_or_gt_of_ne hij with hl | hl
    · have:=h.ch j i hj hl;grind
    · have:=h.ch i j hi hl;grind
  by_cases hc:x i*y j=y i*x j
  ·
    have hP:x j*u i+y j*w i=x i*u j+y i*w j∧x j*w i - y j*u i=x i*w j - y i*u j:=by
      rcases Nat.lt_or_gt_of_ne hij with hl | hl
      · obtain ⟨p1,p2⟩:=h.flat j i hj hl (by omega) (by grind)
        exact ⟨p1.symm,p2.symm⟩
      · exact h.flat i j hi hl h1 hc
    obtain ⟨p1,p2⟩:=hP
    have p3:x j*u i+y j*w i=0:=by omega
    constructor
    · have e:u i*(x j*x j+y j*y j)=x j*(x j*u i+y j*w i) - y j*(x j*w i - y j*u i):=by grind
      rw [← hden,e,p3,p2,← hnum]
      have e2:y j*(x i*w j - y i*u j)=(x i*y j)*w j - y i*y j*u j:=by grind
      rw [e2,hc];grind
    · have e:w i*(x j*x j+y j*y j)=y j*(x j*u i+y j*w i)+x j*(x j*w i - y j*u i):=by grind
      rw [← hden,e,p3,p2,← hnum]
      have e2:x j*(x i*w j - y i*u j)=x i*x j*w j - (y i*x j)*u j:=by grind
      rw [e2,← hc];grind
  · have hc':x i*y j - y i*x j≠0:=by omega
    have ht:(x j*u i+y j*w i)*den=num*(x i*y j - y i*x j):=by
      have e:(x j*u i+y j*w i)*den = -(x i*(u j*den)+y i*(w j*den)):=by
        have:x j*u i+y j*w i = -(x i*u j+y i*w j):=by omega
        rw [this];grind
      rw [e,ej1,ej2];grind
    constructor
    · refine cancel hc' ?_
      have e:(x i*y j - y i*x j)*(u i*den)=y j*(x i*u i+y i*w i)*den - y i*((x j*u i+y j*w i)*den):=by grind
      rw [e,si,ht];grind
    · refine cancel hc' ?_
      have e:(x i*y j - y i*x j)*(w i*den)=x i*((x j*u i+y j*w i)*den) - x j*(x i*u i+y i*w i)*den:=by grind
      rw [e,si,ht];grind
end
theorem bdm {a b A B:Int} (ha:-A≤a∧a≤A) (hb:-B≤b∧b≤B):-(A*B)≤a*b∧a*b≤A*B:=by
  have h1:=Int.mul_nonneg (show 0≤A - a by omega) (show 0≤B - b by omega)
  have h2:=Int.mul_nonneg (show 0≤A+a by omega) (show 0≤B+b by omega)
  have h3:=Int.mul_nonneg (show 0≤A - a by omega) (show 0≤B+b by omega)
  have h4:=Int.mul_nonneg (show 0≤A+a by omega) (show 0≤B - b by omega)
  have e1:(A - a)*(B - b)=A*B - A*b - a*B+a*b:=by grind
  have e2:(A+a)*(B+b)=A*B+A*b+a*B+a*b:=by grind
  have e3:(A - a)*(B+b)=A*B+A*b - a*B - a*b:=by grind
  have e4:(A+a)*(B - b)=A*B - A*b+a*B - a*b:=by grind
  constructor<;>omega
theorem sum_sq_pos {a b:Int} (h:a≠0∨b≠0):0<a*a+b*b:=by
  have n1:0≤a*a:=by
    rcases Int.le_total 0 a with h | h
    · exact Int.mul_nonneg h h
    · have:=Int.mul_nonneg (show 0≤-a by omega) (show 0≤-a by omega);rwa [Int.neg_mul_neg] at this
  have n2:0≤b*b:=by
    rcases Int.le_total 0 b with h | h
    · exact Int.mul_nonneg h h
    · have:=Int.mul_nonneg (show 0≤-b by omega) (show 0≤-b by omega);rwa [Int.neg_mul_neg] at this
  rcases h with h | h
  · have:a*a≠0:=fun h'=>by rcases Int.mul_eq_zero.1 h' with h2 | h2<;>contradiction
    omega
  · have:b*b≠0:=fun h'=>by rcases Int.mul_eq_zero.1 h' with h2 | h2<;>contradiction
    omega
end Go.Proofs.YtkkjoghiigiokaaGreat.Trv
