/- What the law Cq needs, part 4 of 5: the abstract machine and the contracts of the functions. Conditions: as each theorem says. -/
import Derived.Test.YtgabljneilgilaaCqP3
namespace Go.Proofs.Ytgabljneilgilaa.Mach
open Go
set_option linter.unusedVariables false
set_option linter.unusedSimpArgs false
def cdA (n:Nat) (f:Nat→Int):AV:=.p (.seq true 1 n (fun i=>[.int .u8 (f i)]))
def cdB (n:Nat) (f:Nat→Int):AV:=.p (.seq false 1 n (fun i=>[.int .u8 (f i)]))
def cuO (n:Nat) (f:Nat→Int) (s:Nat×Int):Ob:=⟨true,3,1,fun _=>[cdB n f,.p (.int .i64 (s.1:Int)),.p (.int .i64 s.2)]⟩
def Cn0 (n:Nat) (f:Nat→Int) (i:Nat) (h:Int):St :=
  ⟨[cdB n f,.p .any,.p .any,.p (.int .i64 h),.p (.int .i64 i)]++List.replicate 27 anyA,[],0⟩
def cnH (h y:Int):Int:=bitI .and .i64 (IntKind.i64.wrap (IntKind.i64.wrap (IntKind.i64.wrap (h*131)+y)+7)) 1073741823
def byH (h:Int):Int:=IntKind.i64.wrap (IntKind.i64.wrap (h*6364136223846793005)+1442695040888963407)
def byX (h:Int):Int:=bitI .and .i64 (bitI .xor .i64 (shrI .i64 (byH h) 33) (shrI .i64 (byH h) 45)) 255
def byY (h y:Int):Int:=bitI .and .i64 (byX h+y) 255
theorem drBig (n:Nat) (f:Nat→Int) :
    zS Try.f5 [rg 1,rg 4] [cdA n f] [] [] (.p (.bool (decide ((n:Int)>1048576)))) =
    some [((decide ((↑n:Int)>1048576))=(decide ((↑n:Int)>1048576)))]:=by kernel_rfl
theorem drNz (n:Nat) (f:Nat→Int) :
    zT Try.f56 [rg 1,rg 4,rg 1,.head] [cdB n f] [] (Cn0 n f 0 (10101+n)) =
    some (zf60,[(ZLo (10101+(↑n:Int))),(ZHi (10101+(↑n:Int))),(AN n),(AP n (fun i=>[.int .u8 (f i)])),(AI ((10101+(↑n:Int)))),((0:Int)=(↑0:Int))]):=by kernel_rfl
theorem drNa (n:Nat) (f:Nat→Int) (i:Nat) (h:Int) :
    zM 0 [rg 8,.dec true,rm [(1,oF),(5,oF),(0,oF)] 2,rg 3,.head] zf60 (Cn0 n f i h) [] 1 (Cn0 n f (i+1) (cnH h (f i))) =
    some (zf60,zD [(AG (decide ((↑i:Int)<(↑n:Int)))),((bif decide ((↑i:Int)<(↑n:Int)) then decide ((↑i:Int)<4000) else false)=true),(IL 0 (↑i:Int)),(IT (↑i:Int) (↑n:Int)),(ZLo (f i)),(ZHi (f i)),(ZLo ((↑i:Int)+1)),(ZHi ((↑i:Int)+1)),(AN n),(AP n (fun i_1=>[.int .u8 (f i_1)])),(((bitI BinOp.and IntKind.i64 (IntKind.i64.wrap (IntKind.i64.wrap (IntKind.i64.wrap (h*131)+f i)+7)) 1073741823):Int)=(cnH h (f i))),((((↑i:Int)+1):Int)=(↑(i+1):Int))] [0,0,1,2,3,4,5,6,7,8,9,10,11]):=by kernel_rfl
theorem drNe (n:Nat) (f:Nat→Int) (i:Nat) (h:Int) :
    zP Try.f56 0 [rg 8,.dec false,rg 5] zf60 (Cn0 n f i h) [352] 1 [(0,cuO n f (0,h))] (.pt 3 0 0 0) =
    some (zD [(AG (decide ((↑i:Int)<(↑n:Int)))),((bif decide ((↑i:Int)<(↑n:Int)) then decide ((↑i:Int)<4000) else false)=false),(AN 0),((((splice (splice (List.map (fun v=>AV.p (absV v)) [Value.slice none 0 0,Value.int IntKind.i64 0,Value.int IntKind.i64 0]).length 0 (List.map (fun v=>AV.p (absV v)) [Value.slice none 0 0,Value.int IntKind.i64 0,Value.int IntKind.i64 0]) [AV.p (PV.seq false 1 n fun i=>[PV.int IntKind.u8 (f i)])]).length 2 (splice (List.map (fun v=>AV.p (absV v)) [Value.slice none 0 0,Value.int IntKind.i64 0,Value.int IntKind.i64 0]).length 0 (List.map (fun v=>AV.p (absV v)) [Value.slice none 0 0,Value.int IntKind.i64 0,Value.int IntKind.i64 0]) [AV.p (PV.seq false 1 n fun i=>[PV.int IntKind.u8 (f i)])]) [AV.p (PV.int IntKind.i64 h)]).length):Nat)=3),(NL 1 1),(AN n),(AP n (fun i_1=>[.int .u8 (f i_1)])),((0:Int)=(↑0:Int)),(AI h),(∀ i_1:Nat,(((i_1:Nat)<1)→All [(false=false),(AE n)]))] [0,0,1,2,3,4,4,5,6,7,8,9]):=by kernel_rfl
theorem drBa (n:Nat) (f:Nat→Int) (s:Nat×Int) :
    zP Try.f94 1 [rg 1,rm [(5,oF),(0,oF)] 3,rg 13,rg 10,.dec true,rg 15,rg 9,rg 2] [.code (bodyOf Try.f94)] (start Try.f94 [(0,cuO n f s)] 1 [.pt 3 0 0 0]) [0] 1 [(0,cuO n f (s.1+1,byH s.2))] (.p (.int .i64 (byY s.2 (f s.1)))) =
    some (zD [(NT 0 1),((true=true)→ (AN 1)),(IL 0 33),(IL 0 45),((decide ((↑s.1:Int)<(↑n:Int)))=true),(IL 0 (↑s.1:Int)),(IT (↑s.1:Int) (↑n:Int)),(ZLo (f s.1)),(ZHi (f s.1)),(ZLo (bitI BinOp.and IntKind.i64 (bitI BinOp.xor IntKind.i64 (shrI IntKind.i64 (IntKind.i64.wrap (IntKind.i64.wrap (s.2*6364136223846793005)+1442695040888963407)) 33) (shrI IntKind.i64 (IntKind.i64.wrap (IntKind.i64.wrap (s.2*6364136223846793005)+1442695040888963407)) 45)) 255+f s.1)),(ZHi (bitI BinOp.and IntKind.i64 (bitI BinOp.xor IntKind.i64 (shrI IntKind.i64 (IntKind.i64.wrap (IntKind.i64.wrap (s.2*6364136223846793005)+1442695040888963407)) 33) (shrI IntKind.i64 (IntKind.i64.wrap (IntKind.i64.wrap (s.2*6364136223846793005)+1442695040888963407)) 45)) 255+f s.1)),(ZLo ((↑s.1:Int)+1)),(ZHi ((↑s.1:Int)+1)),(((bitI BinOp.and IntKind.i64 (bitI BinOp.and IntKind.i64 (bitI BinOp.xor IntKind.i64 (shrI IntKind.i64 (IntKind.i64.wrap (IntKind.i64.wrap (s.2*6364136223846793005)+1442695040888963407)) 33) (shrI IntKind.i64 (IntKind.i64.wrap (IntKind.i64.wrap (s.2*6364136223846793005)+1442695040888963407)) 45)) 255+f s.1) 255):Int)=(byY s.2 (f s.1))),(AN 3),(NL 1 1),(AN n),(AP n (fun i=>[.int .u8 (f i)])),((((↑s.1:Int)+1):Int)=(↑(s.1+1):Int)),(((IntKind.i64.wrap (IntKind.i64.wrap (s.2*6364136223846793005)+1442695040888963407)):Int)=(byH s.2)),(∀ i:Nat,(((i:Nat)<1)→All [(false=false),(AE n)]))] [0,0,1,0,2,0,3,0,0,4,0,0,5,6,7,8,9,10,0,11,12,0,1,13,14,15,15,16,17,18,19,20]):=by kernel_rfl
theorem drBb (n:Nat) (f:Nat→Int) (s:Nat×Int) :
    zP Try.f94 1 [rg 1,rm [(5,oF),(0,oF)] 3,rg 13,rg 10,.dec false,rg 2] [.code (bodyOf Try.f94)] (start Try.f94 [(0,cuO n f s)] 1 [.pt 3 0 0 0]) [0] 1 [(0,cuO n f (s.1,byH s.2))] (.p (.int .i64 (byX s.2))) =
    some (zD [(NT 0 1),((true=true)→ (AN 1)),(IL 0 33),(IL 0 45),((decide ((↑s.1:Int)<(↑n:Int)))=false),(((bitI BinOp.and IntKind.i64 (bitI BinOp.xor IntKind.i64 (shrI IntKind.i64 (IntKind.i64.wrap (IntKind.i64.wrap (s.2*6364136223846793005)+1442695040888963407)) 33) (shrI IntKind.i64 (IntKind.i64.wrap (IntKind.i64.wrap (s.2*6364136223846793005)+1442695040888963407)) 45)) 255):Int)=(byX s.2)),(AN 3),(NL 1 1),(AN n),(AP n (fun i=>[.int .u8 (f i)])),(AI ((↑s.1:Int))),(((IntKind.i64.wrap (IntKind.i64.wrap (s.2*6364136223846793005)+1442695040888963407)):Int)=(byH s.2)),(∀ i:Nat,(((i:Nat)<1)→All [(false=false),(AE n)]))] [0,0,1,0,2,0,3,0,0,4,5,6,7,7,8,9,10,11,12]):=by kernel_rfl
theorem drLz (n:Nat) (f:Nat→Int) (s:Nat×Int) (k:Int) :
    zP Try.f58 1 [rg 1,rg 2,.dec true,rg 1] [.code (bodyOf Try.f58)] (start Try.f58 [(0,cuO n f s)] 1 [.pt 3 0 0 0,.p (.int .i64 k)]) [0] 1 [(0,cuO n f s)] (.p (.int .i64 0)) =
    some [((decide (k≤0))=true),(AI 0),(AN 3),(NL 1 1),(NL 1 1),(AN n),(AP n (fun i=>[.int .u8 (f i)])),(AI ((↑s.1:Int))),(AI s.2),(∀ i:Nat,(((i:Nat)<1)→All [(false=false),(AE n)]))]:=by kernel_rfl
theorem drLa (n:Nat) (f:Nat→Int) (s s2:Nat×Int) (k x:Int) :
    zP Try.f58 1 [rg 1,rg 2,.dec false,rg 2,.dec true,rm [(1,⟨true,(some ⟨[0],[1000],[],1,[(0,cuO n f s2)],.p (.int .i64 x)⟩),none⟩)] 3] [.code (bodyOf Try.f58)] (start Try.f58 [(0,cuO n f s)] 1 [.pt 3 0 0 0,.p (.int .i64 k)]) [0] 1 [(0,cuO n f s2)] (.p (.int .i64 (x.tmod k))) =
    some [((decide (k≤0))=false),((decide (k≤256))=true),(AE 1),Con Try.prog 94 1 (zf75 n f s) [.pt 3 0 0 0] (zf75 n f s2) (.p (.int .i64 x)),(IL 0 x),(IT 0 k),(((x % k):Int)=(x.tmod k)),(AN 3),(NL 1 1),(NL 1 1),(AN n),(AP n (fun i=>[.int .u8 (f i)])),(AI ((↑s2.1:Int))),(AI s2.2),(∀ i:Nat,(((i:Nat)<1)→All [(false=false),(AE n)]))]:=by kernel_rfl
theorem drO (n:Nat) (f:Nat→Int) (s s2:Nat×Int) (k x:Int) :
    zP Try.f72 1 [rg 1,rm [(2,⟨true,(some ⟨[0],[1000],[],1,[(0,cuO n f s2)],.p (.int .i64 x)⟩),none⟩)] 2] [.code (bodyOf Try.f72)] (start Try.f72 [(0,cuO n f s)] 1 [.pt 3 0 0 0,.p (.int .i64 k)]) [0] 1 [(0,cuO n f s2)] (.p (.bool (x==0))) =
    some [(AE 1),Con Try.prog 58 1 (zf75 n f s) [.pt 3 0 0 0,.p (.int .i64 k)] (zf75 n f s2) (.p (.int .i64 x)),((x==0)=(x==0)),(AN 3),(NL 1 1),(NL 1 1),(AN n),(AP n (fun i=>[.int .u8 (f i)])),(AI ((↑s2.1:Int))),(AI s2.2),(∀ i:Nat,(((i:Nat)<1)→All [(false=false),(AE n)]))]:=by kernel_rfl
theorem drP (n:Nat) (f:Nat→Int) (s s2:Nat×Int) (m:Nat) (g:Nat→Int) (x:Nat) :
    zP Try.f59 1 [rg 1,rm [(4,⟨true,(some ⟨[0],[1000],[],1,[(0,cuO n f s2)],.p (.int .i64 x)⟩),none⟩)] 3] [.code (bodyOf Try.f59)] (start Try.f59 [(0,cuO n f s)] 1 [.pt 3 0 0 0,.p (.seq true 1 m (fun i=>[.int .i64 (g i)]))]) [0] 1 [(0,cuO n f s2)] (.p (.int .i64 (g x))) =
    some [(AE 1),Con Try.prog 58 1 (zf75 n f s) [.pt 3 0 0 0,.p (.int .i64 (↑m:Int))] (zf75 n f s2) (.p (.int .i64 (↑x:Int))),(IL 0 (↑x:Int)),(IT (↑x:Int) (↑m:Int)),(AI ((g x))),(AN 3),(NL 1 1),(NL 1 1),(AN n),(AP n (fun i=>[.int .u8 (f i)])),(AI ((↑s2.1:Int))),(AI s2.2),(∀ i:Nat,(((i:Nat)<1)→All [(false=false),(AE n)]))]:=by kernel_rfl
theorem and_255 (a:Int):0≤bitI .and .i64 a 255∧bitI .and .i64 a 255≤255:=by
  have h:bitI .and .i64 a 255=(((BitVec.ofInt 64 a).toNat &&& 255:Nat):Int):=by
    unfold bitI
    have e1:(BitVec.ofInt IntKind.i64.bits a &&& BitVec.ofInt IntKind.i64.bits 255).toNat=(BitVec.ofInt 64 a).toNat &&& 255:=by
      rw [BitVec.toNat_and];rfl
    simp only [e1]
    have h2:(BitVec.ofInt 64 a).toNat &&& 255≤255:=Nat.and_le_right
    exact wrap_in (by simp only [imin];omega) (by simp only [imax];omega)
  have h2:(BitVec.ofInt 64 a).toNat &&& 255≤255:=Nat.and_le_right
  rw [h]
  omega
def CdOk (n:Nat) (f:Nat→Int):Prop:=n≤1048576∧∀ i,i<n→0≤f i∧f i≤255
theorem con_big (n:Nat) (f:Nat→Int):zE 5 [cdA n f] [] (.p (.bool (decide ((n:Int)>1048576)))):=by
  refine csZ Try.func5 (fun c hc=>?_)
  refine pkZ Try.func5 hc (drBig n f) ?_
  and_intros
  all_goals (first | exact zN | (simp;done))
set_option maxRecDepth 20000 in
theorem con_l1New (n:Nat) (f:Nat→Int) (hn:CdOk n f):∃ s:Nat×Int,s.1≤n∧zE 56 [cdB n f] [(0,cuO n f s)] (.pt 3 0 0 0):=by
  have key:∀ e i h,i+e=n→∃ h':Int,∀ c:Cx,c.n=0→zR c 56 zf60 (Cn0 n f i h) (Post c [(0,cuO n f (0,h'))] (.pt 3 0 0 0)):=by
    intro e
    induction e with
    | zero =>
      intro i h hi
      refine ⟨h,fun c hc=>?_⟩
      have hd:decide ((i:Int)<(n:Int))=false:=decide_eq_false (by omega)
      refine pkD Try.func56 hc (drNe n f i h) ?_
      and_intros
      iterate 2 all_goals (first | exact zN | (rw [hd];rfl) | (simp [hd];done) | simp only [All])
    | succ e ih =>
      intro i h hi
      by_cases h4:i<4000
      · obtain ⟨h',hr⟩:=ih (i+1) (cnH h (f i)) (by omega)
        refine ⟨h',fun c hc=>?_⟩
        have hd:decide ((i:Int)<(n:Int))=true:=decide_eq_true (by omega)
        have hd4:decide ((i:Int)<4000)=true:=decide_eq_true (by omega)
        have hb:=hn.2 i (by omega)
        refine pcD hc (drNa n f i h) ?_ (hr c hc)
        and_intros
        all_goals (first | exact zN | (exact hd) | (exact hd4) | (rw [hd,hd4];rfl) | (simp [hd,hd4];done) | (simp;omega))
      · refine ⟨h,fun c hc=>?_⟩
        have hd4:decide ((i:Int)<4000)=false:=decide_eq_false (by omega)
        refine pkD Try.func56 hc (drNe n f i h) ?_
        and_intros
        iterate 2 all_goals (first | exact zN | (rw [hd4];cases decide ((i:Int)<(n:Int))<;>rfl) | (simp [hd4];done) | simp only [All])
  obtain ⟨h',hr⟩:=key n 0 (10101+n) (by omega)
  refine ⟨(0,h'),Nat.zero_le _,?_⟩
  have hn1:=hn.1
  refine csZ Try.func56 (fun c hc=>?_)
  refine pcZ hc (drNz n f) ?_ (hr c hc)
  and_intros
  all_goals (first | exact zN | (simp;omega))
theorem con_l1Byte (n:Nat) (f:Nat→Int) (hn:CdOk n f) (s:Nat×Int) (hs:s.1≤n):∃ (s2:Nat×Int) (x:Int),s2.1≤n∧(0≤x∧x≤255) ∧
    Con Try.prog 94 1 [(0,cuO n f s)] [.pt 3 0 0 0] [(0,cuO n f s2)] (.p (.int .i64 x)):=by
  have hn1:=hn.1
  by_cases h:s.1<n
  · have hd:decide ((s.1:Int)<(n:Int))=true:=decide_eq_true (by omega)
    have hb:=hn.2 s.1 h
    have hx:=and_255 (bitI .xor .i64 (shrI .i64 (byH s.2) 33) (shrI .i64 (byH s.2) 45))
    simp only [byH] at hx
    refine ⟨(s.1+1,byH s.2),byY s.2 (f s.1),h,and_255 _,?_⟩
    refine csZ Try.func94 (fun c hc=>?_)
    refine pkD Try.func94 hc (drBa n f s) ?_
    and_intros
    iterate 2 all_goals (first | exact zI | (exact hd) | (exact hb.1) | (simp;done) | (simp;omega) | simp only [All])
  · have hd:decide ((s.1:Int)<(n:Int))=false:=decide_eq_false (by omega)
    refine ⟨(s.1,byH s.2),byX s.2,hs,and_255 _,?_⟩
    refine csZ Try.func94 (fun c hc=>?_)
    refine pkD Try.func94 hc (drBb n f s) ?_
    and_intros
    iterate 2 all_goals (first | exact zI | (exact hd) | (simp;done) | (simp;omega) | simp only [All])
theorem con_l1Below (n:Nat) (f:Nat→Int) (hn:CdOk n f) (s:Nat×Int) (hs:s.1≤n) (k:Int) (hk:k≤256):∃ (s2:Nat×Int) (x:Int),s2.1≤n∧(0≤x∧(1≤k→x<k)∧x≤255) ∧
    Con Try.prog 58 1 [(0,cuO n f s)] [.pt 3 0 0 0,.p (.int .i64 k)] [(0,cuO n f s2)] (.p (.int .i64 x)):=by
  by_cases h:k≤0
  · have hd:decide (k≤0)=true:=decide_eq_true h
    refine ⟨s,0,hs,⟨Int.le_refl _,fun h1=>by omega,by omega⟩,?_⟩
    refine csZ Try.func58 (fun c hc=>?_)
    refine pkZ Try.func58 hc (drLz n f s k) ?_
    and_intros
    iterate 2 all_goals (first | exact zN | (exact hd) | (simp;done) | simp only [All])
  · have hd:decide (k≤0)=false:=decide_eq_false h
    have hd2:decide (k≤256)=true:=decide_eq_true hk
    obtain ⟨s2,x,h2,hx,cb⟩:=con_l1Byte n f hn s hs
    have e:x.tmod k=x % k:=Int.tmod_eq_emod_of_nonneg hx.1
    have e1:=Int.emod_nonneg x (show k≠0 by omega)
    have e2:=Int.emod_lt_of_pos x (show 0<k by omega)
    refine ⟨s2,x.tmod k,h2,by rw [e];exact ⟨e1,fun _=>e2,by omega⟩,?_⟩
    refine csZ Try.func58 (fun c hc=>?_)
    refine pkZ Try.func58 hc (drLa n f s s2 k x) ?_
    and_intros
    iterate 2 all_goals (first | exact zN | (exact hd) | (exact hd2) | (exact cb) | omega | (simp;done) | (simp;omega) | simp only [All])
theorem con_l1Once (n:Nat) (f:Nat→Int) (hn:CdOk n f) (s:Nat×Int) (hs:s.1≤n) (k:Int) (hk:k≤256):∃ (s2:Nat×Int) (b:Bool),s2.1≤n ∧
    Con Try.prog 72 1 [(0,cuO n f s)] [.pt 3 0 0 0,.p (.int .i64 k)] [(0,cuO n f s2)] (.p (.bool b)):=by
  obtain ⟨s2,x,h2,hx,cb⟩:=con_l1Below n f hn s hs k hk
  refine ⟨s2,x==0,h2,?_⟩
  refine csZ Try.func72 (fun c hc=>?_)
  refine pkZ Try.func72 hc (drO n f s s2 k x) ?_
  and_intros
  iterate 2 all_goals (first | exact zN | (exact cb) | (simp;done) | simp only [All])
theorem con_l1PickInt (n:Nat) (f:Nat→Int) (hn:CdOk n f) (s:Nat×Int) (hs:s.1≤n) (m:Nat) (g:Nat→Int) (hm:1≤m∧m≤256):∃ (s2:Nat×Int) (j:Nat),s2.1≤n∧j<m ∧
    Con Try.prog 59 1 [(0,cuO n f s)] [.pt 3 0 0 0,.p (.seq true 1 m (fun i=>[.int .i64 (g i)]))] [(0,cuO n f s2)] (.p (.int .i64 (g j))):=by
  obtain ⟨s2,x,h2,hx,cb⟩:=con_l1Below n f hn s hs m (by omega)
  have hx2:=hx.2.1 (by omega)
  obtain ⟨j,rfl⟩:∃ j:Nat,x=(j:Int):=⟨x.toNat,by omega⟩
  refine ⟨s2,j,h2,by omega,?_⟩
  refine csZ Try.func59 (fun c hc=>?_)
  refine pkZ Try.func59 hc (drP n f s s2 m g j) ?_
  and_intros
  iterate 2 all_goals (first | exact zN | (exact cb) | (simp;done) | (simp;omega) | simp only [All])
def pkA (x:Int):AV:=.p (.int .i64 x)
def pkP (n:Nat) (l:List Int):AV:=.p (.seq true 1 n (fun i=>[(cellP true [(List.getD (l.map pkA) (rowIx n i*1) (.p .any))] 0)]))
theorem cell_pk (l:List Int) (n i:Nat) (h:rowIx n i*1<l.length) (hi:rowIx n i=i):cellP true [(List.getD (l.map pkA) (rowIx n i*1) (.p .any))] 0=.int .i64 (l.getD i 0):=by
  rw [Nat.mul_one] at h ⊢
  rw [hi] at h ⊢
  simp [List.getD_eq_getElem?_getD,List.getElem?_eq_getElem h,pkA,cellP,tg,tru]
theorem pk_ext {P:Program} {f:FuncId} {H H':Hp} {l:List Int} {n:Nat} {res:AV} (h:Con P f 1 H [.pt 3 0 0 0,.p (.seq true 1 l.length (fun i=>[.int .i64 (l.getD i 0)]))] H' res) (hl:l.length=n):Con P f 1 H [.pt 3 0 0 0,pkP n l] H' res:=by
  refine h.arg_ext ?_
  subst hl
  have hcell:∀ i,i<l.length→cellP true [(List.getD (l.map pkA) (rowIx l.length i*1) (.p .any))] 0=.int .i64 (l.getD i 0):=fun i hi=>cell_pk l _ i (by rw [rowIx_lt hi];omega) (rowIx_lt hi)
  simp only [pkP,wkL,wk,wkP,beq_self_eq_true,Bool.and_self,if_true,ikEq,List.append_nil,List.cons_append,List.nil_append,All]
  and_intros<;>first | trivial | omega | (intro i hi;rw [hcell i hi]) | (intro i hi;rfl)
theorem con_pick (n:Nat) (f:Nat→Int) (hn:CdOk n f) (s:Nat×Int) (hs:s.1≤n) (l:List Int) (hm:1≤l.length∧l.length≤256):∃ (s2:Nat×Int) (x:Int),s2.1≤n∧x∈l ∧
    Con Try.prog 59 1 [(0,cuO n f s)] [.pt 3 0 0 0,pkP l.length l] [(0,cuO n f s2)] (.p (.int .i64 x)):=by
  obtain ⟨s2,j,h2,hj,cp⟩:=con_l1PickInt n f hn s hs l.length (fun i=>l.getD i 0) hm
  refine ⟨s2,l.getD j 0,h2,?_,pk_ext cp rfl⟩
  rw [List.getD_eq_getElem?_getD,List.getElem?_eq_getElem hj]
  exact List.getElem_mem hj
open Go Go.Sort
theorem bCs (v:T_Graph) :
    zS Try.f119 [rg 2,rg 8] [graphA v] [224] [(0,brOb v.2.1.1 v.2.1.2)] (.agg [.p (.int .i64 v.1),.ar 2 0 0 v.2.1.1]) =
    some [(NT 0 1),(NT 0 1),(NL 0 0),(NL ((0+v.2.1.1)*16) 140737488355328),(NL (0+v.2.1.1) 9223372036854775807),(NT 0 1),((true=true)→ (AN 1)),(NT 0 1),(AI v.1),(AN 0),(((0+v.2.1.1):Nat)=v.2.1.1),(AN 2),(NL v.2.1.1 (0+v.2.1.1)),(AA v.2.1.1 (fun i=>[.p (.int .i64 ((v.2.1.2 i).1)),.p (.int .i64 ((v.2.1.2 i).2.1))])),(AE v.2.1.1)]:=by kernel_rfl
theorem bSf (v:T_Graph) (a b:Int) (b1:Bool) :
    zS Try.f103 [rg 3,rm [(1,oc [] (.p (.bool b1)))] 32,.dec true,rm [(1,oc [(0,brOb v.2.1.1 v.2.1.2)] (.agg [.p (.int .i64 v.1),.ar 2 0 0 v.2.1.1]))] 2] [graphA v,.p (.int .i64 a),.p (.int .i64 b)] [1216] [(0,brOb v.2.1.1 v.2.1.2)] (.tup [.agg [.p (.int .i64 v.1),.ar 2 0 0 v.2.1.1],.p (.bool false)]) =
    some (zD [(NT 0 1),zE 38 [(zf77 v)] [] (.p (.bool b1)),(AG (!!b1)),(((!b1)=false)→ ((!!b1)=true)),(AG (!bif !b1 then true else decide (a<0))),(((bif !b1 then true else decide (a<0))=false)→ ((!bif !b1 then true else decide (a<0))=true)),(AG (!bif bif !b1 then true else decide (a<0) then true else decide (b<0))),(((!bif bif !b1 then true else decide (a<0) then true else decide (b<0))=true)→(NT 0 1)),(((bif bif !b1 then true else decide (a<0) then true else decide (b<0))=false)→ ((!bif bif !b1 then true else decide (a<0) then true else decide (b<0))=true)),(AG (!bif bif bif !b1 then true else decide (a<0) then true else decide (b<0) then true else decide (a≥v.1))),(((!bif bif bif !b1 then true else decide (a<0) then true else decide (b<0) then true else decide (a≥v.1))=true)→(NT 0 1)),(((bif bif bif !b1 then true else decide (a<0) then true else decide (b<0) then true else decide (a≥v.1))=false)→ ((!bif bif bif !b1 then true else decide (a<0) then true else decide (b<0) then true else decide (a≥v.1))=true)),(AG (!bif bif bif bif !b1 then true else decide (a<0) then true else decide (b<0) then true else decide (a≥v.1) then true else decide (b≥v.1))),(((bif bif bif bif !b1 then true else decide (a<0) then true else decide (b<0) then true else decide (a≥v.1) then true else decide (b≥v.1))=false)→ ((!bif bif bif bif !b1 then true else decide (a<0) then true else decide (b<0) then true else decide (a≥v.1) then true else decide (b≥v.1))=true)),(AG (!bif bif bif bif bif !b1 then true else decide (a<0) then true else decide (b<0) then true else decide (a≥v.1) then true else decide (b≥v.1) then true else a==b)),(((!bif bif bif bif bif !b1 then true else decide (a<0) then true else decide (b<0) then true else decide (a≥v.1) then true else decide (b≥v.1) then true else a==b)=true)→(NT 0 1)),(((bif bif bif bif bif !b1 then true else decide (a<0) then true else decide (b<0) then true else decide (a≥v.1) then true else decide (b≥v.1) then true else a==b)=false)→ ((!bif bif bif bif bif !b1 then true else decide (a<0) then true else decide (b<0) then true else decide (a≥v.1) then true else decide (b≥v.1) then true else a==b)=true)),((bif bif bif bif bif bif !b1 then true else decide (a<0) then true else decide (b<0) then true else decide (a≥v.1) then true else decide (b≥v.1) then true else a==b then true else decide ((↑v.2.1.1:Int)≥24))=true),zE 119 [(zf77 v)] (zf81 v) (.agg [.p (.int .i64 v.1),.ar 2 0 0 v.2.1.1]),((true=true)→ (AN 1)),(AI v.1),(AN 0),(AN v.2.1.1),(false=false),(AN 2),(NL v.2.1.1 v.2.1.1),(AA v.2.1.1 (fun i=>[.p (.int .i64 ((v.2.1.2 i).1)),.p (.int .i64 ((v.2.1.2 i).2.1))])),(AE v.2.1.1)] [0,1,2,3,4,5,6,7,6,6,8,9,10,9,9,11,12,12,13,14,15,14,14,16,17,0,18,0,19,0,20,21,22,23,24,25,26,27]):=by kernel_rfl
theorem bSt (v:T_Graph) (a b:Int) (b1:Bool) (m:Nat) (r r':Nat→T_Bar) :
    zS Try.f103 [rg 3,rm [(1,oc [] (.p (.bool b1)))] 32,.dec false,rm [(8,oc [(0,brOb m r)] (.agg [.p (.int .i64 v.1),.ar 2 0 0 m]))] 2] [graphA v,.p (.int .i64 a),.p (.int .i64 b)] [1440] [(0,brOb m r')] (.tup [.agg [.p (.int .i64 v.1),.ar 2 0 0 m],.p (.bool true)]) =
    some (zD [(NT 0 1),zE 38 [(zf77 v)] [] (.p (.bool b1)),(AG (!!b1)),(((!b1)=false)→ ((!!b1)=true)),(AG (!bif !b1 then true else decide (a<0))),(((bif !b1 then true else decide (a<0))=false)→ ((!bif !b1 then true else decide (a<0))=true)),(AG (!bif bif !b1 then true else decide (a<0) then true else decide (b<0))),(((!bif bif !b1 then true else decide (a<0) then true else decide (b<0))=true)→(NT 0 1)),(((bif bif !b1 then true else decide (a<0) then true else decide (b<0))=false)→ ((!bif bif !b1 then true else decide (a<0) then true else decide (b<0))=true)),(AG (!bif bif bif !b1 then true else decide (a<0) then true else decide (b<0) then true else decide (a≥v.1))),(((!bif bif bif !b1 then true else decide (a<0) then true else decide (b<0) then true else decide (a≥v.1))=true)→(NT 0 1)),(((bif bif bif !b1 then true else decide (a<0) then true else decide (b<0) then true else decide (a≥v.1))=false)→ ((!bif bif bif !b1 then true else decide (a<0) then true else decide (b<0) then true else decide (a≥v.1))=true)),(AG (!bif bif bif bif !b1 then true else decide (a<0) then true else decide (b<0) then true else decide (a≥v.1) then true else decide (b≥v.1))),(((bif bif bif bif !b1 then true else decide (a<0) then true else decide (b<0) then true else decide (a≥v.1) then true else decide (b≥v.1))=false)→ ((!bif bif bif bif !b1 then true else decide (a<0) then true else decide (b<0) then true else decide (a≥v.1) then true else decide (b≥v.1))=true)),(AG (!bif bif bif bif bif !b1 then true else decide (a<0) then true else decide (b<0) then true else decide (a≥v.1) then true else decide (b≥v.1) then true else a==b)),(((!bif bif bif bif bif !b1 then true else decide (a<0) then true else decide (b<0) then true else decide (a≥v.1) then true else decide (b≥v.1) then true else a==b)=true)→(NT 0 1)),(((bif bif bif bif bif !b1 then true else decide (a<0) then true else decide (b<0) then true else decide (a≥v.1) then true else decide (b≥v.1) then true else a==b)=false)→ ((!bif bif bif bif bif !b1 then true else decide (a<0) then true else decide (b<0) then true else decide (a≥v.1) then true else decide (b≥v.1) then true else a==b)=true)),((bif bif bif bif bif bif !b1 then true else decide (a<0) then true else decide (b<0) then true else decide (a≥v.1) then true else decide (b≥v.1) then true else a==b then true else decide ((↑v.2.1.1:Int)≥24))=false),zE 71 [(zf77 v),(zf18 b a)] (zf85 m r) (.agg [.p (.int .i64 v.1),.ar 2 0 0 m]),((true=true)→ (AN 1)),(AI v.1),(AN 0),(AN m),(true=true),(AN 2),(NL m m),(∀ i:Nat,(((i:Nat)<m)→(All []∧(([.p (.int .i64 ((r i).1)),.p (.int .i64 ((r i).2.1))]:List AV)=[.p (.int .i64 ((r' i).1)),.p (.int .i64 ((r' i).2.1))])))),(AE m)] [0,1,2,3,4,5,6,7,6,6,8,9,10,9,9,11,12,12,13,14,15,14,14,16,17,0,18,0,19,0,20,21,22,23,24,25,26,27]):=by kernel_rfl
theorem con_l2Copy (v:T_Graph) (hn:v.2.1.1≤1048576):zE 119 [graphA v] [(0,brOb v.2.1.1 v.2.1.2)] (.agg [.p (.int .i64 v.1),.ar 2 0 0 v.2.1.1]):=by
  refine csZ Try.func119 (fun c hc=>?_)
  refine pkZ Try.func119 hc (bCs v) ?_
  and_intros
  all_goals (first | exact zI | (intro j hj;simp [All];done) | (simp;try omega))
def abB (v:T_Graph) (a b:Int):Bool:=isGraphF v&&(inB a 0 (v.1 - 1)&&(inB b 0 (v.1 - 1)&&(!(a==b)&&!((v.2.1.1:Int)==24))))
def abG (v:T_Graph) (a b:Int):T_Graph:=if abB v a b=true then (v.1,(v.2.1.1+1,srtB (v.2.1.1+1) (snoc v.2.1.1 v.2.1.2 (brX a b))),()) else v
theorem abB_in {v:T_Graph} {a b:Int} (h:abB v a b=true):isGraphF v=true∧(0≤a∧a<v.1)∧(0≤b∧b<v.1)∧a≠b∧v.2.1.1<24:=by
  simp only [abB,inB,Bool.and_eq_true,decide_eq_true_eq,Bool.not_eq_true',beq_eq_false_iff_ne,ne_eq] at h
  obtain ⟨hg,⟨h1,h2⟩,⟨h3,h4⟩,h5,h6⟩:=h
  have:=graph_inR hg
  exact ⟨hg,⟨h1,by omega⟩,⟨h3,by omega⟩,h5,by omega⟩
theorem abG_n (v:T_Graph) (a b:Int):(abG v a b).2.1.1≤v.2.1.1∨(abG v a b).2.1.1≤24:=by
  unfold abG
  split
  · rename_i h
    have:=abB_in h
    right;show v.2.1.1+1≤24;omega
  · left;exact Nat.le_refl _
theorem con_AddBar_s (v:T_Graph) (hs:smS s_Graph v) (a b:Int) :
    zE 103 [graphA v,.p (.int .i64 a),.p (.int .i64 b)] [(0,brOb (abG v a b).2.1.1 (abG v a b).2.1.2)] (.tup [.agg [.p (.int .i64 (abG v a b).1),.ar 2 0 0 (abG v a b).2.1.1],.p (.bool (abB v a b))]):=by
  have hn:v.2.1.1≤1048576:=hs.2.1.1
  have cc:=con_l2Copy v hn
  have c1:=con_IsGraph_s v hs
  have hcd:(bif bif bif bif bif bif !isGraphF v then true else decide (a<0) then true else decide (b<0) then true else decide (a≥v.1) then true else decide (b≥v.1) then true else a==b then true else decide ((v.2.1.1:Int)≥24))=!abB v a b:=by
    unfold abB inB
    cases hg:isGraphF v with
    | false=>rfl
    | true =>
      have:=graph_inR hg
      have e1:decide (a≥v.1)=!decide (a≤v.1 - 1):=by
        by_cases h:a≥v.1
        · have:¬ a≤v.1 - 1:=by omega
          simp [h,this]
        · have:a≤v.1 - 1:=by omega
          simp [h,this]
      have e2:decide (b≥v.1)=!decide (b≤v.1 - 1):=by
        by_cases h:b≥v.1
        · have:¬ b≤v.1 - 1:=by omega
          simp [h,this]
        · have:b≤v.1 - 1:=by omega
          simp [h,this]
      have e3:decide (a<0)=!decide (0≤a):=by
        by_cases h:a<0
        · have:¬ 0≤a:=by omega
          simp [h,this]
        · have:0≤a:=by omega
          simp [h,this]
      have e4:decide (b<0)=!decide (0≤b):=by
        by_cases h:b<0
        · have:¬ 0≤b:=by omega
          simp [h,this]
        · have:0≤b:=by omega
          simp [h,this]
      have e5:decide ((v.2.1.1:Int)≥24)=((v.2.1.1:Int)==24):=by
        by_cases h:v.2.1.1=24
        · rw [h];rfl
        · have h1:¬ (v.2.1.1:Int)≥24:=by omega
          have h2:¬ (v.2.1.1:Int)=24:=by omega
          simp only [h1,decide_false]
          exact (beq_eq_false_iff_ne.2 h2).symm
      rw [e1,e2,e3,e4,e5]
      cases decide (0≤a)<;>cases decide (0≤b)<;>cases decide (a≤v.1 - 1)<;>cases decide (b≤v.1 - 1)<;>cases (a==b)<;>cases ((v.2.1.1:Int)==24)<;>rfl
  refine csZ Try.func103 (fun c hc=>?_)
  cases hb:abB v a b with
  | false =>
    rw [hb] at hcd
    have hcd':(bif bif bif bif bif bif !isGraphF v then true else decide (a<0) then true else decide (b<0) then true else decide (a≥v.1) then true else decide (b≥v.1) then true else a==b then true else decide ((v.2.1.1:Int)≥24))=true:=hcd
    rw [show abG v a b=v by simp [abG,hb]]
    refine pkD Try.func103 hc (bSf v a b (isGraphF v)) ?_
    and_intros
    all_goals (first | exact zH | (exact cc) | (exact c1) | (exact hcd') | (intro j hj;simp [All]))
  | true =>
    rw [hb] at hcd
    have hcd':(bif bif bif bif bif bif !isGraphF v then true else decide (a<0) then true else decide (b<0) then true else decide (a≥v.1) then true else decide (b≥v.1) then true else a==b then true else decide ((v.2.1.1:Int)≥24))=false:=hcd
    have hin:=abB_in hb
    have hgr:=graph_inR hin.1
    rw [show abG v a b=(v.1,(v.2.1.1+1,srtB (v.2.1.1+1) (snoc v.2.1.1 v.2.1.2 (brX a b))),()) by simp [abG,hb]]
    have cp:=con_l2Put v.2.1.2 v.2.1.1 v.1.toNat (brX a b) hn
    have hN:((v.1.toNat:Nat):Int)=v.1:=by omega
    rw [grG,hN] at cp
    have hl:=insR_list v.2.1.2 v.2.1.1 (brX a b) (goodB_sorted hgr.2.2.2)
    have hn':=insR_n v.2.1.2 v.2.1.1 (brX a b)
    rw [hn'] at cp hl
    rw [← lstB_snoc,← lstB_srt] at hl
    have hrow:=lstB_inj hl
    generalize srtB (v.2.1.1+1) (snoc v.2.1.1 v.2.1.2 (brX a b))=r at hrow ⊢
    generalize (insR v.2.1.2 v.2.1.1 (brX a b)).2=r0 at cp hrow
    refine pkD Try.func103 hc (bSt v a b (isGraphF v) (v.2.1.1+1) r0 r) ?_
    and_intros
    iterate 2 all_goals (first | exact zH | (exact c1) | (exact cp) | (exact hcd') | (intro j hj;simp [All];done) | (intro j hj;rw [hrow j hj];simp [cvtL,cvt,tg,tru,All]) | simp only [All])
def bxGr (N:Int) (k:Nat):Ob:=⟨true,2,1,fun _=>[.p (.int .i64 N),.ar 2 3 0 k]⟩
def grR (N:Int) (k j:Nat):AV:=.agg [.p (.int .i64 N),.ar 2 j 0 k]
def SSm0 (n:Nat) (f:Nat→Int) (s:Nat×Int) (N:Nat) (odd:Int) (k:Nat) (h:Nat→T_Bar) (a:Nat):St :=
  ⟨[.pt 3 0 0 0,.p (.int .i64 N),.p (.int .i64 odd),.p .any,.p .any,.p .any,.pt 2 1 0 0,.pt 2 2 0 0,.p (.int .i64 a)]++List.replicate 35 anyA,[(0,cuO n f s),(1,zG2),(2,bxGr N k),(3,brOb k h)],4⟩
def SSm1 (n:Nat) (f:Nat→Int) (s:Nat×Int) (N:Nat) (odd:Int) (k:Nat) (h:Nat→T_Bar) (a b:Nat):St :=
  ⟨[.pt 3 0 0 0,.p (.int .i64 N),.p (.int .i64 odd),.p .any,.p .any,.p .any,.pt 2 1 0 0,.pt 2 2 0 0,.p (.int .i64 a),.p (.int .i64 b)]++List.replicate 34 anyA,[(0,cuO n f s),(1,zG2),(2,bxGr N k),(3,brOb k h)],4⟩
def SGr (n:Nat) (f:Nat→Int) (s:Nat×Int) (N:Int) (k:Nat) (h:Nat→T_Bar) (q:Nat):St :=
  ⟨[.pt 3 0 0 0,.p .any,.pt 2 1 0 0,.pt 2 2 0 0,.p (.int .i64 q)]++List.replicate 35 anyA,[(0,cuO n f s),(1,zG2),(2,bxGr N k),(3,brOb k h)],4⟩
def SLm0 (n:Nat) (f:Nat→Int) (s:Nat×Int) (N:Nat) (k:Nat) (h:Nat→T_Bar) (v:Nat):St :=
  ⟨[.pt 3 0 0 0,.p (.int .i64 N),.p .any,.p .any,.pt 2 1 0 0,.pt 2 2 0 0,.p (.int .i64 v)]++List.replicate 95 anyA,[(0,cuO n f s),(1,zG2),(2,bxGr N k),(3,brOb k h)],4⟩
def SLm1 (n:Nat) (f:Nat→Int) (s:Nat×Int) (N:Nat) (k:Nat) (h:Nat→T_Bar) (v:Nat) (e:Nat) (x:T_Bar) (w:Int):St :=
  ⟨[.pt 3 0 0 0,.p (.int .i64 N),.p .any,.p .any,.pt 2 1 0 0,.pt 2 2 0 0,.p (.int .i64 v),anyA,anyA,.p (.int .i64 e),.pt 2 4 0 0,.p (.int .i64 w)]++List.replicate 90 anyA,[(0,cuO n f s),(1,zG2),(2,bxGr N k),(3,brOb k h),(4,bxB x)],5⟩
def dlX (h:Nat→T_Bar) (e i:Nat):T_Bar:=if i<e then h i else h (i+1)
theorem dsz (n:Nat) (f:Nat→Int) (s:Nat×Int) (N:Nat) (odd:Int) :
    zM 1 [rg 1,rg 5,rg 1,.head] [.code (bodyOf Try.f145)] (start Try.f145 [(0,cuO n f s)] 1 [.pt 3 0 0 0,.p (.int .i64 N),.p (.int .i64 odd)]) [0,1,129,65] 1 (SSm0 n f s N odd 0 (fun _=>(0,0,())) 0) =
    some (zf48,zD [(NT 0 1),((true=true)→ (AN 1)),(AN 0),(AI ((↑N:Int))),(AI odd),((0:Int)=(↑0:Int)),(AN 3),(NL 1 1),(AN n),(AP n (fun i=>[.int .u8 (f i)])),(AI ((↑s.1:Int))),(AI s.2),((((List.map (fun v=>AV.p (absV v)) [Value.int IntKind.i64 0,Value.slice none 0 0]).length):Nat)=2),(AI 0),(AN 2),(NL 0 0),(AA 0 (fun i=>[.p (.int .i64 0),.p (.int .i64 0)]))] [0,1,2,3,4,2,2,5,6,7,7,8,9,10,11,12,7,7,13,12,7,7,3,2,2,14,15,16]):=by kernel_rfl
theorem dsa (n:Nat) (f:Nat→Int) (s:Nat×Int) (N:Nat) (odd:Int) (k:Nat) (h:Nat→T_Bar) (a:Nat) :
    zM 1 [rg 3,.dec true,rg 3,.head] zf48 (SSm0 n f s N odd k h a) [0,1,2,3] 1 (SSm1 n f s N odd k h a (a+1)) =
    some (zf14,zD [((decide ((↑a:Int)<(↑N:Int)))=true),(ZLo ((↑a:Int)+1)),(ZHi ((↑a:Int)+1)),(AN 0),(AI ((↑N:Int))),(AI odd),(AI ((↑a:Int))),((((↑a:Int)+1):Int)=(↑(a+1):Int)),(AN 3),(NL 1 1),(AN n),(AP n (fun i=>[.int .u8 (f i)])),(AI ((↑s.1:Int))),(AI s.2),(AN 2),(AI 0),(AN k),(NL k k),(AA k (fun i=>[.p (.int .i64 ((h i).1)),.p (.int .i64 ((h i).2.1))]))] [0,1,2,3,4,5,3,3,6,7,8,9,9,10,11,12,13,14,9,9,15,14,9,9,4,3,16,14,17,18]):=by kernel_rfl
theorem dse (n:Nat) (f:Nat→Int) (s:Nat×Int) (N:Nat) (odd:Int) (k:Nat) (h:Nat→T_Bar) (a:Nat) :
    zP Try.f145 1 [rg 3,.dec false,rg 2] zf48 (SSm0 n f s N odd k h a) [0,3] 1 [(0,cuO n f s),(1,brOb k h)] (grR N k 1) =
    some [((decide ((↑a:Int)<(↑N:Int)))=false),(NT 0 1),(NT 0 1),((true=true)→ (AN 1)),(NT 0 1),(AI ((↑N:Int))),(AN 0),(AN k),(AN 3),(NL 1 1),(NL 1 1),(AN n),(AP n (fun i=>[.int .u8 (f i)])),(AI ((↑s.1:Int))),(AI s.2),(AN 2),(NL k k),(AA k (fun i=>[.p (.int .i64 ((h i).1)),.p (.int .i64 ((h i).2.1))])),(∀ i:Nat,(((i:Nat)<1)→All [(false=false),(AE n)])),(AE k)]:=by kernel_rfl
theorem dsb (n:Nat) (f:Nat→Int) (s s2:Nat×Int) (N:Nat) (odd:Int) (k:Nat) (h:Nat→T_Bar) (a b:Nat) (x:Int) :
    zM 1 [rg 3,.dec true,rm [(1,⟨true,(some ⟨[0],[1000],[],1,[(0,cuO n f s2)],.p (.int .i64 x)⟩),none⟩)] 8,.dec true,rg 9,rg 3,.head] zf14 (SSm1 n f s N odd k h a b) [0,1,2,612] 1 (SSm1 n f s2 N odd (k+1) (snoc k h (a,b,())) a (b+1)) =
    some (zf14,zD [((decide ((↑b:Int)<(↑N:Int)))=true),(AE 1),Con Try.prog 58 1 (zf75 n f s) [.pt 3 0 0 0,.p (.int .i64 10)] (zf75 n f s2) (.p (.int .i64 x)),(AG (decide (x<odd))),(((decide (x<odd))=true)→(NT 0 1)),((bif decide (x<odd) then decide ((↑k:Int)<24) else false)=true),(NT 0 1),(NL 1 1),(NL k k),(NL ((k+1)*16) 140737488355328),(NL (k+1) 9223372036854775807),((true=true)→ (AN 1)),(ZLo ((↑b:Int)+1)),(ZHi ((↑b:Int)+1)),(AN 0),(AI ((↑N:Int))),(AI odd),(AI ((↑a:Int))),((((↑b:Int)+1):Int)=(↑(b+1):Int)),(AN 3),(AN n),(AP n (fun i=>[.int .u8 (f i)])),(AI ((↑s2.1:Int))),(AI s2.2),(AN 2),(AI 0),(AN ((k+1))),(NL (k+1) (k+1)),(∀ i:Nat,(((i:Nat)<(k+1))→(All (cvtL false [(2,⟨true,2,1,(fun i_1=>[.p (.int .i64 (↑N:Int)),.ar 2 612 0 (k+1)])⟩),(612,⟨false,2,(k+1),(fun i_1=>(if (i_1<k) then [.p (.int .i64 ((h i_1).1)),.p (.int .i64 ((h i_1).2.1))] else [.p (.int .i64 (↑a:Int)),.p (.int .i64 (↑b:Int))]))⟩),(580,⟨false,2,1,(fun i_1=>[.p (.int .i64 (↑a:Int)),.p (.int .i64 (↑b:Int))])⟩),(0,⟨true,3,1,(fun i_1=>[.p (.seq false 1 n (fun i_2=>[.int .u8 (f i_2)])),.p (.int .i64 (↑s2.1:Int)),.p (.int .i64 s2.2)])⟩),(1,⟨true,2,1,(fun i_1=>[.p (.int .i64 0),.p (.nil)])⟩)] [0,1,2,612] 1 (if (i<k) then [.p (.int .i64 ((h i).1)),.p (.int .i64 ((h i).2.1))] else [.p (.int .i64 (↑a:Int)),.p (.int .i64 (↑b:Int))])).2∧(((cvtL false [(2,⟨true,2,1,(fun i_1=>[.p (.int .i64 (↑N:Int)),.ar 2 612 0 (k+1)])⟩),(612,⟨false,2,(k+1),(fun i_1=>(if (i_1<k) then [.p (.int .i64 ((h i_1).1)),.p (.int .i64 ((h i_1).2.1))] else [.p (.int .i64 (↑a:Int)),.p (.int .i64 (↑b:Int))]))⟩),(580,⟨false,2,1,(fun i_1=>[.p (.int .i64 (↑a:Int)),.p (.int .i64 (↑b:Int))])⟩),(0,⟨true,3,1,(fun i_1=>[.p (.seq false 1 n (fun i_2=>[.int .u8 (f i_2)])),.p (.int .i64 (↑s2.1:Int)),.p (.int .i64 s2.2)])⟩),(1,⟨true,2,1,(fun i_1=>[.p (.int .i64 0),.p (.nil)])⟩)] [0,1,2,612] 1 (if (i<k) then [.p (.int .i64 ((h i).1)),.p (.int .i64 ((h i).2.1))] else [.p (.int .i64 (↑a:Int)),.p (.int .i64 (↑b:Int))])).1:List AV)=[.p (.int .i64 (if i<k then (h i).1 else (↑a:Int))),.p (.int .i64 (if i<k then (h i).2.1 else (↑b:Int)))]))))] [0,1,2,3,4,3,3,3,5,6,7,8,9,10,6,11,12,13,14,15,16,14,14,17,18,19,7,7,20,21,22,23,24,7,7,25,24,7,7,15,14,26,24,27,28]):=by kernel_rfl
theorem dsc (n:Nat) (f:Nat→Int) (s s2:Nat×Int) (N:Nat) (odd:Int) (k:Nat) (h:Nat→T_Bar) (a b:Nat) (x:Int) :
    zM 1 [rg 3,.dec true,rm [(1,⟨true,(some ⟨[0],[1000],[],1,[(0,cuO n f s2)],.p (.int .i64 x)⟩),none⟩)] 8,.dec false,rg 3,.head] zf14 (SSm1 n f s N odd k h a b) [0,1,2,3] 1 (SSm1 n f s2 N odd k h a (b+1)) =
    some (zf14,zD [((decide ((↑b:Int)<(↑N:Int)))=true),(AE 1),Con Try.prog 58 1 (zf75 n f s) [.pt 3 0 0 0,.p (.int .i64 10)] (zf75 n f s2) (.p (.int .i64 x)),(AG (decide (x<odd))),(((decide (x<odd))=true)→(NT 0 1)),((bif decide (x<odd) then decide ((↑k:Int)<24) else false)=false),(ZLo ((↑b:Int)+1)),(ZHi ((↑b:Int)+1)),(AN 0),(AI ((↑N:Int))),(AI odd),(AI ((↑a:Int))),((((↑b:Int)+1):Int)=(↑(b+1):Int)),(AN 3),(NL 1 1),(AN n),(AP n (fun i=>[.int .u8 (f i)])),(AI ((↑s2.1:Int))),(AI s2.2),(AN 2),(AI 0),(AN k),(NL k k),(AA k (fun i=>[.p (.int .i64 ((h i).1)),.p (.int .i64 ((h i).2.1))]))] [0,1,2,3,4,3,3,3,5,6,7,8,9,10,8,8,11,12,13,14,14,15,16,17,18,19,14,14,20,19,14,14,9,8,21,19,22,23]):=by kernel_rfl
theorem dsd (n:Nat) (f:Nat→Int) (s:Nat×Int) (N:Nat) (odd:Int) (k:Nat) (h:Nat→T_Bar) (a b:Nat) :
    zM 1 [rg 3,.dec false,rg 3,.head] zf14 (SSm1 n f s N odd k h a b) [0,1,2,3] 1 (SSm0 n f s N odd k h (a+1)) =
    some (zf48,zD [((decide ((↑b:Int)<(↑N:Int)))=false),(ZLo ((↑a:Int)+1)),(ZHi ((↑a:Int)+1)),(AN 0),(AI ((↑N:Int))),(AI odd),((((↑a:Int)+1):Int)=(↑(a+1):Int)),(AN 3),(NL 1 1),(AN n),(AP n (fun i=>[.int .u8 (f i)])),(AI ((↑s.1:Int))),(AI s.2),(AN 2),(AI 0),(AN k),(NL k k),(AA k (fun i=>[.p (.int .i64 ((h i).1)),.p (.int .i64 ((h i).2.1))]))] [0,1,2,3,4,5,3,3,6,7,8,8,9,10,11,12,13,8,8,14,13,8,8,4,3,15,13,16,17]):=by kernel_rfl
theorem dqz (n:Nat) (f:Nat→Int) (s s1 s2 s3 s4 s5:Nat×Int) (x y z t:Int) (N:Int) (k:Nat) (h:Nat→T_Bar) (q:Nat) :
    zM 1 [rg 1,rm [(2,⟨true,(some ⟨[0],[1000],[],1,[(0,cuO n f s1)],.p (.int .i64 x)⟩),none⟩),(2,⟨true,(some ⟨[0],[1000],[],1,[(0,cuO n f s2)],.p (.int .i64 y)⟩),none⟩),(1,⟨true,(some ⟨[0],[1000],[],1,[(0,cuO n f s3),(1,brOb k h)],grR N k 1⟩),none⟩)] 2,rm [(1,⟨true,(some ⟨[0],[1000],[],1,[(0,cuO n f s4)],.p (.int .i64 z)⟩),none⟩),(1,⟨true,(some ⟨[0],[1000],[],1,[(0,cuO n f s5)],.p (.int .i64 t)⟩),none⟩)] 2,.head] [.code (bodyOf Try.f117)] (start Try.f117 [(0,cuO n f s)] 1 [.pt 3 0 0 0]) [0,1,289,257] 1 (SGr n f s5 N k h q) =
    some (zf49,zD [(AE 1),Con Try.prog 58 1 (zf75 n f s) [.pt 3 0 0 0,.p (.int .i64 5)] (zf75 n f s1) (.p (.int .i64 x)),(ZLo (2+x)),(ZHi (2+x)),Con Try.prog 58 1 (zf75 n f s1) [.pt 3 0 0 0,.p (.int .i64 4)] (zf75 n f s2) (.p (.int .i64 y)),(ZLo (5+y)),(ZHi (5+y)),Con Try.prog 145 1 (zf75 n f s2) [.pt 3 0 0 0,.p (.int .i64 (2+x)),.p (.int .i64 (5+y))] (zf17 n f s3 k h) (.agg [.p (.int .i64 N),.ar 2 1 0 k]),(NT 0 1),((true=true)→ (AN 1)),Con Try.prog 58 1 (zf75 n f s3) [.pt 3 0 0 0,.p (.int .i64 3)] (zf75 n f s4) (.p (.int .i64 z)),Con Try.prog 58 1 (zf75 n f s4) [.pt 3 0 0 0,.p (.int .i64 2)] (zf75 n f s5) (.p (.int .i64 t)),(ZLo (z*t)),(ZHi (z*t)),(AN 0),(((z*t):Int)=(↑q:Int)),(AN 3),(NL 1 1),(AN n),(AP n (fun i=>[.int .u8 (f i)])),(AI ((↑s5.1:Int))),(AI s5.2),((((List.map (fun v=>AV.p (absV v)) [Value.int IntKind.i64 0,Value.slice none 0 0]).length):Nat)=2),(AI 0),(AI N),(AN k),(AN 2),(NL k k),(AA k (fun i=>[.p (.int .i64 ((h i).1)),.p (.int .i64 ((h i).2.1))]))] [0,1,2,3,0,4,5,6,0,7,8,9,0,10,0,11,12,13,14,14,14,15,16,17,17,18,19,20,21,22,17,17,23,22,17,17,24,14,25,26,27,28]):=by kernel_rfl
theorem dqa (n:Nat) (f:Nat→Int) (s s1 s2:Nat×Int) (N:Int) (k:Nat) (h:Nat→T_Bar) (q:Nat) (a b:Int) (M:Int) (m:Nat) (r:Nat→T_Bar) (ok:Bool) :
    zM 1 [rg 2,.dec true,rm [(3,⟨true,(some ⟨[0],[1000],[],1,[(0,cuO n f s1)],.p (.int .i64 a)⟩),none⟩)] 1,rm [(3,⟨true,(some ⟨[0],[1000],[],1,[(0,cuO n f s2)],.p (.int .i64 b)⟩),none⟩)] 1,rm [(3,oc [(0,brOb m r)] (.tup [grR M m 0,.p (.bool ok)]))] 4,rg 3,.head] zf49 (SGr n f s N k h (q+1)) [0,1,2,484] 1 (SGr n f s2 M m r q) =
    some (zf49,zD [((decide ((↑(q+1):Int)>0))=true),(NT 0 1),(AE 1),Con Try.prog 58 1 (zf75 n f s) [.pt 3 0 0 0,.p (.int .i64 N)] (zf75 n f s1) (.p (.int .i64 a)),Con Try.prog 58 1 (zf75 n f s1) [.pt 3 0 0 0,.p (.int .i64 N)] (zf75 n f s2) (.p (.int .i64 b)),(AN 2),(NL k k),zE 103 [(zf83 N k h),.p (.int .i64 a),.p (.int .i64 b)] (zf85 m r) (.tup [.agg [.p (.int .i64 M),.ar 2 0 0 m],.p (.bool ok)]),((true=true)→ (AN 1)),(ZLo ((↑(q+1):Int) - 1)),(ZHi ((↑(q+1):Int) - 1)),(AN 0),((((↑(q+1):Int) - 1):Int)=(↑q:Int)),(AN 3),(NL 1 1),(AN n),(AP n (fun i=>[.int .u8 (f i)])),(AI ((↑s2.1:Int))),(AI s2.2),(AI 0),(AI M),(AN m),(NL m m),(AA m (fun i=>[.p (.int .i64 ((r i).1)),.p (.int .i64 ((r i).2.1))]))] [0,1,2,3,1,2,4,1,5,6,7,1,8,9,10,11,11,11,12,13,14,14,15,16,17,18,5,14,14,19,5,14,14,20,11,21,5,22,23]):=by kernel_rfl
theorem dqe (n:Nat) (f:Nat→Int) (s:Nat×Int) (N:Int) (k:Nat) (h:Nat→T_Bar) :
    zP Try.f117 1 [rg 2,.dec false,rg 2] zf49 (SGr n f s N k h 0) [0,3] 1 [(0,cuO n f s),(1,brOb k h)] (grR N k 1) =
    some [((decide ((↑0:Int)>0))=false),(NT 0 1),(NT 0 1),((true=true)→ (AN 1)),(NT 0 1),(AI N),(AN 0),(AN k),(AN 3),(NL 1 1),(NL 1 1),(AN n),(AP n (fun i=>[.int .u8 (f i)])),(AI ((↑s.1:Int))),(AI s.2),(AN 2),(NL k k),(AA k (fun i=>[.p (.int .i64 ((h i).1)),.p (.int .i64 ((h i).2.1))])),(∀ i:Nat,(((i:Nat)<1)→All [(false=false),(AE n)])),(AE k)]:=by kernel_rfl
theorem daz (n:Nat) (f:Nat→Int) (s s1 s2 s3 s4:Nat×Int) (N:Int) (k:Nat) (h:Nat→T_Bar) (x y z:Int) :
    zP Try.f100 1 [rg 1,rm [(1,⟨true,(some ⟨[0],[1000],[],1,[(0,cuO n f s1),(1,brOb k h)],grR N k 1⟩),none⟩)] 2,rm [(1,⟨true,(some ⟨[0],[1000],[],1,[(0,cuO n f s2)],.p (.int .i64 x)⟩),none⟩)] 0,rg 2,.dec true,rm [(2,⟨true,(some ⟨[0],[1000],[],1,[(0,cuO n f s3)],.p (.int .i64 y)⟩),none⟩)] 2,rg 2] [.code (bodyOf Try.f100)] (start Try.f100 [(0,cuO n f s)] 1 [.pt 3 0 0 0]) [0,65] 1 [(0,cuO n f s3),(1,brOb k h)] (grR y k 1) =
    some (zD [(AE 1),Con Try.prog 117 1 (zf75 n f s) [.pt 3 0 0 0] (zf17 n f s1 k h) (.agg [.p (.int .i64 N),.ar 2 1 0 k]),(NT 0 1),((true=true)→ (AN 1)),Con Try.prog 58 1 (zf75 n f s1) [.pt 3 0 0 0,.p (.int .i64 16)] (zf75 n f s2) (.p (.int .i64 x)),((x==0)=true),(AN 1),(NL 4 4),Con Try.prog 59 1 (zf75 n f s2) [.pt 3 0 0 0,.p (.seq true 1 4 (fun i=>[(cellP true [(List.getD ([.p (.int .i64 0),.p (.int .i64 (-1)),.p (.int .i64 9),.p (.int .i64 3)]:List AV) (rowIx 4 i*1) (.p .any))] 0)]))] (zf75 n f s3) (.p (.int .i64 y)),(AI y),(AN 0),(AN k),(AN 3),(NL 1 1),(AN n),(AP n (fun i=>[.int .u8 (f i)])),(AI ((↑s3.1:Int))),(AI s3.2),(AN 2),(NL k k),(AA k (fun i=>[.p (.int .i64 ((h i).1)),.p (.int .i64 ((h i).2.1))])),(∀ i:Nat,(((i:Nat)<1)→All [(false=false),(AE n)])),(AE k)] [0,1,2,3,0,4,5,0,6,7,8,2,3,2,2,3,2,9,10,11,12,13,13,14,15,16,17,18,19,20,21,22]):=by kernel_rfl
theorem dao (n:Nat) (f:Nat→Int) (s s1 s2 s3 s4:Nat×Int) (N:Int) (k:Nat) (h:Nat→T_Bar) (x y z:Int) :
    zP Try.f100 1 [rg 1,rm [(1,⟨true,(some ⟨[0],[1000],[],1,[(0,cuO n f s1),(1,brOb k h)],grR N k 1⟩),none⟩)] 2,rm [(1,⟨true,(some ⟨[0],[1000],[],1,[(0,cuO n f s2)],.p (.int .i64 x)⟩),none⟩)] 0,rg 2,.dec false,rg 2,.dec true,rm [(3,⟨true,(some ⟨[0],[1000],[],1,[(0,cuO n f s3)],.p (.int .i64 y)⟩),none⟩),(1,⟨true,(some ⟨[0],[1000],[],1,[(0,cuO n f s4)],.p (.int .i64 z)⟩),none⟩)] 5,rg 2] [.code (bodyOf Try.f100)] (start Try.f100 [(0,cuO n f s)] 1 [.pt 3 0 0 0]) [0,609] 1 [(0,cuO n f s4),(1,brOb (k+1) (snoc k h (y,z,())))] (grR N (k+1) 1) =
    some (zD [(AE 1),Con Try.prog 117 1 (zf75 n f s) [.pt 3 0 0 0] (zf17 n f s1 k h) (.agg [.p (.int .i64 N),.ar 2 1 0 k]),(NT 0 1),((true=true)→ (AN 1)),Con Try.prog 58 1 (zf75 n f s1) [.pt 3 0 0 0,.p (.int .i64 16)] (zf75 n f s2) (.p (.int .i64 x)),((x==0)=false),((x==1)=true),Con Try.prog 58 1 (zf75 n f s2) [.pt 3 0 0 0,.p (.int .i64 3)] (zf75 n f s3) (.p (.int .i64 y)),Con Try.prog 58 1 (zf75 n f s3) [.pt 3 0 0 0,.p (.int .i64 9)] (zf75 n f s4) (.p (.int .i64 z)),(NL 1 1),(NL k k),(NL ((k+1)*16) 140737488355328),(NL (k+1) 9223372036854775807),(AI N),(AN 0),(AN ((k+1))),(AN 3),(AN n),(AP n (fun i=>[.int .u8 (f i)])),(AI ((↑s4.1:Int))),(AI s4.2),(AN 2),(NL (k+1) (k+1)),(∀ i:Nat,(((i:Nat)<(k+1))→(All (cvtL false [(1,⟨true,2,1,(fun i_1=>[.p (.int .i64 N),.ar 2 609 0 (k+1)])⟩),(97,⟨true,2,1,(fun i_1=>[.p (.int .i64 N),.ar 2 609 0 (k+1)])⟩),(609,⟨false,2,(k+1),(fun i_1=>(if (i_1<k) then [.p (.int .i64 ((h i_1).1)),.p (.int .i64 ((h i_1).2.1))] else [.p (.int .i64 y),.p (.int .i64 z)]))⟩),(577,⟨false,2,1,(fun i_1=>[.p (.int .i64 y),.p (.int .i64 z)])⟩),(0,⟨true,3,1,(fun i_1=>[.p (.seq false 1 n (fun i_2=>[.int .u8 (f i_2)])),.p (.int .i64 (↑s4.1:Int)),.p (.int .i64 s4.2)])⟩)] [0,609] 1 (if (i<k) then [.p (.int .i64 ((h i).1)),.p (.int .i64 ((h i).2.1))] else [.p (.int .i64 y),.p (.int .i64 z)])).2∧(((cvtL false [(1,⟨true,2,1,(fun i_1=>[.p (.int .i64 N),.ar 2 609 0 (k+1)])⟩),(97,⟨true,2,1,(fun i_1=>[.p (.int .i64 N),.ar 2 609 0 (k+1)])⟩),(609,⟨false,2,(k+1),(fun i_1=>(if (i_1<k) then [.p (.int .i64 ((h i_1).1)),.p (.int .i64 ((h i_1).2.1))] else [.p (.int .i64 y),.p (.int .i64 z)]))⟩),(577,⟨false,2,1,(fun i_1=>[.p (.int .i64 y),.p (.int .i64 z)])⟩),(0,⟨true,3,1,(fun i_1=>[.p (.seq false 1 n (fun i_2=>[.int .u8 (f i_2)])),.p (.int .i64 (↑s4.1:Int)),.p (.int .i64 s4.2)])⟩)] [0,609] 1 (if (i<k) then [.p (.int .i64 ((h i).1)),.p (.int .i64 ((h i).2.1))] else [.p (.int .i64 y),.p (.int .i64 z)])).1:List AV)=[.p (.int .i64 (if i<k then (h i).1 else y)),.p (.int .i64 (if i<k then (h i).2.1 else z))])))),(∀ i:Nat,(((i:Nat)<1)→All [(false=false),(AE n)])),(AE ((k+1)))] [0,1,2,3,0,4,5,6,2,0,7,0,8,9,10,11,12,2,3,2,2,3,2,13,14,15,16,9,9,17,18,19,20,21,22,23,24,25]):=by kernel_rfl
theorem dan (n:Nat) (f:Nat→Int) (s s1 s2 s3 s4:Nat×Int) (N:Int) (k:Nat) (h:Nat→T_Bar) (x y z:Int) :
    zP Try.f100 1 [rg 1,rm [(1,⟨true,(some ⟨[0],[1000],[],1,[(0,cuO n f s1),(1,brOb k h)],grR N k 1⟩),none⟩)] 2,rm [(1,⟨true,(some ⟨[0],[1000],[],1,[(0,cuO n f s2)],.p (.int .i64 x)⟩),none⟩)] 0,rg 2,.dec false,rg 2,.dec false,rg 2] [.code (bodyOf Try.f100)] (start Try.f100 [(0,cuO n f s)] 1 [.pt 3 0 0 0]) [0,65] 1 [(0,cuO n f s2),(1,brOb k h)] (grR N k 1) =
    some [(AE 1),Con Try.prog 117 1 (zf75 n f s) [.pt 3 0 0 0] (zf17 n f s1 k h) (.agg [.p (.int .i64 N),.ar 2 1 0 k]),(NT 0 1),((true=true)→ (AN 1)),(AE 1),Con Try.prog 58 1 (zf75 n f s1) [.pt 3 0 0 0,.p (.int .i64 16)] (zf75 n f s2) (.p (.int .i64 x)),((x==0)=false),((x==1)=false),(NT 0 1),(NT 0 1),((true=true)→ (AN 1)),(NT 0 1),(AI N),(AN 0),(AN k),(AN 3),(NL 1 1),(NL 1 1),(AN n),(AP n (fun i=>[.int .u8 (f i)])),(AI ((↑s2.1:Int))),(AI s2.2),(AN 2),(NL k k),(AA k (fun i=>[.p (.int .i64 ((h i).1)),.p (.int .i64 ((h i).2.1))])),(∀ i:Nat,(((i:Nat)<1)→All [(false=false),(AE n)])),(AE k)]:=by kernel_rfl
theorem dlz (n:Nat) (f:Nat→Int) (s:Nat×Int) (N:Nat) :
    zP Try.f101 1 [rg 1,rg 5,rg 2,.dec true,rg 2] [.code (bodyOf Try.f101)] (start Try.f101 [(0,cuO n f s)] 1 [.pt 3 0 0 0,.p (.int .i64 N)]) [0,65] 1 [(0,cuO n f s),(1,brOb 0 (fun _=>(0,0,())))] (grR N 0 1) =
    some (zD [(NT 0 1),((true=true)→ (AN 1)),((decide ((↑N:Int)<2))=true),(AI ((↑N:Int))),(AN 0),(AN 3),(NL 1 1),(AN n),(AP n (fun i=>[.int .u8 (f i)])),(AI ((↑s.1:Int))),(AI s.2),(AN 2),(NL 0 0),(AA 0 (fun i=>[.p (.int .i64 0),.p (.int .i64 0)])),(∀ i:Nat,(((i:Nat)<1)→All [(false=false),(AE n)])),(AE 0)] [0,1,2,0,0,1,0,3,4,4,5,6,6,7,8,9,10,11,12,13,14,15]):=by kernel_rfl
theorem dla (n:Nat) (f:Nat→Int) (s:Nat×Int) (N:Nat) (k:Nat) (h:Nat→T_Bar) :
    zM 1 [rg 1,rg 5,rg 2,.dec false,rm [(2,oc [(0,brOb k h)] (grR N k 0))] 1,rg 1,.head] [.code (bodyOf Try.f101)] (start Try.f101 [(0,cuO n f s)] 1 [.pt 3 0 0 0,.p (.int .i64 N)]) [0,1,129,321] 1 (SLm0 n f s N k h 2) =
    some (zf25,zD [(NT 0 1),((true=true)→ (AN 1)),((decide ((↑N:Int)<2))=false),(AN 2),(NL 0 0),zE 71 [.agg [.p (.int .i64 (↑N:Int)),.p (.seq true 2 0 (fun i=>[.int .i64 0,.int .i64 0]))],.agg [.p (.int .i64 0),.p (.int .i64 1)]] (zf85 k h) (.agg [.p (.int .i64 (↑N:Int)),.ar 2 0 0 k]),(AN 0),(AI ((↑N:Int))),((2:Int)=(↑2:Int)),(AN 3),(NL 1 1),(AN n),(AP n (fun i=>[.int .u8 (f i)])),(AI ((↑s.1:Int))),(AI s.2),((((List.map (fun v=>AV.p (absV v)) [Value.int IntKind.i64 0,Value.slice none 0 0]).length):Nat)=2),(AI 0),(AN k),(NL k k),(AA k (fun i=>[.p (.int .i64 ((h i).1)),.p (.int .i64 ((h i).2.1))]))] [0,1,2,0,3,4,5,0,1,6,7,6,6,8,9,10,10,11,12,13,14,15,10,10,16,15,10,10,7,6,17,3,18,19]):=by kernel_rfl
theorem dle (n:Nat) (f:Nat→Int) (s:Nat×Int) (N:Nat) (k:Nat) (h:Nat→T_Bar) (v:Nat) :
    zP Try.f101 1 [rg 3,.dec false,rg 2] zf25 (SLm0 n f s N k h v) [0,3] 1 [(0,cuO n f s),(1,brOb k h)] (grR N k 1) =
    some [((decide ((↑v:Int)<(↑N:Int)))=false),(NT 0 1),(NT 0 1),((true=true)→ (AN 1)),(NT 0 1),(AI ((↑N:Int))),(AN 0),(AN k),(AN 3),(NL 1 1),(NL 1 1),(AN n),(AP n (fun i=>[.int .u8 (f i)])),(AI ((↑s.1:Int))),(AI s.2),(AN 2),(NL k k),(AA k (fun i=>[.p (.int .i64 ((h i).1)),.p (.int .i64 ((h i).2.1))])),(∀ i:Nat,(((i:Nat)<1)→All [(false=false),(AE n)])),(AE k)]:=by kernel_rfl
theorem dlb (n:Nat) (f:Nat→Int) (s s1 s2 s3:Nat×Int) (N:Nat) (k:Nat) (h:Nat→T_Bar) (v:Nat) (a y:Int) (b:Bool) (k1 k2:Nat) (h1 h2:Nat→T_Bar) :
    zM 1 [rg 3,.dec true,rm [(2,⟨true,(some ⟨[0],[1000],[],1,[(0,cuO n f s1)],.p (.int .i64 a)⟩),none⟩)] 1,rm [(5,⟨true,(some ⟨[0],[1000],[],1,[(0,cuO n f s2)],.p (.int .i64 y)⟩),none⟩)] 4,rm [(1,⟨true,(some ⟨[0],[1000],[],1,[(0,cuO n f s3)],.p (.bool b)⟩),none⟩)] 4,.dec false,rm [(4,oc [(0,brOb k1 h1)] (grR N k1 0)),(3,oc [(0,brOb k2 h2)] (grR N k2 0))] 1,rg 3,.head] zf25 (SLm0 n f s N k h v) [0,1,2,996] 1 (SLm0 n f s3 N k2 h2 (v+1)) =
    some (zf25,[((decide ((↑v:Int)<(↑N:Int)))=true),(AE 1),Con Try.prog 58 1 (zf75 n f s) [.pt 3 0 0 0,.p (.int .i64 (↑v:Int))] (zf75 n f s1) (.p (.int .i64 a)),(ZLo (a+1)),(ZHi (a+1)),(ZLo ((↑v:Int) - 1)),(ZHi ((↑v:Int) - 1)),(AE 1),Con Try.prog 58 1 (zf75 n f s1) [.pt 3 0 0 0,.p (.int .i64 ((↑v:Int) - 1))] (zf75 n f s2) (.p (.int .i64 y)),(ZLo (a+1+y)),(ZHi (a+1+y)),(IL 0 (a+1+y)),(IT 0 (↑v:Int)),(AE 1),Con Try.prog 72 1 (zf75 n f s2) [.pt 3 0 0 0,.p (.int .i64 2)] (zf75 n f s3) (.p (.bool b)),(AG b),(AG b),((bif b then decide ((↑v:Int)>2) else false)=false),(NT 0 1),(AN 2),(NL k k),zE 71 [(zf80 N k h),.agg [.p (.int .i64 a),.p (.int .i64 (↑v:Int))]] (zf85 k1 h1) (.agg [.p (.int .i64 (↑N:Int)),.ar 2 0 0 k1]),(AN 2),(NL k1 k1),zE 71 [(zf80 N k1 h1),.agg [.p (.int .i64 ((a+1+y) % (↑v:Int))),.p (.int .i64 (↑v:Int))]] (zf85 k2 h2) (.agg [.p (.int .i64 (↑N:Int)),.ar 2 0 0 k2]),(NT 0 1),((true=true)→ (AN 1)),(ZLo ((↑v:Int)+1)),(ZHi ((↑v:Int)+1)),(AN 0),(AI ((↑N:Int))),(AN 0),(AN 0),((((↑v:Int)+1):Int)=(↑(v+1):Int)),(AN 3),(NL 1 1),(NL 1 1),(AN n),(AP n (fun i=>[.int .u8 (f i)])),(AI ((↑s3.1:Int))),(AI s3.2),(AN 2),(NL 1 1),(NL 1 1),(AI 0),(AN 2),(NL 1 1),(NL 1 1),(AI ((↑N:Int))),(AN 0),(AN k2),(AN 2),(NL k2 k2),(AA k2 (fun i=>[.p (.int .i64 ((h2 i).1)),.p (.int .i64 ((h2 i).2.1))]))]):=by kernel_rfl
theorem dlc (n:Nat) (f:Nat→Int) (s s1 s2 s3 s4:Nat×Int) (N:Nat) (k:Nat) (h:Nat→T_Bar) (v:Nat) (a y:Int) (e:Nat) :
    zM 1 [rg 3,.dec true,rm [(2,⟨true,(some ⟨[0],[1000],[],1,[(0,cuO n f s1)],.p (.int .i64 a)⟩),none⟩)] 1,rm [(5,⟨true,(some ⟨[0],[1000],[],1,[(0,cuO n f s2)],.p (.int .i64 y)⟩),none⟩)] 4,rm [(1,⟨true,(some ⟨[0],[1000],[],1,[(0,cuO n f s3)],.p (.bool true)⟩),none⟩)] 4,.dec true,rm [(4,⟨true,(some ⟨[0],[1000],[],1,[(0,cuO n f s4)],.p (.int .i64 e)⟩),none⟩)] 1,rg 7,rg 1,.head] zf25 (SLm0 n f s N k h v) [0,1,2,3,1092] 1 (SLm1 n f s4 N k h v e (h e) 0) =
    some (zf5,zD [((decide ((↑v:Int)<(↑N:Int)))=true),(AE 1),Con Try.prog 58 1 (zf75 n f s) [.pt 3 0 0 0,.p (.int .i64 (↑v:Int))] (zf75 n f s1) (.p (.int .i64 a)),(ZLo (a+1)),(ZHi (a+1)),(ZLo ((↑v:Int) - 1)),(ZHi ((↑v:Int) - 1)),Con Try.prog 58 1 (zf75 n f s1) [.pt 3 0 0 0,.p (.int .i64 ((↑v:Int) - 1))] (zf75 n f s2) (.p (.int .i64 y)),(ZLo (a+1+y)),(ZHi (a+1+y)),(IL 0 (a+1+y)),(IT 0 (↑v:Int)),Con Try.prog 72 1 (zf75 n f s2) [.pt 3 0 0 0,.p (.int .i64 2)] (zf75 n f s3) (.p (.bool true)),(AG true),((bif true then decide ((↑v:Int)>2) else false)=true),(NT 0 1),Con Try.prog 58 1 (zf75 n f s3) [.pt 3 0 0 0,.p (.int .i64 (↑k:Int))] (zf75 n f s4) (.p (.int .i64 (↑e:Int))),(IL 0 (↑e:Int)),(IT (↑e:Int) (↑k:Int)),(NT e k),((true=true)→ (AN 1)),(AN 0),(AI ((↑N:Int))),(AI ((↑v:Int))),(AI ((↑e:Int))),(AI 0),(AN 3),(NL 1 1),(AN n),(AP n (fun i=>[.int .u8 (f i)])),(AI ((↑s4.1:Int))),(AI s4.2),(AN 2),(AN k),(NL k k),(AA k (fun i=>[.p (.int .i64 ((h i).1)),.p (.int .i64 ((h i).2.1))])),((((List.map (fun v=>AV.p (absV v)) [Value.int IntKind.i64 0,Value.int IntKind.i64 0]).length):Nat)=2),(AI (((h e).1))),(AI (((h e).2.1)))] [0,1,2,3,4,5,6,1,7,8,9,10,11,1,12,13,13,14,15,1,16,15,17,18,19,15,20,21,22,21,21,23,24,21,25,26,27,27,28,29,30,31,32,27,27,25,32,27,27,22,21,33,32,34,35,36,27,27,37,38]):=by kernel_rfl
theorem dld (n:Nat) (f:Nat→Int) (s:Nat×Int) (N:Nat) (k:Nat) (h:Nat→T_Bar) (v:Nat) (e:Nat) (x:T_Bar) (w:Int) :
    zM 1 [rg 10,.dec true,rg 3,.head] zf5 (SLm1 n f s N k h v e x w) [0,1,2,3,4] 1 (SLm1 n f s N k h v e x (w+1)) =
    some (zf5,zD [(NT 0 1),(AG (!w==x.1)),(((!w==x.1)=true)→(NT 0 1)),(((w==x.1)=false)→ ((!w==x.1)=true)),((bif w==x.1 then true else w==x.2.1)=true),(ZLo (w+1)),(ZHi (w+1)),(AN 0),(AI ((↑N:Int))),(AI ((↑v:Int))),(AI ((↑e:Int))),(AI ((w+1))),(AN 3),(NL 1 1),(AN n),(AP n (fun i=>[.int .u8 (f i)])),(AI ((↑s.1:Int))),(AI s.2),(AN 2),(AI 0),(AN k),(NL k k),(AA k (fun i=>[.p (.int .i64 ((h i).1)),.p (.int .i64 ((h i).2.1))])),(AI x.1),(AI x.2.1)] [0,1,2,1,1,3,4,5,6,7,8,7,7,9,10,7,11,12,13,13,14,15,16,17,18,13,13,19,18,13,13,8,7,20,18,21,22,18,13,13,23,24]):=by kernel_rfl
theorem dlf (n:Nat) (f:Nat→Int) (s s1:Nat×Int) (N:Nat) (k:Nat) (h:Nat→T_Bar) (v:Nat) (e:Nat) (x:T_Bar) (w y:Int) (k0 k1 k2 k3:Nat) (h0 h1 h2 h3:Nat→T_Bar) (ok:Bool) :
    zM 1 [rg 10,.dec false,rm [(4,⟨true,(some ⟨[0],[1000],[],1,[(0,cuO n f s1)],.p (.int .i64 y)⟩),none⟩)] 1,rm [(2,oc [(0,brOb k0 h0)] (.tup [grR N k0 0,.p (.bool ok)]))] 4,rm [(5,oc [(0,brOb k1 h1)] (grR N k1 0)),(4,oc [(0,brOb k2 h2)] (grR N k2 0)),(3,oc [(0,brOb k3 h3)] (grR N k3 0))] 1,rg 3,.head] zf5 (SLm1 n f s N k h v e x w) [0,1,2,1189] 1 (SLm0 n f s1 N k3 h3 (v+1)) =
    some (zf25,zD [(NT 0 1),(AG (!w==x.1)),(((!w==x.1)=true)→(NT 0 1)),(((w==x.1)=false)→ ((!w==x.1)=true)),((bif w==x.1 then true else w==x.2.1)=false),(AE 1),Con Try.prog 118 1 (zf75 n f s) [.pt 3 0 0 0,.p (.int .i64 (↑v:Int)),.agg [.p (.int .i64 x.1),.p (.int .i64 x.2.1)],.p (.int .i64 w)] (zf75 n f s1) (.p (.int .i64 y)),(AN 2),(NL k k),zE 102 [(zf80 N k h),.p (.int .i64 (↑e:Int))] (zf85 k0 h0) (.tup [.agg [.p (.int .i64 (↑N:Int)),.ar 2 0 0 k0],.p (.bool ok)]),((true=true)→ (AN 1)),(NL k0 k0),zE 71 [(zf80 N k0 h0),.agg [.p (.int .i64 x.1),.p (.int .i64 (↑v:Int))]] (zf85 k1 h1) (.agg [.p (.int .i64 (↑N:Int)),.ar 2 0 0 k1]),(NL k1 k1),zE 71 [(zf80 N k1 h1),.agg [.p (.int .i64 x.2.1),.p (.int .i64 (↑v:Int))]] (zf85 k2 h2) (.agg [.p (.int .i64 (↑N:Int)),.ar 2 0 0 k2]),(NL k2 k2),zE 71 [(zf80 N k2 h2),.agg [.p (.int .i64 y),.p (.int .i64 (↑v:Int))]] (zf85 k3 h3) (.agg [.p (.int .i64 (↑N:Int)),.ar 2 0 0 k3]),(ZLo ((↑v:Int)+1)),(ZHi ((↑v:Int)+1)),(AN 0),(AI ((↑N:Int))),((((↑v:Int)+1):Int)=(↑(v+1):Int)),(AN 3),(NL 1 1),(AN n),(AP n (fun i=>[.int .u8 (f i)])),(AI ((↑s1.1:Int))),(AI s1.2),(AI 0),(AN k3),(NL k3 k3),(AA k3 (fun i=>[.p (.int .i64 ((h3 i).1)),.p (.int .i64 ((h3 i).2.1))]))] [0,1,2,1,1,3,4,0,5,6,0,7,8,9,0,10,0,0,7,11,12,0,7,13,14,7,15,16,0,10,17,18,19,20,19,19,21,22,23,23,24,25,26,27,7,23,23,28,7,23,23,20,19,29,7,30,31]):=by kernel_rfl
theorem dtt (n:Nat) (f:Nat→Int) (s s1:Nat×Int) (N:Nat) (x:T_Bar) (o w:Int) :
    zP Try.f118 1 [rg 2,rm [(2,⟨true,(some ⟨[0],[1000],[],1,[(0,cuO n f s1)],.p (.int .i64 w)⟩),none⟩)] 1,rg 10,.dec true,rg 2] [.code (bodyOf Try.f118)] (start Try.f118 [(0,cuO n f s)] 1 [.pt 3 0 0 0,.p (.int .i64 N),brA x,.p (.int .i64 o)]) [0] 1 [(0,cuO n f s1)] (.p (.int .i64 o)) =
    some [(AE 1),Con Try.prog 58 1 (zf75 n f s) [.pt 3 0 0 0,.p (.int .i64 (↑N:Int))] (zf75 n f s1) (.p (.int .i64 w)),(NT 0 1),(AG (!w==x.1)),(((!w==x.1)=true)→(NT 0 1)),(AG (!w==x.1)),(AG (!w==x.1)),(((w==x.1)=false)→ ((!w==x.1)=true)),((bif w==x.1 then true else w==x.2.1)=true),(AI o),(AN 3),(NL 1 1),(NL 1 1),(AN n),(AP n (fun i=>[.int .u8 (f i)])),(AI ((↑s1.1:Int))),(AI s1.2),(∀ i:Nat,(((i:Nat)<1)→All [(false=false),(AE n)]))]:=by kernel_rfl
theorem dtf (n:Nat) (f:Nat→Int) (s s1:Nat×Int) (N:Nat) (x:T_Bar) (o w:Int) :
    zP Try.f118 1 [rg 2,rm [(2,⟨true,(some ⟨[0],[1000],[],1,[(0,cuO n f s1)],.p (.int .i64 w)⟩),none⟩)] 1,rg 10,.dec false,rg 2] [.code (bodyOf Try.f118)] (start Try.f118 [(0,cuO n f s)] 1 [.pt 3 0 0 0,.p (.int .i64 N),brA x,.p (.int .i64 o)]) [0] 1 [(0,cuO n f s1)] (.p (.int .i64 w)) =
    some [(AE 1),Con Try.prog 58 1 (zf75 n f s) [.pt 3 0 0 0,.p (.int .i64 (↑N:Int))] (zf75 n f s1) (.p (.int .i64 w)),(NT 0 1),(AG (!w==x.1)),(((!w==x.1)=true)→(NT 0 1)),(AG (!w==x.1)),(AG (!w==x.1)),(((w==x.1)=false)→ ((!w==x.1)=true)),((bif w==x.1 then true else w==x.2.1)=false),(AI w),(AN 3),(NL 1 1),(NL 1 1),(AN n),(AP n (fun i=>[.int .u8 (f i)])),(AI ((↑s1.1:Int))),(AI s1.2),(∀ i:Nat,(((i:Nat)<1)→All [(false=false),(AE n)]))]:=by kernel_rfl
theorem dna (n:Nat) (f:Nat→Int) (s s1 s2 s3 s4 s5:Nat×Int) (N M:Int) (k m:Nat) (h r:Nat→T_Bar) (x y z t:Int) (ok:Bool) :
    zP Try.f75 1 [rg 1,rm [(1,⟨true,(some ⟨[0],[1000],[],1,[(0,cuO n f s1)],.p (.int .i64 x)⟩),none⟩)] 0,rg 2,.dec true,rm [(1,⟨true,(some ⟨[0],[1000],[],1,[(0,cuO n f s2),(1,brOb k h)],grR N k 1⟩),none⟩)] 1] [.code (bodyOf Try.f75)] (start Try.f75 [(0,cuO n f s)] 1 [.pt 3 0 0 0]) [0,193] 1 [(0,cuO n f s2),(1,brOb k h)] (grR N k 1) =
    some [(AE 1),Con Try.prog 58 1 (zf75 n f s) [.pt 3 0 0 0,.p (.int .i64 4)] (zf75 n f s1) (.p (.int .i64 x)),((x==0)=true),(AE 1),Con Try.prog 100 1 (zf75 n f s1) [.pt 3 0 0 0] (zf17 n f s2 k h) (.agg [.p (.int .i64 N),.ar 2 1 0 k]),(NT 0 1),((true=true)→ (AN 1)),(NT 0 1),(AI N),(AN 0),(AN k),(AN 3),(NL 1 1),(NL 1 1),(AN n),(AP n (fun i=>[.int .u8 (f i)])),(AI ((↑s2.1:Int))),(AI s2.2),(AN 2),(NL k k),(AA k (fun i=>[.p (.int .i64 ((h i).1)),.p (.int .i64 ((h i).2.1))])),(∀ i:Nat,(((i:Nat)<1)→All [(false=false),(AE n)])),(AE k)]:=by kernel_rfl
theorem dnb (n:Nat) (f:Nat→Int) (s s1 s2 s3 s4 s5:Nat×Int) (N M:Int) (k m:Nat) (h r:Nat→T_Bar) (x y z t:Int) (ok:Bool) :
    zP Try.f75 1 [rg 1,rm [(1,⟨true,(some ⟨[0],[1000],[],1,[(0,cuO n f s1)],.p (.int .i64 x)⟩),none⟩)] 0,rg 2,.dec false,rg 2,.dec true,rm [(2,⟨true,(some ⟨[0],[1000],[],1,[(0,cuO n f s2)],.p (.int .i64 y)⟩),none⟩),(1,⟨true,(some ⟨[0],[1000],[],1,[(0,cuO n f s3),(1,brOb k h)],grR N k 1⟩),none⟩)] 2,rm [(5,⟨true,(some ⟨[0],[1000],[],1,[(0,cuO n f s4)],.p (.int .i64 z)⟩),none⟩),(0,oc [(0,brOb m r)] (.tup [grR M m 0,.p (.bool ok)]))] 6,rg 2] [.code (bodyOf Try.f75)] (start Try.f75 [(0,cuO n f s)] 1 [.pt 3 0 0 0]) [0,641] 1 [(0,cuO n f s4),(1,brOb m r)] (grR M m 1) =
    some (zD [(AE 1),Con Try.prog 58 1 (zf75 n f s) [.pt 3 0 0 0,.p (.int .i64 4)] (zf75 n f s1) (.p (.int .i64 x)),((x==0)=false),((x==1)=true),Con Try.prog 58 1 (zf75 n f s1) [.pt 3 0 0 0,.p (.int .i64 5)] (zf75 n f s2) (.p (.int .i64 y)),(ZLo (2+y)),(ZHi (2+y)),Con Try.prog 101 1 (zf75 n f s2) [.pt 3 0 0 0,.p (.int .i64 (2+y))] (zf17 n f s3 k h) (.agg [.p (.int .i64 N),.ar 2 1 0 k]),(NT 0 1),((true=true)→ (AN 1)),Con Try.prog 58 1 (zf75 n f s3) [.pt 3 0 0 0,.p (.int .i64 (↑k:Int))] (zf75 n f s4) (.p (.int .i64 z)),(AN 2),(NL k k),zE 102 [(zf83 N k h),.p (.int .i64 z)] (zf85 m r) (.tup [.agg [.p (.int .i64 M),.ar 2 0 0 m],.p (.bool ok)]),(AI M),(AN 0),(AN m),(AN 3),(NL 1 1),(AN n),(AP n (fun i=>[.int .u8 (f i)])),(AI ((↑s4.1:Int))),(AI s4.2),(NL m m),(AA m (fun i=>[.p (.int .i64 ((r i).1)),.p (.int .i64 ((r i).2.1))])),(∀ i:Nat,(((i:Nat)<1)→All [(false=false),(AE n)])),(AE m)] [0,1,2,3,0,4,5,6,0,7,8,9,8,8,0,10,11,12,13,8,9,8,8,9,8,14,15,16,17,18,18,19,20,21,22,11,23,24,25,26]):=by kernel_rfl
theorem dnc (n:Nat) (f:Nat→Int) (s s1 s2 s3 s4 s5:Nat×Int) (N M:Int) (k m:Nat) (h r:Nat→T_Bar) (x y z t:Int) (ok:Bool) :
    zP Try.f75 1 [rg 1,rm [(1,⟨true,(some ⟨[0],[1000],[],1,[(0,cuO n f s1)],.p (.int .i64 x)⟩),none⟩)] 0,rg 2,.dec false,rg 2,.dec false,rg 2,.dec true,rm [(2,⟨true,(some ⟨[0],[1000],[],1,[(0,cuO n f s2)],.p (.int .i64 y)⟩),none⟩),(1,⟨true,(some ⟨[0],[1000],[],1,[(0,cuO n f s3),(1,brOb k h)],grR N k 1⟩),none⟩)] 2,rm [(3,⟨true,(some ⟨[0],[1000],[],1,[(0,cuO n f s4)],.p (.int .i64 z)⟩),none⟩)] 1,rm [(3,⟨true,(some ⟨[0],[1000],[],1,[(0,cuO n f s5)],.p (.int .i64 t)⟩),none⟩)] 1,rm [(3,oc [(0,brOb m r)] (.tup [grR M m 0,.p (.bool ok)]))] 6,rg 2] [.code (bodyOf Try.f75)] (start Try.f75 [(0,cuO n f s)] 1 [.pt 3 0 0 0]) [0,929] 1 [(0,cuO n f s5),(1,brOb m r)] (grR M m 1) =
    some (zD [(AE 1),Con Try.prog 58 1 (zf75 n f s) [.pt 3 0 0 0,.p (.int .i64 4)] (zf75 n f s1) (.p (.int .i64 x)),((x==0)=false),((x==1)=false),((x==2)=true),Con Try.prog 58 1 (zf75 n f s1) [.pt 3 0 0 0,.p (.int .i64 5)] (zf75 n f s2) (.p (.int .i64 y)),(ZLo (2+y)),(ZHi (2+y)),Con Try.prog 101 1 (zf75 n f s2) [.pt 3 0 0 0,.p (.int .i64 (2+y))] (zf17 n f s3 k h) (.agg [.p (.int .i64 N),.ar 2 1 0 k]),(NT 0 1),((true=true)→ (AN 1)),Con Try.prog 58 1 (zf75 n f s3) [.pt 3 0 0 0,.p (.int .i64 N)] (zf75 n f s4) (.p (.int .i64 z)),Con Try.prog 58 1 (zf75 n f s4) [.pt 3 0 0 0,.p (.int .i64 N)] (zf75 n f s5) (.p (.int .i64 t)),(AN 2),(NL k k),zE 103 [(zf83 N k h),.p (.int .i64 z),.p (.int .i64 t)] (zf85 m r) (.tup [.agg [.p (.int .i64 M),.ar 2 0 0 m],.p (.bool ok)]),(AI M),(AN 0),(AN m),(AN 3),(NL 1 1),(AN n),(AP n (fun i=>[.int .u8 (f i)])),(AI ((↑s5.1:Int))),(AI s5.2),(NL m m),(AA m (fun i=>[.p (.int .i64 ((r i).1)),.p (.int .i64 ((r i).2.1))])),(∀ i:Nat,(((i:Nat)<1)→All [(false=false),(AE n)])),(AE m)] [0,1,2,3,4,0,5,6,7,0,8,9,10,9,0,11,9,0,12,9,13,14,15,9,10,9,9,10,9,16,17,18,19,20,20,21,22,23,24,13,25,26,27,28]):=by kernel_rfl
theorem dnd (n:Nat) (f:Nat→Int) (s s1 s2 s3 s4 s5:Nat×Int) (N M:Int) (k m:Nat) (h r:Nat→T_Bar) (x y z t:Int) (ok:Bool) :
    zP Try.f75 1 [rg 1,rm [(1,⟨true,(some ⟨[0],[1000],[],1,[(0,cuO n f s1)],.p (.int .i64 x)⟩),none⟩)] 0,rg 2,.dec false,rg 2,.dec false,rg 2,.dec false,rm [(2,⟨true,(some ⟨[0],[1000],[],1,[(0,cuO n f s2)],.p (.int .i64 y)⟩),none⟩),(1,⟨true,(some ⟨[0],[1000],[],1,[(0,cuO n f s3),(1,brOb k h)],grR N k 1⟩),none⟩)] 1] [.code (bodyOf Try.f75)] (start Try.f75 [(0,cuO n f s)] 1 [.pt 3 0 0 0]) [0,417] 1 [(0,cuO n f s3),(1,brOb k h)] (grR N k 1) =
    some [(AE 1),Con Try.prog 58 1 (zf75 n f s) [.pt 3 0 0 0,.p (.int .i64 4)] (zf75 n f s1) (.p (.int .i64 x)),((x==0)=false),((x==1)=false),((x==2)=false),(AE 1),Con Try.prog 58 1 (zf75 n f s1) [.pt 3 0 0 0,.p (.int .i64 6)] (zf75 n f s2) (.p (.int .i64 y)),(ZLo (1+y)),(ZHi (1+y)),(AE 1),Con Try.prog 101 1 (zf75 n f s2) [.pt 3 0 0 0,.p (.int .i64 (1+y))] (zf17 n f s3 k h) (.agg [.p (.int .i64 N),.ar 2 1 0 k]),(NT 0 1),((true=true)→ (AN 1)),(NT 0 1),(AI N),(AN 0),(AN k),(AN 3),(NL 1 1),(NL 1 1),(AN n),(AP n (fun i=>[.int .u8 (f i)])),(AI ((↑s3.1:Int))),(AI s3.2),(AN 2),(NL k k),(AA k (fun i=>[.p (.int .i64 ((h i).1)),.p (.int .i64 ((h i).2.1))])),(∀ i:Nat,(((i:Nat)<1)→All [(false=false),(AE n)])),(AE k)]:=by kernel_rfl
theorem dfC (n:Nat) (f:Nat→Int) (s s1 s2 s3 s4:Nat×Int) (N:Int) (k:Nat) (h:Nat→T_Bar) (x y z:Int) :
    zS Try.f27 [rg 1,rm [(1,⟨true,(some ⟨[],[0],[],1,[(0,cuO n f s)],.pt 3 0 0 0⟩),none⟩),(0,⟨true,(some ⟨[64],[0],[],1,[(0,cuO n f s1),(1,brOb k h)],grR N k 1⟩),none⟩)] 1] [cdA n f] [96] [(0,brOb k h)] (grR N k 0) =
    some [zE 56 [.p (.seq false 1 n (fun i=>[.int .u8 (f i)]))] (zf75 n f s) (.pt 3 0 0 0),(AE 1),Con Try.prog 75 1 (zf75 n f s) [.pt 3 0 0 0] (zf17 n f s1 k h) (.agg [.p (.int .i64 N),.ar 2 1 0 k]),(NT 0 1),((true=true)→ (AN 1)),(NT 0 1),(AI N),(AN 0),(AN k),(AN 2),(NL k k),(AA k (fun i=>[.p (.int .i64 ((h i).1)),.p (.int .i64 ((h i).2.1))])),(AE k)]:=by kernel_rfl
theorem dfB (n:Nat) (f:Nat→Int) (s s1 s2 s3 s4:Nat×Int) (N:Int) (k:Nat) (h:Nat→T_Bar) (x y z:Int) :
    zS Try.f42 [rg 2,rm [(1,⟨true,(some ⟨[],[0],[],1,[(0,cuO n f s)],.pt 3 0 0 0⟩),none⟩)] 1,rm [(1,⟨true,(some ⟨[96],[0],[],1,[(0,cuO n f s1),(1,brOb k h)],grR N k 1⟩),none⟩)] 2,rm [(6,⟨true,(some ⟨[96],[0],[],1,[(0,cuO n f s2)],.p (.int .i64 x)⟩),none⟩)] 3] [cdA n f] [192] [(0,brOb k h)] (.tup [grR N k 0,.p (.int .i64 (x - 1))]) =
    some [zE 56 [.p (.seq false 1 n (fun i=>[.int .u8 (f i)]))] (zf75 n f s) (.pt 3 0 0 0),(AE 1),Con Try.prog 75 1 (zf75 n f s) [.pt 3 0 0 0] (zf17 n f s1 k h) (.agg [.p (.int .i64 N),.ar 2 1 0 k]),(NT 0 1),((true=true)→ (AN 1)),(NT 0 1),(NT 0 1),(ZLo ((↑k:Int)+2)),(ZHi ((↑k:Int)+2)),(AE 1),Con Try.prog 58 1 (zf75 n f s1) [.pt 3 0 0 0,.p (.int .i64 ((↑k:Int)+2))] (zf75 n f s2) (.p (.int .i64 x)),(ZLo (x - 1)),(ZHi (x - 1)),(NT 0 1),((true=true)→ (AN 1)),(NT 0 1),(AI N),(AN 0),(AN k),(AI ((x - 1))),(AN 2),(NL k k),(AA k (fun i=>[.p (.int .i64 ((h i).1)),.p (.int .i64 ((h i).2.1))])),(AE k)]:=by kernel_rfl
theorem dfP (n:Nat) (f:Nat→Int) (s s1 s2 s3 s4:Nat×Int) (N:Int) (k:Nat) (h:Nat→T_Bar) (x y z:Int) :
    zS Try.f86 [rg 3,rm [(1,⟨true,(some ⟨[],[0],[],1,[(0,cuO n f s)],.pt 3 0 0 0⟩),none⟩)] 1,rm [(1,⟨true,(some ⟨[128],[0],[],1,[(0,cuO n f s1),(1,brOb k h)],grR N k 1⟩),none⟩)] 2,rm [(1,⟨true,(some ⟨[128],[0],[],1,[(0,cuO n f s2)],.p (.int .i64 x)⟩),none⟩),(1,⟨true,(some ⟨[128],[0],[],1,[(0,cuO n f s3)],.p (.int .i64 y)⟩),none⟩)] 2,rm [(3,⟨true,(some ⟨[128],[0],[],1,[(0,cuO n f s4)],.p (.int .i64 z)⟩),none⟩)] 3] [cdA n f] [224] [(0,brOb k h)] (.tup [grR N k 0,.p (.int .i64 (x - y)),.p (.int .i64 z)]) =
    some [zE 56 [.p (.seq false 1 n (fun i=>[.int .u8 (f i)]))] (zf75 n f s) (.pt 3 0 0 0),(AE 1),Con Try.prog 100 1 (zf75 n f s) [.pt 3 0 0 0] (zf17 n f s1 k h) (.agg [.p (.int .i64 N),.ar 2 1 0 k]),(NT 0 1),((true=true)→ (AN 1)),(AE 1),Con Try.prog 58 1 (zf75 n f s1) [.pt 3 0 0 0,.p (.int .i64 8)] (zf75 n f s2) (.p (.int .i64 x)),(AE 1),Con Try.prog 58 1 (zf75 n f s2) [.pt 3 0 0 0,.p (.int .i64 2)] (zf75 n f s3) (.p (.int .i64 y)),(ZLo (x - y)),(ZHi (x - y)),(NT 0 1),(AE 1),Con Try.prog 58 1 (zf75 n f s3) [.pt 3 0 0 0,.p (.int .i64 7)] (zf75 n f s4) (.p (.int .i64 z)),(NT 0 1),((true=true)→ (AN 1)),(NT 0 1),(AI N),(AN 0),(AN k),(AI ((x - y))),(AI z),(AN 2),(NL k k),(AA k (fun i=>[.p (.int .i64 ((h i).1)),.p (.int .i64 ((h i).2.1))])),(AE k)]:=by kernel_rfl
theorem dfI (n:Nat) (f:Nat→Int) (s s1 s2 s3 s4:Nat×Int) (N:Int) (k:Nat) (h:Nat→T_Bar) (x y z:Int) :
    zS Try.f43 [rg 3,rm [(1,oc [(0,brOb k h)] (.tup [grR N k 0,.p (.int .i64 x),.p (.int .i64 y)]))] 8,rg 6] [cdA n f] [128] [(0,brOb k h)] (.tup [grR N k 0,.p (.int .i64 x),.p (.int .i64 y)]) =
    some (zD [zE 86 [.p (.seq true 1 n (fun i=>[.int .u8 (f i)]))] (zf85 k h) (.tup [.agg [.p (.int .i64 N),.ar 2 0 0 k],.p (.int .i64 x),.p (.int .i64 y)]),(NT 0 1),((true=true)→ (AN 1)),(AI N),(AN 0),(AN k),(AI x),(AI y),(AN 2),(NL k k),(AA k (fun i=>[.p (.int .i64 ((h i).1)),.p (.int .i64 ((h i).2.1))])),(AE k)] [0,1,2,1,1,2,1,3,4,5,6,7,8,9,10,11]):=by kernel_rfl
theorem rmT (v:T_Graph) (e:Nat) :
    zS Try.f102 [rg 3,rm [(1,oc [] (.p (.bool true)))] 12,.dec false,rg 17] [graphA v,.p (.int .i64 e)] [960] [(0,brOb (v.2.1.1 - 1) (dlX v.2.1.2 e))] (.tup [grR v.1 (v.2.1.1 - 1) 0,.p (.bool true)]) =
    some (zD [(NT 0 1),zE 38 [(zf77 v)] [] (.p (.bool true)),(AG (!!true)),(((!true)=false)→ ((!!true)=true)),(AG (!bif !true then true else decide ((↑e:Int)<0))),(((!bif !true then true else decide ((↑e:Int)<0))=true)→(NT 0 1)),(((bif !true then true else decide ((↑e:Int)<0))=false)→ ((!bif !true then true else decide ((↑e:Int)<0))=true)),((bif bif !true then true else decide ((↑e:Int)<0) then true else decide ((↑e:Int)≥(↑v.2.1.1:Int)))=false),(IL 0 0),(IL 0 (↑e:Int)),(IL (↑e:Int) (↑v.2.1.1:Int)),(NL 0 0),(NL ((0+e)*16) 140737488355328),(NL (0+e) 9223372036854775807),(ZLo ((↑e:Int)+1)),(ZHi ((↑e:Int)+1)),(IL 0 ((↑e:Int)+1)),(IL ((↑e:Int)+1) (↑v.2.1.1:Int)),(IL (↑v.2.1.1:Int) (↑v.2.1.1:Int)),(NL (0+e) (0+e)),(NL ((0+e+(v.2.1.1 - (e+1)))*16) 140737488355328),(NL (0+e+(v.2.1.1 - (e+1))) 9223372036854775807),((true=true)→ (AN 1)),(AI v.1),(AN 0),(((0+e+(v.2.1.1 - (e+1))):Nat)=(v.2.1.1 - 1)),(true=true),(AN 2),(NL (v.2.1.1 - 1) (0+e+(v.2.1.1 - (e+1)))),(∀ i:Nat,(((i:Nat)<(v.2.1.1 - 1))→(All (cvtL false [(32,⟨true,2,1,(fun i_1=>[.p (.int .i64 v.1),.ar 2 960 0 (0+e+(v.2.1.1 - (e+1)))])⟩),(960,⟨false,2,(0+e+(v.2.1.1 - (e+1))),(fun i_1=>(if (i_1<0+e) then [.p (.int .i64 ((v.2.1.2 i_1).1)),.p (.int .i64 ((v.2.1.2 i_1).2.1))] else [.p (.int .i64 ((v.2.1.2 (i_1 - (0+e)+(e+1))).1)),.p (.int .i64 ((v.2.1.2 (i_1 - (0+e)+(e+1))).2.1))]))⟩),(0,⟨true,2,1,(fun i_1=>[.p (.int .i64 v.1),.p (.seq true 2 v.2.1.1 (bRw v.2.1.2))])⟩)] [960] 1 (if (i<0+e) then [.p (.int .i64 ((v.2.1.2 i).1)),.p (.int .i64 ((v.2.1.2 i).2.1))] else [.p (.int .i64 ((v.2.1.2 (i - (0+e)+(e+1))).1)),.p (.int .i64 ((v.2.1.2 (i - (0+e)+(e+1))).2.1))])).2∧(((cvtL false [(32,⟨true,2,1,(fun i_1=>[.p (.int .i64 v.1),.ar 2 960 0 (0+e+(v.2.1.1 - (e+1)))])⟩),(960,⟨false,2,(0+e+(v.2.1.1 - (e+1))),(fun i_1=>(if (i_1<0+e) then [.p (.int .i64 ((v.2.1.2 i_1).1)),.p (.int .i64 ((v.2.1.2 i_1).2.1))] else [.p (.int .i64 ((v.2.1.2 (i_1 - (0+e)+(e+1))).1)),.p (.int .i64 ((v.2.1.2 (i_1 - (0+e)+(e+1))).2.1))]))⟩),(0,⟨true,2,1,(fun i_1=>[.p (.int .i64 v.1),.p (.seq true 2 v.2.1.1 (bRw v.2.1.2))])⟩)] [960] 1 (if (i<0+e) then [.p (.int .i64 ((v.2.1.2 i).1)),.p (.int .i64 ((v.2.1.2 i).2.1))] else [.p (.int .i64 ((v.2.1.2 (i - (0+e)+(e+1))).1)),.p (.int .i64 ((v.2.1.2 (i - (0+e)+(e+1))).2.1))])).1:List AV)=[.p (.int .i64 ((dlX v.2.1.2 e i).1)),.p (.int .i64 ((dlX v.2.1.2 e i).2.1))])))),(AE ((v.2.1.1 - 1)))] [0,1,2,3,4,5,4,4,4,6,7,0,0,8,9,10,11,12,13,0,14,15,16,17,18,19,20,21,0,22,0,23,24,25,26,27,28,29,30]):=by kernel_rfl
theorem rmF (v:T_Graph) (e:Int) (b:Bool) :
    zS Try.f102 [rg 3,rm [(1,oc [] (.p (.bool b)))] 12,.dec true,rm [(1,oc [(0,brOb v.2.1.1 v.2.1.2)] (grR v.1 v.2.1.1 0))] 2] [graphA v,.p (.int .i64 e)] [576] [(0,brOb v.2.1.1 v.2.1.2)] (.tup [grR v.1 v.2.1.1 0,.p (.bool false)]) =
    some (zD [(NT 0 1),zE 38 [(zf77 v)] [] (.p (.bool b)),(AG (!!b)),(((!b)=false)→ ((!!b)=true)),(AG (!bif !b then true else decide (e<0))),(((!bif !b then true else decide (e<0))=true)→(NT 0 1)),(((bif !b then true else decide (e<0))=false)→ ((!bif !b then true else decide (e<0))=true)),((bif bif !b then true else decide (e<0) then true else decide (e≥(↑v.2.1.1:Int)))=true),zE 119 [(zf77 v)] (zf81 v) (.agg [.p (.int .i64 v.1),.ar 2 0 0 v.2.1.1]),((true=true)→ (AN 1)),(AI v.1),(AN 0),(AN v.2.1.1),(false=false),(AN 2),(NL v.2.1.1 v.2.1.1),(AA v.2.1.1 (fun i=>[.p (.int .i64 ((v.2.1.2 i).1)),.p (.int .i64 ((v.2.1.2 i).2.1))])),(AE v.2.1.1)] [0,1,2,3,4,5,4,4,4,6,7,0,8,0,9,0,10,11,12,13,14,15,16,17]):=by kernel_rfl
theorem dl_row (h:Nat→T_Bar) (e t:Nat):(if t<0+e then [AV.p (.int .i64 (h t).1),.p (.int .i64 (h t).2.1)] else [.p (.int .i64 (h (t - (0+e)+(e+1))).1),.p (.int .i64 (h (t - (0+e)+(e+1))).2.1)])=[.p (.int .i64 (dlX h e t).1),.p (.int .i64 (dlX h e t).2.1)]:=by
  by_cases h1:t<e
  · rw [if_pos (show t<0+e by omega)];simp [dlX,h1]
  · rw [if_neg (show ¬ t<0+e by omega),show t - (0+e)+(e+1)=t+1 by omega];simp [dlX,h1]
theorem con_Rmv (v:T_Graph) (hn:v.2.1.1≤1048576) (e:Int):∃ (m:Nat) (h:Nat→T_Bar) (ok:Bool),m≤v.2.1.1∧v.2.1.1≤m+1 ∧
    zE 102 [graphA v,.p (.int .i64 e)] [(0,brOb m h)] (.tup [grR v.1 m 0,.p (.bool ok)]):=by
  have c1:=con_IsGraph_s v (sm_graph hn)
  have c2:=con_l2Copy v hn
  by_cases hv:isGraphF v=true∧0≤e∧e<v.2.1.1
  · obtain ⟨hg,h0,h1⟩:=hv
    obtain ⟨e,rfl⟩:∃ t:Nat,e=(t:Int):=⟨e.toNat,by omega⟩
    have he:e<v.2.1.1:=by omega
    rw [hg] at c1
    have hd:(bif bif !true then true else decide ((e:Int)<0) then true else decide ((e:Int)≥(v.2.1.1:Int)))=false:=by
      rw [decide_eq_false (show ¬ ((e:Int)<0) by omega),decide_eq_false (show ¬ ((e:Int)≥(v.2.1.1:Int)) by omega)];rfl
    refine ⟨v.2.1.1 - 1,dlX v.2.1.2 e,true,by omega,by omega,?_⟩
    refine csZ Try.func102 (fun c hc=>?_)
    refine pkD Try.func102 hc (rmT v e) ?_
    and_intros
    all_goals (first | exact zH | (exact c1) | (exact hd) | (intro t ht;rw [dl_row];simp [cvtL,cvt,tg,tru,All];done) | (simp;done) | (simp;omega))
  · have hd:(bif bif !isGraphF v then true else decide (e<0) then true else decide (e≥(v.2.1.1:Int)))=true:=by
      cases hg:isGraphF v with
      | false=>rfl
      | true =>
        by_cases h1:e<0
        · rw [decide_eq_true h1];rfl
        · by_cases h2:e<v.2.1.1
          · exact absurd ⟨hg,by omega,h2⟩ hv
          · rw [decide_eq_true (show e≥(v.2.1.1:Int) by omega)];cases decide (e<0)<;>rfl
    refine ⟨v.2.1.1,v.2.1.2,false,Nat.le_refl _,by omega,?_⟩
    refine csZ Try.func102 (fun c hc=>?_)
    refine pkD Try.func102 hc (rmF v e (isGraphF v)) ?_
    and_intros
    all_goals (first | exact zH | (exact c1) | (exact c2) | (exact hd) | (intros;simp [All];done) | (simp;done) | (simp;omega))
theorem con_l2Simple (n:Nat) (f:Nat→Int) (hn:CdOk n f) (s:Nat×Int) (hs:s.1≤n) (N:Nat) (odd:Int) (hN:N≤100):∃ (s2:Nat×Int) (k:Nat) (h:Nat→T_Bar),s2.1≤n∧k≤24 ∧
    Con Try.prog 145 1 [(0,cuO n f s)] [.pt 3 0 0 0,.p (.int .i64 N),.p (.int .i64 odd)] [(0,cuO n f s2),(1,brOb k h)] (grR N k 1):=by
  have lo:∀ e a,a+e=N→∀ (s:Nat×Int) (k:Nat) (h:Nat→T_Bar),s.1≤n→k≤24→∃ (s2:Nat×Int) (k2:Nat) (h2:Nat→T_Bar),s2.1≤n∧k2≤24 ∧
      ∀ c:Cx,c.n=1→zR c 145 zf48 (SSm0 n f s N odd k h a) (Post c [(0,cuO n f s2),(1,brOb k2 h2)] (grR N k2 1)):=by
    intro e
    induction e with
    | zero =>
      intro a ha s k h hs hk
      have hd:decide ((a:Int)<(N:Int))=false:=decide_eq_false (by omega)
      refine ⟨s,k,h,hs,hk,fun c hc=>?_⟩
      refine pkZ Try.func145 hc (dse n f s N odd k h a) ?_
      and_intros
      iterate 2 all_goals (first | exact zI | (exact hd) | (intros;simp [All];done) | (simp;done) | (simp;omega) | simp only [All])
    | succ e ih =>
      intro a ha s k h hs hk
      have li:∀ e b,b+e=N→∀ (s:Nat×Int) (k:Nat) (h:Nat→T_Bar),s.1≤n→k≤24→∃ (s2:Nat×Int) (k2:Nat) (h2:Nat→T_Bar),s2.1≤n∧k2≤24 ∧
          ∀ c:Cx,c.n=1→zR c 145 zf14 (SSm1 n f s N odd k h a b) (Post c [(0,cuO n f s2),(1,brOb k2 h2)] (grR N k2 1)):=by
        intro e
        induction e with
        | zero =>
          intro b hb s k h hs hk
          have hd:decide ((b:Int)<(N:Int))=false:=decide_eq_false (by omega)
          obtain ⟨s2,k2,h2,i1,i2,hr⟩:=ih (a+1) (by omega) s k h hs hk
          refine ⟨s2,k2,h2,i1,i2,fun c hc=>?_⟩
          refine pcD hc (dsd n f s N odd k h a b) ?_ (hr c hc)
          and_intros
          all_goals (first | exact zN | (exact hd) | (intros;simp [All];done) | (simp;done) | (simp;omega))
        | succ e ih2 =>
          intro b hb s k h hs hk
          have hd:decide ((b:Int)<(N:Int))=true:=decide_eq_true (by omega)
          obtain ⟨s1,x,h1,hx,cb⟩:=con_l1Below n f hn s hs 10 (by omega)
          cases ht:(bif decide (x<odd) then decide ((k:Int)<24) else false) with
          | true =>
            have hk2:k<24:=by
              cases hq:decide (x<odd) with
              | false=>rw [hq] at ht;cases ht
              | true=>rw [hq,cond_true,decide_eq_true_eq] at ht;omega
            obtain ⟨s2,k2,h2,i1,i2,hr⟩:=ih2 (b+1) (by omega) s1 (k+1) (snoc k h (a,b,())) h1 (by omega)
            refine ⟨s2,k2,h2,i1,i2,fun c hc=>?_⟩
            refine pcD hc (dsb n f s s1 N odd k h a b x) ?_ (hr c hc)
            and_intros
            all_goals (first | exact zI | (exact hd) | (exact ht) | (exact cb) | (intros;simp [All];done) | (simp;done) | (simp;omega) | (intro i hi;rcases (show i<k∨i=k by omega) with h' | h'<;>simp [h',snoc,cvtL,cvt,tg,tru,All]))
          | false =>
            obtain ⟨s2,k2,h2,i1,i2,hr⟩:=ih2 (b+1) (by omega) s1 k h h1 hk
            refine ⟨s2,k2,h2,i1,i2,fun c hc=>?_⟩
            refine pcD hc (dsc n f s s1 N odd k h a b x) ?_ (hr c hc)
            and_intros
            all_goals (first | exact zI | (exact hd) | (exact ht) | (exact cb) | (intros;simp [All];done) | (simp;done) | (simp;omega))
      have hd:decide ((a:Int)<(N:Int))=true:=decide_eq_true (by omega)
      obtain ⟨s2,k2,h2,i1,i2,hr⟩:=li e (a+1) (by omega) s k h hs hk
      refine ⟨s2,k2,h2,i1,i2,fun c hc=>?_⟩
      refine pcD hc (dsa n f s N odd k h a) ?_ (hr c hc)
      and_intros
      all_goals (first | exact zN | (exact hd) | (intros;simp [All];done) | (simp;done) | (simp;omega))
  obtain ⟨s2,k,h,i1,i2,hr⟩:=lo N 0 (by omega) s 0 (fun _=>(0,0,())) hs (by omega)
  refine ⟨s2,k,h,i1,i2,?_⟩
  refine csZ Try.func145 (fun c hc=>?_)
  refine pcD hc (dsz n f s N odd) ?_ (hr c hc)
  and_intros
  all_goals (first | exact zI | (intro i hi;exact absurd hi (Nat.not_lt_zero _)) | (intros;simp [All];done) | (simp;done) | (simp;omega))
theorem con_l2Graph (n:Nat) (f:Nat→Int) (hn:CdOk n f) (s:Nat×Int) (hs:s.1≤n):∃ (s2:Nat×Int) (N:Int) (k:Nat) (h:Nat→T_Bar),s2.1≤n∧(2≤N∧N≤6)∧k≤24 ∧
    Con Try.prog 117 1 [(0,cuO n f s)] [.pt 3 0 0 0] [(0,cuO n f s2),(1,brOb k h)] (grR N k 1):=by
  have lo:∀ q,q≤2→∀ (s:Nat×Int) (N:Int) (k:Nat) (h:Nat→T_Bar),s.1≤n→(2≤N∧N≤6)→k≤24→∃ (s2:Nat×Int) (k2:Nat) (h2:Nat→T_Bar),s2.1≤n∧k2≤24 ∧
      ∀ c:Cx,c.n=1→zR c 117 zf49 (SGr n f s N k h q) (Post c [(0,cuO n f s2),(1,brOb k2 h2)] (grR N k2 1)):=by
    intro q
    induction q with
    | zero =>
      intro _ s N k h hs hN hk
      refine ⟨s,k,h,hs,hk,fun c hc=>?_⟩
      refine pkZ Try.func117 hc (dqe n f s N k h) ?_
      and_intros
      iterate 2 all_goals (first | exact zI | (intros;simp [All];done) | (simp;done) | (simp;omega) | simp only [All])
    | succ q ih =>
      intro hq s N k h hs hN hk
      have hd:decide (((q+1:Nat):Int)>0)=true:=decide_eq_true (by omega)
      obtain ⟨s1,a,h1,ha,c1⟩:=con_l1Below n f hn s hs N (by omega)
      obtain ⟨s2,b,h2,hb,c2⟩:=con_l1Below n f hn s1 h1 N (by omega)
      have c3:=con_AddBar_s (N,(k,h),()) (sm_graph (by show k≤_;omega)) a b
      have hk2:=abG_n (N,(k,h),()) a b
      have hM:(abG (N,(k,h),()) a b).1=N:=by unfold abG;split<;>rfl
      rw [hM] at c3
      have hk3:(abG (N,(k,h),()) a b).2.1.1≤24:=by
        rcases hk2 with e | e
        · have e':(abG (N,(k,h),()) a b).2.1.1≤k:=e
          omega
        · exact e
      generalize (abG (N,(k,h),()) a b).2.1.1=m at c3 hk3
      generalize (abG (N,(k,h),()) a b).2.1.2=r at c3
      generalize abB (N,(k,h),()) a b=ok at c3
      obtain ⟨s3,k3,h3,i1,i2,hr⟩:=ih (by omega) s2 N m r h2 hN hk3
      refine ⟨s3,k3,h3,i1,i2,fun c hc=>?_⟩
      refine pcD hc (dqa n f s s1 s2 N k h q a b N m r ok) ?_ (hr c hc)
      and_intros
      all_goals (first | exact zI | (exact hd) | (exact c1) | (exact c2) | (exact c3) | (intros;simp [All];done) | (simp;done) | (simp;omega))
  obtain ⟨s1,x,h1,hx,c1⟩:=con_l1Below n f hn s hs 5 (by omega)
  obtain ⟨s2,y,h2,hy,c2⟩:=con_l1Below n f hn s1 h1 4 (by omega)
  have hx2:=hx.2.1 (by omega)
  obtain ⟨x,rfl⟩:∃ t:Nat,x=(t:Int):=⟨x.toNat,by omega⟩
  obtain ⟨s3,k,h,h3,hk,c3⟩:=con_l2Simple n f hn s2 h2 (2+x) (5+y) (by omega)
  rw [show ((2+x:Nat):Int)=2+(x:Int) by omega] at c3
  obtain ⟨s4,z,h4,hz,c4⟩:=con_l1Below n f hn s3 h3 3 (by omega)
  obtain ⟨s5,t,h5,ht,c5⟩:=con_l1Below n f hn s4 h4 2 (by omega)
  have hz2:=hz.2.1 (by omega)
  have ht2:=ht.2.1 (by omega)
  obtain ⟨q,hq,hq2⟩:∃ q:Nat,z*t=(q:Int)∧q≤2:=by
    rcases (show t=0∨t=1 by omega) with e | e
    · exact ⟨0,by rw [e];simp,by omega⟩
    · exact ⟨z.toNat,by rw [e];omega,by omega⟩
  obtain ⟨s6,k2,r2,i1,i2,hr⟩:=lo q hq2 s5 (2+(x:Int)) k h h5 (by omega) hk
  refine ⟨s6,2+(x:Int),k2,r2,i1,by omega,i2,?_⟩
  refine csZ Try.func117 (fun c hc=>?_)
  refine pcD hc (dqz n f s s1 s2 s3 s4 s5 x y z t (2+(x:Int)) k h q) ?_ (hr c hc)
  and_intros
  all_goals (first | exact zI | (exact c1) | (exact c2) | (exact c3) | (exact c4) | (exact c5) | (exact hq) | (rw [hq];omega) | (intros;simp [All];done) | (simp;done) | (simp;omega))
theorem con_l2Any (n:Nat) (f:Nat→Int) (hn:CdOk n f) (s:Nat×Int) (hs:s.1≤n):∃ (s2:Nat×Int) (N:Int) (k:Nat) (h:Nat→T_Bar),s2.1≤n∧k≤25 ∧
    Con Try.prog 100 1 [(0,cuO n f s)] [.pt 3 0 0 0] [(0,cuO n f s2),(1,brOb k h)] (grR N k 1):=by
  obtain ⟨s1,N,k,h,h1,hN,hk,c1⟩:=con_l2Graph n f hn s hs
  obtain ⟨s2,x,h2,hx,c2⟩:=con_l1Below n f hn s1 h1 16 (by omega)
  by_cases e0:x=0
  · obtain ⟨s3,y,h3,hy,c3⟩:=con_pick n f hn s2 h2 [0,-1,9,3] (by simp)
    refine ⟨s3,y,k,h,h3,by omega,?_⟩
    refine csZ Try.func100 (fun c hc=>?_)
    refine pkD Try.func100 hc (daz n f s s1 s2 s3 s3 N k h x y 0) ?_
    and_intros
    iterate 2 all_goals (first | exact zI | (exact c1) | (exact c2) | (exact c3) | (intros;simp [All];done) | (simp [e0];done) | (simp;omega) | simp only [All])
  · have b0:(x==0)=false:=beq_eq_false_iff_ne.2 e0
    by_cases e1:x=1
    · obtain ⟨s3,y,h3,hy,c3⟩:=con_l1Below n f hn s2 h2 3 (by omega)
      obtain ⟨s4,z,h4,hz,c4⟩:=con_l1Below n f hn s3 h3 9 (by omega)
      refine ⟨s4,N,k+1,snoc k h (y,z,()),h4,by omega,?_⟩
      refine csZ Try.func100 (fun c hc=>?_)
      refine pkD Try.func100 hc (dao n f s s1 s2 s3 s4 N k h x y z) ?_
      and_intros
      iterate 2 all_goals (first | exact zI | (exact c1) | (exact c2) | (exact c3) | (exact c4) | (exact b0) | (intros;simp [All];done) | (simp [e1];done) | (simp;omega) | (intro i hi;rcases (show i<k∨i=k by omega) with h' | h'<;>simp [h',snoc,cvtL,cvt,tg,tru,All]) | simp only [All])
    · have b1:(x==1)=false:=beq_eq_false_iff_ne.2 e1
      refine ⟨s2,N,k,h,h2,by omega,?_⟩
      refine csZ Try.func100 (fun c hc=>?_)
      refine pkZ Try.func100 hc (dan n f s s1 s2 s2 s2 N k h x 0 0) ?_
      and_intros
      iterate 2 all_goals (first | exact zI | (exact c1) | (exact c2) | (exact b0) | (exact b1) | (intros;simp [All];done) | (simp;done) | (simp;omega) | simp only [All])
theorem con_l6Third (n:Nat) (f:Nat→Int) (hn:CdOk n f) (s:Nat×Int) (hs:s.1≤n) (N:Nat) (hN:N≤256) (x:T_Bar) (o:Int):∃ (s2:Nat×Int) (w:Int),s2.1≤n ∧
    Con Try.prog 118 1 [(0,cuO n f s)] [.pt 3 0 0 0,.p (.int .i64 N),brA x,.p (.int .i64 o)] [(0,cuO n f s2)] (.p (.int .i64 w)):=by
  obtain ⟨s1,w,h1,hw,c1⟩:=con_l1Below n f hn s hs N (by omega)
  cases hd:(bif w==x.1 then true else w==x.2.1) with
  | true =>
    refine ⟨s1,o,h1,?_⟩
    refine csZ Try.func118 (fun c hc=>?_)
    refine pkZ Try.func118 hc (dtt n f s s1 N x o w) ?_
    and_intros
    iterate 2 all_goals (first | exact zH | (exact c1) | (exact hd) | (intros;simp [All];done) | (simp;done) | (intro h;simpa using h) | (simp;omega) | simp only [All])
  | false =>
    refine ⟨s1,w,h1,?_⟩
    refine csZ Try.func118 (fun c hc=>?_)
    refine pkZ Try.func118 hc (dtf n f s s1 N x o w) ?_
    and_intros
    iterate 2 all_goals (first | exact zH | (exact c1) | (exact hd) | (intros;simp [All];done) | (simp;done) | (intro h;simpa using h) | (simp;omega) | simp only [All])
theorem con_putN (h:Nat→T_Bar) (k N:Nat) (x:T_Bar) (hk:k≤1000):∃ h2:Nat→T_Bar,zE 71 [grG h k N,brA x] [(0,brOb (k+1) h2)] (grR N (k+1) 0):=by
  have c:=con_l2Put h k N x (by omega)
  rw [insR_n] at c
  exact ⟨_,c⟩
theorem con_l6Laman (n:Nat) (f:Nat→Int) (hn:CdOk n f) (s:Nat×Int) (hs:s.1≤n) (N:Nat) (hN:N≤8):∃ (s2:Nat×Int) (k:Nat) (h:Nat→T_Bar),s2.1≤n∧k≤24 ∧
    Con Try.prog 101 1 [(0,cuO n f s)] [.pt 3 0 0 0,.p (.int .i64 N)] [(0,cuO n f s2),(1,brOb k h)] (grR N k 1):=by
  by_cases h2:N<2
  · have hd:decide ((N:Int)<2)=true:=decide_eq_true (by omega)
    refine ⟨s,0,fun _=>(0,0,()),hs,by omega,?_⟩
    refine csZ Try.func101 (fun c hc=>?_)
    refine pkD Try.func101 hc (dlz n f s N) ?_
    and_intros
    iterate 2 all_goals (first | exact zI | (exact hd) | (intro i hi;exact absurd hi (Nat.not_lt_zero _)) | (intros;simp [All];done) | (simp;done) | (simp;omega) | simp only [All])
  · have hd:decide ((N:Int)<2)=false:=decide_eq_false (by omega)
    have lo:∀ e v,v+e=N→2≤v→∀ (s:Nat×Int) (k:Nat) (h:Nat→T_Bar),s.1≤n→1≤k∧k≤3*v→∃ (s2:Nat×Int) (k2:Nat) (h2:Nat→T_Bar),s2.1≤n∧k2≤24 ∧
        ∀ c:Cx,c.n=1→zR c 101 zf25 (SLm0 n f s N k h v) (Post c [(0,cuO n f s2),(1,brOb k2 h2)] (grR N k2 1)):=by
      intro e
      induction e with
      | zero =>
        intro v hv hv2 s k h hs hk
        have hd:decide ((v:Int)<(N:Int))=false:=decide_eq_false (by omega)
        refine ⟨s,k,h,hs,by omega,fun c hc=>?_⟩
        refine pkZ Try.func101 hc (dle n f s N k h v) ?_
        and_intros
        iterate 2 all_goals (first | exact zI | (exact hd) | (intros;simp [All];done) | (simp;done) | (simp;omega) | simp only [All])
      | succ e ih =>
        intro v hv hv2 s k h hs hk
        have hd:decide ((v:Int)<(N:Int))=true:=decide_eq_true (by omega)
        obtain ⟨s1,a,h1,ha,c1⟩:=con_l1Below n f hn s hs v (by omega)
        obtain ⟨s2,y,h2,hy,c2⟩:=con_l1Below n f hn s1 h1 ((v:Int) - 1) (by omega)
        obtain ⟨s3,b,h3,c3⟩:=con_l1Once n f hn s2 h2 2 (by omega)
        have ha2:=ha.2.1 (by omega)
        have hy2:=hy.2.1 (by omega)
        cases hb:(bif b then decide ((v:Int)>2) else false) with
        | false =>
          obtain ⟨r1,p1⟩:=con_putN h k N (a,v,()) (by omega)
          obtain ⟨r2,p2⟩:=con_putN r1 (k+1) N ((a+1+y) % (v:Int),v,()) (by omega)
          obtain ⟨s9,k9,r9,i1,i2,hr⟩:=ih (v+1) (by omega) (by omega) s3 (k+1+1) r2 h3 (by omega)
          refine ⟨s9,k9,r9,i1,i2,fun c hc=>?_⟩
          refine pcZ hc (dlb n f s s1 s2 s3 N k h v a y b (k+1) (k+1+1) r1 r2) ?_ (hr c hc)
          and_intros
          all_goals (first | exact zI | (exact hd) | (exact c1) | (exact c2) | (exact c3) | (exact hb) | (exact p1) | (exact p2) | omega | (intros;simp [All];done) | (simp;done) | (simp;omega))
        | true =>
          have hbt:b=true:=by cases b;cases hb;rfl
          subst hbt
          obtain ⟨s4,e4,h4,he,c4⟩:=con_l1Below n f hn s3 h3 k (by omega)
          have he2:=he.2.1 (by omega)
          obtain ⟨ee,rfl⟩:∃ t:Nat,e4=(t:Int):=⟨e4.toNat,by omega⟩
          have fin:∀ w:Int,(bif w==(h ee).1 then true else w==(h ee).2.1)=false→∃ (s2:Nat×Int) (k2:Nat) (h2:Nat→T_Bar),s2.1≤n∧k2≤24 ∧
              ∀ c:Cx,c.n=1→zR c 101 zf5 (SLm1 n f s4 N k h v ee (h ee) w) (Post c [(0,cuO n f s2),(1,brOb k2 h2)] (grR N k2 1)):=by
            intro w hw
            obtain ⟨s5,y5,h5,c5⟩:=con_l6Third n f hn s4 h4 v (by omega) (h ee) w
            obtain ⟨m,r0,ok,m1,m2,c6⟩:=con_Rmv ((N:Int),(k,h),()) (by show k≤_;omega) (ee:Int)
            have m1:m≤k:=m1
            have m2:k≤m+1:=m2
            obtain ⟨r1,p1⟩:=con_putN r0 m N ((h ee).1,v,()) (by omega)
            obtain ⟨r2,p2⟩:=con_putN r1 (m+1) N ((h ee).2.1,v,()) (by omega)
            obtain ⟨r3,p3⟩:=con_putN r2 (m+1+1) N (y5,v,()) (by omega)
            obtain ⟨s9,k9,r9,i1,i2,hr⟩:=ih (v+1) (by omega) (by omega) s5 (m+1+1+1) r3 h5 (by omega)
            refine ⟨s9,k9,r9,i1,i2,fun c hc=>?_⟩
            refine pcD hc (dlf n f s4 s5 N k h v ee (h ee) w y5 m (m+1) (m+1+1) (m+1+1+1) r0 r1 r2 r3 ok) ?_ (hr c hc)
            and_intros
            all_goals (first | exact zH | (exact c5) | (exact c6) | (exact p1) | (exact p2) | (exact p3) | (exact hw) | (intros;simp [All];done) | (simp;done) | (intro h';simpa using h') | (simp;omega))
          have stp:∀ w:Int,0≤w∧w≤10→(bif w==(h ee).1 then true else w==(h ee).2.1)=true→(∃ (s2:Nat×Int) (k2:Nat) (h2:Nat→T_Bar),s2.1≤n∧k2≤24 ∧
              ∀ c:Cx,c.n=1→zR c 101 zf5 (SLm1 n f s4 N k h v ee (h ee) (w+1)) (Post c [(0,cuO n f s2),(1,brOb k2 h2)] (grR N k2 1)))→∃ (s2:Nat×Int) (k2:Nat) (h2:Nat→T_Bar),s2.1≤n∧k2≤24 ∧
              ∀ c:Cx,c.n=1→zR c 101 zf5 (SLm1 n f s4 N k h v ee (h ee) w) (Post c [(0,cuO n f s2),(1,brOb k2 h2)] (grR N k2 1)):=by
            intro w hw0 hw ⟨s9,k9,r9,i1,i2,hr⟩
            refine ⟨s9,k9,r9,i1,i2,fun c hc=>?_⟩
            refine pcD hc (dld n f s4 N k h v ee (h ee) w) ?_ (hr c hc)
            and_intros
            all_goals (first | exact zH | (exact hw) | omega | (intros;simp [All];done) | (simp;done) | (intro h';simpa using h') | (simp;omega))
          have hit:∀ w:Int,(bif w==(h ee).1 then true else w==(h ee).2.1)=true→w=(h ee).1∨w=(h ee).2.1:=by
            intro w hw
            cases hq:(w==(h ee).1) with
            | true=>exact .inl (by simpa using hq)
            | false=>rw [hq,cond_false] at hw;exact .inr (by simpa using hw)
          have all:∃ (s2:Nat×Int) (k2:Nat) (h2:Nat→T_Bar),s2.1≤n∧k2≤24 ∧
              ∀ c:Cx,c.n=1→zR c 101 zf5 (SLm1 n f s4 N k h v ee (h ee) 0) (Post c [(0,cuO n f s2),(1,brOb k2 h2)] (grR N k2 1)):=by
            cases q0:(bif (0:Int)==(h ee).1 then true else (0:Int)==(h ee).2.1) with
            | false=>exact fin 0 q0
            | true =>
              refine stp 0 (by omega) q0 ?_
              cases q1:(bif (0+1:Int)==(h ee).1 then true else (0+1:Int)==(h ee).2.1) with
              | false=>exact fin (0+1) q1
              | true =>
                refine stp (0+1) (by omega) q1 ?_
                cases q2:(bif (0+1+1:Int)==(h ee).1 then true else (0+1+1:Int)==(h ee).2.1) with
                | false=>exact fin (0+1+1) q2
                | true =>
                  have:=hit _ q0;have:=hit _ q1;have:=hit _ q2
                  omega
          obtain ⟨s9,k9,r9,i1,i2,hr⟩:=all
          refine ⟨s9,k9,r9,i1,i2,fun c hc=>?_⟩
          refine pcD hc (dlc n f s s1 s2 s3 s4 N k h v a y ee) ?_ (hr c hc)
          and_intros
          all_goals (first | exact zI | (exact hd) | (exact c1) | (exact c2) | (exact c3) | (exact hb) | (exact c4) | omega | (intros;simp [All];done) | (simp;done) | (simp;omega))
    obtain ⟨r1,p1⟩:=con_putN (fun _=>(0,0,())) 0 N (0,1,()) (by omega)
    obtain ⟨s9,k9,r9,i1,i2,hr⟩:=lo (N - 2) 2 (by omega) (by omega) s (0+1) r1 hs (by omega)
    refine ⟨s9,k9,r9,i1,i2,?_⟩
    refine csZ Try.func101 (fun c hc=>?_)
    refine pcD hc (dla n f s N (0+1) r1) ?_ (hr c hc)
    and_intros
    all_goals (first | exact zI | (exact hd) | (exact p1) | (refine p1.arg_ext ?_;simp only [grG,brL,brA,wkL,wk,wkP,beq_self_eq_true,Bool.and_self,if_true,ikEq,List.append_nil,List.cons_append,List.nil_append,All];and_intros<;>first | trivial | omega | (intro i hi;exact absurd hi (Nat.not_lt_zero _))) | (intros;simp [All];done) | (simp;done) | (simp;omega))
theorem con_l6Any (n:Nat) (f:Nat→Int) (hn:CdOk n f) (s:Nat×Int) (hs:s.1≤n):∃ (s2:Nat×Int) (N:Int) (k:Nat) (h:Nat→T_Bar),s2.1≤n∧k≤25 ∧
    Con Try.prog 75 1 [(0,cuO n f s)] [.pt 3 0 0 0] [(0,cuO n f s2),(1,brOb k h)] (grR N k 1):=by
  obtain ⟨s1,x,h1,hx,c1⟩:=con_l1Below n f hn s hs 4 (by omega)
  by_cases e0:x=0
  · obtain ⟨s2,N,k,h,h2,hk,c2⟩:=con_l2Any n f hn s1 h1
    refine ⟨s2,N,k,h,h2,hk,?_⟩
    refine csZ Try.func75 (fun c hc=>?_)
    refine pkZ Try.func75 hc (dna n f s s1 s2 s2 s2 s2 N N k k h h x 0 0 0 true) ?_
    and_intros
    iterate 2 all_goals (first | exact zI | (exact c1) | (exact c2) | (intros;simp [All];done) | (simp [e0];done) | (simp;omega) | simp only [All])
  · have b0:(x==0)=false:=beq_eq_false_iff_ne.2 e0
    by_cases e1:x=1
    · obtain ⟨s2,y,h2,hy,c2⟩:=con_l1Below n f hn s1 h1 5 (by omega)
      have hy2:=hy.2.1 (by omega)
      obtain ⟨y,rfl⟩:∃ t:Nat,y=(t:Int):=⟨y.toNat,by omega⟩
      obtain ⟨s3,k,h,h3,hk,c3⟩:=con_l6Laman n f hn s2 h2 (2+y) (by omega)
      rw [show ((2+y:Nat):Int)=2+(y:Int) by omega] at c3
      obtain ⟨s4,z,h4,hz,c4⟩:=con_l1Below n f hn s3 h3 k (by omega)
      obtain ⟨m,r,ok,m1,m2,c5⟩:=con_Rmv (2+(y:Int),(k,h),()) (by show k≤_;omega) z
      have m1:m≤k:=m1
      refine ⟨s4,2+(y:Int),m,r,h4,by omega,?_⟩
      refine csZ Try.func75 (fun c hc=>?_)
      refine pkD Try.func75 hc (dnb n f s s1 s2 s3 s4 s4 (2+(y:Int)) (2+(y:Int)) k m h r x y z 0 ok) ?_
      and_intros
      iterate 2 all_goals (first | exact zI | (exact c1) | (exact c2) | (exact c3) | (exact c4) | (exact c5) | (exact b0) | (intros;simp [All];done) | (simp [e1];done) | (simp;omega) | simp only [All])
    · have b1:(x==1)=false:=beq_eq_false_iff_ne.2 e1
      by_cases e2:x=2
      · obtain ⟨s2,y,h2,hy,c2⟩:=con_l1Below n f hn s1 h1 5 (by omega)
        have hy2:=hy.2.1 (by omega)
        obtain ⟨y,rfl⟩:∃ t:Nat,y=(t:Int):=⟨y.toNat,by omega⟩
        obtain ⟨s3,k,h,h3,hk,c3⟩:=con_l6Laman n f hn s2 h2 (2+y) (by omega)
        rw [show ((2+y:Nat):Int)=2+(y:Int) by omega] at c3
        obtain ⟨s4,z,h4,hz,c4⟩:=con_l1Below n f hn s3 h3 (2+(y:Int)) (by omega)
        obtain ⟨s5,t,h5,ht,c5⟩:=con_l1Below n f hn s4 h4 (2+(y:Int)) (by omega)
        have c6:=con_AddBar_s (2+(y:Int),(k,h),()) (sm_graph (by show k≤_;omega)) z t
        have hk2:=abG_n (2+(y:Int),(k,h),()) z t
        have hM:(abG (2+(y:Int),(k,h),()) z t).1=2+(y:Int):=by unfold abG;split<;>rfl
        rw [hM] at c6
        have hk3:(abG (2+(y:Int),(k,h),()) z t).2.1.1≤24:=by
          rcases hk2 with e | e
          · have e':(abG (2+(y:Int),(k,h),()) z t).2.1.1≤k:=e
            omega
          · exact e
        generalize (abG (2+(y:Int),(k,h),()) z t).2.1.1=m at c6 hk3
        generalize (abG (2+(y:Int),(k,h),()) z t).2.1.2=r at c6
        generalize abB (2+(y:Int),(k,h),()) z t=ok at c6
        refine ⟨s5,2+(y:Int),m,r,h5,by omega,?_⟩
        refine csZ Try.func75 (fun c hc=>?_)
        refine pkD Try.func75 hc (dnc n f s s1 s2 s3 s4 s5 (2+(y:Int)) (2+(y:Int)) k m h r x y z t ok) ?_
        and_intros
        iterate 2 all_goals (first | exact zI | (exact c1) | (exact c2) | (exact c3) | (exact c4) | (exact c5) | (exact c6) | (exact b0) | (exact b1) | (intros;simp [All];done) | (simp [e2];done) | (simp;omega) | simp only [All])
      · have b2:(x==2)=false:=beq_eq_false_iff_ne.2 e2
        obtain ⟨s2,y,h2,hy,c2⟩:=con_l1Below n f hn s1 h1 6 (by omega)
        have hy2:=hy.2.1 (by omega)
        obtain ⟨y,rfl⟩:∃ t:Nat,y=(t:Int):=⟨y.toNat,by omega⟩
        obtain ⟨s3,k,h,h3,hk,c3⟩:=con_l6Laman n f hn s2 h2 (1+y) (by omega)
        rw [show ((1+y:Nat):Int)=1+(y:Int) by omega] at c3
        refine ⟨s3,1+(y:Int),k,h,h3,by omega,?_⟩
        refine csZ Try.func75 (fun c hc=>?_)
        refine pkZ Try.func75 hc (dnd n f s s1 s2 s3 s3 s3 (1+(y:Int)) (1+(y:Int)) k k h h x y 0 0 true) ?_
        and_intros
        iterate 2 all_goals (first | exact zI | (exact c1) | (exact c2) | (exact c3) | (exact b0) | (exact b1) | (exact b2) | (intros;simp [All];done) | (simp;done) | (simp;omega) | simp only [All])
theorem con_DrawComponentsOf (n:Nat) (f:Nat→Int) (hn:CdOk n f):∃ v:T_Graph,v.2.1.1≤25 ∧
    zE 27 [cdA n f] [(0,brOb v.2.1.1 v.2.1.2)] (grR v.1 v.2.1.1 0):=by
  obtain ⟨s,h0,c0⟩:=con_l1New n f hn
  obtain ⟨s1,N,k,h,h1,hk,c1⟩:=con_l6Any n f hn s h0
  refine ⟨(N,(k,h),()),hk,?_⟩
  refine csZ Try.func27 (fun c hc=>?_)
  refine pkZ Try.func27 hc (dfC n f s s1 s1 s1 s1 N k h 0 0 0) ?_
  and_intros
  all_goals (first | exact zI | (exact c0) | (exact c1) | (intros;simp [All];done) | (simp;done))
theorem con_DrawComponentOfBar (n:Nat) (f:Nat→Int) (hn:CdOk n f):∃ (v:T_Graph) (b:Int),v.2.1.1≤25 ∧
    zE 42 [cdA n f] [(0,brOb v.2.1.1 v.2.1.2)] (.tup [grR v.1 v.2.1.1 0,.p (.int .i64 b)]):=by
  obtain ⟨s,h0,c0⟩:=con_l1New n f hn
  obtain ⟨s1,N,k,h,h1,hk,c1⟩:=con_l6Any n f hn s h0
  obtain ⟨s2,x,h2,hx,c2⟩:=con_l1Below n f hn s1 h1 ((k:Int)+2) (by omega)
  refine ⟨(N,(k,h),()),x - 1,hk,?_⟩
  refine csZ Try.func42 (fun c hc=>?_)
  refine pkZ Try.func42 hc (dfB n f s s1 s2 s2 s2 N k h x 0 0) ?_
  and_intros
  all_goals (first | exact zI | (exact c0) | (exact c1) | (exact c2) | (intros;simp [All];done) | (simp;done) | (simp;omega))
theorem con_l2Pair (n:Nat) (f:Nat→Int) (hn:CdOk n f):∃ (v:T_Graph) (a b:Int),v.2.1.1≤25 ∧
    zE 86 [cdA n f] [(0,brOb v.2.1.1 v.2.1.2)] (.tup [grR v.1 v.2.1.1 0,.p (.int .i64 a),.p (.int .i64 b)]):=by
  obtain ⟨s,h0,c0⟩:=con_l1New n f hn
  obtain ⟨s1,N,k,h,h1,hk,c1⟩:=con_l2Any n f hn s h0
  obtain ⟨s2,x,h2,hx,c2⟩:=con_l1Below n f hn s1 h1 8 (by omega)
  obtain ⟨s3,y,h3,hy,c3⟩:=con_l1Below n f hn s2 h2 2 (by omega)
  obtain ⟨s4,z,h4,hz,c4⟩:=con_l1Below n f hn s3 h3 7 (by omega)
  refine ⟨(N,(k,h),()),x - y,z,hk,?_⟩
  refine csZ Try.func86 (fun c hc=>?_)
  refine pkZ Try.func86 hc (dfP n f s s1 s2 s3 s4 N k h x y z) ?_
  and_intros
  all_goals (first | exact zI | (exact c0) | (exact c1) | (exact c2) | (exact c3) | (exact c4) | (intros;simp [All];done) | (simp;done) | (simp;omega))
theorem con_DrawIsImplied (n:Nat) (f:Nat→Int) (hn:CdOk n f):∃ (v:T_Graph) (a b:Int),v.2.1.1≤25 ∧
    zE 43 [cdA n f] [(0,brOb v.2.1.1 v.2.1.2)] (.tup [grR v.1 v.2.1.1 0,.p (.int .i64 a),.p (.int .i64 b)]):=by
  obtain ⟨v,a,b,hk,c1⟩:=con_l2Pair n f hn
  refine ⟨v,a,b,hk,?_⟩
  refine csZ Try.func43 (fun c hc=>?_)
  refine pkD Try.func43 hc (dfI n f (0,0) (0,0) (0,0) (0,0) (0,0) v.1 v.2.1.1 v.2.1.2 a b 0) ?_
  and_intros
  all_goals (first | exact zI | (exact c1) | (intros;simp [All];done) | (simp;done))
def ST0 (N m:Nat) (F T Q:Nat→Int) (x:Int) (i:Nat):St :=
  ⟨[pebD N m F T Q,.p (.int .i64 x),.pt 3 0 0 0,.p .any,.p .any,.p (.int .i64 (tcI T i x)),.p (.int .i64 i)]++List.replicate 17 anyA,[(0,bxD N m F T Q)],1⟩
def SI0 (g:Nat→T_Bar) (nb N k m:Nat) (F T Q:Nat→Int) (i:Nat):St :=
  ⟨[grG g nb N,.p (.int .i64 k),pebD N m F T Q,.pt 2 0 0 0,.p .any,.pt 3 1 0 0,.p .any,.p (.int .i64 i)]++List.replicate 115 anyA,[(0,bxG g nb N),(1,bxD N m F T Q)],2⟩
def SI1 (g:Nat→T_Bar) (nb N k m:Nat) (F T Q:Nat→Int) (i:Nat):St :=
  ⟨[grG g nb N,.p (.int .i64 k),pebD N m F T Q,.pt 2 0 0 0,.p .any,.pt 3 1 0 0,.p .any,.p .any,.p .any,.p (.int .i64 i)]++List.replicate 113 anyA,[(0,bxG g nb N),(1,bxD N m F T Q)],2⟩
def SRu (g:Nat→T_Bar) (nb N k l m:Nat) (F T Q:Nat→Int) (i:Nat):St :=
  ⟨[grG g nb N,.p (.int .i64 k),.p (.int .i64 l),.pt 2 0 0 0,.p .any,.p .any,.pt 3 1 0 0,.p .any,.pt 3 2 0 0,.p .any,.p (.int .i64 i)]++List.replicate 32 anyA,
   [(0,bxG g nb N),(1,bx0),(2,bxP N m 3),(3,iOb N F),(4,iOb m T),(5,iOb m Q)],6⟩
def badI (g:Nat→T_Bar) (nb:Nat) (T Q:Nat→Int) (i:Nat):Bool :=
  bif bif bif decide (Q i<0) then true else decide (Q i≥(nb:Int)) then true else bif decide ((i:Int)>0) then decide (Q ((i:Int) - 1).toNat≥Q i) else false then true
    else bif T i != (g (Q i).toNat).1 then T i != (g (Q i).toNat).2.1 else false
theorem nRi (k l:Nat) :
    zS Try.f120 [rg 1,rm [(1,oc [] (.p (.bool true))),(5,oc [] (.p (.bool true)))] 2] [.p (.int .i64 k),.p (.int .i64 l)] [] [] (.p (.bool true)) =
    some (zD [zE 60 [.p (.int .i64 (↑k:Int)),.p (.int .i64 1),.p (.int .i64 3)] [] (.p (.bool true)),(AG true),((true=true)→(ZLo (2*(↑k:Int)))),((true=true)→(ZHi (2*(↑k:Int)))),((true=true)→(ZLo (2*(↑k:Int) - 1))),((true=true)→(ZHi (2*(↑k:Int) - 1))),((true=true)→ zE 60 [.p (.int .i64 (↑l:Int)),.p (.int .i64 0),.p (.int .i64 (2*(↑k:Int) - 1))] [] (.p (.bool true))),((bif true then true else false)=true)] [0,1,2,3,1,4,5,1,1,6,1,7]):=by kernel_rfl
theorem nRs (k l:Nat) :
    zS Try.f107 [rg 1,rm [(1,oc [] (.p (.bool true)))] 11] [.p (.int .i64 k),.p (.int .i64 l)] [] [] (.p (.bool true)) =
    some (zD [zE 62 [.p (.int .i64 (↑k:Int)),.p (.int .i64 1),.p (.int .i64 3)] [] (.p (.bool true)),(AG true),(AG (bif true then decide ((↑l:Int)≥0) else false)),(((bif true then decide ((↑l:Int)≥0) else false)=true)→(ZLo (2*(↑k:Int)))),(((bif true then decide ((↑l:Int)≥0) else false)=true)→(ZHi (2*(↑k:Int)))),((bif bif true then decide ((↑l:Int)≥0) else false then decide ((↑l:Int)<2*(↑k:Int)) else false)=true)] [0,1,1,2,3,4,2,2,2,5]):=by kernel_rfl
theorem nUi (g:Nat→T_Bar) (nb N k l m:Nat) (F T Q:Nat→Int) :
    zS Try.f105 [rg 3,rm [(1,oc [] (.p (.bool true))),(4,oc [] (.p (.bool true)))] 2,.dec false,rm [(6,oc (pebR N m F T Q) (pebO N m 0))] 2] [grG g nb N,.p (.int .i64 k),.p (.int .i64 l)] [576,577,578] (pebR N m F T Q) (.tup [pebO N m 0,.p (.bool true)]) =
    some (zD [(NT 0 1),zE 24 [(zf80 N nb g)] [] (.p (.bool true)),(AG (!!true)),(((!!true)=true)→ zE 120 [.p (.int .i64 (↑k:Int)),.p (.int .i64 (↑l:Int))] [] (.p (.bool true))),(((!true)=false)→ ((!!true)=true)),((bif !true then true else !true)=false),zE 121 [.p (.int .i64 (↑N:Int)),.p (.seq true 2 nb (bRw g)),.p (.int .i64 (↑k:Int)),.p (.int .i64 (↑l:Int))] (zf26 N F m T Q) (.agg [.ar 1 0 0 N,.ar 1 1 0 m,.ar 1 2 0 m]),((true=true)→ (AN 1)),(AN 0),(AN N),(AN m),(true=true),(AN 1),(NL N N),(AA N (fun i=>[.p (.int .i64 (F i))])),(NL m m),(AA m (fun i=>[.p (.int .i64 (T i))])),(AA m (fun i=>[.p (.int .i64 (Q i))])),(AE N),(AE m)] [0,1,2,2,3,2,4,5,0,0,6,0,7,0,8,9,8,10,8,10,11,12,13,14,12,15,16,12,15,17,18,19,19]):=by kernel_rfl
theorem nKi (g:Nat→T_Bar) (nb N k l m:Nat) (F T Q:Nat→Int) :
    zS Try.f81 [rg 2,rm [(3,oc (pebR N m F T Q) (.tup [pebO N m 0,.p (.bool true)]))] 6,rg 2,.dec false,rg 4] [grG g nb N,.p (.int .i64 k),.p (.int .i64 l)] [] [] (.p (.int .i64 m)) =
    some [(NT 0 1),zE 105 [(zf80 N nb g),.p (.int .i64 (↑k:Int)),.p (.int .i64 (↑l:Int))] (zf26 N F m T Q) ((zf89 N m)),(NT 0 1),((true=true)→ (AN 1)),((!true)=false),(NT 0 1),(AI ((↑m:Int)))]:=by kernel_rfl
theorem nKs (g:Nat→T_Bar) (nb N k l m:Nat) (F T Q:Nat→Int) :
    zS Try.f39 [rg 2,rm [(3,oc (pebR N m F T Q) (.tup [pebO N m 0,.p (.bool true)]))] 6,rg 2,.dec false,rg 4] [grG g nb N,.p (.int .i64 k),.p (.int .i64 l)] [] [] (.p (.int .i64 m)) =
    some [(NT 0 1),zE 85 [(zf80 N nb g),.p (.int .i64 (↑k:Int)),.p (.int .i64 (↑l:Int))] (zf26 N F m T Q) ((zf89 N m)),(NT 0 1),((true=true)→ (AN 1)),((!true)=false),(NT 0 1),(AI ((↑m:Int)))]:=by kernel_rfl
theorem nTz (N m:Nat) (F T Q:Nat→Int) (x:Int) :
    zT Try.f148 [rg 2,rg 1,rg 1,.head] [pebD N m F T Q,.p (.int .i64 x)] [0] (ST0 N m F T Q x 0) =
    some (zf50,zD [(AN N),(AP N (fun i=>[.int .i64 (F i)])),(AN m),(AP m (fun i=>[.int .i64 (T i)])),(AP m (fun i=>[.int .i64 (Q i)])),(AI x),(AN 0),((0:Int)=(tcI T 0 x)),((0:Int)=(↑0:Int)),((([inD N F,inD m T,inD m Q].length):Nat)=3),(NL 1 1)] [0,1,2,3,2,4,5,6,7,8,9,10,10,0,1,2,3,2,4]):=by kernel_rfl
theorem nTt (N m:Nat) (F T Q:Nat→Int) (x:Int) (i:Nat) :
    zM 0 [rg 5,.dec true,rg 7,.dec true,rg 3,rg 3,.head] zf50 (ST0 N m F T Q x i) [0] 1 (ST0 N m F T Q x (i+1)) =
    some (zf50,zD [(NT 0 1),((decide ((↑i:Int)<(↑m:Int)))=true),(IL 0 (↑i:Int)),(IT (↑i:Int) (↑m:Int)),((T i==x)=true),(ZLo (tcI T i x+1)),(ZHi (tcI T i x+1)),(ZLo ((↑i:Int)+1)),(ZHi ((↑i:Int)+1)),(AN N),(AP N (fun i_1=>[.int .i64 (F i_1)])),(AN m),(AP m (fun i_1=>[.int .i64 (T i_1)])),(AP m (fun i_1=>[.int .i64 (Q i_1)])),(AI x),(AN 0),(((tcI T i x+1):Int)=(tcI T (i+1) x)),((((↑i:Int)+1):Int)=(↑(i+1):Int)),(AN 3),(NL 1 1)] [0,1,0,2,3,4,5,6,7,8,9,10,11,12,11,13,14,15,16,17,18,19,19,9,10,11,12,11,13]):=by kernel_rfl
theorem nTf (N m:Nat) (F T Q:Nat→Int) (x:Int) (i:Nat) :
    zM 0 [rg 5,.dec true,rg 7,.dec false,rg 3,.head] zf50 (ST0 N m F T Q x i) [0] 1 (ST0 N m F T Q x (i+1)) =
    some (zf50,zD [(NT 0 1),((decide ((↑i:Int)<(↑m:Int)))=true),(IL 0 (↑i:Int)),(IT (↑i:Int) (↑m:Int)),((T i==x)=false),(ZLo ((↑i:Int)+1)),(ZHi ((↑i:Int)+1)),(AN N),(AP N (fun i_1=>[.int .i64 (F i_1)])),(AN m),(AP m (fun i_1=>[.int .i64 (T i_1)])),(AP m (fun i_1=>[.int .i64 (Q i_1)])),(AI x),(AN 0),(((tcI T i x):Int)=(tcI T (i+1) x)),((((↑i:Int)+1):Int)=(↑(i+1):Int)),(AN 3),(NL 1 1)] [0,1,0,2,3,4,5,6,7,8,9,10,9,11,12,13,14,15,16,17,17,7,8,9,10,9,11]):=by kernel_rfl
theorem nTe (N m:Nat) (F T Q:Nat→Int) (x:Int) (i:Nat) :
    zP Try.f148 0 [rg 5,.dec false,rg 2] zf50 (ST0 N m F T Q x i) [] 1 [] (.p (.int .i64 (tcI T i x))) =
    some [(NT 0 1),((decide ((↑i:Int)<(↑m:Int)))=false),(AI ((tcI T i x)))]:=by kernel_rfl
theorem nJz (g:Nat→T_Bar) (nb N k m:Nat) (F T Q:Nat→Int) :
    zT Try.f122 [rg 3,rm [(1,oc [] (.p (.bool true))),(3,oc [] (.p (.bool true)))] 19,.dec false,rg 1,.head] [grG g nb N,.p (.int .i64 k),pebD N m F T Q] [0,32] (SI0 g nb N k m F T Q 0) =
    some (zf51,zD [(NT 0 1),zE 38 [(zf80 N nb g)] [] (.p (.bool true)),(AG (!!true)),(((!!true)=true)→ zE 62 [.p (.int .i64 (↑k:Int)),.p (.int .i64 1),.p (.int .i64 3)] [] (.p (.bool true))),(((!true)=false)→ ((!!true)=true)),(AG (!bif !true then true else !true)),(((!bif !true then true else !true)=true)→(NT 0 1)),(((bif !true then true else !true)=false)→ ((!bif !true then true else !true)=true)),(AG (!bif bif !true then true else !true then true else (↑N:Int) != (↑N:Int))),(((!bif bif !true then true else !true then true else (↑N:Int) != (↑N:Int))=true)→(NT 0 1)),(((bif bif !true then true else !true then true else (↑N:Int) != (↑N:Int))=false)→ ((!bif bif !true then true else !true then true else (↑N:Int) != (↑N:Int))=true)),((bif bif bif !true then true else !true then true else (↑N:Int) != (↑N:Int) then true else (↑m:Int) != (↑m:Int))=false),(AI ((↑N:Int))),(AN nb),(AP nb (bRw g)),(AI ((↑k:Int))),(AN N),(AP N (fun i=>[.int .i64 (F i)])),(AN m),(AP m (fun i=>[.int .i64 (T i)])),(AP m (fun i=>[.int .i64 (Q i)])),(AN 0),((0:Int)=(↑0:Int)),((([AV.p (PV.int IntKind.i64 (↑N:Int)),brL g nb].length):Nat)=2),(NL 1 1),((([inD N F,inD m T,inD m Q].length):Nat)=3)] [0,1,2,3,2,4,5,6,5,5,6,5,5,7,8,9,8,8,9,8,8,8,10,11,12,13,14,15,16,17,18,19,18,20,21,21,22,23,24,24,12,13,14,25,24,24,16,17,18,19,18,20]):=by kernel_rfl
theorem nI0 (g:Nat→T_Bar) (nb N k m:Nat) (F T Q:Nat→Int) (i:Nat) :
    zM 0 [rg 5,.dec true,rg 6,rg 51,.dec false,rg 3,.head] zf51 (SI0 g nb N k m F T Q i) [0,1] 1 (SI0 g nb N k m F T Q (i+1)) =
    some (zf51,zD [(NT 0 1),((decide ((↑i:Int)<(↑m:Int)))=true),(IL 0 (↑i:Int)),(IT (↑i:Int) (↑m:Int)),(AG (!decide (Q (↑i:Int).toNat<0))),(((!decide (Q (↑i:Int).toNat<0))=true)→(NT 0 1)),(((decide (Q (↑i:Int).toNat<0))=false)→ ((!decide (Q (↑i:Int).toNat<0))=true)),(AG (!bif decide (Q (↑i:Int).toNat<0) then true else decide (Q (↑i:Int).toNat≥(↑nb:Int)))),(AG ((!bif decide (Q (↑i:Int).toNat<0) then true else decide (Q (↑i:Int).toNat≥(↑nb:Int)))&&decide ((↑i:Int)>0))),((((!bif decide (Q (↑i:Int).toNat<0) then true else decide (Q (↑i:Int).toNat≥(↑nb:Int)))&&decide ((↑i:Int)>0))=true)→(NT 0 1)),((((!bif decide (Q (↑i:Int).toNat<0) then true else decide (Q (↑i:Int).toNat≥(↑nb:Int)))&&decide ((↑i:Int)>0))=true)→(ZLo ((↑i:Int) - 1))),((((!bif decide (Q (↑i:Int).toNat<0) then true else decide (Q (↑i:Int).toNat≥(↑nb:Int)))&&decide ((↑i:Int)>0))=true)→(ZHi ((↑i:Int) - 1))),((((!bif decide (Q (↑i:Int).toNat<0) then true else decide (Q (↑i:Int).toNat≥(↑nb:Int)))&&decide ((↑i:Int)>0))=true)→(IL 0 ((↑i:Int) - 1))),((((!bif decide (Q (↑i:Int).toNat<0) then true else decide (Q (↑i:Int).toNat≥(↑nb:Int)))&&decide ((↑i:Int)>0))=true)→(IT ((↑i:Int) - 1) (↑m:Int))),(((!bif decide (Q (↑i:Int).toNat<0) then true else decide (Q (↑i:Int).toNat≥(↑nb:Int)))=true)→(((decide ((↑i:Int)>0))=true)→ (((!bif decide (Q (↑i:Int).toNat<0) then true else decide (Q (↑i:Int).toNat≥(↑nb:Int)))&&decide ((↑i:Int)>0))=true))),(((bif decide (Q (↑i:Int).toNat<0) then true else decide (Q (↑i:Int).toNat≥(↑nb:Int)))=false)→ ((!bif decide (Q (↑i:Int).toNat<0) then true else decide (Q (↑i:Int).toNat≥(↑nb:Int)))=true)),(AG (!bif bif decide (Q (↑i:Int).toNat<0) then true else decide (Q (↑i:Int).toNat≥(↑nb:Int)) then true else bif decide ((↑i:Int)>0) then decide (Q ((↑i:Int) - 1).toNat≥Q (↑i:Int).toNat) else false)),(((!bif bif decide (Q (↑i:Int).toNat<0) then true else decide (Q (↑i:Int).toNat≥(↑nb:Int)) then true else bif decide ((↑i:Int)>0) then decide (Q ((↑i:Int) - 1).toNat≥Q (↑i:Int).toNat) else false)=true)→(NT 0 1)),(((!bif bif decide (Q (↑i:Int).toNat<0) then true else decide (Q (↑i:Int).toNat≥(↑nb:Int)) then true else bif decide ((↑i:Int)>0) then decide (Q ((↑i:Int) - 1).toNat≥Q (↑i:Int).toNat) else false)=true)→(IL 0 (↑i:Int))),(((!bif bif decide (Q (↑i:Int).toNat<0) then true else decide (Q (↑i:Int).toNat≥(↑nb:Int)) then true else bif decide ((↑i:Int)>0) then decide (Q ((↑i:Int) - 1).toNat≥Q (↑i:Int).toNat) else false)=true)→(IT (↑i:Int) (↑m:Int))),(((!bif bif decide (Q (↑i:Int).toNat<0) then true else decide (Q (↑i:Int).toNat≥(↑nb:Int)) then true else bif decide ((↑i:Int)>0) then decide (Q ((↑i:Int) - 1).toNat≥Q (↑i:Int).toNat) else false)=true)→(IL 0 (Q i))),(((!bif bif decide (Q (↑i:Int).toNat<0) then true else decide (Q (↑i:Int).toNat≥(↑nb:Int)) then true else bif decide ((↑i:Int)>0) then decide (Q ((↑i:Int) - 1).toNat≥Q (↑i:Int).toNat) else false)=true)→(IT (Q i) (↑nb:Int))),(AG ((!bif bif decide (Q (↑i:Int).toNat<0) then true else decide (Q (↑i:Int).toNat≥(↑nb:Int)) then true else bif decide ((↑i:Int)>0) then decide (Q ((↑i:Int) - 1).toNat≥Q (↑i:Int).toNat) else false)&&T i != (g (Q i).toNat).1)),((((!bif bif decide (Q (↑i:Int).toNat<0) then true else decide (Q (↑i:Int).toNat≥(↑nb:Int)) then true else bif decide ((↑i:Int)>0) then decide (Q ((↑i:Int) - 1).toNat≥Q (↑i:Int).toNat) else false)&&T i != (g (Q i).toNat).1)=true)→(NT 0 1)),((((!bif bif decide (Q (↑i:Int).toNat<0) then true else decide (Q (↑i:Int).toNat≥(↑nb:Int)) then true else bif decide ((↑i:Int)>0) then decide (Q ((↑i:Int) - 1).toNat≥Q (↑i:Int).toNat) else false)&&T i != (g (Q i).toNat).1)=true)→(IL 0 (↑i:Int))),((((!bif bif decide (Q (↑i:Int).toNat<0) then true else decide (Q (↑i:Int).toNat≥(↑nb:Int)) then true else bif decide ((↑i:Int)>0) then decide (Q ((↑i:Int) - 1).toNat≥Q (↑i:Int).toNat) else false)&&T i != (g (Q i).toNat).1)=true)→(IT (↑i:Int) (↑m:Int))),((((!bif bif decide (Q (↑i:Int).toNat<0) then true else decide (Q (↑i:Int).toNat≥(↑nb:Int)) then true else bif decide ((↑i:Int)>0) then decide (Q ((↑i:Int) - 1).toNat≥Q (↑i:Int).toNat) else false)&&T i != (g (Q i).toNat).1)=true)→(IL 0 (Q i))),((((!bif bif decide (Q (↑i:Int).toNat<0) then true else decide (Q (↑i:Int).toNat≥(↑nb:Int)) then true else bif decide ((↑i:Int)>0) then decide (Q ((↑i:Int) - 1).toNat≥Q (↑i:Int).toNat) else false)&&T i != (g (Q i).toNat).1)=true)→(IT (Q i) (↑nb:Int))),(((!bif bif decide (Q (↑i:Int).toNat<0) then true else decide (Q (↑i:Int).toNat≥(↑nb:Int)) then true else bif decide ((↑i:Int)>0) then decide (Q ((↑i:Int) - 1).toNat≥Q (↑i:Int).toNat) else false)=true)→(((T i != (g (Q i).toNat).1)=true)→ (((!bif bif decide (Q (↑i:Int).toNat<0) then true else decide (Q (↑i:Int).toNat≥(↑nb:Int)) then true else bif decide ((↑i:Int)>0) then decide (Q ((↑i:Int) - 1).toNat≥Q (↑i:Int).toNat) else false)&&T i != (g (Q i).toNat).1)=true))),(((bif bif decide (Q (↑i:Int).toNat<0) then true else decide (Q (↑i:Int).toNat≥(↑nb:Int)) then true else bif decide ((↑i:Int)>0) then decide (Q ((↑i:Int) - 1).toNat≥Q (↑i:Int).toNat) else false)=false)→ ((!bif bif decide (Q (↑i:Int).toNat<0) then true else decide (Q (↑i:Int).toNat≥(↑nb:Int)) then true else bif decide ((↑i:Int)>0) then decide (Q ((↑i:Int) - 1).toNat≥Q (↑i:Int).toNat) else false)=true)),((bif bif bif decide (Q (↑i:Int).toNat<0) then true else decide (Q (↑i:Int).toNat≥(↑nb:Int)) then true else bif decide ((↑i:Int)>0) then decide (Q ((↑i:Int) - 1).toNat≥Q (↑i:Int).toNat) else false then true else bif T i != (g (Q i).toNat).1 then T i != (g (Q i).toNat).2.1 else false)=false),(ZLo ((↑i:Int)+1)),(ZHi ((↑i:Int)+1)),(AI ((↑N:Int))),(AN nb),(AP nb (bRw g)),(AI ((↑k:Int))),(AN N),(AP N (fun i_1=>[.int .i64 (F i_1)])),(AN m),(AP m (fun i_1=>[.int .i64 (T i_1)])),(AP m (fun i_1=>[.int .i64 (Q i_1)])),(AN 0),((((↑i:Int)+1):Int)=(↑(i+1):Int)),(AN 2),(NL 1 1),(AN 3)] [0,1,0,2,3,4,5,4,4,4,6,7,7,8,9,8,10,11,8,8,12,13,8,8,8,7,14,15,16,17,16,16,18,19,16,16,17,16,16,20,21,16,16,16,16,16,22,23,22,22,24,25,22,22,23,22,22,26,27,22,22,22,22,16,28,29,30,31,32,33,34,35,36,37,38,39,40,39,41,42,42,43,44,45,45,33,34,35,46,45,45,37,38,39,40,39,41]):=by kernel_rfl
theorem nI01 (g:Nat→T_Bar) (nb N k m:Nat) (F T Q:Nat→Int) (i:Nat) :
    zM 0 [rg 5,.dec false,rg 1,.head] zf51 (SI0 g nb N k m F T Q i) [0,1] 1 (SI1 g nb N k m F T Q 0) =
    some (zf32,zD [(NT 0 1),((decide ((↑i:Int)<(↑m:Int)))=false),(AI ((↑N:Int))),(AN nb),(AP nb (bRw g)),(AI ((↑k:Int))),(AN N),(AP N (fun i_1=>[.int .i64 (F i_1)])),(AN m),(AP m (fun i_1=>[.int .i64 (T i_1)])),(AP m (fun i_1=>[.int .i64 (Q i_1)])),(AN 0),((0:Int)=(↑0:Int)),(AN 2),(NL 1 1),(AN 3)] [0,1,2,3,4,5,6,7,8,9,8,10,11,11,12,13,14,14,2,3,4,15,14,14,6,7,8,9,8,10]):=by kernel_rfl
theorem nI1 (g:Nat→T_Bar) (nb N k m:Nat) (F T Q:Nat→Int) (i:Nat) :
    zM 0 [rg 4,.dec true,rm [(14,oc [] (.p (.int .i64 (tcI T m i))))] 4,.dec false,rg 3,.head] zf32 (SI1 g nb N k m F T Q i) [0,1] 1 (SI1 g nb N k m F T Q (i+1)) =
    some (zf32,zD [(NT 0 1),((decide ((↑i:Int)<(↑N:Int)))=true),(IL 0 (↑i:Int)),(IT (↑i:Int) (↑N:Int)),(AG (!decide (F (↑i:Int).toNat<0))),(((!decide (F (↑i:Int).toNat<0))=true)→(NT 0 1)),(((!decide (F (↑i:Int).toNat<0))=true)→(IL 0 (↑i:Int))),(((!decide (F (↑i:Int).toNat<0))=true)→(IT (↑i:Int) (↑N:Int))),(((!decide (F (↑i:Int).toNat<0))=true)→ zE 148 [(zf27 N F m T Q),.p (.int .i64 (↑i:Int))] [] (.p (.int .i64 (tcI T m (↑i:Int))))),(((!decide (F (↑i:Int).toNat<0))=true)→(ZLo (F i+tcI T m (↑i:Int)))),(((!decide (F (↑i:Int).toNat<0))=true)→(ZHi (F i+tcI T m (↑i:Int)))),(((decide (F (↑i:Int).toNat<0))=false)→ ((!decide (F (↑i:Int).toNat<0))=true)),((bif decide (F (↑i:Int).toNat<0) then true else F i+tcI T m (↑i:Int) != (↑k:Int))=false),(ZLo ((↑i:Int)+1)),(ZHi ((↑i:Int)+1)),(AI ((↑N:Int))),(AN nb),(AP nb (bRw g)),(AI ((↑k:Int))),(AN N),(AP N (fun i_1=>[.int .i64 (F i_1)])),(AN m),(AP m (fun i_1=>[.int .i64 (T i_1)])),(AP m (fun i_1=>[.int .i64 (Q i_1)])),(AN 0),((((↑i:Int)+1):Int)=(↑(i+1):Int)),(AN 2),(NL 1 1),(AN 3)] [0,1,0,2,3,4,5,4,4,6,7,4,5,4,4,8,4,4,9,10,4,4,11,12,13,14,15,16,17,18,19,20,21,22,21,23,24,24,25,26,27,27,15,16,17,28,27,27,19,20,21,22,21,23]):=by kernel_rfl
theorem nJe (g:Nat→T_Bar) (nb N k m:Nat) (F T Q:Nat→Int) (i:Nat) :
    zP Try.f122 0 [rg 4,.dec false,rg 1] zf32 (SI1 g nb N k m F T Q i) [] 1 [] (.p (.bool true)) =
    some [(NT 0 1),((decide ((↑i:Int)<(↑N:Int)))=false),(true=true)]:=by kernel_rfl
theorem nPf (g:Nat→T_Bar) (nb N k l m e:Nat) (F T Q F1 T1:Nat→Int) :
    zS Try.f108 [rg 4,rm [(3,oc [] (.p (.bool true))),(4,oc [] (.p (.bool true)))] 31,.dec false,rg 7,rm [(8,oc (pebR N m F1 T1 Q) (.tup [pebO N m 0,.p (.bool false)]))] 6,rg 2,.dec true,rm [(1,oc (pebR N m F T Q) (pebO N m 0))] 2] [grG g nb N,.p (.int .i64 k),.p (.int .i64 l),pebD N m F T Q,.p (.int .i64 e)] [2208,2209,2210] (pebR N m F T Q) (.tup [pebO N m 0,.p (.bool false)]) =
    some (zD [(NT 0 1),zE 122 [(zf80 N nb g),.p (.int .i64 (↑k:Int)),(zf45 N F m T Q)] [] (.p (.bool true)),(AG (!!true)),(((!!true)=true)→ zE 107 [.p (.int .i64 (↑k:Int)),.p (.int .i64 (↑l:Int))] [] (.p (.bool true))),(((!true)=false)→ ((!!true)=true)),(AG (!bif !true then true else !true)),(((bif !true then true else !true)=false)→ ((!bif !true then true else !true)=true)),(AG (!bif bif !true then true else !true then true else decide ((↑e:Int)<0))),(((!bif bif !true then true else !true then true else decide ((↑e:Int)<0))=true)→(NT 0 1)),(((bif bif !true then true else !true then true else decide ((↑e:Int)<0))=false)→ ((!bif bif !true then true else !true then true else decide ((↑e:Int)<0))=true)),(AG (!bif bif bif !true then true else !true then true else decide ((↑e:Int)<0) then true else decide ((↑e:Int)≥(↑nb:Int)))),(((!bif bif bif !true then true else !true then true else decide ((↑e:Int)<0) then true else decide ((↑e:Int)≥(↑nb:Int)))=true)→(NT 0 1)),(AG ((!bif bif bif !true then true else !true then true else decide ((↑e:Int)<0) then true else decide ((↑e:Int)≥(↑nb:Int)))&&decide ((↑m:Int)>0))),((((!bif bif bif !true then true else !true then true else decide ((↑e:Int)<0) then true else decide ((↑e:Int)≥(↑nb:Int)))&&decide ((↑m:Int)>0))=true)→(NT 0 1)),((((!bif bif bif !true then true else !true then true else decide ((↑e:Int)<0) then true else decide ((↑e:Int)≥(↑nb:Int)))&&decide ((↑m:Int)>0))=true)→(ZLo ((↑m:Int) - 1))),((((!bif bif bif !true then true else !true then true else decide ((↑e:Int)<0) then true else decide ((↑e:Int)≥(↑nb:Int)))&&decide ((↑m:Int)>0))=true)→(ZHi ((↑m:Int) - 1))),((((!bif bif bif !true then true else !true then true else decide ((↑e:Int)<0) then true else decide ((↑e:Int)≥(↑nb:Int)))&&decide ((↑m:Int)>0))=true)→(IL 0 ((↑m:Int) - 1))),((((!bif bif bif !true then true else !true then true else decide ((↑e:Int)<0) then true else decide ((↑e:Int)≥(↑nb:Int)))&&decide ((↑m:Int)>0))=true)→(IT ((↑m:Int) - 1) (↑m:Int))),(((!bif bif bif !true then true else !true then true else decide ((↑e:Int)<0) then true else decide ((↑e:Int)≥(↑nb:Int)))=true)→(((decide ((↑m:Int)>0))=true)→ (((!bif bif bif !true then true else !true then true else decide ((↑e:Int)<0) then true else decide ((↑e:Int)≥(↑nb:Int)))&&decide ((↑m:Int)>0))=true))),(((bif bif bif !true then true else !true then true else decide ((↑e:Int)<0) then true else decide ((↑e:Int)≥(↑nb:Int)))=false)→ ((!bif bif bif !true then true else !true then true else decide ((↑e:Int)<0) then true else decide ((↑e:Int)≥(↑nb:Int)))=true)),((bif bif bif bif !true then true else !true then true else decide ((↑e:Int)<0) then true else decide ((↑e:Int)≥(↑nb:Int)) then true else bif decide ((↑m:Int)>0) then decide (Q ((↑m:Int) - 1).toNat≥(↑e:Int)) else false)=false),(IL 0 (↑e:Int)),(IT (↑e:Int) (↑nb:Int)),((true=true)→ (AN 1)),(ZLo ((↑l:Int)+1)),(ZHi ((↑l:Int)+1)),zE 113 [(zf80 N nb g),(zf45 N F m T Q),.p (.int .i64 ((g e).1)),.p (.int .i64 ((g e).2.1)),.p (.int .i64 ((↑l:Int)+1))] (zf26 N F1 m T1 Q) ((zf88 N m)),((!false)=true),zE 123 [(zf45 N F m T Q)] (zf26 N F m T Q) (.agg [.ar 1 0 0 N,.ar 1 1 0 m,.ar 1 2 0 m]),(AN 0),(AN N),(AN m),(false=false),(AN 1),(NL N N),(AA N (fun i=>[.p (.int .i64 (F i))])),(NL m m),(AA m (fun i=>[.p (.int .i64 (T i))])),(AA m (fun i=>[.p (.int .i64 (Q i))])),(AE N),(AE m)] [0,0,1,2,2,3,2,4,5,6,7,8,7,7,7,9,10,11,10,10,10,12,13,12,13,12,12,14,15,12,12,16,17,12,12,12,10,18,19,20,0,21,22,0,23,0,0,0,0,24,25,26,0,23,27,0,28,0,23,0,29,30,29,31,29,31,32,33,34,35,33,36,37,33,36,38,39,40,40]):=by kernel_rfl
theorem nPa (g:Nat→T_Bar) (nb N k l m e:Nat) (F T Q F1 T1:Nat→Int) :
    zS Try.f108 [rg 4,rm [(3,oc [] (.p (.bool true))),(4,oc [] (.p (.bool true)))] 31,.dec false,rg 7,rm [(8,oc (pebR N m F1 T1 Q) (.tup [pebO N m 0,.p (.bool true)]))] 6,rg 2,.dec false,rg 3,rg 7,.dec false,rg 11,rg 7,rg 7,rg 3] [grG g nb N,.p (.int .i64 k),.p (.int .i64 l),pebD N m F T Q,.p (.int .i64 e)] [1888,2976,3200] (pebR N (m+1) (fun s=>if s=(g e).1.toNat then F1 s - 1 else F1 s) (fun s=>if s<m then T1 s else (g e).1) (fun s=>if s<m then Q s else e)) (.tup [pebO N (m+1) 0,.p (.bool true)]) =
    some (zD [(NT 0 1),zE 122 [(zf80 N nb g),.p (.int .i64 (↑k:Int)),(zf45 N F m T Q)] [] (.p (.bool true)),(AG (!!true)),(((!!true)=true)→ zE 107 [.p (.int .i64 (↑k:Int)),.p (.int .i64 (↑l:Int))] [] (.p (.bool true))),(((!true)=false)→ ((!!true)=true)),(AG (!bif !true then true else !true)),(((bif !true then true else !true)=false)→ ((!bif !true then true else !true)=true)),(AG (!bif bif !true then true else !true then true else decide ((↑e:Int)<0))),(((!bif bif !true then true else !true then true else decide ((↑e:Int)<0))=true)→(NT 0 1)),(((bif bif !true then true else !true then true else decide ((↑e:Int)<0))=false)→ ((!bif bif !true then true else !true then true else decide ((↑e:Int)<0))=true)),(AG (!bif bif bif !true then true else !true then true else decide ((↑e:Int)<0) then true else decide ((↑e:Int)≥(↑nb:Int)))),(((!bif bif bif !true then true else !true then true else decide ((↑e:Int)<0) then true else decide ((↑e:Int)≥(↑nb:Int)))=true)→(NT 0 1)),(AG ((!bif bif bif !true then true else !true then true else decide ((↑e:Int)<0) then true else decide ((↑e:Int)≥(↑nb:Int)))&&decide ((↑m:Int)>0))),((((!bif bif bif !true then true else !true then true else decide ((↑e:Int)<0) then true else decide ((↑e:Int)≥(↑nb:Int)))&&decide ((↑m:Int)>0))=true)→(NT 0 1)),((((!bif bif bif !true then true else !true then true else decide ((↑e:Int)<0) then true else decide ((↑e:Int)≥(↑nb:Int)))&&decide ((↑m:Int)>0))=true)→(ZLo ((↑m:Int) - 1))),((((!bif bif bif !true then true else !true then true else decide ((↑e:Int)<0) then true else decide ((↑e:Int)≥(↑nb:Int)))&&decide ((↑m:Int)>0))=true)→(ZHi ((↑m:Int) - 1))),((((!bif bif bif !true then true else !true then true else decide ((↑e:Int)<0) then true else decide ((↑e:Int)≥(↑nb:Int)))&&decide ((↑m:Int)>0))=true)→(IL 0 ((↑m:Int) - 1))),((((!bif bif bif !true then true else !true then true else decide ((↑e:Int)<0) then true else decide ((↑e:Int)≥(↑nb:Int)))&&decide ((↑m:Int)>0))=true)→(IT ((↑m:Int) - 1) (↑m:Int))),(((!bif bif bif !true then true else !true then true else decide ((↑e:Int)<0) then true else decide ((↑e:Int)≥(↑nb:Int)))=true)→(((decide ((↑m:Int)>0))=true)→ (((!bif bif bif !true then true else !true then true else decide ((↑e:Int)<0) then true else decide ((↑e:Int)≥(↑nb:Int)))&&decide ((↑m:Int)>0))=true))),(((bif bif bif !true then true else !true then true else decide ((↑e:Int)<0) then true else decide ((↑e:Int)≥(↑nb:Int)))=false)→ ((!bif bif bif !true then true else !true then true else decide ((↑e:Int)<0) then true else decide ((↑e:Int)≥(↑nb:Int)))=true)),((bif bif bif bif !true then true else !true then true else decide ((↑e:Int)<0) then true else decide ((↑e:Int)≥(↑nb:Int)) then true else bif decide ((↑m:Int)>0) then decide (Q ((↑m:Int) - 1).toNat≥(↑e:Int)) else false)=false),(IL 0 (↑e:Int)),(IT (↑e:Int) (↑nb:Int)),((true=true)→ (AN 1)),(ZLo ((↑l:Int)+1)),(ZHi ((↑l:Int)+1)),zE 113 [(zf80 N nb g),(zf45 N F m T Q),.p (.int .i64 ((g e).1)),.p (.int .i64 ((g e).2.1)),.p (.int .i64 ((↑l:Int)+1))] (zf26 N F1 m T1 Q) ((zf89 N m)),((!true)=false),(IL 0 ((g e).1)),(IT ((g e).1) (↑N:Int)),(NT ((g e).1.toNat) N),((F1 (g e).1.toNat==0)=false),(ZLo (F1 (g e).1.toNat - 1)),(ZHi (F1 (g e).1.toNat - 1)),((false=true)→ ((N:Nat)=1)),(NL 1 1),(NL m m),(NL ((m+1)*8) 140737488355328),(NL (m+1) 9223372036854775807),(AN 0),(AN N),(AN ((m+1))),(true=true),(AN 1),(NL N N),(CV [(64,⟨true,3,1,(fun i_1=>[.ar 1 1888 0 N,.ar 1 2976 0 (m+1),.ar 1 3200 0 (m+1)])⟩),(2016,⟨true,3,1,(fun i_1=>[.ar 1 1888 0 N,.ar 1 2976 0 (m+1),.ar 1 3200 0 (m+1)])⟩),(3200,⟨false,1,(m+1),(fun i_1=>(if (i_1<m) then [.p (.int .i64 (Q i_1))] else [.p (.int .i64 (↑e:Int))]))⟩),(3168,⟨false,1,1,(fun i_1=>[.p (.int .i64 (↑e:Int))])⟩),(2976,⟨false,1,(m+1),(fun i_1=>(if (i_1<m) then [.p (.int .i64 (T1 i_1))] else [.p (.int .i64 ((g e).1))]))⟩),(2944,⟨false,1,1,(fun i_1=>[.p (.int .i64 ((g e).1))])⟩),(1888,⟨false,1,N,(fun i_1=>(if (i_1=(g e).1.toNat) then [.p (.int .i64 (F1 (g e).1.toNat - 1))] else [.p (.int .i64 (F1 i_1))]))⟩),(1568,⟨true,2,1,(fun i_1=>[.p (.int .i64 ((g e).1)),.p (.int .i64 ((g e).2.1))])⟩),(32,⟨true,3,1,(fun i_1=>[.p (.seq true 1 N (fun i_2=>[.int .i64 (F i_2)])),.p (.seq true 1 m (fun i_2=>[.int .i64 (T i_2)])),.p (.seq true 1 m (fun i_2=>[.int .i64 (Q i_2)]))])⟩),(0,⟨true,2,1,(fun i_1=>[.p (.int .i64 (↑N:Int)),.p (.seq true 2 nb (bRw g))])⟩)] [1888,2976,3200] 1 N (fun i=>if (i=(g e).1.toNat) then [.p (.int .i64 (F1 (g e).1.toNat - 1))] else [.p (.int .i64 (F1 i))]) (fun i=>[.p (.int .i64 (if i=(g e).1.toNat then F1 i - 1 else F1 i))])),(NL (m+1) (m+1)),(CV [(64,⟨true,3,1,(fun i_1=>[.ar 1 1888 0 N,.ar 1 2976 0 (m+1),.ar 1 3200 0 (m+1)])⟩),(2016,⟨true,3,1,(fun i_1=>[.ar 1 1888 0 N,.ar 1 2976 0 (m+1),.ar 1 3200 0 (m+1)])⟩),(3200,⟨false,1,(m+1),(fun i_1=>(if (i_1<m) then [.p (.int .i64 (Q i_1))] else [.p (.int .i64 (↑e:Int))]))⟩),(3168,⟨false,1,1,(fun i_1=>[.p (.int .i64 (↑e:Int))])⟩),(2976,⟨false,1,(m+1),(fun i_1=>(if (i_1<m) then [.p (.int .i64 (T1 i_1))] else [.p (.int .i64 ((g e).1))]))⟩),(2944,⟨false,1,1,(fun i_1=>[.p (.int .i64 ((g e).1))])⟩),(1888,⟨false,1,N,(fun i_1=>(if (i_1=(g e).1.toNat) then [.p (.int .i64 (F1 (g e).1.toNat - 1))] else [.p (.int .i64 (F1 i_1))]))⟩),(1568,⟨true,2,1,(fun i_1=>[.p (.int .i64 ((g e).1)),.p (.int .i64 ((g e).2.1))])⟩),(32,⟨true,3,1,(fun i_1=>[.p (.seq true 1 N (fun i_2=>[.int .i64 (F i_2)])),.p (.seq true 1 m (fun i_2=>[.int .i64 (T i_2)])),.p (.seq true 1 m (fun i_2=>[.int .i64 (Q i_2)]))])⟩),(0,⟨true,2,1,(fun i_1=>[.p (.int .i64 (↑N:Int)),.p (.seq true 2 nb (bRw g))])⟩)] [1888,2976,3200] 1 (m+1) (fun i=>if (i<m) then [.p (.int .i64 (T1 i))] else [.p (.int .i64 ((g e).1))]) (fun i=>[.p (.int .i64 (if i<m then T1 i else (g e).1))])),(CV [(64,⟨true,3,1,(fun i_1=>[.ar 1 1888 0 N,.ar 1 2976 0 (m+1),.ar 1 3200 0 (m+1)])⟩),(2016,⟨true,3,1,(fun i_1=>[.ar 1 1888 0 N,.ar 1 2976 0 (m+1),.ar 1 3200 0 (m+1)])⟩),(3200,⟨false,1,(m+1),(fun i_1=>(if (i_1<m) then [.p (.int .i64 (Q i_1))] else [.p (.int .i64 (↑e:Int))]))⟩),(3168,⟨false,1,1,(fun i_1=>[.p (.int .i64 (↑e:Int))])⟩),(2976,⟨false,1,(m+1),(fun i_1=>(if (i_1<m) then [.p (.int .i64 (T1 i_1))] else [.p (.int .i64 ((g e).1))]))⟩),(2944,⟨false,1,1,(fun i_1=>[.p (.int .i64 ((g e).1))])⟩),(1888,⟨false,1,N,(fun i_1=>(if (i_1=(g e).1.toNat) then [.p (.int .i64 (F1 (g e).1.toNat - 1))] else [.p (.int .i64 (F1 i_1))]))⟩),(1568,⟨true,2,1,(fun i_1=>[.p (.int .i64 ((g e).1)),.p (.int .i64 ((g e).2.1))])⟩),(32,⟨true,3,1,(fun i_1=>[.p (.seq true 1 N (fun i_2=>[.int .i64 (F i_2)])),.p (.seq true 1 m (fun i_2=>[.int .i64 (T i_2)])),.p (.seq true 1 m (fun i_2=>[.int .i64 (Q i_2)]))])⟩),(0,⟨true,2,1,(fun i_1=>[.p (.int .i64 (↑N:Int)),.p (.seq true 2 nb (bRw g))])⟩)] [1888,2976,3200] 1 (m+1) (fun i=>if (i<m) then [.p (.int .i64 (Q i))] else [.p (.int .i64 (↑e:Int))]) (fun i=>[.p (.int .i64 (if i<m then Q i else (↑e:Int)))])),(AE N),(AE ((m+1)))] [0,0,1,2,2,3,2,4,5,6,7,8,7,7,7,9,10,11,10,10,10,12,13,12,13,12,12,14,15,12,12,16,17,12,12,12,10,18,19,20,0,21,22,0,23,0,0,0,0,24,25,26,0,23,27,0,0,0,28,29,30,31,0,0,28,29,30,32,33,28,29,30,34,0,35,36,37,38,0,23,0,35,36,37,38,0,23,0,0,23,0,39,40,39,41,39,41,42,43,44,45,43,46,47,43,46,48,49,50,50]):=by kernel_rfl
theorem nPb (g:Nat→T_Bar) (nb N k l m e:Nat) (F T Q F1 T1:Nat→Int) :
    zS Try.f108 [rg 4,rm [(3,oc [] (.p (.bool true))),(4,oc [] (.p (.bool true)))] 31,.dec false,rg 7,rm [(8,oc (pebR N m F1 T1 Q) (.tup [pebO N m 0,.p (.bool true)]))] 6,rg 2,.dec false,rg 3,rg 7,.dec true,rg 3,rg 11,rg 7,rg 7,rg 3] [grG g nb N,.p (.int .i64 k),.p (.int .i64 l),pebD N m F T Q,.p (.int .i64 e)] [1888,3072,3296] (pebR N (m+1) (fun s=>if s=(g e).2.1.toNat then F1 s - 1 else F1 s) (fun s=>if s<m then T1 s else (g e).2.1) (fun s=>if s<m then Q s else e)) (.tup [pebO N (m+1) 0,.p (.bool true)]) =
    some (zD [(NT 0 1),zE 122 [(zf80 N nb g),.p (.int .i64 (↑k:Int)),(zf45 N F m T Q)] [] (.p (.bool true)),(AG (!!true)),(((!!true)=true)→ zE 107 [.p (.int .i64 (↑k:Int)),.p (.int .i64 (↑l:Int))] [] (.p (.bool true))),(((!true)=false)→ ((!!true)=true)),(AG (!bif !true then true else !true)),(((bif !true then true else !true)=false)→ ((!bif !true then true else !true)=true)),(AG (!bif bif !true then true else !true then true else decide ((↑e:Int)<0))),(((!bif bif !true then true else !true then true else decide ((↑e:Int)<0))=true)→(NT 0 1)),(((bif bif !true then true else !true then true else decide ((↑e:Int)<0))=false)→ ((!bif bif !true then true else !true then true else decide ((↑e:Int)<0))=true)),(AG (!bif bif bif !true then true else !true then true else decide ((↑e:Int)<0) then true else decide ((↑e:Int)≥(↑nb:Int)))),(((!bif bif bif !true then true else !true then true else decide ((↑e:Int)<0) then true else decide ((↑e:Int)≥(↑nb:Int)))=true)→(NT 0 1)),(AG ((!bif bif bif !true then true else !true then true else decide ((↑e:Int)<0) then true else decide ((↑e:Int)≥(↑nb:Int)))&&decide ((↑m:Int)>0))),((((!bif bif bif !true then true else !true then true else decide ((↑e:Int)<0) then true else decide ((↑e:Int)≥(↑nb:Int)))&&decide ((↑m:Int)>0))=true)→(NT 0 1)),((((!bif bif bif !true then true else !true then true else decide ((↑e:Int)<0) then true else decide ((↑e:Int)≥(↑nb:Int)))&&decide ((↑m:Int)>0))=true)→(ZLo ((↑m:Int) - 1))),((((!bif bif bif !true then true else !true then true else decide ((↑e:Int)<0) then true else decide ((↑e:Int)≥(↑nb:Int)))&&decide ((↑m:Int)>0))=true)→(ZHi ((↑m:Int) - 1))),((((!bif bif bif !true then true else !true then true else decide ((↑e:Int)<0) then true else decide ((↑e:Int)≥(↑nb:Int)))&&decide ((↑m:Int)>0))=true)→(IL 0 ((↑m:Int) - 1))),((((!bif bif bif !true then true else !true then true else decide ((↑e:Int)<0) then true else decide ((↑e:Int)≥(↑nb:Int)))&&decide ((↑m:Int)>0))=true)→(IT ((↑m:Int) - 1) (↑m:Int))),(((!bif bif bif !true then true else !true then true else decide ((↑e:Int)<0) then true else decide ((↑e:Int)≥(↑nb:Int)))=true)→(((decide ((↑m:Int)>0))=true)→ (((!bif bif bif !true then true else !true then true else decide ((↑e:Int)<0) then true else decide ((↑e:Int)≥(↑nb:Int)))&&decide ((↑m:Int)>0))=true))),(((bif bif bif !true then true else !true then true else decide ((↑e:Int)<0) then true else decide ((↑e:Int)≥(↑nb:Int)))=false)→ ((!bif bif bif !true then true else !true then true else decide ((↑e:Int)<0) then true else decide ((↑e:Int)≥(↑nb:Int)))=true)),((bif bif bif bif !true then true else !true then true else decide ((↑e:Int)<0) then true else decide ((↑e:Int)≥(↑nb:Int)) then true else bif decide ((↑m:Int)>0) then decide (Q ((↑m:Int) - 1).toNat≥(↑e:Int)) else false)=false),(IL 0 (↑e:Int)),(IT (↑e:Int) (↑nb:Int)),((true=true)→ (AN 1)),(ZLo ((↑l:Int)+1)),(ZHi ((↑l:Int)+1)),zE 113 [(zf80 N nb g),(zf45 N F m T Q),.p (.int .i64 ((g e).1)),.p (.int .i64 ((g e).2.1)),.p (.int .i64 ((↑l:Int)+1))] (zf26 N F1 m T1 Q) ((zf89 N m)),((!true)=false),(IL 0 ((g e).1)),(IT ((g e).1) (↑N:Int)),(NT ((g e).1.toNat) N),((F1 (g e).1.toNat==0)=true),(IL 0 ((g e).2.1)),(IT ((g e).2.1) (↑N:Int)),(NT ((g e).2.1.toNat) N),(ZLo (F1 (g e).2.1.toNat - 1)),(ZHi (F1 (g e).2.1.toNat - 1)),((false=true)→ ((N:Nat)=1)),(NL 1 1),(NL m m),(NL ((m+1)*8) 140737488355328),(NL (m+1) 9223372036854775807),(AN 0),(AN N),(AN ((m+1))),(true=true),(AN 1),(NL N N),(CV [(64,⟨true,3,1,(fun i_1=>[.ar 1 1888 0 N,.ar 1 3072 0 (m+1),.ar 1 3296 0 (m+1)])⟩),(2016,⟨true,3,1,(fun i_1=>[.ar 1 1888 0 N,.ar 1 3072 0 (m+1),.ar 1 3296 0 (m+1)])⟩),(3296,⟨false,1,(m+1),(fun i_1=>(if (i_1<m) then [.p (.int .i64 (Q i_1))] else [.p (.int .i64 (↑e:Int))]))⟩),(3264,⟨false,1,1,(fun i_1=>[.p (.int .i64 (↑e:Int))])⟩),(3072,⟨false,1,(m+1),(fun i_1=>(if (i_1<m) then [.p (.int .i64 (T1 i_1))] else [.p (.int .i64 ((g e).2.1))]))⟩),(3040,⟨false,1,1,(fun i_1=>[.p (.int .i64 ((g e).2.1))])⟩),(1888,⟨false,1,N,(fun i_1=>(if (i_1=(g e).2.1.toNat) then [.p (.int .i64 (F1 (g e).2.1.toNat - 1))] else [.p (.int .i64 (F1 i_1))]))⟩),(1568,⟨true,2,1,(fun i_1=>[.p (.int .i64 ((g e).1)),.p (.int .i64 ((g e).2.1))])⟩),(32,⟨true,3,1,(fun i_1=>[.p (.seq true 1 N (fun i_2=>[.int .i64 (F i_2)])),.p (.seq true 1 m (fun i_2=>[.int .i64 (T i_2)])),.p (.seq true 1 m (fun i_2=>[.int .i64 (Q i_2)]))])⟩),(0,⟨true,2,1,(fun i_1=>[.p (.int .i64 (↑N:Int)),.p (.seq true 2 nb (bRw g))])⟩)] [1888,3072,3296] 1 N (fun i=>if (i=(g e).2.1.toNat) then [.p (.int .i64 (F1 (g e).2.1.toNat - 1))] else [.p (.int .i64 (F1 i))]) (fun i=>[.p (.int .i64 (if i=(g e).2.1.toNat then F1 i - 1 else F1 i))])),(NL (m+1) (m+1)),(CV [(64,⟨true,3,1,(fun i_1=>[.ar 1 1888 0 N,.ar 1 3072 0 (m+1),.ar 1 3296 0 (m+1)])⟩),(2016,⟨true,3,1,(fun i_1=>[.ar 1 1888 0 N,.ar 1 3072 0 (m+1),.ar 1 3296 0 (m+1)])⟩),(3296,⟨false,1,(m+1),(fun i_1=>(if (i_1<m) then [.p (.int .i64 (Q i_1))] else [.p (.int .i64 (↑e:Int))]))⟩),(3264,⟨false,1,1,(fun i_1=>[.p (.int .i64 (↑e:Int))])⟩),(3072,⟨false,1,(m+1),(fun i_1=>(if (i_1<m) then [.p (.int .i64 (T1 i_1))] else [.p (.int .i64 ((g e).2.1))]))⟩),(3040,⟨false,1,1,(fun i_1=>[.p (.int .i64 ((g e).2.1))])⟩),(1888,⟨false,1,N,(fun i_1=>(if (i_1=(g e).2.1.toNat) then [.p (.int .i64 (F1 (g e).2.1.toNat - 1))] else [.p (.int .i64 (F1 i_1))]))⟩),(1568,⟨true,2,1,(fun i_1=>[.p (.int .i64 ((g e).1)),.p (.int .i64 ((g e).2.1))])⟩),(32,⟨true,3,1,(fun i_1=>[.p (.seq true 1 N (fun i_2=>[.int .i64 (F i_2)])),.p (.seq true 1 m (fun i_2=>[.int .i64 (T i_2)])),.p (.seq true 1 m (fun i_2=>[.int .i64 (Q i_2)]))])⟩),(0,⟨true,2,1,(fun i_1=>[.p (.int .i64 (↑N:Int)),.p (.seq true 2 nb (bRw g))])⟩)] [1888,3072,3296] 1 (m+1) (fun i=>if (i<m) then [.p (.int .i64 (T1 i))] else [.p (.int .i64 ((g e).2.1))]) (fun i=>[.p (.int .i64 (if i<m then T1 i else (g e).2.1))])),(CV [(64,⟨true,3,1,(fun i_1=>[.ar 1 1888 0 N,.ar 1 3072 0 (m+1),.ar 1 3296 0 (m+1)])⟩),(2016,⟨true,3,1,(fun i_1=>[.ar 1 1888 0 N,.ar 1 3072 0 (m+1),.ar 1 3296 0 (m+1)])⟩),(3296,⟨false,1,(m+1),(fun i_1=>(if (i_1<m) then [.p (.int .i64 (Q i_1))] else [.p (.int .i64 (↑e:Int))]))⟩),(3264,⟨false,1,1,(fun i_1=>[.p (.int .i64 (↑e:Int))])⟩),(3072,⟨false,1,(m+1),(fun i_1=>(if (i_1<m) then [.p (.int .i64 (T1 i_1))] else [.p (.int .i64 ((g e).2.1))]))⟩),(3040,⟨false,1,1,(fun i_1=>[.p (.int .i64 ((g e).2.1))])⟩),(1888,⟨false,1,N,(fun i_1=>(if (i_1=(g e).2.1.toNat) then [.p (.int .i64 (F1 (g e).2.1.toNat - 1))] else [.p (.int .i64 (F1 i_1))]))⟩),(1568,⟨true,2,1,(fun i_1=>[.p (.int .i64 ((g e).1)),.p (.int .i64 ((g e).2.1))])⟩),(32,⟨true,3,1,(fun i_1=>[.p (.seq true 1 N (fun i_2=>[.int .i64 (F i_2)])),.p (.seq true 1 m (fun i_2=>[.int .i64 (T i_2)])),.p (.seq true 1 m (fun i_2=>[.int .i64 (Q i_2)]))])⟩),(0,⟨true,2,1,(fun i_1=>[.p (.int .i64 (↑N:Int)),.p (.seq true 2 nb (bRw g))])⟩)] [1888,3072,3296] 1 (m+1) (fun i=>if (i<m) then [.p (.int .i64 (Q i))] else [.p (.int .i64 (↑e:Int))]) (fun i=>[.p (.int .i64 (if i<m then Q i else (↑e:Int)))])),(AE N),(AE ((m+1)))] [0,0,1,2,2,3,2,4,5,6,7,8,7,7,7,9,10,11,10,10,10,12,13,12,13,12,12,14,15,12,12,16,17,12,12,12,10,18,19,20,0,21,22,0,23,0,0,0,0,24,25,26,0,23,27,0,0,0,28,29,30,31,0,0,0,32,33,34,35,36,32,33,34,37,0,38,39,40,41,0,23,0,38,39,40,41,0,23,0,0,23,0,42,43,42,44,42,44,45,46,47,48,46,49,50,46,49,51,52,53,53]):=by kernel_rfl
theorem nUz (g:Nat→T_Bar) (nb N k l:Nat) :
    zT Try.f85 [rg 3,rm [(2,oc (pebR N 0 (fun _=>k) (fun _=>0) (fun _=>0)) (.tup [pebO N 0 0,.p (.bool true)]))] 6,rm [(5,oc [] (.p (.bool true)))] 2,.dec false,rg 1,.head] [grG g nb N,.p (.int .i64 k),.p (.int .i64 l)] [0,32,288,160,161,162] (SRu g nb N k l 0 (fun _=>k) (fun _=>0) (fun _=>0) 0) =
    some (zf41,zD [(NT 0 1),zE 106 [(zf80 N nb g),.p (.int .i64 (↑k:Int))] [(0,⟨false,1,N,(fun i=>[.p (.int .i64 (↑k:Int))])⟩),(1,⟨false,1,0,(fun i=>[.p (.int .i64 0)])⟩),(2,⟨false,1,0,(fun i=>[.p (.int .i64 0)])⟩)] (.tup [.agg [.ar 1 0 0 N,.ar 1 1 0 0,.ar 1 2 0 0],.p (.bool true)]),((true=true)→ (AN 1)),(AG (!!true)),(((!!true)=true)→ zE 107 [.p (.int .i64 (↑k:Int)),.p (.int .i64 (↑l:Int))] [] (.p (.bool true))),(((!true)=false)→ ((!!true)=true)),((bif !true then true else !true)=false),(AI ((↑N:Int))),(AN nb),(AP nb (bRw g)),(AI ((↑k:Int))),(AI ((↑l:Int))),(AN 0),((0:Int)=(↑0:Int)),((([AV.p (PV.int IntKind.i64 (↑N:Int)),brL g nb].length):Nat)=2),(NL 1 1),((((List.map (fun v=>AV.p (absV v)) [Value.slice none 0 0,Value.slice none 0 0,Value.slice none 0 0]).length):Nat)=3),(AN N),(AN 1),(NL N N),(AA N (fun i=>[.p (.int .i64 (↑k:Int))])),(NL 0 0),(AA 0 (fun i=>[.p (.int .i64 0)]))] [0,1,0,2,3,3,4,3,5,6,7,8,9,10,11,12,12,12,13,14,15,15,7,8,9,16,15,15,16,15,15,12,17,12,12,12,12,18,19,20,18,21,22,18,21,22]):=by kernel_rfl
theorem nUl (g:Nat→T_Bar) (nb N k l m m':Nat) (F T Q F' T' Q':Nat→Int) (i:Nat) (r:Bool) :
    zM 0 [rg 5,.dec true,rm [(5,oc (pebR N m' F' T' Q') (.tup [pebO N m' 0,.p (.bool r)]))] 4,rg 3,.head] zf41 (SRu g nb N k l m F T Q i) [0,1,2,326,327,328] 1 (SRu g nb N k l m' F' T' Q' (i+1)) =
    some (zf41,zD [(NT 0 1),((decide ((↑i:Int)<(↑nb:Int)))=true),(AN 1),(NL N N),(NL m m),zE 108 [(zf78 N nb g),.p (.int .i64 (↑k:Int)),.p (.int .i64 (↑l:Int)),(zf27 N F m T Q),.p (.int .i64 (↑i:Int))] (zf21 N F' m' T' Q') (.tup [.agg [.ar 1 0 0 N,.ar 1 1 0 m',.ar 1 2 0 m'],.p (.bool r)]),((true=true)→ (AN 1)),(ZLo ((↑i:Int)+1)),(ZHi ((↑i:Int)+1)),(AI ((↑N:Int))),(AN nb),(AP nb (bRw g)),(AI ((↑k:Int))),(AI ((↑l:Int))),(AN 0),((((↑i:Int)+1):Int)=(↑(i+1):Int)),(AN 2),(NL 1 1),(AN 3),(AN N),(AN (m')),(AA N (fun i_1=>[.p (.int .i64 (F' i_1))])),(NL (m') (m')),(AA (m') (fun i_1=>[.p (.int .i64 (T' i_1))])),(AA (m') (fun i_1=>[.p (.int .i64 (Q' i_1))]))] [0,1,0,0,2,3,2,4,2,4,5,0,6,7,8,9,10,11,12,13,14,14,14,15,16,17,17,9,10,11,18,17,17,18,17,17,14,19,14,20,14,20,2,3,21,2,22,23,2,22,24]):=by kernel_rfl
theorem nUe (g:Nat→T_Bar) (nb N k l m:Nat) (F T Q:Nat→Int) (i:Nat) :
    zP Try.f85 0 [rg 5,.dec false,rg 3] zf41 (SRu g nb N k l m F T Q i) [3,4,5] 1 (pebR N m F T Q) (.tup [pebO N m 0,.p (.bool true)]) =
    some (zD [(NT 0 1),((decide ((↑i:Int)<(↑nb:Int)))=false),((true=true)→ (AN 1)),(AN 0),(AN N),(AN m),(true=true),(AN 1),(NL N N),(AA N (fun i_1=>[.p (.int .i64 (F i_1))])),(NL m m),(AA m (fun i_1=>[.p (.int .i64 (T i_1))])),(AA m (fun i_1=>[.p (.int .i64 (Q i_1))])),(AE N),(AE m)] [0,1,0,0,2,0,3,4,3,5,3,5,6,7,8,9,7,10,11,7,10,12,13,14,14]):=by kernel_rfl
theorem con_IsRange_i (k l:Nat) (hk:1≤k∧k≤3) (hl:l+1≤2*k):zE 120 [.p (.int .i64 k),.p (.int .i64 l)] [] (.p (.bool true)):=by
  have h1:=con_within k 1 3
  rw [show inB k 1 3=true by simp [inB];omega] at h1
  have h2:=con_within l 0 (2*(k:Int) - 1)
  rw [show inB l 0 (2*(k:Int) - 1)=true by simp [inB];omega] at h2
  refine csZ Try.func120 (fun c hc=>?_)
  refine pkD Try.func120 hc (nRi k l) ?_
  and_intros
  all_goals (first | exact zI | (exact h1) | (intros;exact h2) | (intros;omega) | (simp;done))
theorem con_IsRange_s (k l:Nat) (hk:1≤k∧k≤3) (hl:l+1≤2*k):zE 107 [.p (.int .i64 k),.p (.int .i64 l)] [] (.p (.bool true)):=by
  have h1:=con_l1In k 1 3
  rw [show inB k 1 3=true by simp [inB];omega] at h1
  refine csZ Try.func107 (fun c hc=>?_)
  refine pkD Try.func107 hc (nRs k l) ?_
  and_intros
  all_goals (first | exact zI | (exact h1) | (intros;omega) | (simp;omega))
def NonN (Q:Nat→Int) (m:Nat):Prop:=∀ j,j<m→0≤Q j
theorem con_RunPebbles_i {N nb:Nat} {g:Nat→T_Bar} (hg:isGraphF ((N:Int),(nb,g),())=true) (k l:Nat) (hk:1≤k∧k≤3) (hl:l+1≤2*k) :
    ∃ m F T Q,zE 105 [grG g nb N,.p (.int .i64 k),.p (.int .i64 l)] (pebR N m F T Q) (.tup [pebO N m 0,.p (.bool true)])∧m≤24∧NonN Q m∧qL Q m=accI N k l g nb:=by
  obtain ⟨hN,hnb,hok⟩:=graph_in hg
  have hsm:smS s_Graph ((N:Int),(nb,g),()):=⟨by simp [smS,smL],⟨by show nb≤1048576;omega,fun i hi=>by simp [smS,smL]⟩,True.intro⟩
  have hcg:=con_IsGraph_i ((N:Int),(nb,g),()) hsm
  rw [hg] at hcg
  have hr:=con_IsRange_i k l hk hl
  obtain ⟨m,F,T,Q,hc1,hp,hq⟩:=con_play (N:=N) (k:=k) (l:=l) hok (by omega) (by omega) (by omega) (by omega)
  have hm:m≤24:=by
    have:=accI_len N k l g nb
    rw [← hq,qL_length] at this;omega
  refine ⟨m,F,T,Q,?_,hm,fun j hj=>(hp.q j hj).1,hq⟩
  refine csZ Try.func105 (fun c hc=>?_)
  refine pkD Try.func105 hc (nUi g nb N k l m F T Q) ?_
  and_intros
  all_goals (first | exact zH | (exact hcg) | (intros;exact hr) | (exact hc1) | (simp;done) | (intro i hi;simp [All]))
theorem con_RankOf_i {N nb:Nat} {g:Nat→T_Bar} (hg:isGraphF ((N:Int),(nb,g),())=true) (k l:Nat) (hk:1≤k∧k≤3) (hl:l+1≤2*k) :
    zE 81 [grG g nb N,.p (.int .i64 k),.p (.int .i64 l)] [] (.p (.int .i64 ((accI N k l g nb).length:Nat))):=by
  obtain ⟨m,F,T,Q,hrun,hm,hn,hq⟩:=con_RunPebbles_i hg k l hk hl
  rw [← hq,qL_length]
  refine csZ Try.func81 (fun c hc=>?_)
  refine pkZ Try.func81 hc (nKi g nb N k l m F T Q) ?_
  and_intros
  all_goals (first | exact zI | (exact hrun) | (simp;done) | (intro i hi;simp [All]))
theorem con_l4Tail (N m:Nat) (F T Q:Nat→Int) (x:Int) (hm:m≤1048576):zE 148 [pebD N m F T Q,.p (.int .i64 x)] [] (.p (.int .i64 (tcI T m x))):=by
  have hle:∀ i,0≤tcI T i x∧tcI T i x≤i:=by
    intro i
    induction i with
    | zero=>simp [tcI]
    | succ i ih=>simp only [tcI];split<;>omega
  refine csZ Try.func148 (fun c hc=>?_)
  have lp:∀ d i,i+d=m→zR c 148 zf50 (ST0 N m F T Q x i) (Post c [] (.p (.int .i64 (tcI T m x)))):=by
    intro d
    induction d with
    | zero =>
      intro i hi
      have hi':i=m:=by omega
      have hd:decide ((i:Int)<(m:Int))=false:=by simp;omega
      rw [show tcI T m x=tcI T i x by rw [hi']]
      refine pkZ Try.func148 hc (nTe N m F T Q x i) ?_
      and_intros
      all_goals (first | exact zN | (exact hd) | (simp;done))
    | succ d ih =>
      intro i hi
      have hd:decide ((i:Int)<(m:Int))=true:=by simp;omega
      have hl:=hle i
      by_cases h:T i=x
      · have hb:(T i==x)=true:=by simp [h]
        refine pcD hc (nTt N m F T Q x i) ?_ (ih (i+1) (by omega))
        and_intros
        all_goals (first | exact zN | (exact hb) | (simp only [tcI,h,if_true];done) | (simp only [tcI,h,if_true];omega) | (intro j hj;simp [All]))
      · have hb:(T i==x)=false:=by simp [h]
        refine pcD hc (nTf N m F T Q x i) ?_ (ih (i+1) (by omega))
        and_intros
        all_goals (first | exact zN | (exact hb) | (simp only [tcI,h,if_false];omega) | (intro j hj;simp [All]))
  refine pcD hc (nTz N m F T Q x) ?_ (lp m 0 (by omega))
  and_intros
  all_goals (first | exact zN | (intro j hj;simp [All]))
def Asc (Q:Nat→Int) (m:Nat):Prop:=∀ j,j+1<m→Q j<Q (j+1)
theorem badI_f {N k nb m:Nat} {g:Nat→T_Bar} {F T Q:Nat→Int} (hp:PInv N k nb m g F T Q) (ha:Asc Q m) (i:Nat) (hi:i<m):badI g nb T Q i=false:=by
  have h1:=hp.q i hi
  have h2:=hp.t i hi
  have a1:decide (Q i<0)=false:=by simp;omega
  have a2:decide (Q i≥(nb:Int))=false:=by simp;omega
  have a3:(bif decide ((i:Int)>0) then decide (Q ((i:Int) - 1).toNat≥Q i) else false)=false:=by
    by_cases h:i=0
    · subst h;rfl
    · have:=ha (i - 1) (by omega)
      have e:((i:Int) - 1).toNat=i - 1:=by omega
      rw [show i - 1+1=i by omega] at this
      rw [e]
      have h4:decide (Q (i - 1)≥Q i)=false:=by simp;omega
      rw [h4]
      cases decide ((i:Int)>0)<;>rfl
  have a4:(bif T i != (g (Q i).toNat).1 then T i != (g (Q i).toNat).2.1 else false)=false:=by
    rcases h2 with e | e
    · rw [show (T i != (g (Q i).toNat).1)=false by simp [e]];rfl
    · rw [show (T i != (g (Q i).toNat).2.1)=false by simp [e]]
      cases (T i != (g (Q i).toNat).1)<;>rfl
  unfold badI
  rw [a1,a2,a3,a4]
  rfl
theorem con_IsPebbles {N k nb m:Nat} {g:Nat→T_Bar} {F T Q:Nat→Int} (hp:PInv N k nb m g F T Q) (ha:Asc Q m) (hg:isGraphF ((N:Int),(nb,g),())=true) (hk:1≤k∧k≤3) (hm:m≤1048576) :
    zE 122 [grG g nb N,.p (.int .i64 k),pebD N m F T Q] [] (.p (.bool true)):=by
  obtain ⟨hN,hnb,hok⟩:=graph_in hg
  have hsm:smS s_Graph ((N:Int),(nb,g),()):=⟨by simp [smS,smL],⟨by show nb≤1048576;omega,fun i hi=>by simp [smS,smL]⟩,True.intro⟩
  have hcg:=con_IsGraph_s ((N:Int),(nb,g),()) hsm
  rw [hg] at hcg
  have h1:=con_l1In k 1 3
  rw [show inB k 1 3=true by simp [inB];omega] at h1
  refine csZ Try.func122 (fun c hc=>?_)
  have lp1:∀ d i,i+d=N→zR c 122 zf32 (SI1 g nb N k m F T Q i) (Post c [] (.p (.bool true))):=by
    intro d
    induction d with
    | zero =>
      intro i hi
      have hd:decide ((i:Int)<(N:Int))=false:=by simp;omega
      refine pkZ Try.func122 hc (nJe g nb N k m F T Q i) ?_
      and_intros
      all_goals (first | exact zN | (exact hd) | (simp;done))
    | succ d ih =>
      intro i hi
      have hd:decide ((i:Int)<(N:Int))=true:=by simp;omega
      have ht:=con_l4Tail N m F T Q i hm
      have hf0:=hp.f0 i (by omega)
      have hsum:=hp.sum i (by omega)
      have htn:=tcI_nonneg T i m
      have hb:(bif decide (F i<0) then true else F i+tcI T m i != (k:Int))=false:=by
        have h4:decide (F i<0)=false:=by simp;omega
        rw [h4]
        simp [hsum]
      refine pcD hc (nI1 g nb N k m F T Q i) ?_ (ih (i+1) (by omega))
      and_intros
      all_goals (first | exact zH | (intros;exact ht) | (exact hb) | (intros;omega) | (intro j hj;simp [All]))
  have lp0:∀ d i,i+d=m→zR c 122 zf51 (SI0 g nb N k m F T Q i) (Post c [] (.p (.bool true))):=by
    intro d
    induction d with
    | zero =>
      intro i hi
      have hd:decide ((i:Int)<(m:Int))=false:=by simp;omega
      refine pcD hc (nI01 g nb N k m F T Q i) ?_ (lp1 N 0 (by omega))
      and_intros
      all_goals (first | exact zN | (exact hd) | (intro j hj;simp [All]))
    | succ d ih =>
      intro i hi
      have him:i<m:=by omega
      have hd:decide ((i:Int)<(m:Int))=true:=by simp;omega
      have hbad:=badI_f hp ha i him
      have hq:=hp.q i him
      refine pcD hc (nI0 g nb N k m F T Q i) ?_ (ih (i+1) (by omega))
      and_intros
      all_goals (first | exact zH | (exact hbad) | (intros;omega) | (intro h;have:=idx_lt h him;omega) | (intro h;show (0:Int)≤Q i∧Q i<nb;omega) | (intro j hj;simp [All]))
  refine pcD hc (nJz g nb N k m F T Q) ?_ (lp0 m 0 (by omega))
  and_intros
  all_goals (first | exact zH | (exact hcg) | (intros;exact h1) | (simp;done) | (intro j hj;simp [All]))
theorem con_PlaceBar {N k nb m l e:Nat} {g:Nat→T_Bar} {F T Q:Nat→Int} (hp:PInv N k nb m g F T Q) (ha:Asc Q m) (hlt:∀ j,j<m→Q j<e) (hg:isGraphF ((N:Int),(nb,g),())=true) (hk:1≤k∧k≤3) (hl:l+1≤2*k) (hm:m≤1000) (he:e<nb)
    (hsp:Mat.Sparse N k l (plL g Q m)) :
    (∃ F' T',zE 108 [grG g nb N,.p (.int .i64 k),.p (.int .i64 l),pebD N m F T Q,.p (.int .i64 (e:Nat))] (pebR N (m+1) F' T' (fun s=>if s<m then Q s else e)) (.tup [pebO N (m+1) 0,.p (.bool true)]) ∧
      PInv N k nb (m+1) g F' T' (fun s=>if s<m then Q s else e)∧Mat.Sparse N k l (plL g Q m++[brN (g e)])) ∨
    (zE 108 [grG g nb N,.p (.int .i64 k),.p (.int .i64 l),pebD N m F T Q,.p (.int .i64 (e:Nat))] (pebR N m F T Q) (.tup [pebO N m 0,.p (.bool false)])∧¬ Mat.Sparse N k l (plL g Q m++[brN (g e)])):=by
  obtain ⟨hN,hnb,hok⟩:=graph_in hg
  have hbar:=hok e he
  have hip:=con_IsPebbles hp ha hg hk (by omega)
  have hir:=con_IsRange_s k l hk hl
  have hcc:=con_l4Copy N m F T Q (by omega) (by omega)
  have hb:(bif bif bif bif !true then true else !true then true else decide ((e:Int)<0) then true else decide ((e:Int)≥(nb:Int)) then true else bif decide ((m:Int)>0) then decide (Q ((m:Int) - 1).toNat≥(e:Int)) else false)=false:=by
    have b1:decide ((e:Int)<0)=false:=decide_eq_false (by omega)
    have b2:decide ((e:Int)≥(nb:Int))=false:=by simp;omega
    have b3:(bif decide ((m:Int)>0) then decide (Q ((m:Int) - 1).toNat≥(e:Int)) else false)=false:=by
      by_cases h:m=0
      · subst h;rfl
      · have:=hlt ((m:Int) - 1).toNat (by omega)
        have h4:decide (Q ((m:Int) - 1).toNat≥(e:Int))=false:=decide_eq_false (by omega)
        rw [h4]
        cases decide ((m:Int)>0)<;>rfl
    rw [b1,b2,b3];rfl
  obtain ⟨F1,T1,r,hc1,h1,h2,h3⟩:=con_l4Gather (l:=l) (a:=(g e).1) (b:=(g e).2.1) hp (by omega) (by omega) (by omega) (by omega) (by omega) (by omega) (by omega)
  have hlA:=h1.le (v:=(g e).1.toNat) (by omega)
  have hlB:=h1.le (v:=(g e).2.1.toNat) (by omega)
  cases r with
  | false =>
    right
    refine ⟨?_,h3 rfl⟩
    refine csZ Try.func108 (fun c hc=>?_)
    refine pkD Try.func108 hc (nPf g nb N k l m e F T Q F1 T1) ?_
    and_intros
    all_goals (first | exact zH | (exact hip) | (intros;exact hir) | (exact hb) | (exact hc1) | (exact hcc) | (simp;done) | (intro h;have:=idx_lt h (Nat.lt_succ_self m);omega) | (intro i hi;simp [All]))
  | true =>
    left
    have hw:=h2 rfl
    have hacc:Mat.Sparse N k l (plL g Q m++[brN (g e)]):=by
      have:=(h1.game l).accept (by rw [barsOf_gm];exact hsp) (g e).1.toNat (g e).2.1.toNat ⟨by show (g e).1.toNat≠(g e).2.1.toNat;omega,by show (g e).1.toNat<N;omega,by show (g e).2.1.toNat<N;omega⟩
        (by show l+1≤(F1 (g e).1.toNat).toNat+(F1 (g e).2.1.toNat).toNat;omega)
      rw [barsOf_gm] at this
      exact this
    by_cases hz:F1 (g e).1.toNat=0
    · have hzb:(F1 (g e).1.toNat==0)=true:=by simp [hz]
      refine ⟨_,_,?_,h1.placed e he (g e).2.1 (.inr rfl) (by omega),hacc⟩
      refine csZ Try.func108 (fun c hc=>?_)
      refine pkD Try.func108 hc (nPb g nb N k l m e F T Q F1 T1) ?_
      and_intros
      all_goals (first | exact zH | (exact hip) | (intros;exact hir) | (exact hb) | (exact hc1) | (exact hzb) | (simp;done) | (intro h;have:=idx_lt h (Nat.lt_succ_self m);omega) | (intro i hi;simp [All];done) | (intro i hi;by_cases h:i<m<;>simp [h,cvtL,cvt,tg,tru,All];done) | (intro i hi;by_cases h:i=(g e).2.1.toNat<;>simp [h,cvtL,cvt,tg,tru,All]))
    · have hzb:(F1 (g e).1.toNat==0)=false:=by simp [hz]
      refine ⟨_,_,?_,h1.placed e he (g e).1 (.inl rfl) (by omega),hacc⟩
      refine csZ Try.func108 (fun c hc=>?_)
      refine pkD Try.func108 hc (nPa g nb N k l m e F T Q F1 T1) ?_
      and_intros
      all_goals (first | exact zH | (exact hip) | (intros;exact hir) | (exact hb) | (exact hc1) | (exact hzb) | (simp;done) | (intro h;have:=idx_lt h (Nat.lt_succ_self m);omega) | (intro i hi;simp [All];done) | (intro i hi;by_cases h:i<m<;>simp [h,cvtL,cvt,tg,tru,All];done) | (intro i hi;by_cases h:i=(g e).1.toNat<;>simp [h,cvtL,cvt,tg,tru,All]))
theorem con_RunPebbles_s {N nb:Nat} {g:Nat→T_Bar} (hg:isGraphF ((N:Int),(nb,g),())=true) (k l:Nat) (hk:1≤k∧k≤3) (hl:l+1≤2*k) :
    ∃ m F T Q,zE 85 [grG g nb N,.p (.int .i64 k),.p (.int .i64 l)] (pebR N m F T Q) (.tup [pebO N m 0,.p (.bool true)])∧m≤24∧NonN Q m∧qL Q m=accI N k l g nb:=by
  obtain ⟨hN,hnb,hok⟩:=graph_in hg
  have hr:=con_IsRange_s k l hk hl
  have hn:=con_NewPebbles (nb:=nb) (g:=g) (N:=N) (k:=k) (by omega) hk hg (by omega)
  have lp:∀ d i m F T Q,i+d=nb→PInv N k nb m g F T Q→Asc Q m→(∀ j,j<m→Q j<(i:Nat))→qL Q m=accI N k l g i →
      ∃ m' F' T' Q',(∀ c,c.n=0→zR c 85 zf41 (SRu g nb N k l m F T Q i) (Post c (pebR N m' F' T' Q') (.tup [pebO N m' 0,.p (.bool true)])))∧NonN Q' m'∧qL Q' m'=accI N k l g nb:=by
    intro d
    induction d with
    | zero =>
      intro i m F T Q hi hp ha hlt hq
      have hi':i=nb:=by omega
      refine ⟨m,F,T,Q,fun c hc=>?_,fun j hj=>(hp.q j hj).1,by rw [hq,hi']⟩
      have hd:decide ((i:Int)<(nb:Int))=false:=by simp;omega
      refine pkD Try.func85 hc (nUe g nb N k l m F T Q i) ?_
      and_intros
      all_goals (first | exact zI | (exact hd) | (intro j hj;simp [All]))
    | succ d ih =>
      intro i m F T Q hi hp ha hlt hq
      have hd:decide ((i:Int)<(nb:Int))=true:=by simp;omega
      have hm:m≤24:=by
        have:=accI_len N k l g i
        rw [← hq,qL_length] at this;omega
      have hsp:Mat.Sparse N k l (plL g Q m):=by rw [plL_qL,hq];exact accI_sparse N k l g i
      rcases con_PlaceBar (e:=i) hp ha hlt hg hk hl (by omega) (by omega) hsp with ⟨F1,T1,hc1,hp1,hs1⟩ | ⟨hc1,hs1⟩
      · obtain ⟨m',F',T',Q',hrun,h2⟩:=ih (i+1) (m+1) F1 T1 _ (by omega) hp1 (fun j hj=>by
          show (if j<m then Q j else (i:Int))<(if j+1<m then Q (j+1) else (i:Int))
          rw [if_pos (show j<m by omega)]
          by_cases h:j+1<m
          · rw [if_pos h];exact ha j h
          · rw [if_neg h];exact hlt j (by omega)) (fun j hj=>by
          show (if j<m then Q j else (i:Int))<((i+1:Nat):Int)
          by_cases h:j<m
          · rw [if_pos h];have:=hlt j h;omega
          · rw [if_neg h];omega) (by
          simp only [accI]
          rw [← hq,← plL_qL,if_pos hs1]
          simp only [qL,Nat.lt_irrefl,if_false,Int.toNat_natCast]
          rw [qL_congr (Q':=Q) m (fun j hj=>by simp only [hj,if_true])])
        refine ⟨m',F',T',Q',fun c hc=>?_,h2⟩
        refine pcD hc (nUl g nb N k l m (m+1) F T Q F1 T1 (fun s=>if s<m then Q s else i) i true) ?_ (hrun c hc)
        and_intros
        all_goals (first | exact zI | (exact hd) | (exact hc1) | (intro j hj;simp [All]))
      · obtain ⟨m',F',T',Q',hrun,h2⟩:=ih (i+1) m F T Q (by omega) hp ha (fun j hj=>by have:=hlt j hj;omega) (by
          simp only [accI]
          rw [← hq,← plL_qL,if_neg hs1])
        refine ⟨m',F',T',Q',fun c hc=>?_,h2⟩
        refine pcD hc (nUl g nb N k l m m F T Q F T Q i false) ?_ (hrun c hc)
        and_intros
        all_goals (first | exact zI | (exact hd) | (exact hc1) | (intro j hj;simp [All]))
  obtain ⟨m,F,T,Q,hrun,hnn,hq⟩:=lp nb 0 0 _ _ _ (by omega) (PInv.start hok) (fun j hj=>by omega) (fun j hj=>absurd hj (Nat.not_lt_zero _)) rfl
  have hm:m≤24:=by
    have:=accI_len N k l g nb
    rw [← hq,qL_length] at this;omega
  refine ⟨m,F,T,Q,?_,hm,hnn,hq⟩
  refine csZ Try.func85 (fun c hc=>?_)
  refine pcD hc (nUz g nb N k l) ?_ (hrun c hc)
  and_intros
  all_goals (first | exact zH | (exact hn) | (intros;exact hr) | (simp;done) | (intro j hj;simp [All]))
theorem con_RankOf_s {N nb:Nat} {g:Nat→T_Bar} (hg:isGraphF ((N:Int),(nb,g),())=true) (k l:Nat) (hk:1≤k∧k≤3) (hl:l+1≤2*k) :
    zE 39 [grG g nb N,.p (.int .i64 k),.p (.int .i64 l)] [] (.p (.int .i64 ((accI N k l g nb).length:Nat))):=by
  obtain ⟨m,F,T,Q,hrun,hm,hn,hq⟩:=con_RunPebbles_s hg k l hk hl
  rw [← hq,qL_length]
  refine csZ Try.func39 (fun c hc=>?_)
  refine pkZ Try.func39 hc (nKs g nb N k l m F T Q) ?_
  and_intros
  all_goals (first | exact zI | (exact hrun) | (simp;done) | (intro i hi;simp [All]))
def flt (p:Nat→Bool):Nat→T_IntS
  | 0=>(0,fun _=>0)
  | i+1=>if p i=true then ((flt p i).1+1,fun s=>if s<(flt p i).1 then (flt p i).2 s else i) else flt p i
theorem flt_n (p:Nat→Bool):∀ i,(flt p i).1≤i
  | 0=>Nat.le_refl _
  | i+1=>by
    have:=flt_n p i
    simp only [flt]
    split
    · show (flt p i).1+1≤i+1;omega
    · omega
theorem flt_t {p:Nat→Bool} {i:Nat} (h:p i=true):flt p (i+1)=((flt p i).1+1,fun s=>if s<(flt p i).1 then (flt p i).2 s else i):=by simp [flt,h]
theorem flt_f {p:Nat→Bool} {i:Nat} (h:p i=false):flt p (i+1)=flt p i:=by simp [flt,h]
def bxV (v:T_Graph):Ob:=⟨true,2,1,fun _=>[.p (.int .i64 v.1),brL v.2.1.2 v.2.1.1]⟩
def CSw (v:T_Graph) (w:T_IntS) (i c:Nat) (f:Nat→Int):St :=
  ⟨[graphA v,inL w,.pt 2 0 0 0,.p .any,.p .any,.ar 1 1 0 c,.p .any,.p .any,.p .any,.p .any,brL v.2.1.2 v.2.1.1,.p (.int .i64 v.2.1.1),.p (.int .i64 i)]++List.replicate 20 anyA,[(0,bxV v),(1,iOb c f)],2⟩
theorem oWz (v:T_Graph) (w:T_IntS) :
    zT Try.f87 [rg 2,rg 2,rg 4,.head] [graphA v,inL w] [0,64] (CSw v w 0 0 (fun _=>0)) =
    some (zf61,zD [(NT 0 1),(AI v.1),(AN v.2.1.1),(AP v.2.1.1 (bRw v.2.1.2)),(AN w.1),(AP w.1 (iRw w)),(AN 0),(AI ((↑v.2.1.1:Int))),((0:Int)=(↑0:Int)),((([AV.p (PV.int IntKind.i64 v.1),graphL v.2.1].length):Nat)=2),(NL 1 1),(AN 1),(NL 0 0),(AA 0 (fun i=>[.p (.int .i64 0)]))] [0,1,2,3,4,5,6,6,6,2,3,7,8,9,10,10,1,2,3,11,12,13]):=by kernel_rfl
theorem oWt (v:T_Graph) (w:T_IntS) (i c:Nat) (f:Nat→Int) (a b:Bool) :
    zM 0 [rg 1,.dec true,rg 6,rm [(3,oc [] (.p (.bool a))),(4,oc [] (.p (.bool b)))] 1,.dec true,rg 5,rg 2,.head] zf61 (CSw v w i c f) [0,642] 1 (CSw v w (i+1) (c+1) (fun s=>if s<c then f s else i)) =
    some (zf61,zD [((decide ((↑i:Int)<(↑v.2.1.1:Int)))=true),(IL 0 (↑i:Int)),(IT (↑i:Int) (↑v.2.1.1:Int)),(NT 0 1),((true=true)→ (AN 1)),zE 109 [.p (.seq true 1 w.1 (iRw w)),.p (.int .i64 ((v.2.1.2 i).1))] [] (.p (.bool a)),(AG a),((a=true)→(NT 0 1)),((a=true)→ zE 109 [.p (.seq true 1 w.1 (iRw w)),.p (.int .i64 ((v.2.1.2 i).2.1))] [] (.p (.bool b))),((bif a then b else false)=true),(NL 1 1),(NL c c),(NL ((c+1)*8) 140737488355328),(NL (c+1) 9223372036854775807),(ZLo ((↑i:Int)+1)),(ZHi ((↑i:Int)+1)),(AI v.1),(AN v.2.1.1),(AP v.2.1.1 (bRw v.2.1.2)),(AN w.1),(AP w.1 (iRw w)),(AN 0),(AN ((c+1))),(AI ((↑v.2.1.1:Int))),((((↑i:Int)+1):Int)=(↑(i+1):Int)),(AN 2),(AN 1),(NL (c+1) (c+1)),(CV [(642,⟨false,1,(c+1),(fun i_2=>(if (i_2<c) then [.p (.int .i64 (f i_2))] else [.p (.int .i64 (↑i:Int))]))⟩),(610,⟨false,1,1,(fun i_2=>[.p (.int .i64 (↑i:Int))])⟩),(130,⟨true,2,1,(fun i_2=>[.p (.int .i64 ((v.2.1.2 i).1)),.p (.int .i64 ((v.2.1.2 i).2.1))])⟩),(0,⟨true,2,1,(fun i_2=>[.p (.int .i64 v.1),.p (.seq true 2 v.2.1.1 (bRw v.2.1.2))])⟩)] [0,642] 1 (c+1) (fun i_1=>if (i_1<c) then [.p (.int .i64 (f i_1))] else [.p (.int .i64 (↑i:Int))]) (fun i_1=>[.p (.int .i64 (if i_1<c then f i_1 else (↑i:Int)))]))] [0,1,2,3,4,3,5,6,7,6,6,8,6,9,10,11,12,13,14,15,16,17,18,19,20,21,21,22,17,18,23,24,25,10,10,16,17,18,26,27,28]):=by kernel_rfl
theorem oWf (v:T_Graph) (w:T_IntS) (i c:Nat) (f:Nat→Int) (a b:Bool) :
    zM 0 [rg 1,.dec true,rg 6,rm [(3,oc [] (.p (.bool a))),(4,oc [] (.p (.bool b)))] 1,.dec false,rg 2,.head] zf61 (CSw v w i c f) [0,1] 1 (CSw v w (i+1) c f) =
    some (zf61,zD [((decide ((↑i:Int)<(↑v.2.1.1:Int)))=true),(IL 0 (↑i:Int)),(IT (↑i:Int) (↑v.2.1.1:Int)),(NT 0 1),((true=true)→ (AN 1)),zE 109 [.p (.seq true 1 w.1 (iRw w)),.p (.int .i64 ((v.2.1.2 i).1))] [] (.p (.bool a)),(AG a),((a=true)→(NT 0 1)),((a=true)→ zE 109 [.p (.seq true 1 w.1 (iRw w)),.p (.int .i64 ((v.2.1.2 i).2.1))] [] (.p (.bool b))),((bif a then b else false)=false),(ZLo ((↑i:Int)+1)),(ZHi ((↑i:Int)+1)),(AI v.1),(AN v.2.1.1),(AP v.2.1.1 (bRw v.2.1.2)),(AN w.1),(AP w.1 (iRw w)),(AN 0),(AN c),(AI ((↑v.2.1.1:Int))),((((↑i:Int)+1):Int)=(↑(i+1):Int)),(AN 2),(NL 1 1),(AN 1),(NL c c),(AA c (fun i_1=>[.p (.int .i64 (f i_1))]))] [0,1,2,3,4,3,5,6,7,6,6,8,6,9,10,11,12,13,14,15,16,17,17,18,13,14,19,20,21,22,22,12,13,14,23,24,25]):=by kernel_rfl
theorem oWe (v:T_Graph) (w:T_IntS) (i c:Nat) (f:Nat→Int) :
    zP Try.f87 0 [rg 1,.dec false,rg 2] zf61 (CSw v w i c f) [1] 1 [(0,iOb c f)] (.ar 1 0 0 c) =
    some [((decide ((↑i:Int)<(↑v.2.1.1:Int)))=false),(AN 0),(AN c),(AN 1),(NL c c),(AA c (fun i_1=>[.p (.int .i64 (f i_1))])),(AE c)]:=by kernel_rfl
def spS (g:Nat→T_Bar) (S:T_IntS) (e:Nat):Bool:=hasI S.2 (g e).1 S.1&&hasI S.2 (g e).2.1 S.1
theorem con_SpannedV_i (v:T_Graph) (S:T_IntS) (hs:smS s_Graph v) (hS:S.1≤1048576) :
    zE 87 [graphA v,inL S] [(0,iOb (flt (spS v.2.1.2 S) v.2.1.1).1 (flt (spS v.2.1.2 S) v.2.1.1).2)] (.ar 1 0 0 (flt (spS v.2.1.2 S) v.2.1.1).1):=by
  refine csZ Try.func87 (fun c hc=>?_)
  have hnb:v.2.1.1≤1048576:=hs.2.1.1
  generalize hp:spS v.2.1.2 S=p
  generalize hR:flt p v.2.1.1=R
  have lo:∀ d i,i+d=v.2.1.1→zR c 87 zf61 (CSw v S i (flt p i).1 (flt p i).2) (Post c [(0,iOb R.1 R.2)] (.ar 1 0 0 R.1)):=by
    intro d
    induction d with
    | zero =>
      intro i hi
      obtain rfl:i=v.2.1.1:=by omega
      have hd:decide ((v.2.1.1:Int)<(v.2.1.1:Int))=false:=by simp
      rw [hR]
      refine pkZ Try.func87 hc (oWe v S v.2.1.1 R.1 R.2) ?_
      and_intros
      all_goals (first | exact zN | (exact hd) | (intro t ht;simp [All]))
    | succ d ih =>
      intro i hi
      have hd:decide ((i:Int)<(v.2.1.1:Int))=true:=decide_eq_true (by omega)
      have hrec:=ih (i+1) (by omega)
      have hfn:=flt_n p i
      have hc1:=con_Contains S (v.2.1.2 i).1 hS
      have hc2:=con_Contains S (v.2.1.2 i).2.1 hS
      have hpe:p i=(hasI S.2 (v.2.1.2 i).1 S.1&&hasI S.2 (v.2.1.2 i).2.1 S.1):=by rw [← hp];rfl
      generalize hasI S.2 (v.2.1.2 i).1 S.1=a at hc1 hpe
      generalize hasI S.2 (v.2.1.2 i).2.1 S.1=b at hc2 hpe
      cases hb:p i with
      | true =>
        rw [hb] at hpe
        rw [flt_t hb] at hrec
        generalize flt p i=q at hfn hrec ⊢
        refine pcD hc (oWt v S i q.1 q.2 a b) ?_ hrec
        and_intros
        all_goals (first | exact zI | (exact hd) | (exact hc1) | (intro _;exact hc2) | (cases a<;>cases b<;>simp at hpe ⊢;done) | (simp;done) | (simp;omega) | (intro t ht;by_cases h':t<q.1<;>(simp [h',cvtL,cvt,tg,tru,All];done)) | (intro t ht;simp [All]))
      | false =>
        rw [hb] at hpe
        rw [flt_f hb] at hrec
        generalize flt p i=q at hfn hrec ⊢
        refine pcD hc (oWf v S i q.1 q.2 a b) ?_ hrec
        and_intros
        all_goals (first | exact zI | (exact hd) | (exact hc1) | (intro _;exact hc2) | (cases a<;>cases b<;>simp at hpe ⊢;done) | (simp;done) | (simp;omega) | (intro t ht;simp [All]))
  refine pcD hc (oWz v S) ?_ (lo v.2.1.1 0 (by omega))
  and_intros
  all_goals (first | exact zN | (simp;done) | (intro t ht;exact absurd ht (Nat.not_lt_zero _)) | (intro t ht;simp [All]))
def coOb (F n:Nat) (C:Nat→T_IntS):Ob:=⟨false,1,n,fun i=>[.ar 1 ⟨F,some i⟩ 0 (C i).1]⟩
def cfOb (n:Nat) (C:Nat→T_IntS):Ob:=⟨true,0,n,fun i=>[.p (.seq false 1 (C i).1 (fun s=>[.int .i64 ((C i).2 s)]))]⟩
def SCo (g:Nat→T_Bar) (nb N e cn:Nat) (C:Nat→T_IntS):St :=
  ⟨[grG g nb N,.pt 2 0 0 0,.p .any,.ar 1 1 0 cn]++List.replicate 12 anyA++[.p (.int .i64 nb),.p (.int .i64 e)]++List.replicate 26 anyA,[(0,bxG g nb N),(1,coOb 2 cn C),(2,cfOb cn C)],3⟩
def SCo1 (g:Nat→T_Bar) (nb N e cn:Nat) (C:Nat→T_IntS) (c:T_IntS) (kn:Bool) (k:Nat):St :=
  ⟨[grG g nb N,.pt 2 0 0 0,.p .any,.ar 1 1 0 cn,.p .any,.ar 1 3 0 c.1,.p (.bool kn)]++List.replicate 9 anyA++[.p (.int .i64 nb),.p (.int .i64 e)]++List.replicate 5 anyA++[.ar 1 1 0 cn,.p (.int .i64 cn),.p (.int .i64 k)]++List.replicate 18 anyA,[(0,bxG g nb N),(1,coOb 2 cn C),(2,cfOb cn C),(3,iOb c.1 c.2)],4⟩
def boOb (F n:Nat) (C:Nat→T_IntS) (K:Nat→Nat):Ob:=⟨false,2,n,fun i=>[.ar 1 ⟨F,some i⟩ 0 (C i).1,.p (.int .i64 (K i:Int))]⟩
def SBi2 (v:T_Graph) (cn:Nat) (C:Nat→T_IntS) (K:Nat→Nat) (k:Nat):St :=
  ⟨[graphA v,.pt 2 0 0 0,.p .any,.ar 2 1 0 k,.p .any,.p .any,.p .any,.p .any,.ar 1 2 0 cn,.p (.int .i64 cn),.p (.int .i64 k)]++List.replicate 14 anyA,[(0,bxV v),(1,boOb 3 k C K),(2,coOb 3 cn C),(3,cfOb cn C)],4⟩
theorem oCz (g:Nat→T_Bar) (nb N:Nat) :
    zT Try.f28 [rg 2,rg 2,rm [(1,oc [] (.p (.bool true)))] 1,.dec false,rg 4,.head] [grG g nb N] [0,64] (SCo g nb N 0 0 (fun _=>(0,fun _=>0))) =
    some (zf37,zD [(NT 0 1),zE 24 [(zf80 N nb g)] [] (.p (.bool true)),((!true)=false),(AI ((↑N:Int))),(AN nb),(AP nb (bRw g)),(AN 0),(AI ((↑nb:Int))),((0:Int)=(↑0:Int)),((([AV.p (PV.int IntKind.i64 (↑N:Int)),brL g nb].length):Nat)=2),(NL 1 1),(AN 1),(NL 0 0),(∀ i:Nat,(((i:Nat)<0)→(All []∧(([.p (.nil)]:List AV)=[.ar 1 ⟨2,some i⟩ 0 0]))))] [0,1,2,0,3,4,5,6,6,6,7,8,9,10,10,3,4,5,11,12,13,6]):=by kernel_rfl
theorem oCy (v:T_Graph) :
    zS Try.f28 [rg 2,rg 2,rm [(1,oc [] (.p (.bool false)))] 1,.dec true,rg 2] [graphA v] [64] [(0,coOb 1 0 (fun _=>(0,fun _=>0))),(1,cfOb 0 (fun _=>(0,fun _=>0)))] (.ar 1 0 0 0) =
    some [(NT 0 1),zE 24 [(zf77 v)] [] (.p (.bool false)),((!false)=true),(AN 0),(AN 0),(AN 1),(NL 0 0),(∀ i:Nat,(((i:Nat)<0)→(All []∧(([.p (.nil)]:List AV)=[.ar 1 ⟨1,some i⟩ 0 0])))),(AN 0),(AE 0),(∀ i:Nat,(((i:Nat)<0)→All [(false=false),(AE 0)]))]:=by kernel_rfl
theorem oC1 (g:Nat→T_Bar) (nb N e cn:Nat) (C:Nat→T_IntS) (c:T_IntS) :
    zM 0 [rg 1,.dec true,rg 2,rm [(2,oc [(0,iOb c.1 c.2)] (.ar 1 0 0 c.1))] 1,rg 1,rg 3,.head] zf37 (SCo g nb N e cn C) [0,1,2,163] 1 (SCo1 g nb N e cn C c false 0) =
    some (zf6,zD [((decide ((↑e:Int)<(↑nb:Int)))=true),(NT 0 1),zE 52 [(zf80 N nb g),.p (.int .i64 (↑e:Int))] [(0,⟨false,1,c.1,(fun i=>[.p (.int .i64 (c.2 i))])⟩)] (.ar 1 0 0 c.1),(AI ((↑N:Int))),(AN nb),(AP nb (bRw g)),(AN 0),(AN cn),(AN c.1),(false=false),(AI ((↑nb:Int))),(AI ((↑e:Int))),(AI ((↑cn:Int))),((0:Int)=(↑0:Int)),(AN 2),(NL 1 1),(AN 1),(NL cn cn),(AA cn (fun i=>[.ar 1 ⟨2,some i⟩ 0 ((C i).1)])),(∀ i:Nat,(((i:Nat)<cn)→All [(AN 1),((((C i).1):Nat)≤((C i).1)),(AP (((C i).1)) (fun r=>[.int .i64 ((C i).2 r)]))])),(NL c.1 c.1),(AA c.1 (fun i=>[.p (.int .i64 (c.2 i))]))] [0,1,2,3,4,5,6,6,7,6,8,9,10,11,6,7,12,13,14,15,15,3,4,5,16,17,18,17,19,16,20,21]):=by kernel_rfl
theorem oCe (g:Nat→T_Bar) (nb N e cn:Nat) (C:Nat→T_IntS) :
    zP Try.f28 0 [rg 1,.dec false,rg 2] zf37 (SCo g nb N e cn C) [1,2] 1 [(0,coOb 1 cn C),(1,cfOb cn C)] (.ar 1 0 0 cn) =
    some [((decide ((↑e:Int)<(↑nb:Int)))=false),(AN 0),(AN cn),(AN 1),(NL cn cn),(AA cn (fun i=>[.ar 1 ⟨1,some i⟩ 0 ((C i).1)])),(NL cn cn),(∀ i:Nat,(((i:Nat)<cn)→All [(AN 1),((((C i).1):Nat)≤((C i).1)),(AP (((C i).1)) (fun r=>[.int .i64 ((C i).2 r)]))])),(AE cn),(∀ i:Nat,(((i:Nat)<cn)→All [(false=false),(AE (((C i).1)))]))]:=by kernel_rfl
theorem oC2 (g:Nat→T_Bar) (nb N e cn:Nat) (C:Nat→T_IntS) (c:T_IntS) (kn:Bool) (k:Nat) (q:Bool) :
    zM 0 [rg 1,.dec true,rg 3,rm [(4,oc [] (.p (.bool q)))] 2,rg 2,.head] zf6 (SCo1 g nb N e cn C c kn k) [0,1,2,3] 1 (SCo1 g nb N e cn C c (bif kn then true else q) (k+1)) =
    some (zf6,zD [((decide ((↑k:Int)<(↑cn:Int)))=true),(IL 0 (↑k:Int)),(IT (↑k:Int) (↑cn:Int)),(NT k cn),(AG (!kn)),(((!kn)=true)→(NT k cn)),(((!kn)=true)→ (AN 1)),(((!kn)=true)→(NL ((C k).1) ((C k).1))),(((!kn)=true)→(NL c.1 c.1)),(((!kn)=true)→ zE 76 [.p (.seq true 1 ((C k).1) (fun i=>[.int .i64 ((C k).2 i)])),.p (.seq true 1 c.1 (iRw c))] [] (.p (.bool q))),((kn=false)→ ((!kn)=true)),(ZLo ((↑k:Int)+1)),(ZHi ((↑k:Int)+1)),(AI ((↑N:Int))),(AN nb),(AP nb (bRw g)),(AN 0),(AN cn),(AN c.1),((bif kn then true else q)=(bif kn then true else q)),(AI ((↑nb:Int))),(AI ((↑e:Int))),(AI ((↑cn:Int))),((((↑k:Int)+1):Int)=(↑(k+1):Int)),(AN 2),(NL 1 1),(AN 1),(NL cn cn),(AA cn (fun i=>[.ar 1 ⟨2,some i⟩ 0 ((C i).1)])),(∀ i:Nat,(((i:Nat)<cn)→All [(AN 1),((((C i).1):Nat)≤((C i).1)),(AP (((C i).1)) (fun r=>[.int .i64 ((C i).2 r)]))])),(NL c.1 c.1),(AA c.1 (fun i=>[.p (.int .i64 (c.2 i))]))] [0,1,2,3,4,4,5,6,7,6,8,9,10,11,12,13,14,15,16,16,17,16,18,19,20,21,16,17,22,23,24,25,25,13,14,15,26,27,28,27,29,26,30,31]):=by kernel_rfl
theorem oC3 (g:Nat→T_Bar) (nb N e cn:Nat) (C:Nat→T_IntS) (c:T_IntS) (kn:Bool) (k:Nat) :
    zM 0 [rg 1,.dec false,rg 2,.dec true,rg 5,rg 2,.head] zf6 (SCo1 g nb N e cn C c kn k) [0,196,.ins 2 cn 3] 1 (SCo g nb N (e+1) (cn+1) (snocC cn C c)) =
    some (zf37,[((decide ((↑k:Int)<(↑cn:Int)))=false),((!kn)=true),(NL 1 1),(NL cn cn),(NL ((cn+1)*24) 140737488355328),(NL (cn+1) 9223372036854775807),(ZLo ((↑e:Int)+1)),(ZHi ((↑e:Int)+1)),(AI ((↑N:Int))),(AN nb),(AP nb (bRw g)),(AN 0),(AN 0),(AN ((cn+1))),(AI ((↑nb:Int))),((((↑e:Int)+1):Int)=(↑(e+1):Int)),(AN 2),(NL 1 1),(NL 1 1),(AI ((↑N:Int))),(AN nb),(AP nb (bRw g)),(AN 1),(NL (cn+1) (cn+1)),(CV [(196,⟨false,1,(cn+1),(fun i_1=>(if (i_1<cn) then [.ar 1 ⟨2,some i_1⟩ 0 ((C i_1).1)] else [.ar 1 3 0 c.1]))⟩),(164,⟨false,1,1,(fun i_1=>[.ar 1 3 0 c.1])⟩),(0,⟨true,2,1,(fun i_1=>[.p (.int .i64 (↑N:Int)),.p (.seq true 2 nb (bRw g))])⟩),(2,⟨true,0,cn,(fun i_1=>[.p (.seq false 1 ((C i_1).1) (fun i_2=>[.int .i64 ((C i_1).2 i_2)]))])⟩),(3,⟨false,1,c.1,(fun i_1=>[.p (.int .i64 (c.2 i_1))])⟩)] [0,196,.ins 2 cn 3] 1 (cn+1) (fun i=>if (i<cn) then [.ar 1 ⟨2,some i⟩ 0 ((C i).1)] else [.ar 1 3 0 c.1]) (fun i=>[.ar 1 ⟨2,some i⟩ 0 (if i<cn then (C i).1 else c.1)])),(∀ i:Nat,(((i:Nat)<(cn+1))→(((i:Nat)≠cn)→(((i:Nat)<cn)∧All [(AN 1),(((if i<cn then (C i).1 else c.1):Nat)≤((C i).1)),(∀ r:Nat,(((r:Nat)<(if i<cn then (C i).1 else c.1))→(([.int .i64 ((C i).2 r)]:List PV)=[.int .i64 ((snocC cn C c i).2 r)])))])))),(((cn:Nat)<(cn+1))→ All [(AN 1),(((if cn<cn then (C cn).1 else c.1):Nat)≤c.1),(∀ r:Nat,(((r:Nat)<(if cn<cn then (C cn).1 else c.1))→(([.int .i64 (c.2 r)]:List PV)=[.int .i64 ((snocC cn C c cn).2 r)])))])]):=by kernel_rfl
theorem oC4 (g:Nat→T_Bar) (nb N e cn:Nat) (C:Nat→T_IntS) (c:T_IntS) (kn:Bool) (k:Nat) :
    zM 0 [rg 1,.dec false,rg 2,.dec false,rg 2,.head] zf6 (SCo1 g nb N e cn C c kn k) [0,1,2] 1 (SCo g nb N (e+1) cn C) =
    some (zf37,zD [((decide ((↑k:Int)<(↑cn:Int)))=false),((!kn)=false),(ZLo ((↑e:Int)+1)),(ZHi ((↑e:Int)+1)),(AI ((↑N:Int))),(AN nb),(AP nb (bRw g)),(AN 0),(AN cn),(AI ((↑nb:Int))),((((↑e:Int)+1):Int)=(↑(e+1):Int)),(AN 2),(NL 1 1),(AN 1),(NL cn cn),(AA cn (fun i=>[.ar 1 ⟨2,some i⟩ 0 ((C i).1)])),(∀ i:Nat,(((i:Nat)<cn)→All [(AN 1),((((C i).1):Nat)≤((C i).1)),(AP (((C i).1)) (fun r=>[.int .i64 ((C i).2 r)]))]))] [0,1,2,3,4,5,6,7,7,8,9,10,11,12,12,4,5,6,13,14,15,14,16]):=by kernel_rfl
theorem oDz (v:T_Graph) (cn:Nat) (C:Nat→T_IntS) (K:Nat→Nat) :
    zT Try.f44 [rg 2,rg 2,rm [(1,oc [(0,coOb 1 cn C),(1,cfOb cn C)] (.ar 1 0 0 cn))] 2,.head] [graphA v] [0,64,160,161] (SBi2 v cn C K 0) =
    some (zf62,zD [(NT 0 1),zE 28 [(zf77 v)] [(0,⟨false,1,cn,(fun i=>[.ar 1 ⟨1,some i⟩ 0 ((C i).1)])⟩),(1,⟨true,0,cn,(fun i=>[.p (.seq false 1 ((C i).1) (fun i_1=>[.int .i64 ((C i).2 i_1)]))])⟩)] (.ar 1 0 0 cn),(AI v.1),(AN v.2.1.1),(AP v.2.1.1 (bRw v.2.1.2)),(AN 0),(AN cn),(AI ((↑cn:Int))),((0:Int)=(↑0:Int)),((([AV.p (PV.int IntKind.i64 v.1),graphL v.2.1].length):Nat)=2),(NL 1 1),(AN 2),(NL 0 0),(∀ i:Nat,(((i:Nat)<0)→(All []∧(([.p (.nil),.p (.int .i64 0)]:List AV)=[.ar 1 ⟨3,some i⟩ 0 ((C i).1),.p (.int .i64 (↑(K i):Int))])))),(AN 1),(NL cn cn),(AA cn (fun i=>[.ar 1 ⟨3,some i⟩ 0 ((C i).1)])),(∀ i:Nat,(((i:Nat)<cn)→All [(AN 1),((((C i).1):Nat)≤((C i).1)),(AP (((C i).1)) (fun r=>[.int .i64 ((C i).2 r)]))]))] [0,1,2,3,4,5,5,5,5,6,7,8,9,10,10,2,3,4,11,12,13,14,15,16,15,17]):=by kernel_rfl
theorem oD1 (v:T_Graph) (cn:Nat) (C:Nat→T_IntS) (K:Nat→Nat) (k:Nat) (S:T_IntS) :
    zM 0 [rg 1,.dec true,rg 3,rm [(4,oc [(0,iOb S.1 S.2)] (.ar 1 0 0 S.1))] 5,rg 2,.head] zf62 (SBi2 v cn C K k) [0,388,2,3] 1 (SBi2 v cn C K (k+1)) =
    some (zf62,zD [((decide ((↑k:Int)<(↑cn:Int)))=true),(IL 0 (↑k:Int)),(IT (↑k:Int) (↑cn:Int)),(NT k cn),(NT 0 1),(AN 1),(NL ((C k).1) ((C k).1)),zE 87 [(zf77 v),.p (.seq true 1 ((C k).1) (fun i=>[.int .i64 ((C k).2 i)]))] [(0,⟨false,1,S.1,(fun i=>[.p (.int .i64 (S.2 i))])⟩)] (.ar 1 0 0 S.1),(NL 1 1),(NL k k),(NL ((k+1)*32) 140737488355328),(NL (k+1) 9223372036854775807),(ZLo ((↑k:Int)+1)),(ZHi ((↑k:Int)+1)),(AI v.1),(AN v.2.1.1),(AP v.2.1.1 (bRw v.2.1.2)),(AN 0),(AN ((k+1))),(AN cn),(AI ((↑cn:Int))),((((↑k:Int)+1):Int)=(↑(k+1):Int)),(AN 2),(NL (k+1) (k+1)),(CV [(388,⟨false,2,(k+1),(fun i_1=>(if (i_1<k) then [.ar 1 ⟨3,some i_1⟩ 0 ((C i_1).1),.p (.int .i64 (↑(K i_1):Int))] else [.ar 1 ⟨3,some k⟩ 0 ((C k).1),.p (.int .i64 (↑S.1:Int))]))⟩),(356,⟨false,2,1,(fun i_1=>[.ar 1 ⟨3,some k⟩ 0 ((C k).1),.p (.int .i64 (↑S.1:Int))])⟩),(260,⟨false,1,S.1,(fun i_1=>[.p (.int .i64 (S.2 i_1))])⟩),(0,⟨true,2,1,(fun i_1=>[.p (.int .i64 v.1),.p (.seq true 2 v.2.1.1 (bRw v.2.1.2))])⟩),(2,⟨false,1,cn,(fun i_1=>[.ar 1 ⟨3,some i_1⟩ 0 ((C i_1).1)])⟩),(3,⟨true,0,cn,(fun i_1=>[.p (.seq false 1 ((C i_1).1) (fun i_2=>[.int .i64 ((C i_1).2 i_2)]))])⟩)] [0,388,2,3] 1 (k+1) (fun i=>if (i<k) then [.ar 1 ⟨3,some i⟩ 0 ((C i).1),.p (.int .i64 (↑(K i):Int))] else [.ar 1 ⟨3,some k⟩ 0 ((C k).1),.p (.int .i64 (↑S.1:Int))]) (fun i=>[.ar 1 ⟨3,some i⟩ 0 ((C i).1),.p (.int .i64 (↑(K i):Int))])),(NL cn cn),(AA cn (fun i=>[.ar 1 ⟨3,some i⟩ 0 ((C i).1)])),(∀ i:Nat,(((i:Nat)<cn)→All [(AN 1),((((C i).1):Nat)≤((C i).1)),(AP (((C i).1)) (fun r=>[.int .i64 ((C i).2 r)]))]))] [0,1,2,3,4,3,5,6,7,8,9,10,11,12,13,14,15,16,17,17,18,17,19,20,21,22,8,8,14,15,16,22,23,24,5,25,26,25,27]):=by kernel_rfl
theorem oDe (v:T_Graph) (cn:Nat) (C:Nat→T_IntS) (K:Nat→Nat) (k:Nat) :
    zP Try.f44 0 [rg 1,.dec false,rg 2] zf62 (SBi2 v cn C K k) [1,3] 1 [(0,boOb 1 k C K),(1,cfOb cn C)] (.ar 2 0 0 k) =
    some [((decide ((↑k:Int)<(↑cn:Int)))=false),(AN 0),(AN k),(AN 2),(NL k k),(AA k (fun i=>[.ar 1 ⟨1,some i⟩ 0 ((C i).1),.p (.int .i64 (↑(K i):Int))])),(NL cn cn),(∀ i:Nat,(((i:Nat)<cn)→All [(AN 1),((((C i).1):Nat)≤((C i).1)),(AP (((C i).1)) (fun r=>[.int .i64 ((C i).2 r)]))])),(AE k),(∀ i:Nat,(((i:Nat)<cn)→All [(false=false),(AE (((C i).1)))]))]:=by kernel_rfl
theorem inner_o {N nb:Nat} {g:Nat→T_Bar} {e cn:Nat} {C:Nat→T_IntS} {cc:T_IntS} (hcn:cn≤1048576) (hC:∀ j,j<cn→(C j).1≤1048576) (c:Cx) (hc:c.n=0) {R:Ending→World→Prop}
    (h:zR c 28 zf6 (SCo1 g nb N e cn C cc (knF C cc cn) cn) R) :
    ∀ d k,k+d=cn→zR c 28 zf6 (SCo1 g nb N e cn C cc (knF C cc k) k) R:=by
  intro d
  induction d with
  | zero =>
    intro k hk
    have hkc:k=cn:=by omega
    rw [hkc]
    exact h
  | succ d ih =>
    intro k hk
    have hd:decide ((k:Int)<(cn:Int))=true:=by simp;omega
    have hq:=con_seIntS (C k) cc (hC k (by omega))
    refine pcD hc (oC2 g nb N e cn C cc (knF C cc k) k (q_IntS (C k) cc)) ?_ (ih (k+1) (by omega))
    and_intros
    iterate 2 all_goals (first | exact zH | (intros;exact hq) | (intro j hj;simp [famE,All]) | simp only [All])
theorem con_Comps_o (v:T_Graph) (hs:smS s_Graph v):zE 28 [graphA v] [(0,coOb 1 (compsG v).1 (compsG v).2),(1,cfOb (compsG v).1 (compsG v).2)] (.ar 1 0 0 (compsG v).1):=by
  cases hg:isGraphF v with
  | false =>
    have hcg:=con_IsGraph_i v hs
    rw [hg] at hcg
    rw [show compsG v=(0,fun _=>(0,fun _=>0)) by simp [compsG,hg]]
    refine csZ Try.func28 (fun c hc=>?_)
    refine pkZ Try.func28 hc (oCy v) ?_
    and_intros
    iterate 2 all_goals (first | exact zN | (intros;exact hcg) | (simp;done) | (intro i hi;simp [All]) | simp only [All])
  | true =>
    obtain ⟨N,nb,g,rfl⟩:=graph_cases v hg
    rw [show compsG ((N:Int),(nb,g),())=compsD N nb g nb by simp [compsG,hg]]
    obtain ⟨hN,hnb,hok⟩:=graph_in hg
    have hcg:=con_IsGraph_i ((N:Int),(nb,g),()) hs
    rw [hg] at hcg
    refine csZ Try.func28 (fun c hc=>?_)
    have lp:∀ d e,e+d=nb→zR c 28 zf37 (SCo g nb N e (compsD N nb g e).1 (compsD N nb g e).2) (Post c [(0,coOb 1 (compsD N nb g nb).1 (compsD N nb g nb).2),(1,cfOb (compsD N nb g nb).1 (compsD N nb g nb).2)] (.ar 1 0 0 (compsD N nb g nb).1)):=by
      intro d
      induction d with
      | zero =>
        intro e he
        obtain rfl:e=nb:=by omega
        have hd:decide ((e:Int)<(e:Int))=false:=by simp
        refine pkZ Try.func28 hc (oCe g e N e (compsD N e g e).1 (compsD N e g e).2) ?_
        and_intros
        iterate 2 all_goals (first | exact zN | (exact hcg) | (intros;exact hcg) | (intro h;rw [hd] at h;cases h) | (simp;done) | (intro i hi;simp [famE,All]) | simp only [All])
      | succ d ih =>
        intro e he
        have hd:decide ((e:Int)<(nb:Int))=true:=by simp;omega
        obtain ⟨hle,hC⟩:=compsD_le N nb g e
        have hcomp:=con_ComponentOfBar_i hg e (by omega)
        have hcl:=compD_le N nb g e N
        have hih:=ih (e+1) (by omega)
        have hin:zR c 28 zf6 (SCo1 g nb N e (compsD N nb g e).1 (compsD N nb g e).2 (compD N nb g e N) (knF (compsD N nb g e).2 (compD N nb g e N) (compsD N nb g e).1) (compsD N nb g e).1) (Post c [(0,coOb 1 (compsD N nb g nb).1 (compsD N nb g nb).2),(1,cfOb (compsD N nb g nb).1 (compsD N nb g nb).2)] (.ar 1 0 0 (compsD N nb g nb).1)):=by
          have hd':decide (((compsD N nb g e).1:Int)<((compsD N nb g e).1:Int))=false:=by simp
          cases hk:knF (compsD N nb g e).2 (compD N nb g e N) (compsD N nb g e).1 with
          | false =>
            rw [show compsD N nb g (e+1)=((compsD N nb g e).1+1,snocC (compsD N nb g e).1 (compsD N nb g e).2 (compD N nb g e N)) by simp only [compsD];rw [if_neg (by rw [hk];simp)]] at hih
            generalize compsD N nb g e=q at hle hC hih ⊢
            have hd2:decide ((q.1:Int)<(q.1:Int))=false:=by simp
            refine pcZ hc (oC3 g nb N e q.1 q.2 (compD N nb g e N) false q.1) ?_ hih
            and_intros
            iterate 2 all_goals (first | exact zH | (exact hd2) | (intro j hj;by_cases h':j<q.1<;>simp [h',snocC,cvtL,cvt,idx,idx1,idO,idM,tg,All]<;>omega) | (intro j hj hne;(have h':j<q.1:=by omega);simp [h',snocC,famE,All];done) | (intro hj;simp [snocC,memE,tab,toP,All];done) | simp only [All])
          | true =>
            rw [show compsD N nb g (e+1)=compsD N nb g e by simp only [compsD];rw [if_pos hk]] at hih
            refine pcD hc (oC4 g nb N e (compsD N nb g e).1 (compsD N nb g e).2 (compD N nb g e N) true (compsD N nb g e).1) ?_ hih
            and_intros
            iterate 2 all_goals (first | exact zN | (intro j hj;simp [famE,All]) | simp only [All])
        refine pcD hc (oC1 g nb N e (compsD N nb g e).1 (compsD N nb g e).2 (compD N nb g e N)) ?_ (inner_o (by omega) (fun j hj=>by have:=hC j hj;omega) c hc hin (compsD N nb g e).1 0 (by omega))
        and_intros
        iterate 2 all_goals (first | exact zN | (exact hcg) | (intros;exact hcg) | (exact hcomp) | (rw [hd];rfl) | (intro j hj;simp [famE,All]) | simp only [All])
    refine pcD hc (oCz g nb N) ?_ (lp nb 0 (by omega))
    and_intros
    iterate 2 all_goals (first | exact zN | (exact hcg) | (intro j hj;simp [All]) | simp only [All])
noncomputable def barK (v:T_Graph) (i:Nat):Nat:=(flt (spS v.2.1.2 ((compsG v).2 i)) v.2.1.1).1
theorem con_BodiesOf_i (v:T_Graph) (hs:smS s_Graph v):zE 44 [graphA v] [(0,boOb 1 (compsG v).1 (compsG v).2 (barK v)),(1,cfOb (compsG v).1 (compsG v).2)] (.ar 2 0 0 (compsG v).1):=by
  obtain ⟨h1,h2⟩:=compsG_le v
  have hcs:=con_Comps_o v hs
  have hK:∀ i,barK v i=(flt (spS v.2.1.2 ((compsG v).2 i)) v.2.1.1).1:=fun _=>rfl
  generalize barK v=K at hK ⊢
  generalize (compsG v).1=cn at h1 h2 hcs ⊢
  generalize (compsG v).2=C at h2 hcs hK ⊢
  refine csZ Try.func44 (fun c hc=>?_)
  have lo:∀ d k,k+d=cn→zR c 44 zf62 (SBi2 v cn C K k) (Post c [(0,boOb 1 cn C K),(1,cfOb cn C)] (.ar 2 0 0 cn)):=by
    intro d
    induction d with
    | zero =>
      intro k hk
      obtain rfl:k=cn:=by omega
      have hd:decide ((k:Int)<(k:Int))=false:=by simp
      refine pkZ Try.func44 hc (oDe v k C K k) ?_
      and_intros
      iterate 2 all_goals (first | exact zN | (exact hd) | (intro t ht;simp [famE,All]) | simp only [All])
    | succ d ih =>
      intro k hk
      have hd:decide ((k:Int)<(cn:Int))=true:=decide_eq_true (by omega)
      have hsp:=con_SpannedV_i v (C k) hs (by have:=h2 k (by omega);omega)
      have hKk:=hK k
      generalize flt (spS v.2.1.2 (C k)) v.2.1.1=S at hsp hKk
      refine pcD hc (oD1 v cn C K k S) ?_ (ih (k+1) (by omega))
      and_intros
      iterate 2 all_goals (first | exact zN | (exact hd) | (exact hsp) | (intro t ht;by_cases h':t<k<;>(first | (simp [h',cvtL,cvt,idx,idx1,idO,idM,tg,tru,All];done) | ((have h9:t=k:=by omega);subst h9;simp [hKk,cvtL,cvt,idx,idx1,idO,idM,tg,tru,All];done))) | (intro t ht;simp [famE,All]) | simp only [All])
  refine pcD hc (oDz v cn C K) ?_ (lo cn 0 (by omega))
  and_intros
  iterate 2 all_goals (first | exact zN | (exact hcs) | (intro t ht;exact absurd ht (Nat.not_lt_zero _)) | (intro t ht;simp [famE,All]) | simp only [All])
def SHs (g:Nat→T_Bar) (nb N cn:Nat) (C:Nat→T_IntS) (i n:Nat) (f:Nat→Int):St :=
  ⟨[grG g nb N,.pt 2 0 0 0,.p .any,.ar 1 2 0 n,.ar 1 1 0 cn,.p (.int .i64 i)]++List.replicate 22 anyA,[(0,bxG g nb N),(1,ssOb cn C),(2,iOb n f)],3⟩
def SHi (v:T_Graph) (M:Nat) (K:Nat→Int) (i n:Nat) (f:Nat→Int):St :=
  ⟨[.p .any,.p .any,.p .any,.ar 1 0 0 n,.p .any,.p .any,.p .any,.p .any,.ar 1 1 0 M,.p (.int .i64 M),.p (.int .i64 i)]++List.replicate 12 anyA,[(0,iOb n f),(1,iOb M K)],2⟩
theorem hSy (v:T_Graph) :
    zS Try.f49 [rg 2,rg 2,rm [(1,oc [(0,ssOb 0 (fun _=>(0,fun _=>0)))] (.ar 1 0 0 0))] 1,rg 1,.loop,rm [(6,oc [] (.p (.bool false)))] 1,.dec false,rg 2] [graphA v] [64] [(0,iOb 0 (fun _=>0))] (.ar 1 0 0 0) =
    some [(NT 0 1),zE 29 [(zf77 v)] [(0,⟨false,1,0,(fun i=>[.p (.seq false 1 0 (fun i_1=>[.int .i64 ((0,fun x=>0).2 i_1)]))])⟩)] (.ar 1 0 0 0),(NT 0 1),(((decide (0<v.1))=true)→(NT 0 1)),(AG (decide (0<v.1))),(((decide (0<v.1))=true)→ zE 38 [(zf77 v)] [] (.p (.bool false))),(AG (decide (0<v.1))),((bif decide (0<v.1) then false else false)=false),(AN 0),(AN 0),(AN 1),(NL 0 0),(AA 0 (fun i=>[.p (.int .i64 0)])),(AE 0)]:=by kernel_rfl
theorem hSz (g:Nat→T_Bar) (nb N cn:Nat) (C:Nat→T_IntS) :
    zT Try.f49 [rg 2,rg 2,rm [(1,oc [(0,ssOb cn C)] (.ar 1 0 0 cn))] 1,rg 1,.head] [grG g nb N] [0,160,64] (SHs g nb N cn C 0 0 (fun _=>0)) =
    some (zf42,zD [(NT 0 1),zE 29 [(zf80 N nb g)] (zf82 cn C) (.ar 1 0 0 cn),(AI ((↑N:Int))),(AN nb),(AP nb (bRw g)),(AN 0),(AN cn),((0:Int)=(↑0:Int)),((([AV.p (PV.int IntKind.i64 (↑N:Int)),brL g nb].length):Nat)=2),(NL 1 1),(AN 1),(NL cn cn),(AA cn (fun i=>[.p (.seq false 1 ((C i).1) (fun i_1=>[.int .i64 ((C i).2 i_1)]))])),(NL 0 0),(AA 0 (fun i=>[.p (.int .i64 0)]))] [0,1,2,3,4,5,5,5,5,6,7,8,9,9,2,3,4,10,11,12,10,13,14]):=by kernel_rfl
theorem hSt (g:Nat→T_Bar) (nb N cn:Nat) (C:Nat→T_IntS) (i n:Nat) (f:Nat→Int) (r:Int) :
    zM 0 [rm [(6,oc [] (.p (.bool true)))] 1,.dec true,rm [(2,oc [] (.p (.int .i64 r)))] 1,.dec true,rg 5,rg 3,.head] zf42 (SHs g nb N cn C i n f) [0,1,483] 1 (SHs g nb N cn C (i+1) (n+1) (snocI n f i)) =
    some (zf42,zD [(NT 0 1),(((decide ((↑i:Int)<(↑N:Int)))=true)→(NT 0 1)),(AG (decide ((↑i:Int)<(↑N:Int)))),(((decide ((↑i:Int)<(↑N:Int)))=true)→ zE 38 [(zf78 N nb g)] [] (.p (.bool true))),((bif decide ((↑i:Int)<(↑N:Int)) then true else false)=true),(AN 1),(NL cn cn),zE 88 [.p (.seq true 1 cn (fun i_1=>[.seq true 1 ((C i_1).1) (fun i_2=>[.int .i64 ((C i_1).2 i_2)])])),.p (.int .i64 (↑i:Int))] [] (.p (.int .i64 r)),((decide (r>1))=true),(NL 1 1),(NL n n),(NL ((n+1)*8) 140737488355328),(NL (n+1) 9223372036854775807),(ZLo ((↑i:Int)+1)),(ZHi ((↑i:Int)+1)),(AI ((↑N:Int))),(AN nb),(AP nb (bRw g)),(AN 0),(AN ((n+1))),(AN cn),((((↑i:Int)+1):Int)=(↑(i+1):Int)),(AN 2),(AA cn (fun i_1=>[.p (.seq false 1 ((C i_1).1) (fun i_2=>[.int .i64 ((C i_1).2 i_2)]))])),(NL (n+1) (n+1)),(CV [(483,⟨false,1,(n+1),(fun i_2=>(if (i_2<n) then [.p (.int .i64 (f i_2))] else [.p (.int .i64 (↑i:Int))]))⟩),(451,⟨false,1,1,(fun i_2=>[.p (.int .i64 (↑i:Int))])⟩),(0,⟨true,2,1,(fun i_2=>[.p (.int .i64 (↑N:Int)),.p (.seq true 2 nb (bRw g))])⟩),(1,⟨false,1,cn,(fun i_2=>[.p (.seq false 1 ((C i_2).1) (fun i_3=>[.int .i64 ((C i_2).2 i_3)]))])⟩)] [0,1,483] 1 (n+1) (fun i_1=>if (i_1<n) then [.p (.int .i64 (f i_1))] else [.p (.int .i64 (↑i:Int))]) (fun i_1=>[.p (.int .i64 (snocI n f (↑i:Int) i_1))]))] [0,1,2,3,2,4,5,6,7,8,9,10,11,12,13,14,15,16,17,18,18,19,18,20,21,22,9,9,15,16,17,5,6,23,5,24,25]):=by kernel_rfl
theorem hSf (g:Nat→T_Bar) (nb N cn:Nat) (C:Nat→T_IntS) (i n:Nat) (f:Nat→Int) (r:Int) :
    zM 0 [rm [(6,oc [] (.p (.bool true)))] 1,.dec true,rm [(2,oc [] (.p (.int .i64 r)))] 1,.dec false,rg 3,.head] zf42 (SHs g nb N cn C i n f) [0,1,2] 1 (SHs g nb N cn C (i+1) n f) =
    some (zf42,zD [(NT 0 1),(((decide ((↑i:Int)<(↑N:Int)))=true)→(NT 0 1)),(AG (decide ((↑i:Int)<(↑N:Int)))),(((decide ((↑i:Int)<(↑N:Int)))=true)→ zE 38 [(zf78 N nb g)] [] (.p (.bool true))),((bif decide ((↑i:Int)<(↑N:Int)) then true else false)=true),(AN 1),(NL cn cn),zE 88 [.p (.seq true 1 cn (fun i_1=>[.seq true 1 ((C i_1).1) (fun i_2=>[.int .i64 ((C i_1).2 i_2)])])),.p (.int .i64 (↑i:Int))] [] (.p (.int .i64 r)),((decide (r>1))=false),(ZLo ((↑i:Int)+1)),(ZHi ((↑i:Int)+1)),(AI ((↑N:Int))),(AN nb),(AP nb (bRw g)),(AN 0),(AN n),(AN cn),((((↑i:Int)+1):Int)=(↑(i+1):Int)),(AN 2),(NL 1 1),(AA cn (fun i_1=>[.p (.seq false 1 ((C i_1).1) (fun i_2=>[.int .i64 ((C i_1).2 i_2)]))])),(NL n n),(AA n (fun i_1=>[.p (.int .i64 (f i_1))]))] [0,1,2,3,2,4,5,6,7,8,9,10,11,12,13,14,14,15,14,16,17,18,19,19,11,12,13,5,6,20,5,21,22]):=by kernel_rfl
theorem hSe (g:Nat→T_Bar) (nb N cn:Nat) (C:Nat→T_IntS) (i n:Nat) (f:Nat→Int) :
    zP Try.f49 0 [rm [(6,oc [] (.p (.bool true)))] 1,.dec false,rg 2] zf42 (SHs g nb N cn C i n f) [2] 1 [(0,iOb n f)] (.ar 1 0 0 n) =
    some (zD [(NT 0 1),(((decide ((↑i:Int)<(↑N:Int)))=true)→(NT 0 1)),(AG (decide ((↑i:Int)<(↑N:Int)))),(((decide ((↑i:Int)<(↑N:Int)))=true)→ zE 38 [(zf78 N nb g)] [] (.p (.bool true))),((bif decide ((↑i:Int)<(↑N:Int)) then true else false)=false),(AN 0),(AN n),(AN 1),(NL n n),(AA n (fun i_1=>[.p (.int .i64 (f i_1))])),(AE n)] [0,1,2,3,2,4,5,6,7,8,9,10]):=by kernel_rfl
theorem hIz (v:T_Graph) (M:Nat) (K:Nat→Int) :
    zT Try.f48 [rg 2,rg 2,rm [(1,oc [(0,iOb M K)] (.ar 1 0 0 M))] 2,.head] [graphA v] [64,160] (SHi v M K 0 0 (fun _=>0)) =
    some (zf63,[(NT 0 1),zE 45 [(zf77 v)] [(0,⟨false,1,M,(fun i=>[.p (.int .i64 (K i))])⟩)] (.ar 1 0 0 M),(AN 0),(AN 0),(AN 0),(AN M),(AI ((↑M:Int))),((0:Int)=(↑0:Int)),(AN 1),(NL 0 0),(AA 0 (fun i=>[.p (.int .i64 0)])),(AN 1),(NL M M),(AA M (fun i=>[.p (.int .i64 (K i))]))]):=by kernel_rfl
theorem hIt (v:T_Graph) (M:Nat) (K:Nat→Int) (i n:Nat) (f:Nat→Int) :
    zM 0 [rg 1,.dec true,rg 5,rg 2,.dec true,rg 5,rg 2,.head] zf63 (SHi v M K i n f) [354,1] 1 (SHi v M K (i+1) (n+1) (snocI n f i)) =
    some (zf63,[((decide ((↑i:Int)<(↑M:Int)))=true),(IL 0 (↑i:Int)),(IT (↑i:Int) (↑M:Int)),(NT i M),((decide (K ((↑i:Int).toNat+0)≥2))=true),(NL 1 1),(NL n n),(NL ((n+1)*8) 140737488355328),(NL (n+1) 9223372036854775807),(ZLo ((↑i:Int)+1)),(ZHi ((↑i:Int)+1)),(AN 0),(AN ((n+1))),(AN 0),(AN M),(AI ((↑M:Int))),((((↑i:Int)+1):Int)=(↑(i+1):Int)),(AN 1),(NL (n+1) (n+1)),(CV [(354,⟨false,1,(n+1),(fun i_2=>(if (i_2<n) then [.p (.int .i64 (f i_2))] else [.p (.int .i64 (↑i:Int))]))⟩),(322,⟨false,1,1,(fun i_2=>[.p (.int .i64 (↑i:Int))])⟩),(1,⟨false,1,M,(fun i_2=>[.p (.int .i64 (K i_2))])⟩)] [354,1] 1 (n+1) (fun i_1=>if (i_1<n) then [.p (.int .i64 (f i_1))] else [.p (.int .i64 (↑i:Int))]) (fun i_1=>[.p (.int .i64 (snocI n f (↑i:Int) i_1))])),(AN 1),(NL M M),(AA M (fun i_1=>[.p (.int .i64 (K i_1))]))]):=by kernel_rfl
theorem hIf (v:T_Graph) (M:Nat) (K:Nat→Int) (i n:Nat) (f:Nat→Int) :
    zM 0 [rg 1,.dec true,rg 5,rg 2,.dec false,rg 2,.head] zf63 (SHi v M K i n f) [0,1] 1 (SHi v M K (i+1) n f) =
    some (zf63,[((decide ((↑i:Int)<(↑M:Int)))=true),(IL 0 (↑i:Int)),(IT (↑i:Int) (↑M:Int)),(NT i M),((decide (K ((↑i:Int).toNat+0)≥2))=false),(ZLo ((↑i:Int)+1)),(ZHi ((↑i:Int)+1)),(AN 0),(AN n),(AN 0),(AN M),(AI ((↑M:Int))),((((↑i:Int)+1):Int)=(↑(i+1):Int)),(AN 1),(NL n n),(AA n (fun i_1=>[.p (.int .i64 (f i_1))])),(AN 1),(NL M M),(AA M (fun i_1=>[.p (.int .i64 (K i_1))]))]):=by kernel_rfl
theorem hIe (v:T_Graph) (M:Nat) (K:Nat→Int) (i n:Nat) (f:Nat→Int) :
    zP Try.f48 0 [rg 1,.dec false,rg 2] zf63 (SHi v M K i n f) [0] 1 [(0,iOb n f)] (.ar 1 0 0 n) =
    some [((decide ((↑i:Int)<(↑M:Int)))=false),(AN 0),(AN n),(AN 1),(NL n n),(AA n (fun i_1=>[.p (.int .i64 (f i_1))])),(AE n)]:=by kernel_rfl
def shD (K:Nat→Int):Nat→T_IntS
  | 0=>(0,fun _=>0)
  | p+1=>if decide (K p≥2)=true then ((shD K p).1+1,snocI (shD K p).1 (shD K p).2 p) else shD K p
theorem shD_le (K:Nat→Int):∀ p,(shD K p).1≤p
  | 0=>Nat.le_refl _
  | p+1=>by
    have:=shD_le K p
    simp only [shD]
    split
    · show (shD K p).1+1≤p+1;omega
    · omega
noncomputable def shG (v:T_Graph):T_IntS:=shD (jkG v).2 (jkG v).1
theorem con_SharedPoints_s (v:T_Graph) (hs:smS s_Graph v):zE 49 [graphA v] [(0,iOb (shG v).1 (shG v).2)] (.ar 1 0 0 (shG v).1):=by
  have hcm:=con_Comps_s v hs
  have hcg:=con_IsGraph_s v hs
  cases hg:isGraphF v with
  | false =>
    rw [hg] at hcg
    rw [show compsG v=(0,fun _=>(0,fun _=>0)) by simp [compsG,hg]] at hcm
    rw [show shG v=(0,fun _=>0) by simp [shG,jkG,hg,shD]]
    refine csZ Try.func49 (fun c hc=>?_)
    refine pkZ Try.func49 hc (hSy v) ?_
    and_intros
    all_goals (first | exact zI | (exact hcm) | (intros;exact hcg) | (simp;done) | (intro i hi;simp [All]))
  | true =>
    rw [hg] at hcg
    have hle:=compsG_le v
    obtain ⟨N,nb,g,rfl⟩:=graph_cases v hg
    obtain ⟨hN,hnb,_⟩:=graph_in hg
    rw [show shG ((N:Int),(nb,g),())=shD (fun x:Nat=>inC (compsG ((N:Int),(nb,g),())).2 (x:Int) (compsG ((N:Int),(nb,g),())).1) N by simp [shG,jkG,hg]]
    generalize compsG ((N:Int),(nb,g),())=cc at hcm hle ⊢
    obtain ⟨cn,C⟩:=cc
    simp only at hle ⊢
    obtain ⟨K,hK⟩:∃ K:Nat→Int,K=fun x:Nat=>inC C (x:Int) cn:=⟨_,rfl⟩
    rw [← hK]
    refine csZ Try.func49 (fun c hc=>?_)
    have lp:∀ d i,i+d=N→zR c 49 zf42 (SHs g nb N cn C i (shD K i).1 (shD K i).2) (Post c [(0,iOb (shD K N).1 (shD K N).2)] (.ar 1 0 0 (shD K N).1)):=by
      intro d
      induction d with
      | zero =>
        intro i hi
        obtain rfl:i=N:=by omega
        have hd:decide ((i:Int)<(i:Int))=false:=by simp
        refine pkD Try.func49 hc (hSe g nb i cn C i (shD K i).1 (shD K i).2) ?_
        and_intros
        all_goals (first | exact zI | (intros;exact hcg) | (intro h;rw [hd] at h;cases h) | (rw [hd];rfl) | (simp;done) | (intro j hj;simp [All]))
      | succ d ih =>
        intro i hi
        have hd:decide ((i:Int)<(N:Int))=true:=by simp;omega
        have hsl:=shD_le K i
        have hl:=con_l30In cn C i (by omega) (fun j hj=>by have:=hle.2 j hj;omega)
        have hKi:inC C (i:Int) cn=K i:=by rw [hK]
        rw [hKi] at hl
        have hih:=ih (i+1) (by omega)
        cases ht:decide (K i≥2) with
        | true =>
          have ht':decide (K i>1)=true:=by simp at ht ⊢;omega
          rw [show shD K (i+1)=((shD K i).1+1,snocI (shD K i).1 (shD K i).2 i) by simp only [shD];rw [if_pos ht]] at hih
          refine pcD hc (hSt g nb N cn C i (shD K i).1 (shD K i).2 (K i)) ?_ hih
          and_intros
          all_goals (first | exact zI | (intros;exact hcg) | (exact hl) | (rw [hd];rfl) | (exact ht') | (intro j hj;simp [All];done) | (intro j hj;by_cases h:j<(shD K i).1<;>simp [h,snocI,cvtL,cvt,tg,tru,All]))
        | false =>
          have ht':decide (K i>1)=false:=by simp at ht ⊢;omega
          rw [show shD K (i+1)=shD K i by simp only [shD];rw [if_neg (by rw [ht];simp)]] at hih
          refine pcD hc (hSf g nb N cn C i (shD K i).1 (shD K i).2 (K i)) ?_ hih
          and_intros
          all_goals (first | exact zI | (intros;exact hcg) | (exact hl) | (rw [hd];rfl) | (exact ht') | (intro j hj;simp [All]))
    refine pcD hc (hSz g nb N cn C) ?_ (lp N 0 (by omega))
    and_intros
    all_goals (first | exact zN | (exact hcm) | (intro j hj;simp [All]))
theorem con_SharedPoints_i (v:T_Graph) (hs:smS s_Graph v):zE 48 [graphA v] [(0,iOb (shG v).1 (shG v).2)] (.ar 1 0 0 (shG v).1):=by
  have hcj:=con_JointKinds_i v hs
  have hle:=jkG_le v
  unfold shG
  generalize jkG v=jj at hcj hle ⊢
  obtain ⟨M,K⟩:=jj
  simp only at hle ⊢
  refine csZ Try.func48 (fun c hc=>?_)
  have lp:∀ d i,i+d=M→zR c 48 zf63 (SHi v M K i (shD K i).1 (shD K i).2) (Post c [(0,iOb (shD K M).1 (shD K M).2)] (.ar 1 0 0 (shD K M).1)):=by
    intro d
    induction d with
    | zero =>
      intro i hi
      obtain rfl:i=M:=by omega
      have hd:decide ((i:Int)<(i:Int))=false:=by simp
      refine pkZ Try.func48 hc (hIe v i K i (shD K i).1 (shD K i).2) ?_
      and_intros
      all_goals (first | exact zN | (intro j hj;simp [All]))
    | succ d ih =>
      intro i hi
      have hd:decide ((i:Int)<(M:Int))=true:=by simp;omega
      have hsl:=shD_le K i
      have hih:=ih (i+1) (by omega)
      cases ht:decide (K i≥2) with
      | true =>
        rw [show shD K (i+1)=((shD K i).1+1,snocI (shD K i).1 (shD K i).2 i) by simp only [shD];rw [if_pos ht]] at hih
        refine pcZ hc (hIt v M K i (shD K i).1 (shD K i).2) ?_ hih
        and_intros
        all_goals (first | exact zN | (exact ht) | (intro j hj;simp [All];done) | (intro j hj;by_cases h:j<(shD K i).1<;>simp [h,snocI,cvtL,cvt,tg,tru,All]))
      | false =>
        rw [show shD K (i+1)=shD K i by simp only [shD];rw [if_neg (by rw [ht];simp)]] at hih
        refine pcZ hc (hIf v M K i (shD K i).1 (shD K i).2) ?_ hih
        and_intros
        all_goals (first | exact zN | (exact ht) | (intro j hj;simp [All]))
  refine pcZ hc (hIz v M K) ?_ (lp M 0 (by omega))
  and_intros
  all_goals (first | exact zN | (exact hcj) | (intro j hj;simp [All]))
def hasB (b:T_Bar) (p:Int):Bool:=bif b.1==p then true else b.2.1==p
def degF (g:Nat→T_Bar) (p:Int):Nat→Int
  | 0=>0
  | k+1=>if hasB (g k) p=true then degF g p k+1 else degF g p k
def SDgs (v:T_Graph) (p:Int) (k:Nat):St :=
  ⟨[graphA v,.p (.int .i64 p),.pt 2 0 0 0,.p .any,.p .any,.p (.int .i64 (degF v.2.1.2 p k)),.p (.int .i64 k)]++List.replicate 28 anyA,[(0,boxG v)],1⟩
def SDgi (v:T_Graph) (p:Int) (k:Nat):St :=
  ⟨[graphA v,.p (.int .i64 p),.pt 2 0 0 0,.p .any,.p .any,.p (.int .i64 (degF v.2.1.2 p k)),.p .any,.p .any,.p .any,graphL v.2.1,.p (.int .i64 v.2.1.1),.p (.int .i64 k)]++List.replicate 10 anyA,[(0,boxG v)],1⟩
theorem pDh (b:T_Bar) (p:Int) :
    zS Try.f111 [rg 2,rg 11] [barA b,.p (.int .i64 p)] [] [] (.p (.bool (hasB b p))) =
    some (zD [(NT 0 1),(AG (!b.1==p)),(((!b.1==p)=true)→(NT 0 1)),(((b.1==p)=false)→ ((!b.1==p)=true)),((bif b.1==p then true else b.2.1==p)=(hasB b p))] [0,1,2,1,1,3,4]):=by kernel_rfl
theorem pDsa (v:T_Graph) (p:Int) :
    zT Try.f90 [rg 2,rg 1,rg 1,.head] [graphA v,.p (.int .i64 p)] [0] (SDgs v p 0) =
    some (zf64,zD [(AI v.1),(AN v.2.1.1),(AP v.2.1.1 (bRw v.2.1.2)),(AI p),(AN 0),((0:Int)=(degF v.2.1.2 p 0)),((0:Int)=(↑0:Int)),((([AV.p (PV.int IntKind.i64 v.1),graphL v.2.1].length):Nat)=2),(NL 1 1)] [0,1,2,3,4,5,6,7,8,8,0,1,2]):=by kernel_rfl
theorem pDsb (v:T_Graph) (p:Int) (k:Nat) :
    zM 0 [rg 5,.dec true,rg 18,.dec true,rg 3,rg 3,.head] zf64 (SDgs v p k) [0] 1 (SDgs v p (k+1)) =
    some (zf64,zD [(NT 0 1),((decide ((↑k:Int)<(↑v.2.1.1:Int)))=true),(IL 0 (↑k:Int)),(IT (↑k:Int) (↑v.2.1.1:Int)),(AG (!(v.2.1.2 k).1==p)),(((!(v.2.1.2 k).1==p)=true)→(NT 0 1)),(((!(v.2.1.2 k).1==p)=true)→(IL 0 (↑k:Int))),(((!(v.2.1.2 k).1==p)=true)→(IT (↑k:Int) (↑v.2.1.1:Int))),((((v.2.1.2 k).1==p)=false)→ ((!(v.2.1.2 k).1==p)=true)),((bif (v.2.1.2 k).1==p then true else (v.2.1.2 k).2.1==p)=true),(ZLo (degF v.2.1.2 p k+1)),(ZHi (degF v.2.1.2 p k+1)),(ZLo ((↑k:Int)+1)),(ZHi ((↑k:Int)+1)),(AI v.1),(AN v.2.1.1),(AP v.2.1.1 (bRw v.2.1.2)),(AI p),(AN 0),(((degF v.2.1.2 p k+1):Int)=(degF v.2.1.2 p (k+1))),((((↑k:Int)+1):Int)=(↑(k+1):Int)),(AN 2),(NL 1 1)] [0,1,0,2,3,4,5,4,4,6,7,4,4,4,4,8,9,10,11,12,13,14,15,16,17,18,19,20,21,22,22,14,15,16]):=by kernel_rfl
theorem pDsc (v:T_Graph) (p:Int) (k:Nat) :
    zM 0 [rg 5,.dec true,rg 18,.dec false,rg 3,.head] zf64 (SDgs v p k) [0] 1 (SDgs v p (k+1)) =
    some (zf64,zD [(NT 0 1),((decide ((↑k:Int)<(↑v.2.1.1:Int)))=true),(IL 0 (↑k:Int)),(IT (↑k:Int) (↑v.2.1.1:Int)),(AG (!(v.2.1.2 k).1==p)),(((!(v.2.1.2 k).1==p)=true)→(NT 0 1)),(((!(v.2.1.2 k).1==p)=true)→(IL 0 (↑k:Int))),(((!(v.2.1.2 k).1==p)=true)→(IT (↑k:Int) (↑v.2.1.1:Int))),((((v.2.1.2 k).1==p)=false)→ ((!(v.2.1.2 k).1==p)=true)),((bif (v.2.1.2 k).1==p then true else (v.2.1.2 k).2.1==p)=false),(ZLo ((↑k:Int)+1)),(ZHi ((↑k:Int)+1)),(AI v.1),(AN v.2.1.1),(AP v.2.1.1 (bRw v.2.1.2)),(AI p),(AN 0),(((degF v.2.1.2 p k):Int)=(degF v.2.1.2 p (k+1))),((((↑k:Int)+1):Int)=(↑(k+1):Int)),(AN 2),(NL 1 1)] [0,1,0,2,3,4,5,4,4,6,7,4,4,4,4,8,9,10,11,12,13,14,15,16,17,18,19,20,20,12,13,14]):=by kernel_rfl
theorem pDsd (v:T_Graph) (p:Int) (k:Nat) :
    zP Try.f90 0 [rg 5,.dec false,rg 2] zf64 (SDgs v p k) [] 1 [] (.p (.int .i64 (degF v.2.1.2 p k))) =
    some [(NT 0 1),((decide ((↑k:Int)<(↑v.2.1.1:Int)))=false),(AI ((degF v.2.1.2 p k)))]:=by kernel_rfl
theorem pDia (v:T_Graph) (p:Int) :
    zT Try.f89 [rg 2,rg 1,rg 4,.head] [graphA v,.p (.int .i64 p)] [0] (SDgi v p 0) =
    some (zf65,zD [(NT 0 1),(AI v.1),(AN v.2.1.1),(AP v.2.1.1 (bRw v.2.1.2)),(AI p),(AN 0),((0:Int)=(degF v.2.1.2 p 0)),(AI ((↑v.2.1.1:Int))),((0:Int)=(↑0:Int)),((([AV.p (PV.int IntKind.i64 v.1),graphL v.2.1].length):Nat)=2),(NL 1 1)] [0,1,2,3,4,5,6,2,3,7,8,9,10,10,1,2,3]):=by kernel_rfl
theorem pDib (v:T_Graph) (p:Int) (k:Nat) :
    zM 0 [rg 1,.dec true,rg 4,rm [(2,oc [] (.p (.bool (hasB (v.2.1.2 k) p))))] 0,.dec true,rg 3,rg 2,.head] zf65 (SDgi v p k) [0] 1 (SDgi v p (k+1)) =
    some (zf65,zD [((decide ((↑k:Int)<(↑v.2.1.1:Int)))=true),(IL 0 (↑k:Int)),(IT (↑k:Int) (↑v.2.1.1:Int)),(NT 0 1),((true=true)→ (AN 1)),zE 111 [(zf87 v k),.p (.int .i64 p)] [] (.p (.bool (hasB (v.2.1.2 k) p))),((hasB (v.2.1.2 k) p)=true),(ZLo (degF v.2.1.2 p k+1)),(ZHi (degF v.2.1.2 p k+1)),(ZLo ((↑k:Int)+1)),(ZHi ((↑k:Int)+1)),(AI v.1),(AN v.2.1.1),(AP v.2.1.1 (bRw v.2.1.2)),(AI p),(AN 0),(((degF v.2.1.2 p k+1):Int)=(degF v.2.1.2 p (k+1))),(AI ((↑v.2.1.1:Int))),((((↑k:Int)+1):Int)=(↑(k+1):Int)),(AN 2),(NL 1 1)] [0,1,2,3,4,3,5,6,7,8,9,10,11,12,13,14,15,16,12,13,17,18,19,20,20,11,12,13]):=by kernel_rfl
theorem pDic (v:T_Graph) (p:Int) (k:Nat) :
    zM 0 [rg 1,.dec true,rg 4,rm [(2,oc [] (.p (.bool (hasB (v.2.1.2 k) p))))] 0,.dec false,rg 2,.head] zf65 (SDgi v p k) [0] 1 (SDgi v p (k+1)) =
    some (zf65,zD [((decide ((↑k:Int)<(↑v.2.1.1:Int)))=true),(IL 0 (↑k:Int)),(IT (↑k:Int) (↑v.2.1.1:Int)),(NT 0 1),((true=true)→ (AN 1)),zE 111 [(zf87 v k),.p (.int .i64 p)] [] (.p (.bool (hasB (v.2.1.2 k) p))),((hasB (v.2.1.2 k) p)=false),(ZLo ((↑k:Int)+1)),(ZHi ((↑k:Int)+1)),(AI v.1),(AN v.2.1.1),(AP v.2.1.1 (bRw v.2.1.2)),(AI p),(AN 0),(((degF v.2.1.2 p k):Int)=(degF v.2.1.2 p (k+1))),(AI ((↑v.2.1.1:Int))),((((↑k:Int)+1):Int)=(↑(k+1):Int)),(AN 2),(NL 1 1)] [0,1,2,3,4,3,5,6,7,8,9,10,11,12,13,14,10,11,15,16,17,18,18,9,10,11]):=by kernel_rfl
theorem pDid (v:T_Graph) (p:Int) (k:Nat) :
    zP Try.f89 0 [rg 1,.dec false,rg 2] zf65 (SDgi v p k) [] 1 [] (.p (.int .i64 (degF v.2.1.2 p k))) =
    some [((decide ((↑k:Int)<(↑v.2.1.1:Int)))=false),(AI ((degF v.2.1.2 p k)))]:=by kernel_rfl
theorem con_hasD (b:T_Bar) (p:Int):zE 111 [barA b,.p (.int .i64 p)] [] (.p (.bool (hasB b p))):=by
  refine csZ Try.func111 (fun c hc=>?_)
  refine pkD Try.func111 hc (pDh b p) ?_
  and_intros
  all_goals (first | exact zH)
theorem degF_bd (g:Nat→T_Bar) (p:Int):∀ k:Nat,0≤degF g p k∧degF g p k≤k
  | 0=>⟨Int.le_refl _,Int.le_refl _⟩
  | k+1=>by
    have:=degF_bd g p k
    unfold degF
    split<;>omega
theorem con_DegreeOf_s (v:T_Graph) (p:Int) (hs:smS s_Graph v):zE 90 [graphA v,.p (.int .i64 p)] [] (.p (.int .i64 (degF v.2.1.2 p v.2.1.1))):=by
  refine csZ Try.func90 (fun c hc=>?_)
  have hn:v.2.1.1≤1048576:=hs.2.1.1
  have lp:∀ m k,k+m=v.2.1.1→zR c 90 zf64 (SDgs v p k) (Post c [] (.p (.int .i64 (degF v.2.1.2 p v.2.1.1)))):=by
    intro m
    induction m with
    | zero =>
      intro k hk
      rw [show v.2.1.1=k by omega]
      have hd:decide ((k:Int)<(v.2.1.1:Int))=false:=by simp;omega
      refine pkZ Try.func90 hc (pDsd v p k) ?_
      and_intros
      all_goals (first | exact zN)
    | succ m ih =>
      intro k hk
      have hb:=degF_bd v.2.1.2 p k
      have hd:decide ((k:Int)<(v.2.1.1:Int))=true:=by simp;omega
      cases he:hasB (v.2.1.2 k) p with
      | true =>
        have hstep:degF v.2.1.2 p (k+1)=degF v.2.1.2 p k+1:=by rw [degF,if_pos he]
        refine pcD hc (pDsb v p k) ?_ (ih (k+1) (by omega))
        and_intros
        all_goals (first | exact zH | (exact he) | (simp [All]))
      | false =>
        have hstep:degF v.2.1.2 p (k+1)=degF v.2.1.2 p k:=by rw [degF,he];rfl
        refine pcD hc (pDsc v p k) ?_ (ih (k+1) (by omega))
        and_intros
        all_goals (first | exact zH | (exact he) | (simp [All]))
  refine pcD hc (pDsa v p) ?_ (lp v.2.1.1 0 (by omega))
  and_intros
  all_goals (first | exact zN | (simp [All]))
theorem con_DegreeOf_i (v:T_Graph) (p:Int) (hs:smS s_Graph v):zE 89 [graphA v,.p (.int .i64 p)] [] (.p (.int .i64 (degF v.2.1.2 p v.2.1.1))):=by
  refine csZ Try.func89 (fun c hc=>?_)
  have hn:v.2.1.1≤1048576:=hs.2.1.1
  have lp:∀ m k,k+m=v.2.1.1→zR c 89 zf65 (SDgi v p k) (Post c [] (.p (.int .i64 (degF v.2.1.2 p v.2.1.1)))):=by
    intro m
    induction m with
    | zero =>
      intro k hk
      have e:v.2.1.1=k:=by omega
      have hd:decide ((k:Int)<(v.2.1.1:Int))=false:=by simp;omega
      rw [show degF v.2.1.2 p v.2.1.1=degF v.2.1.2 p k by rw [e]]
      refine pkZ Try.func89 hc (pDid v p k) ?_
      and_intros
      all_goals (first | exact zN)
    | succ m ih =>
      intro k hk
      have hb:=degF_bd v.2.1.2 p k
      have hd:decide ((k:Int)<(v.2.1.1:Int))=true:=by simp;omega
      cases he:hasB (v.2.1.2 k) p with
      | true =>
        have hstep:degF v.2.1.2 p (k+1)=degF v.2.1.2 p k+1:=by rw [degF,if_pos he]
        refine pcD hc (pDib v p k) ?_ (ih (k+1) (by omega))
        and_intros
        all_goals (first | exact zI | (exact con_hasD _ _) | (exact he) | (simp [All]))
      | false =>
        have hstep:degF v.2.1.2 p (k+1)=degF v.2.1.2 p k:=by rw [degF,he];rfl
        refine pcD hc (pDic v p k) ?_ (ih (k+1) (by omega))
        and_intros
        all_goals (first | exact zI | (exact con_hasD _ _) | (exact he) | (simp [All]))
  refine pcD hc (pDia v p) ?_ (lp v.2.1.1 0 (by omega))
  and_intros
  all_goals (first | exact zN | (simp [All]))
def looseL (v:T_Graph):Nat→List Int
  | 0=>[]
  | k+1=>if degF v.2.1.2 k v.2.1.1=0 then looseL v k++[(k:Int)] else looseL v k
def looseF (v:T_Graph):List Int:=if isGraphF v=true then looseL v v.1.toNat else []
def intsOb (l:List Int):Ob:=⟨false,1,l.length,fun i=>[.p (.int .i64 (l.getD i 0))]⟩
def S28 (v:T_Graph) (k:Nat):St :=
  ⟨[graphA v,.pt 2 0 0 0,.p .any,.ar 1 1 0 (looseL v k).length,.p (.int .i64 k)]++List.replicate 20 anyA,[(0,boxG v),(1,intsOb (looseL v k))],2⟩
def S30 (v:T_Graph) (k:Nat):St :=
  ⟨[graphA v,.pt 2 0 0 0,.p .any,.ar 1 1 0 (looseL v k).length]++List.replicate 7 anyA++[.p (.int .i64 v.1),.p (.int .i64 k)]++List.replicate 12 anyA,[(0,boxG v),(1,intsOb (looseL v k))],2⟩
theorem p28a (v:T_Graph) :
    zT Try.f51 [rg 2,rg 2,rg 1,.head] [graphA v] [0,64] (S28 v 0) =
    some (zf66,zD [(AI v.1),(AN v.2.1.1),(AP v.2.1.1 (bRw v.2.1.2)),(AN 0),((0:Nat)=((looseL v 0).length)),((0:Int)=(↑0:Int)),((([AV.p (PV.int IntKind.i64 v.1),graphL v.2.1].length):Nat)=2),(NL 1 1),(AN 1),(NL ((looseL v 0).length) 0),(∀ i:Nat,(((i:Nat)<((looseL v 0).length))→(All []∧(([.p (.int .i64 0)]:List AV)=[.p (.int .i64 ((looseL v 0).getD i 0))]))))] [0,1,2,3,3,4,5,6,7,7,0,1,2,8,9,10]):=by kernel_rfl
theorem p28b (v:T_Graph) (k:Nat) :
    zM 0 [rm [(6,oc [] (.p (.bool (isGraphF v))))] 1,.dec true,rm [(2,oc [] (.p (.int .i64 (degF v.2.1.2 k v.2.1.1))))] 1,.dec true,rg 5,rg 3,.head] zf66 (S28 v k) [0,482] 1 (S28 v (k+1)) =
    some (zf66,zD [(NT 0 1),(((decide ((↑k:Int)<v.1))=true)→(NT 0 1)),(AG (decide ((↑k:Int)<v.1))),(((decide ((↑k:Int)<v.1))=true)→ zE 38 [(zf77 v)] [] (.p (.bool (isGraphF v)))),((bif decide ((↑k:Int)<v.1) then isGraphF v else false)=true),zE 90 [(zf77 v),.p (.int .i64 (↑k:Int))] [] (.p (.int .i64 (degF v.2.1.2 (↑k:Int) v.2.1.1))),((degF v.2.1.2 (↑k:Int) v.2.1.1==0)=true),(NL 1 1),(NL ((looseL v k).length) ((looseL v k).length)),(NL (((looseL v k).length+1)*8) 140737488355328),(NL ((looseL v k).length+1) 9223372036854775807),(ZLo ((↑k:Int)+1)),(ZHi ((↑k:Int)+1)),(AI v.1),(AN v.2.1.1),(AP v.2.1.1 (bRw v.2.1.2)),(AN 0),((((looseL v k).length+1):Nat)=((looseL v (k+1)).length)),((((↑k:Int)+1):Int)=(↑(k+1):Int)),(AN 2),(AN 1),(NL ((looseL v (k+1)).length) ((looseL v k).length+1)),(CV [(482,⟨false,1,((looseL v k).length+1),(fun i_1=>(if (i_1<(looseL v k).length) then [.p (.int .i64 ((looseL v k).getD i_1 0))] else [.p (.int .i64 (↑k:Int))]))⟩),(450,⟨false,1,1,(fun i_1=>[.p (.int .i64 (↑k:Int))])⟩),(0,⟨true,2,1,(fun i_1=>[.p (.int .i64 v.1),.p (.seq true 2 v.2.1.1 (bRw v.2.1.2))])⟩)] [0,482] 1 ((looseL v (k+1)).length) (fun i=>if (i<(looseL v k).length) then [.p (.int .i64 ((looseL v k).getD i 0))] else [.p (.int .i64 (↑k:Int))]) (fun i=>[.p (.int .i64 ((looseL v (k+1)).getD i 0))]))] [0,1,2,3,2,4,0,5,6,7,8,9,10,11,12,13,14,15,16,16,17,18,19,7,7,13,14,15,20,21,22]):=by kernel_rfl
theorem p28c (v:T_Graph) (k:Nat) :
    zM 0 [rm [(6,oc [] (.p (.bool (isGraphF v))))] 1,.dec true,rm [(2,oc [] (.p (.int .i64 (degF v.2.1.2 k v.2.1.1))))] 1,.dec false,rg 3,.head] zf66 (S28 v k) [0,1] 1 (S28 v (k+1)) =
    some (zf66,zD [(NT 0 1),(((decide ((↑k:Int)<v.1))=true)→(NT 0 1)),(AG (decide ((↑k:Int)<v.1))),(((decide ((↑k:Int)<v.1))=true)→ zE 38 [(zf77 v)] [] (.p (.bool (isGraphF v)))),((bif decide ((↑k:Int)<v.1) then isGraphF v else false)=true),zE 90 [(zf77 v),.p (.int .i64 (↑k:Int))] [] (.p (.int .i64 (degF v.2.1.2 (↑k:Int) v.2.1.1))),((degF v.2.1.2 (↑k:Int) v.2.1.1==0)=false),(ZLo ((↑k:Int)+1)),(ZHi ((↑k:Int)+1)),(AI v.1),(AN v.2.1.1),(AP v.2.1.1 (bRw v.2.1.2)),(AN 0),((((looseL v k).length):Nat)=((looseL v (k+1)).length)),((((↑k:Int)+1):Int)=(↑(k+1):Int)),(AN 2),(NL 1 1),(AN 1),(NL ((looseL v (k+1)).length) ((looseL v k).length)),(∀ i:Nat,(((i:Nat)<((looseL v (k+1)).length))→(All []∧(([.p (.int .i64 ((looseL v k).getD i 0))]:List AV)=[.p (.int .i64 ((looseL v (k+1)).getD i 0))]))))] [0,1,2,3,2,4,0,5,6,7,8,9,10,11,12,12,13,14,15,16,16,9,10,11,17,18,19]):=by kernel_rfl
theorem p28d (v:T_Graph) (k:Nat) :
    zP Try.f51 0 [rm [(6,oc [] (.p (.bool (isGraphF v))))] 1,.dec false,rg 2] zf66 (S28 v k) [1] 1 [(0,intsOb (looseL v k))] (.ar 1 0 0 (looseL v k).length) =
    some [(NT 0 1),(((decide ((↑k:Int)<v.1))=true)→(NT 0 1)),(AG (decide ((↑k:Int)<v.1))),(((decide ((↑k:Int)<v.1))=true)→ zE 38 [(zf77 v)] [] (.p (.bool (isGraphF v)))),(AG (decide ((↑k:Int)<v.1))),((bif decide ((↑k:Int)<v.1) then isGraphF v else false)=false),(AN 0),(AN (((looseL v k).length))),(AN 1),(NL ((looseL v k).length) ((looseL v k).length)),(AA (((looseL v k).length)) (fun i=>[.p (.int .i64 ((looseL v k).getD i 0))])),(AE (((looseL v k).length)))]:=by kernel_rfl
theorem p30z (v:T_Graph) :
    zS Try.f50 [rg 2,rg 2,rm [(1,oc [] (.p (.bool (isGraphF v))))] 1,.dec true,rg 2] [graphA v] [64] [(0,⟨false,1,0,fun i=>[.p (.int .i64 0)]⟩)] (.ar 1 0 0 0) =
    some [(NT 0 1),zE 24 [(zf77 v)] [] (.p (.bool (isGraphF v))),((!isGraphF v)=true),(AN 0),(AN 0),(AN 1),(NL 0 0),(AA 0 (fun i=>[.p (.int .i64 0)])),(AE 0)]:=by kernel_rfl
theorem p30a (v:T_Graph) :
    zT Try.f50 [rg 2,rg 2,rm [(1,oc [] (.p (.bool (isGraphF v))))] 1,.dec false,rg 3,.head] [graphA v] [0,64] (S30 v 0) =
    some (zf43,zD [(NT 0 1),zE 24 [(zf77 v)] [] (.p (.bool (isGraphF v))),((!isGraphF v)=false),(AI v.1),(AN v.2.1.1),(AP v.2.1.1 (bRw v.2.1.2)),(AN 0),((0:Nat)=((looseL v 0).length)),((0:Int)=(↑0:Int)),((([AV.p (PV.int IntKind.i64 v.1),graphL v.2.1].length):Nat)=2),(NL 1 1),(AN 1),(NL ((looseL v 0).length) 0),(∀ i:Nat,(((i:Nat)<((looseL v 0).length))→(All []∧(([.p (.int .i64 0)]:List AV)=[.p (.int .i64 ((looseL v 0).getD i 0))]))))] [0,1,2,0,3,4,5,6,6,7,3,8,9,10,10,3,4,5,11,12,13]):=by kernel_rfl
theorem p30b (v:T_Graph) (k:Nat) :
    zM 0 [rg 1,.dec true,rg 2,rm [(2,oc [] (.p (.int .i64 (degF v.2.1.2 k v.2.1.1))))] 1,.dec true,rg 5,rg 2,.head] zf43 (S30 v k) [0,322] 1 (S30 v (k+1)) =
    some (zf43,zD [((decide ((↑k:Int)<v.1))=true),(NT 0 1),zE 89 [(zf77 v),.p (.int .i64 (↑k:Int))] [] (.p (.int .i64 (degF v.2.1.2 (↑k:Int) v.2.1.1))),((degF v.2.1.2 (↑k:Int) v.2.1.1==0)=true),(NL 1 1),(NL ((looseL v k).length) ((looseL v k).length)),(NL (((looseL v k).length+1)*8) 140737488355328),(NL ((looseL v k).length+1) 9223372036854775807),(ZLo ((↑k:Int)+1)),(ZHi ((↑k:Int)+1)),(AI v.1),(AN v.2.1.1),(AP v.2.1.1 (bRw v.2.1.2)),(AN 0),((((looseL v k).length+1):Nat)=((looseL v (k+1)).length)),((((↑k:Int)+1):Int)=(↑(k+1):Int)),(AN 2),(AN 1),(NL ((looseL v (k+1)).length) ((looseL v k).length+1)),(CV [(322,⟨false,1,((looseL v k).length+1),(fun i_1=>(if (i_1<(looseL v k).length) then [.p (.int .i64 ((looseL v k).getD i_1 0))] else [.p (.int .i64 (↑k:Int))]))⟩),(290,⟨false,1,1,(fun i_1=>[.p (.int .i64 (↑k:Int))])⟩),(0,⟨true,2,1,(fun i_1=>[.p (.int .i64 v.1),.p (.seq true 2 v.2.1.1 (bRw v.2.1.2))])⟩)] [0,322] 1 ((looseL v (k+1)).length) (fun i=>if (i<(looseL v k).length) then [.p (.int .i64 ((looseL v k).getD i 0))] else [.p (.int .i64 (↑k:Int))]) (fun i=>[.p (.int .i64 ((looseL v (k+1)).getD i 0))]))] [0,1,2,3,4,5,6,7,8,9,10,11,12,13,13,14,10,15,16,4,4,10,11,12,17,18,19]):=by kernel_rfl
theorem p30c (v:T_Graph) (k:Nat) :
    zM 0 [rg 1,.dec true,rg 2,rm [(2,oc [] (.p (.int .i64 (degF v.2.1.2 k v.2.1.1))))] 1,.dec false,rg 2,.head] zf43 (S30 v k) [0,1] 1 (S30 v (k+1)) =
    some (zf43,zD [((decide ((↑k:Int)<v.1))=true),(NT 0 1),zE 89 [(zf77 v),.p (.int .i64 (↑k:Int))] [] (.p (.int .i64 (degF v.2.1.2 (↑k:Int) v.2.1.1))),((degF v.2.1.2 (↑k:Int) v.2.1.1==0)=false),(ZLo ((↑k:Int)+1)),(ZHi ((↑k:Int)+1)),(AI v.1),(AN v.2.1.1),(AP v.2.1.1 (bRw v.2.1.2)),(AN 0),((((looseL v k).length):Nat)=((looseL v (k+1)).length)),((((↑k:Int)+1):Int)=(↑(k+1):Int)),(AN 2),(NL 1 1),(AN 1),(NL ((looseL v (k+1)).length) ((looseL v k).length)),(∀ i:Nat,(((i:Nat)<((looseL v (k+1)).length))→(All []∧(([.p (.int .i64 ((looseL v k).getD i 0))]:List AV)=[.p (.int .i64 ((looseL v (k+1)).getD i 0))]))))] [0,1,2,3,4,5,6,7,8,9,9,10,6,11,12,13,13,6,7,8,14,15,16]):=by kernel_rfl
theorem p30d (v:T_Graph) (k:Nat) :
    zP Try.f50 0 [rg 1,.dec false,rg 2] zf43 (S30 v k) [1] 1 [(0,intsOb (looseL v k))] (.ar 1 0 0 (looseL v k).length) =
    some [((decide ((↑k:Int)<v.1))=false),(AN 0),(AN (((looseL v k).length))),(AN 1),(NL ((looseL v k).length) ((looseL v k).length)),(AA (((looseL v k).length)) (fun i=>[.p (.int .i64 ((looseL v k).getD i 0))])),(AE (((looseL v k).length)))]:=by kernel_rfl
theorem looseL_len (v:T_Graph):∀ k,(looseL v k).length≤k
  | 0=>Nat.le_refl _
  | k+1=>by
    have:=looseL_len v k
    unfold looseL
    split
    · simp;omega
    · omega
theorem isGraph_in {v:T_Graph} (h:isGraphF v=true):1≤v.1∧v.1≤8∧v.2.1.1≤24:=by
  unfold isGraphF at h
  split at h
  · rename_i hz
    simp only [inB,Bool.and_eq_true,decide_eq_true_eq] at hz
    exact ⟨hz.1.1,hz.1.2,hz.2⟩
  · cases h
theorem con_LoosePoints_s (v:T_Graph) (hs:smS s_Graph v):zE 51 [graphA v] [(0,intsOb (looseF v))] (.ar 1 0 0 (looseF v).length):=by
  refine csZ Try.func51 (fun c hc=>?_)
  cases hg:isGraphF v with
  | false =>
    rw [show looseF v=looseL v 0 by simp [looseF,hg,looseL]]
    refine pcD hc (p28a v) ?_ ?_
    · simp only [All]
      repeat' (first | exact trivial | with_reducible apply And.intro)
      iterate 2 all_goals (first | exact aP _ _ | omega | rfl | (simp [All,looseL]) | simp only [All])
    · have hb:(bif decide (((0:Nat):Int)<v.1) then isGraphF v else false)=false:=by rw [hg];simp
      refine pkZ Try.func51 hc (p28d v 0) ?_
      and_intros
      all_goals (first | exact zI | (intros;exact con_IsGraph_s v hs) | (exact hb) | (intro i hi;simp [All]))
  | true =>
    obtain ⟨b1,b2,b3⟩:=isGraph_in hg
    rw [show looseF v=looseL v v.1.toNat by simp [looseF,hg]]
    have lp:∀ m k,k+m=v.1.toNat→zR c 51 zf66 (S28 v k) (Post c [(0,intsOb (looseL v v.1.toNat))] (.ar 1 0 0 (looseL v v.1.toNat).length)):=by
      intro m
      induction m with
      | zero =>
        intro k hk
        rw [show v.1.toNat=k by omega]
        have hb:(bif decide ((k:Int)<v.1) then isGraphF v else false)=false:=by
          rw [decide_eq_false (by omega)];rfl
        refine pkZ Try.func51 hc (p28d v k) ?_
        and_intros
        all_goals (first | exact zI | (intros;exact con_IsGraph_s v hs) | (exact hb) | (intro i hi;simp [All]))
      | succ m ih =>
        intro k hk
        have hl:=looseL_len v k
        have hb:(bif decide ((k:Int)<v.1) then isGraphF v else false)=true:=by
          rw [decide_eq_true (by omega),hg];rfl
        by_cases hd:degF v.2.1.2 k v.2.1.1=0
        · have hL:looseL v (k+1)=looseL v k++[(k:Int)]:=by rw [looseL,if_pos hd]
          have hlen:(looseL v (k+1)).length=(looseL v k).length+1:=by rw [hL];simp
          refine pcD hc (p28b v k) ?_ (ih (k+1) (by omega))
          and_intros
          all_goals (first | exact zI | (intros;exact con_IsGraph_s v hs) | (exact con_DegreeOf_s v _ hs) | (exact hb) | (simp [hd];done) | (simp [All];done) | (intro i hi;(have hi2:i<(looseL v k).length+1:=by omega);by_cases h:i<(looseL v k).length<;>simp [h,cvtL,cvt,tg,tru,All,hL,List.getElem?_append,show ¬ i<(looseL v k).length→i=(looseL v k).length from fun h=>by omega]))
        · have hL:looseL v (k+1)=looseL v k:=by rw [looseL,if_neg hd]
          refine pcD hc (p28c v k) ?_ (ih (k+1) (by omega))
          and_intros
          iterate 2 all_goals (first | exact zI | (intros;exact con_IsGraph_s v hs) | (exact con_DegreeOf_s v _ hs) | (exact hb) | (simp [hd];done) | (rw [hL];first | done | exact Nat.le_refl _ | (intro i hi;simp [All])) | simp only [All])
    refine pcD hc (p28a v) ?_ (lp v.1.toNat 0 (by omega))
    and_intros
    iterate 2 all_goals (first | exact aP _ _ | omega | rfl | (simp [All,looseL]) | simp only [All])
theorem con_LoosePoints_i (v:T_Graph) (hs:smS s_Graph v):zE 50 [graphA v] [(0,intsOb (looseF v))] (.ar 1 0 0 (looseF v).length):=by
  refine csZ Try.func50 (fun c hc=>?_)
  cases hg:isGraphF v with
  | false =>
    rw [show looseF v=[] by simp [looseF,hg]]
    refine pkZ Try.func50 hc (p30z v) ?_
    and_intros
    all_goals (first | exact zN | (intros;exact con_IsGraph_i v hs) | (rw [hg];rfl) | (intro i hi;simp [All]))
  | true =>
    obtain ⟨b1,b2,b3⟩:=isGraph_in hg
    rw [show looseF v=looseL v v.1.toNat by simp [looseF,hg]]
    have lp:∀ m k,k+m=v.1.toNat→zR c 50 zf43 (S30 v k) (Post c [(0,intsOb (looseL v v.1.toNat))] (.ar 1 0 0 (looseL v v.1.toNat).length)):=by
      intro m
      induction m with
      | zero =>
        intro k hk
        rw [show v.1.toNat=k by omega]
        have hb:decide ((k:Int)<v.1)=false:=decide_eq_false (by omega)
        refine pkZ Try.func50 hc (p30d v k) ?_
        and_intros
        all_goals (first | exact zN | (intro i hi;simp [All]))
      | succ m ih =>
        intro k hk
        have hl:=looseL_len v k
        have hb:decide ((k:Int)<v.1)=true:=decide_eq_true (by omega)
        by_cases hd:degF v.2.1.2 k v.2.1.1=0
        · have hL:looseL v (k+1)=looseL v k++[(k:Int)]:=by rw [looseL,if_pos hd]
          have hlen:(looseL v (k+1)).length=(looseL v k).length+1:=by rw [hL];simp
          refine pcD hc (p30b v k) ?_ (ih (k+1) (by omega))
          and_intros
          all_goals (first | exact zN | (exact con_DegreeOf_i v _ hs) | (simp [hd];done) | (simp [All];done) | (intro i hi;(have hi2:i<(looseL v k).length+1:=by omega);by_cases h:i<(looseL v k).length<;>simp [h,cvtL,cvt,tg,tru,All,hL,List.getElem?_append,show ¬ i<(looseL v k).length→i=(looseL v k).length from fun h=>by omega]))
        · have hL:looseL v (k+1)=looseL v k:=by rw [looseL,if_neg hd]
          refine pcD hc (p30c v k) ?_ (ih (k+1) (by omega))
          and_intros
          iterate 2 all_goals (first | exact zN | (exact con_DegreeOf_i v _ hs) | (simp [hd];done) | (rw [hL];first | done | exact Nat.le_refl _ | (intro i hi;simp [All])) | simp only [All])
    refine pcD hc (p30a v) ?_ (lp v.1.toNat 0 (by omega))
    and_intros
    iterate 2 all_goals (first | exact aP _ _ | omega | rfl | (exact con_IsGraph_i v hs) | (rw [hg];rfl) | (simp [All,looseL]) | simp only [All])
def cmG (v:T_Graph) (j:Nat):Ob:=⟨true,2,1,fun _=>[.p (.int .i64 v.1),.ar 2 j 0 v.2.1.1]⟩
def cmQ (C:Nat→T_IntS) (k:Nat) (x:Int):Bool:=hasI (C k).2 x (C k).1
def SCm0 (n:Nat) (f:Nat→Int) (v:T_Graph) (cn:Nat) (C:Nat→T_IntS) (i:Nat):St :=
  ⟨[cdA n f,.p .any,.p .any,.pt 2 0 0 0,.p .any,.ar 1 2 0 cn,.p (.int .i64 (cbS C i)),.p (.int .i64 i)]++List.replicate 208 anyA,[(0,cmG v 1),(1,brOb v.2.1.1 v.2.1.2),(2,ssOb cn C)],3⟩
def SCm1 (n:Nat) (f:Nat→Int) (v:T_Graph) (cn:Nat) (C:Nat→T_IntS) (i k:Nat):St :=
  ⟨[cdA n f,.p .any,.p .any,.pt 2 0 0 0,.p .any,.ar 1 2 0 cn,.p (.int .i64 (cbS C (i+1))),.p (.int .i64 i),.p (.int .i64 k)]++List.replicate 207 anyA,[(0,cmG v 1),(1,brOb v.2.1.1 v.2.1.2),(2,ssOb cn C)],3⟩
def SCm2 (n:Nat) (f:Nat→Int) (v:T_Graph) (cn:Nat) (C:Nat→T_IntS) (i k u:Nat):St :=
  ⟨[cdA n f,.p .any,.p .any,.pt 2 0 0 0,.p .any,.ar 1 2 0 cn,.p (.int .i64 (cbS C (i+1))),.p (.int .i64 i),.p (.int .i64 k),.p (.int .i64 (cntS (C i).2 (cmQ C k) u)),.p (.int .i64 u)]++List.replicate 205 anyA,[(0,cmG v 1),(1,brOb v.2.1.1 v.2.1.2),(2,ssOb cn C)],3⟩
def SCm3 (n:Nat) (f:Nat→Int) (v:T_Graph) (cn:Nat) (C:Nat→T_IntS) (w:T_Graph) (e:Int) (z:T_Graph) (a b:Int) (K:Nat→Nat) (i:Nat):St :=
  ⟨[cdA n f,.p .any,.p .any,.pt 2 0 0 0,.p .any,.ar 1 2 0 cn,.p .any,.p .any,.p .any,.p .any,.p .any,.pt 2 3 0 0,.p (.int .i64 e),.pt 2 5 0 0,.p (.int .i64 a),.p (.int .i64 b),.ar 2 7 0 cn,.p .any,.p (.int .i64 (smK K i)),.p (.int .i64 i)]++List.replicate 196 anyA,
   [(0,cmG v 1),(1,brOb v.2.1.1 v.2.1.2),(2,ssOb cn C),(3,cmG w 4),(4,brOb w.2.1.1 w.2.1.2),(5,cmG z 6),(6,brOb z.2.1.1 z.2.1.2),(7,boOb 8 cn C K),(8,cfOb cn C)],9⟩
theorem cwz (n:Nat) (f:Nat→Int) :
    zS Try.f4 [rg 1,rm [(1,oc [] (.p (.bool true)))] 0,.dec true,rg 1] [cdA n f] [] [] (.p (.bool true)) =
    some [zE 5 [.p (.seq true 1 n (fun i=>[.int .u8 (f i)]))] [] (.p (.bool true)),(true=true),(true=true)]:=by kernel_rfl
theorem cwa (n:Nat) (f:Nat→Int) (v:T_Graph) (cn:Nat) (C:Nat→T_IntS) (F:ByteArray) (x:Int) (y:Bool) :
    zT Try.f4 [rg 1,rm [(1,oc [] (.p (.bool false)))] 0,.dec false,rm [(1,oc [(0,brOb v.2.1.1 v.2.1.2)] (grR v.1 v.2.1.1 0))] 2,rm [(1,oc [(0,ssOb cn C)] (.ar 1 0 0 cn))] 1,rm [(1,oc [(0,ssOb cn C)] (.ar 1 0 0 cn))] 1,rm [(2,oc [] (.p (.bool true))),(3,oc [] (.p (.str F))),(1,oc [] (.p (.str F))),(4,oc [] (.p (.int .i64 x))),(1,oc [] (.p (.int .i64 x))),(4,oc [] (.p (.bool y))),(1,oc [] (.p (.bool y)))] 2,.dec false,rg 1,rg 1,.head] [cdA n f] [160,128,352] (SCm0 n f v cn C 0) =
    some (zf19,zD [zE 5 [.p (.seq true 1 n (fun i=>[.int .u8 (f i)]))] [] (.p (.bool false)),(false=false),zE 27 [.p (.seq true 1 n (fun i=>[.int .u8 (f i)]))] (zf81 v) (.agg [.p (.int .i64 v.1),.ar 2 0 0 v.2.1.1]),(NT 0 1),((true=true)→ (AN 1)),(AN 2),(NL v.2.1.1 v.2.1.1),zE 28 [(zf77 v)] (zf82 cn C) (.ar 1 0 0 cn),zE 29 [(zf77 v)] (zf82 cn C) (.ar 1 0 0 cn),(AN 1),(NL cn cn),zE 30 [.p (.seq true 1 cn (fun i=>[.seq true 1 ((C i).1) (fun i_1=>[.int .i64 ((C i).2 i_1)])])),.p (.seq true 1 cn (fun i=>[.seq true 1 ((C i).1) (fun i_1=>[.int .i64 ((C i).2 i_1)])]))] [] (.p (.bool true)),(AG (!!true)),(((!!true)=true)→ (AN 1)),(((!!true)=true)→(NL cn cn)),(((!!true)=true)→ zE 31 [.p (.seq true 1 cn (fun i=>[.seq true 1 ((C i).1) (fun i_1=>[.int .i64 ((C i).2 i_1)])]))] [] (.p (.str F))),(((!!true)=true)→ zE 32 [.p (.seq true 1 cn (fun i=>[.seq true 1 ((C i).1) (fun i_1=>[.int .i64 ((C i).2 i_1)])]))] [] (.p (.str F))),(((!true)=false)→ ((!!true)=true)),(((!bif !true then true else !F.toList==F.toList)=true)→(NT 0 1)),(AG (!bif !true then true else !F.toList==F.toList)),(((!bif !true then true else !F.toList==F.toList)=true)→ (AN 2)),(((!bif !true then true else !F.toList==F.toList)=true)→(NL v.2.1.1 v.2.1.1)),(((!bif !true then true else !F.toList==F.toList)=true)→ zE 33 [(zf77 v)] [] (.p (.int .i64 x))),(((!bif !true then true else !F.toList==F.toList)=true)→ zE 34 [(zf77 v)] [] (.p (.int .i64 x))),(((bif !true then true else !F.toList==F.toList)=false)→ ((!bif !true then true else !F.toList==F.toList)=true)),(((!bif bif !true then true else !F.toList==F.toList then true else x != x)=true)→(NT 0 1)),(AG (!bif bif !true then true else !F.toList==F.toList then true else x != x)),(((!bif bif !true then true else !F.toList==F.toList then true else x != x)=true)→ (AN 2)),(((!bif bif !true then true else !F.toList==F.toList then true else x != x)=true)→(NL v.2.1.1 v.2.1.1)),(((!bif bif !true then true else !F.toList==F.toList then true else x != x)=true)→ zE 35 [(zf77 v)] [] (.p (.bool y))),(((!bif bif !true then true else !F.toList==F.toList then true else x != x)=true)→ zE 36 [(zf77 v)] [] (.p (.bool y))),(((bif bif !true then true else !F.toList==F.toList then true else x != x)=false)→ ((!bif bif !true then true else !F.toList==F.toList then true else x != x)=true)),((bif bif bif !true then true else !F.toList==F.toList then true else x != x then true else !y==y)=false),(AN n),(AP n (fun i=>[.int .u8 (f i)])),(AN 0),(AN cn),((0:Int)=(cbS C 0)),((0:Int)=(↑0:Int)),((((List.map (fun v=>AV.p (absV v)) [Value.int IntKind.i64 0,Value.slice none 0 0]).length):Nat)=2),(NL 1 1),(AI v.1),(AN v.2.1.1),(AA v.2.1.1 (fun i=>[.p (.int .i64 ((v.2.1.2 i).1)),.p (.int .i64 ((v.2.1.2 i).2.1))])),(AA cn (fun i=>[.p (.seq false 1 ((C i).1) (fun i_1=>[.int .i64 ((C i).2 i_1)]))]))] [0,1,2,3,4,3,5,6,7,3,5,6,8,9,10,9,10,11,12,13,14,15,12,13,14,16,12,12,17,18,19,20,21,22,18,19,20,21,23,19,19,24,25,26,27,28,29,25,26,27,28,30,26,26,31,32,33,34,35,35,36,37,38,39,40,40,41,35,42,5,6,43,9,10,44]):=by kernel_rfl
theorem cwb (n:Nat) (f:Nat→Int) (v:T_Graph) (cn:Nat) (C:Nat→T_IntS) (i:Nat) :
    zM 0 [rg 4,.dec true,rg 10,rg 1,.head] zf19 (SCm0 n f v cn C i) [0,1,2] 1 (SCm1 n f v cn C i 0) =
    some (zf9,[((decide ((↑i:Int)<(↑cn:Int)))=true),(IL 0 (↑i:Int)),(IT (↑i:Int) (↑cn:Int)),(NT i cn),(ZLo (2*(↑(C i).1:Int))),(ZHi (2*(↑(C i).1:Int))),(ZLo (cbS C i+2*(↑(C i).1:Int))),(ZHi (cbS C i+2*(↑(C i).1:Int))),(ZLo (cbS C i+2*(↑(C i).1:Int) - 3)),(ZHi (cbS C i+2*(↑(C i).1:Int) - 3)),(AN n),(AP n (fun i_1=>[.int .u8 (f i_1)])),(AN 0),(AN 0),(AN cn),(((cbS C i+2*(↑(C i).1:Int) - 3):Int)=(cbS C (i+1))),(AI ((↑i:Int))),((0:Int)=(↑0:Int)),(AN 2),(NL 1 1),(NL 1 1),(AI v.1),(AN 0),(AN v.2.1.1),(AN 2),(NL v.2.1.1 v.2.1.1),(AA v.2.1.1 (fun i_1=>[.p (.int .i64 ((v.2.1.2 i_1).1)),.p (.int .i64 ((v.2.1.2 i_1).2.1))])),(AN 1),(NL cn cn),(AA cn (fun i_1=>[.p (.seq false 1 ((C i_1).1) (fun i_2=>[.int .i64 ((C i_1).2 i_2)]))]))]):=by kernel_rfl
theorem cwc (n:Nat) (f:Nat→Int) (v:T_Graph) (cn:Nat) (C:Nat→T_IntS) (i k:Nat) :
    zM 0 [rg 3,.dec true,rg 1,rg 1,.head] zf9 (SCm1 n f v cn C i k) [0,1,2] 1 (SCm2 n f v cn C i k 0) =
    some (zf1,[((decide ((↑k:Int)<(↑i:Int)))=true),(AN n),(AP n (fun i_1=>[.int .u8 (f i_1)])),(AN 0),(AN 0),(AN cn),(AI ((cbS C (i+1)))),(AI ((↑i:Int))),(AI ((↑k:Int))),((0:Int)=(↑(cntS (C i).2 (cmQ C k) 0):Int)),((0:Int)=(↑0:Int)),(AN 2),(NL 1 1),(NL 1 1),(AI v.1),(AN 0),(AN v.2.1.1),(AN 2),(NL v.2.1.1 v.2.1.1),(AA v.2.1.1 (fun i_1=>[.p (.int .i64 ((v.2.1.2 i_1).1)),.p (.int .i64 ((v.2.1.2 i_1).2.1))])),(AN 1),(NL cn cn),(AA cn (fun i_1=>[.p (.seq false 1 ((C i_1).1) (fun i_2=>[.int .i64 ((C i_1).2 i_2)]))]))]):=by kernel_rfl
theorem cwdT (n:Nat) (f:Nat→Int) (v:T_Graph) (cn:Nat) (C:Nat→T_IntS) (i k u:Nat) :
    zM 0 [rg 7,.dec true,rm [(11,oc [] (.p (.bool true)))] 0,.dec true,rg 3,rg 3,.head] zf1 (SCm2 n f v cn C i k u) [0,1,2] 1 (SCm2 n f v cn C i k (u+1)) =
    some (zf1,[(IL 0 (↑i:Int)),(IT (↑i:Int) (↑cn:Int)),(NT i cn),((decide ((↑u:Int)<(↑(C ((↑i:Int).toNat+0)).1:Int)))=true),(IL 0 (↑k:Int)),(IT (↑k:Int) (↑cn:Int)),(NT k cn),(IL 0 (↑i:Int)),(IT (↑i:Int) (↑cn:Int)),(NT i cn),(IL 0 (↑u:Int)),(IT (↑u:Int) (↑(C i).1:Int)),zE 37 [.p (.seq true 1 ((C k).1) (fun i_1=>[.int .i64 ((C k).2 i_1)])),.p (.int .i64 ((C i).2 u))] [] (.p (.bool true)),(true=true),(ZLo ((↑(cntS (C i).2 (cmQ C k) u):Int)+1)),(ZHi ((↑(cntS (C i).2 (cmQ C k) u):Int)+1)),(ZLo ((↑u:Int)+1)),(ZHi ((↑u:Int)+1)),(AN n),(AP n (fun i_1=>[.int .u8 (f i_1)])),(AN 0),(AN 0),(AN cn),(AI ((cbS C (i+1)))),(AI ((↑i:Int))),(AI ((↑k:Int))),((((↑(cntS (C i).2 (cmQ C k) u):Int)+1):Int)=(↑(cntS (C i).2 (cmQ C k) (u+1)):Int)),((((↑u:Int)+1):Int)=(↑(u+1):Int)),(AN 2),(NL 1 1),(NL 1 1),(AI v.1),(AN 0),(AN v.2.1.1),(AN 2),(NL v.2.1.1 v.2.1.1),(AA v.2.1.1 (fun i_1=>[.p (.int .i64 ((v.2.1.2 i_1).1)),.p (.int .i64 ((v.2.1.2 i_1).2.1))])),(AN 1),(NL cn cn),(AA cn (fun i_1=>[.p (.seq false 1 ((C i_1).1) (fun i_2=>[.int .i64 ((C i_1).2 i_2)]))]))]):=by kernel_rfl
theorem cwdF (n:Nat) (f:Nat→Int) (v:T_Graph) (cn:Nat) (C:Nat→T_IntS) (i k u:Nat) :
    zM 0 [rg 7,.dec true,rm [(11,oc [] (.p (.bool false)))] 0,.dec false,rg 3,.head] zf1 (SCm2 n f v cn C i k u) [0,1,2] 1 (SCm2 n f v cn C i k (u+1)) =
    some (zf1,[(IL 0 (↑i:Int)),(IT (↑i:Int) (↑cn:Int)),(NT i cn),((decide ((↑u:Int)<(↑(C ((↑i:Int).toNat+0)).1:Int)))=true),(IL 0 (↑k:Int)),(IT (↑k:Int) (↑cn:Int)),(NT k cn),(IL 0 (↑i:Int)),(IT (↑i:Int) (↑cn:Int)),(NT i cn),(IL 0 (↑u:Int)),(IT (↑u:Int) (↑(C i).1:Int)),zE 37 [.p (.seq true 1 ((C k).1) (fun i_1=>[.int .i64 ((C k).2 i_1)])),.p (.int .i64 ((C i).2 u))] [] (.p (.bool false)),(false=false),(ZLo ((↑u:Int)+1)),(ZHi ((↑u:Int)+1)),(AN n),(AP n (fun i_1=>[.int .u8 (f i_1)])),(AN 0),(AN 0),(AN cn),(AI ((cbS C (i+1)))),(AI ((↑i:Int))),(AI ((↑k:Int))),(((↑(cntS (C i).2 (cmQ C k) u):Int):Int)=(↑(cntS (C i).2 (cmQ C k) (u+1)):Int)),((((↑u:Int)+1):Int)=(↑(u+1):Int)),(AN 2),(NL 1 1),(NL 1 1),(AI v.1),(AN 0),(AN v.2.1.1),(AN 2),(NL v.2.1.1 v.2.1.1),(AA v.2.1.1 (fun i_1=>[.p (.int .i64 ((v.2.1.2 i_1).1)),.p (.int .i64 ((v.2.1.2 i_1).2.1))])),(AN 1),(NL cn cn),(AA cn (fun i_1=>[.p (.seq false 1 ((C i_1).1) (fun i_2=>[.int .i64 ((C i_1).2 i_2)]))]))]):=by kernel_rfl
theorem cwe (n:Nat) (f:Nat→Int) (v:T_Graph) (cn:Nat) (C:Nat→T_IntS) (i k u:Nat) :
    zM 0 [rg 7,.dec false,rg 2,.dec false,rg 3,.head] zf1 (SCm2 n f v cn C i k u) [0,1,2] 1 (SCm1 n f v cn C i (k+1)) =
    some (zf9,[(IL 0 (↑i:Int)),(IT (↑i:Int) (↑cn:Int)),(NT i cn),((decide ((↑u:Int)<(↑(C ((↑i:Int).toNat+0)).1:Int)))=false),((decide ((↑(cntS (C i).2 (cmQ C k) u):Int)>1))=false),(ZLo ((↑k:Int)+1)),(ZHi ((↑k:Int)+1)),(AN n),(AP n (fun i_1=>[.int .u8 (f i_1)])),(AN 0),(AN 0),(AN cn),(AI ((cbS C (i+1)))),(AI ((↑i:Int))),((((↑k:Int)+1):Int)=(↑(k+1):Int)),(AN 2),(NL 1 1),(NL 1 1),(AI v.1),(AN 0),(AN v.2.1.1),(AN 2),(NL v.2.1.1 v.2.1.1),(AA v.2.1.1 (fun i_1=>[.p (.int .i64 ((v.2.1.2 i_1).1)),.p (.int .i64 ((v.2.1.2 i_1).2.1))])),(AN 1),(NL cn cn),(AA cn (fun i_1=>[.p (.seq false 1 ((C i_1).1) (fun i_2=>[.int .i64 ((C i_1).2 i_2)]))]))]):=by kernel_rfl
theorem cwf (n:Nat) (f:Nat→Int) (v:T_Graph) (cn:Nat) (C:Nat→T_IntS) (i k:Nat) :
    zM 0 [rg 3,.dec false,rg 3,.head] zf9 (SCm1 n f v cn C i k) [0,1,2] 1 (SCm0 n f v cn C (i+1)) =
    some (zf19,[((decide ((↑k:Int)<(↑i:Int)))=false),(ZLo ((↑i:Int)+1)),(ZHi ((↑i:Int)+1)),(AN n),(AP n (fun i_1=>[.int .u8 (f i_1)])),(AN 0),(AN 0),(AN cn),(AI ((cbS C (i+1)))),((((↑i:Int)+1):Int)=(↑(i+1):Int)),(AN 2),(NL 1 1),(NL 1 1),(AI v.1),(AN 0),(AN v.2.1.1),(AN 2),(NL v.2.1.1 v.2.1.1),(AA v.2.1.1 (fun i_1=>[.p (.int .i64 ((v.2.1.2 i_1).1)),.p (.int .i64 ((v.2.1.2 i_1).2.1))])),(AN 1),(NL cn cn),(AA cn (fun i_1=>[.p (.seq false 1 ((C i_1).1) (fun i_2=>[.int .i64 ((C i_1).2 i_2)]))]))]):=by kernel_rfl
theorem cwg (n:Nat) (f:Nat→Int) (v:T_Graph) (cn:Nat) (C:Nat→T_IntS) (q:Bool) (r t s:Int) (w:T_Graph) (e:Int) (z:T_Graph) (a b:Int) (K:Nat→Nat) (J S L:T_IntS) :
    zM 0 [rg 4,.dec false,rm [(1,oc [] (.p (.bool q))),(3,oc [] (.p (.int .i64 r))),(3,oc [] (.p (.int .i64 t))),(5,oc [] (.p (.int .i64 s)))] 5,.dec false,rm [(1,oc [(0,brOb w.2.1.1 w.2.1.2)] (.tup [grR w.1 w.2.1.1 0,.p (.int .i64 e)]))] 6,rm [(1,oc [(0,brOb z.2.1.1 z.2.1.2)] (.tup [grR z.1 z.2.1.1 0,.p (.int .i64 a),.p (.int .i64 b)]))] 8,rm [(1,oc [(0,boOb 1 cn C K),(1,cfOb cn C)] (.ar 2 0 0 cn))] 1,rm [(1,oc [(0,iOb J.1 J.2)] (.ar 1 0 0 J.1))] 1,rm [(6,gT),(0,gT),(0,⟨true,(some ⟨[],[],[],1,[(0,iOb J.1 J.2)],.ar 1 0 0 J.1⟩),some true⟩),(0,⟨true,(some ⟨[],[],[],1,[],.p (.bool true)⟩),some true⟩),(0,gT),(0,gF),(1,gT),(0,⟨true,(some ⟨[],[],[],1,[(0,iOb S.1 S.2)],.ar 1 0 0 S.1⟩),some true⟩),(0,gT),(0,⟨true,(some ⟨[],[],[],1,[(0,iOb S.1 S.2)],.ar 1 0 0 S.1⟩),some true⟩),(0,⟨true,(some ⟨[],[],[],1,[],.p (.bool true)⟩),some true⟩),(0,gT),(0,gF),(1,gT),(0,⟨true,(some ⟨[],[],[],1,[(0,iOb L.1 L.2)],.ar 1 0 0 L.1⟩),some true⟩),(0,gT),(0,⟨true,(some ⟨[],[],[],1,[(0,iOb L.1 L.2)],.ar 1 0 0 L.1⟩),some true⟩),(0,⟨true,(some ⟨[],[],[],1,[],.p (.bool true)⟩),some true⟩),(0,gT),(0,gF)] 0,.dec false,rg 1,rg 1,.head] zf19 (SCm0 n f v cn C cn) [0,1,2,963,835,1251,1091,1411,1412] 1 (SCm3 n f v cn C w e z a b K 0) =
    some (zf15,zD [((decide ((↑cn:Int)<(↑cn:Int)))=false),(NT 0 1),(AN 2),(NL v.2.1.1 v.2.1.1),zE 38 [(zf77 v)] [] (.p (.bool q)),((q=true)→(NT 0 1)),(AG q),((q=true)→ (AN 2)),((q=true)→(NL v.2.1.1 v.2.1.1)),((q=true)→ zE 39 [(zf77 v),.p (.int .i64 2),.p (.int .i64 3)] [] (.p (.int .i64 r))),(((q&&!cbS C cn != r)=true)→(NT 0 1)),(AG (q&&!cbS C cn != r)),(((q&&!cbS C cn != r)=true)→ (AN 2)),(((q&&!cbS C cn != r)=true)→(NL v.2.1.1 v.2.1.1)),(((q&&!cbS C cn != r)=true)→ zE 40 [(zf77 v)] [] (.p (.int .i64 t))),((q=true)→(((cbS C cn != r)=false)→ ((q&&!cbS C cn != r)=true))),(((q&&!bif cbS C cn != r then true else t != cbS C cn)=true)→(NT 0 1)),(AG (q&&!bif cbS C cn != r then true else t != cbS C cn)),(((q&&!bif cbS C cn != r then true else t != cbS C cn)=true)→ (AN 2)),(((q&&!bif cbS C cn != r then true else t != cbS C cn)=true)→(NL v.2.1.1 v.2.1.1)),(((q&&!bif cbS C cn != r then true else t != cbS C cn)=true)→ zE 41 [(zf77 v)] [] (.p (.int .i64 s))),((q=true)→(((bif cbS C cn != r then true else t != cbS C cn)=false)→ ((q&&!bif cbS C cn != r then true else t != cbS C cn)=true))),((bif q then bif bif cbS C cn != r then true else t != cbS C cn then true else s != (↑cn:Int) else false)=false),zE 42 [.p (.seq true 1 n (fun i=>[.int .u8 (f i)]))] (zf81 w) (.tup [.agg [.p (.int .i64 w.1),.ar 2 0 0 w.2.1.1],.p (.int .i64 e)]),((true=true)→ (AN 1)),zE 43 [.p (.seq true 1 n (fun i=>[.int .u8 (f i)]))] (zf81 z) (.tup [.agg [.p (.int .i64 z.1),.ar 2 0 0 z.2.1.1],.p (.int .i64 a),.p (.int .i64 b)]),zE 44 [(zf77 v)] [(0,⟨false,2,cn,(fun i=>[.ar 1 ⟨1,some i⟩ 0 ((C i).1),.p (.int .i64 (↑(K i):Int))])⟩),(1,⟨true,0,cn,(fun i=>[.p (.seq false 1 ((C i).1) (fun i_1=>[.int .i64 ((C i).2 i_1)]))])⟩)] (.ar 2 0 0 cn),zE 45 [(zf77 v)] [(0,⟨false,1,J.1,(fun i=>[.p (.int .i64 (J.2 i))])⟩)] (.ar 1 0 0 J.1),((!(↑cn:Int) != (↑cn:Int))=true),zE 47 [(zf77 v)] [(0,⟨false,1,J.1,(fun i=>[.p (.int .i64 (J.2 i))])⟩)] (.ar 1 0 0 J.1),(AN 1),(NL J.1 J.1),zE 46 [.p (.seq true 1 J.1 (iRw J)),.p (.seq true 1 J.1 (iRw J))] [] (.p (.bool true)),(((↑cn:Int) != (↑cn:Int))=false),((!!true)=true),zE 48 [(zf77 v)] [(0,⟨false,1,S.1,(fun i=>[.p (.int .i64 (S.2 i))])⟩)] (.ar 1 0 0 S.1),zE 49 [(zf77 v)] [(0,⟨false,1,S.1,(fun i=>[.p (.int .i64 (S.2 i))])⟩)] (.ar 1 0 0 S.1),(NL S.1 S.1),zE 46 [.p (.seq true 1 S.1 (iRw S)),.p (.seq true 1 S.1 (iRw S))] [] (.p (.bool true)),((!true)=false),zE 50 [(zf77 v)] [(0,⟨false,1,L.1,(fun i=>[.p (.int .i64 (L.2 i))])⟩)] (.ar 1 0 0 L.1),zE 51 [(zf77 v)] [(0,⟨false,1,L.1,(fun i=>[.p (.int .i64 (L.2 i))])⟩)] (.ar 1 0 0 L.1),(NL L.1 L.1),zE 46 [.p (.seq true 1 L.1 (iRw L)),.p (.seq true 1 L.1 (iRw L))] [] (.p (.bool true)),(AN n),(AP n (fun i=>[.int .u8 (f i)])),(AN 0),(AN cn),(AI e),(AI a),(AI b),((0:Int)=(↑(smK K 0):Int)),((0:Int)=(↑0:Int)),(NL 1 1),(AI v.1),(AN v.2.1.1),(AA v.2.1.1 (fun i=>[.p (.int .i64 ((v.2.1.2 i).1)),.p (.int .i64 ((v.2.1.2 i).2.1))])),(NL cn cn),(AA cn (fun i=>[.p (.seq false 1 ((C i).1) (fun i_1=>[.int .i64 ((C i).2 i_1)]))])),((((List.map (fun v=>AV.p (absV v)) [Value.int IntKind.i64 0,Value.slice none 0 0]).length):Nat)=2),(AI w.1),(AN w.2.1.1),(NL w.2.1.1 w.2.1.1),(AA w.2.1.1 (fun i=>[.p (.int .i64 ((w.2.1.2 i).1)),.p (.int .i64 ((w.2.1.2 i).2.1))])),(AI z.1),(AN z.2.1.1),(NL z.2.1.1 z.2.1.1),(AA z.2.1.1 (fun i=>[.p (.int .i64 ((z.2.1.2 i).1)),.p (.int .i64 ((z.2.1.2 i).2.1))])),(AA cn (fun i=>[.ar 1 ⟨8,some i⟩ 0 ((C i).1),.p (.int .i64 (↑(K i):Int))])),(∀ i:Nat,(((i:Nat)<cn)→All [(AN 1),((((C i).1):Nat)≤((C i).1)),(AP (((C i).1)) (fun r_1=>[.int .i64 ((C i).2 r_1)]))]))] [0,1,2,3,4,5,6,7,8,9,6,6,6,10,11,12,13,14,11,11,6,15,6,16,17,18,19,20,17,17,17,6,21,6,22,23,1,24,25,1,24,1,2,3,26,1,2,3,27,28,28,1,28,2,3,29,28,30,31,30,31,32,28,33,34,1,34,2,3,35,34,1,34,2,3,36,34,30,37,30,37,38,34,39,34,1,34,2,3,40,34,1,34,2,3,41,34,30,42,30,42,43,34,39,39,44,45,46,46,47,46,48,46,49,50,46,47,51,52,2,53,53,54,46,55,2,3,56,30,57,58,59,53,53,60,46,61,2,62,63,59,53,53,64,46,65,2,66,67,2,57,68,57,69]):=by kernel_rfl
theorem cwh (n:Nat) (f:Nat→Int) (v:T_Graph) (cn:Nat) (C:Nat→T_IntS) (w:T_Graph) (e:Int) (z:T_Graph) (a b:Int) (K:Nat→Nat) (i:Nat) :
    zM 0 [rg 4,.dec true,rg 8,rm [(9,oc [] (.p (.bool true)))] 1,.dec false,rg 3,.head] zf15 (SCm3 n f v cn C w e z a b K i) [0,1,2,3,4,5,6,7,8] 1 (SCm3 n f v cn C w e z a b K (i+1)) =
    some (zf15,zD [((decide ((↑i:Int)<(↑cn:Int)))=true),(IL 0 (↑i:Int)),(IT (↑i:Int) (↑cn:Int)),(NT i cn),(ZLo ((↑(smK K i):Int)+(↑(K i):Int))),(ZHi ((↑(smK K i):Int)+(↑(K i):Int))),(AN 1),(NL ((C i).1) ((C i).1)),zE 46 [.p (.seq true 1 ((C i).1) (fun i_1=>[.int .i64 ((C i).2 i_1)])),.p (.seq true 1 ((C i).1) (fun i_1=>[.int .i64 ((C i).2 i_1)]))] [] (.p (.bool true)),((!true)=false),(ZLo ((↑i:Int)+1)),(ZHi ((↑i:Int)+1)),(AN n),(AP n (fun i_1=>[.int .u8 (f i_1)])),(AN 0),(AN cn),(AI e),(AI a),(AI b),((((↑(smK K i):Int)+(↑(K i):Int)):Int)=(↑(smK K (i+1)):Int)),((((↑i:Int)+1):Int)=(↑(i+1):Int)),(AN 2),(NL 1 1),(AI v.1),(AN v.2.1.1),(NL v.2.1.1 v.2.1.1),(AA v.2.1.1 (fun i_1=>[.p (.int .i64 ((v.2.1.2 i_1).1)),.p (.int .i64 ((v.2.1.2 i_1).2.1))])),(NL cn cn),(AA cn (fun i_1=>[.p (.seq false 1 ((C i_1).1) (fun i_2=>[.int .i64 ((C i_1).2 i_2)]))])),(AI w.1),(AN w.2.1.1),(NL w.2.1.1 w.2.1.1),(AA w.2.1.1 (fun i_1=>[.p (.int .i64 ((w.2.1.2 i_1).1)),.p (.int .i64 ((w.2.1.2 i_1).2.1))])),(AI z.1),(AN z.2.1.1),(NL z.2.1.1 z.2.1.1),(AA z.2.1.1 (fun i_1=>[.p (.int .i64 ((z.2.1.2 i_1).1)),.p (.int .i64 ((z.2.1.2 i_1).2.1))])),(AA cn (fun i_1=>[.ar 1 ⟨8,some i_1⟩ 0 ((C i_1).1),.p (.int .i64 (↑(K i_1):Int))])),(∀ i_1:Nat,(((i_1:Nat)<cn)→All [(AN 1),((((C i_1).1):Nat)≤((C i_1).1)),(AP (((C i_1).1)) (fun r=>[.int .i64 ((C i_1).2 r)]))]))] [0,1,2,3,4,5,1,2,3,1,2,3,3,6,7,8,9,10,11,12,13,14,14,15,14,16,14,17,18,14,15,19,20,21,22,22,23,14,24,21,25,26,6,27,28,21,22,22,29,14,30,21,31,32,21,22,22,33,14,34,21,35,36,21,27,37,27,38]):=by kernel_rfl
theorem cwi (n:Nat) (f:Nat→Int) (v:T_Graph) (cn:Nat) (C:Nat→T_IntS) (w:T_Graph) (e:Int) (z:T_Graph) (a b:Int) (K:Nat→Nat) (q:Bool) (D:T_IntS) (y:Bool) :
    zP Try.f4 0 [rg 4,.dec false,rm [(1,oc [] (.p (.bool q))),(9,gT),(0,gT),(0,⟨true,(some ⟨[],[],[],1,[(0,iOb D.1 D.2)],.ar 1 0 0 D.1⟩),some true⟩),(0,gT),(0,gT),(0,⟨true,(some ⟨[],[],[],1,[(0,iOb D.1 D.2)],.ar 1 0 0 D.1⟩),some true⟩),(0,⟨true,(some ⟨[],[],[],1,[],.p (.bool true)⟩),some true⟩),(0,gT),(4,oc [] (.p (.bool y))),(3,oc [] (.p (.bool y)))] 3] zf15 (SCm3 n f v cn C w e z a b K cn) [] 1 [] (.p (.bool true)) =
    some (zD [((decide ((↑cn:Int)<(↑cn:Int)))=false),(NT 0 1),(AN 2),(NL v.2.1.1 v.2.1.1),zE 38 [(zf77 v)] [] (.p (.bool q)),(AG (!!q)),(((!!q)=true)→(NT 0 1)),(((!q)=false)→ ((!!q)=true)),((bif !q then true else (↑(smK K cn):Int)==(↑v.2.1.1:Int))=true),(NL w.2.1.1 w.2.1.1),zE 52 [(zf77 w),.p (.int .i64 e)] [(0,⟨false,1,D.1,(fun i=>[.p (.int .i64 (D.2 i))])⟩)] (.ar 1 0 0 D.1),zE 53 [(zf77 w),.p (.int .i64 e)] [(0,⟨false,1,D.1,(fun i=>[.p (.int .i64 (D.2 i))])⟩)] (.ar 1 0 0 D.1),(AN 1),(NL D.1 D.1),zE 46 [.p (.seq true 1 D.1 (iRw D)),.p (.seq true 1 D.1 (iRw D))] [] (.p (.bool true)),((true=true)→(NT 0 1)),(AG true),((true=true)→ (AN 2)),((true=true)→(NL z.2.1.1 z.2.1.1)),((true=true)→ zE 54 [(zf77 z),.p (.int .i64 a),.p (.int .i64 b)] [] (.p (.bool y))),((true=true)→ zE 55 [(zf77 z),.p (.int .i64 a),.p (.int .i64 b)] [] (.p (.bool y))),((bif true then y==y else false)=true)] [0,1,2,3,4,5,6,5,5,5,7,8,1,8,8,2,9,10,8,1,8,8,2,9,11,8,12,13,12,13,14,8,15,16,16,16,17,18,19,15,16,16,16,17,18,20,16,16,16,21]):=by kernel_rfl
theorem bcI (v:T_Graph) (cn:Nat) (C:Nat→T_IntS) :
    zS Try.f41 [rg 2,rm [(1,oc [(0,ssOb cn C)] (.ar 1 0 0 cn))] 2] [graphA v] [] [] (.p (.int .i64 cn)) =
    some [(NT 0 1),zE 28 [(zf77 v)] (zf82 cn C) (.ar 1 0 0 cn),(AI ((↑cn:Int)))]:=by kernel_rfl
theorem con_BodyCount_i (v:T_Graph) (hs:smS s_Graph v):zE 41 [graphA v] [] (.p (.int .i64 ((compsG v).1:Nat))):=by
  have h:=con_Comps_i v hs
  refine csZ Try.func41 (fun c hc=>?_)
  refine pkZ Try.func41 hc (bcI v _ (compsG v).2) ?_
  and_intros
  all_goals (first | exact zN | (exact h) | (simp;done))
def z2:Ob:=⟨true,2,1,fun _=>[.p (.int .i64 0),.p .nil]⟩
def maxI (n:Int):Int:=if 2*n - 3>0 then 2*n - 3 else 0
theorem eFy_s (v:T_Graph) :
    zS Try.f34 [rg 2,rm [(1,oc [] (.p (.bool false)))] 1,.dec true,rg 1] [graphA v] [] [] (.p (.int .i64 (-1))) =
    some [(NT 0 1),zE 38 [(zf77 v)] [] (.p (.bool false)),((!false)=true),(AI ((-1)))]:=by kernel_rfl
theorem eFz_s (g:Nat→T_Bar) (nb N r:Nat) :
    zS Try.f34 [rg 2,rm [(1,oc [] (.p (.bool true)))] 1,.dec false,rm [(6,oc [] (.p (.int .i64 r)))] 2] [grG g nb N] [] [] (.p (.int .i64 (maxI N - r))) =
    some [(NT 0 1),zE 38 [(zf80 N nb g)] [] (.p (.bool true)),((!true)=false),(NT 0 1),(ZLo (2*(↑N:Int))),(ZHi (2*(↑N:Int))),(ZLo (2*(↑N:Int) - 3)),(ZHi (2*(↑N:Int) - 3)),(NT 0 1),zE 39 [(zf80 N nb g),.p (.int .i64 2),.p (.int .i64 3)] [] (.p (.int .i64 (↑r:Int))),(ZLo ((if true=true then if 2*(↑N:Int) - 3>0 then 2*(↑N:Int) - 3 else 0 else if 2*(↑N:Int) - 3<0 then 2*(↑N:Int) - 3 else 0) - (↑r:Int))),(ZHi ((if true=true then if 2*(↑N:Int) - 3>0 then 2*(↑N:Int) - 3 else 0 else if 2*(↑N:Int) - 3<0 then 2*(↑N:Int) - 3 else 0) - (↑r:Int))),((((if true=true then if 2*(↑N:Int) - 3>0 then 2*(↑N:Int) - 3 else 0 else if 2*(↑N:Int) - 3<0 then 2*(↑N:Int) - 3 else 0) - (↑r:Int)):Int)=(maxI (↑N:Int) - (↑r:Int)))]:=by kernel_rfl
theorem eFy_i (v:T_Graph) :
    zS Try.f33 [rg 2,rm [(1,oc [] (.p (.bool false)))] 1,.dec true,rg 1] [graphA v] [] [] (.p (.int .i64 (-1))) =
    some [(NT 0 1),zE 24 [(zf77 v)] [] (.p (.bool false)),((!false)=true),(AI ((-1)))]:=by kernel_rfl
theorem eFz_i (g:Nat→T_Bar) (nb N r:Nat) :
    zS Try.f33 [rg 2,rm [(1,oc [] (.p (.bool true)))] 1,.dec false,rm [(6,oc [] (.p (.int .i64 r)))] 2] [grG g nb N] [] [] (.p (.int .i64 (maxI N - r))) =
    some [(NT 0 1),zE 24 [(zf80 N nb g)] [] (.p (.bool true)),((!true)=false),(NT 0 1),(ZLo (2*(↑N:Int))),(ZHi (2*(↑N:Int))),(ZLo (2*(↑N:Int) - 3)),(ZHi (2*(↑N:Int) - 3)),(NT 0 1),zE 81 [(zf80 N nb g),.p (.int .i64 2),.p (.int .i64 3)] [] (.p (.int .i64 (↑r:Int))),(ZLo ((if true=true then if 2*(↑N:Int) - 3>0 then 2*(↑N:Int) - 3 else 0 else if 2*(↑N:Int) - 3<0 then 2*(↑N:Int) - 3 else 0) - (↑r:Int))),(ZHi ((if true=true then if 2*(↑N:Int) - 3>0 then 2*(↑N:Int) - 3 else 0 else if 2*(↑N:Int) - 3<0 then 2*(↑N:Int) - 3 else 0) - (↑r:Int))),((((if true=true then if 2*(↑N:Int) - 3>0 then 2*(↑N:Int) - 3 else 0 else if 2*(↑N:Int) - 3<0 then 2*(↑N:Int) - 3 else 0) - (↑r:Int)):Int)=(maxI (↑N:Int) - (↑r:Int)))]:=by kernel_rfl
theorem eR_s (v:T_Graph) (x:Int) :
    zS Try.f83 [rg 2,rm [(1,oc [] (.p (.int .i64 x)))] 2] [graphA v] [] [] (.p (.bool (x==0))) =
    some [(NT 0 1),zE 34 [(zf77 v)] [] (.p (.int .i64 x)),((x==0)=(x==0))]:=by kernel_rfl
theorem eR_i (v:T_Graph) (x:Int) :
    zS Try.f82 [rg 2,rm [(1,oc [] (.p (.int .i64 x)))] 2] [graphA v] [] [] (.p (.bool (x==0))) =
    some [(NT 0 1),zE 33 [(zf77 v)] [] (.p (.int .i64 x)),((x==0)=(x==0))]:=by kernel_rfl
theorem eM_s (v:T_Graph) (b:Bool) (r:Nat) :
    zS Try.f36 [rg 2,rm [(1,oc [] (.p (.bool b))),(5,oc [] (.p (.int .i64 r)))] 3] [graphA v] [] [] (.p (.bool (bif b then (v.2.1.1:Int)==(r:Int) else false))) =
    some (zD [(NT 0 1),zE 83 [(zf77 v)] [] (.p (.bool b)),(AG b),((b=true)→(NT 0 1)),((b=true)→ zE 39 [(zf77 v),.p (.int .i64 2),.p (.int .i64 3)] [] (.p (.int .i64 (↑r:Int)))),((bif b then (↑v.2.1.1:Int)==(↑r:Int) else false)=(bif b then (↑v.2.1.1:Int)==(↑r:Int) else false))] [0,1,2,3,2,3,2,4,2,2,2,5]):=by kernel_rfl
theorem eM_i (v:T_Graph) (b:Bool) (r:Nat) :
    zS Try.f35 [rg 2,rm [(1,oc [] (.p (.bool b))),(2,oc [] (.p (.int .i64 r)))] 6] [graphA v] [] [] (.p (.bool (bif b then (r:Int)==(v.2.1.1:Int) else false))) =
    some (zD [(NT 0 1),zE 82 [(zf77 v)] [] (.p (.bool b)),((b=true)→(NT 0 1)),(AG b),((b=true)→ zE 81 [(zf77 v),.p (.int .i64 2),.p (.int .i64 3)] [] (.p (.int .i64 (↑r:Int)))),((bif b then (↑r:Int)==(↑v.2.1.1:Int) else false)=(bif b then (↑r:Int)==(↑v.2.1.1:Int) else false))] [0,1,2,3,4,3,2,3,3,3,3,5]):=by kernel_rfl
noncomputable def rkG (v:T_Graph):Nat:=(accI v.1.toNat 2 3 v.2.1.2 v.2.1.1).length
noncomputable def frGr (v:T_Graph):Int:=if isGraphF v=true then maxI v.1 - (rkG v:Int) else -1
noncomputable def mrG (v:T_Graph):Bool:=bif frGr v==0 then (v.2.1.1:Int)==(rkG v:Int) else false
theorem maxI_b {n:Int} (h:n≤8):0≤maxI n∧maxI n≤13:=by
  unfold maxI;split<;>omega
theorem con_FreedomOf_s (v:T_Graph) (hs:smS s_Graph v):zE 34 [graphA v] [] (.p (.int .i64 (frGr v))):=by
  have hcg:=con_IsGraph_s v hs
  cases hg:isGraphF v with
  | false =>
    rw [hg] at hcg
    rw [show frGr v = -1 by simp [frGr,hg]]
    refine csZ Try.func34 (fun c hc=>?_)
    refine pkZ Try.func34 hc (eFy_s v) ?_
    and_intros
    all_goals (first | exact zN | (intros;exact hcg) | (simp;done))
  | true =>
    rw [hg] at hcg
    obtain ⟨N,nb,g,rfl⟩:=graph_cases v hg
    obtain ⟨hN,hnb,_⟩:=graph_in hg
    have hr:=con_RankOf_s hg 2 3 (by omega) (by omega)
    have hl:=accI_len N 2 3 g nb
    have hm:=maxI_b (n:=(N:Int)) (by omega)
    rw [show frGr ((N:Int),(nb,g),())=maxI N - ((accI N 2 3 g nb).length:Nat) by simp [frGr,hg,rkG]]
    refine csZ Try.func34 (fun c hc=>?_)
    refine pkZ Try.func34 hc (eFz_s g nb N (accI N 2 3 g nb).length) ?_
    and_intros
    all_goals (first | exact zN | (intros;exact hcg) | (exact hr) | (simp only [if_true];show _≤maxI N - _;omega) | (simp only [if_true];show maxI N - _≤_;omega) | (simp;done) | (simp only [if_true];rfl))
theorem con_FreedomOf_i (v:T_Graph) (hs:smS s_Graph v):zE 33 [graphA v] [] (.p (.int .i64 (frGr v))):=by
  have hcg:=con_IsGraph_i v hs
  cases hg:isGraphF v with
  | false =>
    rw [hg] at hcg
    rw [show frGr v = -1 by simp [frGr,hg]]
    refine csZ Try.func33 (fun c hc=>?_)
    refine pkZ Try.func33 hc (eFy_i v) ?_
    and_intros
    all_goals (first | exact zN | (intros;exact hcg) | (simp;done))
  | true =>
    rw [hg] at hcg
    obtain ⟨N,nb,g,rfl⟩:=graph_cases v hg
    obtain ⟨hN,hnb,_⟩:=graph_in hg
    have hr:=con_RankOf_i hg 2 3 (by omega) (by omega)
    have hl:=accI_len N 2 3 g nb
    have hm:=maxI_b (n:=(N:Int)) (by omega)
    rw [show frGr ((N:Int),(nb,g),())=maxI N - ((accI N 2 3 g nb).length:Nat) by simp [frGr,hg,rkG]]
    refine csZ Try.func33 (fun c hc=>?_)
    refine pkZ Try.func33 hc (eFz_i g nb N (accI N 2 3 g nb).length) ?_
    and_intros
    all_goals (first | exact zN | (intros;exact hcg) | (exact hr) | (simp only [if_true];show _≤maxI N - _;omega) | (simp only [if_true];show maxI N - _≤_;omega) | (simp;done) | (simp only [if_true];rfl))
theorem con_IsRigid_s (v:T_Graph) (hs:smS s_Graph v):zE 83 [graphA v] [] (.p (.bool (frGr v==0))):=by
  have hf:=con_FreedomOf_s v hs
  refine csZ Try.func83 (fun c hc=>?_)
  refine pkZ Try.func83 hc (eR_s v _) ?_
  and_intros
  all_goals (first | exact zN | (exact hf) | (simp;done))
theorem con_IsRigid_i (v:T_Graph) (hs:smS s_Graph v):zE 82 [graphA v] [] (.p (.bool (frGr v==0))):=by
  have hf:=con_FreedomOf_i v hs
  refine csZ Try.func82 (fun c hc=>?_)
  refine pkZ Try.func82 hc (eR_i v _) ?_
  and_intros
  all_goals (first | exact zN | (exact hf) | (simp;done))
theorem frG_graph {v:T_Graph} (h:(frGr v==0)=true):isGraphF v=true:=by
  cases hg:isGraphF v with
  | true=>rfl
  | false=>simp [frGr,hg] at h
theorem con_IsMin_s (v:T_Graph) (hs:smS s_Graph v):zE 36 [graphA v] [] (.p (.bool (mrG v))):=by
  have hf:=con_IsRigid_s v hs
  have hr:(frGr v==0)=true→zE 39 [graphA v,.p (.int .i64 2),.p (.int .i64 3)] [] (.p (.int .i64 (rkG v:Nat))):=by
    intro h
    have hg:=frG_graph h
    obtain ⟨N,nb,g,rfl⟩:=graph_cases v hg
    exact con_RankOf_s hg 2 3 (by omega) (by omega)
  refine csZ Try.func36 (fun c hc=>?_)
  refine pkD Try.func36 hc (eM_s v (frGr v==0) (rkG v)) ?_
  and_intros
  all_goals (first | exact zI | (exact hf) | (intro h;exact hr h) | (intro h;exact h) | (simp;done) | rfl)
theorem con_IsMin_i (v:T_Graph) (hs:smS s_Graph v):zE 35 [graphA v] [] (.p (.bool (mrG v))):=by
  have hf:=con_IsRigid_i v hs
  have hr:(frGr v==0)=true→zE 81 [graphA v,.p (.int .i64 2),.p (.int .i64 3)] [] (.p (.int .i64 (rkG v:Nat))):=by
    intro h
    have hg:=frG_graph h
    obtain ⟨N,nb,g,rfl⟩:=graph_cases v hg
    exact con_RankOf_i hg 2 3 (by omega) (by omega)
  refine csZ Try.func35 (fun c hc=>?_)
  rw [show mrG v=(bif frGr v==0 then (rkG v:Int)==(v.2.1.1:Int) else false) by unfold mrG;rw [show ((v.2.1.1:Int)==(rkG v:Int))=((rkG v:Int)==(v.2.1.1:Int)) from by rw [Bool.eq_iff_iff];simp only [beq_iff_eq];exact eq_comm]]
  refine pkD Try.func35 hc (eM_i v (frGr v==0) (rkG v)) ?_
  and_intros
  all_goals (first | exact zI | (exact hf) | (intro h;exact hr h) | (intro h;exact h) | (simp;done) | rfl)
def byO (n:Nat) (f:Nat→Int):Ob:=⟨false,1,n,fun i=>[.p (.int .u8 (f i))]⟩
def swF (i j:Nat) (f:Nat→Int) (r:Nat):Int:=if r=j then f i else if r=i then f j else f r
def apF (n:Nat) (f:Nat→Int) (x:Int) (r:Nat):Int:=if r<n then f r else x
def SFs (m:Int) (o:ByteArray) (ng:Bool):St :=
  ⟨[.p (.int .i64 m),.p .any,.p .any,.p (.str o),.p (.bool ng)]++List.replicate 26 anyA,[],0⟩
def SFi (n m:Int) (l:Nat) (f:Nat→Int):St :=
  ⟨[.p (.int .i64 n),.p .any,.p .any,.ar 1 0 0 l,.p (.int .i64 m)]++List.replicate 54 anyA,[(0,byO l f)],1⟩
def SFr (l i:Nat) (j:Int) (f:Nat→Int):St :=
  ⟨[.p .any,.p .any,.p .any,.ar 1 0 0 l,.p .any,.p .any,.p (.int .i64 i),.p (.int .i64 j)]++List.replicate 51 anyA,[(0,byO l f)],1⟩
theorem fS0 (n:Int) (s:ByteArray) :
    zS Try.f80 [rg 1,rg 2,.dec true,rg 1] [.p (.int .i64 n)] [] [] (.p (.str s)) =
    some [((n==0)=true),(ByteArray.mk #[48]=s)]:=by kernel_rfl
theorem fSz (n:Int) (o:ByteArray) :
    zT Try.f80 [rg 1,rg 2,.dec false,rg 1,rg 3,.head] [.p (.int .i64 n)] [] (SFs n o (decide (n<0))) =
    some (zf33,[((n==0)=false),(AI n),(ByteArray.mk #[]=o),((decide (n<0))=(decide (n<0)))]):=by kernel_rfl
theorem fSn (m m2:Int) (o o2:ByteArray) (ng:Bool) :
    zM 0 [rg 2,.dec true,rm [(1,oF)] 1,rg 2,.dec true,rg 3,rg 8,rm [(1,oF)] 1,.head] zf33 (SFs m o ng) [] 1 (SFs m2 o2 ng) =
    some (zf33,[((m != 0)=true),((10:Int)≠0),((decide (m.tmod 10<0))=true),(ZLo (0 - m.tmod 10)),(ZHi (0 - m.tmod 10)),(ZLo (48+(0 - m.tmod 10))),(ZHi (48+(0 - m.tmod 10))),(IL 0 (48+(0 - m.tmod 10))),(IL (48+(0 - m.tmod 10)) 255),(NL 1 1),(okBytes 1 (fun i=>[.p (.int .u8 (48+(0 - m.tmod 10)))])),(NL ((bytesOf 1 fun i=>[AV.p (PV.int IntKind.u8 (48+(0 - m.tmod 10)))]).size+o.size) 9223372036854775807),((10:Int)≠0),(((IntKind.i64.wrap (m.tdiv 10)):Int)=m2),((bytesOf 1 fun i=>[AV.p (PV.int IntKind.u8 (48+(0 - m.tmod 10)))])++o=o2),(ng=ng)]):=by kernel_rfl
theorem fSp (m m2:Int) (o o2:ByteArray) (ng:Bool) :
    zM 0 [rg 2,.dec true,rm [(1,oF)] 1,rg 2,.dec false,rg 8,rm [(1,oF)] 1,.head] zf33 (SFs m o ng) [] 1 (SFs m2 o2 ng) =
    some (zf33,[((m != 0)=true),((10:Int)≠0),((decide (m.tmod 10<0))=false),(ZLo (48+m.tmod 10)),(ZHi (48+m.tmod 10)),(IL 0 (48+m.tmod 10)),(IL (48+m.tmod 10) 255),(NL 1 1),(okBytes 1 (fun i=>[.p (.int .u8 (48+m.tmod 10))])),(NL ((bytesOf 1 fun i=>[AV.p (PV.int IntKind.u8 (48+m.tmod 10))]).size+o.size) 9223372036854775807),((10:Int)≠0),(((IntKind.i64.wrap (m.tdiv 10)):Int)=m2),((bytesOf 1 fun i=>[AV.p (PV.int IntKind.u8 (48+m.tmod 10))])++o=o2),(ng=ng)]):=by kernel_rfl
theorem fSt (m:Int) (o s:ByteArray) (ng:Bool) :
    zP Try.f80 0 [rg 2,.dec false,rg 1,.dec true,rg 3] zf33 (SFs m o ng) [] 1 [] (.p (.str s)) =
    some [((m != 0)=false),(ng=true),(NL ((ByteArray.mk #[45]).size+o.size) 9223372036854775807),(ByteArray.mk #[45]++o=s)]:=by kernel_rfl
theorem fSf (m:Int) (o s:ByteArray) (ng:Bool) :
    zP Try.f80 0 [rg 2,.dec false,rg 1,.dec false,rg 2] zf33 (SFs m o ng) [] 1 [] (.p (.str s)) =
    some [((m != 0)=false),(ng=false),(o=s)]:=by kernel_rfl
theorem fI0 (n:Int) (s:ByteArray) :
    zS Try.f104 [rg 1,rg 2,.dec true,rg 1] [.p (.int .i64 n)] [] [] (.p (.str s)) =
    some [((n==0)=true),(ByteArray.mk #[48]=s)]:=by kernel_rfl
theorem fIz (n:Int) :
    zT Try.f104 [rg 1,rg 2,.dec false,rg 2,rg 2,.head] [.p (.int .i64 n)] [96] (SFi n n 0 (fun _=>0)) =
    some (zf34,[((n==0)=false),(AI n),(AN 0),(AN 0),(AI n),(AN 1),(NL 0 0),(AA 0 (fun i=>[.p (.int .u8 0)]))]):=by kernel_rfl
theorem fIn (n m m2:Int) (l:Nat) (f:Nat→Int) (x:Int) :
    zM 0 [rg 2,.dec true,rm [(1,oF)] 1,rg 2,.dec true,rg 3,rg 7,rm [(1,oF)] 1,.head] zf34 (SFi n m l f) [481] 1 (SFi n m2 (l+1) (apF l f x)) =
    some (zf34,[((m != 0)=true),((10:Int)≠0),((decide (m.tmod 10<0))=true),(ZLo (0 - m.tmod 10)),(ZHi (0 - m.tmod 10)),(ZLo (48+(0 - m.tmod 10))),(ZHi (48+(0 - m.tmod 10))),(IL 0 (48+(0 - m.tmod 10))),(IL (48+(0 - m.tmod 10)) 255),(NL 1 1),(NL l l),(NL ((l+1)*1) 140737488355328),(NL (l+1) 9223372036854775807),((10:Int)≠0),(AI n),(AN 0),(AN ((l+1))),(((IntKind.i64.wrap (m.tdiv 10)):Int)=m2),(AN 1),(NL (l+1) (l+1)),(CV [(481,⟨false,1,(l+1),(fun i_1=>(if (i_1<l) then [.p (.int .u8 (f i_1))] else [.p (.int .u8 (48+(0 - m.tmod 10)))]))⟩),(449,⟨false,1,1,(fun i_1=>[.p (.int .u8 (48+(0 - m.tmod 10)))])⟩)] [481] 1 (l+1) (fun i=>if (i<l) then [.p (.int .u8 (f i))] else [.p (.int .u8 (48+(0 - m.tmod 10)))]) (fun i=>[.p (.int .u8 (apF l f x i))]))]):=by kernel_rfl
theorem fIp (n m m2:Int) (l:Nat) (f:Nat→Int) (x:Int) :
    zM 0 [rg 2,.dec true,rm [(1,oF)] 1,rg 2,.dec false,rg 7,rm [(1,oF)] 1,.head] zf34 (SFi n m l f) [385] 1 (SFi n m2 (l+1) (apF l f x)) =
    some (zf34,[((m != 0)=true),((10:Int)≠0),((decide (m.tmod 10<0))=false),(ZLo (48+m.tmod 10)),(ZHi (48+m.tmod 10)),(IL 0 (48+m.tmod 10)),(IL (48+m.tmod 10) 255),(NL 1 1),(NL l l),(NL ((l+1)*1) 140737488355328),(NL (l+1) 9223372036854775807),((10:Int)≠0),(AI n),(AN 0),(AN ((l+1))),(((IntKind.i64.wrap (m.tdiv 10)):Int)=m2),(AN 1),(NL (l+1) (l+1)),(CV [(385,⟨false,1,(l+1),(fun i_1=>(if (i_1<l) then [.p (.int .u8 (f i_1))] else [.p (.int .u8 (48+m.tmod 10))]))⟩),(353,⟨false,1,1,(fun i_1=>[.p (.int .u8 (48+m.tmod 10))])⟩)] [385] 1 (l+1) (fun i=>if (i<l) then [.p (.int .u8 (f i))] else [.p (.int .u8 (48+m.tmod 10))]) (fun i=>[.p (.int .u8 (apF l f x i))]))]):=by kernel_rfl
theorem fIt (n m:Int) (l:Nat) (f:Nat→Int) :
    zM 0 [rg 2,.dec false,rg 2,.dec true,rg 4,rg 5,.head] zf34 (SFi n m l f) [193] 1 (SFr (l+1) 0 (((l+1:Nat):Int) - 1) (apF l f 45)) =
    some (zf22,[((m != 0)=false),((decide (n<0))=true),(NL 1 1),(NL l l),(NL ((l+1)*1) 140737488355328),(NL (l+1) 9223372036854775807),(ZLo ((↑(l+1):Int) - 1)),(ZHi ((↑(l+1):Int) - 1)),(AN 0),(AN ((l+1))),((0:Int)=(↑0:Int)),(AI (((↑(l+1):Int) - 1))),(AN 1),(NL (l+1) (l+1)),(CV [(193,⟨false,1,(l+1),(fun i_1=>(if (i_1<l) then [.p (.int .u8 (f i_1))] else [.p (.int .u8 45)]))⟩),(161,⟨false,1,1,(fun i_1=>[.p (.int .u8 45)])⟩)] [193] 1 (l+1) (fun i=>if (i<l) then [.p (.int .u8 (f i))] else [.p (.int .u8 45)]) (fun i=>[.p (.int .u8 (apF l f 45 i))]))]):=by kernel_rfl
theorem fIf (n m:Int) (l:Nat) (f:Nat→Int) :
    zM 0 [rg 2,.dec false,rg 2,.dec false,rg 5,.head] zf34 (SFi n m l f) [0] 1 (SFr l 0 ((l:Int) - 1) f) =
    some (zf22,[((m != 0)=false),((decide (n<0))=false),(ZLo ((↑l:Int) - 1)),(ZHi ((↑l:Int) - 1)),(AN 0),(AN l),((0:Int)=(↑0:Int)),(AI (((↑l:Int) - 1))),(AN 1),(NL l l),(AA l (fun i=>[.p (.int .u8 (f i))]))]):=by kernel_rfl
theorem fIs (l i:Nat) (j:Int) (f:Nat→Int) :
    zM 0 [rg 3,.dec true,rg 16,rg 6,.head] zf22 (SFr l i j f) [0] 1 (SFr l (i+1) (j - 1) (swF i j.toNat f)) =
    some (zf22,zD [((decide ((↑i:Int)<j))=true),(IL 0 j),(IT j (↑l:Int)),(NT j.toNat l),(IL 0 (↑i:Int)),(IT (↑i:Int) (↑l:Int)),(NT i l),((false=true)→ ((l:Nat)=1)),(ZLo ((↑i:Int)+1)),(ZHi ((↑i:Int)+1)),(ZLo (j - 1)),(ZHi (j - 1)),(AN 0),(AN l),((((↑i:Int)+1):Int)=(↑(i+1):Int)),(AI ((j - 1))),(AN 1),(NL l l),(CV [(0,⟨false,1,l,(fun i_2=>(if (i_2=j.toNat) then [.p (.int .u8 (f i))] else (if (i_2=i) then [.p (.int .u8 (f j.toNat))] else [.p (.int .u8 (f i_2))])))⟩)] [0] 1 l (fun i_1=>if (i_1=j.toNat) then [.p (.int .u8 (f i))] else (if (i_1=i) then [.p (.int .u8 (f j.toNat))] else [.p (.int .u8 (f i_1))])) (fun i_1=>[.p (.int .u8 (swF i j.toNat f i_1))]))] [0,1,2,3,4,5,6,4,5,6,7,1,2,3,7,8,9,10,11,12,13,14,15,16,17,18]):=by kernel_rfl
theorem fIe (l i:Nat) (j:Int) (f:Nat→Int) (s:ByteArray) :
    zP Try.f104 0 [rg 3,.dec false,rg 3] zf22 (SFr l i j f) [] 1 [] (.p (.str s)) =
    some [((decide ((↑i:Int)<j))=false),(NL l l),(okBytes l (fun i_1=>[.p (.int .u8 (f i_1))])),((bytesOf l fun i=>[AV.p (PV.int IntKind.u8 (f i))])=s)]:=by kernel_rfl
def dg:Nat→Nat→List Int
  | 0,_=>[]
  | f+1,m=>if m=0 then [] else (48+((m % 10:Nat):Int))::dg f (m / 10)
def bs (l:List Int):ByteArray:=l.foldl (fun r n=>r.push (UInt8.ofNat n.toNat)) ByteArray.empty
def fmtL (n:Int):List Int:=dg 20 n.natAbs++(if n<0 then [45] else [])
def fmtI (n:Int):ByteArray:=if n=0 then bs [48] else bs (fmtL n).reverse
theorem bs_fold (l:List Int):∀ s:ByteArray,(l.foldl (fun r n=>r.push (UInt8.ofNat n.toNat)) s).data=s.data++(l.map fun n=>UInt8.ofNat n.toNat).toArray:=by
  induction l with
  | nil=>intro s;simp
  | cons x l ih =>
    intro s
    simp only [List.foldl_cons,ih,List.map_cons]
    show s.data.push (UInt8.ofNat x.toNat)++_=_
    simp
theorem bs_data (l:List Int):(bs l).data=(l.map fun n=>UInt8.ofNat n.toNat).toArray:=by
  rw [bs,bs_fold]
  show #[]++_=_
  simp
theorem bs_append (a b:List Int):bs (a++b)=bs a++bs b:=by
  apply ByteArray.ext
  rw [bs_data,ByteArray.data_append,bs_data,bs_data]
  simp
theorem bs_size (l:List Int):(bs l).size=l.length:=by
  show (bs l).data.size=_
  rw [bs_data];simp
theorem bytesOf_bs (m:Nat) (f:Nat→Int):bytesOf m (fun i=>[.p (.int .u8 (f i))])=bs ((List.range m).map f):=rfl
theorem tm10 (c:Int):c.tmod 10=if 0≤c then ((c.natAbs % 10:Nat):Int) else -((c.natAbs % 10:Nat):Int):=by
  obtain ⟨k,rfl | rfl⟩:=c.eq_nat_or_neg
  · rw [if_pos (by omega),Int.natAbs_natCast];rfl
  · by_cases h:k=0
    · subst h;rfl
    · rw [if_neg (by omega),Int.neg_tmod,Int.natAbs_neg,Int.natAbs_natCast];rfl
theorem td10 (c:Int):c.tdiv 10=if 0≤c then ((c.natAbs / 10:Nat):Int) else -((c.natAbs / 10:Nat):Int):=by
  obtain ⟨k,rfl | rfl⟩:=c.eq_nat_or_neg
  · rw [if_pos (by omega),Int.natAbs_natCast];rfl
  · by_cases h:k=0
    · subst h;rfl
    · rw [if_neg (by omega),Int.neg_tdiv,Int.natAbs_neg,Int.natAbs_natCast];rfl
theorem td_abs (c:Int):(c.tdiv 10).natAbs=c.natAbs / 10:=by
  rw [td10];split<;>omega
theorem dg_len:∀ f m,(dg f m).length≤f
  | 0,_=>Nat.le_refl _
  | f+1,m=>by
    simp only [dg]
    split
    · simp
    · have:=dg_len f (m / 10);simp;omega
theorem fmt_size (n:Int):(fmtI n).size≤21:=by
  unfold fmtI
  split
  · simp [bs_size]
  · rw [bs_size,fmtL,List.length_reverse,List.length_append]
    have:=dg_len 20 n.natAbs
    split<;>simp<;>omega
theorem con_FormatInt_s (n:Int) (h0:-9223372036854775808≤n) (h1:n≤9223372036854775807):zE 80 [.p (.int .i64 n)] [] (.p (.str (fmtI n))):=by
  refine csZ Try.func80 (fun c hc=>?_)
  by_cases hz:n=0
  · subst hz
    refine pkZ Try.func80 hc (fS0 0 (fmtI 0)) ?_
    and_intros
    all_goals (first | exact zN | rfl | (exact ByteArray.ext (by rw [fmtI,if_pos rfl,bs_data];rfl)))
  have hz':(n==0)=false:=by simpa using hz
  have lp:∀ f m l,l.length+f=20→m.natAbs<10 ^ f→dg 20 n.natAbs=l++dg f m.natAbs→(n<0→m≤0)→(0≤n→0≤m)→-9223372036854775808≤m→m≤9223372036854775807 →
      zR c 80 zf33 (SFs m (bs l.reverse) (decide (n<0))) (Post c [] (.p (.str (fmtI n)))):=by
    have fin:∀ l,dg 20 n.natAbs=l→l.length≤20→zR c 80 zf33 (SFs 0 (bs l.reverse) (decide (n<0))) (Post c [] (.p (.str (fmtI n)))):=by
      intro l hl hl2
      have hsz:=bs_size l.reverse
      rw [List.length_reverse] at hsz
      by_cases hn:n<0
      · rw [decide_eq_true hn]
        refine pkZ Try.func80 hc (fSt 0 (bs l.reverse) (fmtI n) true) ?_
        and_intros
        all_goals (first | exact zN | (show _+(bs l.reverse).size≤_;rw [hsz];show 1+l.length≤_;omega) | (rw [fmtI,if_neg hz,fmtL,if_pos hn,hl,List.reverse_append,bs_append];exact congrArg (·++bs l.reverse) (ByteArray.ext (by rw [bs_data];rfl))))
      · rw [decide_eq_false hn]
        refine pkZ Try.func80 hc (fSf 0 (bs l.reverse) (fmtI n) false) ?_
        and_intros
        all_goals (first | exact zN | (rw [fmtI,if_neg hz,fmtL,if_neg hn,hl,List.append_nil]))
    intro f
    induction f with
    | zero =>
      intro m l hl hm hd hs1 hs2 hb1 hb2
      obtain rfl:m=0:=by simp at hm;omega
      exact fin l (by rw [hd];simp [dg]) (by omega)
    | succ f ih =>
      intro m l hl hm hd hs1 hs2 hb1 hb2
      by_cases hm0:m=0
      · subst hm0
        exact fin l (by rw [hd];simp [dg]) (by omega)
      have hmt:(m != 0)=true:=by simpa using hm0
      have hma:m.natAbs≠0:=by omega
      have htd:=td10 m
      have hrec:=ih (m.tdiv 10) (l++[48+((m.natAbs % 10:Nat):Int)]) (by simp;omega) (by rw [td_abs];rw [Nat.pow_succ] at hm;omega) (by rw [hd,td_abs,dg,if_neg hma];simp) (by intro h;rw [htd];split<;>omega) (by intro h;rw [htd];split<;>omega) (by rw [htd];split<;>omega) (by rw [htd];split<;>omega)
      have hw:IntKind.i64.wrap (m.tdiv 10)=m.tdiv 10:=wrap_in (k:=.i64) (by show (-9223372036854775808:Int)≤_;rw [htd];split<;>omega) (by show _≤(9223372036854775807:Int);rw [htd];split<;>omega)
      have htm:=tm10 m
      have hsz:=bs_size l.reverse
      rw [List.length_reverse] at hsz
      have hb:∀ d:Int,bytesOf 1 (fun _=>[.p (.int .u8 (48+d))])=bs [48+d]:=fun d=>rfl
      have hout:∀ d:Int,d=((m.natAbs % 10:Nat):Int)→bs [48+d]++bs l.reverse=bs (l++[48+((m.natAbs % 10:Nat):Int)]).reverse:=by
        intro d hd'
        rw [List.reverse_append,bs_append,hd'];rfl
      by_cases hneg:m.tmod 10<0
      · have hng:decide (m.tmod 10<0)=true:=decide_eq_true hneg
        have hd':0 - m.tmod 10=((m.natAbs % 10:Nat):Int):=by rw [htm] at hneg ⊢;split at hneg<;>simp_all<;>omega
        refine pcZ hc (fSn m (m.tdiv 10) (bs l.reverse) (bs (l++[48+((m.natAbs % 10:Nat):Int)]).reverse) (decide (n<0))) ?_ hrec
        repeat' (first | exact aN | apply aI)
        all_goals (first | exact zN | (exact hmt) | (exact hng) | (exact hw) | (intro i hi;exact ⟨_,rfl⟩) | (show (bs [48+(0 - m.tmod 10)]).size+(bs l.reverse).size≤_;rw [hsz,bs_size];show 1+l.length≤_;omega) | (exact hout _ hd') | (show (_:Int)≤_;rw [hd'];omega) | (simp only [imin,imax];omega))
      · have hng:decide (m.tmod 10<0)=false:=decide_eq_false hneg
        have hd':m.tmod 10=((m.natAbs % 10:Nat):Int):=by rw [htm] at hneg ⊢;split at hneg<;>simp_all<;>omega
        refine pcZ hc (fSp m (m.tdiv 10) (bs l.reverse) (bs (l++[48+((m.natAbs % 10:Nat):Int)]).reverse) (decide (n<0))) ?_ hrec
        repeat' (first | exact aN | apply aI)
        all_goals (first | exact zN | (exact hmt) | (exact hng) | (exact hw) | (intro i hi;exact ⟨_,rfl⟩) | (show (bs [48+m.tmod 10]).size+(bs l.reverse).size≤_;rw [hsz,bs_size];show 1+l.length≤_;omega) | (exact hout _ hd') | (show (_:Int)≤_;rw [hd'];omega) | (simp only [imin,imax];omega))
  refine pcZ hc (fSz n (bs [])) ?_ (lp 20 n [] rfl (by omega) rfl (fun h=>by omega) (fun h=>h) h0 h1)
  and_intros
  all_goals (first | exact zN | (exact hz') | rfl)
def lsI (n:Nat) (f:Nat→Int):List Int:=(List.range n).map f
theorem lsI_ap (n:Nat) (f:Nat→Int) (x:Int):lsI (n+1) (apF n f x)=lsI n f++[x]:=by
  simp only [lsI,List.range_succ,List.map_append,List.map_cons,List.map_nil]
  congr 1
  · exact List.map_congr_left (fun i hi=>by simp [apF,List.mem_range.1 hi])
  · simp [apF]
theorem lsI_rev (n:Nat) (f g:Nat→Int) (h:∀ r,r<n→g r=f (n - 1 - r)):lsI n g=(lsI n f).reverse:=by
  apply List.ext_getElem
  · simp [lsI]
  · intro i h1 h2
    simp only [lsI,List.length_map,List.length_range] at h1
    simp [lsI,h i h1]
theorem con_FormatInt_i (n:Int) (h0:-9223372036854775808≤n) (h1:n≤9223372036854775807):zE 104 [.p (.int .i64 n)] [] (.p (.str (fmtI n))):=by
  refine csZ Try.func104 (fun c hc=>?_)
  by_cases hz:n=0
  · subst hz
    refine pkZ Try.func104 hc (fI0 0 (fmtI 0)) ?_
    and_intros
    all_goals (first | exact zN | rfl | (exact ByteArray.ext (by rw [fmtI,if_pos rfl,bs_data];rfl)))
  have hz':(n==0)=false:=by simpa using hz
  have lr:∀ L f0,L≤21→lsI L f0=fmtL n→∀ d i f,i+d=L→i≤L→2*i≤L+1→(∀ r,r<L→f r=if r<i∨L - i≤r then f0 (L - 1 - r) else f0 r) →
      zR c 104 zf22 (SFr L i ((L:Int) - 1 - i) f) (Post c [] (.p (.str (fmtI n)))):=by
    intro L f0 hL hl d
    have fin:∀ i f,i≤L→2*i≤L+1→L≤2*i+1→(∀ r,r<L→f r=if r<i∨L - i≤r then f0 (L - 1 - r) else f0 r) →
        zR c 104 zf22 (SFr L i ((L:Int) - 1 - i) f) (Post c [] (.p (.str (fmtI n)))):=by
      intro i f hi hi2 hi3 hf
      have hd:decide ((i:Int)<(L:Int) - 1 - i)=false:=decide_eq_false (by omega)
      have hrev:∀ r,r<L→f r=f0 (L - 1 - r):=by
        intro r hr
        rw [hf r hr]
        split
        · rfl
        · rename_i h
          rw [show L - 1 - r=r by omega]
      have he:=lsI_rev L f0 f hrev
      refine pkZ Try.func104 hc (fIe L i ((L:Int) - 1 - i) f (fmtI n)) ?_
      repeat' (first | exact aN | apply aI)
      all_goals (first | exact zN | (exact hd) | (intro r hr;exact ⟨_,rfl⟩) | (rw [bytesOf_bs];show bs (lsI L f)=_;rw [he,hl,fmtI,if_neg hz]))
    induction d with
    | zero =>
      intro i f hi hi1 hi2 hf
      exact fin i f hi1 hi2 (by omega) hf
    | succ d ih =>
      intro i f hi hi1 hi2 hf
      by_cases hlt:(i:Int)<(L:Int) - 1 - i
      · have hd:decide ((i:Int)<(L:Int) - 1 - i)=true:=decide_eq_true hlt
        have hj:((L:Int) - 1 - i).toNat=L - 1 - i:=by omega
        have hrec:=ih (i+1) (swF i ((L:Int) - 1 - i).toNat f) (by omega) (by omega) (by omega) (by
          intro r hr
          rw [hj]
          unfold swF
          by_cases e1:r=L - 1 - i
          · rw [if_pos e1,if_pos (by omega),hf i (by omega),if_neg (by omega),e1]
            rw [show L - 1 - (L - 1 - i)=i by omega]
          · rw [if_neg e1]
            by_cases e2:r=i
            · rw [if_pos e2,if_pos (by omega),hf (L - 1 - i) (by omega),if_neg (by omega),e2]
            · rw [if_neg e2,hf r hr]
              by_cases e3:r<i∨L - i≤r
              · rw [if_pos e3,if_pos (by omega)]
              · rw [if_neg e3,if_neg (by omega)])
        rw [show (L:Int) - 1 - ((i+1:Nat):Int)=(L:Int) - 1 - i - 1 by omega] at hrec
        refine pcD hc (fIs L i ((L:Int) - 1 - i) f) ?_ hrec
        and_intros
        all_goals (first | exact zI | (exact hd) | (intro r hr;generalize ((L:Int) - 1 - i).toNat=J;by_cases e1:r=J<;>by_cases e2:r=i<;>(first | (subst e2;simp [e1,swF,cvtL,cvt,tg,tru,All];done) | (simp [e1,e2,swF,cvtL,cvt,tg,tru,All];done))) | (simp only [imin,imax];omega))
      · exact fin i f hi1 hi2 (by omega) hf
  have lp:∀ f m l g,l+f=20→m.natAbs<10 ^ f→dg 20 n.natAbs=lsI l g++dg f m.natAbs→(n<0→m≤0)→(0≤n→0≤m)→-9223372036854775808≤m→m≤9223372036854775807 →
      zR c 104 zf34 (SFi n m l g) (Post c [] (.p (.str (fmtI n)))):=by
    have fin:∀ l g,dg 20 n.natAbs=lsI l g→l≤20→zR c 104 zf34 (SFi n 0 l g) (Post c [] (.p (.str (fmtI n)))):=by
      intro l g hl hl2
      by_cases hn:n<0
      · have hd:decide (n<0)=true:=decide_eq_true hn
        have hr:=lr (l+1) (apF l g 45) (by omega) (by rw [lsI_ap,fmtL,if_pos hn,hl]) (l+1) 0 (apF l g 45) (by omega) (by omega) (by omega) (fun r hr=>by rw [if_neg (by omega)])
        rw [show ((l+1:Nat):Int) - 1 - ((0:Nat):Int)=((l+1:Nat):Int) - 1 by omega] at hr
        refine pcZ hc (fIt n 0 l g) ?_ hr
        and_intros
        all_goals (first | exact zN | (exact hd) | (intro j hj;by_cases h':j<l<;>simp [h',apF,cvtL,cvt,tg,tru,All];done) | (simp only [imin,imax];omega))
      · have hd:decide (n<0)=false:=decide_eq_false hn
        have hr:=lr l g (by omega) (by rw [fmtL,if_neg hn,hl,List.append_nil]) l 0 g (by omega) (by omega) (by omega) (fun r hr=>by rw [if_neg (by omega)])
        rw [show (l:Int) - 1 - ((0:Nat):Int)=(l:Int) - 1 by omega] at hr
        refine pcZ hc (fIf n 0 l g) ?_ hr
        and_intros
        all_goals (first | exact zN | (exact hd) | (intro j hj;simp [All];done) | (simp only [imin,imax];omega))
    intro f
    induction f with
    | zero =>
      intro m l g hl hm hd hs1 hs2 hb1 hb2
      obtain rfl:m=0:=by simp at hm;omega
      exact fin l g (by rw [hd];simp [dg]) (by omega)
    | succ f ih =>
      intro m l g hl hm hd hs1 hs2 hb1 hb2
      by_cases hm0:m=0
      · subst hm0
        exact fin l g (by rw [hd];simp [dg]) (by omega)
      have hmt:(m != 0)=true:=by simpa using hm0
      have hma:m.natAbs≠0:=by omega
      have htd:=td10 m
      have hrec:=ih (m.tdiv 10) (l+1) (apF l g (48+((m.natAbs % 10:Nat):Int))) (by omega) (by rw [td_abs];rw [Nat.pow_succ] at hm;omega) (by rw [hd,td_abs,dg,if_neg hma,lsI_ap];simp) (by intro h;rw [htd];split<;>omega) (by intro h;rw [htd];split<;>omega) (by rw [htd];split<;>omega) (by rw [htd];split<;>omega)
      have hw:IntKind.i64.wrap (m.tdiv 10)=m.tdiv 10:=wrap_in (k:=.i64) (by show (-9223372036854775808:Int)≤_;rw [htd];split<;>omega) (by show _≤(9223372036854775807:Int);rw [htd];split<;>omega)
      have htm:=tm10 m
      by_cases hneg:m.tmod 10<0
      · have hng:decide (m.tmod 10<0)=true:=decide_eq_true hneg
        have hd':0 - m.tmod 10=((m.natAbs % 10:Nat):Int):=by rw [htm] at hneg ⊢;split at hneg<;>simp_all<;>omega
        refine pcZ hc (fIn n m (m.tdiv 10) l g (48+((m.natAbs % 10:Nat):Int))) ?_ hrec
        and_intros
        all_goals (first | exact zN | (exact hmt) | (exact hng) | (exact hw) | (intro j hj;by_cases h':j<l<;>simp [h',hd',apF,cvtL,cvt,tg,tru,All];done) | (show (_:Int)≤_;rw [hd'];omega) | (simp only [imin,imax];omega))
      · have hng:decide (m.tmod 10<0)=false:=decide_eq_false hneg
        have hd':m.tmod 10=((m.natAbs % 10:Nat):Int):=by rw [htm] at hneg ⊢;split at hneg<;>simp_all<;>omega
        refine pcZ hc (fIp n m (m.tdiv 10) l g (48+((m.natAbs % 10:Nat):Int))) ?_ hrec
        and_intros
        all_goals (first | exact zN | (exact hmt) | (exact hng) | (exact hw) | (intro j hj;by_cases h':j<l<;>simp [h',hd',apF,cvtL,cvt,tg,tru,All];done) | (show (_:Int)≤_;rw [hd'];omega) | (simp only [imin,imax];omega))
  refine pcZ hc (fIz n) ?_ (lp 20 n 0 (fun _=>0) rfl (by omega) (by simp [lsI]) (fun h=>by omega) (fun h=>h) h0 h1)
  and_intros
  all_goals (first | exact zN | (exact hz') | (intro j hj;exact absurd hj (Nat.not_lt_zero _)) | rfl)
end Go.Proofs.Ytgabljneilgilaa.Mach
