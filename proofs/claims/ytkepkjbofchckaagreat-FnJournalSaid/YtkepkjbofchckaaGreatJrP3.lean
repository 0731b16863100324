/- What the law Jr needs, part 3 of 6: the abstract machine and the contracts of the functions. Conditions: as each theorem says. -/
import Derived.Shelf.SlSortCmp.NoneTotal
import Derived.Test.YtkepkjbofchckaaGreatJrP2
namespace Go.Proofs.YtkepkjbofchckaaGreat.Mach
open Go
set_option linter.unusedVariables false
set_option linter.unusedSimpArgs false
def inD (n:Nat) (F:Nat→Int):AV:=.p (.seq true 1 n (fun i=>[.int .i64 (F i)]))
def pebO (N m:Nat) (j:Nat):AV:=.agg [.ar 1 j 0 N,.ar 1 ⟨j+1,none⟩ 0 m,.ar 1 ⟨j+2,none⟩ 0 m]
def pebR (N m:Nat) (F T Q:Nat→Int):Hp:=[(0,iOb N F),(1,iOb m T),(2,iOb m Q)]
def SY0 (g:Nat→T_Bar) (nb N k l i:Nat):St :=
  ⟨[.p (.int .i64 N),brL g nb,.p (.int .i64 k),.p (.int .i64 l),.p .any,.p .any,.p .any,.p .any,.pt 3 0 0 0,.pt 3 1 0 0,.p .any,.p .any,.p .any,.p (.int .i64 N),.p (.int .i64 i)]++List.replicate 22 anyA,
   [(0,⟨true,3,1,fun _=>[.p .nil,.p .nil,.p .nil]⟩),(1,⟨true,3,1,fun _=>[.ar 1 2 0 i,.ar 1 3 0 0,.ar 1 4 0 0]⟩),(2,iOb i (fun _=>k)),(3,iOb 0 (fun _=>0)),(4,iOb 0 (fun _=>0))],5⟩
def SY1 (g:Nat→T_Bar) (nb N m k l e:Nat) (F T Q:Nat→Int):St :=
  ⟨[.p (.int .i64 N),brL g nb,.p (.int .i64 k),.p (.int .i64 l),.p .any,.p .any,.p .any,.p .any,.pt 3 0 0 0,.pt 3 1 0 0]++List.replicate 14 anyA++[.p (.int .i64 nb),.p (.int .i64 e)]++List.replicate 11 anyA,
   [(0,⟨true,3,1,fun _=>[.p .nil,.p .nil,.p .nil]⟩),(1,⟨true,3,1,fun _=>[.ar 1 2 0 N,.ar 1 3 0 m,.ar 1 4 0 m]⟩),(2,iOb N F),(3,iOb m T),(4,iOb m Q)],5⟩
theorem pCi (n:Nat) (F:Nat→Int) :
    zS Tryz.f91 [rg 1,rg 4] [inD n F] [96] [(0,iOb n F)] (.ar 1 0 0 n) =
    some [(NL 0 0),(NL ((0+n)*8) 140737488355328),(NL (0+n) 9223372036854775807),(AN 0),(((0+n):Nat)=n),(AN 1),(NL n (0+n)),(AA n (fun i=>[.p (.int .i64 (F i))])),(AE n)]:=by kernel_rfl
theorem pCp (N m m':Nat) (F T Q:Nat→Int) :
    zS Tryz.f204 [rg 2,rm [(2,oc [(0,iOb N F)] (.ar 1 0 0 N)),(2,oc [(0,iOb m T)] (.ar 1 0 0 m)),(2,oc [(0,iOb m Q)] (.ar 1 0 0 m))] 2] [.agg [inD N F,inD m T,inD m Q]] [128,224,320] (pebR N m F T Q) (pebO N m 0) =
    some (zD [(NT 0 1),zE 91 [.p (.seq true 1 N (fun i=>[.int .i64 (F i)]))] [(0,⟨false,1,N,(fun i=>[.p (.int .i64 (F i))])⟩)] (.ar 1 0 0 N),zE 91 [.p (.seq true 1 m (fun i=>[.int .i64 (T i)]))] [(0,⟨false,1,m,(fun i=>[.p (.int .i64 (T i))])⟩)] (.ar 1 0 0 m),zE 91 [.p (.seq true 1 m (fun i=>[.int .i64 (Q i)]))] [(0,⟨false,1,m,(fun i=>[.p (.int .i64 (Q i))])⟩)] (.ar 1 0 0 m),((true=true)→ (AN 1)),(AN 0),(AN N),(AN m),(AN 1),(NL N N),(AA N (fun i=>[.p (.int .i64 (F i))])),(NL m m),(AA m (fun i=>[.p (.int .i64 (T i))])),(AA m (fun i=>[.p (.int .i64 (Q i))])),(AE N),(AE m)] [0,1,0,2,0,3,0,4,0,5,6,5,7,5,7,8,9,10,8,11,12,8,11,13,14,15,15]):=by kernel_rfl
theorem pYz (g:Nat→T_Bar) (nb N k l:Nat) :
    zT Tryz.f178 [rg 1,rg 3,rg 2,.head] [.p (.int .i64 N),brL g nb,.p (.int .i64 k),.p (.int .i64 l)] [0,64] (SY0 g nb N k l 0) =
    some (zf55,zD [(NT 0 1),((true=true)→ (AN 1)),(AI ((↑N:Int))),(AN nb),(AP nb (bRw g)),(AI ((↑k:Int))),(AI ((↑l:Int))),(AN 0),((0:Int)=(↑0:Int)),((((List.map (fun v=>AV.p (absV v)) [Value.slice none 0 0,Value.slice none 0 0,Value.slice none 0 0]).length):Nat)=3),(NL 1 1)] [0,1,2,3,4,5,6,7,7,2,8,9,10,10,9,10,10,7,7,7,7,7,7]):=by kernel_rfl
theorem pY0 (g:Nat→T_Bar) (nb N k l i:Nat) :
    zM 0 [rg 1,.dec true,rg 7,rg 2,.head] zf55 (SY0 g nb N k l i) [0,1,165,3,4] 1 (SY0 g nb N k l (i+1)) =
    some (zf55,zD [((decide ((↑i:Int)<(↑N:Int)))=true),(NT 0 1),(NL 1 1),(NL i i),(NL ((i+1)*8) 140737488355328),(NL (i+1) 9223372036854775807),((true=true)→ (AN 1)),(ZLo ((↑i:Int)+1)),(ZHi ((↑i:Int)+1)),(AI ((↑N:Int))),(AN nb),(AP nb (bRw g)),(AI ((↑k:Int))),(AI ((↑l:Int))),(AN 0),((((↑i:Int)+1):Int)=(↑(i+1):Int)),(AN 3),(AN ((i+1))),(AN 1),(NL (i+1) (i+1)),(CV [(1,⟨true,3,1,(fun i_2=>[.ar 1 165 0 (i+1),.ar 1 3 0 0,.ar 1 4 0 0])⟩),(165,⟨false,1,(i+1),(fun i_2=>(if (i_2<i) then [.p (.int .i64 (↑k:Int))] else [.p (.int .i64 (↑k:Int))]))⟩),(133,⟨false,1,1,(fun i_2=>[.p (.int .i64 (↑k:Int))])⟩),(0,⟨true,3,1,(fun i_2=>[.p (.nil),.p (.nil),.p (.nil)])⟩),(3,⟨false,1,0,(fun i_2=>[.p (.int .i64 0)])⟩),(4,⟨false,1,0,(fun i_2=>[.p (.int .i64 0)])⟩)] [0,1,165,3,4] 1 (i+1) (fun i_1=>if (i_1<i) then [.p (.int .i64 (↑k:Int))] else [.p (.int .i64 (↑k:Int))]) (fun i_1=>[.p (.int .i64 (↑k:Int))])),(NL 0 0),(AA 0 (fun i_1=>[.p (.int .i64 0)]))] [0,1,2,3,4,5,1,6,7,8,9,10,11,12,13,14,14,9,15,16,2,2,16,2,2,14,17,14,14,14,14,18,19,20,18,21,22,18,21,22]):=by kernel_rfl
theorem pY01 (g:Nat→T_Bar) (nb N k l i:Nat) :
    zM 0 [rg 1,.dec false,rg 3,.head] zf55 (SY0 g nb N k l i) [0,1,2,3,4] 1 (SY1 g nb N 0 k l 0 (fun _=>k) (fun _=>0) (fun _=>0)) =
    some (zf41,zD [((decide ((↑i:Int)<(↑N:Int)))=false),(AI ((↑N:Int))),(AN nb),(AP nb (bRw g)),(AI ((↑k:Int))),(AI ((↑l:Int))),(AN 0),(AI ((↑nb:Int))),((0:Int)=(↑0:Int)),(AN 3),(NL 1 1),((i:Nat)=N),(AN 1),(NL N i),(AA N (fun i_1=>[.p (.int .i64 (↑k:Int))])),(NL 0 0),(AA 0 (fun i_1=>[.p (.int .i64 0)]))] [0,1,2,3,4,5,6,6,7,8,9,10,10,9,10,10,6,11,6,6,6,6,12,13,14,12,15,16,12,15,16]):=by kernel_rfl
theorem pY1t (g:Nat→T_Bar) (nb N m k l e:Nat) (F T Q F1 T1:Nat→Int) :
    zM 0 [rg 1,.dec true,rg 2,rm [(1,oc (pebR N m F T Q) (pebO N m 0))] 2,rm [(3,oq [165,133,134,135] (pebH2 N (m+1) F1 T1 (fun s=>if s<m then Q s else e)) (.p (.bool true)))] 0,.dec true,rg 2,rg 2,.head] zf41 (SY1 g nb N m k l e F T Q) [0,1,133,325,326] 1 (SY1 g nb N (m+1) k l (e+1) F1 T1 (fun s=>if s<m then Q s else e)) =
    some (zf41,zD [((decide ((↑e:Int)<(↑nb:Int)))=true),(NT 0 1),(AN 1),(NL N N),(NL m m),zE 204 [(zf56 N F m T Q)] (zf38 N F m T Q) (.agg [.ar 1 0 0 N,.ar 1 1 0 m,.ar 1 2 0 m]),((true=true)→ (AN 1)),(AE 1),(AE N),(AE m),Con Tryz.prog 205 4 (zf18 N m F T Q) [.p (.seq true 2 nb (bRw g)),.p (.int .i64 (↑l:Int)),.pt 3 0 0 0,.p (.int .i64 (↑e:Int))] [(0,⟨true,3,1,(fun i=>[.ar 1 1 0 N,.ar 1 4 0 (m+1),.ar 1 5 0 (m+1)])⟩),(1,⟨false,1,N,(fun i=>[.p (.int .i64 (F1 i))])⟩),(4,⟨false,1,(m+1),(fun i=>[.p (.int .i64 (T1 i))])⟩),(5,⟨false,1,(m+1),(fun i=>[.p (.int .i64 (if i<m then Q i else (↑e:Int)))])⟩)] (.p (.bool true)),(true=true),(ZLo ((↑e:Int)+1)),(ZHi ((↑e:Int)+1)),(AI ((↑N:Int))),(AN nb),(AP nb (bRw g)),(AI ((↑k:Int))),(AI ((↑l:Int))),(AN 0),(AI ((↑nb:Int))),((((↑e:Int)+1):Int)=(↑(e+1):Int)),(AN 3),(NL 1 1),(AN N),(AN ((m+1))),(AA N (fun i=>[.p (.int .i64 (F1 i))])),(NL (m+1) (m+1)),(AA ((m+1)) (fun i=>[.p (.int .i64 (T1 i))])),(AA ((m+1)) (fun i=>[.p (.int .i64 (if i<m then Q i else (↑e:Int)))]))] [0,1,2,3,2,4,2,4,5,1,6,7,8,9,9,10,11,1,1,6,12,13,14,15,16,17,18,19,19,20,21,22,23,23,22,23,23,19,24,19,25,19,25,2,3,26,2,27,28,2,27,29]):=by kernel_rfl
theorem pY1f (g:Nat→T_Bar) (nb N m k l e:Nat) (F T Q F1 T1:Nat→Int) :
    zM 0 [rg 1,.dec true,rg 2,rm [(1,oc (pebR N m F T Q) (pebO N m 0))] 2,rm [(3,oq [165,133,134,135] (pebH N m F1 T1 Q) (.p (.bool false)))] 0,.dec false,rg 2,.head] zf41 (SY1 g nb N m k l e F T Q) [0,1,2,3,4] 1 (SY1 g nb N m k l (e+1) F T Q) =
    some (zf41,zD [((decide ((↑e:Int)<(↑nb:Int)))=true),(NT 0 1),(AN 1),(NL N N),(NL m m),zE 204 [(zf56 N F m T Q)] (zf38 N F m T Q) (.agg [.ar 1 0 0 N,.ar 1 1 0 m,.ar 1 2 0 m]),((true=true)→ (AN 1)),(AE 1),(AE N),(AE m),Con Tryz.prog 205 4 (zf18 N m F T Q) [.p (.seq true 2 nb (bRw g)),.p (.int .i64 (↑l:Int)),.pt 3 0 0 0,.p (.int .i64 (↑e:Int))] (zf18 N m F1 T1 Q) (.p (.bool false)),(false=false),(ZLo ((↑e:Int)+1)),(ZHi ((↑e:Int)+1)),(AI ((↑N:Int))),(AN nb),(AP nb (bRw g)),(AI ((↑k:Int))),(AI ((↑l:Int))),(AN 0),(AI ((↑nb:Int))),((((↑e:Int)+1):Int)=(↑(e+1):Int)),(AN 3),(NL 1 1),(AN N),(AN m),(AA N (fun i=>[.p (.int .i64 (F i))])),(AA m (fun i=>[.p (.int .i64 (T i))])),(AA m (fun i=>[.p (.int .i64 (Q i))]))] [0,1,2,3,2,4,2,4,5,1,6,7,8,9,9,10,11,12,13,14,15,16,17,18,19,19,20,21,22,23,23,22,23,23,19,24,19,25,19,25,2,3,26,2,4,27,2,4,28]):=by kernel_rfl
theorem pY2 (g:Nat→T_Bar) (nb N m k l e:Nat) (F T Q:Nat→Int) :
    zP Tryz.f178 0 [rg 1,.dec false,rg 2] zf41 (SY1 g nb N m k l e F T Q) [2,3,4] 1 (pebR N m F T Q) (pebO N m 0) =
    some (zD [((decide ((↑e:Int)<(↑nb:Int)))=false),(NT 0 1),((true=true)→ (AN 1)),(AN 0),(AN N),(AN m),(AN 1),(NL N N),(AA N (fun i=>[.p (.int .i64 (F i))])),(NL m m),(AA m (fun i=>[.p (.int .i64 (T i))])),(AA m (fun i=>[.p (.int .i64 (Q i))])),(AE N),(AE m)] [0,1,1,2,1,3,4,3,5,3,5,6,7,8,6,9,10,6,9,11,12,13,13]):=by kernel_rfl
theorem con_copyInts (n:Nat) (F:Nat→Int) (hn:n≤1048576):zE 91 [inD n F] [(0,iOb n F)] (.ar 1 0 0 n):=by
  refine csZ Tryz.func91 (fun c hc=>?_)
  refine pkZ Tryz.func91 hc (pCi n F) ?_
  and_intros
  all_goals (first | exact zN | (intro i hi;simp [All]))
theorem con_copyPebbles (N m:Nat) (F T Q:Nat→Int) (hN:N≤1048576) (hm:m≤1048576):zE 204 [.agg [inD N F,inD m T,inD m Q]] (pebR N m F T Q) (pebO N m 0):=by
  refine csZ Tryz.func204 (fun c hc=>?_)
  refine pkD Tryz.func204 hc (pCp N m m F T Q) ?_
  and_intros
  all_goals (first | exact zI | (exact con_copyInts N F hN) | (exact con_copyInts m T hm) | (exact con_copyInts m Q hm) | (intro i hi;simp [All]))
open Classical in
noncomputable def accI (N k l:Nat) (g:Nat→T_Bar):Nat→List Nat
  | 0=>[]
  | e+1=>if Mat.Sparse N k l ((accI N k l g e).map (fun i=>brN (g i))++[brN (g e)]) then accI N k l g e++[e] else accI N k l g e
theorem accI_sparse (N k l:Nat) (g:Nat→T_Bar):∀ e,Mat.Sparse N k l ((accI N k l g e).map (fun i=>brN (g i)))
  | 0=>Mat.sparse_nil N k l
  | e+1=>by
    simp only [accI]
    split
    · rename_i h;rw [List.map_append];exact h
    · exact accI_sparse N k l g e
def qL (Q:Nat→Int):Nat→List Nat
  | 0=>[]
  | m+1=>qL Q m++[(Q m).toNat]
theorem qL_length (Q:Nat→Int):∀ m,(qL Q m).length=m
  | 0=>rfl
  | m+1=>by simp [qL,qL_length Q m]
theorem qL_congr {Q Q':Nat→Int}:∀ m,(∀ j,j<m→Q j=Q' j)→qL Q m=qL Q' m
  | 0,_=>rfl
  | m+1,h=>by simp only [qL];rw [qL_congr m (fun j hj=>h j (by omega)),h m (by omega)]
theorem plL_qL (g:Nat→T_Bar) (Q:Nat→Int):∀ m,plL g Q m=(qL Q m).map (fun i=>brN (g i))
  | 0=>rfl
  | m+1=>by simp only [plL,qL,plL_qL g Q m,List.map_append,List.map_cons,List.map_nil]
theorem accI_len (N k l:Nat) (g:Nat→T_Bar):∀ e,(accI N k l g e).length≤e
  | 0=>Nat.le_refl _
  | e+1=>by
    have:=accI_len N k l g e
    simp only [accI]
    split
    · simp;omega
    · omega
theorem PInv.start {N k nb:Nat} {g:Nat→T_Bar} (hb:∀ e,e<nb→0≤(g e).1∧(g e).1<(g e).2.1∧(g e).2.1<N):PInv N k nb 0 g (fun _=>(k:Int)) (fun _=>0) (fun _=>0) :=
  ⟨hb,fun j hj=>absurd hj (Nat.not_lt_zero _),fun j hj=>absurd hj (Nat.not_lt_zero _),fun v _=>by show (0:Int)≤k;omega,fun v _=>by show (k:Int)+0=k;omega⟩
theorem con_play {N k l nb:Nat} {g:Nat→T_Bar} (hb:∀ e,e<nb→0≤(g e).1∧(g e).1<(g e).2.1∧(g e).2.1<N) (hk:k≤1048576) (hl:l≤1048576) (hN:N≤1048576) (hnb:nb≤1048576) :
    ∃ m F T Q,zE 178 [.p (.int .i64 N),brL g nb,.p (.int .i64 k),.p (.int .i64 l)] (pebR N m F T Q) (pebO N m 0)∧PInv N k nb m g F T Q∧qL Q m=accI N k l g nb:=by
  have lp1:∀ d e m F T Q,e+d=nb→PInv N k nb m g F T Q→qL Q m=accI N k l g e →
      ∃ m' F' T' Q',(∀ c,c.n=0→zR c 178 zf41 (SY1 g nb N m k l e F T Q) (Post c (pebR N m' F' T' Q') (pebO N m' 0)))∧PInv N k nb m' g F' T' Q'∧qL Q' m'=accI N k l g nb:=by
    intro d
    induction d with
    | zero =>
      intro e m F T Q he hp hq
      obtain rfl:e=nb:=by omega
      refine ⟨m,F,T,Q,fun c hc=>?_,hp,hq⟩
      have hd:decide ((e:Int)<(e:Int))=false:=by simp
      refine pkD Tryz.func178 hc (pY2 g e N m k l e F T Q) ?_
      and_intros
      all_goals (first | exact zI | (intro i hi;simp [All]))
    | succ d ih =>
      intro e m F T Q he hp hq
      have hd:decide ((e:Int)<(nb:Int))=true:=by simp;omega
      have hm:m≤1048576:=by
        have:=accI_len N k l g e
        rw [← hq,qL_length] at this
        omega
      have hsp:Mat.Sparse N k l (plL g Q m):=by rw [plL_qL,hq];exact accI_sparse N k l g e
      have hcc:=con_copyPebbles N m F T Q hN hm
      rcases con_place hp hk hl hN hm hnb e (by omega) hsp with ⟨F1,T1,hc1,hp1,hs1⟩ | ⟨F1,T1,hc1,hs1⟩
      · obtain ⟨m',F',T',Q',hrun,h1,h2⟩:=ih (e+1) (m+1) F1 T1 _ (by omega) hp1 (by
          simp only [accI]
          rw [← hq,← plL_qL,if_pos hs1]
          simp only [qL,Nat.lt_irrefl,if_false,Int.toNat_natCast]
          rw [qL_congr (Q':=Q) m (fun j hj=>by simp only [hj,if_true])])
        refine ⟨m',F',T',Q',fun c hc=>?_,h1,h2⟩
        refine pcD hc (pY1t g nb N m k l e F T Q F1 T1) ?_ (hrun c hc)
        and_intros
        all_goals (first | exact zI | (exact hcc) | (exact hc1) | (intro i hi;simp [All]))
      · obtain ⟨m',F',T',Q',hrun,h1,h2⟩:=ih (e+1) m F T Q (by omega) hp (by
          simp only [accI]
          rw [← hq,← plL_qL,if_neg hs1])
        refine ⟨m',F',T',Q',fun c hc=>?_,h1,h2⟩
        refine pcD hc (pY1f g nb N m k l e F T Q F1 T1) ?_ (hrun c hc)
        and_intros
        all_goals (first | exact zI | (exact hcc) | (exact hc1) | (intro i hi;simp [All]))
  obtain ⟨m',F',T',Q',hrun,h1,h2⟩:=lp1 nb 0 0 _ _ _ (by omega) (PInv.start hb) rfl
  refine ⟨m',F',T',Q',?_,h1,h2⟩
  refine csZ Tryz.func178 (fun c hc=>?_)
  have lp0:∀ d i,i+d=N→zR c 178 zf55 (SY0 g nb N k l i) (Post c (pebR N m' F' T' Q') (pebO N m' 0)):=by
    intro d
    induction d with
    | zero =>
      intro i hi
      obtain rfl:i=N:=by omega
      have hd:decide ((i:Int)<(i:Int))=false:=by simp
      refine pcD hc (pY01 g nb i k l i) ?_ (hrun c hc)
      and_intros
      all_goals (first | exact zN | (intro i hi;simp [All]))
    | succ d ih =>
      intro i hi
      have hd:decide ((i:Int)<(N:Int))=true:=by simp;omega
      refine pcD hc (pY0 g nb N k l i) ?_ (ih (i+1) (by omega))
      and_intros
      all_goals (first | exact zI | (intro j hj;simp [All];done) | (intro j hj;by_cases h:j<i<;>simp [h,cvtL,cvt,tg,tru,All]))
  refine pcD hc (pYz g nb N k l) ?_ (lp0 N 0 (by omega))
  and_intros
  all_goals (first | exact zI | (intro i hi;simp [All]))
def grG (g:Nat→T_Bar) (nb N:Nat):AV:=.agg [.p (.int .i64 N),brL g nb]
def bxG (g:Nat→T_Bar) (nb N:Nat):Ob:=⟨true,2,1,fun _=>[.p (.int .i64 N),brL g nb]⟩
def bx0:Ob:=⟨true,3,1,fun _=>[.p .nil,.p .nil,.p .nil]⟩
def bxP (N m j:Nat):Ob:=⟨true,3,1,fun _=>[.ar 1 j 0 N,.ar 1 ⟨j+1,none⟩ 0 m,.ar 1 ⟨j+2,none⟩ 0 m]⟩
def bxD (N m:Nat) (F T Q:Nat→Int):Ob:=⟨true,3,1,fun _=>[inD N F,inD m T,inD m Q]⟩
def pebD (N m:Nat) (F T Q:Nat→Int):AV:=.agg [inD N F,inD m T,inD m Q]
def bOb (n:Nat) (S:Nat→Bool):Ob:=⟨false,1,n,fun i=>[.p (.bool (S i))]⟩
def SSc (g:Nat→T_Bar) (nb N m:Nat) (F T Q FR F1 T1:Nat→Int) (a u:Int):St :=
  ⟨[grG g nb N,pebD N m F T Q,inD N FR,.p (.int .i64 a),.p (.int .i64 u),.pt 2 0 0 0,.pt 3 1 0 0,.p .any,.p .any,.p .any,.pt 3 2 0 0,.pt 3 3 0 0]++List.replicate 51 anyA,
   [(0,bxG g nb N),(1,bxD N m F T Q),(2,bx0),(3,bxP N m 4),(4,iOb N F1),(5,iOb m T1),(6,iOb m Q)],7⟩
def SSl (g:Nat→T_Bar) (nb N m:Nat) (F T Q FR F1 T1:Nat→Int) (a u at':Int):St :=
  ⟨[grG g nb N,pebD N m F T Q,inD N FR,.p (.int .i64 a),.p (.int .i64 u),.pt 2 0 0 0,.pt 3 1 0 0,.p .any,.p .any,.p .any,.pt 3 2 0 0,.pt 3 3 0 0,.p (.int .i64 at')]++List.replicate 50 anyA,
   [(0,bxG g nb N),(1,bxD N m F T Q),(2,bx0),(3,bxP N m 4),(4,iOb N F1),(5,iOb m T1),(6,iOb m Q)],7⟩
def SF0 (g:Nat→T_Bar) (nb N m:Nat) (F T Q:Nat→Int) (a b:Int) (i:Nat):St :=
  ⟨[grG g nb N,pebO N m 0,.p (.int .i64 a),.p (.int .i64 b),.pt 2 3 0 0,.pt 3 4 0 0,.p .any,.p .any,.pt 3 5 0 0,.p .any,.ar 1 6 0 N,.p (.int .i64 i)]++List.replicate 94 anyA,
   [(0,iOb N F),(1,iOb m T),(2,iOb m Q),(3,bxG g nb N),(4,bxP N m 0),(5,bx0),(6,iOb N (fun s=>if s<i then -1 else 0))],7⟩
def SF1 (g:Nat→T_Bar) (nb N m:Nat) (F T Q td FR:Nat→Int) (SN:Nat→Bool) (a b:Int) (i tn:Nat):St :=
  ⟨[grG g nb N,pebO N m 0,.p (.int .i64 a),.p (.int .i64 b),.pt 2 3 0 0,.pt 3 4 0 0,.p .any,.p .any,.pt 3 5 0 0,.p .any,.ar 1 6 0 N,.p .any,.ar 1 8 0 tn,.ar 1 7 0 N,.p (.int .i64 i)]++List.replicate 91 anyA,
   [(0,iOb N F),(1,iOb m T),(2,iOb m Q),(3,bxG g nb N),(4,bxP N m 0),(5,bx0),(6,iOb N FR),(7,bOb N SN),(8,iOb tn td)],9⟩
def SF2 (g:Nat→T_Bar) (nb N m:Nat) (F T Q td FR:Nat→Int) (SN:Nat→Bool) (a b v:Int) (i j tn:Nat):St :=
  ⟨[grG g nb N,pebO N m 0,.p (.int .i64 a),.p (.int .i64 b),.pt 2 3 0 0,.pt 3 4 0 0,.p .any,.p .any,.pt 3 5 0 0,.p .any,.ar 1 6 0 N,.p .any,.ar 1 8 0 tn,.ar 1 7 0 N,.p (.int .i64 i),.p (.int .i64 v),.p (.int .i64 j)]++List.replicate 89 anyA,
   [(0,iOb N F),(1,iOb m T),(2,iOb m Q),(3,bxG g nb N),(4,bxP N m 0),(5,bx0),(6,iOb N FR),(7,bOb N SN),(8,iOb tn td)],9⟩
def SF3 (g:Nat→T_Bar) (nb N m:Nat) (F T Q FR:Nat→Int) (a b u:Int):St :=
  ⟨[grG g nb N,pebO N m 0,.p (.int .i64 a),.p (.int .i64 b),.pt 2 3 0 0,.pt 3 4 0 0,.p .any,.p .any,.pt 3 5 0 0,.p .any,.ar 1 6 0 N,.p .any,.p .any,.p .any,.p .any,.p .any,.p .any,.p (.int .i64 u)]++List.replicate 88 anyA,
   [(0,iOb N F),(1,iOb m T),(2,iOb m Q),(3,bxG g nb N),(4,bxP N m 0),(5,bx0),(6,iOb N FR)],7⟩
def pebR3 (N m:Nat) (F T Q F' T' Q':Nat→Int):Hp:=[(0,iOb N F),(1,iOb m T),(2,iOb m Q),(3,iOb N F'),(4,iOb m T'),(5,iOb m Q')]
theorem qOt (x:T_Bar) (v:Int) :
    zS Tryz.f231 [rg 2,rg 8] [brA x,.p (.int .i64 v)] [] [] (.p (.int .i64 (x.1+x.2.1 - v))) =
    some [(NT 0 1),(NT 0 1),(ZLo (x.1+x.2.1)),(ZHi (x.1+x.2.1)),(ZLo (x.1+x.2.1 - v)),(ZHi (x.1+x.2.1 - v)),(AI ((x.1+x.2.1 - v)))]:=by kernel_rfl
theorem qCp (N m:Nat) (F T Q:Nat→Int) :
    zS Tryz.f207 [rg 2,rg 14] [pebD N m F T Q] [160,288,416] (pebR N m F T Q) (pebO N m 0) =
    some (zD [(NT 0 1),(NL 0 0),(NL ((0+N)*8) 140737488355328),(NL (0+N) 9223372036854775807),(NL ((0+m)*8) 140737488355328),(NL (0+m) 9223372036854775807),((true=true)→ (AN 1)),(AN 0),(((0+N):Nat)=N),(((0+m):Nat)=m),(AN 1),(NL N (0+N)),(AA N (fun i=>[.p (.int .i64 (F i))])),(NL m (0+m)),(AA m (fun i=>[.p (.int .i64 (T i))])),(AA m (fun i=>[.p (.int .i64 (Q i))])),(AE N),(AE m)] [0,1,2,3,0,1,4,5,0,1,4,5,0,6,0,7,8,7,9,7,9,10,11,12,10,13,14,10,13,15,16,17,17]):=by kernel_rfl
theorem qSz (g:Nat→T_Bar) (nb N m:Nat) (F T Q FR:Nat→Int) (a u:Int) :
    zT Tryz.f232 [rg 3,rm [(1,oc (pebR N m F T Q) (pebO N m 0))] 2,rg 11,.head] [grG g nb N,pebD N m F T Q,inD N FR,.p (.int .i64 a),.p (.int .i64 u)] [0,32,64,160,128,129,130] (SSc g nb N m F T Q FR (fun s=>if s=u.toNat then F s - 1 else F s) T a u) =
    some ([.code (cAt (bodyOf Tryz.f232) [1,1,1,0]),.code (cAt (bodyOf Tryz.f232) [1,1,1,1])],zD [(NT 0 1),zE 207 [(zf56 N F m T Q)] (zf38 N F m T Q) (.agg [.ar 1 0 0 N,.ar 1 1 0 m,.ar 1 2 0 m]),((true=true)→ (AN 1)),(IL 0 u),(IT u (↑N:Int)),(NT u.toNat N),(ZLo (F u.toNat - 1)),(ZHi (F u.toNat - 1)),((false=true)→ ((N:Nat)=1)),(AI ((↑N:Int))),(AN nb),(AP nb (bRw g)),(AN N),(AP N (fun i=>[.int .i64 (F i)])),(AN m),(AP m (fun i=>[.int .i64 (T i)])),(AP m (fun i=>[.int .i64 (Q i)])),(AP N (fun i=>[.int .i64 (FR i)])),(AI a),(AI u),(AN 0),((([AV.p (PV.int IntKind.i64 (↑N:Int)),brL g nb].length):Nat)=2),(NL 1 1),((([inD N F,inD m T,inD m Q].length):Nat)=3),((((List.map (fun v=>AV.p (absV v)) [Value.slice none 0 0,Value.slice none 0 0,Value.slice none 0 0]).length):Nat)=3),(AN 1),(NL N N),(CV [(128,⟨false,1,N,(fun i_1=>(if (i_1=u.toNat) then [.p (.int .i64 (F u.toNat - 1))] else [.p (.int .i64 (F i_1))]))⟩),(160,⟨true,3,1,(fun i_1=>[.ar 1 128 0 N,.ar 1 129 0 m,.ar 1 130 0 m])⟩),(130,⟨false,1,m,(fun i_1=>[.p (.int .i64 (Q i_1))])⟩),(129,⟨false,1,m,(fun i_1=>[.p (.int .i64 (T i_1))])⟩),(64,⟨true,3,1,(fun i_1=>[.p (.nil),.p (.nil),.p (.nil)])⟩),(32,⟨true,3,1,(fun i_1=>[.p (.seq true 1 N (fun i_2=>[.int .i64 (F i_2)])),.p (.seq true 1 m (fun i_2=>[.int .i64 (T i_2)])),.p (.seq true 1 m (fun i_2=>[.int .i64 (Q i_2)]))])⟩),(0,⟨true,2,1,(fun i_1=>[.p (.int .i64 (↑N:Int)),.p (.seq true 2 nb (bRw g))])⟩)] [0,32,64,160,128,129,130] 1 N (fun i=>if (i=u.toNat) then [.p (.int .i64 (F u.toNat - 1))] else [.p (.int .i64 (F i))]) (fun i=>[.p (.int .i64 (if i=u.toNat then F i - 1 else F i))])),(NL m m),(AA m (fun i=>[.p (.int .i64 (T i))])),(AA m (fun i=>[.p (.int .i64 (Q i))]))] [0,1,0,2,0,0,3,4,5,6,7,3,4,5,8,9,10,11,12,13,14,15,14,16,12,17,18,19,20,20,20,20,21,22,22,9,10,11,23,22,22,12,13,14,15,14,16,24,22,22,24,22,22,20,12,20,14,20,14,25,26,27,25,28,29,25,28,30]):=by kernel_rfl
theorem qSa (g:Nat→T_Bar) (nb N m:Nat) (F T Q FR F1 T1:Nat→Int) (a u:Int) :
    zM 0 [rg 11,rg 2,.head] [.code (cAt (bodyOf Tryz.f232) [1,1,1,0]),.code (cAt (bodyOf Tryz.f232) [1,1,1,1])] (SSc g nb N m F T Q FR F1 T1 a u) [0,1,2,3,4,5,6] 1 (SSl g nb N m F T Q FR (fun s=>if s=a.toNat then F1 s+1 else F1 s) T1 a u u) =
    some (zf32,zD [(NT 0 1),(IL 0 a),(IT a (↑N:Int)),(NT a.toNat N),(ZLo (F1 a.toNat+1)),(ZHi (F1 a.toNat+1)),((false=true)→ ((N:Nat)=1)),(AI ((↑N:Int))),(AN nb),(AP nb (bRw g)),(AN N),(AP N (fun i=>[.int .i64 (F i)])),(AN m),(AP m (fun i=>[.int .i64 (T i)])),(AP m (fun i=>[.int .i64 (Q i)])),(AP N (fun i=>[.int .i64 (FR i)])),(AI a),(AI u),(AN 0),(AN 2),(NL 1 1),(AN 3),(AN 1),(NL N N),(CV [(4,⟨false,1,N,(fun i_1=>(if (i_1=a.toNat) then [.p (.int .i64 (F1 a.toNat+1))] else [.p (.int .i64 (F1 i_1))]))⟩),(0,⟨true,2,1,(fun i_1=>[.p (.int .i64 (↑N:Int)),.p (.seq true 2 nb (bRw g))])⟩),(1,⟨true,3,1,(fun i_1=>[.p (.seq true 1 N (fun i_2=>[.int .i64 (F i_2)])),.p (.seq true 1 m (fun i_2=>[.int .i64 (T i_2)])),.p (.seq true 1 m (fun i_2=>[.int .i64 (Q i_2)]))])⟩),(2,⟨true,3,1,(fun i_1=>[.p (.nil),.p (.nil),.p (.nil)])⟩),(3,⟨true,3,1,(fun i_1=>[.ar 1 4 0 N,.ar 1 5 0 m,.ar 1 6 0 m])⟩),(5,⟨false,1,m,(fun i_1=>[.p (.int .i64 (T1 i_1))])⟩),(6,⟨false,1,m,(fun i_1=>[.p (.int .i64 (Q i_1))])⟩)] [0,1,2,3,4,5,6] 1 N (fun i=>if (i=a.toNat) then [.p (.int .i64 (F1 a.toNat+1))] else [.p (.int .i64 (F1 i))]) (fun i=>[.p (.int .i64 (if i=a.toNat then F1 i+1 else F1 i))])),(NL m m),(AA m (fun i=>[.p (.int .i64 (T1 i))])),(AA m (fun i=>[.p (.int .i64 (Q i))]))] [0,0,1,2,3,4,5,1,2,3,6,7,8,9,10,11,12,13,12,14,10,15,16,17,18,18,18,18,17,19,20,20,7,8,9,21,20,20,10,11,12,13,12,14,21,20,20,21,20,20,18,10,18,12,18,12,22,23,24,22,25,26,22,25,27]):=by kernel_rfl
theorem qSl (g:Nat→T_Bar) (nb N m:Nat) (F T Q FR F1 T1:Nat→Int) (a u at' w:Int) :
    zM 0 [rg 3,.dec true,rg 5,rm [(10,oc [] (.p (.int .i64 w)))] 1,rg 6,rg 2,.head] zf32 (SSl g nb N m F T Q FR F1 T1 a u at') [0,1,2,3,4,5,6] 1 (SSl g nb N m F T Q FR F1 (fun s=>if s=(FR at'.toNat).toNat then at' else T1 s) a u w) =
    some (zf32,zD [((at' != a)=true),(IL 0 (at')),(IT (at') (↑N:Int)),(NT 0 1),(IL 0 (FR at'.toNat)),(IT (FR at'.toNat) (↑m:Int)),(IL 0 (Q (FR at'.toNat).toNat)),(IT (Q (FR at'.toNat).toNat) (↑nb:Int)),zE 231 [.agg [.p (.int .i64 ((g (Q (FR at'.toNat).toNat).toNat).1)),.p (.int .i64 ((g (Q (FR at'.toNat).toNat).toNat).2.1))],.p (.int .i64 at')] [] (.p (.int .i64 w)),(NT ((FR at'.toNat).toNat) m),((false=true)→ ((m:Nat)=1)),(AI ((↑N:Int))),(AN nb),(AP nb (bRw g)),(AN N),(AP N (fun i=>[.int .i64 (F i)])),(AN m),(AP m (fun i=>[.int .i64 (T i)])),(AP m (fun i=>[.int .i64 (Q i)])),(AP N (fun i=>[.int .i64 (FR i)])),(AI a),(AI u),(AN 0),(AI w),(AN 2),(NL 1 1),(AN 3),(AN 1),(NL N N),(AA N (fun i=>[.p (.int .i64 (F1 i))])),(NL m m),(CV [(5,⟨false,1,m,(fun i_1=>(if (i_1=(FR at'.toNat).toNat) then [.p (.int .i64 at')] else [.p (.int .i64 (T1 i_1))]))⟩),(0,⟨true,2,1,(fun i_1=>[.p (.int .i64 (↑N:Int)),.p (.seq true 2 nb (bRw g))])⟩),(1,⟨true,3,1,(fun i_1=>[.p (.seq true 1 N (fun i_2=>[.int .i64 (F i_2)])),.p (.seq true 1 m (fun i_2=>[.int .i64 (T i_2)])),.p (.seq true 1 m (fun i_2=>[.int .i64 (Q i_2)]))])⟩),(2,⟨true,3,1,(fun i_1=>[.p (.nil),.p (.nil),.p (.nil)])⟩),(3,⟨true,3,1,(fun i_1=>[.ar 1 4 0 N,.ar 1 5 0 m,.ar 1 6 0 m])⟩),(4,⟨false,1,N,(fun i_1=>[.p (.int .i64 (F1 i_1))])⟩),(6,⟨false,1,m,(fun i_1=>[.p (.int .i64 (Q i_1))])⟩)] [0,1,2,3,4,5,6] 1 m (fun i=>if (i=(FR at'.toNat).toNat) then [.p (.int .i64 at')] else [.p (.int .i64 (T1 i))]) (fun i=>[.p (.int .i64 (if i=(FR at'.toNat).toNat then at' else T1 i))])),(AA m (fun i=>[.p (.int .i64 (Q i))]))] [0,1,2,3,3,4,5,6,7,8,3,4,5,9,10,11,12,13,14,15,16,17,16,18,14,19,20,21,22,22,22,22,23,24,25,25,11,12,13,26,25,25,14,15,16,17,16,18,26,25,25,26,25,25,22,14,22,16,22,16,27,28,29,27,30,31,27,30,32]):=by kernel_rfl
theorem qSe (g:Nat→T_Bar) (nb N m:Nat) (F T Q FR F1 T1:Nat→Int) (a u at':Int) :
    zP Tryz.f232 0 [rg 3,.dec false,rg 2] zf32 (SSl g nb N m F T Q FR F1 T1 a u at') [4,5,6] 1 (pebR N m F1 T1 Q) (pebO N m 0) =
    some (zD [((at' != a)=false),(NT 0 1),((true=true)→ (AN 1)),(AN 0),(AN N),(AN m),(AN 1),(NL N N),(AA N (fun i=>[.p (.int .i64 (F1 i))])),(NL m m),(AA m (fun i=>[.p (.int .i64 (T1 i))])),(AA m (fun i=>[.p (.int .i64 (Q i))])),(AE N),(AE m)] [0,1,1,2,1,3,4,3,5,3,5,6,7,8,6,9,10,6,9,11,12,13,13]):=by kernel_rfl
theorem qFz (g:Nat→T_Bar) (nb N m:Nat) (F T Q:Nat→Int) (a b:Int) :
    zM 3 [rg 4,rg 4,rg 1,.head] [.code (bodyOf Tryz.f222)] (start Tryz.f222 (pebR N m F T Q) 3 [grG g nb N,pebO N m 0,.p (.int .i64 a),.p (.int .i64 b)]) [0,1,2,3,35,67,195] 1 (SF0 g nb N m F T Q a b 0) =
    some (zf57,zD [(NT 0 1),(IL 0 (↑N:Int)),(IL (↑N:Int) (↑N:Int)),(IL ((↑N:Int)*(↑8:Int)) 281474976710656),(ZHi (↑N:Int)),(AI ((↑N:Int))),(AN nb),(AP nb (bRw g)),(AN 0),(AN N),(AN m),(AI a),(AI b),((0:Int)=(↑0:Int)),(AN 1),(NL N N),(AA N (fun i=>[.p (.int .i64 (F i))])),(NL m m),(AA m (fun i=>[.p (.int .i64 (T i))])),(AA m (fun i=>[.p (.int .i64 (Q i))])),((([AV.p (PV.int IntKind.i64 (↑N:Int)),brL g nb].length):Nat)=2),(NL 1 1),((([AV.ar 1 (Id.mk 0 none) 0 N,AV.ar 1 (Id.mk 1 none) 0 m,AV.ar 1 (Id.mk 2 none) 0 m].length):Nat)=3),((((List.map (fun v=>AV.p (absV v)) [Value.slice none 0 0,Value.slice none 0 0,Value.slice none 0 0]).length):Nat)=3),(∀ i:Nat,(((i:Nat)<N)→(All []∧(([.p (.int .i64 0)]:List AV)=[.p (.int .i64 (if i<0 then -1 else 0))]))))] [0,1,2,3,4,5,6,7,8,9,8,10,8,10,11,12,8,8,8,8,9,13,14,15,16,14,17,18,14,17,19,20,21,21,5,6,7,22,21,21,8,9,8,10,8,10,23,21,21,14,15,24]):=by kernel_rfl
theorem qF0 (g:Nat→T_Bar) (nb N m:Nat) (F T Q:Nat→Int) (a b:Int) (i:Nat) :
    zM 3 [rg 4,.dec true,rg 4,rg 3,.head] zf57 (SF0 g nb N m F T Q a b i) [0,1,2,3,4,5,6] 1 (SF0 g nb N m F T Q a b (i+1)) =
    some (zf57,zD [(NT 0 1),((decide ((↑i:Int)<(↑N:Int)))=true),(IL 0 (↑i:Int)),(IT (↑i:Int) (↑N:Int)),(NT i N),((false=true)→ ((N:Nat)=1)),(ZLo ((↑i:Int)+1)),(ZHi ((↑i:Int)+1)),(AI ((↑N:Int))),(AN nb),(AP nb (bRw g)),(AN 0),(AN N),(AN m),(AI a),(AI b),((((↑i:Int)+1):Int)=(↑(i+1):Int)),(AN 1),(NL N N),(AA N (fun i_1=>[.p (.int .i64 (F i_1))])),(NL m m),(AA m (fun i_1=>[.p (.int .i64 (T i_1))])),(AA m (fun i_1=>[.p (.int .i64 (Q i_1))])),(AN 2),(NL 1 1),(AN 3),(CV [(6,⟨false,1,N,(fun i_2=>(if (i_2=i) then [.p (.int .i64 (-1))] else [.p (.int .i64 (if i_2<i then -1 else 0))]))⟩),(0,⟨false,1,N,(fun i_2=>[.p (.int .i64 (F i_2))])⟩),(1,⟨false,1,m,(fun i_2=>[.p (.int .i64 (T i_2))])⟩),(2,⟨false,1,m,(fun i_2=>[.p (.int .i64 (Q i_2))])⟩),(3,⟨true,2,1,(fun i_2=>[.p (.int .i64 (↑N:Int)),.p (.seq true 2 nb (bRw g))])⟩),(4,⟨true,3,1,(fun i_2=>[.ar 1 0 0 N,.ar 1 1 0 m,.ar 1 2 0 m])⟩),(5,⟨true,3,1,(fun i_2=>[.p (.nil),.p (.nil),.p (.nil)])⟩)] [0,1,2,3,4,5,6] 1 N (fun i_1=>if (i_1=i) then [.p (.int .i64 (-1))] else [.p (.int .i64 (if i_1<i then -1 else 0))]) (fun i_1=>[.p (.int .i64 (if i_1<i+1 then -1 else 0))]))] [0,1,2,3,4,5,6,7,8,9,10,11,12,11,13,11,13,14,15,11,11,11,11,12,16,17,18,19,17,20,21,17,20,22,23,24,24,8,9,10,25,24,24,11,12,11,13,11,13,25,24,24,17,18,26]):=by kernel_rfl
theorem qF01 (g:Nat→T_Bar) (nb N m:Nat) (F T Q:Nat→Int) (a b:Int) (i:Nat) :
    zM 3 [rg 4,.dec false,rg 3,rg 4,rg 4,rg 1,.head] zf57 (SF0 g nb N m F T Q a b i) [0,1,2,3,4,5,6,295,167] 1 (SF1 g nb N m F T Q (fun _=>a) (fun _=>-1) (fun s=>if s=a.toNat then true else false) a b 0 1) =
    some (zf24,zD [(NT 0 1),((decide ((↑i:Int)<(↑N:Int)))=false),(IL 0 (↑N:Int)),(IL (↑N:Int) (↑N:Int)),(IL ((↑N:Int)*(↑1:Int)) 281474976710656),(ZHi (↑N:Int)),(IL 0 a),(IT a (↑N:Int)),(NT a.toNat N),((false=true)→ ((N:Nat)=1)),(AI ((↑N:Int))),(AN nb),(AP nb (bRw g)),(AN 0),(AN N),(AN m),(AI a),(AI b),(AN 1),((0:Int)=(↑0:Int)),(NL N N),(AA N (fun i_1=>[.p (.int .i64 (F i_1))])),(NL m m),(AA m (fun i_1=>[.p (.int .i64 (T i_1))])),(AA m (fun i_1=>[.p (.int .i64 (Q i_1))])),(AN 2),(NL 1 1),(AN 3),(∀ i_1:Nat,(((i_1:Nat)<N)→(All []∧(([.p (.int .i64 (if i_1<i then -1 else 0))]:List AV)=[.p (.int .i64 (-1))])))),(CV [(295,⟨false,1,N,(fun i_2=>(if (i_2=a.toNat) then [.p (.bool true)] else [.p (.bool false)]))⟩),(167,⟨false,1,1,(fun i_2=>[.p (.int .i64 a)])⟩),(0,⟨false,1,N,(fun i_2=>[.p (.int .i64 (F i_2))])⟩),(1,⟨false,1,m,(fun i_2=>[.p (.int .i64 (T i_2))])⟩),(2,⟨false,1,m,(fun i_2=>[.p (.int .i64 (Q i_2))])⟩),(3,⟨true,2,1,(fun i_2=>[.p (.int .i64 (↑N:Int)),.p (.seq true 2 nb (bRw g))])⟩),(4,⟨true,3,1,(fun i_2=>[.ar 1 0 0 N,.ar 1 1 0 m,.ar 1 2 0 m])⟩),(5,⟨true,3,1,(fun i_2=>[.p (.nil),.p (.nil),.p (.nil)])⟩),(6,⟨false,1,N,(fun i_2=>[.p (.int .i64 (if i_2<i then -1 else 0))])⟩)] [0,1,2,3,4,5,6,295,167] 1 N (fun i_1=>if (i_1=a.toNat) then [.p (.bool true)] else [.p (.bool false)]) (fun i_1=>[.p (.bool (if i_1=a.toNat then true else false))])),(AA 1 (fun i_1=>[.p (.int .i64 a)]))] [0,1,0,2,3,4,5,6,7,8,9,10,11,12,13,14,13,15,13,15,16,17,13,13,13,13,14,13,18,13,14,19,18,20,21,18,22,23,18,22,24,25,26,26,10,11,12,27,26,26,13,14,13,15,13,15,27,26,26,18,20,28,18,20,29,18,26,30]):=by kernel_rfl
theorem qF1 (g:Nat→T_Bar) (nb N m:Nat) (F T Q td FR:Nat→Int) (SN:Nat→Bool) (a b:Int) (i tn:Nat) :
    zM 3 [rg 4,.dec true,rg 5,rg 1,.head] zf24 (SF1 g nb N m F T Q td FR SN a b i tn) [0,1,2,3,4,5,6,7,8] 1 (SF2 g nb N m F T Q td FR SN a b (td i) i 0 tn) =
    some (zf6,zD [((decide ((↑i:Int)<(↑tn:Int)))=true),(IL 0 (↑i:Int)),(IT (↑i:Int) (↑tn:Int)),(NT i tn),(AI ((↑N:Int))),(AN nb),(AP nb (bRw g)),(AN 0),(AN N),(AN m),(AI a),(AI b),(AN tn),(AI ((↑i:Int))),(AI ((td i))),((0:Int)=(↑0:Int)),(AN 1),(NL N N),(AA N (fun i_1=>[.p (.int .i64 (F i_1))])),(NL m m),(AA m (fun i_1=>[.p (.int .i64 (T i_1))])),(AA m (fun i_1=>[.p (.int .i64 (Q i_1))])),(AN 2),(NL 1 1),(AN 3),(AA N (fun i_1=>[.p (.int .i64 (FR i_1))])),(AA N (fun i_1=>[.p (.bool (SN i_1))])),(NL tn tn),(AA tn (fun i_1=>[.p (.int .i64 (td i_1))]))] [0,1,2,3,4,5,6,7,8,7,9,7,9,10,11,7,7,7,7,8,7,12,7,8,13,14,15,16,17,18,16,19,20,16,19,21,22,23,23,4,5,6,24,23,23,7,8,7,9,7,9,24,23,23,16,17,25,16,17,26,16,27,28]):=by kernel_rfl
theorem qF1e (g:Nat→T_Bar) (nb N m:Nat) (F T Q td FR:Nat→Int) (SN:Nat→Bool) (a b:Int) (i tn:Nat) :
    zP Tryz.f222 3 [rg 4,.dec false,rg 3] zf24 (SF1 g nb N m F T Q td FR SN a b i tn) [0,1,2] 1 (pebR N m F T Q) (.tup [pebO N m 0,.p (.bool false)]) =
    some (zD [((decide ((↑i:Int)<(↑tn:Int)))=false),(NT 0 1),((true=true)→ (AN 1)),(AN 0),(AN N),(AN m),(false=false),(AN 1),(NL N N),(AA N (fun i_1=>[.p (.int .i64 (F i_1))])),(NL m m),(AA m (fun i_1=>[.p (.int .i64 (T i_1))])),(AA m (fun i_1=>[.p (.int .i64 (Q i_1))])),(AE N),(AE m)] [0,1,1,2,1,3,4,3,5,3,5,6,7,8,9,7,10,11,7,10,12,13,14,14]):=by kernel_rfl
theorem qF2e (g:Nat→T_Bar) (nb N m:Nat) (F T Q td FR:Nat→Int) (SN:Nat→Bool) (a b v:Int) (i j tn:Nat) :
    zM 3 [rg 5,.dec false,rg 3,.head] zf6 (SF2 g nb N m F T Q td FR SN a b v i j tn) [0,1,2,3,4,5,6,7,8] 1 (SF1 g nb N m F T Q td FR SN a b (i+1) tn) =
    some (zf24,zD [(NT 0 1),((decide ((↑j:Int)<(↑m:Int)))=false),(ZLo ((↑i:Int)+1)),(ZHi ((↑i:Int)+1)),(AI ((↑N:Int))),(AN nb),(AP nb (bRw g)),(AN 0),(AN N),(AN m),(AI a),(AI b),(AN tn),((((↑i:Int)+1):Int)=(↑(i+1):Int)),(AN 1),(NL N N),(AA N (fun i_1=>[.p (.int .i64 (F i_1))])),(NL m m),(AA m (fun i_1=>[.p (.int .i64 (T i_1))])),(AA m (fun i_1=>[.p (.int .i64 (Q i_1))])),(AN 2),(NL 1 1),(AN 3),(AA N (fun i_1=>[.p (.int .i64 (FR i_1))])),(AA N (fun i_1=>[.p (.bool (SN i_1))])),(NL tn tn),(AA tn (fun i_1=>[.p (.int .i64 (td i_1))]))] [0,1,2,3,4,5,6,7,8,7,9,7,9,10,11,7,7,7,7,8,7,12,7,8,13,14,15,16,14,17,18,14,17,19,20,21,21,4,5,6,22,21,21,7,8,7,9,7,9,22,21,21,14,15,23,14,15,24,14,25,26]):=by kernel_rfl
theorem qF2a (g:Nat→T_Bar) (nb N m:Nat) (F T Q td FR:Nat→Int) (SN:Nat→Bool) (a b v:Int) (i j tn:Nat) :
    zM 3 [rg 5,.dec true,rg 7,.dec true,rg 3,.head] zf6 (SF2 g nb N m F T Q td FR SN a b v i j tn) [0,1,2,3,4,5,6,7,8] 1 (SF2 g nb N m F T Q td FR SN a b v i (j+1) tn) =
    some (zf6,zD [(NT 0 1),((decide ((↑j:Int)<(↑m:Int)))=true),(IL 0 (↑j:Int)),(IT (↑j:Int) (↑m:Int)),(NT j m),((T j != v)=true),(ZLo ((↑j:Int)+1)),(ZHi ((↑j:Int)+1)),(AI ((↑N:Int))),(AN nb),(AP nb (bRw g)),(AN 0),(AN N),(AN m),(AI a),(AI b),(AN tn),(AI ((↑i:Int))),(AI v),((((↑j:Int)+1):Int)=(↑(j+1):Int)),(AN 1),(NL N N),(AA N (fun i_1=>[.p (.int .i64 (F i_1))])),(NL m m),(AA m (fun i_1=>[.p (.int .i64 (T i_1))])),(AA m (fun i_1=>[.p (.int .i64 (Q i_1))])),(AN 2),(NL 1 1),(AN 3),(AA N (fun i_1=>[.p (.int .i64 (FR i_1))])),(AA N (fun i_1=>[.p (.bool (SN i_1))])),(NL tn tn),(AA tn (fun i_1=>[.p (.int .i64 (td i_1))]))] [0,1,0,2,3,4,5,6,7,8,9,10,11,12,11,13,11,13,14,15,11,11,11,11,12,11,16,11,12,17,18,19,20,21,22,20,23,24,20,23,25,26,27,27,8,9,10,28,27,27,11,12,11,13,11,13,28,27,27,20,21,29,20,21,30,20,31,32]):=by kernel_rfl
theorem qF2b (g:Nat→T_Bar) (nb N m:Nat) (F T Q td FR:Nat→Int) (SN:Nat→Bool) (a b v u:Int) (i j tn:Nat) :
    zM 3 [rg 5,.dec true,rg 7,.dec false,rm [(10,oc [] (.p (.int .i64 u)))] 1,rg 4,.dec true,rg 3,.head] zf6 (SF2 g nb N m F T Q td FR SN a b v i j tn) [0,1,2,3,4,5,6,7,8] 1 (SF2 g nb N m F T Q td FR SN a b v i (j+1) tn) =
    some (zf6,zD [(NT 0 1),((decide ((↑j:Int)<(↑m:Int)))=true),(IL 0 (↑j:Int)),(IT (↑j:Int) (↑m:Int)),(NT j m),((T j != v)=false),(IL 0 (Q j)),(IT (Q j) (↑nb:Int)),zE 231 [(zf114 g Q j),.p (.int .i64 v)] [] (.p (.int .i64 u)),(IL 0 u),(IT u (↑N:Int)),(NT u.toNat N),((SN u.toNat)=true),(ZLo ((↑j:Int)+1)),(ZHi ((↑j:Int)+1)),(AI ((↑N:Int))),(AN nb),(AP nb (bRw g)),(AN 0),(AN N),(AN m),(AI a),(AI b),(AN tn),(AI ((↑i:Int))),(AI v),((((↑j:Int)+1):Int)=(↑(j+1):Int)),(AN 1),(NL N N),(AA N (fun i_1=>[.p (.int .i64 (F i_1))])),(NL m m),(AA m (fun i_1=>[.p (.int .i64 (T i_1))])),(AA m (fun i_1=>[.p (.int .i64 (Q i_1))])),(AN 2),(NL 1 1),(AN 3),(AA N (fun i_1=>[.p (.int .i64 (FR i_1))])),(AA N (fun i_1=>[.p (.bool (SN i_1))])),(NL tn tn),(AA tn (fun i_1=>[.p (.int .i64 (td i_1))]))] [0,1,0,2,3,4,5,0,0,2,3,4,6,7,8,9,10,11,12,13,14,15,16,17,18,19,18,20,18,20,21,22,18,18,18,18,19,18,23,18,19,24,25,26,27,28,29,27,30,31,27,30,32,33,34,34,15,16,17,35,34,34,18,19,18,20,18,20,35,34,34,27,28,36,27,28,37,27,38,39]):=by kernel_rfl
theorem qF2c (g:Nat→T_Bar) (nb N m:Nat) (F T Q td FR:Nat→Int) (SN:Nat→Bool) (a b v u:Int) (i j tn:Nat) :
    zM 3 [rg 5,.dec true,rg 7,.dec false,rm [(10,oc [] (.p (.int .i64 u)))] 1,rg 4,.dec false,rg 4,rg 5,rg 11,.dec false,rg 5,rg 3,.head] zf6 (SF2 g nb N m F T Q td FR SN a b v i j tn) [0,1,2,3,4,5,6,7,1641] 1 (SF2 g nb N m F T Q (fun s=>if s<tn then td s else u) (fun s=>if s=u.toNat then j else FR s) (fun s=>if s=u.toNat then true else SN s) a b v i (j+1) (tn+1)) =
    some (zf6,zD [(NT 0 1),((decide ((↑j:Int)<(↑m:Int)))=true),(IL 0 (↑j:Int)),(IT (↑j:Int) (↑m:Int)),(NT j m),((T j != v)=false),(IL 0 (Q j)),(IT (Q j) (↑nb:Int)),zE 231 [(zf114 g Q j),.p (.int .i64 v)] [] (.p (.int .i64 u)),(IL 0 u),(IT u (↑N:Int)),(NT u.toNat N),((SN u.toNat)=false),((false=true)→ ((N:Nat)=1)),(AG (u != b)),(((u != b)=true)→(NT 0 1)),(((u != b)=true)→(IL 0 u)),(((u != b)=true)→(IT u (↑N:Int))),(((u != b)=true)→(NT u.toNat N)),((bif u != b then decide (F (u.toNat+0)>0) else false)=false),(NL 1 1),(NL tn tn),(NL ((tn+1)*8) 140737488355328),(NL (tn+1) 9223372036854775807),(ZLo ((↑j:Int)+1)),(ZHi ((↑j:Int)+1)),(AI ((↑N:Int))),(AN nb),(AP nb (bRw g)),(AN 0),(AN N),(AN m),(AI a),(AI b),(AN ((tn+1))),(AI ((↑i:Int))),(AI v),((((↑j:Int)+1):Int)=(↑(j+1):Int)),(AN 1),(NL N N),(AA N (fun i_1=>[.p (.int .i64 (F i_1))])),(NL m m),(AA m (fun i_1=>[.p (.int .i64 (T i_1))])),(AA m (fun i_1=>[.p (.int .i64 (Q i_1))])),(AN 2),(AN 3),(CV [(1641,⟨false,1,(tn+1),(fun i_2=>(if (i_2<tn) then [.p (.int .i64 (td i_2))] else [.p (.int .i64 u)]))⟩),(1609,⟨false,1,1,(fun i_2=>[.p (.int .i64 u)])⟩),(6,⟨false,1,N,(fun i_2=>(if (i_2=u.toNat) then [.p (.int .i64 (↑j:Int))] else [.p (.int .i64 (FR i_2))]))⟩),(7,⟨false,1,N,(fun i_2=>(if (i_2=u.toNat) then [.p (.bool true)] else [.p (.bool (SN i_2))]))⟩),(0,⟨false,1,N,(fun i_2=>[.p (.int .i64 (F i_2))])⟩),(1,⟨false,1,m,(fun i_2=>[.p (.int .i64 (T i_2))])⟩),(2,⟨false,1,m,(fun i_2=>[.p (.int .i64 (Q i_2))])⟩),(3,⟨true,2,1,(fun i_2=>[.p (.int .i64 (↑N:Int)),.p (.seq true 2 nb (bRw g))])⟩),(4,⟨true,3,1,(fun i_2=>[.ar 1 0 0 N,.ar 1 1 0 m,.ar 1 2 0 m])⟩),(5,⟨true,3,1,(fun i_2=>[.p (.nil),.p (.nil),.p (.nil)])⟩)] [0,1,2,3,4,5,6,7,1641] 1 N (fun i_1=>if (i_1=u.toNat) then [.p (.int .i64 (↑j:Int))] else [.p (.int .i64 (FR i_1))]) (fun i_1=>[.p (.int .i64 (if i_1=u.toNat then (↑j:Int) else FR i_1))])),(CV [(1641,⟨false,1,(tn+1),(fun i_2=>(if (i_2<tn) then [.p (.int .i64 (td i_2))] else [.p (.int .i64 u)]))⟩),(1609,⟨false,1,1,(fun i_2=>[.p (.int .i64 u)])⟩),(6,⟨false,1,N,(fun i_2=>(if (i_2=u.toNat) then [.p (.int .i64 (↑j:Int))] else [.p (.int .i64 (FR i_2))]))⟩),(7,⟨false,1,N,(fun i_2=>(if (i_2=u.toNat) then [.p (.bool true)] else [.p (.bool (SN i_2))]))⟩),(0,⟨false,1,N,(fun i_2=>[.p (.int .i64 (F i_2))])⟩),(1,⟨false,1,m,(fun i_2=>[.p (.int .i64 (T i_2))])⟩),(2,⟨false,1,m,(fun i_2=>[.p (.int .i64 (Q i_2))])⟩),(3,⟨true,2,1,(fun i_2=>[.p (.int .i64 (↑N:Int)),.p (.seq true 2 nb (bRw g))])⟩),(4,⟨true,3,1,(fun i_2=>[.ar 1 0 0 N,.ar 1 1 0 m,.ar 1 2 0 m])⟩),(5,⟨true,3,1,(fun i_2=>[.p (.nil),.p (.nil),.p (.nil)])⟩)] [0,1,2,3,4,5,6,7,1641] 1 N (fun i_1=>if (i_1=u.toNat) then [.p (.bool true)] else [.p (.bool (SN i_1))]) (fun i_1=>[.p (.bool (if i_1=u.toNat then true else SN i_1))])),(NL (tn+1) (tn+1)),(CV [(1641,⟨false,1,(tn+1),(fun i_2=>(if (i_2<tn) then [.p (.int .i64 (td i_2))] else [.p (.int .i64 u)]))⟩),(1609,⟨false,1,1,(fun i_2=>[.p (.int .i64 u)])⟩),(6,⟨false,1,N,(fun i_2=>(if (i_2=u.toNat) then [.p (.int .i64 (↑j:Int))] else [.p (.int .i64 (FR i_2))]))⟩),(7,⟨false,1,N,(fun i_2=>(if (i_2=u.toNat) then [.p (.bool true)] else [.p (.bool (SN i_2))]))⟩),(0,⟨false,1,N,(fun i_2=>[.p (.int .i64 (F i_2))])⟩),(1,⟨false,1,m,(fun i_2=>[.p (.int .i64 (T i_2))])⟩),(2,⟨false,1,m,(fun i_2=>[.p (.int .i64 (Q i_2))])⟩),(3,⟨true,2,1,(fun i_2=>[.p (.int .i64 (↑N:Int)),.p (.seq true 2 nb (bRw g))])⟩),(4,⟨true,3,1,(fun i_2=>[.ar 1 0 0 N,.ar 1 1 0 m,.ar 1 2 0 m])⟩),(5,⟨true,3,1,(fun i_2=>[.p (.nil),.p (.nil),.p (.nil)])⟩)] [0,1,2,3,4,5,6,7,1641] 1 (tn+1) (fun i_1=>if (i_1<tn) then [.p (.int .i64 (td i_1))] else [.p (.int .i64 u)]) (fun i_1=>[.p (.int .i64 (if i_1<tn then td i_1 else u))]))] [0,1,0,2,3,4,5,0,0,2,3,4,6,7,8,9,10,11,12,9,10,11,13,9,10,11,13,14,15,14,14,16,17,14,18,14,14,19,20,21,22,23,24,25,26,27,28,29,30,29,31,29,31,32,33,29,29,29,29,30,29,34,29,30,35,36,37,38,39,40,38,41,42,38,41,43,44,20,20,26,27,28,45,20,20,29,30,29,31,29,31,45,20,20,38,39,46,38,39,47,38,48,49]):=by kernel_rfl
theorem qF2d (g:Nat→T_Bar) (nb N m:Nat) (F T Q td FR:Nat→Int) (SN:Nat→Bool) (a b v u:Int) (i j tn:Nat) :
    zM 3 [rg 5,.dec true,rg 7,.dec false,rm [(10,oc [] (.p (.int .i64 u)))] 1,rg 4,.dec false,rg 4,rg 5,rg 11,.dec true,.head] zf6 (SF2 g nb N m F T Q td FR SN a b v i j tn) [0,1,2,3,4,5,6] 1 (SF3 g nb N m F T Q (fun s=>if s=u.toNat then j else FR s) a b u) =
    some (zf2,zD [(NT 0 1),((decide ((↑j:Int)<(↑m:Int)))=true),(IL 0 (↑j:Int)),(IT (↑j:Int) (↑m:Int)),(NT j m),((T j != v)=false),(IL 0 (Q j)),(IT (Q j) (↑nb:Int)),zE 231 [(zf114 g Q j),.p (.int .i64 v)] [] (.p (.int .i64 u)),(IL 0 u),(IT u (↑N:Int)),(NT u.toNat N),((SN u.toNat)=false),((false=true)→ ((N:Nat)=1)),(AG (u != b)),(((u != b)=true)→(NT 0 1)),(((u != b)=true)→(IL 0 u)),(((u != b)=true)→(IT u (↑N:Int))),(((u != b)=true)→(NT u.toNat N)),((bif u != b then decide (F (u.toNat+0)>0) else false)=true),(AI ((↑N:Int))),(AN nb),(AP nb (bRw g)),(AN 0),(AN N),(AN m),(AI a),(AI b),(AI u),(AN 1),(NL N N),(AA N (fun i_1=>[.p (.int .i64 (F i_1))])),(NL m m),(AA m (fun i_1=>[.p (.int .i64 (T i_1))])),(AA m (fun i_1=>[.p (.int .i64 (Q i_1))])),(AN 2),(NL 1 1),(AN 3),(CV [(6,⟨false,1,N,(fun i_2=>(if (i_2=u.toNat) then [.p (.int .i64 (↑j:Int))] else [.p (.int .i64 (FR i_2))]))⟩),(7,⟨false,1,N,(fun i_2=>(if (i_2=u.toNat) then [.p (.bool true)] else [.p (.bool (SN i_2))]))⟩),(0,⟨false,1,N,(fun i_2=>[.p (.int .i64 (F i_2))])⟩),(1,⟨false,1,m,(fun i_2=>[.p (.int .i64 (T i_2))])⟩),(2,⟨false,1,m,(fun i_2=>[.p (.int .i64 (Q i_2))])⟩),(3,⟨true,2,1,(fun i_2=>[.p (.int .i64 (↑N:Int)),.p (.seq true 2 nb (bRw g))])⟩),(4,⟨true,3,1,(fun i_2=>[.ar 1 0 0 N,.ar 1 1 0 m,.ar 1 2 0 m])⟩),(5,⟨true,3,1,(fun i_2=>[.p (.nil),.p (.nil),.p (.nil)])⟩),(8,⟨false,1,tn,(fun i_2=>[.p (.int .i64 (td i_2))])⟩)] [0,1,2,3,4,5,6] 1 N (fun i_1=>if (i_1=u.toNat) then [.p (.int .i64 (↑j:Int))] else [.p (.int .i64 (FR i_1))]) (fun i_1=>[.p (.int .i64 (if i_1=u.toNat then (↑j:Int) else FR i_1))]))] [0,1,0,2,3,4,5,0,0,2,3,4,6,7,8,9,10,11,12,9,10,11,13,9,10,11,13,14,15,14,14,16,17,14,18,14,14,19,20,21,22,23,24,23,25,23,25,26,27,23,23,23,23,24,28,29,30,31,29,32,33,29,32,34,35,36,36,20,21,22,37,36,36,23,24,23,25,23,25,37,36,36,29,30,38]):=by kernel_rfl
theorem qF3 (g:Nat→T_Bar) (nb N m:Nat) (F T Q FR F1 T1:Nat→Int) (a b u:Int) :
    zP Tryz.f222 3 [rm [(5,oc (pebR N m F1 T1 Q) (pebO N m 0))] 2] zf2 (SF3 g nb N m F T Q FR a b u) [0,1,2,167,168,169] 1 (pebR3 N m F T Q F1 T1 Q) (.tup [pebO N m 3,.p (.bool true)]) =
    some (zD [(NT 0 1),(AN 1),(NL N N),(NL m m),zE 232 [(zf104 N nb g),(zf56 N F m T Q),.p (.seq true 1 N (fun i=>[.int .i64 (FR i)])),.p (.int .i64 a),.p (.int .i64 u)] (zf38 N F1 m T1 Q) (.agg [.ar 1 0 0 N,.ar 1 1 0 m,.ar 1 2 0 m]),((true=true)→ (AN 1)),(AN 0),(AN N),(AN m),(true=true),(AA N (fun i=>[.p (.int .i64 (F i))])),(AA m (fun i=>[.p (.int .i64 (T i))])),(AA m (fun i=>[.p (.int .i64 (Q i))])),(AA N (fun i=>[.p (.int .i64 (F1 i))])),(AA m (fun i=>[.p (.int .i64 (T1 i))])),(AE N),(AE m)] [0,0,1,2,1,3,1,3,1,2,4,0,5,0,6,7,6,8,6,8,9,1,2,10,1,3,11,1,3,12,1,2,13,1,3,14,1,3,12,15,16,16,15,16,16]):=by kernel_rfl
def brOb (n:Nat) (h:Nat→T_Bar):Ob:=⟨false,2,n,fun i=>[.p (.int .i64 (h i).1),.p (.int .i64 (h i).2.1)]⟩
def bxB (x:T_Bar):Ob:=⟨true,2,1,fun _=>[.p (.int .i64 x.1),.p (.int .i64 x.2.1)]⟩
def SL (g:Nat→T_Bar) (nb N:Nat) (x:T_Bar) (i n:Nat) (pl:Bool) (h:Nat→T_Bar):St :=
  ⟨[grG g nb N,brA x,.pt 2 0 0 0,.pt 2 1 0 0,.pt 2 2 0 0,.pt 2 3 0 0,.p (.bool pl),.p (.int .i64 i)]++List.replicate 48 anyA,
   [(0,bxG g nb N),(1,bxB x),(2,⟨true,2,1,fun _=>[.p (.int .i64 0),.p .nil]⟩),(3,⟨true,2,1,fun _=>[.p (.int .i64 N),.ar 2 4 0 n]⟩),(4,brOb n h)],5⟩
def snoc (n:Nat) (h:Nat→T_Bar) (x:T_Bar) (s:Nat):T_Bar:=(if s<n then (h s).1 else x.1,if s<n then (h s).2.1 else x.2.1,())
abbrev NB:=Nat×(Nat→T_Bar)
def zNB:NB:=(0,fun _=>(0,0,()))
def sn (r:NB) (x:T_Bar):NB:=(r.1+1,snoc r.1 r.2 x)
theorem rLz (g:Nat→T_Bar) (nb N:Nat) (x:T_Bar) :
    zT Tryz.f136 [rg 3,rg 6,rg 1,rg 1,.head] [grG g nb N,brA x] [0,32,64,224,160] (SL g nb N x 0 0 false (fun _=>(0,0,()))) =
    some (zf42,zD [(NT 0 1),((true=true)→ (AN 1)),(AI ((↑N:Int))),(AN nb),(AP nb (bRw g)),(AI x.1),(AI x.2.1),(AN 0),(false=false),((0:Int)=(↑0:Int)),((([AV.p (PV.int IntKind.i64 (↑N:Int)),brL g nb].length):Nat)=2),(NL 1 1),((([AV.p (PV.int IntKind.i64 x.1),AV.p (PV.int IntKind.i64 x.2.1)].length):Nat)=2),((((List.map (fun v=>AV.p (absV v)) [Value.int IntKind.i64 0,Value.slice none 0 0]).length):Nat)=2),(AI 0),(AN 2),(NL 0 0),(AA 0 (fun i=>[.p (.int .i64 0),.p (.int .i64 0)]))] [0,0,1,2,3,4,5,6,7,7,7,7,8,9,10,11,11,2,3,4,12,11,11,5,6,13,11,11,14,13,11,11,2,7,7,15,16,17]):=by kernel_rfl
theorem rLa (g:Nat→T_Bar) (nb N:Nat) (x:T_Bar) (i n:Nat) (pl:Bool) (h:Nat→T_Bar) :
    zM 0 [rg 5,.dec true,rm [(9,oc [] (.p (.bool (aft (g i) x))))] 2,.dec true,rg 7,rg 1,rg 11,rg 3,.head] zf42 (SL g nb N x i n pl h) [0,1,2,3,1061] 1 (SL g nb N x (i+1) (n+1+1) true (snoc (n+1) (snoc n h x) (g i))) =
    some (zf42,zD [(NT 0 1),((decide ((↑i:Int)<(↑nb:Int)))=true),(AG (!pl)),(((!pl)=true)→(NT 0 1)),(((!pl)=true)→(IL 0 (↑i:Int))),(((!pl)=true)→(IT (↑i:Int) (↑nb:Int))),(((!pl)=true)→ zE 176 [.agg [.p (.int .i64 ((g i).1)),.p (.int .i64 ((g i).2.1))],.agg [.p (.int .i64 x.1),.p (.int .i64 x.2.1)]] [] (.p (.bool (aft (g i) x)))),((bif !pl then !aft (g i) x else false)=true),(NL 1 1),(NL n n),(NL ((n+1)*16) 140737488355328),(NL (n+1) 9223372036854775807),((true=true)→ (AN 1)),(IL 0 (↑i:Int)),(IT (↑i:Int) (↑nb:Int)),(NL (n+1) (n+1)),(NL ((n+1+1)*16) 140737488355328),(NL (n+1+1) 9223372036854775807),(ZLo ((↑i:Int)+1)),(ZHi ((↑i:Int)+1)),(AI ((↑N:Int))),(AN nb),(AP nb (bRw g)),(AI x.1),(AI x.2.1),(AN 0),(true=true),((((↑i:Int)+1):Int)=(↑(i+1):Int)),(AN 2),(AI 0),(AN ((n+1+1))),(NL (n+1+1) (n+1+1)),(CV [(3,⟨true,2,1,(fun i_2=>[.p (.int .i64 (↑N:Int)),.ar 2 1061 0 (n+1+1)])⟩),(1061,⟨false,2,(n+1+1),(fun i_2=>(if (i_2<n+1) then (if (i_2<n) then [.p (.int .i64 ((h i_2).1)),.p (.int .i64 ((h i_2).2.1))] else [.p (.int .i64 x.1),.p (.int .i64 x.2.1)]) else [.p (.int .i64 ((g i).1)),.p (.int .i64 ((g i).2.1))]))⟩),(1029,⟨false,2,1,(fun i_2=>[.p (.int .i64 ((g i).1)),.p (.int .i64 ((g i).2.1))])⟩),(645,⟨false,2,1,(fun i_2=>[.p (.int .i64 x.1),.p (.int .i64 x.2.1)])⟩),(0,⟨true,2,1,(fun i_2=>[.p (.int .i64 (↑N:Int)),.p (.seq true 2 nb (bRw g))])⟩),(1,⟨true,2,1,(fun i_2=>[.p (.int .i64 x.1),.p (.int .i64 x.2.1)])⟩),(2,⟨true,2,1,(fun i_2=>[.p (.int .i64 0),.p (.nil)])⟩)] [0,1,2,3,1061] 1 (n+1+1) (fun i_1=>if (i_1<n+1) then (if (i_1<n) then [.p (.int .i64 ((h i_1).1)),.p (.int .i64 ((h i_1).2.1))] else [.p (.int .i64 x.1),.p (.int .i64 x.2.1)]) else [.p (.int .i64 ((g i).1)),.p (.int .i64 ((g i).2.1))]) (fun i_1=>[.p (.int .i64 (if i_1<n+1 then if i_1<n then (h i_1).1 else x.1 else (g i).1)),.p (.int .i64 (if i_1<n+1 then if i_1<n then (h i_1).2.1 else x.2.1 else (g i).2.1))]))] [0,1,2,3,2,2,4,5,2,3,2,2,6,2,2,7,0,0,8,9,10,11,0,12,0,0,13,14,8,15,16,17,0,12,18,19,20,21,22,23,24,25,25,25,25,26,27,28,8,8,20,21,22,28,8,8,23,24,28,8,8,29,28,8,8,20,25,30,28,31,32]):=by kernel_rfl
theorem rLb (g:Nat→T_Bar) (nb N:Nat) (x:T_Bar) (i n:Nat) (pl:Bool) (h:Nat→T_Bar) :
    zM 0 [rg 5,.dec true,rm [(9,oc [] (.p (.bool (aft (g i) x))))] 2,.dec false,rg 11,rg 3,.head] zf42 (SL g nb N x i n pl h) [0,1,2,3,805] 1 (SL g nb N x (i+1) (n+1) pl (snoc n h (g i))) =
    some (zf42,zD [(NT 0 1),((decide ((↑i:Int)<(↑nb:Int)))=true),(AG (!pl)),(((!pl)=true)→(NT 0 1)),(((!pl)=true)→(IL 0 (↑i:Int))),(((!pl)=true)→(IT (↑i:Int) (↑nb:Int))),(((!pl)=true)→ zE 176 [.agg [.p (.int .i64 ((g i).1)),.p (.int .i64 ((g i).2.1))],.agg [.p (.int .i64 x.1),.p (.int .i64 x.2.1)]] [] (.p (.bool (aft (g i) x)))),((bif !pl then !aft (g i) x else false)=false),(IL 0 (↑i:Int)),(IT (↑i:Int) (↑nb:Int)),(NL 1 1),(NL n n),(NL ((n+1)*16) 140737488355328),(NL (n+1) 9223372036854775807),((true=true)→ (AN 1)),(ZLo ((↑i:Int)+1)),(ZHi ((↑i:Int)+1)),(AI ((↑N:Int))),(AN nb),(AP nb (bRw g)),(AI x.1),(AI x.2.1),(AN 0),(pl=pl),((((↑i:Int)+1):Int)=(↑(i+1):Int)),(AN 2),(AI 0),(AN ((n+1))),(NL (n+1) (n+1)),(CV [(3,⟨true,2,1,(fun i_2=>[.p (.int .i64 (↑N:Int)),.ar 2 805 0 (n+1)])⟩),(805,⟨false,2,(n+1),(fun i_2=>(if (i_2<n) then [.p (.int .i64 ((h i_2).1)),.p (.int .i64 ((h i_2).2.1))] else [.p (.int .i64 ((g i).1)),.p (.int .i64 ((g i).2.1))]))⟩),(773,⟨false,2,1,(fun i_2=>[.p (.int .i64 ((g i).1)),.p (.int .i64 ((g i).2.1))])⟩),(0,⟨true,2,1,(fun i_2=>[.p (.int .i64 (↑N:Int)),.p (.seq true 2 nb (bRw g))])⟩),(1,⟨true,2,1,(fun i_2=>[.p (.int .i64 x.1),.p (.int .i64 x.2.1)])⟩),(2,⟨true,2,1,(fun i_2=>[.p (.int .i64 0),.p (.nil)])⟩)] [0,1,2,3,805] 1 (n+1) (fun i_1=>if (i_1<n) then [.p (.int .i64 ((h i_1).1)),.p (.int .i64 ((h i_1).2.1))] else [.p (.int .i64 ((g i).1)),.p (.int .i64 ((g i).2.1))]) (fun i_1=>[.p (.int .i64 (if i_1<n then (h i_1).1 else (g i).1)),.p (.int .i64 (if i_1<n then (h i_1).2.1 else (g i).2.1))]))] [0,1,2,3,2,2,4,5,2,3,2,2,6,2,2,7,0,0,8,9,10,11,12,13,0,14,15,16,17,18,19,20,21,22,22,22,22,23,24,25,10,10,17,18,19,25,10,10,20,21,25,10,10,26,25,10,10,17,22,27,25,28,29]):=by kernel_rfl
theorem rLc (g:Nat→T_Bar) (nb N:Nat) (x:T_Bar) (i n:Nat) (pl:Bool) (h:Nat→T_Bar) :
    zP Tryz.f136 0 [rg 5,.dec false,rg 2,.dec true,rg 7,rg 2] zf42 (SL g nb N x i n pl h) [357] 1 [(0,brOb (n+1) (snoc n h x))] (.agg [.p (.int .i64 N),.ar 2 0 0 (n+1)]) =
    some (zD [(NT 0 1),((decide ((↑i:Int)<(↑nb:Int)))=false),((!pl)=true),(NL 1 1),(NL n n),(NL ((n+1)*16) 140737488355328),(NL (n+1) 9223372036854775807),((true=true)→ (AN 1)),(AI ((↑N:Int))),(AN 0),(AN ((n+1))),(AN 2),(NL (n+1) (n+1)),(CV [(2,⟨true,2,1,(fun i_2=>[.p (.int .i64 (↑N:Int)),.ar 2 357 0 (n+1)])⟩),(3,⟨true,2,1,(fun i_2=>[.p (.int .i64 (↑N:Int)),.ar 2 357 0 (n+1)])⟩),(357,⟨false,2,(n+1),(fun i_2=>(if (i_2<n) then [.p (.int .i64 ((h i_2).1)),.p (.int .i64 ((h i_2).2.1))] else [.p (.int .i64 x.1),.p (.int .i64 x.2.1)]))⟩),(325,⟨false,2,1,(fun i_2=>[.p (.int .i64 x.1),.p (.int .i64 x.2.1)])⟩),(0,⟨true,2,1,(fun i_2=>[.p (.int .i64 (↑N:Int)),.p (.seq true 2 nb (bRw g))])⟩),(1,⟨true,2,1,(fun i_2=>[.p (.int .i64 x.1),.p (.int .i64 x.2.1)])⟩)] [357] 1 (n+1) (fun i_1=>if (i_1<n) then [.p (.int .i64 ((h i_1).1)),.p (.int .i64 ((h i_1).2.1))] else [.p (.int .i64 x.1),.p (.int .i64 x.2.1)]) (fun i_1=>[.p (.int .i64 (if i_1<n then (h i_1).1 else x.1)),.p (.int .i64 (if i_1<n then (h i_1).2.1 else x.2.1))])),(AE ((n+1)))] [0,1,2,0,0,3,4,5,6,0,7,0,0,7,0,8,9,10,11,12,13,14]):=by kernel_rfl
theorem rLd (g:Nat→T_Bar) (nb N:Nat) (x:T_Bar) (i n:Nat) (pl:Bool) (h:Nat→T_Bar) :
    zP Tryz.f136 0 [rg 5,.dec false,rg 2,.dec false,rg 2] zf42 (SL g nb N x i n pl h) [4] 1 [(0,brOb n h)] (.agg [.p (.int .i64 N),.ar 2 0 0 n]) =
    some [(NT 0 1),((decide ((↑i:Int)<(↑nb:Int)))=false),((!pl)=false),(NT 0 1),(NT 0 1),((true=true)→ (AN 1)),(NT 0 1),(AI ((↑N:Int))),(AN 0),(AN n),(AN 2),(NL n n),(AA n (fun i_1=>[.p (.int .i64 ((h i_1).1)),.p (.int .i64 ((h i_1).2.1))])),(AE n)]:=by kernel_rfl
theorem snoc_lt {n:Nat} {h:Nat→T_Bar} {x:T_Bar} {s:Nat} (hs:s<n):snoc n h x s=h s:=by
  simp only [snoc,hs,if_true]
theorem snoc_ge {n:Nat} {h:Nat→T_Bar} {x:T_Bar} {s:Nat} (hs:¬ s<n):snoc n h x s=x:=by
  simp only [snoc,hs,if_false]
theorem snoc_mem (n:Nat) (h:Nat→T_Bar) (x y:T_Bar):(∃ s,s<n+1∧snoc n h x s=y)↔(∃ s,s<n∧h s=y)∨x=y:=by
  constructor
  · rintro ⟨s,h1,h2⟩
    by_cases e:s<n
    · rw [snoc_lt e] at h2;exact .inl ⟨s,e,h2⟩
    · rw [snoc_ge e] at h2;exact .inr h2
  · rintro (⟨s,h1,h2⟩ | h2)
    · exact ⟨s,by omega,by rw [snoc_lt h1];exact h2⟩
    · exact ⟨n,by omega,by rw [snoc_ge (Nat.lt_irrefl n)];exact h2⟩
def insD (g:Nat→T_Bar) (x:T_Bar):Nat→Bool×Nat×(Nat→T_Bar)
  | 0=>(false,0,fun _=>(0,0,()))
  | i+1 =>
    if (bif !(insD g x i).1 then !aft (g i) x else false)=true then (true,(insD g x i).2.1+1+1,snoc ((insD g x i).2.1+1) (snoc (insD g x i).2.1 (insD g x i).2.2 x) (g i))
    else ((insD g x i).1,(insD g x i).2.1+1,snoc (insD g x i).2.1 (insD g x i).2.2 (g i))
def insR (g:Nat→T_Bar) (nb:Nat) (x:T_Bar):Nat×(Nat→T_Bar) :=
  if (insD g x nb).1=true then ((insD g x nb).2.1,(insD g x nb).2.2) else ((insD g x nb).2.1+1,snoc (insD g x nb).2.1 (insD g x nb).2.2 x)
theorem insD_n (g:Nat→T_Bar) (x:T_Bar):∀ i,(insD g x i).2.1=i+(if (insD g x i).1=true then 1 else 0)
  | 0=>rfl
  | i+1=>by
    have ih:=insD_n g x i
    simp only [insD]
    split
    · rename_i h
      have hf:(insD g x i).1=false:=by
        cases e:(insD g x i).1 with
        | false=>rfl
        | true=>rw [e] at h;simp at h
      rw [hf] at ih
      simp only [if_true]
      simp at ih
      omega
    · simp only
      omega
theorem insD_mem (g:Nat→T_Bar) (x y:T_Bar):∀ i,(∃ s,s<(insD g x i).2.1∧(insD g x i).2.2 s=y)↔(∃ s,s<i∧g s=y)∨((insD g x i).1=true∧x=y)
  | 0=>by
    constructor
    · rintro ⟨s,h1,_⟩;exact absurd h1 (Nat.not_lt_zero _)
    · rintro (⟨s,h1,_⟩ | ⟨h1,_⟩)
      · exact absurd h1 (Nat.not_lt_zero _)
      · cases h1
  | i+1=>by
    have ih:=insD_mem g x y i
    have step:(∃ s,s<i+1∧g s=y)↔(∃ s,s<i∧g s=y)∨g i=y:=by
      constructor
      · rintro ⟨s,h1,h2⟩
        by_cases e:s=i
        · right;rw [← e];exact h2
        · exact .inl ⟨s,by omega,h2⟩
      · rintro (⟨s,h1,h2⟩ | h2)
        · exact ⟨s,by omega,h2⟩
        · exact ⟨i,by omega,h2⟩
    simp only [insD]
    split
    · rename_i h
      have hf:(insD g x i).1=false:=by
        cases e:(insD g x i).1 with
        | false=>rfl
        | true=>rw [e] at h;simp at h
      simp only [snoc_mem,ih,step,hf]
      constructor
      · rintro ((( h | ⟨h,_⟩) | h) | h)
        · exact .inl (.inl h)
        · cases h
        · exact .inr ⟨trivial,h⟩
        · exact .inl (.inr h)
      · rintro ((h | h) | ⟨_,h⟩)
        · exact .inl (.inl (.inl h))
        · exact .inr h
        · exact .inl (.inr h)
    · simp only [snoc_mem,ih,step]
      constructor
      · rintro ((h | h) | h)
        · exact .inl (.inl h)
        · exact .inr h
        · exact .inl (.inr h)
      · rintro ((h | h) | h)
        · exact .inl (.inl h)
        · exact .inr h
        · exact .inl (.inr h)
theorem insR_mem (g:Nat→T_Bar) (nb:Nat) (x y:T_Bar):(∃ s,s<(insR g nb x).1∧(insR g nb x).2 s=y)↔(∃ s,s<nb∧g s=y)∨x=y:=by
  have h:=insD_mem g x y nb
  unfold insR
  split
  · rename_i hp
    simp only [h,hp,true_and]
  · rename_i hp
    simp only [snoc_mem,h]
    constructor
    · rintro ((h | ⟨h,_⟩) | h)
      · exact .inl h
      · exact absurd h hp
      · exact .inr h
    · rintro (h | h)
      · exact .inl (.inl h)
      · exact .inr h
theorem insR_n (g:Nat→T_Bar) (nb:Nat) (x:T_Bar):(insR g nb x).1=nb+1:=by
  have h:=insD_n g x nb
  unfold insR
  split
  · rename_i hp;rw [if_pos hp] at h;exact h
  · rename_i hp;rw [if_neg hp] at h;show (insD g x nb).2.1+1=nb+1;omega
theorem con_l2Put (g:Nat→T_Bar) (nb N:Nat) (x:T_Bar) (hnb:nb≤1048576):zE 136 [grG g nb N,brA x] [(0,brOb (insR g nb x).1 (insR g nb x).2)] (.agg [.p (.int .i64 N),.ar 2 0 0 (insR g nb x).1]):=by
  refine csZ Tryz.func136 (fun c hc=>?_)
  have lp:∀ d i,i+d=nb→zR c 136 zf42 (SL g nb N x i (insD g x i).2.1 (insD g x i).1 (insD g x i).2.2) (Post c [(0,brOb (insR g nb x).1 (insR g nb x).2)] (.agg [.p (.int .i64 N),.ar 2 0 0 (insR g nb x).1])):=by
    intro d
    induction d with
    | zero =>
      intro i hi
      obtain rfl:i=nb:=by omega
      have hd:decide ((i:Int)<(i:Int))=false:=by simp
      have hn:=insD_n g x i
      have hle:(insD g x i).2.1≤i+1:=by split at hn<;>omega
      cases hp:(insD g x i).1 with
      | true =>
        rw [show insR g i x=((insD g x i).2.1,(insD g x i).2.2) by simp [insR,hp]]
        refine pkZ Tryz.func136 hc (rLd g i N x i (insD g x i).2.1 true (insD g x i).2.2) ?_
        and_intros
        all_goals (first | exact zI | (intro i hi;simp [All]))
      | false =>
        rw [show insR g i x=((insD g x i).2.1+1,snoc (insD g x i).2.1 (insD g x i).2.2 x) by simp [insR,hp]]
        refine pkD Tryz.func136 hc (rLc g i N x i (insD g x i).2.1 false (insD g x i).2.2) ?_
        and_intros
        all_goals (first | exact zI | (intro j hj;simp [All];done) | (intro j hj;by_cases h:j<(insD g x i).2.1<;>simp [h,snoc,cvtL,cvt,tg,tru,All]))
    | succ d ih =>
      intro i hi
      have hd:decide ((i:Int)<(nb:Int))=true:=by simp;omega
      have hn:=insD_n g x i
      have hle:(insD g x i).2.1≤i+1:=by split at hn<;>omega
      have hca:=con_l2After (g i) x
      have hs:insD g x (i+1)=if (bif !(insD g x i).1 then !aft (g i) x else false)=true then (true,(insD g x i).2.1+1+1,snoc ((insD g x i).2.1+1) (snoc (insD g x i).2.1 (insD g x i).2.2 x) (g i)) else ((insD g x i).1,(insD g x i).2.1+1,snoc (insD g x i).2.1 (insD g x i).2.2 (g i)):=rfl
      have hih:=ih (i+1) (by omega)
      cases ht:(bif !(insD g x i).1 then !aft (g i) x else false) with
      | true =>
        rw [hs,if_pos ht] at hih
        refine pcD hc (rLa g nb N x i (insD g x i).2.1 (insD g x i).1 (insD g x i).2.2) ?_ hih
        and_intros
        all_goals (first | exact zI | (intros;exact hca) | (exact ht) | (intro j hj;simp [All];done) | (intro j hj;by_cases h:j<(insD g x i).2.1+1<;>by_cases h':j<(insD g x i).2.1<;>simp [h,h',snoc,cvtL,cvt,tg,tru,All]) | (simp;omega))
      | false =>
        rw [hs,if_neg (by rw [ht];simp)] at hih
        refine pcD hc (rLb g nb N x i (insD g x i).2.1 (insD g x i).1 (insD g x i).2.2) ?_ hih
        and_intros
        all_goals (first | exact zI | (intros;exact hca) | (exact ht) | (intro j hj;simp [All];done) | (intro j hj;by_cases h:j<(insD g x i).2.1<;>simp [h,snoc,cvtL,cvt,tg,tru,All]))
  refine pcD hc (rLz g nb N x) ?_ (lp nb 0 (by omega))
  and_intros
  all_goals (first | exact zI | (intro i hi;simp [All]))
open Go Go.Shelf Go.RowKit Go.Lib Go.Sort
def ltB (x y:T_Bar):Bool:=ltOf cmpB x y
theorem ltB_iff (x y:T_Bar):ltB x y=true↔x.1<y.1∨(x.1=y.1∧x.2.1<y.2.1):=by
  rw [show ltB x y=decide (cmpB x y<0) from rfl,decide_eq_true_iff]
  unfold cmpB
  rcases Int.lt_trichotomy x.1 y.1 with h | h | h
  · rw [cmpI_1 h];simp;omega
  · rw [cmpI_3 (x:=x.1) (y:=y.1) (by omega) (by omega)]
    simp only [if_true]
    rcases Int.lt_trichotomy x.2.1 y.2.1 with h' | h' | h'
    · rw [cmpI_1 h'];simp;omega
    · rw [cmpI_3 (x:=x.2.1) (y:=y.2.1) (by omega) (by omega)];simp;omega
    · rw [cmpI_2 h'];simp;omega
  · rw [cmpI_2 h];simp;omega
theorem swoB:SWO (ltOf cmpB) where
  irrefl x:=by
    cases h:ltOf cmpB x x with
    | false=>rfl
    | true=>have:=(ltB_iff x x).1 h;omega
  trans x y z h1 h2:=by
    have h1:=(ltB_iff x y).1 h1
    have h2:=(ltB_iff y z).1 h2
    exact (ltB_iff x z).2 (by omega)
  ntrans x y z h1 h2:=by
    cases h:ltOf cmpB x z with
    | false=>rfl
    | true =>
      have h3:=(ltB_iff x z).1 h
      have e1:¬ (x.1<y.1∨(x.1=y.1∧x.2.1<y.2.1)):=fun h'=>by rw [show ltOf cmpB x y=true from (ltB_iff x y).2 h'] at h1;cases h1
      have e2:¬ (y.1<z.1∨(y.1=z.1∧y.2.1<z.2.1)):=fun h'=>by rw [show ltOf cmpB y z=true from (ltB_iff y z).2 h'] at h2;cases h2
      omega
theorem totB (x y:T_Bar) (h1:ltOf cmpB x y=false) (h2:ltOf cmpB y x=false):x=y:=by
  have e1:¬ (x.1<y.1∨(x.1=y.1∧x.2.1<y.2.1)):=fun h'=>by rw [show ltOf cmpB x y=true from (ltB_iff x y).2 h'] at h1;cases h1
  have e2:¬ (y.1<x.1∨(y.1=x.1∧y.2.1<x.2.1)):=fun h'=>by rw [show ltOf cmpB y x=true from (ltB_iff y x).2 h'] at h2;cases h2
  obtain ⟨a,b,⟨⟩⟩:=x
  obtain ⟨c,d,⟨⟩⟩:=y
  simp only [Prod.mk.injEq,and_true] at e1 e2 ⊢
  omega
def lstB (n:Nat) (h:Nat→T_Bar):List T_Bar:=(List.range n).map h
def srtL (l:List T_Bar):List T_Bar:=l.mergeSort fun x y=>!(ltOf cmpB) y x
def srtB (n:Nat) (h:Nat→T_Bar) (i:Nat):T_Bar:=(srtL (lstB n h)).getD i (0,0,())
theorem encB_len (x:T_Bar):(encB x).length=2:=rfl
theorem encB_one (x:T_Bar):∀ v∈encB x,v.oneCell'=true:=by
  intro v hv
  simp only [encB,List.mem_cons,List.not_mem_nil,or_false] at hv
  rcases hv with rfl | rfl<;>rfl
theorem srtL_len (l:List T_Bar):(srtL l).length=l.length:=by simp [srtL]
theorem lstB_len (n:Nat) (h:Nat→T_Bar):(lstB n h).length=n:=by simp [lstB]
theorem con_sortBars (n:Nat) (h:Nat→T_Bar) (hn:n≤1048576) :
    Con Tryz.prog 132 1 [(0,brOb n h)] [.ar 2 0 0 n,.p (.fn 133)] [(0,brOb n (srtB n h))] (.tup []):=by
  refine ⟨by kernel_rfl,fun w β X vals hX hH hS hd hl ha=>?_⟩
  obtain ⟨v0,v1,rfl⟩:∃ v0 v1,vals = #[v0,v1]:=by
    rcases vals with ⟨l⟩
    match l,hl with
    | [a,b],_=>exact ⟨a,b,rfl⟩
  have h0:VR w β (ow X β [(0,brOb n h)]) (.ar 2 0 0 n) v0:=ha 0 (by simp)
  have h1:VR w β (ow X β [(0,brOb n h)]) (.p (.fn 133)) v1:=ha 1 (by simp)
  have e1:v1=.func (.func 133) #[] #[]:=by
    cases h1 with
    | p _ _ hp=>cases hp;rfl
  subst e1
  have hnil:∀ (w':World) (own:Bool→Nat→Prop),VR w' β own (.tup []) (.tuple #[]):=fun w' own=>.tup [] #[] rfl (fun j hj=>absurd hj (Nat.not_lt_zero _))
  rcases Nat.eq_zero_or_pos n with rfl | hpos
  · obtain ⟨p,cap,rfl⟩:∃ p cap,v0=.slice p 0 cap:=by
      cases h0 with
      | ar0=>exact ⟨_,_,rfl⟩
      | ar=>exact ⟨_,_,rfl⟩
    refine (AnyF.slices_SortFunc_none (P:=Tryz.prog) (ρ:=Tryz.sortBar_ren) { Tryz.sortBar with } p cap _ w).mono ?_
    rintro e w' ⟨rfl,rfl⟩
    refine ⟨_,β,rfl,?_,?_,hnil _ _,?_,fun o a h=>h,fun b' h'=>.inl ?_,fun k h=>.inl h⟩
    · intro o ob hl
      obtain ⟨rfl,rfl⟩:=look_one hl
      rcases hH 0 _ (lk_one _) with ⟨hb,_⟩ | ⟨b,base,cells,el,hβ,hh,_⟩ | hm
      · exact .inl ⟨hb,rfl⟩
      · exact .inr (.inl ⟨b,base,cells,el,hβ,hh,fun i hi=>absurd hi (Nat.not_lt_zero _)⟩)
      · exact absurd hm.2.1 (by simp [brOb])
    · intro o o' ob ob' a a' h1 h2 h3 h4 h5
      obtain ⟨rfl,rfl⟩:=look_one h1
      obtain ⟨rfl,rfl⟩:=look_one h2
      rfl
    · rw [ow_one X β (brOb 0 (srtB 0 h)) (brOb 0 h)]
      exact Ext.refl _ _
    · rw [own_one _ _ _ rfl] at h' ⊢;exact h'
  · cases h0 with
    | ar0=>exact absurd hpos (Nat.lt_irrefl 0)
    | ar _ _ _ _ b base c cells elem fr' hβ hh hsz hc =>
      rcases hH 0 _ (lk_one _) with ⟨hb,_⟩ | ⟨b',base',cells',el',hβ',hh',hrw⟩ | hm
      · rw [hb] at hβ;cases hβ
      · rw [hβ] at hβ'
        injection hβ' with hβ'
        injection hβ' with i1 i2 _
        subst i1;subst i2
        rw [hh] at hh'
        injection hh' with hh'
        injection hh' with i1 i2 i3
        subst i1;subst i2;subst i3
        have hcell:∀ i,i<n→cells[base+(i*2+0)]? = some (.int .i64 (h i).1)∧cells[base+(i*2+1)]? = some (.int .i64 (h i).2.1):=by
          intro i hi
          obtain ⟨u,hu1,hu2,hu3⟩:=hrw i hi 0 (by simp [brOb])
          obtain ⟨u',hu1',hu2',hu3'⟩:=hrw i hi 1 (by simp [brOb])
          have:=vr_int (k:=.i64) (x:=(h i).1) hu3
          subst this
          have:=vr_int (k:=.i64) (x:=(h i).2.1) hu3'
          subst this
          exact ⟨hu1,hu1'⟩
        have hend:base+n*2≤cells.size:=by
          have:=(hcell (n - 1) (by omega)).2
          rcases Nat.lt_or_ge (base+((n - 1)*2+1)) cells.size with h' | h'
          · omega
          · rw [Array.getElem?_eq_none h'] at this;cases this
        have hdz:((lstB n h).toArray).size=n:=by simp [lstB]
        have hdi:∀ i,i<n→((lstB n h).toArray)[i]! = h i:=by
          intro i hi
          rw [getElem!_pos _ i (by rw [hdz];exact hi)]
          simp [lstB]
        have hHK:HoldsK encB 2 w b base (lstB n h).toArray:=by
          intro t ht
          rw [size_flatK,hdz] at ht
          rw [get_flatK _ _ _ _ (by rw [hdz];exact ht),hdi (t / 2) (by omega)]
          have hc:=hcell (t / 2) (by omega)
          rcases Nat.mod_two_eq_zero_or_one t with h2 | h2
          · refine ⟨?_,by simp [World.frozen?,hh]⟩
            rw [h2]
            have:base+t=base+(t / 2*2+0):=by omega
            simp only [World.cell?,hh]
            rw [this,hc.1];rfl
          · refine ⟨?_,by simp [World.frozen?,hh]⟩
            rw [h2]
            have:base+t=base+(t / 2*2+1):=by omega
            simp only [World.cell?,hh]
            rw [this,hc.2];rfl
        have hblk:b<w.heap.size:=by
          rcases Nat.lt_or_ge b w.heap.size with h' | h'
          · exact h'
          · rw [Array.getElem?_eq_none h'] at hh;cases hh
        have eg:∀ args w,(callFunc 133 args).run Tryz.prog w=.ok (.enter 133 args) w:=enters_of Tryz.func133 (by kernel_rfl) rfl
        have hcmp:CmpLays Tryz.prog 133 #[] encB 2 cmpB b base (lstB n h).toArray.size w:=fun _ _ _ _ x y=>cmp_bars x y _
        have hcon:=AnyQ.slices_SortFunc_total Tryz.sortBar 2 Tryz.isAgg91 Tryz.sizeOf91 encB encB_len encB_one cmpB swoB 133 #[] b base c (lstB n h).toArray w eg hcmp hHK hblk (by rw [hdz];omega) totB
        rw [hdz] at hcon
        change Calls Tryz.prog 132 _ _ _ at hcon
        rw [show base+0*2=base by omega]
        refine hcon.mono ?_
        rintro e w' ⟨rfl,q,os,rfl⟩
        refine sW_post (F:=flatK encB 2 (srtL (lstB n h)).toArray) hβ hh hS hend (by rw [size_flatK];simp [srtL_len,lstB_len]) (fun i hi j hj=>?_) (hnil _)
        have hs:((srtL (lstB n h)).toArray).size=n:=by simp [srtL_len,lstB_len]
        have hi2:i*2+j<n*2:=by omega
        rw [get_flatK _ _ _ _ (by rw [hs];exact hi2),show (i*2+j) / 2=i by omega,show (i*2+j) % 2=j by omega]
        have hgi:(srtL (lstB n h)).toArray[i]! = srtB n h i:=by
          rw [getElem!_pos _ i (by rw [hs];exact hi),srtB]
          simp [List.getD_eq_getElem?_getD,List.getElem?_eq_getElem (show i<(srtL (lstB n h)).length by rw [srtL_len,lstB_len];exact hi)]
        rw [hgi]
        rcases (show j=0∨j=1 by omega) with rfl | rfl
        · exact ⟨rfl,fun w' own=>.p _ _ (.int _ _)⟩
        · exact ⟨rfl,fun w' own=>.p _ _ (.int _ _)⟩
      · exact absurd hm.2.1 (by simp [brOb])
def leB (x y:T_Bar):Prop:=ltB y x=false
theorem leB_iff (x y:T_Bar):leB x y↔x.1<y.1∨(x.1=y.1∧x.2.1≤y.2.1):=by
  have h:=ltB_iff y x
  unfold leB
  cases hb:ltB y x with
  | false=>rw [hb] at h;simp only [Bool.false_eq_true,false_iff] at h;simp only [true_iff];omega
  | true=>rw [hb] at h;simp only [true_iff] at h;simp only [Bool.true_eq_false,false_iff];omega
theorem aft_iff (x y:T_Bar):aft x y=true↔leB x y:=by
  rw [leB_iff]
  unfold aft
  by_cases h1:x.1<y.1
  · simp [h1]
  · by_cases h2:x.1=y.1<;>simp [h1,h2]
theorem leB_antisymm (x y:T_Bar) (h1:leB x y) (h2:leB y x):x=y:=totB x y h2 h1
theorem srtL_sorted (l:List T_Bar):(srtL l).Pairwise leB:=by
  have h:=List.pairwise_mergeSort (le:=fun x y=>!(ltOf cmpB) y x) (fun a b c h1 h2=>by
    simp only [Bool.not_eq_true'] at *
    have h1:=(leB_iff a b).1 h1
    have h2:=(leB_iff b c).1 h2
    exact (leB_iff a c).2 (by omega)) (fun a b=>by
    simp only [Bool.or_eq_true,Bool.not_eq_true']
    rcases (show (a.1<b.1∨(a.1=b.1∧a.2.1≤b.2.1))∨(b.1<a.1∨(b.1=a.1∧b.2.1≤a.2.1)) by omega) with h | h
    · exact .inl ((leB_iff a b).2 h)
    · exact .inr ((leB_iff b a).2 h)) l
  exact h.imp (fun {a b} h=>show ltOf cmpB b a=false by simpa using h)
theorem srtL_perm (l:List T_Bar):(srtL l).Perm l:=List.mergeSort_perm l _
theorem srtL_eq {l m:List T_Bar} (hp:m.Perm l) (hs:m.Pairwise leB):m=srtL l :=
  List.Perm.eq_of_pairwise (le:=leB) (fun a b _ _ h1 h2=>leB_antisymm a b h1 h2) hs (srtL_sorted l) (hp.trans (srtL_perm l).symm)
theorem lstB_succ (n:Nat) (h:Nat→T_Bar):lstB (n+1) h=lstB n h++[h n]:=by simp [lstB,List.range_succ]
theorem lstB_congr {n:Nat} {h h':Nat→T_Bar} (he:∀ i,i<n→h i=h' i):lstB n h=lstB n h':=by
  simp only [lstB]
  exact List.map_congr_left (fun a ha=>he a (List.mem_range.1 ha))
theorem lstB_snoc (n:Nat) (h:Nat→T_Bar) (x:T_Bar):lstB (n+1) (snoc n h x)=lstB n h++[x]:=by
  rw [lstB_succ,lstB_congr (h':=h) (fun i hi=>snoc_lt hi),snoc_ge (Nat.lt_irrefl n)]
theorem lstB_inj {n:Nat} {h h':Nat→T_Bar} (he:lstB n h=lstB n h') (i:Nat) (hi:i<n):h i=h' i:=by
  have:(lstB n h)[i]? = (lstB n h')[i]?:=by rw [he]
  simpa [lstB,hi] using this
theorem lstB_srt (n:Nat) (h:Nat→T_Bar):lstB n (srtB n h)=srtL (lstB n h):=by
  refine List.ext_getElem? (fun i=>?_)
  rcases Nat.lt_or_ge i n with hi | hi
  · have:i<(srtL (lstB n h)).length:=by rw [srtL_len,lstB_len];exact hi
    simp only [lstB,List.getElem?_map,List.getElem?_range hi,Option.map_some]
    rw [show srtL (List.map h (List.range n))=srtL (lstB n h) from rfl,List.getElem?_eq_getElem this]
    simp [srtB,List.getD_eq_getElem?_getD,List.getElem?_eq_getElem this]
  · rw [List.getElem?_eq_none (by rw [lstB_len];exact hi),List.getElem?_eq_none (by rw [srtL_len,lstB_len];exact hi)]
theorem insD_list (g:Nat→T_Bar) (x:T_Bar) (nb:Nat) (hs:(lstB nb g).Pairwise leB):∀ i,i≤nb →
    (lstB (insD g x i).2.1 (insD g x i).2.2).Perm (lstB i g++(if (insD g x i).1=true then [x] else [])) ∧
    (lstB (insD g x i).2.1 (insD g x i).2.2).Pairwise leB∧((insD g x i).1=false→(lstB (insD g x i).2.1 (insD g x i).2.2)=lstB i g∧∀ s,s<i→leB (g s) x) ∧
    ((insD g x i).1=true→∀ s,s<nb→i≤s→∀ y∈lstB (insD g x i).2.1 (insD g x i).2.2,leB y (g s)):=by
  have hmono:∀ s s',s<s'→s'<nb→leB (g s) (g s'):=by
    intro s s' h1 h2
    have:=List.pairwise_iff_getElem.1 hs s s' (by rw [lstB_len];omega) (by rw [lstB_len];omega) h1
    simpa [lstB] using this
  have htr:∀ {a b c:T_Bar},leB a b→leB b c→leB a c:=by
    intro a b c h1 h2
    have h1:=(leB_iff a b).1 h1
    have h2:=(leB_iff b c).1 h2
    exact (leB_iff a c).2 (by omega)
  intro i
  induction i with
  | zero=>intro _;exact ⟨by simp [insD,lstB],by simp [insD,lstB],fun _=>⟨rfl,fun s h=>absurd h (Nat.not_lt_zero _)⟩,fun h=>by simp [insD] at h⟩
  | succ i ih =>
    intro hi
    obtain ⟨ih1,ih2,ih3,ih4⟩:=ih (by omega)
    simp only [insD]
    split
    · rename_i ht
      have hf:(insD g x i).1=false:=by
        cases e:(insD g x i).1 with
        | false=>rfl
        | true=>rw [e] at ht;simp at ht
      rw [hf] at ht
      simp only [Bool.not_false,cond_true,Bool.not_eq_true'] at ht
      have hxg:leB x (g i):=by
        have h1:¬ leB (g i) x:=fun h=>by rw [(aft_iff _ _).2 h] at ht;cases ht
        rw [leB_iff] at h1 ⊢
        omega
      obtain ⟨e1,e2⟩:=ih3 hf
      simp only [if_true]
      rw [lstB_snoc,lstB_snoc,e1]
      have hlt:∀ y∈lstB i g,leB y x∧leB y (g i):=by
        intro y hy
        simp only [lstB,List.mem_map,List.mem_range] at hy
        obtain ⟨s,h1,rfl⟩:=hy
        exact ⟨e2 s h1,hmono s i h1 (by omega)⟩
      refine ⟨?_,?_,fun h=>by simp at h,fun _ s hs1 hs2 y hy=>?_⟩
      · rw [lstB_succ,List.append_assoc,List.append_assoc]
        exact List.Perm.append_left _ (List.Perm.swap _ _ _)
      · rw [e1] at ih2
        rw [List.append_assoc,List.pairwise_append]
        refine ⟨ih2,by simp [hxg],fun y hy y' hy'=>?_⟩
        simp only [List.cons_append,List.nil_append,List.mem_cons,List.not_mem_nil,or_false] at hy'
        rcases hy' with rfl | rfl
        · exact (hlt y hy).1
        · exact (hlt y hy).2
      · have his:leB (g i) (g s):=hmono i s (by omega) hs1
        simp only [List.mem_append,List.mem_cons,List.not_mem_nil,or_false] at hy
        rcases hy with (hy | rfl) | rfl
        · exact htr (hlt y hy).2 his
        · exact htr hxg his
        · exact his
    · rename_i ht
      rw [lstB_snoc]
      refine ⟨?_,?_,fun h=>?_,fun h s hs1 hs2 y hy=>?_⟩
      · rw [lstB_succ,List.append_assoc]
        refine (List.Perm.append_right [g i] ih1).trans ?_
        rw [List.append_assoc]
        exact List.Perm.append_left _ List.perm_append_comm
      · rw [List.pairwise_append]
        refine ⟨ih2,by simp,fun y hy y' hy'=>?_⟩
        simp only [List.mem_cons,List.not_mem_nil,or_false] at hy'
        subst hy'
        cases hp:(insD g x i).1 with
        | true=>exact ih4 hp i (by omega) (Nat.le_refl _) y hy
        | false =>
          rw [(ih3 hp).1] at hy
          simp only [lstB,List.mem_map,List.mem_range] at hy
          obtain ⟨s,h1,rfl⟩:=hy
          exact hmono s i h1 (by omega)
      · simp only at h
        obtain ⟨e1,e2⟩:=ih3 h
        refine ⟨by rw [e1,lstB_succ],fun s hs1=>?_⟩
        rcases Nat.lt_or_ge s i with h' | h'
        · exact e2 s h'
        · obtain rfl:s=i:=by omega
          rw [h] at ht
          simp only [Bool.not_false,cond_true,Bool.not_eq_true',Bool.not_eq_false] at ht
          exact (aft_iff _ _).1 ht
      · simp only at h
        simp only [List.mem_append,List.mem_cons,List.not_mem_nil,or_false] at hy
        rcases hy with hy | rfl
        · exact ih4 h s hs1 (by omega) y hy
        · exact hmono i s (by omega) hs1
theorem insR_list (g:Nat→T_Bar) (nb:Nat) (x:T_Bar) (hs:(lstB nb g).Pairwise leB) :
    lstB (insR g nb x).1 (insR g nb x).2=srtL (lstB nb g++[x]):=by
  obtain ⟨h1,h2,h3,h4⟩:=insD_list g x nb hs nb (Nat.le_refl _)
  unfold insR
  split
  · rename_i hp
    rw [if_pos hp] at h1
    exact srtL_eq h1 h2
  · rename_i hp
    have hf:(insD g x nb).1=false:=by simpa using hp
    obtain ⟨e1,e2⟩:=h3 hf
    simp only
    rw [lstB_snoc,e1]
    refine srtL_eq (List.Perm.refl _) ?_
    rw [List.pairwise_append]
    refine ⟨hs,by simp,fun y hy y' hy'=>?_⟩
    simp only [List.mem_cons,List.not_mem_nil,or_false] at hy'
    subst hy'
    simp only [lstB,List.mem_map,List.mem_range] at hy
    obtain ⟨s,h',rfl⟩:=hy
    exact e2 s h'
def hasI (g:Nat→Int) (x:Int):Nat→Bool
  | 0=>false
  | k+1=>hasI g x k||g k==x
def inL (v:T_IntS):AV:=.p (.seq true 1 v.1 (fun i=>[.int .i64 (v.2 i)]))
def S85 (v:T_IntS) (x:Int) (k:Nat):St :=
  ⟨[inL v,.p (.int .i64 x),.p .any,.p .any,.p .any,.p (.int .i64 k)]++List.replicate 12 anyA,[],0⟩
def S112 (v:T_IntS) (x:Int) (k:Nat):St :=
  ⟨[inL v,.p (.int .i64 x)]++List.replicate 5 anyA++[.p (.int .i64 v.1),.p (.int .i64 k)]++List.replicate 10 anyA,[],0⟩
theorem p85a (v:T_IntS) (x:Int) :
    zT Tryz.f92 [rg 1,rg 1,.head] [inL v,.p (.int .i64 x)] [] (S85 v x 0) =
    some (zf91,[(AN v.1),(AP v.1 (iRw v)),(AI x),((0:Int)=(↑0:Int))]):=by kernel_rfl
theorem p85b (v:T_IntS) (x:Int) (k:Nat) :
    zM 0 [rg 4,.dec true,rg 6,.dec false,rg 3,.head] zf91 (S85 v x k) [] 1 (S85 v x (k+1)) =
    some (zf91,[((decide ((↑k:Int)<(↑v.1:Int)))=true),(IL 0 (↑k:Int)),(IT (↑k:Int) (↑v.1:Int)),((v.2 k==x)=false),(ZLo ((↑k:Int)+1)),(ZHi ((↑k:Int)+1)),(AN v.1),(AP v.1 (iRw v)),(AI x),((((↑k:Int)+1):Int)=(↑(k+1):Int))]):=by kernel_rfl
theorem p85c (v:T_IntS) (x:Int) (k:Nat) :
    zP Tryz.f92 0 [rg 4,.dec true,rg 6,.dec true,rg 1] zf91 (S85 v x k) [] 1 [] (.p (.bool true)) =
    some [((decide ((↑k:Int)<(↑v.1:Int)))=true),(IL 0 (↑k:Int)),(IT (↑k:Int) (↑v.1:Int)),((v.2 k==x)=true),(true=true)]:=by kernel_rfl
theorem p85d (v:T_IntS) (x:Int) (k:Nat) :
    zP Tryz.f92 0 [rg 4,.dec false,rg 1] zf91 (S85 v x k) [] 1 [] (.p (.bool false)) =
    some [((decide ((↑k:Int)<(↑v.1:Int)))=false),(false=false)]:=by kernel_rfl
theorem p112a (v:T_IntS) (x:Int) :
    zT Tryz.f187 [rg 1,rg 3,.head] [inL v,.p (.int .i64 x)] [] (S112 v x 0) =
    some (zf85,[(AN v.1),(AP v.1 (iRw v)),(AI x),(AI ((↑v.1:Int))),((0:Int)=(↑0:Int))]):=by kernel_rfl
theorem p112b (v:T_IntS) (x:Int) (k:Nat) :
    zM 0 [rg 1,.dec true,rg 2,rg 6,.dec false,rg 2,.head] zf85 (S112 v x k) [] 1 (S112 v x (k+1)) =
    some (zf85,[((decide ((↑k:Int)<(↑v.1:Int)))=true),(IL 0 (↑k:Int)),(IT (↑k:Int) (↑v.1:Int)),((x==v.2 k)=false),(ZLo ((↑k:Int)+1)),(ZHi ((↑k:Int)+1)),(AN v.1),(AP v.1 (iRw v)),(AI x),(AI ((↑v.1:Int))),((((↑k:Int)+1):Int)=(↑(k+1):Int))]):=by kernel_rfl
theorem p112c (v:T_IntS) (x:Int) (k:Nat) :
    zP Tryz.f187 0 [rg 1,.dec true,rg 2,rg 6,.dec true,rg 2] zf85 (S112 v x k) [] 1 [] (.p (.int .i64 k)) =
    some [((decide ((↑k:Int)<(↑v.1:Int)))=true),(IL 0 (↑k:Int)),(IT (↑k:Int) (↑v.1:Int)),((x==v.2 k)=true),(AI ((↑k:Int)))]:=by kernel_rfl
theorem p112d (v:T_IntS) (x:Int) (k:Nat) :
    zP Tryz.f187 0 [rg 1,.dec false,rg 1] zf85 (S112 v x k) [] 1 [] (.p (.int .i64 (-1))) =
    some [((decide ((↑k:Int)<(↑v.1:Int)))=false),(AI ((-1)))]:=by kernel_rfl
theorem p90 (v:T_IntS) (x r:Int) :
    zS Tryz.f144 [rg 1,rm [(2,oc [] (.p (.int .i64 r)))] 2] [inL v,.p (.int .i64 x)] [] [] (.p (.bool (decide (r≥0)))) =
    some [zE 187 [.p (.seq true 1 v.1 (iRw v)),.p (.int .i64 x)] [] (.p (.int .i64 r)),((decide (r≥0))=(decide (r≥0)))]:=by kernel_rfl
theorem hasI_hit (g:Nat→Int) (x:Int) (k:Nat) (h:(g k==x)=true):∀ n,k<n→hasI g x n=true
  | 0,h'=>by omega
  | n+1,h'=>by
    by_cases e:k=n
    · subst e;simp [hasI,h]
    · simp [hasI,hasI_hit g x k h n (by omega)]
theorem con_l2Has (v:T_IntS) (x:Int) (hn:v.1≤1048576):zE 92 [inL v,.p (.int .i64 x)] [] (.p (.bool (hasI v.2 x v.1))):=by
  refine csZ Tryz.func92 (fun c hc=>?_)
  have lp:∀ m k,k+m=v.1→hasI v.2 x k=false→zR c 92 zf91 (S85 v x k) (Post c [] (.p (.bool (hasI v.2 x v.1)))):=by
    intro m
    induction m with
    | zero =>
      intro k hk hg
      rw [show hasI v.2 x v.1=false by rw [show v.1=k by omega];exact hg]
      have hd:decide ((k:Int)<(v.1:Int))=false:=by simp;omega
      refine pkZ Tryz.func92 hc (p85d v x k) ?_
      and_intros
      all_goals (first | exact zN)
    | succ m ih =>
      intro k hk hg
      have hd:decide ((k:Int)<(v.1:Int))=true:=by simp;omega
      cases he:(v.2 k==x) with
      | true =>
        rw [hasI_hit v.2 x k he v.1 (by omega)]
        refine pkZ Tryz.func92 hc (p85c v x k) ?_
        and_intros
        all_goals (first | exact zN | (exact he))
      | false =>
        refine pcZ hc (p85b v x k) ?_ (ih (k+1) (by omega) (by simp only [hasI,hg,he];rfl))
        and_intros
        all_goals (first | exact zN | (exact he))
  refine pcZ hc (p85a v x) ?_ (lp v.1 0 (by omega) rfl)
  and_intros
  all_goals (first | exact zN)
theorem con_Index (v:T_IntS) (x:Int) (hn:v.1≤1048576):∃ r:Int,decide (r≥0)=hasI v.2 x v.1∧zE 187 [inL v,.p (.int .i64 x)] [] (.p (.int .i64 r)):=by
  have key:(∃ k,k<v.1∧hasI v.2 x k=false∧(v.2 k==x)=true)∨hasI v.2 x v.1=false:=by
    have gen:∀ n,(∃ k,k<n∧hasI v.2 x k=false∧(v.2 k==x)=true)∨hasI v.2 x n=false:=by
      intro n
      induction n with
      | zero=>exact .inr rfl
      | succ n ih =>
        rcases ih with ⟨k,h1,h2⟩ | h
        · exact .inl ⟨k,by omega,h2⟩
        · cases he:(v.2 n==x) with
          | true=>exact .inl ⟨n,by omega,h,he⟩
          | false=>exact .inr (by simp only [hasI,h,he];rfl)
    exact gen v.1
  rcases key with ⟨q,hq,hq1,hq2⟩ | hno
  · refine ⟨(q:Int),by rw [hasI_hit v.2 x q hq2 v.1 hq];simp,?_⟩
    refine csZ Tryz.func187 (fun c hc=>?_)
    have lp:∀ m k,k+m=q→zR c 187 zf85 (S112 v x k) (Post c [] (.p (.int .i64 (q:Int)))):=by
      intro m
      induction m with
      | zero =>
        intro k hk
        obtain rfl:k=q:=by omega
        have hd:decide ((k:Int)<(v.1:Int))=true:=by simp;omega
        have he:(x==v.2 k)=true:=by rw [beq_iff_eq] at hq2 ⊢;exact hq2.symm
        refine pkZ Tryz.func187 hc (p112c v x k) ?_
        and_intros
        all_goals (first | exact zN | (exact he))
      | succ m ih =>
        intro k hk
        have hd:decide ((k:Int)<(v.1:Int))=true:=by simp;omega
        have he:(x==v.2 k)=false:=by
          cases h:(v.2 k==x) with
          | true=>rw [hasI_hit v.2 x k h q (by omega)] at hq1;cases hq1
          | false =>
            simp only [beq_eq_false_iff_ne,ne_eq] at h ⊢
            exact fun e=>h e.symm
        refine pcZ hc (p112b v x k) ?_ (ih (k+1) (by omega))
        and_intros
        all_goals (first | exact zN | (exact he))
    refine pcZ hc (p112a v x) ?_ (lp q 0 (by omega))
    and_intros
    all_goals (first | exact zN)
  · refine ⟨-1,by rw [hno];rfl,?_⟩
    refine csZ Tryz.func187 (fun c hc=>?_)
    have lp:∀ m k,k+m=v.1→zR c 187 zf85 (S112 v x k) (Post c [] (.p (.int .i64 (-1)))):=by
      intro m
      induction m with
      | zero =>
        intro k hk
        have hd:decide ((k:Int)<(v.1:Int))=false:=by simp;omega
        refine pkZ Tryz.func187 hc (p112d v x k) ?_
        and_intros
        all_goals (first | exact zN)
      | succ m ih =>
        intro k hk
        have hd:decide ((k:Int)<(v.1:Int))=true:=by simp;omega
        have he:(x==v.2 k)=false:=by
          cases h:(v.2 k==x) with
          | true=>rw [hasI_hit v.2 x k h v.1 (by omega)] at hno;cases hno
          | false =>
            simp only [beq_eq_false_iff_ne,ne_eq] at h ⊢
            exact fun e=>h e.symm
        refine pcZ hc (p112b v x k) ?_ (ih (k+1) (by omega))
        and_intros
        all_goals (first | exact zN | (exact he))
    refine pcZ hc (p112a v x) ?_ (lp v.1 0 (by omega))
    and_intros
    all_goals (first | exact zN)
theorem con_Contains (v:T_IntS) (x:Int) (hn:v.1≤1048576):zE 144 [inL v,.p (.int .i64 x)] [] (.p (.bool (hasI v.2 x v.1))):=by
  obtain ⟨r,hr,hcon⟩:=con_Index v x hn
  rw [← hr]
  refine csZ Tryz.func144 (fun c hc=>?_)
  refine pkZ Tryz.func144 hc (p90 v x r) ?_
  and_intros
  all_goals (first | exact zN | (exact hcon))
open Go Go.Sort
def brX (a b:Int):T_Bar:=(if b<a then b else a,if b>a then b else a,())
def zG2:Ob:=⟨true,2,1,fun _=>[.p (.int .i64 0),.p .nil]⟩
theorem dBar (a b:Int) :
    zS Tryz.f106 [rg 1,rg 8] [.p (.int .i64 a),.p (.int .i64 b)] [] [] (.agg [.p (.int .i64 (if b<a then b else a)),.p (.int .i64 (if b>a then b else a))]) =
    some [(NT 0 1),((true=true)→ (AN 1)),(NT 0 1),(((if false=true then if b>a then b else a else if b<a then b else a):Int)=(if b<a then b else a)),(((if true=true then if b>a then b else a else if b<a then b else a):Int)=(if b>a then b else a))]:=by kernel_rfl
theorem dHas (v:T_Graph) (p:Int) :
    zS Tryz.f148 [rg 2,rm [(4,oc [] (.p (.bool (inB p 0 (v.1 - 1)))))] 1] [graphA v,.p (.int .i64 p)] [] [] (.p (.bool (inB p 0 (v.1 - 1)))) =
    some [(NT 0 1),(ZLo (v.1 - 1)),(ZHi (v.1 - 1)),zE 90 [.p (.int .i64 p),.p (.int .i64 0),.p (.int .i64 (v.1 - 1))] [] (.p (.bool (inB p 0 (v.1 - 1)))),((inB p 0 (v.1 - 1))=(inB p 0 (v.1 - 1)))]:=by kernel_rfl
theorem con_barX (a b:Int):zE 106 [.p (.int .i64 a),.p (.int .i64 b)] [] (.agg [.p (.int .i64 (brX a b).1),.p (.int .i64 (brX a b).2.1)]):=by
  refine csZ Tryz.func106 (fun c hc=>?_)
  refine pkZ Tryz.func106 hc (dBar a b) ?_
  and_intros
  all_goals (first | exact zI | simp)
theorem con_hasX (v:T_Graph) (p:Int) (h1:1≤v.1) (h2:v.1≤8):zE 148 [graphA v,.p (.int .i64 p)] [] (.p (.bool (inB p 0 (v.1 - 1)))):=by
  refine csZ Tryz.func148 (fun c hc=>?_)
  refine pkZ Tryz.func148 hc (dHas v p) ?_
  and_intros
  all_goals (first | exact zN | (exact con_within _ _ _))
theorem graph_inR {v:T_Graph} (h:isGraphF v=true):1≤v.1∧v.1≤8∧v.2.1.1≤24∧goodB v.1 v.2.1.2 v.2.1.1=true:=by
  unfold isGraphF at h
  split at h
  · rename_i h1
    simp only [inB,Bool.and_eq_true,decide_eq_true_eq] at h1
    exact ⟨h1.1.1,h1.1.2,h1.2,h⟩
  · cases h
theorem goodB_at {N:Int} {g:Nat→T_Bar}:∀ {n:Nat},goodB N g n=true→∀ k,k<n→0≤(g k).1∧(g k).1<(g k).2.1∧(g k).2.1<N∧(0<k→leB (g (k - 1)) (g k))
  | 0,_,k,hk=>absurd hk (Nat.not_lt_zero _)
  | n+1,h,k,hk=>by
    simp only [goodB,Bool.and_eq_true,Bool.not_eq_true'] at h
    by_cases e:k=n
    · subst e
      have h2:=h.2
      unfold badB at h2
      by_cases c1:(g k).1<0
      · simp [c1] at h2
      by_cases c2:(g k).1≥(g k).2.1
      · simp [c1,c2] at h2
      by_cases c3:(g k).2.1≥N
      · simp [c1,c2,c3] at h2
      refine ⟨by omega,by omega,by omega,fun h0=>?_⟩
      simp only [c1,c2,c3,decide_false,cond_false] at h2
      rw [decide_eq_true (show (k:Int)>0 by omega)] at h2
      simp only [cond_true,Bool.not_eq_false'] at h2
      rw [← aft_iff]
      rw [show ((k:Int) - 1).toNat=k - 1 by omega] at h2
      exact h2
    · exact goodB_at h.1 k (by omega)
theorem goodB_sorted {N:Int} {g:Nat→T_Bar} {n:Nat} (h:goodB N g n=true):(lstB n g).Pairwise leB:=by
  have step:=goodB_at h
  have htr:∀ {a b c:T_Bar},leB a b→leB b c→leB a c:=by
    intro a b c h1 h2
    have h1:=(leB_iff a b).1 h1
    have h2:=(leB_iff b c).1 h2
    exact (leB_iff a c).2 (by omega)
  have mono:∀ d i,i+d<n→leB (g i) (g (i+d)):=by
    intro d
    induction d with
    | zero=>intro i hi;show leB (g i) (g i);exact (leB_iff _ _).2 (by omega)
    | succ d ih=>intro i hi;exact htr (ih i (by omega)) ((step (i+(d+1)) hi).2.2.2 (by omega))
  rw [List.pairwise_iff_getElem]
  intro i j hi hj hij
  rw [lstB_len] at hi hj
  have:=mono (j - i) i (by omega)
  rw [show i+(j - i)=j by omega] at this
  simpa [lstB] using this
theorem sm_graph {v:T_Graph} (h:v.2.1.1≤1048576):smS s_Graph v:=⟨by simp [smS,smL],⟨h,fun i hi=>by simp [smS,smL]⟩,True.intro⟩
def brBx (x:T_Bar):Ob:=⟨true,2,1,fun _=>[.p (.int .i64 x.1),.p (.int .i64 x.2.1)]⟩
def SVi (v:T_Graph) (x:T_Bar) (k:Nat):St :=
  ⟨[graphL v.2.1,.agg [.p (.int .i64 x.1),.p (.int .i64 x.2.1)],.p .any,.pt 2 0 0 0,.p .any,.p .any,graphL v.2.1,.p (.int .i64 v.2.1.1),.p (.int .i64 k)]++List.replicate 10 anyA,[(0,brBx x)],1⟩
def SVs (v:T_Graph) (a b:Int) (k:Nat):St :=
  ⟨[graphA v,.p (.int .i64 a),.p (.int .i64 b),.pt 2 0 0 0,.p .any,.p .any,.p .any,.p (.int .i64 k)]++List.replicate 30 anyA,[(0,boxG v)],1⟩
def beqB (x y:T_Bar):Bool:=(x.1==y.1)&&((x.2.1==y.2.1)&&true)
theorem vIz (v:T_Graph) (x:T_Bar) :
    zT Tryz.f105 [rg 2,rg 3,.head] [graphL v.2.1,.agg [.p (.int .i64 x.1),.p (.int .i64 x.2.1)]] [0] (SVi v x 0) =
    some (zf86,zD [(AN v.2.1.1),(AP v.2.1.1 (bRw v.2.1.2)),(AI x.1),(AI x.2.1),(AN 0),(AI ((↑v.2.1.1:Int))),((0:Int)=(↑0:Int)),((([AV.p (PV.int IntKind.i64 x.1),AV.p (PV.int IntKind.i64 x.2.1)].length):Nat)=2),(NL 1 1)] [0,1,2,3,4,0,1,5,6,7,8,8,2,3]):=by kernel_rfl
theorem vIa (v:T_Graph) (x:T_Bar) (k:Nat) :
    zM 0 [rg 1,.dec true,rg 2,rg 6,.dec false,rg 2,.head] zf86 (SVi v x k) [0] 1 (SVi v x (k+1)) =
    some (zf86,zD [((decide ((↑k:Int)<(↑v.2.1.1:Int)))=true),(NT 0 1),(IL 0 (↑k:Int)),(IT (↑k:Int) (↑v.2.1.1:Int)),((x.1==(v.2.1.2 k).1&&(x.2.1==(v.2.1.2 k).2.1&&true))=false),(ZLo ((↑k:Int)+1)),(ZHi ((↑k:Int)+1)),(AN v.2.1.1),(AP v.2.1.1 (bRw v.2.1.2)),(AI x.1),(AI x.2.1),(AN 0),(AI ((↑v.2.1.1:Int))),((((↑k:Int)+1):Int)=(↑(k+1):Int)),(AN 2),(NL 1 1)] [0,1,2,3,4,5,6,7,8,9,10,11,7,8,12,13,14,15,15,9,10]):=by kernel_rfl
theorem vIb (v:T_Graph) (x:T_Bar) (k:Nat) :
    zP Tryz.f105 0 [rg 1,.dec true,rg 2,rg 6,.dec true,rg 2] zf86 (SVi v x k) [] 1 [] (.p (.int .i64 k)) =
    some [((decide ((↑k:Int)<(↑v.2.1.1:Int)))=true),(NT 0 1),(IL 0 (↑k:Int)),(IT (↑k:Int) (↑v.2.1.1:Int)),((x.1==(v.2.1.2 k).1&&(x.2.1==(v.2.1.2 k).2.1&&true))=true),(AI ((↑k:Int)))]:=by kernel_rfl
theorem vIe (v:T_Graph) (x:T_Bar) (k:Nat) :
    zP Tryz.f105 0 [rg 1,.dec false,rg 1] zf86 (SVi v x k) [] 1 [] (.p (.int .i64 (-1))) =
    some [((decide ((↑k:Int)<(↑v.2.1.1:Int)))=false),(AI ((-1)))]:=by kernel_rfl
theorem vAz (v:T_Graph) (a b:Int) :
    zT Tryz.f109 [rg 2,rg 1,.head] [graphA v,.p (.int .i64 a),.p (.int .i64 b)] [0] (SVs v a b 0) =
    some (zf87,zD [(AI v.1),(AN v.2.1.1),(AP v.2.1.1 (bRw v.2.1.2)),(AI a),(AI b),(AN 0),((0:Int)=(↑0:Int)),((([AV.p (PV.int IntKind.i64 v.1),graphL v.2.1].length):Nat)=2),(NL 1 1)] [0,1,2,3,4,5,6,7,8,8,0,1,2]):=by kernel_rfl
theorem vAa (v:T_Graph) (a b:Int) (k:Nat) :
    zM 0 [rg 5,.dec true,rg 22,.dec false,rg 3,.head] zf87 (SVs v a b k) [0] 1 (SVs v a b (k+1)) =
    some (zf87,zD [(NT 0 1),((decide ((↑k:Int)<(↑v.2.1.1:Int)))=true),(IL 0 (↑k:Int)),(IT (↑k:Int) (↑v.2.1.1:Int)),(AG ((v.2.1.2 k).1==if false=true then if b>a then b else a else if b<a then b else a)),((((v.2.1.2 k).1==if false=true then if b>a then b else a else if b<a then b else a)=true)→(NT 0 1)),((((v.2.1.2 k).1==if false=true then if b>a then b else a else if b<a then b else a)=true)→(IL 0 (↑k:Int))),((((v.2.1.2 k).1==if false=true then if b>a then b else a else if b<a then b else a)=true)→(IT (↑k:Int) (↑v.2.1.1:Int))),((bif (v.2.1.2 k).1==if false=true then if b>a then b else a else if b<a then b else a then (v.2.1.2 k).2.1==if true=true then if b>a then b else a else if b<a then b else a else false)=false),(ZLo ((↑k:Int)+1)),(ZHi ((↑k:Int)+1)),(AI v.1),(AN v.2.1.1),(AP v.2.1.1 (bRw v.2.1.2)),(AI a),(AI b),(AN 0),((((↑k:Int)+1):Int)=(↑(k+1):Int)),(AN 2),(NL 1 1)] [0,1,0,2,3,4,5,4,4,6,7,4,4,4,4,4,4,4,8,9,10,11,12,13,14,15,16,17,18,19,19,11,12,13]):=by kernel_rfl
theorem vAb (v:T_Graph) (a b:Int) (k:Nat) :
    zP Tryz.f109 0 [rg 5,.dec true,rg 22,.dec true,rg 2] zf87 (SVs v a b k) [] 1 [] (.p (.int .i64 k)) =
    some (zD [(NT 0 1),((decide ((↑k:Int)<(↑v.2.1.1:Int)))=true),(IL 0 (↑k:Int)),(IT (↑k:Int) (↑v.2.1.1:Int)),(AG ((v.2.1.2 k).1==if false=true then if b>a then b else a else if b<a then b else a)),((((v.2.1.2 k).1==if false=true then if b>a then b else a else if b<a then b else a)=true)→(NT 0 1)),((((v.2.1.2 k).1==if false=true then if b>a then b else a else if b<a then b else a)=true)→(IL 0 (↑k:Int))),((((v.2.1.2 k).1==if false=true then if b>a then b else a else if b<a then b else a)=true)→(IT (↑k:Int) (↑v.2.1.1:Int))),((bif (v.2.1.2 k).1==if false=true then if b>a then b else a else if b<a then b else a then (v.2.1.2 k).2.1==if true=true then if b>a then b else a else if b<a then b else a else false)=true),(AI ((↑k:Int)))] [0,1,0,2,3,4,5,4,4,6,7,4,4,4,4,4,4,4,8,9]):=by kernel_rfl
theorem vAe (v:T_Graph) (a b:Int) (k:Nat) :
    zP Tryz.f109 0 [rg 5,.dec false,rg 1] zf87 (SVs v a b k) [] 1 [] (.p (.int .i64 (-1))) =
    some [(NT 0 1),((decide ((↑k:Int)<(↑v.2.1.1:Int)))=false),(AI ((-1)))]:=by kernel_rfl
def ixI (g:Nat→T_Bar) (x:T_Bar):Nat→Nat→Int
  | 0,_=>-1
  | d+1,i=>if beqB x (g i)=true then (i:Int) else ixI g x d (i+1)
theorem ixI_in (g:Nat→T_Bar) (x:T_Bar):∀ d i,ixI g x d i = -1∨((i:Int)≤ixI g x d i∧ixI g x d i<i+d∧beqB x (g (ixI g x d i).toNat)=true)
  | 0,_=>.inl rfl
  | d+1,i=>by
    simp only [ixI]
    split
    · rename_i h;right;exact ⟨Int.le_refl _,by omega,by rw [Int.toNat_natCast];exact h⟩
    · rcases ixI_in g x d (i+1) with h | ⟨h1,h2,h3⟩
      · exact .inl h
      · exact .inr ⟨by omega,by omega,h3⟩
theorem beqB_eq {x y:T_Bar} (h:beqB x y=true):x=y:=by
  obtain ⟨a,b,⟨⟩⟩:=x
  obtain ⟨c,d,⟨⟩⟩:=y
  simp only [beqB,Bool.and_eq_true,beq_iff_eq] at h
  rw [h.1,h.2.1]
theorem beqB_swap (x y:T_Bar):(bif y.1==x.1 then y.2.1==x.2.1 else false)=beqB x y:=by
  unfold beqB
  by_cases h1:x.1=y.1
  · by_cases h2:x.2.1=y.2.1
    · simp [h1,h2]
    · have:¬ y.2.1=x.2.1:=fun h=>h2 h.symm
      rw [beq_eq_false_iff_ne.2 this,beq_eq_false_iff_ne.2 h2,h1];simp
  · have:¬ y.1=x.1:=fun h=>h1 h.symm
    have e1:(x.1==y.1)=false:=beq_eq_false_iff_ne.2 h1
    have e2:(y.1==x.1)=false:=beq_eq_false_iff_ne.2 this
    rw [e1,e2];rfl
theorem con_IndexB (v:T_Graph) (x:T_Bar) (hn:v.2.1.1≤1048576):zE 105 [graphL v.2.1,.agg [.p (.int .i64 x.1),.p (.int .i64 x.2.1)]] [] (.p (.int .i64 (ixI v.2.1.2 x v.2.1.1 0))):=by
  refine csZ Tryz.func105 (fun c hc=>?_)
  have lo:∀ d k,k+d=v.2.1.1→zR c 105 zf86 (SVi v x k) (Post c [] (.p (.int .i64 (ixI v.2.1.2 x d k)))):=by
    intro d
    induction d with
    | zero =>
      intro k hk
      have hd:decide ((k:Int)<(v.2.1.1:Int))=false:=decide_eq_false (by omega)
      refine pkZ Tryz.func105 hc (vIe v x k) ?_
      and_intros
      all_goals (first | exact zN | (exact hd))
    | succ d ih =>
      intro k hk
      have hd:decide ((k:Int)<(v.2.1.1:Int))=true:=decide_eq_true (by omega)
      simp only [ixI]
      by_cases h:beqB x (v.2.1.2 k)=true
      · rw [if_pos h]
        refine pkZ Tryz.func105 hc (vIb v x k) ?_
        and_intros
        all_goals (first | exact zN | (exact hd) | (exact h))
      · rw [if_neg h]
        have h':beqB x (v.2.1.2 k)=false:=by simpa using h
        refine pcD hc (vIa v x k) ?_ (ih (k+1) (by omega))
        and_intros
        all_goals (first | exact zN | (exact hd) | (exact h') | (intros;simp [All];done))
  refine pcD hc (vIz v x) ?_ (lo v.2.1.1 0 (by omega))
  and_intros
  all_goals (first | exact zN | (intros;simp [All];done))
theorem con_l7At (v:T_Graph) (a b:Int) (hn:v.2.1.1≤1048576):zE 109 [graphA v,.p (.int .i64 a),.p (.int .i64 b)] [] (.p (.int .i64 (ixI v.2.1.2 (brX a b) v.2.1.1 0))):=by
  refine csZ Tryz.func109 (fun c hc=>?_)
  have lo:∀ d k,k+d=v.2.1.1→zR c 109 zf87 (SVs v a b k) (Post c [] (.p (.int .i64 (ixI v.2.1.2 (brX a b) d k)))):=by
    intro d
    induction d with
    | zero =>
      intro k hk
      have hd:decide ((k:Int)<(v.2.1.1:Int))=false:=decide_eq_false (by omega)
      refine pkZ Tryz.func109 hc (vAe v a b k) ?_
      and_intros
      all_goals (first | exact zN | (exact hd))
    | succ d ih =>
      intro k hk
      have hd:decide ((k:Int)<(v.2.1.1:Int))=true:=decide_eq_true (by omega)
      have hsw:=beqB_swap (brX a b) (v.2.1.2 k)
      simp only [ixI]
      by_cases h:beqB (brX a b) (v.2.1.2 k)=true
      · rw [if_pos h]
        rw [h] at hsw
        refine pkD Tryz.func109 hc (vAb v a b k) ?_
        and_intros
        all_goals (first | exact zI | (exact hd) | (exact hsw) | (intros;omega))
      · rw [if_neg h]
        have h':beqB (brX a b) (v.2.1.2 k)=false:=by simpa using h
        rw [h'] at hsw
        refine pcD hc (vAa v a b k) ?_ (ih (k+1) (by omega))
        and_intros
        all_goals (first | exact zI | (exact hd) | (exact hsw) | (intros;omega) | (intros;simp [All];done))
  refine pcD hc (vAz v a b) ?_ (lo v.2.1.1 0 (by omega))
  and_intros
  all_goals (first | exact zN | (intros;simp [All];done))
def byO (n:Nat) (f:Nat→Int):Ob:=⟨false,1,n,fun i=>[.p (.int .u8 (f i))]⟩
def swF (i j:Nat) (f:Nat→Int) (r:Nat):Int:=if r=j then f i else if r=i then f j else f r
def apF (n:Nat) (f:Nat→Int) (x:Int) (r:Nat):Int:=if r<n then f r else x
def SFs (m:Int) (o:ByteArray) (ng:Bool):St :=
  ⟨[.p (.int .i64 m),.p .any,.p .any,.p (.str o),.p (.bool ng)]++List.replicate 26 anyA,[],0⟩
def SFi (n m:Int) (l:Nat) (f:Nat→Int):St :=
  ⟨[.p (.int .i64 n),.p .any,.p .any,.ar 1 0 0 l,.p (.int .i64 m)]++List.replicate 54 anyA,[(0,byO l f)],1⟩
def SFr (l i:Nat) (j:Int) (f:Nat→Int):St :=
  ⟨[.p .any,.p .any,.p .any,.ar 1 0 0 l,.p .any,.p .any,.p (.int .i64 i),.p (.int .i64 j)]++List.replicate 51 anyA,[(0,byO l f)],1⟩
theorem fS0 (n:Int) (s:ByteArray) :
    zS Tryz.f115 [rg 1,rg 2,.dec true,rg 1] [.p (.int .i64 n)] [] [] (.p (.str s)) =
    some [((n==0)=true),(ByteArray.mk #[48]=s)]:=by kernel_rfl
theorem fSz (n:Int) (o:ByteArray) :
    zT Tryz.f115 [rg 1,rg 2,.dec false,rg 1,rg 3,.head] [.p (.int .i64 n)] [] (SFs n o (decide (n<0))) =
    some (zf39,[((n==0)=false),(AI n),(ByteArray.mk #[]=o),((decide (n<0))=(decide (n<0)))]):=by kernel_rfl
theorem fSn (m m2:Int) (o o2:ByteArray) (ng:Bool) :
    zM 0 [rg 2,.dec true,rm [(1,oF)] 1,rg 2,.dec true,rg 3,rg 8,rm [(1,oF)] 1,.head] zf39 (SFs m o ng) [] 1 (SFs m2 o2 ng) =
    some (zf39,[((m != 0)=true),((10:Int)≠0),((decide (m.tmod 10<0))=true),(ZLo (0 - m.tmod 10)),(ZHi (0 - m.tmod 10)),(ZLo (48+(0 - m.tmod 10))),(ZHi (48+(0 - m.tmod 10))),(IL 0 (48+(0 - m.tmod 10))),(IL (48+(0 - m.tmod 10)) 255),(NL 1 1),(okBytes 1 (fun i=>[.p (.int .u8 (48+(0 - m.tmod 10)))])),(NL ((bytesOf 1 fun i=>[AV.p (PV.int IntKind.u8 (48+(0 - m.tmod 10)))]).size+o.size) 9223372036854775807),((10:Int)≠0),(((IntKind.i64.wrap (m.tdiv 10)):Int)=m2),((bytesOf 1 fun i=>[AV.p (PV.int IntKind.u8 (48+(0 - m.tmod 10)))])++o=o2),(ng=ng)]):=by kernel_rfl
theorem fSp (m m2:Int) (o o2:ByteArray) (ng:Bool) :
    zM 0 [rg 2,.dec true,rm [(1,oF)] 1,rg 2,.dec false,rg 8,rm [(1,oF)] 1,.head] zf39 (SFs m o ng) [] 1 (SFs m2 o2 ng) =
    some (zf39,[((m != 0)=true),((10:Int)≠0),((decide (m.tmod 10<0))=false),(ZLo (48+m.tmod 10)),(ZHi (48+m.tmod 10)),(IL 0 (48+m.tmod 10)),(IL (48+m.tmod 10) 255),(NL 1 1),(okBytes 1 (fun i=>[.p (.int .u8 (48+m.tmod 10))])),(NL ((bytesOf 1 fun i=>[AV.p (PV.int IntKind.u8 (48+m.tmod 10))]).size+o.size) 9223372036854775807),((10:Int)≠0),(((IntKind.i64.wrap (m.tdiv 10)):Int)=m2),((bytesOf 1 fun i=>[AV.p (PV.int IntKind.u8 (48+m.tmod 10))])++o=o2),(ng=ng)]):=by kernel_rfl
theorem fSt (m:Int) (o s:ByteArray) (ng:Bool) :
    zP Tryz.f115 0 [rg 2,.dec false,rg 1,.dec true,rg 3] zf39 (SFs m o ng) [] 1 [] (.p (.str s)) =
    some [((m != 0)=false),(ng=true),(NL ((ByteArray.mk #[45]).size+o.size) 9223372036854775807),(ByteArray.mk #[45]++o=s)]:=by kernel_rfl
theorem fSf (m:Int) (o s:ByteArray) (ng:Bool) :
    zP Tryz.f115 0 [rg 2,.dec false,rg 1,.dec false,rg 2] zf39 (SFs m o ng) [] 1 [] (.p (.str s)) =
    some [((m != 0)=false),(ng=false),(o=s)]:=by kernel_rfl
theorem fI0 (n:Int) (s:ByteArray) :
    zS Tryz.f111 [rg 1,rg 2,.dec true,rg 1] [.p (.int .i64 n)] [] [] (.p (.str s)) =
    some [((n==0)=true),(ByteArray.mk #[48]=s)]:=by kernel_rfl
theorem fIz (n:Int) :
    zT Tryz.f111 [rg 1,rg 2,.dec false,rg 2,rg 2,.head] [.p (.int .i64 n)] [96] (SFi n n 0 (fun _=>0)) =
    some (zf43,[((n==0)=false),(AI n),(AN 0),(AN 0),(AI n),(AN 1),(NL 0 0),(AA 0 (fun i=>[.p (.int .u8 0)]))]):=by kernel_rfl
theorem fIn (n m m2:Int) (l:Nat) (f:Nat→Int) (x:Int) :
    zM 0 [rg 2,.dec true,rm [(1,oF)] 1,rg 2,.dec true,rg 3,rg 7,rm [(1,oF)] 1,.head] zf43 (SFi n m l f) [481] 1 (SFi n m2 (l+1) (apF l f x)) =
    some (zf43,[((m != 0)=true),((10:Int)≠0),((decide (m.tmod 10<0))=true),(ZLo (0 - m.tmod 10)),(ZHi (0 - m.tmod 10)),(ZLo (48+(0 - m.tmod 10))),(ZHi (48+(0 - m.tmod 10))),(IL 0 (48+(0 - m.tmod 10))),(IL (48+(0 - m.tmod 10)) 255),(NL 1 1),(NL l l),(NL ((l+1)*1) 140737488355328),(NL (l+1) 9223372036854775807),((10:Int)≠0),(AI n),(AN 0),(AN ((l+1))),(((IntKind.i64.wrap (m.tdiv 10)):Int)=m2),(AN 1),(NL (l+1) (l+1)),(CV [(481,⟨false,1,(l+1),(fun i_1=>(if (i_1<l) then [.p (.int .u8 (f i_1))] else [.p (.int .u8 (48+(0 - m.tmod 10)))]))⟩),(449,⟨false,1,1,(fun i_1=>[.p (.int .u8 (48+(0 - m.tmod 10)))])⟩)] [481] 1 (l+1) (fun i=>if (i<l) then [.p (.int .u8 (f i))] else [.p (.int .u8 (48+(0 - m.tmod 10)))]) (fun i=>[.p (.int .u8 (apF l f x i))]))]):=by kernel_rfl
theorem fIp (n m m2:Int) (l:Nat) (f:Nat→Int) (x:Int) :
    zM 0 [rg 2,.dec true,rm [(1,oF)] 1,rg 2,.dec false,rg 7,rm [(1,oF)] 1,.head] zf43 (SFi n m l f) [385] 1 (SFi n m2 (l+1) (apF l f x)) =
    some (zf43,[((m != 0)=true),((10:Int)≠0),((decide (m.tmod 10<0))=false),(ZLo (48+m.tmod 10)),(ZHi (48+m.tmod 10)),(IL 0 (48+m.tmod 10)),(IL (48+m.tmod 10) 255),(NL 1 1),(NL l l),(NL ((l+1)*1) 140737488355328),(NL (l+1) 9223372036854775807),((10:Int)≠0),(AI n),(AN 0),(AN ((l+1))),(((IntKind.i64.wrap (m.tdiv 10)):Int)=m2),(AN 1),(NL (l+1) (l+1)),(CV [(385,⟨false,1,(l+1),(fun i_1=>(if (i_1<l) then [.p (.int .u8 (f i_1))] else [.p (.int .u8 (48+m.tmod 10))]))⟩),(353,⟨false,1,1,(fun i_1=>[.p (.int .u8 (48+m.tmod 10))])⟩)] [385] 1 (l+1) (fun i=>if (i<l) then [.p (.int .u8 (f i))] else [.p (.int .u8 (48+m.tmod 10))]) (fun i=>[.p (.int .u8 (apF l f x i))]))]):=by kernel_rfl
theorem fIt (n m:Int) (l:Nat) (f:Nat→Int) :
    zM 0 [rg 2,.dec false,rg 2,.dec true,rg 4,rg 5,.head] zf43 (SFi n m l f) [193] 1 (SFr (l+1) 0 (((l+1:Nat):Int) - 1) (apF l f 45)) =
    some (zf28,[((m != 0)=false),((decide (n<0))=true),(NL 1 1),(NL l l),(NL ((l+1)*1) 140737488355328),(NL (l+1) 9223372036854775807),(ZLo ((↑(l+1):Int) - 1)),(ZHi ((↑(l+1):Int) - 1)),(AN 0),(AN ((l+1))),((0:Int)=(↑0:Int)),(AI (((↑(l+1):Int) - 1))),(AN 1),(NL (l+1) (l+1)),(CV [(193,⟨false,1,(l+1),(fun i_1=>(if (i_1<l) then [.p (.int .u8 (f i_1))] else [.p (.int .u8 45)]))⟩),(161,⟨false,1,1,(fun i_1=>[.p (.int .u8 45)])⟩)] [193] 1 (l+1) (fun i=>if (i<l) then [.p (.int .u8 (f i))] else [.p (.int .u8 45)]) (fun i=>[.p (.int .u8 (apF l f 45 i))]))]):=by kernel_rfl
theorem fIf (n m:Int) (l:Nat) (f:Nat→Int) :
    zM 0 [rg 2,.dec false,rg 2,.dec false,rg 5,.head] zf43 (SFi n m l f) [0] 1 (SFr l 0 ((l:Int) - 1) f) =
    some (zf28,[((m != 0)=false),((decide (n<0))=false),(ZLo ((↑l:Int) - 1)),(ZHi ((↑l:Int) - 1)),(AN 0),(AN l),((0:Int)=(↑0:Int)),(AI (((↑l:Int) - 1))),(AN 1),(NL l l),(AA l (fun i=>[.p (.int .u8 (f i))]))]):=by kernel_rfl
theorem fIs (l i:Nat) (j:Int) (f:Nat→Int) :
    zM 0 [rg 3,.dec true,rg 16,rg 6,.head] zf28 (SFr l i j f) [0] 1 (SFr l (i+1) (j - 1) (swF i j.toNat f)) =
    some (zf28,zD [((decide ((↑i:Int)<j))=true),(IL 0 j),(IT j (↑l:Int)),(NT j.toNat l),(IL 0 (↑i:Int)),(IT (↑i:Int) (↑l:Int)),(NT i l),((false=true)→ ((l:Nat)=1)),(ZLo ((↑i:Int)+1)),(ZHi ((↑i:Int)+1)),(ZLo (j - 1)),(ZHi (j - 1)),(AN 0),(AN l),((((↑i:Int)+1):Int)=(↑(i+1):Int)),(AI ((j - 1))),(AN 1),(NL l l),(CV [(0,⟨false,1,l,(fun i_2=>(if (i_2=j.toNat) then [.p (.int .u8 (f i))] else (if (i_2=i) then [.p (.int .u8 (f j.toNat))] else [.p (.int .u8 (f i_2))])))⟩)] [0] 1 l (fun i_1=>if (i_1=j.toNat) then [.p (.int .u8 (f i))] else (if (i_1=i) then [.p (.int .u8 (f j.toNat))] else [.p (.int .u8 (f i_1))])) (fun i_1=>[.p (.int .u8 (swF i j.toNat f i_1))]))] [0,1,2,3,4,5,6,4,5,6,7,1,2,3,7,8,9,10,11,12,13,14,15,16,17,18]):=by kernel_rfl
theorem fIe (l i:Nat) (j:Int) (f:Nat→Int) (s:ByteArray) :
    zP Tryz.f111 0 [rg 3,.dec false,rg 3] zf28 (SFr l i j f) [] 1 [] (.p (.str s)) =
    some [((decide ((↑i:Int)<j))=false),(NL l l),(okBytes l (fun i_1=>[.p (.int .u8 (f i_1))])),((bytesOf l fun i=>[AV.p (PV.int IntKind.u8 (f i))])=s)]:=by kernel_rfl
def dg:Nat→Nat→List Int
  | 0,_=>[]
  | f+1,m=>if m=0 then [] else (48+((m % 10:Nat):Int))::dg f (m / 10)
def bs (l:List Int):ByteArray:=l.foldl (fun r n=>r.push (UInt8.ofNat n.toNat)) ByteArray.empty
def fmtL (n:Int):List Int:=dg 20 n.natAbs++(if n<0 then [45] else [])
def fmtI (n:Int):ByteArray:=if n=0 then bs [48] else bs (fmtL n).reverse
theorem bs_fold (l:List Int):∀ s:ByteArray,(l.foldl (fun r n=>r.push (UInt8.ofNat n.toNat)) s).data=s.data++(l.map fun n=>UInt8.ofNat n.toNat).toArray:=by
  induction l with
  | nil=>intro s;simp
  | cons x l ih =>
    intro s
    simp only [List.foldl_cons,ih,List.map_cons]
    show s.data.push (UInt8.ofNat x.toNat)++_=_
    simp
theorem bs_data (l:List Int):(bs l).data=(l.map fun n=>UInt8.ofNat n.toNat).toArray:=by
  rw [bs,bs_fold]
  show #[]++_=_
  simp
theorem bs_append (a b:List Int):bs (a++b)=bs a++bs b:=by
  apply ByteArray.ext
  rw [bs_data,ByteArray.data_append,bs_data,bs_data]
  simp
theorem bs_size (l:List Int):(bs l).size=l.length:=by
  show (bs l).data.size=_
  rw [bs_data];simp
theorem bytesOf_bs (m:Nat) (f:Nat→Int):bytesOf m (fun i=>[.p (.int .u8 (f i))])=bs ((List.range m).map f):=rfl
theorem tm10 (c:Int):c.tmod 10=if 0≤c then ((c.natAbs % 10:Nat):Int) else -((c.natAbs % 10:Nat):Int):=by
  obtain ⟨k,rfl | rfl⟩:=c.eq_nat_or_neg
  · rw [if_pos (by omega),Int.natAbs_natCast];rfl
  · by_cases h:k=0
    · subst h;rfl
    · rw [if_neg (by omega),Int.neg_tmod,Int.natAbs_neg,Int.natAbs_natCast];rfl
theorem td10 (c:Int):c.tdiv 10=if 0≤c then ((c.natAbs / 10:Nat):Int) else -((c.natAbs / 10:Nat):Int):=by
  obtain ⟨k,rfl | rfl⟩:=c.eq_nat_or_neg
  · rw [if_pos (by omega),Int.natAbs_natCast];rfl
  · by_cases h:k=0
    · subst h;rfl
    · rw [if_neg (by omega),Int.neg_tdiv,Int.natAbs_neg,Int.natAbs_natCast];rfl
theorem td_abs (c:Int):(c.tdiv 10).natAbs=c.natAbs / 10:=by
  rw [td10];split<;>omega
theorem dg_len:∀ f m,(dg f m).length≤f
  | 0,_=>Nat.le_refl _
  | f+1,m=>by
    simp only [dg]
    split
    · simp
    · have:=dg_len f (m / 10);simp;omega
theorem fmt_size (n:Int):(fmtI n).size≤21:=by
  unfold fmtI
  split
  · simp [bs_size]
  · rw [bs_size,fmtL,List.length_reverse,List.length_append]
    have:=dg_len 20 n.natAbs
    split<;>simp<;>omega
theorem con_FormatInt_s (n:Int) (h0:-9223372036854775808≤n) (h1:n≤9223372036854775807):zE 115 [.p (.int .i64 n)] [] (.p (.str (fmtI n))):=by
  refine csZ Tryz.func115 (fun c hc=>?_)
  by_cases hz:n=0
  · subst hz
    refine pkZ Tryz.func115 hc (fS0 0 (fmtI 0)) ?_
    and_intros
    all_goals (first | exact zN | rfl | (exact ByteArray.ext (by rw [fmtI,if_pos rfl,bs_data];rfl)))
  have hz':(n==0)=false:=by simpa using hz
  have lp:∀ f m l,l.length+f=20→m.natAbs<10 ^ f→dg 20 n.natAbs=l++dg f m.natAbs→(n<0→m≤0)→(0≤n→0≤m)→-9223372036854775808≤m→m≤9223372036854775807 →
      zR c 115 zf39 (SFs m (bs l.reverse) (decide (n<0))) (Post c [] (.p (.str (fmtI n)))):=by
    have fin:∀ l,dg 20 n.natAbs=l→l.length≤20→zR c 115 zf39 (SFs 0 (bs l.reverse) (decide (n<0))) (Post c [] (.p (.str (fmtI n)))):=by
      intro l hl hl2
      have hsz:=bs_size l.reverse
      rw [List.length_reverse] at hsz
      by_cases hn:n<0
      · rw [decide_eq_true hn]
        refine pkZ Tryz.func115 hc (fSt 0 (bs l.reverse) (fmtI n) true) ?_
        and_intros
        all_goals (first | exact zN | (show _+(bs l.reverse).size≤_;rw [hsz];show 1+l.length≤_;omega) | (rw [fmtI,if_neg hz,fmtL,if_pos hn,hl,List.reverse_append,bs_append];exact congrArg (·++bs l.reverse) (ByteArray.ext (by rw [bs_data];rfl))))
      · rw [decide_eq_false hn]
        refine pkZ Tryz.func115 hc (fSf 0 (bs l.reverse) (fmtI n) false) ?_
        and_intros
        all_goals (first | exact zN | (rw [fmtI,if_neg hz,fmtL,if_neg hn,hl,List.append_nil]))
    intro f
    induction f with
    | zero =>
      intro m l hl hm hd hs1 hs2 hb1 hb2
      obtain rfl:m=0:=by simp at hm;omega
      exact fin l (by rw [hd];simp [dg]) (by omega)
    | succ f ih =>
      intro m l hl hm hd hs1 hs2 hb1 hb2
      by_cases hm0:m=0
      · subst hm0
        exact fin l (by rw [hd];simp [dg]) (by omega)
      have hmt:(m != 0)=true:=by simpa using hm0
      have hma:m.natAbs≠0:=by omega
      have htd:=td10 m
      have hrec:=ih (m.tdiv 10) (l++[48+((m.natAbs % 10:Nat):Int)]) (by simp;omega) (by rw [td_abs];rw [Nat.pow_succ] at hm;omega) (by rw [hd,td_abs,dg,if_neg hma];simp) (by intro h;rw [htd];split<;>omega) (by intro h;rw [htd];split<;>omega) (by rw [htd];split<;>omega) (by rw [htd];split<;>omega)
      have hw:IntKind.i64.wrap (m.tdiv 10)=m.tdiv 10:=wrap_in (k:=.i64) (by show (-9223372036854775808:Int)≤_;rw [htd];split<;>omega) (by show _≤(9223372036854775807:Int);rw [htd];split<;>omega)
      have htm:=tm10 m
      have hsz:=bs_size l.reverse
      rw [List.length_reverse] at hsz
      have hb:∀ d:Int,bytesOf 1 (fun _=>[.p (.int .u8 (48+d))])=bs [48+d]:=fun d=>rfl
      have hout:∀ d:Int,d=((m.natAbs % 10:Nat):Int)→bs [48+d]++bs l.reverse=bs (l++[48+((m.natAbs % 10:Nat):Int)]).reverse:=by
        intro d hd'
        rw [List.reverse_append,bs_append,hd'];rfl
      by_cases hneg:m.tmod 10<0
      · have hng:decide (m.tmod 10<0)=true:=decide_eq_true hneg
        have hd':0 - m.tmod 10=((m.natAbs % 10:Nat):Int):=by rw [htm] at hneg ⊢;split at hneg<;>simp_all<;>omega
        refine pcZ hc (fSn m (m.tdiv 10) (bs l.reverse) (bs (l++[48+((m.natAbs % 10:Nat):Int)]).reverse) (decide (n<0))) ?_ hrec
        repeat' (first | exact aN | apply aI)
        all_goals (first | exact zN | (exact hmt) | (exact hng) | (exact hw) | (intro i hi;exact ⟨_,rfl⟩) | (show (bs [48+(0 - m.tmod 10)]).size+(bs l.reverse).size≤_;rw [hsz,bs_size];show 1+l.length≤_;omega) | (exact hout _ hd') | (show (_:Int)≤_;rw [hd'];omega) | (simp only [imin,imax];omega))
      · have hng:decide (m.tmod 10<0)=false:=decide_eq_false hneg
        have hd':m.tmod 10=((m.natAbs % 10:Nat):Int):=by rw [htm] at hneg ⊢;split at hneg<;>simp_all<;>omega
        refine pcZ hc (fSp m (m.tdiv 10) (bs l.reverse) (bs (l++[48+((m.natAbs % 10:Nat):Int)]).reverse) (decide (n<0))) ?_ hrec
        repeat' (first | exact aN | apply aI)
        all_goals (first | exact zN | (exact hmt) | (exact hng) | (exact hw) | (intro i hi;exact ⟨_,rfl⟩) | (show (bs [48+m.tmod 10]).size+(bs l.reverse).size≤_;rw [hsz,bs_size];show 1+l.length≤_;omega) | (exact hout _ hd') | (show (_:Int)≤_;rw [hd'];omega) | (simp only [imin,imax];omega))
  refine pcZ hc (fSz n (bs [])) ?_ (lp 20 n [] rfl (by omega) rfl (fun h=>by omega) (fun h=>h) h0 h1)
  and_intros
  all_goals (first | exact zN | (exact hz') | rfl)
def lsI (n:Nat) (f:Nat→Int):List Int:=(List.range n).map f
theorem lsI_ap (n:Nat) (f:Nat→Int) (x:Int):lsI (n+1) (apF n f x)=lsI n f++[x]:=by
  simp only [lsI,List.range_succ,List.map_append,List.map_cons,List.map_nil]
  congr 1
  · exact List.map_congr_left (fun i hi=>by simp [apF,List.mem_range.1 hi])
  · simp [apF]
theorem lsI_rev (n:Nat) (f g:Nat→Int) (h:∀ r,r<n→g r=f (n - 1 - r)):lsI n g=(lsI n f).reverse:=by
  apply List.ext_getElem
  · simp [lsI]
  · intro i h1 h2
    simp only [lsI,List.length_map,List.length_range] at h1
    simp [lsI,h i h1]
theorem con_FormatInt_i (n:Int) (h0:-9223372036854775808≤n) (h1:n≤9223372036854775807):zE 111 [.p (.int .i64 n)] [] (.p (.str (fmtI n))):=by
  refine csZ Tryz.func111 (fun c hc=>?_)
  by_cases hz:n=0
  · subst hz
    refine pkZ Tryz.func111 hc (fI0 0 (fmtI 0)) ?_
    and_intros
    all_goals (first | exact zN | rfl | (exact ByteArray.ext (by rw [fmtI,if_pos rfl,bs_data];rfl)))
  have hz':(n==0)=false:=by simpa using hz
  have lr:∀ L f0,L≤21→lsI L f0=fmtL n→∀ d i f,i+d=L→i≤L→2*i≤L+1→(∀ r,r<L→f r=if r<i∨L - i≤r then f0 (L - 1 - r) else f0 r) →
      zR c 111 zf28 (SFr L i ((L:Int) - 1 - i) f) (Post c [] (.p (.str (fmtI n)))):=by
    intro L f0 hL hl d
    have fin:∀ i f,i≤L→2*i≤L+1→L≤2*i+1→(∀ r,r<L→f r=if r<i∨L - i≤r then f0 (L - 1 - r) else f0 r) →
        zR c 111 zf28 (SFr L i ((L:Int) - 1 - i) f) (Post c [] (.p (.str (fmtI n)))):=by
      intro i f hi hi2 hi3 hf
      have hd:decide ((i:Int)<(L:Int) - 1 - i)=false:=decide_eq_false (by omega)
      have hrev:∀ r,r<L→f r=f0 (L - 1 - r):=by
        intro r hr
        rw [hf r hr]
        split
        · rfl
        · rename_i h
          rw [show L - 1 - r=r by omega]
      have he:=lsI_rev L f0 f hrev
      refine pkZ Tryz.func111 hc (fIe L i ((L:Int) - 1 - i) f (fmtI n)) ?_
      repeat' (first | exact aN | apply aI)
      all_goals (first | exact zN | (exact hd) | (intro r hr;exact ⟨_,rfl⟩) | (rw [bytesOf_bs];show bs (lsI L f)=_;rw [he,hl,fmtI,if_neg hz]))
    induction d with
    | zero =>
      intro i f hi hi1 hi2 hf
      exact fin i f hi1 hi2 (by omega) hf
    | succ d ih =>
      intro i f hi hi1 hi2 hf
      by_cases hlt:(i:Int)<(L:Int) - 1 - i
      · have hd:decide ((i:Int)<(L:Int) - 1 - i)=true:=decide_eq_true hlt
        have hj:((L:Int) - 1 - i).toNat=L - 1 - i:=by omega
        have hrec:=ih (i+1) (swF i ((L:Int) - 1 - i).toNat f) (by omega) (by omega) (by omega) (by
          intro r hr
          rw [hj]
          unfold swF
          by_cases e1:r=L - 1 - i
          · rw [if_pos e1,if_pos (by omega),hf i (by omega),if_neg (by omega),e1]
            rw [show L - 1 - (L - 1 - i)=i by omega]
          · rw [if_neg e1]
            by_cases e2:r=i
            · rw [if_pos e2,if_pos (by omega),hf (L - 1 - i) (by omega),if_neg (by omega),e2]
            · rw [if_neg e2,hf r hr]
              by_cases e3:r<i∨L - i≤r
              · rw [if_pos e3,if_pos (by omega)]
              · rw [if_neg e3,if_neg (by omega)])
        rw [show (L:Int) - 1 - ((i+1:Nat):Int)=(L:Int) - 1 - i - 1 by omega] at hrec
        refine pcD hc (fIs L i ((L:Int) - 1 - i) f) ?_ hrec
        and_intros
        all_goals (first | exact zI | (exact hd) | (intro r hr;generalize ((L:Int) - 1 - i).toNat=J;by_cases e1:r=J<;>by_cases e2:r=i<;>(first | (subst e2;simp [e1,swF,cvtL,cvt,tg,tru,All];done) | (simp [e1,e2,swF,cvtL,cvt,tg,tru,All];done))) | (simp only [imin,imax];omega))
      · exact fin i f hi1 hi2 (by omega) hf
  have lp:∀ f m l g,l+f=20→m.natAbs<10 ^ f→dg 20 n.natAbs=lsI l g++dg f m.natAbs→(n<0→m≤0)→(0≤n→0≤m)→-9223372036854775808≤m→m≤9223372036854775807 →
      zR c 111 zf43 (SFi n m l g) (Post c [] (.p (.str (fmtI n)))):=by
    have fin:∀ l g,dg 20 n.natAbs=lsI l g→l≤20→zR c 111 zf43 (SFi n 0 l g) (Post c [] (.p (.str (fmtI n)))):=by
      intro l g hl hl2
      by_cases hn:n<0
      · have hd:decide (n<0)=true:=decide_eq_true hn
        have hr:=lr (l+1) (apF l g 45) (by omega) (by rw [lsI_ap,fmtL,if_pos hn,hl]) (l+1) 0 (apF l g 45) (by omega) (by omega) (by omega) (fun r hr=>by rw [if_neg (by omega)])
        rw [show ((l+1:Nat):Int) - 1 - ((0:Nat):Int)=((l+1:Nat):Int) - 1 by omega] at hr
        refine pcZ hc (fIt n 0 l g) ?_ hr
        and_intros
        all_goals (first | exact zN | (exact hd) | (intro j hj;by_cases h':j<l<;>simp [h',apF,cvtL,cvt,tg,tru,All];done) | (simp only [imin,imax];omega))
      · have hd:decide (n<0)=false:=decide_eq_false hn
        have hr:=lr l g (by omega) (by rw [fmtL,if_neg hn,hl,List.append_nil]) l 0 g (by omega) (by omega) (by omega) (fun r hr=>by rw [if_neg (by omega)])
        rw [show (l:Int) - 1 - ((0:Nat):Int)=(l:Int) - 1 by omega] at hr
        refine pcZ hc (fIf n 0 l g) ?_ hr
        and_intros
        all_goals (first | exact zN | (exact hd) | (intro j hj;simp [All];done) | (simp only [imin,imax];omega))
    intro f
    induction f with
    | zero =>
      intro m l g hl hm hd hs1 hs2 hb1 hb2
      obtain rfl:m=0:=by simp at hm;omega
      exact fin l g (by rw [hd];simp [dg]) (by omega)
    | succ f ih =>
      intro m l g hl hm hd hs1 hs2 hb1 hb2
      by_cases hm0:m=0
      · subst hm0
        exact fin l g (by rw [hd];simp [dg]) (by omega)
      have hmt:(m != 0)=true:=by simpa using hm0
      have hma:m.natAbs≠0:=by omega
      have htd:=td10 m
      have hrec:=ih (m.tdiv 10) (l+1) (apF l g (48+((m.natAbs % 10:Nat):Int))) (by omega) (by rw [td_abs];rw [Nat.pow_succ] at hm;omega) (by rw [hd,td_abs,dg,if_neg hma,lsI_ap];simp) (by intro h;rw [htd];split<;>omega) (by intro h;rw [htd];split<;>omega) (by rw [htd];split<;>omega) (by rw [htd];split<;>omega)
      have hw:IntKind.i64.wrap (m.tdiv 10)=m.tdiv 10:=wrap_in (k:=.i64) (by show (-9223372036854775808:Int)≤_;rw [htd];split<;>omega) (by show _≤(9223372036854775807:Int);rw [htd];split<;>omega)
      have htm:=tm10 m
      by_cases hneg:m.tmod 10<0
      · have hng:decide (m.tmod 10<0)=true:=decide_eq_true hneg
        have hd':0 - m.tmod 10=((m.natAbs % 10:Nat):Int):=by rw [htm] at hneg ⊢;split at hneg<;>simp_all<;>omega
        refine pcZ hc (fIn n m (m.tdiv 10) l g (48+((m.natAbs % 10:Nat):Int))) ?_ hrec
        and_intros
        all_goals (first | exact zN | (exact hmt) | (exact hng) | (exact hw) | (intro j hj;by_cases h':j<l<;>simp [h',hd',apF,cvtL,cvt,tg,tru,All];done) | (show (_:Int)≤_;rw [hd'];omega) | (simp only [imin,imax];omega))
      · have hng:decide (m.tmod 10<0)=false:=decide_eq_false hneg
        have hd':m.tmod 10=((m.natAbs % 10:Nat):Int):=by rw [htm] at hneg ⊢;split at hneg<;>simp_all<;>omega
        refine pcZ hc (fIp n m (m.tdiv 10) l g (48+((m.natAbs % 10:Nat):Int))) ?_ hrec
        and_intros
        all_goals (first | exact zN | (exact hmt) | (exact hng) | (exact hw) | (intro j hj;by_cases h':j<l<;>simp [h',hd',apF,cvtL,cvt,tg,tru,All];done) | (show (_:Int)≤_;rw [hd'];omega) | (simp only [imin,imax];omega))
  refine pcZ hc (fIz n) ?_ (lp 20 n 0 (fun _=>0) rfl (by omega) (by simp [lsI]) (fun h=>by omega) (fun h=>h) h0 h1)
  and_intros
  all_goals (first | exact zN | (exact hz') | (intro j hj;exact absurd hj (Nat.not_lt_zero _)) | rfl)
def kDash:ByteArray:=⟨#[45]⟩
theorem kDash_z:(ByteArray.mk #[45]).size=1:=rfl
theorem lEn (x:T_Bar) (fa fb:ByteArray) :
    zS Tryz.f114 [rg 2,rm [(5,oc [] (.p (.str fa))),(6,oc [] (.p (.str fb)))] 2] [.agg [.p (.int .i64 x.1),.p (.int .i64 x.2.1)]] [] [] (.p (.str ((fa++kDash)++fb))) =
    some [(NT 0 1),(NT 0 1),zE 111 [.p (.int .i64 (if false=true then if x.2.1>x.1 then x.2.1 else x.1 else if x.2.1<x.1 then x.2.1 else x.1))] [] (.p (.str fa)),(NL (fa.size+(ByteArray.mk #[45]).size) 9223372036854775807),(NT 0 1),(NT 0 1),zE 111 [.p (.int .i64 (if true=true then if x.2.1>x.1 then x.2.1 else x.1 else if x.2.1<x.1 then x.2.1 else x.1))] [] (.p (.str fb)),(NL ((fa++ByteArray.mk #[45]).size+fb.size) 9223372036854775807),(fa++ByteArray.mk #[45]++fb=fa++kDash++fb)]:=by kernel_rfl
def enB (x:T_Bar):ByteArray:=(fmtI (if x.2.1<x.1 then x.2.1 else x.1)++kDash)++fmtI (if x.2.1>x.1 then x.2.1 else x.1)
theorem enB_size (x:T_Bar):(enB x).size≤43:=by
  have h1:=fmt_size (if x.2.1<x.1 then x.2.1 else x.1)
  have h2:=fmt_size (if x.2.1>x.1 then x.2.1 else x.1)
  unfold enB
  simp only [ByteArray.size_append,show kDash.size=1 from rfl]
  omega
theorem con_ends (x:T_Bar) (h0:-9223372036854775808≤x.1∧x.1≤9223372036854775807) (h1:-9223372036854775808≤x.2.1∧x.2.1≤9223372036854775807):zE 114 [.agg [.p (.int .i64 x.1),.p (.int .i64 x.2.1)]] [] (.p (.str (enB x))):=by
  have c1:=con_FormatInt_i (if x.2.1<x.1 then x.2.1 else x.1) (by split<;>omega) (by split<;>omega)
  have c2:=con_FormatInt_i (if x.2.1>x.1 then x.2.1 else x.1) (by split<;>omega) (by split<;>omega)
  have s1:=fmt_size (if x.2.1<x.1 then x.2.1 else x.1)
  have s2:=fmt_size (if x.2.1>x.1 then x.2.1 else x.1)
  unfold enB
  generalize fmtI (if x.2.1<x.1 then x.2.1 else x.1)=fa at *
  generalize fmtI (if x.2.1>x.1 then x.2.1 else x.1)=fb at *
  refine csZ Tryz.func114 (fun c hc=>?_)
  refine pkZ Tryz.func114 hc (lEn x fa fb) ?_
  and_intros
  all_goals (first | exact zN | (exact c1) | (exact c2) | (simp only [ByteArray.size_append,kDash_z];omega))
theorem con_l4Other (x:T_Bar) (v:Int) (h1:0≤x.1∧x.1≤1048576) (h2:0≤x.2.1∧x.2.1≤1048576) (h3:0≤v∧v≤1048576):zE 231 [brA x,.p (.int .i64 v)] [] (.p (.int .i64 (x.1+x.2.1 - v))):=by
  refine csZ Tryz.func231 (fun c hc=>?_)
  refine pkZ Tryz.func231 hc (qOt x v) ?_
  and_intros
  all_goals (first | exact zN | simp)
theorem con_l4Copy (N m:Nat) (F T Q:Nat→Int) (hN:N≤1048576) (hm:m≤1048576):zE 207 [pebD N m F T Q] (pebR N m F T Q) (pebO N m 0):=by
  refine csZ Tryz.func207 (fun c hc=>?_)
  refine pkD Tryz.func207 hc (qCp N m F T Q) ?_
  and_intros
  all_goals (first | exact zI | (intro i hi;simp [All]))
theorem oth_sum {x:T_Bar} {y z:Int} (h:y=x.1∨y=x.2.1) (hz:othF x y=z):x.1+x.2.1 - z=y∧x.1+x.2.1 - y=z:=by
  unfold othF at hz
  by_cases e:x.1=y
  · rw [if_pos e] at hz;omega
  · rw [if_neg e] at hz
    rcases h with h | h
    · exact absurd h.symm e
    · omega
theorem run_shift {N nb m:Nat} {g:Nat→T_Bar} {F F0 F1 T Q td FR:Nat→Int} {a b u:Int} {tn:Nat} (h:BInv N m g F T Q td (fun s=>FR (td s).toNat) a b tn) (hN:N≤1048576) (hm:m≤1048576) (hnb:nb≤1048576)
    (hq:∀ j,j<m→0≤Q j∧Q j<nb) (hbar:∀ e,e<nb→0≤(g e).1∧(g e).1<(g e).2.1∧(g e).2.1<N) (hT:∀ j,j<m→T j=(g (Q j).toNat).1∨T j=(g (Q j).toNat).2.1) :
    ∀ s,s<tn→∀ T':Nat→Int,TInv m g T Q td (fun s=>FR (td s).toNat) T' u s→∃ T'' s',(∀ c,c.n=0→zR c 232 zf32 (SSl g nb N m F0 T Q FR F1 T' a u (td s)) (Post c (pebR N m F1 T'' Q) (pebO N m 0))) ∧
      TInv m g T Q td (fun s=>FR (td s).toNat) T'' u s'∧td s'=a:=by
  intro s
  induction s using Nat.strongRecOn with
  | ind s ih =>
    intro hs T' ht
    by_cases he:td s=a
    · refine ⟨T',s,fun c hc=>?_,ht,he⟩
      have hb:(td s != a)=false:=by simp [he]
      refine pkD Tryz.func232 hc (qSe g nb N m F0 T Q FR F1 T' a u (td s)) ?_
      and_intros
      all_goals (first | exact zI | (exact hb) | (intro i hi;simp [All]))
    · have hs1:1≤s:=by
        cases s with
        | zero=>exact absurd h.td0 he
        | succ s=>omega
      obtain ⟨j,hj,hVs,s',hs',hk,ht',hTj,hoth⟩:=ht.step h hs hs1
      have hVs:FR (td s).toNat=(j:Int):=hVs
      obtain ⟨T'',s'',hrun,h1,h2⟩:=ih s' hs' (by omega) _ ht'
      refine ⟨T'',s'',fun c hc=>?_,h1,h2⟩
      have hb:(td s != a)=true:=by simp [he]
      have hqj:=hq j hj
      have hbj:=hbar (Q j).toNat (by omega)
      have hrs:=h.rng s hs
      have hsum:=(oth_sum (by rw [← hTj];exact hT j hj) hoth).1
      have hcon:=con_l4Other (g (Q j).toNat) (td s) (by omega) (by omega) (by omega)
      rw [hsum] at hcon
      refine pcD hc (qSl g nb N m F0 T Q FR F1 T' a u (td s) (td s')) ?_ (by rw [hVs];simp only [Int.toNat_natCast];exact hrun c hc)
      and_intros
      all_goals (first | exact zI | (exact hb) | (rw [hVs];simp only [Int.toNat_natCast];omega) | (rw [hVs];simp only [Int.toNat_natCast];exact hcon) | (intro i hi;simp [All];done) | (simp only [hVs,Int.toNat_natCast];intro i hi;by_cases h:i=j<;>simp [h,cvtL,cvt,tg,tru,All]))
theorem BInv.congrV {N m:Nat} {g:Nat→T_Bar} {F T Q td V V':Nat→Int} {a b:Int} {tn:Nat} (h:BInv N m g F T Q td V a b tn) (hv:∀ s,s<tn→V s=V' s):BInv N m g F T Q td V' a b tn :=
  ⟨h.n1,h.td0,h.rng,h.inj,fun s h1 h2=>by rw [← hv s h2];exact h.par s h1 h2⟩
theorem con_l4Shift {N k nb m:Nat} {g:Nat→T_Bar} {F T Q td FR:Nat→Int} {a b u:Int} {tn:Nat} (hp:PInv N k nb m g F T Q) (hk:k≤1048576) (hN:N≤1048576) (hm:m≤1048576) (hnb:nb≤1048576)
    (h:BInv N m g F T Q td (fun s=>FR (td s).toNat) a b (tn+1)) (htn:td tn=u) (ha:0≤a∧a<N) (hu:0≤u∧u<N) (hua:u≠a) :
    ∃ T'' s',zE 232 [grG g nb N,pebD N m F T Q,inD N FR,.p (.int .i64 a),.p (.int .i64 u)] (pebR N m (fun x=>if x=a.toNat then (if x=u.toNat then F x - 1 else F x)+1 else (if x=u.toNat then F x - 1 else F x)) T'' Q) (pebO N m 0) ∧
      TInv m g T Q td (fun s=>FR (td s).toNat) T'' u s'∧td s'=a:=by
  have ht0:TInv m g T Q td (fun s=>FR (td s).toNat) T u tn:=⟨fun _ _ _=>rfl,hp.t,fun x=>by rw [htn];omega⟩
  obtain ⟨T'',s',hrun,h1,h2⟩:=run_shift (nb:=nb) (F0:=F) (F1:=fun x=>if x=a.toNat then (if x=u.toNat then F x - 1 else F x)+1 else (if x=u.toNat then F x - 1 else F x)) h hN hm hnb hp.q hp.bars hp.t tn (by omega) T ht0
  refine ⟨T'',s',?_,h1,h2⟩
  rw [htn] at hrun
  have hFa:=hp.le (v:=a.toNat) (by omega)
  have hFu:=hp.le (v:=u.toNat) (by omega)
  have hcc:=con_l4Copy N m F T Q hN hm
  refine csZ Tryz.func232 (fun c hc=>?_)
  have hrun':=hrun c hc
  refine pcD hc (qSz g nb N m F T Q FR a u) ?_ ?_
  ·
    and_intros
    all_goals (first | exact zI | (exact hcc) | (intro i hi;simp [All];done) | (intro i hi;by_cases h:i=u.toNat<;>simp [h,cvtL,cvt,tg,tru,All]))
  · have hF1:(fun s=>if s=u.toNat then F s - 1 else F s) a.toNat=F a.toNat:=by
      show (if a.toNat=u.toNat then F a.toNat - 1 else F a.toNat)=_
      rw [if_neg (by omega)]
    obtain ⟨F1,hF1d⟩:∃ F1:Nat→Int,F1=(fun s=>if s=u.toNat then F s - 1 else F s):=⟨_,rfl⟩
    have hFF:(fun x=>if x=a.toNat then (if x=u.toNat then F x - 1 else F x)+1 else (if x=u.toNat then F x - 1 else F x))=(fun s=>if s=a.toNat then F1 s+1 else F1 s):=by
      subst hF1d;rfl
    rw [hFF] at hrun' ⊢
    rw [← hF1d] at hF1 ⊢
    refine pcD hc (qSa g nb N m F T Q FR F1 T a u) ?_ hrun'
    and_intros
    all_goals (first | exact zI | (rw [hF1];omega) | (intro i hi;simp [All];done) | (intro i hi;by_cases h:i=a.toNat<;>simp [h,cvtL,cvt,tg,tru,All]))
inductive FindR (N k nb m:Nat) (g:Nat→T_Bar) (F T Q:Nat→Int) (a b:Int):Hp→AV→Prop
  | yes (F' T':Nat→Int) (h:Moved N k nb m g F T Q a b F' T' true):FindR N k nb m g F T Q a b (pebR3 N m F T Q F' T' Q) (.tup [pebO N m 3,.p (.bool true)])
  | no (h:Moved N k nb m g F T Q a b F T false):FindR N k nb m g F T Q a b (pebR N m F T Q) (.tup [pebO N m 0,.p (.bool false)])
def OutS (N k nb m:Nat) (g:Nat→T_Bar) (F T Q:Nat→Int) (a b:Int) (i tn:Nat) (td FR:Nat→Int) (SN:Nat→Bool):Prop :=
  ∃ H' res,(∀ c,c.n=3→zR c 222 [.code (cAt (bodyOf Tryz.f222) [1,1,1,1,1,1,0,1,0,0]),.inLoop (cAt (bodyOf Tryz.f222) [1,1,1,1,1,1,0,1,0,0]),.inBlock 2,.code (cAt (bodyOf Tryz.f222) [1,1,1,1,1,1,1])] (SF1 g nb N m F T Q td FR SN a b i tn) (Post c H' res))∧FindR N k nb m g F T Q a b H' res
def MidS (N k nb m:Nat) (g:Nat→T_Bar) (F T Q:Nat→Int) (a b:Int) (i j tn:Nat) (td FR:Nat→Int) (SN:Nat→Bool):Prop :=
  ∃ H' res,(∀ c,c.n=3→zR c 222 [.code (cAt (bodyOf Tryz.f222) [1,1,1,1,1,1,0,1,0,0,1,0,0,1,1,0,0]),.inLoop (cAt (bodyOf Tryz.f222) [1,1,1,1,1,1,0,1,0,0,1,0,0,1,1,0,0]),.inBlock 4,.inBlock 3,.code (cAt (bodyOf Tryz.f222) [1,1,1,1,1,1,0,1,0,0,1,1]),.inLoop (cAt (bodyOf Tryz.f222) [1,1,1,1,1,1,0,1,0,0]),.inBlock 2,.code (cAt (bodyOf Tryz.f222) [1,1,1,1,1,1,1])] (SF2 g nb N m F T Q td FR SN a b (td i) i j tn) (Post c H' res))∧FindR N k nb m g F T Q a b H' res
def SeenI (N:Nat) (td:Nat→Int) (SN:Nat→Bool) (tn:Nat):Prop:=∀ x:Nat,x<N→(SN x=true↔∃ s,s<tn∧td s=x)
theorem mid_s {N k nb m:Nat} {g:Nat→T_Bar} {F T Q:Nat→Int} {a b:Int} (hp:PInv N k nb m g F T Q) (hk:k≤1048576) (hN:N≤1048576) (hm:m≤1048576) (hnb:nb≤1048576)
    (ha:0≤a∧a<N) (hb:0≤b∧b<N) (hab:a≠b) (i:Nat)
    (ih:∀ tn td FR SN,i+1≤tn→BInv N m g F T Q td (fun s=>FR (td s).toNat) a b tn→SeenI N td SN tn→BZero F td b tn→BClo m g T Q td (i+1) 0 tn→OutS N k nb m g F T Q a b (i+1) tn td FR SN) :
    ∀ e j tn td FR SN,j+e=m→i<tn→BInv N m g F T Q td (fun s=>FR (td s).toNat) a b tn→SeenI N td SN tn→BZero F td b tn→BClo m g T Q td i j tn→MidS N k nb m g F T Q a b i j tn td FR SN:=by
  intro e
  induction e with
  | zero =>
    intro j tn td FR SN hj hi hbi hsn hz hcl
    have htn:=pigeon N tn td hbi.rng hbi.inj
    obtain ⟨H',res,hrun,hmv⟩:=ih tn td FR SN (by omega) hbi hsn hz (fun i' j' hij hi' hT=>by
      rcases hij with ⟨h1,h2⟩ | ⟨h1,h2⟩
      · by_cases e:i'=i
        · exact hcl i' j' (.inr ⟨e,by omega⟩) hi' hT
        · exact hcl i' j' (.inl ⟨by omega,h2⟩) hi' hT
      · omega)
    refine ⟨H',res,fun c hc=>?_,hmv⟩
    have hd:decide ((j:Int)<(m:Int))=false:=by simp;omega
    refine pcD hc (qF2e g nb N m F T Q td FR SN a b (td i) i j tn) ?_ (hrun c hc)
    and_intros
    all_goals (first | exact zN | (intro i hi;simp [All]))
  | succ e ihe =>
    intro j tn td FR SN hj hi hbi hsn hz hcl
    have htn:=pigeon N tn td hbi.rng hbi.inj
    have hjm:j<m:=by omega
    have hd:decide ((j:Int)<(m:Int))=true:=by simp;omega
    have hq:=hp.q j hjm
    have hbar:=hp.bars (Q j).toNat (by omega)
    have hrg:=hbi.rng i hi
    by_cases hT:T j=td i
    · have ht1:(T j != td i)=false:=by simp [hT]
      obtain ⟨v,hv⟩:∃ v,othF (g (Q j).toNat) (td i)=v:=⟨_,rfl⟩
      have hvr:0≤v∧v<N:=by rw [← hv];exact othF_in hbar
      have hsum:=(oth_sum (by rw [← hT];exact hp.t j hjm) hv).2
      have hcon:=con_l4Other (g (Q j).toNat) (td i) (by omega) (by omega) (by omega)
      rw [hsum] at hcon
      cases hh:SN v.toNat with
      | true =>
        obtain ⟨s,hs1,hs2⟩:=(hsn v.toNat (by omega)).1 hh
        obtain ⟨H',res,hrun,hmv⟩:=ihe (j+1) tn td FR SN (by omega) hi hbi hsn hz (fun i' j' hij hi' hTT=>by
          by_cases e:i'=i∧j'=j
          · obtain ⟨rfl,rfl⟩:=e
            exact ⟨s,hs1,by rw [hs2,hv];omega⟩
          · exact hcl i' j' (by omega) hi' hTT)
        refine ⟨H',res,fun c hc=>?_,hmv⟩
        refine pcD hc (qF2b g nb N m F T Q td FR SN a b (td i) v i j tn) ?_ (hrun c hc)
        and_intros
        all_goals (first | exact zN | (exact ht1) | (exact hcon) | (exact hh) | (intro i hi;simp [All]))
      | false =>
        have hno:∀ s,s<tn→td s≠v:=by
          intro s hs e
          have:=(hsn v.toNat (by omega)).2 ⟨s,hs,by omega⟩
          rw [hh] at this;cases this
        have hadd0:=hbi.add hi hjm hT hv hvr hno
        have hadd:BInv N m g F T Q (fun s=>if s<tn then td s else v) (fun s=>(fun x=>if x=v.toNat then (j:Int) else FR x) ((fun s=>if s<tn then td s else v) s).toNat) a b (tn+1):=by
          refine hadd0.congrV (fun s hs=>?_)
          show (if s<tn then FR (td s).toNat else (j:Int))=(if (if s<tn then td s else v).toNat=v.toNat then (j:Int) else FR (if s<tn then td s else v).toNat)
          by_cases e:s<tn
          · have h1:=hno s e
            have h2:=hbi.rng s e
            rw [if_pos e,if_pos e,if_neg (show ¬ (td s).toNat=v.toNat by omega)]
          · rw [if_neg e,if_neg e,if_pos rfl]
        have hF:=hp.le (v:=v.toNat) (by omega)
        cases hcd:(bif v != b then decide (F v.toNat>0) else false) with
        | false =>
          have hzv:v=b∨F v.toNat=0:=by
            by_cases e:v=b
            · exact .inl e
            · right
              have:(v != b)=true:=by simp [e]
              rw [this] at hcd
              simp at hcd
              omega
          obtain ⟨H',res,hrun,hmv⟩:=ihe (j+1) (tn+1) (fun s=>if s<tn then td s else v) (fun x=>if x=v.toNat then (j:Int) else FR x) (fun s=>if s=v.toNat then true else SN s) (by omega) (by omega) hadd (fun x hx=>by
            show (if x=v.toNat then true else SN x)=true↔∃ s,s<tn+1∧(if s<tn then td s else v)=x
            by_cases e:x=v.toNat
            · rw [if_pos e]
              exact ⟨fun _=>⟨tn,by omega,by rw [if_neg (Nat.lt_irrefl tn)];omega⟩,fun _=>rfl⟩
            · rw [if_neg e,hsn x hx]
              constructor
              · rintro ⟨s,h1,h2⟩;exact ⟨s,by omega,by rw [if_pos h1];exact h2⟩
              · rintro ⟨s,h1,h2⟩
                by_cases e2:s<tn
                · rw [if_pos e2] at h2;exact ⟨s,e2,h2⟩
                · rw [if_neg e2] at h2;omega) (fun s h1 h2=>by
            show (if s<tn then td s else v)=b∨F (if s<tn then td s else v).toNat=0
            by_cases e:s<tn
            · rw [if_pos e];exact hz s h1 e
            · rw [if_neg e];exact hzv) (fun i' j' hij hi' hTT=>by
            have hi2:i'<tn:=by omega
            have hTT':T j'=td i':=by rw [hTT];show (if i'<tn then td i' else v)=_;rw [if_pos hi2]
            show ∃ s,s<tn+1∧(if s<tn then td s else v)=othF (g (Q j').toNat) (if i'<tn then td i' else v)
            rw [if_pos hi2]
            by_cases e:i'=i∧j'=j
            · obtain ⟨rfl,rfl⟩:=e
              exact ⟨tn,by omega,by rw [if_neg (Nat.lt_irrefl tn),hv]⟩
            · obtain ⟨s,h1,h2⟩:=hcl i' j' (by omega) hi2 hTT'
              exact ⟨s,by omega,by rw [if_pos h1];exact h2⟩)
          refine ⟨H',res,fun c hc=>?_,hmv⟩
          have hrun':=hrun c hc
          simp only [hi,if_true] at hrun'
          refine pcD hc (qF2c g nb N m F T Q td FR SN a b (td i) v i j tn) ?_ hrun'
          and_intros
          all_goals (first | exact zI | (exact ht1) | (exact hcon) | (exact hh) | (exact hcd) | (intros;omega) | (intro i hi;simp [All];done) | (intro i hi;by_cases h:i<tn<;>simp [h,cvtL,cvt,tg,tru,All];done) | (intro i hi;by_cases h:i=v.toNat<;>simp [h,cvtL,cvt,tg,tru,All]))
        | true =>
          have hvb:v≠b:=by
            intro e
            rw [show (v != b)=false by simp [e]] at hcd
            cases hcd
          have hFv:F v.toNat≠0:=by
            intro e
            rw [show (v != b)=true by simp [hvb]] at hcd
            simp [e] at hcd
          have hva:v≠a:=by
            have:=hno 0 (by have:=hbi.n1;omega)
            rw [hbi.td0] at this
            exact Ne.symm this
          obtain ⟨T'',s',hcs,h1,h2⟩:=con_l4Shift (td:=fun s=>if s<tn then td s else v) (FR:=fun x=>if x=v.toNat then (j:Int) else FR x) (tn:=tn) hp hk hN hm hnb hadd (by show (if tn<tn then td tn else v)=v;rw [if_neg (Nat.lt_irrefl tn)]) ha hvr hva
          refine ⟨_,_,fun c hc=>?_,.yes _ T'' (moved_yes hp ha hb hab hvr hva hvb hFv h1 h2)⟩
          refine pcD hc (qF2d g nb N m F T Q td FR SN a b (td i) v i j tn) ?_ ?_
          ·
            and_intros
            all_goals (first | exact zI | (exact ht1) | (exact hcon) | (exact hh) | (exact hcd) | (intros;omega) | (intro i hi;simp [All];done) | (intro i hi;by_cases h:i=v.toNat<;>simp [h,cvtL,cvt,tg,tru,All]))
          · refine pkD Tryz.func222 hc (qF3 g nb N m F T Q (fun s=>if s=v.toNat then (j:Int) else FR s) _ T'' a b v) ?_
            and_intros
            all_goals (first | exact zI | (exact hcs) | (intro i hi;simp [All]))
    · have ht1:(T j != td i)=true:=by simp [hT]
      obtain ⟨H',res,hrun,hmv⟩:=ihe (j+1) tn td FR SN (by omega) hi hbi hsn hz (fun i' j' hij hi' hTT=>by
        by_cases e:i'=i∧j'=j
        · obtain ⟨rfl,rfl⟩:=e
          exact absurd hTT hT
        · exact hcl i' j' (by omega) hi' hTT)
      refine ⟨H',res,fun c hc=>?_,hmv⟩
      refine pcD hc (qF2a g nb N m F T Q td FR SN a b (td i) i j tn) ?_ (hrun c hc)
      and_intros
      all_goals (first | exact zN | (exact ht1) | (intro i hi;simp [All]))
theorem out_s {N k nb m:Nat} {g:Nat→T_Bar} {F T Q:Nat→Int} {a b:Int} (hp:PInv N k nb m g F T Q) (hk:k≤1048576) (hN:N≤1048576) (hm:m≤1048576) (hnb:nb≤1048576)
    (ha:0≤a∧a<N) (hb:0≤b∧b<N) (hab:a≠b):∀ d i tn td FR SN,N+1≤i+d→i≤tn→BInv N m g F T Q td (fun s=>FR (td s).toNat) a b tn→SeenI N td SN tn→BZero F td b tn→BClo m g T Q td i 0 tn→OutS N k nb m g F T Q a b i tn td FR SN:=by
  intro d
  induction d with
  | zero =>
    intro i tn td FR SN hd hi hbi _ _ _
    have:=pigeon N tn td hbi.rng hbi.inj
    omega
  | succ d ih =>
    intro i tn td FR SN hd hi hbi hsn hz hcl
    have htn:=pigeon N tn td hbi.rng hbi.inj
    by_cases hit:i<tn
    · have hd':decide ((i:Int)<(tn:Int))=true:=by simp;omega
      obtain ⟨H',res,hrun,hmv⟩:=mid_s hp hk hN hm hnb ha hb hab i (fun tn td FR SN h1 h2 h3 h4 h5=>ih (i+1) tn td FR SN (by omega) h1 h2 h3 h4 h5) m 0 tn td FR SN (by omega) hit hbi hsn hz hcl
      refine ⟨H',res,fun c hc=>?_,hmv⟩
      refine pcD hc (qF1 g nb N m F T Q td FR SN a b i tn) ?_ (hrun c hc)
      and_intros
      all_goals (first | exact zN | (intro i hi;simp [All]))
    · have hd':decide ((i:Int)<(tn:Int))=false:=by simp;omega
      obtain rfl:i=tn:=by omega
      refine ⟨_,_,fun c hc=>?_,.no (moved_no hp hbi hz hcl)⟩
      refine pkD Tryz.func222 hc (qF1e g nb N m F T Q td FR SN a b i i) ?_
      and_intros
      all_goals (first | exact zI | (intro i hi;simp [All]))
theorem con_l4Find {N k nb m:Nat} {g:Nat→T_Bar} {F T Q:Nat→Int} {a b:Int} (hp:PInv N k nb m g F T Q) (hk:k≤1048576) (hN:N≤1048576) (hm:m≤1048576) (hnb:nb≤1048576)
    (ha:0≤a∧a<N) (hb:0≤b∧b<N) (hab:a≠b):∃ H' res,Con Tryz.prog 222 3 (pebR N m F T Q) [grG g nb N,pebO N m 0,.p (.int .i64 a),.p (.int .i64 b)] H' res∧FindR N k nb m g F T Q a b H' res:=by
  obtain ⟨H',res,hrun,hmv⟩:=out_s hp hk hN hm hnb ha hb hab (N+1) 0 1 (fun _=>a) (fun _=>-1) (fun s=>if s=a.toNat then true else false) (by omega) (by omega)
    ⟨by omega,rfl,fun s hs=>ha,fun s s' h1 h2=>by omega,fun s h1 h2=>by omega⟩ (fun x hx=>by
      show (if x=a.toNat then true else false)=true↔∃ s,s<1∧a=x
      by_cases e:x=a.toNat
      · rw [if_pos e];exact ⟨fun _=>⟨0,by omega,by omega⟩,fun _=>rfl⟩
      · rw [if_neg e];exact ⟨(fun h=>by cases h),(fun ⟨s,h1,h2⟩=>by omega)⟩) (fun s h1 h2=>by omega) (fun i' j' h=>by omega)
  refine ⟨H',res,?_,hmv⟩
  refine csZ Tryz.func222 (fun c hc=>?_)
  have lp0:∀ d i,i+d=N→zR c 222 zf57 (SF0 g nb N m F T Q a b i) (Post c H' res):=by
    intro d
    induction d with
    | zero =>
      intro i hi
      obtain rfl:i=N:=by omega
      have hd:decide ((i:Int)<(i:Int))=false:=by simp
      refine pcD hc (qF01 g nb i m F T Q a b i) ?_ (hrun c hc)
      and_intros
      iterate 2 all_goals (first | exact zI | (intro j hj;simp [All];done) | (intro j hj;simp [hj,All];done) | (intro j hj;by_cases h:j=a.toNat<;>simp [h,cvtL,cvt,tg,tru,All]) | simp only [All])
    | succ d ih =>
      intro i hi
      have hd:decide ((i:Int)<(N:Int))=true:=by simp;omega
      refine pcD hc (qF0 g nb N m F T Q a b i) ?_ (ih (i+1) (by omega))
      and_intros
      all_goals (first | exact zI | (intro j hj;simp [All];done) | (intro j hj;by_cases h:j=i<;>simp [h,Nat.lt_succ_iff_lt_or_eq,cvtL,cvt,tg,tru,All]))
  refine pcD hc (qFz g nb N m F T Q a b) ?_ (lp0 N 0 (by omega))
  and_intros
  iterate 2 all_goals (first | exact zN | (intro i hi;simp [All]) | simp only [All])
def SH (g:Nat→T_Bar) (nb N m:Nat) (F0 T0 F T Q:Nat→Int) (a b want:Int):St :=
  ⟨[grG g nb N,pebD N m F0 T0 Q,.p (.int .i64 a),.p (.int .i64 b),.p (.int .i64 want),.pt 2 0 0 0,.pt 3 1 0 0,.p .any,.p .any,.p .any,.pt 3 2 0 0,.p .any,.pt 3 3 0 0]++List.replicate 40 anyA,
   [(0,bxG g nb N),(1,bxD N m F0 T0 Q),(2,bx0),(3,bxP N m 4),(4,iOb N F),(5,iOb m T),(6,iOb m Q)],7⟩
def SNc (g:Nat→T_Bar) (nb N k:Nat):St :=
  ⟨[.p .any,.p (.int .i64 k),.pt 2 0 0 0,.p .any,.pt 3 1 0 0,.p .any,.pt 3 2 0 0]++List.replicate 27 anyA,
   [(0,bxG g nb N),(1,bx0),(2,⟨true,3,1,fun _=>[.ar 1 3 0 0,.ar 1 4 0 0,.ar 1 5 0 0]⟩),(3,iOb 0 (fun _=>k)),(4,iOb 0 (fun _=>0)),(5,iOb 0 (fun _=>0))],6⟩
def SN0 (g:Nat→T_Bar) (nb N k i:Nat):St :=
  ⟨[.p .any,.p (.int .i64 k),.pt 2 0 0 0,.p .any,.pt 3 1 0 0,.p .any,.pt 3 2 0 0,.p (.int .i64 i)]++List.replicate 26 anyA,
   [(0,bxG g nb N),(1,bx0),(2,⟨true,3,1,fun _=>[.ar 1 3 0 i,.ar 1 4 0 0,.ar 1 5 0 0]⟩),(3,iOb i (fun _=>k)),(4,iOb 0 (fun _=>0)),(5,iOb 0 (fun _=>0))],6⟩
def SR (g:Nat→T_Bar) (nb N m i:Nat) (F T Q:Nat→Int):St :=
  ⟨[grG g nb N,.pt 2 0 0 0,.p .any,.pt 3 1 0 0,.p .any,.p (.int .i64 m),.p (.int .i64 i)]++List.replicate 77 anyA,
   [(0,bxG g nb N),(1,bxP N m 2),(2,iOb N F),(3,iOb m T),(4,iOb m Q)],5⟩
theorem qHz (g:Nat→T_Bar) (nb N m:Nat) (F T Q:Nat→Int) (a b want:Int) :
    zT Tryz.f208 [rg 4,rm [(1,oc (pebR N m F T Q) (pebO N m 0))] 2,.head] [grG g nb N,pebD N m F T Q,.p (.int .i64 a),.p (.int .i64 b),.p (.int .i64 want)] [0,32,64,192,160,161,162] (SH g nb N m F T F T Q a b want) =
    some (zf84,zD [(NT 0 1),zE 207 [(zf56 N F m T Q)] (zf38 N F m T Q) (.agg [.ar 1 0 0 N,.ar 1 1 0 m,.ar 1 2 0 m]),((true=true)→ (AN 1)),(AI ((↑N:Int))),(AN nb),(AP nb (bRw g)),(AN N),(AP N (fun i=>[.int .i64 (F i)])),(AN m),(AP m (fun i=>[.int .i64 (T i)])),(AP m (fun i=>[.int .i64 (Q i)])),(AI a),(AI b),(AI want),(AN 0),((([AV.p (PV.int IntKind.i64 (↑N:Int)),brL g nb].length):Nat)=2),(NL 1 1),((([inD N F,inD m T,inD m Q].length):Nat)=3),((((List.map (fun v=>AV.p (absV v)) [Value.slice none 0 0,Value.slice none 0 0,Value.slice none 0 0]).length):Nat)=3),(AN 1),(NL N N),(AA N (fun i=>[.p (.int .i64 (F i))])),(NL m m),(AA m (fun i=>[.p (.int .i64 (T i))])),(AA m (fun i=>[.p (.int .i64 (Q i))]))] [0,1,0,2,3,4,5,6,7,8,9,8,10,11,12,13,14,14,14,14,15,16,16,3,4,5,17,16,16,6,7,8,9,8,10,18,16,16,18,16,16,14,6,14,8,14,8,19,20,21,19,22,23,19,22,24]):=by kernel_rfl
theorem qHa (g:Nat→T_Bar) (nb N m:Nat) (F0 T0 F T Q F1 T1:Nat→Int) (a b want:Int) :
    zM 0 [rg 13,.dec true,rm [(4,oq [4,5,6] (pebR3 N m F T Q F1 T1 Q) (.tup [pebO N m 3,.p (.bool true)]))] 6,rg 2,.dec false,rg 2,.dec false,rg 2,.head] zf84 (SH g nb N m F0 T0 F T Q a b want) [0,1,2,3,551,552,553] 1 (SH g nb N m F0 T0 F1 T1 Q a b want) =
    some (zf84,zD [(NT 0 1),(IL 0 a),(IT a (↑N:Int)),(NT a.toNat N),(IL 0 b),(IT b (↑N:Int)),(NT b.toNat N),(ZLo (F a.toNat+F b.toNat)),(ZHi (F a.toNat+F b.toNat)),((decide (F (a.toNat+0)+F (b.toNat+0)<want))=true),(AE N),(AE m),Con Tryz.prog 222 3 (zf38 N F m T Q) [(zf104 N nb g),.agg [.ar 1 0 0 N,.ar 1 1 0 m,.ar 1 2 0 m],.p (.int .i64 a),.p (.int .i64 b)] (zf10 N F m T Q F1 T1) (.tup [.agg [.ar 1 3 0 N,.ar 1 4 0 m,.ar 1 5 0 m],.p (.bool true)]),((true=true)→ (AN 1)),((!true)=false),(AI ((↑N:Int))),(AN nb),(AP nb (bRw g)),(AN N),(AP N (fun i=>[.int .i64 (F0 i)])),(AN m),(AP m (fun i=>[.int .i64 (T0 i)])),(AP m (fun i=>[.int .i64 (Q i)])),(AI a),(AI b),(AI want),(AN 0),(AN 2),(NL 1 1),(AN 3),(AN 1),(NL N N),(AA N (fun i=>[.p (.int .i64 (F1 i))])),(NL m m),(AA m (fun i=>[.p (.int .i64 (T1 i))])),(AA m (fun i=>[.p (.int .i64 (Q i))]))] [0,1,2,3,0,4,5,6,7,8,9,0,0,10,11,11,12,0,13,14,14,0,0,13,15,16,17,18,19,20,21,20,22,23,24,25,26,26,26,26,27,28,28,15,16,17,29,28,28,18,19,20,21,20,22,29,28,28,29,28,28,26,18,26,20,26,20,30,31,32,30,33,34,30,33,35]):=by kernel_rfl
theorem qHb (g:Nat→T_Bar) (nb N m:Nat) (F0 T0 F T Q F1 T1:Nat→Int) (a b want:Int) :
    zM 0 [rg 13,.dec true,rm [(4,oq [4,5,6] (pebR N m F T Q) (.tup [pebO N m 0,.p (.bool false)]))] 6,rg 2,.dec true,rm [(4,oq [4,5,6] (pebR3 N m F T Q F1 T1 Q) (.tup [pebO N m 3,.p (.bool true)]))] 5,rg 2,.dec false,rg 2,.head] zf84 (SH g nb N m F0 T0 F T Q a b want) [0,1,2,3,967,968,969] 1 (SH g nb N m F0 T0 F1 T1 Q a b want) =
    some (zf84,zD [(NT 0 1),(IL 0 a),(IT a (↑N:Int)),(NT a.toNat N),(IL 0 b),(IT b (↑N:Int)),(NT b.toNat N),(ZLo (F a.toNat+F b.toNat)),(ZHi (F a.toNat+F b.toNat)),((decide (F (a.toNat+0)+F (b.toNat+0)<want))=true),(AE N),(AE m),Con Tryz.prog 222 3 (zf38 N F m T Q) [(zf104 N nb g),.agg [.ar 1 0 0 N,.ar 1 1 0 m,.ar 1 2 0 m],.p (.int .i64 a),.p (.int .i64 b)] (zf38 N F m T Q) ((zf119 N m)),((true=true)→ (AN 1)),((!false)=true),Con Tryz.prog 222 3 (zf38 N F m T Q) [(zf104 N nb g),.agg [.ar 1 0 0 N,.ar 1 1 0 m,.ar 1 2 0 m],.p (.int .i64 b),.p (.int .i64 a)] (zf10 N F m T Q F1 T1) (.tup [.agg [.ar 1 3 0 N,.ar 1 4 0 m,.ar 1 5 0 m],.p (.bool true)]),((!true)=false),(AI ((↑N:Int))),(AN nb),(AP nb (bRw g)),(AN N),(AP N (fun i=>[.int .i64 (F0 i)])),(AN m),(AP m (fun i=>[.int .i64 (T0 i)])),(AP m (fun i=>[.int .i64 (Q i)])),(AI a),(AI b),(AI want),(AN 0),(AN 2),(NL 1 1),(AN 3),(AN 1),(NL N N),(AA N (fun i=>[.p (.int .i64 (F1 i))])),(NL m m),(AA m (fun i=>[.p (.int .i64 (T1 i))])),(AA m (fun i=>[.p (.int .i64 (Q i))]))] [0,1,2,3,0,4,5,6,7,8,9,0,0,10,11,11,12,0,13,14,0,0,10,11,11,15,0,13,16,0,0,13,17,18,19,20,21,22,23,22,24,25,26,27,28,28,28,28,29,30,30,17,18,19,31,30,30,20,21,22,23,22,24,31,30,30,31,30,30,28,20,28,22,28,22,32,33,34,32,35,36,32,35,37]):=by kernel_rfl
theorem qHc (g:Nat→T_Bar) (nb N m:Nat) (F0 T0 F T Q:Nat→Int) (a b want:Int) :
    zP Tryz.f208 0 [rg 13,.dec true,rm [(4,oq [4,5,6] (pebR N m F T Q) (.tup [pebO N m 0,.p (.bool false)]))] 6,rg 2,.dec true,rm [(4,oq [4,5,6] (pebR N m F T Q) (.tup [pebO N m 0,.p (.bool false)]))] 5,rg 2,.dec true,rg 3] zf84 (SH g nb N m F0 T0 F T Q a b want) [4,5,6] 1 (pebR N m F T Q) (.tup [pebO N m 0,.p (.bool false)]) =
    some (zD [(NT 0 1),(IL 0 a),(IT a (↑N:Int)),(NT a.toNat N),(IL 0 b),(IT b (↑N:Int)),(NT b.toNat N),(ZLo (F a.toNat+F b.toNat)),(ZHi (F a.toNat+F b.toNat)),((decide (F (a.toNat+0)+F (b.toNat+0)<want))=true),(AE N),(AE m),Con Tryz.prog 222 3 (zf38 N F m T Q) [(zf104 N nb g),.agg [.ar 1 0 0 N,.ar 1 1 0 m,.ar 1 2 0 m],.p (.int .i64 a),.p (.int .i64 b)] (zf38 N F m T Q) ((zf119 N m)),((true=true)→ (AN 1)),((!false)=true),Con Tryz.prog 222 3 (zf38 N F m T Q) [(zf104 N nb g),.agg [.ar 1 0 0 N,.ar 1 1 0 m,.ar 1 2 0 m],.p (.int .i64 b),.p (.int .i64 a)] (zf38 N F m T Q) ((zf119 N m)),(AN 0),(AN N),(AN m),(false=false),(AN 1),(NL N N),(AA N (fun i=>[.p (.int .i64 (F i))])),(NL m m),(AA m (fun i=>[.p (.int .i64 (T i))])),(AA m (fun i=>[.p (.int .i64 (Q i))]))] [0,1,2,3,0,4,5,6,7,8,9,0,0,10,11,11,12,0,13,14,0,0,10,11,11,15,0,13,14,0,0,13,0,16,17,16,18,16,18,19,20,21,22,20,23,24,20,23,25,10,11,11]):=by kernel_rfl
theorem qHd (g:Nat→T_Bar) (nb N m:Nat) (F0 T0 F T Q:Nat→Int) (a b want:Int) :
    zP Tryz.f208 0 [rg 13,.dec false,rg 3] zf84 (SH g nb N m F0 T0 F T Q a b want) [4,5,6] 1 (pebR N m F T Q) (.tup [pebO N m 0,.p (.bool true)]) =
    some [(NT 0 1),(IL 0 a),(IT a (↑N:Int)),(NT a.toNat N),(NT 0 1),(IL 0 b),(IT b (↑N:Int)),(NT b.toNat N),(ZLo (F a.toNat+F b.toNat)),(ZHi (F a.toNat+F b.toNat)),((decide (F (a.toNat+0)+F (b.toNat+0)<want))=false),(NT 0 1),(NT 0 1),((true=true)→ (AN 1)),(NT 0 1),(AN 0),(AN N),(AN 0),(AN m),(AN 0),(AN m),(true=true),(AN 1),(NL N N),(AA N (fun i=>[.p (.int .i64 (F i))])),(AN 1),(NL m m),(AA m (fun i=>[.p (.int .i64 (T i))])),(AN 1),(NL m m),(AA m (fun i=>[.p (.int .i64 (Q i))])),(AE N),(AE m),(AE m)]:=by kernel_rfl
theorem qNz (g:Nat→T_Bar) (N k:Nat) :
    zT Tryz.f179 [rg 3,rg 6,.head] [.agg [.p (.int .i64 N),.p .nil],.p (.int .i64 k)] [0,32,224,96,128,160] (SNc g 0 N k) =
    some (zf97,zD [(NT 0 1),((true=true)→ (AN 1)),(AI ((↑k:Int))),(AN 0),((([AV.p (PV.int IntKind.i64 (↑N:Int)),AV.p PV.nil].length):Nat)=2),(NL 1 1),(AI ((↑N:Int))),((((List.map (fun v=>AV.p (absV v)) [Value.slice none 0 0,Value.slice none 0 0,Value.slice none 0 0]).length):Nat)=3),(AN 1),(NL 0 0),(∀ i:Nat,(((i:Nat)<0)→(All []∧(([.p (.int .i64 0)]:List AV)=[.p (.int .i64 (↑k:Int))])))),(AA 0 (fun i=>[.p (.int .i64 0)]))] [0,1,2,3,3,3,4,5,5,6,3,7,5,5,7,5,5,3,3,3,3,3,3,8,9,10,8,9,11,8,9,11]):=by kernel_rfl
theorem qNa (g:Nat→T_Bar) (nb N k:Nat) :
    zM 0 [rm [(1,oc [] (.p (.bool true))),(3,oc [] (.p (.bool true)))] 2,.dec false,rg 1,.head] zf97 (SNc g nb N k) [0,1,2,3,4,5] 1 (SN0 g nb N k 0) =
    some (zf44,zD [(NT 0 1),zE 134 [(zf104 N nb g)] [] (.p (.bool true)),(AG (!!true)),(((!!true)=true)→ zE 121 [.p (.int .i64 (↑k:Int)),.p (.int .i64 1),.p (.int .i64 3)] [] (.p (.bool true))),(((!true)=false)→ ((!!true)=true)),((bif !true then true else !true)=false),(AI ((↑k:Int))),(AN 0),((0:Int)=(↑0:Int)),(AN 2),(NL 1 1),(AI ((↑N:Int))),(AN nb),(AP nb (bRw g)),(AN 3),(AN 1),(NL 0 0),(AA 0 (fun i=>[.p (.int .i64 (↑k:Int))])),(AA 0 (fun i=>[.p (.int .i64 0)]))] [0,1,2,3,2,4,5,6,7,7,7,8,9,10,10,11,12,13,14,10,10,14,10,10,7,7,7,7,7,7,15,16,17,15,16,18,15,16,18]):=by kernel_rfl
theorem qNl (g:Nat→T_Bar) (nb N k i:Nat) :
    zM 0 [rg 4,.dec true,rg 7,rg 3,.head] zf44 (SN0 g nb N k i) [0,1,2,262,4,5] 1 (SN0 g nb N k (i+1)) =
    some (zf44,zD [(NT 0 1),((decide ((↑i:Int)<(↑N:Int)))=true),(NL 1 1),(NL i i),(NL ((i+1)*8) 140737488355328),(NL (i+1) 9223372036854775807),((true=true)→ (AN 1)),(ZLo ((↑i:Int)+1)),(ZHi ((↑i:Int)+1)),(AI ((↑k:Int))),(AN 0),((((↑i:Int)+1):Int)=(↑(i+1):Int)),(AN 2),(AI ((↑N:Int))),(AN nb),(AP nb (bRw g)),(AN 3),(AN ((i+1))),(AN 1),(NL (i+1) (i+1)),(CV [(2,⟨true,3,1,(fun i_2=>[.ar 1 262 0 (i+1),.ar 1 4 0 0,.ar 1 5 0 0])⟩),(262,⟨false,1,(i+1),(fun i_2=>(if (i_2<i) then [.p (.int .i64 (↑k:Int))] else [.p (.int .i64 (↑k:Int))]))⟩),(230,⟨false,1,1,(fun i_2=>[.p (.int .i64 (↑k:Int))])⟩),(0,⟨true,2,1,(fun i_2=>[.p (.int .i64 (↑N:Int)),.p (.seq true 2 nb (bRw g))])⟩),(1,⟨true,3,1,(fun i_2=>[.p (.nil),.p (.nil),.p (.nil)])⟩),(4,⟨false,1,0,(fun i_2=>[.p (.int .i64 0)])⟩),(5,⟨false,1,0,(fun i_2=>[.p (.int .i64 0)])⟩)] [0,1,2,262,4,5] 1 (i+1) (fun i_1=>if (i_1<i) then [.p (.int .i64 (↑k:Int))] else [.p (.int .i64 (↑k:Int))]) (fun i_1=>[.p (.int .i64 (↑k:Int))])),(NL 0 0),(AA 0 (fun i_1=>[.p (.int .i64 0)]))] [0,1,0,2,3,4,5,0,6,7,8,9,10,10,10,11,12,2,2,13,14,15,16,2,2,16,2,2,10,17,10,10,10,10,18,19,20,18,21,22,18,21,22]):=by kernel_rfl
theorem qNe (g:Nat→T_Bar) (nb N k i:Nat) :
    zP Tryz.f179 0 [rg 4,.dec false,rg 3] zf44 (SN0 g nb N k i) [3,4,5] 1 (pebR i 0 (fun _=>k) (fun _=>0) (fun _=>0)) (.tup [pebO i 0 0,.p (.bool true)]) =
    some (zD [(NT 0 1),((decide ((↑i:Int)<(↑N:Int)))=false),((true=true)→ (AN 1)),(AN 0),(AN i),(true=true),(AN 1),(NL i i),(AA i (fun i_1=>[.p (.int .i64 (↑k:Int))])),(NL 0 0),(AA 0 (fun i_1=>[.p (.int .i64 0)])),(AE i),(AE 0)] [0,1,0,0,2,0,3,4,3,3,3,3,5,6,7,8,6,9,10,6,9,10,11,12,12]):=by kernel_rfl
theorem qRz (g:Nat→T_Bar) (nb N:Nat) :
    zT Tryz.f189 [rg 2,rm [(3,oc (pebR N 0 (fun _=>((2:Nat):Int)) (fun _=>0) (fun _=>0)) (.tup [pebO N 0 0,.p (.bool true)]))] 6,rg 1,rg 1,.head] [grG g nb N] [0,288,160,161,162] (SR g nb N 0 0 (fun _=>((2:Nat):Int)) (fun _=>0) (fun _=>0)) =
    some (zf45,zD [(NT 0 1),zE 179 [.agg [.p (.int .i64 (↑N:Int)),.p (.nil)],.p (.int .i64 2)] [(0,⟨false,1,N,(fun i=>[.p (.int .i64 2)])⟩),(1,⟨false,1,0,(fun i=>[.p (.int .i64 0)])⟩),(2,⟨false,1,0,(fun i=>[.p (.int .i64 0)])⟩)] (.tup [.agg [.ar 1 0 0 N,.ar 1 1 0 0,.ar 1 2 0 0],.p (.bool true)]),((true=true)→ (AN 1)),(AI ((↑N:Int))),(AN nb),(AP nb (bRw g)),(AN 0),((0:Int)=(↑0:Int)),((([AV.p (PV.int IntKind.i64 (↑N:Int)),brL g nb].length):Nat)=2),(NL 1 1),((((List.map (fun v=>AV.p (absV v)) [Value.slice none 0 0,Value.slice none 0 0,Value.slice none 0 0]).length):Nat)=3),(AN N),(AN 1),(NL N N),(AA N (fun i=>[.p (.int .i64 2)])),(NL 0 0),(AA 0 (fun i=>[.p (.int .i64 0)]))] [0,1,0,2,3,4,5,6,6,7,7,8,9,9,3,4,5,10,9,9,6,11,6,6,6,6,12,13,14,12,15,16,12,15,16]):=by kernel_rfl
theorem qRa (g:Nat→T_Bar) (nb N m i:Nat) (F T Q F1 T1:Nat→Int) :
    zM 0 [rg 5,.dec true,rm [(14,oc (pebR N m F1 T1 Q) (.tup [pebO N m 0,.p (.bool true)]))] 6,rg 2,.dec false,rg 21,rg 12,rg 7,rg 2,rg 3,rg 3,.head] zf45 (SR g nb N m i F T Q) [0,1,613,1861,2085] 1 (SR g nb N (m+1) (i+1) (fun s=>if s=(g i).1.toNat then F1 s - 1 else F1 s) (fun s=>if s<m then T1 s else (g i).1) (fun s=>if s<m then Q s else i)) =
    some (zf45,zD [(NT 0 1),((decide ((↑i:Int)<(↑nb:Int)))=true),(IL 0 (↑i:Int)),(IT (↑i:Int) (↑nb:Int)),(AN 1),(NL N N),(NL m m),zE 208 [.agg [.p (.int .i64 (↑N:Int)),.p (.seq true 2 nb (bRw g))],.agg [.p (.seq true 1 N (fun i_1=>[.int .i64 (F i_1)])),.p (.seq true 1 m (fun i_1=>[.int .i64 (T i_1)])),.p (.seq true 1 m (fun i_1=>[.int .i64 (Q i_1)]))],.p (.int .i64 ((g i).1)),.p (.int .i64 ((g i).2.1)),.p (.int .i64 4)] (zf30 N F1 m T1 Q) (.tup [.agg [.ar 1 0 0 N,.ar 1 1 0 m,.ar 1 2 0 m],.p (.bool true)]),((true=true)→ (AN 1)),((!true)=false),(IL 0 ((g i).1)),(IT ((g i).1) (↑N:Int)),(NT ((g i).1.toNat) N),(ZLo (F1 (g i).1.toNat - 1)),(ZHi (F1 (g i).1.toNat - 1)),((false=true)→ ((N:Nat)=1)),(NL 1 1),(NL ((m+1)*8) 140737488355328),(NL (m+1) 9223372036854775807),(ZLo ((↑m:Int)+1)),(ZHi ((↑m:Int)+1)),(ZLo ((↑i:Int)+1)),(ZHi ((↑i:Int)+1)),(AI ((↑N:Int))),(AN nb),(AP nb (bRw g)),(AN 0),((((↑m:Int)+1):Int)=(↑(m+1):Int)),((((↑i:Int)+1):Int)=(↑(i+1):Int)),(AN 2),(AN 3),(AN N),(AN ((m+1))),(CV [(1,⟨true,3,1,(fun i_2=>[.ar 1 613 0 N,.ar 1 1861 0 (m+1),.ar 1 2085 0 (m+1)])⟩),(741,⟨true,3,1,(fun i_2=>[.ar 1 613 0 N,.ar 1 1861 0 (m+1),.ar 1 2085 0 (m+1)])⟩),(2085,⟨false,1,(m+1),(fun i_2=>(if (i_2<m) then [.p (.int .i64 (Q i_2))] else [.p (.int .i64 (↑i:Int))]))⟩),(2053,⟨false,1,1,(fun i_2=>[.p (.int .i64 (↑i:Int))])⟩),(1861,⟨false,1,(m+1),(fun i_2=>(if (i_2<m) then [.p (.int .i64 (T1 i_2))] else [.p (.int .i64 ((g i).1))]))⟩),(1829,⟨false,1,1,(fun i_2=>[.p (.int .i64 ((g i).1))])⟩),(613,⟨false,1,N,(fun i_2=>(if (i_2=(g i).1.toNat) then [.p (.int .i64 (F1 (g i).1.toNat - 1))] else [.p (.int .i64 (F1 i_2))]))⟩),(0,⟨true,2,1,(fun i_2=>[.p (.int .i64 (↑N:Int)),.p (.seq true 2 nb (bRw g))])⟩),(2,⟨false,1,N,(fun i_2=>[.p (.int .i64 (F i_2))])⟩),(3,⟨false,1,m,(fun i_2=>[.p (.int .i64 (T i_2))])⟩),(4,⟨false,1,m,(fun i_2=>[.p (.int .i64 (Q i_2))])⟩)] [0,1,613,1861,2085] 1 N (fun i_1=>if (i_1=(g i).1.toNat) then [.p (.int .i64 (F1 (g i).1.toNat - 1))] else [.p (.int .i64 (F1 i_1))]) (fun i_1=>[.p (.int .i64 (if i_1=(g i).1.toNat then F1 i_1 - 1 else F1 i_1))])),(NL (m+1) (m+1)),(CV [(1,⟨true,3,1,(fun i_2=>[.ar 1 613 0 N,.ar 1 1861 0 (m+1),.ar 1 2085 0 (m+1)])⟩),(741,⟨true,3,1,(fun i_2=>[.ar 1 613 0 N,.ar 1 1861 0 (m+1),.ar 1 2085 0 (m+1)])⟩),(2085,⟨false,1,(m+1),(fun i_2=>(if (i_2<m) then [.p (.int .i64 (Q i_2))] else [.p (.int .i64 (↑i:Int))]))⟩),(2053,⟨false,1,1,(fun i_2=>[.p (.int .i64 (↑i:Int))])⟩),(1861,⟨false,1,(m+1),(fun i_2=>(if (i_2<m) then [.p (.int .i64 (T1 i_2))] else [.p (.int .i64 ((g i).1))]))⟩),(1829,⟨false,1,1,(fun i_2=>[.p (.int .i64 ((g i).1))])⟩),(613,⟨false,1,N,(fun i_2=>(if (i_2=(g i).1.toNat) then [.p (.int .i64 (F1 (g i).1.toNat - 1))] else [.p (.int .i64 (F1 i_2))]))⟩),(0,⟨true,2,1,(fun i_2=>[.p (.int .i64 (↑N:Int)),.p (.seq true 2 nb (bRw g))])⟩),(2,⟨false,1,N,(fun i_2=>[.p (.int .i64 (F i_2))])⟩),(3,⟨false,1,m,(fun i_2=>[.p (.int .i64 (T i_2))])⟩),(4,⟨false,1,m,(fun i_2=>[.p (.int .i64 (Q i_2))])⟩)] [0,1,613,1861,2085] 1 (m+1) (fun i_1=>if (i_1<m) then [.p (.int .i64 (T1 i_1))] else [.p (.int .i64 ((g i).1))]) (fun i_1=>[.p (.int .i64 (if i_1<m then T1 i_1 else (g i).1))])),(CV [(1,⟨true,3,1,(fun i_2=>[.ar 1 613 0 N,.ar 1 1861 0 (m+1),.ar 1 2085 0 (m+1)])⟩),(741,⟨true,3,1,(fun i_2=>[.ar 1 613 0 N,.ar 1 1861 0 (m+1),.ar 1 2085 0 (m+1)])⟩),(2085,⟨false,1,(m+1),(fun i_2=>(if (i_2<m) then [.p (.int .i64 (Q i_2))] else [.p (.int .i64 (↑i:Int))]))⟩),(2053,⟨false,1,1,(fun i_2=>[.p (.int .i64 (↑i:Int))])⟩),(1861,⟨false,1,(m+1),(fun i_2=>(if (i_2<m) then [.p (.int .i64 (T1 i_2))] else [.p (.int .i64 ((g i).1))]))⟩),(1829,⟨false,1,1,(fun i_2=>[.p (.int .i64 ((g i).1))])⟩),(613,⟨false,1,N,(fun i_2=>(if (i_2=(g i).1.toNat) then [.p (.int .i64 (F1 (g i).1.toNat - 1))] else [.p (.int .i64 (F1 i_2))]))⟩),(0,⟨true,2,1,(fun i_2=>[.p (.int .i64 (↑N:Int)),.p (.seq true 2 nb (bRw g))])⟩),(2,⟨false,1,N,(fun i_2=>[.p (.int .i64 (F i_2))])⟩),(3,⟨false,1,m,(fun i_2=>[.p (.int .i64 (T i_2))])⟩),(4,⟨false,1,m,(fun i_2=>[.p (.int .i64 (Q i_2))])⟩)] [0,1,613,1861,2085] 1 (m+1) (fun i_1=>if (i_1<m) then [.p (.int .i64 (Q i_1))] else [.p (.int .i64 (↑i:Int))]) (fun i_1=>[.p (.int .i64 (if i_1<m then Q i_1 else (↑i:Int)))]))] [0,1,0,0,0,2,3,0,2,3,4,5,4,6,4,6,7,0,8,9,0,0,2,3,0,0,2,3,10,11,12,13,14,10,11,12,15,0,0,2,3,16,6,17,18,0,8,0,16,6,17,18,0,8,0,0,8,19,20,21,22,23,24,25,26,26,27,28,29,16,16,23,24,25,30,16,16,26,31,26,32,26,32,4,5,33,4,34,35,4,34,36]):=by kernel_rfl
theorem qRb (g:Nat→T_Bar) (nb N m i:Nat) (F T Q F1 T1:Nat→Int) :
    zM 0 [rg 5,.dec true,rm [(14,oc (pebR N m F1 T1 Q) (.tup [pebO N m 0,.p (.bool false)]))] 6,rg 2,.dec true,rg 3,.head] zf45 (SR g nb N m i F T Q) [0,1,2,3,4] 1 (SR g nb N m (i+1) F T Q) =
    some (zf45,zD [(NT 0 1),((decide ((↑i:Int)<(↑nb:Int)))=true),(IL 0 (↑i:Int)),(IT (↑i:Int) (↑nb:Int)),(AN 1),(NL N N),(NL m m),zE 208 [.agg [.p (.int .i64 (↑N:Int)),.p (.seq true 2 nb (bRw g))],.agg [.p (.seq true 1 N (fun i_1=>[.int .i64 (F i_1)])),.p (.seq true 1 m (fun i_1=>[.int .i64 (T i_1)])),.p (.seq true 1 m (fun i_1=>[.int .i64 (Q i_1)]))],.p (.int .i64 ((g i).1)),.p (.int .i64 ((g i).2.1)),.p (.int .i64 4)] (zf30 N F1 m T1 Q) ((zf119 N m)),((true=true)→ (AN 1)),((!false)=true),(ZLo ((↑i:Int)+1)),(ZHi ((↑i:Int)+1)),(AI ((↑N:Int))),(AN nb),(AP nb (bRw g)),(AN 0),(AI ((↑m:Int))),((((↑i:Int)+1):Int)=(↑(i+1):Int)),(AN 2),(NL 1 1),(AN 3),(AN N),(AN m),(AA N (fun i_1=>[.p (.int .i64 (F i_1))])),(AA m (fun i_1=>[.p (.int .i64 (T i_1))])),(AA m (fun i_1=>[.p (.int .i64 (Q i_1))]))] [0,1,0,0,0,2,3,0,2,3,4,5,4,6,4,6,7,0,8,9,10,11,12,13,14,15,15,16,17,18,19,19,12,13,14,20,19,19,15,21,15,22,15,22,4,5,23,4,6,24,4,6,25]):=by kernel_rfl
theorem qRe (g:Nat→T_Bar) (nb N m i:Nat) (F T Q:Nat→Int) :
    zP Tryz.f189 0 [rg 5,.dec false,rg 2] zf45 (SR g nb N m i F T Q) [] 1 [] (.p (.int .i64 m)) =
    some [(NT 0 1),((decide ((↑i:Int)<(↑nb:Int)))=false),(AI ((↑m:Int)))]:=by kernel_rfl
theorem con_l4Gather {N k nb m l:Nat} {g:Nat→T_Bar} {F0 T0 Q:Nat→Int} {a b:Int} (hp0:PInv N k nb m g F0 T0 Q) (hk:k≤1048576) (hN:N≤1048576) (hm:m≤1048576) (hnb:nb≤1048576)
    (ha:0≤a∧a<N) (hb:0≤b∧b<N) (hab:a≠b):∃ F' T' r,zE 208 [grG g nb N,pebD N m F0 T0 Q,.p (.int .i64 a),.p (.int .i64 b),.p (.int .i64 ((l:Int)+1))] (pebR N m F' T' Q) (.tup [pebO N m 0,.p (.bool r)]) ∧
      PInv N k nb m g F' T' Q∧(r=true→(l:Int)+1≤F' a.toNat+F' b.toNat)∧(r=false→¬ Mat.Sparse N k l (plL g Q m++[(a.toNat,b.toNat)])):=by
  have lp:∀ d F T,PInv N k nb m g F T Q→(l:Int)+1≤F a.toNat+F b.toNat+(d:Nat)→∃ F' T' r,(∀ c,c.n=0→zR c 208 zf84 (SH g nb N m F0 T0 F T Q a b ((l:Int)+1)) (Post c (pebR N m F' T' Q) (.tup [pebO N m 0,.p (.bool r)]))) ∧
      PInv N k nb m g F' T' Q∧(r=true→(l:Int)+1≤F' a.toNat+F' b.toNat)∧(r=false→¬ Mat.Sparse N k l (plL g Q m++[(a.toNat,b.toNat)])):=by
    intro d
    induction d with
    | zero =>
      intro F T hp hw
      have hd:decide (F a.toNat+F b.toNat<(l:Int)+1)=false:=by simp;omega
      have l1:=hp.le (v:=a.toNat) (by omega)
      have l2:=hp.le (v:=b.toNat) (by omega)
      refine ⟨F,T,true,fun c hc=>?_,hp,(fun _=>by omega),(fun h=>by cases h)⟩
      refine pkZ Tryz.func208 hc (qHd g nb N m F0 T0 F T Q a b ((l:Int)+1)) ?_
      and_intros
      all_goals (first | exact zI | (exact hd) | (intro i hi;simp [All]))
    | succ d ih =>
      intro F T hp hw
      have l1:=hp.le (v:=a.toNat) (by omega)
      have l2:=hp.le (v:=b.toNat) (by omega)
      by_cases hs:F a.toNat+F b.toNat<(l:Int)+1
      · have hd:decide (F a.toNat+F b.toNat<(l:Int)+1)=true:=by simp;omega
        obtain ⟨H1,r1,hc1,hf1⟩:=con_l4Find hp hk hN hm hnb ha hb hab
        cases hf1 with
        | yes F1 T1 hm1 =>
          obtain ⟨y1,y2⟩:=hm1.yes rfl
          obtain ⟨F',T',r,hrun,h1,h2,h3⟩:=ih F1 T1 hm1.inv (by omega)
          refine ⟨F',T',r,fun c hc=>?_,h1,h2,h3⟩
          refine pcD hc (qHa g nb N m F0 T0 F T Q F1 T1 a b ((l:Int)+1)) ?_ (hrun c hc)
          and_intros
          all_goals (first | exact zI | (exact hd) | (exact hc1) | (intro i hi;simp [All]))
        | no hm1 =>
          obtain ⟨H2,r2,hc2,hf2⟩:=con_l4Find hp hk hN hm hnb hb ha (Ne.symm hab)
          cases hf2 with
          | yes F2 T2 hm2 =>
            obtain ⟨y1,y2⟩:=hm2.yes rfl
            obtain ⟨F',T',r,hrun,h1,h2,h3⟩:=ih F2 T2 hm2.inv (by omega)
            refine ⟨F',T',r,fun c hc=>?_,h1,h2,h3⟩
            refine pcD hc (qHb g nb N m F0 T0 F T Q F2 T2 a b ((l:Int)+1)) ?_ (hrun c hc)
            and_intros
            all_goals (first | exact zI | (exact hd) | (exact hc1) | (exact hc2) | (intro i hi;simp [All]))
          | no hm2 =>
            refine ⟨F,T,false,fun c hc=>?_,hp,(fun h=>by cases h),fun _=>gather_no hp ha hb hab (by omega) hm1 hm2⟩
            refine pkD Tryz.func208 hc (qHc g nb N m F0 T0 F T Q a b ((l:Int)+1)) ?_
            and_intros
            all_goals (first | exact zI | (exact hd) | (exact hc1) | (exact hc2) | (intro i hi;simp [All]))
      · have hd:decide (F a.toNat+F b.toNat<(l:Int)+1)=false:=by simp;omega
        refine ⟨F,T,true,fun c hc=>?_,hp,(fun _=>by omega),(fun h=>by cases h)⟩
        refine pkZ Tryz.func208 hc (qHd g nb N m F0 T0 F T Q a b ((l:Int)+1)) ?_
        and_intros
        all_goals (first | exact zI | (exact hd) | (intro i hi;simp [All]))
  have l1:=hp0.le (v:=a.toNat) (by omega)
  have l2:=hp0.le (v:=b.toNat) (by omega)
  obtain ⟨F',T',r,hrun,h⟩:=lp (l+1) F0 T0 hp0 (by omega)
  refine ⟨F',T',r,?_,h⟩
  have hcc:=con_l4Copy N m F0 T0 Q hN hm
  refine csZ Tryz.func208 (fun c hc=>?_)
  refine pcD hc (qHz g nb N m F0 T0 Q a b ((l:Int)+1)) ?_ (hrun c hc)
  and_intros
  all_goals (first | exact zI | (exact hcc) | (intro i hi;simp [All]))
theorem run_new {g:Nat→T_Bar} {nb N k:Nat} (hN:N≤1048576) (hk:1≤k∧k≤3) (hg:isGraphF ((N:Int),(nb,g),())=true) (hnb:nb≤1048576) (c:Cx) (hc:c.n=0) {items:List Item} (hit:items=zf97) :
    zR c 179 items (SNc g nb N k) (Post c (pebR N 0 (fun _=>k) (fun _=>0) (fun _=>0)) (.tup [pebO N 0 0,.p (.bool true)])):=by
  subst hit
  have hsm:smS s_Graph ((N:Int),(nb,g),()):=⟨by simp [smS,smL],⟨hnb,fun i hi=>by simp [smS,smL]⟩,True.intro⟩
  have hcg:=con_IsGraph_s ((N:Int),(nb,g),()) hsm
  rw [hg] at hcg
  have hci:=con_l1In k 1 3
  rw [show inB k 1 3=true by simp [inB];omega] at hci
  have lp0:∀ d i,i+d=N→zR c 179 zf44 (SN0 g nb N k i) (Post c (pebR N 0 (fun _=>k) (fun _=>0) (fun _=>0)) (.tup [pebO N 0 0,.p (.bool true)])):=by
    intro d
    induction d with
    | zero =>
      intro i hi
      obtain rfl:i=N:=by omega
      have hd:decide ((i:Int)<(i:Int))=false:=by simp
      refine pkD Tryz.func179 hc (qNe g nb i k i) ?_
      and_intros
      all_goals (first | exact zI | (intro i hi;simp [All]))
    | succ d ih =>
      intro i hi
      have hd:decide ((i:Int)<(N:Int))=true:=by simp;omega
      refine pcD hc (qNl g nb N k i) ?_ (ih (i+1) (by omega))
      and_intros
      all_goals (first | exact zI | (intro j hj;simp [All];done) | (intro j hj;by_cases h:j<i<;>simp [h,cvtL,cvt,tg,tru,All]))
  refine pcD hc (qNa g nb N k) ?_ (lp0 N 0 (by omega))
  and_intros
  all_goals (first | exact zH | (exact hcg) | (intros;exact hci) | (intro i hi;simp [All]))
theorem con_NewPebbles0 {N k:Nat} (hN:1≤N∧N≤8) (hk:1≤k∧k≤3):zE 179 [.agg [.p (.int .i64 N),.p .nil],.p (.int .i64 k)] (pebR N 0 (fun _=>k) (fun _=>0) (fun _=>0)) (.tup [pebO N 0 0,.p (.bool true)]):=by
  refine csZ Tryz.func179 (fun c hc=>?_)
  have hg:isGraphF ((N:Int),(0,fun _=>((0:Int),(0:Int),())),())=true:=by
    have:inB N 1 8=true:=by simp [inB];omega
    simp [isGraphF,this,goodB]
  refine pcD hc (qNz (fun _=>(0,0,())) N k) ?_ (run_new (g:=fun _=>(0,0,())) (by omega) hk hg (by omega) c hc rfl)
  and_intros
  iterate 2 all_goals (first | exact zI | (intro i hi;simp [All]) | simp only [All])
theorem con_l6Rank {N nb:Nat} {g:Nat→T_Bar} (hb:∀ e,e<nb→0≤(g e).1∧(g e).1<(g e).2.1∧(g e).2.1<N) (hN:1≤N∧N≤8) (hnb:nb≤1048576) :
    zE 189 [grG g nb N] [] (.p (.int .i64 ((accI N 2 3 g nb).length:Nat))):=by
  refine csZ Tryz.func189 (fun c hc=>?_)
  have lp:∀ d i m F T Q,i+d=nb→PInv N 2 nb m g F T Q→qL Q m=accI N 2 3 g i →
      zR c 189 zf45 (SR g nb N m i F T Q) (Post c [] (.p (.int .i64 ((accI N 2 3 g nb).length:Nat)))):=by
    intro d
    induction d with
    | zero =>
      intro i m F T Q hi hp hq
      obtain rfl:i=nb:=by omega
      have hd:decide ((i:Int)<(i:Int))=false:=by simp
      rw [← hq,qL_length]
      refine pkZ Tryz.func189 hc (qRe g i N m i F T Q) ?_
      and_intros
      all_goals (first | exact zN | (intro i hi;simp [All]))
    | succ d ih =>
      intro i m F T Q hi hp hq
      have hd:decide ((i:Int)<(nb:Int))=true:=by simp;omega
      have hm:m≤1048576:=by
        have:=accI_len N 2 3 g i
        rw [← hq,qL_length] at this
        omega
      have hsp:Mat.Sparse N 2 3 (plL g Q m):=by rw [plL_qL,hq];exact accI_sparse N 2 3 g i
      have hbar:=hb i (by omega)
      obtain ⟨F1,T1,r,hc1,h1,h2,h3⟩:=con_l4Gather (l:=3) (a:=(g i).1) (b:=(g i).2.1) hp (by omega) (by omega) hm hnb (by omega) (by omega) (by omega)
      have hlA:=h1.le (v:=(g i).1.toNat) (by omega)
      have hlB:=h1.le (v:=(g i).2.1.toNat) (by omega)
      cases r with
      | false =>
        have hrej:¬ Mat.Sparse N 2 3 (plL g Q m++[brN (g i)]):=h3 rfl
        refine pcD hc (qRb g nb N m i F T Q F1 T1) ?_ (ih (i+1) m F T Q (by omega) hp (by
          simp only [accI]
          rw [← hq,← plL_qL,if_neg hrej]))
        and_intros
        all_goals (first | exact zI | (exact hc1) | (intro i hi;simp [All]))
      | true =>
        have hw:=h2 rfl
        have hacc:Mat.Sparse N 2 3 (plL g Q m++[brN (g i)]):=by
          have:=(h1.game 3).accept (by rw [barsOf_gm];exact hsp) (g i).1.toNat (g i).2.1.toNat ⟨by show (g i).1.toNat≠(g i).2.1.toNat;omega,by show (g i).1.toNat<N;omega,by show (g i).2.1.toNat<N;omega⟩
            (by show 3+1≤(F1 (g i).1.toNat).toNat+(F1 (g i).2.1.toNat).toNat;omega)
          rw [barsOf_gm] at this
          exact this
        refine pcD hc (qRa g nb N m i F T Q F1 T1) ?_ (ih (i+1) (m+1) _ _ _ (by omega) (h1.placed i (by omega) (g i).1 (.inl rfl) (by omega)) (by
          simp only [accI]
          rw [← hq,← plL_qL,if_pos hacc]
          simp only [qL,Nat.lt_irrefl,if_false,Int.toNat_natCast]
          rw [qL_congr (Q':=Q) m (fun j hj=>by simp only [hj,if_true])]))
        and_intros
        all_goals (first | exact zI | (exact hc1) | (intro i hi;simp [All];done) | (intro j hj;by_cases h:j<m<;>simp [h,cvtL,cvt,tg,tru,All];done) | (intro j hj;by_cases h:j=(g i).1.toNat<;>simp [h,cvtL,cvt,tg,tru,All]))
  have hn:=con_NewPebbles0 (k:=2) hN (by omega)
  refine pcD hc (qRz g nb N) ?_ (lp nb 0 0 _ _ _ (by omega) (PInv.start hb) rfl)
  and_intros
  all_goals (first | exact zI | (exact hn) | (intro i hi;simp [All]))
theorem rIs (g g':Nat→T_Bar) (nb nb' N:Nat) (a b:Int) (r1 r0:Nat) :
    zS Tryz.f166 [rg 2,rm [(1,oc [] (.p (.bool true)))] 21,.dec false,rm [(8,oc [(0,brOb nb' g')] (.agg [.p (.int .i64 N),.ar 2 0 0 nb']))] 2,rm [(5,oc [] (.p (.int .i64 r1))),(1,oc [] (.p (.int .i64 r0)))] 3] [grG g nb N,.p (.int .i64 a),.p (.int .i64 b)] [] [] (.p (.bool (bif a==b then true else (r1:Int)==(r0:Int)))) =
    some (zD [(NT 0 1),zE 134 [(zf104 N nb g)] [] (.p (.bool true)),(AG (!!true)),(((!true)=false)→ ((!!true)=true)),(AG (!bif !true then true else decide (a<0))),(((bif !true then true else decide (a<0))=false)→ ((!bif !true then true else decide (a<0))=true)),(AG (!bif bif !true then true else decide (a<0) then true else decide (b<0))),(((!bif bif !true then true else decide (a<0) then true else decide (b<0))=true)→(NT 0 1)),(((bif bif !true then true else decide (a<0) then true else decide (b<0))=false)→ ((!bif bif !true then true else decide (a<0) then true else decide (b<0))=true)),(AG (!bif bif bif !true then true else decide (a<0) then true else decide (b<0) then true else decide (a≥(↑N:Int)))),(((!bif bif bif !true then true else decide (a<0) then true else decide (b<0) then true else decide (a≥(↑N:Int)))=true)→(NT 0 1)),(((bif bif bif !true then true else decide (a<0) then true else decide (b<0) then true else decide (a≥(↑N:Int)))=false)→ ((!bif bif bif !true then true else decide (a<0) then true else decide (b<0) then true else decide (a≥(↑N:Int)))=true)),((bif bif bif bif !true then true else decide (a<0) then true else decide (b<0) then true else decide (a≥(↑N:Int)) then true else decide (b≥(↑N:Int)))=false),zE 136 [(zf104 N nb g),(zf22 b a)] (zf113 nb' g') (.agg [.p (.int .i64 (↑N:Int)),.ar 2 0 0 nb']),((true=true)→ (AN 1)),(((!a==b)=true)→(NT 0 1)),(AG (!a==b)),(((!a==b)=true)→ (AN 2)),(((!a==b)=true)→(NL (nb') (nb'))),(((!a==b)=true)→ zE 189 [(zf104 N nb' g')] [] (.p (.int .i64 (↑r1:Int)))),(((!a==b)=true)→ zE 189 [(zf104 N nb g)] [] (.p (.int .i64 (↑r0:Int)))),(((a==b)=false)→ ((!a==b)=true)),((bif a==b then true else (↑r1:Int)==(↑r0:Int))=(bif a==b then true else (↑r1:Int)==(↑r0:Int)))] [0,1,2,3,4,5,6,7,6,6,8,9,10,9,9,11,12,0,13,0,14,15,16,17,18,19,15,16,20,16,16,21,22]):=by kernel_rfl
theorem rRank (g:Nat→T_Bar) (nb N m:Nat) (F T Q:Nat→Int) :
    zS Tryz.f188 [rg 1,rm [(2,oc (pebR N m F T Q) (pebO N m 0))] 3] [.p (.int .i64 N),brL g nb] [] [] (.p (.int .i64 m)) =
    some [zE 178 [.p (.int .i64 (↑N:Int)),.p (.seq true 2 nb (bRw g)),.p (.int .i64 2),.p (.int .i64 3)] (zf38 N F m T Q) (.agg [.ar 1 0 0 N,.ar 1 1 0 m,.ar 1 2 0 m]),(AI ((↑m:Int)))]:=by kernel_rfl
theorem rRaise (g:Nat→T_Bar) (nb N:Nat) (x:T_Bar) (r1 r0:Nat) :
    zS Tryz.f163 [rg 2,rm [(7,oc [] (.p (.int .i64 r1))),(2,oc [] (.p (.int .i64 r0)))] 2] [.p (.int .i64 N),brL g nb,brA x] [] [] (.p (.bool (decide ((r1:Int)>(r0:Int))))) =
    some [(NL 0 0),(NL ((0+nb)*16) 140737488355328),(NL (0+nb) 9223372036854775807),(NT 0 1),(NL 1 1),(NL (0+nb) (0+nb)),(NL ((0+nb+1)*16) 140737488355328),(NL (0+nb+1) 9223372036854775807),(AN 2),(NL (0+nb+1) (0+nb+1)),zE 188 [.p (.int .i64 (↑N:Int)),.p (.seq true 2 (0+nb+1) (fun i=>[(cellP true (if (i<0+nb) then [.p (.int .i64 ((g i).1)),.p (.int .i64 ((g i).2.1))] else [.p (.int .i64 x.1),.p (.int .i64 x.2.1)]) 0),(cellP true (if (i<0+nb) then [.p (.int .i64 ((g i).1)),.p (.int .i64 ((g i).2.1))] else [.p (.int .i64 x.1),.p (.int .i64 x.2.1)]) 1)]))] [] (.p (.int .i64 (↑r1:Int))),zE 188 [.p (.int .i64 (↑N:Int)),.p (.seq true 2 nb (bRw g))] [] (.p (.int .i64 (↑r0:Int))),((decide ((↑r1:Int)>(↑r0:Int)))=(decide ((↑r1:Int)>(↑r0:Int))))]:=by kernel_rfl
def bL (g:Nat→T_Bar):Nat→List (Nat×Nat)
  | 0=>[]
  | n+1=>bL g n++[brN (g n)]
theorem bL_mem (g:Nat→T_Bar) (y:Nat×Nat):∀ n,y∈bL g n↔∃ s,s<n∧brN (g s)=y
  | 0=>by
    constructor
    · intro h;cases h
    · rintro ⟨s,h,_⟩;exact absurd h (Nat.not_lt_zero _)
  | n+1=>by
    simp only [bL,List.mem_append,List.mem_singleton,bL_mem g y n]
    constructor
    · rintro (⟨s,h1,h2⟩ | h)
      · exact ⟨s,by omega,h2⟩
      · exact ⟨n,by omega,h.symm⟩
    · rintro ⟨s,h1,h2⟩
      by_cases e:s=n
      · right;rw [← e];exact h2.symm
      · exact .inl ⟨s,by omega,h2⟩
theorem acc_greedy (N k l:Nat) (g:Nat→T_Bar):∀ n,(accI N k l g n).map (fun i=>brN (g i))=Mat.greedy N k l [] (bL g n)
  | 0=>rfl
  | n+1=>by
    have ih:=acc_greedy N k l g n
    simp only [accI,bL,Mat.greedy_append,Mat.greedy]
    rw [← ih]
    split
    · rw [List.map_append];rfl
    · rfl
theorem acc_len (N k l:Nat) (g:Nat→T_Bar) (n:Nat):(accI N k l g n).length=(Mat.greedy N k l [] (bL g n)).length:=by
  rw [← acc_greedy,List.length_map]
def OkBars (N nb:Nat) (g:Nat→T_Bar):Prop:=∀ e,e<nb→0≤(g e).1∧(g e).1<(g e).2.1∧(g e).2.1<N
theorem bL_good {N nb:Nat} {g:Nat→T_Bar} (h:OkBars N nb g):∀ x∈bL g nb,Mat.GoodBar N x:=by
  intro x hx
  obtain ⟨s,h1,h2⟩:=(bL_mem g x nb).1 hx
  have:=h s h1
  rw [← h2]
  simp only [Mat.GoodBar,brN]
  omega
theorem acc_same {N n n':Nat} {g g':Nat→T_Bar} (h:OkBars N n g) (hm:∀ y,(∃ s,s<n∧g s=y)↔∃ s,s<n'∧g' s=y):(accI N 2 3 g n).length=(accI N 2 3 g' n').length:=by
  rw [acc_len,acc_len]
  refine Mat.rank_same _ _ (bL_good h) (fun x=>?_)
  rw [bL_mem,bL_mem]
  constructor
  · rintro ⟨s,h1,h2⟩
    obtain ⟨t,h3,h4⟩:=(hm (g s)).1 ⟨s,h1,rfl⟩
    exact ⟨t,h3,by rw [h4,h2]⟩
  · rintro ⟨s,h1,h2⟩
    obtain ⟨t,h3,h4⟩:=(hm (g' s)).2 ⟨s,h1,rfl⟩
    exact ⟨t,h3,by rw [h4,h2]⟩
theorem con_planeRank {N nb:Nat} {g:Nat→T_Bar} (hb:OkBars N nb g) (hN:N≤1048576) (hnb:nb≤1048576):zE 188 [.p (.int .i64 N),brL g nb] [] (.p (.int .i64 ((accI N 2 3 g nb).length:Nat))):=by
  obtain ⟨m,F,T,Q,hc1,hp,hq⟩:=con_play (N:=N) (k:=2) (l:=3) hb (by omega) (by omega) hN hnb
  rw [← hq,qL_length]
  refine csZ Tryz.func188 (fun c hc=>?_)
  refine pkZ Tryz.func188 hc (rRank g nb N m F T Q) ?_
  and_intros
  all_goals (first | exact zN | (exact hc1) | (intro i hi;simp [All]))
theorem ok_snoc {N nb:Nat} {g:Nat→T_Bar} {x:T_Bar} (hb:OkBars N nb g) (hx:0≤x.1∧x.1<x.2.1∧x.2.1<N):OkBars N (nb+1) (snoc nb g x):=by
  intro e he
  by_cases h:e<nb
  · rw [snoc_lt h];exact hb e h
  · rw [snoc_ge h];exact hx
theorem con_raises {N nb:Nat} {g:Nat→T_Bar} {x:T_Bar} (hb:OkBars N nb g) (hx:0≤x.1∧x.1<x.2.1∧x.2.1<N) (hN:N≤1048576) (hnb:nb≤1000000) :
    zE 163 [.p (.int .i64 N),brL g nb,brA x] [] (.p (.bool (decide (((accI N 2 3 (snoc nb g x) (nb+1)).length:Int)>((accI N 2 3 g nb).length:Int))))):=by
  have h0:=con_planeRank hb hN (by omega)
  have h1:=con_planeRank (ok_snoc hb hx) hN (by omega)
  refine csZ Tryz.func163 (fun c hc=>?_)
  refine pkZ Tryz.func163 hc (rRaise g nb N x _ _) ?_
  repeat' (first | exact aN | apply aI)
  all_goals (first | exact zN | (exact h0) | (refine Con.arg_ext h1 ?_;simp only [brL,wkL,wk,wkP,beq_self_eq_true,Bool.and_self,if_true,ikEq,List.append_nil,List.cons_append,List.nil_append,All];refine ⟨trivial,by omega,fun i hi=>?_,trivial⟩;simp only [Nat.zero_add];by_cases h:i<nb<;>simp [h,cellP,tg,tru,snoc]))
noncomputable def impB (N nb:Nat) (g:Nat→T_Bar) (a b:Int):Bool :=
  bif a==b then true else (((accI N 2 3 (snoc nb g (brX a b)) (nb+1)).length:Nat):Int)==(((accI N 2 3 g nb).length:Nat):Int)
theorem brX_ok {N:Nat} {a b:Int} (ha:0≤a∧a<N) (hb:0≤b∧b<N) (hab:a≠b):0≤(brX a b).1∧(brX a b).1<(brX a b).2.1∧(brX a b).2.1<N:=by
  simp only [brX]
  by_cases h:b<a
  · rw [if_pos h,if_neg (by omega)];omega
  · rw [if_neg h,if_pos (by omega)];omega
theorem con_IsImplied_s {N nb:Nat} {g:Nat→T_Bar} (hg:isGraphF ((N:Int),(nb,g),())=true) (hok:OkBars N nb g) (hN:1≤N∧N≤8) (hnb:nb≤24) {a b:Int} (ha:0≤a∧a<N) (hb:0≤b∧b<N) :
    zE 166 [grG g nb N,.p (.int .i64 a),.p (.int .i64 b)] [] (.p (.bool (impB N nb g a b))):=by
  have hsm:smS s_Graph ((N:Int),(nb,g),()):=⟨by simp [smS,smL],⟨by show nb≤1048576;omega,fun i hi=>by simp [smS,smL]⟩,True.intro⟩
  have hcg:=con_IsGraph_s ((N:Int),(nb,g),()) hsm
  rw [hg] at hcg
  have hp:=con_l2Put g nb N (brX a b) (by omega)
  have hr0:=con_l6Rank hok hN (by omega)
  have hr1:a≠b→zE 189 [grG (insR g nb (brX a b)).2 (insR g nb (brX a b)).1 N] [] (.p (.int .i64 ((accI N 2 3 (snoc nb g (brX a b)) (nb+1)).length:Nat))):=by
    intro hab
    have hx:=brX_ok ha hb hab
    have hm:∀ y,(∃ s,s<(insR g nb (brX a b)).1∧(insR g nb (brX a b)).2 s=y)↔∃ s,s<nb+1∧snoc nb g (brX a b) s=y:=fun y=>by rw [insR_mem,snoc_mem]
    have hok':OkBars N (insR g nb (brX a b)).1 (insR g nb (brX a b)).2:=by
      intro e he
      obtain ⟨s,h1,h2⟩:=(hm _).1 ⟨e,he,rfl⟩
      rw [← h2]
      exact ok_snoc hok hx s h1
    rw [← acc_same hok' hm]
    exact con_l6Rank hok' hN (by rw [insR_n];omega)
  refine csZ Tryz.func166 (fun c hc=>?_)
  have hcond:(bif bif bif bif !true then true else decide (a<0) then true else decide (b<0) then true else decide (a≥(N:Int)) then true else decide (b≥(N:Int)))=false:=by
    have h1:¬ a<0:=by omega
    have h2:¬ b<0:=by omega
    have h3:¬ (N:Int)≤a:=by omega
    have h4:¬ (N:Int)≤b:=by omega
    simp [h1,h2,h3,h4]
  refine pkD Tryz.func166 hc (rIs g (insR g nb (brX a b)).2 nb (insR g nb (brX a b)).1 N a b (accI N 2 3 (snoc nb g (brX a b)) (nb+1)).length (accI N 2 3 g nb).length) ?_
  and_intros
  all_goals (first | exact zH | (exact hcg) | (exact hcond) | (exact hp) | (intro h;exact hr1 (by simpa using h)) | (intros;exact hr0) | (simp;done))
end Go.Proofs.YtkepkjbofchckaaGreat.Mach
namespace Go.Proofs.YtkepkjbofchckaaGreat.Mat
set_option linter.unusedVariables false
set_option linter.unusedSimpArgs false
noncomputable def rk (N:Nat) (L:List (Nat×Nat)):Nat:=(greedy N 2 3 [] L).length
def Imp (N:Nat) (I:List (Nat×Nat)) (a b:Nat):Prop:=∃ R,Tight N I R∧R a=true∧R b=true
theorem cnt_tri (A B C:Nat→Bool):∀ l,cnt A l+cnt B l+cnt C l≤cnt (uni (uni A B) C) l+cnt (cap2 A B) l+cnt (cap2 A C) l+cnt (cap2 B C) l
  | []=>by simp [cnt]
  | x::l=>by
    have:=cnt_tri A B C l
    simp only [cnt,inn,uni,cap2] at *
    cases A x.1<;>cases B x.1<;>cases C x.1<;>cases A x.2<;>cases B x.2<;>cases C x.2<;>simp<;>omega
theorem card_tri (A B C:Nat→Bool):∀ n,cardR A n+cardR B n+cardR C n+cardR (cap2 (cap2 A B) C) n=cardR (uni (uni A B) C) n+cardR (cap2 A B) n+cardR (cap2 A C) n+cardR (cap2 B C) n
  | 0=>rfl
  | n+1=>by
    have:=card_tri A B C n
    simp only [cardR,uni,cap2] at *
    cases A n<;>cases B n<;>cases C n<;>simp<;>omega
theorem cnt_zero_of {N:Nat} {I:List (Nat×Nat)} (hI:Sparse N 2 3 I) {R:Nat→Bool} (h:cardR R N≤1):cnt R I=0:=by
  have:=hI R
  by_cases e:0<cnt R I
  · have:=this e;omega
  · omega
theorem tight_union2 {N:Nat} {I:List (Nat×Nat)} (hI:Sparse N 2 3 I) {R S:Nat→Bool} (h1:Tight N I R) (h2:Tight N I S) (h:2≤cardR (cap2 R S) N):Tight N I (uni R S):=by
  have c1:=card_uni R S N
  have c2:=cnt_uni R S I
  have c3:=cnt_mono R (uni R S) (fun v h=>by simp [uni,h]) I
  have c4:=hI (uni R S)
  have c5:=hI (cap2 R S)
  unfold Tight at *
  by_cases e:0<cnt (cap2 R S) I
  · have:=c5 e;have:=c4 (by omega);omega
  · have:=c4 (by omega);omega
theorem card_none (R:Nat→Bool):∀ n,(∀ v,v<n→R v=false)→cardR R n=0
  | 0,_=>rfl
  | n+1,h=>by simp [cardR,card_none R n (fun v hv=>h v (by omega)),h n (by omega)]
theorem card_one_only (R:Nat→Bool) (a:Nat) (ra:R a=true):∀ n,a<n→cardR R n≤1→∀ v,v<n→R v=true→v=a:=by
  intro n ha h v hv hr
  by_cases e:v=a
  · exact e
  · have:=card_two R v a hr ra e n hv ha
    omega
theorem tight_tri {N:Nat} {I:List (Nat×Nat)} (hI:Sparse N 2 3 I) {a b c:Nat} (ha:a<N) (hb:b<N) (hc:c<N) (hab:a≠b) (hac:a≠c) (hbc:b≠c)
    (h1:Imp N I a b) (h2:Imp N I a c) (h3:Imp N I b c):∃ R,Tight N I R∧R a=true∧R b=true∧R c=true:=by
  obtain ⟨A,tA,a1,a2⟩:=h1
  obtain ⟨B,tB,b1,b2⟩:=h2
  obtain ⟨C,tC,c1,c2⟩:=h3
  by_cases k1:2≤cardR (cap2 A B) N
  · exact ⟨_,tight_union2 hI tA tB k1,by simp [uni,a1],by simp [uni,a2],by simp [uni,b2]⟩
  by_cases k2:2≤cardR (cap2 A C) N
  · exact ⟨_,tight_union2 hI tA tC k2,by simp [uni,a1],by simp [uni,a2],by simp [uni,c2]⟩
  by_cases k3:2≤cardR (cap2 B C) N
  · exact ⟨_,tight_union2 hI tB tC k3,by simp [uni,b1],by simp [uni,c1],by simp [uni,b2]⟩
  cases ca:C a with
  | true=>exact ⟨C,tC,ca,c1,c2⟩
  | false =>
    have e1:cardR (cap2 (cap2 A B) C) N=0:=by
      refine card_none _ _ (fun v hv=>?_)
      cases e:cap2 (cap2 A B) C v with
      | false=>rfl
      | true =>
        simp only [cap2,Bool.and_eq_true] at e
        have:=card_one_only (cap2 A B) a (by simp [cap2,a1,b1]) N ha (by omega) v hv (by simp [cap2,e.1.1,e.1.2])
        subst this
        rw [ca] at e
        exact absurd e.2 (by simp)
    have f1:=cnt_tri A B C I
    have f2:=card_tri A B C N
    have g1:=card_one (cap2 A B) a (by simp [cap2,a1,b1]) N ha
    have g2:=card_one (cap2 A C) b (by simp [cap2,a2,c1]) N hb
    have g3:=card_one (cap2 B C) c (by simp [cap2,b2,c2]) N hc
    have z1:=cnt_zero_of hI (R:=cap2 A B) (by omega)
    have z2:=cnt_zero_of hI (R:=cap2 A C) (by omega)
    have z3:=cnt_zero_of hI (R:=cap2 B C) (by omega)
    have c4:=hI (uni (uni A B) C)
    have m1:=cnt_mono A (uni (uni A B) C) (fun v h=>by simp [uni,h]) I
    refine ⟨uni (uni A B) C,?_,by simp [uni,a1],by simp [uni,a2],by simp [uni,b2]⟩
    have d1:=card_two A a b a1 a2 hab N ha hb
    unfold Tight at *
    have:=c4 (by omega)
    omega
theorem ground_tight {N:Nat} {I:List (Nat×Nat)} (hI:Sparse N 2 3 I) (gr:Nat→Nat):∀ m,2≤m→(∀ i,i<m→gr i<N)→(∀ i j,i<j→j<m→gr i≠gr j) →
    (∀ i,1≤i→i<m→Imp N I (gr 0) (gr i))→(∀ i,2≤i→i<m→Imp N I (gr 1) (gr i))→∃ R,Tight N I R∧∀ i,i<m→R (gr i)=true
  | 0,h,_,_,_,_=>absurd h (by omega)
  | 1,h,_,_,_,_=>absurd h (by omega)
  | 2,_,hN,hd,h0,h1=>by
    obtain ⟨R,t,r1,r2⟩:=h0 1 (Nat.le_refl _) (by omega)
    refine ⟨R,t,fun i hi=>?_⟩
    rcases (show i=0∨i=1 by omega) with rfl | rfl
    · exact r1
    · exact r2
  | m+3,_,hN,hd,h0,h1=>by
    obtain ⟨R,t,r⟩:=ground_tight hI gr (m+2) (by omega) (fun i hi=>hN i (by omega)) (fun i j h1 h2=>hd i j h1 (by omega)) (fun i h1 h2=>h0 i h1 (by omega)) (fun i h2 h3=>h1 i h2 (by omega))
    obtain ⟨T,tt,t0,t1,t2⟩:=tight_tri hI (hN 0 (by omega)) (hN 1 (by omega)) (hN (m+2) (by omega)) (hd 0 1 (by omega) (by omega)) (hd 0 (m+2) (by omega) (by omega)) (hd 1 (m+2) (by omega) (by omega))
      (h0 1 (Nat.le_refl _) (by omega)) (h0 (m+2) (by omega) (by omega)) (h1 (m+2) (by omega) (by omega))
    refine ⟨_,tight_union hI t tt (gr 0) (gr 1) (hd 0 1 (by omega) (by omega)) (hN 0 (by omega)) (hN 1 (by omega)) (r 0 (by omega)) (r 1 (by omega)) t0 t1,fun i hi=>?_⟩
    rcases Nat.lt_or_ge i (m+2) with h | h
    · simp [uni,r i h]
    · obtain rfl:i=m+2:=by omega
      simp [uni,t2]
theorem not_sparse_of_tight {N:Nat} {I:List (Nat×Nat)} {R:Nat→Bool} (h:Tight N I R) {x:Nat×Nat} (hx:inn R x=true):¬ Sparse N 2 3 (I++[x]):=by
  intro hs
  have h1:=hs R
  rw [cnt_append] at h1
  have hc:cnt R [x]=1:=by simp [cnt,hx]
  rw [hc] at h1
  have:=h1 (by omega)
  unfold Tight at h
  omega
theorem greedy_skip {N:Nat} {I:List (Nat×Nat)}:∀ xs:List (Nat×Nat),(∀ x∈xs,∃ R,Tight N I R∧inn R x=true)→greedy N 2 3 I xs=I
  | [],_=>rfl
  | x::xs,h=>by
    obtain ⟨R,t,r⟩:=h x (by simp)
    simp only [greedy]
    rw [if_neg (not_sparse_of_tight t r)]
    exact greedy_skip xs (fun y hy=>h y (by simp [hy]))
structure Grd (N m:Nat) (gr:Nat→Nat) (S:List (Nat×Nat)):Prop where
  two:2≤m
  lt:∀ i,i<m→gr i<N
  ne:∀ i j,i<j→j<m→gr i≠gr j
  b0:∀ i,1≤i→i<m→(gr 0,gr i)∈S
  b1:∀ i,2≤i→i<m→(gr 1,gr i)∈S
theorem Grd.tight {N m:Nat} {gr:Nat→Nat} {S L:List (Nat×Nat)} (h:Grd N m gr S) (hL:∀ x∈L,GoodBar N x) (hs:∀ x∈S,x∈L) :
    ∃ R,Tight N (greedy N 2 3 [] L) R∧∀ i,i<m→R (gr i)=true:=by
  have ht:=greedy_tight L [] hL (sparse_nil N 2 3)
  have imp:∀ x∈S,Imp N (greedy N 2 3 [] L) x.1 x.2:=by
    intro x hx
    obtain ⟨R,t,r⟩:=ht x (hs x hx)
    simp only [inn,Bool.and_eq_true] at r
    exact ⟨R,t,r.1,r.2⟩
  exact ground_tight (greedy_sparse N 2 3 L [] (sparse_nil N 2 3)) gr m h.two h.lt h.ne (fun i h1 h2=>imp _ (h.b0 i h1 h2)) (fun i h1 h2=>imp _ (h.b1 i h1 h2))
theorem Grd.same {N m:Nat} {gr:Nat→Nat} {S L M:List (Nat×Nat)} (h:Grd N m gr S) (hL:∀ x∈L,GoodBar N x) (hM:∀ x∈M,GoodBar N x) (hs:∀ x∈S,x∈L) (hLM:∀ x∈L,x∈M)
    (hML:∀ x∈M,x∈L∨∃ i j,i<m∧j<m∧x=(gr i,gr j)):rk N M=rk N L:=by
  obtain ⟨R,t,r⟩:=h.tight hL hs
  have e1:rk N M=rk N (L++M):=rank_same M (L++M) hM (fun x=>by
    simp only [List.mem_append]
    exact ⟨fun h=>.inr h,fun h'=>h'.elim (hLM x) id⟩)
  rw [e1]
  unfold rk
  rw [greedy_append,greedy_skip M (fun x hx=>?_)]
  rcases hML x hx with h' | ⟨i,j,hi,hj,rfl⟩
  · exact greedy_tight L [] hL (sparse_nil N 2 3) x h'
  · exact ⟨R,t,by simp [inn,r i hi,r j hj]⟩
theorem rk_same_iff {N:Nat} {L:List (Nat×Nat)} (hL:∀ x∈L,GoodBar N x) {a b:Nat} (hx:GoodBar N (a,b)):rk N (L++[(a,b)])=rk N L↔Imp N (greedy N 2 3 [] L) a b:=by
  unfold rk
  rw [greedy_append]
  simp only [greedy]
  constructor
  · intro he
    split at he
    · simp at he
    · rename_i hn
      obtain ⟨R,t,r⟩:=greedy_tight (L++[(a,b)]) [] (fun x h=>by
        rcases List.mem_append.1 h with h | h
        · exact hL x h
        · simp only [List.mem_cons,List.not_mem_nil,or_false] at h;subst h;exact hx) (sparse_nil N 2 3) (a,b) (by simp)
      rw [greedy_append] at t
      simp only [greedy] at t
      rw [if_neg hn] at t
      simp only [inn,Bool.and_eq_true] at r
      exact ⟨R,t,r.1,r.2⟩
  · rintro ⟨R,t,r1,r2⟩
    rw [if_neg (not_sparse_of_tight t (by simp [inn,r1,r2]))]
theorem rk_le_succ {N:Nat} {L:List (Nat×Nat)} (x:Nat×Nat):rk N L≤rk N (L++[x])∧rk N (L++[x])≤rk N L+1:=by
  unfold rk
  rw [greedy_append]
  simp only [greedy]
  split
  · simp
  · simp
theorem Grd.steady {N m:Nat} {gr:Nat→Nat} {S L:List (Nat×Nat)} (h:Grd N m gr S) (hL:∀ x∈L,GoodBar N x) (hs:∀ x∈S,x∈L) {v:Nat} (hv:v<N) :
    ((gr 0=v∨rk N (L++[(gr 0,v)])=rk N L)∧(gr 1=v∨rk N (L++[(gr 1,v)])=rk N L))↔∀ i,i<m→gr i=v∨rk N (L++[(gr i,v)])=rk N L:=by
  have h2:=h.two
  constructor
  · rintro ⟨h0,h1⟩ i hi
    by_cases e:gr i=v
    · exact .inl e
    right
    rw [rk_same_iff hL ⟨e,h.lt i hi,hv⟩]
    obtain ⟨R,t,r⟩:=h.tight hL hs
    by_cases e0:gr 0=v
    · exact ⟨R,t,r i hi,by rw [← e0];exact r 0 (by omega)⟩
    by_cases e1:gr 1=v
    · exact ⟨R,t,r i hi,by rw [← e1];exact r 1 (by omega)⟩
    have i0:=(rk_same_iff hL (a:=gr 0) (b:=v) ⟨e0,h.lt 0 (by omega),hv⟩).1 (h0.resolve_left e0)
    have i1:=(rk_same_iff hL (a:=gr 1) (b:=v) ⟨e1,h.lt 1 (by omega),hv⟩).1 (h1.resolve_left e1)
    have hsp:=greedy_sparse N 2 3 L [] (sparse_nil N 2 3)
    obtain ⟨T,tt,t0,t1,t2⟩:=tight_tri hsp (h.lt 0 (by omega)) (h.lt 1 (by omega)) hv (h.ne 0 1 (by omega) (by omega)) e0 e1 ⟨R,t,r 0 (by omega),r 1 (by omega)⟩ i0 i1
    exact ⟨_,tight_union hsp t tt (gr 0) (gr 1) (h.ne 0 1 (by omega) (by omega)) (h.lt 0 (by omega)) (h.lt 1 (by omega)) (r 0 (by omega)) (r 1 (by omega)) t0 t1,by simp [uni,r i hi],by simp [uni,t2]⟩
  · intro h'
    exact ⟨h' 0 (by omega),h' 1 (by omega)⟩
end Go.Proofs.YtkepkjbofchckaaGreat.Mat
namespace Go.Proofs.YtkepkjbofchckaaGreat.Mach
open Go Go.Sort
set_option linter.unusedVariables false
set_option linter.unusedSimpArgs false
theorem imp_symm {N:Nat} {I:List (Nat×Nat)} {a b:Nat} (h:Mat.Imp N I a b):Mat.Imp N I b a:=by
  obtain ⟨R,t,h1,h2⟩:=h
  exact ⟨R,t,h2,h1⟩
theorem rk_swap {N:Nat} {L:List (Nat×Nat)} (hL:∀ x∈L,Mat.GoodBar N x) {a b:Nat} (h1:a≠b) (h2:a<N) (h3:b<N):Mat.rk N (L++[(a,b)])=Mat.rk N L↔Mat.rk N (L++[(b,a)])=Mat.rk N L:=by
  rw [Mat.rk_same_iff hL ⟨h1,h2,h3⟩,Mat.rk_same_iff hL ⟨Ne.symm h1,h3,h2⟩]
  exact ⟨imp_symm,imp_symm⟩
theorem bL_congr {g g':Nat→T_Bar}:∀ n,(∀ i,i<n→g i=g' i)→bL g n=bL g' n
  | 0,_=>rfl
  | n+1,h=>by rw [bL,bL,bL_congr n (fun i hi=>h i (by omega)),h n (by omega)]
theorem bL_snoc (g:Nat→T_Bar) (nb:Nat) (x:T_Bar):bL (snoc nb g x) (nb+1)=bL g nb++[brN x]:=by
  rw [bL,bL_congr (g:=snoc nb g x) (g':=g) nb (fun i hi=>snoc_lt hi),snoc_ge (Nat.lt_irrefl _)]
theorem rk_brX {N:Nat} {L:List (Nat×Nat)} (hL:∀ x∈L,Mat.GoodBar N x) {a b:Int} (hab:a≠b) (ha:0≤a∧a<N) (hb:0≤b∧b<N):Mat.rk N (L++[brN (brX a b)])=Mat.rk N L↔Mat.rk N (L++[(a.toNat,b.toNat)])=Mat.rk N L:=by
  by_cases h:b<a
  · have e:brN (brX a b)=(b.toNat,a.toNat):=by
      simp only [brN,brX]
      rw [if_pos h,if_neg (by omega)]
    rw [e]
    exact rk_swap hL (by omega) (by omega) (by omega)
  · have e:brN (brX a b)=(a.toNat,b.toNat):=by
      simp only [brN,brX]
      rw [if_neg h,if_pos (by omega)]
    rw [e]
theorem impB_iff {N nb:Nat} {g:Nat→T_Bar} (hok:OkBars N nb g) {a b:Int} (ha:0≤a∧a<N) (hb:0≤b∧b<N) :
    impB N nb g a b=true↔a=b∨Mat.rk N (bL g nb++[(a.toNat,b.toNat)])=Mat.rk N (bL g nb):=by
  unfold impB
  by_cases h:a=b
  · simp [h]
  · have h':(a==b)=false:=beq_eq_false_iff_ne.2 h
    rw [h',cond_false,acc_len,acc_len,bL_snoc]
    have:=rk_brX (bL_good hok) h ha hb
    unfold Mat.rk at this ⊢
    rw [← this]
    simp [h,Int.ofNat_inj]
theorem bCs (v:T_Graph) :
    zS Tryz.f85 [rg 2,rg 8] [graphA v] [224] [(0,brOb v.2.1.1 v.2.1.2)] (.agg [.p (.int .i64 v.1),.ar 2 0 0 v.2.1.1]) =
    some [(NT 0 1),(NT 0 1),(NL 0 0),(NL ((0+v.2.1.1)*16) 140737488355328),(NL (0+v.2.1.1) 9223372036854775807),(NT 0 1),((true=true)→ (AN 1)),(NT 0 1),(AI v.1),(AN 0),(((0+v.2.1.1):Nat)=v.2.1.1),(AN 2),(NL v.2.1.1 (0+v.2.1.1)),(AA v.2.1.1 (fun i=>[.p (.int .i64 ((v.2.1.2 i).1)),.p (.int .i64 ((v.2.1.2 i).2.1))])),(AE v.2.1.1)]:=by kernel_rfl
theorem bSf (v:T_Graph) (a b:Int) (b1:Bool) :
    zS Tryz.f86 [rg 3,rm [(1,oc [] (.p (.bool b1)))] 32,.dec true,rm [(1,oc [(0,brOb v.2.1.1 v.2.1.2)] (.agg [.p (.int .i64 v.1),.ar 2 0 0 v.2.1.1]))] 2] [graphA v,.p (.int .i64 a),.p (.int .i64 b)] [1216] [(0,brOb v.2.1.1 v.2.1.2)] (.tup [.agg [.p (.int .i64 v.1),.ar 2 0 0 v.2.1.1],.p (.bool false)]) =
    some (zD [(NT 0 1),zE 134 [(zf100 v)] [] (.p (.bool b1)),(AG (!!b1)),(((!b1)=false)→ ((!!b1)=true)),(AG (!bif !b1 then true else decide (a<0))),(((bif !b1 then true else decide (a<0))=false)→ ((!bif !b1 then true else decide (a<0))=true)),(AG (!bif bif !b1 then true else decide (a<0) then true else decide (b<0))),(((!bif bif !b1 then true else decide (a<0) then true else decide (b<0))=true)→(NT 0 1)),(((bif bif !b1 then true else decide (a<0) then true else decide (b<0))=false)→ ((!bif bif !b1 then true else decide (a<0) then true else decide (b<0))=true)),(AG (!bif bif bif !b1 then true else decide (a<0) then true else decide (b<0) then true else decide (a≥v.1))),(((!bif bif bif !b1 then true else decide (a<0) then true else decide (b<0) then true else decide (a≥v.1))=true)→(NT 0 1)),(((bif bif bif !b1 then true else decide (a<0) then true else decide (b<0) then true else decide (a≥v.1))=false)→ ((!bif bif bif !b1 then true else decide (a<0) then true else decide (b<0) then true else decide (a≥v.1))=true)),(AG (!bif bif bif bif !b1 then true else decide (a<0) then true else decide (b<0) then true else decide (a≥v.1) then true else decide (b≥v.1))),(((bif bif bif bif !b1 then true else decide (a<0) then true else decide (b<0) then true else decide (a≥v.1) then true else decide (b≥v.1))=false)→ ((!bif bif bif bif !b1 then true else decide (a<0) then true else decide (b<0) then true else decide (a≥v.1) then true else decide (b≥v.1))=true)),(AG (!bif bif bif bif bif !b1 then true else decide (a<0) then true else decide (b<0) then true else decide (a≥v.1) then true else decide (b≥v.1) then true else a==b)),(((!bif bif bif bif bif !b1 then true else decide (a<0) then true else decide (b<0) then true else decide (a≥v.1) then true else decide (b≥v.1) then true else a==b)=true)→(NT 0 1)),(((bif bif bif bif bif !b1 then true else decide (a<0) then true else decide (b<0) then true else decide (a≥v.1) then true else decide (b≥v.1) then true else a==b)=false)→ ((!bif bif bif bif bif !b1 then true else decide (a<0) then true else decide (b<0) then true else decide (a≥v.1) then true else decide (b≥v.1) then true else a==b)=true)),((bif bif bif bif bif bif !b1 then true else decide (a<0) then true else decide (b<0) then true else decide (a≥v.1) then true else decide (b≥v.1) then true else a==b then true else decide ((↑v.2.1.1:Int)≥24))=true),zE 85 [(zf100 v)] (zf105 v) (.agg [.p (.int .i64 v.1),.ar 2 0 0 v.2.1.1]),((true=true)→ (AN 1)),(AI v.1),(AN 0),(AN v.2.1.1),(false=false),(AN 2),(NL v.2.1.1 v.2.1.1),(AA v.2.1.1 (fun i=>[.p (.int .i64 ((v.2.1.2 i).1)),.p (.int .i64 ((v.2.1.2 i).2.1))])),(AE v.2.1.1)] [0,1,2,3,4,5,6,7,6,6,8,9,10,9,9,11,12,12,13,14,15,14,14,16,17,0,18,0,19,0,20,21,22,23,24,25,26,27]):=by kernel_rfl
theorem bSt (v:T_Graph) (a b:Int) (b1:Bool) (m:Nat) (r r':Nat→T_Bar) :
    zS Tryz.f86 [rg 3,rm [(1,oc [] (.p (.bool b1)))] 32,.dec false,rm [(8,oc [(0,brOb m r)] (.agg [.p (.int .i64 v.1),.ar 2 0 0 m]))] 2] [graphA v,.p (.int .i64 a),.p (.int .i64 b)] [1440] [(0,brOb m r')] (.tup [.agg [.p (.int .i64 v.1),.ar 2 0 0 m],.p (.bool true)]) =
    some (zD [(NT 0 1),zE 134 [(zf100 v)] [] (.p (.bool b1)),(AG (!!b1)),(((!b1)=false)→ ((!!b1)=true)),(AG (!bif !b1 then true else decide (a<0))),(((bif !b1 then true else decide (a<0))=false)→ ((!bif !b1 then true else decide (a<0))=true)),(AG (!bif bif !b1 then true else decide (a<0) then true else decide (b<0))),(((!bif bif !b1 then true else decide (a<0) then true else decide (b<0))=true)→(NT 0 1)),(((bif bif !b1 then true else decide (a<0) then true else decide (b<0))=false)→ ((!bif bif !b1 then true else decide (a<0) then true else decide (b<0))=true)),(AG (!bif bif bif !b1 then true else decide (a<0) then true else decide (b<0) then true else decide (a≥v.1))),(((!bif bif bif !b1 then true else decide (a<0) then true else decide (b<0) then true else decide (a≥v.1))=true)→(NT 0 1)),(((bif bif bif !b1 then true else decide (a<0) then true else decide (b<0) then true else decide (a≥v.1))=false)→ ((!bif bif bif !b1 then true else decide (a<0) then true else decide (b<0) then true else decide (a≥v.1))=true)),(AG (!bif bif bif bif !b1 then true else decide (a<0) then true else decide (b<0) then true else decide (a≥v.1) then true else decide (b≥v.1))),(((bif bif bif bif !b1 then true else decide (a<0) then true else decide (b<0) then true else decide (a≥v.1) then true else decide (b≥v.1))=false)→ ((!bif bif bif bif !b1 then true else decide (a<0) then true else decide (b<0) then true else decide (a≥v.1) then true else decide (b≥v.1))=true)),(AG (!bif bif bif bif bif !b1 then true else decide (a<0) then true else decide (b<0) then true else decide (a≥v.1) then true else decide (b≥v.1) then true else a==b)),(((!bif bif bif bif bif !b1 then true else decide (a<0) then true else decide (b<0) then true else decide (a≥v.1) then true else decide (b≥v.1) then true else a==b)=true)→(NT 0 1)),(((bif bif bif bif bif !b1 then true else decide (a<0) then true else decide (b<0) then true else decide (a≥v.1) then true else decide (b≥v.1) then true else a==b)=false)→ ((!bif bif bif bif bif !b1 then true else decide (a<0) then true else decide (b<0) then true else decide (a≥v.1) then true else decide (b≥v.1) then true else a==b)=true)),((bif bif bif bif bif bif !b1 then true else decide (a<0) then true else decide (b<0) then true else decide (a≥v.1) then true else decide (b≥v.1) then true else a==b then true else decide ((↑v.2.1.1:Int)≥24))=false),zE 136 [(zf100 v),(zf22 b a)] (zf113 m r) (.agg [.p (.int .i64 v.1),.ar 2 0 0 m]),((true=true)→ (AN 1)),(AI v.1),(AN 0),(AN m),(true=true),(AN 2),(NL m m),(∀ i:Nat,(((i:Nat)<m)→(All []∧(([.p (.int .i64 ((r i).1)),.p (.int .i64 ((r i).2.1))]:List AV)=[.p (.int .i64 ((r' i).1)),.p (.int .i64 ((r' i).2.1))])))),(AE m)] [0,1,2,3,4,5,6,7,6,6,8,9,10,9,9,11,12,12,13,14,15,14,14,16,17,0,18,0,19,0,20,21,22,23,24,25,26,27]):=by kernel_rfl
theorem con_l2Copy (v:T_Graph) (hn:v.2.1.1≤1048576):zE 85 [graphA v] [(0,brOb v.2.1.1 v.2.1.2)] (.agg [.p (.int .i64 v.1),.ar 2 0 0 v.2.1.1]):=by
  refine csZ Tryz.func85 (fun c hc=>?_)
  refine pkZ Tryz.func85 hc (bCs v) ?_
  and_intros
  all_goals (first | exact zI | (intro j hj;simp [All];done) | (simp;try omega))
def abB (v:T_Graph) (a b:Int):Bool:=isGraphF v&&(inB a 0 (v.1 - 1)&&(inB b 0 (v.1 - 1)&&(!(a==b)&&!((v.2.1.1:Int)==24))))
def abG (v:T_Graph) (a b:Int):T_Graph:=if abB v a b=true then (v.1,(v.2.1.1+1,srtB (v.2.1.1+1) (snoc v.2.1.1 v.2.1.2 (brX a b))),()) else v
theorem abB_in {v:T_Graph} {a b:Int} (h:abB v a b=true):isGraphF v=true∧(0≤a∧a<v.1)∧(0≤b∧b<v.1)∧a≠b∧v.2.1.1<24:=by
  simp only [abB,inB,Bool.and_eq_true,decide_eq_true_eq,Bool.not_eq_true',beq_eq_false_iff_ne,ne_eq] at h
  obtain ⟨hg,⟨h1,h2⟩,⟨h3,h4⟩,h5,h6⟩:=h
  have:=graph_inR hg
  exact ⟨hg,⟨h1,by omega⟩,⟨h3,by omega⟩,h5,by omega⟩
theorem abG_n (v:T_Graph) (a b:Int):(abG v a b).2.1.1≤v.2.1.1∨(abG v a b).2.1.1≤24:=by
  unfold abG
  split
  · rename_i h
    have:=abB_in h
    right;show v.2.1.1+1≤24;omega
  · left;exact Nat.le_refl _
theorem con_AddBar_s (v:T_Graph) (hs:smS s_Graph v) (a b:Int) :
    zE 86 [graphA v,.p (.int .i64 a),.p (.int .i64 b)] [(0,brOb (abG v a b).2.1.1 (abG v a b).2.1.2)] (.tup [.agg [.p (.int .i64 (abG v a b).1),.ar 2 0 0 (abG v a b).2.1.1],.p (.bool (abB v a b))]):=by
  have hn:v.2.1.1≤1048576:=hs.2.1.1
  have cc:=con_l2Copy v hn
  have c1:=con_IsGraph_s v hs
  have hcd:(bif bif bif bif bif bif !isGraphF v then true else decide (a<0) then true else decide (b<0) then true else decide (a≥v.1) then true else decide (b≥v.1) then true else a==b then true else decide ((v.2.1.1:Int)≥24))=!abB v a b:=by
    unfold abB inB
    cases hg:isGraphF v with
    | false=>rfl
    | true =>
      have:=graph_inR hg
      have e1:decide (a≥v.1)=!decide (a≤v.1 - 1):=by
        by_cases h:a≥v.1
        · have:¬ a≤v.1 - 1:=by omega
          simp [h,this]
        · have:a≤v.1 - 1:=by omega
          simp [h,this]
      have e2:decide (b≥v.1)=!decide (b≤v.1 - 1):=by
        by_cases h:b≥v.1
        · have:¬ b≤v.1 - 1:=by omega
          simp [h,this]
        · have:b≤v.1 - 1:=by omega
          simp [h,this]
      have e3:decide (a<0)=!decide (0≤a):=by
        by_cases h:a<0
        · have:¬ 0≤a:=by omega
          simp [h,this]
        · have:0≤a:=by omega
          simp [h,this]
      have e4:decide (b<0)=!decide (0≤b):=by
        by_cases h:b<0
        · have:¬ 0≤b:=by omega
          simp [h,this]
        · have:0≤b:=by omega
          simp [h,this]
      have e5:decide ((v.2.1.1:Int)≥24)=((v.2.1.1:Int)==24):=by
        by_cases h:v.2.1.1=24
        · rw [h];rfl
        · have h1:¬ (v.2.1.1:Int)≥24:=by omega
          have h2:¬ (v.2.1.1:Int)=24:=by omega
          simp only [h1,decide_false]
          exact (beq_eq_false_iff_ne.2 h2).symm
      rw [e1,e2,e3,e4,e5]
      cases decide (0≤a)<;>cases decide (0≤b)<;>cases decide (a≤v.1 - 1)<;>cases decide (b≤v.1 - 1)<;>cases (a==b)<;>cases ((v.2.1.1:Int)==24)<;>rfl
  refine csZ Tryz.func86 (fun c hc=>?_)
  cases hb:abB v a b with
  | false =>
    rw [hb] at hcd
    have hcd':(bif bif bif bif bif bif !isGraphF v then true else decide (a<0) then true else decide (b<0) then true else decide (a≥v.1) then true else decide (b≥v.1) then true else a==b then true else decide ((v.2.1.1:Int)≥24))=true:=hcd
    rw [show abG v a b=v by simp [abG,hb]]
    refine pkD Tryz.func86 hc (bSf v a b (isGraphF v)) ?_
    and_intros
    all_goals (first | exact zH | (exact cc) | (exact c1) | (exact hcd') | (intro j hj;simp [All]))
  | true =>
    rw [hb] at hcd
    have hcd':(bif bif bif bif bif bif !isGraphF v then true else decide (a<0) then true else decide (b<0) then true else decide (a≥v.1) then true else decide (b≥v.1) then true else a==b then true else decide ((v.2.1.1:Int)≥24))=false:=hcd
    have hin:=abB_in hb
    have hgr:=graph_inR hin.1
    rw [show abG v a b=(v.1,(v.2.1.1+1,srtB (v.2.1.1+1) (snoc v.2.1.1 v.2.1.2 (brX a b))),()) by simp [abG,hb]]
    have cp:=con_l2Put v.2.1.2 v.2.1.1 v.1.toNat (brX a b) hn
    have hN:((v.1.toNat:Nat):Int)=v.1:=by omega
    rw [grG,hN] at cp
    have hl:=insR_list v.2.1.2 v.2.1.1 (brX a b) (goodB_sorted hgr.2.2.2)
    have hn':=insR_n v.2.1.2 v.2.1.1 (brX a b)
    rw [hn'] at cp hl
    rw [← lstB_snoc,← lstB_srt] at hl
    have hrow:=lstB_inj hl
    generalize srtB (v.2.1.1+1) (snoc v.2.1.1 v.2.1.2 (brX a b))=r at hrow ⊢
    generalize (insR v.2.1.2 v.2.1.1 (brX a b)).2=r0 at cp hrow
    refine pkD Tryz.func86 hc (bSt v a b (isGraphF v) (v.2.1.1+1) r0 r) ?_
    and_intros
    iterate 2 all_goals (first | exact zH | (exact c1) | (exact cp) | (exact hcd') | (intro j hj;simp [All];done) | (intro j hj;rw [hrow j hj];simp [cvtL,cvt,tg,tru,All]) | simp only [All])
def SAB (N:Int) (n:Nat) (h:Nat→T_Bar):St :=
  ⟨[.p .any,.p .any,.p .any,.p .any,.p .any,.p .any,.pt 2 0 0 0,.p .any,.pt 2 1 0 0]++List.replicate 41 anyA,[(0,zG2),(1,⟨true,2,1,fun _=>[.p (.int .i64 N),.ar 2 2 0 n]⟩),(2,brOb n h)],3⟩
theorem bCi (v:T_Graph) :
    zS Tryz.f141 [rg 2,rg 8] [graphA v] [224] [(0,brOb v.2.1.1 v.2.1.2)] (.agg [.p (.int .i64 v.1),.ar 2 0 0 v.2.1.1]) =
    some [(NT 0 1),(NT 0 1),(NL 0 0),(NL ((0+v.2.1.1)*16) 140737488355328),(NL (0+v.2.1.1) 9223372036854775807),(NT 0 1),((true=true)→ (AN 1)),(NT 0 1),(AI v.1),(AN 0),(((0+v.2.1.1):Nat)=v.2.1.1),(AN 2),(NL v.2.1.1 (0+v.2.1.1)),(AA v.2.1.1 (fun i=>[.p (.int .i64 ((v.2.1.2 i).1)),.p (.int .i64 ((v.2.1.2 i).2.1))])),(AE v.2.1.1)]:=by kernel_rfl
theorem bIf (v:T_Graph) (a b:Int) (b1 b2 b3:Bool) :
    zS Tryz.f84 [rg 3,rm [(1,oc [(0,brOb v.2.1.1 v.2.1.2)] (.agg [.p (.int .i64 v.1),.ar 2 0 0 v.2.1.1]))] 2,rm [(1,oc [] (.p (.bool b1))),(4,oc [] (.p (.bool b2))),(5,oc [] (.p (.bool b3)))] 13,.dec true,rg 3] [graphA v,.p (.int .i64 a),.p (.int .i64 b)] [128] [(0,brOb v.2.1.1 v.2.1.2)] (.tup [.agg [.p (.int .i64 v.1),.ar 2 0 0 v.2.1.1],.p (.bool false)]) =
    some (zD [(NT 0 1),zE 141 [(zf100 v)] (zf105 v) (.agg [.p (.int .i64 v.1),.ar 2 0 0 v.2.1.1]),((true=true)→ (AN 1)),zE 130 [(zf100 v)] [] (.p (.bool b1)),(((!!b1)=true)→(NT 0 1)),(AG (!!b1)),(((!!b1)=true)→ zE 148 [(zf100 v),.p (.int .i64 a)] [] (.p (.bool b2))),(((!b1)=false)→ ((!!b1)=true)),(((!bif !b1 then true else !b2)=true)→(NT 0 1)),(AG (!bif !b1 then true else !b2)),(((!bif !b1 then true else !b2)=true)→ zE 148 [(zf100 v),.p (.int .i64 b)] [] (.p (.bool b3))),(((bif !b1 then true else !b2)=false)→ ((!bif !b1 then true else !b2)=true)),(AG (!bif bif !b1 then true else !b2 then true else !b3)),(((bif bif !b1 then true else !b2 then true else !b3)=false)→ ((!bif bif !b1 then true else !b2 then true else !b3)=true)),(AG (!bif bif bif !b1 then true else !b2 then true else !b3 then true else a==b)),(((!bif bif bif !b1 then true else !b2 then true else !b3 then true else a==b)=true)→(NT 0 1)),(((bif bif bif !b1 then true else !b2 then true else !b3 then true else a==b)=false)→ ((!bif bif bif !b1 then true else !b2 then true else !b3 then true else a==b)=true)),((bif bif bif bif !b1 then true else !b2 then true else !b3 then true else a==b then true else (↑v.2.1.1:Int)==24)=true),(AI v.1),(AN 0),(AN v.2.1.1),(false=false),(AN 2),(NL v.2.1.1 v.2.1.1),(AA v.2.1.1 (fun i=>[.p (.int .i64 ((v.2.1.2 i).1)),.p (.int .i64 ((v.2.1.2 i).2.1))])),(AE v.2.1.1)] [0,1,0,2,0,3,4,5,5,6,5,7,8,9,9,10,9,11,12,12,13,14,15,14,14,16,17,0,0,2,0,18,19,20,21,22,23,24,25]):=by kernel_rfl
theorem bIa (v:T_Graph) (a b:Int) (b1 b2 b3:Bool) (x:T_Bar) :
    zT Tryz.f84 [rg 3,rm [(1,oc [(0,brOb v.2.1.1 v.2.1.2)] (.agg [.p (.int .i64 v.1),.ar 2 0 0 v.2.1.1]))] 2,rm [(1,oc [] (.p (.bool b1))),(4,oc [] (.p (.bool b2))),(5,oc [] (.p (.bool b3)))] 13,.dec false,rm [(4,oc [] (.agg [.p (.int .i64 x.1),.p (.int .i64 x.2.1)]))] 4,.head] [graphA v,.p (.int .i64 a),.p (.int .i64 b)] [32,160,1248] (SAB v.1 (v.2.1.1+1) (snoc v.2.1.1 v.2.1.2 x)) =
    some ([.code (cAt (bodyOf Tryz.f84) [1,1,1,1,0]),.code (cAt (bodyOf Tryz.f84) [1,1,1,1,1])],zD [(NT 0 1),zE 141 [(zf100 v)] (zf105 v) (.agg [.p (.int .i64 v.1),.ar 2 0 0 v.2.1.1]),((true=true)→ (AN 1)),zE 130 [(zf100 v)] [] (.p (.bool b1)),(((!!b1)=true)→(NT 0 1)),(AG (!!b1)),(((!!b1)=true)→ zE 148 [(zf100 v),.p (.int .i64 a)] [] (.p (.bool b2))),(((!b1)=false)→ ((!!b1)=true)),(((!bif !b1 then true else !b2)=true)→(NT 0 1)),(AG (!bif !b1 then true else !b2)),(((!bif !b1 then true else !b2)=true)→ zE 148 [(zf100 v),.p (.int .i64 b)] [] (.p (.bool b3))),(((bif !b1 then true else !b2)=false)→ ((!bif !b1 then true else !b2)=true)),(AG (!bif bif !b1 then true else !b2 then true else !b3)),(((bif bif !b1 then true else !b2 then true else !b3)=false)→ ((!bif bif !b1 then true else !b2 then true else !b3)=true)),(AG (!bif bif bif !b1 then true else !b2 then true else !b3 then true else a==b)),(((!bif bif bif !b1 then true else !b2 then true else !b3 then true else a==b)=true)→(NT 0 1)),(((bif bif bif !b1 then true else !b2 then true else !b3 then true else a==b)=false)→ ((!bif bif bif !b1 then true else !b2 then true else !b3 then true else a==b)=true)),((bif bif bif bif !b1 then true else !b2 then true else !b3 then true else a==b then true else (↑v.2.1.1:Int)==24)=false),zE 106 [.p (.int .i64 a),.p (.int .i64 b)] [] (.agg [.p (.int .i64 x.1),.p (.int .i64 x.2.1)]),(NL 1 1),(NL v.2.1.1 v.2.1.1),(NL ((v.2.1.1+1)*16) 140737488355328),(NL (v.2.1.1+1) 9223372036854775807),(AN 0),((((List.map (fun v=>AV.p (absV v)) [Value.int IntKind.i64 0,Value.slice none 0 0]).length):Nat)=2),(AI 0),(AI v.1),(AN ((v.2.1.1+1))),(AN 2),(NL (v.2.1.1+1) (v.2.1.1+1)),(CV [(160,⟨true,2,1,(fun i_1=>[.p (.int .i64 v.1),.ar 2 1248 0 (v.2.1.1+1)])⟩),(1248,⟨false,2,(v.2.1.1+1),(fun i_1=>(if (i_1<v.2.1.1) then [.p (.int .i64 ((v.2.1.2 i_1).1)),.p (.int .i64 ((v.2.1.2 i_1).2.1))] else [.p (.int .i64 x.1),.p (.int .i64 x.2.1)]))⟩),(1216,⟨false,2,1,(fun i_1=>[.p (.int .i64 x.1),.p (.int .i64 x.2.1)])⟩),(32,⟨true,2,1,(fun i_1=>[.p (.int .i64 0),.p (.nil)])⟩),(0,⟨true,2,1,(fun i_1=>[.p (.int .i64 v.1),.p (.seq true 2 v.2.1.1 (bRw v.2.1.2))])⟩)] [32,160,1248] 1 (v.2.1.1+1) (fun i=>if (i<v.2.1.1) then [.p (.int .i64 ((v.2.1.2 i).1)),.p (.int .i64 ((v.2.1.2 i).2.1))] else [.p (.int .i64 x.1),.p (.int .i64 x.2.1)]) (fun i=>[.p (.int .i64 (if i<v.2.1.1 then (v.2.1.2 i).1 else x.1)),.p (.int .i64 (if i<v.2.1.1 then (v.2.1.2 i).2.1 else x.2.1))]))] [0,1,0,2,0,3,4,5,5,6,5,7,8,9,9,10,9,11,12,12,13,14,15,14,14,16,17,0,18,19,20,21,22,0,2,23,23,24,19,19,25,24,19,19,26,23,27,28,29,30]):=by kernel_rfl
theorem bIb (N:Int) (n:Nat) (h r:Nat→T_Bar) :
    zP Tryz.f84 0 [rm [(2,oq [2] [(0,brOb n r)] (.tup []))] 0,rg 3] [.code (cAt (bodyOf Tryz.f84) [1,1,1,1,0]),.code (cAt (bodyOf Tryz.f84) [1,1,1,1,1])] (SAB N n h) [2] 1 [(0,brOb n r)] ((zf125 N n)) =
    some [(NT 0 1),(AE n),Con Tryz.prog 132 1 (zf113 n h) [.ar 2 0 0 n,.p (.fn 133)] (zf113 n r) (.tup []),(NT 0 1),(NT 0 1),((true=true)→ (AN 1)),(NT 0 1),(AI N),(AN 0),(AN n),(true=true),(AN 2),(NL n n),(AA n (fun i=>[.p (.int .i64 ((r i).1)),.p (.int .i64 ((r i).2.1))])),(AE n)]:=by kernel_rfl
theorem con_copyGraph (v:T_Graph) (hn:v.2.1.1≤1048576):zE 141 [graphA v] [(0,brOb v.2.1.1 v.2.1.2)] (.agg [.p (.int .i64 v.1),.ar 2 0 0 v.2.1.1]):=by
  refine csZ Tryz.func141 (fun c hc=>?_)
  refine pkZ Tryz.func141 hc (bCi v) ?_
  and_intros
  all_goals (first | exact zI | (intro j hj;simp [All];done) | (simp;try omega))
theorem con_AddBar_i (v:T_Graph) (hs:smS s_Graph v) (a b:Int) :
    zE 84 [graphA v,.p (.int .i64 a),.p (.int .i64 b)] [(0,brOb (abG v a b).2.1.1 (abG v a b).2.1.2)] (.tup [.agg [.p (.int .i64 (abG v a b).1),.ar 2 0 0 (abG v a b).2.1.1],.p (.bool (abB v a b))]):=by
  have hn:v.2.1.1≤1048576:=hs.2.1.1
  have cc:=con_copyGraph v hn
  have c1:=con_IsGraph_i v hs
  have c2:isGraphF v=true→∀ p,zE 148 [graphA v,.p (.int .i64 p)] [] (.p (.bool (inB p 0 (v.1 - 1)))):=fun h p=>by
    have:=graph_inR h
    exact con_hasX v p this.1 this.2.1
  have hcd:(bif bif bif bif !isGraphF v then true else !inB a 0 (v.1 - 1) then true else !inB b 0 (v.1 - 1) then true else a==b then true else (v.2.1.1:Int)==24)=!abB v a b:=by
    unfold abB
    cases isGraphF v<;>cases inB a 0 (v.1 - 1)<;>cases inB b 0 (v.1 - 1)<;>cases (a==b)<;>cases ((v.2.1.1:Int)==24)<;>rfl
  have c2a:(!!isGraphF v)=true→zE 148 [graphA v,.p (.int .i64 a)] [] (.p (.bool (inB a 0 (v.1 - 1)))):=fun h=>c2 (by simpa using h) a
  have c2b:(!bif !isGraphF v then true else !inB a 0 (v.1 - 1))=true→zE 148 [graphA v,.p (.int .i64 b)] [] (.p (.bool (inB b 0 (v.1 - 1)))):=fun h=>c2 (by
    cases hb:isGraphF v with
    | true=>rfl
    | false=>rw [hb] at h;simp at h) b
  refine csZ Tryz.func84 (fun c hc=>?_)
  cases hb:abB v a b with
  | false =>
    rw [hb] at hcd
    have hcd':(bif bif bif bif !isGraphF v then true else !inB a 0 (v.1 - 1) then true else !inB b 0 (v.1 - 1) then true else a==b then true else (v.2.1.1:Int)==24)=true:=hcd
    rw [show abG v a b=v by simp [abG,hb]]
    refine pkD Tryz.func84 hc (bIf v a b (isGraphF v) (inB a 0 (v.1 - 1)) (inB b 0 (v.1 - 1))) ?_
    and_intros
    all_goals (first | exact zH | (exact cc) | (exact c1) | (exact c2a) | (exact c2b) | (exact hcd') | (intro j hj;simp [All]))
  | true =>
    rw [hb] at hcd
    have hcd':(bif bif bif bif !isGraphF v then true else !inB a 0 (v.1 - 1) then true else !inB b 0 (v.1 - 1) then true else a==b then true else (v.2.1.1:Int)==24)=false:=hcd
    have hin:=abB_in hb
    rw [show abG v a b=(v.1,(v.2.1.1+1,srtB (v.2.1.1+1) (snoc v.2.1.1 v.2.1.2 (brX a b))),()) by simp [abG,hb]]
    have cb:=con_barX a b
    have h2:=con_sortBars (v.2.1.1+1) (snoc v.2.1.1 v.2.1.2 (brX a b)) (by omega)
    generalize brX a b=x at cb h2 ⊢
    generalize srtB (v.2.1.1+1) (snoc v.2.1.1 v.2.1.2 x)=r at h2 ⊢
    refine pcD hc (bIa v a b (isGraphF v) (inB a 0 (v.1 - 1)) (inB b 0 (v.1 - 1)) x) ?_ (pkZ Tryz.func84 hc (bIb v.1 (v.2.1.1+1) (snoc v.2.1.1 v.2.1.2 x) r) ?_)
    ·
      and_intros
      all_goals (first | exact zH | (exact cc) | (exact c1) | (exact c2a) | (exact c2b) | (exact hcd') | (exact cb) | (intro j hj;by_cases h':j<v.2.1.1<;>simp [h',snoc,cvtL,cvt,tg,tru,All];done) | (intro j hj;simp [All];done) | (simp;try omega))
    ·
      and_intros
      all_goals (first | exact zH | (exact h2) | (intro j hj;simp [All];done) | (simp;try omega))
open Go
def dblB (g:Nat→T_Bar):Nat→Bool
  | 0=>false
  | k+1=>dblB g k||(decide (1≤k)&&q1_BarS (g ((k:Int) - 1).toNat) (g k))
def simpleF (v:T_Graph):Bool:=!dblB v.2.1.2 v.2.1.1&&isGraphF v
def S86 (v:T_Graph) (k:Nat):St :=
  ⟨[graphA v,.pt 2 0 0 0,.p .any,.p (.int .i64 k)]++List.replicate 21 anyA,[(0,boxG v)],1⟩
def S88 (v:T_Graph) (k:Nat):St :=
  ⟨[graphA v,.pt 2 0 0 0,.p .any,.p (.int .i64 k)]++List.replicate 19 anyA,[(0,boxG v)],1⟩
theorem p86a (v:T_Graph) :
    zT Tryz.f151 [rg 2,rg 1,.head] [graphA v] [0] (S86 v 1) =
    some (zf88,zD [(AI v.1),(AN v.2.1.1),(AP v.2.1.1 (bRw v.2.1.2)),(AN 0),((1:Int)=(↑1:Int)),((([AV.p (PV.int IntKind.i64 v.1),graphL v.2.1].length):Nat)=2),(NL 1 1)] [0,1,2,3,4,5,6,6,0,1,2]):=by kernel_rfl
theorem p86b (v:T_Graph) (k:Nat) :
    zM 0 [rg 5,.dec true,rg 12,.dec false,rg 3,.head] zf88 (S86 v k) [0] 1 (S86 v (k+1)) =
    some (zf88,zD [(NT 0 1),((decide ((↑k:Int)<(↑v.2.1.1:Int)))=true),(ZLo ((↑k:Int) - 1)),(ZHi ((↑k:Int) - 1)),(IL 0 ((↑k:Int) - 1)),(IT ((↑k:Int) - 1) (↑v.2.1.1:Int)),(IL 0 (↑k:Int)),(IT (↑k:Int) (↑v.2.1.1:Int)),(((v.2.1.2 ((↑k:Int) - 1).toNat).1==(v.2.1.2 k).1&&((v.2.1.2 ((↑k:Int) - 1).toNat).2.1==(v.2.1.2 k).2.1&&true))=false),(ZLo ((↑k:Int)+1)),(ZHi ((↑k:Int)+1)),(AI v.1),(AN v.2.1.1),(AP v.2.1.1 (bRw v.2.1.2)),(AN 0),((((↑k:Int)+1):Int)=(↑(k+1):Int)),(AN 2),(NL 1 1)] [0,1,0,2,3,4,5,0,6,7,8,9,10,11,12,13,14,15,16,17,17,11,12,13]):=by kernel_rfl
theorem p86c (v:T_Graph) (k:Nat) :
    zP Tryz.f151 0 [rg 5,.dec true,rg 12,.dec true,rg 1] zf88 (S86 v k) [] 1 [] (.p (.bool false)) =
    some [(NT 0 1),((decide ((↑k:Int)<(↑v.2.1.1:Int)))=true),(NT 0 1),(ZLo ((↑k:Int) - 1)),(ZHi ((↑k:Int) - 1)),(IL 0 ((↑k:Int) - 1)),(IT ((↑k:Int) - 1) (↑v.2.1.1:Int)),(NT 0 1),(IL 0 (↑k:Int)),(IT (↑k:Int) (↑v.2.1.1:Int)),(((v.2.1.2 ((↑k:Int) - 1).toNat).1==(v.2.1.2 k).1&&((v.2.1.2 ((↑k:Int) - 1).toNat).2.1==(v.2.1.2 k).2.1&&true))=true),(false=false)]:=by kernel_rfl
theorem p86d (v:T_Graph) (k:Nat) :
    zP Tryz.f151 0 [rg 5,.dec false,rm [(1,oc [] (.p (.bool (isGraphF v))))] 1] zf88 (S86 v k) [] 1 [] (.p (.bool (isGraphF v))) =
    some [(NT 0 1),((decide ((↑k:Int)<(↑v.2.1.1:Int)))=false),(NT 0 1),zE 134 [(zf100 v)] [] (.p (.bool (isGraphF v))),((isGraphF v)=(isGraphF v))]:=by kernel_rfl
theorem p88a (v:T_Graph) :
    zT Tryz.f147 [rg 2,rg 1,.head] [graphA v] [0] (S88 v 1) =
    some (zf89,zD [(AI v.1),(AN v.2.1.1),(AP v.2.1.1 (bRw v.2.1.2)),(AN 0),((1:Int)=(↑1:Int)),((([AV.p (PV.int IntKind.i64 v.1),graphL v.2.1].length):Nat)=2),(NL 1 1)] [0,1,2,3,4,5,6,6,0,1,2]):=by kernel_rfl
theorem p88b (v:T_Graph) (k:Nat) :
    zM 0 [rg 5,.dec true,rg 12,.dec false,rg 3,.head] zf89 (S88 v k) [0] 1 (S88 v (k+1)) =
    some (zf89,zD [(NT 0 1),((decide ((↑k:Int)<(↑v.2.1.1:Int)))=true),(ZLo ((↑k:Int) - 1)),(ZHi ((↑k:Int) - 1)),(IL 0 ((↑k:Int) - 1)),(IT ((↑k:Int) - 1) (↑v.2.1.1:Int)),(IL 0 (↑k:Int)),(IT (↑k:Int) (↑v.2.1.1:Int)),(((v.2.1.2 ((↑k:Int) - 1).toNat).1==(v.2.1.2 k).1&&((v.2.1.2 ((↑k:Int) - 1).toNat).2.1==(v.2.1.2 k).2.1&&true))=false),(ZLo ((↑k:Int)+1)),(ZHi ((↑k:Int)+1)),(AI v.1),(AN v.2.1.1),(AP v.2.1.1 (bRw v.2.1.2)),(AN 0),((((↑k:Int)+1):Int)=(↑(k+1):Int)),(AN 2),(NL 1 1)] [0,1,0,2,3,4,5,0,6,7,8,9,10,11,12,13,14,15,16,17,17,11,12,13]):=by kernel_rfl
theorem p88c (v:T_Graph) (k:Nat) :
    zP Tryz.f147 0 [rg 5,.dec true,rg 12,.dec true,rg 1] zf89 (S88 v k) [] 1 [] (.p (.bool true)) =
    some [(NT 0 1),((decide ((↑k:Int)<(↑v.2.1.1:Int)))=true),(NT 0 1),(ZLo ((↑k:Int) - 1)),(ZHi ((↑k:Int) - 1)),(IL 0 ((↑k:Int) - 1)),(IT ((↑k:Int) - 1) (↑v.2.1.1:Int)),(NT 0 1),(IL 0 (↑k:Int)),(IT (↑k:Int) (↑v.2.1.1:Int)),(((v.2.1.2 ((↑k:Int) - 1).toNat).1==(v.2.1.2 k).1&&((v.2.1.2 ((↑k:Int) - 1).toNat).2.1==(v.2.1.2 k).2.1&&true))=true),(true=true)]:=by kernel_rfl
theorem p88d (v:T_Graph) (k:Nat) :
    zP Tryz.f147 0 [rg 5,.dec false,rg 1] zf89 (S88 v k) [] 1 [] (.p (.bool false)) =
    some [(NT 0 1),((decide ((↑k:Int)<(↑v.2.1.1:Int)))=false),(false=false)]:=by kernel_rfl
theorem p89 (v:T_Graph) (p:Int) :
    zS Tryz.f148 [rg 2,rm [(4,oc [] (.p (.bool (inB p 0 (v.1 - 1)))))] 1] [graphA v,.p (.int .i64 p)] [] [] (.p (.bool (inB p 0 (v.1 - 1)))) =
    some [(NT 0 1),(ZLo (v.1 - 1)),(ZHi (v.1 - 1)),zE 90 [.p (.int .i64 p),.p (.int .i64 0),.p (.int .i64 (v.1 - 1))] [] (.p (.bool (inB p 0 (v.1 - 1)))),((inB p 0 (v.1 - 1))=(inB p 0 (v.1 - 1)))]:=by kernel_rfl
theorem dblB_hit (g:Nat→T_Bar) (k:Nat) (h1:1≤k) (h:q1_BarS (g ((k:Int) - 1).toNat) (g k)=true):∀ n,k<n→dblB g n=true
  | 0,h'=>by omega
  | n+1,h'=>by
    by_cases e:k=n
    · subst e;rw [dblB,h,decide_eq_true h1];simp
    · simp [dblB,dblB_hit g k h1 h n (by omega)]
theorem con_l17Simple (v:T_Graph) (hs:smS s_Graph v):zE 151 [graphA v] [] (.p (.bool (simpleF v))):=by
  refine csZ Tryz.func151 (fun c hc=>?_)
  have hn:v.2.1.1≤1048576:=hs.2.1.1
  have lp:∀ m k,1≤k→v.2.1.1≤k+m→k≤1048577→dblB v.2.1.2 (min k v.2.1.1)=false→zR c 151 zf88 (S86 v k) (Post c [] (.p (.bool (simpleF v)))):=by
    intro m
    induction m with
    | zero =>
      intro k h1 hk hk2 hg
      have hd:decide ((k:Int)<(v.2.1.1:Int))=false:=by simp;omega
      rw [show min k v.2.1.1=v.2.1.1 by omega] at hg
      rw [show simpleF v=isGraphF v by simp [simpleF,hg]]
      refine pkZ Tryz.func151 hc (p86d v k) ?_
      and_intros
      all_goals (first | exact zN | (exact con_IsGraph_s v hs))
    | succ m ih =>
      intro k h1 hk hk2 hg
      by_cases hkn:k<v.2.1.1
      · have hd:decide ((k:Int)<(v.2.1.1:Int))=true:=by simp;omega
        rw [show min k v.2.1.1=k by omega] at hg
        cases he:q1_BarS (v.2.1.2 ((k:Int) - 1).toNat) (v.2.1.2 k) with
        | true =>
          rw [show simpleF v=false by simp [simpleF,dblB_hit v.2.1.2 k h1 he v.2.1.1 hkn]]
          refine pkZ Tryz.func151 hc (p86c v k) ?_
          and_intros
          all_goals (first | exact zN | (exact he))
        | false =>
          refine pcD hc (p86b v k) ?_ (ih (k+1) (by omega) (by omega) (by omega) (by rw [show min (k+1) v.2.1.1=k+1 by omega];rw [dblB,hg,he];simp))
          and_intros
          all_goals (first | exact zN | (exact he) | (simp [All]))
      · have hd:decide ((k:Int)<(v.2.1.1:Int))=false:=by simp;omega
        rw [show min k v.2.1.1=v.2.1.1 by omega] at hg
        rw [show simpleF v=isGraphF v by simp [simpleF,hg]]
        refine pkZ Tryz.func151 hc (p86d v k) ?_
        and_intros
        all_goals (first | exact zN | (exact con_IsGraph_s v hs))
  have h0:dblB v.2.1.2 (min 1 v.2.1.1)=false:=by
    by_cases h:v.2.1.1=0
    · rw [h];rfl
    · rw [show min 1 v.2.1.1=1 by omega];simp [dblB]
  refine pcD hc (p86a v) ?_ (lp v.2.1.1 1 (by omega) (by omega) (by omega) h0)
  and_intros
  all_goals (first | exact zN | (simp [All]))
theorem con_hasDoubles (v:T_Graph) (hs:smS s_Graph v):zE 147 [graphA v] [] (.p (.bool (dblB v.2.1.2 v.2.1.1))):=by
  refine csZ Tryz.func147 (fun c hc=>?_)
  have hn:v.2.1.1≤1048576:=hs.2.1.1
  have lp:∀ m k,1≤k→v.2.1.1≤k+m→k≤1048577→dblB v.2.1.2 (min k v.2.1.1)=false→zR c 147 zf89 (S88 v k) (Post c [] (.p (.bool (dblB v.2.1.2 v.2.1.1)))):=by
    intro m
    induction m with
    | zero =>
      intro k h1 hk hk2 hg
      have hd:decide ((k:Int)<(v.2.1.1:Int))=false:=by simp;omega
      rw [show min k v.2.1.1=v.2.1.1 by omega] at hg
      rw [hg]
      refine pkZ Tryz.func147 hc (p88d v k) ?_
      and_intros
      all_goals (first | exact zN)
    | succ m ih =>
      intro k h1 hk hk2 hg
      by_cases hkn:k<v.2.1.1
      · have hd:decide ((k:Int)<(v.2.1.1:Int))=true:=by simp;omega
        rw [show min k v.2.1.1=k by omega] at hg
        cases he:q1_BarS (v.2.1.2 ((k:Int) - 1).toNat) (v.2.1.2 k) with
        | true =>
          rw [dblB_hit v.2.1.2 k h1 he v.2.1.1 hkn]
          refine pkZ Tryz.func147 hc (p88c v k) ?_
          and_intros
          all_goals (first | exact zN | (exact he))
        | false =>
          refine pcD hc (p88b v k) ?_ (ih (k+1) (by omega) (by omega) (by omega) (by rw [show min (k+1) v.2.1.1=k+1 by omega];rw [dblB,hg,he];simp))
          and_intros
          all_goals (first | exact zN | (exact he) | (simp [All]))
      · have hd:decide ((k:Int)<(v.2.1.1:Int))=false:=by simp;omega
        rw [show min k v.2.1.1=v.2.1.1 by omega] at hg
        rw [hg]
        refine pkZ Tryz.func147 hc (p88d v k) ?_
        and_intros
        all_goals (first | exact zN)
  have h0:dblB v.2.1.2 (min 1 v.2.1.1)=false:=by
    by_cases h:v.2.1.1=0
    · rw [h];rfl
    · rw [show min 1 v.2.1.1=1 by omega];simp [dblB]
  refine pcD hc (p88a v) ?_ (lp v.2.1.1 1 (by omega) (by omega) (by omega) h0)
  and_intros
  all_goals (first | exact zN | (simp [All]))
theorem con_Graphhas (v:T_Graph) (p:Int) (h1:1≤v.1) (h2:v.1≤8):zE 148 [graphA v,.p (.int .i64 p)] [] (.p (.bool (inB p 0 (v.1 - 1)))):=by
  refine csZ Tryz.func148 (fun c hc=>?_)
  refine pkZ Tryz.func148 hc (p89 v p) ?_
  and_intros
  all_goals (first | exact zN | (exact con_within _ _ _))
def badP (N:Int) (g:Nat→Int) (k:Nat):Bool :=
  bif bif decide (g k<0) then true else decide (g k≥N) then true else bif decide ((k:Int)>0) then decide (g ((k:Int) - 1).toNat≥g k) else false
def goodP (N:Int) (g:Nat→Int):Nat→Bool
  | 0=>true
  | k+1=>goodP N g k&&!badP N g k
def bothP (p:T_IntS) (b:T_Bar):Bool:=bif hasI p.2 b.1 p.1 then hasI p.2 b.2.1 p.1 else false
def freeP (p:T_IntS) (g:Nat→T_Bar):Nat→Bool
  | 0=>true
  | k+1=>freeP p g k&&!bothP p (g k)
def tailP (v:T_Pinned):Bool :=
  bif bif bif simpleF v.1 then decide ((v.2.1.1:Int)≥2) else false then decide ((v.1.2.1.1:Int)≤15) else false then decide ((v.1.2.1.1:Int)+2*(v.2.1.1:Int) - 3≤24) else false
def pinnedF (v:T_Pinned):Bool:=goodP v.1.1 v.2.1.2 v.2.1.1&&(freeP v.2.1 v.1.2.1.2 v.1.2.1.1&&tailP v)
def pinA (v:T_Pinned):AV:=.agg [.p (.int .i64 v.1.1),graphL v.1.2.1,inL v.2.1]
def boxP (v:T_Pinned):Ob:=⟨true,3,1,fun i=>[.p (.int .i64 v.1.1),graphL v.1.2.1,inL v.2.1]⟩
def S56a (v:T_Pinned) (k:Nat):St :=
  ⟨[pinA v,.pt 3 0 0 0,.p .any,.p (.int .i64 k)]++List.replicate 102 anyA,[(0,boxP v)],1⟩
def S56b (v:T_Pinned) (k:Nat):St :=
  ⟨[pinA v,.pt 3 0 0 0,.p .any,.p .any,.p (.int .i64 k)]++List.replicate 101 anyA,[(0,boxP v)],1⟩
theorem p56a (v:T_Pinned) :
    zT Tryz.f77 [rg 2,rg 1,.head] [pinA v] [0] (S56a v 0) =
    some (zf92,zD [(AI v.1.1),(AN v.1.2.1.1),(AP v.1.2.1.1 (fun i=>[.int .i64 ((v.1.2.1.2 i).1),.int .i64 ((v.1.2.1.2 i).2.1)])),(AN v.2.1.1),(AP v.2.1.1 (fun i=>[.int .i64 (v.2.1.2 i)])),(AN 0),((0:Int)=(↑0:Int)),((([AV.p (PV.int IntKind.i64 v.1.1),graphL v.1.2.1,inL v.2.1].length):Nat)=3),(NL 1 1)] [0,1,2,3,4,5,6,7,8,8,0,1,2,3,4]):=by kernel_rfl
theorem p56b (v:T_Pinned) (k:Nat) :
    zM 0 [rg 5,.dec true,rg 35,.dec false,rg 3,.head] zf92 (S56a v k) [0] 1 (S56a v (k+1)) =
    some (zf92,zD [(NT 0 1),((decide ((↑k:Int)<(↑v.2.1.1:Int)))=true),(IL 0 (↑k:Int)),(IT (↑k:Int) (↑v.2.1.1:Int)),(AG (!decide (v.2.1.2 (↑k:Int).toNat<0))),(((!decide (v.2.1.2 (↑k:Int).toNat<0))=true)→(NT 0 1)),(((!decide (v.2.1.2 (↑k:Int).toNat<0))=true)→(IL 0 (↑k:Int))),(((!decide (v.2.1.2 (↑k:Int).toNat<0))=true)→(IT (↑k:Int) (↑v.2.1.1:Int))),(((decide (v.2.1.2 (↑k:Int).toNat<0))=false)→ ((!decide (v.2.1.2 (↑k:Int).toNat<0))=true)),(AG (!bif decide (v.2.1.2 (↑k:Int).toNat<0) then true else decide (v.2.1.2 (↑k:Int).toNat≥v.1.1))),(AG ((!bif decide (v.2.1.2 (↑k:Int).toNat<0) then true else decide (v.2.1.2 (↑k:Int).toNat≥v.1.1))&&decide ((↑k:Int)>0))),((((!bif decide (v.2.1.2 (↑k:Int).toNat<0) then true else decide (v.2.1.2 (↑k:Int).toNat≥v.1.1))&&decide ((↑k:Int)>0))=true)→(NT 0 1)),((((!bif decide (v.2.1.2 (↑k:Int).toNat<0) then true else decide (v.2.1.2 (↑k:Int).toNat≥v.1.1))&&decide ((↑k:Int)>0))=true)→(ZLo ((↑k:Int) - 1))),((((!bif decide (v.2.1.2 (↑k:Int).toNat<0) then true else decide (v.2.1.2 (↑k:Int).toNat≥v.1.1))&&decide ((↑k:Int)>0))=true)→(ZHi ((↑k:Int) - 1))),((((!bif decide (v.2.1.2 (↑k:Int).toNat<0) then true else decide (v.2.1.2 (↑k:Int).toNat≥v.1.1))&&decide ((↑k:Int)>0))=true)→(IL 0 ((↑k:Int) - 1))),((((!bif decide (v.2.1.2 (↑k:Int).toNat<0) then true else decide (v.2.1.2 (↑k:Int).toNat≥v.1.1))&&decide ((↑k:Int)>0))=true)→(IT ((↑k:Int) - 1) (↑v.2.1.1:Int))),((((!bif decide (v.2.1.2 (↑k:Int).toNat<0) then true else decide (v.2.1.2 (↑k:Int).toNat≥v.1.1))&&decide ((↑k:Int)>0))=true)→(IL 0 (↑k:Int))),((((!bif decide (v.2.1.2 (↑k:Int).toNat<0) then true else decide (v.2.1.2 (↑k:Int).toNat≥v.1.1))&&decide ((↑k:Int)>0))=true)→(IT (↑k:Int) (↑v.2.1.1:Int))),(((!bif decide (v.2.1.2 (↑k:Int).toNat<0) then true else decide (v.2.1.2 (↑k:Int).toNat≥v.1.1))=true)→(((decide ((↑k:Int)>0))=true)→ (((!bif decide (v.2.1.2 (↑k:Int).toNat<0) then true else decide (v.2.1.2 (↑k:Int).toNat≥v.1.1))&&decide ((↑k:Int)>0))=true))),(((bif decide (v.2.1.2 (↑k:Int).toNat<0) then true else decide (v.2.1.2 (↑k:Int).toNat≥v.1.1))=false)→ ((!bif decide (v.2.1.2 (↑k:Int).toNat<0) then true else decide (v.2.1.2 (↑k:Int).toNat≥v.1.1))=true)),((bif bif decide (v.2.1.2 (↑k:Int).toNat<0) then true else decide (v.2.1.2 (↑k:Int).toNat≥v.1.1) then true else bif decide ((↑k:Int)>0) then decide (v.2.1.2 ((↑k:Int) - 1).toNat≥v.2.1.2 (↑k:Int).toNat) else false)=false),(ZLo ((↑k:Int)+1)),(ZHi ((↑k:Int)+1)),(AI v.1.1),(AN v.1.2.1.1),(AP v.1.2.1.1 (fun i=>[.int .i64 ((v.1.2.1.2 i).1),.int .i64 ((v.1.2.1.2 i).2.1)])),(AN v.2.1.1),(AP v.2.1.1 (fun i=>[.int .i64 (v.2.1.2 i)])),(AN 0),((((↑k:Int)+1):Int)=(↑(k+1):Int)),(AN 3),(NL 1 1)] [0,1,0,2,3,4,5,4,4,6,7,4,4,4,5,4,4,8,9,9,10,11,10,12,13,10,10,14,15,10,10,11,10,10,16,17,10,10,10,9,18,19,20,21,22,23,24,25,26,27,28,29,30,31,31,23,24,25,26,27]):=by kernel_rfl
theorem p56c (v:T_Pinned) (k:Nat) :
    zP Tryz.f77 0 [rg 5,.dec true,rg 35,.dec true,rg 1] zf92 (S56a v k) [] 1 [] (.p (.bool false)) =
    some (zD [(NT 0 1),((decide ((↑k:Int)<(↑v.2.1.1:Int)))=true),(IL 0 (↑k:Int)),(IT (↑k:Int) (↑v.2.1.1:Int)),(AG (!decide (v.2.1.2 (↑k:Int).toNat<0))),(((!decide (v.2.1.2 (↑k:Int).toNat<0))=true)→(NT 0 1)),(((!decide (v.2.1.2 (↑k:Int).toNat<0))=true)→(IL 0 (↑k:Int))),(((!decide (v.2.1.2 (↑k:Int).toNat<0))=true)→(IT (↑k:Int) (↑v.2.1.1:Int))),(((decide (v.2.1.2 (↑k:Int).toNat<0))=false)→ ((!decide (v.2.1.2 (↑k:Int).toNat<0))=true)),(AG (!bif decide (v.2.1.2 (↑k:Int).toNat<0) then true else decide (v.2.1.2 (↑k:Int).toNat≥v.1.1))),(AG ((!bif decide (v.2.1.2 (↑k:Int).toNat<0) then true else decide (v.2.1.2 (↑k:Int).toNat≥v.1.1))&&decide ((↑k:Int)>0))),((((!bif decide (v.2.1.2 (↑k:Int).toNat<0) then true else decide (v.2.1.2 (↑k:Int).toNat≥v.1.1))&&decide ((↑k:Int)>0))=true)→(NT 0 1)),((((!bif decide (v.2.1.2 (↑k:Int).toNat<0) then true else decide (v.2.1.2 (↑k:Int).toNat≥v.1.1))&&decide ((↑k:Int)>0))=true)→(ZLo ((↑k:Int) - 1))),((((!bif decide (v.2.1.2 (↑k:Int).toNat<0) then true else decide (v.2.1.2 (↑k:Int).toNat≥v.1.1))&&decide ((↑k:Int)>0))=true)→(ZHi ((↑k:Int) - 1))),((((!bif decide (v.2.1.2 (↑k:Int).toNat<0) then true else decide (v.2.1.2 (↑k:Int).toNat≥v.1.1))&&decide ((↑k:Int)>0))=true)→(IL 0 ((↑k:Int) - 1))),((((!bif decide (v.2.1.2 (↑k:Int).toNat<0) then true else decide (v.2.1.2 (↑k:Int).toNat≥v.1.1))&&decide ((↑k:Int)>0))=true)→(IT ((↑k:Int) - 1) (↑v.2.1.1:Int))),((((!bif decide (v.2.1.2 (↑k:Int).toNat<0) then true else decide (v.2.1.2 (↑k:Int).toNat≥v.1.1))&&decide ((↑k:Int)>0))=true)→(IL 0 (↑k:Int))),((((!bif decide (v.2.1.2 (↑k:Int).toNat<0) then true else decide (v.2.1.2 (↑k:Int).toNat≥v.1.1))&&decide ((↑k:Int)>0))=true)→(IT (↑k:Int) (↑v.2.1.1:Int))),(((!bif decide (v.2.1.2 (↑k:Int).toNat<0) then true else decide (v.2.1.2 (↑k:Int).toNat≥v.1.1))=true)→(((decide ((↑k:Int)>0))=true)→ (((!bif decide (v.2.1.2 (↑k:Int).toNat<0) then true else decide (v.2.1.2 (↑k:Int).toNat≥v.1.1))&&decide ((↑k:Int)>0))=true))),(((bif decide (v.2.1.2 (↑k:Int).toNat<0) then true else decide (v.2.1.2 (↑k:Int).toNat≥v.1.1))=false)→ ((!bif decide (v.2.1.2 (↑k:Int).toNat<0) then true else decide (v.2.1.2 (↑k:Int).toNat≥v.1.1))=true)),((bif bif decide (v.2.1.2 (↑k:Int).toNat<0) then true else decide (v.2.1.2 (↑k:Int).toNat≥v.1.1) then true else bif decide ((↑k:Int)>0) then decide (v.2.1.2 ((↑k:Int) - 1).toNat≥v.2.1.2 (↑k:Int).toNat) else false)=true),(false=false)] [0,1,0,2,3,4,5,4,4,6,7,4,4,4,5,4,4,8,9,9,10,11,10,12,13,10,10,14,15,10,10,11,10,10,16,17,10,10,10,9,18,19,20,21]):=by kernel_rfl
theorem p56d (v:T_Pinned) (k:Nat) :
    zM 0 [rg 5,.dec false,rg 1,.head] zf92 (S56a v k) [0] 1 (S56b v 0) =
    some (zf71,zD [(NT 0 1),((decide ((↑k:Int)<(↑v.2.1.1:Int)))=false),(AI v.1.1),(AN v.1.2.1.1),(AP v.1.2.1.1 (fun i=>[.int .i64 ((v.1.2.1.2 i).1),.int .i64 ((v.1.2.1.2 i).2.1)])),(AN v.2.1.1),(AP v.2.1.1 (fun i=>[.int .i64 (v.2.1.2 i)])),(AN 0),((0:Int)=(↑0:Int)),(AN 3),(NL 1 1)] [0,1,2,3,4,5,6,7,8,9,10,10,2,3,4,5,6]):=by kernel_rfl
theorem p56e (v:T_Pinned) (k:Nat) :
    zM 0 [rg 6,.dec true,rm [(9,oc [] (.p (.bool (hasI v.2.1.2 (v.1.2.1.2 k).1 v.2.1.1)))),(10,oc [] (.p (.bool (hasI v.2.1.2 (v.1.2.1.2 k).2.1 v.2.1.1))))] 1,.dec false,rg 3,.head] zf71 (S56b v k) [0] 1 (S56b v (k+1)) =
    some (zf71,zD [(NT 0 1),((decide ((↑k:Int)<(↑v.1.2.1.1:Int)))=true),(IL 0 (↑k:Int)),(IT (↑k:Int) (↑v.1.2.1.1:Int)),zE 92 [.p (.seq true 1 v.2.1.1 (fun i=>[.int .i64 (v.2.1.2 i)])),.p (.int .i64 ((v.1.2.1.2 k).1))] [] (.p (.bool (hasI v.2.1.2 (v.1.2.1.2 k).1 v.2.1.1))),(AG (hasI v.2.1.2 (v.1.2.1.2 k).1 v.2.1.1)),(((hasI v.2.1.2 (v.1.2.1.2 k).1 v.2.1.1)=true)→(NT 0 1)),(((hasI v.2.1.2 (v.1.2.1.2 k).1 v.2.1.1)=true)→(IL 0 (↑k:Int))),(((hasI v.2.1.2 (v.1.2.1.2 k).1 v.2.1.1)=true)→(IT (↑k:Int) (↑v.1.2.1.1:Int))),(((hasI v.2.1.2 (v.1.2.1.2 k).1 v.2.1.1)=true)→ zE 92 [.p (.seq true 1 v.2.1.1 (fun i=>[.int .i64 (v.2.1.2 i)])),.p (.int .i64 ((v.1.2.1.2 k).2.1))] [] (.p (.bool (hasI v.2.1.2 (v.1.2.1.2 k).2.1 v.2.1.1)))),((bif hasI v.2.1.2 (v.1.2.1.2 k).1 v.2.1.1 then hasI v.2.1.2 (v.1.2.1.2 k).2.1 v.2.1.1 else false)=false),(ZLo ((↑k:Int)+1)),(ZHi ((↑k:Int)+1)),(AI v.1.1),(AN v.1.2.1.1),(AP v.1.2.1.1 (fun i=>[.int .i64 ((v.1.2.1.2 i).1),.int .i64 ((v.1.2.1.2 i).2.1)])),(AN v.2.1.1),(AP v.2.1.1 (fun i=>[.int .i64 (v.2.1.2 i)])),(AN 0),((((↑k:Int)+1):Int)=(↑(k+1):Int)),(AN 3),(NL 1 1)] [0,1,0,0,2,3,4,5,6,5,5,6,5,5,7,8,5,5,5,5,9,5,10,11,12,13,14,15,16,17,18,19,20,21,21,13,14,15,16,17]):=by kernel_rfl
theorem p56f (v:T_Pinned) (k:Nat) :
    zP Tryz.f77 0 [rg 6,.dec true,rm [(9,oc [] (.p (.bool (hasI v.2.1.2 (v.1.2.1.2 k).1 v.2.1.1)))),(10,oc [] (.p (.bool (hasI v.2.1.2 (v.1.2.1.2 k).2.1 v.2.1.1))))] 1,.dec true,rg 1] zf71 (S56b v k) [] 1 [] (.p (.bool false)) =
    some (zD [(NT 0 1),((decide ((↑k:Int)<(↑v.1.2.1.1:Int)))=true),(IL 0 (↑k:Int)),(IT (↑k:Int) (↑v.1.2.1.1:Int)),zE 92 [.p (.seq true 1 v.2.1.1 (fun i=>[.int .i64 (v.2.1.2 i)])),.p (.int .i64 ((v.1.2.1.2 k).1))] [] (.p (.bool (hasI v.2.1.2 (v.1.2.1.2 k).1 v.2.1.1))),(AG (hasI v.2.1.2 (v.1.2.1.2 k).1 v.2.1.1)),(((hasI v.2.1.2 (v.1.2.1.2 k).1 v.2.1.1)=true)→(NT 0 1)),(((hasI v.2.1.2 (v.1.2.1.2 k).1 v.2.1.1)=true)→(IL 0 (↑k:Int))),(((hasI v.2.1.2 (v.1.2.1.2 k).1 v.2.1.1)=true)→(IT (↑k:Int) (↑v.1.2.1.1:Int))),(((hasI v.2.1.2 (v.1.2.1.2 k).1 v.2.1.1)=true)→ zE 92 [.p (.seq true 1 v.2.1.1 (fun i=>[.int .i64 (v.2.1.2 i)])),.p (.int .i64 ((v.1.2.1.2 k).2.1))] [] (.p (.bool (hasI v.2.1.2 (v.1.2.1.2 k).2.1 v.2.1.1)))),((bif hasI v.2.1.2 (v.1.2.1.2 k).1 v.2.1.1 then hasI v.2.1.2 (v.1.2.1.2 k).2.1 v.2.1.1 else false)=true),(false=false)] [0,1,0,0,2,3,4,5,6,5,5,6,5,5,7,8,5,5,5,5,9,5,10,11]):=by kernel_rfl
theorem p56g (v:T_Pinned) (k:Nat) :
    zP Tryz.f77 0 [rg 6,.dec false,rm [(2,oc [] (.p (.bool (simpleF v.1))))] 27] zf71 (S56b v k) [] 1 [] (.p (.bool (tailP v))) =
    some (zD [(NT 0 1),((decide ((↑k:Int)<(↑v.1.2.1.1:Int)))=false),zE 151 [(zf98 v)] [] (.p (.bool (simpleF v.1))),(AG (simpleF v.1)),(((simpleF v.1)=true)→(NT 0 1)),(AG (bif simpleF v.1 then decide ((↑v.2.1.1:Int)≥2) else false)),(((bif simpleF v.1 then decide ((↑v.2.1.1:Int)≥2) else false)=true)→(NT 0 1)),(AG (bif bif simpleF v.1 then decide ((↑v.2.1.1:Int)≥2) else false then decide ((↑v.1.2.1.1:Int)≤15) else false)),(((bif bif simpleF v.1 then decide ((↑v.2.1.1:Int)≥2) else false then decide ((↑v.1.2.1.1:Int)≤15) else false)=true)→(NT 0 1)),(((bif bif simpleF v.1 then decide ((↑v.2.1.1:Int)≥2) else false then decide ((↑v.1.2.1.1:Int)≤15) else false)=true)→(ZLo (2*(↑v.2.1.1:Int)))),(((bif bif simpleF v.1 then decide ((↑v.2.1.1:Int)≥2) else false then decide ((↑v.1.2.1.1:Int)≤15) else false)=true)→(ZHi (2*(↑v.2.1.1:Int)))),(((bif bif simpleF v.1 then decide ((↑v.2.1.1:Int)≥2) else false then decide ((↑v.1.2.1.1:Int)≤15) else false)=true)→(ZLo ((↑v.1.2.1.1:Int)+2*(↑v.2.1.1:Int)))),(((bif bif simpleF v.1 then decide ((↑v.2.1.1:Int)≥2) else false then decide ((↑v.1.2.1.1:Int)≤15) else false)=true)→(ZHi ((↑v.1.2.1.1:Int)+2*(↑v.2.1.1:Int)))),(((bif bif simpleF v.1 then decide ((↑v.2.1.1:Int)≥2) else false then decide ((↑v.1.2.1.1:Int)≤15) else false)=true)→(ZLo ((↑v.1.2.1.1:Int)+2*(↑v.2.1.1:Int) - 3))),(((bif bif simpleF v.1 then decide ((↑v.2.1.1:Int)≥2) else false then decide ((↑v.1.2.1.1:Int)≤15) else false)=true)→(ZHi ((↑v.1.2.1.1:Int)+2*(↑v.2.1.1:Int) - 3))),((bif bif bif simpleF v.1 then decide ((↑v.2.1.1:Int)≥2) else false then decide ((↑v.1.2.1.1:Int)≤15) else false then decide ((↑v.1.2.1.1:Int)+2*(↑v.2.1.1:Int) - 3≤24) else false)=(tailP v))] [0,1,0,2,3,4,3,3,3,5,5,6,5,5,5,7,7,8,7,7,8,7,7,9,10,7,7,11,12,7,13,14,7,7,15]):=by kernel_rfl
theorem goodP_bad (N:Int) (g:Nat→Int) (k:Nat) (h:badP N g k=true):∀ n,k<n→goodP N g n=false
  | 0,h'=>by omega
  | n+1,h'=>by
    by_cases e:k=n
    · subst e;rw [goodP,h];simp
    · rw [goodP,goodP_bad N g k h n (by omega)];simp
theorem freeP_bad (p:T_IntS) (g:Nat→T_Bar) (k:Nat) (h:bothP p (g k)=true):∀ n,k<n→freeP p g n=false
  | 0,h'=>by omega
  | n+1,h'=>by
    by_cases e:k=n
    · subst e;rw [freeP,h];simp
    · rw [freeP,freeP_bad p g k h n (by omega)];simp
theorem con_IsPinned_s (v:T_Pinned) (hs:smS s_Pinned v):zE 77 [pinA v] [] (.p (.bool (pinnedF v))):=by
  refine csZ Tryz.func77 (fun c hc=>?_)
  have hg:smS s_Graph v.1:=hs.1
  have hnb:v.1.2.1.1≤1048576:=hs.1.2.1.1
  have hni:v.2.1.1≤1048576:=hs.2.1.1
  have lp2:goodP v.1.1 v.2.1.2 v.2.1.1=true→∀ m k,k+m=v.1.2.1.1→freeP v.2.1 v.1.2.1.2 k=true→zR c 77 zf71 (S56b v k) (Post c [] (.p (.bool (pinnedF v)))):=by
    intro hgood m
    induction m with
    | zero =>
      intro k hk hf
      rw [show pinnedF v=tailP v by rw [pinnedF,hgood,show v.1.2.1.1=k by omega,hf];rfl]
      have hd:decide ((k:Int)<(v.1.2.1.1:Int))=false:=by simp;omega
      refine pkD Tryz.func77 hc (p56g v k) ?_
      and_intros
      all_goals (first | exact zI | (exact con_l17Simple v.1 hg))
    | succ m ih =>
      intro k hk hf
      have hd:decide ((k:Int)<(v.1.2.1.1:Int))=true:=by simp;omega
      cases he:bothP v.2.1 (v.1.2.1.2 k) with
      | true =>
        rw [show pinnedF v=false by rw [pinnedF,freeP_bad v.2.1 v.1.2.1.2 k he v.1.2.1.1 (by omega)];simp]
        refine pkD Tryz.func77 hc (p56f v k) ?_
        and_intros
        all_goals (first | exact zI | (intros;exact con_l2Has v.2.1 _ hni) | (exact he))
      | false =>
        refine pcD hc (p56e v k) ?_ (ih (k+1) (by omega) (by rw [freeP,hf,he];rfl))
        and_intros
        all_goals (first | exact zI | (intros;exact con_l2Has v.2.1 _ hni) | (exact he) | (simp [All]))
  have lp1:∀ m k,k+m=v.2.1.1→goodP v.1.1 v.2.1.2 k=true→zR c 77 zf92 (S56a v k) (Post c [] (.p (.bool (pinnedF v)))):=by
    intro m
    induction m with
    | zero =>
      intro k hk hgd
      have hd:decide ((k:Int)<(v.2.1.1:Int))=false:=by simp;omega
      refine pcD hc (p56d v k) ?_ (lp2 (by rw [show v.2.1.1=k by omega];exact hgd) v.1.2.1.1 0 (by omega) rfl)
      and_intros
      all_goals (first | exact zN | (simp [All]))
    | succ m ih =>
      intro k hk hgd
      have hkn:k<v.2.1.1:=by omega
      have hd:decide ((k:Int)<(v.2.1.1:Int))=true:=by simp;omega
      cases he:badP v.1.1 v.2.1.2 k with
      | true =>
        rw [show pinnedF v=false by rw [pinnedF,goodP_bad _ _ k he v.2.1.1 (by omega)];rfl]
        refine pkD Tryz.func77 hc (p56c v k) ?_
        and_intros
        all_goals (first | exact zH | (exact he) | (intro h;have:=idx_lt h hkn;omega))
      | false =>
        refine pcD hc (p56b v k) ?_ (ih (k+1) (by omega) (by rw [goodP,hgd,he];rfl))
        and_intros
        all_goals (first | exact zH | (exact he) | (intro h;have:=idx_lt h hkn;omega) | (simp [All]))
  refine pcD hc (p56a v) ?_ (lp1 v.2.1.1 0 (by omega) rfl)
  and_intros
  all_goals (first | exact zN | (simp [All]))
def headP (v:T_Pinned):Bool :=
  bif bif bif bif !isGraphF v.1 then true else dblB v.1.2.1.2 v.1.2.1.1 then true else decide ((v.2.1.1:Int)<2) then true else decide ((v.1.2.1.1:Int)>15) then true else decide ((v.1.2.1.1:Int)+2*(v.2.1.1:Int) - 3>24)
def S57a (v:T_Pinned) (k:Nat):St :=
  ⟨[pinA v,.pt 3 0 0 0,.p .any,.pt 2 1 0 0]++List.replicate 38 anyA++[inL v.2.1,.p (.int .i64 v.2.1.1),.p (.int .i64 k)]++List.replicate 43 anyA,[(0,boxP v),(1,boxG v.1)],2⟩
def S57b (v:T_Pinned) (k:Nat):St :=
  ⟨[pinA v,.pt 3 0 0 0,.p .any,.p .any]++List.replicate 65 anyA++[graphL v.1.2.1,.p (.int .i64 v.1.2.1.1),.p (.int .i64 k)]++List.replicate 16 anyA,[(0,boxP v)],1⟩
theorem p57z (v:T_Pinned) :
    zS Tryz.f73 [rg 2,rg 4,rm [(1,oc [] (.p (.bool (isGraphF v.1)))),(3,oc [] (.p (.bool (dblB v.1.2.1.2 v.1.2.1.1))))] 25,.dec true,rg 1] [pinA v] [] [] (.p (.bool false)) =
    some (zD [(NT 0 1),((true=true)→ (AN 1)),zE 130 [(zf98 v)] [] (.p (.bool (isGraphF v.1))),(((!!isGraphF v.1)=true)→(NT 0 1)),(AG (!!isGraphF v.1)),(((!!isGraphF v.1)=true)→ zE 147 [(zf98 v)] [] (.p (.bool (dblB v.1.2.1.2 v.1.2.1.1)))),(((!isGraphF v.1)=false)→ ((!!isGraphF v.1)=true)),(AG (!bif !isGraphF v.1 then true else dblB v.1.2.1.2 v.1.2.1.1)),(((!bif !isGraphF v.1 then true else dblB v.1.2.1.2 v.1.2.1.1)=true)→(NT 0 1)),(((bif !isGraphF v.1 then true else dblB v.1.2.1.2 v.1.2.1.1)=false)→ ((!bif !isGraphF v.1 then true else dblB v.1.2.1.2 v.1.2.1.1)=true)),(AG (!bif bif !isGraphF v.1 then true else dblB v.1.2.1.2 v.1.2.1.1 then true else decide ((↑v.2.1.1:Int)<2))),(((!bif bif !isGraphF v.1 then true else dblB v.1.2.1.2 v.1.2.1.1 then true else decide ((↑v.2.1.1:Int)<2))=true)→(NT 0 1)),(((bif bif !isGraphF v.1 then true else dblB v.1.2.1.2 v.1.2.1.1 then true else decide ((↑v.2.1.1:Int)<2))=false)→ ((!bif bif !isGraphF v.1 then true else dblB v.1.2.1.2 v.1.2.1.1 then true else decide ((↑v.2.1.1:Int)<2))=true)),(AG (!bif bif bif !isGraphF v.1 then true else dblB v.1.2.1.2 v.1.2.1.1 then true else decide ((↑v.2.1.1:Int)<2) then true else decide ((↑v.1.2.1.1:Int)>15))),(((!bif bif bif !isGraphF v.1 then true else dblB v.1.2.1.2 v.1.2.1.1 then true else decide ((↑v.2.1.1:Int)<2) then true else decide ((↑v.1.2.1.1:Int)>15))=true)→(NT 0 1)),(((!bif bif bif !isGraphF v.1 then true else dblB v.1.2.1.2 v.1.2.1.1 then true else decide ((↑v.2.1.1:Int)<2) then true else decide ((↑v.1.2.1.1:Int)>15))=true)→(ZLo (2*(↑v.2.1.1:Int)))),(((!bif bif bif !isGraphF v.1 then true else dblB v.1.2.1.2 v.1.2.1.1 then true else decide ((↑v.2.1.1:Int)<2) then true else decide ((↑v.1.2.1.1:Int)>15))=true)→(ZHi (2*(↑v.2.1.1:Int)))),(((!bif bif bif !isGraphF v.1 then true else dblB v.1.2.1.2 v.1.2.1.1 then true else decide ((↑v.2.1.1:Int)<2) then true else decide ((↑v.1.2.1.1:Int)>15))=true)→(ZLo ((↑v.1.2.1.1:Int)+2*(↑v.2.1.1:Int)))),(((!bif bif bif !isGraphF v.1 then true else dblB v.1.2.1.2 v.1.2.1.1 then true else decide ((↑v.2.1.1:Int)<2) then true else decide ((↑v.1.2.1.1:Int)>15))=true)→(ZHi ((↑v.1.2.1.1:Int)+2*(↑v.2.1.1:Int)))),(((!bif bif bif !isGraphF v.1 then true else dblB v.1.2.1.2 v.1.2.1.1 then true else decide ((↑v.2.1.1:Int)<2) then true else decide ((↑v.1.2.1.1:Int)>15))=true)→(ZLo ((↑v.1.2.1.1:Int)+2*(↑v.2.1.1:Int) - 3))),(((!bif bif bif !isGraphF v.1 then true else dblB v.1.2.1.2 v.1.2.1.1 then true else decide ((↑v.2.1.1:Int)<2) then true else decide ((↑v.1.2.1.1:Int)>15))=true)→(ZHi ((↑v.1.2.1.1:Int)+2*(↑v.2.1.1:Int) - 3))),(((bif bif bif !isGraphF v.1 then true else dblB v.1.2.1.2 v.1.2.1.1 then true else decide ((↑v.2.1.1:Int)<2) then true else decide ((↑v.1.2.1.1:Int)>15))=false)→ ((!bif bif bif !isGraphF v.1 then true else dblB v.1.2.1.2 v.1.2.1.1 then true else decide ((↑v.2.1.1:Int)<2) then true else decide ((↑v.1.2.1.1:Int)>15))=true)),((bif bif bif bif !isGraphF v.1 then true else dblB v.1.2.1.2 v.1.2.1.1 then true else decide ((↑v.2.1.1:Int)<2) then true else decide ((↑v.1.2.1.1:Int)>15) then true else decide ((↑v.1.2.1.1:Int)+2*(↑v.2.1.1:Int) - 3>24))=true),(false=false)] [0,0,1,0,2,3,4,5,6,7,8,7,7,9,10,11,10,10,12,13,14,13,13,14,13,13,15,16,13,13,17,18,13,19,20,13,21,22,23]):=by kernel_rfl
theorem p57a (v:T_Pinned) :
    zT Tryz.f73 [rg 2,rg 4,rm [(1,oc [] (.p (.bool (isGraphF v.1)))),(3,oc [] (.p (.bool (dblB v.1.2.1.2 v.1.2.1.1))))] 25,.dec false,rg 4,.head] [pinA v] [0,128] (S57a v 0) =
    some (zf49,zD [(NT 0 1),((true=true)→ (AN 1)),zE 130 [(zf98 v)] [] (.p (.bool (isGraphF v.1))),(((!!isGraphF v.1)=true)→(NT 0 1)),(AG (!!isGraphF v.1)),(((!!isGraphF v.1)=true)→ zE 147 [(zf98 v)] [] (.p (.bool (dblB v.1.2.1.2 v.1.2.1.1)))),(((!isGraphF v.1)=false)→ ((!!isGraphF v.1)=true)),(AG (!bif !isGraphF v.1 then true else dblB v.1.2.1.2 v.1.2.1.1)),(((!bif !isGraphF v.1 then true else dblB v.1.2.1.2 v.1.2.1.1)=true)→(NT 0 1)),(((bif !isGraphF v.1 then true else dblB v.1.2.1.2 v.1.2.1.1)=false)→ ((!bif !isGraphF v.1 then true else dblB v.1.2.1.2 v.1.2.1.1)=true)),(AG (!bif bif !isGraphF v.1 then true else dblB v.1.2.1.2 v.1.2.1.1 then true else decide ((↑v.2.1.1:Int)<2))),(((!bif bif !isGraphF v.1 then true else dblB v.1.2.1.2 v.1.2.1.1 then true else decide ((↑v.2.1.1:Int)<2))=true)→(NT 0 1)),(((bif bif !isGraphF v.1 then true else dblB v.1.2.1.2 v.1.2.1.1 then true else decide ((↑v.2.1.1:Int)<2))=false)→ ((!bif bif !isGraphF v.1 then true else dblB v.1.2.1.2 v.1.2.1.1 then true else decide ((↑v.2.1.1:Int)<2))=true)),(AG (!bif bif bif !isGraphF v.1 then true else dblB v.1.2.1.2 v.1.2.1.1 then true else decide ((↑v.2.1.1:Int)<2) then true else decide ((↑v.1.2.1.1:Int)>15))),(((!bif bif bif !isGraphF v.1 then true else dblB v.1.2.1.2 v.1.2.1.1 then true else decide ((↑v.2.1.1:Int)<2) then true else decide ((↑v.1.2.1.1:Int)>15))=true)→(NT 0 1)),(((!bif bif bif !isGraphF v.1 then true else dblB v.1.2.1.2 v.1.2.1.1 then true else decide ((↑v.2.1.1:Int)<2) then true else decide ((↑v.1.2.1.1:Int)>15))=true)→(ZLo (2*(↑v.2.1.1:Int)))),(((!bif bif bif !isGraphF v.1 then true else dblB v.1.2.1.2 v.1.2.1.1 then true else decide ((↑v.2.1.1:Int)<2) then true else decide ((↑v.1.2.1.1:Int)>15))=true)→(ZHi (2*(↑v.2.1.1:Int)))),(((!bif bif bif !isGraphF v.1 then true else dblB v.1.2.1.2 v.1.2.1.1 then true else decide ((↑v.2.1.1:Int)<2) then true else decide ((↑v.1.2.1.1:Int)>15))=true)→(ZLo ((↑v.1.2.1.1:Int)+2*(↑v.2.1.1:Int)))),(((!bif bif bif !isGraphF v.1 then true else dblB v.1.2.1.2 v.1.2.1.1 then true else decide ((↑v.2.1.1:Int)<2) then true else decide ((↑v.1.2.1.1:Int)>15))=true)→(ZHi ((↑v.1.2.1.1:Int)+2*(↑v.2.1.1:Int)))),(((!bif bif bif !isGraphF v.1 then true else dblB v.1.2.1.2 v.1.2.1.1 then true else decide ((↑v.2.1.1:Int)<2) then true else decide ((↑v.1.2.1.1:Int)>15))=true)→(ZLo ((↑v.1.2.1.1:Int)+2*(↑v.2.1.1:Int) - 3))),(((!bif bif bif !isGraphF v.1 then true else dblB v.1.2.1.2 v.1.2.1.1 then true else decide ((↑v.2.1.1:Int)<2) then true else decide ((↑v.1.2.1.1:Int)>15))=true)→(ZHi ((↑v.1.2.1.1:Int)+2*(↑v.2.1.1:Int) - 3))),(((bif bif bif !isGraphF v.1 then true else dblB v.1.2.1.2 v.1.2.1.1 then true else decide ((↑v.2.1.1:Int)<2) then true else decide ((↑v.1.2.1.1:Int)>15))=false)→ ((!bif bif bif !isGraphF v.1 then true else dblB v.1.2.1.2 v.1.2.1.1 then true else decide ((↑v.2.1.1:Int)<2) then true else decide ((↑v.1.2.1.1:Int)>15))=true)),((bif bif bif bif !isGraphF v.1 then true else dblB v.1.2.1.2 v.1.2.1.1 then true else decide ((↑v.2.1.1:Int)<2) then true else decide ((↑v.1.2.1.1:Int)>15) then true else decide ((↑v.1.2.1.1:Int)+2*(↑v.2.1.1:Int) - 3>24))=false),(AI v.1.1),(AN v.1.2.1.1),(AP v.1.2.1.1 (fun i=>[.int .i64 ((v.1.2.1.2 i).1),.int .i64 ((v.1.2.1.2 i).2.1)])),(AN v.2.1.1),(AP v.2.1.1 (fun i=>[.int .i64 (v.2.1.2 i)])),(AN 0),(AI ((↑v.2.1.1:Int))),((0:Int)=(↑0:Int)),((([AV.p (PV.int IntKind.i64 v.1.1),graphL v.1.2.1,inL v.2.1].length):Nat)=3),(NL 1 1),((((List.map (fun v=>AV.p (absV v)) [Value.int IntKind.i64 0,Value.slice none 0 0]).length):Nat)=2)] [0,0,1,0,2,3,4,5,6,7,8,7,7,9,10,11,10,10,12,13,14,13,13,14,13,13,15,16,13,13,17,18,13,19,20,13,21,22,0,23,24,25,26,27,28,28,26,27,29,30,31,32,32,23,24,25,26,27,33,32,32,23,24,25]):=by kernel_rfl
theorem p57b (v:T_Pinned) (k:Nat) :
    zM 0 [rg 1,.dec true,rg 5,rm [(2,oc [] (.p (.bool (inB (v.2.1.2 k) 0 (v.1.1 - 1)))))] 15,.dec false,rg 2,.head] zf49 (S57a v k) [0,1] 1 (S57a v (k+1)) =
    some (zf49,zD [((decide ((↑k:Int)<(↑v.2.1.1:Int)))=true),(IL 0 (↑k:Int)),(IT (↑k:Int) (↑v.2.1.1:Int)),(NT 0 1),zE 148 [(zf98 v),.p (.int .i64 (v.2.1.2 k))] [] (.p (.bool (inB (v.2.1.2 k) 0 (v.1.1 - 1)))),(AG (!!inB (v.2.1.2 k) 0 (v.1.1 - 1))),(AG (!!inB (v.2.1.2 k) 0 (v.1.1 - 1)&&decide ((↑k:Int)>0))),(((!!inB (v.2.1.2 k) 0 (v.1.1 - 1)&&decide ((↑k:Int)>0))=true)→(NT 0 1)),(((!!inB (v.2.1.2 k) 0 (v.1.1 - 1)&&decide ((↑k:Int)>0))=true)→(ZLo ((↑k:Int) - 1))),(((!!inB (v.2.1.2 k) 0 (v.1.1 - 1)&&decide ((↑k:Int)>0))=true)→(ZHi ((↑k:Int) - 1))),(((!!inB (v.2.1.2 k) 0 (v.1.1 - 1)&&decide ((↑k:Int)>0))=true)→(IL 0 ((↑k:Int) - 1))),(((!!inB (v.2.1.2 k) 0 (v.1.1 - 1)&&decide ((↑k:Int)>0))=true)→(IT ((↑k:Int) - 1) (↑v.2.1.1:Int))),(((!!inB (v.2.1.2 k) 0 (v.1.1 - 1))=true)→(((decide ((↑k:Int)>0))=true)→ ((!!inB (v.2.1.2 k) 0 (v.1.1 - 1)&&decide ((↑k:Int)>0))=true))),(((!inB (v.2.1.2 k) 0 (v.1.1 - 1))=false)→ ((!!inB (v.2.1.2 k) 0 (v.1.1 - 1))=true)),((bif !inB (v.2.1.2 k) 0 (v.1.1 - 1) then true else bif decide ((↑k:Int)>0) then decide (v.2.1.2 ((↑k:Int) - 1).toNat≥v.2.1.2 (↑k:Int).toNat) else false)=false),(ZLo ((↑k:Int)+1)),(ZHi ((↑k:Int)+1)),(AI v.1.1),(AN v.1.2.1.1),(AP v.1.2.1.1 (fun i=>[.int .i64 ((v.1.2.1.2 i).1),.int .i64 ((v.1.2.1.2 i).2.1)])),(AN v.2.1.1),(AP v.2.1.1 (fun i=>[.int .i64 (v.2.1.2 i)])),(AN 0),(AI ((↑v.2.1.1:Int))),((((↑k:Int)+1):Int)=(↑(k+1):Int)),(AN 3),(NL 1 1),(AN 2)] [0,1,2,3,4,5,5,6,7,6,8,9,6,6,10,11,6,6,6,5,12,13,14,15,16,17,18,19,20,21,22,22,20,21,23,24,25,26,26,17,18,19,20,21,27,26,26,17,18,19]):=by kernel_rfl
theorem p57c (v:T_Pinned) (k:Nat) :
    zP Tryz.f73 0 [rg 1,.dec true,rg 5,rm [(2,oc [] (.p (.bool (inB (v.2.1.2 k) 0 (v.1.1 - 1)))))] 15,.dec true,rg 1] zf49 (S57a v k) [] 1 [] (.p (.bool false)) =
    some (zD [((decide ((↑k:Int)<(↑v.2.1.1:Int)))=true),(IL 0 (↑k:Int)),(IT (↑k:Int) (↑v.2.1.1:Int)),(NT 0 1),zE 148 [(zf98 v),.p (.int .i64 (v.2.1.2 k))] [] (.p (.bool (inB (v.2.1.2 k) 0 (v.1.1 - 1)))),(AG (!!inB (v.2.1.2 k) 0 (v.1.1 - 1))),(AG (!!inB (v.2.1.2 k) 0 (v.1.1 - 1)&&decide ((↑k:Int)>0))),(((!!inB (v.2.1.2 k) 0 (v.1.1 - 1)&&decide ((↑k:Int)>0))=true)→(NT 0 1)),(((!!inB (v.2.1.2 k) 0 (v.1.1 - 1)&&decide ((↑k:Int)>0))=true)→(ZLo ((↑k:Int) - 1))),(((!!inB (v.2.1.2 k) 0 (v.1.1 - 1)&&decide ((↑k:Int)>0))=true)→(ZHi ((↑k:Int) - 1))),(((!!inB (v.2.1.2 k) 0 (v.1.1 - 1)&&decide ((↑k:Int)>0))=true)→(IL 0 ((↑k:Int) - 1))),(((!!inB (v.2.1.2 k) 0 (v.1.1 - 1)&&decide ((↑k:Int)>0))=true)→(IT ((↑k:Int) - 1) (↑v.2.1.1:Int))),(((!!inB (v.2.1.2 k) 0 (v.1.1 - 1))=true)→(((decide ((↑k:Int)>0))=true)→ ((!!inB (v.2.1.2 k) 0 (v.1.1 - 1)&&decide ((↑k:Int)>0))=true))),(((!inB (v.2.1.2 k) 0 (v.1.1 - 1))=false)→ ((!!inB (v.2.1.2 k) 0 (v.1.1 - 1))=true)),((bif !inB (v.2.1.2 k) 0 (v.1.1 - 1) then true else bif decide ((↑k:Int)>0) then decide (v.2.1.2 ((↑k:Int) - 1).toNat≥v.2.1.2 (↑k:Int).toNat) else false)=true),(false=false)] [0,1,2,3,4,5,5,6,7,6,8,9,6,6,10,11,6,6,6,5,12,13,14,15]):=by kernel_rfl
theorem p57d (v:T_Pinned) (k:Nat) :
    zM 0 [rg 1,.dec false,rg 4,.head] zf49 (S57a v k) [0] 1 (S57b v 0) =
    some (zf36,zD [((decide ((↑k:Int)<(↑v.2.1.1:Int)))=false),(NT 0 1),(AI v.1.1),(AN v.1.2.1.1),(AP v.1.2.1.1 (fun i=>[.int .i64 ((v.1.2.1.2 i).1),.int .i64 ((v.1.2.1.2 i).2.1)])),(AN v.2.1.1),(AP v.2.1.1 (fun i=>[.int .i64 (v.2.1.2 i)])),(AN 0),(AI ((↑v.1.2.1.1:Int))),((0:Int)=(↑0:Int)),(AN 3),(NL 1 1)] [0,1,2,3,4,5,6,7,3,4,8,9,10,11,11,2,3,4,5,6]):=by kernel_rfl
theorem p57e (v:T_Pinned) (k:Nat) :
    zM 0 [rg 1,.dec true,rg 4,rm [(4,oc [] (.p (.bool (hasI v.2.1.2 (v.1.2.1.2 k).1 v.2.1.1)))),(5,oc [] (.p (.bool (hasI v.2.1.2 (v.1.2.1.2 k).2.1 v.2.1.1))))] 1,.dec false,rg 2,.head] zf36 (S57b v k) [0] 1 (S57b v (k+1)) =
    some (zf36,zD [((decide ((↑k:Int)<(↑v.1.2.1.1:Int)))=true),(IL 0 (↑k:Int)),(IT (↑k:Int) (↑v.1.2.1.1:Int)),(NT 0 1),((true=true)→ (AN 1)),zE 144 [.p (.seq true 1 v.2.1.1 (fun i=>[.int .i64 (v.2.1.2 i)])),.p (.int .i64 ((v.1.2.1.2 k).1))] [] (.p (.bool (hasI v.2.1.2 (v.1.2.1.2 k).1 v.2.1.1))),(AG (hasI v.2.1.2 (v.1.2.1.2 k).1 v.2.1.1)),(((hasI v.2.1.2 (v.1.2.1.2 k).1 v.2.1.1)=true)→(NT 0 1)),(((hasI v.2.1.2 (v.1.2.1.2 k).1 v.2.1.1)=true)→ zE 144 [.p (.seq true 1 v.2.1.1 (fun i=>[.int .i64 (v.2.1.2 i)])),.p (.int .i64 ((v.1.2.1.2 k).2.1))] [] (.p (.bool (hasI v.2.1.2 (v.1.2.1.2 k).2.1 v.2.1.1)))),((bif hasI v.2.1.2 (v.1.2.1.2 k).1 v.2.1.1 then hasI v.2.1.2 (v.1.2.1.2 k).2.1 v.2.1.1 else false)=false),(ZLo ((↑k:Int)+1)),(ZHi ((↑k:Int)+1)),(AI v.1.1),(AN v.1.2.1.1),(AP v.1.2.1.1 (fun i=>[.int .i64 ((v.1.2.1.2 i).1),.int .i64 ((v.1.2.1.2 i).2.1)])),(AN v.2.1.1),(AP v.2.1.1 (fun i=>[.int .i64 (v.2.1.2 i)])),(AN 0),(AI ((↑v.1.2.1.1:Int))),((((↑k:Int)+1):Int)=(↑(k+1):Int)),(AN 3),(NL 1 1)] [0,1,2,3,4,3,3,5,6,7,6,7,6,6,8,6,9,10,11,12,13,14,15,16,17,13,14,18,19,20,21,21,12,13,14,15,16]):=by kernel_rfl
theorem p57f (v:T_Pinned) (k:Nat) :
    zP Tryz.f73 0 [rg 1,.dec true,rg 4,rm [(4,oc [] (.p (.bool (hasI v.2.1.2 (v.1.2.1.2 k).1 v.2.1.1)))),(5,oc [] (.p (.bool (hasI v.2.1.2 (v.1.2.1.2 k).2.1 v.2.1.1))))] 1,.dec true,rg 1] zf36 (S57b v k) [] 1 [] (.p (.bool false)) =
    some (zD [((decide ((↑k:Int)<(↑v.1.2.1.1:Int)))=true),(IL 0 (↑k:Int)),(IT (↑k:Int) (↑v.1.2.1.1:Int)),(NT 0 1),((true=true)→ (AN 1)),zE 144 [.p (.seq true 1 v.2.1.1 (fun i=>[.int .i64 (v.2.1.2 i)])),.p (.int .i64 ((v.1.2.1.2 k).1))] [] (.p (.bool (hasI v.2.1.2 (v.1.2.1.2 k).1 v.2.1.1))),(AG (hasI v.2.1.2 (v.1.2.1.2 k).1 v.2.1.1)),(((hasI v.2.1.2 (v.1.2.1.2 k).1 v.2.1.1)=true)→(NT 0 1)),(((hasI v.2.1.2 (v.1.2.1.2 k).1 v.2.1.1)=true)→ zE 144 [.p (.seq true 1 v.2.1.1 (fun i=>[.int .i64 (v.2.1.2 i)])),.p (.int .i64 ((v.1.2.1.2 k).2.1))] [] (.p (.bool (hasI v.2.1.2 (v.1.2.1.2 k).2.1 v.2.1.1)))),((bif hasI v.2.1.2 (v.1.2.1.2 k).1 v.2.1.1 then hasI v.2.1.2 (v.1.2.1.2 k).2.1 v.2.1.1 else false)=true),(false=false)] [0,1,2,3,4,3,3,5,6,7,6,7,6,6,8,6,9,10]):=by kernel_rfl
theorem p57g (v:T_Pinned) (k:Nat) :
    zP Tryz.f73 0 [rg 1,.dec false,rg 1] zf36 (S57b v k) [] 1 [] (.p (.bool true)) =
    some [((decide ((↑k:Int)<(↑v.1.2.1.1:Int)))=false),(true=true)]:=by kernel_rfl
theorem dge (a b:Int):decide (a≥b)=!decide (a<b):=by
  by_cases h:a<b
  · have:¬ (a≥b):=by omega
    rw [decide_eq_true h,decide_eq_false this];rfl
  · have:a≥b:=by omega
    rw [decide_eq_false h,decide_eq_true this];rfl
theorem dle (a b:Int):decide (a≤b)=!decide (a>b):=dge b a
theorem headP_tail (v:T_Pinned):headP v=!tailP v:=by
  unfold headP tailP simpleF
  rw [dge,dle,dle]
  generalize decide ((v.2.1.1:Int)<2)=x
  generalize decide ((v.1.2.1.1:Int)>15)=y
  generalize decide ((v.1.2.1.1:Int)+2*(v.2.1.1:Int) - 3>24)=z
  cases isGraphF v.1<;>cases dblB v.1.2.1.2 v.1.2.1.1<;>cases x<;>cases y<;>cases z<;>rfl
theorem bad_in (N:Int) (g:Nat→Int) (k:Nat) {b:Bool} (h:badP N g k=b) :
    (bif !inB (g k) 0 (N - 1) then true else bif decide ((k:Int)>0) then decide (g ((k:Int) - 1).toNat≥g k) else false)=b:=by
  rw [← h]
  unfold badP inB
  by_cases h1:g k<0
  · have h2:¬ (0≤g k):=by omega
    simp [h1,h2]
  · have h2:0≤g k:=by omega
    by_cases h3:g k≥N
    · have h4:¬ (g k≤N - 1):=by omega
      simp [h1,h2,h3,h4]
    · have h4:g k≤N - 1:=by omega
      simp [h1,h2,h3,h4]
theorem con_IsPinned_i (v:T_Pinned) (hs:smS s_Pinned v):zE 73 [pinA v] [] (.p (.bool (pinnedF v))):=by
  refine csZ Tryz.func73 (fun c hc=>?_)
  have hg:smS s_Graph v.1:=hs.1
  have hnb:v.1.2.1.1≤1048576:=hs.1.2.1.1
  have hni:v.2.1.1≤1048576:=hs.2.1.1
  cases ht:headP v with
  | true =>
    rw [show pinnedF v=false by rw [pinnedF,show tailP v=false by have:=headP_tail v;rw [ht] at this;simpa using this];simp]
    have ht':=ht
    unfold headP at ht'
    refine pkD Tryz.func73 hc (p57z v) ?_
    and_intros
    all_goals (first | exact zH | (exact con_IsGraph_i v.1 hg) | (exact con_hasDoubles v.1 hg) | (intros;exact con_hasDoubles v.1 hg) | (intro h;simpa using h) | (exact ht'))
  | false =>
  have htl:tailP v=true:=by have:=headP_tail v;rw [ht] at this;simpa using this
  have ht':=ht
  unfold headP at ht'
  have hgr:isGraphF v.1=true:=by
    cases e:isGraphF v.1 with
    | true=>rfl
    | false=>rw [tailP,simpleF,e] at htl;simp at htl
  have hN:inB v.1.1 1 8=true:=by
    unfold isGraphF at hgr
    split at hgr
    · next h=>exact h.1
    · cases hgr
  have hN1:1≤v.1.1∧v.1.1≤8:=by simpa [inB] using hN
  have lp2:goodP v.1.1 v.2.1.2 v.2.1.1=true→∀ m k,k+m=v.1.2.1.1→freeP v.2.1 v.1.2.1.2 k=true→zR c 73 zf36 (S57b v k) (Post c [] (.p (.bool (pinnedF v)))):=by
    intro hgood m
    induction m with
    | zero =>
      intro k hk hf
      rw [show pinnedF v=true by rw [pinnedF,hgood,show v.1.2.1.1=k by omega,hf,htl];rfl]
      have hd:decide ((k:Int)<(v.1.2.1.1:Int))=false:=by simp;omega
      refine pkZ Tryz.func73 hc (p57g v k) ?_
      and_intros
      all_goals (first | exact zN | simp)
    | succ m ih =>
      intro k hk hf
      have hd:decide ((k:Int)<(v.1.2.1.1:Int))=true:=by simp;omega
      cases he:bothP v.2.1 (v.1.2.1.2 k) with
      | true =>
        rw [show pinnedF v=false by rw [pinnedF,freeP_bad v.2.1 v.1.2.1.2 k he v.1.2.1.1 (by omega)];simp]
        refine pkD Tryz.func73 hc (p57f v k) ?_
        and_intros
        all_goals (first | exact zI | (intros;exact con_Contains v.2.1 _ hni) | (exact he))
      | false =>
        refine pcD hc (p57e v k) ?_ (ih (k+1) (by omega) (by rw [freeP,hf,he];rfl))
        and_intros
        all_goals (first | exact zI | (intros;exact con_Contains v.2.1 _ hni) | (exact he) | (simp [All]))
  have lp1:∀ m k,k+m=v.2.1.1→goodP v.1.1 v.2.1.2 k=true→zR c 73 zf49 (S57a v k) (Post c [] (.p (.bool (pinnedF v)))):=by
    intro m
    induction m with
    | zero =>
      intro k hk hgd
      have hd:decide ((k:Int)<(v.2.1.1:Int))=false:=by simp;omega
      refine pcD hc (p57d v k) ?_ (lp2 (by rw [show v.2.1.1=k by omega];exact hgd) v.1.2.1.1 0 (by omega) rfl)
      and_intros
      all_goals (first | exact zN | (simp [All]))
    | succ m ih =>
      intro k hk hgd
      have hkn:k<v.2.1.1:=by omega
      have hd:decide ((k:Int)<(v.2.1.1:Int))=true:=by simp;omega
      cases he:badP v.1.1 v.2.1.2 k with
      | true =>
        rw [show pinnedF v=false by rw [pinnedF,goodP_bad _ _ k he v.2.1.1 (by omega)];rfl]
        have he':=bad_in v.1.1 v.2.1.2 k he
        refine pkD Tryz.func73 hc (p57c v k) ?_
        and_intros
        all_goals (first | exact zH | (exact con_Graphhas v.1 _ hN1.1 hN1.2) | (exact he') | (intro h;have:=idx_lt h hkn;omega))
      | false =>
        have he':=bad_in v.1.1 v.2.1.2 k he
        refine pcD hc (p57b v k) ?_ (ih (k+1) (by omega) (by rw [goodP,hgd,he];rfl))
        and_intros
        all_goals (first | exact zH | (exact con_Graphhas v.1 _ hN1.1 hN1.2) | (exact he') | (intro h;have:=idx_lt h hkn;omega) | (simp [All]))
  refine pcD hc (p57a v) ?_ (lp1 v.2.1.1 0 (by omega) rfl)
  and_intros
  all_goals (first | exact zH | (exact con_IsGraph_i v.1 hg) | (intros;exact con_hasDoubles v.1 hg) | (exact ht') | (simp [All]) | (intro h;simpa using h))
end Go.Proofs.YtkepkjbofchckaaGreat.Mach
