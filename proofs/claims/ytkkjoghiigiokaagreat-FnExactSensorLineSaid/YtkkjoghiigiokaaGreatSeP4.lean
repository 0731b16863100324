/- What the law Se needs, part 4 of 5: the abstract machine and the contracts of the functions. Conditions: as each theorem says. -/
import Derived.Test.YtkkjoghiigiokaaGreatSeP3
namespace Go.Proofs.YtkkjoghiigiokaaGreat.Mach
open Go
def btI (w i:Int):Bool:=bitI .and .i64 (shrI .i64 w i) 1==1
theorem shr_nat (m i:Nat) (hi:i<62):shrI .i64 (m:Int) (i:Int)=((m >>> i:Nat):Int):=by
  unfold shrI
  have:min (i:Int).toNat IntKind.i64.bits=i:=by simp [IntKind.bits];omega
  rw [this,Int.fdiv_eq_ediv_of_nonneg _ (Int.le_of_lt (Int.pow_pos (by omega))),Nat.shiftRight_eq_div_pow]
  simp
theorem bv_nat (x:Nat):BitVec.ofInt 64 (x:Int)=BitVec.ofNat 64 x:=by
  simp
theorem bt_test (m:Nat) (i:Nat) (hm:m<2 ^ 62) (hi:i<62):btI (m:Int) (i:Int)=m.testBit i:=by
  unfold btI
  rw [shr_nat m i hi]
  have hle:m >>> i≤m:=Nat.shiftRight_le m i
  rw [Nat.testBit_eq_decide_div_mod_eq,← Nat.shiftRight_eq_div_pow]
  generalize m >>> i=x at hle ⊢
  have e:bitI .and .i64 ((x:Nat):Int) 1=((x % 2:Nat):Int):=by
    unfold bitI
    have e1:(BitVec.ofInt IntKind.i64.bits ((x:Nat):Int) &&& BitVec.ofInt IntKind.i64.bits 1).toNat=x % 2:=by
      rw [BitVec.toNat_and]
      show ((BitVec.ofInt 64 ((x:Nat):Int)).toNat &&& 1)=_
      rw [bv_nat,BitVec.toNat_ofNat,Nat.mod_eq_of_lt (by omega),Nat.and_one_is_mod]
    simp only [e1]
    exact wrap_in (by simp only [imin];omega) (by simp only [imax];omega)
  rw [e]
  rcases Nat.mod_two_eq_zero_or_one x with h | h<;>simp [h]
theorem shl_nat (e:Nat) (he:e<62):shlI .i64 1 (e:Int)=((2 ^ e:Nat):Int):=by
  unfold shlI
  have:min (e:Int).toNat IntKind.i64.bits=e:=by simp [IntKind.bits];omega
  rw [this]
  have h2:2 ^ e<2 ^ 62:=Nat.pow_lt_pow_right (by omega) he
  have h3:(1:Int)*2 ^ e=((2 ^ e:Nat):Int):=by simp
  rw [h3]
  generalize 2 ^ e=q at h2
  exact wrap_in (by simp only [imin];omega) (by simp only [imax];omega)
set_option linter.unusedVariables false
set_option linter.unusedSimpArgs false
def GSo (w M i c:Nat) (f:Nat→Int):St:=⟨[.p (.int .i64 w),.p (.int .i64 M),.p .any,.p .any,.p .any,.ar 1 0 0 c,.p .any,.p .any,.p (.int .i64 M),.p (.int .i64 i)]++List.replicate 13 anyA,[(0,iOb c f)],1⟩
def GSl (w M i c:Nat) (f:Nat→Int):St:=⟨[.p (.int .i64 M),.p (.int .i64 w),.p .any,.p .any,.p .any,.ar 1 0 0 c,.p (.int .i64 i)]++List.replicate 16 anyA,[(0,iOb c f)],1⟩
theorem gOz (w M:Nat) :
    zT Tryz.f190 [rg 1,rg 2,rg 2,.head] [.p (.int .i64 w),.p (.int .i64 M)] [32] (GSo w M 0 0 (fun _=>0)) =
    some (zf66,[(AI ((↑w:Int))),(AI ((↑M:Int))),(AN 0),(AN 0),(AI ((↑M:Int))),((0:Int)=(↑0:Int)),(AN 1),(NL 0 0),(AA 0 (fun i=>[.p (.int .i64 0)]))]):=by kernel_rfl
theorem gOt (w M i c:Nat) (f:Nat→Int) :
    zM 0 [rg 1,.dec true,rg 2,rg 5,.dec true,rg 5,rg 2,.head] zf66 (GSo w M i c f) [353] 1 (GSo w M (i+1) (c+1) (fun s=>if s<c then f s else i)) =
    some (zf66,[((decide ((↑i:Int)<(↑M:Int)))=true),(IL 0 (↑i:Int)),((bitI BinOp.and IntKind.i64 (shrI IntKind.i64 (↑w:Int) (↑i:Int)) 1==1)=true),(NL 1 1),(NL c c),(NL ((c+1)*8) 140737488355328),(NL (c+1) 9223372036854775807),(ZLo ((↑i:Int)+1)),(ZHi ((↑i:Int)+1)),(AI ((↑w:Int))),(AI ((↑M:Int))),(AN 0),(AN ((c+1))),(AI ((↑M:Int))),((((↑i:Int)+1):Int)=(↑(i+1):Int)),(AN 1),(NL (c+1) (c+1)),(CV [(353,⟨false,1,(c+1),(fun i_2=>(if (i_2<c) then [.p (.int .i64 (f i_2))] else [.p (.int .i64 (↑i:Int))]))⟩),(321,⟨false,1,1,(fun i_2=>[.p (.int .i64 (↑i:Int))])⟩)] [353] 1 (c+1) (fun i_1=>if (i_1<c) then [.p (.int .i64 (f i_1))] else [.p (.int .i64 (↑i:Int))]) (fun i_1=>[.p (.int .i64 (if i_1<c then f i_1 else (↑i:Int)))]))]):=by kernel_rfl
theorem gOf (w M i c:Nat) (f:Nat→Int) :
    zM 0 [rg 1,.dec true,rg 2,rg 5,.dec false,rg 2,.head] zf66 (GSo w M i c f) [0] 1 (GSo w M (i+1) c f) =
    some (zf66,[((decide ((↑i:Int)<(↑M:Int)))=true),(IL 0 (↑i:Int)),((bitI BinOp.and IntKind.i64 (shrI IntKind.i64 (↑w:Int) (↑i:Int)) 1==1)=false),(ZLo ((↑i:Int)+1)),(ZHi ((↑i:Int)+1)),(AI ((↑w:Int))),(AI ((↑M:Int))),(AN 0),(AN c),(AI ((↑M:Int))),((((↑i:Int)+1):Int)=(↑(i+1):Int)),(AN 1),(NL c c),(AA c (fun i_1=>[.p (.int .i64 (f i_1))]))]):=by kernel_rfl
theorem gOe (w M i c:Nat) (f:Nat→Int) :
    zP Tryz.f190 0 [rg 1,.dec false,rg 2] zf66 (GSo w M i c f) [0] 1 [(0,iOb c f)] (.ar 1 0 0 c) =
    some [((decide ((↑i:Int)<(↑M:Int)))=false),(AN 0),(AN c),(AN 1),(NL c c),(AA c (fun i_1=>[.p (.int .i64 (f i_1))])),(AE c)]:=by kernel_rfl
theorem gLz (w M:Nat) :
    zT Tryz.f177 [rg 1,rg 2,rg 1,.head] [.p (.int .i64 M),.p (.int .i64 w)] [32] (GSl w M 0 0 (fun _=>0)) =
    some (zf67,[(AI ((↑M:Int))),(AI ((↑w:Int))),(AN 0),(AN 0),((0:Int)=(↑0:Int)),(AN 1),(NL 0 0),(AA 0 (fun i=>[.p (.int .i64 0)]))]):=by kernel_rfl
theorem gLt (w M i c:Nat) (f:Nat→Int) :
    zM 0 [rg 3,.dec true,rg 5,.dec true,rg 5,rg 3,.head] zf67 (GSl w M i c f) [353] 1 (GSl w M (i+1) (c+1) (fun s=>if s<c then f s else i)) =
    some (zf67,[((decide ((↑i:Int)<(↑M:Int)))=true),(IL 0 (↑i:Int)),((bitI BinOp.and IntKind.i64 (shrI IntKind.i64 (↑w:Int) (↑i:Int)) 1==1)=true),(NL 1 1),(NL c c),(NL ((c+1)*8) 140737488355328),(NL (c+1) 9223372036854775807),(ZLo ((↑i:Int)+1)),(ZHi ((↑i:Int)+1)),(AI ((↑M:Int))),(AI ((↑w:Int))),(AN 0),(AN ((c+1))),((((↑i:Int)+1):Int)=(↑(i+1):Int)),(AN 1),(NL (c+1) (c+1)),(CV [(353,⟨false,1,(c+1),(fun i_2=>(if (i_2<c) then [.p (.int .i64 (f i_2))] else [.p (.int .i64 (↑i:Int))]))⟩),(321,⟨false,1,1,(fun i_2=>[.p (.int .i64 (↑i:Int))])⟩)] [353] 1 (c+1) (fun i_1=>if (i_1<c) then [.p (.int .i64 (f i_1))] else [.p (.int .i64 (↑i:Int))]) (fun i_1=>[.p (.int .i64 (if i_1<c then f i_1 else (↑i:Int)))]))]):=by kernel_rfl
theorem gLf (w M i c:Nat) (f:Nat→Int) :
    zM 0 [rg 3,.dec true,rg 5,.dec false,rg 3,.head] zf67 (GSl w M i c f) [0] 1 (GSl w M (i+1) c f) =
    some (zf67,[((decide ((↑i:Int)<(↑M:Int)))=true),(IL 0 (↑i:Int)),((bitI BinOp.and IntKind.i64 (shrI IntKind.i64 (↑w:Int) (↑i:Int)) 1==1)=false),(ZLo ((↑i:Int)+1)),(ZHi ((↑i:Int)+1)),(AI ((↑M:Int))),(AI ((↑w:Int))),(AN 0),(AN c),((((↑i:Int)+1):Int)=(↑(i+1):Int)),(AN 1),(NL c c),(AA c (fun i_1=>[.p (.int .i64 (f i_1))]))]):=by kernel_rfl
theorem gLe (w M i c:Nat) (f:Nat→Int) :
    zP Tryz.f177 0 [rg 3,.dec false,rg 2] zf67 (GSl w M i c f) [0] 1 [(0,iOb c f)] (.ar 1 0 0 c) =
    some [((decide ((↑i:Int)<(↑M:Int)))=false),(AN 0),(AN c),(AN 1),(NL c c),(AA c (fun i_1=>[.p (.int .i64 (f i_1))])),(AE c)]:=by kernel_rfl
def stD (w:Nat):Nat→T_IntS
  | 0=>(0,fun _=>0)
  | i+1=>if btI w i=true then ((stD w i).1+1,fun s=>if s<(stD w i).1 then (stD w i).2 s else i) else stD w i
theorem stD_n (w:Nat):∀ i,(stD w i).1≤i
  | 0=>Nat.le_refl _
  | i+1=>by
    have:=stD_n w i
    simp only [stD]
    split
    · show (stD w i).1+1≤i+1;omega
    · omega
theorem con_setOf (w M:Nat) (hM:M≤62):zE 190 [.p (.int .i64 w),.p (.int .i64 M)] [(0,iOb (stD w M).1 (stD w M).2)] (.ar 1 0 0 (stD w M).1):=by
  refine csZ Tryz.func190 (fun c hc=>?_)
  generalize hR:stD w M=R
  have lo:∀ d i,i+d=M→zR c 190 zf66 (GSo w M i (stD w i).1 (stD w i).2) (Post c [(0,iOb R.1 R.2)] (.ar 1 0 0 R.1)):=by
    intro d
    induction d with
    | zero =>
      intro i hi
      obtain rfl:i=M:=by omega
      have hd:decide ((i:Int)<(i:Int))=false:=by simp
      rw [hR]
      refine pkZ Tryz.func190 hc (gOe w i i R.1 R.2) ?_
      and_intros
      all_goals (first | exact zN | (exact hd) | (intro t ht;simp [All]))
    | succ d ih =>
      intro i hi
      have hd:decide ((i:Int)<(M:Int))=true:=decide_eq_true (by omega)
      have hrec:=ih (i+1) (by omega)
      have hn:=stD_n w i
      cases hb:btI w i with
      | true =>
        rw [show stD w (i+1)=((stD w i).1+1,fun s=>if s<(stD w i).1 then (stD w i).2 s else i) by simp [stD,hb]] at hrec
        generalize stD w i=q at hn hrec ⊢
        refine pcZ hc (gOt w M i q.1 q.2) ?_ hrec
        and_intros
        all_goals (first | exact zN | (exact hd) | (exact hb) | (intro t ht;by_cases h':t<q.1<;>simp [h',cvtL,cvt,tg,tru,All]))
      | false =>
        rw [show stD w (i+1)=stD w i by simp [stD,hb]] at hrec
        generalize stD w i=q at hn hrec ⊢
        refine pcZ hc (gOf w M i q.1 q.2) ?_ hrec
        and_intros
        all_goals (first | exact zN | (exact hd) | (exact hb) | (intro t ht;simp [All]))
  refine pcZ hc (gOz w M) ?_ (lo M 0 (by omega))
  and_intros
  all_goals (first | exact zN | (intro t ht;exact absurd ht (Nat.not_lt_zero _)) | (intro t ht;simp [All]))
theorem con_l3Set (w M:Nat) (hM:M≤62):zE 177 [.p (.int .i64 M),.p (.int .i64 w)] [(0,iOb (stD w M).1 (stD w M).2)] (.ar 1 0 0 (stD w M).1):=by
  refine csZ Tryz.func177 (fun c hc=>?_)
  generalize hR:stD w M=R
  have lo:∀ d i,i+d=M→zR c 177 zf67 (GSl w M i (stD w i).1 (stD w i).2) (Post c [(0,iOb R.1 R.2)] (.ar 1 0 0 R.1)):=by
    intro d
    induction d with
    | zero =>
      intro i hi
      obtain rfl:i=M:=by omega
      have hd:decide ((i:Int)<(i:Int))=false:=by simp
      rw [hR]
      refine pkZ Tryz.func177 hc (gLe w i i R.1 R.2) ?_
      and_intros
      all_goals (first | exact zN | (exact hd) | (intro t ht;simp [All]))
    | succ d ih =>
      intro i hi
      have hd:decide ((i:Int)<(M:Int))=true:=decide_eq_true (by omega)
      have hrec:=ih (i+1) (by omega)
      have hn:=stD_n w i
      cases hb:btI w i with
      | true =>
        rw [show stD w (i+1)=((stD w i).1+1,fun s=>if s<(stD w i).1 then (stD w i).2 s else i) by simp [stD,hb]] at hrec
        generalize stD w i=q at hn hrec ⊢
        refine pcZ hc (gLt w M i q.1 q.2) ?_ hrec
        and_intros
        all_goals (first | exact zN | (exact hd) | (exact hb) | (intro t ht;by_cases h':t<q.1<;>simp [h',cvtL,cvt,tg,tru,All]))
      | false =>
        rw [show stD w (i+1)=stD w i by simp [stD,hb]] at hrec
        generalize stD w i=q at hn hrec ⊢
        refine pcZ hc (gLf w M i q.1 q.2) ?_ hrec
        and_intros
        all_goals (first | exact zN | (exact hd) | (exact hb) | (intro t ht;simp [All]))
  refine pcZ hc (gLz w M) ?_ (lo M 0 (by omega))
  and_intros
  all_goals (first | exact zN | (intro t ht;exact absurd ht (Nat.not_lt_zero _)) | (intro t ht;simp [All]))
theorem and_nat (x y:Nat) (hx:x<2 ^ 62) (hy:y<2 ^ 62):bitI .and .i64 (x:Int) (y:Int)=((x &&& y:Nat):Int):=by
  unfold bitI
  have e1:(BitVec.ofInt IntKind.i64.bits (x:Int) &&& BitVec.ofInt IntKind.i64.bits (y:Int)).toNat=x &&& y:=by
    rw [BitVec.toNat_and]
    show (BitVec.ofInt 64 (x:Int)).toNat &&& (BitVec.ofInt 64 (y:Int)).toNat=_
    rw [bv_nat,bv_nat,BitVec.toNat_ofNat,BitVec.toNat_ofNat,Nat.mod_eq_of_lt (by omega),Nat.mod_eq_of_lt (by omega)]
  simp only [e1]
  have:x &&& y≤x:=Nat.and_le_left
  exact wrap_in (by simp only [imin];omega) (by simp only [imax];omega)
def flt (p:Nat→Bool):Nat→T_IntS
  | 0=>(0,fun _=>0)
  | i+1=>if p i=true then ((flt p i).1+1,fun s=>if s<(flt p i).1 then (flt p i).2 s else i) else flt p i
theorem flt_n (p:Nat→Bool):∀ i,(flt p i).1≤i
  | 0=>Nat.le_refl _
  | i+1=>by
    have:=flt_n p i
    simp only [flt]
    split
    · show (flt p i).1+1≤i+1;omega
    · omega
theorem flt_t {p:Nat→Bool} {i:Nat} (h:p i=true):flt p (i+1)=((flt p i).1+1,fun s=>if s<(flt p i).1 then (flt p i).2 s else i):=by simp [flt,h]
theorem flt_f {p:Nat→Bool} {i:Nat} (h:p i=false):flt p (i+1)=flt p i:=by simp [flt,h]
theorem hasI_congr (f g:Nat→Int) (x:Int):∀ n,(∀ i,i<n→f i=g i)→hasI f x n=hasI g x n
  | 0,_=>rfl
  | n+1,h=>by simp only [hasI,hasI_congr f g x n (fun i hi=>h i (by omega)),h n (by omega)]
theorem hasI_stD (w:Nat) (x:Int):∀ i,hasI (stD w i).2 x (stD w i).1=(decide (0≤x∧x<i)&&btI w x)
  | 0=>by
    have:decide (0≤x∧x<((0:Nat):Int))=false:=decide_eq_false (by omega)
    rw [this];rfl
  | i+1=>by
    have ih:=hasI_stD w x i
    by_cases hx:x=i
    · subst hx
      have h1:decide (0≤(i:Int)∧(i:Int)<(i:Int))=false:=decide_eq_false (by omega)
      have h2:decide (0≤(i:Int)∧(i:Int)<((i+1:Nat):Int))=true:=decide_eq_true (by omega)
      rw [h1] at ih
      rw [h2]
      cases hb:btI w i with
      | true =>
        rw [show stD w (i+1)=((stD w i).1+1,fun s=>if s<(stD w i).1 then (stD w i).2 s else i) by simp [stD,hb]]
        simp [hasI]
      | false =>
        rw [show stD w (i+1)=stD w i by simp [stD,hb]]
        rw [ih];rfl
    · have h1:decide (0≤x∧x<((i+1:Nat):Int))=decide (0≤x∧x<(i:Int)):=by
        rw [decide_eq_decide];omega
      rw [h1,← ih]
      cases hb:btI w i with
      | true =>
        rw [show stD w (i+1)=((stD w i).1+1,fun s=>if s<(stD w i).1 then (stD w i).2 s else i) by simp [stD,hb]]
        simp only [hasI,Nat.lt_irrefl,if_false]
        rw [show (((i:Nat):Int)==x)=false from beq_eq_false_iff_ne.2 (fun h=>hx h.symm),Bool.or_false]
        exact hasI_congr _ _ x _ (fun j hj=>by simp only [hj,if_true])
      | false=>rw [show stD w (i+1)=stD w i by simp [stD,hb]]
def ssOb (n:Nat) (C:Nat→T_IntS):Ob:=⟨false,1,n,fun i=>[.p (.seq false 1 (C i).1 (fun s=>[.int .i64 ((C i).2 s)]))]⟩
def snocC (n:Nat) (C:Nat→T_IntS) (c:T_IntS) (i:Nat):T_IntS:=(if i<n then (C i).1 else c.1,fun s=>if i<n then (C i).2 s else c.2 s)
def wpD (S:T_IntS):Nat→T_IntS
  | 0=>(0,fun _=>0)
  | v+1=>if hasI S.2 v S.1=true then ((wpD S v).1,fun u=>if u<v then (wpD S v).2 u else -1) else ((wpD S v).1+1,fun u=>if u<v then (wpD S v).2 u else ((wpD S v).1:Int))
def wpB (g:Nat→T_Bar) (p:Nat→Int):Nat→NB
  | 0=>zNB
  | k+1=>if (decide (p (g k).1.toNat≥0)&&decide (p (g k).2.1.toNat≥0))=true then sn (wpB g p k) (p (g k).1.toNat,p (g k).2.1.toNat,()) else wpB g p k
def wpG (N nb:Nat) (g:Nat→T_Bar) (S:T_IntS):T_Graph:=(((wpD S N).1:Int),((wpB g (wpD S N).2 nb).1,(wpB g (wpD S N).2 nb).2),())
theorem wpD_le (S:T_IntS):∀ v,(wpD S v).1≤v
  | 0=>Nat.le_refl _
  | v+1=>by
    have:=wpD_le S v
    simp only [wpD]
    split
    · show (wpD S v).1≤v+1;omega
    · show (wpD S v).1+1≤v+1;omega
theorem wpB_le (g:Nat→T_Bar) (p:Nat→Int):∀ k,(wpB g p k).1≤k
  | 0=>Nat.le_refl _
  | k+1=>by
    have:=wpB_le g p k
    simp only [wpB]
    split
    · simp only [sn];omega
    · omega
theorem wp_cnt (w N:Nat):∀ i,i≤N→(wpD (stD w N) i).1+(stD w i).1=i
  | 0,_=>rfl
  | i+1,h=>by
    have ih:=wp_cnt w N i (by omega)
    have e:hasI (stD w N).2 (i:Int) (stD w N).1=btI w i:=by
      rw [hasI_stD,decide_eq_true (show (0:Int)≤(i:Int)∧(i:Int)<(N:Int) by omega),Bool.true_and]
    simp only [wpD,stD,e]
    cases btI w i with
    | true=>simp;omega
    | false=>simp;omega
def rcF (v:T_Graph) (u0:Nat):Nat→Bool:=rIt v.2.1.2 v.2.1.1 (fun u=>decide (u=u0)) v.1.toNat
def cnB (v:T_Graph):Bool:=bif isGraphF v then ((flt (rcF v 0) v.1.toNat).1:Int)==v.1 else false
def ctQ (N nb:Nat) (g:Nat→T_Bar) (k w:Nat):Bool:=bif (((stD w N).1:Nat):Int)==(k:Int) then (bif decide ((((wpD (stD w N) N).1:Nat):Int)≥2) then !cnB (wpG N nb g (stD w N)) else false) else false
def csD (N nb:Nat) (g:Nat→T_Bar) (k:Nat):Nat→Nat×(Nat→T_IntS)
  | 0=>(0,fun _=>(0,fun _=>0))
  | w+1=>if ctQ N nb g k w=true then ((csD N nb g k w).1+1,snocC (csD N nb g k w).1 (csD N nb g k w).2 (stD w N)) else csD N nb g k w
theorem csD_le (N nb:Nat) (g:Nat→T_Bar) (k:Nat):∀ w,(csD N nb g k w).1≤w
  | 0=>Nat.le_refl _
  | w+1=>by
    have:=csD_le N nb g k w
    simp only [csD]
    split
    · show (csD N nb g k w).1+1≤w+1;omega
    · omega
def kcA (N nb:Nat) (g:Nat→T_Bar):Nat→Bool
  | 0=>true
  | j+1=>kcA N nb g j&&!decide ((((csD N nb g j (2 ^ N)).1:Nat):Int)>0)
def kcB (N nb:Nat) (g:Nat→T_Bar) (k:Nat):Bool:=bif decide ((N:Int)≤(k:Int)) then false else kcA N nb g k
def blOb (n:Nat) (K:Nat→Bool):Ob:=⟨false,1,n,fun i=>[.p (.bool (K i))]⟩
def Rz0 (g:Nat→T_Bar) (nb N:Nat) (b:Bool) (s:Nat→Bool):St :=
  ⟨[grG g nb N,.p (.int .i64 0),.pt 2 0 0 0,.p .any,.p .any,.ar 1 1 0 N,.p (.bool b)]++List.replicate 37 anyA,[(0,bxG g nb N),(1,blOb N s)],2⟩
def Rz1 (g:Nat→T_Bar) (nb N:Nat) (b:Bool) (k:Nat) (s:Nat→Bool):St :=
  ⟨[grG g nb N,.p (.int .i64 0),.pt 2 0 0 0,.p .any,.p .any,.ar 1 1 0 N,.p (.bool b)]++List.replicate 10 anyA++[brL g nb,.p (.int .i64 nb),.p (.int .i64 k)]++List.replicate 24 anyA,[(0,bxG g nb N),(1,blOb N s)],2⟩
def Q0 (g:Nat→T_Bar) (nb N:Nat) (s:Nat→Bool) (k c:Nat) (f:Nat→Int):St :=
  ⟨[grG g nb N,.p (.int .i64 0),.pt 2 0 0 0,.p .any,.p .any,.ar 1 1 0 c]++List.replicate 15 anyA++[.ar 1 2 0 N,.p (.int .i64 N),.p (.int .i64 k)]++List.replicate 11 anyA,[(0,bxG g nb N),(1,iOb c f),(2,blOb N s)],3⟩
def P0 (g:Nat→T_Bar) (nb N:Nat) (n:Nat) (s:Nat→Bool):St :=
  ⟨[grG g nb N,.p (.int .i64 0),.pt 2 0 0 0,.p .any,.p .any,.ar 1 1 0 0,.ar 1 2 0 N,.p (.int .i64 n)]++List.replicate 87 anyA,[(0,bxG g nb N),(1,iOb 0 (fun _=>0)),(2,blOb N s)],3⟩
def P1 (g:Nat→T_Bar) (nb N:Nat) (n k:Nat) (s:Nat→Bool):St :=
  ⟨[grG g nb N,.p (.int .i64 0),.pt 2 0 0 0,.p .any,.p .any,.ar 1 1 0 0,.ar 1 2 0 N,.p (.int .i64 n),.p (.int .i64 k)]++List.replicate 86 anyA,[(0,bxG g nb N),(1,iOb 0 (fun _=>0)),(2,blOb N s)],3⟩
def P2 (g:Nat→T_Bar) (nb N:Nat) (s:Nat→Bool) (i c:Nat) (f:Nat→Int):St :=
  ⟨[grG g nb N,.p (.int .i64 0),.pt 2 0 0 0,.p .any,.p .any,.ar 1 1 0 c,.ar 1 2 0 N,.p .any,.p .any,.p (.int .i64 i)]++List.replicate 85 anyA,[(0,bxG g nb N),(1,iOb c f),(2,blOb N s)],3⟩
theorem rcz (g:Nat→T_Bar) (nb N:Nat) :
    zT Tryz.f423 [rg 2,rg 4,rg 4,rg 1,.head] [grG g nb N,.p (.int .i64 0)] [0,128] (Rz0 g nb N true (fun u=>decide (u=0))) =
    some (zf43,[(NT 0 1),(IL 0 (↑N:Int)),(IL (↑N:Int) (↑N:Int)),(IL ((↑N:Int)*(↑1:Int)) 281474976710656),(ZHi (↑N:Int)),(IL 0 0),(IT 0 (↑N:Int)),(NT 0 N),((false=true)→ ((N:Nat)=1)),(AI ((↑N:Int))),(AN nb),(AP nb (bRw g)),(AI 0),(AN 0),(AN 0),(AN N),(true=true),((([AV.p (PV.int IntKind.i64 (↑N:Int)),brL g nb].length):Nat)=2),(NL 1 1),(NL 1 1),(AI ((↑N:Int))),(AN nb),(AP nb (bRw g)),(AN 1),(NL N N),(CV [(128,⟨false,1,N,(fun i_1=>(if (i_1=0) then [.p (.bool true)] else [.p (.bool false)]))⟩),(0,⟨true,2,1,(fun i_1=>[.p (.int .i64 (↑N:Int)),.p (.seq true 2 nb (bRw g))])⟩)] [0,128] 1 N (fun i=>if (i=0) then [.p (.bool true)] else [.p (.bool false)]) (fun i=>[.p (.bool (decide (i=0)))]))]):=by kernel_rfl
theorem rco (g:Nat→T_Bar) (nb N:Nat) (s:Nat→Bool) :
    zM 0 [rg 1,.dec true,rg 1,rg 4,.head] zf43 (Rz0 g nb N true s) [0,1] 1 (Rz1 g nb N false 0 s) =
    some (zf17,zD [(true=true),(NT 0 1),(AI ((↑N:Int))),(AN nb),(AP nb (bRw g)),(AI 0),(AN 0),(AN N),(false=false),(AI ((↑nb:Int))),((0:Int)=(↑0:Int)),(AN 2),(NL 1 1),(AN 1),(NL N N),(AA N (fun i=>[.p (.bool (s i))]))] [0,1,2,3,4,5,6,6,7,8,3,4,9,10,11,12,12,2,3,4,13,14,15]):=by kernel_rfl
theorem rct (g:Nat→T_Bar) (nb N:Nat) (b:Bool) (k:Nat) (s:Nat→Bool) :
    zM 0 [rg 1,.dec true,rg 4,rg 11,.dec true,rg 5,rg 5,rg 1,rg 2,.head] zf17 (Rz1 g nb N b k s) [0,1] 1 (Rz1 g nb N true (k+1) (fun v=>if v=(g k).2.1.toNat then true else if v=(g k).1.toNat then true else s v)) =
    some (zf17,zD [((decide ((↑k:Int)<(↑nb:Int)))=true),(IL 0 (↑k:Int)),(IT (↑k:Int) (↑nb:Int)),(NT 0 1),((true=true)→ (AN 1)),(IL 0 ((g k).1)),(IT ((g k).1) (↑N:Int)),(NT ((g k).1.toNat) N),(IL 0 ((g k).2.1)),(IT ((g k).2.1) (↑N:Int)),(NT ((g k).2.1.toNat) N),((!s (g k).1.toNat==s (g k).2.1.toNat)=true),((false=true)→ ((N:Nat)=1)),(ZLo ((↑k:Int)+1)),(ZHi ((↑k:Int)+1)),(AI ((↑N:Int))),(AN nb),(AP nb (bRw g)),(AI 0),(AN 0),(AN N),(true=true),(AI ((↑nb:Int))),((((↑k:Int)+1):Int)=(↑(k+1):Int)),(AN 2),(NL 1 1),(AN 1),(NL N N),(CV [(1,⟨false,1,N,(fun i_1=>(if (i_1=(g k).2.1.toNat) then [.p (.bool true)] else (if (i_1=(g k).1.toNat) then [.p (.bool true)] else [.p (.bool (s i_1))])))⟩),(98,⟨true,2,1,(fun i_1=>[.p (.int .i64 ((g k).1)),.p (.int .i64 ((g k).2.1))])⟩),(0,⟨true,2,1,(fun i_1=>[.p (.int .i64 (↑N:Int)),.p (.seq true 2 nb (bRw g))])⟩)] [0,1] 1 N (fun i=>if (i=(g k).2.1.toNat) then [.p (.bool true)] else (if (i=(g k).1.toNat) then [.p (.bool true)] else [.p (.bool (s i))])) (fun i=>[.p (.bool (if i=(g k).2.1.toNat then true else if i=(g k).1.toNat then true else s i))]))] [0,1,2,3,4,3,5,6,7,3,8,9,10,11,3,5,6,7,12,3,8,9,10,12,13,14,15,16,17,18,19,19,20,21,16,17,22,23,24,25,25,15,16,17,26,27,28]):=by kernel_rfl
theorem rcf (g:Nat→T_Bar) (nb N:Nat) (b:Bool) (k:Nat) (s:Nat→Bool) :
    zM 0 [rg 1,.dec true,rg 4,rg 11,.dec false,rg 2,.head] zf17 (Rz1 g nb N b k s) [0,1] 1 (Rz1 g nb N b (k+1) s) =
    some (zf17,[((decide ((↑k:Int)<(↑nb:Int)))=true),(IL 0 (↑k:Int)),(IT (↑k:Int) (↑nb:Int)),(NT 0 1),((true=true)→ (AN 1)),(NT 0 1),(IL 0 ((g k).1)),(IT ((g k).1) (↑N:Int)),(NT ((g k).1.toNat) N),(NT 0 1),(IL 0 ((g k).2.1)),(IT ((g k).2.1) (↑N:Int)),(NT ((g k).2.1.toNat) N),((!s (g k).1.toNat==s (g k).2.1.toNat)=false),(ZLo ((↑k:Int)+1)),(ZHi ((↑k:Int)+1)),(AI ((↑N:Int))),(AN nb),(AP nb (bRw g)),(AI 0),(AN 0),(AN 0),(AN N),(b=b),(AN nb),(AP nb (bRw g)),(AI ((↑nb:Int))),((((↑k:Int)+1):Int)=(↑(k+1):Int)),(AN 2),(NL 1 1),(NL 1 1),(AI ((↑N:Int))),(AN nb),(AP nb (bRw g)),(AN 1),(NL N N),(AA N (fun i=>[.p (.bool (s i))]))]):=by kernel_rfl
theorem rcx (g:Nat→T_Bar) (nb N:Nat) (b:Bool) (k:Nat) (s:Nat→Bool) :
    zM 0 [rg 1,.dec false,.head] zf17 (Rz1 g nb N b k s) [0,1] 1 (Rz0 g nb N b s) =
    some (zf43,zD [((decide ((↑k:Int)<(↑nb:Int)))=false),(AI ((↑N:Int))),(AN nb),(AP nb (bRw g)),(AI 0),(AN 0),(AN N),(b=b),(AN 2),(NL 1 1),(AN 1),(NL N N),(AA N (fun i=>[.p (.bool (s i))]))] [0,1,2,3,4,5,5,6,7,8,9,9,1,2,3,10,11,12]):=by kernel_rfl
theorem rce (g:Nat→T_Bar) (nb N:Nat) (s:Nat→Bool) :
    zP Tryz.f423 0 [rg 1,.dec false,rg 2] zf43 (Rz0 g nb N false s) [1] 1 [(0,blOb N s)] (.ar 1 0 0 N) =
    some [(false=false),(AN 0),(AN N),(AN 1),(NL N N),(AA N (fun i=>[.p (.bool (s i))])),(AE N)]:=by kernel_rfl
theorem roz (g:Nat→T_Bar) (nb N:Nat) (s:Nat→Bool) :
    zT Tryz.f422 [rg 2,rg 2,rm [(1,oc [] (.p (.bool true))),(4,oc [] (.p (.bool true)))] 2,.dec false,rm [(2,oc [(0,blOb N s)] (.ar 1 0 0 N))] 2,.head] [grG g nb N,.p (.int .i64 0)] [0,64,480] (Q0 g nb N s 0 0 (fun _=>0)) =
    some (zf44,zD [(NT 0 1),zE 62 [(zf94 N nb g)] [] (.p (.bool true)),(((!!true)=true)→(NT 0 1)),(AG (!!true)),(((!!true)=true)→ zE 205 [(zf94 N nb g),.p (.int .i64 0)] [] (.p (.bool true))),(((!true)=false)→ ((!!true)=true)),((bif !true then true else !true)=false),zE 423 [(zf94 N nb g),.p (.int .i64 0)] [(0,⟨false,1,N,(fun i=>[.p (.bool (s i))])⟩)] (.ar 1 0 0 N),(AI ((↑N:Int))),(AN nb),(AP nb (bRw g)),(AI 0),(AN 0),(AN N),((0:Int)=(↑0:Int)),((([AV.p (PV.int IntKind.i64 (↑N:Int)),brL g nb].length):Nat)=2),(NL 1 1),(AN 1),(NL 0 0),(AA 0 (fun i=>[.p (.int .i64 0)])),(NL N N),(AA N (fun i=>[.p (.bool (s i))]))] [0,1,2,3,3,4,3,5,6,0,7,8,9,10,11,12,12,12,12,13,8,14,15,16,16,8,9,10,17,18,19,17,20,21]):=by kernel_rfl
theorem rot (g:Nat→T_Bar) (nb N:Nat) (s:Nat→Bool) (k c:Nat) (f:Nat→Int) :
    zM 0 [rg 1,.dec true,rg 5,rg 1,.dec true,rg 5,rg 2,.head] zf44 (Q0 g nb N s k c f) [0,323,2] 1 (Q0 g nb N s (k+1) (c+1) (fun t=>if t<c then f t else k)) =
    some (zf44,[((decide ((↑k:Int)<(↑N:Int)))=true),(IL 0 (↑k:Int)),(IT (↑k:Int) (↑N:Int)),(NT k N),((s k)=true),(NL 1 1),(NL c c),(NL ((c+1)*8) 140737488355328),(NL (c+1) 9223372036854775807),(ZLo ((↑k:Int)+1)),(ZHi ((↑k:Int)+1)),(AI ((↑N:Int))),(AN nb),(AP nb (bRw g)),(AI 0),(AN 0),(AN 0),(AN ((c+1))),(AN 0),(AN N),(AI ((↑N:Int))),((((↑k:Int)+1):Int)=(↑(k+1):Int)),(AN 2),(NL 1 1),(NL 1 1),(AI ((↑N:Int))),(AN nb),(AP nb (bRw g)),(AN 1),(NL (c+1) (c+1)),(CV [(323,⟨false,1,(c+1),(fun i_1=>(if (i_1<c) then [.p (.int .i64 (f i_1))] else [.p (.int .i64 (↑k:Int))]))⟩),(291,⟨false,1,1,(fun i_1=>[.p (.int .i64 (↑k:Int))])⟩),(0,⟨true,2,1,(fun i_1=>[.p (.int .i64 (↑N:Int)),.p (.seq true 2 nb (bRw g))])⟩),(2,⟨false,1,N,(fun i_1=>[.p (.bool (s i_1))])⟩)] [0,323,2] 1 (c+1) (fun i=>if (i<c) then [.p (.int .i64 (f i))] else [.p (.int .i64 (↑k:Int))]) (fun i=>[.p (.int .i64 (if i<c then f i else (↑k:Int)))])),(AN 1),(NL N N),(AA N (fun i=>[.p (.bool (s i))]))]):=by kernel_rfl
theorem rof (g:Nat→T_Bar) (nb N:Nat) (s:Nat→Bool) (k c:Nat) (f:Nat→Int) :
    zM 0 [rg 1,.dec true,rg 5,rg 1,.dec false,rg 2,.head] zf44 (Q0 g nb N s k c f) [0,1,2] 1 (Q0 g nb N s (k+1) c f) =
    some (zf44,zD [((decide ((↑k:Int)<(↑N:Int)))=true),(IL 0 (↑k:Int)),(IT (↑k:Int) (↑N:Int)),(NT k N),((s k)=false),(ZLo ((↑k:Int)+1)),(ZHi ((↑k:Int)+1)),(AI ((↑N:Int))),(AN nb),(AP nb (bRw g)),(AI 0),(AN 0),(AN c),(AN N),((((↑k:Int)+1):Int)=(↑(k+1):Int)),(AN 2),(NL 1 1),(AN 1),(NL c c),(AA c (fun i=>[.p (.int .i64 (f i))])),(NL N N),(AA N (fun i=>[.p (.bool (s i))]))] [0,1,2,3,4,5,6,7,8,9,10,11,11,12,11,13,7,14,15,16,16,7,8,9,17,18,19,17,20,21]):=by kernel_rfl
theorem roe (g:Nat→T_Bar) (nb N:Nat) (s:Nat→Bool) (k c:Nat) (f:Nat→Int) :
    zP Tryz.f422 0 [rg 1,.dec false,rg 2] zf44 (Q0 g nb N s k c f) [1] 1 [(0,iOb c f)] (.ar 1 0 0 c) =
    some [((decide ((↑k:Int)<(↑N:Int)))=false),(AN 0),(AN c),(AN 1),(NL c c),(AA c (fun i=>[.p (.int .i64 (f i))])),(AE c)]:=by kernel_rfl
theorem rsz (g:Nat→T_Bar) (nb N:Nat) :
    zT Tryz.f418 [rg 2,rg 2,rm [(1,oc [] (.p (.bool true)))] 11,.dec false,rg 4,rg 4,rg 1,.head] [grG g nb N,.p (.int .i64 0)] [0,64,608] (P0 g nb N 0 (fun u=>decide (u=0))) =
    some (zf22,zD [(NT 0 1),zE 53 [(zf94 N nb g)] [] (.p (.bool true)),(AG (!!true)),(((!true)=false)→ ((!!true)=true)),(AG (!bif !true then true else decide (0<0))),(((!bif !true then true else decide (0<0))=true)→(NT 0 1)),(((bif !true then true else decide (0<0))=false)→ ((!bif !true then true else decide (0<0))=true)),((bif bif !true then true else decide (0<0) then true else decide (0≥(↑N:Int)))=false),(IL 0 (↑N:Int)),(IL (↑N:Int) (↑N:Int)),(IL ((↑N:Int)*(↑1:Int)) 281474976710656),(ZHi (↑N:Int)),(IL 0 0),(IT 0 (↑N:Int)),(NT 0 N),((false=true)→ ((N:Nat)=1)),(AI ((↑N:Int))),(AN nb),(AP nb (bRw g)),(AI 0),(AN 0),(AN N),((0:Int)=(↑0:Int)),((([AV.p (PV.int IntKind.i64 (↑N:Int)),brL g nb].length):Nat)=2),(NL 1 1),(AN 1),(NL 0 0),(AA 0 (fun i=>[.p (.int .i64 0)])),(NL N N),(CV [(608,⟨false,1,N,(fun i_1=>(if (i_1=0) then [.p (.bool true)] else [.p (.bool false)]))⟩),(64,⟨false,1,0,(fun i_1=>[.p (.int .i64 0)])⟩),(0,⟨true,2,1,(fun i_1=>[.p (.int .i64 (↑N:Int)),.p (.seq true 2 nb (bRw g))])⟩)] [0,64,608] 1 N (fun i=>if (i=0) then [.p (.bool true)] else [.p (.bool false)]) (fun i=>[.p (.bool (decide (i=0)))]))] [0,1,2,3,4,5,4,4,6,7,0,8,9,10,11,12,13,14,15,16,17,18,19,20,20,20,20,21,22,23,24,24,16,17,18,25,26,27,25,28,29]):=by kernel_rfl
theorem rso (g:Nat→T_Bar) (nb N n:Nat) (s:Nat→Bool) :
    zM 0 [rg 4,.dec true,rg 1,.head] zf22 (P0 g nb N n s) [0,1,2] 1 (P1 g nb N n 0 s) =
    some (zf9,zD [(NT 0 1),((decide ((↑n:Int)<(↑N:Int)))=true),(AI ((↑N:Int))),(AN nb),(AP nb (bRw g)),(AI 0),(AN 0),(AN N),(AI ((↑n:Int))),((0:Int)=(↑0:Int)),(AN 2),(NL 1 1),(AN 1),(NL 0 0),(AA 0 (fun i=>[.p (.int .i64 0)])),(NL N N),(AA N (fun i=>[.p (.bool (s i))]))] [0,1,2,3,4,5,6,6,6,6,7,8,9,10,11,11,2,3,4,12,13,14,12,15,16]):=by kernel_rfl
theorem rst (g:Nat→T_Bar) (nb N n k:Nat) (s:Nat→Bool) :
    zM 0 [rg 5,.dec true,rg 20,.dec true,rg 9,rg 9,rg 3,.head] zf9 (P1 g nb N n k s) [0,1,2] 1 (P1 g nb N n (k+1) (fun v=>if v=(g k).2.1.toNat then true else if v=(g k).1.toNat then true else s v)) =
    some (zf9,zD [(NT 0 1),((decide ((↑k:Int)<(↑nb:Int)))=true),(IL 0 (↑k:Int)),(IT (↑k:Int) (↑nb:Int)),(IL 0 ((g k).1)),(IT ((g k).1) (↑N:Int)),(NT ((g k).1.toNat) N),(AG (!s (g k).1.toNat)),(((!s (g k).1.toNat)=true)→(NT 0 1)),(((!s (g k).1.toNat)=true)→(IL 0 (↑k:Int))),(((!s (g k).1.toNat)=true)→(IT (↑k:Int) (↑nb:Int))),(((!s (g k).1.toNat)=true)→(IL 0 ((g k).2.1))),(((!s (g k).1.toNat)=true)→(IT ((g k).2.1) (↑N:Int))),(((!s (g k).1.toNat)=true)→(NT ((g k).2.1.toNat) N)),(((s (g k).1.toNat)=false)→ ((!s (g k).1.toNat)=true)),((bif s (g k).1.toNat then true else s (g k).2.1.toNat)=true),((false=true)→ ((N:Nat)=1)),(IL 0 ((g k).2.1)),(IT ((g k).2.1) (↑N:Int)),(NT ((g k).2.1.toNat) N),(ZLo ((↑k:Int)+1)),(ZHi ((↑k:Int)+1)),(AI ((↑N:Int))),(AN nb),(AP nb (bRw g)),(AI 0),(AN 0),(AN N),(AI ((↑n:Int))),((((↑k:Int)+1):Int)=(↑(k+1):Int)),(AN 2),(NL 1 1),(AN 1),(NL 0 0),(AA 0 (fun i=>[.p (.int .i64 0)])),(NL N N),(CV [(2,⟨false,1,N,(fun i_1=>(if (i_1=(g k).2.1.toNat) then [.p (.bool true)] else (if (i_1=(g k).1.toNat) then [.p (.bool true)] else [.p (.bool (s i_1))])))⟩),(0,⟨true,2,1,(fun i_1=>[.p (.int .i64 (↑N:Int)),.p (.seq true 2 nb (bRw g))])⟩),(1,⟨false,1,0,(fun i_1=>[.p (.int .i64 0)])⟩)] [0,1,2] 1 N (fun i=>if (i=(g k).2.1.toNat) then [.p (.bool true)] else (if (i=(g k).1.toNat) then [.p (.bool true)] else [.p (.bool (s i))])) (fun i=>[.p (.bool (if i=(g k).2.1.toNat then true else if i=(g k).1.toNat then true else s i))]))] [0,1,0,2,3,4,5,6,7,8,7,7,9,10,7,7,7,7,11,12,7,13,14,15,0,2,3,4,5,6,16,0,2,3,17,18,19,16,20,21,22,23,24,25,26,26,26,26,27,28,29,30,31,31,22,23,24,32,33,34,32,35,36]):=by kernel_rfl
theorem rsf (g:Nat→T_Bar) (nb N n k:Nat) (s:Nat→Bool) :
    zM 0 [rg 5,.dec true,rg 20,.dec false,rg 3,.head] zf9 (P1 g nb N n k s) [0,1,2] 1 (P1 g nb N n (k+1) s) =
    some (zf9,zD [(NT 0 1),((decide ((↑k:Int)<(↑nb:Int)))=true),(IL 0 (↑k:Int)),(IT (↑k:Int) (↑nb:Int)),(IL 0 ((g k).1)),(IT ((g k).1) (↑N:Int)),(NT ((g k).1.toNat) N),(AG (!s (g k).1.toNat)),(((!s (g k).1.toNat)=true)→(NT 0 1)),(((!s (g k).1.toNat)=true)→(IL 0 (↑k:Int))),(((!s (g k).1.toNat)=true)→(IT (↑k:Int) (↑nb:Int))),(((!s (g k).1.toNat)=true)→(IL 0 ((g k).2.1))),(((!s (g k).1.toNat)=true)→(IT ((g k).2.1) (↑N:Int))),(((!s (g k).1.toNat)=true)→(NT ((g k).2.1.toNat) N)),(((s (g k).1.toNat)=false)→ ((!s (g k).1.toNat)=true)),((bif s (g k).1.toNat then true else s (g k).2.1.toNat)=false),(ZLo ((↑k:Int)+1)),(ZHi ((↑k:Int)+1)),(AI ((↑N:Int))),(AN nb),(AP nb (bRw g)),(AI 0),(AN 0),(AN N),(AI ((↑n:Int))),((((↑k:Int)+1):Int)=(↑(k+1):Int)),(AN 2),(NL 1 1),(AN 1),(NL 0 0),(AA 0 (fun i=>[.p (.int .i64 0)])),(NL N N),(AA N (fun i=>[.p (.bool (s i))]))] [0,1,0,2,3,4,5,6,7,8,7,7,9,10,7,7,7,7,11,12,7,13,14,15,16,17,18,19,20,21,22,22,22,22,23,24,25,26,27,27,18,19,20,28,29,30,28,31,32]):=by kernel_rfl
theorem rsx (g:Nat→T_Bar) (nb N n k:Nat) (s:Nat→Bool) :
    zM 0 [rg 5,.dec false,rg 3,.head] zf9 (P1 g nb N n k s) [0,1,2] 1 (P0 g nb N (n+1) s) =
    some (zf22,zD [(NT 0 1),((decide ((↑k:Int)<(↑nb:Int)))=false),(ZLo ((↑n:Int)+1)),(ZHi ((↑n:Int)+1)),(AI ((↑N:Int))),(AN nb),(AP nb (bRw g)),(AI 0),(AN 0),(AN N),((((↑n:Int)+1):Int)=(↑(n+1):Int)),(AN 2),(NL 1 1),(AN 1),(NL 0 0),(AA 0 (fun i=>[.p (.int .i64 0)])),(NL N N),(AA N (fun i=>[.p (.bool (s i))]))] [0,1,2,3,4,5,6,7,8,8,8,8,9,10,11,12,12,4,5,6,13,14,15,13,16,17]):=by kernel_rfl
theorem rsq (g:Nat→T_Bar) (nb N n:Nat) (s:Nat→Bool) :
    zM 0 [rg 4,.dec false,rg 1,.head] zf22 (P0 g nb N n s) [0,1,2] 1 (P2 g nb N s 0 0 (fun _=>0)) =
    some (zf20,zD [(NT 0 1),((decide ((↑n:Int)<(↑N:Int)))=false),(AI ((↑N:Int))),(AN nb),(AP nb (bRw g)),(AI 0),(AN 0),(AN N),((0:Int)=(↑0:Int)),(AN 2),(NL 1 1),(AN 1),(NL 0 0),(AA 0 (fun i=>[.p (.int .i64 0)])),(NL N N),(AA N (fun i=>[.p (.bool (s i))]))] [0,1,2,3,4,5,6,6,6,6,7,8,9,10,10,2,3,4,11,12,13,11,14,15]):=by kernel_rfl
theorem rpt (g:Nat→T_Bar) (nb N:Nat) (s:Nat→Bool) (k c:Nat) (f:Nat→Int) :
    zM 0 [rg 4,.dec true,rg 4,.dec true,rg 5,rg 3,.head] zf20 (P2 g nb N s k c f) [0,355,2] 1 (P2 g nb N s (k+1) (c+1) (fun t=>if t<c then f t else k)) =
    some (zf20,[(NT 0 1),((decide ((↑k:Int)<(↑N:Int)))=true),(IL 0 (↑k:Int)),(IT (↑k:Int) (↑N:Int)),(NT k N),((s k)=true),(NL 1 1),(NL c c),(NL ((c+1)*8) 140737488355328),(NL (c+1) 9223372036854775807),(ZLo ((↑k:Int)+1)),(ZHi ((↑k:Int)+1)),(AI ((↑N:Int))),(AN nb),(AP nb (bRw g)),(AI 0),(AN 0),(AN 0),(AN ((c+1))),(AN 0),(AN N),((((↑k:Int)+1):Int)=(↑(k+1):Int)),(AN 2),(NL 1 1),(NL 1 1),(AI ((↑N:Int))),(AN nb),(AP nb (bRw g)),(AN 1),(NL (c+1) (c+1)),(CV [(355,⟨false,1,(c+1),(fun i_1=>(if (i_1<c) then [.p (.int .i64 (f i_1))] else [.p (.int .i64 (↑k:Int))]))⟩),(323,⟨false,1,1,(fun i_1=>[.p (.int .i64 (↑k:Int))])⟩),(0,⟨true,2,1,(fun i_1=>[.p (.int .i64 (↑N:Int)),.p (.seq true 2 nb (bRw g))])⟩),(2,⟨false,1,N,(fun i_1=>[.p (.bool (s i_1))])⟩)] [0,355,2] 1 (c+1) (fun i=>if (i<c) then [.p (.int .i64 (f i))] else [.p (.int .i64 (↑k:Int))]) (fun i=>[.p (.int .i64 (if i<c then f i else (↑k:Int)))])),(AN 1),(NL N N),(AA N (fun i=>[.p (.bool (s i))]))]):=by kernel_rfl
theorem rpf (g:Nat→T_Bar) (nb N:Nat) (s:Nat→Bool) (k c:Nat) (f:Nat→Int) :
    zM 0 [rg 4,.dec true,rg 4,.dec false,rg 3,.head] zf20 (P2 g nb N s k c f) [0,1,2] 1 (P2 g nb N s (k+1) c f) =
    some (zf20,[(NT 0 1),((decide ((↑k:Int)<(↑N:Int)))=true),(IL 0 (↑k:Int)),(IT (↑k:Int) (↑N:Int)),(NT k N),((s k)=false),(ZLo ((↑k:Int)+1)),(ZHi ((↑k:Int)+1)),(AI ((↑N:Int))),(AN nb),(AP nb (bRw g)),(AI 0),(AN 0),(AN 0),(AN c),(AN 0),(AN N),((((↑k:Int)+1):Int)=(↑(k+1):Int)),(AN 2),(NL 1 1),(NL 1 1),(AI ((↑N:Int))),(AN nb),(AP nb (bRw g)),(AN 1),(NL c c),(AA c (fun i=>[.p (.int .i64 (f i))])),(AN 1),(NL N N),(AA N (fun i=>[.p (.bool (s i))]))]):=by kernel_rfl
theorem rpe (g:Nat→T_Bar) (nb N:Nat) (s:Nat→Bool) (k c:Nat) (f:Nat→Int) :
    zP Tryz.f418 0 [rg 4,.dec false,rg 2] zf20 (P2 g nb N s k c f) [1] 1 [(0,iOb c f)] (.ar 1 0 0 c) =
    some [(NT 0 1),((decide ((↑k:Int)<(↑N:Int)))=false),(AN 0),(AN c),(AN 1),(NL c c),(AA c (fun i=>[.p (.int .i64 (f i))])),(AE c)]:=by kernel_rfl
theorem rkit (v:T_Graph) (c:Nat) (f:Nat→Int) :
    zS Tryz.f419 [rg 2,rm [(1,oc [] (.p (.bool true))),(1,gT),(0,⟨true,(some ⟨[],[],[],1,[(0,iOb c f)],.ar 1 0 0 c⟩),some true⟩),(0,gT),(0,gT),(0,gT),(0,gT),(0,gT)] 1] [graphA v] [] [] (.p (.bool ((c:Int)==v.1))) =
    some (zD [(NT 0 1),zE 62 [(zf91 v)] [] (.p (.bool true)),(true=true),zE 422 [(zf91 v),.p (.int .i64 0)] [(0,⟨false,1,c,(fun i=>[.p (.int .i64 (f i))])⟩)] (.ar 1 0 0 c),(((↑c:Int)==v.1)=((↑c:Int)==v.1))] [0,1,2,0,2,3,2,2,2,0,2,2,4]):=by kernel_rfl
theorem rkif (v:T_Graph) :
    zS Tryz.f419 [rg 2,rm [(1,oc [] (.p (.bool false))),(1,gF),(0,gF),(0,gF),(0,gF),(0,gF),(0,gF),(0,gF)] 1] [graphA v] [] [] (.p (.bool false)) =
    some (zD [(NT 0 1),zE 62 [(zf91 v)] [] (.p (.bool false)),(false=false)] [0,1,2,2,2,2,2,2,2,2]):=by kernel_rfl
theorem rkst (v:T_Graph) (c:Nat) (f:Nat→Int) :
    zS Tryz.f409 [rg 2,rm [(1,oc [] (.p (.bool true))),(1,gT),(0,⟨true,(some ⟨[],[],[],1,[(0,iOb c f)],.ar 1 0 0 c⟩),some true⟩),(0,gT),(0,gT),(0,gT),(0,gT),(0,gT)] 1] [graphA v] [] [] (.p (.bool ((c:Int)==v.1))) =
    some (zD [(NT 0 1),zE 53 [(zf91 v)] [] (.p (.bool true)),(true=true),zE 418 [(zf91 v),.p (.int .i64 0)] [(0,⟨false,1,c,(fun i=>[.p (.int .i64 (f i))])⟩)] (.ar 1 0 0 c),(((↑c:Int)==v.1)=((↑c:Int)==v.1))] [0,1,2,0,2,3,2,2,2,0,2,2,4]):=by kernel_rfl
theorem rksf (v:T_Graph) :
    zS Tryz.f409 [rg 2,rm [(1,oc [] (.p (.bool false))),(1,gF),(0,gF),(0,gF),(0,gF),(0,gF),(0,gF),(0,gF)] 1] [graphA v] [] [] (.p (.bool false)) =
    some (zD [(NT 0 1),zE 53 [(zf91 v)] [] (.p (.bool false)),(false=false)] [0,1,2,2,2,2,2,2,2,2]):=by kernel_rfl
theorem ends_in {N nb:Nat} {g:Nat→T_Bar} (hok:OkBars N nb g):∀ i,i<nb→(g i).1.toNat<N∧(g i).2.1.toNat<N:=fun i hi=>by
  have:=hok i hi
  omega
def s00:Nat→Bool:=fun u=>decide (u=0)
theorem con_gReach {N nb:Nat} {g:Nat→T_Bar} (hN:1≤N∧N≤8) (hnb:nb≤24) (hok:OkBars N nb g) :
    zE 423 [grG g nb N,.p (.int .i64 0)] [(0,blOb N (rIt g nb s00 N))] (.ar 1 0 0 N):=by
  refine csZ Tryz.func423 (fun c hc=>?_)
  have he:=ends_in hok
  have h0:1≤cnT s00 N:=cnT_one (by omega)
  have li:∀ s:Nat→Bool,(zR c 423 zf43 (Rz0 g nb N (rAg g s nb) (rRd g s nb)) (Post c [(0,blOb N (rIt g nb s00 N))] (.ar 1 0 0 N))) →
      ∀ d k,k+d=nb→zR c 423 zf17 (Rz1 g nb N (rAg g s k) k (rRd g s k)) (Post c [(0,blOb N (rIt g nb s00 N))] (.ar 1 0 0 N)):=by
    intro s hk d
    induction d with
    | zero =>
      intro k hkd
      obtain rfl:k=nb:=by omega
      have hd:decide ((k:Int)<(k:Int))=false:=decide_eq_false (by omega)
      refine pcD hc (rcx g k N _ k _) ?_ hk
      and_intros
      all_goals (first | exact zN | (exact hd) | (intro t ht;simp [All]))
    | succ d ih =>
      intro k hkd
      have hd:decide ((k:Int)<(nb:Int))=true:=decide_eq_true (by omega)
      have hb:=hok k (by omega)
      have hrec:=ih (k+1) (by omega)
      cases hq:(rRd g s k (g k).1.toNat != rRd g s k (g k).2.1.toNat) with
      | true =>
        rw [show rAg g s (k+1)=true by simp [rAg,hq]] at hrec
        have hor:(rRd g s k (g k).1.toNat||rRd g s k (g k).2.1.toNat)=true:=by
          cases h1:rRd g s k (g k).1.toNat<;>cases h2:rRd g s k (g k).2.1.toNat<;>simp [h1,h2] at hq ⊢
        rw [show rRd g s (k+1)=_ from rSt_on hor] at hrec
        refine pcD hc (rct g nb N _ k _) ?_ hrec
        and_intros
        all_goals (first | exact zI | (exact hd) | (exact hq) | (intro t ht;simp [All];done) | (intro t ht;by_cases h1:t=(g k).2.1.toNat<;>by_cases h2:t=(g k).1.toNat<;>simp [h1,h2,cvtL,cvt,tg,tru,All]))
      | false =>
        rw [show rAg g s (k+1)=rAg g s k by simp [rAg,hq],show rRd g s (k+1)=rRd g s k from rSt_same hq] at hrec
        refine pcZ hc (rcf g nb N _ k _) ?_ hrec
        and_intros
        all_goals (first | exact zI | (exact hd) | (exact hq) | (intro t ht;simp [All]))
  have lo:∀ d j,N - j≤d→j≤N→(∀ i,i<j→rAg g (rIt g nb s00 i) nb=true)→zR c 423 zf43 (Rz0 g nb N true (rIt g nb s00 j)) (Post c [(0,blOb N (rIt g nb s00 N))] (.ar 1 0 0 N)):=by
    intro d
    induction d with
    | zero =>
      intro j hj hjN ha
      exfalso
      have h1:=rIt_cnt he h0 j ha
      have h2:=cnT_le (rIt g nb s00 j) N
      omega
    | succ d ih =>
      intro j hj hjN ha
      refine pcD hc (rco g nb N _) ?_ (li (rIt g nb s00 j) ?_ nb 0 (by omega))
      · skip
        and_intros
        all_goals (first | exact zN | (intro t ht;simp [All]))
      · cases hq:rAg g (rIt g nb s00 j) nb with
        | true =>
          have h1:=rIt_cnt he h0 j ha
          have h2:=cnT_le (rIt g nb s00 j) N
          exact ih (j+1) (by omega) (by omega) (fun i hi=>by
            by_cases h':i=j
            · subst h';exact hq
            · exact ha i (by omega))
        | false =>
          have e:=rIt_end he h0 ha hq
          rw [show rRd g (rIt g nb s00 j) nb=rIt g nb s00 N from e]
          refine pkZ Tryz.func423 hc (rce g nb N _) ?_
          and_intros
          all_goals (first | exact zN | (intro t ht;simp [All]))
  refine pcZ hc (rcz g nb N) ?_ (lo N 0 (by omega) (by omega) (fun i hi=>absurd hi (Nat.not_lt_zero _)))
  and_intros
  all_goals (first | exact zI | (intro t ht;by_cases h1:t=0<;>simp [h1,cvtL,cvt,tg,tru,All]))
def rcS (N nb:Nat) (g:Nat→T_Bar):T_IntS:=flt (rIt g nb s00 N) N
theorem con_gReachOf_i {N nb:Nat} {g:Nat→T_Bar} (hg:isGraphF ((N:Int),(nb,g),())=true) :
    zE 422 [grG g nb N,.p (.int .i64 0)] [(0,iOb (rcS N nb g).1 (rcS N nb g).2)] (.ar 1 0 0 (rcS N nb g).1):=by
  obtain ⟨h1,h2,h3⟩:=graph_in hg
  have c1:=con_IsGraph_i ((N:Int),(nb,g),()) (sm_graph (by show nb≤_;omega))
  rw [hg] at c1
  have c2:=con_hasX ((N:Int),(nb,g),()) 0 (by show 1≤(N:Int);omega) (by show (N:Int)≤8;omega)
  rw [show inB (0:Int) 0 ((((N:Int),(nb,g),()):T_Graph).1 - 1)=true by simp [inB];omega] at c2
  have c3:=con_gReach h1 h2 h3
  generalize hs:rIt g nb s00 N=s at c3
  rw [show rcS N nb g=flt s N by simp [rcS,hs]]
  generalize hR:flt s N=R
  refine csZ Tryz.func422 (fun c hc=>?_)
  have lo:∀ d i,i+d=N→zR c 422 zf44 (Q0 g nb N s i (flt s i).1 (flt s i).2) (Post c [(0,iOb R.1 R.2)] (.ar 1 0 0 R.1)):=by
    intro d
    induction d with
    | zero =>
      intro i hi
      obtain rfl:i=N:=by omega
      rw [hR]
      have hd:decide ((i:Int)<(i:Int))=false:=decide_eq_false (by omega)
      refine pkZ Tryz.func422 hc (roe g nb i s i R.1 R.2) ?_
      and_intros
      all_goals (first | exact zN | (exact hd) | (intro t ht;simp [All]))
    | succ d ih =>
      intro i hi
      have hd:decide ((i:Int)<(N:Int))=true:=decide_eq_true (by omega)
      have hrec:=ih (i+1) (by omega)
      have hn:=flt_n s i
      cases hq:s i with
      | true =>
        rw [flt_t hq] at hrec
        generalize flt s i=q at hn hrec ⊢
        refine pcZ hc (rot g nb N s i q.1 q.2) ?_ hrec
        and_intros
        all_goals (first | exact zN | (exact hd) | (exact hq) | (intro t ht;by_cases h':t<q.1<;>simp [h',cvtL,cvt,tg,tru,All]) | (simp;omega))
      | false =>
        rw [flt_f hq] at hrec
        generalize flt s i=q at hn hrec ⊢
        refine pcD hc (rof g nb N s i q.1 q.2) ?_ hrec
        and_intros
        all_goals (first | exact zN | (exact hd) | (exact hq) | (intro t ht;simp [All]) | (simp;omega))
  refine pcD hc (roz g nb N s) ?_ (lo N 0 (by omega))
  and_intros
  all_goals (first | exact zH | (exact c1) | (intros;exact c2) | (exact c2) | (exact c3) | (intro t ht;exact absurd ht (Nat.not_lt_zero _)) | (intro t ht;simp [All]))
theorem con_gReachOf_s {N nb:Nat} {g:Nat→T_Bar} (hg:isGraphF ((N:Int),(nb,g),())=true) :
    zE 418 [grG g nb N,.p (.int .i64 0)] [(0,iOb (rcS N nb g).1 (rcS N nb g).2)] (.ar 1 0 0 (rcS N nb g).1):=by
  obtain ⟨h1,h2,h3⟩:=graph_in hg
  have c1:=con_IsGraph_s ((N:Int),(nb,g),()) (sm_graph (by show nb≤_;omega))
  rw [hg] at c1
  generalize hR:rcS N nb g=R
  have hR:flt (rIt g nb s00 N) N=R:=hR
  refine csZ Tryz.func418 (fun c hc=>?_)
  have lp:∀ d i,i+d=N→zR c 418 zf20 (P2 g nb N (rIt g nb s00 N) i (flt (rIt g nb s00 N) i).1 (flt (rIt g nb s00 N) i).2) (Post c [(0,iOb R.1 R.2)] (.ar 1 0 0 R.1)):=by
    generalize rIt g nb s00 N=s at hR ⊢
    intro d
    induction d with
    | zero =>
      intro i hi
      obtain rfl:i=N:=by omega
      rw [hR]
      have hd:decide ((i:Int)<(i:Int))=false:=decide_eq_false (by omega)
      refine pkZ Tryz.func418 hc (rpe g nb i s i R.1 R.2) ?_
      and_intros
      all_goals (first | exact zN | (exact hd) | (intro t ht;simp [All]))
    | succ d ih =>
      intro i hi
      have hd:decide ((i:Int)<(N:Int))=true:=decide_eq_true (by omega)
      have hrec:=ih (i+1) (by omega)
      have hn:=flt_n s i
      cases hq:s i with
      | true =>
        rw [flt_t hq] at hrec
        generalize flt s i=q at hn hrec ⊢
        refine pcZ hc (rpt g nb N s i q.1 q.2) ?_ hrec
        and_intros
        all_goals (first | exact zN | (exact hd) | (exact hq) | (intro t ht;by_cases h':t<q.1<;>simp [h',cvtL,cvt,tg,tru,All]) | (simp;omega))
      | false =>
        rw [flt_f hq] at hrec
        generalize flt s i=q at hn hrec ⊢
        refine pcZ hc (rpf g nb N s i q.1 q.2) ?_ hrec
        and_intros
        all_goals (first | exact zN | (exact hd) | (exact hq) | (intro t ht;simp [All]) | (simp;omega))
  have li:∀ (n:Nat) (s:Nat→Bool),n<N→(zR c 418 zf22 (P0 g nb N (n+1) (rRd g s nb)) (Post c [(0,iOb R.1 R.2)] (.ar 1 0 0 R.1))) →
      ∀ d k,k+d=nb→zR c 418 zf9 (P1 g nb N n k (rRd g s k)) (Post c [(0,iOb R.1 R.2)] (.ar 1 0 0 R.1)):=by
    intro n s hnN hk d
    induction d with
    | zero =>
      intro k hkd
      obtain rfl:k=nb:=by omega
      have hd:decide ((k:Int)<(k:Int))=false:=decide_eq_false (by omega)
      refine pcD hc (rsx g k N n k _) ?_ hk
      and_intros
      all_goals (first | exact zN | (exact hd) | (intro t ht;simp [All]))
    | succ d ih =>
      intro k hkd
      have hd:decide ((k:Int)<(nb:Int))=true:=decide_eq_true (by omega)
      have hb:=h3 k (by omega)
      have hrec:=ih (k+1) (by omega)
      cases hq:(rRd g s k (g k).1.toNat||rRd g s k (g k).2.1.toNat) with
      | true =>
        rw [show rRd g s (k+1)=_ from rSt_on hq] at hrec
        have hq2:(bif rRd g s k (g k).1.toNat then true else rRd g s k (g k).2.1.toNat)=true:=by rw [← hq];cases rRd g s k (g k).1.toNat<;>rfl
        refine pcD hc (rst g nb N n k _) ?_ hrec
        and_intros
        all_goals (first | exact zH | (exact hd) | (exact hq2) | (intro t ht;simp [All];done) | (intro t ht;by_cases h1:t=(g k).2.1.toNat<;>by_cases h2:t=(g k).1.toNat<;>simp [h1,h2,cvtL,cvt,tg,tru,All]))
      | false =>
        rw [show rRd g s (k+1)=rRd g s k from rSt_off hq] at hrec
        have hq2:(bif rRd g s k (g k).1.toNat then true else rRd g s k (g k).2.1.toNat)=false:=by rw [← hq];cases rRd g s k (g k).1.toNat<;>rfl
        refine pcD hc (rsf g nb N n k _) ?_ hrec
        and_intros
        all_goals (first | exact zH | (exact hd) | (exact hq2) | (intro t ht;simp [All]))
  have lo:∀ d n,n+d=N→zR c 418 zf22 (P0 g nb N n (rIt g nb s00 n)) (Post c [(0,iOb R.1 R.2)] (.ar 1 0 0 R.1)):=by
    intro d
    induction d with
    | zero =>
      intro n hn
      obtain rfl:n=N:=by omega
      have hd:decide ((n:Int)<(n:Int))=false:=decide_eq_false (by omega)
      refine pcD hc (rsq g nb n n _) ?_ (lp n 0 (by omega))
      and_intros
      all_goals (first | exact zN | (exact hd) | (intro t ht;exact absurd ht (Nat.not_lt_zero _)) | (intro t ht;simp [All]))
    | succ d ih =>
      intro n hn
      have hd:decide ((n:Int)<(N:Int))=true:=decide_eq_true (by omega)
      refine pcD hc (rso g nb N n _) ?_ (li n (rIt g nb s00 n) (by omega) (ih (n+1) (by omega)) nb 0 (by omega))
      and_intros
      all_goals (first | exact zN | (exact hd) | (intro t ht;exact absurd ht (Nat.not_lt_zero _)) | (intro t ht;simp [All]))
  have hd:(bif bif !true then true else decide ((0:Int)<0) then true else decide ((0:Int)≥(N:Int)))=false:=by
    rw [decide_eq_false (show ¬ ((0:Int)≥(N:Int)) by omega)];rfl
  refine pcD hc (rsz g nb N) ?_ (lo N 0 (by omega))
  and_intros
  all_goals (first | exact zH | (exact c1) | (exact hd) | (intro t ht;exact absurd ht (Nat.not_lt_zero _)) | (intro t ht;by_cases h1:t=0<;>simp [h1,cvtL,cvt,tg,tru,All]))
theorem cnB_eq {N nb:Nat} {g:Nat→T_Bar} (hg:isGraphF ((N:Int),(nb,g),())=true):cnB ((N:Int),(nb,g),())=(((rcS N nb g).1:Int)==(N:Int)):=by
  unfold cnB
  rw [hg]
  rfl
theorem con_gConn_i (v:T_Graph) (hs:smS s_Graph v):zE 419 [graphA v] [] (.p (.bool (cnB v))):=by
  have c1:=con_IsGraph_i v hs
  cases hg:isGraphF v with
  | false =>
    rw [hg] at c1
    rw [show cnB v=false by unfold cnB;rw [hg];rfl]
    refine csZ Tryz.func419 (fun c hc=>?_)
    refine pkD Tryz.func419 hc (rkif v) ?_
    and_intros
    all_goals (first | exact zN | (exact c1) | (simp;done))
  | true =>
    rw [hg] at c1
    obtain ⟨N,nb,g,rfl⟩:=graph_cases v hg
    have c2:=con_gReachOf_i hg
    have hn:=flt_n (rIt g nb s00 N) N
    have hn:(rcS N nb g).1≤N:=hn
    rw [cnB_eq hg]
    generalize rcS N nb g=R at *
    refine csZ Tryz.func419 (fun c hc=>?_)
    refine pkD Tryz.func419 hc (rkit ((N:Int),(nb,g),()) R.1 R.2) ?_
    and_intros
    all_goals (first | exact zN | (exact c1) | (intros;exact c2) | (exact c2) | (simp;done))
theorem con_gConn_s (v:T_Graph) (hs:smS s_Graph v):zE 409 [graphA v] [] (.p (.bool (cnB v))):=by
  have c1:=con_IsGraph_s v hs
  cases hg:isGraphF v with
  | false =>
    rw [hg] at c1
    rw [show cnB v=false by unfold cnB;rw [hg];rfl]
    refine csZ Tryz.func409 (fun c hc=>?_)
    refine pkD Tryz.func409 hc (rksf v) ?_
    and_intros
    all_goals (first | exact zN | (exact c1) | (simp;done))
  | true =>
    rw [hg] at c1
    obtain ⟨N,nb,g,rfl⟩:=graph_cases v hg
    have c2:=con_gReachOf_s hg
    rw [cnB_eq hg]
    generalize rcS N nb g=R at *
    refine csZ Tryz.func409 (fun c hc=>?_)
    refine pkD Tryz.func409 hc (rkst ((N:Int),(nb,g),()) R.1 R.2) ?_
    and_intros
    all_goals (first | exact zN | (exact c1) | (intros;exact c2) | (exact c2) | (simp;done))
def knS (g:Nat→T_Bar) (nb N v:Nat) (K R:T_IntS) (n i:Nat):St :=
  ⟨[grG g nb N,.p (.int .i64 v),inL K,.pt 2 0 0 0,.p .any,.p .any,.p .any,.p (.int .i64 n),.ar 1 1 0 R.1,.p (.int .i64 i)]++List.replicate 18 anyA,[(0,bxG g nb N),(1,iOb R.1 R.2)],2⟩
def tzO (g:Nat→T_Bar) (nb N:Nat) (u:T_IntS) (c:Nat) (K:Nat→Int) (m:Nat) (f:Nat→Int) (n:Nat):St :=
  ⟨[grG g nb N,inL u,.pt 2 0 0 0,.p .any,.p .any,.ar 1 1 0 c,.ar 1 2 0 m,.p (.int .i64 n)]++List.replicate 42 anyA,[(0,bxG g nb N),(1,iOb c K),(2,iOb m f)],3⟩
def tzI (g:Nat→T_Bar) (nb N:Nat) (u:T_IntS) (c:Nat) (K:Nat→Int) (m:Nat) (f:Nat→Int) (n v:Nat):St :=
  ⟨[grG g nb N,inL u,.pt 2 0 0 0,.p .any,.p .any,.ar 1 1 0 c,.ar 1 2 0 m,.p (.int .i64 n),.p (.int .i64 v)]++List.replicate 41 anyA,[(0,bxG g nb N),(1,iOb c K),(2,iOb m f)],3⟩
def tiO (g:Nat→T_Bar) (nb N:Nat) (u:T_IntS) (s:Nat→Bool) (k:Nat):St :=
  ⟨[grG g nb N,inL u,.pt 2 0 0 0,.p .any,.p .any,.ar 1 1 0 0,.ar 1 2 0 N]++List.replicate 15 anyA++[inL u,.p (.int .i64 u.1),.p (.int .i64 k)]++List.replicate 51 anyA,[(0,bxG g nb N),(1,iOb 0 (fun _=>0)),(2,blOb N s)],3⟩
def tiV (g:Nat→T_Bar) (nb N:Nat) (u:T_IntS) (s:Nat→Bool) (m:Nat) (f:Nat→Int) (v:Nat):St :=
  ⟨[grG g nb N,inL u,.pt 2 0 0 0,.p .any,.p .any,.ar 1 1 0 m,.ar 1 2 0 N,.p .any,.p .any,.p (.int .i64 v)]++List.replicate 66 anyA,[(0,bxG g nb N),(1,iOb m f),(2,blOb N s)],3⟩
def tcB (g:Nat→T_Bar) (nb N:Nat) (u:T_IntS) (s:Nat→Bool) (m:Nat) (f:Nat→Int) (v n i:Nat):St :=
  ⟨[grG g nb N,inL u,.pt 2 0 0 0,.p .any,.p .any,.ar 1 1 0 m,.ar 1 2 0 N,.p .any,.p .any,.p (.int .i64 v),.p (.int .i64 n)]++List.replicate 28 anyA++[brL g nb,.p (.int .i64 nb),.p (.int .i64 i)]++List.replicate 34 anyA,[(0,bxG g nb N),(1,iOb m f),(2,blOb N s)],3⟩
theorem knz (g:Nat→T_Bar) (nb N v:Nat) (K R:T_IntS) :
    zT Tryz.f214 [rg 2,rg 1,rm [(2,oc [(0,iOb R.1 R.2)] (.ar 1 0 0 R.1))] 1,rg 1,.head] [grG g nb N,.p (.int .i64 v),inL K] [0,160] (knS g nb N v K R 0 0) =
    some (zf45,zD [(NT 0 1),zE 283 [(zf94 N nb g),.p (.int .i64 (↑v:Int))] [(0,⟨false,1,R.1,(fun i=>[.p (.int .i64 (R.2 i))])⟩)] (.ar 1 0 0 R.1),(AI ((↑N:Int))),(AN nb),(AP nb (bRw g)),(AI ((↑v:Int))),(AN K.1),(AP K.1 (iRw K)),(AN 0),((0:Int)=(↑0:Int)),(AN R.1),((([AV.p (PV.int IntKind.i64 (↑N:Int)),brL g nb].length):Nat)=2),(NL 1 1),(AN 1),(NL R.1 R.1),(AA R.1 (fun i=>[.p (.int .i64 (R.2 i))]))] [0,1,2,3,4,5,6,7,8,9,8,10,9,11,12,12,2,3,4,13,14,15]):=by kernel_rfl
theorem knt (g:Nat→T_Bar) (nb N v:Nat) (K R:T_IntS) (n i:Nat) :
    zM 0 [rg 4,.dec true,rm [(5,oc [] (.p (.bool true)))] 0,.dec true,rg 3,rg 3,.head] zf45 (knS g nb N v K R n i) [0,1] 1 (knS g nb N v K R (n+1) (i+1)) =
    some (zf45,[((decide ((↑i:Int)<(↑R.1:Int)))=true),(IL 0 (↑i:Int)),(IT (↑i:Int) (↑R.1:Int)),(NT i R.1),zE 172 [.p (.seq true 1 K.1 (iRw K)),.p (.int .i64 (R.2 i))] [] (.p (.bool true)),(true=true),(ZLo ((↑n:Int)+1)),(ZHi ((↑n:Int)+1)),(ZLo ((↑i:Int)+1)),(ZHi ((↑i:Int)+1)),(AI ((↑N:Int))),(AN nb),(AP nb (bRw g)),(AI ((↑v:Int))),(AN K.1),(AP K.1 (iRw K)),(AN 0),((((↑n:Int)+1):Int)=(↑(n+1):Int)),(AN 0),(AN R.1),((((↑i:Int)+1):Int)=(↑(i+1):Int)),(AN 2),(NL 1 1),(NL 1 1),(AI ((↑N:Int))),(AN nb),(AP nb (bRw g)),(AN 1),(NL R.1 R.1),(AA R.1 (fun i_1=>[.p (.int .i64 (R.2 i_1))]))]):=by kernel_rfl
theorem knf (g:Nat→T_Bar) (nb N v:Nat) (K R:T_IntS) (n i:Nat) :
    zM 0 [rg 4,.dec true,rm [(5,oc [] (.p (.bool false)))] 0,.dec false,rg 3,.head] zf45 (knS g nb N v K R n i) [0,1] 1 (knS g nb N v K R n (i+1)) =
    some (zf45,[((decide ((↑i:Int)<(↑R.1:Int)))=true),(IL 0 (↑i:Int)),(IT (↑i:Int) (↑R.1:Int)),(NT i R.1),zE 172 [.p (.seq true 1 K.1 (iRw K)),.p (.int .i64 (R.2 i))] [] (.p (.bool false)),(false=false),(ZLo ((↑i:Int)+1)),(ZHi ((↑i:Int)+1)),(AI ((↑N:Int))),(AN nb),(AP nb (bRw g)),(AI ((↑v:Int))),(AN K.1),(AP K.1 (iRw K)),(AN 0),(AI ((↑n:Int))),(AN 0),(AN R.1),((((↑i:Int)+1):Int)=(↑(i+1):Int)),(AN 2),(NL 1 1),(NL 1 1),(AI ((↑N:Int))),(AN nb),(AP nb (bRw g)),(AN 1),(NL R.1 R.1),(AA R.1 (fun i_1=>[.p (.int .i64 (R.2 i_1))]))]):=by kernel_rfl
theorem kne (g:Nat→T_Bar) (nb N v:Nat) (K R:T_IntS) (n i:Nat) :
    zP Tryz.f214 0 [rg 4,.dec false,rg 2] zf45 (knS g nb N v K R n i) [] 1 [] (.p (.int .i64 n)) =
    some [((decide ((↑i:Int)<(↑R.1:Int)))=false),(AI ((↑n:Int)))]:=by kernel_rfl
theorem tsz (g:Nat→T_Bar) (nb N:Nat) (u:T_IntS) :
    zT Tryz.f104 [rg 2,rg 4,rg 2,rg 1,.head] [grG g nb N,inL u] [0,128,192] (tzO g nb N u u.1 u.2 0 (fun _=>0) 0) =
    some (zf46,zD [(NL 0 0),(NL ((0+u.1)*8) 140737488355328),(NL (0+u.1) 9223372036854775807),(AI ((↑N:Int))),(AN nb),(AP nb (bRw g)),(AN u.1),(AP u.1 (iRw u)),(AN 0),(((0+u.1):Nat)=u.1),((0:Int)=(↑0:Int)),((([AV.p (PV.int IntKind.i64 (↑N:Int)),brL g nb].length):Nat)=2),(NL 1 1),(AN 1),(NL u.1 (0+u.1)),(AA u.1 (fun i=>[.p (.int .i64 (u.2 i))])),(AA 0 (fun i=>[.p (.int .i64 0)]))] [0,1,2,3,4,5,6,7,8,8,9,8,8,10,11,12,12,3,4,5,13,14,15,13,0,16]):=by kernel_rfl
theorem tsa (g:Nat→T_Bar) (nb N:Nat) (u:T_IntS) (c:Nat) (K:Nat→Int) (m:Nat) (f:Nat→Int) (n:Nat) :
    zM 0 [rm [(7,oc [] (.p (.bool true)))] 1,.dec true,rg 1,.head] zf46 (tzO g nb N u c K m f n) [0,1,2] 1 (tzI g nb N u c K m f n 0) =
    some (zf13,zD [(NT 0 1),(((decide ((↑n:Int)<(↑N:Int)))=true)→(NT 0 1)),(AG (decide ((↑n:Int)<(↑N:Int)))),(((decide ((↑n:Int)<(↑N:Int)))=true)→ zE 100 [(zf94 N nb g),.p (.seq true 1 u.1 (iRw u))] [] (.p (.bool true))),((bif decide ((↑n:Int)<(↑N:Int)) then true else false)=true),(AI ((↑N:Int))),(AN nb),(AP nb (bRw g)),(AN u.1),(AP u.1 (iRw u)),(AN 0),(AN c),(AN m),(AI ((↑n:Int))),((0:Int)=(↑0:Int)),(AN 2),(NL 1 1),(AN 1),(NL c c),(AA c (fun i=>[.p (.int .i64 (K i))])),(NL m m),(AA m (fun i=>[.p (.int .i64 (f i))]))] [0,1,2,2,3,2,4,5,6,7,8,9,10,10,11,10,12,13,14,15,16,16,5,6,7,17,18,19,17,20,21]):=by kernel_rfl
theorem tse (g:Nat→T_Bar) (nb N:Nat) (u:T_IntS) (c:Nat) (K:Nat→Int) (m:Nat) (f:Nat→Int) (n:Nat) :
    zP Tryz.f104 0 [rm [(7,oc [] (.p (.bool true)))] 1,.dec false,rg 2] zf46 (tzO g nb N u c K m f n) [2] 1 [(0,iOb m f)] (.ar 1 0 0 m) =
    some (zD [(NT 0 1),(((decide ((↑n:Int)<(↑N:Int)))=true)→(NT 0 1)),(AG (decide ((↑n:Int)<(↑N:Int)))),(((decide ((↑n:Int)<(↑N:Int)))=true)→ zE 100 [(zf94 N nb g),.p (.seq true 1 u.1 (iRw u))] [] (.p (.bool true))),((bif decide ((↑n:Int)<(↑N:Int)) then true else false)=false),(AN 0),(AN m),(AN 1),(NL m m),(AA m (fun i=>[.p (.int .i64 (f i))])),(AE m)] [0,1,2,2,3,2,4,5,6,7,8,9,10]):=by kernel_rfl
theorem tsx (g:Nat→T_Bar) (nb N:Nat) (u:T_IntS) (c:Nat) (K:Nat→Int) (m:Nat) (f:Nat→Int) (n v:Nat) :
    zM 0 [rg 4,.dec false,rg 3,.head] zf13 (tzI g nb N u c K m f n v) [0,1,2] 1 (tzO g nb N u c K m f (n+1)) =
    some (zf46,[(NT 0 1),((decide ((↑v:Int)<(↑N:Int)))=false),(ZLo ((↑n:Int)+1)),(ZHi ((↑n:Int)+1)),(AI ((↑N:Int))),(AN nb),(AP nb (bRw g)),(AN u.1),(AP u.1 (iRw u)),(AN 0),(AN 0),(AN c),(AN 0),(AN m),((((↑n:Int)+1):Int)=(↑(n+1):Int)),(AN 2),(NL 1 1),(NL 1 1),(AI ((↑N:Int))),(AN nb),(AP nb (bRw g)),(AN 1),(NL c c),(AA c (fun i=>[.p (.int .i64 (K i))])),(AN 1),(NL m m),(AA m (fun i=>[.p (.int .i64 (f i))]))]):=by kernel_rfl
theorem tsf (g:Nat→T_Bar) (nb N:Nat) (u:T_IntS) (c:Nat) (K:Nat→Int) (m:Nat) (f:Nat→Int) (n v:Nat) (b:Bool) (k:Nat) :
    zM 0 [rg 4,.dec true,rm [(2,oc [] (.p (.bool b))),(5,oc [] (.p (.int .i64 k)))] 2,.dec false,rg 3,.head] zf13 (tzI g nb N u c K m f n v) [0,1,2] 1 (tzI g nb N u c K m f n (v+1)) =
    some (zf13,zD [(NT 0 1),((decide ((↑v:Int)<(↑N:Int)))=true),(AN 1),(NL c c),zE 172 [.p (.seq true 1 c (fun i=>[.int .i64 (K i)])),.p (.int .i64 (↑v:Int))] [] (.p (.bool b)),(((!b)=true)→(NT 0 1)),(AG (!b)),(((!b)=true)→ (AN 1)),(((!b)=true)→(NL c c)),(((!b)=true)→ zE 214 [(zf94 N nb g),.p (.int .i64 (↑v:Int)),.p (.seq true 1 c (fun i=>[.int .i64 (K i)]))] [] (.p (.int .i64 (↑k:Int)))),((bif !b then decide ((↑k:Int)≥3) else false)=false),(ZLo ((↑v:Int)+1)),(ZHi ((↑v:Int)+1)),(AI ((↑N:Int))),(AN nb),(AP nb (bRw g)),(AN u.1),(AP u.1 (iRw u)),(AN 0),(AN c),(AN m),(AI ((↑n:Int))),((((↑v:Int)+1):Int)=(↑(v+1):Int)),(AN 2),(NL 1 1),(AA c (fun i=>[.p (.int .i64 (K i))])),(NL m m),(AA m (fun i=>[.p (.int .i64 (f i))]))] [0,1,2,3,4,5,6,6,6,7,8,9,6,6,10,11,12,13,14,15,16,17,18,18,19,18,20,21,22,23,24,24,13,14,15,2,3,25,2,26,27]):=by kernel_rfl
theorem tst (g:Nat→T_Bar) (nb N:Nat) (u:T_IntS) (c:Nat) (K:Nat→Int) (m:Nat) (f:Nat→Int) (n v:Nat) (b:Bool) (k:Nat) :
    zM 0 [rg 4,.dec true,rm [(2,oc [] (.p (.bool b))),(5,oc [] (.p (.int .i64 k)))] 2,.dec true,rg 5,rg 5,rg 3,.head] zf13 (tzI g nb N u c K m f n v) [0,579,739] 1 (tzO g nb N u (c+1) (fun t=>if t<c then K t else v) (m+1) (fun t=>if t<m then f t else v) (n+1)) =
    some (zf46,zD [(NT 0 1),((decide ((↑v:Int)<(↑N:Int)))=true),(AN 1),(NL c c),zE 172 [.p (.seq true 1 c (fun i=>[.int .i64 (K i)])),.p (.int .i64 (↑v:Int))] [] (.p (.bool b)),(((!b)=true)→(NT 0 1)),(AG (!b)),(((!b)=true)→ (AN 1)),(((!b)=true)→(NL c c)),(((!b)=true)→ zE 214 [(zf94 N nb g),.p (.int .i64 (↑v:Int)),.p (.seq true 1 c (fun i=>[.int .i64 (K i)]))] [] (.p (.int .i64 (↑k:Int)))),((bif !b then decide ((↑k:Int)≥3) else false)=true),(NL 1 1),(NL ((c+1)*8) 140737488355328),(NL (c+1) 9223372036854775807),(NL m m),(NL ((m+1)*8) 140737488355328),(NL (m+1) 9223372036854775807),(ZLo ((↑n:Int)+1)),(ZHi ((↑n:Int)+1)),(AI ((↑N:Int))),(AN nb),(AP nb (bRw g)),(AN u.1),(AP u.1 (iRw u)),(AN 0),(AN ((c+1))),(AN ((m+1))),((((↑n:Int)+1):Int)=(↑(n+1):Int)),(AN 2),(NL (c+1) (c+1)),(CV [(739,⟨false,1,(m+1),(fun i_1=>(if (i_1<m) then [.p (.int .i64 (f i_1))] else [.p (.int .i64 (↑v:Int))]))⟩),(707,⟨false,1,1,(fun i_1=>[.p (.int .i64 (↑v:Int))])⟩),(579,⟨false,1,(c+1),(fun i_1=>(if (i_1<c) then [.p (.int .i64 (K i_1))] else [.p (.int .i64 (↑v:Int))]))⟩),(547,⟨false,1,1,(fun i_1=>[.p (.int .i64 (↑v:Int))])⟩),(0,⟨true,2,1,(fun i_1=>[.p (.int .i64 (↑N:Int)),.p (.seq true 2 nb (bRw g))])⟩)] [0,579,739] 1 (c+1) (fun i=>if (i<c) then [.p (.int .i64 (K i))] else [.p (.int .i64 (↑v:Int))]) (fun i=>[.p (.int .i64 (if i<c then K i else (↑v:Int)))])),(NL (m+1) (m+1)),(CV [(739,⟨false,1,(m+1),(fun i_1=>(if (i_1<m) then [.p (.int .i64 (f i_1))] else [.p (.int .i64 (↑v:Int))]))⟩),(707,⟨false,1,1,(fun i_1=>[.p (.int .i64 (↑v:Int))])⟩),(579,⟨false,1,(c+1),(fun i_1=>(if (i_1<c) then [.p (.int .i64 (K i_1))] else [.p (.int .i64 (↑v:Int))]))⟩),(547,⟨false,1,1,(fun i_1=>[.p (.int .i64 (↑v:Int))])⟩),(0,⟨true,2,1,(fun i_1=>[.p (.int .i64 (↑N:Int)),.p (.seq true 2 nb (bRw g))])⟩)] [0,579,739] 1 (m+1) (fun i=>if (i<m) then [.p (.int .i64 (f i))] else [.p (.int .i64 (↑v:Int))]) (fun i=>[.p (.int .i64 (if i<m then f i else (↑v:Int)))]))] [0,1,2,3,4,5,6,6,6,7,8,9,6,6,10,11,3,12,13,11,14,15,16,17,18,19,20,21,22,23,24,24,25,24,26,27,28,11,11,19,20,21,2,29,30,2,31,32]):=by kernel_rfl
theorem tiz (g:Nat→T_Bar) (nb N:Nat) (u:T_IntS) :
    zT Tryz.f112 [rg 2,rg 2,rm [(2,oc [] (.p (.bool true)))] 1,.dec false,rg 4,rg 3,.head] [grG g nb N,inL u] [0,64,320] (tiO g nb N u (fun _=>false) 0) =
    some (zf29,zD [(NT 0 1),zE 107 [(zf94 N nb g),.p (.seq true 1 u.1 (iRw u))] [] (.p (.bool true)),((!true)=false),(IL 0 (↑N:Int)),(IL (↑N:Int) (↑N:Int)),(IL ((↑N:Int)*(↑1:Int)) 281474976710656),(ZHi (↑N:Int)),(AI ((↑N:Int))),(AN nb),(AP nb (bRw g)),(AN u.1),(AP u.1 (iRw u)),(AN 0),(AN N),(AI ((↑u.1:Int))),((0:Int)=(↑0:Int)),((([AV.p (PV.int IntKind.i64 (↑N:Int)),brL g nb].length):Nat)=2),(NL 1 1),(AN 1),(NL 0 0),(AA 0 (fun i=>[.p (.int .i64 0)])),(NL N N),(AA N (fun i=>[.p (.bool false)]))] [0,1,2,0,3,4,5,6,7,8,9,10,11,12,12,12,12,13,10,11,14,15,16,17,17,7,8,9,18,19,20,18,21,22]):=by kernel_rfl
theorem tim (g:Nat→T_Bar) (nb N:Nat) (u:T_IntS) (s:Nat→Bool) (k:Nat) :
    zM 0 [rg 1,.dec true,rg 3,rg 4,rg 2,.head] zf29 (tiO g nb N u s k) [0,1,2] 1 (tiO g nb N u (fun t=>if t=(u.2 k).toNat then true else s t) (k+1)) =
    some (zf29,zD [((decide ((↑k:Int)<(↑u.1:Int)))=true),(IL 0 (↑k:Int)),(IT (↑k:Int) (↑u.1:Int)),(IL 0 (u.2 k)),(IT (u.2 k) (↑N:Int)),(NT ((u.2 k).toNat) N),((false=true)→ ((N:Nat)=1)),(ZLo ((↑k:Int)+1)),(ZHi ((↑k:Int)+1)),(AI ((↑N:Int))),(AN nb),(AP nb (bRw g)),(AN u.1),(AP u.1 (iRw u)),(AN 0),(AN N),(AI ((↑u.1:Int))),((((↑k:Int)+1):Int)=(↑(k+1):Int)),(AN 2),(NL 1 1),(AN 1),(NL 0 0),(AA 0 (fun i=>[.p (.int .i64 0)])),(NL N N),(CV [(2,⟨false,1,N,(fun i_1=>(if (i_1=(u.2 k).toNat) then [.p (.bool true)] else [.p (.bool (s i_1))]))⟩),(0,⟨true,2,1,(fun i_1=>[.p (.int .i64 (↑N:Int)),.p (.seq true 2 nb (bRw g))])⟩),(1,⟨false,1,0,(fun i_1=>[.p (.int .i64 0)])⟩)] [0,1,2] 1 N (fun i=>if (i=(u.2 k).toNat) then [.p (.bool true)] else [.p (.bool (s i))]) (fun i=>[.p (.bool (if i=(u.2 k).toNat then true else s i))]))] [0,1,2,3,4,5,6,7,8,9,10,11,12,13,14,14,14,14,15,12,13,16,17,18,19,19,9,10,11,20,21,22,20,23,24]):=by kernel_rfl
theorem tia (g:Nat→T_Bar) (nb N:Nat) (u:T_IntS) (s:Nat→Bool) (k:Nat) :
    zM 0 [rg 1,.dec false,rg 1,.head] zf29 (tiO g nb N u s k) [0,1,2] 1 (tiV g nb N u s 0 (fun _=>0) 0) =
    some (zf23,zD [((decide ((↑k:Int)<(↑u.1:Int)))=false),(AI ((↑N:Int))),(AN nb),(AP nb (bRw g)),(AN u.1),(AP u.1 (iRw u)),(AN 0),(AN N),((0:Int)=(↑0:Int)),(AN 2),(NL 1 1),(AN 1),(NL 0 0),(AA 0 (fun i=>[.p (.int .i64 0)])),(NL N N),(AA N (fun i=>[.p (.bool (s i))]))] [0,1,2,3,4,5,6,6,6,6,7,8,9,10,10,1,2,3,11,12,13,11,14,15]):=by kernel_rfl
theorem tib (g:Nat→T_Bar) (nb N:Nat) (u:T_IntS) (s:Nat→Bool) (m:Nat) (f:Nat→Int) (v:Nat) :
    zM 0 [rg 4,.dec true,rg 1,rg 4,.head] zf23 (tiV g nb N u s m f v) [0,1,2] 1 (tcB g nb N u s m f v 0 0) =
    some (zf4,zD [(NT 0 1),((decide ((↑v:Int)<(↑N:Int)))=true),(AI ((↑N:Int))),(AN nb),(AP nb (bRw g)),(AN u.1),(AP u.1 (iRw u)),(AN 0),(AN m),(AN N),(AI ((↑v:Int))),((0:Int)=(↑0:Int)),(AI ((↑nb:Int))),(AN 2),(NL 1 1),(AN 1),(NL m m),(AA m (fun i=>[.p (.int .i64 (f i))])),(NL N N),(AA N (fun i=>[.p (.bool (s i))]))] [0,1,0,2,3,4,5,6,7,7,8,7,9,10,11,3,4,12,11,13,14,14,2,3,4,15,16,17,15,18,19]):=by kernel_rfl
theorem tie (g:Nat→T_Bar) (nb N:Nat) (u:T_IntS) (s:Nat→Bool) (m:Nat) (f:Nat→Int) (v:Nat) :
    zP Tryz.f112 0 [rg 4,.dec false,rg 2] zf23 (tiV g nb N u s m f v) [1] 1 [(0,iOb m f)] (.ar 1 0 0 m) =
    some [(NT 0 1),((decide ((↑v:Int)<(↑N:Int)))=false),(AN 0),(AN m),(AN 1),(NL m m),(AA m (fun i=>[.p (.int .i64 (f i))])),(AE m)]:=by kernel_rfl
theorem tit (g:Nat→T_Bar) (nb N:Nat) (u:T_IntS) (s:Nat→Bool) (m:Nat) (f:Nat→Int) (v n i:Nat) (b:Bool) (o:Int) :
    zM 0 [rg 1,.dec true,rg 4,rm [(2,oc [] (.p (.bool b))),(4,oc [] (.p (.int .i64 o)))] 3,.dec true,rg 3,rg 2,.head] zf4 (tcB g nb N u s m f v n i) [0,1,2] 1 (tcB g nb N u s m f v (n+1) (i+1)) =
    some (zf4,[((decide ((↑i:Int)<(↑nb:Int)))=true),(IL 0 (↑i:Int)),(IT (↑i:Int) (↑nb:Int)),(NT 0 1),((true=true)→ (AN 1)),(NT 0 1),zE 222 [.agg [.p (.int .i64 ((g i).1)),.p (.int .i64 ((g i).2.1))],.p (.int .i64 (↑v:Int))] [] (.p (.bool b)),((b=true)→(NT 0 1)),(AG b),(AG b),((b=true)→ zE 223 [.agg [.p (.int .i64 ((g i).1)),.p (.int .i64 ((g i).2.1))],.p (.int .i64 (↑v:Int))] [] (.p (.int .i64 o))),(AG b),(AG b),((b=true)→(IL 0 o)),((b=true)→(IT o (↑N:Int))),(AG b),((b=true)→(NT o.toNat N)),(AG b),((bif b then s o.toNat else false)=true),(ZLo ((↑n:Int)+1)),(ZHi ((↑n:Int)+1)),(ZLo ((↑i:Int)+1)),(ZHi ((↑i:Int)+1)),(AI ((↑N:Int))),(AN nb),(AP nb (bRw g)),(AN u.1),(AP u.1 (iRw u)),(AN 0),(AN 0),(AN m),(AN 0),(AN N),(AI ((↑v:Int))),((((↑n:Int)+1):Int)=(↑(n+1):Int)),(AN nb),(AP nb (bRw g)),(AI ((↑nb:Int))),((((↑i:Int)+1):Int)=(↑(i+1):Int)),(AN 2),(NL 1 1),(NL 1 1),(AI ((↑N:Int))),(AN nb),(AP nb (bRw g)),(AN 1),(NL m m),(AA m (fun i_1=>[.p (.int .i64 (f i_1))])),(AN 1),(NL N N),(AA N (fun i_1=>[.p (.bool (s i_1))]))]):=by kernel_rfl
theorem tif (g:Nat→T_Bar) (nb N:Nat) (u:T_IntS) (s:Nat→Bool) (m:Nat) (f:Nat→Int) (v n i:Nat) (b:Bool) (o:Int) :
    zM 0 [rg 1,.dec true,rg 4,rm [(2,oc [] (.p (.bool b))),(4,oc [] (.p (.int .i64 o)))] 3,.dec false,rg 2,.head] zf4 (tcB g nb N u s m f v n i) [0,1,2] 1 (tcB g nb N u s m f v n (i+1)) =
    some (zf4,[((decide ((↑i:Int)<(↑nb:Int)))=true),(IL 0 (↑i:Int)),(IT (↑i:Int) (↑nb:Int)),(NT 0 1),((true=true)→ (AN 1)),(NT 0 1),zE 222 [.agg [.p (.int .i64 ((g i).1)),.p (.int .i64 ((g i).2.1))],.p (.int .i64 (↑v:Int))] [] (.p (.bool b)),((b=true)→(NT 0 1)),(AG b),(AG b),((b=true)→ zE 223 [.agg [.p (.int .i64 ((g i).1)),.p (.int .i64 ((g i).2.1))],.p (.int .i64 (↑v:Int))] [] (.p (.int .i64 o))),(AG b),(AG b),((b=true)→(IL 0 o)),((b=true)→(IT o (↑N:Int))),(AG b),((b=true)→(NT o.toNat N)),(AG b),((bif b then s o.toNat else false)=false),(ZLo ((↑i:Int)+1)),(ZHi ((↑i:Int)+1)),(AI ((↑N:Int))),(AN nb),(AP nb (bRw g)),(AN u.1),(AP u.1 (iRw u)),(AN 0),(AN 0),(AN m),(AN 0),(AN N),(AI ((↑v:Int))),(AI ((↑n:Int))),(AN nb),(AP nb (bRw g)),(AI ((↑nb:Int))),((((↑i:Int)+1):Int)=(↑(i+1):Int)),(AN 2),(NL 1 1),(NL 1 1),(AI ((↑N:Int))),(AN nb),(AP nb (bRw g)),(AN 1),(NL m m),(AA m (fun i_1=>[.p (.int .i64 (f i_1))])),(AN 1),(NL N N),(AA N (fun i_1=>[.p (.bool (s i_1))]))]):=by kernel_rfl
theorem tix (g:Nat→T_Bar) (nb N:Nat) (u:T_IntS) (s:Nat→Bool) (m:Nat) (f:Nat→Int) (v n i:Nat) :
    zM 0 [rg 1,.dec false,rg 9,.dec false,rg 3,.head] zf4 (tcB g nb N u s m f v n i) [0,1,2] 1 (tiV g nb N u s m f (v+1)) =
    some (zf23,[((decide ((↑i:Int)<(↑nb:Int)))=false),(IL 0 (↑v:Int)),(IT (↑v:Int) (↑N:Int)),(NT v N),(AG (!s v)),(AG (!s v)),((bif !s v then decide ((↑n:Int)≥3) else false)=false),(ZLo ((↑v:Int)+1)),(ZHi ((↑v:Int)+1)),(AI ((↑N:Int))),(AN nb),(AP nb (bRw g)),(AN u.1),(AP u.1 (iRw u)),(AN 0),(AN 0),(AN m),(AN 0),(AN N),((((↑v:Int)+1):Int)=(↑(v+1):Int)),(AN 2),(NL 1 1),(NL 1 1),(AI ((↑N:Int))),(AN nb),(AP nb (bRw g)),(AN 1),(NL m m),(AA m (fun i_1=>[.p (.int .i64 (f i_1))])),(AN 1),(NL N N),(AA N (fun i_1=>[.p (.bool (s i_1))]))]):=by kernel_rfl
theorem tiy (g:Nat→T_Bar) (nb N:Nat) (u:T_IntS) (s:Nat→Bool) (m:Nat) (f:Nat→Int) (v n i:Nat) :
    zM 0 [rg 1,.dec false,rg 9,.dec true,rg 4,rg 5,rg 1,rg 3,.head] zf4 (tcB g nb N u s m f v n i) [0,547,2] 1 (tiV g nb N u (fun t=>if t=v then true else s t) (m+1) (fun t=>if t<m then f t else v) 0) =
    some (zf23,zD [((decide ((↑i:Int)<(↑nb:Int)))=false),(IL 0 (↑v:Int)),(IT (↑v:Int) (↑N:Int)),(NT v N),(AG (!s v)),((bif !s v then decide ((↑n:Int)≥3) else false)=true),((false=true)→ ((N:Nat)=1)),(NL 1 1),(NL m m),(NL ((m+1)*8) 140737488355328),(NL (m+1) 9223372036854775807),(ZLo (-1+1)),(ZHi (-1+1)),(AI ((↑N:Int))),(AN nb),(AP nb (bRw g)),(AN u.1),(AP u.1 (iRw u)),(AN 0),(AN ((m+1))),(AN N),(((-1+1):Int)=(↑0:Int)),(AN 2),(AN 1),(NL (m+1) (m+1)),(CV [(547,⟨false,1,(m+1),(fun i_2=>(if (i_2<m) then [.p (.int .i64 (f i_2))] else [.p (.int .i64 (↑v:Int))]))⟩),(515,⟨false,1,1,(fun i_2=>[.p (.int .i64 (↑v:Int))])⟩),(2,⟨false,1,N,(fun i_2=>(if (i_2=v) then [.p (.bool true)] else [.p (.bool (s i_2))]))⟩),(0,⟨true,2,1,(fun i_2=>[.p (.int .i64 (↑N:Int)),.p (.seq true 2 nb (bRw g))])⟩)] [0,547,2] 1 (m+1) (fun i_1=>if (i_1<m) then [.p (.int .i64 (f i_1))] else [.p (.int .i64 (↑v:Int))]) (fun i_1=>[.p (.int .i64 (if i_1<m then f i_1 else (↑v:Int)))])),(NL N N),(CV [(547,⟨false,1,(m+1),(fun i_2=>(if (i_2<m) then [.p (.int .i64 (f i_2))] else [.p (.int .i64 (↑v:Int))]))⟩),(515,⟨false,1,1,(fun i_2=>[.p (.int .i64 (↑v:Int))])⟩),(2,⟨false,1,N,(fun i_2=>(if (i_2=v) then [.p (.bool true)] else [.p (.bool (s i_2))]))⟩),(0,⟨true,2,1,(fun i_2=>[.p (.int .i64 (↑N:Int)),.p (.seq true 2 nb (bRw g))])⟩)] [0,547,2] 1 N (fun i_1=>if (i_1=v) then [.p (.bool true)] else [.p (.bool (s i_1))]) (fun i_1=>[.p (.bool (if i_1=v then true else s i_1))]))] [0,1,2,3,4,4,5,1,2,3,6,7,8,9,10,11,12,13,14,15,16,17,18,18,19,18,20,21,22,7,7,13,14,15,23,24,25,23,26,27]):=by kernel_rfl
def mk1 (s:Nat→Bool) (v:Nat):Nat→Bool:=fun t=>if t=v then true else s t
def ckP (g:Nat→T_Bar) (p:Int→Bool) (v:Int):Nat→Nat
  | 0=>0
  | k+1=>if (bif hasV (g k) v then p (othF (g k) v) else false)=true then ckP g p v k+1 else ckP g p v k
def cdB (g:Nat→T_Bar) (nb:Nat) (s:Nat→Bool) (v:Nat):Bool:=bif !s v then decide (((ckP g (fun x=>s x.toNat) v nb:Nat):Int)≥3) else false
def fR (P:Nat→Bool):Nat→Nat→Option Nat
  | _,0=>none
  | v,d+1=>if P v=true then some v else fR P (v+1) d
def stT (g:Nat→T_Bar) (nb N:Nat) (q:(Nat→Bool)×T_IntS):(Nat→Bool)×T_IntS :=
  match fR (cdB g nb q.1) 0 N with
  | none=>q
  | some v=>(mk1 q.1 v,(q.2.1+1,fun t=>if t<q.2.1 then q.2.2 t else v))
def itT (g:Nat→T_Bar) (nb N:Nat):Nat→(Nat→Bool)×T_IntS→(Nat→Bool)×T_IntS
  | 0,q=>q
  | d+1,q=>itT g nb N d (stT g nb N q)
def mkS (u:T_IntS):Nat→(Nat→Bool)
  | 0=>fun _=>false
  | k+1=>mk1 (mkS u k) (u.2 k).toNat
def trF (g:Nat→T_Bar) (nb N:Nat) (u:T_IntS):T_IntS:=(itT g nb N N (mkS u u.1,(0,fun _=>0))).2
def umN (s:Nat→Bool):Nat→Nat
  | 0=>0
  | t+1=>if s t=true then umN s t else umN s t+1
theorem umN_le (s:Nat→Bool):∀ n,umN s n≤n
  | 0=>Nat.le_refl _
  | n+1=>by have:=umN_le s n;simp only [umN];split<;>omega
theorem umN_0 (s:Nat→Bool):∀ n,umN s n=0→∀ t,t<n→s t=true
  | 0,_,t,h=>absurd h (Nat.not_lt_zero _)
  | n+1,h,t,ht=>by
    simp only [umN] at h
    by_cases hs:s n=true
    · rw [if_pos hs] at h
      by_cases e:t=n
      · rw [e];exact hs
      · exact umN_0 s n h t (by omega)
    · rw [if_neg hs] at h;omega
theorem umN_out (s:Nat→Bool) (v:Nat):∀ n,n≤v→umN (mk1 s v) n=umN s n
  | 0,_=>rfl
  | n+1,h=>by
    have e:mk1 s v n=s n:=if_neg (by omega)
    simp only [umN,e,umN_out s v n (by omega)]
theorem umN_mk {s:Nat→Bool} {v:Nat} (hv:s v=false):∀ n,v<n→umN (mk1 s v) n+1=umN s n
  | 0,h=>absurd h (Nat.not_lt_zero _)
  | n+1,h=>by
    by_cases e:v=n
    · subst e
      have e1:mk1 s v v=true:=if_pos rfl
      have e2:=umN_out s v v (Nat.le_refl _)
      simp only [umN,e1,hv,if_true,Bool.false_eq_true,if_false,e2]
    · have e1:mk1 s v n=s n:=if_neg (by omega)
      have e2:=umN_mk hv n (by omega)
      simp only [umN,e1]
      split<;>omega
theorem fR_lt {P:Nat→Bool}:∀ {d v w:Nat},fR P v d=some w→v≤w∧w<v+d∧P w=true
  | 0,v,w,h=>by cases h
  | d+1,v,w,h=>by
    simp only [fR] at h
    by_cases hp:P v=true
    · rw [if_pos hp] at h
      obtain rfl:v=w:=by injection h
      exact ⟨Nat.le_refl _,by omega,hp⟩
    · rw [if_neg hp] at h
      have:=fR_lt h
      exact ⟨by omega,by omega,this.2.2⟩
theorem cdB_s {g:Nat→T_Bar} {nb:Nat} {s:Nat→Bool} {v:Nat} (h:cdB g nb s v=true):s v=false:=by
  unfold cdB at h
  cases hs:s v with
  | false=>rfl
  | true=>rw [hs] at h;exact absurd h (by simp)
theorem stT_none {g:Nat→T_Bar} {nb N:Nat} {q:(Nat→Bool)×T_IntS} (h:fR (cdB g nb q.1) 0 N=none):stT g nb N q=q:=by
  unfold stT;rw [h]
theorem stT_some {g:Nat→T_Bar} {nb N:Nat} {q:(Nat→Bool)×T_IntS} {v:Nat} (h:fR (cdB g nb q.1) 0 N=some v):stT g nb N q=(mk1 q.1 v,(q.2.1+1,fun t=>if t<q.2.1 then q.2.2 t else v)):=by
  unfold stT;rw [h]
theorem itT_none {g:Nat→T_Bar} {nb N:Nat} {q:(Nat→Bool)×T_IntS} (h:fR (cdB g nb q.1) 0 N=none):∀ d,itT g nb N d q=q
  | 0=>rfl
  | d+1=>by rw [itT,stT_none h];exact itT_none h d
theorem ckP_le (g:Nat→T_Bar) (p:Int→Bool) (v:Int):∀ k,ckP g p v k≤k
  | 0=>Nat.le_refl _
  | k+1=>by have:=ckP_le g p v k;simp only [ckP];split<;>omega
theorem ckP_congr {g:Nat→T_Bar} {p q:Int→Bool} {v:Int} {N:Nat} (hpq:∀ x:Int,0≤x→x<N→p x=q x):∀ k,(∀ i,i<k→0≤othF (g i) v∧othF (g i) v<N)→ckP g p v k=ckP g q v k
  | 0,_=>rfl
  | k+1,h=>by
    have:=h k (by omega)
    simp only [ckP,ckP_congr hpq k (fun i hi=>h i (by omega)),hpq _ this.1 this.2]
def cLn (p:Int→Bool) (f:Nat→Int):Nat→Nat
  | 0=>0
  | j+1=>if p (f j)=true then cLn p f j+1 else cLn p f j
theorem cLn_congr {p:Int→Bool} {f h:Nat→Int}:∀ j,(∀ i,i<j→f i=h i)→cLn p f j=cLn p h j
  | 0,_=>rfl
  | j+1,e=>by simp only [cLn,cLn_congr j (fun i hi=>e i (by omega)),e j (by omega)]
theorem cLn_le (p:Int→Bool) (f:Nat→Int):∀ j,cLn p f j≤j
  | 0=>Nat.le_refl _
  | j+1=>by have:=cLn_le p f j;simp only [cLn];split<;>omega
theorem cLn_nr (g:Nat→T_Bar) (p:Int→Bool) (v:Int):∀ k,cLn p (nrD g v k).2 (nrD g v k).1=ckP g p v k
  | 0=>rfl
  | k+1=>by
    have ih:=cLn_nr g p v k
    cases hh:hasV (g k) v with
    | false =>
      rw [show nrD g v (k+1)=nrD g v k by simp [nrD,hh],ih]
      simp [ckP,hh]
    | true =>
      rw [show nrD g v (k+1)=((nrD g v k).1+1,fun s=>if s<(nrD g v k).1 then (nrD g v k).2 s else othF (g k) v) by simp [nrD,hh]]
      generalize nrD g v k=R at ih ⊢
      show cLn p (fun s=>if s<R.1 then R.2 s else othF (g k) v) (R.1+1)=_
      simp only [cLn,ckP,hh,cond_true,Nat.lt_irrefl,if_false]
      rw [cLn_congr (h:=R.2) R.1 (fun i hi=>by simp [hi]),ih]
theorem hasI_snoc (K:Nat→Int) (c:Nat) (v x:Int):hasI (fun t=>if t<c then K t else v) x (c+1)=(hasI K x c||v==x):=by
  have e:∀ n,n≤c→hasI (fun t=>if t<c then K t else v) x n=hasI K x n:=by
    intro n
    induction n with
    | zero=>intro _;rfl
    | succ n ih =>
      intro h
      simp only [hasI]
      rw [ih (by omega),if_pos (by omega)]
  show (hasI (fun t=>if t<c then K t else v) x c||(if c<c then K c else v)==x)=_
  rw [e c (Nat.le_refl _),if_neg (Nat.lt_irrefl _)]
theorem goodP_in {N:Int} {g:Nat→Int}:∀ {n:Nat},goodP N g n=true→∀ i,i<n→0≤g i∧g i<N∧∀ j,j<i→g j<g i
  | 0,_,i,hi=>absurd hi (Nat.not_lt_zero _)
  | n+1,h,i,hi=>by
    simp only [goodP,Bool.and_eq_true,Bool.not_eq_true'] at h
    by_cases e:i=n
    · subst e
      have hb:=h.2
      unfold badP at hb
      have h1:¬ (g i<0):=by intro hh;simp [hh] at hb
      have h2:¬ (g i≥N):=by intro hh;simp [h1,hh] at hb
      refine ⟨by omega,by omega,fun j hj=>?_⟩
      have h3:¬ (g ((i:Int) - 1).toNat≥g i):=by
        intro hh
        rw [decide_eq_false h1,decide_eq_false h2,decide_eq_true hh,decide_eq_true (show (i:Int)>0 by omega)] at hb
        cases hb
      rw [show ((i:Int) - 1).toNat=i - 1 by omega] at h3
      by_cases e2:j=i - 1
      · rw [e2];omega
      · have:=(goodP_in h.1 (i - 1) (by omega)).2.2 j (by omega)
        omega
    · exact goodP_in h.1 i (by omega)
theorem anF_in {N nb:Nat} {g:Nat→T_Bar} {u:T_IntS} (h:anF ((N:Int),(nb,g),()) u=true) :
    isGraphF ((N:Int),(nb,g),())=true∧u.1≤N∧∀ i,i<u.1→0≤u.2 i∧u.2 i<N∧∀ j,j<i→u.2 j<u.2 i:=by
  unfold anF at h
  rw [Bool.and_eq_true] at h
  have h2:=h.2
  unfold simpleF at h2
  rw [Bool.and_eq_true] at h2
  have hin:=goodP_in h.1
  refine ⟨h2.2,?_,hin⟩
  have key:∀ i,i<u.1→(i:Int)≤u.2 i:=by
    intro i
    induction i with
    | zero=>intro hi;exact (hin 0 hi).1
    | succ i ih =>
      intro hi
      have:=ih (by omega)
      have:=(hin (i+1) hi).2.2 i (by omega)
      omega
  rcases Nat.eq_zero_or_pos u.1 with h0 | h0
  · omega
  · have h1:=key (u.1 - 1) (by omega)
    have h2:u.2 (u.1 - 1)<(N:Int):=(hin (u.1 - 1) (by omega)).2.1
    omega
theorem con_Known {N nb:Nat} {g:Nat→T_Bar} (hok:OkBars N nb g) (hN:N≤8) (hnb:nb≤24) (v:Nat) (hv:v≤8) (K:T_IntS) (hK:K.1≤1048576) :
    zE 214 [grG g nb N,.p (.int .i64 v),inL K] [] (.p (.int .i64 (ckP g (fun x=>hasI K.2 x K.1) v nb))):=by
  have c1:=con_Near hok hN hnb v hv
  have hn:=nrD_n g v nb
  rw [← cLn_nr]
  generalize nrD g v nb=R at c1 hn ⊢
  refine csZ Tryz.func214 (fun c hc=>?_)
  have lo:∀ d i,i+d=R.1→zR c 214 zf45 (knS g nb N v K R (cLn (fun x=>hasI K.2 x K.1) R.2 i) i) (Post c [] (.p (.int .i64 (cLn (fun x=>hasI K.2 x K.1) R.2 R.1)))):=by
    intro d
    induction d with
    | zero =>
      intro i hi
      have hd:decide ((i:Int)<(R.1:Int))=false:=decide_eq_false (by omega)
      rw [show R.1=i by omega] at hd ⊢
      refine pkZ Tryz.func214 hc (kne g nb N v K R _ i) ?_
      and_intros
      all_goals (first | exact zN | (rw [show R.1=i by omega];exact hd) | (exact hd))
    | succ d ih =>
      intro i hi
      have hd:decide ((i:Int)<(R.1:Int))=true:=decide_eq_true (by omega)
      have hrec:=ih (i+1) (by omega)
      have hl:=cLn_le (fun x=>hasI K.2 x K.1) R.2 i
      have ch:=con_l2Has K (R.2 i) hK
      cases hh:hasI K.2 (R.2 i) K.1 with
      | true =>
        rw [hh] at ch
        rw [show cLn (fun x=>hasI K.2 x K.1) R.2 (i+1)=cLn (fun x=>hasI K.2 x K.1) R.2 i+1 by simp [cLn,hh]] at hrec
        refine pcZ hc (knt g nb N v K R _ i) ?_ hrec
        and_intros
        all_goals (first | exact zN | (exact hd) | (exact ch) | (intro t ht;simp [All];done) | (simp;omega))
      | false =>
        rw [hh] at ch
        rw [show cLn (fun x=>hasI K.2 x K.1) R.2 (i+1)=cLn (fun x=>hasI K.2 x K.1) R.2 i by simp [cLn,hh]] at hrec
        refine pcZ hc (knf g nb N v K R _ i) ?_ hrec
        and_intros
        all_goals (first | exact zN | (exact hd) | (exact ch) | (intro t ht;simp [All];done) | (simp;omega))
  refine pcD hc (knz g nb N v K R) ?_ (lo R.1 0 (by omega))
  and_intros
  all_goals (first | exact zN | (exact c1) | (intro t ht;simp [All];done) | (simp;omega))
theorem con_Tri_s {N nb:Nat} {g:Nat→T_Bar} {u:T_IntS} (hA:anF ((N:Int),(nb,g),()) u=true) :
    zE 104 [grG g nb N,inL u] [(0,iOb (trF g nb N u).1 (trF g nb N u).2)] (.ar 1 0 0 (trF g nb N u).1):=by
  obtain ⟨hg,hu,hin⟩:=anF_in hA
  obtain ⟨h1,h2,hok⟩:=graph_in hg
  have ca:zE 100 [grG g nb N,inL u] [] (.p (.bool true)):=by
    have:=con_Anch_s ((N:Int),(nb,g),()) (sm_graph (by show nb≤_;omega)) u (by omega)
    rw [hA] at this;exact this
  refine csZ Tryz.func104 (fun c hc=>?_)
  generalize hX:trF g nb N u=X
  have hoth:∀ v:Int,∀ i,i<nb→0≤othF (g i) v∧othF (g i) v<N:=fun v i hi=>by
    have:=hok i hi
    unfold othF
    split<;>omega
  have go:∀ d n (q:(Nat→Bool)×T_IntS) (ck:Nat) (K:Nat→Int),n+d=N→(∀ t:Nat,t<N→hasI K t ck=q.1 t)→ck≤8+n→q.2.1≤n→(itT g nb N d q).2=X →
      zR c 104 zf46 (tzO g nb N u ck K q.2.1 q.2.2 n) (Post c [(0,iOb X.1 X.2)] (.ar 1 0 0 X.1)):=by
    intro d
    induction d with
    | zero =>
      intro n q ck K hn hr hb1 hb2 hq
      have hq:q.2=X:=hq
      have hd:(bif decide ((n:Int)<(N:Int)) then true else false)=false:=by rw [decide_eq_false (show ¬ ((n:Int)<(N:Int)) by omega)];rfl
      rw [hq]
      refine pkD Tryz.func104 hc (tse g nb N u ck K X.1 X.2 n) ?_
      and_intros
      all_goals (first | exact zI | (exact hd) | (intros;exact ca) | (intro t ht;simp [All]))
    | succ d ih =>
      intro n q ck K hn hr hb1 hb2 hq
      have hd:(bif decide ((n:Int)<(N:Int)) then true else false)=true:=by rw [decide_eq_true (show ((n:Int)<(N:Int)) by omega)];rfl
      have li:∀ e v,v+e=N→fR (cdB g nb q.1) v e=fR (cdB g nb q.1) 0 N →
          zR c 104 zf13 (tzI g nb N u ck K q.2.1 q.2.2 n v) (Post c [(0,iOb X.1 X.2)] (.ar 1 0 0 X.1)):=by
        intro e
        induction e with
        | zero =>
          intro v hv hf
          have hdv:decide ((v:Int)<(N:Int))=false:=decide_eq_false (by omega)
          have hrec:=ih (n+1) q ck K (by omega) hr (by omega) (by omega) (by rw [itT,stT_none hf.symm] at hq;exact hq)
          refine pcZ hc (tsx g nb N u ck K q.2.1 q.2.2 n v) ?_ hrec
          and_intros
          all_goals (first | exact zN | (exact hdv) | (intro t ht;simp [All];done) | (simp;omega))
        | succ e ihe =>
          intro v hv hf
          have hdv:decide ((v:Int)<(N:Int))=true:=decide_eq_true (by omega)
          have c2:=con_l2Has (ck,K) (v:Int) (by show ck≤_;omega)
          have c3:=con_Known hok h1.2 h2 v (by omega) (ck,K) (by show ck≤_;omega)
          have e1:ckP g (fun x=>hasI (ck,K).2 x (ck,K).1) v nb=ckP g (fun x=>q.1 x.toNat) v nb:=by
            refine ckP_congr (N:=N) (fun x hx0 hxN=>?_) nb (hoth v)
            have:=hr x.toNat (by omega)
            rw [Int.toNat_of_nonneg hx0] at this
            exact this
          rw [e1] at c3
          have e2:hasI (ck,K).2 (v:Int) (ck,K).1=q.1 v:=hr v (by omega)
          rw [e2] at c2
          cases hc1:cdB g nb q.1 v with
          | true =>
            have hc1':=hc1
            unfold cdB at hc1'
            have hsome:fR (cdB g nb q.1) 0 N=some v:=by rw [← hf];simp only [fR];rw [if_pos hc1]
            have hst:=stT_some hsome
            have hrec:=ih (n+1) (stT g nb N q) (ck+1) (fun t=>if t<ck then K t else v) (by omega) (by
              intro t ht
              rw [hst,hasI_snoc,hr t ht]
              show _=(if t=v then true else q.1 t)
              by_cases htv:t=v
              · rw [if_pos htv,htv];simp
              · rw [if_neg htv,beq_eq_false_iff_ne.2 (show (v:Int)≠(t:Int) by omega),Bool.or_false]) (by omega) (by rw [hst];show q.2.1+1≤n+1;omega) hq
            rw [hst] at hrec
            refine pcD hc (tst g nb N u ck K q.2.1 q.2.2 n v (q.1 v) (ckP g (fun x=>q.1 x.toNat) v nb)) ?_ hrec
            and_intros
            all_goals (first | exact zI | (exact hdv) | (exact c2) | (intros;exact c3) | (exact hc1') | (intro t ht;by_cases h':t<ck<;>(simp [h',cvtL,cvt,tg,tru,All];done)) | (intro t ht;by_cases h':t<q.2.1<;>(simp [h',cvtL,cvt,tg,tru,All];done)) | (intro t ht;simp [All];done) | (simp;omega))
          | false =>
            have hc1':=hc1
            unfold cdB at hc1'
            have hrec:=ihe (v+1) (by omega) (by rw [← hf];simp only [fR];rw [if_neg (by rw [hc1];exact Bool.false_ne_true)])
            refine pcD hc (tsf g nb N u ck K q.2.1 q.2.2 n v (q.1 v) (ckP g (fun x=>q.1 x.toNat) v nb)) ?_ hrec
            and_intros
            all_goals (first | exact zI | (exact hdv) | (exact c2) | (intros;exact c3) | (exact hc1') | (intro t ht;simp [All];done) | (simp;omega))
      refine pcD hc (tsa g nb N u ck K q.2.1 q.2.2 n) ?_ (li N 0 (by omega) rfl)
      and_intros
      all_goals (first | exact zI | (exact hd) | (intros;exact ca) | (intro t ht;simp [All];done))
  have hk0:∀ k,k≤u.1→∀ t:Nat,t<N→hasI u.2 t k=mkS u k t:=by
    intro k
    induction k with
    | zero=>intro _ t _;rfl
    | succ k ih =>
      intro hk t ht
      have h0:=(hin k (by omega)).1
      simp only [hasI,mkS,mk1]
      rw [ih (by omega) t ht]
      by_cases e:t=(u.2 k).toNat
      · rw [if_pos e,beq_iff_eq.2 (show u.2 k=(t:Int) by omega),Bool.or_true]
      · rw [if_neg e,beq_eq_false_iff_ne.2 (show u.2 k≠(t:Int) by omega),Bool.or_false]
  refine pcD hc (tsz g nb N u) ?_ (go N 0 (mkS u u.1,(0,fun _=>0)) u.1 u.2 (by omega) (hk0 u.1 (Nat.le_refl _)) (by omega) (Nat.le_refl _) hX)
  and_intros
  all_goals (first | exact zN | (intro t ht;exact absurd ht (Nat.not_lt_zero _)) | (intro t ht;simp [cvtL,cvt,tg,tru,All];done) | (simp;done) | (simp;omega))
theorem con_Tri_i {N nb:Nat} {g:Nat→T_Bar} {u:T_IntS} (hA:anF ((N:Int),(nb,g),()) u=true) :
    zE 112 [grG g nb N,inL u] [(0,iOb (trF g nb N u).1 (trF g nb N u).2)] (.ar 1 0 0 (trF g nb N u).1):=by
  obtain ⟨hg,hu,hin⟩:=anF_in hA
  obtain ⟨h1,h2,hok⟩:=graph_in hg
  have ca:zE 107 [grG g nb N,inL u] [] (.p (.bool true)):=by
    have:=con_Anch_i ((N:Int),(nb,g),()) (sm_graph (by show nb≤_;omega)) u (by omega)
    rw [hA] at this;exact this
  refine csZ Tryz.func112 (fun c hc=>?_)
  generalize hX:trF g nb N u=X
  have hoth:∀ v:Int,∀ i,i<nb→0≤othF (g i) v∧othF (g i) v<N:=fun v i hi=>by
    have:=hok i hi
    unfold othF
    split<;>omega
  have scan:∀ (q:(Nat→Bool)×T_IntS),q.2.1≤8→(∀ w,fR (cdB g nb q.1) 0 N=some w→w<N→q.1 w=false →
        zR c 112 zf23 (tiV g nb N u (stT g nb N q).1 (stT g nb N q).2.1 (stT g nb N q).2.2 0) (Post c [(0,iOb X.1 X.2)] (.ar 1 0 0 X.1))) →
      (fR (cdB g nb q.1) 0 N=none→q.2=X)→∀ e v,v+e=N→fR (cdB g nb q.1) v e=fR (cdB g nb q.1) 0 N →
      zR c 112 zf23 (tiV g nb N u q.1 q.2.1 q.2.2 v) (Post c [(0,iOb X.1 X.2)] (.ar 1 0 0 X.1)):=by
    intro q hq8 hsome hnone e
    induction e with
    | zero =>
      intro v hv hf
      have hdv:decide ((v:Int)<(N:Int))=false:=decide_eq_false (by omega)
      have hq:=hnone hf.symm
      rw [hq]
      refine pkZ Tryz.func112 hc (tie g nb N u q.1 X.1 X.2 v) ?_
      and_intros
      all_goals (first | exact zN | (exact hdv) | (intro t ht;simp [All]))
    | succ e ihe =>
      intro v hv hf
      have hdv:decide ((v:Int)<(N:Int))=true:=decide_eq_true (by omega)
      have hcnt:=ckP_le g (fun x=>q.1 x.toNat) v nb
      have lb:∀ d i,i+d=nb→zR c 112 zf4 (tcB g nb N u q.1 q.2.1 q.2.2 v (ckP g (fun x=>q.1 x.toNat) v i) i) (Post c [(0,iOb X.1 X.2)] (.ar 1 0 0 X.1)):=by
        intro d
        induction d with
        | zero =>
          intro i hi
          obtain rfl:i=nb:=by omega
          have hdi:decide ((i:Int)<(i:Int))=false:=decide_eq_false (by omega)
          cases hc1:cdB g i q.1 v with
          | true =>
            have hc1':=hc1
            unfold cdB at hc1'
            have hs:fR (cdB g i q.1) 0 N=some v:=by rw [← hf];simp only [fR];rw [if_pos hc1]
            have hrec:=hsome v hs (by omega) (cdB_s hc1)
            rw [stT_some hs] at hrec
            refine pcD hc (tiy g i N u q.1 q.2.1 q.2.2 v _ i) ?_ hrec
            and_intros
            all_goals (first | exact zI | (exact hdi) | (exact hc1') | (intro t ht;by_cases h':t<q.2.1<;>(simp [h',cvtL,cvt,tg,tru,All];done)) | (intro t ht;by_cases h':t=v<;>(simp [h',mk1,cvtL,cvt,tg,tru,All];done)) | (intro t ht;simp [All];done) | (simp;done) | (simp;omega))
          | false =>
            have hc1':=hc1
            unfold cdB at hc1'
            have hrec:=ihe (v+1) (by omega) (by rw [← hf];simp only [fR];rw [if_neg (by rw [hc1];exact Bool.false_ne_true)])
            refine pcZ hc (tix g i N u q.1 q.2.1 q.2.2 v _ i) ?_ hrec
            and_intros
            all_goals (first | exact zN | (exact hdi) | (exact hc1') | (intro t ht;simp [All];done) | (simp;omega))
        | succ d ih =>
          intro i hi
          have hdi:decide ((i:Int)<(nb:Int))=true:=decide_eq_true (by omega)
          have hrec:=ih (i+1) (by omega)
          have hl:=ckP_le g (fun x=>q.1 x.toNat) v i
          have cH:=con_hasV (g i) v
          have cO:=con_other (g i) v
          have ho:=hoth v i (by omega)
          cases hh:(bif hasV (g i) v then q.1 (othF (g i) v).toNat else false) with
          | true =>
            rw [show ckP g (fun x=>q.1 x.toNat) v (i+1)=ckP g (fun x=>q.1 x.toNat) v i+1 by simp only [ckP];rw [if_pos hh]] at hrec
            refine pcZ hc (tit g nb N u q.1 q.2.1 q.2.2 v _ i (hasV (g i) v) (othF (g i) v)) ?_ hrec
            and_intros
            all_goals (first | exact zI | (exact hdi) | (exact cH) | (intros;exact cO) | (exact hh) | (intro t ht;simp [All];done) | (simp;omega))
          | false =>
            rw [show ckP g (fun x=>q.1 x.toNat) v (i+1)=ckP g (fun x=>q.1 x.toNat) v i by simp only [ckP];rw [if_neg (by rw [hh];exact Bool.false_ne_true)]] at hrec
            refine pcZ hc (tif g nb N u q.1 q.2.1 q.2.2 v _ i (hasV (g i) v) (othF (g i) v)) ?_ hrec
            and_intros
            all_goals (first | exact zI | (exact hdi) | (exact cH) | (intros;exact cO) | (exact hh) | (intro t ht;simp [All];done) | (simp;omega))
      refine pcD hc (tib g nb N u q.1 q.2.1 q.2.2 v) ?_ (lb nb 0 (by omega))
      and_intros
      all_goals (first | exact zN | (exact hdv) | (intro t ht;simp [All];done))
  have go:∀ d (q:(Nat→Bool)×T_IntS),umN q.1 N≤d→q.2.1+umN q.1 N≤N→(itT g nb N d q).2=X →
      zR c 112 zf23 (tiV g nb N u q.1 q.2.1 q.2.2 0) (Post c [(0,iOb X.1 X.2)] (.ar 1 0 0 X.1)):=by
    intro d
    induction d with
    | zero =>
      intro q hq hm hX
      refine scan q (by omega) (fun w hw hwN hws=>?_) (fun _=>hX) N 0 (by omega) rfl
      rw [umN_0 q.1 N (by omega) w hwN] at hws
      cases hws
    | succ d ih =>
      intro q hq hm hX
      refine scan q (by omega) (fun w hw hwN hws=>?_) (fun hn=>?_) N 0 (by omega) rfl
      · have hst:=stT_some hw
        have hum:=umN_mk hws N hwN
        refine ih (stT g nb N q) ?_ ?_ hX
        · rw [hst];show umN (mk1 q.1 w) N≤d;omega
        · rw [hst];show q.2.1+1+umN (mk1 q.1 w) N≤N;omega
      · rw [itT_none hn] at hX;exact hX
  have lm:∀ d k,k+d=u.1→zR c 112 zf29 (tiO g nb N u (mkS u k) k) (Post c [(0,iOb X.1 X.2)] (.ar 1 0 0 X.1)):=by
    intro d
    induction d with
    | zero =>
      intro k hk
      have hd:decide ((k:Int)<(u.1:Int))=false:=decide_eq_false (by omega)
      rw [show k=u.1 by omega]
      have:=umN_le (mkS u u.1) N
      refine pcD hc (tia g nb N u (mkS u u.1) u.1) ?_ (go N (mkS u u.1,(0,fun _=>0)) this (by show 0+umN (mkS u u.1) N≤N;omega) hX)
      and_intros
      all_goals (first | exact zN | (simp;done) | (intro t ht;exact absurd ht (Nat.not_lt_zero _)) | (intro t ht;simp [All];done))
    | succ d ih =>
      intro k hk
      have hd:decide ((k:Int)<(u.1:Int))=true:=decide_eq_true (by omega)
      have hb:=hin k (by omega)
      refine pcD hc (tim g nb N u (mkS u k) k) ?_ (ih (k+1) (by omega))
      and_intros
      all_goals (first | exact zI | (exact hd) | (intro t ht;exact absurd ht (Nat.not_lt_zero _)) | (intro t ht;by_cases h':t=(u.2 k).toNat<;>(simp [h',cvtL,cvt,tg,tru,All];done)) | (simp;omega))
  refine pcD hc (tiz g nb N u) ?_ (lm u.1 0 (by omega))
  and_intros
  all_goals (first | exact zN | (exact ca) | (intro t ht;exact absurd ht (Nat.not_lt_zero _)) | (intro t ht;simp [mkS,cvtL,cvt,tg,tru,All];done) | (simp;omega))
theorem umN_sum {g:Nat→T_Bar} {nb N:Nat}:∀ d (q:(Nat→Bool)×T_IntS),(∀ j,j<q.2.1→0≤q.2.2 j∧q.2.2 j<N)→q.2.1+umN q.1 N≤N →
    (itT g nb N d q).2.1≤N∧∀ j,j<(itT g nb N d q).2.1→0≤(itT g nb N d q).2.2 j∧(itT g nb N d q).2.2 j<N
  | 0,q,h,hm=>⟨by show q.2.1≤N;omega,h⟩
  | d+1,q,h,hm=>by
    rw [itT]
    cases hf:fR (cdB g nb q.1) 0 N with
    | none=>rw [stT_none hf];exact umN_sum d q h hm
    | some w =>
      have hw:=fR_lt hf
      have hst:=stT_some hf
      have hum:=umN_mk (cdB_s hw.2.2) N (by omega)
      rw [hst]
      refine umN_sum d _ (fun j hj=>?_) (by show q.2.1+1+umN (mk1 q.1 w) N≤N;omega)
      have hj:j<q.2.1+1:=hj
      show 0≤(if j<q.2.1 then q.2.2 j else (w:Int))∧(if j<q.2.1 then q.2.2 j else (w:Int))<N
      by_cases e:j<q.2.1
      · rw [if_pos e];exact h j e
      · rw [if_neg e];omega
theorem trF_in (g:Nat→T_Bar) (nb N:Nat) (u:T_IntS):(trF g nb N u).1≤N∧∀ j,j<(trF g nb N u).1→0≤(trF g nb N u).2 j∧(trF g nb N u).2 j<N :=
  umN_sum N _ (fun j hj=>absurd hj (Nat.not_lt_zero _)) (by have:=umN_le (mkS u u.1) N;show 0+umN (mkS u u.1) N≤N;omega)
open Go Go.Sort
theorem bCi (v:T_Graph) :
    zS Tryz.f63 [rg 2,rg 8] [graphA v] [224] [(0,brOb v.2.1.1 v.2.1.2)] (.agg [.p (.int .i64 v.1),.ar 2 0 0 v.2.1.1]) =
    some [(NT 0 1),(NT 0 1),(NL 0 0),(NL ((0+v.2.1.1)*16) 140737488355328),(NL (0+v.2.1.1) 9223372036854775807),(NT 0 1),((true=true)→ (AN 1)),(NT 0 1),(AI v.1),(AN 0),(((0+v.2.1.1):Nat)=v.2.1.1),(AN 2),(NL v.2.1.1 (0+v.2.1.1)),(AA v.2.1.1 (fun i=>[.p (.int .i64 ((v.2.1.2 i).1)),.p (.int .i64 ((v.2.1.2 i).2.1))])),(AE v.2.1.1)]:=by kernel_rfl
theorem bCs (v:T_Graph) :
    zS Tryz.f52 [rg 2,rg 8] [graphA v] [224] [(0,brOb v.2.1.1 v.2.1.2)] (.agg [.p (.int .i64 v.1),.ar 2 0 0 v.2.1.1]) =
    some [(NT 0 1),(NT 0 1),(NL 0 0),(NL ((0+v.2.1.1)*16) 140737488355328),(NL (0+v.2.1.1) 9223372036854775807),(NT 0 1),((true=true)→ (AN 1)),(NT 0 1),(AI v.1),(AN 0),(((0+v.2.1.1):Nat)=v.2.1.1),(AN 2),(NL v.2.1.1 (0+v.2.1.1)),(AA v.2.1.1 (fun i=>[.p (.int .i64 ((v.2.1.2 i).1)),.p (.int .i64 ((v.2.1.2 i).2.1))])),(AE v.2.1.1)]:=by kernel_rfl
theorem con_copyGraph (v:T_Graph) (hn:v.2.1.1≤1048576):zE 63 [graphA v] [(0,brOb v.2.1.1 v.2.1.2)] (.agg [.p (.int .i64 v.1),.ar 2 0 0 v.2.1.1]):=by
  refine csZ Tryz.func63 (fun c hc=>?_)
  refine pkZ Tryz.func63 hc (bCi v) ?_
  and_intros
  all_goals (first | exact zI | (intro j hj;simp [All];done) | (simp;try omega))
theorem con_l2Copy (v:T_Graph) (hn:v.2.1.1≤1048576):zE 52 [graphA v] [(0,brOb v.2.1.1 v.2.1.2)] (.agg [.p (.int .i64 v.1),.ar 2 0 0 v.2.1.1]):=by
  refine csZ Tryz.func52 (fun c hc=>?_)
  refine pkZ Tryz.func52 hc (bCs v) ?_
  and_intros
  all_goals (first | exact zI | (intro j hj;simp [All];done) | (simp;try omega))
def dlB (h:Nat→T_Bar) (e i:Nat):T_Bar:=if i<e then h i else h (i+1)
def GBi (g:Nat→T_Bar) (nb N:Nat) (r:Int) (i c:Nat) (f:Nat→Int):St :=
  ⟨[grG g nb N,.p (.int .i64 2),.p (.int .i64 3),.pt 2 0 0 0,.p .any,.p .any,.p .any,.ar 1 1 0 c,.p (.int .i64 r)]++List.replicate 13 anyA++[.p (.int .i64 nb),.p (.int .i64 i)]++List.replicate 20 anyA,[(0,bxG g nb N),(1,iOb c f)],2⟩
def GBs (g:Nat→T_Bar) (nb N:Nat) (r:Int) (i c:Nat) (f:Nat→Int):St :=
  ⟨[grG g nb N,.p (.int .i64 2),.p (.int .i64 3),.pt 2 0 0 0,.p .any,.p .any,.p .any,.ar 1 1 0 c,.p (.int .i64 r),.p (.int .i64 i)]++List.replicate 35 anyA,[(0,bxG g nb N),(1,iOb c f)],2⟩
theorem gRi (g:Nat→T_Bar) (nb N e:Nat) :
    zS Tryz.f303 [rg 3,rm [(1,oc [(0,brOb nb g)] (.agg [.p (.int .i64 N),.ar 2 0 0 nb]))] 2,rm [(1,oc [] (.p (.bool true))),(7,oc [] (.p (.bool true)))] 2,.dec false,rg 12,rg 3] [grG g nb N,.p (.int .i64 e)] [896] [(0,brOb (nb - 1) (dlB g e))] ((zf106 N nb)) =
    some (zD [(NT 0 1),zE 63 [(zf94 N nb g)] (zf99 nb g) (.agg [.p (.int .i64 (↑N:Int)),.ar 2 0 0 nb]),((true=true)→ (AN 1)),zE 62 [(zf94 N nb g)] [] (.p (.bool true)),(AG (!!true)),(((!!true)=true)→(NT 0 1)),(((!!true)=true)→(ZLo ((↑nb:Int) - 1))),(((!!true)=true)→(ZHi ((↑nb:Int) - 1))),(((!!true)=true)→ zE 179 [.p (.int .i64 (↑e:Int)),.p (.int .i64 0),.p (.int .i64 ((↑nb:Int) - 1))] [] (.p (.bool true))),(((!true)=false)→ ((!!true)=true)),((bif !true then true else !true)=false),(IL 0 0),(IL 0 (↑e:Int)),(IL (↑e:Int) (↑nb:Int)),(ZLo ((↑e:Int)+1)),(ZHi ((↑e:Int)+1)),(IL 0 ((↑e:Int)+1)),(IL ((↑e:Int)+1) (↑nb:Int)),(IL (↑nb:Int) (↑nb:Int)),(NL (nb - (e+1)+(e+1)) nb),(NL e nb),(NL ((e+(nb - (e+1)))*16) 140737488355328),(NL (e+(nb - (e+1))) 9223372036854775807),(AI ((↑N:Int))),(AN 0),(((e+(nb - (e+1))):Nat)=(nb - 1)),(true=true),(AN 2),(NL (nb - 1) (e+(nb - (e+1)))),(∀ i:Nat,(((i:Nat)<(nb - 1))→(All (cvtL false [(32,⟨true,2,1,(fun i_1=>[.p (.int .i64 (↑N:Int)),.ar 2 896 0 (e+(nb - (e+1)))])⟩),(160,⟨true,2,1,(fun i_1=>[.p (.int .i64 (↑N:Int)),.ar 2 896 0 (e+(nb - (e+1)))])⟩),(896,⟨false,2,(e+(nb - (e+1))),(fun i_1=>(if (i_1<e) then [.p (.int .i64 ((g i_1).1)),.p (.int .i64 ((g i_1).2.1))] else [.p (.int .i64 ((g (i_1 - e+(e+1))).1)),.p (.int .i64 ((g (i_1 - e+(e+1))).2.1))]))⟩),(0,⟨true,2,1,(fun i_1=>[.p (.int .i64 (↑N:Int)),.p (.seq true 2 nb (bRw g))])⟩)] [896] 1 (if (i<e) then [.p (.int .i64 ((g i).1)),.p (.int .i64 ((g i).2.1))] else [.p (.int .i64 ((g (i - e+(e+1))).1)),.p (.int .i64 ((g (i - e+(e+1))).2.1))])).2∧(((cvtL false [(32,⟨true,2,1,(fun i_1=>[.p (.int .i64 (↑N:Int)),.ar 2 896 0 (e+(nb - (e+1)))])⟩),(160,⟨true,2,1,(fun i_1=>[.p (.int .i64 (↑N:Int)),.ar 2 896 0 (e+(nb - (e+1)))])⟩),(896,⟨false,2,(e+(nb - (e+1))),(fun i_1=>(if (i_1<e) then [.p (.int .i64 ((g i_1).1)),.p (.int .i64 ((g i_1).2.1))] else [.p (.int .i64 ((g (i_1 - e+(e+1))).1)),.p (.int .i64 ((g (i_1 - e+(e+1))).2.1))]))⟩),(0,⟨true,2,1,(fun i_1=>[.p (.int .i64 (↑N:Int)),.p (.seq true 2 nb (bRw g))])⟩)] [896] 1 (if (i<e) then [.p (.int .i64 ((g i).1)),.p (.int .i64 ((g i).2.1))] else [.p (.int .i64 ((g (i - e+(e+1))).1)),.p (.int .i64 ((g (i - e+(e+1))).2.1))])).1:List AV)=[.p (.int .i64 ((dlB g e i).1)),.p (.int .i64 ((dlB g e i).2.1))])))),(AE ((nb - 1)))] [0,1,0,2,0,3,4,5,4,4,6,7,4,4,8,4,9,10,0,11,12,13,0,14,15,16,17,18,19,20,21,22,0,2,0,0,2,0,23,24,25,26,27,28,29,30]):=by kernel_rfl
theorem gRs (g:Nat→T_Bar) (nb N e:Nat) :
    zS Tryz.f259 [rg 3,rm [(1,oc [] (.p (.bool true)))] 12,.dec false,rg 17] [grG g nb N,.p (.int .i64 e)] [960] [(0,brOb (nb - 1) (dlB g e))] ((zf106 N nb)) =
    some (zD [(NT 0 1),zE 53 [(zf94 N nb g)] [] (.p (.bool true)),(AG (!!true)),(((!true)=false)→ ((!!true)=true)),(AG (!bif !true then true else decide ((↑e:Int)<0))),(((!bif !true then true else decide ((↑e:Int)<0))=true)→(NT 0 1)),(((bif !true then true else decide ((↑e:Int)<0))=false)→ ((!bif !true then true else decide ((↑e:Int)<0))=true)),((bif bif !true then true else decide ((↑e:Int)<0) then true else decide ((↑e:Int)≥(↑nb:Int)))=false),(IL 0 0),(IL 0 (↑e:Int)),(IL (↑e:Int) (↑nb:Int)),(NL 0 0),(NL ((0+e)*16) 140737488355328),(NL (0+e) 9223372036854775807),(ZLo ((↑e:Int)+1)),(ZHi ((↑e:Int)+1)),(IL 0 ((↑e:Int)+1)),(IL ((↑e:Int)+1) (↑nb:Int)),(IL (↑nb:Int) (↑nb:Int)),(NL (0+e) (0+e)),(NL ((0+e+(nb - (e+1)))*16) 140737488355328),(NL (0+e+(nb - (e+1))) 9223372036854775807),((true=true)→ (AN 1)),(AI ((↑N:Int))),(AN 0),(((0+e+(nb - (e+1))):Nat)=(nb - 1)),(true=true),(AN 2),(NL (nb - 1) (0+e+(nb - (e+1)))),(∀ i:Nat,(((i:Nat)<(nb - 1))→(All (cvtL false [(32,⟨true,2,1,(fun i_1=>[.p (.int .i64 (↑N:Int)),.ar 2 960 0 (0+e+(nb - (e+1)))])⟩),(960,⟨false,2,(0+e+(nb - (e+1))),(fun i_1=>(if (i_1<0+e) then [.p (.int .i64 ((g i_1).1)),.p (.int .i64 ((g i_1).2.1))] else [.p (.int .i64 ((g (i_1 - (0+e)+(e+1))).1)),.p (.int .i64 ((g (i_1 - (0+e)+(e+1))).2.1))]))⟩),(0,⟨true,2,1,(fun i_1=>[.p (.int .i64 (↑N:Int)),.p (.seq true 2 nb (bRw g))])⟩)] [960] 1 (if (i<0+e) then [.p (.int .i64 ((g i).1)),.p (.int .i64 ((g i).2.1))] else [.p (.int .i64 ((g (i - (0+e)+(e+1))).1)),.p (.int .i64 ((g (i - (0+e)+(e+1))).2.1))])).2∧(((cvtL false [(32,⟨true,2,1,(fun i_1=>[.p (.int .i64 (↑N:Int)),.ar 2 960 0 (0+e+(nb - (e+1)))])⟩),(960,⟨false,2,(0+e+(nb - (e+1))),(fun i_1=>(if (i_1<0+e) then [.p (.int .i64 ((g i_1).1)),.p (.int .i64 ((g i_1).2.1))] else [.p (.int .i64 ((g (i_1 - (0+e)+(e+1))).1)),.p (.int .i64 ((g (i_1 - (0+e)+(e+1))).2.1))]))⟩),(0,⟨true,2,1,(fun i_1=>[.p (.int .i64 (↑N:Int)),.p (.seq true 2 nb (bRw g))])⟩)] [960] 1 (if (i<0+e) then [.p (.int .i64 ((g i).1)),.p (.int .i64 ((g i).2.1))] else [.p (.int .i64 ((g (i - (0+e)+(e+1))).1)),.p (.int .i64 ((g (i - (0+e)+(e+1))).2.1))])).1:List AV)=[.p (.int .i64 ((dlB g e i).1)),.p (.int .i64 ((dlB g e i).2.1))])))),(AE ((nb - 1)))] [0,1,2,3,4,5,4,4,4,6,7,0,0,8,9,10,11,12,13,0,14,15,16,17,18,19,20,21,0,22,0,23,24,25,26,27,28,29,30]):=by kernel_rfl
theorem gBiz (g:Nat→T_Bar) (nb N:Nat) (r:Int) :
    zT Tryz.f420 [rg 2,rg 2,rm [(3,oc [] (.p (.int .i64 r)))] 1,rg 2,.dec false,rg 4,.head] [grG g nb N,.p (.int .i64 2),.p (.int .i64 3)] [0,64] (GBi g nb N r 0 0 (fun _=>0)) =
    some (zf30,zD [(NT 0 1),zE 288 [(zf94 N nb g),.p (.int .i64 2),.p (.int .i64 3)] [] (.p (.int .i64 r)),((decide (r<0))=false),(AI ((↑N:Int))),(AN nb),(AP nb (bRw g)),(AI 2),(AI 3),(AN 0),(AI r),(AI ((↑nb:Int))),((0:Int)=(↑0:Int)),((([AV.p (PV.int IntKind.i64 (↑N:Int)),brL g nb].length):Nat)=2),(NL 1 1),(AN 1),(NL 0 0),(AA 0 (fun i=>[.p (.int .i64 0)]))] [0,1,2,0,3,4,5,6,7,8,8,8,9,10,11,12,13,13,3,4,5,14,15,16]):=by kernel_rfl
theorem gBit (g:Nat→T_Bar) (nb N:Nat) (r r2:Int) (i c:Nat) (f:Nat→Int) :
    zM 0 [rg 1,.dec true,rg 2,rm [(2,oc [(0,brOb (nb - 1) (dlB g i))] (zf106 N nb))] 6,rm [(3,oc [] (.p (.int .i64 r2)))] 2,.dec true,rg 5,rg 2,.head] zf30 (GBi g nb N r i c f) [0,674] 1 (GBi g nb N r (i+1) (c+1) (fun s=>if s<c then f s else i)) =
    some (zf30,[((decide ((↑i:Int)<(↑nb:Int)))=true),(NT 0 1),zE 303 [(zf92 N nb g),.p (.int .i64 (↑i:Int))] [(0,⟨false,2,(nb - 1),(fun i_1=>[.p (.int .i64 ((dlB g i i_1).1)),.p (.int .i64 ((dlB g i i_1).2.1))])⟩)] ((zf101 N nb)),(NT 0 1),((true=true)→ (AN 1)),(NT 0 1),(AN 2),(NL (nb - 1) (nb - 1)),zE 288 [.agg [.p (.int .i64 (↑N:Int)),.p (.seq true 2 (nb - 1) (fun i_1=>[.int .i64 ((dlB g i i_1).1),.int .i64 ((dlB g i i_1).2.1)]))],.p (.int .i64 2),.p (.int .i64 3)] [] (.p (.int .i64 r2)),((decide (r2<r))=true),(NL 1 1),(NL c c),(NL ((c+1)*8) 140737488355328),(NL (c+1) 9223372036854775807),(ZLo ((↑i:Int)+1)),(ZHi ((↑i:Int)+1)),(AI ((↑N:Int))),(AN nb),(AP nb (bRw g)),(AI 2),(AI 3),(AN 0),(AN 0),(AN ((c+1))),(AI r),(AI ((↑nb:Int))),((((↑i:Int)+1):Int)=(↑(i+1):Int)),(AN 2),(NL 1 1),(NL 1 1),(AI ((↑N:Int))),(AN nb),(AP nb (bRw g)),(AN 1),(NL (c+1) (c+1)),(CV [(674,⟨false,1,(c+1),(fun i_2=>(if (i_2<c) then [.p (.int .i64 (f i_2))] else [.p (.int .i64 (↑i:Int))]))⟩),(642,⟨false,1,1,(fun i_2=>[.p (.int .i64 (↑i:Int))])⟩),(290,⟨true,2,1,(fun i_2=>[.p (.int .i64 (↑N:Int)),.ar 2 162 0 (nb - 1)])⟩),(162,⟨false,2,(nb - 1),(fun i_2=>[.p (.int .i64 ((dlB g i i_2).1)),.p (.int .i64 ((dlB g i i_2).2.1))])⟩),(0,⟨true,2,1,(fun i_2=>[.p (.int .i64 (↑N:Int)),.p (.seq true 2 nb (bRw g))])⟩)] [0,674] 1 (c+1) (fun i_1=>if (i_1<c) then [.p (.int .i64 (f i_1))] else [.p (.int .i64 (↑i:Int))]) (fun i_1=>[.p (.int .i64 (if i_1<c then f i_1 else (↑i:Int)))]))]):=by kernel_rfl
theorem gBif (g:Nat→T_Bar) (nb N:Nat) (r r2:Int) (i c:Nat) (f:Nat→Int) :
    zM 0 [rg 1,.dec true,rg 2,rm [(2,oc [(0,brOb (nb - 1) (dlB g i))] (zf106 N nb))] 6,rm [(3,oc [] (.p (.int .i64 r2)))] 2,.dec false,rg 2,.head] zf30 (GBi g nb N r i c f) [0,1] 1 (GBi g nb N r (i+1) c f) =
    some (zf30,[((decide ((↑i:Int)<(↑nb:Int)))=true),(NT 0 1),zE 303 [(zf92 N nb g),.p (.int .i64 (↑i:Int))] [(0,⟨false,2,(nb - 1),(fun i_1=>[.p (.int .i64 ((dlB g i i_1).1)),.p (.int .i64 ((dlB g i i_1).2.1))])⟩)] ((zf101 N nb)),(NT 0 1),((true=true)→ (AN 1)),(NT 0 1),(AN 2),(NL (nb - 1) (nb - 1)),zE 288 [.agg [.p (.int .i64 (↑N:Int)),.p (.seq true 2 (nb - 1) (fun i_1=>[.int .i64 ((dlB g i i_1).1),.int .i64 ((dlB g i i_1).2.1)]))],.p (.int .i64 2),.p (.int .i64 3)] [] (.p (.int .i64 r2)),((decide (r2<r))=false),(ZLo ((↑i:Int)+1)),(ZHi ((↑i:Int)+1)),(AI ((↑N:Int))),(AN nb),(AP nb (bRw g)),(AI 2),(AI 3),(AN 0),(AN 0),(AN c),(AI r),(AI ((↑nb:Int))),((((↑i:Int)+1):Int)=(↑(i+1):Int)),(AN 2),(NL 1 1),(NL 1 1),(AI ((↑N:Int))),(AN nb),(AP nb (bRw g)),(AN 1),(NL c c),(AA c (fun i_1=>[.p (.int .i64 (f i_1))]))]):=by kernel_rfl
theorem gBie (g:Nat→T_Bar) (nb N:Nat) (r:Int) (i c:Nat) (f:Nat→Int) :
    zP Tryz.f420 0 [rg 1,.dec false,rg 2] zf30 (GBi g nb N r i c f) [1] 1 [(0,iOb c f)] (.ar 1 0 0 c) =
    some [((decide ((↑i:Int)<(↑nb:Int)))=false),(AN 0),(AN c),(AN 1),(NL c c),(AA c (fun i_1=>[.p (.int .i64 (f i_1))])),(AE c)]:=by kernel_rfl
theorem gBsz (g:Nat→T_Bar) (nb N:Nat) (r:Int) :
    zT Tryz.f410 [rg 2,rg 2,rm [(3,oc [] (.p (.int .i64 r)))] 1,rg 1,.head] [grG g nb N,.p (.int .i64 2),.p (.int .i64 3)] [0,64] (GBs g nb N r 0 0 (fun _=>0)) =
    some (zf47,zD [(NT 0 1),zE 282 [(zf94 N nb g),.p (.int .i64 2),.p (.int .i64 3)] [] (.p (.int .i64 r)),(AI ((↑N:Int))),(AN nb),(AP nb (bRw g)),(AI 2),(AI 3),(AN 0),(AI r),((0:Int)=(↑0:Int)),((([AV.p (PV.int IntKind.i64 (↑N:Int)),brL g nb].length):Nat)=2),(NL 1 1),(AN 1),(NL 0 0),(AA 0 (fun i=>[.p (.int .i64 0)]))] [0,1,2,3,4,5,6,7,7,7,8,9,10,11,11,2,3,4,12,13,14]):=by kernel_rfl
theorem gBst (g:Nat→T_Bar) (nb N:Nat) (r r2:Int) (i c:Nat) (f:Nat→Int) :
    zM 0 [rg 9,.dec true,rm [(2,oc [(0,brOb (nb - 1) (dlB g i))] (zf106 N nb))] 6,rm [(3,oc [] (.p (.int .i64 r2)))] 2,.dec true,rg 5,rg 3,.head] zf47 (GBs g nb N r i c f) [0,866] 1 (GBs g nb N r (i+1) (c+1) (fun s=>if s<c then f s else i)) =
    some (zf47,zD [(NT 0 1),(AG (decide ((↑i:Int)<(↑nb:Int)))),((bif decide ((↑i:Int)<(↑nb:Int)) then decide (r≥0) else false)=true),zE 259 [(zf92 N nb g),.p (.int .i64 (↑i:Int))] [(0,⟨false,2,(nb - 1),(fun i_1=>[.p (.int .i64 ((dlB g i i_1).1)),.p (.int .i64 ((dlB g i i_1).2.1))])⟩)] ((zf101 N nb)),((true=true)→ (AN 1)),(AN 2),(NL (nb - 1) (nb - 1)),zE 282 [.agg [.p (.int .i64 (↑N:Int)),.p (.seq true 2 (nb - 1) (fun i_1=>[.int .i64 ((dlB g i i_1).1),.int .i64 ((dlB g i i_1).2.1)]))],.p (.int .i64 2),.p (.int .i64 3)] [] (.p (.int .i64 r2)),((decide (r2<r))=true),(NL 1 1),(NL c c),(NL ((c+1)*8) 140737488355328),(NL (c+1) 9223372036854775807),(ZLo ((↑i:Int)+1)),(ZHi ((↑i:Int)+1)),(AI ((↑N:Int))),(AN nb),(AP nb (bRw g)),(AI 2),(AI 3),(AN 0),(AN ((c+1))),(AI r),((((↑i:Int)+1):Int)=(↑(i+1):Int)),(AN 1),(NL (c+1) (c+1)),(CV [(866,⟨false,1,(c+1),(fun i_2=>(if (i_2<c) then [.p (.int .i64 (f i_2))] else [.p (.int .i64 (↑i:Int))]))⟩),(834,⟨false,1,1,(fun i_2=>[.p (.int .i64 (↑i:Int))])⟩),(482,⟨true,2,1,(fun i_2=>[.p (.int .i64 (↑N:Int)),.ar 2 354 0 (nb - 1)])⟩),(354,⟨false,2,(nb - 1),(fun i_2=>[.p (.int .i64 ((dlB g i i_2).1)),.p (.int .i64 ((dlB g i i_2).2.1))])⟩),(0,⟨true,2,1,(fun i_2=>[.p (.int .i64 (↑N:Int)),.p (.seq true 2 nb (bRw g))])⟩)] [0,866] 1 (c+1) (fun i_1=>if (i_1<c) then [.p (.int .i64 (f i_1))] else [.p (.int .i64 (↑i:Int))]) (fun i_1=>[.p (.int .i64 (if i_1<c then f i_1 else (↑i:Int)))]))] [0,1,1,2,0,3,0,4,0,5,6,7,8,9,10,11,12,13,14,15,16,17,18,19,20,20,21,22,23,5,9,9,15,16,17,24,25,26]):=by kernel_rfl
theorem gBsf (g:Nat→T_Bar) (nb N:Nat) (r r2:Int) (i c:Nat) (f:Nat→Int) :
    zM 0 [rg 9,.dec true,rm [(2,oc [(0,brOb (nb - 1) (dlB g i))] (zf106 N nb))] 6,rm [(3,oc [] (.p (.int .i64 r2)))] 2,.dec false,rg 3,.head] zf47 (GBs g nb N r i c f) [0,1] 1 (GBs g nb N r (i+1) c f) =
    some (zf47,zD [(NT 0 1),(AG (decide ((↑i:Int)<(↑nb:Int)))),((bif decide ((↑i:Int)<(↑nb:Int)) then decide (r≥0) else false)=true),zE 259 [(zf92 N nb g),.p (.int .i64 (↑i:Int))] [(0,⟨false,2,(nb - 1),(fun i_1=>[.p (.int .i64 ((dlB g i i_1).1)),.p (.int .i64 ((dlB g i i_1).2.1))])⟩)] ((zf101 N nb)),((true=true)→ (AN 1)),(AN 2),(NL (nb - 1) (nb - 1)),zE 282 [.agg [.p (.int .i64 (↑N:Int)),.p (.seq true 2 (nb - 1) (fun i_1=>[.int .i64 ((dlB g i i_1).1),.int .i64 ((dlB g i i_1).2.1)]))],.p (.int .i64 2),.p (.int .i64 3)] [] (.p (.int .i64 r2)),((decide (r2<r))=false),(ZLo ((↑i:Int)+1)),(ZHi ((↑i:Int)+1)),(AI ((↑N:Int))),(AN nb),(AP nb (bRw g)),(AI 2),(AI 3),(AN 0),(AN c),(AI r),((((↑i:Int)+1):Int)=(↑(i+1):Int)),(NL 1 1),(AN 1),(NL c c),(AA c (fun i_1=>[.p (.int .i64 (f i_1))]))] [0,1,1,2,0,3,0,4,0,5,6,7,8,9,10,11,12,13,14,15,16,16,17,18,19,5,20,20,11,12,13,21,22,23]):=by kernel_rfl
theorem gBse (g:Nat→T_Bar) (nb N:Nat) (r:Int) (i c:Nat) (f:Nat→Int) :
    zP Tryz.f410 0 [rg 9,.dec false,rg 2] zf47 (GBs g nb N r i c f) [1] 1 [(0,iOb c f)] (.ar 1 0 0 c) =
    some (zD [(NT 0 1),(AG (decide ((↑i:Int)<(↑nb:Int)))),((bif decide ((↑i:Int)<(↑nb:Int)) then decide (r≥0) else false)=false),(AN 0),(AN c),(AN 1),(NL c c),(AA c (fun i_1=>[.p (.int .i64 (f i_1))])),(AE c)] [0,1,1,2,3,4,5,6,7,8]):=by kernel_rfl
theorem gFi (g:Nat→T_Bar) (nb N c:Nat) (f:Nat→Int) :
    zS Tryz.f412 [rg 2,rm [(1,oc [(0,iOb c f)] (.ar 1 0 0 c))] 1] [grG g nb N] [96] [(0,iOb c f)] (.ar 1 0 0 c) =
    some [(NT 0 1),zE 420 [(zf94 N nb g),.p (.int .i64 2),.p (.int .i64 3)] [(0,⟨false,1,c,(fun i=>[.p (.int .i64 (f i))])⟩)] (.ar 1 0 0 c),(AN 0),(AN c),(AN 1),(NL c c),(AA c (fun i=>[.p (.int .i64 (f i))])),(AE c)]:=by kernel_rfl
theorem gFs (g:Nat→T_Bar) (nb N c:Nat) (f:Nat→Int) :
    zS Tryz.f384 [rg 2,rm [(1,oc [(0,iOb c f)] (.ar 1 0 0 c))] 1] [grG g nb N] [96] [(0,iOb c f)] (.ar 1 0 0 c) =
    some [(NT 0 1),zE 410 [(zf94 N nb g),.p (.int .i64 2),.p (.int .i64 3)] [(0,⟨false,1,c,(fun i=>[.p (.int .i64 (f i))])⟩)] (.ar 1 0 0 c),(AN 0),(AN c),(AN 1),(NL c c),(AA c (fun i=>[.p (.int .i64 (f i))])),(AE c)]:=by kernel_rfl
theorem gRdit (g:Nat→T_Bar) (nb N c:Nat) (f:Nat→Int) :
    zS Tryz.f386 [rg 2,rm [(1,oc [] (.p (.bool true))),(1,gT),(0,⟨true,(some ⟨[],[],[],1,[(0,iOb c f)],.ar 1 0 0 c⟩),some true⟩),(0,gT),(0,gT),(0,gT)] 1] [grG g nb N] [] [] (.p (.bool ((c:Int)==0))) =
    some (zD [(NT 0 1),zE 67 [(zf94 N nb g)] [] (.p (.bool true)),(true=true),zE 412 [(zf94 N nb g)] [(0,⟨false,1,c,(fun i=>[.p (.int .i64 (f i))])⟩)] (.ar 1 0 0 c),(((↑c:Int)==0)=((↑c:Int)==0))] [0,1,2,0,2,3,2,2,2,4]):=by kernel_rfl
theorem gRdif (g:Nat→T_Bar) (nb N:Nat) :
    zS Tryz.f386 [rg 2,rm [(1,oc [] (.p (.bool false))),(1,gF),(0,gF),(0,gF),(0,gF),(0,gF)] 1] [grG g nb N] [] [] (.p (.bool false)) =
    some (zD [(NT 0 1),zE 67 [(zf94 N nb g)] [] (.p (.bool false)),(false=false)] [0,1,2,2,2,2,2,2]):=by kernel_rfl
theorem gRdst (g:Nat→T_Bar) (nb N c:Nat) (f:Nat→Int) :
    zS Tryz.f350 [rg 2,rm [(1,oc [] (.p (.bool true))),(1,gT),(0,⟨true,(some ⟨[],[],[],1,[(0,iOb c f)],.ar 1 0 0 c⟩),some true⟩),(0,gT),(0,gT),(0,gT)] 1] [grG g nb N] [] [] (.p (.bool ((c:Int)==0))) =
    some (zD [(NT 0 1),zE 57 [(zf94 N nb g)] [] (.p (.bool true)),(true=true),zE 384 [(zf94 N nb g)] [(0,⟨false,1,c,(fun i=>[.p (.int .i64 (f i))])⟩)] (.ar 1 0 0 c),(((↑c:Int)==0)=((↑c:Int)==0))] [0,1,2,0,2,3,2,2,2,4]):=by kernel_rfl
theorem gRdsf (g:Nat→T_Bar) (nb N:Nat) :
    zS Tryz.f350 [rg 2,rm [(1,oc [] (.p (.bool false))),(1,gF),(0,gF),(0,gF),(0,gF),(0,gF)] 1] [grG g nb N] [] [] (.p (.bool false)) =
    some (zD [(NT 0 1),zE 57 [(zf94 N nb g)] [] (.p (.bool false)),(false=false)] [0,1,2,2,2,2,2,2]):=by kernel_rfl
theorem dl_graph {N nb:Nat} {g:Nat→T_Bar} (hg:isGraphF ((N:Int),(nb,g),())=true) {e:Nat} (he:e<nb):isGraphF ((N:Int),(nb - 1,dlB g e),())=true:=by
  obtain ⟨h1,h2,h3⟩:=graph_in hg
  have ha:=asc_of hg
  refine isG_of h1 (by omega) (fun i hi=>?_) (fun s hs=>?_)
  · unfold dlB
    split
    · exact h3 i (by omega)
    · exact h3 (i+1) (by omega)
  · unfold dlB
    split<;>split
    · exact ha s (by omega)
    · exact asc_lt ha (by omega) (by omega)
    · omega
    · exact ha (s+1) (by omega)
theorem con_gRemove_i {N nb:Nat} {g:Nat→T_Bar} (hg:isGraphF ((N:Int),(nb,g),())=true) (e:Nat) (he:e<nb) :
    zE 303 [grG g nb N,.p (.int .i64 e)] [(0,brOb (nb - 1) (dlB g e))] (.tup [.agg [.p (.int .i64 N),.ar 2 0 0 (nb - 1)],.p (.bool true)]):=by
  obtain ⟨h1,h2,h3⟩:=graph_in hg
  have c1:=con_IsGraph_i ((N:Int),(nb,g),()) (sm_graph (by show nb≤_;omega))
  rw [hg] at c1
  have c2:=con_copyGraph ((N:Int),(nb,g),()) (by show nb≤_;omega)
  have c3:=con_within (e:Int) 0 ((nb:Int) - 1)
  rw [show inB (e:Int) 0 ((nb:Int) - 1)=true by simp [inB];omega] at c3
  refine csZ Tryz.func303 (fun c hc=>?_)
  refine pkD Tryz.func303 hc (gRi g nb N e) ?_
  and_intros
  all_goals (first | exact zH | (exact c2) | (exact c1) | (intros;exact c3) | (exact c3) | (intro t ht;rcases Nat.lt_or_ge t e with h1 | h1;(simp [h1,dlB,cvtL,cvt,tg,tru,All]);((try dsimp only);rw [if_neg (show ¬ t<e by omega)];rw [show t - e+(e+1)=t+1 by omega];simp [show ¬ t<e by omega,dlB,cvtL,cvt,tg,tru,All])))
theorem con_gRemove_s {N nb:Nat} {g:Nat→T_Bar} (hg:isGraphF ((N:Int),(nb,g),())=true) (e:Nat) (he:e<nb) :
    zE 259 [grG g nb N,.p (.int .i64 e)] [(0,brOb (nb - 1) (dlB g e))] (.tup [.agg [.p (.int .i64 N),.ar 2 0 0 (nb - 1)],.p (.bool true)]):=by
  obtain ⟨h1,h2,h3⟩:=graph_in hg
  have c1:=con_IsGraph_s ((N:Int),(nb,g),()) (sm_graph (by show nb≤_;omega))
  rw [hg] at c1
  have hd:(bif bif !true then true else decide ((e:Int)<0) then true else decide ((e:Int)≥(nb:Int)))=false:=by
    rw [decide_eq_false (show ¬ ((e:Int)<0) by omega),decide_eq_false (show ¬ ((e:Int)≥(nb:Int)) by omega)];rfl
  refine csZ Tryz.func259 (fun c hc=>?_)
  refine pkD Tryz.func259 hc (gRs g nb N e) ?_
  and_intros
  all_goals (first | exact zH | (exact c1) | (exact hd) | (intro t ht;rcases Nat.lt_or_ge t e with h1 | h1;(simp [h1,dlB,cvtL,cvt,tg,tru,All]);((try dsimp only);rw [if_neg (show ¬ t<0+e by omega),show t - (0+e)+(e+1)=t+1 by omega];simp [show ¬ t<e by omega,dlB,cvtL,cvt,tg,tru,All])))
noncomputable def rk2 (N nb:Nat) (g:Nat→T_Bar):Nat:=(accI N 2 3 g nb).length
noncomputable def brQ (N nb:Nat) (g:Nat→T_Bar) (e:Nat):Bool:=decide (((rk2 N (nb - 1) (dlB g e):Nat):Int)<((rk2 N nb g:Nat):Int))
noncomputable def brD (N nb:Nat) (g:Nat→T_Bar):Nat→T_IntS
  | 0=>(0,fun _=>0)
  | e+1=>if brQ N nb g e=true then ((brD N nb g e).1+1,fun s=>if s<(brD N nb g e).1 then (brD N nb g e).2 s else e) else brD N nb g e
theorem brD_n (N nb:Nat) (g:Nat→T_Bar):∀ e,(brD N nb g e).1≤e
  | 0=>Nat.le_refl _
  | e+1=>by
    have:=brD_n N nb g e
    simp only [brD]
    split
    · show (brD N nb g e).1+1≤e+1;omega
    · omega
theorem con_gBridges_i {N nb:Nat} {g:Nat→T_Bar} (hg:isGraphF ((N:Int),(nb,g),())=true) :
    zE 420 [grG g nb N,.p (.int .i64 2),.p (.int .i64 3)] [(0,iOb (brD N nb g nb).1 (brD N nb g nb).2)] (.ar 1 0 0 (brD N nb g nb).1):=by
  obtain ⟨h1,h2,h3⟩:=graph_in hg
  have hr:=con_RankOf_i hg 2 3 (by omega) (by omega)
  have hl:=accI_len N 2 3 g nb
  generalize hR:brD N nb g nb=R
  refine csZ Tryz.func420 (fun c hc=>?_)
  have lo:∀ d i,i+d=nb→zR c 420 zf30 (GBi g nb N ((rk2 N nb g:Nat):Int) i (brD N nb g i).1 (brD N nb g i).2) (Post c [(0,iOb R.1 R.2)] (.ar 1 0 0 R.1)):=by
    intro d
    induction d with
    | zero =>
      intro i hi
      obtain rfl:i=nb:=by omega
      rw [hR]
      have hd:decide ((i:Int)<(i:Int))=false:=decide_eq_false (by omega)
      refine pkZ Tryz.func420 hc (gBie g i N _ i R.1 R.2) ?_
      and_intros
      all_goals (first | exact zN | (exact hd) | (intro t ht;simp [All]))
    | succ d ih =>
      intro i hi
      have hd:decide ((i:Int)<(nb:Int))=true:=decide_eq_true (by omega)
      have hrec:=ih (i+1) (by omega)
      have hn:=brD_n N nb g i
      have cr:=con_gRemove_i hg i (by omega)
      have ck:=con_RankOf_i (dl_graph hg (show i<nb by omega)) 2 3 (by omega) (by omega)
      cases hq:brQ N nb g i with
      | true =>
        rw [show brD N nb g (i+1)=((brD N nb g i).1+1,fun s=>if s<(brD N nb g i).1 then (brD N nb g i).2 s else (i:Int)) by simp [brD,hq]] at hrec
        unfold brQ at hq
        generalize brD N nb g i=q at hn hrec ⊢
        refine pcZ hc (gBit g nb N _ ((rk2 N (nb - 1) (dlB g i):Nat):Int) i q.1 q.2) ?_ hrec
        and_intros
        all_goals (first | exact zI | (exact hd) | (exact cr) | (exact ck) | (exact hq) | (intro t ht;by_cases h':t<q.1<;>simp [h',cvtL,cvt,tg,tru,All]) | (simp;omega))
      | false =>
        rw [show brD N nb g (i+1)=brD N nb g i by simp [brD,hq]] at hrec
        unfold brQ at hq
        generalize brD N nb g i=q at hn hrec ⊢
        refine pcZ hc (gBif g nb N _ ((rk2 N (nb - 1) (dlB g i):Nat):Int) i q.1 q.2) ?_ hrec
        and_intros
        all_goals (first | exact zI | (exact hd) | (exact cr) | (exact ck) | (exact hq) | (intro t ht;simp [All]) | (simp;omega))
  refine pcD hc (gBiz g nb N ((rk2 N nb g:Nat):Int)) ?_ (lo nb 0 (by omega))
  and_intros
  all_goals (first | exact zN | (exact hr) | (exact decide_eq_false (by omega)) | (intro t ht;exact absurd ht (Nat.not_lt_zero _)) | (intro t ht;simp [All]))
theorem con_gBridges_s {N nb:Nat} {g:Nat→T_Bar} (hg:isGraphF ((N:Int),(nb,g),())=true) :
    zE 410 [grG g nb N,.p (.int .i64 2),.p (.int .i64 3)] [(0,iOb (brD N nb g nb).1 (brD N nb g nb).2)] (.ar 1 0 0 (brD N nb g nb).1):=by
  obtain ⟨h1,h2,h3⟩:=graph_in hg
  have hr:=con_RankOf_s hg 2 3 (by omega) (by omega)
  have hl:=accI_len N 2 3 g nb
  generalize hR:brD N nb g nb=R
  refine csZ Tryz.func410 (fun c hc=>?_)
  have lo:∀ d i,i+d=nb→zR c 410 zf47 (GBs g nb N ((rk2 N nb g:Nat):Int) i (brD N nb g i).1 (brD N nb g i).2) (Post c [(0,iOb R.1 R.2)] (.ar 1 0 0 R.1)):=by
    intro d
    induction d with
    | zero =>
      intro i hi
      obtain rfl:i=nb:=by omega
      rw [hR]
      have hd:(bif decide ((i:Int)<(i:Int)) then decide (((rk2 N i g:Nat):Int)≥0) else false)=false:=by rw [decide_eq_false (show ¬ ((i:Int)<(i:Int)) by omega)];rfl
      refine pkD Tryz.func410 hc (gBse g i N _ i R.1 R.2) ?_
      and_intros
      all_goals (first | exact zN | (exact hd) | (intro t ht;simp [All]))
    | succ d ih =>
      intro i hi
      have hd:(bif decide ((i:Int)<(nb:Int)) then decide (((rk2 N nb g:Nat):Int)≥0) else false)=true:=by
        rw [decide_eq_true (show ((i:Int)<(nb:Int)) by omega),decide_eq_true (show (((rk2 N nb g:Nat):Int)≥0) by omega)];rfl
      have hrec:=ih (i+1) (by omega)
      have hn:=brD_n N nb g i
      have cr:=con_gRemove_s hg i (by omega)
      have ck:=con_RankOf_s (dl_graph hg (show i<nb by omega)) 2 3 (by omega) (by omega)
      cases hq:brQ N nb g i with
      | true =>
        rw [show brD N nb g (i+1)=((brD N nb g i).1+1,fun s=>if s<(brD N nb g i).1 then (brD N nb g i).2 s else (i:Int)) by simp [brD,hq]] at hrec
        unfold brQ at hq
        generalize brD N nb g i=q at hn hrec ⊢
        refine pcD hc (gBst g nb N _ ((rk2 N (nb - 1) (dlB g i):Nat):Int) i q.1 q.2) ?_ hrec
        and_intros
        all_goals (first | exact zI | (exact hd) | (exact cr) | (exact ck) | (exact hq) | (intro t ht;by_cases h':t<q.1<;>simp [h',cvtL,cvt,tg,tru,All]) | (simp;omega))
      | false =>
        rw [show brD N nb g (i+1)=brD N nb g i by simp [brD,hq]] at hrec
        unfold brQ at hq
        generalize brD N nb g i=q at hn hrec ⊢
        refine pcD hc (gBsf g nb N _ ((rk2 N (nb - 1) (dlB g i):Nat):Int) i q.1 q.2) ?_ hrec
        and_intros
        all_goals (first | exact zI | (exact hd) | (exact cr) | (exact ck) | (exact hq) | (intro t ht;simp [All]) | (simp;omega))
  refine pcD hc (gBsz g nb N ((rk2 N nb g:Nat):Int)) ?_ (lo nb 0 (by omega))
  and_intros
  all_goals (first | exact zN | (exact hr) | (intro t ht;exact absurd ht (Nat.not_lt_zero _)) | (intro t ht;simp [All]))
theorem con_gFragile_i {N nb:Nat} {g:Nat→T_Bar} (hg:isGraphF ((N:Int),(nb,g),())=true) :
    zE 412 [grG g nb N] [(0,iOb (brD N nb g nb).1 (brD N nb g nb).2)] (.ar 1 0 0 (brD N nb g nb).1):=by
  have h:=con_gBridges_i hg
  generalize brD N nb g nb=R at *
  refine csZ Tryz.func412 (fun c hc=>?_)
  refine pkZ Tryz.func412 hc (gFi g nb N R.1 R.2) ?_
  and_intros
  all_goals (first | exact zN | (exact h) | (intro t ht;simp [All]))
theorem con_gFragile_s {N nb:Nat} {g:Nat→T_Bar} (hg:isGraphF ((N:Int),(nb,g),())=true) :
    zE 384 [grG g nb N] [(0,iOb (brD N nb g nb).1 (brD N nb g nb).2)] (.ar 1 0 0 (brD N nb g nb).1):=by
  have h:=con_gBridges_s hg
  generalize brD N nb g nb=R at *
  refine csZ Tryz.func384 (fun c hc=>?_)
  refine pkZ Tryz.func384 hc (gFs g nb N R.1 R.2) ?_
  and_intros
  all_goals (first | exact zN | (exact h) | (intro t ht;simp [All]))
noncomputable def rdB (N nb:Nat) (g:Nat→T_Bar):Bool:=bif frGr ((N:Int),(nb,g),())==0 then (((brD N nb g nb).1:Nat):Int)==0 else false
theorem con_gRedun_i {N nb:Nat} {g:Nat→T_Bar} (hg:isGraphF ((N:Int),(nb,g),())=true):zE 386 [grG g nb N] [] (.p (.bool (rdB N nb g))):=by
  have h2:=(graph_in hg).2.1
  have hr:=con_IsRigid_i ((N:Int),(nb,g),()) (sm_graph (by show nb≤_;omega))
  have h:=con_gFragile_i hg
  unfold rdB
  generalize brD N nb g nb=R at *
  generalize (frGr ((N:Int),(nb,g),())==0)=b at *
  refine csZ Tryz.func386 (fun c hc=>?_)
  cases b with
  | true =>
    refine pkD Tryz.func386 hc (gRdit g nb N R.1 R.2) ?_
    and_intros
    all_goals (first | exact zN | (exact hr) | (exact h) | (simp;done))
  | false =>
    refine pkD Tryz.func386 hc (gRdif g nb N) ?_
    and_intros
    all_goals (first | exact zN | (exact hr) | (simp;done))
theorem con_gRedun_s {N nb:Nat} {g:Nat→T_Bar} (hg:isGraphF ((N:Int),(nb,g),())=true):zE 350 [grG g nb N] [] (.p (.bool (rdB N nb g))):=by
  have h2:=(graph_in hg).2.1
  have hr:=con_IsRigid_s ((N:Int),(nb,g),()) (sm_graph (by show nb≤_;omega))
  have h:=con_gFragile_s hg
  unfold rdB
  generalize brD N nb g nb=R at *
  generalize (frGr ((N:Int),(nb,g),())==0)=b at *
  refine csZ Tryz.func350 (fun c hc=>?_)
  cases b with
  | true =>
    refine pkD Tryz.func350 hc (gRdst g nb N R.1 R.2) ?_
    and_intros
    all_goals (first | exact zN | (exact hr) | (exact h) | (simp;done))
  | false =>
    refine pkD Tryz.func350 hc (gRdsf g nb N) ?_
    and_intros
    all_goals (first | exact zN | (exact hr) | (simp;done))
theorem con_putS {N n:Nat} {h:Nat→T_Bar} (hs:(lstB n h).Pairwise leB) (x:T_Bar) (hn:n≤1000) :
    ∃ r:Nat→T_Bar,lstB (n+1) r=srtL (lstB n h++[x])∧zE 216 [grG h n N,brA x] [(0,brOb (n+1) r)] (.agg [.p (.int .i64 N),.ar 2 0 0 (n+1)]):=by
  have cp:=con_l2Put h n N x (by omega)
  have hl:=insR_list h n x hs
  have hn':=insR_n h n x
  rw [hn'] at cp hl
  exact ⟨_,hl,cp⟩
def agO (g:Nat→T_Bar) (nb N:Nat) (u:T_IntS) (n:Nat) (h:Nat→T_Bar) (i:Nat):St :=
  ⟨[grG g nb N,inL u,.pt 2 0 0 0,.p .any,.pt 2 1 0 0,.p .any,.pt 2 2 0 0]++List.replicate 11 anyA++[inL u,.p (.int .i64 u.1),.p (.int .i64 i)]++List.replicate 31 anyA,[(0,bxG g nb N),(1,z2),(2,gbx N 3 n),(3,brOb n h)],4⟩
def agP (g:Nat→T_Bar) (nb N:Nat) (u:T_IntS) (n:Nat) (h:Nat→T_Bar) (i j:Nat):St :=
  ⟨[grG g nb N,inL u,.pt 2 0 0 0,.p .any,.pt 2 1 0 0,.p .any,.pt 2 2 0 0,.p .any,.p (.int .i64 (u.2 i))]++List.replicate 9 anyA++[inL u,.p (.int .i64 u.1),.p (.int .i64 i)]++List.replicate 7 anyA ++
    [.p (.seq true 1 (u.1 - (i+1)) (fun s=>[.int .i64 (u.2 (s+(i+1)))])),.p (.int .i64 ((u.1 - (i+1):Nat):Int)),.p (.int .i64 j)]++List.replicate 21 anyA,[(0,bxG g nb N),(1,z2),(2,gbx N 3 n),(3,brOb n h)],4⟩
def ahO (g:Nat→T_Bar) (nb N:Nat) (u:T_IntS) (n:Nat) (h:Nat→T_Bar) (i:Nat):St :=
  ⟨[grG g nb N,inL u,.pt 2 0 0 0,.p .any,.pt 2 1 0 0,.p .any,.pt 2 2 0 0,.p (.int .i64 i)]++List.replicate 49 anyA,[(0,bxG g nb N),(1,z2),(2,gbx N 3 n),(3,brOb n h)],4⟩
def ahP (g:Nat→T_Bar) (nb N:Nat) (u:T_IntS) (n:Nat) (h:Nat→T_Bar) (i k:Nat):St :=
  ⟨[grG g nb N,inL u,.pt 2 0 0 0,.p .any,.pt 2 1 0 0,.p .any,.pt 2 2 0 0,.p (.int .i64 i),.p (.int .i64 k)]++List.replicate 48 anyA,[(0,bxG g nb N),(1,z2),(2,gbx N 3 n),(3,brOb n h)],4⟩
theorem agn (v:T_Graph) (u:T_IntS) :
    zS Tryz.f220 [rg 3,rm [(2,oc [] (.p (.bool false)))] 1,.dec true,rg 3] [graphA v,inL u] [] [(0,brOb 0 (fun _=>(0,0,())))] (zf110) =
    some [(NT 0 1),zE 107 [(zf91 v),.p (.seq true 1 u.1 (iRw u))] [] (.p (.bool false)),((!false)=true),(NT 0 1),((true=true)→ (AN 1)),(NT 0 1),(AI 0),(AN 0),(false=false),(AN 0),(AE 0)]:=by kernel_rfl
theorem agz (g:Nat→T_Bar) (nb N:Nat) (u:T_IntS) :
    zT Tryz.f220 [rg 3,rm [(2,oc [] (.p (.bool true)))] 1,.dec false,rm [(1,oc [(0,brOb nb g)] (.agg [.p (.int .i64 N),.ar 2 0 0 nb]))] 2,rg 3,.head] [grG g nb N,inL u] [0,32,288,256] (agO g nb N u nb g 0) =
    some (zf48,zD [(NT 0 1),zE 107 [(zf94 N nb g),.p (.seq true 1 u.1 (iRw u))] [] (.p (.bool true)),((!true)=false),zE 63 [(zf94 N nb g)] (zf99 nb g) (.agg [.p (.int .i64 (↑N:Int)),.ar 2 0 0 nb]),((true=true)→ (AN 1)),(AI ((↑N:Int))),(AN nb),(AP nb (bRw g)),(AN u.1),(AP u.1 (iRw u)),(AN 0),(AI ((↑u.1:Int))),((0:Int)=(↑0:Int)),((([AV.p (PV.int IntKind.i64 (↑N:Int)),brL g nb].length):Nat)=2),(NL 1 1),((((List.map (fun v=>AV.p (absV v)) [Value.int IntKind.i64 0,Value.slice none 0 0]).length):Nat)=2),(AI 0),(AN 2),(NL nb nb),(AA nb (fun i=>[.p (.int .i64 ((g i).1)),.p (.int .i64 ((g i).2.1))]))] [0,1,2,0,3,0,4,5,6,7,8,9,10,10,10,8,9,11,12,13,14,14,5,6,7,15,14,14,16,15,14,14,5,10,6,17,18,19]):=by kernel_rfl
theorem aga (g:Nat→T_Bar) (nb N:Nat) (u:T_IntS) (n:Nat) (h:Nat→T_Bar) (i:Nat) :
    zM 0 [rg 1,.dec true,rg 5,rg 6,.head] zf48 (agO g nb N u n h i) [0,1,2,3] 1 (agP g nb N u n h i 0) =
    some (zf11,zD [((decide ((↑i:Int)<(↑u.1:Int)))=true),(IL 0 (↑i:Int)),(IT (↑i:Int) (↑u.1:Int)),(ZLo ((↑i:Int)+1)),(ZHi ((↑i:Int)+1)),(IL 0 ((↑i:Int)+1)),(IL ((↑i:Int)+1) (↑u.1:Int)),(IL (↑u.1:Int) (↑u.1:Int)),(AI ((↑N:Int))),(AN nb),(AP nb (bRw g)),(AN u.1),(AP u.1 (iRw u)),(AN 0),(AI ((u.2 i))),(AI ((↑u.1:Int))),(AI ((↑i:Int))),(AN ((u.1 - (i+1)))),(AP ((u.1 - (i+1))) (fun i_1=>[.int .i64 (u.2 (i_1+(i+1)))])),(AI ((↑(u.1 - (i+1)):Int))),((0:Int)=(↑0:Int)),(AN 2),(NL 1 1),(AI 0),(AN n),(NL n n),(AA n (fun i_1=>[.p (.int .i64 ((h i_1).1)),.p (.int .i64 ((h i_1).2.1))]))] [0,1,2,3,4,5,6,7,8,9,10,11,12,13,13,13,14,11,12,15,16,17,18,19,20,21,22,22,8,9,10,21,22,22,23,21,22,22,8,13,24,21,25,26]):=by kernel_rfl
theorem agt (g:Nat→T_Bar) (nb N:Nat) (u:T_IntS) (n:Nat) (h:Nat→T_Bar) (i j:Nat) (c:Int) (x:T_Bar) (r:Nat→T_Bar) :
    zM 0 [rg 1,.dec true,rg 3,rm [(3,oc [] (.p (.int .i64 c)))] 1,.dec true,rm [(3,oc [] (.agg [.p (.int .i64 x.1),.p (.int .i64 x.2.1)])),(1,oc [(0,brOb (n+1) r)] (.agg [.p (.int .i64 N),.ar 2 0 0 (n+1)]))] 1,rg 2,.head] zf11 (agP g nb N u n h i j) [0,1,2,452] 1 (agP g nb N u (n+1) r i (j+1)) =
    some (zf11,zD [((decide ((↑j:Int)<(↑(u.1 - (i+1)):Int)))=true),(IL 0 (↑j:Int)),(IT (↑j:Int) (↑(u.1 - (i+1)):Int)),(NT 0 1),zE 309 [(zf92 N nb g),.p (.int .i64 (u.2 i)),.p (.int .i64 (u.2 (j+(i+1))))] [] (.p (.int .i64 c)),((c==0)=true),zE 290 [.p (.int .i64 (u.2 i)),.p (.int .i64 (u.2 (j+(i+1))))] [] (.agg [.p (.int .i64 x.1),.p (.int .i64 x.2.1)]),(AN 2),(NL n n),(NL 1 1),zE 225 [(zf92 N n h),.p (.seq true 2 1 (fun i_1=>[.int .i64 x.1,.int .i64 x.2.1]))] (zf98 n r) (.agg [.p (.int .i64 (↑N:Int)),.ar 2 0 0 (n+1)]),((true=true)→ (AN 1)),(ZLo ((↑j:Int)+1)),(ZHi ((↑j:Int)+1)),(AI ((↑N:Int))),(AN nb),(AP nb (bRw g)),(AN u.1),(AP u.1 (iRw u)),(AN 0),(AI ((u.2 i))),(AI ((↑u.1:Int))),(AI ((↑i:Int))),(AN ((u.1 - (i+1)))),(AP ((u.1 - (i+1))) (fun i_1=>[.int .i64 (u.2 (i_1+(i+1)))])),(AI ((↑(u.1 - (i+1)):Int))),((((↑j:Int)+1):Int)=(↑(j+1):Int)),(AI 0),(AN ((n+1))),(NL (n+1) (n+1)),(AA ((n+1)) (fun i_1=>[.p (.int .i64 ((r i_1).1)),.p (.int .i64 ((r i_1).2.1))]))] [0,1,2,3,4,5,3,6,7,8,7,9,10,3,11,12,13,14,15,16,17,18,19,19,19,20,17,18,21,22,23,24,25,26,7,9,9,14,15,16,7,9,9,27,7,9,9,14,19,28,7,29,30]):=by kernel_rfl
theorem agf (g:Nat→T_Bar) (nb N:Nat) (u:T_IntS) (n:Nat) (h:Nat→T_Bar) (i j:Nat) (c:Int) :
    zM 0 [rg 1,.dec true,rg 3,rm [(3,oc [] (.p (.int .i64 c)))] 1,.dec false,rg 2,.head] zf11 (agP g nb N u n h i j) [0,1,2,3] 1 (agP g nb N u n h i (j+1)) =
    some (zf11,zD [((decide ((↑j:Int)<(↑(u.1 - (i+1)):Int)))=true),(IL 0 (↑j:Int)),(IT (↑j:Int) (↑(u.1 - (i+1)):Int)),(NT 0 1),zE 309 [(zf92 N nb g),.p (.int .i64 (u.2 i)),.p (.int .i64 (u.2 (j+(i+1))))] [] (.p (.int .i64 c)),((c==0)=false),(ZLo ((↑j:Int)+1)),(ZHi ((↑j:Int)+1)),(AI ((↑N:Int))),(AN nb),(AP nb (bRw g)),(AN u.1),(AP u.1 (iRw u)),(AN 0),(AI ((u.2 i))),(AI ((↑u.1:Int))),(AI ((↑i:Int))),(AN ((u.1 - (i+1)))),(AP ((u.1 - (i+1))) (fun i_1=>[.int .i64 (u.2 (i_1+(i+1)))])),(AI ((↑(u.1 - (i+1)):Int))),((((↑j:Int)+1):Int)=(↑(j+1):Int)),(AN 2),(NL 1 1),(AI 0),(AN n),(NL n n),(AA n (fun i_1=>[.p (.int .i64 ((h i_1).1)),.p (.int .i64 ((h i_1).2.1))]))] [0,1,2,3,4,5,6,7,8,9,10,11,12,13,13,13,14,11,12,15,16,17,18,19,20,21,22,22,8,9,10,21,22,22,23,21,22,22,8,13,24,21,25,26]):=by kernel_rfl
theorem agx (g:Nat→T_Bar) (nb N:Nat) (u:T_IntS) (n:Nat) (h:Nat→T_Bar) (i j:Nat) :
    zM 0 [rg 1,.dec false,rg 2,.head] zf11 (agP g nb N u n h i j) [0,1,2,3] 1 (agO g nb N u n h (i+1)) =
    some (zf48,zD [((decide ((↑j:Int)<(↑(u.1 - (i+1)):Int)))=false),(ZLo ((↑i:Int)+1)),(ZHi ((↑i:Int)+1)),(AI ((↑N:Int))),(AN nb),(AP nb (bRw g)),(AN u.1),(AP u.1 (iRw u)),(AN 0),(AI ((↑u.1:Int))),((((↑i:Int)+1):Int)=(↑(i+1):Int)),(AN 2),(NL 1 1),(AI 0),(AN n),(NL n n),(AA n (fun i_1=>[.p (.int .i64 ((h i_1).1)),.p (.int .i64 ((h i_1).2.1))]))] [0,1,2,3,4,5,6,7,8,8,8,6,7,9,10,11,12,12,3,4,5,11,12,12,13,11,12,12,3,8,14,11,15,16]):=by kernel_rfl
theorem age (g:Nat→T_Bar) (nb N:Nat) (u:T_IntS) (n:Nat) (h:Nat→T_Bar) (i:Nat) :
    zP Tryz.f220 0 [rg 1,.dec false,rm [(1,oc [] (.p (.bool true)))] 1,.dec false,rg 3] zf48 (agO g nb N u n h i) [3] 1 [(0,brOb n h)] ((zf109 N n)) =
    some [((decide ((↑i:Int)<(↑u.1:Int)))=false),(NT 0 1),(AN 2),(NL n n),zE 62 [(zf92 N n h)] [] (.p (.bool true)),((!true)=false),(NT 0 1),(NT 0 1),((true=true)→ (AN 1)),(NT 0 1),(AI ((↑N:Int))),(AN 0),(AN n),(true=true),(AN 2),(NL n n),(AA n (fun i_1=>[.p (.int .i64 ((h i_1).1)),.p (.int .i64 ((h i_1).2.1))])),(AE n)]:=by kernel_rfl
theorem agy (g:Nat→T_Bar) (nb N:Nat) (u:T_IntS) (n:Nat) (h:Nat→T_Bar) (i:Nat) :
    zP Tryz.f220 0 [rg 1,.dec false,rm [(1,oc [] (.p (.bool false)))] 1,.dec true,rg 3] zf48 (agO g nb N u n h i) [] 1 [(0,brOb 0 (fun _=>(0,0,())))] (zf110) =
    some [((decide ((↑i:Int)<(↑u.1:Int)))=false),(NT 0 1),(AN 2),(NL n n),zE 62 [(zf92 N n h)] [] (.p (.bool false)),((!false)=true),(NT 0 1),((true=true)→ (AN 1)),(NT 0 1),(AI 0),(AN 0),(false=false),(AN 0),(AE 0)]:=by kernel_rfl
theorem ahn (v:T_Graph) (u:T_IntS) :
    zS Tryz.f210 [rg 3,rm [(1,oc [(0,brOb v.2.1.1 v.2.1.2)] (.agg [.p (.int .i64 v.1),.ar 2 0 0 v.2.1.1]))] 2,rm [(2,oc [] (.p (.bool false)))] 1,.dec true,rg 3] [graphA v,inL u] [] [(0,brOb 0 (fun _=>(0,0,())))] (zf110) =
    some (zD [(NT 0 1),zE 52 [(zf91 v)] (zf95 v) (.agg [.p (.int .i64 v.1),.ar 2 0 0 v.2.1.1]),((true=true)→ (AN 1)),zE 100 [(zf91 v),.p (.seq true 1 u.1 (iRw u))] [] (.p (.bool false)),((!false)=true),(AI 0),(AN 0),(false=false),(AE 0)] [0,1,0,2,0,3,4,0,2,0,5,6,7,6,8]):=by kernel_rfl
theorem ahz (g:Nat→T_Bar) (nb N:Nat) (u:T_IntS) :
    zT Tryz.f210 [rg 3,rm [(1,oc [(0,brOb nb g)] (.agg [.p (.int .i64 N),.ar 2 0 0 nb]))] 2,rm [(2,oc [] (.p (.bool true)))] 1,.dec false,rg 1,.head] [grG g nb N,inL u] [0,32,160,128] (ahO g nb N u nb g 0) =
    some (zf49,zD [(NT 0 1),zE 52 [(zf94 N nb g)] (zf99 nb g) (.agg [.p (.int .i64 (↑N:Int)),.ar 2 0 0 nb]),((true=true)→ (AN 1)),zE 100 [(zf94 N nb g),.p (.seq true 1 u.1 (iRw u))] [] (.p (.bool true)),((!true)=false),(AI ((↑N:Int))),(AN nb),(AP nb (bRw g)),(AN u.1),(AP u.1 (iRw u)),(AN 0),((0:Int)=(↑0:Int)),((([AV.p (PV.int IntKind.i64 (↑N:Int)),brL g nb].length):Nat)=2),(NL 1 1),((((List.map (fun v=>AV.p (absV v)) [Value.int IntKind.i64 0,Value.slice none 0 0]).length):Nat)=2),(AI 0),(AN 2),(NL nb nb),(AA nb (fun i=>[.p (.int .i64 ((g i).1)),.p (.int .i64 ((g i).2.1))]))] [0,1,0,2,0,3,4,5,6,7,8,9,10,10,10,11,12,13,13,5,6,7,14,13,13,15,14,13,13,5,10,6,16,17,18]):=by kernel_rfl
theorem aha (g:Nat→T_Bar) (nb N:Nat) (u:T_IntS) (n:Nat) (h:Nat→T_Bar) (i:Nat) :
    zM 0 [rg 4,.dec true,rg 3,.head] zf49 (ahO g nb N u n h i) [0,1,2,3] 1 (ahP g nb N u n h i (i+1)) =
    some (zf14,zD [((decide ((↑i:Int)<(↑u.1:Int)))=true),(ZLo ((↑i:Int)+1)),(ZHi ((↑i:Int)+1)),(AI ((↑N:Int))),(AN nb),(AP nb (bRw g)),(AN u.1),(AP u.1 (iRw u)),(AN 0),(AI ((↑i:Int))),((((↑i:Int)+1):Int)=(↑(i+1):Int)),(AN 2),(NL 1 1),(AI 0),(AN n),(NL n n),(AA n (fun i_1=>[.p (.int .i64 ((h i_1).1)),.p (.int .i64 ((h i_1).2.1))]))] [0,1,2,3,4,5,6,7,8,8,8,9,10,11,12,12,3,4,5,11,12,12,13,11,12,12,3,8,14,11,15,16]):=by kernel_rfl
theorem aht (g:Nat→T_Bar) (nb N:Nat) (u:T_IntS) (n:Nat) (h:Nat→T_Bar) (i k:Nat) (c:Int) (r q:Nat→T_Bar) :
    zM 0 [rg 4,.dec true,rm [(9,oc [] (.p (.int .i64 c)))] 1,.dec true,rm [(10,oc [(0,brOb (n+1) r)] (.agg [.p (.int .i64 N),.ar 2 0 0 (n+1)]))] 1,rg 3,.head] zf14 (ahP g nb N u n h i k) [0,1,2,804] 1 (ahP g nb N u (n+1) q i (k+1)) =
    some (zf14,zD [((decide ((↑k:Int)<(↑u.1:Int)))=true),(NT 0 1),(IL 0 (↑i:Int)),(IT (↑i:Int) (↑u.1:Int)),(IL 0 (↑k:Int)),(IT (↑k:Int) (↑u.1:Int)),(AN 2),(NL n n),zE 196 [(zf92 N n h),.p (.int .i64 (u.2 i)),.p (.int .i64 (u.2 k))] [] (.p (.int .i64 c)),((c==0)=true),zE 216 [(zf92 N n h),.agg [.p (.int .i64 (u.2 i)),.p (.int .i64 (u.2 k))]] (zf98 n r) (.agg [.p (.int .i64 (↑N:Int)),.ar 2 0 0 (n+1)]),((true=true)→ (AN 1)),(ZLo ((↑k:Int)+1)),(ZHi ((↑k:Int)+1)),(AI ((↑N:Int))),(AN nb),(AP nb (bRw g)),(AN u.1),(AP u.1 (iRw u)),(AN 0),(AI ((↑i:Int))),((((↑k:Int)+1):Int)=(↑(k+1):Int)),(NL 1 1),(AI 0),(AN ((n+1))),(NL (n+1) (n+1)),(∀ i_1:Nat,(((i_1:Nat)<(n+1))→(All []∧(([.p (.int .i64 ((r i_1).1)),.p (.int .i64 ((r i_1).2.1))]:List AV)=[.p (.int .i64 ((q i_1).1)),.p (.int .i64 ((q i_1).2.1))]))))] [0,1,2,3,4,5,6,7,8,9,1,2,3,4,5,6,7,10,1,11,12,13,14,15,16,17,18,19,19,19,20,21,6,22,22,14,15,16,6,22,22,23,6,22,22,14,19,24,6,25,26]):=by kernel_rfl
theorem ahf (g:Nat→T_Bar) (nb N:Nat) (u:T_IntS) (n:Nat) (h:Nat→T_Bar) (i k:Nat) (c:Int) :
    zM 0 [rg 4,.dec true,rm [(9,oc [] (.p (.int .i64 c)))] 1,.dec false,rg 3,.head] zf14 (ahP g nb N u n h i k) [0,1,2,3] 1 (ahP g nb N u n h i (k+1)) =
    some (zf14,zD [((decide ((↑k:Int)<(↑u.1:Int)))=true),(NT 0 1),(IL 0 (↑i:Int)),(IT (↑i:Int) (↑u.1:Int)),(IL 0 (↑k:Int)),(IT (↑k:Int) (↑u.1:Int)),(AN 2),(NL n n),zE 196 [(zf92 N n h),.p (.int .i64 (u.2 i)),.p (.int .i64 (u.2 k))] [] (.p (.int .i64 c)),((c==0)=false),(ZLo ((↑k:Int)+1)),(ZHi ((↑k:Int)+1)),(AI ((↑N:Int))),(AN nb),(AP nb (bRw g)),(AN u.1),(AP u.1 (iRw u)),(AN 0),(AI ((↑i:Int))),((((↑k:Int)+1):Int)=(↑(k+1):Int)),(NL 1 1),(AI 0),(AN n),(AA n (fun i_1=>[.p (.int .i64 ((h i_1).1)),.p (.int .i64 ((h i_1).2.1))]))] [0,1,2,3,4,5,6,7,8,9,10,11,12,13,14,15,16,17,17,17,18,19,6,20,20,12,13,14,6,20,20,21,6,20,20,12,17,22,6,7,23]):=by kernel_rfl
theorem ahx (g:Nat→T_Bar) (nb N:Nat) (u:T_IntS) (n:Nat) (h:Nat→T_Bar) (i k:Nat) :
    zM 0 [rg 4,.dec false,rg 3,.head] zf14 (ahP g nb N u n h i k) [0,1,2,3] 1 (ahO g nb N u n h (i+1)) =
    some (zf49,zD [((decide ((↑k:Int)<(↑u.1:Int)))=false),(ZLo ((↑i:Int)+1)),(ZHi ((↑i:Int)+1)),(AI ((↑N:Int))),(AN nb),(AP nb (bRw g)),(AN u.1),(AP u.1 (iRw u)),(AN 0),((((↑i:Int)+1):Int)=(↑(i+1):Int)),(AN 2),(NL 1 1),(AI 0),(AN n),(NL n n),(AA n (fun i_1=>[.p (.int .i64 ((h i_1).1)),.p (.int .i64 ((h i_1).2.1))]))] [0,1,2,3,4,5,6,7,8,8,8,9,10,11,11,3,4,5,10,11,11,12,10,11,11,3,8,13,10,14,15]):=by kernel_rfl
theorem ahe (g:Nat→T_Bar) (nb N:Nat) (u:T_IntS) (n:Nat) (h:Nat→T_Bar) (i:Nat) :
    zP Tryz.f210 0 [rg 4,.dec false,rm [(1,oc [] (.p (.bool true)))] 1,.dec false,rg 3] zf49 (ahO g nb N u n h i) [3] 1 [(0,brOb n h)] ((zf109 N n)) =
    some [((decide ((↑i:Int)<(↑u.1:Int)))=false),(NT 0 1),(AN 2),(NL n n),zE 53 [(zf92 N n h)] [] (.p (.bool true)),((!true)=false),(NT 0 1),(NT 0 1),((true=true)→ (AN 1)),(NT 0 1),(AI ((↑N:Int))),(AN 0),(AN n),(true=true),(AN 2),(NL n n),(AA n (fun i_1=>[.p (.int .i64 ((h i_1).1)),.p (.int .i64 ((h i_1).2.1))])),(AE n)]:=by kernel_rfl
theorem ahy (g:Nat→T_Bar) (nb N:Nat) (u:T_IntS) (n:Nat) (h:Nat→T_Bar) (i:Nat) :
    zP Tryz.f210 0 [rg 4,.dec false,rm [(1,oc [] (.p (.bool false)))] 1,.dec true,rg 3] zf49 (ahO g nb N u n h i) [] 1 [(0,brOb 0 (fun _=>(0,0,())))] (zf110) =
    some [((decide ((↑i:Int)<(↑u.1:Int)))=false),(NT 0 1),(AN 2),(NL n n),zE 53 [(zf92 N n h)] [] (.p (.bool false)),((!false)=true),(NT 0 1),((true=true)→ (AN 1)),(NT 0 1),(AI 0),(AN 0),(false=false),(AN 0),(AE 0)]:=by kernel_rfl
noncomputable def agI (g:Nat→T_Bar) (nb:Nat) (u:T_IntS) (i:Nat) (r:NB):Nat→NB
  | 0=>r
  | j+1=>if cbN g (u.2 i) (u.2 (j+(i+1))) nb=0 then ((agI g nb u i r j).1+1,srtB ((agI g nb u i r j).1+1) (snoc (agI g nb u i r j).1 (agI g nb u i r j).2 (u.2 i,u.2 (j+(i+1)),()))) else agI g nb u i r j
noncomputable def agL (g:Nat→T_Bar) (nb:Nat) (u:T_IntS):Nat→NB
  | 0=>(nb,g)
  | i+1=>agI g nb u i (agL g nb u i) (u.1 - (i+1))
noncomputable def agR (N nb:Nat) (g:Nat→T_Bar) (u:T_IntS):T_Graph×Bool :=
  if isGraphF ((N:Int),((agL g nb u u.1).1,(agL g nb u u.1).2),())=true then (((N:Int),((agL g nb u u.1).1,(agL g nb u u.1).2),()),true) else ((0,(0,fun _=>(0,0,())),()),false)
noncomputable def agV (v:T_Graph) (u:T_IntS):T_Graph×Bool:=if anF v u=true then agR v.1.toNat v.2.1.1 v.2.1.2 u else ((0,(0,fun _=>(0,0,())),()),false)
def agA (R:T_Graph×Bool):AV:=.tup [.agg [.p (.int .i64 R.1.1),.ar 2 0 0 R.1.2.1.1],.p (.bool R.2)]
theorem agI_n (g:Nat→T_Bar) (nb:Nat) (u:T_IntS) (i:Nat) (r:NB):∀ j,(agI g nb u i r j).1≤r.1+j
  | 0=>Nat.le_refl _
  | j+1=>by
    have:=agI_n g nb u i r j
    simp only [agI]
    split
    · show (agI g nb u i r j).1+1≤_;omega
    · omega
theorem agL_n (g:Nat→T_Bar) (nb:Nat) (u:T_IntS) (h8:u.1≤8):∀ i,(agL g nb u i).1≤nb+i*8
  | 0=>by show nb≤_;omega
  | i+1=>by
    have:=agL_n g nb u h8 i
    have:=agI_n g nb u i (agL g nb u i) (u.1 - (i+1))
    simp only [agL]
    omega
theorem cbN_count (g:Nat→T_Bar) (a b:Int):∀ n,cbN g a b n=(lstB n g).countP (fun x=>hitB x a b)
  | 0=>rfl
  | n+1=>by
    rw [lstB_succ,List.countP_append,← cbN_count g a b n]
    simp only [cbN,List.countP_cons,List.countP_nil]
    split<;>omega
theorem cbN_ins (n:Nat) (h:Nat→T_Bar) (x:T_Bar) (a b:Int) (hx:hitB x a b=false):cbN (srtB (n+1) (snoc n h x)) a b (n+1)=cbN h a b n:=by
  rw [cbN_count,cbN_count,lstB_srt,(srtL_perm _).countP_eq,lstB_snoc,List.countP_append]
  simp [hx]
def AscU (u:T_IntS):Prop:=∀ i,i<u.1→∀ j,j<i→u.2 j<u.2 i
theorem hit_no {u:T_IntS} (ha:AscU u) {i k i' k':Nat} (h1:i<k) (h2:k<u.1) (h3:i'<k') (h4:k'<u.1) (hne:¬ (i=i'∧k=k')):hitB (u.2 i,u.2 k,()) (u.2 i') (u.2 k')=false:=by
  have key:∀ a b,a<u.1→b<u.1→u.2 a=u.2 b→a=b:=by
    intro a b h h' e
    rcases Nat.lt_trichotomy a b with q | q | q
    · have:=ha b h' a q;omega
    · exact q
    · have:=ha a h b q;omega
  have n1:¬ (u.2 i=u.2 i'∧u.2 k=u.2 k'):=fun h=>hne ⟨key i i' (by omega) (by omega) h.1,key k k' h2 h4 h.2⟩
  have n2:¬ (u.2 i=u.2 k'∧u.2 k=u.2 i'):=fun h=>by
    have:=key i k' (by omega) h4 h.1
    have:=key k i' h2 (by omega) h.2
    omega
  unfold hitB
  show (bif bif u.2 i==u.2 i' then u.2 k==u.2 k' else false then true else bif u.2 i==u.2 k' then u.2 k==u.2 i' else false)=false
  have e1:(bif u.2 i==u.2 i' then u.2 k==u.2 k' else false)=false:=by
    cases h5:(u.2 i==u.2 i') with
    | false=>rfl
    | true =>
      cases h6:(u.2 k==u.2 k') with
      | false=>rfl
      | true=>exact absurd ⟨beq_iff_eq.1 h5,beq_iff_eq.1 h6⟩ n1
  have e2:(bif u.2 i==u.2 k' then u.2 k==u.2 i' else false)=false:=by
    cases h5:(u.2 i==u.2 k') with
    | false=>rfl
    | true =>
      cases h6:(u.2 k==u.2 i') with
      | false=>rfl
      | true=>exact absurd ⟨beq_iff_eq.1 h5,beq_iff_eq.1 h6⟩ n2
  rw [e1,e2];rfl
theorem agI_c {g:Nat→T_Bar} {nb:Nat} {u:T_IntS} (ha:AscU u) {i:Nat} {r:NB}
    (hr:∀ i' k',i≤i'→i'<k'→k'<u.1→cbN r.2 (u.2 i') (u.2 k') r.1=cbN g (u.2 i') (u.2 k') nb) :
    ∀ j,j≤u.1 - (i+1)→∀ i' k',(i<i'∨(i=i'∧j+(i+1)≤k'))→i'<k'→k'<u.1→cbN (agI g nb u i r j).2 (u.2 i') (u.2 k') (agI g nb u i r j).1=cbN g (u.2 i') (u.2 k') nb
  | 0,_,i',k',h1,h2,h3=>hr i' k' (by omega) h2 h3
  | j+1,hj,i',k',h1,h2,h3=>by
    have ih:=agI_c ha hr j (by omega) i' k' (by omega) h2 h3
    simp only [agI]
    split
    · show cbN (srtB _ (snoc _ _ (u.2 i,u.2 (j+(i+1)),()))) (u.2 i') (u.2 k') (_+1)=_
      rw [cbN_ins _ _ _ _ _ (hit_no ha (show i<j+(i+1) by omega) (by omega) h2 h3 (by omega)),ih]
    · exact ih
theorem agL_c {g:Nat→T_Bar} {nb:Nat} {u:T_IntS} (ha:AscU u):∀ i,i≤u.1→∀ i' k',i≤i'→i'<k'→k'<u.1→cbN (agL g nb u i).2 (u.2 i') (u.2 k') (agL g nb u i).1=cbN g (u.2 i') (u.2 k') nb
  | 0,_,i',k',_,_,_=>rfl
  | i+1,hi,i',k',h1,h2,h3=>agI_c ha (agL_c ha i (by omega)) (u.1 - (i+1)) (Nat.le_refl _) i' k' (by omega) h2 h3
theorem agI_s {g:Nat→T_Bar} {nb:Nat} {u:T_IntS} {i:Nat} {r:NB} (hr:(lstB r.1 r.2).Pairwise leB):∀ j,(lstB (agI g nb u i r j).1 (agI g nb u i r j).2).Pairwise leB
  | 0=>hr
  | j+1=>by
    simp only [agI]
    split
    · show (lstB (_+1) (srtB (_+1) _)).Pairwise leB
      rw [lstB_srt];exact srtL_sorted _
    · exact agI_s hr j
theorem agL_s {g:Nat→T_Bar} {nb:Nat} {u:T_IntS} (hr:(lstB nb g).Pairwise leB):∀ i,(lstB (agL g nb u i).1 (agL g nb u i).2).Pairwise leB
  | 0=>hr
  | i+1=>agI_s (agL_s hr i) _
theorem con_AncG_i {N nb:Nat} {g:Nat→T_Bar} {u:T_IntS} (hA:anF ((N:Int),(nb,g),()) u=true) :
    zE 220 [grG g nb N,inL u] [(0,brOb (agR N nb g u).1.2.1.1 (agR N nb g u).1.2.1.2)] (agA (agR N nb g u)):=by
  obtain ⟨hg,hu,hin⟩:=anF_in hA
  obtain ⟨h1,h2,hok⟩:=graph_in hg
  have hsm:smS s_Graph ((N:Int),(nb,g),()):=sm_graph (by show nb≤_;omega)
  have ca:zE 107 [grG g nb N,inL u] [] (.p (.bool true)):=by
    have:=con_Anch_i ((N:Int),(nb,g),()) hsm u (by omega)
    rw [hA] at this;exact this
  have cc:=con_copyG N nb g (by omega)
  have hun:=agL_n g nb u (by omega)
  refine csZ Tryz.func220 (fun c hc=>?_)
  generalize hX:agR N nb g u=X
  have he:zR c 220 zf48 (agO g nb N u (agL g nb u u.1).1 (agL g nb u u.1).2 u.1) (Post c [(0,brOb X.1.2.1.1 X.1.2.1.2)] (agA X)):=by
    have hd:decide ((u.1:Int)<(u.1:Int))=false:=decide_eq_false (by omega)
    have hn:=hun u.1
    have cg:=con_IsGraph_i ((N:Int),((agL g nb u u.1).1,(agL g nb u u.1).2),()) (sm_graph (by show (agL g nb u u.1).1≤_;omega))
    rw [← hX]
    unfold agR
    cases hgr:isGraphF ((N:Int),((agL g nb u u.1).1,(agL g nb u u.1).2),()) with
    | true =>
      rw [hgr] at cg
      rw [if_pos rfl]
      refine pkZ Tryz.func220 hc (age g nb N u _ _ u.1) ?_
      and_intros
      all_goals (first | exact zI | (exact hd) | (exact cg) | (intro t ht;simp [All]))
    | false =>
      rw [hgr] at cg
      rw [if_neg Bool.false_ne_true]
      refine pkZ Tryz.func220 hc (agy g nb N u _ _ u.1) ?_
      and_intros
      all_goals (first | exact zI | (exact hd) | (exact cg) | (intro t ht;exact absurd ht (Nat.not_lt_zero _)) | (intro t ht;simp [All]))
  have li:∀ i,i<u.1→(zR c 220 zf48 (agO g nb N u (agL g nb u (i+1)).1 (agL g nb u (i+1)).2 (i+1)) (Post c [(0,brOb X.1.2.1.1 X.1.2.1.2)] (agA X))) →
      ∀ d j,j+d=u.1 - (i+1)→zR c 220 zf11 (agP g nb N u (agI g nb u i (agL g nb u i) j).1 (agI g nb u i (agL g nb u i) j).2 i j) (Post c [(0,brOb X.1.2.1.1 X.1.2.1.2)] (agA X)):=by
    intro i hi hk d
    induction d with
    | zero =>
      intro j hj
      obtain rfl:j=u.1 - (i+1):=by omega
      have hd:decide (((u.1 - (i+1):Nat):Int)<((u.1 - (i+1):Nat):Int))=false:=by simp
      refine pcD hc (agx g nb N u _ _ i (u.1 - (i+1))) ?_ hk
      and_intros
      all_goals (first | exact zN | (exact hd) | (intro t ht;simp [All]))
    | succ d ih =>
      intro j hj
      have hd:decide ((j:Int)<((u.1 - (i+1):Nat):Int))=true:=decide_eq_true (by omega)
      have hlt:=(hin (j+(i+1)) (by omega)).2.2 i (by omega)
      have cb:=con_barX (u.2 i) (u.2 (j+(i+1)))
      rw [show brX (u.2 i) (u.2 (j+(i+1)))=(u.2 i,u.2 (j+(i+1)),()) by unfold brX;rw [if_neg (by omega),if_pos (by omega)]] at cb
      have hn:=agI_n g nb u i (agL g nb u i) j
      have hn2:=hun i
      have hcb:zE 309 [grG g nb N,.p (.int .i64 (u.2 i)),.p (.int .i64 (u.2 (j+(i+1))))] [] (.p (.int .i64 (cbN g (u.2 i) (u.2 (j+(i+1))) nb))):=con_CountBar_i ((N:Int),(nb,g),()) hsm _ _
      have hrec:=ih (j+1) (by omega)
      by_cases hh:cbN g (u.2 i) (u.2 (j+(i+1))) nb=0
      · have hq:((cbN g (u.2 i) (u.2 (j+(i+1))) nb:Int)==0)=true:=by rw [hh];rfl
        rw [show agI g nb u i (agL g nb u i) (j+1)=((agI g nb u i (agL g nb u i) j).1+1,srtB ((agI g nb u i (agL g nb u i) j).1+1) (snoc (agI g nb u i (agL g nb u i) j).1 (agI g nb u i (agL g nb u i) j).2 (u.2 i,u.2 (j+(i+1)),()))) by simp only [agI,hh,if_true]] at hrec
        generalize agI g nb u i (agL g nb u i) j=q at hn hrec ⊢
        have cw:=con_withOne N q.1 q.2 (u.2 i,u.2 (j+(i+1)),()) (by omega)
        refine pcD hc (agt g nb N u q.1 q.2 i j (cbN g (u.2 i) (u.2 (j+(i+1))) nb) (u.2 i,u.2 (j+(i+1)),()) _) ?_ hrec
        and_intros
        all_goals (first | exact zI | (exact hd) | (exact hcb) | (exact hq) | (exact cb) | (exact cw) | (intro t ht;simp [All];done) | (simp;omega))
      · have hq:((cbN g (u.2 i) (u.2 (j+(i+1))) nb:Int)==0)=false:=beq_eq_false_iff_ne.2 (fun h=>hh (Int.ofNat_eq_zero.1 h))
        rw [show agI g nb u i (agL g nb u i) (j+1)=agI g nb u i (agL g nb u i) j by simp only [agI,hh,if_false]] at hrec
        generalize agI g nb u i (agL g nb u i) j=q at hn hrec ⊢
        refine pcD hc (agf g nb N u q.1 q.2 i j (cbN g (u.2 i) (u.2 (j+(i+1))) nb)) ?_ hrec
        and_intros
        all_goals (first | exact zN | (exact hd) | (exact hcb) | (exact hq) | (intro t ht;simp [All];done) | (simp;omega))
  have lo:∀ d i,i+d=u.1→zR c 220 zf48 (agO g nb N u (agL g nb u i).1 (agL g nb u i).2 i) (Post c [(0,brOb X.1.2.1.1 X.1.2.1.2)] (agA X)):=by
    intro d
    induction d with
    | zero =>
      intro i hi
      obtain rfl:i=u.1:=by omega
      exact he
    | succ d ih =>
      intro i hi
      have hd:decide ((i:Int)<(u.1:Int))=true:=decide_eq_true (by omega)
      refine pcD hc (aga g nb N u _ _ i) ?_ (li i (by omega) (ih (i+1) (by omega)) (u.1 - (i+1)) 0 (by omega))
      and_intros
      all_goals (first | exact zN | (exact hd) | (intro t ht;simp [All]))
  refine pcD hc (agz g nb N u) ?_ (lo u.1 0 (by omega))
  and_intros
  all_goals (first | exact zI | (exact ca) | (exact cc) | (intro t ht;simp [All];done) | (simp;omega))
theorem con_AncG_s {N nb:Nat} {g:Nat→T_Bar} {u:T_IntS} (hA:anF ((N:Int),(nb,g),()) u=true) :
    zE 210 [grG g nb N,inL u] [(0,brOb (agR N nb g u).1.2.1.1 (agR N nb g u).1.2.1.2)] (agA (agR N nb g u)):=by
  obtain ⟨hg,hu,hin⟩:=anF_in hA
  obtain ⟨h1,h2,hok⟩:=graph_in hg
  have hasc:AscU u:=fun i hi=>(hin i hi).2.2
  have hsm:smS s_Graph ((N:Int),(nb,g),()):=sm_graph (by show nb≤_;omega)
  have ca:zE 100 [grG g nb N,inL u] [] (.p (.bool true)):=by
    have:=con_Anch_s ((N:Int),(nb,g),()) hsm u (by omega)
    rw [hA] at this;exact this
  have cc:zE 52 [grG g nb N] [(0,brOb nb g)] (.agg [.p (.int .i64 N),.ar 2 0 0 nb]):=con_l2Copy ((N:Int),(nb,g),()) (by show nb≤_;omega)
  have hun:=agL_n g nb u (by omega)
  have hst:=agL_s (g:=g) (nb:=nb) (u:=u) (goodB_sorted (graph_inR hg).2.2.2)
  refine csZ Tryz.func210 (fun c hc=>?_)
  generalize hX:agR N nb g u=X
  have he:zR c 210 zf49 (ahO g nb N u (agL g nb u u.1).1 (agL g nb u u.1).2 u.1) (Post c [(0,brOb X.1.2.1.1 X.1.2.1.2)] (agA X)):=by
    have hd:decide ((u.1:Int)<(u.1:Int))=false:=decide_eq_false (by omega)
    have hn:=hun u.1
    have cg:=con_IsGraph_s ((N:Int),((agL g nb u u.1).1,(agL g nb u u.1).2),()) (sm_graph (by show (agL g nb u u.1).1≤_;omega))
    rw [← hX]
    unfold agR
    cases hgr:isGraphF ((N:Int),((agL g nb u u.1).1,(agL g nb u u.1).2),()) with
    | true =>
      rw [hgr] at cg
      rw [if_pos rfl]
      refine pkZ Tryz.func210 hc (ahe g nb N u _ _ u.1) ?_
      and_intros
      all_goals (first | exact zI | (exact hd) | (exact cg) | (intro t ht;simp [All]))
    | false =>
      rw [hgr] at cg
      rw [if_neg Bool.false_ne_true]
      refine pkZ Tryz.func210 hc (ahy g nb N u _ _ u.1) ?_
      and_intros
      all_goals (first | exact zI | (exact hd) | (exact cg) | (intro t ht;exact absurd ht (Nat.not_lt_zero _)) | (intro t ht;simp [All]))
  have li:∀ i,i<u.1→(zR c 210 zf49 (ahO g nb N u (agL g nb u (i+1)).1 (agL g nb u (i+1)).2 (i+1)) (Post c [(0,brOb X.1.2.1.1 X.1.2.1.2)] (agA X))) →
      ∀ d j,j+d=u.1 - (i+1)→zR c 210 zf14 (ahP g nb N u (agI g nb u i (agL g nb u i) j).1 (agI g nb u i (agL g nb u i) j).2 i (j+(i+1))) (Post c [(0,brOb X.1.2.1.1 X.1.2.1.2)] (agA X)):=by
    intro i hi hk d
    induction d with
    | zero =>
      intro j hj
      obtain rfl:j=u.1 - (i+1):=by omega
      have hd:decide (((u.1 - (i+1)+(i+1):Nat):Int)<(u.1:Int))=false:=decide_eq_false (by omega)
      refine pcD hc (ahx g nb N u _ _ i (u.1 - (i+1)+(i+1))) ?_ hk
      and_intros
      all_goals (first | exact zN | (exact hd) | (intro t ht;simp [All]))
    | succ d ih =>
      intro j hj
      have hd:decide (((j+(i+1):Nat):Int)<(u.1:Int))=true:=decide_eq_true (by omega)
      have hn:=agI_n g nb u i (agL g nb u i) j
      have hn2:=hun i
      have hcnt:=agI_c hasc (agL_c (g:=g) (nb:=nb) hasc i (by omega)) j (by omega) i (j+(i+1)) (by omega) (by omega) (by omega)
      have hsrt:=agI_s (g:=g) (nb:=nb) (u:=u) (i:=i) (hst i) j
      have hrec:=ih (j+1) (by omega)
      rw [show j+1+(i+1)=j+(i+1)+1 by omega] at hrec
      by_cases hh:cbN g (u.2 i) (u.2 (j+(i+1))) nb=0
      · have hq:((cbN g (u.2 i) (u.2 (j+(i+1))) nb:Int)==0)=true:=by rw [hh];rfl
        rw [show agI g nb u i (agL g nb u i) (j+1)=((agI g nb u i (agL g nb u i) j).1+1,srtB ((agI g nb u i (agL g nb u i) j).1+1) (snoc (agI g nb u i (agL g nb u i) j).1 (agI g nb u i (agL g nb u i) j).2 (u.2 i,u.2 (j+(i+1)),()))) by simp only [agI,hh,if_true]] at hrec
        generalize agI g nb u i (agL g nb u i) j=q at hn hrec hcnt hsrt ⊢
        have hcb:zE 196 [grG q.2 q.1 N,.p (.int .i64 (u.2 i)),.p (.int .i64 (u.2 (j+(i+1))))] [] (.p (.int .i64 (cbN q.2 (u.2 i) (u.2 (j+(i+1))) q.1))):=con_CountBar_s ((N:Int),(q.1,q.2),()) (sm_graph (by show q.1≤_;omega)) _ _
        rw [hcnt] at hcb
        obtain ⟨r,hr,cw⟩:=con_putS (N:=N) hsrt (u.2 i,u.2 (j+(i+1)),()) (show q.1≤1000 by omega)
        have hrr:∀ t,t<q.1+1→r t=srtB (q.1+1) (snoc q.1 q.2 (u.2 i,u.2 (j+(i+1)),())) t:=lstB_inj (by rw [lstB_srt,lstB_snoc];exact hr)
        refine pcD hc (aht g nb N u q.1 q.2 i (j+(i+1)) (cbN g (u.2 i) (u.2 (j+(i+1))) nb) r _) ?_ hrec
        and_intros
        iterate 2 all_goals (first | exact zI | (exact hd) | (exact hcb) | (exact hq) | (exact cw) | (intro t ht;simp [hrr t ht,cvtL,cvt,tg,tru,All];done) | (intro t ht;simp [All];done) | (simp;omega) | simp only [All])
      · have hq:((cbN g (u.2 i) (u.2 (j+(i+1))) nb:Int)==0)=false:=beq_eq_false_iff_ne.2 (fun h=>hh (Int.ofNat_eq_zero.1 h))
        rw [show agI g nb u i (agL g nb u i) (j+1)=agI g nb u i (agL g nb u i) j by simp only [agI,hh,if_false]] at hrec
        generalize agI g nb u i (agL g nb u i) j=q at hn hrec hcnt ⊢
        have hcb:zE 196 [grG q.2 q.1 N,.p (.int .i64 (u.2 i)),.p (.int .i64 (u.2 (j+(i+1))))] [] (.p (.int .i64 (cbN q.2 (u.2 i) (u.2 (j+(i+1))) q.1))):=con_CountBar_s ((N:Int),(q.1,q.2),()) (sm_graph (by show q.1≤_;omega)) _ _
        rw [hcnt] at hcb
        refine pcD hc (ahf g nb N u q.1 q.2 i (j+(i+1)) (cbN g (u.2 i) (u.2 (j+(i+1))) nb)) ?_ hrec
        and_intros
        all_goals (first | exact zN | (exact hd) | (exact hcb) | (exact hq) | (intro t ht;simp [All];done) | (simp;omega))
  have lo:∀ d i,i+d=u.1→zR c 210 zf49 (ahO g nb N u (agL g nb u i).1 (agL g nb u i).2 i) (Post c [(0,brOb X.1.2.1.1 X.1.2.1.2)] (agA X)):=by
    intro d
    induction d with
    | zero =>
      intro i hi
      obtain rfl:i=u.1:=by omega
      exact he
    | succ d ih =>
      intro i hi
      have hd:decide ((i:Int)<(u.1:Int))=true:=decide_eq_true (by omega)
      have hli:=li i (by omega) (ih (i+1) (by omega)) (u.1 - (i+1)) 0 (by omega)
      rw [show 0+(i+1)=i+1 by omega] at hli
      refine pcD hc (aha g nb N u _ _ i) ?_ hli
      and_intros
      all_goals (first | exact zN | (exact hd) | (intro t ht;simp [All];done) | (simp;omega))
  refine pcD hc (ahz g nb N u) ?_ (lo u.1 0 (by omega))
  and_intros
  all_goals (first | exact zI | (exact ca) | (exact cc) | (intro t ht;simp [All];done) | (simp;omega))
theorem con_AncV_i (v:T_Graph) (hs:smS s_Graph v) (u:T_IntS) (hu:u.1≤1048576) :
    zE 220 [graphA v,inL u] [(0,brOb (agV v u).1.2.1.1 (agV v u).1.2.1.2)] (agA (agV v u)):=by
  unfold agV
  cases hA:anF v u with
  | true =>
    rw [if_pos rfl]
    have hN:((v.1.toNat:Nat):Int)=v.1:=by
      have h2:=hA
      unfold anF simpleF at h2
      simp only [Bool.and_eq_true] at h2
      have:=graph_inR h2.2.2
      omega
    have:=con_AncG_i (N:=v.1.toNat) (nb:=v.2.1.1) (g:=v.2.1.2) (u:=u) (by rw [hN];exact hA)
    unfold grG at this
    rw [hN] at this
    exact this
  | false =>
    rw [if_neg Bool.false_ne_true]
    have ca:=con_Anch_i v hs u hu
    rw [hA] at ca
    refine csZ Tryz.func220 (fun c hc=>?_)
    refine pkZ Tryz.func220 hc (agn v u) ?_
    and_intros
    all_goals (first | exact zI | (exact ca) | (intro t ht;exact absurd ht (Nat.not_lt_zero _)) | (intro t ht;simp [All]))
theorem con_AncV_s (v:T_Graph) (hs:smS s_Graph v) (u:T_IntS) (hu:u.1≤1048576) :
    zE 210 [graphA v,inL u] [(0,brOb (agV v u).1.2.1.1 (agV v u).1.2.1.2)] (agA (agV v u)):=by
  have hn:v.2.1.1≤1048576:=hs.2.1.1
  unfold agV
  cases hA:anF v u with
  | true =>
    rw [if_pos rfl]
    have hN:((v.1.toNat:Nat):Int)=v.1:=by
      have h2:=hA
      unfold anF simpleF at h2
      simp only [Bool.and_eq_true] at h2
      have:=graph_inR h2.2.2
      omega
    have:=con_AncG_s (N:=v.1.toNat) (nb:=v.2.1.1) (g:=v.2.1.2) (u:=u) (by rw [hN];exact hA)
    unfold grG at this
    rw [hN] at this
    exact this
  | false =>
    rw [if_neg Bool.false_ne_true]
    have ca:=con_Anch_s v hs u hu
    rw [hA] at ca
    have cc:=con_l2Copy v hn
    refine csZ Tryz.func210 (fun c hc=>?_)
    refine pkD Tryz.func210 hc (ahn v u) ?_
    and_intros
    all_goals (first | exact zI | (exact ca) | (exact cc) | (intro t ht;exact absurd ht (Nat.not_lt_zero _)) | (intro t ht;simp [All]))
def nbx (n:Int):Ob:=⟨true,2,1,fun _=>[.p (.int .i64 n),.p .nil]⟩
def W0 (g:Nat→T_Bar) (nb N:Nat) (S:T_IntS) (v n:Nat) (p:Nat→Int):St :=
  ⟨[grG g nb N,inL S,.pt 2 0 0 0,.p .any,.pt 2 1 0 0,.ar 1 2 0 N,.pt 2 3 0 0]++List.replicate 12 anyA++[.p (.int .i64 N),.p (.int .i64 v)]++List.replicate 56 anyA,[(0,bxG g nb N),(1,z2),(2,iOb N p),(3,nbx n)],4⟩
def W1 (g:Nat→T_Bar) (nb N:Nat) (S:T_IntS) (n:Nat) (p:Nat→Int) (k c:Nat) (h:Nat→T_Bar):St :=
  ⟨[grG g nb N,inL S,.pt 2 0 0 0,.p .any,.pt 2 1 0 0,.ar 1 2 0 N,.pt 2 3 0 0]++List.replicate 38 anyA++[brL g nb,.p (.int .i64 nb),.p (.int .i64 k)]++List.replicate 29 anyA,[(0,bxG g nb N),(1,z2),(2,iOb N p),(3,gbx n 4 c),(4,brOb c h)],5⟩
def V0 (g:Nat→T_Bar) (nb N:Nat) (S:T_IntS) (v n:Nat) (p:Nat→Int):St :=
  ⟨[grG g nb N,inL S,.pt 2 0 0 0,.p .any,.pt 2 1 0 0,.ar 1 2 0 N,.p (.int .i64 n),.p (.int .i64 v)]++List.replicate 75 anyA,[(0,bxG g nb N),(1,z2),(2,iOb N p)],3⟩
def V1 (g:Nat→T_Bar) (nb N:Nat) (S:T_IntS) (n:Nat) (p:Nat→Int) (k c:Nat) (h:Nat→T_Bar):St :=
  ⟨[grG g nb N,inL S,.pt 2 0 0 0,.p .any,.pt 2 1 0 0,.ar 1 2 0 N,.p .any,.p .any,.pt 2 3 0 0,.p (.int .i64 k)]++List.replicate 73 anyA,[(0,bxG g nb N),(1,z2),(2,iOb N p),(3,gbx n 4 c),(4,brOb c h)],5⟩
def C0 (g:Nat→T_Bar) (nb N k w c:Nat) (G:Nat→T_IntS):St :=
  ⟨[grG g nb N,.p (.int .i64 k),.pt 2 0 0 0,.p .any,.p .any,.ar 1 1 0 c]++List.replicate 15 anyA++[.p (.int .i64 (shlI .i64 1 N)),.p (.int .i64 w)]++List.replicate 27 anyA,[(0,bxG g nb N),(1,ssOb c G)],2⟩
def D0 (g:Nat→T_Bar) (nb N k w c:Nat) (G:Nat→T_IntS):St :=
  ⟨[grG g nb N,.p (.int .i64 k),.pt 2 0 0 0,.p .any,.p .any,.ar 1 1 0 c,.p (.int .i64 w)]++List.replicate 45 anyA,[(0,bxG g nb N),(1,ssOb c G)],2⟩
def KI (g:Nat→T_Bar) (nb N k j:Nat):St :=
  ⟨[grG g nb N,.p (.int .i64 k),.pt 2 0 0 0]++List.replicate 17 anyA++[.p (.int .i64 k),.p (.int .i64 j)]++List.replicate 8 anyA,[(0,bxG g nb N)],1⟩
def KS (g:Nat→T_Bar) (nb N k j:Nat):St :=
  ⟨[grG g nb N,.p (.int .i64 k),.pt 2 0 0 0,.p .any,.p .any,.p (.int .i64 j)]++List.replicate 24 anyA,[(0,bxG g nb N)],1⟩
theorem wiz (g:Nat→T_Bar) (nb N:Nat) (S:T_IntS) :
    zT Tryz.f311 [rg 2,rg 6,rg 3,rg 3,.head] [grG g nb N,inL S] [0,32,192,288] (W0 g nb N S 0 0 (fun _=>0)) =
    some (zf50,zD [(NT 0 1),(IL 0 (if true=true then if (if false=true then if 8>(↑N:Int) then 8 else (↑N:Int) else if 8<(↑N:Int) then 8 else (↑N:Int))>0 then if false=true then if 8>(↑N:Int) then 8 else (↑N:Int) else if 8<(↑N:Int) then 8 else (↑N:Int) else 0 else if (if false=true then if 8>(↑N:Int) then 8 else (↑N:Int) else if 8<(↑N:Int) then 8 else (↑N:Int))<0 then if false=true then if 8>(↑N:Int) then 8 else (↑N:Int) else if 8<(↑N:Int) then 8 else (↑N:Int) else 0)),(IL (if true=true then if (if false=true then if 8>(↑N:Int) then 8 else (↑N:Int) else if 8<(↑N:Int) then 8 else (↑N:Int))>0 then if false=true then if 8>(↑N:Int) then 8 else (↑N:Int) else if 8<(↑N:Int) then 8 else (↑N:Int) else 0 else if (if false=true then if 8>(↑N:Int) then 8 else (↑N:Int) else if 8<(↑N:Int) then 8 else (↑N:Int))<0 then if false=true then if 8>(↑N:Int) then 8 else (↑N:Int) else if 8<(↑N:Int) then 8 else (↑N:Int) else 0) (if true=true then if (if false=true then if 8>(↑N:Int) then 8 else (↑N:Int) else if 8<(↑N:Int) then 8 else (↑N:Int))>0 then if false=true then if 8>(↑N:Int) then 8 else (↑N:Int) else if 8<(↑N:Int) then 8 else (↑N:Int) else 0 else if (if false=true then if 8>(↑N:Int) then 8 else (↑N:Int) else if 8<(↑N:Int) then 8 else (↑N:Int))<0 then if false=true then if 8>(↑N:Int) then 8 else (↑N:Int) else if 8<(↑N:Int) then 8 else (↑N:Int) else 0)),(IL ((if true=true then if (if false=true then if 8>(↑N:Int) then 8 else (↑N:Int) else if 8<(↑N:Int) then 8 else (↑N:Int))>0 then if false=true then if 8>(↑N:Int) then 8 else (↑N:Int) else if 8<(↑N:Int) then 8 else (↑N:Int) else 0 else if (if false=true then if 8>(↑N:Int) then 8 else (↑N:Int) else if 8<(↑N:Int) then 8 else (↑N:Int))<0 then if false=true then if 8>(↑N:Int) then 8 else (↑N:Int) else if 8<(↑N:Int) then 8 else (↑N:Int) else 0)*(↑8:Int)) 281474976710656),(ZHi (if true=true then if (if false=true then if 8>(↑N:Int) then 8 else (↑N:Int) else if 8<(↑N:Int) then 8 else (↑N:Int))>0 then if false=true then if 8>(↑N:Int) then 8 else (↑N:Int) else if 8<(↑N:Int) then 8 else (↑N:Int) else 0 else if (if false=true then if 8>(↑N:Int) then 8 else (↑N:Int) else if 8<(↑N:Int) then 8 else (↑N:Int))<0 then if false=true then if 8>(↑N:Int) then 8 else (↑N:Int) else if 8<(↑N:Int) then 8 else (↑N:Int) else 0)),((true=true)→ (AN 1)),(AI ((↑N:Int))),(AN nb),(AP nb (bRw g)),(AN S.1),(AP S.1 (iRw S)),(AN 0),((((if true=true then if (if false=true then if 8>(↑N:Int) then 8 else (↑N:Int) else if 8<(↑N:Int) then 8 else (↑N:Int))>0 then if false=true then if 8>(↑N:Int) then 8 else (↑N:Int) else if 8<(↑N:Int) then 8 else (↑N:Int) else 0 else if (if false=true then if 8>(↑N:Int) then 8 else (↑N:Int) else if 8<(↑N:Int) then 8 else (↑N:Int))<0 then if false=true then if 8>(↑N:Int) then 8 else (↑N:Int) else if 8<(↑N:Int) then 8 else (↑N:Int) else 0).toNat):Nat)=N),(((↑(if true=true then if (if false=true then if 8>(↑N:Int) then 8 else (↑N:Int) else if 8<(↑N:Int) then 8 else (↑N:Int))>0 then if false=true then if 8>(↑N:Int) then 8 else (↑N:Int) else if 8<(↑N:Int) then 8 else (↑N:Int) else 0 else if (if false=true then if 8>(↑N:Int) then 8 else (↑N:Int) else if 8<(↑N:Int) then 8 else (↑N:Int))<0 then if false=true then if 8>(↑N:Int) then 8 else (↑N:Int) else if 8<(↑N:Int) then 8 else (↑N:Int) else 0).toNat:Int):Int)=(↑N:Int)),((0:Int)=(↑0:Int)),((([AV.p (PV.int IntKind.i64 (↑N:Int)),brL g nb].length):Nat)=2),(NL 1 1),((((List.map (fun v=>AV.p (absV v)) [Value.int IntKind.i64 0,Value.slice none 0 0]).length):Nat)=2),(AI 0),(AN 1),(NL N ((if true=true then if (if false=true then if 8>(↑N:Int) then 8 else (↑N:Int) else if 8<(↑N:Int) then 8 else (↑N:Int))>0 then if false=true then if 8>(↑N:Int) then 8 else (↑N:Int) else if 8<(↑N:Int) then 8 else (↑N:Int) else 0 else if (if false=true then if 8>(↑N:Int) then 8 else (↑N:Int) else if 8<(↑N:Int) then 8 else (↑N:Int))<0 then if false=true then if 8>(↑N:Int) then 8 else (↑N:Int) else if 8<(↑N:Int) then 8 else (↑N:Int) else 0).toNat)),(AA N (fun i=>[.p (.int .i64 0)]))] [0,1,2,3,4,0,5,6,7,8,9,10,11,11,11,12,11,13,14,15,16,16,6,7,8,17,16,16,18,19,20,21,17,16,16,14]):=by kernel_rfl
theorem wit (g:Nat→T_Bar) (nb N:Nat) (S:T_IntS) (v n:Nat) (p:Nat→Int) :
    zM 0 [rg 1,.dec true,rg 2,rg 4,rm [(2,oc [] (.p (.bool false)))] 1,.dec true,rg 6,rg 5,rg 2,.head] zf50 (W0 g nb N S v n p) [0,1,2,3] 1 (W0 g nb N S (v+1) (n+1) (fun u=>if u=v then n else p u)) =
    some (zf50,zD [((decide ((↑v:Int)<(↑N:Int)))=true),(IL 0 (↑v:Int)),(IT (↑v:Int) (↑N:Int)),(NT v N),((false=true)→ ((N:Nat)=1)),zE 184 [.p (.seq true 1 S.1 (iRw S)),.p (.int .i64 (↑v:Int))] [] (.p (.bool false)),((!false)=true),(NT 0 1),(ZLo ((↑n:Int)+1)),(ZHi ((↑n:Int)+1)),((true=true)→ (AN 1)),(ZLo ((↑v:Int)+1)),(ZHi ((↑v:Int)+1)),(AI ((↑N:Int))),(AN nb),(AP nb (bRw g)),(AN S.1),(AP S.1 (iRw S)),(AN 0),(AN N),((((↑v:Int)+1):Int)=(↑(v+1):Int)),(AN 2),(NL 1 1),(AI 0),(AN 1),(NL N N),(CV [(3,⟨true,2,1,(fun i_1=>[.p (.int .i64 ((↑n:Int)+1)),.p (.nil)])⟩),(2,⟨false,1,N,(fun i_1=>(if (i_1=v) then [.p (.int .i64 (↑n:Int))] else (if (i_1=v) then [.p (.int .i64 (-1))] else [.p (.int .i64 (p i_1))])))⟩),(0,⟨true,2,1,(fun i_1=>[.p (.int .i64 (↑N:Int)),.p (.seq true 2 nb (bRw g))])⟩),(1,⟨true,2,1,(fun i_1=>[.p (.int .i64 0),.p (.nil)])⟩)] [0,1,2,3] 1 N (fun i=>if (i=v) then [.p (.int .i64 (↑n:Int))] else (if (i=v) then [.p (.int .i64 (-1))] else [.p (.int .i64 (p i))])) (fun i=>[.p (.int .i64 (if i=v then (↑n:Int) else p i))])),((((↑n:Int)+1):Int)=(↑(n+1):Int))] [0,1,2,3,4,5,6,7,1,2,3,4,7,8,9,7,10,11,12,13,14,15,16,17,18,18,18,19,18,13,20,21,22,22,13,14,15,21,22,22,23,24,25,26,21,22,22,27]):=by kernel_rfl
theorem wif (g:Nat→T_Bar) (nb N:Nat) (S:T_IntS) (v n:Nat) (p:Nat→Int) :
    zM 0 [rg 1,.dec true,rg 2,rg 4,rm [(2,oc [] (.p (.bool true)))] 1,.dec false,rg 2,.head] zf50 (W0 g nb N S v n p) [0,1,2,3] 1 (W0 g nb N S (v+1) n (fun u=>if u=v then -1 else p u)) =
    some (zf50,zD [((decide ((↑v:Int)<(↑N:Int)))=true),(IL 0 (↑v:Int)),(IT (↑v:Int) (↑N:Int)),(NT v N),((false=true)→ ((N:Nat)=1)),zE 184 [.p (.seq true 1 S.1 (iRw S)),.p (.int .i64 (↑v:Int))] [] (.p (.bool true)),((!true)=false),(ZLo ((↑v:Int)+1)),(ZHi ((↑v:Int)+1)),(AI ((↑N:Int))),(AN nb),(AP nb (bRw g)),(AN S.1),(AP S.1 (iRw S)),(AN 0),(AN N),((((↑v:Int)+1):Int)=(↑(v+1):Int)),(AN 2),(NL 1 1),(AI 0),(AN 1),(NL N N),(CV [(2,⟨false,1,N,(fun i_1=>(if (i_1=v) then [.p (.int .i64 (-1))] else [.p (.int .i64 (p i_1))]))⟩),(0,⟨true,2,1,(fun i_1=>[.p (.int .i64 (↑N:Int)),.p (.seq true 2 nb (bRw g))])⟩),(1,⟨true,2,1,(fun i_1=>[.p (.int .i64 0),.p (.nil)])⟩),(3,⟨true,2,1,(fun i_1=>[.p (.int .i64 (↑n:Int)),.p (.nil)])⟩)] [0,1,2,3] 1 N (fun i=>if (i=v) then [.p (.int .i64 (-1))] else [.p (.int .i64 (p i))]) (fun i=>[.p (.int .i64 (if i=v then -1 else p i))])),(AI ((↑n:Int)))] [0,1,2,3,4,5,6,7,8,9,10,11,12,13,14,14,14,15,14,9,16,17,18,18,9,10,11,17,18,18,19,20,21,22,17,18,18,23]):=by kernel_rfl
theorem wix (g:Nat→T_Bar) (nb N:Nat) (S:T_IntS) (v n:Nat) (p:Nat→Int) :
    zM 0 [rg 1,.dec false,rm [(1,oc [] (.p (.bool true)))] 1,.dec false,rg 4,.head] zf50 (W0 g nb N S v n p) [0,1,2,3] 1 (W1 g nb N S n p 0 0 (fun _=>(0,0,()))) =
    some (zf24,zD [((decide ((↑v:Int)<(↑N:Int)))=false),(NT 0 1),zE 62 [(zf94 N nb g)] [] (.p (.bool true)),((!true)=false),(AI ((↑N:Int))),(AN nb),(AP nb (bRw g)),(AN S.1),(AP S.1 (iRw S)),(AN 0),(AN N),(AI ((↑nb:Int))),((0:Int)=(↑0:Int)),(AN 2),(NL 1 1),(AI 0),(AN 1),(NL N N),(AA N (fun i=>[.p (.int .i64 (p i))])),(AI ((↑n:Int)))] [0,1,2,3,1,4,5,6,7,8,9,9,9,10,9,5,6,11,12,13,14,14,4,5,6,13,14,14,15,16,17,18,13,14,14,19,9,9]):=by kernel_rfl
theorem wjt (g:Nat→T_Bar) (nb N:Nat) (S:T_IntS) (n:Nat) (p:Nat→Int) (k c:Nat) (h:Nat→T_Bar) :
    zM 0 [rg 1,.dec true,rg 4,rg 12,rg 6,.dec true,rg 9,rg 2,.head] zf24 (W1 g nb N S n p k c h) [0,1,2,3,933] 1 (W1 g nb N S n p (k+1) (c+1) (snoc c h (p (g k).1.toNat,p (g k).2.1.toNat,()))) =
    some (zf24,zD [((decide ((↑k:Int)<(↑nb:Int)))=true),(IL 0 (↑k:Int)),(IT (↑k:Int) (↑nb:Int)),(NT 0 1),((true=true)→ (AN 1)),(IL 0 ((g k).1)),(IT ((g k).1) (↑N:Int)),(NT ((g k).1.toNat) N),(IL 0 ((g k).2.1)),(IT ((g k).2.1) (↑N:Int)),(NT ((g k).2.1.toNat) N),(AG (decide (p ((g (↑k:Int).toNat).1.toNat+0)≥0))),((bif decide (p ((g (↑k:Int).toNat).1.toNat+0)≥0) then decide (p ((g (↑k:Int).toNat).2.1.toNat+0)≥0) else false)=true),(NL 1 1),(NL c c),(NL ((c+1)*16) 140737488355328),(NL (c+1) 9223372036854775807),(ZLo ((↑k:Int)+1)),(ZHi ((↑k:Int)+1)),(AI ((↑N:Int))),(AN nb),(AP nb (bRw g)),(AN S.1),(AP S.1 (iRw S)),(AN 0),(AN N),(AI ((↑nb:Int))),((((↑k:Int)+1):Int)=(↑(k+1):Int)),(AN 2),(AI 0),(AN 1),(NL N N),(AA N (fun i=>[.p (.int .i64 (p i))])),(AI ((↑n:Int))),(AN ((c+1))),(NL (c+1) (c+1)),(CV [(3,⟨true,2,1,(fun i_1=>[.p (.int .i64 (↑n:Int)),.ar 2 933 0 (c+1)])⟩),(933,⟨false,2,(c+1),(fun i_1=>(if (i_1<c) then [.p (.int .i64 ((h i_1).1)),.p (.int .i64 ((h i_1).2.1))] else [.p (.int .i64 (p (g k).1.toNat)),.p (.int .i64 (p (g k).2.1.toNat))]))⟩),(901,⟨false,2,1,(fun i_1=>[.p (.int .i64 (p (g k).1.toNat)),.p (.int .i64 (p (g k).2.1.toNat))])⟩),(101,⟨true,2,1,(fun i_1=>[.p (.int .i64 ((g k).1)),.p (.int .i64 ((g k).2.1))])⟩),(0,⟨true,2,1,(fun i_1=>[.p (.int .i64 (↑N:Int)),.p (.seq true 2 nb (bRw g))])⟩),(1,⟨true,2,1,(fun i_1=>[.p (.int .i64 0),.p (.nil)])⟩),(2,⟨false,1,N,(fun i_1=>[.p (.int .i64 (p i_1))])⟩)] [0,1,2,3,933] 1 (c+1) (fun i=>if (i<c) then [.p (.int .i64 ((h i).1)),.p (.int .i64 ((h i).2.1))] else [.p (.int .i64 (p (g k).1.toNat)),.p (.int .i64 (p (g k).2.1.toNat))]) (fun i=>[.p (.int .i64 (if i<c then (h i).1 else p (g k).1.toNat)),.p (.int .i64 (if i<c then (h i).2.1 else p (g k).2.1.toNat))]))] [0,1,2,3,4,3,5,6,7,3,8,9,10,11,11,12,3,13,14,15,16,3,4,17,18,19,20,21,22,23,24,24,24,25,24,20,21,26,27,28,13,13,19,20,21,28,13,13,29,30,31,32,28,13,13,33,24,34,28,35,36]):=by kernel_rfl
theorem wjf (g:Nat→T_Bar) (nb N:Nat) (S:T_IntS) (n:Nat) (p:Nat→Int) (k c:Nat) (h:Nat→T_Bar) :
    zM 0 [rg 1,.dec true,rg 4,rg 12,rg 6,.dec false,rg 2,.head] zf24 (W1 g nb N S n p k c h) [0,1,2,3,4] 1 (W1 g nb N S n p (k+1) c h) =
    some (zf24,zD [((decide ((↑k:Int)<(↑nb:Int)))=true),(IL 0 (↑k:Int)),(IT (↑k:Int) (↑nb:Int)),(NT 0 1),((true=true)→ (AN 1)),(IL 0 ((g k).1)),(IT ((g k).1) (↑N:Int)),(NT ((g k).1.toNat) N),(IL 0 ((g k).2.1)),(IT ((g k).2.1) (↑N:Int)),(NT ((g k).2.1.toNat) N),(AG (decide (p ((g (↑k:Int).toNat).1.toNat+0)≥0))),((bif decide (p ((g (↑k:Int).toNat).1.toNat+0)≥0) then decide (p ((g (↑k:Int).toNat).2.1.toNat+0)≥0) else false)=false),(ZLo ((↑k:Int)+1)),(ZHi ((↑k:Int)+1)),(AI ((↑N:Int))),(AN nb),(AP nb (bRw g)),(AN S.1),(AP S.1 (iRw S)),(AN 0),(AN N),(AI ((↑nb:Int))),((((↑k:Int)+1):Int)=(↑(k+1):Int)),(AN 2),(NL 1 1),(AI 0),(AN 1),(NL N N),(AA N (fun i=>[.p (.int .i64 (p i))])),(AI ((↑n:Int))),(AN c),(NL c c),(AA c (fun i=>[.p (.int .i64 ((h i).1)),.p (.int .i64 ((h i).2.1))]))] [0,1,2,3,4,3,5,6,7,3,8,9,10,11,11,12,13,14,15,16,17,18,19,20,20,20,21,20,16,17,22,23,24,25,25,15,16,17,24,25,25,26,27,28,29,24,25,25,30,20,31,24,32,33]):=by kernel_rfl
theorem wje (g:Nat→T_Bar) (nb N:Nat) (S:T_IntS) (n:Nat) (p:Nat→Int) (k c:Nat) (h:Nat→T_Bar) :
    zP Tryz.f311 0 [rg 1,.dec false,rg 2] zf24 (W1 g nb N S n p k c h) [4] 1 [(0,brOb c h)] (.agg [.p (.int .i64 n),.ar 2 0 0 c]) =
    some [((decide ((↑k:Int)<(↑nb:Int)))=false),(NT 0 1),(NT 0 1),((true=true)→ (AN 1)),(NT 0 1),(AI ((↑n:Int))),(AN 0),(AN c),(AN 2),(NL c c),(AA c (fun i=>[.p (.int .i64 ((h i).1)),.p (.int .i64 ((h i).2.1))])),(AE c)]:=by kernel_rfl
theorem vsz (g:Nat→T_Bar) (nb N:Nat) (S:T_IntS) :
    zT Tryz.f308 [rg 2,rg 6,rg 1,rg 1,.head] [grG g nb N,inL S] [0,32,192] (V0 g nb N S 0 0 (fun _=>0)) =
    some (zf51,zD [(NT 0 1),(IL 0 (if true=true then if (if false=true then if (↑N:Int)>8 then (↑N:Int) else 8 else if (↑N:Int)<8 then (↑N:Int) else 8)>0 then if false=true then if (↑N:Int)>8 then (↑N:Int) else 8 else if (↑N:Int)<8 then (↑N:Int) else 8 else 0 else if (if false=true then if (↑N:Int)>8 then (↑N:Int) else 8 else if (↑N:Int)<8 then (↑N:Int) else 8)<0 then if false=true then if (↑N:Int)>8 then (↑N:Int) else 8 else if (↑N:Int)<8 then (↑N:Int) else 8 else 0)),(IL (if true=true then if (if false=true then if (↑N:Int)>8 then (↑N:Int) else 8 else if (↑N:Int)<8 then (↑N:Int) else 8)>0 then if false=true then if (↑N:Int)>8 then (↑N:Int) else 8 else if (↑N:Int)<8 then (↑N:Int) else 8 else 0 else if (if false=true then if (↑N:Int)>8 then (↑N:Int) else 8 else if (↑N:Int)<8 then (↑N:Int) else 8)<0 then if false=true then if (↑N:Int)>8 then (↑N:Int) else 8 else if (↑N:Int)<8 then (↑N:Int) else 8 else 0) (if true=true then if (if false=true then if (↑N:Int)>8 then (↑N:Int) else 8 else if (↑N:Int)<8 then (↑N:Int) else 8)>0 then if false=true then if (↑N:Int)>8 then (↑N:Int) else 8 else if (↑N:Int)<8 then (↑N:Int) else 8 else 0 else if (if false=true then if (↑N:Int)>8 then (↑N:Int) else 8 else if (↑N:Int)<8 then (↑N:Int) else 8)<0 then if false=true then if (↑N:Int)>8 then (↑N:Int) else 8 else if (↑N:Int)<8 then (↑N:Int) else 8 else 0)),(IL ((if true=true then if (if false=true then if (↑N:Int)>8 then (↑N:Int) else 8 else if (↑N:Int)<8 then (↑N:Int) else 8)>0 then if false=true then if (↑N:Int)>8 then (↑N:Int) else 8 else if (↑N:Int)<8 then (↑N:Int) else 8 else 0 else if (if false=true then if (↑N:Int)>8 then (↑N:Int) else 8 else if (↑N:Int)<8 then (↑N:Int) else 8)<0 then if false=true then if (↑N:Int)>8 then (↑N:Int) else 8 else if (↑N:Int)<8 then (↑N:Int) else 8 else 0)*(↑8:Int)) 281474976710656),(ZHi (if true=true then if (if false=true then if (↑N:Int)>8 then (↑N:Int) else 8 else if (↑N:Int)<8 then (↑N:Int) else 8)>0 then if false=true then if (↑N:Int)>8 then (↑N:Int) else 8 else if (↑N:Int)<8 then (↑N:Int) else 8 else 0 else if (if false=true then if (↑N:Int)>8 then (↑N:Int) else 8 else if (↑N:Int)<8 then (↑N:Int) else 8)<0 then if false=true then if (↑N:Int)>8 then (↑N:Int) else 8 else if (↑N:Int)<8 then (↑N:Int) else 8 else 0)),(AI ((↑N:Int))),(AN nb),(AP nb (bRw g)),(AN S.1),(AP S.1 (iRw S)),(AN 0),((((if true=true then if (if false=true then if (↑N:Int)>8 then (↑N:Int) else 8 else if (↑N:Int)<8 then (↑N:Int) else 8)>0 then if false=true then if (↑N:Int)>8 then (↑N:Int) else 8 else if (↑N:Int)<8 then (↑N:Int) else 8 else 0 else if (if false=true then if (↑N:Int)>8 then (↑N:Int) else 8 else if (↑N:Int)<8 then (↑N:Int) else 8)<0 then if false=true then if (↑N:Int)>8 then (↑N:Int) else 8 else if (↑N:Int)<8 then (↑N:Int) else 8 else 0).toNat):Nat)=N),((0:Int)=(↑0:Int)),((([AV.p (PV.int IntKind.i64 (↑N:Int)),brL g nb].length):Nat)=2),(NL 1 1),((((List.map (fun v=>AV.p (absV v)) [Value.int IntKind.i64 0,Value.slice none 0 0]).length):Nat)=2),(AI 0),(AN 1),(NL N ((if true=true then if (if false=true then if (↑N:Int)>8 then (↑N:Int) else 8 else if (↑N:Int)<8 then (↑N:Int) else 8)>0 then if false=true then if (↑N:Int)>8 then (↑N:Int) else 8 else if (↑N:Int)<8 then (↑N:Int) else 8 else 0 else if (if false=true then if (↑N:Int)>8 then (↑N:Int) else 8 else if (↑N:Int)<8 then (↑N:Int) else 8)<0 then if false=true then if (↑N:Int)>8 then (↑N:Int) else 8 else if (↑N:Int)<8 then (↑N:Int) else 8 else 0).toNat)),(AA N (fun i=>[.p (.int .i64 0)]))] [0,1,2,3,4,5,6,7,8,9,10,10,10,11,12,12,13,14,14,5,6,7,15,14,14,16,17,18,19]):=by kernel_rfl
theorem vst (g:Nat→T_Bar) (nb N:Nat) (S:T_IntS) (v n:Nat) (p:Nat→Int) :
    zM 0 [rg 4,.dec true,rg 4,rm [(2,oc [] (.p (.bool false)))] 1,.dec true,rg 5,rg 3,rg 3,.head] zf51 (V0 g nb N S v n p) [0,1,2] 1 (V0 g nb N S (v+1) (n+1) (fun u=>if u=v then n else p u)) =
    some (zf51,zD [((decide ((↑v:Int)<(↑N:Int)))=true),(IL 0 (↑v:Int)),(IT (↑v:Int) (↑N:Int)),(NT v N),((false=true)→ ((N:Nat)=1)),zE 172 [.p (.seq true 1 S.1 (iRw S)),.p (.int .i64 (↑v:Int))] [] (.p (.bool false)),((!false)=true),(ZLo ((↑n:Int)+1)),(ZHi ((↑n:Int)+1)),(ZLo ((↑v:Int)+1)),(ZHi ((↑v:Int)+1)),(AI ((↑N:Int))),(AN nb),(AP nb (bRw g)),(AN S.1),(AP S.1 (iRw S)),(AN 0),(AN N),((((↑n:Int)+1):Int)=(↑(n+1):Int)),((((↑v:Int)+1):Int)=(↑(v+1):Int)),(AN 2),(NL 1 1),(AI 0),(AN 1),(NL N N),(CV [(2,⟨false,1,N,(fun i_1=>(if (i_1=v) then [.p (.int .i64 (↑n:Int))] else (if (i_1=v) then [.p (.int .i64 (-1))] else [.p (.int .i64 (p i_1))])))⟩),(0,⟨true,2,1,(fun i_1=>[.p (.int .i64 (↑N:Int)),.p (.seq true 2 nb (bRw g))])⟩),(1,⟨true,2,1,(fun i_1=>[.p (.int .i64 0),.p (.nil)])⟩)] [0,1,2] 1 N (fun i=>if (i=v) then [.p (.int .i64 (↑n:Int))] else (if (i=v) then [.p (.int .i64 (-1))] else [.p (.int .i64 (p i))])) (fun i=>[.p (.int .i64 (if i=v then (↑n:Int) else p i))]))] [0,1,2,3,4,5,6,1,2,3,4,7,8,9,10,11,12,13,14,15,16,16,16,17,18,19,20,21,21,11,12,13,20,21,21,22,23,24,25]):=by kernel_rfl
theorem vsf (g:Nat→T_Bar) (nb N:Nat) (S:T_IntS) (v n:Nat) (p:Nat→Int) :
    zM 0 [rg 4,.dec true,rg 4,rm [(2,oc [] (.p (.bool true)))] 1,.dec false,rg 3,.head] zf51 (V0 g nb N S v n p) [0,1,2] 1 (V0 g nb N S (v+1) n (fun u=>if u=v then -1 else p u)) =
    some (zf51,[((decide ((↑v:Int)<(↑N:Int)))=true),(IL 0 (↑v:Int)),(IT (↑v:Int) (↑N:Int)),(NT v N),((false=true)→ ((N:Nat)=1)),zE 172 [.p (.seq true 1 S.1 (iRw S)),.p (.int .i64 (↑v:Int))] [] (.p (.bool true)),((!true)=false),(ZLo ((↑v:Int)+1)),(ZHi ((↑v:Int)+1)),(AI ((↑N:Int))),(AN nb),(AP nb (bRw g)),(AN S.1),(AP S.1 (iRw S)),(AN 0),(AN 0),(AN 0),(AN N),(AI ((↑n:Int))),((((↑v:Int)+1):Int)=(↑(v+1):Int)),(AN 2),(NL 1 1),(NL 1 1),(AI ((↑N:Int))),(AN nb),(AP nb (bRw g)),(AN 2),(NL 1 1),(NL 1 1),(AI 0),(AN 1),(NL N N),(CV [(2,⟨false,1,N,(fun i_1=>(if (i_1=v) then [.p (.int .i64 (-1))] else [.p (.int .i64 (p i_1))]))⟩),(0,⟨true,2,1,(fun i_1=>[.p (.int .i64 (↑N:Int)),.p (.seq true 2 nb (bRw g))])⟩),(1,⟨true,2,1,(fun i_1=>[.p (.int .i64 0),.p (.nil)])⟩)] [0,1,2] 1 N (fun i=>if (i=v) then [.p (.int .i64 (-1))] else [.p (.int .i64 (p i))]) (fun i=>[.p (.int .i64 (if i=v then -1 else p i))]))]):=by kernel_rfl
theorem vsx (g:Nat→T_Bar) (nb N:Nat) (S:T_IntS) (v n:Nat) (p:Nat→Int) :
    zM 0 [rg 4,.dec false,rg 5,rg 1,.head] zf51 (V0 g nb N S v n p) [0,1,2,227,163] 1 (V1 g nb N S n p 0 0 (fun _=>(0,0,()))) =
    some (zf25,zD [((decide ((↑v:Int)<(↑N:Int)))=false),(NT 0 1),((true=true)→ (AN 1)),(AI ((↑N:Int))),(AN nb),(AP nb (bRw g)),(AN S.1),(AP S.1 (iRw S)),(AN 0),(AN N),((0:Int)=(↑0:Int)),(AN 2),(NL 1 1),(AI 0),(AN 1),(NL N N),(AA N (fun i=>[.p (.int .i64 (p i))])),((((List.map (fun v=>AV.p (absV v)) [Value.int IntKind.i64 0,Value.slice none 0 0]).length):Nat)=2),(AI ((↑n:Int))),(NL 0 0),(AA 0 (fun i=>[.p (.int .i64 0),.p (.int .i64 0)]))] [0,1,2,3,4,5,6,7,8,8,8,9,8,10,11,12,12,3,4,5,11,12,12,13,14,15,16,17,12,12,18,8,8,11,19,20]):=by kernel_rfl
theorem vjt (g:Nat→T_Bar) (nb N:Nat) (S:T_IntS) (n:Nat) (p:Nat→Int) (k c:Nat) (h:Nat→T_Bar) :
    zM 0 [rm [(7,oc [] (.p (.bool true)))] 1,.dec true,rg 10,rg 10,rg 6,.dec true,rg 9,rg 3,.head] zf25 (V1 g nb N S n p k c h) [0,1,2,3,1317] 1 (V1 g nb N S n p (k+1) (c+1) (snoc c h (p (g k).1.toNat,p (g k).2.1.toNat,()))) =
    some (zf25,zD [(NT 0 1),(((decide ((↑k:Int)<(↑nb:Int)))=true)→(NT 0 1)),(AG (decide ((↑k:Int)<(↑nb:Int)))),(((decide ((↑k:Int)<(↑nb:Int)))=true)→ zE 53 [(zf94 N nb g)] [] (.p (.bool true))),((bif decide ((↑k:Int)<(↑nb:Int)) then true else false)=true),(IL 0 (↑k:Int)),(IT (↑k:Int) (↑nb:Int)),(IL 0 ((g k).1)),(IT ((g k).1) (↑N:Int)),(NT ((g k).1.toNat) N),(IL 0 ((g k).2.1)),(IT ((g k).2.1) (↑N:Int)),(NT ((g k).2.1.toNat) N),(AG (decide (p ((g (↑k:Int).toNat).1.toNat+0)≥0))),((bif decide (p ((g (↑k:Int).toNat).1.toNat+0)≥0) then decide (p ((g (↑k:Int).toNat).2.1.toNat+0)≥0) else false)=true),(NL 1 1),(NL c c),(NL ((c+1)*16) 140737488355328),(NL (c+1) 9223372036854775807),((true=true)→ (AN 1)),(ZLo ((↑k:Int)+1)),(ZHi ((↑k:Int)+1)),(AI ((↑N:Int))),(AN nb),(AP nb (bRw g)),(AN S.1),(AP S.1 (iRw S)),(AN 0),(AN N),((((↑k:Int)+1):Int)=(↑(k+1):Int)),(AN 2),(AI 0),(AN 1),(NL N N),(AA N (fun i=>[.p (.int .i64 (p i))])),(AI ((↑n:Int))),(AN ((c+1))),(NL (c+1) (c+1)),(CV [(3,⟨true,2,1,(fun i_1=>[.p (.int .i64 (↑n:Int)),.ar 2 1317 0 (c+1)])⟩),(1317,⟨false,2,(c+1),(fun i_1=>(if (i_1<c) then [.p (.int .i64 ((h i_1).1)),.p (.int .i64 ((h i_1).2.1))] else [.p (.int .i64 (p (g k).1.toNat)),.p (.int .i64 (p (g k).2.1.toNat))]))⟩),(1285,⟨false,2,1,(fun i_1=>[.p (.int .i64 (p (g k).1.toNat)),.p (.int .i64 (p (g k).2.1.toNat))])⟩),(0,⟨true,2,1,(fun i_1=>[.p (.int .i64 (↑N:Int)),.p (.seq true 2 nb (bRw g))])⟩),(1,⟨true,2,1,(fun i_1=>[.p (.int .i64 0),.p (.nil)])⟩),(2,⟨false,1,N,(fun i_1=>[.p (.int .i64 (p i_1))])⟩)] [0,1,2,3,1317] 1 (c+1) (fun i=>if (i<c) then [.p (.int .i64 ((h i).1)),.p (.int .i64 ((h i).2.1))] else [.p (.int .i64 (p (g k).1.toNat)),.p (.int .i64 (p (g k).2.1.toNat))]) (fun i=>[.p (.int .i64 (if i<c then (h i).1 else p (g k).1.toNat)),.p (.int .i64 (if i<c then (h i).2.1 else p (g k).2.1.toNat))]))] [0,1,2,3,2,4,0,5,6,7,8,9,0,5,6,10,11,12,13,13,14,0,15,16,17,18,0,19,20,21,22,23,24,25,26,27,27,27,28,27,29,30,15,15,22,23,24,30,15,15,31,32,33,34,30,15,15,35,27,36,30,37,38]):=by kernel_rfl
theorem vjf (g:Nat→T_Bar) (nb N:Nat) (S:T_IntS) (n:Nat) (p:Nat→Int) (k c:Nat) (h:Nat→T_Bar) :
    zM 0 [rm [(7,oc [] (.p (.bool true)))] 1,.dec true,rg 10,rg 10,rg 6,.dec false,rg 3,.head] zf25 (V1 g nb N S n p k c h) [0,1,2,3,4] 1 (V1 g nb N S n p (k+1) c h) =
    some (zf25,zD [(NT 0 1),(((decide ((↑k:Int)<(↑nb:Int)))=true)→(NT 0 1)),(AG (decide ((↑k:Int)<(↑nb:Int)))),(((decide ((↑k:Int)<(↑nb:Int)))=true)→ zE 53 [(zf94 N nb g)] [] (.p (.bool true))),((bif decide ((↑k:Int)<(↑nb:Int)) then true else false)=true),(IL 0 (↑k:Int)),(IT (↑k:Int) (↑nb:Int)),(IL 0 ((g k).1)),(IT ((g k).1) (↑N:Int)),(NT ((g k).1.toNat) N),(IL 0 ((g k).2.1)),(IT ((g k).2.1) (↑N:Int)),(NT ((g k).2.1.toNat) N),(AG (decide (p ((g (↑k:Int).toNat).1.toNat+0)≥0))),((bif decide (p ((g (↑k:Int).toNat).1.toNat+0)≥0) then decide (p ((g (↑k:Int).toNat).2.1.toNat+0)≥0) else false)=false),(ZLo ((↑k:Int)+1)),(ZHi ((↑k:Int)+1)),(AI ((↑N:Int))),(AN nb),(AP nb (bRw g)),(AN S.1),(AP S.1 (iRw S)),(AN 0),(AN N),((((↑k:Int)+1):Int)=(↑(k+1):Int)),(AN 2),(NL 1 1),(AI 0),(AN 1),(NL N N),(AA N (fun i=>[.p (.int .i64 (p i))])),(AI ((↑n:Int))),(AN c),(NL c c),(AA c (fun i=>[.p (.int .i64 ((h i).1)),.p (.int .i64 ((h i).2.1))]))] [0,1,2,3,2,4,0,5,6,7,8,9,0,5,6,10,11,12,13,13,14,15,16,17,18,19,20,21,22,22,22,23,22,24,25,26,26,17,18,19,25,26,26,27,28,29,30,25,26,26,31,22,32,25,33,34]):=by kernel_rfl
theorem vje (g:Nat→T_Bar) (nb N:Nat) (S:T_IntS) (n:Nat) (p:Nat→Int) (k c:Nat) (h:Nat→T_Bar) :
    zP Tryz.f308 0 [rm [(7,oc [] (.p (.bool true)))] 1,.dec false,rg 2] zf25 (V1 g nb N S n p k c h) [4] 1 [(0,brOb c h)] (.agg [.p (.int .i64 n),.ar 2 0 0 c]) =
    some (zD [(NT 0 1),(((decide ((↑k:Int)<(↑nb:Int)))=true)→(NT 0 1)),(AG (decide ((↑k:Int)<(↑nb:Int)))),(((decide ((↑k:Int)<(↑nb:Int)))=true)→ zE 53 [(zf94 N nb g)] [] (.p (.bool true))),((bif decide ((↑k:Int)<(↑nb:Int)) then true else false)=false),((true=true)→ (AN 1)),(AI ((↑n:Int))),(AN 0),(AN c),(AN 2),(NL c c),(AA c (fun i=>[.p (.int .i64 ((h i).1)),.p (.int .i64 ((h i).2.1))])),(AE c)] [0,1,2,3,2,4,0,0,5,0,6,7,8,9,10,11,12]):=by kernel_rfl
theorem ciz (g:Nat→T_Bar) (nb N k:Nat) :
    zT Tryz.f411 [rg 2,rg 2,rm [(1,oc [] (.p (.bool true))),(3,oc [] (.p (.bool true)))] 2,.dec false,rg 4,.head] [grG g nb N,.p (.int .i64 k)] [0,64] (C0 g nb N k 0 0 (fun _=>(0,fun _=>0))) =
    some (zf52,zD [(NT 0 1),zE 62 [(zf94 N nb g)] [] (.p (.bool true)),(AG (!!true)),(((!!true)=true)→ zE 179 [.p (.int .i64 (↑k:Int)),.p (.int .i64 0),.p (.int .i64 3)] [] (.p (.bool true))),(((!true)=false)→ ((!!true)=true)),((bif !true then true else !true)=false),(IL 0 (↑N:Int)),(AI ((↑N:Int))),(AN nb),(AP nb (bRw g)),(AI ((↑k:Int))),(AN 0),(AI ((shlI IntKind.i64 1 (↑N:Int)))),((0:Int)=(↑0:Int)),((([AV.p (PV.int IntKind.i64 (↑N:Int)),brL g nb].length):Nat)=2),(NL 1 1),(AN 1),(NL 0 0),(∀ i:Nat,(((i:Nat)<0)→(All []∧(([.p (.nil)]:List AV)=[.p (.seq false 1 0 (fun i_1=>[.int .i64 ((0,fun x=>0).2 i_1)]))]))))] [0,1,2,3,2,4,5,0,6,7,8,9,10,11,11,11,12,13,14,15,15,7,8,9,16,17,18]):=by kernel_rfl
theorem cin (g:Nat→T_Bar) (nb N k w c:Nat) (G:Nat→T_IntS) (s:T_IntS) :
    zM 0 [rg 1,.dec true,rg 2,rm [(3,oc [(0,iOb s.1 s.2)] (.ar 1 0 0 s.1))] 1,rg 4,.dec true,rg 2,.head] zf52 (C0 g nb N k w c G) [0,1] 1 (C0 g nb N k (w+1) c G) =
    some (zf52,[((decide ((↑w:Int)<shlI IntKind.i64 1 (↑N:Int)))=true),(NT 0 1),zE 190 [.p (.int .i64 (↑w:Int)),.p (.int .i64 (↑N:Int))] [(0,⟨false,1,s.1,(fun i=>[.p (.int .i64 (s.2 i))])⟩)] (.ar 1 0 0 s.1),(((↑s.1:Int) != (↑k:Int))=true),(ZLo ((↑w:Int)+1)),(ZHi ((↑w:Int)+1)),(AI ((↑N:Int))),(AN nb),(AP nb (bRw g)),(AI ((↑k:Int))),(AN 0),(AN 0),(AN c),(AI ((shlI IntKind.i64 1 (↑N:Int)))),((((↑w:Int)+1):Int)=(↑(w+1):Int)),(AN 2),(NL 1 1),(NL 1 1),(AI ((↑N:Int))),(AN nb),(AP nb (bRw g)),(AN 1),(NL c c),(AA c (fun i=>[.p (.seq false 1 ((G i).1) (fun i_1=>[.int .i64 ((G i).2 i_1)]))]))]):=by kernel_rfl
theorem cit (g:Nat→T_Bar) (nb N k w c:Nat) (G:Nat→T_IntS) (s:T_IntS) (n m:Nat) (h:Nat→T_Bar) (b:Bool) :
    zM 0 [rg 1,.dec true,rg 2,rm [(3,oc [(0,iOb s.1 s.2)] (.ar 1 0 0 s.1))] 1,rg 4,.dec false,rm [(2,oc [(0,brOb m h)] (.agg [.p (.int .i64 n),.ar 2 0 0 m]))] 2,rm [(5,oc [] (.p (.bool b)))] 2,.dec true,rg 5,rg 2,.head] zf52 (C0 g nb N k w c G) [0,898] 1 (C0 g nb N k (w+1) (c+1) (snocC c G s)) =
    some (zf52,zD [((decide ((↑w:Int)<shlI IntKind.i64 1 (↑N:Int)))=true),(NT 0 1),zE 190 [.p (.int .i64 (↑w:Int)),.p (.int .i64 (↑N:Int))] [(0,⟨false,1,s.1,(fun i=>[.p (.int .i64 (s.2 i))])⟩)] (.ar 1 0 0 s.1),(((↑s.1:Int) != (↑k:Int))=false),(AN 1),(NL s.1 s.1),zE 311 [(zf94 N nb g),.p (.seq true 1 s.1 (iRw s))] (zf99 m h) (.agg [.p (.int .i64 (↑n:Int)),.ar 2 0 0 m]),((true=true)→ (AN 1)),(((decide ((↑n:Int)≥2))=true)→(NT 0 1)),(AG (decide ((↑n:Int)≥2))),(((decide ((↑n:Int)≥2))=true)→ (AN 2)),(((decide ((↑n:Int)≥2))=true)→(NL m m)),(((decide ((↑n:Int)≥2))=true)→ zE 419 [(zf94 n m h)] [] (.p (.bool b))),((bif decide ((↑n:Int)≥2) then !b else false)=true),(NL 1 1),(NL c c),(NL ((c+1)*24) 140737488355328),(NL (c+1) 9223372036854775807),(ZLo ((↑w:Int)+1)),(ZHi ((↑w:Int)+1)),(AI ((↑N:Int))),(AN nb),(AP nb (bRw g)),(AI ((↑k:Int))),(AN 0),(AN ((c+1))),(AI ((shlI IntKind.i64 1 (↑N:Int)))),((((↑w:Int)+1):Int)=(↑(w+1):Int)),(AN 2),(NL (c+1) (c+1)),(CV [(898,⟨false,1,(c+1),(fun i_1=>(if (i_1<c) then [.p (.seq false 1 ((G i_1).1) (fun i_2=>[.int .i64 ((G i_1).2 i_2)]))] else [.ar 1 194 0 s.1]))⟩),(866,⟨false,1,1,(fun i_1=>[.ar 1 194 0 s.1])⟩),(482,⟨true,2,1,(fun i_1=>[.p (.int .i64 (↑n:Int)),.ar 2 450 0 m])⟩),(450,⟨false,2,m,(fun i_1=>[.p (.int .i64 ((h i_1).1)),.p (.int .i64 ((h i_1).2.1))])⟩),(194,⟨false,1,s.1,(fun i_1=>[.p (.int .i64 (s.2 i_1))])⟩),(0,⟨true,2,1,(fun i_1=>[.p (.int .i64 (↑N:Int)),.p (.seq true 2 nb (bRw g))])⟩)] [0,898] 1 (c+1) (fun i=>if (i<c) then [.p (.seq false 1 ((G i).1) (fun i_1=>[.int .i64 ((G i).2 i_1)]))] else [.ar 1 194 0 s.1]) (fun i=>[.p (.seq false 1 (if i<c then (G i).1 else s.1) (fun i_1=>[.int .i64 ((snocC c G s i).2 i_1)]))]))] [0,1,2,3,1,4,5,6,1,7,1,8,9,10,11,12,9,9,13,14,15,16,17,18,19,20,21,22,23,24,24,25,26,27,28,14,14,20,21,22,4,29,30]):=by kernel_rfl
theorem cif (g:Nat→T_Bar) (nb N k w c:Nat) (G:Nat→T_IntS) (s:T_IntS) (n m:Nat) (h:Nat→T_Bar) (b:Bool) :
    zM 0 [rg 1,.dec true,rg 2,rm [(3,oc [(0,iOb s.1 s.2)] (.ar 1 0 0 s.1))] 1,rg 4,.dec false,rm [(2,oc [(0,brOb m h)] (.agg [.p (.int .i64 n),.ar 2 0 0 m]))] 2,rm [(5,oc [] (.p (.bool b)))] 2,.dec false,rg 2,.head] zf52 (C0 g nb N k w c G) [0,1] 1 (C0 g nb N k (w+1) c G) =
    some (zf52,zD [((decide ((↑w:Int)<shlI IntKind.i64 1 (↑N:Int)))=true),(NT 0 1),zE 190 [.p (.int .i64 (↑w:Int)),.p (.int .i64 (↑N:Int))] [(0,⟨false,1,s.1,(fun i=>[.p (.int .i64 (s.2 i))])⟩)] (.ar 1 0 0 s.1),(((↑s.1:Int) != (↑k:Int))=false),(AN 1),(NL s.1 s.1),zE 311 [(zf94 N nb g),.p (.seq true 1 s.1 (iRw s))] (zf99 m h) (.agg [.p (.int .i64 (↑n:Int)),.ar 2 0 0 m]),((true=true)→ (AN 1)),(((decide ((↑n:Int)≥2))=true)→(NT 0 1)),(AG (decide ((↑n:Int)≥2))),(((decide ((↑n:Int)≥2))=true)→ (AN 2)),(((decide ((↑n:Int)≥2))=true)→(NL m m)),(((decide ((↑n:Int)≥2))=true)→ zE 419 [(zf94 n m h)] [] (.p (.bool b))),((bif decide ((↑n:Int)≥2) then !b else false)=false),(ZLo ((↑w:Int)+1)),(ZHi ((↑w:Int)+1)),(AI ((↑N:Int))),(AN nb),(AP nb (bRw g)),(AI ((↑k:Int))),(AN 0),(AN c),(AI ((shlI IntKind.i64 1 (↑N:Int)))),((((↑w:Int)+1):Int)=(↑(w+1):Int)),(AN 2),(NL 1 1),(NL c c),(AA c (fun i=>[.p (.seq false 1 ((G i).1) (fun i_1=>[.int .i64 ((G i).2 i_1)]))]))] [0,1,2,3,1,4,5,6,1,7,1,8,9,10,11,12,9,9,13,14,15,16,17,18,19,20,20,21,22,23,24,25,25,16,17,18,4,26,27]):=by kernel_rfl
theorem cie (g:Nat→T_Bar) (nb N k w c:Nat) (G:Nat→T_IntS) :
    zP Tryz.f411 0 [rg 1,.dec false,rg 2] zf52 (C0 g nb N k w c G) [1] 1 [(0,ssOb c G)] (.ar 1 0 0 c) =
    some [((decide ((↑w:Int)<shlI IntKind.i64 1 (↑N:Int)))=false),(AN 0),(AN c),(AN 1),(NL c c),(AA c (fun i=>[.p (.seq false 1 ((G i).1) (fun i_1=>[.int .i64 ((G i).2 i_1)]))])),(∀ i:Nat,(((i:Nat)<c)→All [(false=false),(AE (((G i).1)))]))]:=by kernel_rfl
theorem csz (g:Nat→T_Bar) (nb N k:Nat) :
    zT Tryz.f383 [rg 2,rg 2,rm [(1,oc [] (.p (.bool true))),(3,oc [] (.p (.bool true)))] 2,.dec false,rg 1,.head] [grG g nb N,.p (.int .i64 k)] [0,64] (D0 g nb N k 0 0 (fun _=>(0,fun _=>0))) =
    some (zf53,zD [(NT 0 1),zE 53 [(zf94 N nb g)] [] (.p (.bool true)),(AG (!!true)),(((!!true)=true)→ zE 167 [.p (.int .i64 (↑k:Int)),.p (.int .i64 0),.p (.int .i64 3)] [] (.p (.bool true))),(((!true)=false)→ ((!!true)=true)),((bif !true then true else !true)=false),(AI ((↑N:Int))),(AN nb),(AP nb (bRw g)),(AI ((↑k:Int))),(AN 0),((0:Int)=(↑0:Int)),((([AV.p (PV.int IntKind.i64 (↑N:Int)),brL g nb].length):Nat)=2),(NL 1 1),(AN 1),(NL 0 0),(∀ i:Nat,(((i:Nat)<0)→(All []∧(([.p (.nil)]:List AV)=[.p (.seq false 1 0 (fun i_1=>[.int .i64 ((0,fun x=>0).2 i_1)]))]))))] [0,1,2,3,2,4,5,6,7,8,9,10,10,10,11,12,13,13,6,7,8,14,15,16]):=by kernel_rfl
theorem csn (g:Nat→T_Bar) (nb N k w c:Nat) (G:Nat→T_IntS) (s:T_IntS) :
    zM 0 [rg 5,.dec true,rm [(3,oc [(0,iOb s.1 s.2)] (.ar 1 0 0 s.1))] 1,rm [(5,gF),(0,gF),(0,gF),(0,gF),(0,gF),(0,gF),(1,gF),(0,gF),(0,gF),(0,gF),(0,gF),(0,gF)] 0,.dec false,rg 3,.head] zf53 (D0 g nb N k w c G) [0,1] 1 (D0 g nb N k (w+1) c G) =
    some (zf53,zD [(NT 0 1),(IL 0 (↑N:Int)),((decide ((↑w:Int)<shlI IntKind.i64 1 (↑N:Int)))=true),zE 177 [.p (.int .i64 (↑N:Int)),.p (.int .i64 (↑w:Int))] [(0,⟨false,1,s.1,(fun i=>[.p (.int .i64 (s.2 i))])⟩)] (.ar 1 0 0 s.1),(((↑s.1:Int)==(↑k:Int))=false),(false=false),(ZLo ((↑w:Int)+1)),(ZHi ((↑w:Int)+1)),(AI ((↑N:Int))),(AN nb),(AP nb (bRw g)),(AI ((↑k:Int))),(AN 0),(AN c),((((↑w:Int)+1):Int)=(↑(w+1):Int)),(AN 2),(NL 1 1),(AN 1),(NL c c),(AA c (fun i=>[.p (.seq false 1 ((G i).1) (fun i_1=>[.int .i64 ((G i).2 i_1)]))]))] [0,1,2,0,3,4,4,4,4,4,4,5,5,5,5,5,5,5,6,7,8,9,10,11,12,12,13,14,15,16,16,8,9,10,17,18,19]):=by kernel_rfl
theorem csm (g:Nat→T_Bar) (nb N k w c:Nat) (G:Nat→T_IntS) (s:T_IntS) :
    zM 0 [rg 5,.dec true,rm [(3,oc [(0,iOb s.1 s.2)] (.ar 1 0 0 s.1))] 1,rm [(5,gT),(0,gT),(0,gT),(0,gT),(0,gT),(0,gT),(1,gF),(0,gF),(0,gF),(0,gF),(0,gF),(0,gF)] 0,.dec false,rg 3,.head] zf53 (D0 g nb N k w c G) [0,1] 1 (D0 g nb N k (w+1) c G) =
    some (zf53,zD [(NT 0 1),(IL 0 (↑N:Int)),((decide ((↑w:Int)<shlI IntKind.i64 1 (↑N:Int)))=true),zE 177 [.p (.int .i64 (↑N:Int)),.p (.int .i64 (↑w:Int))] [(0,⟨false,1,s.1,(fun i=>[.p (.int .i64 (s.2 i))])⟩)] (.ar 1 0 0 s.1),(((↑s.1:Int)==(↑k:Int))=true),(ZLo ((↑N:Int) - (↑k:Int))),(ZHi ((↑N:Int) - (↑k:Int))),((decide ((↑N:Int) - (↑k:Int)≥2))=false),(false=false),(ZLo ((↑w:Int)+1)),(ZHi ((↑w:Int)+1)),(AI ((↑N:Int))),(AN nb),(AP nb (bRw g)),(AI ((↑k:Int))),(AN 0),(AN c),((((↑w:Int)+1):Int)=(↑(w+1):Int)),(AN 2),(NL 1 1),(AN 1),(NL c c),(AA c (fun i=>[.p (.seq false 1 ((G i).1) (fun i_1=>[.int .i64 ((G i).2 i_1)]))]))] [0,1,2,0,3,4,4,0,4,4,5,6,4,4,7,7,7,7,7,7,8,9,10,11,12,13,14,15,15,16,17,18,19,19,11,12,13,20,21,22]):=by kernel_rfl
theorem cst (g:Nat→T_Bar) (nb N k w c:Nat) (G:Nat→T_IntS) (s:T_IntS) (n m:Nat) (h:Nat→T_Bar) (b:Bool) :
    zM 0 [rg 5,.dec true,rm [(3,oc [(0,iOb s.1 s.2)] (.ar 1 0 0 s.1))] 1,rm [(5,gT),(0,gT),(0,gT),(0,gT),(0,gT),(0,gT),(1,gT),(0,gT),(0,⟨true,(some ⟨[],[],[],1,[(0,brOb m h)],.agg [.p (.int .i64 n),.ar 2 0 0 m]⟩),some true⟩),(0,⟨true,(some ⟨[],[],[],1,[],.p (.bool b)⟩),some true⟩),(0,gT),(0,gT)] 0,.dec true,rg 5,rg 3,.head] zf53 (D0 g nb N k w c G) [0,994] 1 (D0 g nb N k (w+1) (c+1) (snocC c G s)) =
    some (zf53,zD [(NT 0 1),(IL 0 (↑N:Int)),((decide ((↑w:Int)<shlI IntKind.i64 1 (↑N:Int)))=true),zE 177 [.p (.int .i64 (↑N:Int)),.p (.int .i64 (↑w:Int))] [(0,⟨false,1,s.1,(fun i=>[.p (.int .i64 (s.2 i))])⟩)] (.ar 1 0 0 s.1),(((↑s.1:Int)==(↑k:Int))=true),(ZLo ((↑N:Int) - (↑k:Int))),(ZHi ((↑N:Int) - (↑k:Int))),((decide ((↑N:Int) - (↑k:Int)≥2))=true),(AN 1),(NL s.1 s.1),zE 308 [(zf94 N nb g),.p (.seq true 1 s.1 (iRw s))] (zf99 m h) (.agg [.p (.int .i64 (↑n:Int)),.ar 2 0 0 m]),(AN 2),(NL m m),zE 409 [(zf94 n m h)] [] (.p (.bool b)),((!b)=true),(NL 1 1),(NL c c),(NL ((c+1)*24) 140737488355328),(NL (c+1) 9223372036854775807),(ZLo ((↑w:Int)+1)),(ZHi ((↑w:Int)+1)),(AI ((↑N:Int))),(AN nb),(AP nb (bRw g)),(AI ((↑k:Int))),(AN 0),(AN ((c+1))),((((↑w:Int)+1):Int)=(↑(w+1):Int)),(NL (c+1) (c+1)),(CV [(994,⟨false,1,(c+1),(fun i_1=>(if (i_1<c) then [.p (.seq false 1 ((G i_1).1) (fun i_2=>[.int .i64 ((G i_1).2 i_2)]))] else [.ar 1 258 0 s.1]))⟩),(962,⟨false,1,1,(fun i_1=>[.ar 1 258 0 s.1])⟩),(770,⟨false,2,m,(fun i_1=>[.p (.int .i64 ((h i_1).1)),.p (.int .i64 ((h i_1).2.1))])⟩),(258,⟨false,1,s.1,(fun i_1=>[.p (.int .i64 (s.2 i_1))])⟩),(0,⟨true,2,1,(fun i_1=>[.p (.int .i64 (↑N:Int)),.p (.seq true 2 nb (bRw g))])⟩)] [0,994] 1 (c+1) (fun i=>if (i<c) then [.p (.seq false 1 ((G i).1) (fun i_1=>[.int .i64 ((G i).2 i_1)]))] else [.ar 1 258 0 s.1]) (fun i=>[.p (.seq false 1 (if i<c then (G i).1 else s.1) (fun i_1=>[.int .i64 ((snocC c G s i).2 i_1)]))]))] [0,1,2,0,3,4,4,0,4,4,5,6,4,4,7,0,7,7,8,9,10,7,11,12,13,7,7,14,15,16,17,18,19,20,21,22,23,24,25,25,26,27,11,15,15,21,22,23,8,28,29]):=by kernel_rfl
theorem csf (g:Nat→T_Bar) (nb N k w c:Nat) (G:Nat→T_IntS) (s:T_IntS) (n m:Nat) (h:Nat→T_Bar) (b:Bool) :
    zM 0 [rg 5,.dec true,rm [(3,oc [(0,iOb s.1 s.2)] (.ar 1 0 0 s.1))] 1,rm [(5,gT),(0,gT),(0,gT),(0,gT),(0,gT),(0,gT),(1,gT),(0,gT),(0,⟨true,(some ⟨[],[],[],1,[(0,brOb m h)],.agg [.p (.int .i64 n),.ar 2 0 0 m]⟩),some true⟩),(0,⟨true,(some ⟨[],[],[],1,[],.p (.bool b)⟩),some true⟩),(0,gT),(0,gT)] 0,.dec false,rg 3,.head] zf53 (D0 g nb N k w c G) [0,1] 1 (D0 g nb N k (w+1) c G) =
    some (zf53,zD [(NT 0 1),(IL 0 (↑N:Int)),((decide ((↑w:Int)<shlI IntKind.i64 1 (↑N:Int)))=true),zE 177 [.p (.int .i64 (↑N:Int)),.p (.int .i64 (↑w:Int))] [(0,⟨false,1,s.1,(fun i=>[.p (.int .i64 (s.2 i))])⟩)] (.ar 1 0 0 s.1),(((↑s.1:Int)==(↑k:Int))=true),(ZLo ((↑N:Int) - (↑k:Int))),(ZHi ((↑N:Int) - (↑k:Int))),((decide ((↑N:Int) - (↑k:Int)≥2))=true),(AN 1),(NL s.1 s.1),zE 308 [(zf94 N nb g),.p (.seq true 1 s.1 (iRw s))] (zf99 m h) (.agg [.p (.int .i64 (↑n:Int)),.ar 2 0 0 m]),(AN 2),(NL m m),zE 409 [(zf94 n m h)] [] (.p (.bool b)),((!b)=false),(ZLo ((↑w:Int)+1)),(ZHi ((↑w:Int)+1)),(AI ((↑N:Int))),(AN nb),(AP nb (bRw g)),(AI ((↑k:Int))),(AN 0),(AN c),((((↑w:Int)+1):Int)=(↑(w+1):Int)),(NL 1 1),(NL c c),(AA c (fun i=>[.p (.seq false 1 ((G i).1) (fun i_1=>[.int .i64 ((G i).2 i_1)]))]))] [0,1,2,0,3,4,4,0,4,4,5,6,4,4,7,0,7,7,8,9,10,7,11,12,13,7,7,14,15,16,17,18,19,20,21,21,22,23,11,24,24,17,18,19,8,25,26]):=by kernel_rfl
theorem cse (g:Nat→T_Bar) (nb N k w c:Nat) (G:Nat→T_IntS) :
    zP Tryz.f383 0 [rg 5,.dec false,rg 2] zf53 (D0 g nb N k w c G) [1] 1 [(0,ssOb c G)] (.ar 1 0 0 c) =
    some [(NT 0 1),(IL 0 (↑N:Int)),((decide ((↑w:Int)<shlI IntKind.i64 1 (↑N:Int)))=false),(AN 0),(AN c),(AN 1),(NL c c),(AA c (fun i=>[.p (.seq false 1 ((G i).1) (fun i_1=>[.int .i64 ((G i).2 i_1)]))])),(∀ i:Nat,(((i:Nat)<c)→All [(false=false),(AE (((G i).1)))]))]:=by kernel_rfl
theorem kin (g:Nat→T_Bar) (nb N k:Nat) :
    zS Tryz.f385 [rg 2,rm [(1,oc [] (.p (.bool true))),(3,oc [] (.p (.bool true)))] 8,.dec true,rg 1] [grG g nb N,.p (.int .i64 k)] [] [] (.p (.bool false)) =
    some (zD [(NT 0 1),zE 62 [(zf94 N nb g)] [] (.p (.bool true)),(AG (!!true)),(((!!true)=true)→ zE 179 [.p (.int .i64 (↑k:Int)),.p (.int .i64 1),.p (.int .i64 3)] [] (.p (.bool true))),(((!true)=false)→ ((!!true)=true)),(AG (!bif !true then true else !true)),(((!bif !true then true else !true)=true)→(NT 0 1)),(((bif !true then true else !true)=false)→ ((!bif !true then true else !true)=true)),((bif bif !true then true else !true then true else decide ((↑N:Int)≤(↑k:Int)))=true),(false=false)] [0,1,2,3,2,4,5,6,5,5,7,8,9]):=by kernel_rfl
theorem kiz (g:Nat→T_Bar) (nb N k:Nat) :
    zT Tryz.f385 [rg 2,rm [(1,oc [] (.p (.bool true))),(3,oc [] (.p (.bool true)))] 8,.dec false,rg 2,.head] [grG g nb N,.p (.int .i64 k)] [0] (KI g nb N k 0) =
    some (zf68,zD [(NT 0 1),zE 62 [(zf94 N nb g)] [] (.p (.bool true)),(AG (!!true)),(((!!true)=true)→ zE 179 [.p (.int .i64 (↑k:Int)),.p (.int .i64 1),.p (.int .i64 3)] [] (.p (.bool true))),(((!true)=false)→ ((!!true)=true)),(AG (!bif !true then true else !true)),(((!bif !true then true else !true)=true)→(NT 0 1)),(((bif !true then true else !true)=false)→ ((!bif !true then true else !true)=true)),((bif bif !true then true else !true then true else decide ((↑N:Int)≤(↑k:Int)))=false),(AI ((↑N:Int))),(AN nb),(AP nb (bRw g)),(AI ((↑k:Int))),(AN 0),((0:Int)=(↑0:Int)),((([AV.p (PV.int IntKind.i64 (↑N:Int)),brL g nb].length):Nat)=2),(NL 1 1)] [0,1,2,3,2,4,5,6,5,5,7,8,9,10,11,12,13,12,14,15,16,16,9,10,11]):=by kernel_rfl
theorem kit (g:Nat→T_Bar) (nb N k j c:Nat) (G:Nat→T_IntS) :
    zP Tryz.f385 0 [rg 1,.dec true,rg 2,rm [(2,oc [(0,ssOb c G)] (.ar 1 0 0 c))] 2,.dec true,rg 1] zf68 (KI g nb N k j) [] 1 [] (.p (.bool false)) =
    some [((decide ((↑j:Int)<(↑k:Int)))=true),(NT 0 1),zE 411 [(zf94 N nb g),.p (.int .i64 (↑j:Int))] (zf97 c G) (.ar 1 0 0 c),((decide ((↑c:Int)>0))=true),(false=false)]:=by kernel_rfl
theorem kif (g:Nat→T_Bar) (nb N k j c:Nat) (G:Nat→T_IntS) :
    zM 0 [rg 1,.dec true,rg 2,rm [(2,oc [(0,ssOb c G)] (.ar 1 0 0 c))] 2,.dec false,rg 2,.head] zf68 (KI g nb N k j) [0] 1 (KI g nb N k (j+1)) =
    some (zf68,zD [((decide ((↑j:Int)<(↑k:Int)))=true),(NT 0 1),zE 411 [(zf94 N nb g),.p (.int .i64 (↑j:Int))] (zf97 c G) (.ar 1 0 0 c),((decide ((↑c:Int)>0))=false),(ZLo ((↑j:Int)+1)),(ZHi ((↑j:Int)+1)),(AI ((↑N:Int))),(AN nb),(AP nb (bRw g)),(AI ((↑k:Int))),(AN 0),((((↑j:Int)+1):Int)=(↑(j+1):Int)),(AN 2),(NL 1 1)] [0,1,2,3,4,5,6,7,8,9,10,9,11,12,13,13,6,7,8]):=by kernel_rfl
theorem kie (g:Nat→T_Bar) (nb N k j:Nat) :
    zP Tryz.f385 0 [rg 1,.dec false,rg 1] zf68 (KI g nb N k j) [] 1 [] (.p (.bool true)) =
    some [((decide ((↑j:Int)<(↑k:Int)))=false),(true=true)]:=by kernel_rfl
theorem ksn (g:Nat→T_Bar) (nb N k:Nat) :
    zS Tryz.f349 [rg 2,rm [(1,oc [] (.p (.bool true))),(3,oc [] (.p (.bool true)))] 8,.dec true,rg 1] [grG g nb N,.p (.int .i64 k)] [] [] (.p (.bool false)) =
    some (zD [(NT 0 1),zE 53 [(zf94 N nb g)] [] (.p (.bool true)),(AG (!!true)),(((!!true)=true)→ zE 167 [.p (.int .i64 (↑k:Int)),.p (.int .i64 1),.p (.int .i64 3)] [] (.p (.bool true))),(((!true)=false)→ ((!!true)=true)),(AG (!bif !true then true else !true)),(((!bif !true then true else !true)=true)→(NT 0 1)),(((bif !true then true else !true)=false)→ ((!bif !true then true else !true)=true)),((bif bif !true then true else !true then true else decide ((↑N:Int)≤(↑k:Int)))=true),(false=false)] [0,1,2,3,2,4,5,6,5,5,7,8,9]):=by kernel_rfl
theorem ksz (g:Nat→T_Bar) (nb N k:Nat) :
    zT Tryz.f349 [rg 2,rm [(1,oc [] (.p (.bool true))),(3,oc [] (.p (.bool true)))] 8,.dec false,rg 1,.head] [grG g nb N,.p (.int .i64 k)] [0] (KS g nb N k 0) =
    some (zf69,zD [(NT 0 1),zE 53 [(zf94 N nb g)] [] (.p (.bool true)),(AG (!!true)),(((!!true)=true)→ zE 167 [.p (.int .i64 (↑k:Int)),.p (.int .i64 1),.p (.int .i64 3)] [] (.p (.bool true))),(((!true)=false)→ ((!!true)=true)),(AG (!bif !true then true else !true)),(((!bif !true then true else !true)=true)→(NT 0 1)),(((bif !true then true else !true)=false)→ ((!bif !true then true else !true)=true)),((bif bif !true then true else !true then true else decide ((↑N:Int)≤(↑k:Int)))=false),(AI ((↑N:Int))),(AN nb),(AP nb (bRw g)),(AI ((↑k:Int))),(AN 0),((0:Int)=(↑0:Int)),((([AV.p (PV.int IntKind.i64 (↑N:Int)),brL g nb].length):Nat)=2),(NL 1 1)] [0,1,2,3,2,4,5,6,5,5,7,8,9,10,11,12,13,14,15,16,16,9,10,11]):=by kernel_rfl
theorem kst (g:Nat→T_Bar) (nb N k j c:Nat) (G:Nat→T_IntS) :
    zP Tryz.f349 0 [rg 3,.dec true,rm [(2,oc [(0,ssOb c G)] (.ar 1 0 0 c))] 2,.dec true,rg 1] zf69 (KS g nb N k j) [] 1 [] (.p (.bool false)) =
    some [((decide ((↑j:Int)<(↑k:Int)))=true),(NT 0 1),zE 383 [(zf94 N nb g),.p (.int .i64 (↑j:Int))] (zf97 c G) (.ar 1 0 0 c),((decide ((↑c:Int)>0))=true),(false=false)]:=by kernel_rfl
theorem ksf (g:Nat→T_Bar) (nb N k j c:Nat) (G:Nat→T_IntS) :
    zM 0 [rg 3,.dec true,rm [(2,oc [(0,ssOb c G)] (.ar 1 0 0 c))] 2,.dec false,rg 3,.head] zf69 (KS g nb N k j) [0] 1 (KS g nb N k (j+1)) =
    some (zf69,zD [((decide ((↑j:Int)<(↑k:Int)))=true),(NT 0 1),zE 383 [(zf94 N nb g),.p (.int .i64 (↑j:Int))] (zf97 c G) (.ar 1 0 0 c),((decide ((↑c:Int)>0))=false),(ZLo ((↑j:Int)+1)),(ZHi ((↑j:Int)+1)),(AI ((↑N:Int))),(AN nb),(AP nb (bRw g)),(AI ((↑k:Int))),(AN 0),((((↑j:Int)+1):Int)=(↑(j+1):Int)),(AN 2),(NL 1 1)] [0,1,2,3,4,5,6,7,8,9,10,11,12,13,13,6,7,8]):=by kernel_rfl
theorem kse (g:Nat→T_Bar) (nb N k j:Nat) :
    zP Tryz.f349 0 [rg 3,.dec false,rg 1] zf69 (KS g nb N k j) [] 1 [] (.p (.bool true)) =
    some [((decide ((↑j:Int)<(↑k:Int)))=false),(true=true)]:=by kernel_rfl
theorem wpB_congr {N:Nat} (g:Nat→T_Bar) {p q:Nat→Int} (h:∀ u,u<N→p u=q u):∀ k,(∀ i,i<k→(g i).1.toNat<N∧(g i).2.1.toNat<N)→wpB g p k=wpB g q k
  | 0,_=>rfl
  | k+1,hk=>by
    have h1:=hk k (by omega)
    simp only [wpB,wpB_congr g h k (fun i hi=>hk i (by omega)),h _ h1.1,h _ h1.2]
theorem wpD_t {S:T_IntS} {v:Nat} (h:hasI S.2 v S.1=true):wpD S (v+1)=((wpD S v).1,fun u=>if u<v then (wpD S v).2 u else -1):=by simp [wpD,h]
theorem wpD_f {S:T_IntS} {v:Nat} (h:hasI S.2 v S.1=false):wpD S (v+1)=((wpD S v).1+1,fun u=>if u<v then (wpD S v).2 u else ((wpD S v).1:Int)):=by simp [wpD,h]
theorem con_gWithout_i {N nb:Nat} {g:Nat→T_Bar} (hg:isGraphF ((N:Int),(nb,g),())=true) (S:T_IntS) (hS:S.1≤1048576) :
    zE 311 [grG g nb N,inL S] [(0,brOb (wpG N nb g S).2.1.1 (wpG N nb g S).2.1.2)] (.agg [.p (.int .i64 (wpG N nb g S).1),.ar 2 0 0 (wpG N nb g S).2.1.1]):=by
  obtain ⟨h1,h2,h3⟩:=graph_in hg
  have he:=ends_in h3
  have c1:=con_IsGraph_i ((N:Int),(nb,g),()) (sm_graph (by show nb≤_;omega))
  rw [hg] at c1
  show zE 311 [grG g nb N,inL S] [(0,brOb (wpB g (wpD S N).2 nb).1 (wpB g (wpD S N).2 nb).2)] (.agg [.p (.int .i64 ((wpD S N).1:Int)),.ar 2 0 0 (wpB g (wpD S N).2 nb).1])
  generalize hR:wpB g (wpD S N).2 nb=R
  generalize hn:(wpD S N).1=n
  have hnN:n≤N:=by rw [← hn];exact wpD_le S N
  refine csZ Tryz.func311 (fun c hc=>?_)
  have lj:∀ p:Nat→Int,(∀ u,u<N→p u=(wpD S N).2 u)→∀ d k,k+d=nb→zR c 311 zf24 (W1 g nb N S n p k (wpB g p k).1 (wpB g p k).2) (Post c [(0,brOb R.1 R.2)] (.agg [.p (.int .i64 (n:Int)),.ar 2 0 0 R.1])):=by
    intro p hp d
    induction d with
    | zero =>
      intro k hk
      obtain rfl:k=nb:=by omega
      have hd:decide ((k:Int)<(k:Int))=false:=decide_eq_false (by omega)
      rw [wpB_congr g hp k he,hR]
      refine pkZ Tryz.func311 hc (wje g k N S n p k R.1 R.2) ?_
      and_intros
      all_goals (first | exact zI | (exact hd) | (intro t ht;simp [All]))
    | succ d ih =>
      intro k hk
      have hd:decide ((k:Int)<(nb:Int))=true:=decide_eq_true (by omega)
      have hb:=h3 k (by omega)
      have hrec:=ih (k+1) (by omega)
      have hle:=wpB_le g p k
      cases hq:(decide (p (g k).1.toNat≥0)&&decide (p (g k).2.1.toNat≥0)) with
      | true =>
        rw [show wpB g p (k+1)=sn (wpB g p k) (p (g k).1.toNat,p (g k).2.1.toNat,()) by simp only [wpB];rw [if_pos hq]] at hrec
        have hq2:(bif decide (p (g k).1.toNat≥0) then decide (p (g k).2.1.toNat≥0) else false)=true:=by rw [← hq];cases decide (p (g k).1.toNat≥0)<;>rfl
        generalize wpB g p k=q at hrec hle ⊢
        refine pcD hc (wjt g nb N S n p k q.1 q.2) ?_ hrec
        and_intros
        all_goals (first | exact zI | (exact hd) | (exact hq2) | (intro t ht;simp [All];done) | (intro t ht;by_cases h':t<q.1<;>simp [h',snoc,cvtL,cvt,tg,tru,All]) | (simp;omega))
      | false =>
        rw [show wpB g p (k+1)=wpB g p k by simp only [wpB];rw [if_neg (by rw [hq];exact Bool.false_ne_true)]] at hrec
        have hq2:(bif decide (p (g k).1.toNat≥0) then decide (p (g k).2.1.toNat≥0) else false)=false:=by rw [← hq];cases decide (p (g k).1.toNat≥0)<;>rfl
        refine pcD hc (wjf g nb N S n p k _ _) ?_ hrec
        and_intros
        all_goals (first | exact zI | (exact hd) | (exact hq2) | (intro t ht;simp [All]))
  have lo:∀ d v p,v+d=N→(∀ u,u<v→p u=(wpD S v).2 u)→zR c 311 zf50 (W0 g nb N S v (wpD S v).1 p) (Post c [(0,brOb R.1 R.2)] (.agg [.p (.int .i64 (n:Int)),.ar 2 0 0 R.1])):=by
    intro d
    induction d with
    | zero =>
      intro v p hv hp
      obtain rfl:v=N:=by omega
      have hd:decide ((v:Int)<(v:Int))=false:=decide_eq_false (by omega)
      rw [hn]
      refine pcD hc (wix g nb v S v n p) ?_ (lj p hp nb 0 (by omega))
      and_intros
      all_goals (first | exact zN | (exact hd) | (exact c1) | (intro t ht;exact absurd ht (Nat.not_lt_zero _)) | (intro t ht;simp [All]))
    | succ d ih =>
      intro v p hv hp
      have hd:decide ((v:Int)<(N:Int))=true:=decide_eq_true (by omega)
      have ch:=con_Contains S (v:Int) hS
      have hle:=wpD_le S v
      cases hq:hasI S.2 (v:Int) S.1 with
      | true =>
        rw [hq] at ch
        have hrec:=ih (v+1) (fun u=>if u=v then -1 else p u) (by omega) (by
          intro u hu
          rw [wpD_t hq]
          by_cases h:u=v
          · simp [h]
          · simp [h,show u<v by omega,hp u (by omega)])
        rw [show (wpD S (v+1)).1=(wpD S v).1 by rw [wpD_t hq]] at hrec
        refine pcD hc (wif g nb N S v _ p) ?_ hrec
        and_intros
        all_goals (first | exact zI | (exact hd) | (exact ch) | (intro t ht;simp [All];done) | (intro t ht;by_cases h':t=v<;>simp [h',cvtL,cvt,tg,tru,All]) | (simp;omega))
      | false =>
        rw [hq] at ch
        have hrec:=ih (v+1) (fun u=>if u=v then ((wpD S v).1:Int) else p u) (by omega) (by
          intro u hu
          rw [wpD_f hq]
          by_cases h:u=v
          · simp [h]
          · simp [h,show u<v by omega,hp u (by omega)])
        rw [show (wpD S (v+1)).1=(wpD S v).1+1 by rw [wpD_f hq]] at hrec
        refine pcD hc (wit g nb N S v _ p) ?_ hrec
        and_intros
        all_goals (first | exact zI | (exact hd) | (exact ch) | (intro t ht;simp [All];done) | (intro t ht;by_cases h':t=v<;>simp [h',cvtL,cvt,tg,tru,All]) | (simp;omega))
  refine pcD hc (wiz g nb N S) ?_ (lo N 0 (fun _=>0) (by omega) (fun u hu=>absurd hu (Nat.not_lt_zero _)))
  and_intros
  all_goals (first | exact zI | (intro t ht;simp [All];done) | (intro t ht;simp [cvtL,cvt,tg,tru,All];done) | (simp;omega))
theorem con_gWithout_s {N nb:Nat} {g:Nat→T_Bar} (hg:isGraphF ((N:Int),(nb,g),())=true) (S:T_IntS) (hS:S.1≤1048576) :
    zE 308 [grG g nb N,inL S] [(0,brOb (wpG N nb g S).2.1.1 (wpG N nb g S).2.1.2)] (.agg [.p (.int .i64 (wpG N nb g S).1),.ar 2 0 0 (wpG N nb g S).2.1.1]):=by
  obtain ⟨h1,h2,h3⟩:=graph_in hg
  have he:=ends_in h3
  have c1:=con_IsGraph_s ((N:Int),(nb,g),()) (sm_graph (by show nb≤_;omega))
  rw [hg] at c1
  show zE 308 [grG g nb N,inL S] [(0,brOb (wpB g (wpD S N).2 nb).1 (wpB g (wpD S N).2 nb).2)] (.agg [.p (.int .i64 ((wpD S N).1:Int)),.ar 2 0 0 (wpB g (wpD S N).2 nb).1])
  generalize hR:wpB g (wpD S N).2 nb=R
  generalize hn:(wpD S N).1=n
  have hnN:n≤N:=by rw [← hn];exact wpD_le S N
  refine csZ Tryz.func308 (fun c hc=>?_)
  have lj:∀ p:Nat→Int,(∀ u,u<N→p u=(wpD S N).2 u)→∀ d k,k+d=nb→zR c 308 zf25 (V1 g nb N S n p k (wpB g p k).1 (wpB g p k).2) (Post c [(0,brOb R.1 R.2)] (.agg [.p (.int .i64 (n:Int)),.ar 2 0 0 R.1])):=by
    intro p hp d
    induction d with
    | zero =>
      intro k hk
      obtain rfl:k=nb:=by omega
      have hd:(bif decide ((k:Int)<(k:Int)) then true else false)=false:=by rw [decide_eq_false (show ¬ ((k:Int)<(k:Int)) by omega)];rfl
      rw [wpB_congr g hp k he,hR]
      refine pkD Tryz.func308 hc (vje g k N S n p k R.1 R.2) ?_
      and_intros
      all_goals (first | exact zI | (exact hd) | (intros;exact c1) | (intro t ht;simp [All]))
    | succ d ih =>
      intro k hk
      have hd:(bif decide ((k:Int)<(nb:Int)) then true else false)=true:=by rw [decide_eq_true (show ((k:Int)<(nb:Int)) by omega)];rfl
      have hb:=h3 k (by omega)
      have hrec:=ih (k+1) (by omega)
      have hle:=wpB_le g p k
      cases hq:(decide (p (g k).1.toNat≥0)&&decide (p (g k).2.1.toNat≥0)) with
      | true =>
        rw [show wpB g p (k+1)=sn (wpB g p k) (p (g k).1.toNat,p (g k).2.1.toNat,()) by simp only [wpB];rw [if_pos hq]] at hrec
        have hq2:(bif decide (p (g k).1.toNat≥0) then decide (p (g k).2.1.toNat≥0) else false)=true:=by rw [← hq];cases decide (p (g k).1.toNat≥0)<;>rfl
        generalize wpB g p k=q at hrec hle ⊢
        refine pcD hc (vjt g nb N S n p k q.1 q.2) ?_ hrec
        and_intros
        all_goals (first | exact zI | (exact hd) | (exact hq2) | (intros;exact c1) | (intro t ht;simp [All];done) | (intro t ht;by_cases h':t<q.1<;>simp [h',snoc,cvtL,cvt,tg,tru,All]) | (simp;omega))
      | false =>
        rw [show wpB g p (k+1)=wpB g p k by simp only [wpB];rw [if_neg (by rw [hq];exact Bool.false_ne_true)]] at hrec
        have hq2:(bif decide (p (g k).1.toNat≥0) then decide (p (g k).2.1.toNat≥0) else false)=false:=by rw [← hq];cases decide (p (g k).1.toNat≥0)<;>rfl
        refine pcD hc (vjf g nb N S n p k _ _) ?_ hrec
        and_intros
        all_goals (first | exact zI | (exact hd) | (exact hq2) | (intros;exact c1) | (intro t ht;simp [All]))
  have lo:∀ d v p,v+d=N→(∀ u,u<v→p u=(wpD S v).2 u)→zR c 308 zf51 (V0 g nb N S v (wpD S v).1 p) (Post c [(0,brOb R.1 R.2)] (.agg [.p (.int .i64 (n:Int)),.ar 2 0 0 R.1])):=by
    intro d
    induction d with
    | zero =>
      intro v p hv hp
      obtain rfl:v=N:=by omega
      have hd:decide ((v:Int)<(v:Int))=false:=decide_eq_false (by omega)
      rw [hn]
      refine pcD hc (vsx g nb v S v n p) ?_ (lj p hp nb 0 (by omega))
      and_intros
      all_goals (first | exact zI | (exact hd) | (intro t ht;exact absurd ht (Nat.not_lt_zero _)) | (intro t ht;simp [All]))
    | succ d ih =>
      intro v p hv hp
      have hd:decide ((v:Int)<(N:Int))=true:=decide_eq_true (by omega)
      have ch:=con_l2Has S (v:Int) hS
      have hle:=wpD_le S v
      cases hq:hasI S.2 (v:Int) S.1 with
      | true =>
        rw [hq] at ch
        have hrec:=ih (v+1) (fun u=>if u=v then -1 else p u) (by omega) (by
          intro u hu
          rw [wpD_t hq]
          by_cases h:u=v
          · simp [h]
          · simp [h,show u<v by omega,hp u (by omega)])
        rw [show (wpD S (v+1)).1=(wpD S v).1 by rw [wpD_t hq]] at hrec
        refine pcZ hc (vsf g nb N S v _ p) ?_ hrec
        and_intros
        all_goals (first | exact zI | (exact hd) | (exact ch) | (intro t ht;simp [All];done) | (intro t ht;by_cases h':t=v<;>simp [h',cvtL,cvt,tg,tru,All]) | (simp;omega))
      | false =>
        rw [hq] at ch
        have hrec:=ih (v+1) (fun u=>if u=v then ((wpD S v).1:Int) else p u) (by omega) (by
          intro u hu
          rw [wpD_f hq]
          by_cases h:u=v
          · simp [h]
          · simp [h,show u<v by omega,hp u (by omega)])
        rw [show (wpD S (v+1)).1=(wpD S v).1+1 by rw [wpD_f hq]] at hrec
        refine pcD hc (vst g nb N S v _ p) ?_ hrec
        and_intros
        all_goals (first | exact zI | (exact hd) | (exact ch) | (intro t ht;simp [All];done) | (intro t ht;by_cases h':t=v<;>simp [h',cvtL,cvt,tg,tru,All]) | (simp;omega))
  refine pcD hc (vsz g nb N S) ?_ (lo N 0 (fun _=>0) (by omega) (fun u hu=>absurd hu (Nat.not_lt_zero _)))
  and_intros
  all_goals (first | exact zN | (intro t ht;simp [All];done) | (intro t ht;simp [cvtL,cvt,tg,tru,All];done) | (simp;omega))
theorem wpG_sm (N nb:Nat) (g:Nat→T_Bar) (S:T_IntS) (h:nb≤24):smS s_Graph (wpG N nb g S):=by
  have:=wpB_le g (wpD S N).2 nb
  exact sm_graph (by show (wpB g (wpD S N).2 nb).1≤_;omega)
theorem csD_t {N nb:Nat} {g:Nat→T_Bar} {k w:Nat} (h:ctQ N nb g k w=true):csD N nb g k (w+1)=((csD N nb g k w).1+1,snocC (csD N nb g k w).1 (csD N nb g k w).2 (stD w N)):=by simp [csD,h]
theorem csD_f {N nb:Nat} {g:Nat→T_Bar} {k w:Nat} (h:ctQ N nb g k w=false):csD N nb g k (w+1)=csD N nb g k w:=by simp [csD,h]
theorem con_gCuts_i {N nb:Nat} {g:Nat→T_Bar} (hg:isGraphF ((N:Int),(nb,g),())=true) (k:Nat) (hk:k≤3) :
    zE 411 [grG g nb N,.p (.int .i64 k)] [(0,ssOb (csD N nb g k (2 ^ N)).1 (csD N nb g k (2 ^ N)).2)] (.ar 1 0 0 (csD N nb g k (2 ^ N)).1):=by
  obtain ⟨h1,h2,h3⟩:=graph_in hg
  have c1:=con_IsGraph_i ((N:Int),(nb,g),()) (sm_graph (by show nb≤_;omega))
  rw [hg] at c1
  have c2:=con_within (k:Int) 0 3
  rw [show inB (k:Int) 0 3=true by simp [inB];omega] at c2
  have hsh:=shl_nat N (by omega)
  have hP:2 ^ N≤256:=by
    calc 2 ^ N≤2 ^ 8:=Nat.pow_le_pow_right (by omega) h1.2
      _=256:=rfl
  generalize hR:csD N nb g k (2 ^ N)=R
  refine csZ Tryz.func411 (fun c hc=>?_)
  have lo:∀ d w,w+d=2 ^ N→zR c 411 zf52 (C0 g nb N k w (csD N nb g k w).1 (csD N nb g k w).2) (Post c [(0,ssOb R.1 R.2)] (.ar 1 0 0 R.1)):=by
    intro d
    induction d with
    | zero =>
      intro w hw
      obtain rfl:w=2 ^ N:=by omega
      rw [hR]
      have hd:decide (((2 ^ N:Nat):Int)<shlI IntKind.i64 1 (N:Int))=false:=by rw [hsh];exact decide_eq_false (by omega)
      refine pkZ Tryz.func411 hc (cie g nb N k (2 ^ N) R.1 R.2) ?_
      and_intros
      iterate 2 all_goals (first | exact zN | (exact hd) | (intro t ht;simp [All]) | simp only [All])
    | succ d ih =>
      intro w hw
      have hd:decide ((w:Int)<shlI IntKind.i64 1 (N:Int))=true:=by rw [hsh];exact decide_eq_true (by omega)
      have hrec:=ih (w+1) (by omega)
      have hle:=csD_le N nb g k w
      have cs:=con_setOf w N (by omega)
      have cw:=con_gWithout_i hg (stD w N) (by have:=stD_n w N;omega)
      have cn:=con_gConn_i (wpG N nb g (stD w N)) (wpG_sm N nb g _ h2)
      by_cases hlen:(stD w N).1=k
      · have hne:((((stD w N).1:Nat):Int) != (k:Int))=false:=by rw [hlen];simp
        have hq:ctQ N nb g k w=(bif decide ((((wpD (stD w N) N).1:Nat):Int)≥2) then !cnB (wpG N nb g (stD w N)) else false):=by
          unfold ctQ
          rw [hlen,beq_self_eq_true];rfl
        cases hb:ctQ N nb g k w with
        | true =>
          rw [csD_t hb] at hrec
          rw [hb] at hq
          have hq:=hq.symm
          generalize csD N nb g k w=q at hrec hle ⊢
          refine pcD hc (cit g nb N k w q.1 q.2 (stD w N) (wpD (stD w N) N).1 (wpG N nb g (stD w N)).2.1.1 (wpG N nb g (stD w N)).2.1.2 (cnB (wpG N nb g (stD w N)))) ?_ hrec
          and_intros
          all_goals (first | exact zI | (exact hd) | (exact cs) | (exact hne) | (exact cw) | (intros;exact cn) | (exact cn) | (exact hq) | (intro j hj;simp [All];done) | (intro j hj;by_cases h:j<q.1<;>simp [h,snocC,cvtL,cvt,lendP,cellP,tab,idx,idx1,lkk,idO,idM,Ob.isF,List.lookup,iOb,tg,tru,All]))
        | false =>
          rw [csD_f hb] at hrec
          rw [hb] at hq
          have hq:=hq.symm
          generalize csD N nb g k w=q at hrec hle ⊢
          refine pcD hc (cif g nb N k w q.1 q.2 (stD w N) (wpD (stD w N) N).1 (wpG N nb g (stD w N)).2.1.1 (wpG N nb g (stD w N)).2.1.2 (cnB (wpG N nb g (stD w N)))) ?_ hrec
          and_intros
          all_goals (first | exact zI | (exact hd) | (exact cs) | (exact hne) | (exact cw) | (intros;exact cn) | (exact cn) | (exact hq) | (intro j hj;simp [All]))
      · have hne:((((stD w N).1:Nat):Int) != (k:Int))=true:=by simpa using (show ¬ (((stD w N).1:Nat):Int)=(k:Int) by omega)
        have hb:ctQ N nb g k w=false:=by
          unfold ctQ
          rw [show ((((stD w N).1:Nat):Int)==(k:Int))=false from beq_eq_false_iff_ne.2 (by omega)];rfl
        rw [csD_f hb] at hrec
        refine pcZ hc (cin g nb N k w _ _ (stD w N)) ?_ hrec
        and_intros
        all_goals (first | exact zN | (exact hd) | (exact cs) | (exact hne) | (intro j hj;simp [All]))
  refine pcD hc (ciz g nb N k) ?_ (lo (2 ^ N) 0 (by omega))
  and_intros
  iterate 2 all_goals (first | exact zH | (exact c1) | (intros;exact c2) | (exact c2) | (intro t ht;exact absurd ht (Nat.not_lt_zero _)) | (intro t ht;simp [All]) | simp only [All])
theorem con_gCuts_s {N nb:Nat} {g:Nat→T_Bar} (hg:isGraphF ((N:Int),(nb,g),())=true) (k:Nat) (hk:k≤3) :
    zE 383 [grG g nb N,.p (.int .i64 k)] [(0,ssOb (csD N nb g k (2 ^ N)).1 (csD N nb g k (2 ^ N)).2)] (.ar 1 0 0 (csD N nb g k (2 ^ N)).1):=by
  obtain ⟨h1,h2,h3⟩:=graph_in hg
  have c1:=con_IsGraph_s ((N:Int),(nb,g),()) (sm_graph (by show nb≤_;omega))
  rw [hg] at c1
  have c2:=con_l1In (k:Int) 0 3
  rw [show inB (k:Int) 0 3=true by simp [inB];omega] at c2
  have hsh:=shl_nat N (by omega)
  have hP:2 ^ N≤256:=by
    calc 2 ^ N≤2 ^ 8:=Nat.pow_le_pow_right (by omega) h1.2
      _=256:=rfl
  generalize hR:csD N nb g k (2 ^ N)=R
  refine csZ Tryz.func383 (fun c hc=>?_)
  have lo:∀ d w,w+d=2 ^ N→zR c 383 zf53 (D0 g nb N k w (csD N nb g k w).1 (csD N nb g k w).2) (Post c [(0,ssOb R.1 R.2)] (.ar 1 0 0 R.1)):=by
    intro d
    induction d with
    | zero =>
      intro w hw
      obtain rfl:w=2 ^ N:=by omega
      rw [hR]
      have hd:decide (((2 ^ N:Nat):Int)<shlI IntKind.i64 1 (N:Int))=false:=by rw [hsh];exact decide_eq_false (by omega)
      refine pkZ Tryz.func383 hc (cse g nb N k (2 ^ N) R.1 R.2) ?_
      and_intros
      iterate 2 all_goals (first | exact zN | (exact hd) | (intro t ht;simp [All]) | simp only [All])
    | succ d ih =>
      intro w hw
      have hd:decide ((w:Int)<shlI IntKind.i64 1 (N:Int))=true:=by rw [hsh];exact decide_eq_true (by omega)
      have hrec:=ih (w+1) (by omega)
      have hle:=csD_le N nb g k w
      have cs:=con_l3Set w N (by omega)
      have cw:=con_gWithout_s hg (stD w N) (by have:=stD_n w N;omega)
      have cn:=con_gConn_s (wpG N nb g (stD w N)) (wpG_sm N nb g _ h2)
      have hcnt:=wp_cnt w N N (Nat.le_refl _)
      by_cases hlen:(stD w N).1=k
      · have hne:((((stD w N).1:Nat):Int)==(k:Int))=true:=by rw [hlen];simp
        by_cases h2w:2≤(wpD (stD w N) N).1
        · have hge:decide ((N:Int) - (k:Int)≥2)=true:=decide_eq_true (by omega)
          have hq:ctQ N nb g k w=!cnB (wpG N nb g (stD w N)):=by
            unfold ctQ
            rw [hlen,beq_self_eq_true,decide_eq_true (show ((((wpD (stD w N) N).1:Nat):Int)≥2) by omega)];rfl
          cases hb:ctQ N nb g k w with
          | true =>
            rw [csD_t hb] at hrec
            rw [hb] at hq
            have hq:=hq.symm
            generalize csD N nb g k w=q at hrec hle ⊢
            refine pcD hc (cst g nb N k w q.1 q.2 (stD w N) (wpD (stD w N) N).1 (wpG N nb g (stD w N)).2.1.1 (wpG N nb g (stD w N)).2.1.2 (cnB (wpG N nb g (stD w N)))) ?_ hrec
            and_intros
            all_goals (first | exact zN | (exact hd) | (exact cs) | (exact hne) | (exact hge) | (exact cw) | (exact cn) | (exact hq) | (intro j hj;simp [All];done) | (intro j hj;by_cases h:j<q.1<;>simp [h,snocC,cvtL,cvt,lendP,cellP,tab,idx,idx1,lkk,idO,idM,Ob.isF,List.lookup,iOb,tg,tru,All]))
          | false =>
            rw [csD_f hb] at hrec
            rw [hb] at hq
            have hq:=hq.symm
            generalize csD N nb g k w=q at hrec hle ⊢
            refine pcD hc (csf g nb N k w q.1 q.2 (stD w N) (wpD (stD w N) N).1 (wpG N nb g (stD w N)).2.1.1 (wpG N nb g (stD w N)).2.1.2 (cnB (wpG N nb g (stD w N)))) ?_ hrec
            and_intros
            all_goals (first | exact zN | (exact hd) | (exact cs) | (exact hne) | (exact hge) | (exact cw) | (exact cn) | (exact hq) | (intro j hj;simp [All]))
        · have hge:decide ((N:Int) - (k:Int)≥2)=false:=decide_eq_false (by omega)
          have hb:ctQ N nb g k w=false:=by
            unfold ctQ
            rw [hlen,beq_self_eq_true,decide_eq_false (show ¬ ((((wpD (stD w N) N).1:Nat):Int)≥2) by omega)];rfl
          rw [csD_f hb] at hrec
          refine pcD hc (csm g nb N k w _ _ (stD w N)) ?_ hrec
          and_intros
          all_goals (first | exact zN | (exact hd) | (exact cs) | (exact hne) | (exact hge) | (intro j hj;simp [All]))
      · have hne:((((stD w N).1:Nat):Int)==(k:Int))=false:=beq_eq_false_iff_ne.2 (by omega)
        have hb:ctQ N nb g k w=false:=by
          unfold ctQ
          rw [hne];rfl
        rw [csD_f hb] at hrec
        refine pcD hc (csn g nb N k w _ _ (stD w N)) ?_ hrec
        and_intros
        all_goals (first | exact zN | (exact hd) | (exact cs) | (exact hne) | (intro j hj;simp [All]))
  refine pcD hc (csz g nb N k) ?_ (lo (2 ^ N) 0 (by omega))
  and_intros
  iterate 2 all_goals (first | exact zH | (exact c1) | (intros;exact c2) | (exact c2) | (intro t ht;exact absurd ht (Nat.not_lt_zero _)) | (intro t ht;simp [All]) | simp only [All])
theorem kcA_f {N nb:Nat} {g:Nat→T_Bar} {j:Nat} (h:(decide ((((csD N nb g j (2 ^ N)).1:Nat):Int)>0))=true):∀ d,kcA N nb g (j+1+d)=false
  | 0=>by simp only [kcA,h];simp
  | d+1=>by show (kcA N nb g (j+1+d)&&_)=false;rw [kcA_f h d];rfl
theorem con_gKC_i {N nb:Nat} {g:Nat→T_Bar} (hg:isGraphF ((N:Int),(nb,g),())=true) (k:Nat) (hk:1≤k∧k≤3) :
    zE 385 [grG g nb N,.p (.int .i64 k)] [] (.p (.bool (kcB N nb g k))):=by
  obtain ⟨h1,h2,h3⟩:=graph_in hg
  have c1:=con_IsGraph_i ((N:Int),(nb,g),()) (sm_graph (by show nb≤_;omega))
  rw [hg] at c1
  have c2:=con_within (k:Int) 1 3
  rw [show inB (k:Int) 1 3=true by simp [inB];omega] at c2
  refine csZ Tryz.func385 (fun c hc=>?_)
  by_cases hNk:N≤k
  · have hd:decide ((N:Int)≤(k:Int))=true:=decide_eq_true (by omega)
    rw [show kcB N nb g k=false by unfold kcB;rw [hd];rfl]
    refine pkD Tryz.func385 hc (kin g nb N k) ?_
    and_intros
    all_goals (first | exact zH | (exact c1) | (intros;exact c2) | (exact c2) | (simp [hd];done))
  · have hd:decide ((N:Int)≤(k:Int))=false:=decide_eq_false (by omega)
    rw [show kcB N nb g k=kcA N nb g k by unfold kcB;rw [hd];rfl]
    have lo:∀ d j,j+d=k→kcA N nb g j=true→zR c 385 zf68 (KI g nb N k j) (Post c [] (.p (.bool (kcA N nb g k)))):=by
      intro d
      induction d with
      | zero =>
        intro j hj ha
        obtain rfl:j=k:=by omega
        rw [ha]
        have hd:decide ((j:Int)<(j:Int))=false:=decide_eq_false (by omega)
        refine pkZ Tryz.func385 hc (kie g nb N j j) ?_
        and_intros
        all_goals (first | exact zN | (exact hd) | (simp;done))
      | succ d ih =>
        intro j hj ha
        have hd:decide ((j:Int)<(k:Int))=true:=decide_eq_true (by omega)
        have cc:=con_gCuts_i hg j (by omega)
        cases hq:decide ((((csD N nb g j (2 ^ N)).1:Nat):Int)>0) with
        | true =>
          rw [show kcA N nb g k=false by rw [show k=j+1+(k - j - 1) by omega];exact kcA_f hq _]
          generalize csD N nb g j (2 ^ N)=R at *
          refine pkZ Tryz.func385 hc (kit g nb N k j R.1 R.2) ?_
          and_intros
          all_goals (first | exact zN | (exact hd) | (exact cc) | (exact hq) | (simp;done))
        | false =>
          have hrec:=ih (j+1) (by omega) (by simp only [kcA,ha,hq];rfl)
          generalize csD N nb g j (2 ^ N)=R at *
          refine pcD hc (kif g nb N k j R.1 R.2) ?_ hrec
          and_intros
          all_goals (first | exact zN | (exact hd) | (exact cc) | (exact hq) | (simp;done))
    refine pcD hc (kiz g nb N k) ?_ (lo k 0 (by omega) rfl)
    and_intros
    all_goals (first | exact zH | (exact c1) | (intros;exact c2) | (exact c2) | (simp [hd];done))
theorem con_gKC_s {N nb:Nat} {g:Nat→T_Bar} (hg:isGraphF ((N:Int),(nb,g),())=true) (k:Nat) (hk:1≤k∧k≤3) :
    zE 349 [grG g nb N,.p (.int .i64 k)] [] (.p (.bool (kcB N nb g k))):=by
  obtain ⟨h1,h2,h3⟩:=graph_in hg
  have c1:=con_IsGraph_s ((N:Int),(nb,g),()) (sm_graph (by show nb≤_;omega))
  rw [hg] at c1
  have c2:=con_l1In (k:Int) 1 3
  rw [show inB (k:Int) 1 3=true by simp [inB];omega] at c2
  refine csZ Tryz.func349 (fun c hc=>?_)
  by_cases hNk:N≤k
  · have hd:decide ((N:Int)≤(k:Int))=true:=decide_eq_true (by omega)
    rw [show kcB N nb g k=false by unfold kcB;rw [hd];rfl]
    refine pkD Tryz.func349 hc (ksn g nb N k) ?_
    and_intros
    all_goals (first | exact zH | (exact c1) | (intros;exact c2) | (exact c2) | (simp [hd];done))
  · have hd:decide ((N:Int)≤(k:Int))=false:=decide_eq_false (by omega)
    rw [show kcB N nb g k=kcA N nb g k by unfold kcB;rw [hd];rfl]
    have lo:∀ d j,j+d=k→kcA N nb g j=true→zR c 349 zf69 (KS g nb N k j) (Post c [] (.p (.bool (kcA N nb g k)))):=by
      intro d
      induction d with
      | zero =>
        intro j hj ha
        obtain rfl:j=k:=by omega
        rw [ha]
        have hd:decide ((j:Int)<(j:Int))=false:=decide_eq_false (by omega)
        refine pkZ Tryz.func349 hc (kse g nb N j j) ?_
        and_intros
        all_goals (first | exact zN | (exact hd) | (simp;done))
      | succ d ih =>
        intro j hj ha
        have hd:decide ((j:Int)<(k:Int))=true:=decide_eq_true (by omega)
        have cc:=con_gCuts_s hg j (by omega)
        cases hq:decide ((((csD N nb g j (2 ^ N)).1:Nat):Int)>0) with
        | true =>
          rw [show kcA N nb g k=false by rw [show k=j+1+(k - j - 1) by omega];exact kcA_f hq _]
          generalize csD N nb g j (2 ^ N)=R at *
          refine pkZ Tryz.func349 hc (kst g nb N k j R.1 R.2) ?_
          and_intros
          all_goals (first | exact zN | (exact hd) | (exact cc) | (exact hq) | (simp;done))
        | false =>
          have hrec:=ih (j+1) (by omega) (by simp only [kcA,ha,hq];rfl)
          generalize csD N nb g j (2 ^ N)=R at *
          refine pcD hc (ksf g nb N k j R.1 R.2) ?_ hrec
          and_intros
          all_goals (first | exact zN | (exact hd) | (exact cc) | (exact hq) | (simp;done))
    refine pcD hc (ksz g nb N k) ?_ (lo k 0 (by omega) rfl)
    and_intros
    all_goals (first | exact zH | (exact c1) | (intros;exact c2) | (exact c2) | (simp [hd];done))
def kwE:ByteArray:=⟨#[]⟩
def kwGraph:ByteArray:=⟨#[103,114,97,112,104]⟩
def kwRigid:ByteArray:=⟨#[114,105,103,105,100]⟩
def kwConn:ByteArray:=⟨#[99,111,110,110,101,99,116,101,100]⟩
def kwRed:ByteArray:=⟨#[114,101,100,117,110,100,97,110,116]⟩
def HD (g:Nat→T_Bar) (nb N k:Nat):St:=⟨[grG g nb N,.pt 2 0 0 0,.p .any,.p (.int .i64 k)]++List.replicate 19 anyA,[(0,bxG g nb N)],1⟩
def HS (g:Nat→T_Bar) (nb N k:Nat):St:=⟨[grG g nb N,.pt 2 0 0 0,.p .any,.p (.int .i64 k)]++List.replicate 21 anyA,[(0,bxG g nb N)],1⟩
theorem hdz (g:Nat→T_Bar) (nb N:Nat) :
    zT Tryz.f217 [rg 2,rg 1,.head] [grG g nb N] [0] (HD g nb N 1) =
    some (zf85,[(AI ((↑N:Int))),(AN nb),(AP nb (bRw g)),(AN 0),((1:Int)=(↑1:Int)),((([AV.p (PV.int IntKind.i64 (↑N:Int)),brL g nb].length):Nat)=2),(NL 1 1),(NL 1 1),(AI ((↑N:Int))),(AN nb),(AP nb (bRw g))]):=by kernel_rfl
theorem hdt (g:Nat→T_Bar) (nb N k:Nat) :
    zP Tryz.f217 0 [rg 5,.dec true,rg 12,.dec true,rg 1] zf85 (HD g nb N (k+1)) [] 1 [] (.p (.bool true)) =
    some [(NT 0 1),((decide ((↑(k+1):Int)<(↑nb:Int)))=true),(NT 0 1),(ZLo ((↑(k+1):Int) - 1)),(ZHi ((↑(k+1):Int) - 1)),(IL 0 ((↑(k+1):Int) - 1)),(IT ((↑(k+1):Int) - 1) (↑nb:Int)),(NT 0 1),(IL 0 (↑(k+1):Int)),(IT (↑(k+1):Int) (↑nb:Int)),(((g ((↑(k+1):Int) - 1).toNat).1==(g (k+1)).1&&((g ((↑(k+1):Int) - 1).toNat).2.1==(g (k+1)).2.1&&true))=true),(true=true)]:=by kernel_rfl
theorem hdf (g:Nat→T_Bar) (nb N k:Nat) :
    zM 0 [rg 5,.dec true,rg 12,.dec false,rg 3,.head] zf85 (HD g nb N (k+1)) [0] 1 (HD g nb N (k+1+1)) =
    some (zf85,[(NT 0 1),((decide ((↑(k+1):Int)<(↑nb:Int)))=true),(NT 0 1),(ZLo ((↑(k+1):Int) - 1)),(ZHi ((↑(k+1):Int) - 1)),(IL 0 ((↑(k+1):Int) - 1)),(IT ((↑(k+1):Int) - 1) (↑nb:Int)),(NT 0 1),(IL 0 (↑(k+1):Int)),(IT (↑(k+1):Int) (↑nb:Int)),(((g ((↑(k+1):Int) - 1).toNat).1==(g (k+1)).1&&((g ((↑(k+1):Int) - 1).toNat).2.1==(g (k+1)).2.1&&true))=false),(ZLo ((↑(k+1):Int)+1)),(ZHi ((↑(k+1):Int)+1)),(AI ((↑N:Int))),(AN nb),(AP nb (bRw g)),(AN 0),((((↑(k+1):Int)+1):Int)=(↑(k+1+1):Int)),(AN 2),(NL 1 1),(NL 1 1),(AI ((↑N:Int))),(AN nb),(AP nb (bRw g))]):=by kernel_rfl
theorem hde (g:Nat→T_Bar) (nb N k:Nat) :
    zP Tryz.f217 0 [rg 5,.dec false,rg 1] zf85 (HD g nb N k) [] 1 [] (.p (.bool false)) =
    some [(NT 0 1),((decide ((↑k:Int)<(↑nb:Int)))=false),(false=false)]:=by kernel_rfl
theorem hsz (g:Nat→T_Bar) (nb N:Nat) :
    zT Tryz.f209 [rg 2,rg 1,.head] [grG g nb N] [0] (HS g nb N 1) =
    some (zf84,[(AI ((↑N:Int))),(AN nb),(AP nb (bRw g)),(AN 0),((1:Int)=(↑1:Int)),((([AV.p (PV.int IntKind.i64 (↑N:Int)),brL g nb].length):Nat)=2),(NL 1 1),(NL 1 1),(AI ((↑N:Int))),(AN nb),(AP nb (bRw g))]):=by kernel_rfl
theorem hst (g:Nat→T_Bar) (nb N k:Nat) :
    zP Tryz.f209 0 [rg 5,.dec true,rg 12,.dec true,rg 1] zf84 (HS g nb N (k+1)) [] 1 [] (.p (.bool false)) =
    some [(NT 0 1),((decide ((↑(k+1):Int)<(↑nb:Int)))=true),(NT 0 1),(ZLo ((↑(k+1):Int) - 1)),(ZHi ((↑(k+1):Int) - 1)),(IL 0 ((↑(k+1):Int) - 1)),(IT ((↑(k+1):Int) - 1) (↑nb:Int)),(NT 0 1),(IL 0 (↑(k+1):Int)),(IT (↑(k+1):Int) (↑nb:Int)),(((g ((↑(k+1):Int) - 1).toNat).1==(g (k+1)).1&&((g ((↑(k+1):Int) - 1).toNat).2.1==(g (k+1)).2.1&&true))=true),(false=false)]:=by kernel_rfl
theorem hsf (g:Nat→T_Bar) (nb N k:Nat) :
    zM 0 [rg 5,.dec true,rg 12,.dec false,rg 3,.head] zf84 (HS g nb N (k+1)) [0] 1 (HS g nb N (k+1+1)) =
    some (zf84,[(NT 0 1),((decide ((↑(k+1):Int)<(↑nb:Int)))=true),(NT 0 1),(ZLo ((↑(k+1):Int) - 1)),(ZHi ((↑(k+1):Int) - 1)),(IL 0 ((↑(k+1):Int) - 1)),(IT ((↑(k+1):Int) - 1) (↑nb:Int)),(NT 0 1),(IL 0 (↑(k+1):Int)),(IT (↑(k+1):Int) (↑nb:Int)),(((g ((↑(k+1):Int) - 1).toNat).1==(g (k+1)).1&&((g ((↑(k+1):Int) - 1).toNat).2.1==(g (k+1)).2.1&&true))=false),(ZLo ((↑(k+1):Int)+1)),(ZHi ((↑(k+1):Int)+1)),(AI ((↑N:Int))),(AN nb),(AP nb (bRw g)),(AN 0),((((↑(k+1):Int)+1):Int)=(↑(k+1+1):Int)),(AN 2),(NL 1 1),(NL 1 1),(AI ((↑N:Int))),(AN nb),(AP nb (bRw g))]):=by kernel_rfl
theorem hse (g:Nat→T_Bar) (nb N k:Nat) :
    zP Tryz.f209 0 [rg 5,.dec false,rm [(1,oc [] (.p (.bool true)))] 1] zf84 (HS g nb N k) [] 1 [] (.p (.bool true)) =
    some [(NT 0 1),((decide ((↑k:Int)<(↑nb:Int)))=false),(NT 0 1),zE 53 [(zf94 N nb g)] [] (.p (.bool true)),(true=true)]:=by kernel_rfl
theorem gw1 (g:Nat→T_Bar) (nb N:Nat) :
    zS Tryz.f351 [rg 2,rm [(1,oc [] (.p (.bool true))),(3,oc [] (.p (.bool true)))] 2,.dec true,rg 1] [grG g nb N] [] [] (.p (.str kwGraph)) =
    some [(NT 0 1),zE 62 [(zf94 N nb g)] [] (.p (.bool true)),(((!!true)=true)→(NT 0 1)),(AG (!!true)),(((!!true)=true)→ zE 217 [(zf94 N nb g)] [] (.p (.bool true))),(((!true)=false)→ ((!!true)=true)),((bif !true then true else true)=true),(ByteArray.mk #[103,114,97,112,104]=kwGraph)]:=by kernel_rfl
theorem gw2 (g:Nat→T_Bar) (nb N c:Nat) (h:Nat→T_Bar) (b:Bool) :
    zS Tryz.f351 [rg 2,rm [(1,oc [] (.p (.bool true))),(3,oc [] (.p (.bool false)))] 2,.dec false,rm [(4,gT),(0,⟨true,(some ⟨[],[],[],1,[(0,brOb c h)],.ar 2 0 0 c⟩),some true⟩),(0,gT),(0,gT),(0,gT),(6,oc [] (.p (.bool b)))] 4,.dec true,rg 1] [grG g nb N] [] [] (.p (.str kwRigid)) =
    some (zD [(NT 0 1),zE 62 [(zf94 N nb g)] [] (.p (.bool true)),(((!!true)=true)→(NT 0 1)),(AG (!!true)),(((!!true)=true)→ zE 217 [(zf94 N nb g)] [] (.p (.bool false))),(((!true)=false)→ ((!!true)=true)),((bif !true then true else false)=false),((decide ((↑N:Int)≤3))=true),zE 224 [(zf94 N nb g)] (zf99 c h) (.ar 2 0 0 c),(AG (!decide ((↑c:Int)>0))),(((!decide ((↑c:Int)>0))=true)→(NT 0 1)),(((!decide ((↑c:Int)>0)&&decide ((↑N:Int)>3))=true)→(NT 0 1)),(AG (!decide ((↑c:Int)>0)&&decide ((↑N:Int)>3))),(((!decide ((↑c:Int)>0)&&decide ((↑N:Int)>3))=true)→ zE 67 [(zf94 N nb g)] [] (.p (.bool b))),(((!decide ((↑c:Int)>0))=true)→(((decide ((↑N:Int)>3))=true)→ ((!decide ((↑c:Int)>0)&&decide ((↑N:Int)>3))=true))),(((decide ((↑c:Int)>0))=false)→ ((!decide ((↑c:Int)>0))=true)),((bif decide ((↑c:Int)>0) then true else bif decide ((↑N:Int)>3) then !b else false)=true),(ByteArray.mk #[114,105,103,105,100]=kwRigid)] [0,1,2,3,4,5,6,0,7,0,7,8,7,7,7,9,10,9,9,11,12,13,12,9,14,15,16,17]):=by kernel_rfl
theorem gw3 (g:Nat→T_Bar) (nb N c:Nat) (h:Nat→T_Bar) (b b2 b3:Bool) :
    zS Tryz.f351 [rg 2,rm [(1,oc [] (.p (.bool true))),(3,oc [] (.p (.bool false)))] 2,.dec false,rm [(4,gT),(0,⟨true,(some ⟨[],[],[],1,[(0,brOb c h)],.ar 2 0 0 c⟩),some true⟩),(0,gT),(0,gT),(0,gT),(6,oc [] (.p (.bool b)))] 4,.dec false,rm [(5,oc [] (.p (.bool b2)))] 3,.dec false,rm [(5,oc [] (.p (.bool b3)))] 3,.dec false,rg 1] [grG g nb N] [] [] (.p (.str kwE)) =
    some (zD [(NT 0 1),zE 62 [(zf94 N nb g)] [] (.p (.bool true)),(((!!true)=true)→(NT 0 1)),(AG (!!true)),(((!!true)=true)→ zE 217 [(zf94 N nb g)] [] (.p (.bool false))),(((!true)=false)→ ((!!true)=true)),((bif !true then true else false)=false),((decide ((↑N:Int)≤3))=true),zE 224 [(zf94 N nb g)] (zf99 c h) (.ar 2 0 0 c),(AG (!decide ((↑c:Int)>0))),(((!decide ((↑c:Int)>0))=true)→(NT 0 1)),(((!decide ((↑c:Int)>0)&&decide ((↑N:Int)>3))=true)→(NT 0 1)),(AG (!decide ((↑c:Int)>0)&&decide ((↑N:Int)>3))),(((!decide ((↑c:Int)>0)&&decide ((↑N:Int)>3))=true)→ zE 67 [(zf94 N nb g)] [] (.p (.bool b))),(((!decide ((↑c:Int)>0))=true)→(((decide ((↑N:Int)>3))=true)→ ((!decide ((↑c:Int)>0)&&decide ((↑N:Int)>3))=true))),(((decide ((↑c:Int)>0))=false)→ ((!decide ((↑c:Int)>0))=true)),((bif decide ((↑c:Int)>0) then true else bif decide ((↑N:Int)>3) then !b else false)=false),(((decide ((↑N:Int)>3))=true)→(NT 0 1)),(AG (decide ((↑N:Int)>3))),(((decide ((↑N:Int)>3))=true)→ zE 385 [(zf94 N nb g),.p (.int .i64 3)] [] (.p (.bool b2))),((bif decide ((↑N:Int)>3) then !b2 else false)=false),(((decide ((↑N:Int)>3))=true)→ zE 386 [(zf94 N nb g)] [] (.p (.bool b3))),((bif decide ((↑N:Int)>3) then !b3 else false)=false),(ByteArray.mk #[]=kwE)] [0,1,2,3,4,5,6,0,7,0,7,8,7,7,7,9,10,9,9,11,12,13,12,9,14,15,16,0,17,18,19,18,18,20,0,17,18,21,18,18,22,23]):=by kernel_rfl
theorem gw4 (g:Nat→T_Bar) (nb N:Nat) (b:Bool) :
    zS Tryz.f351 [rg 2,rm [(1,oc [] (.p (.bool true))),(3,oc [] (.p (.bool false)))] 2,.dec false,rm [(4,gF),(0,gF),(0,gF),(0,gF),(0,gF),(6,oc [] (.p (.bool b)))] 4,.dec true,rg 1] [grG g nb N] [] [] (.p (.str kwRigid)) =
    some (zD [(NT 0 1),zE 62 [(zf94 N nb g)] [] (.p (.bool true)),(((!!true)=true)→(NT 0 1)),(AG (!!true)),(((!!true)=true)→ zE 217 [(zf94 N nb g)] [] (.p (.bool false))),(((!true)=false)→ ((!!true)=true)),((bif !true then true else false)=false),((decide ((↑N:Int)≤3))=false),(AG (!false)),(((!false)=true)→(NT 0 1)),(((!false&&decide ((↑N:Int)>3))=true)→(NT 0 1)),(AG (!false&&decide ((↑N:Int)>3))),(((!false&&decide ((↑N:Int)>3))=true)→ zE 67 [(zf94 N nb g)] [] (.p (.bool b))),(((!false)=true)→(((decide ((↑N:Int)>3))=true)→ ((!false&&decide ((↑N:Int)>3))=true))),((false=false)→ ((!false)=true)),((bif false then true else bif decide ((↑N:Int)>3) then !b else false)=true),(ByteArray.mk #[114,105,103,105,100]=kwRigid)] [0,1,2,3,4,5,6,0,7,7,7,7,7,8,9,8,8,10,11,12,11,8,13,14,15,16]):=by kernel_rfl
theorem gw5 (g:Nat→T_Bar) (nb N:Nat) (b b2:Bool) :
    zS Tryz.f351 [rg 2,rm [(1,oc [] (.p (.bool true))),(3,oc [] (.p (.bool false)))] 2,.dec false,rm [(4,gF),(0,gF),(0,gF),(0,gF),(0,gF),(6,oc [] (.p (.bool b)))] 4,.dec false,rm [(5,oc [] (.p (.bool b2)))] 3,.dec true,rg 1] [grG g nb N] [] [] (.p (.str kwConn)) =
    some (zD [(NT 0 1),zE 62 [(zf94 N nb g)] [] (.p (.bool true)),(((!!true)=true)→(NT 0 1)),(AG (!!true)),(((!!true)=true)→ zE 217 [(zf94 N nb g)] [] (.p (.bool false))),(((!true)=false)→ ((!!true)=true)),((bif !true then true else false)=false),((decide ((↑N:Int)≤3))=false),(AG (!false)),(((!false)=true)→(NT 0 1)),(((!false&&decide ((↑N:Int)>3))=true)→(NT 0 1)),(AG (!false&&decide ((↑N:Int)>3))),(((!false&&decide ((↑N:Int)>3))=true)→ zE 67 [(zf94 N nb g)] [] (.p (.bool b))),(((!false)=true)→(((decide ((↑N:Int)>3))=true)→ ((!false&&decide ((↑N:Int)>3))=true))),((false=false)→ ((!false)=true)),((bif false then true else bif decide ((↑N:Int)>3) then !b else false)=false),(((decide ((↑N:Int)>3))=true)→(NT 0 1)),(AG (decide ((↑N:Int)>3))),(((decide ((↑N:Int)>3))=true)→ zE 385 [(zf94 N nb g),.p (.int .i64 3)] [] (.p (.bool b2))),((bif decide ((↑N:Int)>3) then !b2 else false)=true),(ByteArray.mk #[99,111,110,110,101,99,116,101,100]=kwConn)] [0,1,2,3,4,5,6,0,7,7,7,7,7,8,9,8,8,10,11,12,11,8,13,14,15,0,16,17,18,17,17,19,20]):=by kernel_rfl
theorem gw6 (g:Nat→T_Bar) (nb N:Nat) (b b2 b3:Bool) :
    zS Tryz.f351 [rg 2,rm [(1,oc [] (.p (.bool true))),(3,oc [] (.p (.bool false)))] 2,.dec false,rm [(4,gF),(0,gF),(0,gF),(0,gF),(0,gF),(6,oc [] (.p (.bool b)))] 4,.dec false,rm [(5,oc [] (.p (.bool b2)))] 3,.dec false,rm [(5,oc [] (.p (.bool b3)))] 3,.dec true,rg 1] [grG g nb N] [] [] (.p (.str kwRed)) =
    some (zD [(NT 0 1),zE 62 [(zf94 N nb g)] [] (.p (.bool true)),(((!!true)=true)→(NT 0 1)),(AG (!!true)),(((!!true)=true)→ zE 217 [(zf94 N nb g)] [] (.p (.bool false))),(((!true)=false)→ ((!!true)=true)),((bif !true then true else false)=false),((decide ((↑N:Int)≤3))=false),(AG (!false)),(((!false)=true)→(NT 0 1)),(((!false&&decide ((↑N:Int)>3))=true)→(NT 0 1)),(AG (!false&&decide ((↑N:Int)>3))),(((!false&&decide ((↑N:Int)>3))=true)→ zE 67 [(zf94 N nb g)] [] (.p (.bool b))),(((!false)=true)→(((decide ((↑N:Int)>3))=true)→ ((!false&&decide ((↑N:Int)>3))=true))),((false=false)→ ((!false)=true)),((bif false then true else bif decide ((↑N:Int)>3) then !b else false)=false),(((decide ((↑N:Int)>3))=true)→(NT 0 1)),(AG (decide ((↑N:Int)>3))),(((decide ((↑N:Int)>3))=true)→ zE 385 [(zf94 N nb g),.p (.int .i64 3)] [] (.p (.bool b2))),((bif decide ((↑N:Int)>3) then !b2 else false)=false),(((decide ((↑N:Int)>3))=true)→ zE 386 [(zf94 N nb g)] [] (.p (.bool b3))),((bif decide ((↑N:Int)>3) then !b3 else false)=true),(ByteArray.mk #[114,101,100,117,110,100,97,110,116]=kwRed)] [0,1,2,3,4,5,6,0,7,7,7,7,7,8,9,8,8,10,11,12,11,8,13,14,15,0,16,17,18,17,17,19,0,16,17,20,17,17,21,22]):=by kernel_rfl
theorem gw7 (g:Nat→T_Bar) (nb N:Nat) (b b2 b3:Bool) :
    zS Tryz.f351 [rg 2,rm [(1,oc [] (.p (.bool true))),(3,oc [] (.p (.bool false)))] 2,.dec false,rm [(4,gF),(0,gF),(0,gF),(0,gF),(0,gF),(6,oc [] (.p (.bool b)))] 4,.dec false,rm [(5,oc [] (.p (.bool b2)))] 3,.dec false,rm [(5,oc [] (.p (.bool b3)))] 3,.dec false,rg 1] [grG g nb N] [] [] (.p (.str kwE)) =
    some (zD [(NT 0 1),zE 62 [(zf94 N nb g)] [] (.p (.bool true)),(((!!true)=true)→(NT 0 1)),(AG (!!true)),(((!!true)=true)→ zE 217 [(zf94 N nb g)] [] (.p (.bool false))),(((!true)=false)→ ((!!true)=true)),((bif !true then true else false)=false),((decide ((↑N:Int)≤3))=false),(AG (!false)),(((!false)=true)→(NT 0 1)),(((!false&&decide ((↑N:Int)>3))=true)→(NT 0 1)),(AG (!false&&decide ((↑N:Int)>3))),(((!false&&decide ((↑N:Int)>3))=true)→ zE 67 [(zf94 N nb g)] [] (.p (.bool b))),(((!false)=true)→(((decide ((↑N:Int)>3))=true)→ ((!false&&decide ((↑N:Int)>3))=true))),((false=false)→ ((!false)=true)),((bif false then true else bif decide ((↑N:Int)>3) then !b else false)=false),(((decide ((↑N:Int)>3))=true)→(NT 0 1)),(AG (decide ((↑N:Int)>3))),(((decide ((↑N:Int)>3))=true)→ zE 385 [(zf94 N nb g),.p (.int .i64 3)] [] (.p (.bool b2))),((bif decide ((↑N:Int)>3) then !b2 else false)=false),(((decide ((↑N:Int)>3))=true)→ zE 386 [(zf94 N nb g)] [] (.p (.bool b3))),((bif decide ((↑N:Int)>3) then !b3 else false)=false),(ByteArray.mk #[]=kwE)] [0,1,2,3,4,5,6,0,7,7,7,7,7,8,9,8,8,10,11,12,11,8,13,14,15,0,16,17,18,17,17,19,0,16,17,20,17,17,21,22]):=by kernel_rfl
theorem sw1 (g:Nat→T_Bar) (nb N:Nat) :
    zS Tryz.f307 [rg 2,rm [(1,oc [] (.p (.bool false)))] 2,.dec true,rg 1] [grG g nb N] [] [] (.p (.str kwGraph)) =
    some [(NT 0 1),zE 209 [(zf94 N nb g)] [] (.p (.bool false)),((!false)=true),(ByteArray.mk #[103,114,97,112,104]=kwGraph)]:=by kernel_rfl
theorem sw2 (g:Nat→T_Bar) (nb N:Nat) :
    zS Tryz.f307 [rg 2,rm [(1,oc [] (.p (.bool true)))] 2,.dec false,rg 4,.dec true,rg 11,.dec true,rg 1] [grG g nb N] [] [] (.p (.str kwRigid)) =
    some [(NT 0 1),zE 209 [(zf94 N nb g)] [] (.p (.bool true)),((!true)=false),(NT 0 1),((decide ((↑N:Int)≤3))=true),(NT 0 1),(NT 0 1),(NT 0 1),(ZLo ((↑N:Int) - 1)),(ZHi ((↑N:Int) - 1)),(ZLo ((↑N:Int)*((↑N:Int) - 1))),(ZHi ((↑N:Int)*((↑N:Int) - 1))),(IL 0 ((↑N:Int)*((↑N:Int) - 1))),(IT 0 2),(ZHi ((↑N:Int)*((↑N:Int) - 1) / 2)),((decide ((↑nb:Int)<(↑N:Int)*((↑N:Int) - 1) / 2))=true),(ByteArray.mk #[114,105,103,105,100]=kwRigid)]:=by kernel_rfl
theorem sw3 (g:Nat→T_Bar) (nb N:Nat) :
    zS Tryz.f307 [rg 2,rm [(1,oc [] (.p (.bool true)))] 2,.dec false,rg 4,.dec true,rg 11,.dec false,rg 1] [grG g nb N] [] [] (.p (.str kwE)) =
    some [(NT 0 1),zE 209 [(zf94 N nb g)] [] (.p (.bool true)),((!true)=false),(NT 0 1),((decide ((↑N:Int)≤3))=true),(NT 0 1),(NT 0 1),(NT 0 1),(ZLo ((↑N:Int) - 1)),(ZHi ((↑N:Int) - 1)),(ZLo ((↑N:Int)*((↑N:Int) - 1))),(ZHi ((↑N:Int)*((↑N:Int) - 1))),(IL 0 ((↑N:Int)*((↑N:Int) - 1))),(IT 0 2),(ZHi ((↑N:Int)*((↑N:Int) - 1) / 2)),((decide ((↑nb:Int)<(↑N:Int)*((↑N:Int) - 1) / 2))=false),(ByteArray.mk #[]=kwE)]:=by kernel_rfl
theorem sw4 (g:Nat→T_Bar) (nb N:Nat) :
    zS Tryz.f307 [rg 2,rm [(1,oc [] (.p (.bool true)))] 2,.dec false,rg 4,.dec false,rm [(1,oc [] (.p (.bool false)))] 2,.dec true,rg 1] [grG g nb N] [] [] (.p (.str kwRigid)) =
    some [(NT 0 1),zE 209 [(zf94 N nb g)] [] (.p (.bool true)),((!true)=false),(NT 0 1),((decide ((↑N:Int)≤3))=false),(NT 0 1),zE 57 [(zf94 N nb g)] [] (.p (.bool false)),((!false)=true),(ByteArray.mk #[114,105,103,105,100]=kwRigid)]:=by kernel_rfl
theorem sw5 (g:Nat→T_Bar) (nb N:Nat) :
    zS Tryz.f307 [rg 2,rm [(1,oc [] (.p (.bool true)))] 2,.dec false,rg 4,.dec false,rm [(1,oc [] (.p (.bool true)))] 2,.dec false,rm [(1,oc [] (.p (.bool false)))] 2,.dec true,rg 1] [grG g nb N] [] [] (.p (.str kwConn)) =
    some (zD [(NT 0 1),zE 209 [(zf94 N nb g)] [] (.p (.bool true)),((!true)=false),((decide ((↑N:Int)≤3))=false),zE 57 [(zf94 N nb g)] [] (.p (.bool true)),zE 349 [(zf94 N nb g),.p (.int .i64 3)] [] (.p (.bool false)),((!false)=true),(ByteArray.mk #[99,111,110,110,101,99,116,101,100]=kwConn)] [0,1,2,0,3,0,4,2,0,5,6,7]):=by kernel_rfl
theorem sw6 (g:Nat→T_Bar) (nb N:Nat) :
    zS Tryz.f307 [rg 2,rm [(1,oc [] (.p (.bool true)))] 2,.dec false,rg 4,.dec false,rm [(1,oc [] (.p (.bool true)))] 2,.dec false,rm [(1,oc [] (.p (.bool true)))] 2,.dec false,rm [(1,oc [] (.p (.bool false)))] 2,.dec true,rg 1] [grG g nb N] [] [] (.p (.str kwRed)) =
    some (zD [(NT 0 1),zE 209 [(zf94 N nb g)] [] (.p (.bool true)),((!true)=false),((decide ((↑N:Int)≤3))=false),zE 57 [(zf94 N nb g)] [] (.p (.bool true)),zE 349 [(zf94 N nb g),.p (.int .i64 3)] [] (.p (.bool true)),zE 350 [(zf94 N nb g)] [] (.p (.bool false)),((!false)=true),(ByteArray.mk #[114,101,100,117,110,100,97,110,116]=kwRed)] [0,1,2,0,3,0,4,2,0,5,2,0,6,7,8]):=by kernel_rfl
theorem sw7 (g:Nat→T_Bar) (nb N:Nat) :
    zS Tryz.f307 [rg 2,rm [(1,oc [] (.p (.bool true)))] 2,.dec false,rg 4,.dec false,rm [(1,oc [] (.p (.bool true)))] 2,.dec false,rm [(1,oc [] (.p (.bool true)))] 2,.dec false,rm [(1,oc [] (.p (.bool true)))] 2,.dec false,rg 1] [grG g nb N] [] [] (.p (.str kwE)) =
    some (zD [(NT 0 1),zE 209 [(zf94 N nb g)] [] (.p (.bool true)),((!true)=false),((decide ((↑N:Int)≤3))=false),zE 57 [(zf94 N nb g)] [] (.p (.bool true)),zE 349 [(zf94 N nb g),.p (.int .i64 3)] [] (.p (.bool true)),zE 350 [(zf94 N nb g)] [] (.p (.bool true)),(ByteArray.mk #[]=kwE)] [0,1,2,0,3,0,4,2,0,5,2,0,6,2,7]):=by kernel_rfl
theorem gwi (g:Nat→T_Bar) (nb N:Nat) (s:ByteArray) :
    zS Tryz.f310 [rg 2,rm [(1,oc [] (.p (.str s)))] 2] [grG g nb N] [] [] (.p (.bool (s.toList==kwE.toList))) =
    some [(NT 0 1),zE 351 [(zf94 N nb g)] [] (.p (.str s)),((s.toList==(ByteArray.mk #[]).toList)=(s.toList==kwE.toList))]:=by kernel_rfl
theorem gws (g:Nat→T_Bar) (nb N:Nat) (s:ByteArray) :
    zS Tryz.f211 [rg 2,rm [(1,oc [] (.p (.str s)))] 2] [grG g nb N] [] [] (.p (.bool (s.toList==kwE.toList))) =
    some [(NT 0 1),zE 307 [(zf94 N nb g)] [] (.p (.str s)),((s.toList==(ByteArray.mk #[]).toList)=(s.toList==kwE.toList))]:=by kernel_rfl
theorem sameB_and (a b:T_Bar):(a.1==b.1&&(a.2.1==b.2.1&&true))=sameB a b:=by
  unfold sameB
  cases (a.1==b.1)<;>simp
theorem dbF_t {g:Nat→T_Bar} {k:Nat} (h:sameB (g k) (g (k+1))=true):∀ d,dbF g (k+1+1+d)=true
  | 0=>by
    show dbF g (k+1+1)=true
    rw [dbF]
    cases dbF g (k+1) with
    | true=>rfl
    | false=>rw [decide_eq_true (show 0<k+1 by omega)];exact h
  | d+1=>by
    show dbF g (k+1+1+d+1)=true
    rw [dbF,dbF_t h d];rfl
theorem dbF_f {g:Nat→T_Bar} {k:Nat} (h:sameB (g k) (g (k+1))=false) (h':dbF g (k+1)=false):dbF g (k+1+1)=false:=by
  rw [dbF,h',decide_eq_true (show 0<k+1 by omega)];exact h
theorem dbF_1 (g:Nat→T_Bar):∀ n,n≤1→dbF g n=false
  | 0,_=>rfl
  | 1,_=>rfl
  | n+2,h=>by omega
theorem con_gDoubles {N nb:Nat} {g:Nat→T_Bar} (hnb:nb≤24):zE 217 [grG g nb N] [] (.p (.bool (dbF g nb))):=by
  refine csZ Tryz.func217 (fun c hc=>?_)
  have lo:∀ d k,k+1+d=max nb 1→dbF g (k+1)=false→zR c 217 zf85 (HD g nb N (k+1)) (Post c [] (.p (.bool (dbF g nb)))):=by
    intro d
    induction d with
    | zero =>
      intro k hk ha
      have hd:decide (((k+1:Nat):Int)<(nb:Int))=false:=decide_eq_false (by omega)
      have e:dbF g nb=false:=by
        by_cases h:nb≤1
        · exact dbF_1 g nb h
        · rw [show nb=k+1 by omega];exact ha
      rw [e]
      refine pkZ Tryz.func217 hc (hde g nb N (k+1)) ?_
      and_intros
      all_goals (first | exact zN | (exact hd) | (simp;done))
    | succ d ih =>
      intro k hk ha
      have hd:decide (((k+1:Nat):Int)<(nb:Int))=true:=decide_eq_true (by omega)
      have hx:(((k+1:Nat):Int) - 1).toNat=k:=by omega
      cases hq:sameB (g k) (g (k+1)) with
      | true =>
        rw [show dbF g nb=true by rw [show nb=k+1+1+(nb - (k+1+1)) by omega];exact dbF_t hq _]
        refine pkZ Tryz.func217 hc (hdt g nb N k) ?_
        and_intros
        all_goals (first | exact zN | (exact hd) | (rw [hx,sameB_and];exact hq) | (simp;done))
      | false =>
        refine pcZ hc (hdf g nb N k) ?_ (ih (k+1) (by omega) (dbF_f hq ha))
        and_intros
        all_goals (first | exact zN | (exact hd) | (rw [hx,sameB_and];exact hq) | (simp;done))
  refine pcZ hc (hdz g nb N) ?_ (lo (max nb 1 - 1) 0 (by omega) rfl)
  and_intros
  all_goals (first | exact zN | (simp;done))
theorem con_gSimple {N nb:Nat} {g:Nat→T_Bar} (hg:isGraphF ((N:Int),(nb,g),())=true):zE 209 [grG g nb N] [] (.p (.bool (!dbF g nb))):=by
  obtain ⟨h1,h2,h3⟩:=graph_in hg
  have c1:=con_IsGraph_s ((N:Int),(nb,g),()) (sm_graph (by show nb≤_;omega))
  rw [hg] at c1
  refine csZ Tryz.func209 (fun c hc=>?_)
  have lo:∀ d k,k+1+d=max nb 1→dbF g (k+1)=false→zR c 209 zf84 (HS g nb N (k+1)) (Post c [] (.p (.bool (!dbF g nb)))):=by
    intro d
    induction d with
    | zero =>
      intro k hk ha
      have hd:decide (((k+1:Nat):Int)<(nb:Int))=false:=decide_eq_false (by omega)
      have e:dbF g nb=false:=by
        by_cases h:nb≤1
        · exact dbF_1 g nb h
        · rw [show nb=k+1 by omega];exact ha
      rw [e]
      refine pkZ Tryz.func209 hc (hse g nb N (k+1)) ?_
      and_intros
      all_goals (first | exact zN | (exact hd) | (exact c1) | (simp;done))
    | succ d ih =>
      intro k hk ha
      have hd:decide (((k+1:Nat):Int)<(nb:Int))=true:=decide_eq_true (by omega)
      have hx:(((k+1:Nat):Int) - 1).toNat=k:=by omega
      cases hq:sameB (g k) (g (k+1)) with
      | true =>
        rw [show dbF g nb=true by rw [show nb=k+1+1+(nb - (k+1+1)) by omega];exact dbF_t hq _]
        refine pkZ Tryz.func209 hc (hst g nb N k) ?_
        and_intros
        all_goals (first | exact zN | (exact hd) | (rw [hx,sameB_and];exact hq) | (simp;done))
      | false =>
        refine pcZ hc (hsf g nb N k) ?_ (ih (k+1) (by omega) (dbF_f hq ha))
        and_intros
        all_goals (first | exact zN | (exact hd) | (rw [hx,sameB_and];exact hq) | (simp;done))
  refine pcZ hc (hsz g nb N) ?_ (lo (max nb 1 - 1) 0 (by omega) rfl)
  and_intros
  all_goals (first | exact zN | (simp;done))
noncomputable def rgG (N nb:Nat) (g:Nat→T_Bar):Bool:=frGr ((N:Int),(nb,g),())==0
noncomputable def wgF (N nb:Nat) (g:Nat→T_Bar):ByteArray :=
  if dbF g nb=true then kwGraph else if N≤3 then (if decide ((((msP ((N:Int),(nb,g),())).1:Nat):Int)>0)=true then kwRigid else kwE) else if rgG N nb g=false then kwRigid else if kcB N nb g 3=false then kwConn else if rdB N nb g=false then kwRed else kwE
theorem con_gWhy_i {N nb:Nat} {g:Nat→T_Bar} (hg:isGraphF ((N:Int),(nb,g),())=true):zE 351 [grG g nb N] [] (.p (.str (wgF N nb g))):=by
  obtain ⟨h1,h2,h3⟩:=graph_in hg
  have hsm:smS s_Graph ((N:Int),(nb,g),()):=sm_graph (by show nb≤_;omega)
  have c1:=con_IsGraph_i ((N:Int),(nb,g),()) hsm
  rw [hg] at c1
  have c2:=con_gDoubles (N:=N) (g:=g) h2
  have c3:=con_Missing_i ((N:Int),(nb,g),()) hsm
  have c4:=con_IsRigid_i ((N:Int),(nb,g),()) hsm
  have c4:zE 67 [grG g nb N] [] (.p (.bool (rgG N nb g))):=c4
  have c5:=con_gKC_i hg 3 (by omega)
  have c6:=con_gRedun_i hg
  unfold wgF
  generalize rgG N nb g=b at *
  generalize kcB N nb g 3=b2 at *
  generalize rdB N nb g=b3 at *
  generalize msP ((N:Int),(nb,g),())=m at *
  refine csZ Tryz.func351 (fun c hc=>?_)
  cases hdb:dbF g nb with
  | true =>
    rw [hdb] at c2
    rw [if_pos rfl]
    refine pkZ Tryz.func351 hc (gw1 g nb N) ?_
    and_intros
    all_goals (first | exact zH | (exact c1) | (exact c2) | (intros;exact c2) | (simp;done))
  | false =>
    rw [hdb] at c2
    rw [if_neg Bool.false_ne_true]
    by_cases hN:N≤3
    · rw [if_pos hN]
      have d1:decide ((N:Int)≤3)=true:=decide_eq_true (by omega)
      have d2:decide ((N:Int)>3)=false:=decide_eq_false (by omega)
      cases hm:decide (((m.1:Nat):Int)>0) with
      | true =>
        rw [if_pos rfl]
        refine pkD Tryz.func351 hc (gw2 g nb N m.1 m.2 b) ?_
        and_intros
        all_goals (first | exact zH | (exact c1) | (exact c2) | (intros;exact c2) | (exact d1) | (exact c3) | (intros;exact c4) | (rw [hm];rfl) | (rw [hm,d2];rfl) | (simp [d2];done))
      | false =>
        rw [if_neg Bool.false_ne_true]
        refine pkD Tryz.func351 hc (gw3 g nb N m.1 m.2 b b2 b3) ?_
        and_intros
        all_goals (first | exact zH | (exact c1) | (exact c2) | (intros;exact c2) | (exact d1) | (exact c3) | (intros;exact c4) | (intros;exact c5) | (intros;exact c6) | (rw [hm];rfl) | (rw [hm,d2];rfl) | (simp [d2];done))
    · rw [if_neg hN]
      have d1:decide ((N:Int)≤3)=false:=decide_eq_false (by omega)
      have d2:decide ((N:Int)>3)=true:=decide_eq_true (by omega)
      cases b with
      | false =>
        rw [if_pos rfl]
        refine pkD Tryz.func351 hc (gw4 g nb N false) ?_
        and_intros
        all_goals (first | exact zH | (exact c1) | (exact c2) | (intros;exact c2) | (exact d1) | (intros;exact c4) | (simp [d2];done))
      | true =>
        rw [if_neg (by simp)]
        cases b2 with
        | false =>
          rw [if_pos rfl]
          refine pkD Tryz.func351 hc (gw5 g nb N true false) ?_
          and_intros
          all_goals (first | exact zH | (exact c1) | (exact c2) | (intros;exact c2) | (exact d1) | (intros;exact c4) | (intros;exact c5) | (simp [d2];done))
        | true =>
          rw [if_neg (by simp)]
          cases b3 with
          | false =>
            rw [if_pos rfl]
            refine pkD Tryz.func351 hc (gw6 g nb N true true false) ?_
            and_intros
            all_goals (first | exact zH | (exact c1) | (exact c2) | (intros;exact c2) | (exact d1) | (intros;exact c4) | (intros;exact c5) | (intros;exact c6) | (simp [d2];done))
          | true =>
            rw [if_neg (by simp)]
            refine pkD Tryz.func351 hc (gw7 g nb N true true true) ?_
            and_intros
            all_goals (first | exact zH | (exact c1) | (exact c2) | (intros;exact c2) | (exact d1) | (intros;exact c4) | (intros;exact c5) | (intros;exact c6) | (simp [d2];done))
theorem con_gWhy_s {N nb:Nat} {g:Nat→T_Bar} (hg:isGraphF ((N:Int),(nb,g),())=true):zE 307 [grG g nb N] [] (.p (.str (wgF N nb g))):=by
  obtain ⟨h1,h2,h3⟩:=graph_in hg
  have hsm:smS s_Graph ((N:Int),(nb,g),()):=sm_graph (by show nb≤_;omega)
  have c2:=con_gSimple hg
  have c4:=con_IsRigid_s ((N:Int),(nb,g),()) hsm
  have c4:zE 57 [grG g nb N] [] (.p (.bool (rgG N nb g))):=c4
  have c5:=con_gKC_s hg 3 (by omega)
  have c6:=con_gRedun_s hg
  unfold wgF
  generalize rgG N nb g=b at *
  generalize kcB N nb g 3=b2 at *
  generalize rdB N nb g=b3 at *
  refine csZ Tryz.func307 (fun c hc=>?_)
  cases hdb:dbF g nb with
  | true =>
    rw [hdb] at c2
    rw [if_pos rfl]
    refine pkZ Tryz.func307 hc (sw1 g nb N) ?_
    and_intros
    all_goals (first | exact zN | (exact c2) | (simp;done))
  | false =>
    have hmf:=missing_few hg hdb
    rw [hdb] at c2
    rw [if_neg Bool.false_ne_true]
    by_cases hN:N≤3
    · rw [if_pos hN,hmf hN]
      have d1:decide ((N:Int)≤3)=true:=decide_eq_true (by omega)
      have hmul:(N:Int)*((N:Int) - 1) / 2=((N*(N - 1) / 2:Nat):Int)∧0≤(N:Int)*((N:Int) - 1)∧(N:Int)*((N:Int) - 1)≤6:=by
        have:N=1∨N=2∨N=3:=by omega
        rcases this with rfl | rfl | rfl<;>decide
      cases hm:decide ((nb:Int)<((N*(N - 1) / 2:Nat):Int)) with
      | true =>
        rw [if_pos rfl]
        refine pkZ Tryz.func307 hc (sw2 g nb N) ?_
        and_intros
        all_goals (first | exact zN | (exact c2) | (exact d1) | (rw [hmul.1];exact hm) | (simp;done))
      | false =>
        rw [if_neg Bool.false_ne_true]
        refine pkZ Tryz.func307 hc (sw3 g nb N) ?_
        and_intros
        all_goals (first | exact zN | (exact c2) | (exact d1) | (rw [hmul.1];exact hm) | (simp;done))
    · rw [if_neg hN]
      have d1:decide ((N:Int)≤3)=false:=decide_eq_false (by omega)
      cases b with
      | false =>
        rw [if_pos rfl]
        refine pkZ Tryz.func307 hc (sw4 g nb N) ?_
        and_intros
        all_goals (first | exact zN | (exact c2) | (exact d1) | (exact c4) | (simp;done))
      | true =>
        rw [if_neg (by simp)]
        cases b2 with
        | false =>
          rw [if_pos rfl]
          refine pkD Tryz.func307 hc (sw5 g nb N) ?_
          and_intros
          all_goals (first | exact zN | (exact c2) | (exact d1) | (exact c4) | (exact c5) | (simp;done))
        | true =>
          rw [if_neg (by simp)]
          cases b3 with
          | false =>
            rw [if_pos rfl]
            refine pkD Tryz.func307 hc (sw6 g nb N) ?_
            and_intros
            all_goals (first | exact zN | (exact c2) | (exact d1) | (exact c4) | (exact c5) | (exact c6) | (simp;done))
          | true =>
            rw [if_neg (by simp)]
            refine pkD Tryz.func307 hc (sw7 g nb N) ?_
            and_intros
            all_goals (first | exact zN | (exact c2) | (exact d1) | (exact c4) | (exact c5) | (exact c6) | (simp;done))
noncomputable def glB (N nb:Nat) (g:Nat→T_Bar):Bool:=(wgF N nb g).toList==kwE.toList
theorem con_gGlobal_i {N nb:Nat} {g:Nat→T_Bar} (hg:isGraphF ((N:Int),(nb,g),())=true):zE 310 [grG g nb N] [] (.p (.bool (glB N nb g))):=by
  have c1:=con_gWhy_i hg
  refine csZ Tryz.func310 (fun c hc=>?_)
  refine pkZ Tryz.func310 hc (gwi g nb N (wgF N nb g)) ?_
  and_intros
  all_goals (first | exact zN | (exact c1) | (simp;done))
theorem con_gGlobal_s {N nb:Nat} {g:Nat→T_Bar} (hg:isGraphF ((N:Int),(nb,g),())=true):zE 211 [grG g nb N] [] (.p (.bool (glB N nb g))):=by
  have c1:=con_gWhy_s hg
  refine csZ Tryz.func211 (fun c hc=>?_)
  refine pkZ Tryz.func211 hc (gws g nb N (wgF N nb g)) ?_
  and_intros
  all_goals (first | exact zN | (exact c1) | (simp;done))
end Go.Proofs.YtkkjoghiigiokaaGreat.Mach
