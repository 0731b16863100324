/- What the law Cq needs, part 5 of 5: the abstract machine and the contracts of the functions. Conditions: as each theorem says. -/
import Derived.Laws.Strings
import Derived.Test.YtgabljneilgilaaCqP4
namespace Go.Proofs.Ytgabljneilgilaa.Mach
open Go
set_option linter.unusedVariables false
set_option linter.unusedSimpArgs false
def sE:ByteArray:=⟨#[]⟩
def sC:ByteArray:=⟨#[44]⟩
def sSp:ByteArray:=⟨#[32]⟩
def sL:ByteArray:=⟨#[123]⟩
def sR:ByteArray:=⟨#[125]⟩
def sNone:ByteArray:=⟨#[110,111,110,101]⟩
def strL (n:Nat) (f:Nat→ByteArray):AV:=.p (.seq true 1 n (fun i=>[.str (f i)]))
def stOb (n:Nat) (f:Nat→ByteArray):Ob:=⟨false,1,n,fun i=>[.p (.str (f i))]⟩
def setsL (n:Nat) (C:Nat→T_IntS):AV:=.p (.seq true 1 n (fun i=>[.seq true 1 (C i).1 (fun s=>[.int .i64 ((C i).2 s)])]))
def SJ (n:Nat) (f:Nat→ByteArray) (by_:ByteArray) (k:Nat) (s:ByteArray):St :=
  ⟨[strL n f,.p (.str by_),.p .any,.p .any,.p .any,.p (.str s),.p .any,.p .any,strL n f,.p (.int .i64 n),.p (.int .i64 k)]++List.replicate 14 anyA,[],0⟩
def SNm (v:T_IntS) (k:Nat) (f:Nat→ByteArray):St :=
  ⟨[inL v,.p .any,.p .any,.ar 1 0 0 k,.p .any,.p .any,.p .any,inL v,.p (.int .i64 v.1),.p (.int .i64 k)]++List.replicate 11 anyA,[(0,stOb k f)],1⟩
def SFm (n:Nat) (C:Nat→T_IntS) (k:Nat) (f:Nat→ByteArray):St :=
  ⟨[setsL n C,.p .any,.p .any,.ar 1 0 0 k]++List.replicate 6 anyA++[setsL n C,.p (.int .i64 n),.p (.int .i64 k)]++List.replicate 13 anyA,[(0,stOb k f)],1⟩
def SFo (n:Nat) (C:Nat→T_IntS) (i:Nat) (s:ByteArray):St :=
  ⟨[setsL n C,.p .any,.p .any,.p (.str s),.p (.int .i64 i)]++List.replicate 41 anyA,[],0⟩
def SFn (n:Nat) (C:Nat→T_IntS) (i k:Nat) (s:ByteArray):St :=
  ⟨[setsL n C,.p .any,.p .any,.p (.str s),.p (.int .i64 i),.p (.int .i64 k)]++List.replicate 40 anyA,[],0⟩
theorem jJz (n:Nat) (f:Nat→ByteArray) (by_:ByteArray) :
    zT Try.f79 [rg 1,rg 1,rg 3,.head] [strL n f,.p (.str by_)] [] (SJ n f by_ 0 sE) =
    some (zf67,zD [(AN n),(AP n (fun i=>[.str (f i)])),(by_=by_),(ByteArray.mk #[]=sE),(AI ((↑n:Int))),((0:Int)=(↑0:Int))] [0,1,2,3,0,1,4,5]):=by kernel_rfl
theorem jJt (n:Nat) (f:Nat→ByteArray) (by_:ByteArray) (k:Nat) (s:ByteArray) :
    zM 0 [rg 1,.dec true,rg 5,rg 2,.dec true,rg 4,rg 4,rg 2,.head] zf67 (SJ n f by_ k s) [] 1 (SJ n f by_ (k+1) ((s++by_)++f k)) =
    some (zf67,[((decide ((↑k:Int)<(↑n:Int)))=true),(IL 0 (↑k:Int)),(IT (↑k:Int) (↑n:Int)),((decide ((↑k:Int)>0))=true),(NL (s.size+by_.size) 9223372036854775807),(NL ((s++by_).size+(f k).size) 9223372036854775807),(ZLo ((↑k:Int)+1)),(ZHi ((↑k:Int)+1)),(AN n),(AP n (fun i=>[.str (f i)])),(by_=by_),(s++by_++f k=s++by_++f k),(AN n),(AP n (fun i=>[.str (f i)])),(AI ((↑n:Int))),((((↑k:Int)+1):Int)=(↑(k+1):Int))]):=by kernel_rfl
theorem jJf (n:Nat) (f:Nat→ByteArray) (by_:ByteArray) (k:Nat) (s:ByteArray) :
    zM 0 [rg 1,.dec true,rg 5,rg 2,.dec false,rg 4,rg 2,.head] zf67 (SJ n f by_ k s) [] 1 (SJ n f by_ (k+1) (s++f k)) =
    some (zf67,[((decide ((↑k:Int)<(↑n:Int)))=true),(IL 0 (↑k:Int)),(IT (↑k:Int) (↑n:Int)),((decide ((↑k:Int)>0))=false),(NL (s.size+(f k).size) 9223372036854775807),(ZLo ((↑k:Int)+1)),(ZHi ((↑k:Int)+1)),(AN n),(AP n (fun i=>[.str (f i)])),(by_=by_),(s++f k=s++f k),(AN n),(AP n (fun i=>[.str (f i)])),(AI ((↑n:Int))),((((↑k:Int)+1):Int)=(↑(k+1):Int))]):=by kernel_rfl
theorem jJe (n:Nat) (f:Nat→ByteArray) (by_:ByteArray) (k:Nat) (s:ByteArray) :
    zP Try.f79 0 [rg 1,.dec false,rg 2] zf67 (SJ n f by_ k s) [] 1 [] (.p (.str s)) =
    some [((decide ((↑k:Int)<(↑n:Int)))=false),(s=s)]:=by kernel_rfl
theorem jNz (v:T_IntS) (f:Nat→ByteArray) :
    zT Try.f78 [rg 1,rg 2,rg 3,.head] [inL v] [32] (SNm v 0 f) =
    some (zf68,zD [(AN v.1),(AP v.1 (iRw v)),(AN 0),(AI ((↑v.1:Int))),((0:Int)=(↑0:Int)),(AN 1),(NL 0 0),(∀ i:Nat,(((i:Nat)<0)→(All []∧(([.p (.str (ByteArray.mk #[]))]:List AV)=[.p (.str (f i))]))))] [0,1,2,2,0,1,3,4,5,6,7]):=by kernel_rfl
theorem jNt (v:T_IntS) (k:Nat) (f:Nat→ByteArray) (s:ByteArray) :
    zM 0 [rg 1,.dec true,rg 3,rm [(2,oc [] (.p (.str s)))] 3,rg 2,.head] zf68 (SNm v k f) [257] 1 (SNm v (k+1) f) =
    some (zf68,[((decide ((↑k:Int)<(↑v.1:Int)))=true),(IL 0 (↑k:Int)),(IT (↑k:Int) (↑v.1:Int)),zE 104 [.p (.int .i64 (v.2 k))] [] (.p (.str s)),(NL 1 1),(NL k k),(NL ((k+1)*16) 140737488355328),(NL (k+1) 9223372036854775807),(ZLo ((↑k:Int)+1)),(ZHi ((↑k:Int)+1)),(AN v.1),(AP v.1 (iRw v)),(AN 0),(AN ((k+1))),(AN v.1),(AP v.1 (iRw v)),(AI ((↑v.1:Int))),((((↑k:Int)+1):Int)=(↑(k+1):Int)),(AN 1),(NL (k+1) (k+1)),(∀ i:Nat,(((i:Nat)<(k+1))→(All (cvtL false [(257,⟨false,1,(k+1),(fun i_1=>(if (i_1<k) then [.p (.str (f i_1))] else [.p (.str s)]))⟩),(225,⟨false,1,1,(fun i_1=>[.p (.str s)])⟩)] [257] 1 (if (i<k) then [.p (.str (f i))] else [.p (.str s)])).2∧(((cvtL false [(257,⟨false,1,(k+1),(fun i_1=>(if (i_1<k) then [.p (.str (f i_1))] else [.p (.str s)]))⟩),(225,⟨false,1,1,(fun i_1=>[.p (.str s)])⟩)] [257] 1 (if (i<k) then [.p (.str (f i))] else [.p (.str s)])).1:List AV)=[.p (.str (f i))]))))]):=by kernel_rfl
theorem jNe (v:T_IntS) (k:Nat) (f:Nat→ByteArray) (s:ByteArray) :
    zP Try.f78 0 [rg 1,.dec false,rm [(1,oc [] (.p (.str s)))] 1] zf68 (SNm v k f) [] 1 [] (.p (.str s)) =
    some [((decide ((↑k:Int)<(↑v.1:Int)))=false),(AN 1),(NL k k),zE 79 [.p (.seq true 1 k (fun i=>[.str (f i)])),.p (.str (ByteArray.mk #[44]))] [] (.p (.str s)),(s=s)]:=by kernel_rfl
theorem jFn (n:Nat) (C:Nat→T_IntS) :
    zS Try.f31 [rg 1,rg 3,.dec true,rg 1] [setsL n C] [] [] (.p (.str sNone)) =
    some [(((↑n:Int)==0)=true),(ByteArray.mk #[110,111,110,101]=sNone)]:=by kernel_rfl
theorem jFz (n:Nat) (C:Nat→T_IntS) (f:Nat→ByteArray) :
    zT Try.f31 [rg 1,rg 3,.dec false,rg 2,rg 3,.head] [setsL n C] [128] (SFm n C 0 f) =
    some (zf44,zD [(((↑n:Int)==0)=false),(AN n),(AP n (fun i=>[.seq true 1 ((C i).1) (fun i_1=>[.int .i64 ((C i).2 i_1)])])),(AN 0),(AI ((↑n:Int))),((0:Int)=(↑0:Int)),(AN 1),(NL 0 0),(∀ i:Nat,(((i:Nat)<0)→(All []∧(([.p (.str (ByteArray.mk #[]))]:List AV)=[.p (.str (f i))]))))] [0,1,2,3,3,1,2,4,5,6,7,8]):=by kernel_rfl
theorem jFt (n:Nat) (C:Nat→T_IntS) (k:Nat) (f:Nat→ByteArray) (s:ByteArray) :
    zM 0 [rg 1,.dec true,rg 3,rm [(2,oc [] (.p (.str s)))] 5,rg 2,.head] zf44 (SFm n C k f) [321] 1 (SFm n C (k+1) f) =
    some (zf44,zD [((decide ((↑k:Int)<(↑n:Int)))=true),(IL 0 (↑k:Int)),(IT (↑k:Int) (↑n:Int)),zE 78 [.p (.seq true 1 ((C k).1) (fun i=>[.int .i64 ((C k).2 i)]))] [] (.p (.str s)),(NL ((ByteArray.mk #[123]).size+s.size) 9223372036854775807),(NL ((ByteArray.mk #[123]++s).size+(ByteArray.mk #[125]).size) 9223372036854775807),(NL 1 1),(NL k k),(NL ((k+1)*16) 140737488355328),(NL (k+1) 9223372036854775807),(ZLo ((↑k:Int)+1)),(ZHi ((↑k:Int)+1)),(AN n),(AP n (fun i=>[.seq true 1 ((C i).1) (fun i_1=>[.int .i64 ((C i).2 i_1)])])),(AN 0),(AN ((k+1))),(AI ((↑n:Int))),((((↑k:Int)+1):Int)=(↑(k+1):Int)),(AN 1),(NL (k+1) (k+1)),(∀ i:Nat,(((i:Nat)<(k+1))→(All (cvtL false [(321,⟨false,1,(k+1),(fun i_1=>(if (i_1<k) then [.p (.str (f i_1))] else [.p (.str (ByteArray.mk #[123]++s++ByteArray.mk #[125]))]))⟩),(289,⟨false,1,1,(fun i_1=>[.p (.str (ByteArray.mk #[123]++s++ByteArray.mk #[125]))])⟩)] [321] 1 (if (i<k) then [.p (.str (f i))] else [.p (.str (ByteArray.mk #[123]++s++ByteArray.mk #[125]))])).2∧(((cvtL false [(321,⟨false,1,(k+1),(fun i_1=>(if (i_1<k) then [.p (.str (f i_1))] else [.p (.str (ByteArray.mk #[123]++s++ByteArray.mk #[125]))]))⟩),(289,⟨false,1,1,(fun i_1=>[.p (.str (ByteArray.mk #[123]++s++ByteArray.mk #[125]))])⟩)] [321] 1 (if (i<k) then [.p (.str (f i))] else [.p (.str (ByteArray.mk #[123]++s++ByteArray.mk #[125]))])).1:List AV)=[.p (.str (f i))]))))] [0,1,2,3,4,5,6,7,8,9,10,11,12,13,14,15,12,13,16,17,18,19,20]):=by kernel_rfl
theorem jFe (n:Nat) (C:Nat→T_IntS) (k:Nat) (f:Nat→ByteArray) (s:ByteArray) :
    zP Try.f31 0 [rg 1,.dec false,rm [(1,oc [] (.p (.str s)))] 1] zf44 (SFm n C k f) [] 1 [] (.p (.str s)) =
    some [((decide ((↑k:Int)<(↑n:Int)))=false),(AN 1),(NL k k),zE 79 [.p (.seq true 1 k (fun i=>[.str (f i)])),.p (.str (ByteArray.mk #[32]))] [] (.p (.str s)),(s=s)]:=by kernel_rfl
theorem jGz (n:Nat) (C:Nat→T_IntS) :
    zT Try.f32 [rg 1,rg 1,rg 1,.head] [setsL n C] [] (SFo n C 0 sE) =
    some (zf69,[(AN n),(AP n (fun i=>[.seq true 1 ((C i).1) (fun i_1=>[.int .i64 ((C i).2 i_1)])])),(ByteArray.mk #[]=sE),((0:Int)=(↑0:Int))]):=by kernel_rfl
theorem jGa (n:Nat) (C:Nat→T_IntS) (i:Nat) (s:ByteArray) :
    zM 0 [rg 4,.dec true,rg 2,.dec true,rg 3,rg 3,rg 1,.head] zf69 (SFo n C i s) [] 1 (SFn n C i 0 ((s++sSp)++sL)) =
    some (zf8,[((decide ((↑i:Int)<(↑n:Int)))=true),((decide ((↑i:Int)>0))=true),(NL (s.size+(ByteArray.mk #[32]).size) 9223372036854775807),(NL ((s++ByteArray.mk #[32]).size+(ByteArray.mk #[123]).size) 9223372036854775807),(AN n),(AP n (fun i_1=>[.seq true 1 ((C i_1).1) (fun i_2=>[.int .i64 ((C i_1).2 i_2)])])),(s++ByteArray.mk #[32]++ByteArray.mk #[123]=s++sSp++sL),(AI ((↑i:Int))),((0:Int)=(↑0:Int))]):=by kernel_rfl
theorem jGb (n:Nat) (C:Nat→T_IntS) (i:Nat) (s:ByteArray) :
    zM 0 [rg 4,.dec true,rg 2,.dec false,rg 3,rg 1,.head] zf69 (SFo n C i s) [] 1 (SFn n C i 0 (s++sL)) =
    some (zf8,[((decide ((↑i:Int)<(↑n:Int)))=true),((decide ((↑i:Int)>0))=false),(NL (s.size+(ByteArray.mk #[123]).size) 9223372036854775807),(AN n),(AP n (fun i_1=>[.seq true 1 ((C i_1).1) (fun i_2=>[.int .i64 ((C i_1).2 i_2)])])),(s++ByteArray.mk #[123]=s++sL),(AI ((↑i:Int))),((0:Int)=(↑0:Int))]):=by kernel_rfl
theorem jGc (n:Nat) (C:Nat→T_IntS) (i k:Nat) (s t:ByteArray) :
    zM 0 [rg 7,.dec true,rg 2,.dec true,rg 3,rm [(8,oc [] (.p (.str t)))] 2,rg 3,.head] zf8 (SFn n C i k s) [] 1 (SFn n C i (k+1) ((s++sC)++t)) =
    some (zf8,[(IL 0 (↑i:Int)),(IT (↑i:Int) (↑n:Int)),((decide ((↑k:Int)<(↑(C (↑i:Int).toNat).1:Int)))=true),((decide ((↑k:Int)>0))=true),(NL (s.size+(ByteArray.mk #[44]).size) 9223372036854775807),(IL 0 (↑i:Int)),(IT (↑i:Int) (↑n:Int)),(IL 0 (↑k:Int)),(IT (↑k:Int) (↑(C i).1:Int)),zE 80 [.p (.int .i64 ((C i).2 k))] [] (.p (.str t)),(NL ((s++ByteArray.mk #[44]).size+t.size) 9223372036854775807),(ZLo ((↑k:Int)+1)),(ZHi ((↑k:Int)+1)),(AN n),(AP n (fun i_1=>[.seq true 1 ((C i_1).1) (fun i_2=>[.int .i64 ((C i_1).2 i_2)])])),(s++ByteArray.mk #[44]++t=s++sC++t),(AI ((↑i:Int))),((((↑k:Int)+1):Int)=(↑(k+1):Int))]):=by kernel_rfl
theorem jGd (n:Nat) (C:Nat→T_IntS) (i k:Nat) (s t:ByteArray) :
    zM 0 [rg 7,.dec true,rg 2,.dec false,rm [(8,oc [] (.p (.str t)))] 2,rg 3,.head] zf8 (SFn n C i k s) [] 1 (SFn n C i (k+1) (s++t)) =
    some (zf8,[(IL 0 (↑i:Int)),(IT (↑i:Int) (↑n:Int)),((decide ((↑k:Int)<(↑(C (↑i:Int).toNat).1:Int)))=true),((decide ((↑k:Int)>0))=false),(IL 0 (↑i:Int)),(IT (↑i:Int) (↑n:Int)),(IL 0 (↑k:Int)),(IT (↑k:Int) (↑(C i).1:Int)),zE 80 [.p (.int .i64 ((C i).2 k))] [] (.p (.str t)),(NL (s.size+t.size) 9223372036854775807),(ZLo ((↑k:Int)+1)),(ZHi ((↑k:Int)+1)),(AN n),(AP n (fun i_1=>[.seq true 1 ((C i_1).1) (fun i_2=>[.int .i64 ((C i_1).2 i_2)])])),(s++t=s++t),(AI ((↑i:Int))),((((↑k:Int)+1):Int)=(↑(k+1):Int))]):=by kernel_rfl
theorem jGe (n:Nat) (C:Nat→T_IntS) (i k:Nat) (s:ByteArray) :
    zM 0 [rg 7,.dec false,rg 3,rg 3,.head] zf8 (SFn n C i k s) [] 1 (SFo n C (i+1) (s++sR)) =
    some (zf69,[(IL 0 (↑i:Int)),(IT (↑i:Int) (↑n:Int)),((decide ((↑k:Int)<(↑(C (↑i:Int).toNat).1:Int)))=false),(NL (s.size+(ByteArray.mk #[125]).size) 9223372036854775807),(ZLo ((↑i:Int)+1)),(ZHi ((↑i:Int)+1)),(AN n),(AP n (fun i_1=>[.seq true 1 ((C i_1).1) (fun i_2=>[.int .i64 ((C i_1).2 i_2)])])),(s++ByteArray.mk #[125]=s++sR),((((↑i:Int)+1):Int)=(↑(i+1):Int))]):=by kernel_rfl
theorem jGn (n:Nat) (C:Nat→T_IntS) (i:Nat) (s:ByteArray) :
    zP Try.f32 0 [rg 4,.dec false,rg 2,.dec true,rg 1] zf69 (SFo n C i s) [] 1 [] (.p (.str sNone)) =
    some [((decide ((↑i:Int)<(↑n:Int)))=false),((s.toList==(ByteArray.mk #[]).toList)=true),(ByteArray.mk #[110,111,110,101]=sNone)]:=by kernel_rfl
theorem jGy (n:Nat) (C:Nat→T_IntS) (i:Nat) (s:ByteArray) :
    zP Try.f32 0 [rg 4,.dec false,rg 2,.dec false,rg 2] zf69 (SFo n C i s) [] 1 [] (.p (.str s)) =
    some [((decide ((↑i:Int)<(↑n:Int)))=false),((s.toList==(ByteArray.mk #[]).toList)=false),(s=s)]:=by kernel_rfl
def joinB (by_:ByteArray) (f:Nat→ByteArray):Nat→ByteArray
  | 0=>sE
  | n+1=>(if 0<n then joinB by_ f n++by_ else joinB by_ f n)++f n
theorem joinB_0 (by_:ByteArray) (f:Nat→ByteArray):joinB by_ f 0=sE:=rfl
theorem joinB_pos (by_:ByteArray) (f:Nat→ByteArray) {n:Nat} (h:0<n):joinB by_ f (n+1)=(joinB by_ f n++by_)++f n:=by simp [joinB,h]
theorem joinB_one (by_:ByteArray) (f:Nat→ByteArray):joinB by_ f (0+1)=sE++f 0:=rfl
theorem joinB_size (by_:ByteArray) (f:Nat→ByteArray) (B:Nat):∀ n,(∀ i,i<n→(f i).size≤B)→(joinB by_ f n).size≤n*(B+by_.size)
  | 0,_=>(Nat.zero_le _:0≤_)
  | n+1,h=>by
    have ih:=joinB_size by_ f B n (fun i hi=>h i (by omega))
    have:=h n (by omega)
    simp only [joinB]
    rw [Nat.add_mul,ByteArray.size_append]
    split
    · rw [ByteArray.size_append];omega
    · omega
theorem sE_app (s:ByteArray):sE++s=s:=ByteArray.empty_append
theorem app_sE (s:ByteArray):s++sE=s:=ByteArray.append_empty
theorem str_nil (s:ByteArray):(s.toList==(ByteArray.mk #[]).toList)=decide (s.size=0):=by
  rw [ByteArray.toList_eq,ByteArray.toList_eq]
  rw [Bool.eq_iff_iff]
  simp only [beq_iff_eq,decide_eq_true_eq]
  constructor
  · intro h
    show s.data.size=0
    rw [← Array.length_toList,h];rfl
  · intro h
    have:s.data.toList.length=0:=by rw [Array.length_toList];exact h
    rw [List.length_eq_zero_iff.1 this]
theorem con_glued (n:Nat) (f:Nat→ByteArray) (by_:ByteArray) (B:Nat) (hn:n≤1048577) (hB:B≤1099511627776) (hby:by_.size≤1000) (hf:∀ i,i<n→(f i).size≤B) :
    zE 79 [strL n f,.p (.str by_)] [] (.p (.str (joinB by_ f n))):=by
  have hsz:∀ k,k≤n→(joinB by_ f k).size≤1048577*1099511628776:=by
    intro k hk
    have h1:=joinB_size by_ f B k (fun i hi=>hf i (by omega))
    have h2:k*(B+by_.size)≤1048577*1099511628776:=Nat.mul_le_mul (by omega) (by omega)
    omega
  refine csZ Try.func79 (fun c hc=>?_)
  have lo:∀ d k,k+d=n→zR c 79 zf67 (SJ n f by_ k (joinB by_ f k)) (Post c [] (.p (.str (joinB by_ f n)))):=by
    intro d
    induction d with
    | zero =>
      intro k hk
      obtain rfl:k=n:=by omega
      have hd:decide ((k:Int)<(k:Int))=false:=by simp
      refine pkZ Try.func79 hc (jJe k f by_ k _) ?_
      and_intros
      all_goals (first | exact zN | (exact hd))
    | succ d ih =>
      intro k hk
      have hd:decide ((k:Int)<(n:Int))=true:=decide_eq_true (by omega)
      have hrec:=ih (k+1) (by omega)
      have h1:=hsz k (by omega)
      have h2:=hf k (by omega)
      by_cases h0:0<k
      · have hg:decide ((k:Int)>0)=true:=decide_eq_true (by omega)
        rw [joinB_pos by_ f h0] at hrec
        generalize joinB by_ f k=s at hrec h1 ⊢
        refine pcZ hc (jJt n f by_ k s) ?_ hrec
        and_intros
        all_goals (first | exact zN | (exact hd) | (exact hg) | (rw [ByteArray.size_append];omega) | (simp;omega))
      · obtain rfl:k=0:=by omega
        have hg:decide (((0:Nat):Int)>0)=false:=by simp
        rw [joinB_one] at hrec
        rw [joinB_0] at h1 ⊢
        refine pcZ hc (jJf n f by_ 0 sE) ?_ hrec
        and_intros
        all_goals (first | exact zN | (exact hd) | (exact hg) | (simp;omega))
  refine pcD hc (jJz n f by_) ?_ (lo n 0 (by omega))
  and_intros
  all_goals (first | exact zN | (simp;omega))
def In64 (v:T_IntS):Prop:=∀ i,i<v.1→-9223372036854775808≤v.2 i∧v.2 i≤9223372036854775807
def nmB (v:T_IntS):ByteArray:=joinB sC (fun i=>fmtI (v.2 i)) v.1
theorem sC_size:sC.size=1:=rfl
theorem nmB_size (v:T_IntS):(nmB v).size≤v.1*22:=joinB_size sC _ 21 v.1 (fun i hi=>fmt_size _)
theorem con_numbers (v:T_IntS) (hn:v.1≤1048576) (hv:In64 v):zE 78 [inL v] [] (.p (.str (nmB v))):=by
  have cg:=con_glued v.1 (fun i=>fmtI (v.2 i)) sC 21 (by omega) (by omega) (by rw [sC_size];omega) (fun i hi=>fmt_size _)
  refine csZ Try.func78 (fun c hc=>?_)
  have lo:∀ d k,k+d=v.1→zR c 78 zf68 (SNm v k (fun i=>fmtI (v.2 i))) (Post c [] (.p (.str (nmB v)))):=by
    intro d
    induction d with
    | zero =>
      intro k hk
      obtain rfl:k=v.1:=by omega
      have hd:decide ((v.1:Int)<(v.1:Int))=false:=by simp
      refine pkZ Try.func78 hc (jNe v v.1 (fun i=>fmtI (v.2 i)) (nmB v)) ?_
      and_intros
      all_goals (first | exact zN | (exact hd) | (exact cg) | (intro t ht;simp [All]))
    | succ d ih =>
      intro k hk
      have hd:decide ((k:Int)<(v.1:Int))=true:=decide_eq_true (by omega)
      have hvk:=hv k (by omega)
      have cf:=con_FormatInt_i (v.2 k) hvk.1 hvk.2
      refine pcZ hc (jNt v k (fun i=>fmtI (v.2 i)) (fmtI (v.2 k))) ?_ (ih (k+1) (by omega))
      and_intros
      all_goals (first | exact zN | (exact hd) | (exact cf) | (intro t ht;rcases Nat.lt_or_eq_of_le (Nat.le_of_lt_succ ht) with h' | h'<;>(simp [h',cvtL,cvt,tg,tru,All];done)) | (simp;omega))
  refine pcD hc (jNz v (fun i=>fmtI (v.2 i))) ?_ (lo v.1 0 (by omega))
  and_intros
  iterate 2 all_goals (first | exact zN | (intro t ht;exact absurd ht (Nat.not_lt_zero _)) | (intro t ht;simp [All]) | (simp;omega) | simp only [All])
def stB (v:T_IntS):ByteArray:=(sL++nmB v)++sR
def fsB (n:Nat) (C:Nat→T_IntS):ByteArray:=if n=0 then sNone else joinB sSp (fun i=>stB (C i)) n
theorem stB_size (v:T_IntS):(stB v).size≤v.1*22+2∧2≤(stB v).size:=by
  have:=nmB_size v
  unfold stB
  rw [ByteArray.size_append,ByteArray.size_append]
  show 1+_+1≤_∧2≤1+_+1
  omega
theorem con_FormatSets_i (n:Nat) (C:Nat→T_IntS) (hn:n≤1048576) (hC:∀ i,i<n→(C i).1≤1048576∧In64 (C i)):zE 31 [setsL n C] [] (.p (.str (fsB n C))):=by
  have cg:=con_glued n (fun i=>stB (C i)) sSp 30000000 (by omega) (by omega) (by show 1≤1000;omega) (fun i hi=>by have:=stB_size (C i);have:=hC i hi;omega)
  refine csZ Try.func31 (fun c hc=>?_)
  by_cases h0:n=0
  · have hd:((n:Int)==0)=true:=by rw [h0];rfl
    rw [show fsB n C=sNone by simp [fsB,h0]]
    refine pkZ Try.func31 hc (jFn n C) ?_
    and_intros
    all_goals (first | exact zN | (exact hd))
  · have hd0:((n:Int)==0)=false:=beq_eq_false_iff_ne.2 (by omega)
    rw [show fsB n C=joinB sSp (fun i=>stB (C i)) n by simp [fsB,h0]]
    have lo:∀ d k,k+d=n→zR c 31 zf44 (SFm n C k (fun i=>stB (C i))) (Post c [] (.p (.str (joinB sSp (fun i=>stB (C i)) n)))):=by
      intro d
      induction d with
      | zero =>
        intro k hk
        obtain rfl:k=n:=by omega
        have hd:decide ((k:Int)<(k:Int))=false:=by simp
        refine pkZ Try.func31 hc (jFe k C k (fun i=>stB (C i)) _) ?_
        and_intros
        all_goals (first | exact zN | (exact hd) | (exact cg) | (intro t ht;simp [All]))
      | succ d ih =>
        intro k hk
        have hd:decide ((k:Int)<(n:Int))=true:=decide_eq_true (by omega)
        have hCk:=hC k (by omega)
        have cn:=con_numbers (C k) hCk.1 hCk.2
        have h1:=nmB_size (C k)
        have e:stB (C k)=ByteArray.mk #[123]++nmB (C k)++ByteArray.mk #[125]:=rfl
        refine pcD hc (jFt n C k (fun i=>stB (C i)) (nmB (C k))) ?_ (ih (k+1) (by omega))
        and_intros
        all_goals (first | exact zN | (exact hd) | (exact cn) | (show 1+_≤_;omega) | (rw [ByteArray.size_append];show 1+_+1≤_;omega) | (intro t ht;rcases Nat.lt_or_eq_of_le (Nat.le_of_lt_succ ht) with h' | h'<;>(simp [h',e,cvtL,cvt,tg,tru,All];done)) | (simp;omega))
    refine pcD hc (jFz n C (fun i=>stB (C i))) ?_ (lo n 0 (by omega))
    and_intros
    iterate 2 all_goals (first | exact zN | (exact hd0) | (intro t ht;exact absurd ht (Nat.not_lt_zero _)) | (intro t ht;simp [All]) | (simp;omega) | simp only [All])
set_option maxRecDepth 4000 in
theorem con_FormatSets_s (n:Nat) (C:Nat→T_IntS) (hn:n≤1048576) (hC:∀ i,i<n→(C i).1≤1048576∧In64 (C i)):zE 32 [setsL n C] [] (.p (.str (fsB n C))):=by
  refine csZ Try.func32 (fun c hc=>?_)
  let F:Nat→ByteArray:=fun i=>stB (C i)
  have hsz:∀ k,k≤n→(joinB sSp F k).size≤k*30000001:=fun k hk=>joinB_size sSp F 30000000 k (fun i hi=>by have:=stB_size (C i);have:=hC i (by omega);show (stB (C i)).size≤_;omega)
  have li:∀ i,i<n→∀ s:ByteArray,s.size≤40000000000000→(zR c 32 zf69 (SFo n C (i+1) ((s++nmB (C i))++sR)) (Post c [] (.p (.str (fsB n C))))) →
      ∀ d k,k+d=(C i).1→zR c 32 zf8 (SFn n C i k (s++joinB sC (fun j=>fmtI ((C i).2 j)) k)) (Post c [] (.p (.str (fsB n C)))):=by
    intro i hi s hs hk d
    have hCi:=hC i hi
    have hz:∀ k,(joinB sC (fun j=>fmtI ((C i).2 j)) k).size≤k*22:=fun k=>joinB_size sC _ 21 k (fun j hj=>fmt_size _)
    induction d with
    | zero =>
      intro k hkn
      obtain rfl:k=(C i).1:=by omega
      have hd:decide (((C i).1:Int)<((C i).1:Int))=false:=by simp
      have h1:=hz (C i).1
      refine pcZ hc (jGe n C i (C i).1 _) ?_ hk
      and_intros
      all_goals (first | exact zN | (exact hd) | (rw [ByteArray.size_append];show _+_+1≤_;omega) | (simp;omega))
    | succ d ih =>
      intro k hkn
      have hd:decide ((k:Int)<((C i).1:Int))=true:=decide_eq_true (by omega)
      have hrec:=ih (k+1) (by omega)
      have hvk:=hCi.2 k (by omega)
      have cf:=con_FormatInt_s ((C i).2 k) hvk.1 hvk.2
      have h1:=hz k
      have h2:=fmt_size ((C i).2 k)
      by_cases h0:0<k
      · have hg:decide ((k:Int)>0)=true:=decide_eq_true (by omega)
        rw [joinB_pos sC _ h0,← ByteArray.append_assoc,← ByteArray.append_assoc] at hrec
        generalize joinB sC (fun j=>fmtI ((C i).2 j)) k=q at hrec h1 ⊢
        refine pcZ hc (jGc n C i k (s++q) (fmtI ((C i).2 k))) ?_ hrec
        and_intros
        all_goals (first | exact zN | (exact hd) | (exact hg) | (exact cf) | (rw [ByteArray.size_append];show _+1≤_;omega) | (rw [ByteArray.size_append,ByteArray.size_append];show _+1+_≤_;omega) | (simp;omega))
      · obtain rfl:k=0:=by omega
        have hg:decide (((0:Nat):Int)>0)=false:=by simp
        rw [joinB_one,sE_app] at hrec
        rw [joinB_0,app_sE]
        refine pcZ hc (jGd n C i 0 s (fmtI ((C i).2 0))) ?_ hrec
        and_intros
        all_goals (first | exact zN | (exact hd) | (exact hg) | (exact cf) | (simp;omega))
  have lo:∀ d i,i+d=n→zR c 32 zf69 (SFo n C i (joinB sSp F i)) (Post c [] (.p (.str (fsB n C)))):=by
    intro d
    induction d with
    | zero =>
      intro i hi
      obtain rfl:i=n:=by omega
      have hd:decide ((i:Int)<(i:Int))=false:=by simp
      have hs:=str_nil (joinB sSp F i)
      by_cases h0:i=0
      · rw [show fsB i C=sNone by simp [fsB,h0]]
        rw [decide_eq_true (by rw [h0];rfl)] at hs
        refine pkZ Try.func32 hc (jGn i C i _) ?_
        and_intros
        all_goals (first | exact zN | (exact hd) | (exact hs))
      · rw [show fsB i C=joinB sSp F i by simp only [fsB,h0,if_false];rfl]
        have hp:0<(joinB sSp F i).size:=by
          obtain ⟨m,rfl⟩:∃ m,i=m+1:=⟨i - 1,by omega⟩
          simp only [joinB]
          rw [ByteArray.size_append]
          have h3:=stB_size (C m)
          show 0<_+(stB (C m)).size
          omega
        rw [decide_eq_false (by omega)] at hs
        refine pkZ Try.func32 hc (jGy i C i _) ?_
        and_intros
        all_goals (first | exact zN | (exact hd) | (exact hs))
    | succ d ih =>
      intro i hi
      have hd:decide ((i:Int)<(n:Int))=true:=decide_eq_true (by omega)
      have hrec:=ih (i+1) (by omega)
      have h1:=hsz i (by omega)
      by_cases h0:0<i
      · have hg:decide ((i:Int)>0)=true:=decide_eq_true (by omega)
        rw [joinB_pos sSp F h0] at hrec
        have e:(joinB sSp F i++sSp)++F i=(((joinB sSp F i++sSp)++sL)++nmB (C i))++sR:=by
          show (joinB sSp F i++sSp)++((sL++nmB (C i))++sR)=_
          simp only [ByteArray.append_assoc]
        rw [e] at hrec
        have hnx:=li i (by omega) ((joinB sSp F i++sSp)++sL) (by rw [ByteArray.size_append,ByteArray.size_append];show _+1+1≤_;omega) hrec (C i).1 0 (by omega)
        rw [joinB_0,app_sE] at hnx
        generalize joinB sSp F i=q at hnx h1 ⊢
        refine pcZ hc (jGa n C i q) ?_ hnx
        and_intros
        all_goals (first | exact zN | (exact hd) | (exact hg) | (show _+1≤_;omega) | (rw [ByteArray.size_append];show _+1+1≤_;omega) | (simp;omega))
      · obtain rfl:i=0:=by omega
        have hg:decide (((0:Nat):Int)>0)=false:=by simp
        rw [joinB_one] at hrec
        have e:sE++F 0=((sE++sL)++nmB (C 0))++sR:=by
          show sE++((sL++nmB (C 0))++sR)=_
          simp only [ByteArray.append_assoc]
        rw [e] at hrec
        have hnx:=li 0 (by omega) (sE++sL) (by show 1≤_;omega) hrec (C 0).1 0 (by omega)
        rw [joinB_0,app_sE] at hnx
        rw [joinB_0]
        refine pcZ hc (jGb n C 0 sE) ?_ hnx
        and_intros
        all_goals (first | exact zN | (exact hd) | (exact hg) | (show 0+1≤_;omega) | (simp;omega))
  refine pcZ hc (jGz n C) ?_ (lo n 0 (by omega))
  and_intros
  all_goals (first | exact zN | (simp;omega))
theorem compD_in (N nb:Nat) (g:Nat→T_Bar) (e:Nat):∀ P s,s<(compD N nb g e P).1→0≤(compD N nb g e P).2 s∧(compD N nb g e P).2 s<P
  | 0,s,hs=>absurd hs (Nat.not_lt_zero _)
  | P+1,s,hs=>by
    have ih:=compD_in N nb g e P
    cases h:ownR N nb g e P with
    | false =>
      rw [compD_f h] at hs ⊢
      have:=ih s hs
      omega
    | true =>
      rw [compD_t h] at hs ⊢
      have hs:s<(compD N nb g e P).1+1:=hs
      show 0≤snocI _ _ _ s∧snocI _ _ _ s<_
      by_cases h':s<(compD N nb g e P).1
      · rw [snocI_lt h']
        have:=ih s h'
        omega
      · rw [show s=(compD N nb g e P).1 by omega,snocI_at]
        omega
theorem spS_cnt {N:Nat} {g:Nat→T_Bar} (S:T_IntS):∀ nb,OkBars N nb g→(flt (spS g S) nb).1=Mat.cnt (memR S) (bL g nb)
  | 0,_=>rfl
  | nb+1,h=>by
    have ih:=spS_cnt S nb (fun e he=>h e (by omega))
    have hb:=h nb (by omega)
    have e1:((brN (g nb)).1:Int)=(g nb).1:=by simp only [brN];omega
    have e2:((brN (g nb)).2:Int)=(g nb).2.1:=by simp only [brN];omega
    have hi:Mat.inn (memR S) (brN (g nb))=spS g S nb:=by
      simp only [Mat.inn,memR,spS,e1,e2]
    rw [bL,Mat.cnt_append,← ih]
    simp only [Mat.cnt,hi,flt]
    cases spS g S nb<;>simp
theorem smK_le {K:Nat→Nat} {b:Nat}:∀ n,(∀ i,i<n→K i≤b)→smK K n≤b*n
  | 0,_=>Nat.le_refl _
  | n+1,h=>by
    have:=smK_le n (fun i hi=>h i (by omega))
    have:=h n (by omega)
    simp only [smK,Nat.mul_succ]
    omega
theorem cntS_le (f:Nat→Int) (q:Int→Bool):∀ n,cntS f q n≤n
  | 0=>Nat.le_refl _
  | n+1=>by
    have:=cntS_le f q n
    have:(q (f n)).toNat≤1:=by cases q (f n)<;>simp
    simp only [cntS];omega
theorem looseF_le (v:T_Graph):(looseF v).length≤8:=by
  unfold looseF
  split
  · rename_i h
    have:=graph_inR h
    have:=looseL_len v v.1.toNat
    omega
  · simp
theorem shG_le (v:T_Graph):(shG v).1≤8:=by
  have:=jkG_le v
  have:=shD_le (jkG v).2 (jkG v).1
  unfold shG
  omega
theorem comps_all (v:T_Graph):(∀ i,i<(compsG v).1→In64 ((compsG v).2 i)) ∧
    (∀ i k,k<i→i<(compsG v).1→cntS ((compsG v).2 i).2 (cmQ (compsG v).2 k) ((compsG v).2 i).1≤1) ∧
    (isGraphF v=true→cbS (compsG v).2 (compsG v).1=((accI v.1.toNat 2 3 v.2.1.2 v.2.1.1).length:Int)∧smK (barK v) (compsG v).1=v.2.1.1):=by
  cases hg:isGraphF v with
  | false =>
    have e:compsG v=(0,fun _=>(0,fun _=>0)):=by simp [compsG,hg]
    rw [e]
    exact ⟨fun i hi=>absurd hi (Nat.not_lt_zero _),fun i k _ hi=>absurd hi (Nat.not_lt_zero _),fun h=>by cases h⟩
  | true =>
    obtain ⟨N,nb,g,rfl⟩:=graph_cases v hg
    obtain ⟨hN,hnb,hok⟩:=graph_in hg
    have e:compsG ((N:Int),(nb,g),())=compsD N nb g nb:=by simp [compsG,hg]
    have hK:barK ((N:Int),(nb,g),())=fun i=>Mat.cnt (memR ((compsD N nb g nb).2 i)) (bL g nb):=by
      funext i
      unfold barK
      rw [e]
      exact spS_cnt _ nb hok
    rw [hK,e]
    refine ⟨fun i hi s hs=>?_,fun i k hk hi=>comps_cnt hok hk hi,fun _=>⟨?_,comps_bars hok⟩⟩
    · obtain ⟨d,_,h2⟩:=(comps_spec N nb g nb).1 i hi
      rw [h2] at hs ⊢
      have:=compD_in N nb g d N s hs
      omega
    · exact comps_rank hok
set_option maxRecDepth 20000 in
theorem con_law_FnComponents (v0:Nat×(Nat→Int)) (k0:okS (.sl (.int .u8)) v0):zE 4 [cdA v0.1 v0.2] [] (.p (.bool true)):=by
  obtain ⟨n,f⟩:=v0
  have hbig:=con_big n f
  refine csZ Try.func4 (fun c hc=>?_)
  by_cases hn:n≤1048576
  · have hd:decide ((n:Int)>1048576)=false:=decide_eq_false (by omega)
    rw [hd] at hbig
    have hcd:CdOk n f:=⟨hn,fun i hi=>by have:=k0.2 i hi;simpa [okS,imin,imax] using this⟩
    obtain ⟨v,hv,cv⟩:=con_DrawComponentsOf n f hcd
    obtain ⟨w,e,hw,cw⟩:=con_DrawComponentOfBar n f hcd
    obtain ⟨z,a,b,hz,cz⟩:=con_DrawIsImplied n f hcd
    have sv:smS s_Graph v:=sm_graph (by omega)
    have sw:smS s_Graph w:=sm_graph (by omega)
    have sz:smS s_Graph z:=sm_graph (by omega)
    obtain ⟨l1,l2⟩:=compsG_le v
    obtain ⟨p1,p2,p3⟩:=comps_all v
    have k1:=con_Comps_i v sv
    have k2:=con_Comps_s v sv
    have k3:=con_FreedomOf_i v sv
    have k4:=con_FreedomOf_s v sv
    have k5:=con_IsMin_i v sv
    have k6:=con_IsMin_s v sv
    have k7:=con_IsGraph_s v sv
    have k8:isGraphF v=true→zE 40 [graphA v] [] (.p (.int .i64 (cbS (compsG v).2 (compsG v).1))):=fun h=>by
      have:=con_CountByBodies_i v sv
      rw [show cbF v=cbS (compsG v).2 (compsG v).1 by simp [cbF,h]] at this
      exact this
    have k9:=con_BodyCount_i v sv
    have k10:isGraphF v=true→zE 39 [graphA v,.p (.int .i64 2),.p (.int .i64 3)] [] (.p (.int .i64 (cbS (compsG v).2 (compsG v).1))):=fun h=>by
      rw [(p3 h).1]
      obtain ⟨N,nb,g,rfl⟩:=graph_cases v h
      exact con_RankOf_s h 2 3 (by omega) (by omega)
    have k11:=con_BodiesOf_i v sv
    have k12:=con_JointKinds_i v sv
    have k13:=con_JointKinds_s v sv
    have k14:=con_SharedPoints_i v sv
    have k15:=con_SharedPoints_s v sv
    have k16:=con_LoosePoints_i v sv
    have k17:=con_LoosePoints_s v sv
    have j1:=con_compG_i w sw e
    have j2:=con_compG_s w sw e
    have j3:=con_impG_i z sz a b
    have j4:=con_impG_s z sz a b
    have hJ:(jkG v).1≤1048576:=by have:=jkG_le v;omega
    have hL:(looseF v).length≤1048576:=by have:=looseF_le v;omega
    have hS:(shG v).1≤1048576:=by have:=shG_le v;omega
    have sI:∀ u:T_IntS,u.1≤1048576→zE 46 [.p (.seq true 1 u.1 (fun i=>[.int .i64 (u.2 i)])),.p (.seq true 1 u.1 (fun i=>[.int .i64 (u.2 i)]))] [] (.p (.bool true)):=fun u hu=>by
      have:=con_sameI u u hu
      rw [qI_refl] at this
      exact this
    have m1:=sI (jkG v) hJ
    have m2:=sI (shG v) hS
    have m3:=sI ((looseF v).length,fun i=>(looseF v).getD i 0) hL
    have m4:=sI (compG w e) (by have:=compG_le w e;omega)
    have hKle:∀ i,barK v i≤25:=fun i=>by
      have:=flt_n (spS v.2.1.2 ((compsG v).2 i)) v.2.1.1
      show (flt (spS v.2.1.2 ((compsG v).2 i)) v.2.1.1).1≤25
      omega
    have hq:(bif !isGraphF v then true else (smK (barK v) (compsG v).1:Int)==(v.2.1.1:Int))=true:=by
      cases hg:isGraphF v with
      | false=>rfl
      | true=>rw [(p3 hg).2];simp
    have fS:=con_FormatSets_i (compsG v).1 (compsG v).2 (by omega) (fun i hi=>⟨by have:=l2 i hi;omega,p1 i hi⟩)
    have fT:=con_FormatSets_s (compsG v).1 (compsG v).2 (by omega) (fun i hi=>⟨by have:=l2 i hi;omega,p1 i hi⟩)
    have sS:=con_sameS (compsG v).1 (compsG v).2 (by omega) (fun i hi=>by have:=l2 i hi;omega)
    have hcb:∀ i,i≤(compsG v).1→-72≤cbS (compsG v).2 i∧cbS (compsG v).2 i≤400:=fun i hi=>by
      have:=cbS_le (N:=8) (compsG v).2 i (fun j hj=>l2 j (by omega))
      omega
    generalize (compsG v).1=cn at *
    generalize (compsG v).2=C at *
    generalize fsB cn C=F at *
    generalize barK v=K at *
    generalize jkG v=J at *
    generalize shG v=S at *
    generalize compG w e=D at *
    generalize impG z a b=y at *
    have lb:∀ d i,i+d=cn→zR c 4 zf15 (SCm3 n f v cn C w e z a b K i) (Post c [] (.p (.bool true))):=by
      intro d
      induction d with
      | zero =>
        intro i hi
        obtain rfl:i=cn:=by omega
        refine pkD Try.func4 hc (cwi n f v i C w e z a b K (isGraphF v) D y) ?_
        and_intros
        all_goals (first | exact zH | (exact k7) | (exact hq) | (exact j1) | (exact j2) | (exact m4) | (intros;exact j3) | (intros;exact j4) | (intros;simp [All];done) | (simp;done) | (intro h;simpa using h))
      | succ d ih =>
        intro i hi
        have hd:decide ((i:Int)<(cn:Int))=true:=decide_eq_true (by omega)
        have h1:=sI (C i) (by have:=l2 i (by omega);omega)
        have h2:=smK_le (K:=K) (b:=25) i (fun i _=>hKle i)
        have h3:=hKle i
        refine pcD hc (cwh n f v cn C w e z a b K i) ?_ (ih (i+1) (by omega))
        and_intros
        iterate 2 all_goals (first | exact zN | (exact hd) | (exact h1) | (intros;simp [All];done) | (simp;done) | (simp [smK];done) | (simp;omega) | simp only [All])
    have la:∀ d i,i+d=cn→zR c 4 zf19 (SCm0 n f v cn C i) (Post c [] (.p (.bool true))):=by
      intro d
      induction d with
      | zero =>
        intro i hi
        obtain rfl:i=cn:=by omega
        have hx:(bif isGraphF v then bif bif cbS C i != cbS C i then true else cbS C i != cbS C i then true else (i:Int) != (i:Int) else false)=false:=by simp
        refine pcD hc (cwg n f v i C (isGraphF v) (cbS C i) (cbS C i) (i:Int) w e z a b K J S ((looseF v).length,fun i=>(looseF v).getD i 0)) ?_ (lb i 0 (by omega))
        and_intros
        iterate 2 all_goals (first | exact zH | (exact k7) | (intro h;exact k10 h) | (intro h;exact k8 (by simpa using h)) | (intros;exact k9) | (exact hx) | (exact cw) | (exact cz) | (exact k11) | (exact k12) | (exact k13) | (exact k14) | (exact k15) | (exact k16) | (exact k17) | (exact m1) | (exact m2) | (exact m3) | (intros;simp [All];done) | (simp;done) | (simp [smK];done) | (intro h;simpa using h) | simp only [All])
      | succ d ih =>
        intro i hi
        have hd:decide ((i:Int)<(cn:Int))=true:=decide_eq_true (by omega)
        have hci:=hcb i (by omega)
        have hli:=l2 i (by omega)
        have lk:∀ d k,k+d=i→zR c 4 zf9 (SCm1 n f v cn C i k) (Post c [] (.p (.bool true))):=by
          intro d
          induction d with
          | zero =>
            intro k hk
            have hd:decide ((k:Int)<(i:Int))=false:=decide_eq_false (by omega)
            refine pcZ hc (cwf n f v cn C i k) ?_ (ih (i+1) (by omega))
            and_intros
            all_goals (first | exact zN | (exact hd) | (intros;simp [All];done) | (simp;done) | (simp;omega))
          | succ d ih2 =>
            intro k hk
            have hd:decide ((k:Int)<(i:Int))=true:=decide_eq_true (by omega)
            have hcm:=p2 i k (by omega) (by omega)
            have hlk:=l2 k (by omega)
            have lu:∀ d u,u+d=(C i).1→zR c 4 zf1 (SCm2 n f v cn C i k u) (Post c [] (.p (.bool true))):=by
              intro d
              induction d with
              | zero =>
                intro u hu
                obtain rfl:u=(C i).1:=by omega
                have hd:decide ((((C i).1:Nat):Int)<(((C ((i:Int).toNat+0)).1:Nat):Int))=false:=by
                  rw [show (i:Int).toNat+0=i by omega];simp
                have hx:decide (((cntS (C i).2 (cmQ C k) (C i).1:Nat):Int)>1)=false:=decide_eq_false (by omega)
                refine pcZ hc (cwe n f v cn C i k (C i).1) ?_ (ih2 (k+1) (by omega))
                and_intros
                all_goals (first | exact zN | (exact hd) | (exact hx) | (intros;simp [All];done) | (simp;done) | (simp;omega))
              | succ d ih3 =>
                intro u hu
                have hd:decide ((u:Int)<(((C ((i:Int).toNat+0)).1:Nat):Int))=true:=by
                  rw [show (i:Int).toNat+0=i by omega];exact decide_eq_true (by omega)
                have hh:=con_hasL (C k) ((C i).2 u) (by omega)
                have hle:=cntS_le (C i).2 (cmQ C k) u
                cases hq2:hasI (C k).2 ((C i).2 u) (C k).1 with
                | true =>
                  rw [hq2] at hh
                  have ec:cntS (C i).2 (cmQ C k) (u+1)=cntS (C i).2 (cmQ C k) u+1:=by simp [cntS,cmQ,hq2]
                  refine pcZ hc (cwdT n f v cn C i k u) ?_ (ih3 (u+1) (by omega))
                  and_intros
                  all_goals (first | exact zN | (exact hd) | (exact hh) | (intros;simp [All];done) | (simp;done) | (rw [ec];omega) | (simp;omega))
                | false =>
                  rw [hq2] at hh
                  have ec:cntS (C i).2 (cmQ C k) (u+1)=cntS (C i).2 (cmQ C k) u:=by simp [cntS,cmQ,hq2]
                  refine pcZ hc (cwdF n f v cn C i k u) ?_ (ih3 (u+1) (by omega))
                  and_intros
                  all_goals (first | exact zN | (exact hd) | (exact hh) | (intros;simp [All];done) | (simp;done) | (rw [ec];done) | (simp;omega))
            refine pcZ hc (cwc n f v cn C i k) ?_ (lu (C i).1 0 (by omega))
            and_intros
            all_goals (first | exact zN | (exact hd) | (intros;simp [All];done) | (simp;done) | (simp;omega) | (simp [cntS];done))
        refine pcZ hc (cwb n f v cn C i) ?_ (lk i 0 (by omega))
        and_intros
        all_goals (first | exact zN | (exact hd) | (intros;simp [All];done) | (simp;done) | (simp [cbS];done) | (simp;omega))
    refine pcD hc (cwa n f v cn C F (frGr v) (mrG v)) ?_ (la cn 0 (by omega))
    and_intros
    all_goals (first | exact zH | (exact hbig) | (exact cv) | (exact k1) | (exact k2) | (exact sS) | (intros;exact fS) | (intros;exact fT) | (intros;exact k3) | (intros;exact k4) | (intros;exact k5) | (intros;exact k6) | (intros;simp [All];done) | (simp;done) | (simp [cbS];done) | (intro h;simpa using h))
  · have hd:decide ((n:Int)>1048576)=true:=decide_eq_true (by omega)
    rw [hd] at hbig
    refine pkZ Try.func4 hc (cwz n f) ?_
    and_intros
    all_goals (first | exact zN | (exact hbig))
end Go.Proofs.Ytgabljneilgilaa.Mach
