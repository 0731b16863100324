/- What the law Cg needs, part 4 of 5: the abstract machine and the contracts of the functions. Conditions: as each theorem says. -/
import Derived.Shelf.SlSortCmp.NoneTotal
import Derived.Shelf.SlGeneric
import Derived.Ground.SlgmProg
import Derived.Ground.SlgnProg
import Derived.Shelf.SortM.Plain
import Derived.Shelf.SortM.SortNone
import Derived.Shelf.SlicesG.CompactI
import Derived.Test.YtkkjoghiigiokaaGreatCgP3
namespace Go.Proofs.YtkkjoghiigiokaaGreat.Mach
open Go
set_option linter.unusedVariables false
set_option linter.unusedSimpArgs false
def brOb (n:Nat) (h:Nat→T_Bar):Ob:=⟨false,2,n,fun i=>[.p (.int .i64 (h i).1),.p (.int .i64 (h i).2.1)]⟩
def bxB (x:T_Bar):Ob:=⟨true,2,1,fun _=>[.p (.int .i64 x.1),.p (.int .i64 x.2.1)]⟩
def SL (g:Nat→T_Bar) (nb N:Nat) (x:T_Bar) (i n:Nat) (pl:Bool) (h:Nat→T_Bar):St :=
  ⟨[grG g nb N,brA x,.pt 2 0 0 0,.pt 2 1 0 0,.pt 2 2 0 0,.pt 2 3 0 0,.p (.bool pl),.p (.int .i64 i)]++List.replicate 48 anyA,
   [(0,bxG g nb N),(1,bxB x),(2,⟨true,2,1,fun _=>[.p (.int .i64 0),.p .nil]⟩),(3,⟨true,2,1,fun _=>[.p (.int .i64 N),.ar 2 4 0 n]⟩),(4,brOb n h)],5⟩
def snoc (n:Nat) (h:Nat→T_Bar) (x:T_Bar) (s:Nat):T_Bar:=(if s<n then (h s).1 else x.1,if s<n then (h s).2.1 else x.2.1,())
abbrev NB:=Nat×(Nat→T_Bar)
def zNB:NB:=(0,fun _=>(0,0,()))
def sn (r:NB) (x:T_Bar):NB:=(r.1+1,snoc r.1 r.2 x)
theorem rLz (g:Nat→T_Bar) (nb N:Nat) (x:T_Bar) :
    pieceOb Tryz.prog 0 [rg 3,rg 6,rg 1,rg 1,.head] [.code (bodyOf Tryz.f216)] (start Tryz.f216 [] 0 [grG g nb N,brA x]) [0,32,64,224,160] 1 (SL g nb N x 0 0 false (fun _=>(0,0,()))) =
    some (zf52,[(NT 0 1),(NT 0 1),((true=true)→ (AN 1)),(AI ((↑N:Int))),(AN nb),(AP nb (fun i=>[.int .i64 ((g i).1),.int .i64 ((g i).2.1)])),(AI x.1),(AI x.2.1),(AN 0),(AN 0),(AN 0),(AN 0),(false=false),((0:Int)=(↑0:Int)),((([AV.p (PV.int IntKind.i64 (↑N:Int)),brL g nb].length):Nat)=2),(NL 1 1),(NL 1 1),(AI ((↑N:Int))),(AN nb),(AP nb (fun i=>[.int .i64 ((g i).1),.int .i64 ((g i).2.1)])),((([AV.p (PV.int IntKind.i64 x.1),AV.p (PV.int IntKind.i64 x.2.1)].length):Nat)=2),(NL 1 1),(NL 1 1),(AI x.1),(AI x.2.1),((((List.map (fun v=>AV.p (absV v)) [Value.int IntKind.i64 0,Value.slice none 0 0]).length):Nat)=2),(NL 1 1),(NL 1 1),(AI 0),((((List.map (fun v=>AV.p (absV v)) [Value.int IntKind.i64 0,Value.slice none 0 0]).length):Nat)=2),(NL 1 1),(NL 1 1),(AI ((↑N:Int))),(AN 0),(AN 0),(AN 2),(NL 0 0),(AA 0 (fun i=>[.p (.int .i64 0),.p (.int .i64 0)]))]):=by kernel_rfl
theorem rLa (g:Nat→T_Bar) (nb N:Nat) (x:T_Bar) (i n:Nat) (pl:Bool) (h:Nat→T_Bar) :
    pieceOb Tryz.prog 0 [rg 5,.dec true,rm [(9,oc [] (.p (.bool (aft (g i) x))))] 2,.dec true,rg 7,rg 1,rg 11,rg 3,.head] zf52 (SL g nb N x i n pl h) [0,1,2,3,1061] 1 (SL g nb N x (i+1) (n+1+1) true (snoc (n+1) (snoc n h x) (g i))) =
    some (zf52,[(NT 0 1),((decide ((↑i:Int)<(↑nb:Int)))=true),(AG (!pl)),(((!pl)=true)→(NT 0 1)),(AG (!pl)),(AG (!pl)),(((!pl)=true)→(IL 0 (↑i:Int))),(((!pl)=true)→(IT (↑i:Int) (↑nb:Int))),(AG (!pl)),(((!pl)=true)→(NT 0 1)),(AG (!pl)),(AG (!pl)),(((!pl)=true)→ Con Tryz.prog 168 0 [] [.agg [.p (.int .i64 ((g i).1)),.p (.int .i64 ((g i).2.1))],.agg [.p (.int .i64 x.1),.p (.int .i64 x.2.1)]] [] (.p (.bool (aft (g i) x)))),(AG (!pl)),(AG (!pl)),((bif !pl then !aft (g i) x else false)=true),(NT 0 1),(NT 0 1),(NL 1 1),(NL n n),(NL ((n+1)*16) 140737488355328),(NL (n+1) 9223372036854775807),(NT 0 1),((true=true)→ (AN 1)),(NT 0 1),(NT 0 1),(IL 0 (↑i:Int)),(IT (↑i:Int) (↑nb:Int)),(NL 1 1),(NL (n+1) (n+1)),(NL ((n+1+1)*16) 140737488355328),(NL (n+1+1) 9223372036854775807),(NT 0 1),((true=true)→ (AN 1)),(R0 ((↑i:Int)+1)),(R1 ((↑i:Int)+1)),(AI ((↑N:Int))),(AN nb),(AP nb (fun i_1=>[.int .i64 ((g i_1).1),.int .i64 ((g i_1).2.1)])),(AI x.1),(AI x.2.1),(AN 0),(AN 0),(AN 0),(AN 0),(true=true),((((↑i:Int)+1):Int)=(↑(i+1):Int)),(AN 2),(NL 1 1),(NL 1 1),(AI ((↑N:Int))),(AN nb),(AP nb (fun i_1=>[.int .i64 ((g i_1).1),.int .i64 ((g i_1).2.1)])),(AN 2),(NL 1 1),(NL 1 1),(AI x.1),(AI x.2.1),(AN 2),(NL 1 1),(NL 1 1),(AI 0),(AN 2),(NL 1 1),(NL 1 1),(AI ((↑N:Int))),(AN 0),(AN ((n+1+1))),(AN 2),(NL (n+1+1) (n+1+1)),(CV [(3,⟨true,2,1,(fun i_2=>[.p (.int .i64 (↑N:Int)),.ar 2 1061 0 (n+1+1)])⟩),(1061,⟨false,2,(n+1+1),(fun i_2=>(if (i_2<n+1) then (if (i_2<n) then [.p (.int .i64 ((h i_2).1)),.p (.int .i64 ((h i_2).2.1))] else [.p (.int .i64 x.1),.p (.int .i64 x.2.1)]) else [.p (.int .i64 ((g i).1)),.p (.int .i64 ((g i).2.1))]))⟩),(1029,⟨false,2,1,(fun i_2=>[.p (.int .i64 ((g i).1)),.p (.int .i64 ((g i).2.1))])⟩),(645,⟨false,2,1,(fun i_2=>[.p (.int .i64 x.1),.p (.int .i64 x.2.1)])⟩),(0,⟨true,2,1,(fun i_2=>[.p (.int .i64 (↑N:Int)),.p (.seq true 2 nb (fun i_3=>[.int .i64 ((g i_3).1),.int .i64 ((g i_3).2.1)]))])⟩),(1,⟨true,2,1,(fun i_2=>[.p (.int .i64 x.1),.p (.int .i64 x.2.1)])⟩),(2,⟨true,2,1,(fun i_2=>[.p (.int .i64 0),.p (.nil)])⟩)] [0,1,2,3,1061] 1 (n+1+1) (fun i_1=>if (i_1<n+1) then (if (i_1<n) then [.p (.int .i64 ((h i_1).1)),.p (.int .i64 ((h i_1).2.1))] else [.p (.int .i64 x.1),.p (.int .i64 x.2.1)]) else [.p (.int .i64 ((g i).1)),.p (.int .i64 ((g i).2.1))]) (fun i_1=>[.p (.int .i64 (if i_1<n+1 then if i_1<n then (h i_1).1 else x.1 else (g i).1)),.p (.int .i64 (if i_1<n+1 then if i_1<n then (h i_1).2.1 else x.2.1 else (g i).2.1))]))]):=by kernel_rfl
theorem rLb (g:Nat→T_Bar) (nb N:Nat) (x:T_Bar) (i n:Nat) (pl:Bool) (h:Nat→T_Bar) :
    pieceOb Tryz.prog 0 [rg 5,.dec true,rm [(9,oc [] (.p (.bool (aft (g i) x))))] 2,.dec false,rg 11,rg 3,.head] zf52 (SL g nb N x i n pl h) [0,1,2,3,805] 1 (SL g nb N x (i+1) (n+1) pl (snoc n h (g i))) =
    some (zf52,[(NT 0 1),((decide ((↑i:Int)<(↑nb:Int)))=true),(AG (!pl)),(((!pl)=true)→(NT 0 1)),(AG (!pl)),(AG (!pl)),(((!pl)=true)→(IL 0 (↑i:Int))),(((!pl)=true)→(IT (↑i:Int) (↑nb:Int))),(AG (!pl)),(((!pl)=true)→(NT 0 1)),(AG (!pl)),(AG (!pl)),(((!pl)=true)→ Con Tryz.prog 168 0 [] [.agg [.p (.int .i64 ((g i).1)),.p (.int .i64 ((g i).2.1))],.agg [.p (.int .i64 x.1),.p (.int .i64 x.2.1)]] [] (.p (.bool (aft (g i) x)))),(AG (!pl)),(AG (!pl)),((bif !pl then !aft (g i) x else false)=false),(NT 0 1),(NT 0 1),(IL 0 (↑i:Int)),(IT (↑i:Int) (↑nb:Int)),(NL 1 1),(NL n n),(NL ((n+1)*16) 140737488355328),(NL (n+1) 9223372036854775807),(NT 0 1),((true=true)→ (AN 1)),(R0 ((↑i:Int)+1)),(R1 ((↑i:Int)+1)),(AI ((↑N:Int))),(AN nb),(AP nb (fun i_1=>[.int .i64 ((g i_1).1),.int .i64 ((g i_1).2.1)])),(AI x.1),(AI x.2.1),(AN 0),(AN 0),(AN 0),(AN 0),(pl=pl),((((↑i:Int)+1):Int)=(↑(i+1):Int)),(AN 2),(NL 1 1),(NL 1 1),(AI ((↑N:Int))),(AN nb),(AP nb (fun i_1=>[.int .i64 ((g i_1).1),.int .i64 ((g i_1).2.1)])),(AN 2),(NL 1 1),(NL 1 1),(AI x.1),(AI x.2.1),(AN 2),(NL 1 1),(NL 1 1),(AI 0),(AN 2),(NL 1 1),(NL 1 1),(AI ((↑N:Int))),(AN 0),(AN ((n+1))),(AN 2),(NL (n+1) (n+1)),(CV [(3,⟨true,2,1,(fun i_2=>[.p (.int .i64 (↑N:Int)),.ar 2 805 0 (n+1)])⟩),(805,⟨false,2,(n+1),(fun i_2=>(if (i_2<n) then [.p (.int .i64 ((h i_2).1)),.p (.int .i64 ((h i_2).2.1))] else [.p (.int .i64 ((g i).1)),.p (.int .i64 ((g i).2.1))]))⟩),(773,⟨false,2,1,(fun i_2=>[.p (.int .i64 ((g i).1)),.p (.int .i64 ((g i).2.1))])⟩),(0,⟨true,2,1,(fun i_2=>[.p (.int .i64 (↑N:Int)),.p (.seq true 2 nb (fun i_3=>[.int .i64 ((g i_3).1),.int .i64 ((g i_3).2.1)]))])⟩),(1,⟨true,2,1,(fun i_2=>[.p (.int .i64 x.1),.p (.int .i64 x.2.1)])⟩),(2,⟨true,2,1,(fun i_2=>[.p (.int .i64 0),.p (.nil)])⟩)] [0,1,2,3,805] 1 (n+1) (fun i_1=>if (i_1<n) then [.p (.int .i64 ((h i_1).1)),.p (.int .i64 ((h i_1).2.1))] else [.p (.int .i64 ((g i).1)),.p (.int .i64 ((g i).2.1))]) (fun i_1=>[.p (.int .i64 (if i_1<n then (h i_1).1 else (g i).1)),.p (.int .i64 (if i_1<n then (h i_1).2.1 else (g i).2.1))]))]):=by kernel_rfl
theorem rLc (g:Nat→T_Bar) (nb N:Nat) (x:T_Bar) (i n:Nat) (pl:Bool) (h:Nat→T_Bar) :
    pathOb Tryz.prog Tryz.f216 0 [rg 5,.dec false,rg 2,.dec true,rg 7,rg 2] zf52 (SL g nb N x i n pl h) [357] 1 [(0,brOb (n+1) (snoc n h x))] (.agg [.p (.int .i64 N),.ar 2 0 0 (n+1)]) =
    some [(NT 0 1),((decide ((↑i:Int)<(↑nb:Int)))=false),((!pl)=true),(NT 0 1),(NT 0 1),(NL 1 1),(NL n n),(NL ((n+1)*16) 140737488355328),(NL (n+1) 9223372036854775807),(NT 0 1),((true=true)→ (AN 1)),(NT 0 1),(NT 0 1),((true=true)→ (AN 1)),(NT 0 1),(AI ((↑N:Int))),(AN 0),(AN ((n+1))),(AN 2),(NL (n+1) (n+1)),(CV [(2,⟨true,2,1,(fun i_2=>[.p (.int .i64 (↑N:Int)),.ar 2 357 0 (n+1)])⟩),(3,⟨true,2,1,(fun i_2=>[.p (.int .i64 (↑N:Int)),.ar 2 357 0 (n+1)])⟩),(357,⟨false,2,(n+1),(fun i_2=>(if (i_2<n) then [.p (.int .i64 ((h i_2).1)),.p (.int .i64 ((h i_2).2.1))] else [.p (.int .i64 x.1),.p (.int .i64 x.2.1)]))⟩),(325,⟨false,2,1,(fun i_2=>[.p (.int .i64 x.1),.p (.int .i64 x.2.1)])⟩),(0,⟨true,2,1,(fun i_2=>[.p (.int .i64 (↑N:Int)),.p (.seq true 2 nb (fun i_3=>[.int .i64 ((g i_3).1),.int .i64 ((g i_3).2.1)]))])⟩),(1,⟨true,2,1,(fun i_2=>[.p (.int .i64 x.1),.p (.int .i64 x.2.1)])⟩)] [357] 1 (n+1) (fun i_1=>if (i_1<n) then [.p (.int .i64 ((h i_1).1)),.p (.int .i64 ((h i_1).2.1))] else [.p (.int .i64 x.1),.p (.int .i64 x.2.1)]) (fun i_1=>[.p (.int .i64 (if i_1<n then (h i_1).1 else x.1)),.p (.int .i64 (if i_1<n then (h i_1).2.1 else x.2.1))])),(AE ((n+1)))]:=by kernel_rfl
theorem rLd (g:Nat→T_Bar) (nb N:Nat) (x:T_Bar) (i n:Nat) (pl:Bool) (h:Nat→T_Bar) :
    pathOb Tryz.prog Tryz.f216 0 [rg 5,.dec false,rg 2,.dec false,rg 2] zf52 (SL g nb N x i n pl h) [4] 1 [(0,brOb n h)] (.agg [.p (.int .i64 N),.ar 2 0 0 n]) =
    some [(NT 0 1),((decide ((↑i:Int)<(↑nb:Int)))=false),((!pl)=false),(NT 0 1),(NT 0 1),((true=true)→ (AN 1)),(NT 0 1),(AI ((↑N:Int))),(AN 0),(AN n),(AN 2),(NL n n),(AA n (fun i_1=>[.p (.int .i64 ((h i_1).1)),.p (.int .i64 ((h i_1).2.1))])),(AE n)]:=by kernel_rfl
theorem snoc_lt {n:Nat} {h:Nat→T_Bar} {x:T_Bar} {s:Nat} (hs:s<n):snoc n h x s=h s:=by
  simp only [snoc,hs,if_true]
theorem snoc_ge {n:Nat} {h:Nat→T_Bar} {x:T_Bar} {s:Nat} (hs:¬ s<n):snoc n h x s=x:=by
  simp only [snoc,hs,if_false]
theorem snoc_mem (n:Nat) (h:Nat→T_Bar) (x y:T_Bar):(∃ s,s<n+1∧snoc n h x s=y)↔(∃ s,s<n∧h s=y)∨x=y:=by
  constructor
  · rintro ⟨s,h1,h2⟩
    by_cases e:s<n
    · rw [snoc_lt e] at h2;exact .inl ⟨s,e,h2⟩
    · rw [snoc_ge e] at h2;exact .inr h2
  · rintro (⟨s,h1,h2⟩ | h2)
    · exact ⟨s,by omega,by rw [snoc_lt h1];exact h2⟩
    · exact ⟨n,by omega,by rw [snoc_ge (Nat.lt_irrefl n)];exact h2⟩
def insD (g:Nat→T_Bar) (x:T_Bar):Nat→Bool×Nat×(Nat→T_Bar)
  | 0=>(false,0,fun _=>(0,0,()))
  | i+1 =>
    if (bif !(insD g x i).1 then !aft (g i) x else false)=true then (true,(insD g x i).2.1+1+1,snoc ((insD g x i).2.1+1) (snoc (insD g x i).2.1 (insD g x i).2.2 x) (g i))
    else ((insD g x i).1,(insD g x i).2.1+1,snoc (insD g x i).2.1 (insD g x i).2.2 (g i))
def insR (g:Nat→T_Bar) (nb:Nat) (x:T_Bar):Nat×(Nat→T_Bar) :=
  if (insD g x nb).1=true then ((insD g x nb).2.1,(insD g x nb).2.2) else ((insD g x nb).2.1+1,snoc (insD g x nb).2.1 (insD g x nb).2.2 x)
theorem insD_n (g:Nat→T_Bar) (x:T_Bar):∀ i,(insD g x i).2.1=i+(if (insD g x i).1=true then 1 else 0)
  | 0=>rfl
  | i+1=>by
    have ih:=insD_n g x i
    simp only [insD]
    split
    · rename_i h
      have hf:(insD g x i).1=false:=by
        cases e:(insD g x i).1 with
        | false=>rfl
        | true=>rw [e] at h;simp at h
      rw [hf] at ih
      simp only [if_true]
      simp at ih
      omega
    · simp only
      omega
theorem insD_mem (g:Nat→T_Bar) (x y:T_Bar):∀ i,(∃ s,s<(insD g x i).2.1∧(insD g x i).2.2 s=y)↔(∃ s,s<i∧g s=y)∨((insD g x i).1=true∧x=y)
  | 0=>by
    constructor
    · rintro ⟨s,h1,_⟩;exact absurd h1 (Nat.not_lt_zero _)
    · rintro (⟨s,h1,_⟩ | ⟨h1,_⟩)
      · exact absurd h1 (Nat.not_lt_zero _)
      · cases h1
  | i+1=>by
    have ih:=insD_mem g x y i
    have step:(∃ s,s<i+1∧g s=y)↔(∃ s,s<i∧g s=y)∨g i=y:=by
      constructor
      · rintro ⟨s,h1,h2⟩
        by_cases e:s=i
        · right;rw [← e];exact h2
        · exact .inl ⟨s,by omega,h2⟩
      · rintro (⟨s,h1,h2⟩ | h2)
        · exact ⟨s,by omega,h2⟩
        · exact ⟨i,by omega,h2⟩
    simp only [insD]
    split
    · rename_i h
      have hf:(insD g x i).1=false:=by
        cases e:(insD g x i).1 with
        | false=>rfl
        | true=>rw [e] at h;simp at h
      simp only [snoc_mem,ih,step,hf]
      constructor
      · rintro ((( h | ⟨h,_⟩) | h) | h)
        · exact .inl (.inl h)
        · cases h
        · exact .inr ⟨trivial,h⟩
        · exact .inl (.inr h)
      · rintro ((h | h) | ⟨_,h⟩)
        · exact .inl (.inl (.inl h))
        · exact .inr h
        · exact .inl (.inr h)
    · simp only [snoc_mem,ih,step]
      constructor
      · rintro ((h | h) | h)
        · exact .inl (.inl h)
        · exact .inr h
        · exact .inl (.inr h)
      · rintro ((h | h) | h)
        · exact .inl (.inl h)
        · exact .inr h
        · exact .inl (.inr h)
theorem insR_mem (g:Nat→T_Bar) (nb:Nat) (x y:T_Bar):(∃ s,s<(insR g nb x).1∧(insR g nb x).2 s=y)↔(∃ s,s<nb∧g s=y)∨x=y:=by
  have h:=insD_mem g x y nb
  unfold insR
  split
  · rename_i hp
    simp only [h,hp,true_and]
  · rename_i hp
    simp only [snoc_mem,h]
    constructor
    · rintro ((h | ⟨h,_⟩) | h)
      · exact .inl h
      · exact absurd h hp
      · exact .inr h
    · rintro (h | h)
      · exact .inl (.inl h)
      · exact .inr h
theorem insR_n (g:Nat→T_Bar) (nb:Nat) (x:T_Bar):(insR g nb x).1=nb+1:=by
  have h:=insD_n g x nb
  unfold insR
  split
  · rename_i hp;rw [if_pos hp] at h;exact h
  · rename_i hp;rw [if_neg hp] at h;show (insD g x nb).2.1+1=nb+1;omega
theorem con_l2Put (g:Nat→T_Bar) (nb N:Nat) (x:T_Bar) (hnb:nb≤1048576):Con Tryz.prog 216 0 [] [grG g nb N,brA x] [(0,brOb (insR g nb x).1 (insR g nb x).2)] (.agg [.p (.int .i64 N),.ar 2 0 0 (insR g nb x).1]):=by
  refine con_start Tryz.func216 rfl (by kernel_rfl) rfl (fun c hc=>?_)
  have lp:∀ d i,i+d=nb→Run Tryz.prog c 216 zf52 (SL g nb N x i (insD g x i).2.1 (insD g x i).1 (insD g x i).2.2) (Post c [(0,brOb (insR g nb x).1 (insR g nb x).2)] (.agg [.p (.int .i64 N),.ar 2 0 0 (insR g nb x).1])):=by
    intro d
    induction d with
    | zero =>
      intro i hi
      obtain rfl:i=nb:=by omega
      have hd:decide ((i:Int)<(i:Int))=false:=by simp
      have hn:=insD_n g x i
      have hle:(insD g x i).2.1≤i+1:=by split at hn<;>omega
      cases hp:(insD g x i).1 with
      | true =>
        rw [show insR g i x=((insD g x i).2.1,(insD g x i).2.2) by simp [insR,hp]]
        refine path_ok mixed Tryz.func216 hc (rLd g i N x i (insD g x i).2.1 true (insD g x i).2.2) ?_
        repeat' (first | exact aN | apply aI)
        all_goals (first | exact aA _ _ | exact aE _ | omega | rfl | (intros;first | assumption | exact trivial | rfl | exact fT ‹_› | ((repeat' (first | assumption | apply anda | apply notf));done)) | (intro i hi;simp [All]))
      | false =>
        rw [show insR g i x=((insD g x i).2.1+1,snoc (insD g x i).2.1 (insD g x i).2.2 x) by simp [insR,hp]]
        refine path_ok mixed Tryz.func216 hc (rLc g i N x i (insD g x i).2.1 false (insD g x i).2.2) ?_
        repeat' (first | exact aN | apply aI)
        all_goals (first | exact aE _ | omega | rfl | (intros;first | assumption | exact trivial | rfl | exact fT ‹_› | ((repeat' (first | assumption | apply anda | apply notf));done)) | (intro j hj;simp [All];done) | (intro j hj;by_cases h:j<(insD g x i).2.1<;>simp [h,snoc,cvtL,cvt,tg,tru,All]))
    | succ d ih =>
      intro i hi
      have hd:decide ((i:Int)<(nb:Int))=true:=by simp;omega
      have hn:=insD_n g x i
      have hle:(insD g x i).2.1≤i+1:=by split at hn<;>omega
      have hca:=con_l2After (g i) x
      have hs:insD g x (i+1)=if (bif !(insD g x i).1 then !aft (g i) x else false)=true then (true,(insD g x i).2.1+1+1,snoc ((insD g x i).2.1+1) (snoc (insD g x i).2.1 (insD g x i).2.2 x) (g i)) else ((insD g x i).1,(insD g x i).2.1+1,snoc (insD g x i).2.1 (insD g x i).2.2 (g i)):=rfl
      have hih:=ih (i+1) (by omega)
      cases ht:(bif !(insD g x i).1 then !aft (g i) x else false) with
      | true =>
        rw [hs,if_pos ht] at hih
        refine piece_ok mixed hc (rLa g nb N x i (insD g x i).2.1 (insD g x i).1 (insD g x i).2.2) ?_ hih
        repeat' (first | exact aN | apply aI)
        all_goals (first | exact aG _ | exact aP _ _ | omega | rfl | (intros;first | assumption | exact trivial | rfl | exact fT ‹_› | ((repeat' (first | assumption | apply anda | apply notf));done)) | (intros;exact hca) | (exact ht) | (intro j hj;simp [All];done) | (intro j hj;by_cases h:j<(insD g x i).2.1+1<;>by_cases h':j<(insD g x i).2.1<;>simp [h,h',snoc,cvtL,cvt,tg,tru,All]) | (simp;omega))
      | false =>
        rw [hs,if_neg (by rw [ht];simp)] at hih
        refine piece_ok mixed hc (rLb g nb N x i (insD g x i).2.1 (insD g x i).1 (insD g x i).2.2) ?_ hih
        repeat' (first | exact aN | apply aI)
        all_goals (first | exact aG _ | exact aP _ _ | omega | rfl | (intros;first | assumption | exact trivial | rfl | exact fT ‹_› | ((repeat' (first | assumption | apply anda | apply notf));done)) | (intros;exact hca) | (exact ht) | (intro j hj;simp [All];done) | (intro j hj;by_cases h:j<(insD g x i).2.1<;>simp [h,snoc,cvtL,cvt,tg,tru,All]))
  refine piece_ok mixed hc (rLz g nb N x) ?_ (lp nb 0 (by omega))
  repeat' (first | exact aN | apply aI)
  all_goals (first | exact aP _ _ | exact aA _ _ | omega | rfl | (intros;first | assumption | exact trivial | rfl | exact fT ‹_› | ((repeat' (first | assumption | apply anda | apply notf));done)) | (intro i hi;simp [All]))
end Go.Proofs.YtkkjoghiigiokaaGreat.Mach
namespace Go.Proofs.YtkkjoghiigiokaaGreat.Mach
open Go Go.Shelf Go.RowKit Go.Lib Go.Sort
set_option linter.unusedVariables false
set_option linter.unusedSimpArgs false
def ltB (x y:T_Bar):Bool:=ltOf cmpB x y
theorem ltB_iff (x y:T_Bar):ltB x y=true↔x.1<y.1∨(x.1=y.1∧x.2.1<y.2.1):=by
  rw [show ltB x y=decide (cmpB x y<0) from rfl,decide_eq_true_iff]
  unfold cmpB
  rcases Int.lt_trichotomy x.1 y.1 with h | h | h
  · rw [cmpI_1 h];simp;omega
  · rw [cmpI_3 (x:=x.1) (y:=y.1) (by omega) (by omega)]
    simp only [if_true]
    rcases Int.lt_trichotomy x.2.1 y.2.1 with h' | h' | h'
    · rw [cmpI_1 h'];simp;omega
    · rw [cmpI_3 (x:=x.2.1) (y:=y.2.1) (by omega) (by omega)];simp;omega
    · rw [cmpI_2 h'];simp;omega
  · rw [cmpI_2 h];simp;omega
theorem swoB:SWO (ltOf cmpB) where
  irrefl x:=by
    cases h:ltOf cmpB x x with
    | false=>rfl
    | true=>have:=(ltB_iff x x).1 h;omega
  trans x y z h1 h2:=by
    have h1:=(ltB_iff x y).1 h1
    have h2:=(ltB_iff y z).1 h2
    exact (ltB_iff x z).2 (by omega)
  ntrans x y z h1 h2:=by
    cases h:ltOf cmpB x z with
    | false=>rfl
    | true =>
      have h3:=(ltB_iff x z).1 h
      have e1:¬ (x.1<y.1∨(x.1=y.1∧x.2.1<y.2.1)):=fun h'=>by rw [show ltOf cmpB x y=true from (ltB_iff x y).2 h'] at h1;cases h1
      have e2:¬ (y.1<z.1∨(y.1=z.1∧y.2.1<z.2.1)):=fun h'=>by rw [show ltOf cmpB y z=true from (ltB_iff y z).2 h'] at h2;cases h2
      omega
theorem totB (x y:T_Bar) (h1:ltOf cmpB x y=false) (h2:ltOf cmpB y x=false):x=y:=by
  have e1:¬ (x.1<y.1∨(x.1=y.1∧x.2.1<y.2.1)):=fun h'=>by rw [show ltOf cmpB x y=true from (ltB_iff x y).2 h'] at h1;cases h1
  have e2:¬ (y.1<x.1∨(y.1=x.1∧y.2.1<x.2.1)):=fun h'=>by rw [show ltOf cmpB y x=true from (ltB_iff y x).2 h'] at h2;cases h2
  obtain ⟨a,b,⟨⟩⟩:=x
  obtain ⟨c,d,⟨⟩⟩:=y
  simp only [Prod.mk.injEq,and_true] at e1 e2 ⊢
  omega
def lstB (n:Nat) (h:Nat→T_Bar):List T_Bar:=(List.range n).map h
def srtL (l:List T_Bar):List T_Bar:=l.mergeSort fun x y=>!(ltOf cmpB) y x
def srtB (n:Nat) (h:Nat→T_Bar) (i:Nat):T_Bar:=(srtL (lstB n h)).getD i (0,0,())
theorem encB_len (x:T_Bar):(encB x).length=2:=rfl
theorem encB_one (x:T_Bar):∀ v∈encB x,v.oneCell'=true:=by
  intro v hv
  simp only [encB,List.mem_cons,List.not_mem_nil,or_false] at hv
  rcases hv with rfl | rfl<;>rfl
theorem srtL_len (l:List T_Bar):(srtL l).length=l.length:=by simp [srtL]
theorem lstB_len (n:Nat) (h:Nat→T_Bar):(lstB n h).length=n:=by simp [lstB]
theorem con_sortBars (n:Nat) (h:Nat→T_Bar) (hn:n≤1048576) :
    Con Tryz.prog 312 1 [(0,brOb n h)] [.ar 2 0 0 n,.p (.fn 180)] [(0,brOb n (srtB n h))] (.tup []):=by
  refine ⟨by kernel_rfl,fun w β X vals hX hH hS hd hl ha=>?_⟩
  obtain ⟨v0,v1,rfl⟩:∃ v0 v1,vals = #[v0,v1]:=by
    rcases vals with ⟨l⟩
    match l,hl with
    | [a,b],_=>exact ⟨a,b,rfl⟩
  have h0:VR w β (ow X β [(0,brOb n h)]) (.ar 2 0 0 n) v0:=ha 0 (by simp)
  have h1:VR w β (ow X β [(0,brOb n h)]) (.p (.fn 180)) v1:=ha 1 (by simp)
  have e1:v1=.func (.func 180) #[] #[]:=by
    cases h1 with
    | p _ _ hp=>cases hp;rfl
  subst e1
  have hnil:∀ (w':World) (own:Bool→Nat→Prop),VR w' β own (.tup []) (.tuple #[]):=fun w' own=>.tup [] #[] rfl (fun j hj=>absurd hj (Nat.not_lt_zero _))
  rcases Nat.eq_zero_or_pos n with rfl | hpos
  · obtain ⟨p,cap,rfl⟩:∃ p cap,v0=.slice p 0 cap:=by
      cases h0 with
      | ar0=>exact ⟨_,_,rfl⟩
      | ar=>exact ⟨_,_,rfl⟩
    refine (AnyF.slices_SortFunc_none (P:=Tryz.prog) (ρ:=Tryz.sortBar_ren) { Tryz.sortBar with } p cap _ w).mono ?_
    rintro e w' ⟨rfl,rfl⟩
    refine ⟨_,β,rfl,?_,?_,hnil _ _,?_,fun o a h=>h,fun b' h'=>.inl ?_,fun k h=>.inl h⟩
    · intro o ob hl
      obtain ⟨rfl,rfl⟩:=look_one hl
      rcases hH 0 _ (lk_one _) with ⟨hb,_⟩ | ⟨b,base,cells,el,hβ,hh,_⟩ | hm
      · exact .inl ⟨hb,rfl⟩
      · exact .inr (.inl ⟨b,base,cells,el,hβ,hh,fun i hi=>absurd hi (Nat.not_lt_zero _)⟩)
      · exact absurd hm.2.1 (by simp [brOb])
    · intro o o' ob ob' a a' h1 h2 h3 h4 h5
      obtain ⟨rfl,rfl⟩:=look_one h1
      obtain ⟨rfl,rfl⟩:=look_one h2
      rfl
    · rw [ow_one X β (brOb 0 (srtB 0 h)) (brOb 0 h)]
      exact Ext.refl _ _
    · rw [own_one _ _ _ rfl] at h' ⊢;exact h'
  · cases h0 with
    | ar0=>exact absurd hpos (Nat.lt_irrefl 0)
    | ar _ _ _ _ b base c cells elem fr' hβ hh hsz hc =>
      rcases hH 0 _ (lk_one _) with ⟨hb,_⟩ | ⟨b',base',cells',el',hβ',hh',hrw⟩ | hm
      · rw [hb] at hβ;cases hβ
      · rw [hβ] at hβ'
        injection hβ' with hβ'
        injection hβ' with i1 i2 _
        subst i1;subst i2
        rw [hh] at hh'
        injection hh' with hh'
        injection hh' with i1 i2 i3
        subst i1;subst i2;subst i3
        have hcell:∀ i,i<n→cells[base+(i*2+0)]? = some (.int .i64 (h i).1)∧cells[base+(i*2+1)]? = some (.int .i64 (h i).2.1):=by
          intro i hi
          obtain ⟨u,hu1,hu2,hu3⟩:=hrw i hi 0 (by simp [brOb])
          obtain ⟨u',hu1',hu2',hu3'⟩:=hrw i hi 1 (by simp [brOb])
          have:=vr_int (k:=.i64) (x:=(h i).1) hu3
          subst this
          have:=vr_int (k:=.i64) (x:=(h i).2.1) hu3'
          subst this
          exact ⟨hu1,hu1'⟩
        have hend:base+n*2≤cells.size:=by
          have:=(hcell (n - 1) (by omega)).2
          rcases Nat.lt_or_ge (base+((n - 1)*2+1)) cells.size with h' | h'
          · omega
          · rw [Array.getElem?_eq_none h'] at this;cases this
        have hdz:((lstB n h).toArray).size=n:=by simp [lstB]
        have hdi:∀ i,i<n→((lstB n h).toArray)[i]! = h i:=by
          intro i hi
          rw [getElem!_pos _ i (by rw [hdz];exact hi)]
          simp [lstB]
        have hHK:HoldsK encB 2 w b base (lstB n h).toArray:=by
          intro t ht
          rw [size_flatK,hdz] at ht
          rw [get_flatK _ _ _ _ (by rw [hdz];exact ht),hdi (t / 2) (by omega)]
          have hc:=hcell (t / 2) (by omega)
          rcases Nat.mod_two_eq_zero_or_one t with h2 | h2
          · refine ⟨?_,by simp [World.frozen?,hh]⟩
            rw [h2]
            have:base+t=base+(t / 2*2+0):=by omega
            simp only [World.cell?,hh]
            rw [this,hc.1];rfl
          · refine ⟨?_,by simp [World.frozen?,hh]⟩
            rw [h2]
            have:base+t=base+(t / 2*2+1):=by omega
            simp only [World.cell?,hh]
            rw [this,hc.2];rfl
        have hblk:b<w.heap.size:=by
          rcases Nat.lt_or_ge b w.heap.size with h' | h'
          · exact h'
          · rw [Array.getElem?_eq_none h'] at hh;cases hh
        have eg:∀ args w,(callFunc 180 args).run Tryz.prog w=.ok (.enter 180 args) w:=enters_of Tryz.func180 (by kernel_rfl) rfl
        have hcmp:CmpLays Tryz.prog 180 #[] encB 2 cmpB b base (lstB n h).toArray.size w:=fun _ _ _ _ x y=>cmp_bars x y _
        have hcon:=AnyQ.slices_SortFunc_total Tryz.sortBar 2 Tryz.isAgg121 Tryz.sizeOf121 encB encB_len encB_one cmpB swoB 180 #[] b base c (lstB n h).toArray w eg hcmp hHK hblk (by rw [hdz];omega) totB
        rw [hdz] at hcon
        change Calls Tryz.prog 312 _ _ _ at hcon
        rw [show base+0*2=base by omega]
        refine hcon.mono ?_
        rintro e w' ⟨rfl,q,os,rfl⟩
        refine sW_post (F:=flatK encB 2 (srtL (lstB n h)).toArray) hβ hh hS hend (by rw [size_flatK];simp [srtL_len,lstB_len]) (fun i hi j hj=>?_) (hnil _)
        have hs:((srtL (lstB n h)).toArray).size=n:=by simp [srtL_len,lstB_len]
        have hi2:i*2+j<n*2:=by omega
        rw [get_flatK _ _ _ _ (by rw [hs];exact hi2),show (i*2+j) / 2=i by omega,show (i*2+j) % 2=j by omega]
        have hgi:(srtL (lstB n h)).toArray[i]! = srtB n h i:=by
          rw [getElem!_pos _ i (by rw [hs];exact hi),srtB]
          simp [List.getD_eq_getElem?_getD,List.getElem?_eq_getElem (show i<(srtL (lstB n h)).length by rw [srtL_len,lstB_len];exact hi)]
        rw [hgi]
        rcases (show j=0∨j=1 by omega) with rfl | rfl
        · exact ⟨rfl,fun w' own=>.p _ _ (.int _ _)⟩
        · exact ⟨rfl,fun w' own=>.p _ _ (.int _ _)⟩
      · exact absurd hm.2.1 (by simp [brOb])
def leB (x y:T_Bar):Prop:=ltB y x=false
theorem leB_iff (x y:T_Bar):leB x y↔x.1<y.1∨(x.1=y.1∧x.2.1≤y.2.1):=by
  have h:=ltB_iff y x
  unfold leB
  cases hb:ltB y x with
  | false=>rw [hb] at h;simp only [Bool.false_eq_true,false_iff] at h;simp only [true_iff];omega
  | true=>rw [hb] at h;simp only [true_iff] at h;simp only [Bool.true_eq_false,false_iff];omega
theorem aft_iff (x y:T_Bar):aft x y=true↔leB x y:=by
  rw [leB_iff]
  unfold aft
  by_cases h1:x.1<y.1
  · simp [h1]
  · by_cases h2:x.1=y.1<;>simp [h1,h2]
theorem leB_antisymm (x y:T_Bar) (h1:leB x y) (h2:leB y x):x=y:=totB x y h2 h1
theorem srtL_sorted (l:List T_Bar):(srtL l).Pairwise leB:=by
  have h:=List.pairwise_mergeSort (le:=fun x y=>!(ltOf cmpB) y x) (fun a b c h1 h2=>by
    simp only [Bool.not_eq_true'] at *
    have h1:=(leB_iff a b).1 h1
    have h2:=(leB_iff b c).1 h2
    exact (leB_iff a c).2 (by omega)) (fun a b=>by
    simp only [Bool.or_eq_true,Bool.not_eq_true']
    rcases (show (a.1<b.1∨(a.1=b.1∧a.2.1≤b.2.1))∨(b.1<a.1∨(b.1=a.1∧b.2.1≤a.2.1)) by omega) with h | h
    · exact .inl ((leB_iff a b).2 h)
    · exact .inr ((leB_iff b a).2 h)) l
  exact h.imp (fun {a b} h=>show ltOf cmpB b a=false by simpa using h)
theorem srtL_perm (l:List T_Bar):(srtL l).Perm l:=List.mergeSort_perm l _
theorem srtL_eq {l m:List T_Bar} (hp:m.Perm l) (hs:m.Pairwise leB):m=srtL l :=
  List.Perm.eq_of_pairwise (le:=leB) (fun a b _ _ h1 h2=>leB_antisymm a b h1 h2) hs (srtL_sorted l) (hp.trans (srtL_perm l).symm)
theorem lstB_succ (n:Nat) (h:Nat→T_Bar):lstB (n+1) h=lstB n h++[h n]:=by simp [lstB,List.range_succ]
theorem lstB_congr {n:Nat} {h h':Nat→T_Bar} (he:∀ i,i<n→h i=h' i):lstB n h=lstB n h':=by
  simp only [lstB]
  exact List.map_congr_left (fun a ha=>he a (List.mem_range.1 ha))
theorem lstB_snoc (n:Nat) (h:Nat→T_Bar) (x:T_Bar):lstB (n+1) (snoc n h x)=lstB n h++[x]:=by
  rw [lstB_succ,lstB_congr (h':=h) (fun i hi=>snoc_lt hi),snoc_ge (Nat.lt_irrefl n)]
theorem lstB_inj {n:Nat} {h h':Nat→T_Bar} (he:lstB n h=lstB n h') (i:Nat) (hi:i<n):h i=h' i:=by
  have:(lstB n h)[i]? = (lstB n h')[i]?:=by rw [he]
  simpa [lstB,hi] using this
theorem lstB_srt (n:Nat) (h:Nat→T_Bar):lstB n (srtB n h)=srtL (lstB n h):=by
  refine List.ext_getElem? (fun i=>?_)
  rcases Nat.lt_or_ge i n with hi | hi
  · have:i<(srtL (lstB n h)).length:=by rw [srtL_len,lstB_len];exact hi
    simp only [lstB,List.getElem?_map,List.getElem?_range hi,Option.map_some]
    rw [show srtL (List.map h (List.range n))=srtL (lstB n h) from rfl,List.getElem?_eq_getElem this]
    simp [srtB,List.getD_eq_getElem?_getD,List.getElem?_eq_getElem this]
  · rw [List.getElem?_eq_none (by rw [lstB_len];exact hi),List.getElem?_eq_none (by rw [srtL_len,lstB_len];exact hi)]
theorem insD_list (g:Nat→T_Bar) (x:T_Bar) (nb:Nat) (hs:(lstB nb g).Pairwise leB):∀ i,i≤nb →
    (lstB (insD g x i).2.1 (insD g x i).2.2).Perm (lstB i g++(if (insD g x i).1=true then [x] else [])) ∧
    (lstB (insD g x i).2.1 (insD g x i).2.2).Pairwise leB∧((insD g x i).1=false→(lstB (insD g x i).2.1 (insD g x i).2.2)=lstB i g∧∀ s,s<i→leB (g s) x) ∧
    ((insD g x i).1=true→∀ s,s<nb→i≤s→∀ y∈lstB (insD g x i).2.1 (insD g x i).2.2,leB y (g s)):=by
  have hmono:∀ s s',s<s'→s'<nb→leB (g s) (g s'):=by
    intro s s' h1 h2
    have:=List.pairwise_iff_getElem.1 hs s s' (by rw [lstB_len];omega) (by rw [lstB_len];omega) h1
    simpa [lstB] using this
  have htr:∀ {a b c:T_Bar},leB a b→leB b c→leB a c:=by
    intro a b c h1 h2
    have h1:=(leB_iff a b).1 h1
    have h2:=(leB_iff b c).1 h2
    exact (leB_iff a c).2 (by omega)
  intro i
  induction i with
  | zero=>intro _;exact ⟨by simp [insD,lstB],by simp [insD,lstB],fun _=>⟨rfl,fun s h=>absurd h (Nat.not_lt_zero _)⟩,fun h=>by simp [insD] at h⟩
  | succ i ih =>
    intro hi
    obtain ⟨ih1,ih2,ih3,ih4⟩:=ih (by omega)
    simp only [insD]
    split
    · rename_i ht
      have hf:(insD g x i).1=false:=by
        cases e:(insD g x i).1 with
        | false=>rfl
        | true=>rw [e] at ht;simp at ht
      rw [hf] at ht
      simp only [Bool.not_false,cond_true,Bool.not_eq_true'] at ht
      have hxg:leB x (g i):=by
        have h1:¬ leB (g i) x:=fun h=>by rw [(aft_iff _ _).2 h] at ht;cases ht
        rw [leB_iff] at h1 ⊢
        omega
      obtain ⟨e1,e2⟩:=ih3 hf
      simp only [if_true]
      rw [lstB_snoc,lstB_snoc,e1]
      have hlt:∀ y∈lstB i g,leB y x∧leB y (g i):=by
        intro y hy
        simp only [lstB,List.mem_map,List.mem_range] at hy
        obtain ⟨s,h1,rfl⟩:=hy
        exact ⟨e2 s h1,hmono s i h1 (by omega)⟩
      refine ⟨?_,?_,fun h=>by simp at h,fun _ s hs1 hs2 y hy=>?_⟩
      · rw [lstB_succ,List.append_assoc,List.append_assoc]
        exact List.Perm.append_left _ (List.Perm.swap _ _ _)
      · rw [e1] at ih2
        rw [List.append_assoc,List.pairwise_append]
        refine ⟨ih2,by simp [hxg],fun y hy y' hy'=>?_⟩
        simp only [List.cons_append,List.nil_append,List.mem_cons,List.not_mem_nil,or_false] at hy'
        rcases hy' with rfl | rfl
        · exact (hlt y hy).1
        · exact (hlt y hy).2
      · have his:leB (g i) (g s):=hmono i s (by omega) hs1
        simp only [List.mem_append,List.mem_cons,List.not_mem_nil,or_false] at hy
        rcases hy with (hy | rfl) | rfl
        · exact htr (hlt y hy).2 his
        · exact htr hxg his
        · exact his
    · rename_i ht
      rw [lstB_snoc]
      refine ⟨?_,?_,fun h=>?_,fun h s hs1 hs2 y hy=>?_⟩
      · rw [lstB_succ,List.append_assoc]
        refine (List.Perm.append_right [g i] ih1).trans ?_
        rw [List.append_assoc]
        exact List.Perm.append_left _ List.perm_append_comm
      · rw [List.pairwise_append]
        refine ⟨ih2,by simp,fun y hy y' hy'=>?_⟩
        simp only [List.mem_cons,List.not_mem_nil,or_false] at hy'
        subst hy'
        cases hp:(insD g x i).1 with
        | true=>exact ih4 hp i (by omega) (Nat.le_refl _) y hy
        | false =>
          rw [(ih3 hp).1] at hy
          simp only [lstB,List.mem_map,List.mem_range] at hy
          obtain ⟨s,h1,rfl⟩:=hy
          exact hmono s i h1 (by omega)
      · simp only at h
        obtain ⟨e1,e2⟩:=ih3 h
        refine ⟨by rw [e1,lstB_succ],fun s hs1=>?_⟩
        rcases Nat.lt_or_ge s i with h' | h'
        · exact e2 s h'
        · obtain rfl:s=i:=by omega
          rw [h] at ht
          simp only [Bool.not_false,cond_true,Bool.not_eq_true',Bool.not_eq_false] at ht
          exact (aft_iff _ _).1 ht
      · simp only at h
        simp only [List.mem_append,List.mem_cons,List.not_mem_nil,or_false] at hy
        rcases hy with hy | rfl
        · exact ih4 h s hs1 (by omega) y hy
        · exact hmono i s (by omega) hs1
theorem insR_list (g:Nat→T_Bar) (nb:Nat) (x:T_Bar) (hs:(lstB nb g).Pairwise leB) :
    lstB (insR g nb x).1 (insR g nb x).2=srtL (lstB nb g++[x]):=by
  obtain ⟨h1,h2,h3,h4⟩:=insD_list g x nb hs nb (Nat.le_refl _)
  unfold insR
  split
  · rename_i hp
    rw [if_pos hp] at h1
    exact srtL_eq h1 h2
  · rename_i hp
    have hf:(insD g x nb).1=false:=by simpa using hp
    obtain ⟨e1,e2⟩:=h3 hf
    simp only
    rw [lstB_snoc,e1]
    refine srtL_eq (List.Perm.refl _) ?_
    rw [List.pairwise_append]
    refine ⟨hs,by simp,fun y hy y' hy'=>?_⟩
    simp only [List.mem_cons,List.not_mem_nil,or_false] at hy'
    subst hy'
    simp only [lstB,List.mem_map,List.mem_range] at hy
    obtain ⟨s,h',rfl⟩:=hy
    exact e2 s h'
end Go.Proofs.YtkkjoghiigiokaaGreat.Mach
namespace Go.Proofs.YtkkjoghiigiokaaGreat.Mach
open Go
set_option linter.unusedVariables false
set_option linter.unusedSimpArgs false
def hasI (g:Nat→Int) (x:Int):Nat→Bool
  | 0=>false
  | k+1=>hasI g x k||g k==x
def inL (v:T_IntS):AV:=.p (.seq true 1 v.1 (fun i=>[.int .i64 (v.2 i)]))
def S85 (v:T_IntS) (x:Int) (k:Nat):St :=
  ⟨[inL v,.p (.int .i64 x),.p .any,.p .any,.p .any,.p (.int .i64 k)]++List.replicate 12 anyA,[],0⟩
def S112 (v:T_IntS) (x:Int) (k:Nat):St :=
  ⟨[inL v,.p (.int .i64 x)]++List.replicate 5 anyA++[.p (.int .i64 v.1),.p (.int .i64 k)]++List.replicate 10 anyA,[],0⟩
theorem p85a (v:T_IntS) (x:Int) :
    pieceOb Tryz.prog 0 [rg 1,rg 1,.head] [.code (bodyOf Tryz.f172)] (start Tryz.f172 [] 0 [inL v,.p (.int .i64 x)]) [] 1 (S85 v x 0) =
    some (zf90,[(AN v.1),(AP v.1 (fun i=>[.int .i64 (v.2 i)])),(AI x),((0:Int)=(↑0:Int))]):=by kernel_rfl
theorem p85b (v:T_IntS) (x:Int) (k:Nat) :
    pieceOb Tryz.prog 0 [rg 4,.dec true,rg 6,.dec false,rg 3,.head] zf90 (S85 v x k) [] 1 (S85 v x (k+1)) =
    some (zf90,[((decide ((↑k:Int)<(↑v.1:Int)))=true),(IL 0 (↑k:Int)),(IT (↑k:Int) (↑v.1:Int)),((v.2 k==x)=false),(R0 ((↑k:Int)+1)),(R1 ((↑k:Int)+1)),(AN v.1),(AP v.1 (fun i=>[.int .i64 (v.2 i)])),(AI x),((((↑k:Int)+1):Int)=(↑(k+1):Int))]):=by kernel_rfl
theorem p85c (v:T_IntS) (x:Int) (k:Nat) :
    pathOb Tryz.prog Tryz.f172 0 [rg 4,.dec true,rg 6,.dec true,rg 1] zf90 (S85 v x k) [] 1 [] (.p (.bool true)) =
    some [((decide ((↑k:Int)<(↑v.1:Int)))=true),(IL 0 (↑k:Int)),(IT (↑k:Int) (↑v.1:Int)),((v.2 k==x)=true),(true=true)]:=by kernel_rfl
theorem p85d (v:T_IntS) (x:Int) (k:Nat) :
    pathOb Tryz.prog Tryz.f172 0 [rg 4,.dec false,rg 1] zf90 (S85 v x k) [] 1 [] (.p (.bool false)) =
    some [((decide ((↑k:Int)<(↑v.1:Int)))=false),(false=false)]:=by kernel_rfl
theorem p112a (v:T_IntS) (x:Int) :
    pieceOb Tryz.prog 0 [rg 1,rg 3,.head] [.code (bodyOf Tryz.f292)] (start Tryz.f292 [] 0 [inL v,.p (.int .i64 x)]) [] 1 (S112 v x 0) =
    some (zf91,[(AN v.1),(AP v.1 (fun i=>[.int .i64 (v.2 i)])),(AI x),(AI ((↑v.1:Int))),((0:Int)=(↑0:Int))]):=by kernel_rfl
theorem p112b (v:T_IntS) (x:Int) (k:Nat) :
    pieceOb Tryz.prog 0 [rg 1,.dec true,rg 2,rg 6,.dec false,rg 2,.head] zf91 (S112 v x k) [] 1 (S112 v x (k+1)) =
    some (zf91,[((decide ((↑k:Int)<(↑v.1:Int)))=true),(IL 0 (↑k:Int)),(IT (↑k:Int) (↑v.1:Int)),((x==v.2 k)=false),(R0 ((↑k:Int)+1)),(R1 ((↑k:Int)+1)),(AN v.1),(AP v.1 (fun i=>[.int .i64 (v.2 i)])),(AI x),(AI ((↑v.1:Int))),((((↑k:Int)+1):Int)=(↑(k+1):Int))]):=by kernel_rfl
theorem p112c (v:T_IntS) (x:Int) (k:Nat) :
    pathOb Tryz.prog Tryz.f292 0 [rg 1,.dec true,rg 2,rg 6,.dec true,rg 2] zf91 (S112 v x k) [] 1 [] (.p (.int .i64 k)) =
    some [((decide ((↑k:Int)<(↑v.1:Int)))=true),(IL 0 (↑k:Int)),(IT (↑k:Int) (↑v.1:Int)),((x==v.2 k)=true),(AI ((↑k:Int)))]:=by kernel_rfl
theorem p112d (v:T_IntS) (x:Int) (k:Nat) :
    pathOb Tryz.prog Tryz.f292 0 [rg 1,.dec false,rg 1] zf91 (S112 v x k) [] 1 [] (.p (.int .i64 (-1))) =
    some [((decide ((↑k:Int)<(↑v.1:Int)))=false),(AI ((-1)))]:=by kernel_rfl
theorem p90 (v:T_IntS) (x r:Int) :
    pathOb Tryz.prog Tryz.f184 0 [rg 1,rm [(2,oc [] (.p (.int .i64 r)))] 2] [.code (bodyOf Tryz.f184)] (start Tryz.f184 [] 0 [inL v,.p (.int .i64 x)]) [] 1 [] (.p (.bool (decide (r≥0)))) =
    some [Con Tryz.prog 292 0 [] [.p (.seq true 1 v.1 (fun i=>[.int .i64 (v.2 i)])),.p (.int .i64 x)] [] (.p (.int .i64 r)),((decide (r≥0))=(decide (r≥0)))]:=by kernel_rfl
theorem hasI_hit (g:Nat→Int) (x:Int) (k:Nat) (h:(g k==x)=true):∀ n,k<n→hasI g x n=true
  | 0,h'=>by omega
  | n+1,h'=>by
    by_cases e:k=n
    · subst e;simp [hasI,h]
    · simp [hasI,hasI_hit g x k h n (by omega)]
theorem con_l2Has (v:T_IntS) (x:Int) (hn:v.1≤1048576):Con Tryz.prog 172 0 [] [inL v,.p (.int .i64 x)] [] (.p (.bool (hasI v.2 x v.1))):=by
  refine con_start Tryz.func172 rfl (by kernel_rfl) rfl (fun c hc=>?_)
  have lp:∀ m k,k+m=v.1→hasI v.2 x k=false→Run Tryz.prog c 172 zf90 (S85 v x k) (Post c [] (.p (.bool (hasI v.2 x v.1)))):=by
    intro m
    induction m with
    | zero =>
      intro k hk hg
      rw [show hasI v.2 x v.1=false by rw [show v.1=k by omega];exact hg]
      have hd:decide ((k:Int)<(v.1:Int))=false:=by simp;omega
      refine path_ok mixed Tryz.func172 hc (p85d v x k) ?_
      repeat' (first | exact aN | apply aI)
      all_goals (first | omega | rfl | (intros;first | assumption | exact trivial | rfl | exact fT ‹_› | ((repeat' (first | assumption | apply anda | apply notf));done)))
    | succ m ih =>
      intro k hk hg
      have hd:decide ((k:Int)<(v.1:Int))=true:=by simp;omega
      cases he:(v.2 k==x) with
      | true =>
        rw [hasI_hit v.2 x k he v.1 (by omega)]
        refine path_ok mixed Tryz.func172 hc (p85c v x k) ?_
        repeat' (first | exact aN | apply aI)
        all_goals (first | omega | rfl | (intros;first | assumption | exact trivial | rfl | exact fT ‹_› | ((repeat' (first | assumption | apply anda | apply notf));done)) | (exact he))
      | false =>
        refine piece_ok mixed hc (p85b v x k) ?_ (ih (k+1) (by omega) (by simp only [hasI,hg,he];rfl))
        repeat' (first | exact aN | apply aI)
        all_goals (first | exact aP _ _ | omega | rfl | (intros;first | assumption | exact trivial | rfl | exact fT ‹_› | ((repeat' (first | assumption | apply anda | apply notf));done)) | (exact he))
  refine piece_ok mixed hc (p85a v x) ?_ (lp v.1 0 (by omega) rfl)
  repeat' (first | exact aN | apply aI)
  all_goals (first | exact aP _ _ | omega | rfl | (intros;first | assumption | exact trivial | rfl | exact fT ‹_› | ((repeat' (first | assumption | apply anda | apply notf));done)))
theorem con_Index (v:T_IntS) (x:Int) (hn:v.1≤1048576):∃ r:Int,decide (r≥0)=hasI v.2 x v.1∧Con Tryz.prog 292 0 [] [inL v,.p (.int .i64 x)] [] (.p (.int .i64 r)):=by
  have key:(∃ k,k<v.1∧hasI v.2 x k=false∧(v.2 k==x)=true)∨hasI v.2 x v.1=false:=by
    have gen:∀ n,(∃ k,k<n∧hasI v.2 x k=false∧(v.2 k==x)=true)∨hasI v.2 x n=false:=by
      intro n
      induction n with
      | zero=>exact .inr rfl
      | succ n ih =>
        rcases ih with ⟨k,h1,h2⟩ | h
        · exact .inl ⟨k,by omega,h2⟩
        · cases he:(v.2 n==x) with
          | true=>exact .inl ⟨n,by omega,h,he⟩
          | false=>exact .inr (by simp only [hasI,h,he];rfl)
    exact gen v.1
  rcases key with ⟨q,hq,hq1,hq2⟩ | hno
  · refine ⟨(q:Int),by rw [hasI_hit v.2 x q hq2 v.1 hq];simp,?_⟩
    refine con_start Tryz.func292 rfl (by kernel_rfl) rfl (fun c hc=>?_)
    have lp:∀ m k,k+m=q→Run Tryz.prog c 292 zf91 (S112 v x k) (Post c [] (.p (.int .i64 (q:Int)))):=by
      intro m
      induction m with
      | zero =>
        intro k hk
        obtain rfl:k=q:=by omega
        have hd:decide ((k:Int)<(v.1:Int))=true:=by simp;omega
        have he:(x==v.2 k)=true:=by rw [beq_iff_eq] at hq2 ⊢;exact hq2.symm
        refine path_ok mixed Tryz.func292 hc (p112c v x k) ?_
        repeat' (first | exact aN | apply aI)
        all_goals (first | omega | rfl | (intros;first | assumption | exact trivial | rfl | exact fT ‹_› | ((repeat' (first | assumption | apply anda | apply notf));done)) | (exact he))
      | succ m ih =>
        intro k hk
        have hd:decide ((k:Int)<(v.1:Int))=true:=by simp;omega
        have he:(x==v.2 k)=false:=by
          cases h:(v.2 k==x) with
          | true=>rw [hasI_hit v.2 x k h q (by omega)] at hq1;cases hq1
          | false =>
            simp only [beq_eq_false_iff_ne,ne_eq] at h ⊢
            exact fun e=>h e.symm
        refine piece_ok mixed hc (p112b v x k) ?_ (ih (k+1) (by omega))
        repeat' (first | exact aN | apply aI)
        all_goals (first | exact aP _ _ | omega | rfl | (intros;first | assumption | exact trivial | rfl | exact fT ‹_› | ((repeat' (first | assumption | apply anda | apply notf));done)) | (exact he))
    refine piece_ok mixed hc (p112a v x) ?_ (lp q 0 (by omega))
    repeat' (first | exact aN | apply aI)
    all_goals (first | exact aP _ _ | omega | rfl | (intros;first | assumption | exact trivial | rfl | exact fT ‹_› | ((repeat' (first | assumption | apply anda | apply notf));done)))
  · refine ⟨-1,by rw [hno];rfl,?_⟩
    refine con_start Tryz.func292 rfl (by kernel_rfl) rfl (fun c hc=>?_)
    have lp:∀ m k,k+m=v.1→Run Tryz.prog c 292 zf91 (S112 v x k) (Post c [] (.p (.int .i64 (-1)))):=by
      intro m
      induction m with
      | zero =>
        intro k hk
        have hd:decide ((k:Int)<(v.1:Int))=false:=by simp;omega
        refine path_ok mixed Tryz.func292 hc (p112d v x k) ?_
        repeat' (first | exact aN | apply aI)
        all_goals (first | omega | rfl | (intros;first | assumption | exact trivial | rfl | exact fT ‹_› | ((repeat' (first | assumption | apply anda | apply notf));done)))
      | succ m ih =>
        intro k hk
        have hd:decide ((k:Int)<(v.1:Int))=true:=by simp;omega
        have he:(x==v.2 k)=false:=by
          cases h:(v.2 k==x) with
          | true=>rw [hasI_hit v.2 x k h v.1 (by omega)] at hno;cases hno
          | false =>
            simp only [beq_eq_false_iff_ne,ne_eq] at h ⊢
            exact fun e=>h e.symm
        refine piece_ok mixed hc (p112b v x k) ?_ (ih (k+1) (by omega))
        repeat' (first | exact aN | apply aI)
        all_goals (first | exact aP _ _ | omega | rfl | (intros;first | assumption | exact trivial | rfl | exact fT ‹_› | ((repeat' (first | assumption | apply anda | apply notf));done)) | (exact he))
    refine piece_ok mixed hc (p112a v x) ?_ (lp v.1 0 (by omega))
    repeat' (first | exact aN | apply aI)
    all_goals (first | exact aP _ _ | omega | rfl | (intros;first | assumption | exact trivial | rfl | exact fT ‹_› | ((repeat' (first | assumption | apply anda | apply notf));done)))
theorem con_Contains (v:T_IntS) (x:Int) (hn:v.1≤1048576):Con Tryz.prog 184 0 [] [inL v,.p (.int .i64 x)] [] (.p (.bool (hasI v.2 x v.1))):=by
  obtain ⟨r,hr,hcon⟩:=con_Index v x hn
  rw [← hr]
  refine con_start Tryz.func184 rfl (by kernel_rfl) rfl (fun c hc=>?_)
  refine path_ok mixed Tryz.func184 hc (p90 v x r) ?_
  repeat' (first | exact aN | apply aI)
  all_goals (first | omega | rfl | (intros;first | assumption | exact trivial | rfl | exact fT ‹_› | ((repeat' (first | assumption | apply anda | apply notf));done)) | (exact hcon))
end Go.Proofs.YtkkjoghiigiokaaGreat.Mach
namespace Go.Proofs.YtkkjoghiigiokaaGreat.Mach
open Go Go.Sort
set_option linter.unusedVariables false
set_option linter.unusedSimpArgs false
def brX (a b:Int):T_Bar:=(if b<a then b else a,if b>a then b else a,())
theorem graph_inR {v:T_Graph} (h:isGraphF v=true):1≤v.1∧v.1≤8∧v.2.1.1≤24∧goodB v.1 v.2.1.2 v.2.1.1=true:=by
  unfold isGraphF at h
  split at h
  · rename_i h1
    simp only [inB,Bool.and_eq_true,decide_eq_true_eq] at h1
    exact ⟨h1.1.1,h1.1.2,h1.2,h⟩
  · cases h
theorem goodB_at {N:Int} {g:Nat→T_Bar}:∀ {n:Nat},goodB N g n=true→∀ k,k<n→0≤(g k).1∧(g k).1<(g k).2.1∧(g k).2.1<N∧(0<k→leB (g (k - 1)) (g k))
  | 0,_,k,hk=>absurd hk (Nat.not_lt_zero _)
  | n+1,h,k,hk=>by
    simp only [goodB,Bool.and_eq_true,Bool.not_eq_true'] at h
    by_cases e:k=n
    · subst e
      have h2:=h.2
      unfold badB at h2
      by_cases c1:(g k).1<0
      · simp [c1] at h2
      by_cases c2:(g k).1≥(g k).2.1
      · simp [c1,c2] at h2
      by_cases c3:(g k).2.1≥N
      · simp [c1,c2,c3] at h2
      refine ⟨by omega,by omega,by omega,fun h0=>?_⟩
      simp only [c1,c2,c3,decide_false,cond_false] at h2
      rw [decide_eq_true (show (k:Int)>0 by omega)] at h2
      simp only [cond_true,Bool.not_eq_false'] at h2
      rw [← aft_iff]
      rw [show ((k:Int) - 1).toNat=k - 1 by omega] at h2
      exact h2
    · exact goodB_at h.1 k (by omega)
theorem goodB_sorted {N:Int} {g:Nat→T_Bar} {n:Nat} (h:goodB N g n=true):(lstB n g).Pairwise leB:=by
  have step:=goodB_at h
  have htr:∀ {a b c:T_Bar},leB a b→leB b c→leB a c:=by
    intro a b c h1 h2
    have h1:=(leB_iff a b).1 h1
    have h2:=(leB_iff b c).1 h2
    exact (leB_iff a c).2 (by omega)
  have mono:∀ d i,i+d<n→leB (g i) (g (i+d)):=by
    intro d
    induction d with
    | zero=>intro i hi;show leB (g i) (g i);exact (leB_iff _ _).2 (by omega)
    | succ d ih=>intro i hi;exact htr (ih i (by omega)) ((step (i+(d+1)) hi).2.2.2 (by omega))
  rw [List.pairwise_iff_getElem]
  intro i j hi hj hij
  rw [lstB_len] at hi hj
  have:=mono (j - i) i (by omega)
  rw [show i+(j - i)=j by omega] at this
  simpa [lstB] using this
end Go.Proofs.YtkkjoghiigiokaaGreat.Mach
namespace Go.Proofs.YtkkjoghiigiokaaGreat.Mach
open Go
set_option linter.unusedVariables false
set_option linter.unusedSimpArgs false
def snocI (n:Nat) (f:Nat→Int) (p:Int) (s:Nat):Int:=if s<n then f s else p
theorem rIs (g g':Nat→T_Bar) (nb nb' N:Nat) (a b:Int) (r1 r0:Nat) :
    pathOb Tryz.prog Tryz.f286 0 [rg 2,rm [(1,oc [] (.p (.bool true)))] 21,.dec false,rm [(8,oc [(0,brOb nb' g')] (.agg [.p (.int .i64 N),.ar 2 0 0 nb']))] 2,rm [(5,oc [] (.p (.int .i64 r1))),(1,oc [] (.p (.int .i64 r0)))] 3] [.code (bodyOf Tryz.f286)] (start Tryz.f286 [] 0 [grG g nb N,.p (.int .i64 a),.p (.int .i64 b)]) [] 1 [] (.p (.bool (bif a==b then true else (r1:Int)==(r0:Int)))) =
    some [(NT 0 1),Con Tryz.prog 53 0 [] [(zf110 N nb g)] [] (.p (.bool true)),(AG (!!true)),(((!true)=false)→ ((!!true)=true)),(AG (!bif !true then true else decide (a<0))),(((bif !true then true else decide (a<0))=false)→ ((!bif !true then true else decide (a<0))=true)),(AG (!bif bif !true then true else decide (a<0) then true else decide (b<0))),(((!bif bif !true then true else decide (a<0) then true else decide (b<0))=true)→(NT 0 1)),(AG (!bif bif !true then true else decide (a<0) then true else decide (b<0))),(AG (!bif bif !true then true else decide (a<0) then true else decide (b<0))),(((bif bif !true then true else decide (a<0) then true else decide (b<0))=false)→ ((!bif bif !true then true else decide (a<0) then true else decide (b<0))=true)),(AG (!bif bif bif !true then true else decide (a<0) then true else decide (b<0) then true else decide (a≥(↑N:Int)))),(((!bif bif bif !true then true else decide (a<0) then true else decide (b<0) then true else decide (a≥(↑N:Int)))=true)→(NT 0 1)),(AG (!bif bif bif !true then true else decide (a<0) then true else decide (b<0) then true else decide (a≥(↑N:Int)))),(AG (!bif bif bif !true then true else decide (a<0) then true else decide (b<0) then true else decide (a≥(↑N:Int)))),(((bif bif bif !true then true else decide (a<0) then true else decide (b<0) then true else decide (a≥(↑N:Int)))=false)→ ((!bif bif bif !true then true else decide (a<0) then true else decide (b<0) then true else decide (a≥(↑N:Int)))=true)),((bif bif bif bif !true then true else decide (a<0) then true else decide (b<0) then true else decide (a≥(↑N:Int)) then true else decide (b≥(↑N:Int)))=false),(NT 0 1),Con Tryz.prog 216 0 [] [(zf110 N nb g),.agg [.p (.int .i64 (if false=true then if b>a then b else a else if b<a then b else a)),.p (.int .i64 (if true=true then if b>a then b else a else if b<a then b else a))]] (zf119 nb' g') (.agg [.p (.int .i64 (↑N:Int)),.ar 2 0 0 nb']),(NT 0 1),((true=true)→ (AN 1)),(((!a==b)=true)→(NT 0 1)),(AG (!a==b)),(((!a==b)=true)→ (AN 2)),(((!a==b)=true)→(NL (nb') (nb'))),(((!a==b)=true)→ Con Tryz.prog 342 0 [] [(zf110 N nb' g')] [] (.p (.int .i64 (↑r1:Int)))),(((!a==b)=true)→(NT 0 1)),(AG (!a==b)),(((!a==b)=true)→ Con Tryz.prog 342 0 [] [(zf110 N nb g)] [] (.p (.int .i64 (↑r0:Int)))),(AG (!a==b)),(AG (!a==b)),(((a==b)=false)→ ((!a==b)=true)),((bif a==b then true else (↑r1:Int)==(↑r0:Int))=(bif a==b then true else (↑r1:Int)==(↑r0:Int)))]:=by kernel_rfl
theorem rRank (g:Nat→T_Bar) (nb N m:Nat) (F T Q:Nat→Int) :
    pathOb Tryz.prog Tryz.f360 0 [rg 1,rm [(2,oc (pebR N m F T Q) (pebO N m 0))] 3] [.code (bodyOf Tryz.f360)] (start Tryz.f360 [] 0 [.p (.int .i64 N),brL g nb]) [] 1 [] (.p (.int .i64 m)) =
    some [Con Tryz.prog 293 0 [] [.p (.int .i64 (↑N:Int)),.p (.seq true 2 nb (fun i=>[.int .i64 ((g i).1),.int .i64 ((g i).2.1)])),.p (.int .i64 2),.p (.int .i64 3)] (zf45 N F m T Q) (.agg [.ar 1 0 0 N,.ar 1 1 0 m,.ar 1 2 0 m]),(AI ((↑m:Int)))]:=by kernel_rfl
theorem rRaise (g:Nat→T_Bar) (nb N:Nat) (x:T_Bar) (r1 r0:Nat) :
    pathOb Tryz.prog Tryz.f327 0 [rg 2,rm [(7,oc [] (.p (.int .i64 r1))),(2,oc [] (.p (.int .i64 r0)))] 2] [.code (bodyOf Tryz.f327)] (start Tryz.f327 [] 0 [.p (.int .i64 N),brL g nb,brA x]) [] 1 [] (.p (.bool (decide ((r1:Int)>(r0:Int))))) =
    some [(NL 0 0),(NL ((0+nb)*16) 140737488355328),(NL (0+nb) 9223372036854775807),(NT 0 1),(NL 1 1),(NL (0+nb) (0+nb)),(NL ((0+nb+1)*16) 140737488355328),(NL (0+nb+1) 9223372036854775807),(AN 2),(NL (0+nb+1) (0+nb+1)),Con Tryz.prog 360 0 [] [.p (.int .i64 (↑N:Int)),.p (.seq true 2 (0+nb+1) (fun i=>[(cellP true (if (i<0+nb) then [.p (.int .i64 ((g i).1)),.p (.int .i64 ((g i).2.1))] else [.p (.int .i64 x.1),.p (.int .i64 x.2.1)]) 0),(cellP true (if (i<0+nb) then [.p (.int .i64 ((g i).1)),.p (.int .i64 ((g i).2.1))] else [.p (.int .i64 x.1),.p (.int .i64 x.2.1)]) 1)]))] [] (.p (.int .i64 (↑r1:Int))),Con Tryz.prog 360 0 [] [.p (.int .i64 (↑N:Int)),.p (.seq true 2 nb (fun i=>[.int .i64 ((g i).1),.int .i64 ((g i).2.1)]))] [] (.p (.int .i64 (↑r0:Int))),((decide ((↑r1:Int)>(↑r0:Int)))=(decide ((↑r1:Int)>(↑r0:Int))))]:=by kernel_rfl
def bL (g:Nat→T_Bar):Nat→List (Nat×Nat)
  | 0=>[]
  | n+1=>bL g n++[brN (g n)]
theorem bL_mem (g:Nat→T_Bar) (y:Nat×Nat):∀ n,y∈bL g n↔∃ s,s<n∧brN (g s)=y
  | 0=>by
    constructor
    · intro h;cases h
    · rintro ⟨s,h,_⟩;exact absurd h (Nat.not_lt_zero _)
  | n+1=>by
    simp only [bL,List.mem_append,List.mem_singleton,bL_mem g y n]
    constructor
    · rintro (⟨s,h1,h2⟩ | h)
      · exact ⟨s,by omega,h2⟩
      · exact ⟨n,by omega,h.symm⟩
    · rintro ⟨s,h1,h2⟩
      by_cases e:s=n
      · right;rw [← e];exact h2.symm
      · exact .inl ⟨s,by omega,h2⟩
theorem acc_greedy (N k l:Nat) (g:Nat→T_Bar):∀ n,(accI N k l g n).map (fun i=>brN (g i))=Mat.greedy N k l [] (bL g n)
  | 0=>rfl
  | n+1=>by
    have ih:=acc_greedy N k l g n
    simp only [accI,bL,Mat.greedy_append,Mat.greedy]
    rw [← ih]
    split
    · rw [List.map_append];rfl
    · rfl
theorem acc_len (N k l:Nat) (g:Nat→T_Bar) (n:Nat):(accI N k l g n).length=(Mat.greedy N k l [] (bL g n)).length:=by
  rw [← acc_greedy,List.length_map]
def OkBars (N nb:Nat) (g:Nat→T_Bar):Prop:=∀ e,e<nb→0≤(g e).1∧(g e).1<(g e).2.1∧(g e).2.1<N
theorem bL_good {N nb:Nat} {g:Nat→T_Bar} (h:OkBars N nb g):∀ x∈bL g nb,Mat.GoodBar N x:=by
  intro x hx
  obtain ⟨s,h1,h2⟩:=(bL_mem g x nb).1 hx
  have:=h s h1
  rw [← h2]
  simp only [Mat.GoodBar,brN]
  omega
theorem acc_same {N n n':Nat} {g g':Nat→T_Bar} (h:OkBars N n g) (hm:∀ y,(∃ s,s<n∧g s=y)↔∃ s,s<n'∧g' s=y):(accI N 2 3 g n).length=(accI N 2 3 g' n').length:=by
  rw [acc_len,acc_len]
  refine Mat.rank_same _ _ (bL_good h) (fun x=>?_)
  rw [bL_mem,bL_mem]
  constructor
  · rintro ⟨s,h1,h2⟩
    obtain ⟨t,h3,h4⟩:=(hm (g s)).1 ⟨s,h1,rfl⟩
    exact ⟨t,h3,by rw [h4,h2]⟩
  · rintro ⟨s,h1,h2⟩
    obtain ⟨t,h3,h4⟩:=(hm (g' s)).2 ⟨s,h1,rfl⟩
    exact ⟨t,h3,by rw [h4,h2]⟩
theorem acc_congr (N k l:Nat) {g g':Nat→T_Bar}:∀ n,(∀ i,i<n→g i=g' i)→accI N k l g n=accI N k l g' n
  | 0,_=>rfl
  | n+1,h=>by
    have ih:=acc_congr N k l n (fun i hi=>h i (by omega))
    have hb:(accI N k l g n).map (fun i=>brN (g i))=(accI N k l g' n).map (fun i=>brN (g' i)):=by
      rw [ih]
      refine List.map_congr_left (fun i hi=>?_)
      rw [h i (by
        have:∀ n,∀ i∈accI N k l g' n,i<n:=by
          intro n
          induction n with
          | zero=>intro i hi;cases hi
          | succ n ih2 =>
            intro i hi
            simp only [accI] at hi
            split at hi
            · rcases List.mem_append.1 hi with h | h
              · have:=ih2 i h;omega
              · rw [List.mem_singleton] at h;omega
            · have:=ih2 i hi;omega
        have:=this n i hi
        omega)]
    simp only [accI]
    rw [hb,h n (by omega),ih]
theorem acc_mono (N k l:Nat) (g:Nat→T_Bar) (n:Nat):(accI N k l g n).length≤(accI N k l g (n+1)).length:=by
  simp only [accI]
  split
  · simp
  · exact Nat.le_refl _
theorem con_planeRank {N nb:Nat} {g:Nat→T_Bar} (hb:OkBars N nb g) (hN:N≤1048576) (hnb:nb≤1048576):Con Tryz.prog 360 0 [] [.p (.int .i64 N),brL g nb] [] (.p (.int .i64 ((accI N 2 3 g nb).length:Nat))):=by
  obtain ⟨m,F,T,Q,hc1,hp,hq⟩:=con_play (N:=N) (k:=2) (l:=3) hb (by omega) (by omega) hN hnb
  rw [← hq,qL_length]
  refine con_start Tryz.func360 rfl (by kernel_rfl) rfl (fun c hc=>?_)
  refine path_ok mixed Tryz.func360 hc (rRank g nb N m F T Q) ?_
  repeat' (first | exact aN | apply aI)
  all_goals (first | omega | rfl | (intros;first | assumption | exact trivial | rfl | exact fT ‹_› | ((repeat' (first | assumption | apply anda | apply notf));done)) | (exact hc1) | (intro i hi;simp [All]))
theorem ok_snoc {N nb:Nat} {g:Nat→T_Bar} {x:T_Bar} (hb:OkBars N nb g) (hx:0≤x.1∧x.1<x.2.1∧x.2.1<N):OkBars N (nb+1) (snoc nb g x):=by
  intro e he
  by_cases h:e<nb
  · rw [snoc_lt h];exact hb e h
  · rw [snoc_ge h];exact hx
theorem con_raises {N nb:Nat} {g:Nat→T_Bar} {x:T_Bar} (hb:OkBars N nb g) (hx:0≤x.1∧x.1<x.2.1∧x.2.1<N) (hN:N≤1048576) (hnb:nb≤1000000) :
    Con Tryz.prog 327 0 [] [.p (.int .i64 N),brL g nb,brA x] [] (.p (.bool (decide (((accI N 2 3 (snoc nb g x) (nb+1)).length:Int)>((accI N 2 3 g nb).length:Int))))):=by
  have h0:=con_planeRank hb hN (by omega)
  have h1:=con_planeRank (ok_snoc hb hx) hN (by omega)
  refine con_start Tryz.func327 rfl (by kernel_rfl) rfl (fun c hc=>?_)
  refine path_ok mixed Tryz.func327 hc (rRaise g nb N x _ _) ?_
  repeat' (first | exact aN | apply aI)
  all_goals (first | omega | rfl | (intros;first | assumption | exact trivial | rfl | exact fT ‹_› | ((repeat' (first | assumption | apply anda | apply notf));done)) | (exact h0) | (refine Con.arg_ext h1 ?_;simp only [brL,wkL,wk,wkP,beq_self_eq_true,Bool.and_self,if_true,ikEq,List.append_nil,List.cons_append,List.nil_append,All];refine ⟨trivial,by omega,fun i hi=>?_,trivial⟩;simp only [Nat.zero_add];by_cases h:i<nb<;>simp [h,cellP,tg,tru,snoc]))
noncomputable def impB (N nb:Nat) (g:Nat→T_Bar) (a b:Int):Bool :=
  bif a==b then true else (((accI N 2 3 (snoc nb g (brX a b)) (nb+1)).length:Nat):Int)==(((accI N 2 3 g nb).length:Nat):Int)
theorem brX_ok {N:Nat} {a b:Int} (ha:0≤a∧a<N) (hb:0≤b∧b<N) (hab:a≠b):0≤(brX a b).1∧(brX a b).1<(brX a b).2.1∧(brX a b).2.1<N:=by
  simp only [brX]
  by_cases h:b<a
  · rw [if_pos h,if_neg (by omega)];omega
  · rw [if_neg h,if_pos (by omega)];omega
theorem con_IsImplied_s {N nb:Nat} {g:Nat→T_Bar} (hg:isGraphF ((N:Int),(nb,g),())=true) (hok:OkBars N nb g) (hN:1≤N∧N≤8) (hnb:nb≤24) {a b:Int} (ha:0≤a∧a<N) (hb:0≤b∧b<N) :
    Con Tryz.prog 286 0 [] [grG g nb N,.p (.int .i64 a),.p (.int .i64 b)] [] (.p (.bool (impB N nb g a b))):=by
  have hsm:smS s_Graph ((N:Int),(nb,g),()):=⟨by simp [smS,smL],⟨by show nb≤1048576;omega,fun i hi=>by simp [smS,smL]⟩,True.intro⟩
  have hcg:=con_IsGraph_s ((N:Int),(nb,g),()) hsm
  rw [hg] at hcg
  have hp:=con_l2Put g nb N (brX a b) (by omega)
  have hr0:=con_l6Rank hok hN (by omega)
  have hr1:a≠b→Con Tryz.prog 342 0 [] [grG (insR g nb (brX a b)).2 (insR g nb (brX a b)).1 N] [] (.p (.int .i64 ((accI N 2 3 (snoc nb g (brX a b)) (nb+1)).length:Nat))):=by
    intro hab
    have hx:=brX_ok ha hb hab
    have hm:∀ y,(∃ s,s<(insR g nb (brX a b)).1∧(insR g nb (brX a b)).2 s=y)↔∃ s,s<nb+1∧snoc nb g (brX a b) s=y:=fun y=>by rw [insR_mem,snoc_mem]
    have hok':OkBars N (insR g nb (brX a b)).1 (insR g nb (brX a b)).2:=by
      intro e he
      obtain ⟨s,h1,h2⟩:=(hm _).1 ⟨e,he,rfl⟩
      rw [← h2]
      exact ok_snoc hok hx s h1
    rw [← acc_same hok' hm]
    exact con_l6Rank hok' hN (by rw [insR_n];omega)
  refine con_start Tryz.func286 rfl (by kernel_rfl) rfl (fun c hc=>?_)
  have hcond:(bif bif bif bif !true then true else decide (a<0) then true else decide (b<0) then true else decide (a≥(N:Int)) then true else decide (b≥(N:Int)))=false:=by
    have h1:¬ a<0:=by omega
    have h2:¬ b<0:=by omega
    have h3:¬ (N:Int)≤a:=by omega
    have h4:¬ (N:Int)≤b:=by omega
    simp [h1,h2,h3,h4]
  refine path_ok mixed Tryz.func286 hc (rIs g (insR g nb (brX a b)).2 nb (insR g nb (brX a b)).1 N a b (accI N 2 3 (snoc nb g (brX a b)) (nb+1)).length (accI N 2 3 g nb).length) ?_
  repeat' (first | exact aN | apply aI)
  all_goals (first | exact aG _ | omega | rfl | (intros;first | assumption | exact trivial | rfl | exact fT ‹_› | ((repeat' (first | assumption | apply anda | apply notf));done)) | (exact hcg) | (exact hcond) | (exact hp) | (intro h;exact hr1 (by simpa using h)) | (intros;exact hr0) | (simp;done))
theorem goodB_in (N:Int) (g:Nat→T_Bar):∀ n,goodB N g n=true→∀ e,e<n→badB N g e=false
  | 0,_,e,he=>by omega
  | n+1,h,e,he=>by
    simp only [goodB,Bool.and_eq_true,Bool.not_eq_true'] at h
    by_cases h':e=n
    · subst h';exact h.2
    · exact goodB_in N g n h.1 e (by omega)
theorem graph_in {N nb:Nat} {g:Nat→T_Bar} (h:isGraphF ((N:Int),(nb,g),())=true):(1≤N∧N≤8)∧nb≤24∧OkBars N nb g:=by
  unfold isGraphF at h
  split at h
  case isFalse=>cases h
  rename_i hc
  obtain ⟨h1,h2⟩:=hc
  simp only [inB,Bool.and_eq_true,decide_eq_true_eq] at h1
  refine ⟨by omega,h2,fun e he=>?_⟩
  have hb:=goodB_in (N:Int) g nb h e he
  unfold badB at hb
  by_cases a1:(g e).1<0
  · simp [a1] at hb
  by_cases a2:(g e).1≥(g e).2.1
  · simp [a2] at hb
  by_cases a3:(g e).2.1≥(N:Int)
  · simp [a3] at hb
  omega
theorem graph_cases (v:T_Graph) (h:isGraphF v=true):∃ (N nb:Nat) (g:Nat→T_Bar),v=((N:Int),(nb,g),()):=by
  obtain ⟨v1,⟨nb,g⟩,⟨⟩⟩:=v
  have h1:0≤v1:=by
    unfold isGraphF at h
    split at h
    · rename_i hc
      have:=hc.1
      simp [inB] at this
      omega
    · cases h
  exact ⟨v1.toNat,nb,g,by rw [Int.toNat_of_nonneg h1]⟩
end Go.Proofs.YtkkjoghiigiokaaGreat.Mach
namespace Go.Proofs.YtkkjoghiigiokaaGreat.Mach
open Go
set_option linter.unusedVariables false
set_option linter.unusedSimpArgs false
theorem aft_or (a b:T_Bar):aft a b=true↔a.1<b.1∨(a.1=b.1∧a.2.1≤b.2.1):=by
  unfold aft
  by_cases h1:a.1<b.1
  · simp [h1]
  · by_cases h2:a.1=b.1
    · simp [h2]
    · have:(a.1==b.1)=false:=beq_eq_false_iff_ne.2 h2
      simp [h1,h2]
def AscB (n:Nat) (h:Nat→T_Bar):Prop:=∀ s,s+1<n→aft (h s) (h (s+1))=true
theorem ascB_snoc {n:Nat} {h:Nat→T_Bar} {x:T_Bar} (ha:AscB n h) (hx:0<n→aft (h (n - 1)) x=true):AscB (n+1) (snoc n h x):=by
  intro s hs
  rw [snoc_lt (show s<n by omega)]
  by_cases h1:s+1<n
  · rw [snoc_lt h1];exact ha s h1
  · obtain rfl:n=s+1:=by omega
    rw [snoc_ge (Nat.lt_irrefl _)]
    exact hx (by omega)
theorem isG_of {N nb:Nat} {g:Nat→T_Bar} (hN:1≤N∧N≤8) (hnb:nb≤24) (hok:OkBars N nb g) (ha:AscB nb g):isGraphF ((N:Int),(nb,g),())=true:=by
  have hgood:∀ k,k≤nb→goodB (N:Int) g k=true:=by
    intro k
    induction k with
    | zero=>intro _;rfl
    | succ k ih =>
      intro hk
      rw [goodB,ih (by omega),Bool.true_and,Bool.not_eq_true']
      have hb:=hok k (by omega)
      have a1:decide ((g k).1<0)=false:=decide_eq_false (by omega)
      have a2:decide ((g k).1≥(g k).2.1)=false:=decide_eq_false (by omega)
      have a3:decide ((g k).2.1≥(N:Int))=false:=decide_eq_false (by omega)
      unfold badB
      rw [a1,a2,a3]
      simp only [cond_false]
      by_cases h0:k=0
      · subst h0;rfl
      · have:=ha (k - 1) (by omega)
        rw [show k - 1+1=k by omega] at this
        rw [show ((k:Int) - 1).toNat=k - 1 by omega,this]
        cases decide ((k:Int)>0)<;>rfl
  have hin:inB (N:Int) 1 8=true:=by simp [inB];omega
  rw [isGraphF,if_pos ⟨hin,hnb⟩]
  exact hgood nb (Nat.le_refl _)
theorem bad_parts {N:Int} {g:Nat→T_Bar} {k:Nat} (h:badB N g k=false):0≤(g k).1∧(g k).1<(g k).2.1∧(g k).2.1<N∧(0<k→aft (g (k - 1)) (g k)=true):=by
  unfold badB at h
  by_cases h1:(g k).1<0
  · rw [decide_eq_true h1] at h;cases h
  by_cases h2:(g k).1≥(g k).2.1
  · rw [decide_eq_false h1,decide_eq_true h2] at h;cases h
  by_cases h3:(g k).2.1≥N
  · rw [decide_eq_false h1,decide_eq_false h2,decide_eq_true h3] at h;cases h
  rw [decide_eq_false h1,decide_eq_false h2,decide_eq_false h3] at h
  refine ⟨by omega,by omega,by omega,fun hk=>?_⟩
  rw [decide_eq_true (show (k:Int)>0 by omega)] at h
  rw [show ((k:Int) - 1).toNat=k - 1 by omega] at h
  simpa using h
theorem asc_of {N nb:Nat} {g:Nat→T_Bar} (hg:isGraphF ((N:Int),(nb,g),())=true):AscB nb g:=by
  have h:=(graph_inR hg).2.2.2
  intro s hs
  have:=(bad_parts (goodB_in (N:Int) g nb h (s+1) hs)).2.2.2 (by omega)
  rwa [show s+1 - 1=s by omega] at this
theorem aft_trans {a b c:T_Bar} (h1:aft a b=true) (h2:aft b c=true):aft a c=true:=by
  rw [aft_or] at *
  omega
theorem asc_steps {n:Nat} {g:Nat→T_Bar} (h:AscB n g):∀ d i,i+(d+1)<n→aft (g i) (g (i+(d+1)))=true
  | 0,i,hi=>h i hi
  | d+1,i,hi=>aft_trans (asc_steps h d i (by omega)) (h (i+(d+1)) (by omega))
theorem asc_lt {n:Nat} {g:Nat→T_Bar} (h:AscB n g) {i j:Nat} (hij:i<j) (hj:j<n):aft (g i) (g j)=true:=by
  have:=asc_steps h (j - i - 1) i (by omega)
  rwa [show i+(j - i - 1+1)=j by omega] at this
end Go.Proofs.YtkkjoghiigiokaaGreat.Mach
namespace Go.Proofs.YtkkjoghiigiokaaGreat.Mach
open Go
set_option linter.unusedVariables false
set_option linter.unusedSimpArgs false
def hasV (x:T_Bar) (v:Int):Bool:=bif x.1==v then true else x.2.1==v
def nrD (g:Nat→T_Bar) (v:Int):Nat→T_IntS
  | 0=>(0,fun _=>0)
  | k+1=>if hasV (g k) v=true then ((nrD g v k).1+1,fun s=>if s<(nrD g v k).1 then (nrD g v k).2 s else othF (g k) v) else nrD g v k
def drD (g:Nat→T_Bar) (v:Int):Nat→NB
  | 0=>zNB
  | k+1=>if hasV (g k) v=true then drD g v k else sn (drD g v k) (g k)
theorem nrD_n (g:Nat→T_Bar) (v:Int):∀ k,(nrD g v k).1+(drD g v k).1=k
  | 0=>rfl
  | k+1=>by
    have:=nrD_n g v k
    simp only [nrD,drD]
    split
    · show (nrD g v k).1+1+_=_;omega
    · simp only [sn];omega
theorem hasV_iff (x:T_Bar) (v:Int):hasV x v=true↔x.1=v∨x.2.1=v:=by
  unfold hasV
  by_cases h:x.1=v
  · have e:(x.1==v)=true:=beq_iff_eq.2 h
    simp [e,h]
  · have e:(x.1==v)=false:=beq_eq_false_iff_ne.2 h
    simp [e,h]
theorem oth_le {a b:T_Bar} {v:Int} (ha:a.1<a.2.1) (hb:b.1<b.2.1) (h:aft a b=true) (h1:hasV a v=true) (h2:hasV b v=true):othF a v≤othF b v:=by
  rw [hasV_iff] at h1 h2
  rw [aft_or] at h
  unfold othF
  split<;>split<;>omega
theorem nrD_in {N nb:Nat} {g:Nat→T_Bar} (v:Int) (hok:OkBars N nb g) (ha:AscB nb g):∀ k,k≤nb →
    (∀ s,s<(nrD g v k).1→∃ j,j<k∧hasV (g j) v=true∧(nrD g v k).2 s=othF (g j) v)∧∀ s t,s<t→t<(nrD g v k).1→(nrD g v k).2 s≤(nrD g v k).2 t
  | 0,_=>⟨fun s hs=>absurd hs (Nat.not_lt_zero _),fun s t _ ht=>absurd ht (Nat.not_lt_zero _)⟩
  | k+1,hk=>by
    obtain ⟨h1,h2⟩:=nrD_in v hok ha k (by omega)
    by_cases hh:hasV (g k) v=true
    · rw [show nrD g v (k+1)=((nrD g v k).1+1,fun s=>if s<(nrD g v k).1 then (nrD g v k).2 s else othF (g k) v) by simp [nrD,hh]]
      refine ⟨fun s hs=>?_,fun s t hst ht=>?_⟩
      · simp only at hs ⊢
        by_cases hl:s<(nrD g v k).1
        · obtain ⟨j,g1,g2,g3⟩:=h1 s hl
          exact ⟨j,by omega,g2,by rw [if_pos hl,g3]⟩
        · exact ⟨k,by omega,hh,by rw [if_neg hl]⟩
      · simp only at ht ⊢
        have hs:s<(nrD g v k).1:=by omega
        rw [if_pos hs]
        by_cases hl:t<(nrD g v k).1
        · rw [if_pos hl];exact h2 s t hst hl
        · rw [if_neg hl]
          obtain ⟨j,g1,g2,g3⟩:=h1 s hs
          rw [g3]
          exact oth_le (hok j (by omega)).2.1 (hok k (by omega)).2.1 (asc_lt ha g1 (by omega)) g2 hh
    · have e:hasV (g k) v=false:=by simpa using hh
      rw [show nrD g v (k+1)=nrD g v k by simp [nrD,e]]
      refine ⟨fun s hs=>?_,h2⟩
      obtain ⟨j,g1,g2,g3⟩:=h1 s hs
      exact ⟨j,by omega,g2,g3⟩
theorem drD_in {N nb:Nat} {g:Nat→T_Bar} (v:Int) (hok:OkBars N nb g) (ha:AscB nb g):∀ k,k≤nb →
    (∀ s,s<(drD g v k).1→∃ j,j<k∧(drD g v k).2 s=g j)∧AscB (drD g v k).1 (drD g v k).2
  | 0,_=>⟨fun s hs=>absurd hs (Nat.not_lt_zero _),fun s hs=>absurd hs (Nat.not_lt_zero _)⟩
  | k+1,hk=>by
    obtain ⟨h1,h2⟩:=drD_in v hok ha k (by omega)
    by_cases hh:hasV (g k) v=true
    · rw [show drD g v (k+1)=drD g v k by simp [drD,hh]]
      refine ⟨fun s hs=>?_,h2⟩
      obtain ⟨j,g1,g3⟩:=h1 s hs
      exact ⟨j,by omega,g3⟩
    · have e:hasV (g k) v=false:=by simpa using hh
      rw [show drD g v (k+1)=sn (drD g v k) (g k) by simp [drD,e]]
      refine ⟨fun s hs=>?_,ascB_snoc h2 (fun h0=>?_)⟩
      · by_cases hl:s<(drD g v k).1
        · obtain ⟨j,g1,g3⟩:=h1 s hl
          exact ⟨j,by omega,by show snoc _ _ _ s=_;rw [snoc_lt hl,g3]⟩
        · exact ⟨k,by omega,by show snoc _ _ _ s=_;rw [snoc_ge hl]⟩
      · obtain ⟨j,g1,g3⟩:=h1 ((drD g v k).1 - 1) (by omega)
        rw [g3]
        exact asc_lt ha g1 (by omega)
theorem drD_graph {N nb:Nat} {g:Nat→T_Bar} (hg:isGraphF ((N:Int),(nb,g),())=true) (v:Int):isGraphF ((N:Int),((drD g v nb).1,(drD g v nb).2),())=true:=by
  obtain ⟨h1,h2,h3⟩:=graph_in hg
  obtain ⟨h4,h5⟩:=drD_in v h3 (asc_of hg) nb (Nat.le_refl _)
  have:=nrD_n g v nb
  refine isG_of h1 (by omega) (fun e he=>?_) h5
  obtain ⟨j,h6,h7⟩:=h4 e he
  rw [h7];exact h3 j h6
end Go.Proofs.YtkkjoghiigiokaaGreat.Mach
namespace Go.Proofs
open Go Go.Shelf Go.RowKit Go.Lib Go.Sort
set_option linter.unusedVariables false
set_option linter.unusedSimpArgs false
shelf_lay_g SlLaysM.n5 Slgm 5 at Tryz 276 as Tryz.sortInt
end Go.Proofs
namespace Go.Proofs.YtkkjoghiigiokaaGreat.Mach
open Go Go.Shelf Go.RowKit Go.Lib Go.Sort
set_option linter.unusedVariables false
set_option linter.unusedSimpArgs false
def numOb (n:Nat) (h:Nat→Int):Ob:=⟨false,1,n,fun i=>[.p (.int .i64 (h i))]⟩
def lstI (n:Nat) (h:Nat→Int):List Int:=(List.range n).map h
def srtI (l:List Int):List Int:=l.mergeSort fun x y=>decide (x≤y)
def atI (l:List Int) (i:Nat):Int:=l.getD i 0
theorem lstI_len (n:Nat) (h:Nat→Int):(lstI n h).length=n:=by simp [lstI]
theorem srtI_len (l:List Int):(srtI l).length=l.length:=by simp [srtI]
theorem putRow_id (w:World) (b base:Nat) (l:List Int):putRow (Value.int .i64) w b base l.toArray=putRow id w b base (l.map (Value.int .i64)).toArray:=by
  unfold putRow
  congr 1
  funext c
  unfold putCells
  congr 1
  funext k x
  have e1:l.toArray.size=(l.map (Value.int .i64)).toArray.size:=by simp
  rw [← e1]
  split
  · rename_i h
    have hk:k - base<l.length:=by have:=h.2;simp at this;omega
    rw [getElem!_pos _ _ (by simpa using hk),getElem!_pos _ _ (by simpa using hk)]
    simp
  · rfl
theorem int_cell {w:World} {β:Id→Option Addr} {own:Bool→Nat→Prop} {x:Int} {v:Value} (h:VR w β own (.p (.int .i64 x)) v):v=.int .i64 x:=vr_int h
theorem row_holds {w:World} {β:Id→Option Addr} {own:Bool→Nat→Prop} {n b base:Nat} {h:Nat→Int} {cells:Array Value} {el:TypeId} (hh:w.heap[b]? = some (.cells cells el (0,0)))
    (hrw:∀ i,i<n→∃ v,cells[base+i]? = some v∧One v∧VR w β own (.p (.int .i64 (h i))) v) (hpos:0<n) :
    Holds (Value.int .i64) w b base (lstI n h).toArray∧base+n≤cells.size:=by
  have hcell:∀ i,i<n→cells[base+i]? = some (.int .i64 (h i)):=by
    intro i hi
    obtain ⟨u,hu1,hu2,hu3⟩:=hrw i hi
    have:=int_cell (x:=h i) hu3
    subst this
    exact hu1
  refine ⟨fun t ht=>?_,?_⟩
  · have ht':t<n:=by simpa [lstI] using ht
    refine ⟨?_,by simp [World.frozen?,hh]⟩
    simp only [World.cell?,hh]
    rw [hcell t ht',getElem!_pos (lstI n h).toArray t ht]
    simp [lstI]
  · have:=hcell (n - 1) (by omega)
    rcases Nat.lt_or_ge (base+(n - 1)) cells.size with h' | h'
    · omega
    · rw [Array.getElem?_eq_none h'] at this;cases this
theorem con_rowI (f:FuncId) (hen:enterable Tryz.prog f=true) (n:Nat) (h:Nat→Int) (l:List Int) (hl:l.length=n) (res:AV)
    (h0:n=0→∀ (w:World) (p:Option Addr) (cp:Nat),Calls Tryz.prog f #[.slice p 0 cp] w fun e w'=>(∃ v,e=.returned v∧((∀ (w:World) (β:Id→Option Addr) (own:Bool→Nat→Prop),VR w β own res v)∨(v=.slice p 0 cp∧res=.ar 1 0 0 0)))∧w'=w)
    (h1:0<n→∀ (w:World) (b base c:Nat),n≤c→b<w.heap.size→Holds (Value.int .i64) w b base (lstI n h).toArray →
      Calls Tryz.prog f #[.slice (some ⟨b,base,none⟩) n c] w fun e w'=>(∃ v q os,e=.returned v∧w'=grow (putRow (Value.int .i64) (Sort.ahead w q) b base l.toArray) os ∧
        ∀ (w:World) (β:Id→Option Addr) (own:Bool→Nat→Prop) (cells:Array Value) (el:TypeId),β 0=some ⟨b,base,none⟩→w.heap[b]? = some (.cells cells el (0,0))→base+c≤cells.size→VR w β own res v)) :
    Con Tryz.prog f 1 [(0,numOb n h)] [.ar 1 0 0 n] [(0,numOb n (atI l))] res:=by
  refine ⟨hen,fun w β X vals hX hH hS hd hlen ha=>?_⟩
  obtain ⟨v0,rfl⟩:∃ v0,vals = #[v0]:=by
    rcases vals with ⟨l⟩
    match l,hlen with
    | [a],_=>exact ⟨a,rfl⟩
  have hv0:VR w β (ow X β [(0,numOb n h)]) (.ar 1 0 0 n) v0:=ha 0 (by simp)
  rcases Nat.eq_zero_or_pos n with rfl | hpos
  · obtain ⟨p,cap,rfl⟩:∃ p cap,v0=.slice p 0 cap:=by
      cases hv0 with
      | ar0=>exact ⟨_,_,rfl⟩
      | ar=>exact ⟨_,_,rfl⟩
    refine (h0 rfl w p cap).mono ?_
    rintro e w' ⟨⟨v,rfl,hv⟩,rfl⟩
    have hv':VR w' β (fr X β [(0,numOb 0 (atI l))]) res v:=by
      rcases hv with hv | ⟨rfl,rfl⟩
      · exact hv _ _ _
      · cases hv0 with
        | ar0=>exact .ar0 _ _ _ _
        | ar _ _ _ _ b base c cells elem fr' hβ hh hsz hc=>exact .ar _ _ _ _ b base _ cells elem fr' hβ hh hsz hc
    refine ⟨_,β,rfl,?_,?_,hv',?_,fun o a h=>h,fun b' h'=>.inl ?_,fun k h=>.inl h⟩
    · intro o ob hl
      obtain ⟨rfl,rfl⟩:=look_one hl
      rcases hH 0 _ (lk_one _) with ⟨hb,_⟩ | ⟨b,base,cells,el,hβ,hh,_⟩ | hm
      · exact .inl ⟨hb,rfl⟩
      · exact .inr (.inl ⟨b,base,cells,el,hβ,hh,fun i hi=>absurd hi (Nat.not_lt_zero _)⟩)
      · exact absurd hm.2.1 (by simp [numOb])
    · intro o o' ob ob' a a' h1 h2 h3 h4 h5
      obtain ⟨rfl,rfl⟩:=look_one h1
      obtain ⟨rfl,rfl⟩:=look_one h2
      rfl
    · rw [ow_one X β (numOb 0 (atI l)) (numOb 0 h)]
      exact Ext.refl _ _
    · rw [own_one _ _ _ rfl] at h' ⊢;exact h'
  · cases hv0 with
    | ar0=>exact absurd hpos (Nat.lt_irrefl 0)
    | ar _ _ _ _ b base c cells elem fr' hβ hh hsz hc =>
      rcases hH 0 _ (lk_one _) with ⟨hb,_⟩ | ⟨b',base',cells',el',hβ',hh',hrw⟩ | hm
      · rw [hb] at hβ;cases hβ
      · rw [hβ] at hβ'
        injection hβ' with hβ'
        injection hβ' with i1 i2 _
        subst i1;subst i2
        rw [hh] at hh'
        injection hh' with hh'
        injection hh' with i1 i2 i3
        subst i1;subst i2;subst i3
        have hrw':∀ i,i<n→∃ v,cells[base+i]? = some v∧One v∧VR w β (ow X β [(0,numOb n h)]) (.p (.int .i64 (h i))) v:=by
          intro i hi
          obtain ⟨v,k1,k2,k3⟩:=hrw i hi 0 (by simp [numOb])
          have e:base+(i*(numOb n h).z+0)=base+i:=by simp [numOb]
          exact ⟨v,by rw [← e];exact k1,k2,k3⟩
        obtain ⟨hHo,hend⟩:=row_holds (n:=n) (h:=h) hh hrw' hpos
        have hblk:b<w.heap.size:=by
          rcases Nat.lt_or_ge b w.heap.size with h' | h'
          · exact h'
          · rw [Array.getElem?_eq_none h'] at hh;cases hh
        have hcon:=h1 hpos w b base c hc hblk hHo
        rw [show base+0*1=base by omega]
        refine hcon.mono ?_
        rintro e w' ⟨v,q,os,rfl,rfl,hv⟩
        rw [putRow_id]
        refine sW_post (F:=(l.map (Value.int .i64)).toArray) hβ hh hS (by simpa using hend) (by simp [hl]) (fun i hi j hj=>?_) (fun own=>hv _ _ _ _ _ hβ (sW_at hh) (by rw [putCells_size];omega))
        obtain rfl:j=0:=by omega
        have e:((l.map (Value.int .i64)).toArray)[i*1+0]! = .int .i64 (atI l i):=by
          rw [getElem!_pos _ _ (by simp [hl];omega)]
          simp [atI,List.getD_eq_getElem?_getD,List.getElem?_eq_getElem (show i<l.length by omega)]
        rw [e]
        exact ⟨rfl,fun w' own=>.p _ _ (.int _ _)⟩
      · exact absurd hm.2.1 (by simp [numOb])
theorem con_SortI (n:Nat) (h:Nat→Int) (hn:n≤1048576) :
    Con Tryz.prog 276 1 [(0,numOb n h)] [.ar 1 0 0 n] [(0,numOb n (atI (srtI (lstI n h))))] (.tup []):=by
  have hnil:∀ (w:World) (β:Id→Option Addr) (own:Bool→Nat→Prop),VR w β own (.tup []) (.tuple #[]):=fun w' β own=>.tup [] #[] rfl (fun j hj=>absurd hj (Nat.not_lt_zero _))
  refine con_rowI _ (by kernel_rfl) n h _ (by rw [srtI_len,lstI_len]) _ (fun h0 w p cap=>?_) (fun hpos w b base c hc hb hH=>?_)
  · refine (AnyM.slices_Sort_int_none (P:=Tryz.prog) Tryz.sortInt p cap w).mono ?_
    rintro e w' ⟨rfl,rfl⟩
    exact ⟨⟨_,rfl,.inl hnil⟩,rfl⟩
  · have hcon:=AnyM.slices_Sort_int (P:=Tryz.prog) Tryz.sortInt b base c (lstI n h) w hH hb (by rw [lstI_len];omega)
    rw [lstI_len] at hcon
    change Calls Tryz.prog 276 _ _ _ at hcon
    refine hcon.mono ?_
    rintro e w' ⟨rfl,q,os,rfl⟩
    exact ⟨_,q,os,rfl,rfl,fun w β own _ _ _ _ _=>hnil _ _ _⟩
end Go.Proofs.YtkkjoghiigiokaaGreat.Mach
namespace Go.Proofs.YtkkjoghiigiokaaGreat.Mach
open Go
set_option linter.unusedVariables false
set_option linter.unusedSimpArgs false
theorem rBar (a b:Int) :
    pathOb Tryz.prog Tryz.f290 0 [rg 1,rg 8] [.code (bodyOf Tryz.f290)] (start Tryz.f290 [] 0 [.p (.int .i64 a),.p (.int .i64 b)]) [] 1 [] ((zf117 b a)) =
    some [(NT 0 1),((true=true)→ (AN 1)),(NT 0 1),(((if false=true then if b>a then b else a else if b<a then b else a):Int)=(if b<a then b else a)),(((if true=true then if b>a then b else a else if b<a then b else a):Int)=(if b>a then b else a))]:=by kernel_rfl
theorem rHas (g:Nat→T_Bar) (nb N:Nat) (p:Int) :
    pathOb Tryz.prog Tryz.f205 0 [rg 2,rm [(4,oc [] (.p (.bool (inB p 0 ((N:Int) - 1)))))] 1] [.code (bodyOf Tryz.f205)] (start Tryz.f205 [] 0 [grG g nb N,.p (.int .i64 p)]) [] 1 [] (.p (.bool (inB p 0 ((N:Int) - 1)))) =
    some [(NT 0 1),(R0 ((↑N:Int) - 1)),(R1 ((↑N:Int) - 1)),Con Tryz.prog 179 0 [] [.p (.int .i64 p),.p (.int .i64 0),.p (.int .i64 ((↑N:Int) - 1))] [] (.p (.bool (inB p 0 ((↑N:Int) - 1)))),((inB p 0 ((↑N:Int) - 1))=(inB p 0 ((↑N:Int) - 1)))]:=by kernel_rfl
theorem rIi (g:Nat→T_Bar) (nb N:Nat) (a b:Int) (r:Bool) :
    pathOb Tryz.prog Tryz.f294 0 [rg 2,rm [(1,oc [] (.p (.bool true))),(3,oc [] (.p (.bool true))),(4,oc [] (.p (.bool true))),(12,oc [] (zf117 b a)),(0,oc [] (.p (.bool r)))] 4] [.code (bodyOf Tryz.f294)] (start Tryz.f294 [] 0 [grG g nb N,.p (.int .i64 a),.p (.int .i64 b)]) [] 1 [] (.p (.bool (bif a==b then true else !r))) =
    some [(NT 0 1),Con Tryz.prog 62 0 [] [(zf110 N nb g)] [] (.p (.bool true)),((true=true)→(NT 0 1)),(AG true),(AG true),((true=true)→ Con Tryz.prog 205 0 [] [(zf110 N nb g),.p (.int .i64 a)] [] (.p (.bool true))),(AG true),(((bif true then true else false)=true)→(NT 0 1)),(AG (bif true then true else false)),(AG (bif true then true else false)),(((bif true then true else false)=true)→ Con Tryz.prog 205 0 [] [(zf110 N nb g),.p (.int .i64 b)] [] (.p (.bool true))),(AG (bif true then true else false)),(AG (bif bif true then true else false then true else false)),(AG (bif bif true then true else false then true else false)),(AG (bif bif true then true else false then true else false)),(AG ((bif bif true then true else false then true else false)&&!a==b)),((((bif bif true then true else false then true else false)&&!a==b)=true)→(NT 0 1)),(AG ((bif bif true then true else false then true else false)&&!a==b)),((((bif bif true then true else false then true else false)&&!a==b)=true)→(NT 0 1)),(AG ((bif bif true then true else false then true else false)&&!a==b)),(AG ((bif bif true then true else false then true else false)&&!a==b)),((((bif bif true then true else false then true else false)&&!a==b)=true)→ Con Tryz.prog 290 0 [] [.p (.int .i64 a),.p (.int .i64 b)] [] ((zf117 b a))),(AG ((bif bif true then true else false then true else false)&&!a==b)),(AG ((bif bif true then true else false then true else false)&&!a==b)),(AG ((bif bif true then true else false then true else false)&&!a==b)),((((bif bif true then true else false then true else false)&&!a==b)=true)→ Con Tryz.prog 327 0 [] [.p (.int .i64 (↑N:Int)),.p (.seq true 2 nb (fun i=>[.int .i64 ((g i).1),.int .i64 ((g i).2.1)])),(zf117 b a)] [] (.p (.bool r))),(AG ((bif bif true then true else false then true else false)&&!a==b)),(AG (bif bif true then true else false then true else false)),(((bif bif true then true else false then true else false)=true)→(((a==b)=false)→ (((bif bif true then true else false then true else false)&&!a==b)=true))),(AG (bif bif true then true else false then true else false)),((bif bif bif true then true else false then true else false then bif a==b then true else !r else false)=(bif a==b then true else !r))]:=by kernel_rfl
end Go.Proofs.YtkkjoghiigiokaaGreat.Mach
namespace Go.Proofs.YtkkjoghiigiokaaGreat.Mach
open Go
set_option linter.unusedVariables false
set_option linter.unusedSimpArgs false
theorem con_bar (a b:Int):Con Tryz.prog 290 0 [] [.p (.int .i64 a),.p (.int .i64 b)] [] (brA (brX a b)):=by
  refine con_start Tryz.func290 rfl (by kernel_rfl) rfl (fun c hc=>?_)
  refine path_ok mixed Tryz.func290 hc (rBar a b) ?_
  repeat' (first | exact aN | apply aI)
  all_goals (first | omega | rfl | (intros;first | assumption | exact trivial | rfl | exact fT ‹_› | ((repeat' (first | assumption | apply anda | apply notf));done)) | simp)
theorem con_has {N nb:Nat} {g:Nat→T_Bar} (hN:1≤N∧N≤8) {p:Int} (hp:0≤p∧p<N):Con Tryz.prog 205 0 [] [grG g nb N,.p (.int .i64 p)] [] (.p (.bool true)):=by
  have hw:=con_within p 0 ((N:Int) - 1)
  have ht:inB p 0 ((N:Int) - 1)=true:=by simp [inB];omega
  rw [show (true:Bool)=inB p 0 ((N:Int) - 1) from ht.symm]
  refine con_start Tryz.func205 rfl (by kernel_rfl) rfl (fun c hc=>?_)
  refine path_ok mixed Tryz.func205 hc (rHas g nb N p) ?_
  repeat' (first | exact aN | apply aI)
  all_goals (first | omega | rfl | (intros;first | assumption | exact trivial | rfl | exact fT ‹_› | ((repeat' (first | assumption | apply anda | apply notf));done)) | (exact hw))
theorem con_IsImplied_i {N nb:Nat} {g:Nat→T_Bar} (hg:isGraphF ((N:Int),(nb,g),())=true) (hok:OkBars N nb g) (hN:1≤N∧N≤8) (hnb:nb≤24) {a b:Int} (ha:0≤a∧a<N) (hb:0≤b∧b<N) :
    Con Tryz.prog 294 0 [] [grG g nb N,.p (.int .i64 a),.p (.int .i64 b)] [] (.p (.bool (impB N nb g a b))):=by
  have hsm:smS s_Graph ((N:Int),(nb,g),()):=⟨by simp [smS,smL],⟨by show nb≤1048576;omega,fun i hi=>by simp [smS,smL]⟩,True.intro⟩
  have hcg:=con_IsGraph_i ((N:Int),(nb,g),()) hsm
  rw [hg] at hcg
  have h1:=con_has (g:=g) (nb:=nb) hN ha
  have h2:=con_has (g:=g) (nb:=nb) hN hb
  have h3:=con_bar a b
  have h4:a≠b→Con Tryz.prog 327 0 [] [.p (.int .i64 N),brL g nb,brA (brX a b)] [] (.p (.bool (decide (((accI N 2 3 (snoc nb g (brX a b)) (nb+1)).length:Int)>((accI N 2 3 g nb).length:Int))))) :=
    fun hab=>con_raises hok (brX_ok ha hb hab) (by omega) (by omega)
  have hmono:(accI N 2 3 g nb).length≤(accI N 2 3 (snoc nb g (brX a b)) (nb+1)).length:=by
    have e:=acc_congr N 2 3 (g:=g) (g':=snoc nb g (brX a b)) nb (fun i hi=>(snoc_lt hi).symm)
    rw [e]
    exact acc_mono N 2 3 _ nb
  have he:impB N nb g a b=(bif a==b then true else !decide (((accI N 2 3 (snoc nb g (brX a b)) (nb+1)).length:Int)>((accI N 2 3 g nb).length:Int))):=by
    unfold impB
    cases a==b with
    | true=>rfl
    | false =>
      simp only [cond_false]
      by_cases h:(accI N 2 3 (snoc nb g (brX a b)) (nb+1)).length=(accI N 2 3 g nb).length
      · rw [h];simp
      · have h':¬ (((accI N 2 3 (snoc nb g (brX a b)) (nb+1)).length:Nat):Int)=(((accI N 2 3 g nb).length:Nat):Int):=by omega
        have h'':(((accI N 2 3 (snoc nb g (brX a b)) (nb+1)).length:Nat):Int)>(((accI N 2 3 g nb).length:Nat):Int):=by omega
        rw [decide_eq_true h'']
        simpa using h'
  rw [he]
  refine con_start Tryz.func294 rfl (by kernel_rfl) rfl (fun c hc=>?_)
  refine path_ok mixed Tryz.func294 hc (rIi g nb N a b _) ?_
  repeat' (first | exact aN | apply aI)
  all_goals (first | exact aG _ | omega | rfl | (intros;first | assumption | exact trivial | rfl | exact fT ‹_› | ((repeat' (first | assumption | apply anda | apply notf));done)) | (exact hcg) | (intros;exact h1) | (intros;exact h2) | (intros;exact h3) | (intro h;exact h4 (by simpa using h)) | (intro _ h;simpa using h) | (simp;done))
end Go.Proofs.YtkkjoghiigiokaaGreat.Mach
namespace Go.Proofs.YtkkjoghiigiokaaGreat.Mach
open Go
set_option linter.unusedVariables false
set_option linter.unusedSimpArgs false
def ST0 (N m:Nat) (F T Q:Nat→Int) (x:Int) (i:Nat):St :=
  ⟨[pebD N m F T Q,.p (.int .i64 x),.pt 3 0 0 0,.p .any,.p .any,.p (.int .i64 (tcI T i x)),.p (.int .i64 i)]++List.replicate 17 anyA,[(0,bxD N m F T Q)],1⟩
def SI0 (g:Nat→T_Bar) (nb N k m:Nat) (F T Q:Nat→Int) (i:Nat):St :=
  ⟨[grG g nb N,.p (.int .i64 k),pebD N m F T Q,.pt 2 0 0 0,.p .any,.pt 3 1 0 0,.p .any,.p (.int .i64 i)]++List.replicate 115 anyA,[(0,bxG g nb N),(1,bxD N m F T Q)],2⟩
def SI1 (g:Nat→T_Bar) (nb N k m:Nat) (F T Q:Nat→Int) (i:Nat):St :=
  ⟨[grG g nb N,.p (.int .i64 k),pebD N m F T Q,.pt 2 0 0 0,.p .any,.pt 3 1 0 0,.p .any,.p .any,.p .any,.p (.int .i64 i)]++List.replicate 113 anyA,[(0,bxG g nb N),(1,bxD N m F T Q)],2⟩
def SRu (g:Nat→T_Bar) (nb N k l m:Nat) (F T Q:Nat→Int) (i:Nat):St :=
  ⟨[grG g nb N,.p (.int .i64 k),.p (.int .i64 l),.pt 2 0 0 0,.p .any,.p .any,.pt 3 1 0 0,.p .any,.pt 3 2 0 0,.p .any,.p (.int .i64 i)]++List.replicate 32 anyA,
   [(0,bxG g nb N),(1,bx0),(2,bxP N m 3),(3,iOb N F),(4,iOb m T),(5,iOb m Q)],6⟩
def badI (g:Nat→T_Bar) (nb:Nat) (T Q:Nat→Int) (i:Nat):Bool :=
  bif bif bif decide (Q i<0) then true else decide (Q i≥(nb:Int)) then true else bif decide ((i:Int)>0) then decide (Q ((i:Int) - 1).toNat≥Q i) else false then true
    else bif T i != (g (Q i).toNat).1 then T i != (g (Q i).toNat).2.1 else false
theorem nRi (k l:Nat) :
    pathOb Tryz.prog Tryz.f189 0 [rg 1,rm [(1,oc [] (.p (.bool true))),(5,oc [] (.p (.bool true)))] 2] [.code (bodyOf Tryz.f189)] (start Tryz.f189 [] 0 [.p (.int .i64 k),.p (.int .i64 l)]) [] 1 [] (.p (.bool true)) =
    some [Con Tryz.prog 179 0 [] [.p (.int .i64 (↑k:Int)),.p (.int .i64 1),.p (.int .i64 3)] [] (.p (.bool true)),(AG true),((true=true)→(R0 (2*(↑k:Int)))),((true=true)→(R1 (2*(↑k:Int)))),(AG true),((true=true)→(R0 (2*(↑k:Int) - 1))),((true=true)→(R1 (2*(↑k:Int) - 1))),(AG true),(AG true),((true=true)→ Con Tryz.prog 179 0 [] [.p (.int .i64 (↑l:Int)),.p (.int .i64 0),.p (.int .i64 (2*(↑k:Int) - 1))] [] (.p (.bool true))),(AG true),((bif true then true else false)=true)]:=by kernel_rfl
theorem nRs (k l:Nat) :
    pathOb Tryz.prog Tryz.f176 0 [rg 1,rm [(1,oc [] (.p (.bool true)))] 11] [.code (bodyOf Tryz.f176)] (start Tryz.f176 [] 0 [.p (.int .i64 k),.p (.int .i64 l)]) [] 1 [] (.p (.bool true)) =
    some [Con Tryz.prog 167 0 [] [.p (.int .i64 (↑k:Int)),.p (.int .i64 1),.p (.int .i64 3)] [] (.p (.bool true)),(AG true),(AG true),(AG (bif true then decide ((↑l:Int)≥0) else false)),(((bif true then decide ((↑l:Int)≥0) else false)=true)→(R0 (2*(↑k:Int)))),(((bif true then decide ((↑l:Int)≥0) else false)=true)→(R1 (2*(↑k:Int)))),(AG (bif true then decide ((↑l:Int)≥0) else false)),(AG (bif true then decide ((↑l:Int)≥0) else false)),(AG (bif true then decide ((↑l:Int)≥0) else false)),((bif bif true then decide ((↑l:Int)≥0) else false then decide ((↑l:Int)<2*(↑k:Int)) else false)=true)]:=by kernel_rfl
theorem nUi (g:Nat→T_Bar) (nb N k l m:Nat) (F T Q:Nat→Int) :
    pathOb Tryz.prog Tryz.f185 0 [rg 3,rm [(1,oc [] (.p (.bool true))),(4,oc [] (.p (.bool true)))] 2,.dec false,rm [(6,oc (pebR N m F T Q) (pebO N m 0))] 2] [.code (bodyOf Tryz.f185)] (start Tryz.f185 [] 0 [grG g nb N,.p (.int .i64 k),.p (.int .i64 l)]) [576,577,578] 1 (pebR N m F T Q) (.tup [pebO N m 0,.p (.bool true)]) =
    some [(NT 0 1),Con Tryz.prog 62 0 [] [(zf110 N nb g)] [] (.p (.bool true)),(AG (!!true)),(AG (!!true)),(((!!true)=true)→ Con Tryz.prog 189 0 [] [.p (.int .i64 (↑k:Int)),.p (.int .i64 (↑l:Int))] [] (.p (.bool true))),(AG (!!true)),(((!true)=false)→ ((!!true)=true)),((bif !true then true else !true)=false),(NT 0 1),(NT 0 1),Con Tryz.prog 293 0 [] [.p (.int .i64 (↑N:Int)),.p (.seq true 2 nb (fun i=>[.int .i64 ((g i).1),.int .i64 ((g i).2.1)])),.p (.int .i64 (↑k:Int)),.p (.int .i64 (↑l:Int))] (zf45 N F m T Q) (.agg [.ar 1 0 0 N,.ar 1 1 0 m,.ar 1 2 0 m]),(NT 0 1),((true=true)→ (AN 1)),(NT 0 1),(AN 0),(AN N),(AN 0),(AN m),(AN 0),(AN m),(true=true),(AN 1),(NL N N),(AA N (fun i=>[.p (.int .i64 (F i))])),(AN 1),(NL m m),(AA m (fun i=>[.p (.int .i64 (T i))])),(AN 1),(NL m m),(AA m (fun i=>[.p (.int .i64 (Q i))])),(AE N),(AE m),(AE m)]:=by kernel_rfl
theorem nKi (g:Nat→T_Bar) (nb N k l m:Nat) (F T Q:Nat→Int) :
    pathOb Tryz.prog Tryz.f288 0 [rg 2,rm [(3,oc (pebR N m F T Q) (.tup [pebO N m 0,.p (.bool true)]))] 6,rg 2,.dec false,rg 4] [.code (bodyOf Tryz.f288)] (start Tryz.f288 [] 0 [grG g nb N,.p (.int .i64 k),.p (.int .i64 l)]) [] 1 [] (.p (.int .i64 m)) =
    some [(NT 0 1),Con Tryz.prog 185 0 [] [(zf110 N nb g),.p (.int .i64 (↑k:Int)),.p (.int .i64 (↑l:Int))] (zf45 N F m T Q) ((zf123 N m)),(NT 0 1),((true=true)→ (AN 1)),((!true)=false),(NT 0 1),(AI ((↑m:Int)))]:=by kernel_rfl
theorem nKs (g:Nat→T_Bar) (nb N k l m:Nat) (F T Q:Nat→Int) :
    pathOb Tryz.prog Tryz.f282 0 [rg 2,rm [(3,oc (pebR N m F T Q) (.tup [pebO N m 0,.p (.bool true)]))] 6,rg 2,.dec false,rg 4] [.code (bodyOf Tryz.f282)] (start Tryz.f282 [] 0 [grG g nb N,.p (.int .i64 k),.p (.int .i64 l)]) [] 1 [] (.p (.int .i64 m)) =
    some [(NT 0 1),Con Tryz.prog 169 0 [] [(zf110 N nb g),.p (.int .i64 (↑k:Int)),.p (.int .i64 (↑l:Int))] (zf45 N F m T Q) ((zf123 N m)),(NT 0 1),((true=true)→ (AN 1)),((!true)=false),(NT 0 1),(AI ((↑m:Int)))]:=by kernel_rfl
theorem nTz (N m:Nat) (F T Q:Nat→Int) (x:Int) :
    pieceOb Tryz.prog 0 [rg 2,rg 1,rg 1,.head] [.code (bodyOf Tryz.f376)] (start Tryz.f376 [] 0 [pebD N m F T Q,.p (.int .i64 x)]) [0] 1 (ST0 N m F T Q x 0) =
    some (zf64,[(AN N),(AP N (fun i=>[.int .i64 (F i)])),(AN m),(AP m (fun i=>[.int .i64 (T i)])),(AN m),(AP m (fun i=>[.int .i64 (Q i)])),(AI x),(AN 0),((0:Int)=(tcI T 0 x)),((0:Int)=(↑0:Int)),((([inD N F,inD m T,inD m Q].length):Nat)=3),(NL 1 1),(NL 1 1),(AN N),(AP N (fun i=>[.int .i64 (F i)])),(AN m),(AP m (fun i=>[.int .i64 (T i)])),(AN m),(AP m (fun i=>[.int .i64 (Q i)]))]):=by kernel_rfl
theorem nTt (N m:Nat) (F T Q:Nat→Int) (x:Int) (i:Nat) :
    pieceOb Tryz.prog 0 [rg 5,.dec true,rg 7,.dec true,rg 3,rg 3,.head] zf64 (ST0 N m F T Q x i) [0] 1 (ST0 N m F T Q x (i+1)) =
    some (zf64,[(NT 0 1),((decide ((↑i:Int)<(↑m:Int)))=true),(NT 0 1),(IL 0 (↑i:Int)),(IT (↑i:Int) (↑m:Int)),((T i==x)=true),(R0 (tcI T i x+1)),(R1 (tcI T i x+1)),(R0 ((↑i:Int)+1)),(R1 ((↑i:Int)+1)),(AN N),(AP N (fun i_1=>[.int .i64 (F i_1)])),(AN m),(AP m (fun i_1=>[.int .i64 (T i_1)])),(AN m),(AP m (fun i_1=>[.int .i64 (Q i_1)])),(AI x),(AN 0),(((tcI T i x+1):Int)=(tcI T (i+1) x)),((((↑i:Int)+1):Int)=(↑(i+1):Int)),(AN 3),(NL 1 1),(NL 1 1),(AN N),(AP N (fun i_1=>[.int .i64 (F i_1)])),(AN m),(AP m (fun i_1=>[.int .i64 (T i_1)])),(AN m),(AP m (fun i_1=>[.int .i64 (Q i_1)]))]):=by kernel_rfl
theorem nTf (N m:Nat) (F T Q:Nat→Int) (x:Int) (i:Nat) :
    pieceOb Tryz.prog 0 [rg 5,.dec true,rg 7,.dec false,rg 3,.head] zf64 (ST0 N m F T Q x i) [0] 1 (ST0 N m F T Q x (i+1)) =
    some (zf64,[(NT 0 1),((decide ((↑i:Int)<(↑m:Int)))=true),(NT 0 1),(IL 0 (↑i:Int)),(IT (↑i:Int) (↑m:Int)),((T i==x)=false),(R0 ((↑i:Int)+1)),(R1 ((↑i:Int)+1)),(AN N),(AP N (fun i_1=>[.int .i64 (F i_1)])),(AN m),(AP m (fun i_1=>[.int .i64 (T i_1)])),(AN m),(AP m (fun i_1=>[.int .i64 (Q i_1)])),(AI x),(AN 0),(((tcI T i x):Int)=(tcI T (i+1) x)),((((↑i:Int)+1):Int)=(↑(i+1):Int)),(AN 3),(NL 1 1),(NL 1 1),(AN N),(AP N (fun i_1=>[.int .i64 (F i_1)])),(AN m),(AP m (fun i_1=>[.int .i64 (T i_1)])),(AN m),(AP m (fun i_1=>[.int .i64 (Q i_1)]))]):=by kernel_rfl
theorem nTe (N m:Nat) (F T Q:Nat→Int) (x:Int) (i:Nat) :
    pathOb Tryz.prog Tryz.f376 0 [rg 5,.dec false,rg 2] zf64 (ST0 N m F T Q x i) [] 1 [] (.p (.int .i64 (tcI T i x))) =
    some [(NT 0 1),((decide ((↑i:Int)<(↑m:Int)))=false),(AI ((tcI T i x)))]:=by kernel_rfl
theorem nJz (g:Nat→T_Bar) (nb N k m:Nat) (F T Q:Nat→Int) :
    pieceOb Tryz.prog 0 [rg 3,rm [(1,oc [] (.p (.bool true))),(3,oc [] (.p (.bool true)))] 19,.dec false,rg 1,.head] [.code (bodyOf Tryz.f339)] (start Tryz.f339 [] 0 [grG g nb N,.p (.int .i64 k),pebD N m F T Q]) [0,32] 1 (SI0 g nb N k m F T Q 0) =
    some (zf65,[(NT 0 1),Con Tryz.prog 53 0 [] [(zf110 N nb g)] [] (.p (.bool true)),(AG (!!true)),(((!!true)=true)→ Con Tryz.prog 167 0 [] [.p (.int .i64 (↑k:Int)),.p (.int .i64 1),.p (.int .i64 3)] [] (.p (.bool true))),(AG (!!true)),(((!true)=false)→ ((!!true)=true)),(AG (!bif !true then true else !true)),(((!bif !true then true else !true)=true)→(NT 0 1)),(AG (!bif !true then true else !true)),(AG (!bif !true then true else !true)),(((!bif !true then true else !true)=true)→(NT 0 1)),(AG (!bif !true then true else !true)),(AG (!bif !true then true else !true)),(((bif !true then true else !true)=false)→ ((!bif !true then true else !true)=true)),(AG (!bif bif !true then true else !true then true else (↑N:Int) != (↑N:Int))),(((!bif bif !true then true else !true then true else (↑N:Int) != (↑N:Int))=true)→(NT 0 1)),(AG (!bif bif !true then true else !true then true else (↑N:Int) != (↑N:Int))),(AG (!bif bif !true then true else !true then true else (↑N:Int) != (↑N:Int))),(((!bif bif !true then true else !true then true else (↑N:Int) != (↑N:Int))=true)→(NT 0 1)),(AG (!bif bif !true then true else !true then true else (↑N:Int) != (↑N:Int))),(AG (!bif bif !true then true else !true then true else (↑N:Int) != (↑N:Int))),(AG (!bif bif !true then true else !true then true else (↑N:Int) != (↑N:Int))),(((bif bif !true then true else !true then true else (↑N:Int) != (↑N:Int))=false)→ ((!bif bif !true then true else !true then true else (↑N:Int) != (↑N:Int))=true)),((bif bif bif !true then true else !true then true else (↑N:Int) != (↑N:Int) then true else (↑m:Int) != (↑m:Int))=false),(AI ((↑N:Int))),(AN nb),(AP nb (fun i=>[.int .i64 ((g i).1),.int .i64 ((g i).2.1)])),(AI ((↑k:Int))),(AN N),(AP N (fun i=>[.int .i64 (F i)])),(AN m),(AP m (fun i=>[.int .i64 (T i)])),(AN m),(AP m (fun i=>[.int .i64 (Q i)])),(AN 0),(AN 0),((0:Int)=(↑0:Int)),((([AV.p (PV.int IntKind.i64 (↑N:Int)),brL g nb].length):Nat)=2),(NL 1 1),(NL 1 1),(AI ((↑N:Int))),(AN nb),(AP nb (fun i=>[.int .i64 ((g i).1),.int .i64 ((g i).2.1)])),((([inD N F,inD m T,inD m Q].length):Nat)=3),(NL 1 1),(NL 1 1),(AN N),(AP N (fun i=>[.int .i64 (F i)])),(AN m),(AP m (fun i=>[.int .i64 (T i)])),(AN m),(AP m (fun i=>[.int .i64 (Q i)]))]):=by kernel_rfl
theorem nI0 (g:Nat→T_Bar) (nb N k m:Nat) (F T Q:Nat→Int) (i:Nat) :
    pieceOb Tryz.prog 0 [rg 5,.dec true,rg 6,rg 51,.dec false,rg 3,.head] zf65 (SI0 g nb N k m F T Q i) [0,1] 1 (SI0 g nb N k m F T Q (i+1)) =
    some (zf65,[(NT 0 1),((decide ((↑i:Int)<(↑m:Int)))=true),(NT 0 1),(IL 0 (↑i:Int)),(IT (↑i:Int) (↑m:Int)),(AG (!decide (Q (↑i:Int).toNat<0))),(((!decide (Q (↑i:Int).toNat<0))=true)→(NT 0 1)),(AG (!decide (Q (↑i:Int).toNat<0))),(AG (!decide (Q (↑i:Int).toNat<0))),(AG (!decide (Q (↑i:Int).toNat<0))),(((decide (Q (↑i:Int).toNat<0))=false)→ ((!decide (Q (↑i:Int).toNat<0))=true)),(AG (!bif decide (Q (↑i:Int).toNat<0) then true else decide (Q (↑i:Int).toNat≥(↑nb:Int)))),(AG (!bif decide (Q (↑i:Int).toNat<0) then true else decide (Q (↑i:Int).toNat≥(↑nb:Int)))),(AG ((!bif decide (Q (↑i:Int).toNat<0) then true else decide (Q (↑i:Int).toNat≥(↑nb:Int)))&&decide ((↑i:Int)>0))),((((!bif decide (Q (↑i:Int).toNat<0) then true else decide (Q (↑i:Int).toNat≥(↑nb:Int)))&&decide ((↑i:Int)>0))=true)→(NT 0 1)),(AG ((!bif decide (Q (↑i:Int).toNat<0) then true else decide (Q (↑i:Int).toNat≥(↑nb:Int)))&&decide ((↑i:Int)>0))),((((!bif decide (Q (↑i:Int).toNat<0) then true else decide (Q (↑i:Int).toNat≥(↑nb:Int)))&&decide ((↑i:Int)>0))=true)→(R0 ((↑i:Int) - 1))),((((!bif decide (Q (↑i:Int).toNat<0) then true else decide (Q (↑i:Int).toNat≥(↑nb:Int)))&&decide ((↑i:Int)>0))=true)→(R1 ((↑i:Int) - 1))),(AG ((!bif decide (Q (↑i:Int).toNat<0) then true else decide (Q (↑i:Int).toNat≥(↑nb:Int)))&&decide ((↑i:Int)>0))),(AG ((!bif decide (Q (↑i:Int).toNat<0) then true else decide (Q (↑i:Int).toNat≥(↑nb:Int)))&&decide ((↑i:Int)>0))),((((!bif decide (Q (↑i:Int).toNat<0) then true else decide (Q (↑i:Int).toNat≥(↑nb:Int)))&&decide ((↑i:Int)>0))=true)→(IL 0 ((↑i:Int) - 1))),((((!bif decide (Q (↑i:Int).toNat<0) then true else decide (Q (↑i:Int).toNat≥(↑nb:Int)))&&decide ((↑i:Int)>0))=true)→(IT ((↑i:Int) - 1) (↑m:Int))),(AG ((!bif decide (Q (↑i:Int).toNat<0) then true else decide (Q (↑i:Int).toNat≥(↑nb:Int)))&&decide ((↑i:Int)>0))),(AG ((!bif decide (Q (↑i:Int).toNat<0) then true else decide (Q (↑i:Int).toNat≥(↑nb:Int)))&&decide ((↑i:Int)>0))),(AG ((!bif decide (Q (↑i:Int).toNat<0) then true else decide (Q (↑i:Int).toNat≥(↑nb:Int)))&&decide ((↑i:Int)>0))),(AG (!bif decide (Q (↑i:Int).toNat<0) then true else decide (Q (↑i:Int).toNat≥(↑nb:Int)))),(((!bif decide (Q (↑i:Int).toNat<0) then true else decide (Q (↑i:Int).toNat≥(↑nb:Int)))=true)→(((decide ((↑i:Int)>0))=true)→ (((!bif decide (Q (↑i:Int).toNat<0) then true else decide (Q (↑i:Int).toNat≥(↑nb:Int)))&&decide ((↑i:Int)>0))=true))),(((bif decide (Q (↑i:Int).toNat<0) then true else decide (Q (↑i:Int).toNat≥(↑nb:Int)))=false)→ ((!bif decide (Q (↑i:Int).toNat<0) then true else decide (Q (↑i:Int).toNat≥(↑nb:Int)))=true)),(AG (!bif bif decide (Q (↑i:Int).toNat<0) then true else decide (Q (↑i:Int).toNat≥(↑nb:Int)) then true else bif decide ((↑i:Int)>0) then decide (Q ((↑i:Int) - 1).toNat≥Q (↑i:Int).toNat) else false)),(((!bif bif decide (Q (↑i:Int).toNat<0) then true else decide (Q (↑i:Int).toNat≥(↑nb:Int)) then true else bif decide ((↑i:Int)>0) then decide (Q ((↑i:Int) - 1).toNat≥Q (↑i:Int).toNat) else false)=true)→(NT 0 1)),(AG (!bif bif decide (Q (↑i:Int).toNat<0) then true else decide (Q (↑i:Int).toNat≥(↑nb:Int)) then true else bif decide ((↑i:Int)>0) then decide (Q ((↑i:Int) - 1).toNat≥Q (↑i:Int).toNat) else false)),(AG (!bif bif decide (Q (↑i:Int).toNat<0) then true else decide (Q (↑i:Int).toNat≥(↑nb:Int)) then true else bif decide ((↑i:Int)>0) then decide (Q ((↑i:Int) - 1).toNat≥Q (↑i:Int).toNat) else false)),(((!bif bif decide (Q (↑i:Int).toNat<0) then true else decide (Q (↑i:Int).toNat≥(↑nb:Int)) then true else bif decide ((↑i:Int)>0) then decide (Q ((↑i:Int) - 1).toNat≥Q (↑i:Int).toNat) else false)=true)→(IL 0 (↑i:Int))),(((!bif bif decide (Q (↑i:Int).toNat<0) then true else decide (Q (↑i:Int).toNat≥(↑nb:Int)) then true else bif decide ((↑i:Int)>0) then decide (Q ((↑i:Int) - 1).toNat≥Q (↑i:Int).toNat) else false)=true)→(IT (↑i:Int) (↑m:Int))),(AG (!bif bif decide (Q (↑i:Int).toNat<0) then true else decide (Q (↑i:Int).toNat≥(↑nb:Int)) then true else bif decide ((↑i:Int)>0) then decide (Q ((↑i:Int) - 1).toNat≥Q (↑i:Int).toNat) else false)),(AG (!bif bif decide (Q (↑i:Int).toNat<0) then true else decide (Q (↑i:Int).toNat≥(↑nb:Int)) then true else bif decide ((↑i:Int)>0) then decide (Q ((↑i:Int) - 1).toNat≥Q (↑i:Int).toNat) else false)),(((!bif bif decide (Q (↑i:Int).toNat<0) then true else decide (Q (↑i:Int).toNat≥(↑nb:Int)) then true else bif decide ((↑i:Int)>0) then decide (Q ((↑i:Int) - 1).toNat≥Q (↑i:Int).toNat) else false)=true)→(NT 0 1)),(AG (!bif bif decide (Q (↑i:Int).toNat<0) then true else decide (Q (↑i:Int).toNat≥(↑nb:Int)) then true else bif decide ((↑i:Int)>0) then decide (Q ((↑i:Int) - 1).toNat≥Q (↑i:Int).toNat) else false)),(AG (!bif bif decide (Q (↑i:Int).toNat<0) then true else decide (Q (↑i:Int).toNat≥(↑nb:Int)) then true else bif decide ((↑i:Int)>0) then decide (Q ((↑i:Int) - 1).toNat≥Q (↑i:Int).toNat) else false)),(((!bif bif decide (Q (↑i:Int).toNat<0) then true else decide (Q (↑i:Int).toNat≥(↑nb:Int)) then true else bif decide ((↑i:Int)>0) then decide (Q ((↑i:Int) - 1).toNat≥Q (↑i:Int).toNat) else false)=true)→(IL 0 (Q i))),(((!bif bif decide (Q (↑i:Int).toNat<0) then true else decide (Q (↑i:Int).toNat≥(↑nb:Int)) then true else bif decide ((↑i:Int)>0) then decide (Q ((↑i:Int) - 1).toNat≥Q (↑i:Int).toNat) else false)=true)→(IT (Q i) (↑nb:Int))),(AG (!bif bif decide (Q (↑i:Int).toNat<0) then true else decide (Q (↑i:Int).toNat≥(↑nb:Int)) then true else bif decide ((↑i:Int)>0) then decide (Q ((↑i:Int) - 1).toNat≥Q (↑i:Int).toNat) else false)),(AG (!bif bif decide (Q (↑i:Int).toNat<0) then true else decide (Q (↑i:Int).toNat≥(↑nb:Int)) then true else bif decide ((↑i:Int)>0) then decide (Q ((↑i:Int) - 1).toNat≥Q (↑i:Int).toNat) else false)),(AG (!bif bif decide (Q (↑i:Int).toNat<0) then true else decide (Q (↑i:Int).toNat≥(↑nb:Int)) then true else bif decide ((↑i:Int)>0) then decide (Q ((↑i:Int) - 1).toNat≥Q (↑i:Int).toNat) else false)),(AG (!bif bif decide (Q (↑i:Int).toNat<0) then true else decide (Q (↑i:Int).toNat≥(↑nb:Int)) then true else bif decide ((↑i:Int)>0) then decide (Q ((↑i:Int) - 1).toNat≥Q (↑i:Int).toNat) else false)),(AG (!bif bif decide (Q (↑i:Int).toNat<0) then true else decide (Q (↑i:Int).toNat≥(↑nb:Int)) then true else bif decide ((↑i:Int)>0) then decide (Q ((↑i:Int) - 1).toNat≥Q (↑i:Int).toNat) else false)),(AG ((!bif bif decide (Q (↑i:Int).toNat<0) then true else decide (Q (↑i:Int).toNat≥(↑nb:Int)) then true else bif decide ((↑i:Int)>0) then decide (Q ((↑i:Int) - 1).toNat≥Q (↑i:Int).toNat) else false)&&T i != (g (Q i).toNat).1)),((((!bif bif decide (Q (↑i:Int).toNat<0) then true else decide (Q (↑i:Int).toNat≥(↑nb:Int)) then true else bif decide ((↑i:Int)>0) then decide (Q ((↑i:Int) - 1).toNat≥Q (↑i:Int).toNat) else false)&&T i != (g (Q i).toNat).1)=true)→(NT 0 1)),(AG ((!bif bif decide (Q (↑i:Int).toNat<0) then true else decide (Q (↑i:Int).toNat≥(↑nb:Int)) then true else bif decide ((↑i:Int)>0) then decide (Q ((↑i:Int) - 1).toNat≥Q (↑i:Int).toNat) else false)&&T i != (g (Q i).toNat).1)),(AG ((!bif bif decide (Q (↑i:Int).toNat<0) then true else decide (Q (↑i:Int).toNat≥(↑nb:Int)) then true else bif decide ((↑i:Int)>0) then decide (Q ((↑i:Int) - 1).toNat≥Q (↑i:Int).toNat) else false)&&T i != (g (Q i).toNat).1)),((((!bif bif decide (Q (↑i:Int).toNat<0) then true else decide (Q (↑i:Int).toNat≥(↑nb:Int)) then true else bif decide ((↑i:Int)>0) then decide (Q ((↑i:Int) - 1).toNat≥Q (↑i:Int).toNat) else false)&&T i != (g (Q i).toNat).1)=true)→(IL 0 (↑i:Int))),((((!bif bif decide (Q (↑i:Int).toNat<0) then true else decide (Q (↑i:Int).toNat≥(↑nb:Int)) then true else bif decide ((↑i:Int)>0) then decide (Q ((↑i:Int) - 1).toNat≥Q (↑i:Int).toNat) else false)&&T i != (g (Q i).toNat).1)=true)→(IT (↑i:Int) (↑m:Int))),(AG ((!bif bif decide (Q (↑i:Int).toNat<0) then true else decide (Q (↑i:Int).toNat≥(↑nb:Int)) then true else bif decide ((↑i:Int)>0) then decide (Q ((↑i:Int) - 1).toNat≥Q (↑i:Int).toNat) else false)&&T i != (g (Q i).toNat).1)),(AG ((!bif bif decide (Q (↑i:Int).toNat<0) then true else decide (Q (↑i:Int).toNat≥(↑nb:Int)) then true else bif decide ((↑i:Int)>0) then decide (Q ((↑i:Int) - 1).toNat≥Q (↑i:Int).toNat) else false)&&T i != (g (Q i).toNat).1)),((((!bif bif decide (Q (↑i:Int).toNat<0) then true else decide (Q (↑i:Int).toNat≥(↑nb:Int)) then true else bif decide ((↑i:Int)>0) then decide (Q ((↑i:Int) - 1).toNat≥Q (↑i:Int).toNat) else false)&&T i != (g (Q i).toNat).1)=true)→(NT 0 1)),(AG ((!bif bif decide (Q (↑i:Int).toNat<0) then true else decide (Q (↑i:Int).toNat≥(↑nb:Int)) then true else bif decide ((↑i:Int)>0) then decide (Q ((↑i:Int) - 1).toNat≥Q (↑i:Int).toNat) else false)&&T i != (g (Q i).toNat).1)),(AG ((!bif bif decide (Q (↑i:Int).toNat<0) then true else decide (Q (↑i:Int).toNat≥(↑nb:Int)) then true else bif decide ((↑i:Int)>0) then decide (Q ((↑i:Int) - 1).toNat≥Q (↑i:Int).toNat) else false)&&T i != (g (Q i).toNat).1)),((((!bif bif decide (Q (↑i:Int).toNat<0) then true else decide (Q (↑i:Int).toNat≥(↑nb:Int)) then true else bif decide ((↑i:Int)>0) then decide (Q ((↑i:Int) - 1).toNat≥Q (↑i:Int).toNat) else false)&&T i != (g (Q i).toNat).1)=true)→(IL 0 (Q i))),((((!bif bif decide (Q (↑i:Int).toNat<0) then true else decide (Q (↑i:Int).toNat≥(↑nb:Int)) then true else bif decide ((↑i:Int)>0) then decide (Q ((↑i:Int) - 1).toNat≥Q (↑i:Int).toNat) else false)&&T i != (g (Q i).toNat).1)=true)→(IT (Q i) (↑nb:Int))),(AG ((!bif bif decide (Q (↑i:Int).toNat<0) then true else decide (Q (↑i:Int).toNat≥(↑nb:Int)) then true else bif decide ((↑i:Int)>0) then decide (Q ((↑i:Int) - 1).toNat≥Q (↑i:Int).toNat) else false)&&T i != (g (Q i).toNat).1)),(AG ((!bif bif decide (Q (↑i:Int).toNat<0) then true else decide (Q (↑i:Int).toNat≥(↑nb:Int)) then true else bif decide ((↑i:Int)>0) then decide (Q ((↑i:Int) - 1).toNat≥Q (↑i:Int).toNat) else false)&&T i != (g (Q i).toNat).1)),(AG ((!bif bif decide (Q (↑i:Int).toNat<0) then true else decide (Q (↑i:Int).toNat≥(↑nb:Int)) then true else bif decide ((↑i:Int)>0) then decide (Q ((↑i:Int) - 1).toNat≥Q (↑i:Int).toNat) else false)&&T i != (g (Q i).toNat).1)),(AG ((!bif bif decide (Q (↑i:Int).toNat<0) then true else decide (Q (↑i:Int).toNat≥(↑nb:Int)) then true else bif decide ((↑i:Int)>0) then decide (Q ((↑i:Int) - 1).toNat≥Q (↑i:Int).toNat) else false)&&T i != (g (Q i).toNat).1)),(AG (!bif bif decide (Q (↑i:Int).toNat<0) then true else decide (Q (↑i:Int).toNat≥(↑nb:Int)) then true else bif decide ((↑i:Int)>0) then decide (Q ((↑i:Int) - 1).toNat≥Q (↑i:Int).toNat) else false)),(((!bif bif decide (Q (↑i:Int).toNat<0) then true else decide (Q (↑i:Int).toNat≥(↑nb:Int)) then true else bif decide ((↑i:Int)>0) then decide (Q ((↑i:Int) - 1).toNat≥Q (↑i:Int).toNat) else false)=true)→(((T i != (g (Q i).toNat).1)=true)→ (((!bif bif decide (Q (↑i:Int).toNat<0) then true else decide (Q (↑i:Int).toNat≥(↑nb:Int)) then true else bif decide ((↑i:Int)>0) then decide (Q ((↑i:Int) - 1).toNat≥Q (↑i:Int).toNat) else false)&&T i != (g (Q i).toNat).1)=true))),(((bif bif decide (Q (↑i:Int).toNat<0) then true else decide (Q (↑i:Int).toNat≥(↑nb:Int)) then true else bif decide ((↑i:Int)>0) then decide (Q ((↑i:Int) - 1).toNat≥Q (↑i:Int).toNat) else false)=false)→ ((!bif bif decide (Q (↑i:Int).toNat<0) then true else decide (Q (↑i:Int).toNat≥(↑nb:Int)) then true else bif decide ((↑i:Int)>0) then decide (Q ((↑i:Int) - 1).toNat≥Q (↑i:Int).toNat) else false)=true)),((bif bif bif decide (Q (↑i:Int).toNat<0) then true else decide (Q (↑i:Int).toNat≥(↑nb:Int)) then true else bif decide ((↑i:Int)>0) then decide (Q ((↑i:Int) - 1).toNat≥Q (↑i:Int).toNat) else false then true else bif T i != (g (Q i).toNat).1 then T i != (g (Q i).toNat).2.1 else false)=false),(R0 ((↑i:Int)+1)),(R1 ((↑i:Int)+1)),(AI ((↑N:Int))),(AN nb),(AP nb (fun i_1=>[.int .i64 ((g i_1).1),.int .i64 ((g i_1).2.1)])),(AI ((↑k:Int))),(AN N),(AP N (fun i_1=>[.int .i64 (F i_1)])),(AN m),(AP m (fun i_1=>[.int .i64 (T i_1)])),(AN m),(AP m (fun i_1=>[.int .i64 (Q i_1)])),(AN 0),(AN 0),((((↑i:Int)+1):Int)=(↑(i+1):Int)),(AN 2),(NL 1 1),(NL 1 1),(AI ((↑N:Int))),(AN nb),(AP nb (fun i_1=>[.int .i64 ((g i_1).1),.int .i64 ((g i_1).2.1)])),(AN 3),(NL 1 1),(NL 1 1),(AN N),(AP N (fun i_1=>[.int .i64 (F i_1)])),(AN m),(AP m (fun i_1=>[.int .i64 (T i_1)])),(AN m),(AP m (fun i_1=>[.int .i64 (Q i_1)]))]):=by kernel_rfl
theorem nI01 (g:Nat→T_Bar) (nb N k m:Nat) (F T Q:Nat→Int) (i:Nat) :
    pieceOb Tryz.prog 0 [rg 5,.dec false,rg 1,.head] zf65 (SI0 g nb N k m F T Q i) [0,1] 1 (SI1 g nb N k m F T Q 0) =
    some (zf53,[(NT 0 1),((decide ((↑i:Int)<(↑m:Int)))=false),(AI ((↑N:Int))),(AN nb),(AP nb (fun i_1=>[.int .i64 ((g i_1).1),.int .i64 ((g i_1).2.1)])),(AI ((↑k:Int))),(AN N),(AP N (fun i_1=>[.int .i64 (F i_1)])),(AN m),(AP m (fun i_1=>[.int .i64 (T i_1)])),(AN m),(AP m (fun i_1=>[.int .i64 (Q i_1)])),(AN 0),(AN 0),((0:Int)=(↑0:Int)),(AN 2),(NL 1 1),(NL 1 1),(AI ((↑N:Int))),(AN nb),(AP nb (fun i_1=>[.int .i64 ((g i_1).1),.int .i64 ((g i_1).2.1)])),(AN 3),(NL 1 1),(NL 1 1),(AN N),(AP N (fun i_1=>[.int .i64 (F i_1)])),(AN m),(AP m (fun i_1=>[.int .i64 (T i_1)])),(AN m),(AP m (fun i_1=>[.int .i64 (Q i_1)]))]):=by kernel_rfl
theorem nI1 (g:Nat→T_Bar) (nb N k m:Nat) (F T Q:Nat→Int) (i:Nat) :
    pieceOb Tryz.prog 0 [rg 4,.dec true,rm [(14,oc [] (.p (.int .i64 (tcI T m i))))] 4,.dec false,rg 3,.head] zf53 (SI1 g nb N k m F T Q i) [0,1] 1 (SI1 g nb N k m F T Q (i+1)) =
    some (zf53,[(NT 0 1),((decide ((↑i:Int)<(↑N:Int)))=true),(NT 0 1),(IL 0 (↑i:Int)),(IT (↑i:Int) (↑N:Int)),(AG (!decide (F (↑i:Int).toNat<0))),(((!decide (F (↑i:Int).toNat<0))=true)→(NT 0 1)),(AG (!decide (F (↑i:Int).toNat<0))),(AG (!decide (F (↑i:Int).toNat<0))),(((!decide (F (↑i:Int).toNat<0))=true)→(IL 0 (↑i:Int))),(((!decide (F (↑i:Int).toNat<0))=true)→(IT (↑i:Int) (↑N:Int))),(AG (!decide (F (↑i:Int).toNat<0))),(((!decide (F (↑i:Int).toNat<0))=true)→(NT 0 1)),(AG (!decide (F (↑i:Int).toNat<0))),(AG (!decide (F (↑i:Int).toNat<0))),(((!decide (F (↑i:Int).toNat<0))=true)→ Con Tryz.prog 376 0 [] [(zf46 N F m T Q),.p (.int .i64 (↑i:Int))] [] (.p (.int .i64 (tcI T m (↑i:Int))))),(AG (!decide (F (↑i:Int).toNat<0))),(AG (!decide (F (↑i:Int).toNat<0))),(((!decide (F (↑i:Int).toNat<0))=true)→(R0 (F i+tcI T m (↑i:Int)))),(((!decide (F (↑i:Int).toNat<0))=true)→(R1 (F i+tcI T m (↑i:Int)))),(AG (!decide (F (↑i:Int).toNat<0))),(AG (!decide (F (↑i:Int).toNat<0))),(((decide (F (↑i:Int).toNat<0))=false)→ ((!decide (F (↑i:Int).toNat<0))=true)),((bif decide (F (↑i:Int).toNat<0) then true else F i+tcI T m (↑i:Int) != (↑k:Int))=false),(R0 ((↑i:Int)+1)),(R1 ((↑i:Int)+1)),(AI ((↑N:Int))),(AN nb),(AP nb (fun i_1=>[.int .i64 ((g i_1).1),.int .i64 ((g i_1).2.1)])),(AI ((↑k:Int))),(AN N),(AP N (fun i_1=>[.int .i64 (F i_1)])),(AN m),(AP m (fun i_1=>[.int .i64 (T i_1)])),(AN m),(AP m (fun i_1=>[.int .i64 (Q i_1)])),(AN 0),(AN 0),((((↑i:Int)+1):Int)=(↑(i+1):Int)),(AN 2),(NL 1 1),(NL 1 1),(AI ((↑N:Int))),(AN nb),(AP nb (fun i_1=>[.int .i64 ((g i_1).1),.int .i64 ((g i_1).2.1)])),(AN 3),(NL 1 1),(NL 1 1),(AN N),(AP N (fun i_1=>[.int .i64 (F i_1)])),(AN m),(AP m (fun i_1=>[.int .i64 (T i_1)])),(AN m),(AP m (fun i_1=>[.int .i64 (Q i_1)]))]):=by kernel_rfl
theorem nJe (g:Nat→T_Bar) (nb N k m:Nat) (F T Q:Nat→Int) (i:Nat) :
    pathOb Tryz.prog Tryz.f339 0 [rg 4,.dec false,rg 1] zf53 (SI1 g nb N k m F T Q i) [] 1 [] (.p (.bool true)) =
    some [(NT 0 1),((decide ((↑i:Int)<(↑N:Int)))=false),(true=true)]:=by kernel_rfl
theorem nPf (g:Nat→T_Bar) (nb N k l m e:Nat) (F T Q F1 T1:Nat→Int) :
    pathOb Tryz.prog Tryz.f281 0 [rg 4,rm [(3,oc [] (.p (.bool true))),(4,oc [] (.p (.bool true)))] 31,.dec false,rg 7,rm [(8,oc (pebR N m F1 T1 Q) (.tup [pebO N m 0,.p (.bool false)]))] 6,rg 2,.dec true,rm [(1,oc (pebR N m F T Q) (pebO N m 0))] 2] [.code (bodyOf Tryz.f281)] (start Tryz.f281 [] 0 [grG g nb N,.p (.int .i64 k),.p (.int .i64 l),pebD N m F T Q,.p (.int .i64 e)]) [2208,2209,2210] 1 (pebR N m F T Q) (.tup [pebO N m 0,.p (.bool false)]) =
    some [(NT 0 1),(NT 0 1),Con Tryz.prog 339 0 [] [(zf110 N nb g),.p (.int .i64 (↑k:Int)),(zf62 N F m T Q)] [] (.p (.bool true)),(AG (!!true)),(AG (!!true)),(((!!true)=true)→ Con Tryz.prog 176 0 [] [.p (.int .i64 (↑k:Int)),.p (.int .i64 (↑l:Int))] [] (.p (.bool true))),(AG (!!true)),(((!true)=false)→ ((!!true)=true)),(AG (!bif !true then true else !true)),(((bif !true then true else !true)=false)→ ((!bif !true then true else !true)=true)),(AG (!bif bif !true then true else !true then true else decide ((↑e:Int)<0))),(((!bif bif !true then true else !true then true else decide ((↑e:Int)<0))=true)→(NT 0 1)),(AG (!bif bif !true then true else !true then true else decide ((↑e:Int)<0))),(AG (!bif bif !true then true else !true then true else decide ((↑e:Int)<0))),(AG (!bif bif !true then true else !true then true else decide ((↑e:Int)<0))),(((bif bif !true then true else !true then true else decide ((↑e:Int)<0))=false)→ ((!bif bif !true then true else !true then true else decide ((↑e:Int)<0))=true)),(AG (!bif bif bif !true then true else !true then true else decide ((↑e:Int)<0) then true else decide ((↑e:Int)≥(↑nb:Int)))),(((!bif bif bif !true then true else !true then true else decide ((↑e:Int)<0) then true else decide ((↑e:Int)≥(↑nb:Int)))=true)→(NT 0 1)),(AG (!bif bif bif !true then true else !true then true else decide ((↑e:Int)<0) then true else decide ((↑e:Int)≥(↑nb:Int)))),(AG (!bif bif bif !true then true else !true then true else decide ((↑e:Int)<0) then true else decide ((↑e:Int)≥(↑nb:Int)))),(AG (!bif bif bif !true then true else !true then true else decide ((↑e:Int)<0) then true else decide ((↑e:Int)≥(↑nb:Int)))),(AG ((!bif bif bif !true then true else !true then true else decide ((↑e:Int)<0) then true else decide ((↑e:Int)≥(↑nb:Int)))&&decide ((↑m:Int)>0))),((((!bif bif bif !true then true else !true then true else decide ((↑e:Int)<0) then true else decide ((↑e:Int)≥(↑nb:Int)))&&decide ((↑m:Int)>0))=true)→(NT 0 1)),(AG ((!bif bif bif !true then true else !true then true else decide ((↑e:Int)<0) then true else decide ((↑e:Int)≥(↑nb:Int)))&&decide ((↑m:Int)>0))),((((!bif bif bif !true then true else !true then true else decide ((↑e:Int)<0) then true else decide ((↑e:Int)≥(↑nb:Int)))&&decide ((↑m:Int)>0))=true)→(NT 0 1)),(AG ((!bif bif bif !true then true else !true then true else decide ((↑e:Int)<0) then true else decide ((↑e:Int)≥(↑nb:Int)))&&decide ((↑m:Int)>0))),(AG ((!bif bif bif !true then true else !true then true else decide ((↑e:Int)<0) then true else decide ((↑e:Int)≥(↑nb:Int)))&&decide ((↑m:Int)>0))),((((!bif bif bif !true then true else !true then true else decide ((↑e:Int)<0) then true else decide ((↑e:Int)≥(↑nb:Int)))&&decide ((↑m:Int)>0))=true)→(R0 ((↑m:Int) - 1))),((((!bif bif bif !true then true else !true then true else decide ((↑e:Int)<0) then true else decide ((↑e:Int)≥(↑nb:Int)))&&decide ((↑m:Int)>0))=true)→(R1 ((↑m:Int) - 1))),(AG ((!bif bif bif !true then true else !true then true else decide ((↑e:Int)<0) then true else decide ((↑e:Int)≥(↑nb:Int)))&&decide ((↑m:Int)>0))),(AG ((!bif bif bif !true then true else !true then true else decide ((↑e:Int)<0) then true else decide ((↑e:Int)≥(↑nb:Int)))&&decide ((↑m:Int)>0))),((((!bif bif bif !true then true else !true then true else decide ((↑e:Int)<0) then true else decide ((↑e:Int)≥(↑nb:Int)))&&decide ((↑m:Int)>0))=true)→(IL 0 ((↑m:Int) - 1))),((((!bif bif bif !true then true else !true then true else decide ((↑e:Int)<0) then true else decide ((↑e:Int)≥(↑nb:Int)))&&decide ((↑m:Int)>0))=true)→(IT ((↑m:Int) - 1) (↑m:Int))),(AG ((!bif bif bif !true then true else !true then true else decide ((↑e:Int)<0) then true else decide ((↑e:Int)≥(↑nb:Int)))&&decide ((↑m:Int)>0))),(AG ((!bif bif bif !true then true else !true then true else decide ((↑e:Int)<0) then true else decide ((↑e:Int)≥(↑nb:Int)))&&decide ((↑m:Int)>0))),(AG ((!bif bif bif !true then true else !true then true else decide ((↑e:Int)<0) then true else decide ((↑e:Int)≥(↑nb:Int)))&&decide ((↑m:Int)>0))),(AG (!bif bif bif !true then true else !true then true else decide ((↑e:Int)<0) then true else decide ((↑e:Int)≥(↑nb:Int)))),(((!bif bif bif !true then true else !true then true else decide ((↑e:Int)<0) then true else decide ((↑e:Int)≥(↑nb:Int)))=true)→(((decide ((↑m:Int)>0))=true)→ (((!bif bif bif !true then true else !true then true else decide ((↑e:Int)<0) then true else decide ((↑e:Int)≥(↑nb:Int)))&&decide ((↑m:Int)>0))=true))),(((bif bif bif !true then true else !true then true else decide ((↑e:Int)<0) then true else decide ((↑e:Int)≥(↑nb:Int)))=false)→ ((!bif bif bif !true then true else !true then true else decide ((↑e:Int)<0) then true else decide ((↑e:Int)≥(↑nb:Int)))=true)),((bif bif bif bif !true then true else !true then true else decide ((↑e:Int)<0) then true else decide ((↑e:Int)≥(↑nb:Int)) then true else bif decide ((↑m:Int)>0) then decide (Q ((↑m:Int) - 1).toNat≥(↑e:Int)) else false)=false),(NT 0 1),(IL 0 (↑e:Int)),(IT (↑e:Int) (↑nb:Int)),(NT 0 1),((true=true)→ (AN 1)),(NT 0 1),(NT 0 1),(NT 0 1),(NT 0 1),(R0 ((↑l:Int)+1)),(R1 ((↑l:Int)+1)),Con Tryz.prog 341 0 [] [(zf110 N nb g),(zf62 N F m T Q),.p (.int .i64 ((g e).1)),.p (.int .i64 ((g e).2.1)),.p (.int .i64 ((↑l:Int)+1))] (zf45 N F1 m T1 Q) ((zf122 N m)),(NT 0 1),((true=true)→ (AN 1)),((!false)=true),(NT 0 1),Con Tryz.prog 340 0 [] [(zf62 N F m T Q)] (zf45 N F m T Q) (.agg [.ar 1 0 0 N,.ar 1 1 0 m,.ar 1 2 0 m]),(NT 0 1),((true=true)→ (AN 1)),(NT 0 1),(AN 0),(AN N),(AN 0),(AN m),(AN 0),(AN m),(false=false),(AN 1),(NL N N),(AA N (fun i=>[.p (.int .i64 (F i))])),(AN 1),(NL m m),(AA m (fun i=>[.p (.int .i64 (T i))])),(AN 1),(NL m m),(AA m (fun i=>[.p (.int .i64 (Q i))])),(AE N),(AE m),(AE m)]:=by kernel_rfl
theorem nPa (g:Nat→T_Bar) (nb N k l m e:Nat) (F T Q F1 T1:Nat→Int) :
    pathOb Tryz.prog Tryz.f281 0 [rg 4,rm [(3,oc [] (.p (.bool true))),(4,oc [] (.p (.bool true)))] 31,.dec false,rg 7,rm [(8,oc (pebR N m F1 T1 Q) (.tup [pebO N m 0,.p (.bool true)]))] 6,rg 2,.dec false,rg 3,rg 7,.dec false,rg 11,rg 7,rg 7,rg 3] [.code (bodyOf Tryz.f281)] (start Tryz.f281 [] 0 [grG g nb N,.p (.int .i64 k),.p (.int .i64 l),pebD N m F T Q,.p (.int .i64 e)]) [1888,2976,3200] 1 (pebR N (m+1) (fun s=>if s=(g e).1.toNat then F1 s - 1 else F1 s) (fun s=>if s<m then T1 s else (g e).1) (fun s=>if s<m then Q s else e)) (.tup [pebO N (m+1) 0,.p (.bool true)]) =
    some [(NT 0 1),(NT 0 1),Con Tryz.prog 339 0 [] [(zf110 N nb g),.p (.int .i64 (↑k:Int)),(zf62 N F m T Q)] [] (.p (.bool true)),(AG (!!true)),(AG (!!true)),(((!!true)=true)→ Con Tryz.prog 176 0 [] [.p (.int .i64 (↑k:Int)),.p (.int .i64 (↑l:Int))] [] (.p (.bool true))),(AG (!!true)),(((!true)=false)→ ((!!true)=true)),(AG (!bif !true then true else !true)),(((bif !true then true else !true)=false)→ ((!bif !true then true else !true)=true)),(AG (!bif bif !true then true else !true then true else decide ((↑e:Int)<0))),(((!bif bif !true then true else !true then true else decide ((↑e:Int)<0))=true)→(NT 0 1)),(AG (!bif bif !true then true else !true then true else decide ((↑e:Int)<0))),(AG (!bif bif !true then true else !true then true else decide ((↑e:Int)<0))),(AG (!bif bif !true then true else !true then true else decide ((↑e:Int)<0))),(((bif bif !true then true else !true then true else decide ((↑e:Int)<0))=false)→ ((!bif bif !true then true else !true then true else decide ((↑e:Int)<0))=true)),(AG (!bif bif bif !true then true else !true then true else decide ((↑e:Int)<0) then true else decide ((↑e:Int)≥(↑nb:Int)))),(((!bif bif bif !true then true else !true then true else decide ((↑e:Int)<0) then true else decide ((↑e:Int)≥(↑nb:Int)))=true)→(NT 0 1)),(AG (!bif bif bif !true then true else !true then true else decide ((↑e:Int)<0) then true else decide ((↑e:Int)≥(↑nb:Int)))),(AG (!bif bif bif !true then true else !true then true else decide ((↑e:Int)<0) then true else decide ((↑e:Int)≥(↑nb:Int)))),(AG (!bif bif bif !true then true else !true then true else decide ((↑e:Int)<0) then true else decide ((↑e:Int)≥(↑nb:Int)))),(AG ((!bif bif bif !true then true else !true then true else decide ((↑e:Int)<0) then true else decide ((↑e:Int)≥(↑nb:Int)))&&decide ((↑m:Int)>0))),((((!bif bif bif !true then true else !true then true else decide ((↑e:Int)<0) then true else decide ((↑e:Int)≥(↑nb:Int)))&&decide ((↑m:Int)>0))=true)→(NT 0 1)),(AG ((!bif bif bif !true then true else !true then true else decide ((↑e:Int)<0) then true else decide ((↑e:Int)≥(↑nb:Int)))&&decide ((↑m:Int)>0))),((((!bif bif bif !true then true else !true then true else decide ((↑e:Int)<0) then true else decide ((↑e:Int)≥(↑nb:Int)))&&decide ((↑m:Int)>0))=true)→(NT 0 1)),(AG ((!bif bif bif !true then true else !true then true else decide ((↑e:Int)<0) then true else decide ((↑e:Int)≥(↑nb:Int)))&&decide ((↑m:Int)>0))),(AG ((!bif bif bif !true then true else !true then true else decide ((↑e:Int)<0) then true else decide ((↑e:Int)≥(↑nb:Int)))&&decide ((↑m:Int)>0))),((((!bif bif bif !true then true else !true then true else decide ((↑e:Int)<0) then true else decide ((↑e:Int)≥(↑nb:Int)))&&decide ((↑m:Int)>0))=true)→(R0 ((↑m:Int) - 1))),((((!bif bif bif !true then true else !true then true else decide ((↑e:Int)<0) then true else decide ((↑e:Int)≥(↑nb:Int)))&&decide ((↑m:Int)>0))=true)→(R1 ((↑m:Int) - 1))),(AG ((!bif bif bif !true then true else !true then true else decide ((↑e:Int)<0) then true else decide ((↑e:Int)≥(↑nb:Int)))&&decide ((↑m:Int)>0))),(AG ((!bif bif bif !true then true else !true then true else decide ((↑e:Int)<0) then true else decide ((↑e:Int)≥(↑nb:Int)))&&decide ((↑m:Int)>0))),((((!bif bif bif !true then true else !true then true else decide ((↑e:Int)<0) then true else decide ((↑e:Int)≥(↑nb:Int)))&&decide ((↑m:Int)>0))=true)→(IL 0 ((↑m:Int) - 1))),((((!bif bif bif !true then true else !true then true else decide ((↑e:Int)<0) then true else decide ((↑e:Int)≥(↑nb:Int)))&&decide ((↑m:Int)>0))=true)→(IT ((↑m:Int) - 1) (↑m:Int))),(AG ((!bif bif bif !true then true else !true then true else decide ((↑e:Int)<0) then true else decide ((↑e:Int)≥(↑nb:Int)))&&decide ((↑m:Int)>0))),(AG ((!bif bif bif !true then true else !true then true else decide ((↑e:Int)<0) then true else decide ((↑e:Int)≥(↑nb:Int)))&&decide ((↑m:Int)>0))),(AG ((!bif bif bif !true then true else !true then true else decide ((↑e:Int)<0) then true else decide ((↑e:Int)≥(↑nb:Int)))&&decide ((↑m:Int)>0))),(AG (!bif bif bif !true then true else !true then true else decide ((↑e:Int)<0) then true else decide ((↑e:Int)≥(↑nb:Int)))),(((!bif bif bif !true then true else !true then true else decide ((↑e:Int)<0) then true else decide ((↑e:Int)≥(↑nb:Int)))=true)→(((decide ((↑m:Int)>0))=true)→ (((!bif bif bif !true then true else !true then true else decide ((↑e:Int)<0) then true else decide ((↑e:Int)≥(↑nb:Int)))&&decide ((↑m:Int)>0))=true))),(((bif bif bif !true then true else !true then true else decide ((↑e:Int)<0) then true else decide ((↑e:Int)≥(↑nb:Int)))=false)→ ((!bif bif bif !true then true else !true then true else decide ((↑e:Int)<0) then true else decide ((↑e:Int)≥(↑nb:Int)))=true)),((bif bif bif bif !true then true else !true then true else decide ((↑e:Int)<0) then true else decide ((↑e:Int)≥(↑nb:Int)) then true else bif decide ((↑m:Int)>0) then decide (Q ((↑m:Int) - 1).toNat≥(↑e:Int)) else false)=false),(NT 0 1),(IL 0 (↑e:Int)),(IT (↑e:Int) (↑nb:Int)),(NT 0 1),((true=true)→ (AN 1)),(NT 0 1),(NT 0 1),(NT 0 1),(NT 0 1),(R0 ((↑l:Int)+1)),(R1 ((↑l:Int)+1)),Con Tryz.prog 341 0 [] [(zf110 N nb g),(zf62 N F m T Q),.p (.int .i64 ((g e).1)),.p (.int .i64 ((g e).2.1)),.p (.int .i64 ((↑l:Int)+1))] (zf45 N F1 m T1 Q) ((zf123 N m)),(NT 0 1),((true=true)→ (AN 1)),((!true)=false),(NT 0 1),(NT 0 1),(NT 0 1),(IL 0 ((g e).1)),(IT ((g e).1) (↑N:Int)),(NT ((g e).1.toNat) N),((F1 (g e).1.toNat==0)=false),(NT 0 1),(NT 0 1),(IL 0 ((g e).1)),(IT ((g e).1) (↑N:Int)),(NT ((g e).1.toNat) N),(R0 (F1 (g e).1.toNat - 1)),(R1 (F1 (g e).1.toNat - 1)),(IL 0 ((g e).1)),(IT ((g e).1) (↑N:Int)),(NT ((g e).1.toNat) N),((false=true)→ ((N:Nat)=1)),(NT 0 1),(NL 1 1),(NL m m),(NL ((m+1)*8) 140737488355328),(NL (m+1) 9223372036854775807),(NT 0 1),((true=true)→ (AN 1)),(NT 0 1),(NL 1 1),(NL m m),(NL ((m+1)*8) 140737488355328),(NL (m+1) 9223372036854775807),(NT 0 1),((true=true)→ (AN 1)),(NT 0 1),(NT 0 1),((true=true)→ (AN 1)),(NT 0 1),(AN 0),(AN N),(AN 0),(AN ((m+1))),(AN 0),(AN ((m+1))),(true=true),(AN 1),(NL N N),(CV [(64,⟨true,3,1,(fun i_1=>[.ar 1 1888 0 N,.ar 1 2976 0 (m+1),.ar 1 3200 0 (m+1)])⟩),(2016,⟨true,3,1,(fun i_1=>[.ar 1 1888 0 N,.ar 1 2976 0 (m+1),.ar 1 3200 0 (m+1)])⟩),(3200,⟨false,1,(m+1),(fun i_1=>(if (i_1<m) then [.p (.int .i64 (Q i_1))] else [.p (.int .i64 (↑e:Int))]))⟩),(3168,⟨false,1,1,(fun i_1=>[.p (.int .i64 (↑e:Int))])⟩),(2976,⟨false,1,(m+1),(fun i_1=>(if (i_1<m) then [.p (.int .i64 (T1 i_1))] else [.p (.int .i64 ((g e).1))]))⟩),(2944,⟨false,1,1,(fun i_1=>[.p (.int .i64 ((g e).1))])⟩),(1888,⟨false,1,N,(fun i_1=>(if (i_1=(g e).1.toNat) then [.p (.int .i64 (F1 (g e).1.toNat - 1))] else [.p (.int .i64 (F1 i_1))]))⟩),(1568,⟨true,2,1,(fun i_1=>[.p (.int .i64 ((g e).1)),.p (.int .i64 ((g e).2.1))])⟩),(32,⟨true,3,1,(fun i_1=>[.p (.seq true 1 N (fun i_2=>[.int .i64 (F i_2)])),.p (.seq true 1 m (fun i_2=>[.int .i64 (T i_2)])),.p (.seq true 1 m (fun i_2=>[.int .i64 (Q i_2)]))])⟩),(0,⟨true,2,1,(fun i_1=>[.p (.int .i64 (↑N:Int)),.p (.seq true 2 nb (fun i_2=>[.int .i64 ((g i_2).1),.int .i64 ((g i_2).2.1)]))])⟩)] [1888,2976,3200] 1 N (fun i=>if (i=(g e).1.toNat) then [.p (.int .i64 (F1 (g e).1.toNat - 1))] else [.p (.int .i64 (F1 i))]) (fun i=>[.p (.int .i64 (if i=(g e).1.toNat then F1 i - 1 else F1 i))])),(AN 1),(NL (m+1) (m+1)),(CV [(64,⟨true,3,1,(fun i_1=>[.ar 1 1888 0 N,.ar 1 2976 0 (m+1),.ar 1 3200 0 (m+1)])⟩),(2016,⟨true,3,1,(fun i_1=>[.ar 1 1888 0 N,.ar 1 2976 0 (m+1),.ar 1 3200 0 (m+1)])⟩),(3200,⟨false,1,(m+1),(fun i_1=>(if (i_1<m) then [.p (.int .i64 (Q i_1))] else [.p (.int .i64 (↑e:Int))]))⟩),(3168,⟨false,1,1,(fun i_1=>[.p (.int .i64 (↑e:Int))])⟩),(2976,⟨false,1,(m+1),(fun i_1=>(if (i_1<m) then [.p (.int .i64 (T1 i_1))] else [.p (.int .i64 ((g e).1))]))⟩),(2944,⟨false,1,1,(fun i_1=>[.p (.int .i64 ((g e).1))])⟩),(1888,⟨false,1,N,(fun i_1=>(if (i_1=(g e).1.toNat) then [.p (.int .i64 (F1 (g e).1.toNat - 1))] else [.p (.int .i64 (F1 i_1))]))⟩),(1568,⟨true,2,1,(fun i_1=>[.p (.int .i64 ((g e).1)),.p (.int .i64 ((g e).2.1))])⟩),(32,⟨true,3,1,(fun i_1=>[.p (.seq true 1 N (fun i_2=>[.int .i64 (F i_2)])),.p (.seq true 1 m (fun i_2=>[.int .i64 (T i_2)])),.p (.seq true 1 m (fun i_2=>[.int .i64 (Q i_2)]))])⟩),(0,⟨true,2,1,(fun i_1=>[.p (.int .i64 (↑N:Int)),.p (.seq true 2 nb (fun i_2=>[.int .i64 ((g i_2).1),.int .i64 ((g i_2).2.1)]))])⟩)] [1888,2976,3200] 1 (m+1) (fun i=>if (i<m) then [.p (.int .i64 (T1 i))] else [.p (.int .i64 ((g e).1))]) (fun i=>[.p (.int .i64 (if i<m then T1 i else (g e).1))])),(AN 1),(NL (m+1) (m+1)),(CV [(64,⟨true,3,1,(fun i_1=>[.ar 1 1888 0 N,.ar 1 2976 0 (m+1),.ar 1 3200 0 (m+1)])⟩),(2016,⟨true,3,1,(fun i_1=>[.ar 1 1888 0 N,.ar 1 2976 0 (m+1),.ar 1 3200 0 (m+1)])⟩),(3200,⟨false,1,(m+1),(fun i_1=>(if (i_1<m) then [.p (.int .i64 (Q i_1))] else [.p (.int .i64 (↑e:Int))]))⟩),(3168,⟨false,1,1,(fun i_1=>[.p (.int .i64 (↑e:Int))])⟩),(2976,⟨false,1,(m+1),(fun i_1=>(if (i_1<m) then [.p (.int .i64 (T1 i_1))] else [.p (.int .i64 ((g e).1))]))⟩),(2944,⟨false,1,1,(fun i_1=>[.p (.int .i64 ((g e).1))])⟩),(1888,⟨false,1,N,(fun i_1=>(if (i_1=(g e).1.toNat) then [.p (.int .i64 (F1 (g e).1.toNat - 1))] else [.p (.int .i64 (F1 i_1))]))⟩),(1568,⟨true,2,1,(fun i_1=>[.p (.int .i64 ((g e).1)),.p (.int .i64 ((g e).2.1))])⟩),(32,⟨true,3,1,(fun i_1=>[.p (.seq true 1 N (fun i_2=>[.int .i64 (F i_2)])),.p (.seq true 1 m (fun i_2=>[.int .i64 (T i_2)])),.p (.seq true 1 m (fun i_2=>[.int .i64 (Q i_2)]))])⟩),(0,⟨true,2,1,(fun i_1=>[.p (.int .i64 (↑N:Int)),.p (.seq true 2 nb (fun i_2=>[.int .i64 ((g i_2).1),.int .i64 ((g i_2).2.1)]))])⟩)] [1888,2976,3200] 1 (m+1) (fun i=>if (i<m) then [.p (.int .i64 (Q i))] else [.p (.int .i64 (↑e:Int))]) (fun i=>[.p (.int .i64 (if i<m then Q i else (↑e:Int)))])),(AE N),(AE ((m+1))),(AE ((m+1)))]:=by kernel_rfl
theorem nPb (g:Nat→T_Bar) (nb N k l m e:Nat) (F T Q F1 T1:Nat→Int) :
    pathOb Tryz.prog Tryz.f281 0 [rg 4,rm [(3,oc [] (.p (.bool true))),(4,oc [] (.p (.bool true)))] 31,.dec false,rg 7,rm [(8,oc (pebR N m F1 T1 Q) (.tup [pebO N m 0,.p (.bool true)]))] 6,rg 2,.dec false,rg 3,rg 7,.dec true,rg 3,rg 11,rg 7,rg 7,rg 3] [.code (bodyOf Tryz.f281)] (start Tryz.f281 [] 0 [grG g nb N,.p (.int .i64 k),.p (.int .i64 l),pebD N m F T Q,.p (.int .i64 e)]) [1888,3072,3296] 1 (pebR N (m+1) (fun s=>if s=(g e).2.1.toNat then F1 s - 1 else F1 s) (fun s=>if s<m then T1 s else (g e).2.1) (fun s=>if s<m then Q s else e)) (.tup [pebO N (m+1) 0,.p (.bool true)]) =
    some [(NT 0 1),(NT 0 1),Con Tryz.prog 339 0 [] [(zf110 N nb g),.p (.int .i64 (↑k:Int)),(zf62 N F m T Q)] [] (.p (.bool true)),(AG (!!true)),(AG (!!true)),(((!!true)=true)→ Con Tryz.prog 176 0 [] [.p (.int .i64 (↑k:Int)),.p (.int .i64 (↑l:Int))] [] (.p (.bool true))),(AG (!!true)),(((!true)=false)→ ((!!true)=true)),(AG (!bif !true then true else !true)),(((bif !true then true else !true)=false)→ ((!bif !true then true else !true)=true)),(AG (!bif bif !true then true else !true then true else decide ((↑e:Int)<0))),(((!bif bif !true then true else !true then true else decide ((↑e:Int)<0))=true)→(NT 0 1)),(AG (!bif bif !true then true else !true then true else decide ((↑e:Int)<0))),(AG (!bif bif !true then true else !true then true else decide ((↑e:Int)<0))),(AG (!bif bif !true then true else !true then true else decide ((↑e:Int)<0))),(((bif bif !true then true else !true then true else decide ((↑e:Int)<0))=false)→ ((!bif bif !true then true else !true then true else decide ((↑e:Int)<0))=true)),(AG (!bif bif bif !true then true else !true then true else decide ((↑e:Int)<0) then true else decide ((↑e:Int)≥(↑nb:Int)))),(((!bif bif bif !true then true else !true then true else decide ((↑e:Int)<0) then true else decide ((↑e:Int)≥(↑nb:Int)))=true)→(NT 0 1)),(AG (!bif bif bif !true then true else !true then true else decide ((↑e:Int)<0) then true else decide ((↑e:Int)≥(↑nb:Int)))),(AG (!bif bif bif !true then true else !true then true else decide ((↑e:Int)<0) then true else decide ((↑e:Int)≥(↑nb:Int)))),(AG (!bif bif bif !true then true else !true then true else decide ((↑e:Int)<0) then true else decide ((↑e:Int)≥(↑nb:Int)))),(AG ((!bif bif bif !true then true else !true then true else decide ((↑e:Int)<0) then true else decide ((↑e:Int)≥(↑nb:Int)))&&decide ((↑m:Int)>0))),((((!bif bif bif !true then true else !true then true else decide ((↑e:Int)<0) then true else decide ((↑e:Int)≥(↑nb:Int)))&&decide ((↑m:Int)>0))=true)→(NT 0 1)),(AG ((!bif bif bif !true then true else !true then true else decide ((↑e:Int)<0) then true else decide ((↑e:Int)≥(↑nb:Int)))&&decide ((↑m:Int)>0))),((((!bif bif bif !true then true else !true then true else decide ((↑e:Int)<0) then true else decide ((↑e:Int)≥(↑nb:Int)))&&decide ((↑m:Int)>0))=true)→(NT 0 1)),(AG ((!bif bif bif !true then true else !true then true else decide ((↑e:Int)<0) then true else decide ((↑e:Int)≥(↑nb:Int)))&&decide ((↑m:Int)>0))),(AG ((!bif bif bif !true then true else !true then true else decide ((↑e:Int)<0) then true else decide ((↑e:Int)≥(↑nb:Int)))&&decide ((↑m:Int)>0))),((((!bif bif bif !true then true else !true then true else decide ((↑e:Int)<0) then true else decide ((↑e:Int)≥(↑nb:Int)))&&decide ((↑m:Int)>0))=true)→(R0 ((↑m:Int) - 1))),((((!bif bif bif !true then true else !true then true else decide ((↑e:Int)<0) then true else decide ((↑e:Int)≥(↑nb:Int)))&&decide ((↑m:Int)>0))=true)→(R1 ((↑m:Int) - 1))),(AG ((!bif bif bif !true then true else !true then true else decide ((↑e:Int)<0) then true else decide ((↑e:Int)≥(↑nb:Int)))&&decide ((↑m:Int)>0))),(AG ((!bif bif bif !true then true else !true then true else decide ((↑e:Int)<0) then true else decide ((↑e:Int)≥(↑nb:Int)))&&decide ((↑m:Int)>0))),((((!bif bif bif !true then true else !true then true else decide ((↑e:Int)<0) then true else decide ((↑e:Int)≥(↑nb:Int)))&&decide ((↑m:Int)>0))=true)→(IL 0 ((↑m:Int) - 1))),((((!bif bif bif !true then true else !true then true else decide ((↑e:Int)<0) then true else decide ((↑e:Int)≥(↑nb:Int)))&&decide ((↑m:Int)>0))=true)→(IT ((↑m:Int) - 1) (↑m:Int))),(AG ((!bif bif bif !true then true else !true then true else decide ((↑e:Int)<0) then true else decide ((↑e:Int)≥(↑nb:Int)))&&decide ((↑m:Int)>0))),(AG ((!bif bif bif !true then true else !true then true else decide ((↑e:Int)<0) then true else decide ((↑e:Int)≥(↑nb:Int)))&&decide ((↑m:Int)>0))),(AG ((!bif bif bif !true then true else !true then true else decide ((↑e:Int)<0) then true else decide ((↑e:Int)≥(↑nb:Int)))&&decide ((↑m:Int)>0))),(AG (!bif bif bif !true then true else !true then true else decide ((↑e:Int)<0) then true else decide ((↑e:Int)≥(↑nb:Int)))),(((!bif bif bif !true then true else !true then true else decide ((↑e:Int)<0) then true else decide ((↑e:Int)≥(↑nb:Int)))=true)→(((decide ((↑m:Int)>0))=true)→ (((!bif bif bif !true then true else !true then true else decide ((↑e:Int)<0) then true else decide ((↑e:Int)≥(↑nb:Int)))&&decide ((↑m:Int)>0))=true))),(((bif bif bif !true then true else !true then true else decide ((↑e:Int)<0) then true else decide ((↑e:Int)≥(↑nb:Int)))=false)→ ((!bif bif bif !true then true else !true then true else decide ((↑e:Int)<0) then true else decide ((↑e:Int)≥(↑nb:Int)))=true)),((bif bif bif bif !true then true else !true then true else decide ((↑e:Int)<0) then true else decide ((↑e:Int)≥(↑nb:Int)) then true else bif decide ((↑m:Int)>0) then decide (Q ((↑m:Int) - 1).toNat≥(↑e:Int)) else false)=false),(NT 0 1),(IL 0 (↑e:Int)),(IT (↑e:Int) (↑nb:Int)),(NT 0 1),((true=true)→ (AN 1)),(NT 0 1),(NT 0 1),(NT 0 1),(NT 0 1),(R0 ((↑l:Int)+1)),(R1 ((↑l:Int)+1)),Con Tryz.prog 341 0 [] [(zf110 N nb g),(zf62 N F m T Q),.p (.int .i64 ((g e).1)),.p (.int .i64 ((g e).2.1)),.p (.int .i64 ((↑l:Int)+1))] (zf45 N F1 m T1 Q) ((zf123 N m)),(NT 0 1),((true=true)→ (AN 1)),((!true)=false),(NT 0 1),(NT 0 1),(NT 0 1),(IL 0 ((g e).1)),(IT ((g e).1) (↑N:Int)),(NT ((g e).1.toNat) N),((F1 (g e).1.toNat==0)=true),(NT 0 1),(NT 0 1),(NT 0 1),(IL 0 ((g e).2.1)),(IT ((g e).2.1) (↑N:Int)),(NT ((g e).2.1.toNat) N),(R0 (F1 (g e).2.1.toNat - 1)),(R1 (F1 (g e).2.1.toNat - 1)),(IL 0 ((g e).2.1)),(IT ((g e).2.1) (↑N:Int)),(NT ((g e).2.1.toNat) N),((false=true)→ ((N:Nat)=1)),(NT 0 1),(NL 1 1),(NL m m),(NL ((m+1)*8) 140737488355328),(NL (m+1) 9223372036854775807),(NT 0 1),((true=true)→ (AN 1)),(NT 0 1),(NL 1 1),(NL m m),(NL ((m+1)*8) 140737488355328),(NL (m+1) 9223372036854775807),(NT 0 1),((true=true)→ (AN 1)),(NT 0 1),(NT 0 1),((true=true)→ (AN 1)),(NT 0 1),(AN 0),(AN N),(AN 0),(AN ((m+1))),(AN 0),(AN ((m+1))),(true=true),(AN 1),(NL N N),(CV [(64,⟨true,3,1,(fun i_1=>[.ar 1 1888 0 N,.ar 1 3072 0 (m+1),.ar 1 3296 0 (m+1)])⟩),(2016,⟨true,3,1,(fun i_1=>[.ar 1 1888 0 N,.ar 1 3072 0 (m+1),.ar 1 3296 0 (m+1)])⟩),(3296,⟨false,1,(m+1),(fun i_1=>(if (i_1<m) then [.p (.int .i64 (Q i_1))] else [.p (.int .i64 (↑e:Int))]))⟩),(3264,⟨false,1,1,(fun i_1=>[.p (.int .i64 (↑e:Int))])⟩),(3072,⟨false,1,(m+1),(fun i_1=>(if (i_1<m) then [.p (.int .i64 (T1 i_1))] else [.p (.int .i64 ((g e).2.1))]))⟩),(3040,⟨false,1,1,(fun i_1=>[.p (.int .i64 ((g e).2.1))])⟩),(1888,⟨false,1,N,(fun i_1=>(if (i_1=(g e).2.1.toNat) then [.p (.int .i64 (F1 (g e).2.1.toNat - 1))] else [.p (.int .i64 (F1 i_1))]))⟩),(1568,⟨true,2,1,(fun i_1=>[.p (.int .i64 ((g e).1)),.p (.int .i64 ((g e).2.1))])⟩),(32,⟨true,3,1,(fun i_1=>[.p (.seq true 1 N (fun i_2=>[.int .i64 (F i_2)])),.p (.seq true 1 m (fun i_2=>[.int .i64 (T i_2)])),.p (.seq true 1 m (fun i_2=>[.int .i64 (Q i_2)]))])⟩),(0,⟨true,2,1,(fun i_1=>[.p (.int .i64 (↑N:Int)),.p (.seq true 2 nb (fun i_2=>[.int .i64 ((g i_2).1),.int .i64 ((g i_2).2.1)]))])⟩)] [1888,3072,3296] 1 N (fun i=>if (i=(g e).2.1.toNat) then [.p (.int .i64 (F1 (g e).2.1.toNat - 1))] else [.p (.int .i64 (F1 i))]) (fun i=>[.p (.int .i64 (if i=(g e).2.1.toNat then F1 i - 1 else F1 i))])),(AN 1),(NL (m+1) (m+1)),(CV [(64,⟨true,3,1,(fun i_1=>[.ar 1 1888 0 N,.ar 1 3072 0 (m+1),.ar 1 3296 0 (m+1)])⟩),(2016,⟨true,3,1,(fun i_1=>[.ar 1 1888 0 N,.ar 1 3072 0 (m+1),.ar 1 3296 0 (m+1)])⟩),(3296,⟨false,1,(m+1),(fun i_1=>(if (i_1<m) then [.p (.int .i64 (Q i_1))] else [.p (.int .i64 (↑e:Int))]))⟩),(3264,⟨false,1,1,(fun i_1=>[.p (.int .i64 (↑e:Int))])⟩),(3072,⟨false,1,(m+1),(fun i_1=>(if (i_1<m) then [.p (.int .i64 (T1 i_1))] else [.p (.int .i64 ((g e).2.1))]))⟩),(3040,⟨false,1,1,(fun i_1=>[.p (.int .i64 ((g e).2.1))])⟩),(1888,⟨false,1,N,(fun i_1=>(if (i_1=(g e).2.1.toNat) then [.p (.int .i64 (F1 (g e).2.1.toNat - 1))] else [.p (.int .i64 (F1 i_1))]))⟩),(1568,⟨true,2,1,(fun i_1=>[.p (.int .i64 ((g e).1)),.p (.int .i64 ((g e).2.1))])⟩),(32,⟨true,3,1,(fun i_1=>[.p (.seq true 1 N (fun i_2=>[.int .i64 (F i_2)])),.p (.seq true 1 m (fun i_2=>[.int .i64 (T i_2)])),.p (.seq true 1 m (fun i_2=>[.int .i64 (Q i_2)]))])⟩),(0,⟨true,2,1,(fun i_1=>[.p (.int .i64 (↑N:Int)),.p (.seq true 2 nb (fun i_2=>[.int .i64 ((g i_2).1),.int .i64 ((g i_2).2.1)]))])⟩)] [1888,3072,3296] 1 (m+1) (fun i=>if (i<m) then [.p (.int .i64 (T1 i))] else [.p (.int .i64 ((g e).2.1))]) (fun i=>[.p (.int .i64 (if i<m then T1 i else (g e).2.1))])),(AN 1),(NL (m+1) (m+1)),(CV [(64,⟨true,3,1,(fun i_1=>[.ar 1 1888 0 N,.ar 1 3072 0 (m+1),.ar 1 3296 0 (m+1)])⟩),(2016,⟨true,3,1,(fun i_1=>[.ar 1 1888 0 N,.ar 1 3072 0 (m+1),.ar 1 3296 0 (m+1)])⟩),(3296,⟨false,1,(m+1),(fun i_1=>(if (i_1<m) then [.p (.int .i64 (Q i_1))] else [.p (.int .i64 (↑e:Int))]))⟩),(3264,⟨false,1,1,(fun i_1=>[.p (.int .i64 (↑e:Int))])⟩),(3072,⟨false,1,(m+1),(fun i_1=>(if (i_1<m) then [.p (.int .i64 (T1 i_1))] else [.p (.int .i64 ((g e).2.1))]))⟩),(3040,⟨false,1,1,(fun i_1=>[.p (.int .i64 ((g e).2.1))])⟩),(1888,⟨false,1,N,(fun i_1=>(if (i_1=(g e).2.1.toNat) then [.p (.int .i64 (F1 (g e).2.1.toNat - 1))] else [.p (.int .i64 (F1 i_1))]))⟩),(1568,⟨true,2,1,(fun i_1=>[.p (.int .i64 ((g e).1)),.p (.int .i64 ((g e).2.1))])⟩),(32,⟨true,3,1,(fun i_1=>[.p (.seq true 1 N (fun i_2=>[.int .i64 (F i_2)])),.p (.seq true 1 m (fun i_2=>[.int .i64 (T i_2)])),.p (.seq true 1 m (fun i_2=>[.int .i64 (Q i_2)]))])⟩),(0,⟨true,2,1,(fun i_1=>[.p (.int .i64 (↑N:Int)),.p (.seq true 2 nb (fun i_2=>[.int .i64 ((g i_2).1),.int .i64 ((g i_2).2.1)]))])⟩)] [1888,3072,3296] 1 (m+1) (fun i=>if (i<m) then [.p (.int .i64 (Q i))] else [.p (.int .i64 (↑e:Int))]) (fun i=>[.p (.int .i64 (if i<m then Q i else (↑e:Int)))])),(AE N),(AE ((m+1))),(AE ((m+1)))]:=by kernel_rfl
theorem nUz (g:Nat→T_Bar) (nb N k l:Nat) :
    pieceOb Tryz.prog 0 [rg 3,rm [(2,oc (pebR N 0 (fun _=>k) (fun _=>0) (fun _=>0)) (.tup [pebO N 0 0,.p (.bool true)]))] 6,rm [(5,oc [] (.p (.bool true)))] 2,.dec false,rg 1,.head] [.code (bodyOf Tryz.f169)] (start Tryz.f169 [] 0 [grG g nb N,.p (.int .i64 k),.p (.int .i64 l)]) [0,32,288,160,161,162] 1 (SRu g nb N k l 0 (fun _=>k) (fun _=>0) (fun _=>0) 0) =
    some (zf54,[(NT 0 1),Con Tryz.prog 280 0 [] [(zf110 N nb g),.p (.int .i64 (↑k:Int))] [(0,⟨false,1,N,(fun i=>[.p (.int .i64 (↑k:Int))])⟩),(1,⟨false,1,0,(fun i=>[.p (.int .i64 0)])⟩),(2,⟨false,1,0,(fun i=>[.p (.int .i64 0)])⟩)] (.tup [.agg [.ar 1 0 0 N,.ar 1 1 0 0,.ar 1 2 0 0],.p (.bool true)]),(NT 0 1),((true=true)→ (AN 1)),(AG (!!true)),(AG (!!true)),(((!!true)=true)→ Con Tryz.prog 176 0 [] [.p (.int .i64 (↑k:Int)),.p (.int .i64 (↑l:Int))] [] (.p (.bool true))),(AG (!!true)),(((!true)=false)→ ((!!true)=true)),((bif !true then true else !true)=false),(AI ((↑N:Int))),(AN nb),(AP nb (fun i=>[.int .i64 ((g i).1),.int .i64 ((g i).2.1)])),(AI ((↑k:Int))),(AI ((↑l:Int))),(AN 0),(AN 0),(AN 0),((0:Int)=(↑0:Int)),((([AV.p (PV.int IntKind.i64 (↑N:Int)),brL g nb].length):Nat)=2),(NL 1 1),(NL 1 1),(AI ((↑N:Int))),(AN nb),(AP nb (fun i=>[.int .i64 ((g i).1),.int .i64 ((g i).2.1)])),((((List.map (fun v=>AV.p (absV v)) [Value.slice none 0 0,Value.slice none 0 0,Value.slice none 0 0]).length):Nat)=3),(NL 1 1),(NL 1 1),((((List.map (fun v=>AV.p (absV v)) [Value.slice none 0 0,Value.slice none 0 0,Value.slice none 0 0]).length):Nat)=3),(NL 1 1),(NL 1 1),(AN 0),(AN N),(AN 0),(AN 0),(AN 0),(AN 0),(AN 1),(NL N N),(AA N (fun i=>[.p (.int .i64 (↑k:Int))])),(AN 1),(NL 0 0),(AA 0 (fun i=>[.p (.int .i64 0)])),(AN 1),(NL 0 0),(AA 0 (fun i=>[.p (.int .i64 0)]))]):=by kernel_rfl
theorem nUl (g:Nat→T_Bar) (nb N k l m m':Nat) (F T Q F' T' Q':Nat→Int) (i:Nat) (r:Bool) :
    pieceOb Tryz.prog 0 [rg 5,.dec true,rm [(5,oc (pebR N m' F' T' Q') (.tup [pebO N m' 0,.p (.bool r)]))] 4,rg 3,.head] zf54 (SRu g nb N k l m F T Q i) [0,1,2,326,327,328] 1 (SRu g nb N k l m' F' T' Q' (i+1)) =
    some (zf54,[(NT 0 1),((decide ((↑i:Int)<(↑nb:Int)))=true),(NT 0 1),(NT 0 1),(AN 1),(NL N N),(AN 1),(NL m m),(AN 1),(NL m m),Con Tryz.prog 281 0 [] [(zf105 N nb g),.p (.int .i64 (↑k:Int)),.p (.int .i64 (↑l:Int)),(zf46 N F m T Q),.p (.int .i64 (↑i:Int))] (zf41 N F' m' T' Q') (.tup [.agg [.ar 1 0 0 N,.ar 1 1 0 m',.ar 1 2 0 m'],.p (.bool r)]),(NT 0 1),((true=true)→ (AN 1)),(R0 ((↑i:Int)+1)),(R1 ((↑i:Int)+1)),(AI ((↑N:Int))),(AN nb),(AP nb (fun i_1=>[.int .i64 ((g i_1).1),.int .i64 ((g i_1).2.1)])),(AI ((↑k:Int))),(AI ((↑l:Int))),(AN 0),(AN 0),(AN 0),((((↑i:Int)+1):Int)=(↑(i+1):Int)),(AN 2),(NL 1 1),(NL 1 1),(AI ((↑N:Int))),(AN nb),(AP nb (fun i_1=>[.int .i64 ((g i_1).1),.int .i64 ((g i_1).2.1)])),(AN 3),(NL 1 1),(NL 1 1),(AN 3),(NL 1 1),(NL 1 1),(AN 0),(AN N),(AN 0),(AN (m')),(AN 0),(AN (m')),(AN 1),(NL N N),(AA N (fun i_1=>[.p (.int .i64 (F' i_1))])),(AN 1),(NL (m') (m')),(AA (m') (fun i_1=>[.p (.int .i64 (T' i_1))])),(AN 1),(NL (m') (m')),(AA (m') (fun i_1=>[.p (.int .i64 (Q' i_1))]))]):=by kernel_rfl
theorem nUe (g:Nat→T_Bar) (nb N k l m:Nat) (F T Q:Nat→Int) (i:Nat) :
    pathOb Tryz.prog Tryz.f169 0 [rg 5,.dec false,rg 3] zf54 (SRu g nb N k l m F T Q i) [3,4,5] 1 (pebR N m F T Q) (.tup [pebO N m 0,.p (.bool true)]) =
    some [(NT 0 1),((decide ((↑i:Int)<(↑nb:Int)))=false),(NT 0 1),(NT 0 1),((true=true)→ (AN 1)),(NT 0 1),(AN 0),(AN N),(AN 0),(AN m),(AN 0),(AN m),(true=true),(AN 1),(NL N N),(AA N (fun i_1=>[.p (.int .i64 (F i_1))])),(AN 1),(NL m m),(AA m (fun i_1=>[.p (.int .i64 (T i_1))])),(AN 1),(NL m m),(AA m (fun i_1=>[.p (.int .i64 (Q i_1))])),(AE N),(AE m),(AE m)]:=by kernel_rfl
end Go.Proofs.YtkkjoghiigiokaaGreat.Mach
namespace Go.Proofs.YtkkjoghiigiokaaGreat.Mach
open Go
set_option linter.unusedVariables false
set_option linter.unusedSimpArgs false
theorem con_IsRange_i (k l:Nat) (hk:1≤k∧k≤3) (hl:l+1≤2*k):Con Tryz.prog 189 0 [] [.p (.int .i64 k),.p (.int .i64 l)] [] (.p (.bool true)):=by
  have h1:=con_within k 1 3
  rw [show inB k 1 3=true by simp [inB];omega] at h1
  have h2:=con_within l 0 (2*(k:Int) - 1)
  rw [show inB l 0 (2*(k:Int) - 1)=true by simp [inB];omega] at h2
  refine con_start Tryz.func189 rfl (by kernel_rfl) rfl (fun c hc=>?_)
  refine path_ok mixed Tryz.func189 hc (nRi k l) ?_
  repeat' (first | exact aN | apply aI)
  all_goals (first | exact aG _ | omega | rfl | (intros;first | assumption | exact trivial | rfl | exact fT ‹_› | ((repeat' (first | assumption | apply anda | apply notf));done)) | (exact h1) | (intros;exact h2) | (intros;omega) | (simp;done))
theorem con_IsRange_s (k l:Nat) (hk:1≤k∧k≤3) (hl:l+1≤2*k):Con Tryz.prog 176 0 [] [.p (.int .i64 k),.p (.int .i64 l)] [] (.p (.bool true)):=by
  have h1:=con_l1In k 1 3
  rw [show inB k 1 3=true by simp [inB];omega] at h1
  refine con_start Tryz.func176 rfl (by kernel_rfl) rfl (fun c hc=>?_)
  refine path_ok mixed Tryz.func176 hc (nRs k l) ?_
  repeat' (first | exact aN | apply aI)
  all_goals (first | exact aG _ | omega | rfl | (intros;first | assumption | exact trivial | rfl | exact fT ‹_› | ((repeat' (first | assumption | apply anda | apply notf));done)) | (exact h1) | (intros;omega) | (simp;omega))
def NonN (Q:Nat→Int) (m:Nat):Prop:=∀ j,j<m→0≤Q j
theorem con_RunPebbles_i {N nb:Nat} {g:Nat→T_Bar} (hg:isGraphF ((N:Int),(nb,g),())=true) (k l:Nat) (hk:1≤k∧k≤3) (hl:l+1≤2*k) :
    ∃ m F T Q,Con Tryz.prog 185 0 [] [grG g nb N,.p (.int .i64 k),.p (.int .i64 l)] (pebR N m F T Q) (.tup [pebO N m 0,.p (.bool true)])∧m≤24∧NonN Q m∧qL Q m=accI N k l g nb:=by
  obtain ⟨hN,hnb,hok⟩:=graph_in hg
  have hsm:smS s_Graph ((N:Int),(nb,g),()):=⟨by simp [smS,smL],⟨by show nb≤1048576;omega,fun i hi=>by simp [smS,smL]⟩,True.intro⟩
  have hcg:=con_IsGraph_i ((N:Int),(nb,g),()) hsm
  rw [hg] at hcg
  have hr:=con_IsRange_i k l hk hl
  obtain ⟨m,F,T,Q,hc1,hp,hq⟩:=con_play (N:=N) (k:=k) (l:=l) hok (by omega) (by omega) (by omega) (by omega)
  have hm:m≤24:=by
    have:=accI_len N k l g nb
    rw [← hq,qL_length] at this;omega
  refine ⟨m,F,T,Q,?_,hm,fun j hj=>(hp.q j hj).1,hq⟩
  refine con_start Tryz.func185 rfl (by kernel_rfl) rfl (fun c hc=>?_)
  refine path_ok mixed Tryz.func185 hc (nUi g nb N k l m F T Q) ?_
  repeat' (first | exact aN | apply aI)
  all_goals (first | exact aG _ | exact aA _ _ | exact aE _ | omega | rfl | (intros;first | assumption | exact trivial | rfl | exact fT ‹_› | ((repeat' (first | assumption | apply anda | apply notf));done)) | (exact hcg) | (intros;exact hr) | (exact hc1) | (simp;done) | (intro i hi;simp [All]))
theorem con_RankOf_i {N nb:Nat} {g:Nat→T_Bar} (hg:isGraphF ((N:Int),(nb,g),())=true) (k l:Nat) (hk:1≤k∧k≤3) (hl:l+1≤2*k) :
    Con Tryz.prog 288 0 [] [grG g nb N,.p (.int .i64 k),.p (.int .i64 l)] [] (.p (.int .i64 ((accI N k l g nb).length:Nat))):=by
  obtain ⟨m,F,T,Q,hrun,hm,hn,hq⟩:=con_RunPebbles_i hg k l hk hl
  rw [← hq,qL_length]
  refine con_start Tryz.func288 rfl (by kernel_rfl) rfl (fun c hc=>?_)
  refine path_ok mixed Tryz.func288 hc (nKi g nb N k l m F T Q) ?_
  repeat' (first | exact aN | apply aI)
  all_goals (first | omega | rfl | (intros;first | assumption | exact trivial | rfl | exact fT ‹_› | ((repeat' (first | assumption | apply anda | apply notf));done)) | (exact hrun) | (simp;done) | (intro i hi;simp [All]))
theorem con_l4Tail (N m:Nat) (F T Q:Nat→Int) (x:Int) (hm:m≤1048576):Con Tryz.prog 376 0 [] [pebD N m F T Q,.p (.int .i64 x)] [] (.p (.int .i64 (tcI T m x))):=by
  have hle:∀ i,0≤tcI T i x∧tcI T i x≤i:=by
    intro i
    induction i with
    | zero=>simp [tcI]
    | succ i ih=>simp only [tcI];split<;>omega
  refine con_start Tryz.func376 rfl (by kernel_rfl) rfl (fun c hc=>?_)
  have lp:∀ d i,i+d=m→Run Tryz.prog c 376 zf64 (ST0 N m F T Q x i) (Post c [] (.p (.int .i64 (tcI T m x)))):=by
    intro d
    induction d with
    | zero =>
      intro i hi
      have hi':i=m:=by omega
      have hd:decide ((i:Int)<(m:Int))=false:=by simp;omega
      rw [show tcI T m x=tcI T i x by rw [hi']]
      refine path_ok mixed Tryz.func376 hc (nTe N m F T Q x i) ?_
      repeat' (first | exact aN | apply aI)
      all_goals (first | omega | rfl | (intros;first | assumption | exact trivial | rfl | exact fT ‹_› | ((repeat' (first | assumption | apply anda | apply notf));done)) | (exact hd) | (simp;done))
    | succ d ih =>
      intro i hi
      have hd:decide ((i:Int)<(m:Int))=true:=by simp;omega
      have hl:=hle i
      by_cases h:T i=x
      · have hb:(T i==x)=true:=by simp [h]
        refine piece_ok mixed hc (nTt N m F T Q x i) ?_ (ih (i+1) (by omega))
        repeat' (first | exact aN | apply aI)
        all_goals (first | exact aP _ _ | omega | rfl | (intros;first | assumption | exact trivial | rfl | exact fT ‹_› | ((repeat' (first | assumption | apply anda | apply notf));done)) | (exact hb) | (simp only [tcI,h,if_true];done) | (simp only [tcI,h,if_true];omega) | (intro j hj;simp [All]))
      · have hb:(T i==x)=false:=by simp [h]
        refine piece_ok mixed hc (nTf N m F T Q x i) ?_ (ih (i+1) (by omega))
        repeat' (first | exact aN | apply aI)
        all_goals (first | exact aP _ _ | omega | rfl | (intros;first | assumption | exact trivial | rfl | exact fT ‹_› | ((repeat' (first | assumption | apply anda | apply notf));done)) | (exact hb) | (simp only [tcI,h,if_false];omega) | (intro j hj;simp [All]))
  refine piece_ok mixed hc (nTz N m F T Q x) ?_ (lp m 0 (by omega))
  repeat' (first | exact aN | apply aI)
  all_goals (first | exact aP _ _ | omega | rfl | (intros;first | assumption | exact trivial | rfl | exact fT ‹_› | ((repeat' (first | assumption | apply anda | apply notf));done)) | (intro j hj;simp [All]))
def Asc (Q:Nat→Int) (m:Nat):Prop:=∀ j,j+1<m→Q j<Q (j+1)
theorem badI_f {N k nb m:Nat} {g:Nat→T_Bar} {F T Q:Nat→Int} (hp:PInv N k nb m g F T Q) (ha:Asc Q m) (i:Nat) (hi:i<m):badI g nb T Q i=false:=by
  have h1:=hp.q i hi
  have h2:=hp.t i hi
  have a1:decide (Q i<0)=false:=by simp;omega
  have a2:decide (Q i≥(nb:Int))=false:=by simp;omega
  have a3:(bif decide ((i:Int)>0) then decide (Q ((i:Int) - 1).toNat≥Q i) else false)=false:=by
    by_cases h:i=0
    · subst h;rfl
    · have:=ha (i - 1) (by omega)
      have e:((i:Int) - 1).toNat=i - 1:=by omega
      rw [show i - 1+1=i by omega] at this
      rw [e]
      have h4:decide (Q (i - 1)≥Q i)=false:=by simp;omega
      rw [h4]
      cases decide ((i:Int)>0)<;>rfl
  have a4:(bif T i != (g (Q i).toNat).1 then T i != (g (Q i).toNat).2.1 else false)=false:=by
    rcases h2 with e | e
    · rw [show (T i != (g (Q i).toNat).1)=false by simp [e]];rfl
    · rw [show (T i != (g (Q i).toNat).2.1)=false by simp [e]]
      cases (T i != (g (Q i).toNat).1)<;>rfl
  unfold badI
  rw [a1,a2,a3,a4]
  rfl
theorem con_IsPebbles {N k nb m:Nat} {g:Nat→T_Bar} {F T Q:Nat→Int} (hp:PInv N k nb m g F T Q) (ha:Asc Q m) (hg:isGraphF ((N:Int),(nb,g),())=true) (hk:1≤k∧k≤3) (hm:m≤1048576) :
    Con Tryz.prog 339 0 [] [grG g nb N,.p (.int .i64 k),pebD N m F T Q] [] (.p (.bool true)):=by
  obtain ⟨hN,hnb,hok⟩:=graph_in hg
  have hsm:smS s_Graph ((N:Int),(nb,g),()):=⟨by simp [smS,smL],⟨by show nb≤1048576;omega,fun i hi=>by simp [smS,smL]⟩,True.intro⟩
  have hcg:=con_IsGraph_s ((N:Int),(nb,g),()) hsm
  rw [hg] at hcg
  have h1:=con_l1In k 1 3
  rw [show inB k 1 3=true by simp [inB];omega] at h1
  refine con_start Tryz.func339 rfl (by kernel_rfl) rfl (fun c hc=>?_)
  have lp1:∀ d i,i+d=N→Run Tryz.prog c 339 zf53 (SI1 g nb N k m F T Q i) (Post c [] (.p (.bool true))):=by
    intro d
    induction d with
    | zero =>
      intro i hi
      have hd:decide ((i:Int)<(N:Int))=false:=by simp;omega
      refine path_ok mixed Tryz.func339 hc (nJe g nb N k m F T Q i) ?_
      repeat' (first | exact aN | apply aI)
      all_goals (first | omega | rfl | (intros;first | assumption | exact trivial | rfl | exact fT ‹_› | ((repeat' (first | assumption | apply anda | apply notf));done)) | (exact hd) | (simp;done))
    | succ d ih =>
      intro i hi
      have hd:decide ((i:Int)<(N:Int))=true:=by simp;omega
      have ht:=con_l4Tail N m F T Q i hm
      have hf0:=hp.f0 i (by omega)
      have hsum:=hp.sum i (by omega)
      have htn:=tcI_nonneg T i m
      have hb:(bif decide (F i<0) then true else F i+tcI T m i != (k:Int))=false:=by
        have h4:decide (F i<0)=false:=by simp;omega
        rw [h4]
        simp [hsum]
      refine piece_ok mixed hc (nI1 g nb N k m F T Q i) ?_ (ih (i+1) (by omega))
      repeat' (first | exact aN | apply aI)
      all_goals (first | exact aG _ | exact aP _ _ | omega | rfl | (intros;first | assumption | exact trivial | rfl | exact fT ‹_› | ((repeat' (first | assumption | apply anda | apply notf));done)) | (intros;exact ht) | (exact hb) | (intros;omega) | (intro j hj;simp [All]))
  have lp0:∀ d i,i+d=m→Run Tryz.prog c 339 zf65 (SI0 g nb N k m F T Q i) (Post c [] (.p (.bool true))):=by
    intro d
    induction d with
    | zero =>
      intro i hi
      have hd:decide ((i:Int)<(m:Int))=false:=by simp;omega
      refine piece_ok mixed hc (nI01 g nb N k m F T Q i) ?_ (lp1 N 0 (by omega))
      repeat' (first | exact aN | apply aI)
      all_goals (first | exact aP _ _ | omega | rfl | (intros;first | assumption | exact trivial | rfl | exact fT ‹_› | ((repeat' (first | assumption | apply anda | apply notf));done)) | (exact hd) | (intro j hj;simp [All]))
    | succ d ih =>
      intro i hi
      have him:i<m:=by omega
      have hd:decide ((i:Int)<(m:Int))=true:=by simp;omega
      have hbad:=badI_f hp ha i him
      have hq:=hp.q i him
      refine piece_ok mixed hc (nI0 g nb N k m F T Q i) ?_ (ih (i+1) (by omega))
      repeat' (first | exact aN | apply aI)
      all_goals (first | exact aG _ | exact aP _ _ | omega | rfl | (intros;first | assumption | exact trivial | rfl | exact fT ‹_› | ((repeat' (first | assumption | apply anda | apply notf));done)) | (exact hbad) | (intros;omega) | (intro h;have:=idx_lt h him;omega) | (intro h;show (0:Int)≤Q i∧Q i<nb;omega) | (intro j hj;simp [All]))
  refine piece_ok mixed hc (nJz g nb N k m F T Q) ?_ (lp0 m 0 (by omega))
  repeat' (first | exact aN | apply aI)
  all_goals (first | exact aG _ | exact aP _ _ | omega | rfl | (intros;first | assumption | exact trivial | rfl | exact fT ‹_› | ((repeat' (first | assumption | apply anda | apply notf));done)) | (exact hcg) | (intros;exact h1) | (simp;done) | (intro j hj;simp [All]))
theorem con_PlaceBar {N k nb m l e:Nat} {g:Nat→T_Bar} {F T Q:Nat→Int} (hp:PInv N k nb m g F T Q) (ha:Asc Q m) (hlt:∀ j,j<m→Q j<e) (hg:isGraphF ((N:Int),(nb,g),())=true) (hk:1≤k∧k≤3) (hl:l+1≤2*k) (hm:m≤1000) (he:e<nb)
    (hsp:Mat.Sparse N k l (plL g Q m)) :
    (∃ F' T',Con Tryz.prog 281 0 [] [grG g nb N,.p (.int .i64 k),.p (.int .i64 l),pebD N m F T Q,.p (.int .i64 (e:Nat))] (pebR N (m+1) F' T' (fun s=>if s<m then Q s else e)) (.tup [pebO N (m+1) 0,.p (.bool true)]) ∧
      PInv N k nb (m+1) g F' T' (fun s=>if s<m then Q s else e)∧Mat.Sparse N k l (plL g Q m++[brN (g e)])) ∨
    (Con Tryz.prog 281 0 [] [grG g nb N,.p (.int .i64 k),.p (.int .i64 l),pebD N m F T Q,.p (.int .i64 (e:Nat))] (pebR N m F T Q) (.tup [pebO N m 0,.p (.bool false)])∧¬ Mat.Sparse N k l (plL g Q m++[brN (g e)])):=by
  obtain ⟨hN,hnb,hok⟩:=graph_in hg
  have hbar:=hok e he
  have hip:=con_IsPebbles hp ha hg hk (by omega)
  have hir:=con_IsRange_s k l hk hl
  have hcc:=con_l4Copy N m F T Q (by omega) (by omega)
  have hb:(bif bif bif bif !true then true else !true then true else decide ((e:Int)<0) then true else decide ((e:Int)≥(nb:Int)) then true else bif decide ((m:Int)>0) then decide (Q ((m:Int) - 1).toNat≥(e:Int)) else false)=false:=by
    have b1:decide ((e:Int)<0)=false:=decide_eq_false (by omega)
    have b2:decide ((e:Int)≥(nb:Int))=false:=by simp;omega
    have b3:(bif decide ((m:Int)>0) then decide (Q ((m:Int) - 1).toNat≥(e:Int)) else false)=false:=by
      by_cases h:m=0
      · subst h;rfl
      · have:=hlt ((m:Int) - 1).toNat (by omega)
        have h4:decide (Q ((m:Int) - 1).toNat≥(e:Int))=false:=decide_eq_false (by omega)
        rw [h4]
        cases decide ((m:Int)>0)<;>rfl
    rw [b1,b2,b3];rfl
  obtain ⟨F1,T1,r,hc1,h1,h2,h3⟩:=con_l4Gather (l:=l) (a:=(g e).1) (b:=(g e).2.1) hp (by omega) (by omega) (by omega) (by omega) (by omega) (by omega) (by omega)
  have hlA:=h1.le (v:=(g e).1.toNat) (by omega)
  have hlB:=h1.le (v:=(g e).2.1.toNat) (by omega)
  cases r with
  | false =>
    right
    refine ⟨?_,h3 rfl⟩
    refine con_start Tryz.func281 rfl (by kernel_rfl) rfl (fun c hc=>?_)
    refine path_ok mixed Tryz.func281 hc (nPf g nb N k l m e F T Q F1 T1) ?_
    repeat' (first | exact aN | apply aI)
    all_goals (first | exact aG _ | exact aA _ _ | exact aE _ | omega | rfl | (intros;first | assumption | exact trivial | rfl | exact fT ‹_› | ((repeat' (first | assumption | apply anda | apply notf));done)) | (exact hip) | (intros;exact hir) | (exact hb) | (exact hc1) | (exact hcc) | (simp;done) | (intro h;have:=idx_lt h (Nat.lt_succ_self m);omega) | (intro i hi;simp [All]))
  | true =>
    left
    have hw:=h2 rfl
    have hacc:Mat.Sparse N k l (plL g Q m++[brN (g e)]):=by
      have:=(h1.game l).accept (by rw [barsOf_gm];exact hsp) (g e).1.toNat (g e).2.1.toNat ⟨by show (g e).1.toNat≠(g e).2.1.toNat;omega,by show (g e).1.toNat<N;omega,by show (g e).2.1.toNat<N;omega⟩
        (by show l+1≤(F1 (g e).1.toNat).toNat+(F1 (g e).2.1.toNat).toNat;omega)
      rw [barsOf_gm] at this
      exact this
    by_cases hz:F1 (g e).1.toNat=0
    · have hzb:(F1 (g e).1.toNat==0)=true:=by simp [hz]
      refine ⟨_,_,?_,h1.placed e he (g e).2.1 (.inr rfl) (by omega),hacc⟩
      refine con_start Tryz.func281 rfl (by kernel_rfl) rfl (fun c hc=>?_)
      refine path_ok mixed Tryz.func281 hc (nPb g nb N k l m e F T Q F1 T1) ?_
      repeat' (first | exact aN | apply aI)
      all_goals (first | exact aG _ | exact aE _ | omega | rfl | (intros;first | assumption | exact trivial | rfl | exact fT ‹_› | ((repeat' (first | assumption | apply anda | apply notf));done)) | (exact hip) | (intros;exact hir) | (exact hb) | (exact hc1) | (exact hzb) | (simp;done) | (intro h;have:=idx_lt h (Nat.lt_succ_self m);omega) | (intro i hi;simp [All];done) | (intro i hi;by_cases h:i<m<;>simp [h,cvtL,cvt,tg,tru,All];done) | (intro i hi;by_cases h:i=(g e).2.1.toNat<;>simp [h,cvtL,cvt,tg,tru,All]))
    · have hzb:(F1 (g e).1.toNat==0)=false:=by simp [hz]
      refine ⟨_,_,?_,h1.placed e he (g e).1 (.inl rfl) (by omega),hacc⟩
      refine con_start Tryz.func281 rfl (by kernel_rfl) rfl (fun c hc=>?_)
      refine path_ok mixed Tryz.func281 hc (nPa g nb N k l m e F T Q F1 T1) ?_
      repeat' (first | exact aN | apply aI)
      all_goals (first | exact aG _ | exact aE _ | omega | rfl | (intros;first | assumption | exact trivial | rfl | exact fT ‹_› | ((repeat' (first | assumption | apply anda | apply notf));done)) | (exact hip) | (intros;exact hir) | (exact hb) | (exact hc1) | (exact hzb) | (simp;done) | (intro h;have:=idx_lt h (Nat.lt_succ_self m);omega) | (intro i hi;simp [All];done) | (intro i hi;by_cases h:i<m<;>simp [h,cvtL,cvt,tg,tru,All];done) | (intro i hi;by_cases h:i=(g e).1.toNat<;>simp [h,cvtL,cvt,tg,tru,All]))
theorem con_RunPebbles_s {N nb:Nat} {g:Nat→T_Bar} (hg:isGraphF ((N:Int),(nb,g),())=true) (k l:Nat) (hk:1≤k∧k≤3) (hl:l+1≤2*k) :
    ∃ m F T Q,Con Tryz.prog 169 0 [] [grG g nb N,.p (.int .i64 k),.p (.int .i64 l)] (pebR N m F T Q) (.tup [pebO N m 0,.p (.bool true)])∧m≤24∧NonN Q m∧qL Q m=accI N k l g nb:=by
  obtain ⟨hN,hnb,hok⟩:=graph_in hg
  have hr:=con_IsRange_s k l hk hl
  have hn:=con_NewPebbles (nb:=nb) (g:=g) (N:=N) (k:=k) (by omega) hk hg (by omega)
  have lp:∀ d i m F T Q,i+d=nb→PInv N k nb m g F T Q→Asc Q m→(∀ j,j<m→Q j<(i:Nat))→qL Q m=accI N k l g i →
      ∃ m' F' T' Q',(∀ c,c.n=0→Run Tryz.prog c 169 zf54 (SRu g nb N k l m F T Q i) (Post c (pebR N m' F' T' Q') (.tup [pebO N m' 0,.p (.bool true)])))∧NonN Q' m'∧qL Q' m'=accI N k l g nb:=by
    intro d
    induction d with
    | zero =>
      intro i m F T Q hi hp ha hlt hq
      have hi':i=nb:=by omega
      refine ⟨m,F,T,Q,fun c hc=>?_,fun j hj=>(hp.q j hj).1,by rw [hq,hi']⟩
      have hd:decide ((i:Int)<(nb:Int))=false:=by simp;omega
      refine path_ok mixed Tryz.func169 hc (nUe g nb N k l m F T Q i) ?_
      repeat' (first | exact aN | apply aI)
      all_goals (first | exact aA _ _ | exact aE _ | omega | rfl | (intros;first | assumption | exact trivial | rfl | exact fT ‹_› | ((repeat' (first | assumption | apply anda | apply notf));done)) | (exact hd) | (intro j hj;simp [All]))
    | succ d ih =>
      intro i m F T Q hi hp ha hlt hq
      have hd:decide ((i:Int)<(nb:Int))=true:=by simp;omega
      have hm:m≤24:=by
        have:=accI_len N k l g i
        rw [← hq,qL_length] at this;omega
      have hsp:Mat.Sparse N k l (plL g Q m):=by rw [plL_qL,hq];exact accI_sparse N k l g i
      rcases con_PlaceBar (e:=i) hp ha hlt hg hk hl (by omega) (by omega) hsp with ⟨F1,T1,hc1,hp1,hs1⟩ | ⟨hc1,hs1⟩
      · obtain ⟨m',F',T',Q',hrun,h2⟩:=ih (i+1) (m+1) F1 T1 _ (by omega) hp1 (fun j hj=>by
          show (if j<m then Q j else (i:Int))<(if j+1<m then Q (j+1) else (i:Int))
          rw [if_pos (show j<m by omega)]
          by_cases h:j+1<m
          · rw [if_pos h];exact ha j h
          · rw [if_neg h];exact hlt j (by omega)) (fun j hj=>by
          show (if j<m then Q j else (i:Int))<((i+1:Nat):Int)
          by_cases h:j<m
          · rw [if_pos h];have:=hlt j h;omega
          · rw [if_neg h];omega) (by
          simp only [accI]
          rw [← hq,← plL_qL,if_pos hs1]
          simp only [qL,Nat.lt_irrefl,if_false,Int.toNat_natCast]
          rw [qL_congr (Q':=Q) m (fun j hj=>by simp only [hj,if_true])])
        refine ⟨m',F',T',Q',fun c hc=>?_,h2⟩
        refine piece_ok mixed hc (nUl g nb N k l m (m+1) F T Q F1 T1 (fun s=>if s<m then Q s else i) i true) ?_ (hrun c hc)
        repeat' (first | exact aN | apply aI)
        all_goals (first | exact aP _ _ | exact aA _ _ | omega | rfl | (intros;first | assumption | exact trivial | rfl | exact fT ‹_› | ((repeat' (first | assumption | apply anda | apply notf));done)) | (exact hd) | (exact hc1) | (intro j hj;simp [All]))
      · obtain ⟨m',F',T',Q',hrun,h2⟩:=ih (i+1) m F T Q (by omega) hp ha (fun j hj=>by have:=hlt j hj;omega) (by
          simp only [accI]
          rw [← hq,← plL_qL,if_neg hs1])
        refine ⟨m',F',T',Q',fun c hc=>?_,h2⟩
        refine piece_ok mixed hc (nUl g nb N k l m m F T Q F T Q i false) ?_ (hrun c hc)
        repeat' (first | exact aN | apply aI)
        all_goals (first | exact aP _ _ | exact aA _ _ | omega | rfl | (intros;first | assumption | exact trivial | rfl | exact fT ‹_› | ((repeat' (first | assumption | apply anda | apply notf));done)) | (exact hd) | (exact hc1) | (intro j hj;simp [All]))
  obtain ⟨m,F,T,Q,hrun,hnn,hq⟩:=lp nb 0 0 _ _ _ (by omega) (PInv.start hok) (fun j hj=>by omega) (fun j hj=>absurd hj (Nat.not_lt_zero _)) rfl
  have hm:m≤24:=by
    have:=accI_len N k l g nb
    rw [← hq,qL_length] at this;omega
  refine ⟨m,F,T,Q,?_,hm,hnn,hq⟩
  refine con_start Tryz.func169 rfl (by kernel_rfl) rfl (fun c hc=>?_)
  refine piece_ok mixed hc (nUz g nb N k l) ?_ (hrun c hc)
  repeat' (first | exact aN | apply aI)
  all_goals (first | exact aG _ | exact aP _ _ | exact aA _ _ | omega | rfl | (intros;first | assumption | exact trivial | rfl | exact fT ‹_› | ((repeat' (first | assumption | apply anda | apply notf));done)) | (exact hn) | (intros;exact hr) | (simp;done) | (intro j hj;simp [All]))
theorem con_RankOf_s {N nb:Nat} {g:Nat→T_Bar} (hg:isGraphF ((N:Int),(nb,g),())=true) (k l:Nat) (hk:1≤k∧k≤3) (hl:l+1≤2*k) :
    Con Tryz.prog 282 0 [] [grG g nb N,.p (.int .i64 k),.p (.int .i64 l)] [] (.p (.int .i64 ((accI N k l g nb).length:Nat))):=by
  obtain ⟨m,F,T,Q,hrun,hm,hn,hq⟩:=con_RunPebbles_s hg k l hk hl
  rw [← hq,qL_length]
  refine con_start Tryz.func282 rfl (by kernel_rfl) rfl (fun c hc=>?_)
  refine path_ok mixed Tryz.func282 hc (nKs g nb N k l m F T Q) ?_
  repeat' (first | exact aN | apply aI)
  all_goals (first | omega | rfl | (intros;first | assumption | exact trivial | rfl | exact fT ‹_› | ((repeat' (first | assumption | apply anda | apply notf));done)) | (exact hrun) | (simp;done) | (intro i hi;simp [All]))
end Go.Proofs.YtkkjoghiigiokaaGreat.Mach
namespace Go.Proofs.YtkkjoghiigiokaaGreat.Mach
open Go
set_option linter.unusedVariables false
set_option linter.unusedSimpArgs false
def z2:Ob:=⟨true,2,1,fun _=>[.p (.int .i64 0),.p .nil]⟩
def gbx (n:Int) (j c:Nat):Ob:=⟨true,2,1,fun _=>[.p (.int .i64 n),.ar 2 j 0 c]⟩
def maxI (n:Int):Int:=if 2*n - 3>0 then 2*n - 3 else 0
def gaI (n:Int) (c:Nat) (h:Nat→T_Bar):AV:=.agg [.p (.int .i64 n),brL h c]
def SOb (n:Int) (M:Nat) (A:Nat→T_Bar) (S:T_IntS) (i c:Nat) (h:Nat→T_Bar):St :=
  ⟨[gaI n M A,inL S,.pt 2 0 0 0,.p .any,.pt 2 1 0 0,.pt 2 2 0 0]++List.replicate 6 anyA++[brL A M,.p (.int .i64 M),.p (.int .i64 i)]++List.replicate 15 anyA,[(0,⟨true,2,1,fun _=>[.p (.int .i64 n),brL A M]⟩),(1,z2),(2,gbx n 3 c),(3,brOb c h)],4⟩
theorem eFy_s (v:T_Graph) :
    pathOb Tryz.prog Tryz.f173 0 [rg 2,rm [(1,oc [] (.p (.bool false)))] 1,.dec true,rg 1] [.code (bodyOf Tryz.f173)] (start Tryz.f173 [] 0 [graphA v]) [] 1 [] (.p (.int .i64 (-1))) =
    some [(NT 0 1),Con Tryz.prog 53 0 [] [(zf104 v)] [] (.p (.bool false)),((!false)=true),(AI ((-1)))]:=by kernel_rfl
theorem eFz_s (g:Nat→T_Bar) (nb N r:Nat) :
    pathOb Tryz.prog Tryz.f173 0 [rg 2,rm [(1,oc [] (.p (.bool true)))] 1,.dec false,rm [(6,oc [] (.p (.int .i64 r)))] 2] [.code (bodyOf Tryz.f173)] (start Tryz.f173 [] 0 [grG g nb N]) [] 1 [] (.p (.int .i64 (maxI N - r))) =
    some [(NT 0 1),Con Tryz.prog 53 0 [] [(zf110 N nb g)] [] (.p (.bool true)),((!true)=false),(NT 0 1),(R0 (2*(↑N:Int))),(R1 (2*(↑N:Int))),(R0 (2*(↑N:Int) - 3)),(R1 (2*(↑N:Int) - 3)),(NT 0 1),Con Tryz.prog 282 0 [] [(zf110 N nb g),.p (.int .i64 2),.p (.int .i64 3)] [] (.p (.int .i64 (↑r:Int))),(R0 ((if true=true then if 2*(↑N:Int) - 3>0 then 2*(↑N:Int) - 3 else 0 else if 2*(↑N:Int) - 3<0 then 2*(↑N:Int) - 3 else 0) - (↑r:Int))),(R1 ((if true=true then if 2*(↑N:Int) - 3>0 then 2*(↑N:Int) - 3 else 0 else if 2*(↑N:Int) - 3<0 then 2*(↑N:Int) - 3 else 0) - (↑r:Int))),((((if true=true then if 2*(↑N:Int) - 3>0 then 2*(↑N:Int) - 3 else 0 else if 2*(↑N:Int) - 3<0 then 2*(↑N:Int) - 3 else 0) - (↑r:Int)):Int)=(maxI (↑N:Int) - (↑r:Int)))]:=by kernel_rfl
theorem eFy_i (v:T_Graph) :
    pathOb Tryz.prog Tryz.f186 0 [rg 2,rm [(1,oc [] (.p (.bool false)))] 1,.dec true,rg 1] [.code (bodyOf Tryz.f186)] (start Tryz.f186 [] 0 [graphA v]) [] 1 [] (.p (.int .i64 (-1))) =
    some [(NT 0 1),Con Tryz.prog 62 0 [] [(zf104 v)] [] (.p (.bool false)),((!false)=true),(AI ((-1)))]:=by kernel_rfl
theorem eFz_i (g:Nat→T_Bar) (nb N r:Nat) :
    pathOb Tryz.prog Tryz.f186 0 [rg 2,rm [(1,oc [] (.p (.bool true)))] 1,.dec false,rm [(6,oc [] (.p (.int .i64 r)))] 2] [.code (bodyOf Tryz.f186)] (start Tryz.f186 [] 0 [grG g nb N]) [] 1 [] (.p (.int .i64 (maxI N - r))) =
    some [(NT 0 1),Con Tryz.prog 62 0 [] [(zf110 N nb g)] [] (.p (.bool true)),((!true)=false),(NT 0 1),(R0 (2*(↑N:Int))),(R1 (2*(↑N:Int))),(R0 (2*(↑N:Int) - 3)),(R1 (2*(↑N:Int) - 3)),(NT 0 1),Con Tryz.prog 288 0 [] [(zf110 N nb g),.p (.int .i64 2),.p (.int .i64 3)] [] (.p (.int .i64 (↑r:Int))),(R0 ((if true=true then if 2*(↑N:Int) - 3>0 then 2*(↑N:Int) - 3 else 0 else if 2*(↑N:Int) - 3<0 then 2*(↑N:Int) - 3 else 0) - (↑r:Int))),(R1 ((if true=true then if 2*(↑N:Int) - 3>0 then 2*(↑N:Int) - 3 else 0 else if 2*(↑N:Int) - 3<0 then 2*(↑N:Int) - 3 else 0) - (↑r:Int))),((((if true=true then if 2*(↑N:Int) - 3>0 then 2*(↑N:Int) - 3 else 0 else if 2*(↑N:Int) - 3<0 then 2*(↑N:Int) - 3 else 0) - (↑r:Int)):Int)=(maxI (↑N:Int) - (↑r:Int)))]:=by kernel_rfl
theorem eR_s (v:T_Graph) (x:Int) :
    pathOb Tryz.prog Tryz.f57 0 [rg 2,rm [(1,oc [] (.p (.int .i64 x)))] 2] [.code (bodyOf Tryz.f57)] (start Tryz.f57 [] 0 [graphA v]) [] 1 [] (.p (.bool (x==0))) =
    some [(NT 0 1),Con Tryz.prog 173 0 [] [(zf104 v)] [] (.p (.int .i64 x)),((x==0)=(x==0))]:=by kernel_rfl
theorem eR_i (v:T_Graph) (x:Int) :
    pathOb Tryz.prog Tryz.f67 0 [rg 2,rm [(1,oc [] (.p (.int .i64 x)))] 2] [.code (bodyOf Tryz.f67)] (start Tryz.f67 [] 0 [graphA v]) [] 1 [] (.p (.bool (x==0))) =
    some [(NT 0 1),Con Tryz.prog 186 0 [] [(zf104 v)] [] (.p (.int .i64 x)),((x==0)=(x==0))]:=by kernel_rfl
theorem eM_s (v:T_Graph) (b:Bool) (r:Nat) :
    pathOb Tryz.prog Tryz.f170 0 [rg 2,rm [(1,oc [] (.p (.bool b))),(5,oc [] (.p (.int .i64 r)))] 3] [.code (bodyOf Tryz.f170)] (start Tryz.f170 [] 0 [graphA v]) [] 1 [] (.p (.bool (bif b then (v.2.1.1:Int)==(r:Int) else false))) =
    some [(NT 0 1),Con Tryz.prog 57 0 [] [(zf104 v)] [] (.p (.bool b)),(AG b),((b=true)→(NT 0 1)),(AG b),((b=true)→(NT 0 1)),(AG b),((b=true)→ Con Tryz.prog 282 0 [] [(zf104 v),.p (.int .i64 2),.p (.int .i64 3)] [] (.p (.int .i64 (↑r:Int)))),(AG b),(AG b),(AG b),((bif b then (↑v.2.1.1:Int)==(↑r:Int) else false)=(bif b then (↑v.2.1.1:Int)==(↑r:Int) else false))]:=by kernel_rfl
theorem eM_i (v:T_Graph) (b:Bool) (r:Nat) :
    pathOb Tryz.prog Tryz.f181 0 [rg 2,rm [(1,oc [] (.p (.bool b))),(2,oc [] (.p (.int .i64 r)))] 6] [.code (bodyOf Tryz.f181)] (start Tryz.f181 [] 0 [graphA v]) [] 1 [] (.p (.bool (bif b then (r:Int)==(v.2.1.1:Int) else false))) =
    some [(NT 0 1),Con Tryz.prog 67 0 [] [(zf104 v)] [] (.p (.bool b)),((b=true)→(NT 0 1)),(AG b),((b=true)→ Con Tryz.prog 288 0 [] [(zf104 v),.p (.int .i64 2),.p (.int .i64 3)] [] (.p (.int .i64 (↑r:Int)))),(AG b),((b=true)→(NT 0 1)),(AG b),(AG b),(AG b),(AG b),((bif b then (↑r:Int)==(↑v.2.1.1:Int) else false)=(bif b then (↑r:Int)==(↑v.2.1.1:Int) else false))]:=by kernel_rfl
theorem eOz (n:Int) (M:Nat) (A:Nat→T_Bar) (S:T_IntS) :
    pieceOb Tryz.prog 0 [rg 2,rg 5,rg 4,.head] [.code (bodyOf Tryz.f65)] (start Tryz.f65 [] 0 [gaI n M A,inL S]) [0,32,160] 1 (SOb n M A S 0 0 (fun _=>(0,0,()))) =
    some (zf79,[(NT 0 1),(NT 0 1),((true=true)→ (AN 1)),(NT 0 1),(AI n),(AN M),(AP M (fun i=>[.int .i64 ((A i).1),.int .i64 ((A i).2.1)])),(AN S.1),(AP S.1 (fun i=>[.int .i64 (S.2 i)])),(AN 0),(AN 0),(AN 0),(AN M),(AP M (fun i=>[.int .i64 ((A i).1),.int .i64 ((A i).2.1)])),(AI ((↑M:Int))),((0:Int)=(↑0:Int)),((([AV.p (PV.int IntKind.i64 n),brL A M].length):Nat)=2),(NL 1 1),(NL 1 1),(AI n),(AN M),(AP M (fun i=>[.int .i64 ((A i).1),.int .i64 ((A i).2.1)])),((((List.map (fun v=>AV.p (absV v)) [Value.int IntKind.i64 0,Value.slice none 0 0]).length):Nat)=2),(NL 1 1),(NL 1 1),(AI 0),((((List.map (fun v=>AV.p (absV v)) [Value.int IntKind.i64 0,Value.slice none 0 0]).length):Nat)=2),(NL 1 1),(NL 1 1),(AI n),(AN 0),(AN 0)]):=by kernel_rfl
theorem eOt (n:Int) (M:Nat) (A:Nat→T_Bar) (S:T_IntS) (i c:Nat) (h:Nat→T_Bar) :
    pieceOb Tryz.prog 0 [rg 1,.dec true,rg 6,rm [(2,oc [] (.p (.bool true)))] 0,.dec true,rg 7,rg 2,.head] zf79 (SOb n M A S i c h) [0,1,2,452] 1 (SOb n M A S (i+1) (c+1) (snoc c h (A i))) =
    some (zf79,[((decide ((↑i:Int)<(↑M:Int)))=true),(IL 0 (↑i:Int)),(IT (↑i:Int) (↑M:Int)),(NT 0 1),((true=true)→ (AN 1)),Con Tryz.prog 184 0 [] [.p (.seq true 1 S.1 (fun i_1=>[.int .i64 (S.2 i_1)])),.p (.int .i64 (↑i:Int))] [] (.p (.bool true)),(true=true),(NT 0 1),(NT 0 1),(NL 1 1),(NL c c),(NL ((c+1)*16) 140737488355328),(NL (c+1) 9223372036854775807),(NT 0 1),((true=true)→ (AN 1)),(R0 ((↑i:Int)+1)),(R1 ((↑i:Int)+1)),(AI n),(AN M),(AP M (fun i_1=>[.int .i64 ((A i_1).1),.int .i64 ((A i_1).2.1)])),(AN S.1),(AP S.1 (fun i_1=>[.int .i64 (S.2 i_1)])),(AN 0),(AN 0),(AN 0),(AN M),(AP M (fun i_1=>[.int .i64 ((A i_1).1),.int .i64 ((A i_1).2.1)])),(AI ((↑M:Int))),((((↑i:Int)+1):Int)=(↑(i+1):Int)),(AN 2),(NL 1 1),(NL 1 1),(AI n),(AN M),(AP M (fun i_1=>[.int .i64 ((A i_1).1),.int .i64 ((A i_1).2.1)])),(AN 2),(NL 1 1),(NL 1 1),(AI 0),(AN 2),(NL 1 1),(NL 1 1),(AI n),(AN 0),(AN ((c+1))),(AN 2),(NL (c+1) (c+1)),(CV [(2,⟨true,2,1,(fun i_2=>[.p (.int .i64 n),.ar 2 452 0 (c+1)])⟩),(452,⟨false,2,(c+1),(fun i_2=>(if (i_2<c) then [.p (.int .i64 ((h i_2).1)),.p (.int .i64 ((h i_2).2.1))] else [.p (.int .i64 ((A i).1)),.p (.int .i64 ((A i).2.1))]))⟩),(420,⟨false,2,1,(fun i_2=>[.p (.int .i64 ((A i).1)),.p (.int .i64 ((A i).2.1))])⟩),(132,⟨true,2,1,(fun i_2=>[.p (.int .i64 ((A i).1)),.p (.int .i64 ((A i).2.1))])⟩),(0,⟨true,2,1,(fun i_2=>[.p (.int .i64 n),.p (.seq true 2 M (fun i_3=>[.int .i64 ((A i_3).1),.int .i64 ((A i_3).2.1)]))])⟩),(1,⟨true,2,1,(fun i_2=>[.p (.int .i64 0),.p (.nil)])⟩)] [0,1,2,452] 1 (c+1) (fun i_1=>if (i_1<c) then [.p (.int .i64 ((h i_1).1)),.p (.int .i64 ((h i_1).2.1))] else [.p (.int .i64 ((A i).1)),.p (.int .i64 ((A i).2.1))]) (fun i_1=>[.p (.int .i64 (if i_1<c then (h i_1).1 else (A i).1)),.p (.int .i64 (if i_1<c then (h i_1).2.1 else (A i).2.1))]))]):=by kernel_rfl
theorem eOf (n:Int) (M:Nat) (A:Nat→T_Bar) (S:T_IntS) (i c:Nat) (h:Nat→T_Bar) :
    pieceOb Tryz.prog 0 [rg 1,.dec true,rg 6,rm [(2,oc [] (.p (.bool false)))] 0,.dec false,rg 2,.head] zf79 (SOb n M A S i c h) [0,1,2,3] 1 (SOb n M A S (i+1) c h) =
    some (zf79,[((decide ((↑i:Int)<(↑M:Int)))=true),(IL 0 (↑i:Int)),(IT (↑i:Int) (↑M:Int)),(NT 0 1),((true=true)→ (AN 1)),Con Tryz.prog 184 0 [] [.p (.seq true 1 S.1 (fun i_1=>[.int .i64 (S.2 i_1)])),.p (.int .i64 (↑i:Int))] [] (.p (.bool false)),(false=false),(R0 ((↑i:Int)+1)),(R1 ((↑i:Int)+1)),(AI n),(AN M),(AP M (fun i_1=>[.int .i64 ((A i_1).1),.int .i64 ((A i_1).2.1)])),(AN S.1),(AP S.1 (fun i_1=>[.int .i64 (S.2 i_1)])),(AN 0),(AN 0),(AN 0),(AN M),(AP M (fun i_1=>[.int .i64 ((A i_1).1),.int .i64 ((A i_1).2.1)])),(AI ((↑M:Int))),((((↑i:Int)+1):Int)=(↑(i+1):Int)),(AN 2),(NL 1 1),(NL 1 1),(AI n),(AN M),(AP M (fun i_1=>[.int .i64 ((A i_1).1),.int .i64 ((A i_1).2.1)])),(AN 2),(NL 1 1),(NL 1 1),(AI 0),(AN 2),(NL 1 1),(NL 1 1),(AI n),(AN 0),(AN c),(AN 2),(NL c c),(AA c (fun i_1=>[.p (.int .i64 ((h i_1).1)),.p (.int .i64 ((h i_1).2.1))]))]):=by kernel_rfl
theorem eOe (n:Int) (M:Nat) (A:Nat→T_Bar) (S:T_IntS) (i c:Nat) (h:Nat→T_Bar) :
    pathOb Tryz.prog Tryz.f65 0 [rg 1,.dec false,rg 2] zf79 (SOb n M A S i c h) [3] 1 [(0,brOb c h)] (.agg [.p (.int .i64 n),.ar 2 0 0 c]) =
    some [((decide ((↑i:Int)<(↑M:Int)))=false),(NT 0 1),(NT 0 1),((true=true)→ (AN 1)),(NT 0 1),(AI n),(AN 0),(AN c),(AN 2),(NL c c),(AA c (fun i_1=>[.p (.int .i64 ((h i_1).1)),.p (.int .i64 ((h i_1).2.1))])),(AE c)]:=by kernel_rfl
end Go.Proofs.YtkkjoghiigiokaaGreat.Mach
namespace Go.Proofs.YtkkjoghiigiokaaGreat.Mach
open Go
set_option linter.unusedVariables false
set_option linter.unusedSimpArgs false
noncomputable def rkG (v:T_Graph):Nat:=(accI v.1.toNat 2 3 v.2.1.2 v.2.1.1).length
noncomputable def frGr (v:T_Graph):Int:=if isGraphF v=true then maxI v.1 - (rkG v:Int) else -1
noncomputable def mrG (v:T_Graph):Bool:=bif frGr v==0 then (v.2.1.1:Int)==(rkG v:Int) else false
theorem maxI_b {n:Int} (h:n≤8):0≤maxI n∧maxI n≤13:=by
  unfold maxI;split<;>omega
theorem con_FreedomOf_s (v:T_Graph) (hs:smS s_Graph v):Con Tryz.prog 173 0 [] [graphA v] [] (.p (.int .i64 (frGr v))):=by
  have hcg:=con_IsGraph_s v hs
  cases hg:isGraphF v with
  | false =>
    rw [hg] at hcg
    rw [show frGr v = -1 by simp [frGr,hg]]
    refine con_start Tryz.func173 rfl (by kernel_rfl) rfl (fun c hc=>?_)
    refine path_ok mixed Tryz.func173 hc (eFy_s v) ?_
    repeat' (first | exact aN | apply aI)
    all_goals (first | omega | rfl | (intros;first | assumption | exact trivial | rfl | exact fT ‹_› | ((repeat' (first | assumption | apply anda | apply notf));done)) | (intros;exact hcg) | (simp;done))
  | true =>
    rw [hg] at hcg
    obtain ⟨N,nb,g,rfl⟩:=graph_cases v hg
    obtain ⟨hN,hnb,_⟩:=graph_in hg
    have hr:=con_RankOf_s hg 2 3 (by omega) (by omega)
    have hl:=accI_len N 2 3 g nb
    have hm:=maxI_b (n:=(N:Int)) (by omega)
    rw [show frGr ((N:Int),(nb,g),())=maxI N - ((accI N 2 3 g nb).length:Nat) by simp [frGr,hg,rkG]]
    refine con_start Tryz.func173 rfl (by kernel_rfl) rfl (fun c hc=>?_)
    refine path_ok mixed Tryz.func173 hc (eFz_s g nb N (accI N 2 3 g nb).length) ?_
    repeat' (first | exact aN | apply aI)
    all_goals (first | omega | rfl | (intros;first | assumption | exact trivial | rfl | exact fT ‹_› | ((repeat' (first | assumption | apply anda | apply notf));done)) | (intros;exact hcg) | (exact hr) | (simp only [if_true];show _≤maxI N - _;omega) | (simp only [if_true];show maxI N - _≤_;omega) | (simp;done) | (simp only [if_true];rfl))
theorem con_FreedomOf_i (v:T_Graph) (hs:smS s_Graph v):Con Tryz.prog 186 0 [] [graphA v] [] (.p (.int .i64 (frGr v))):=by
  have hcg:=con_IsGraph_i v hs
  cases hg:isGraphF v with
  | false =>
    rw [hg] at hcg
    rw [show frGr v = -1 by simp [frGr,hg]]
    refine con_start Tryz.func186 rfl (by kernel_rfl) rfl (fun c hc=>?_)
    refine path_ok mixed Tryz.func186 hc (eFy_i v) ?_
    repeat' (first | exact aN | apply aI)
    all_goals (first | omega | rfl | (intros;first | assumption | exact trivial | rfl | exact fT ‹_› | ((repeat' (first | assumption | apply anda | apply notf));done)) | (intros;exact hcg) | (simp;done))
  | true =>
    rw [hg] at hcg
    obtain ⟨N,nb,g,rfl⟩:=graph_cases v hg
    obtain ⟨hN,hnb,_⟩:=graph_in hg
    have hr:=con_RankOf_i hg 2 3 (by omega) (by omega)
    have hl:=accI_len N 2 3 g nb
    have hm:=maxI_b (n:=(N:Int)) (by omega)
    rw [show frGr ((N:Int),(nb,g),())=maxI N - ((accI N 2 3 g nb).length:Nat) by simp [frGr,hg,rkG]]
    refine con_start Tryz.func186 rfl (by kernel_rfl) rfl (fun c hc=>?_)
    refine path_ok mixed Tryz.func186 hc (eFz_i g nb N (accI N 2 3 g nb).length) ?_
    repeat' (first | exact aN | apply aI)
    all_goals (first | omega | rfl | (intros;first | assumption | exact trivial | rfl | exact fT ‹_› | ((repeat' (first | assumption | apply anda | apply notf));done)) | (intros;exact hcg) | (exact hr) | (simp only [if_true];show _≤maxI N - _;omega) | (simp only [if_true];show maxI N - _≤_;omega) | (simp;done) | (simp only [if_true];rfl))
theorem con_IsRigid_s (v:T_Graph) (hs:smS s_Graph v):Con Tryz.prog 57 0 [] [graphA v] [] (.p (.bool (frGr v==0))):=by
  have hf:=con_FreedomOf_s v hs
  refine con_start Tryz.func57 rfl (by kernel_rfl) rfl (fun c hc=>?_)
  refine path_ok mixed Tryz.func57 hc (eR_s v _) ?_
  repeat' (first | exact aN | apply aI)
  all_goals (first | omega | rfl | (intros;first | assumption | exact trivial | rfl | exact fT ‹_› | ((repeat' (first | assumption | apply anda | apply notf));done)) | (exact hf) | (simp;done))
theorem con_IsRigid_i (v:T_Graph) (hs:smS s_Graph v):Con Tryz.prog 67 0 [] [graphA v] [] (.p (.bool (frGr v==0))):=by
  have hf:=con_FreedomOf_i v hs
  refine con_start Tryz.func67 rfl (by kernel_rfl) rfl (fun c hc=>?_)
  refine path_ok mixed Tryz.func67 hc (eR_i v _) ?_
  repeat' (first | exact aN | apply aI)
  all_goals (first | omega | rfl | (intros;first | assumption | exact trivial | rfl | exact fT ‹_› | ((repeat' (first | assumption | apply anda | apply notf));done)) | (exact hf) | (simp;done))
theorem frG_graph {v:T_Graph} (h:(frGr v==0)=true):isGraphF v=true:=by
  cases hg:isGraphF v with
  | true=>rfl
  | false=>simp [frGr,hg] at h
theorem con_IsMin_s (v:T_Graph) (hs:smS s_Graph v):Con Tryz.prog 170 0 [] [graphA v] [] (.p (.bool (mrG v))):=by
  have hf:=con_IsRigid_s v hs
  have hr:(frGr v==0)=true→Con Tryz.prog 282 0 [] [graphA v,.p (.int .i64 2),.p (.int .i64 3)] [] (.p (.int .i64 (rkG v:Nat))):=by
    intro h
    have hg:=frG_graph h
    obtain ⟨N,nb,g,rfl⟩:=graph_cases v hg
    exact con_RankOf_s hg 2 3 (by omega) (by omega)
  refine con_start Tryz.func170 rfl (by kernel_rfl) rfl (fun c hc=>?_)
  refine path_ok mixed Tryz.func170 hc (eM_s v (frGr v==0) (rkG v)) ?_
  repeat' (first | exact aN | apply aI)
  all_goals (first | exact aG _ | omega | rfl | (intros;first | assumption | exact trivial | rfl | exact fT ‹_› | ((repeat' (first | assumption | apply anda | apply notf));done)) | (exact hf) | (intro h;exact hr h) | (intro h;exact h) | (simp;done) | rfl)
theorem con_IsMin_i (v:T_Graph) (hs:smS s_Graph v):Con Tryz.prog 181 0 [] [graphA v] [] (.p (.bool (mrG v))):=by
  have hf:=con_IsRigid_i v hs
  have hr:(frGr v==0)=true→Con Tryz.prog 288 0 [] [graphA v,.p (.int .i64 2),.p (.int .i64 3)] [] (.p (.int .i64 (rkG v:Nat))):=by
    intro h
    have hg:=frG_graph h
    obtain ⟨N,nb,g,rfl⟩:=graph_cases v hg
    exact con_RankOf_i hg 2 3 (by omega) (by omega)
  refine con_start Tryz.func181 rfl (by kernel_rfl) rfl (fun c hc=>?_)
  rw [show mrG v=(bif frGr v==0 then (rkG v:Int)==(v.2.1.1:Int) else false) by unfold mrG;rw [show ((v.2.1.1:Int)==(rkG v:Int))=((rkG v:Int)==(v.2.1.1:Int)) from by rw [Bool.eq_iff_iff];simp only [beq_iff_eq];exact eq_comm]]
  refine path_ok mixed Tryz.func181 hc (eM_i v (frGr v==0) (rkG v)) ?_
  repeat' (first | exact aN | apply aI)
  all_goals (first | exact aG _ | omega | rfl | (intros;first | assumption | exact trivial | rfl | exact fT ‹_› | ((repeat' (first | assumption | apply anda | apply notf));done)) | (exact hf) | (intro h;exact hr h) | (intro h;exact h) | (simp;done) | rfl)
def zB:T_BarS:=(0,fun _=>(0,0,()))
def obF (S:T_IntS) (A:Nat→T_Bar):Nat→Nat→T_BarS→T_BarS
  | _,0,x=>x
  | i,d+1,x=>obF S A (i+1) d (bif hasI S.2 i S.1 then (x.1+1,snoc x.1 x.2 (A i)) else x)
theorem con_OnlyBars (n:Int) (M:Nat) (A:Nat→T_Bar) (S:T_IntS) (hM:M≤100) (hS:S.1≤1000) :
    Con Tryz.prog 65 0 [] [gaI n M A,inL S] [(0,brOb (obF S A 0 M zB).1 (obF S A 0 M zB).2)] (.agg [.p (.int .i64 n),.ar 2 0 0 (obF S A 0 M zB).1]):=by
  refine con_start Tryz.func65 rfl (by kernel_rfl) rfl (fun c hc=>?_)
  generalize hR:obF S A 0 M zB=R
  have lp:∀ d i cc f,i+d=M→cc≤i→obF S A i d (cc,f)=R→Run Tryz.prog c 65 zf79 (SOb n M A S i cc f) (Post c [(0,brOb R.1 R.2)] (.agg [.p (.int .i64 n),.ar 2 0 0 R.1])):=by
    intro d
    induction d with
    | zero =>
      intro i cc f hi hcc he
      have hd:decide ((i:Int)<(M:Int))=false:=by simp;omega
      rw [← he]
      refine path_ok mixed Tryz.func65 hc (eOe n M A S i cc f) ?_
      repeat' (first | exact aN | apply aI)
      all_goals (first | exact aA _ _ | exact aE _ | omega | rfl | (intros;first | assumption | exact trivial | rfl | exact fT ‹_› | ((repeat' (first | assumption | apply anda | apply notf));done)) | (exact hd) | (intro j hj;simp [All]))
    | succ d ih =>
      intro i cc f hi hcc he
      have hd:decide ((i:Int)<(M:Int))=true:=by simp;omega
      have hh:=con_Contains S (i:Int) (by omega)
      rw [obF] at he
      cases hb:hasI S.2 i S.1 with
      | true =>
        rw [hb] at he hh
        refine piece_ok mixed hc (eOt n M A S i cc f) ?_ (ih (i+1) (cc+1) _ (by omega) (by omega) he)
        repeat' (first | exact aN | apply aI)
        all_goals (first | exact aP _ _ | omega | rfl | (intros;first | assumption | exact trivial | rfl | exact fT ‹_› | ((repeat' (first | assumption | apply anda | apply notf));done)) | (exact hd) | (exact hh) | (intro j hj;by_cases h':j<cc<;>simp [h',snoc,cvtL,cvt,tg,tru,All]))
      | false =>
        rw [hb] at he hh
        refine piece_ok mixed hc (eOf n M A S i cc f) ?_ (ih (i+1) cc _ (by omega) (by omega) he)
        repeat' (first | exact aN | apply aI)
        all_goals (first | exact aP _ _ | exact aA _ _ | omega | rfl | (intros;first | assumption | exact trivial | rfl | exact fT ‹_› | ((repeat' (first | assumption | apply anda | apply notf));done)) | (exact hd) | (exact hh) | (intro j hj;simp [All]))
  refine piece_ok mixed hc (eOz n M A S) ?_ (lp M 0 0 _ (by omega) (by omega) hR)
  repeat' (first | exact aN | apply aI)
  all_goals (first | exact aP _ _ | omega | rfl | (intros;first | assumption | exact trivial | rfl | exact fT ‹_› | ((repeat' (first | assumption | apply anda | apply notf));done)) | (simp;done) | (intro j hj;simp [All]))
end Go.Proofs.YtkkjoghiigiokaaGreat.Mach
namespace Go.Proofs.YtkkjoghiigiokaaGreat.Mach
open Go
set_option linter.unusedVariables false
set_option linter.unusedSimpArgs false
def NRs (g:Nat→T_Bar) (nb N:Nat) (v i c:Nat) (f:Nat→Int):St :=
  ⟨[grG g nb N,.p (.int .i64 v),.pt 2 0 0 0,.p .any,.p .any,.ar 1 1 0 c,.p (.int .i64 i)]++List.replicate 37 anyA,[(0,bxG g nb N),(1,iOb c f)],2⟩
def DRs (g:Nat→T_Bar) (nb N:Nat) (v i c:Nat) (h:Nat→T_Bar):St :=
  ⟨[grG g nb N,.p (.int .i64 v),.pt 2 0 0 0,.p .any,.pt 2 1 0 0,.pt 2 2 0 0,.p (.int .i64 i)]++List.replicate 40 anyA,[(0,bxG g nb N),(1,z2),(2,gbx N 3 c),(3,brOb c h)],4⟩
theorem nrz (g:Nat→T_Bar) (nb N v:Nat) :
    pieceOb Tryz.prog 0 [rg 2,rg 2,rg 1,.head] [.code (bodyOf Tryz.f283)] (start Tryz.f283 [] 0 [grG g nb N,.p (.int .i64 v)]) [0,64] 1 (NRs g nb N v 0 0 (fun _=>0)) =
    some (zf66,[(AI ((↑N:Int))),(AN nb),(AP nb (fun i=>[.int .i64 ((g i).1),.int .i64 ((g i).2.1)])),(AI ((↑v:Int))),(AN 0),(AN 0),(AN 0),((0:Int)=(↑0:Int)),((([AV.p (PV.int IntKind.i64 (↑N:Int)),brL g nb].length):Nat)=2),(NL 1 1),(NL 1 1),(AI ((↑N:Int))),(AN nb),(AP nb (fun i=>[.int .i64 ((g i).1),.int .i64 ((g i).2.1)])),(AN 1),(NL 0 0),(AA 0 (fun i=>[.p (.int .i64 0)]))]):=by kernel_rfl
theorem nrt (g:Nat→T_Bar) (nb N v i c:Nat) (f:Nat→Int) (o:Int) :
    pieceOb Tryz.prog 0 [rg 5,.dec true,rg 18,.dec true,rm [(7,oc [] (.p (.int .i64 o)))] 3,rg 3,.head] zf66 (NRs g nb N v i c f) [0,1026] 1 (NRs g nb N v (i+1) (c+1) (fun s=>if s<c then f s else o)) =
    some (zf66,[(NT 0 1),((decide ((↑i:Int)<(↑nb:Int)))=true),(NT 0 1),(IL 0 (↑i:Int)),(IT (↑i:Int) (↑nb:Int)),(AG (!(g i).1==(↑v:Int))),(((!(g i).1==(↑v:Int))=true)→(NT 0 1)),(AG (!(g i).1==(↑v:Int))),(AG (!(g i).1==(↑v:Int))),(((!(g i).1==(↑v:Int))=true)→(IL 0 (↑i:Int))),(((!(g i).1==(↑v:Int))=true)→(IT (↑i:Int) (↑nb:Int))),(AG (!(g i).1==(↑v:Int))),(AG (!(g i).1==(↑v:Int))),(AG (!(g i).1==(↑v:Int))),(AG (!(g i).1==(↑v:Int))),((((g i).1==(↑v:Int))=false)→ ((!(g i).1==(↑v:Int))=true)),((bif (g i).1==(↑v:Int) then true else (g i).2.1==(↑v:Int))=true),(NT 0 1),(IL 0 (↑i:Int)),(IT (↑i:Int) (↑nb:Int)),Con Tryz.prog 324 0 [] [.agg [.p (.int .i64 ((g i).1)),.p (.int .i64 ((g i).2.1))],.p (.int .i64 (↑v:Int))] [] (.p (.int .i64 o)),(NL 1 1),(NL c c),(NL ((c+1)*8) 140737488355328),(NL (c+1) 9223372036854775807),(R0 ((↑i:Int)+1)),(R1 ((↑i:Int)+1)),(AI ((↑N:Int))),(AN nb),(AP nb (fun i_1=>[.int .i64 ((g i_1).1),.int .i64 ((g i_1).2.1)])),(AI ((↑v:Int))),(AN 0),(AN 0),(AN ((c+1))),((((↑i:Int)+1):Int)=(↑(i+1):Int)),(AN 2),(NL 1 1),(NL 1 1),(AI ((↑N:Int))),(AN nb),(AP nb (fun i_1=>[.int .i64 ((g i_1).1),.int .i64 ((g i_1).2.1)])),(AN 1),(NL (c+1) (c+1)),(CV [(1026,⟨false,1,(c+1),(fun i_2=>(if (i_2<c) then [.p (.int .i64 (f i_2))] else [.p (.int .i64 o)]))⟩),(994,⟨false,1,1,(fun i_2=>[.p (.int .i64 o)])⟩),(0,⟨true,2,1,(fun i_2=>[.p (.int .i64 (↑N:Int)),.p (.seq true 2 nb (fun i_3=>[.int .i64 ((g i_3).1),.int .i64 ((g i_3).2.1)]))])⟩)] [0,1026] 1 (c+1) (fun i_1=>if (i_1<c) then [.p (.int .i64 (f i_1))] else [.p (.int .i64 o)]) (fun i_1=>[.p (.int .i64 (if i_1<c then f i_1 else o))]))]):=by kernel_rfl
theorem nrf (g:Nat→T_Bar) (nb N v i c:Nat) (f:Nat→Int) :
    pieceOb Tryz.prog 0 [rg 5,.dec true,rg 18,.dec false,rg 3,.head] zf66 (NRs g nb N v i c f) [0,1] 1 (NRs g nb N v (i+1) c f) =
    some (zf66,[(NT 0 1),((decide ((↑i:Int)<(↑nb:Int)))=true),(NT 0 1),(IL 0 (↑i:Int)),(IT (↑i:Int) (↑nb:Int)),(AG (!(g i).1==(↑v:Int))),(((!(g i).1==(↑v:Int))=true)→(NT 0 1)),(AG (!(g i).1==(↑v:Int))),(AG (!(g i).1==(↑v:Int))),(((!(g i).1==(↑v:Int))=true)→(IL 0 (↑i:Int))),(((!(g i).1==(↑v:Int))=true)→(IT (↑i:Int) (↑nb:Int))),(AG (!(g i).1==(↑v:Int))),(AG (!(g i).1==(↑v:Int))),(AG (!(g i).1==(↑v:Int))),(AG (!(g i).1==(↑v:Int))),((((g i).1==(↑v:Int))=false)→ ((!(g i).1==(↑v:Int))=true)),((bif (g i).1==(↑v:Int) then true else (g i).2.1==(↑v:Int))=false),(R0 ((↑i:Int)+1)),(R1 ((↑i:Int)+1)),(AI ((↑N:Int))),(AN nb),(AP nb (fun i_1=>[.int .i64 ((g i_1).1),.int .i64 ((g i_1).2.1)])),(AI ((↑v:Int))),(AN 0),(AN 0),(AN c),((((↑i:Int)+1):Int)=(↑(i+1):Int)),(AN 2),(NL 1 1),(NL 1 1),(AI ((↑N:Int))),(AN nb),(AP nb (fun i_1=>[.int .i64 ((g i_1).1),.int .i64 ((g i_1).2.1)])),(AN 1),(NL c c),(AA c (fun i_1=>[.p (.int .i64 (f i_1))]))]):=by kernel_rfl
theorem nre (g:Nat→T_Bar) (nb N v i c:Nat) (f:Nat→Int) :
    pathOb Tryz.prog Tryz.f283 0 [rg 5,.dec false,rg 2] zf66 (NRs g nb N v i c f) [1] 1 [(0,iOb c f)] (.ar 1 0 0 c) =
    some [(NT 0 1),((decide ((↑i:Int)<(↑nb:Int)))=false),(AN 0),(AN c),(AN 1),(NL c c),(AA c (fun i_1=>[.p (.int .i64 (f i_1))])),(AE c)]:=by kernel_rfl
theorem drz (g:Nat→T_Bar) (nb N v:Nat) :
    pieceOb Tryz.prog 0 [rg 2,rg 6,rg 1,.head] [.code (bodyOf Tryz.f284)] (start Tryz.f284 [] 0 [grG g nb N,.p (.int .i64 v)]) [0,32,192,128] 1 (DRs g nb N v 0 0 (fun _=>(0,0,()))) =
    some (zf67,[(NT 0 1),(NT 0 1),((true=true)→ (AN 1)),(AI ((↑N:Int))),(AN nb),(AP nb (fun i=>[.int .i64 ((g i).1),.int .i64 ((g i).2.1)])),(AI ((↑v:Int))),(AN 0),(AN 0),(AN 0),((0:Int)=(↑0:Int)),((([AV.p (PV.int IntKind.i64 (↑N:Int)),brL g nb].length):Nat)=2),(NL 1 1),(NL 1 1),(AI ((↑N:Int))),(AN nb),(AP nb (fun i=>[.int .i64 ((g i).1),.int .i64 ((g i).2.1)])),((((List.map (fun v=>AV.p (absV v)) [Value.int IntKind.i64 0,Value.slice none 0 0]).length):Nat)=2),(NL 1 1),(NL 1 1),(AI 0),((((List.map (fun v=>AV.p (absV v)) [Value.int IntKind.i64 0,Value.slice none 0 0]).length):Nat)=2),(NL 1 1),(NL 1 1),(AI ((↑N:Int))),(AN 0),(AN 0),(AN 2),(NL 0 0),(AA 0 (fun i=>[.p (.int .i64 0),.p (.int .i64 0)]))]):=by kernel_rfl
theorem drt (g:Nat→T_Bar) (nb N v i c:Nat) (h:Nat→T_Bar) :
    pieceOb Tryz.prog 0 [rg 5,.dec true,rg 18,.dec true,rg 11,rg 3,.head] zf67 (DRs g nb N v i c h) [0,1,2,996] 1 (DRs g nb N v (i+1) (c+1) (snoc c h (g i))) =
    some (zf67,[(NT 0 1),((decide ((↑i:Int)<(↑nb:Int)))=true),(NT 0 1),(IL 0 (↑i:Int)),(IT (↑i:Int) (↑nb:Int)),(AG ((g i).1 != (↑v:Int))),((((g i).1 != (↑v:Int))=true)→(NT 0 1)),(AG ((g i).1 != (↑v:Int))),(AG ((g i).1 != (↑v:Int))),((((g i).1 != (↑v:Int))=true)→(IL 0 (↑i:Int))),((((g i).1 != (↑v:Int))=true)→(IT (↑i:Int) (↑nb:Int))),(AG ((g i).1 != (↑v:Int))),(AG ((g i).1 != (↑v:Int))),(AG ((g i).1 != (↑v:Int))),(AG ((g i).1 != (↑v:Int))),(AG ((g i).1 != (↑v:Int))),((bif (g i).1 != (↑v:Int) then (g i).2.1 != (↑v:Int) else false)=true),(NT 0 1),(NT 0 1),(IL 0 (↑i:Int)),(IT (↑i:Int) (↑nb:Int)),(NL 1 1),(NL c c),(NL ((c+1)*16) 140737488355328),(NL (c+1) 9223372036854775807),(NT 0 1),((true=true)→ (AN 1)),(R0 ((↑i:Int)+1)),(R1 ((↑i:Int)+1)),(AI ((↑N:Int))),(AN nb),(AP nb (fun i_1=>[.int .i64 ((g i_1).1),.int .i64 ((g i_1).2.1)])),(AI ((↑v:Int))),(AN 0),(AN 0),(AN 0),((((↑i:Int)+1):Int)=(↑(i+1):Int)),(AN 2),(NL 1 1),(NL 1 1),(AI ((↑N:Int))),(AN nb),(AP nb (fun i_1=>[.int .i64 ((g i_1).1),.int .i64 ((g i_1).2.1)])),(AN 2),(NL 1 1),(NL 1 1),(AI 0),(AN 2),(NL 1 1),(NL 1 1),(AI ((↑N:Int))),(AN 0),(AN ((c+1))),(AN 2),(NL (c+1) (c+1)),(CV [(2,⟨true,2,1,(fun i_2=>[.p (.int .i64 (↑N:Int)),.ar 2 996 0 (c+1)])⟩),(996,⟨false,2,(c+1),(fun i_2=>(if (i_2<c) then [.p (.int .i64 ((h i_2).1)),.p (.int .i64 ((h i_2).2.1))] else [.p (.int .i64 ((g i).1)),.p (.int .i64 ((g i).2.1))]))⟩),(964,⟨false,2,1,(fun i_2=>[.p (.int .i64 ((g i).1)),.p (.int .i64 ((g i).2.1))])⟩),(0,⟨true,2,1,(fun i_2=>[.p (.int .i64 (↑N:Int)),.p (.seq true 2 nb (fun i_3=>[.int .i64 ((g i_3).1),.int .i64 ((g i_3).2.1)]))])⟩),(1,⟨true,2,1,(fun i_2=>[.p (.int .i64 0),.p (.nil)])⟩)] [0,1,2,996] 1 (c+1) (fun i_1=>if (i_1<c) then [.p (.int .i64 ((h i_1).1)),.p (.int .i64 ((h i_1).2.1))] else [.p (.int .i64 ((g i).1)),.p (.int .i64 ((g i).2.1))]) (fun i_1=>[.p (.int .i64 (if i_1<c then (h i_1).1 else (g i).1)),.p (.int .i64 (if i_1<c then (h i_1).2.1 else (g i).2.1))]))]):=by kernel_rfl
theorem drf (g:Nat→T_Bar) (nb N v i c:Nat) (h:Nat→T_Bar) :
    pieceOb Tryz.prog 0 [rg 5,.dec true,rg 18,.dec false,rg 3,.head] zf67 (DRs g nb N v i c h) [0,1,2,3] 1 (DRs g nb N v (i+1) c h) =
    some (zf67,[(NT 0 1),((decide ((↑i:Int)<(↑nb:Int)))=true),(NT 0 1),(IL 0 (↑i:Int)),(IT (↑i:Int) (↑nb:Int)),(AG ((g i).1 != (↑v:Int))),((((g i).1 != (↑v:Int))=true)→(NT 0 1)),(AG ((g i).1 != (↑v:Int))),(AG ((g i).1 != (↑v:Int))),((((g i).1 != (↑v:Int))=true)→(IL 0 (↑i:Int))),((((g i).1 != (↑v:Int))=true)→(IT (↑i:Int) (↑nb:Int))),(AG ((g i).1 != (↑v:Int))),(AG ((g i).1 != (↑v:Int))),(AG ((g i).1 != (↑v:Int))),(AG ((g i).1 != (↑v:Int))),(AG ((g i).1 != (↑v:Int))),((bif (g i).1 != (↑v:Int) then (g i).2.1 != (↑v:Int) else false)=false),(R0 ((↑i:Int)+1)),(R1 ((↑i:Int)+1)),(AI ((↑N:Int))),(AN nb),(AP nb (fun i_1=>[.int .i64 ((g i_1).1),.int .i64 ((g i_1).2.1)])),(AI ((↑v:Int))),(AN 0),(AN 0),(AN 0),((((↑i:Int)+1):Int)=(↑(i+1):Int)),(AN 2),(NL 1 1),(NL 1 1),(AI ((↑N:Int))),(AN nb),(AP nb (fun i_1=>[.int .i64 ((g i_1).1),.int .i64 ((g i_1).2.1)])),(AN 2),(NL 1 1),(NL 1 1),(AI 0),(AN 2),(NL 1 1),(NL 1 1),(AI ((↑N:Int))),(AN 0),(AN c),(AN 2),(NL c c),(AA c (fun i_1=>[.p (.int .i64 ((h i_1).1)),.p (.int .i64 ((h i_1).2.1))]))]):=by kernel_rfl
theorem dre (g:Nat→T_Bar) (nb N v i c:Nat) (h:Nat→T_Bar) :
    pathOb Tryz.prog Tryz.f284 0 [rg 5,.dec false,rg 2] zf67 (DRs g nb N v i c h) [3] 1 [(0,brOb c h)] (.agg [.p (.int .i64 N),.ar 2 0 0 c]) =
    some [(NT 0 1),((decide ((↑i:Int)<(↑nb:Int)))=false),(NT 0 1),(NT 0 1),((true=true)→ (AN 1)),(NT 0 1),(AI ((↑N:Int))),(AN 0),(AN c),(AN 2),(NL c c),(AA c (fun i_1=>[.p (.int .i64 ((h i_1).1)),.p (.int .i64 ((h i_1).2.1))])),(AE c)]:=by kernel_rfl
end Go.Proofs.YtkkjoghiigiokaaGreat.Mach
namespace Go.Proofs.YtkkjoghiigiokaaGreat.Mach
open Go
set_option linter.unusedVariables false
set_option linter.unusedSimpArgs false
def WOi (g:Nat→T_Bar) (nb N:Nat) (v i c:Nat) (h:Nat→T_Bar) (e:Nat) (f:Nat→Int):St :=
  ⟨[grG g nb N,.p (.int .i64 v),.pt 2 0 0 0,.p .any,.pt 2 1 0 0,.p .any,.pt 2 2 0 0,.ar 1 3 0 e,.p .any,.p .any,.p .any,.p .any,.p .any,.p .any,.p .any,brL g nb,.p (.int .i64 nb),.p (.int .i64 i)]++List.replicate 23 anyA,
   [(0,bxG g nb N),(1,z2),(2,gbx N 4 c),(3,iOb e f),(4,brOb c h)],5⟩
def WBs (N:Int) (n:Nat) (h:Nat→T_Bar):St :=
  ⟨[.p .any,.p .any,.p .any,.p .any,.pt 2 0 0 0,.pt 2 1 0 0]++List.replicate 11 anyA,[(0,z2),(1,gbx N 2 n),(2,brOb n h)],3⟩
theorem whs (b:T_Bar) (p:Int) :
    pathOb Tryz.prog Tryz.f222 0 [rg 2,rg 11] [.code (bodyOf Tryz.f222)] (start Tryz.f222 [] 0 [brA b,.p (.int .i64 p)]) [] 1 [] (.p (.bool (hasV b p))) =
    some [(NT 0 1),(AG (!b.1==p)),(((!b.1==p)=true)→(NT 0 1)),(AG (!b.1==p)),(AG (!b.1==p)),(((b.1==p)=false)→ ((!b.1==p)=true)),((bif b.1==p then true else b.2.1==p)=(hasV b p))]:=by kernel_rfl
theorem woz (g:Nat→T_Bar) (nb N v:Nat) :
    pieceOb Tryz.prog 0 [rg 3,rg 5,rg 2,rg 4,.head] [.code (bodyOf Tryz.f289)] (start Tryz.f289 [] 0 [grG g nb N,.p (.int .i64 v)]) [0,32,192,256] 1 (WOi g nb N v 0 0 (fun _=>(0,0,())) 0 (fun _=>0)) =
    some (zf55,[(NT 0 1),(NT 0 1),((true=true)→ (AN 1)),(NT 0 1),(AI ((↑N:Int))),(AN nb),(AP nb (fun i=>[.int .i64 ((g i).1),.int .i64 ((g i).2.1)])),(AI ((↑v:Int))),(AN 0),(AN 0),(AN 0),(AN 0),(AN 0),(AN nb),(AP nb (fun i=>[.int .i64 ((g i).1),.int .i64 ((g i).2.1)])),(AI ((↑nb:Int))),((0:Int)=(↑0:Int)),((([AV.p (PV.int IntKind.i64 (↑N:Int)),brL g nb].length):Nat)=2),(NL 1 1),(NL 1 1),(AI ((↑N:Int))),(AN nb),(AP nb (fun i=>[.int .i64 ((g i).1),.int .i64 ((g i).2.1)])),((((List.map (fun v=>AV.p (absV v)) [Value.int IntKind.i64 0,Value.slice none 0 0]).length):Nat)=2),(NL 1 1),(NL 1 1),(AI 0),((((List.map (fun v=>AV.p (absV v)) [Value.int IntKind.i64 0,Value.slice none 0 0]).length):Nat)=2),(NL 1 1),(NL 1 1),(AI ((↑N:Int))),(AN 0),(AN 1),(NL 0 0),(AA 0 (fun i=>[.p (.int .i64 0)])),(AN 0)]):=by kernel_rfl
theorem wot (g:Nat→T_Bar) (nb N v i c:Nat) (h:Nat→T_Bar) (e:Nat) (f:Nat→Int) (o:Int) :
    pieceOb Tryz.prog 0 [rg 1,.dec true,rg 4,rm [(2,oc [] (.p (.bool true)))] 0,.dec true,rm [(3,oc [] (.p (.int .i64 o)))] 3,rg 2,.head] zf55 (WOi g nb N v i c h e f) [0,1,2,421,4] 1 (WOi g nb N v (i+1) c h (e+1) (fun s=>if s<e then f s else o)) =
    some (zf55,[((decide ((↑i:Int)<(↑nb:Int)))=true),(IL 0 (↑i:Int)),(IT (↑i:Int) (↑nb:Int)),(NT 0 1),((true=true)→ (AN 1)),(NT 0 1),Con Tryz.prog 222 0 [] [.agg [.p (.int .i64 ((g i).1)),.p (.int .i64 ((g i).2.1))],.p (.int .i64 (↑v:Int))] [] (.p (.bool true)),(true=true),(NT 0 1),Con Tryz.prog 223 0 [] [.agg [.p (.int .i64 ((g i).1)),.p (.int .i64 ((g i).2.1))],.p (.int .i64 (↑v:Int))] [] (.p (.int .i64 o)),(NL 1 1),(NL e e),(NL ((e+1)*8) 140737488355328),(NL (e+1) 9223372036854775807),(R0 ((↑i:Int)+1)),(R1 ((↑i:Int)+1)),(AI ((↑N:Int))),(AN nb),(AP nb (fun i_1=>[.int .i64 ((g i_1).1),.int .i64 ((g i_1).2.1)])),(AI ((↑v:Int))),(AN 0),(AN 0),(AN 0),(AN 0),(AN ((e+1))),(AN nb),(AP nb (fun i_1=>[.int .i64 ((g i_1).1),.int .i64 ((g i_1).2.1)])),(AI ((↑nb:Int))),((((↑i:Int)+1):Int)=(↑(i+1):Int)),(AN 2),(NL 1 1),(NL 1 1),(AI ((↑N:Int))),(AN nb),(AP nb (fun i_1=>[.int .i64 ((g i_1).1),.int .i64 ((g i_1).2.1)])),(AN 2),(NL 1 1),(NL 1 1),(AI 0),(AN 2),(NL 1 1),(NL 1 1),(AI ((↑N:Int))),(AN 0),(AN c),(AN 1),(NL (e+1) (e+1)),(CV [(421,⟨false,1,(e+1),(fun i_2=>(if (i_2<e) then [.p (.int .i64 (f i_2))] else [.p (.int .i64 o)]))⟩),(389,⟨false,1,1,(fun i_2=>[.p (.int .i64 o)])⟩),(101,⟨true,2,1,(fun i_2=>[.p (.int .i64 ((g i).1)),.p (.int .i64 ((g i).2.1))])⟩),(0,⟨true,2,1,(fun i_2=>[.p (.int .i64 (↑N:Int)),.p (.seq true 2 nb (fun i_3=>[.int .i64 ((g i_3).1),.int .i64 ((g i_3).2.1)]))])⟩),(1,⟨true,2,1,(fun i_2=>[.p (.int .i64 0),.p (.nil)])⟩),(2,⟨true,2,1,(fun i_2=>[.p (.int .i64 (↑N:Int)),.ar 2 4 0 c])⟩),(4,⟨false,2,c,(fun i_2=>[.p (.int .i64 ((h i_2).1)),.p (.int .i64 ((h i_2).2.1))])⟩)] [0,1,2,421,4] 1 (e+1) (fun i_1=>if (i_1<e) then [.p (.int .i64 (f i_1))] else [.p (.int .i64 o)]) (fun i_1=>[.p (.int .i64 (if i_1<e then f i_1 else o))])),(AN 2),(NL c c),(AA c (fun i_1=>[.p (.int .i64 ((h i_1).1)),.p (.int .i64 ((h i_1).2.1))]))]):=by kernel_rfl
theorem wof (g:Nat→T_Bar) (nb N v i c:Nat) (h:Nat→T_Bar) (e:Nat) (f:Nat→Int) :
    pieceOb Tryz.prog 0 [rg 1,.dec true,rg 4,rm [(2,oc [] (.p (.bool false)))] 0,.dec false,rg 7,rg 2,.head] zf55 (WOi g nb N v i c h e f) [0,1,2,3,389] 1 (WOi g nb N v (i+1) (c+1) (snoc c h (g i)) e f) =
    some (zf55,[((decide ((↑i:Int)<(↑nb:Int)))=true),(IL 0 (↑i:Int)),(IT (↑i:Int) (↑nb:Int)),(NT 0 1),((true=true)→ (AN 1)),(NT 0 1),Con Tryz.prog 222 0 [] [.agg [.p (.int .i64 ((g i).1)),.p (.int .i64 ((g i).2.1))],.p (.int .i64 (↑v:Int))] [] (.p (.bool false)),(false=false),(NT 0 1),(NT 0 1),(NL 1 1),(NL c c),(NL ((c+1)*16) 140737488355328),(NL (c+1) 9223372036854775807),(NT 0 1),((true=true)→ (AN 1)),(R0 ((↑i:Int)+1)),(R1 ((↑i:Int)+1)),(AI ((↑N:Int))),(AN nb),(AP nb (fun i_1=>[.int .i64 ((g i_1).1),.int .i64 ((g i_1).2.1)])),(AI ((↑v:Int))),(AN 0),(AN 0),(AN 0),(AN 0),(AN e),(AN nb),(AP nb (fun i_1=>[.int .i64 ((g i_1).1),.int .i64 ((g i_1).2.1)])),(AI ((↑nb:Int))),((((↑i:Int)+1):Int)=(↑(i+1):Int)),(AN 2),(NL 1 1),(NL 1 1),(AI ((↑N:Int))),(AN nb),(AP nb (fun i_1=>[.int .i64 ((g i_1).1),.int .i64 ((g i_1).2.1)])),(AN 2),(NL 1 1),(NL 1 1),(AI 0),(AN 2),(NL 1 1),(NL 1 1),(AI ((↑N:Int))),(AN 0),(AN ((c+1))),(AN 1),(NL e e),(AA e (fun i_1=>[.p (.int .i64 (f i_1))])),(AN 2),(NL (c+1) (c+1)),(CV [(2,⟨true,2,1,(fun i_2=>[.p (.int .i64 (↑N:Int)),.ar 2 389 0 (c+1)])⟩),(389,⟨false,2,(c+1),(fun i_2=>(if (i_2<c) then [.p (.int .i64 ((h i_2).1)),.p (.int .i64 ((h i_2).2.1))] else [.p (.int .i64 ((g i).1)),.p (.int .i64 ((g i).2.1))]))⟩),(357,⟨false,2,1,(fun i_2=>[.p (.int .i64 ((g i).1)),.p (.int .i64 ((g i).2.1))])⟩),(101,⟨true,2,1,(fun i_2=>[.p (.int .i64 ((g i).1)),.p (.int .i64 ((g i).2.1))])⟩),(0,⟨true,2,1,(fun i_2=>[.p (.int .i64 (↑N:Int)),.p (.seq true 2 nb (fun i_3=>[.int .i64 ((g i_3).1),.int .i64 ((g i_3).2.1)]))])⟩),(1,⟨true,2,1,(fun i_2=>[.p (.int .i64 0),.p (.nil)])⟩),(3,⟨false,1,e,(fun i_2=>[.p (.int .i64 (f i_2))])⟩)] [0,1,2,3,389] 1 (c+1) (fun i_1=>if (i_1<c) then [.p (.int .i64 ((h i_1).1)),.p (.int .i64 ((h i_1).2.1))] else [.p (.int .i64 ((g i).1)),.p (.int .i64 ((g i).2.1))]) (fun i_1=>[.p (.int .i64 (if i_1<c then (h i_1).1 else (g i).1)),.p (.int .i64 (if i_1<c then (h i_1).2.1 else (g i).2.1))]))]):=by kernel_rfl
theorem woe (g:Nat→T_Bar) (nb N v i c:Nat) (h:Nat→T_Bar) (e:Nat) (f r:Nat→Int) :
    pathOb Tryz.prog Tryz.f289 0 [rg 1,.dec false,rm [(1,oq [3] [(0,iOb e r)] (.tup []))] 0,rg 4] zf55 (WOi g nb N v i c h e f) [4,3] 1 [(0,brOb c h),(1,iOb e f)] (.tup [.agg [.p (.int .i64 N),.ar 2 0 0 c],.ar 1 1 0 e]) =
    some [((decide ((↑i:Int)<(↑nb:Int)))=false),(AE e),Con Tryz.prog 276 1 [(0,⟨false,1,e,(fun i_1=>[.p (.int .i64 (f i_1))])⟩)] [.ar 1 0 0 e] [(0,⟨false,1,e,(fun i_1=>[.p (.int .i64 (r i_1))])⟩)] (.tup []),(NT 0 1),(NT 0 1),((true=true)→ (AN 1)),(NT 0 1),(AI ((↑N:Int))),(AN 0),(AN c),(AN 0),(AN e),(AN 2),(NL c c),(AA c (fun i_1=>[.p (.int .i64 ((h i_1).1)),.p (.int .i64 ((h i_1).2.1))])),(AN 1),(NL e e),(∀ i_1:Nat,(((i_1:Nat)<e)→(All []∧(([.p (.int .i64 (r i_1))]:List AV)=[.p (.int .i64 (f i_1))])))),(AE c),(AE e)]:=by kernel_rfl
theorem wcp (N n:Nat) (h:Nat→T_Bar) :
    pathOb Tryz.prog Tryz.f63 0 [rg 2,rg 8] [.code (bodyOf Tryz.f63)] (start Tryz.f63 [] 0 [grG h n N]) [224] 1 [(0,brOb n h)] (.agg [.p (.int .i64 N),.ar 2 0 0 n]) =
    some [(NT 0 1),(NT 0 1),(NL 0 0),(NL ((0+n)*16) 140737488355328),(NL (0+n) 9223372036854775807),(NT 0 1),((true=true)→ (AN 1)),(NT 0 1),(AI ((↑N:Int))),(AN 0),(((0+n):Nat)=n),(AN 2),(NL n (0+n)),(AA n (fun i=>[.p (.int .i64 ((h i).1)),.p (.int .i64 ((h i).2.1))])),(AE n)]:=by kernel_rfl
theorem wba (N n:Nat) (h:Nat→T_Bar) (x:T_Bar) :
    pieceOb Tryz.prog 0 [rg 2,rm [(1,oc [(0,brOb n h)] (.agg [.p (.int .i64 N),.ar 2 0 0 n]))] 2,rg 6,.head] [.code (bodyOf Tryz.f225)] (start Tryz.f225 [] 0 [grG h n N,.p (.seq true 2 1 (fun _=>[.int .i64 x.1,.int .i64 x.2.1]))]) [32,128,288] 1 (WBs N (n+1) (snoc n h x)) =
    some ([.code (cAt (bodyOf Tryz.f225) [1,1,1,0]),.code (cAt (bodyOf Tryz.f225) [1,1,1,1])],[(NT 0 1),Con Tryz.prog 63 0 [] [(zf110 N n h)] (zf119 n h) (.agg [.p (.int .i64 (↑N:Int)),.ar 2 0 0 n]),(NT 0 1),((true=true)→ (AN 1)),(NT 0 1),(NL n n),(NL ((n+1)*16) 140737488355328),(NL (n+1) 9223372036854775807),(NT 0 1),((true=true)→ (AN 1)),(AN 0),(AN 0),((((List.map (fun v=>AV.p (absV v)) [Value.int IntKind.i64 0,Value.slice none 0 0]).length):Nat)=2),(NL 1 1),(NL 1 1),(AI 0),((((List.map (fun v=>AV.p (absV v)) [Value.int IntKind.i64 0,Value.slice none 0 0]).length):Nat)=2),(NL 1 1),(NL 1 1),(AI ((↑N:Int))),(AN 0),(AN ((n+1))),(AN 2),(NL (n+1) (n+1)),(CV [(128,⟨true,2,1,(fun i_1=>[.p (.int .i64 (↑N:Int)),.ar 2 288 0 (n+1)])⟩),(288,⟨false,2,(n+1),(fun i_1=>(if (i_1<n) then [.p (.int .i64 ((h i_1).1)),.p (.int .i64 ((h i_1).2.1))] else [.p (.int .i64 x.1),.p (.int .i64 x.2.1)]))⟩),(32,⟨true,2,1,(fun i_1=>[.p (.int .i64 0),.p (.nil)])⟩),(0,⟨true,2,1,(fun i_1=>[.p (.int .i64 (↑N:Int)),.p (.seq true 2 n (fun i_2=>[.int .i64 ((h i_2).1),.int .i64 ((h i_2).2.1)]))])⟩)] [32,128,288] 1 (n+1) (fun i=>if (i<n) then [.p (.int .i64 ((h i).1)),.p (.int .i64 ((h i).2.1))] else [.p (.int .i64 x.1),.p (.int .i64 x.2.1)]) (fun i=>[.p (.int .i64 (if i<n then (h i).1 else x.1)),.p (.int .i64 (if i<n then (h i).2.1 else x.2.1))]))]):=by kernel_rfl
theorem wbb (N n:Nat) (h r:Nat→T_Bar) :
    pathOb Tryz.prog Tryz.f225 0 [rm [(2,oq [2] [(0,brOb n r)] (.tup []))] 0,rg 2] [.code (cAt (bodyOf Tryz.f225) [1,1,1,0]),.code (cAt (bodyOf Tryz.f225) [1,1,1,1])] (WBs N n h) [2] 1 [(0,brOb n r)] (.agg [.p (.int .i64 N),.ar 2 0 0 n]) =
    some [(NT 0 1),(AE n),Con Tryz.prog 312 1 (zf119 n h) [.ar 2 0 0 n,.p (.fn 180)] (zf119 n r) (.tup []),(NT 0 1),(NT 0 1),((true=true)→ (AN 1)),(NT 0 1),(AI ((↑N:Int))),(AN 0),(AN n),(AN 2),(NL n n),(AA n (fun i=>[.p (.int .i64 ((r i).1)),.p (.int .i64 ((r i).2.1))])),(AE n)]:=by kernel_rfl
theorem oth_sumV {x:T_Bar} {v:Int} (h:hasV x v=true):x.1+x.2.1 - v=othF x v:=by
  rw [hasV_iff] at h
  unfold othF
  split<;>omega
theorem con_Near {N nb:Nat} {g:Nat→T_Bar} (hok:OkBars N nb g) (hN:N≤8) (hnb:nb≤24) (v:Nat) (hv:v≤8) :
    Con Tryz.prog 283 0 [] [grG g nb N,.p (.int .i64 v)] [(0,iOb (nrD g v nb).1 (nrD g v nb).2)] (.ar 1 0 0 (nrD g v nb).1):=by
  refine con_start Tryz.func283 rfl (by kernel_rfl) rfl (fun c hc=>?_)
  generalize hR:nrD g v nb=R
  have lo:∀ d i,i+d=nb→Run Tryz.prog c 283 zf66 (NRs g nb N v i (nrD g v i).1 (nrD g v i).2) (Post c [(0,iOb R.1 R.2)] (.ar 1 0 0 R.1)):=by
    intro d
    induction d with
    | zero =>
      intro i hi
      obtain rfl:i=nb:=by omega
      have hd:decide ((i:Int)<(i:Int))=false:=by simp
      rw [hR]
      refine path_ok mixed Tryz.func283 hc (nre g i N v i R.1 R.2) ?_
      repeat' (first | exact aN | apply aI)
      all_goals (first | exact aA _ _ | exact aE _ | omega | rfl | (intros;first | assumption | exact trivial | rfl | exact fT ‹_› | ((repeat' (first | assumption | apply anda | apply notf));done)) | (exact hd) | (intro t ht;simp [All]))
    | succ d ih =>
      intro i hi
      have hd:decide ((i:Int)<(nb:Int))=true:=decide_eq_true (by omega)
      have hrec:=ih (i+1) (by omega)
      have hn:=nrD_n g v i
      have hb:=hok i (by omega)
      have ho:=con_l4Other (g i) v (by omega) (by omega) (by omega)
      cases hh:hasV (g i) v with
      | true =>
        rw [oth_sumV hh] at ho
        rw [show nrD g v (i+1)=((nrD g v i).1+1,fun s=>if s<(nrD g v i).1 then (nrD g v i).2 s else othF (g i) v) by simp [nrD,hh]] at hrec
        generalize nrD g v i=q at hrec hn ⊢
        refine piece_ok mixed hc (nrt g nb N v i q.1 q.2 (othF (g i) v)) ?_ hrec
        repeat' (first | exact aN | apply aI)
        all_goals (first | exact aG _ | exact aP _ _ | omega | rfl | (intros;first | assumption | exact trivial | rfl | exact fT ‹_› | ((repeat' (first | assumption | apply anda | apply notf));done)) | (exact hd) | (exact hh) | (exact ho) | (simp;done) | (simp;omega) | (intro t ht;by_cases h':t<q.1<;>(simp [h',cvtL,cvt,tg,tru,All];done)) | (intro t ht;simp [All]))
      | false =>
        rw [show nrD g v (i+1)=nrD g v i by simp [nrD,hh]] at hrec
        generalize nrD g v i=q at hrec hn ⊢
        refine piece_ok mixed hc (nrf g nb N v i q.1 q.2) ?_ hrec
        repeat' (first | exact aN | apply aI)
        all_goals (first | exact aG _ | exact aP _ _ | exact aA _ _ | omega | rfl | (intros;first | assumption | exact trivial | rfl | exact fT ‹_› | ((repeat' (first | assumption | apply anda | apply notf));done)) | (exact hd) | (exact hh) | (simp;done) | (simp;omega) | (intro t ht;simp [All]))
  refine piece_ok mixed hc (nrz g nb N v) ?_ (lo nb 0 (by omega))
  repeat' (first | exact aN | apply aI)
  all_goals (first | exact aP _ _ | exact aA _ _ | omega | rfl | (intros;first | assumption | exact trivial | rfl | exact fT ‹_› | ((repeat' (first | assumption | apply anda | apply notf));done)) | (simp;done) | (intro t ht;exact absurd ht (Nat.not_lt_zero _)) | (intro t ht;simp [All]))
theorem hasV_n {x:T_Bar} {v:Int} (h:hasV x v=false):(bif x.1 != v then x.2.1 != v else false)=true:=by
  unfold hasV at h
  cases h1:(x.1==v) with
  | true=>rw [h1] at h;simp at h
  | false =>
    rw [h1] at h
    simp only [bne,h1,Bool.not_false,cond_true]
    simp only [cond_false] at h
    rw [h];rfl
theorem hasV_t {x:T_Bar} {v:Int} (h:hasV x v=true):(bif x.1 != v then x.2.1 != v else false)=false:=by
  unfold hasV at h
  cases h1:(x.1==v) with
  | true=>simp [bne,h1]
  | false =>
    rw [h1] at h
    simp only [cond_false] at h
    simp [bne,h1,h]
theorem con_Drop {N nb:Nat} {g:Nat→T_Bar} (hN:N≤8) (hnb:nb≤24) (v:Nat) (hv:v≤8) :
    Con Tryz.prog 284 0 [] [grG g nb N,.p (.int .i64 v)] [(0,brOb (drD g v nb).1 (drD g v nb).2)] (.agg [.p (.int .i64 N),.ar 2 0 0 (drD g v nb).1]):=by
  refine con_start Tryz.func284 rfl (by kernel_rfl) rfl (fun c hc=>?_)
  generalize hR:drD g v nb=R
  have lo:∀ d i,i+d=nb→Run Tryz.prog c 284 zf67 (DRs g nb N v i (drD g v i).1 (drD g v i).2) (Post c [(0,brOb R.1 R.2)] (.agg [.p (.int .i64 N),.ar 2 0 0 R.1])):=by
    intro d
    induction d with
    | zero =>
      intro i hi
      obtain rfl:i=nb:=by omega
      have hd:decide ((i:Int)<(i:Int))=false:=by simp
      rw [hR]
      refine path_ok mixed Tryz.func284 hc (dre g i N v i R.1 R.2) ?_
      repeat' (first | exact aN | apply aI)
      all_goals (first | exact aA _ _ | exact aE _ | omega | rfl | (intros;first | assumption | exact trivial | rfl | exact fT ‹_› | ((repeat' (first | assumption | apply anda | apply notf));done)) | (exact hd) | (intro t ht;simp [All]))
    | succ d ih =>
      intro i hi
      have hd:decide ((i:Int)<(nb:Int))=true:=decide_eq_true (by omega)
      have hrec:=ih (i+1) (by omega)
      have hn:=nrD_n g v i
      cases hh:hasV (g i) v with
      | true =>
        have hh':=hasV_t hh
        rw [show drD g v (i+1)=drD g v i by simp [drD,hh]] at hrec
        generalize drD g v i=q at hrec hn ⊢
        refine piece_ok mixed hc (drf g nb N v i q.1 q.2) ?_ hrec
        repeat' (first | exact aN | apply aI)
        all_goals (first | exact aG _ | exact aP _ _ | exact aA _ _ | omega | rfl | (intros;first | assumption | exact trivial | rfl | exact fT ‹_› | ((repeat' (first | assumption | apply anda | apply notf));done)) | (exact hd) | (exact hh') | (simp;done) | (simp;omega) | (intro t ht;simp [All]))
      | false =>
        have hh':=hasV_n hh
        rw [show drD g v (i+1)=sn (drD g v i) (g i) by simp [drD,hh]] at hrec
        generalize drD g v i=q at hrec hn ⊢
        refine piece_ok mixed hc (drt g nb N v i q.1 q.2) ?_ hrec
        repeat' (first | exact aN | apply aI)
        all_goals (first | exact aG _ | exact aP _ _ | omega | rfl | (intros;first | assumption | exact trivial | rfl | exact fT ‹_› | ((repeat' (first | assumption | apply anda | apply notf));done)) | (exact hd) | (exact hh') | (simp;done) | (simp;omega) | (intro t ht;by_cases h':t<q.1<;>(simp [h',snoc,cvtL,cvt,tg,tru,All];done)) | (intro t ht;simp [All]))
  refine piece_ok mixed hc (drz g nb N v) ?_ (lo nb 0 (by omega))
  repeat' (first | exact aN | apply aI)
  all_goals (first | exact aP _ _ | exact aA _ _ | omega | rfl | (intros;first | assumption | exact trivial | rfl | exact fT ‹_› | ((repeat' (first | assumption | apply anda | apply notf));done)) | (simp;done) | (intro t ht;exact absurd ht (Nat.not_lt_zero _)) | (intro t ht;simp [All]))
theorem srtI_id {n:Nat} {f:Nat→Int} (h:∀ s t,s<t→t<n→f s≤f t):∀ j,j<n→atI (srtI (lstI n f)) j=f j:=by
  have hp:(lstI n f).Pairwise (fun x y=>decide (x≤y)=true):=by
    unfold lstI
    rw [List.pairwise_map]
    refine List.Pairwise.imp_of_mem (R:=(· < ·)) (fun {a b} ha hb hab=>?_) List.pairwise_lt_range
    exact decide_eq_true (h a b hab (by simpa using hb))
  intro j hj
  unfold srtI
  rw [List.mergeSort_of_pairwise hp]
  simp [atI,lstI,hj]
theorem con_hasV (b:T_Bar) (p:Int):Con Tryz.prog 222 0 [] [brA b,.p (.int .i64 p)] [] (.p (.bool (hasV b p))):=by
  refine con_start Tryz.func222 rfl (by kernel_rfl) rfl (fun c hc=>?_)
  refine path_ok mixed Tryz.func222 hc (whs b p) ?_
  repeat' (first | exact aN | apply aI)
  all_goals (first | exact aG _ | omega | rfl | (intros;first | assumption | exact trivial | rfl | exact fT ‹_› | ((repeat' (first | assumption | apply anda | apply notf));done)))
theorem con_without {N nb:Nat} {g:Nat→T_Bar} (hok:OkBars N nb g) (ha:AscB nb g) (hN:N≤8) (hnb:nb≤24) (v:Nat) (hv:v≤8) :
    Con Tryz.prog 289 0 [] [grG g nb N,.p (.int .i64 v)] [(0,brOb (drD g v nb).1 (drD g v nb).2),(1,iOb (nrD g v nb).1 (nrD g v nb).2)] (.tup [.agg [.p (.int .i64 N),.ar 2 0 0 (drD g v nb).1],.ar 1 1 0 (nrD g v nb).1]):=by
  refine con_start Tryz.func289 rfl (by kernel_rfl) rfl (fun c hc=>?_)
  have hasc:=(nrD_in v hok ha nb (Nat.le_refl _)).2
  have hnn:=nrD_n g v nb
  have hsrt:=con_SortI (nrD g v nb).1 (nrD g v nb).2 (by omega)
  have hid:=srtI_id hasc
  generalize hR:nrD g v nb=R at hasc hsrt hid
  generalize hD:drD g v nb=D
  have lo:∀ d i,i+d=nb→Run Tryz.prog c 289 zf55 (WOi g nb N v i (drD g v i).1 (drD g v i).2 (nrD g v i).1 (nrD g v i).2) (Post c [(0,brOb D.1 D.2),(1,iOb R.1 R.2)] (.tup [.agg [.p (.int .i64 N),.ar 2 0 0 D.1],.ar 1 1 0 R.1])):=by
    intro d
    induction d with
    | zero =>
      intro i hi
      obtain rfl:i=nb:=by omega
      have hd:decide ((i:Int)<(i:Int))=false:=by simp
      rw [hR,hD]
      refine path_ok mixed Tryz.func289 hc (woe g i N v i D.1 D.2 R.1 R.2 (atI (srtI (lstI R.1 R.2)))) ?_
      repeat' (first | exact aN | apply aI)
      all_goals (first | exact aA _ _ | exact aE _ | omega | rfl | (intros;first | assumption | exact trivial | rfl | exact fT ‹_› | ((repeat' (first | assumption | apply anda | apply notf));done)) | (exact hd) | (exact hsrt) | (intro t ht;simp [All];done) | (intro t ht;simp [hid t ht,cvtL,cvt,tg,All]))
    | succ d ih =>
      intro i hi
      have hd:decide ((i:Int)<(nb:Int))=true:=decide_eq_true (by omega)
      have hrec:=ih (i+1) (by omega)
      have hn:=nrD_n g v i
      have hb:=hok i (by omega)
      have ho:=con_other (g i) v
      have hh0:=con_hasV (g i) v
      cases hh:hasV (g i) v with
      | true =>
        rw [hh] at hh0
        rw [show nrD g v (i+1)=((nrD g v i).1+1,fun s=>if s<(nrD g v i).1 then (nrD g v i).2 s else othF (g i) v) by simp [nrD,hh],
          show drD g v (i+1)=drD g v i by simp [drD,hh]] at hrec
        generalize nrD g v i=q at hrec hn ⊢
        generalize drD g v i=q2 at hrec hn ⊢
        refine piece_ok mixed hc (wot g nb N v i q2.1 q2.2 q.1 q.2 (othF (g i) v)) ?_ hrec
        repeat' (first | exact aN | apply aI)
        all_goals (first | exact aP _ _ | exact aA _ _ | omega | rfl | (intros;first | assumption | exact trivial | rfl | exact fT ‹_› | ((repeat' (first | assumption | apply anda | apply notf));done)) | (exact hd) | (exact hh0) | (exact ho) | (simp;done) | (simp;omega) | (intro t ht;by_cases h':t<q.1<;>(simp [h',cvtL,cvt,tg,tru,All];done)) | (intro t ht;simp [All]))
      | false =>
        rw [hh] at hh0
        rw [show nrD g v (i+1)=nrD g v i by simp [nrD,hh],show drD g v (i+1)=sn (drD g v i) (g i) by simp [drD,hh]] at hrec
        generalize nrD g v i=q at hrec hn ⊢
        generalize drD g v i=q2 at hrec hn ⊢
        refine piece_ok mixed hc (wof g nb N v i q2.1 q2.2 q.1 q.2) ?_ hrec
        repeat' (first | exact aN | apply aI)
        all_goals (first | exact aP _ _ | exact aA _ _ | omega | rfl | (intros;first | assumption | exact trivial | rfl | exact fT ‹_› | ((repeat' (first | assumption | apply anda | apply notf));done)) | (exact hd) | (exact hh0) | (simp;done) | (simp;omega) | (intro t ht;by_cases h':t<q2.1<;>(simp [h',snoc,cvtL,cvt,tg,tru,All];done)) | (intro t ht;simp [All]))
  refine piece_ok mixed hc (woz g nb N v) ?_ (lo nb 0 (by omega))
  repeat' (first | exact aN | apply aI)
  all_goals (first | exact aP _ _ | exact aA _ _ | omega | rfl | (intros;first | assumption | exact trivial | rfl | exact fT ‹_› | ((repeat' (first | assumption | apply anda | apply notf));done)) | (simp;done) | (intro t ht;exact absurd ht (Nat.not_lt_zero _)) | (intro t ht;simp [All]))
theorem con_copyG (N n:Nat) (h:Nat→T_Bar) (hn:n≤1048576):Con Tryz.prog 63 0 [] [grG h n N] [(0,brOb n h)] (.agg [.p (.int .i64 N),.ar 2 0 0 n]):=by
  refine con_start Tryz.func63 rfl (by kernel_rfl) rfl (fun c hc=>?_)
  refine path_ok mixed Tryz.func63 hc (wcp N n h) ?_
  repeat' (first | exact aN | apply aI)
  all_goals (first | exact aA _ _ | exact aE _ | omega | rfl | (intros;first | assumption | exact trivial | rfl | exact fT ‹_› | ((repeat' (first | assumption | apply anda | apply notf));done)) | (intro j hj;simp [All];done) | (simp;try omega))
theorem con_withOne (N n:Nat) (h:Nat→T_Bar) (x:T_Bar) (hn:n≤1000):Con Tryz.prog 225 0 [] [grG h n N,.p (.seq true 2 1 (fun _=>[.int .i64 x.1,.int .i64 x.2.1]))]
    [(0,brOb (n+1) (srtB (n+1) (snoc n h x)))] (.agg [.p (.int .i64 N),.ar 2 0 0 (n+1)]):=by
  have h1:=con_copyG N n h (by omega)
  have h2:=con_sortBars (n+1) (snoc n h x) (by omega)
  generalize srtB (n+1) (snoc n h x)=r at h2 ⊢
  refine con_start Tryz.func225 rfl (by kernel_rfl) rfl (fun c hc=>?_)
  refine piece_ok mixed hc (wba N n h x) ?_ (path_ok mixed Tryz.func225 hc (wbb N (n+1) (snoc n h x) r) ?_)
  ·
    repeat' (first | exact aN | apply aI)
    all_goals (first | omega | rfl | (intros;first | assumption | exact trivial | rfl | exact fT ‹_› | ((repeat' (first | assumption | apply anda | apply notf));done)) | (exact h1) | (intro j hj;by_cases h':j<n<;>simp [h',snoc,cvtL,cvt,tg,tru,All];done) | (intro j hj;simp [All];done) | (simp;try omega))
  ·
    repeat' (first | exact aN | apply aI)
    all_goals (first | exact aG _ | exact aP _ _ | exact aA _ _ | exact aE _ | omega | rfl | (intros;first | assumption | exact trivial | rfl | exact fT ‹_› | ((repeat' (first | assumption | apply anda | apply notf));done)) | (exact h2) | (intro j hj;simp [All];done) | (simp;try omega))
theorem con_putOne {N n:Nat} {h:Nat→T_Bar} (hg:isGraphF ((N:Int),(n,h),())=true) (x:T_Bar) (hn:n≤1000) :
    ∃ r:Nat→T_Bar,(∀ j,j<n+1→r j=srtB (n+1) (snoc n h x) j)∧Con Tryz.prog 216 0 [] [grG h n N,brA x] [(0,brOb (n+1) r)] (.agg [.p (.int .i64 N),.ar 2 0 0 (n+1)]):=by
  have cp:=con_l2Put h n N x (by omega)
  have hl:=insR_list h n x (goodB_sorted (graph_inR hg).2.2.2)
  have hn':=insR_n h n x
  rw [hn'] at cp hl
  rw [← lstB_snoc,← lstB_srt] at hl
  exact ⟨_,lstB_inj hl,cp⟩
end Go.Proofs.YtkkjoghiigiokaaGreat.Mach
namespace Go.Proofs.YtkkjoghiigiokaaGreat.Mach
open Go
def btI (w i:Int):Bool:=bitI .and .i64 (shrI .i64 w i) 1==1
theorem shr_nat (m i:Nat) (hi:i<62):shrI .i64 (m:Int) (i:Int)=((m >>> i:Nat):Int):=by
  unfold shrI
  have:min (i:Int).toNat IntKind.i64.bits=i:=by simp [IntKind.bits];omega
  rw [this,Int.fdiv_eq_ediv_of_nonneg _ (Int.le_of_lt (Int.pow_pos (by omega))),Nat.shiftRight_eq_div_pow]
  simp
theorem bv_nat (x:Nat):BitVec.ofInt 64 (x:Int)=BitVec.ofNat 64 x:=by
  simp
theorem bt_test (m:Nat) (i:Nat) (hm:m<2 ^ 62) (hi:i<62):btI (m:Int) (i:Int)=m.testBit i:=by
  unfold btI
  rw [shr_nat m i hi]
  have hle:m >>> i≤m:=Nat.shiftRight_le m i
  rw [Nat.testBit_eq_decide_div_mod_eq,← Nat.shiftRight_eq_div_pow]
  generalize m >>> i=x at hle ⊢
  have e:bitI .and .i64 ((x:Nat):Int) 1=((x % 2:Nat):Int):=by
    unfold bitI
    have e1:(BitVec.ofInt IntKind.i64.bits ((x:Nat):Int) &&& BitVec.ofInt IntKind.i64.bits 1).toNat=x % 2:=by
      rw [BitVec.toNat_and]
      show ((BitVec.ofInt 64 ((x:Nat):Int)).toNat &&& 1)=_
      rw [bv_nat,BitVec.toNat_ofNat,Nat.mod_eq_of_lt (by omega),Nat.and_one_is_mod]
    simp only [e1]
    exact wrap_in (by simp only [imin];omega) (by simp only [imax];omega)
  rw [e]
  rcases Nat.mod_two_eq_zero_or_one x with h | h<;>simp [h]
theorem shl_nat (e:Nat) (he:e<62):shlI .i64 1 (e:Int)=((2 ^ e:Nat):Int):=by
  unfold shlI
  have:min (e:Int).toNat IntKind.i64.bits=e:=by simp [IntKind.bits];omega
  rw [this]
  have h2:2 ^ e<2 ^ 62:=Nat.pow_lt_pow_right (by omega) he
  have h3:(1:Int)*2 ^ e=((2 ^ e:Nat):Int):=by simp
  rw [h3]
  generalize 2 ^ e=q at h2
  exact wrap_in (by simp only [imin];omega) (by simp only [imax];omega)
end Go.Proofs.YtkkjoghiigiokaaGreat.Mach
namespace Go.Proofs.YtkkjoghiigiokaaGreat.Mach
open Go
set_option linter.unusedVariables false
set_option linter.unusedSimpArgs false
def GSo (w M i c:Nat) (f:Nat→Int):St:=⟨[.p (.int .i64 w),.p (.int .i64 M),.p .any,.p .any,.p .any,.ar 1 0 0 c,.p .any,.p .any,.p (.int .i64 M),.p (.int .i64 i)]++List.replicate 13 anyA,[(0,iOb c f)],1⟩
def GSl (w M i c:Nat) (f:Nat→Int):St:=⟨[.p (.int .i64 M),.p (.int .i64 w),.p .any,.p .any,.p .any,.ar 1 0 0 c,.p (.int .i64 i)]++List.replicate 16 anyA,[(0,iOb c f)],1⟩
theorem gOz (w M:Nat) :
    pieceOb Tryz.prog 0 [rg 1,rg 2,rg 2,.head] [.code (bodyOf Tryz.f190)] (start Tryz.f190 [] 0 [.p (.int .i64 w),.p (.int .i64 M)]) [32] 1 (GSo w M 0 0 (fun _=>0)) =
    some (zf68,[(AI ((↑w:Int))),(AI ((↑M:Int))),(AN 0),(AN 0),(AI ((↑M:Int))),((0:Int)=(↑0:Int)),(AN 1),(NL 0 0),(AA 0 (fun i=>[.p (.int .i64 0)]))]):=by kernel_rfl
theorem gOt (w M i c:Nat) (f:Nat→Int) :
    pieceOb Tryz.prog 0 [rg 1,.dec true,rg 2,rg 5,.dec true,rg 5,rg 2,.head] zf68 (GSo w M i c f) [353] 1 (GSo w M (i+1) (c+1) (fun s=>if s<c then f s else i)) =
    some (zf68,[((decide ((↑i:Int)<(↑M:Int)))=true),(IL 0 (↑i:Int)),((bitI BinOp.and IntKind.i64 (shrI IntKind.i64 (↑w:Int) (↑i:Int)) 1==1)=true),(NL 1 1),(NL c c),(NL ((c+1)*8) 140737488355328),(NL (c+1) 9223372036854775807),(R0 ((↑i:Int)+1)),(R1 ((↑i:Int)+1)),(AI ((↑w:Int))),(AI ((↑M:Int))),(AN 0),(AN ((c+1))),(AI ((↑M:Int))),((((↑i:Int)+1):Int)=(↑(i+1):Int)),(AN 1),(NL (c+1) (c+1)),(CV [(353,⟨false,1,(c+1),(fun i_2=>(if (i_2<c) then [.p (.int .i64 (f i_2))] else [.p (.int .i64 (↑i:Int))]))⟩),(321,⟨false,1,1,(fun i_2=>[.p (.int .i64 (↑i:Int))])⟩)] [353] 1 (c+1) (fun i_1=>if (i_1<c) then [.p (.int .i64 (f i_1))] else [.p (.int .i64 (↑i:Int))]) (fun i_1=>[.p (.int .i64 (if i_1<c then f i_1 else (↑i:Int)))]))]):=by kernel_rfl
theorem gOf (w M i c:Nat) (f:Nat→Int) :
    pieceOb Tryz.prog 0 [rg 1,.dec true,rg 2,rg 5,.dec false,rg 2,.head] zf68 (GSo w M i c f) [0] 1 (GSo w M (i+1) c f) =
    some (zf68,[((decide ((↑i:Int)<(↑M:Int)))=true),(IL 0 (↑i:Int)),((bitI BinOp.and IntKind.i64 (shrI IntKind.i64 (↑w:Int) (↑i:Int)) 1==1)=false),(R0 ((↑i:Int)+1)),(R1 ((↑i:Int)+1)),(AI ((↑w:Int))),(AI ((↑M:Int))),(AN 0),(AN c),(AI ((↑M:Int))),((((↑i:Int)+1):Int)=(↑(i+1):Int)),(AN 1),(NL c c),(AA c (fun i_1=>[.p (.int .i64 (f i_1))]))]):=by kernel_rfl
theorem gOe (w M i c:Nat) (f:Nat→Int) :
    pathOb Tryz.prog Tryz.f190 0 [rg 1,.dec false,rg 2] zf68 (GSo w M i c f) [0] 1 [(0,iOb c f)] (.ar 1 0 0 c) =
    some [((decide ((↑i:Int)<(↑M:Int)))=false),(AN 0),(AN c),(AN 1),(NL c c),(AA c (fun i_1=>[.p (.int .i64 (f i_1))])),(AE c)]:=by kernel_rfl
theorem gLz (w M:Nat) :
    pieceOb Tryz.prog 0 [rg 1,rg 2,rg 1,.head] [.code (bodyOf Tryz.f177)] (start Tryz.f177 [] 0 [.p (.int .i64 M),.p (.int .i64 w)]) [32] 1 (GSl w M 0 0 (fun _=>0)) =
    some (zf69,[(AI ((↑M:Int))),(AI ((↑w:Int))),(AN 0),(AN 0),((0:Int)=(↑0:Int)),(AN 1),(NL 0 0),(AA 0 (fun i=>[.p (.int .i64 0)]))]):=by kernel_rfl
theorem gLt (w M i c:Nat) (f:Nat→Int) :
    pieceOb Tryz.prog 0 [rg 3,.dec true,rg 5,.dec true,rg 5,rg 3,.head] zf69 (GSl w M i c f) [353] 1 (GSl w M (i+1) (c+1) (fun s=>if s<c then f s else i)) =
    some (zf69,[((decide ((↑i:Int)<(↑M:Int)))=true),(IL 0 (↑i:Int)),((bitI BinOp.and IntKind.i64 (shrI IntKind.i64 (↑w:Int) (↑i:Int)) 1==1)=true),(NL 1 1),(NL c c),(NL ((c+1)*8) 140737488355328),(NL (c+1) 9223372036854775807),(R0 ((↑i:Int)+1)),(R1 ((↑i:Int)+1)),(AI ((↑M:Int))),(AI ((↑w:Int))),(AN 0),(AN ((c+1))),((((↑i:Int)+1):Int)=(↑(i+1):Int)),(AN 1),(NL (c+1) (c+1)),(CV [(353,⟨false,1,(c+1),(fun i_2=>(if (i_2<c) then [.p (.int .i64 (f i_2))] else [.p (.int .i64 (↑i:Int))]))⟩),(321,⟨false,1,1,(fun i_2=>[.p (.int .i64 (↑i:Int))])⟩)] [353] 1 (c+1) (fun i_1=>if (i_1<c) then [.p (.int .i64 (f i_1))] else [.p (.int .i64 (↑i:Int))]) (fun i_1=>[.p (.int .i64 (if i_1<c then f i_1 else (↑i:Int)))]))]):=by kernel_rfl
theorem gLf (w M i c:Nat) (f:Nat→Int) :
    pieceOb Tryz.prog 0 [rg 3,.dec true,rg 5,.dec false,rg 3,.head] zf69 (GSl w M i c f) [0] 1 (GSl w M (i+1) c f) =
    some (zf69,[((decide ((↑i:Int)<(↑M:Int)))=true),(IL 0 (↑i:Int)),((bitI BinOp.and IntKind.i64 (shrI IntKind.i64 (↑w:Int) (↑i:Int)) 1==1)=false),(R0 ((↑i:Int)+1)),(R1 ((↑i:Int)+1)),(AI ((↑M:Int))),(AI ((↑w:Int))),(AN 0),(AN c),((((↑i:Int)+1):Int)=(↑(i+1):Int)),(AN 1),(NL c c),(AA c (fun i_1=>[.p (.int .i64 (f i_1))]))]):=by kernel_rfl
theorem gLe (w M i c:Nat) (f:Nat→Int) :
    pathOb Tryz.prog Tryz.f177 0 [rg 3,.dec false,rg 2] zf69 (GSl w M i c f) [0] 1 [(0,iOb c f)] (.ar 1 0 0 c) =
    some [((decide ((↑i:Int)<(↑M:Int)))=false),(AN 0),(AN c),(AN 1),(NL c c),(AA c (fun i_1=>[.p (.int .i64 (f i_1))])),(AE c)]:=by kernel_rfl
def stD (w:Nat):Nat→T_IntS
  | 0=>(0,fun _=>0)
  | i+1=>if btI w i=true then ((stD w i).1+1,fun s=>if s<(stD w i).1 then (stD w i).2 s else i) else stD w i
theorem stD_n (w:Nat):∀ i,(stD w i).1≤i
  | 0=>Nat.le_refl _
  | i+1=>by
    have:=stD_n w i
    simp only [stD]
    split
    · show (stD w i).1+1≤i+1;omega
    · omega
theorem con_setOf (w M:Nat) (hM:M≤62):Con Tryz.prog 190 0 [] [.p (.int .i64 w),.p (.int .i64 M)] [(0,iOb (stD w M).1 (stD w M).2)] (.ar 1 0 0 (stD w M).1):=by
  refine con_start Tryz.func190 rfl (by kernel_rfl) rfl (fun c hc=>?_)
  generalize hR:stD w M=R
  have lo:∀ d i,i+d=M→Run Tryz.prog c 190 zf68 (GSo w M i (stD w i).1 (stD w i).2) (Post c [(0,iOb R.1 R.2)] (.ar 1 0 0 R.1)):=by
    intro d
    induction d with
    | zero =>
      intro i hi
      obtain rfl:i=M:=by omega
      have hd:decide ((i:Int)<(i:Int))=false:=by simp
      rw [hR]
      refine path_ok mixed Tryz.func190 hc (gOe w i i R.1 R.2) ?_
      repeat' (first | exact aN | apply aI)
      all_goals (first | exact aA _ _ | exact aE _ | omega | rfl | (intros;first | assumption | exact trivial | rfl | exact fT ‹_› | ((repeat' (first | assumption | apply anda | apply notf));done)) | (exact hd) | (intro t ht;simp [All]))
    | succ d ih =>
      intro i hi
      have hd:decide ((i:Int)<(M:Int))=true:=decide_eq_true (by omega)
      have hrec:=ih (i+1) (by omega)
      have hn:=stD_n w i
      cases hb:btI w i with
      | true =>
        rw [show stD w (i+1)=((stD w i).1+1,fun s=>if s<(stD w i).1 then (stD w i).2 s else i) by simp [stD,hb]] at hrec
        generalize stD w i=q at hn hrec ⊢
        refine piece_ok mixed hc (gOt w M i q.1 q.2) ?_ hrec
        repeat' (first | exact aN | apply aI)
        all_goals (first | omega | rfl | (intros;first | assumption | exact trivial | rfl | exact fT ‹_› | ((repeat' (first | assumption | apply anda | apply notf));done)) | (exact hd) | (exact hb) | (intro t ht;by_cases h':t<q.1<;>simp [h',cvtL,cvt,tg,tru,All]))
      | false =>
        rw [show stD w (i+1)=stD w i by simp [stD,hb]] at hrec
        generalize stD w i=q at hn hrec ⊢
        refine piece_ok mixed hc (gOf w M i q.1 q.2) ?_ hrec
        repeat' (first | exact aN | apply aI)
        all_goals (first | exact aA _ _ | omega | rfl | (intros;first | assumption | exact trivial | rfl | exact fT ‹_› | ((repeat' (first | assumption | apply anda | apply notf));done)) | (exact hd) | (exact hb) | (intro t ht;simp [All]))
  refine piece_ok mixed hc (gOz w M) ?_ (lo M 0 (by omega))
  repeat' (first | exact aN | apply aI)
  all_goals (first | exact aA _ _ | omega | rfl | (intros;first | assumption | exact trivial | rfl | exact fT ‹_› | ((repeat' (first | assumption | apply anda | apply notf));done)) | (intro t ht;exact absurd ht (Nat.not_lt_zero _)) | (intro t ht;simp [All]))
theorem con_l3Set (w M:Nat) (hM:M≤62):Con Tryz.prog 177 0 [] [.p (.int .i64 M),.p (.int .i64 w)] [(0,iOb (stD w M).1 (stD w M).2)] (.ar 1 0 0 (stD w M).1):=by
  refine con_start Tryz.func177 rfl (by kernel_rfl) rfl (fun c hc=>?_)
  generalize hR:stD w M=R
  have lo:∀ d i,i+d=M→Run Tryz.prog c 177 zf69 (GSl w M i (stD w i).1 (stD w i).2) (Post c [(0,iOb R.1 R.2)] (.ar 1 0 0 R.1)):=by
    intro d
    induction d with
    | zero =>
      intro i hi
      obtain rfl:i=M:=by omega
      have hd:decide ((i:Int)<(i:Int))=false:=by simp
      rw [hR]
      refine path_ok mixed Tryz.func177 hc (gLe w i i R.1 R.2) ?_
      repeat' (first | exact aN | apply aI)
      all_goals (first | exact aA _ _ | exact aE _ | omega | rfl | (intros;first | assumption | exact trivial | rfl | exact fT ‹_› | ((repeat' (first | assumption | apply anda | apply notf));done)) | (exact hd) | (intro t ht;simp [All]))
    | succ d ih =>
      intro i hi
      have hd:decide ((i:Int)<(M:Int))=true:=decide_eq_true (by omega)
      have hrec:=ih (i+1) (by omega)
      have hn:=stD_n w i
      cases hb:btI w i with
      | true =>
        rw [show stD w (i+1)=((stD w i).1+1,fun s=>if s<(stD w i).1 then (stD w i).2 s else i) by simp [stD,hb]] at hrec
        generalize stD w i=q at hn hrec ⊢
        refine piece_ok mixed hc (gLt w M i q.1 q.2) ?_ hrec
        repeat' (first | exact aN | apply aI)
        all_goals (first | omega | rfl | (intros;first | assumption | exact trivial | rfl | exact fT ‹_› | ((repeat' (first | assumption | apply anda | apply notf));done)) | (exact hd) | (exact hb) | (intro t ht;by_cases h':t<q.1<;>simp [h',cvtL,cvt,tg,tru,All]))
      | false =>
        rw [show stD w (i+1)=stD w i by simp [stD,hb]] at hrec
        generalize stD w i=q at hn hrec ⊢
        refine piece_ok mixed hc (gLf w M i q.1 q.2) ?_ hrec
        repeat' (first | exact aN | apply aI)
        all_goals (first | exact aA _ _ | omega | rfl | (intros;first | assumption | exact trivial | rfl | exact fT ‹_› | ((repeat' (first | assumption | apply anda | apply notf));done)) | (exact hd) | (exact hb) | (intro t ht;simp [All]))
  refine piece_ok mixed hc (gLz w M) ?_ (lo M 0 (by omega))
  repeat' (first | exact aN | apply aI)
  all_goals (first | exact aA _ _ | omega | rfl | (intros;first | assumption | exact trivial | rfl | exact fT ‹_› | ((repeat' (first | assumption | apply anda | apply notf));done)) | (intro t ht;exact absurd ht (Nat.not_lt_zero _)) | (intro t ht;simp [All]))
end Go.Proofs.YtkkjoghiigiokaaGreat.Mach
namespace Go.Proofs.YtkkjoghiigiokaaGreat.Mach
open Go
set_option linter.unusedVariables false
set_option linter.unusedSimpArgs false
def bvI (w v:Int):Int:=bitI .and .i64 (shrI .i64 w v) 1
def bwI (w a b:Int):Int:=bitI .and .i64 (bitI .and .i64 (shrI .i64 w a) (shrI .i64 w b)) 1
def CSp (g:Nat→T_Bar) (nb N:Nat) (w:T_IntS) (i c:Nat) (f:Nat→Int):St :=
  ⟨[grG g nb N,inL w,.pt 2 0 0 0,.p .any,.p .any,.ar 1 1 0 c,.p (.int .i64 i)]++List.replicate 31 anyA,[(0,bxG g nb N),(1,iOb c f)],2⟩
def CO0 (g:Nat→T_Bar) (nb N k l w:Nat):St :=
  ⟨[grG g nb N,.p (.int .i64 k),.p (.int .i64 l),.pt 2 0 0 0,.p .any,.p .any,.p .any,.p .any,.p (.int .i64 w)]++List.replicate 70 anyA,[(0,bxG g nb N)],1⟩
def CO1 (g:Nat→T_Bar) (nb N k l w:Nat) (s:Int) (v:Nat):St :=
  ⟨[grG g nb N,.p (.int .i64 k),.p (.int .i64 l),.pt 2 0 0 0,.p .any,.p .any,.p .any,.p .any,.p (.int .i64 w),.p (.int .i64 s),.p (.int .i64 0)]++List.replicate 21 anyA++[.p (.int .i64 N),.p (.int .i64 v)]++List.replicate 45 anyA,[(0,bxG g nb N)],1⟩
def CO2 (g:Nat→T_Bar) (nb N k l w:Nat) (s q:Int) (i:Nat):St :=
  ⟨[grG g nb N,.p (.int .i64 k),.p (.int .i64 l),.pt 2 0 0 0,.p .any,.p .any,.p .any,.p .any,.p (.int .i64 w),.p (.int .i64 s),.p (.int .i64 q)]++List.replicate 33 anyA++[brL g nb,.p (.int .i64 nb),.p (.int .i64 i)]++List.replicate 32 anyA,[(0,bxG g nb N)],1⟩
def CQ0 (g:Nat→T_Bar) (nb N k l w:Nat):St :=
  ⟨[grG g nb N,.p (.int .i64 k),.p (.int .i64 l),.pt 2 0 0 0,.p .any,.p .any,.p .any,.p .any,.p (.int .i64 w)]++List.replicate 41 anyA,[(0,bxG g nb N)],1⟩
theorem wPz (g:Nat→T_Bar) (nb N:Nat) (w:T_IntS) :
    pieceOb Tryz.prog 0 [rg 2,rg 2,rg 1,.head] [.code (bodyOf Tryz.f87)] (start Tryz.f87 [] 0 [grG g nb N,inL w]) [0,64] 1 (CSp g nb N w 0 0 (fun _=>0)) =
    some (zf80,[(AI ((↑N:Int))),(AN nb),(AP nb (fun i=>[.int .i64 ((g i).1),.int .i64 ((g i).2.1)])),(AN w.1),(AP w.1 (fun i=>[.int .i64 (w.2 i)])),(AN 0),(AN 0),(AN 0),((0:Int)=(↑0:Int)),((([AV.p (PV.int IntKind.i64 (↑N:Int)),brL g nb].length):Nat)=2),(NL 1 1),(NL 1 1),(AI ((↑N:Int))),(AN nb),(AP nb (fun i=>[.int .i64 ((g i).1),.int .i64 ((g i).2.1)])),(AN 1),(NL 0 0),(AA 0 (fun i=>[.p (.int .i64 0)]))]):=by kernel_rfl
theorem wPt (g:Nat→T_Bar) (nb N:Nat) (w:T_IntS) (i c:Nat) (f:Nat→Int) :
    pieceOb Tryz.prog 0 [rg 5,.dec true,rm [(7,oc [] (.p (.bool true))),(8,oc [] (.p (.bool true)))] 1,.dec true,rg 5,rg 3,.head] zf80 (CSp g nb N w i c f) [0,834] 1 (CSp g nb N w (i+1) (c+1) (fun s=>if s<c then f s else i)) =
    some (zf80,[(NT 0 1),((decide ((↑i:Int)<(↑nb:Int)))=true),(NT 0 1),(IL 0 (↑i:Int)),(IT (↑i:Int) (↑nb:Int)),Con Tryz.prog 172 0 [] [.p (.seq true 1 w.1 (fun i_1=>[.int .i64 (w.2 i_1)])),.p (.int .i64 ((g i).1))] [] (.p (.bool true)),(AG true),((true=true)→(NT 0 1)),(AG true),(AG true),((true=true)→(IL 0 (↑i:Int))),((true=true)→(IT (↑i:Int) (↑nb:Int))),(AG true),(AG true),(AG true),(AG true),((true=true)→ Con Tryz.prog 172 0 [] [.p (.seq true 1 w.1 (fun i_1=>[.int .i64 (w.2 i_1)])),.p (.int .i64 ((g i).2.1))] [] (.p (.bool true))),(AG true),((bif true then true else false)=true),(NL 1 1),(NL c c),(NL ((c+1)*8) 140737488355328),(NL (c+1) 9223372036854775807),(R0 ((↑i:Int)+1)),(R1 ((↑i:Int)+1)),(AI ((↑N:Int))),(AN nb),(AP nb (fun i_1=>[.int .i64 ((g i_1).1),.int .i64 ((g i_1).2.1)])),(AN w.1),(AP w.1 (fun i_1=>[.int .i64 (w.2 i_1)])),(AN 0),(AN 0),(AN ((c+1))),((((↑i:Int)+1):Int)=(↑(i+1):Int)),(AN 2),(NL 1 1),(NL 1 1),(AI ((↑N:Int))),(AN nb),(AP nb (fun i_1=>[.int .i64 ((g i_1).1),.int .i64 ((g i_1).2.1)])),(AN 1),(NL (c+1) (c+1)),(CV [(834,⟨false,1,(c+1),(fun i_2=>(if (i_2<c) then [.p (.int .i64 (f i_2))] else [.p (.int .i64 (↑i:Int))]))⟩),(802,⟨false,1,1,(fun i_2=>[.p (.int .i64 (↑i:Int))])⟩),(0,⟨true,2,1,(fun i_2=>[.p (.int .i64 (↑N:Int)),.p (.seq true 2 nb (fun i_3=>[.int .i64 ((g i_3).1),.int .i64 ((g i_3).2.1)]))])⟩)] [0,834] 1 (c+1) (fun i_1=>if (i_1<c) then [.p (.int .i64 (f i_1))] else [.p (.int .i64 (↑i:Int))]) (fun i_1=>[.p (.int .i64 (if i_1<c then f i_1 else (↑i:Int)))]))]):=by kernel_rfl
theorem wPf (g:Nat→T_Bar) (nb N:Nat) (w:T_IntS) (i c:Nat) (f:Nat→Int) (a b:Bool) :
    pieceOb Tryz.prog 0 [rg 5,.dec true,rm [(7,oc [] (.p (.bool a))),(8,oc [] (.p (.bool b)))] 1,.dec false,rg 3,.head] zf80 (CSp g nb N w i c f) [0,1] 1 (CSp g nb N w (i+1) c f) =
    some (zf80,[(NT 0 1),((decide ((↑i:Int)<(↑nb:Int)))=true),(NT 0 1),(IL 0 (↑i:Int)),(IT (↑i:Int) (↑nb:Int)),Con Tryz.prog 172 0 [] [.p (.seq true 1 w.1 (fun i_1=>[.int .i64 (w.2 i_1)])),.p (.int .i64 ((g i).1))] [] (.p (.bool a)),(AG a),((a=true)→(NT 0 1)),(AG a),(AG a),((a=true)→(IL 0 (↑i:Int))),((a=true)→(IT (↑i:Int) (↑nb:Int))),(AG a),(AG a),(AG a),(AG a),((a=true)→ Con Tryz.prog 172 0 [] [.p (.seq true 1 w.1 (fun i_1=>[.int .i64 (w.2 i_1)])),.p (.int .i64 ((g i).2.1))] [] (.p (.bool b))),(AG a),((bif a then b else false)=false),(R0 ((↑i:Int)+1)),(R1 ((↑i:Int)+1)),(AI ((↑N:Int))),(AN nb),(AP nb (fun i_1=>[.int .i64 ((g i_1).1),.int .i64 ((g i_1).2.1)])),(AN w.1),(AP w.1 (fun i_1=>[.int .i64 (w.2 i_1)])),(AN 0),(AN 0),(AN c),((((↑i:Int)+1):Int)=(↑(i+1):Int)),(AN 2),(NL 1 1),(NL 1 1),(AI ((↑N:Int))),(AN nb),(AP nb (fun i_1=>[.int .i64 ((g i_1).1),.int .i64 ((g i_1).2.1)])),(AN 1),(NL c c),(AA c (fun i_1=>[.p (.int .i64 (f i_1))]))]):=by kernel_rfl
theorem wPe (g:Nat→T_Bar) (nb N:Nat) (w:T_IntS) (i c:Nat) (f:Nat→Int) :
    pathOb Tryz.prog Tryz.f87 0 [rg 5,.dec false,rg 2] zf80 (CSp g nb N w i c f) [1] 1 [(0,iOb c f)] (.ar 1 0 0 c) =
    some [(NT 0 1),((decide ((↑i:Int)<(↑nb:Int)))=false),(AN 0),(AN c),(AN 1),(NL c c),(AA c (fun i_1=>[.p (.int .i64 (f i_1))])),(AE c)]:=by kernel_rfl
theorem wOz (g:Nat→T_Bar) (nb N k l:Nat) :
    pieceOb Tryz.prog 0 [rg 3,rm [(1,oc [] (.p (.bool true))),(4,oc [] (.p (.bool true)))] 2,.dec false,rg 1,.head] [.code (bodyOf Tryz.f69)] (start Tryz.f69 [] 0 [grG g nb N,.p (.int .i64 k),.p (.int .i64 l)]) [0] 1 (CO0 g nb N k l 1) =
    some (zf81,[(NT 0 1),Con Tryz.prog 62 0 [] [(zf110 N nb g)] [] (.p (.bool true)),(AG (!!true)),(AG (!!true)),(((!!true)=true)→ Con Tryz.prog 189 0 [] [.p (.int .i64 (↑k:Int)),.p (.int .i64 (↑l:Int))] [] (.p (.bool true))),(AG (!!true)),(((!true)=false)→ ((!!true)=true)),((bif !true then true else !true)=false),(AI ((↑N:Int))),(AN nb),(AP nb (fun i=>[.int .i64 ((g i).1),.int .i64 ((g i).2.1)])),(AI ((↑k:Int))),(AI ((↑l:Int))),(AN 0),((1:Int)=(↑1:Int)),((([AV.p (PV.int IntKind.i64 (↑N:Int)),brL g nb].length):Nat)=2),(NL 1 1),(NL 1 1),(AI ((↑N:Int))),(AN nb),(AP nb (fun i=>[.int .i64 ((g i).1),.int .i64 ((g i).2.1)]))]):=by kernel_rfl
theorem wOa (g:Nat→T_Bar) (nb N k l w:Nat) :
    pieceOb Tryz.prog 0 [rg 5,.dec true,rg 2,rg 3,.head] zf81 (CO0 g nb N k l w) [0] 1 (CO1 g nb N k l w 0 0) =
    some (zf13,[(NT 0 1),(IL 0 (↑N:Int)),((decide ((↑w:Int)<shlI IntKind.i64 1 (↑N:Int)))=true),(NT 0 1),(AI ((↑N:Int))),(AN nb),(AP nb (fun i=>[.int .i64 ((g i).1),.int .i64 ((g i).2.1)])),(AI ((↑k:Int))),(AI ((↑l:Int))),(AN 0),(AI ((↑w:Int))),(AI 0),(AI 0),(AI ((↑N:Int))),((0:Int)=(↑0:Int)),(AN 2),(NL 1 1),(NL 1 1),(AI ((↑N:Int))),(AN nb),(AP nb (fun i=>[.int .i64 ((g i).1),.int .i64 ((g i).2.1)]))]):=by kernel_rfl
theorem wOe (g:Nat→T_Bar) (nb N k l w:Nat) :
    pathOb Tryz.prog Tryz.f69 0 [rg 5,.dec false,rg 3] zf81 (CO0 g nb N k l w) [161] 1 [(0,iOb 0 (fun _=>0))] (.tup [.ar 1 0 0 0,.p (.bool false)]) =
    some [(NT 0 1),(IL 0 (↑N:Int)),((decide ((↑w:Int)<shlI IntKind.i64 1 (↑N:Int)))=false),(AN 0),(AN 0),(false=false),(AN 1),(NL 0 0),(AA 0 (fun i=>[.p (.int .i64 0)])),(AE 0)]:=by kernel_rfl
theorem wOb (g:Nat→T_Bar) (nb N k l w:Nat) (s:Int) (v:Nat) :
    pieceOb Tryz.prog 0 [rg 1,.dec true,rg 2,rg 7,rg 2,.head] zf13 (CO1 g nb N k l w s v) [0] 1 (CO1 g nb N k l w (s+bvI w v) (v+1)) =
    some (zf13,[((decide ((↑v:Int)<(↑N:Int)))=true),(IL 0 (↑v:Int)),(R0 (s+bitI BinOp.and IntKind.i64 (shrI IntKind.i64 (↑w:Int) (↑v:Int)) 1)),(R1 (s+bitI BinOp.and IntKind.i64 (shrI IntKind.i64 (↑w:Int) (↑v:Int)) 1)),(R0 ((↑v:Int)+1)),(R1 ((↑v:Int)+1)),(AI ((↑N:Int))),(AN nb),(AP nb (fun i=>[.int .i64 ((g i).1),.int .i64 ((g i).2.1)])),(AI ((↑k:Int))),(AI ((↑l:Int))),(AN 0),(AI ((↑w:Int))),(((s+bitI BinOp.and IntKind.i64 (shrI IntKind.i64 (↑w:Int) (↑v:Int)) 1):Int)=(s+bvI (↑w:Int) (↑v:Int))),(AI 0),(AI ((↑N:Int))),((((↑v:Int)+1):Int)=(↑(v+1):Int)),(AN 2),(NL 1 1),(NL 1 1),(AI ((↑N:Int))),(AN nb),(AP nb (fun i=>[.int .i64 ((g i).1),.int .i64 ((g i).2.1)]))]):=by kernel_rfl
theorem wOc (g:Nat→T_Bar) (nb N k l w:Nat) (s:Int) (v:Nat) :
    pieceOb Tryz.prog 0 [rg 1,.dec false,rg 4,.head] zf13 (CO1 g nb N k l w s v) [0] 1 (CO2 g nb N k l w s 0 0) =
    some (zf11,[((decide ((↑v:Int)<(↑N:Int)))=false),(NT 0 1),(AI ((↑N:Int))),(AN nb),(AP nb (fun i=>[.int .i64 ((g i).1),.int .i64 ((g i).2.1)])),(AI ((↑k:Int))),(AI ((↑l:Int))),(AN 0),(AI ((↑w:Int))),(AI s),(AI 0),(AN nb),(AP nb (fun i=>[.int .i64 ((g i).1),.int .i64 ((g i).2.1)])),(AI ((↑nb:Int))),((0:Int)=(↑0:Int)),(AN 2),(NL 1 1),(NL 1 1),(AI ((↑N:Int))),(AN nb),(AP nb (fun i=>[.int .i64 ((g i).1),.int .i64 ((g i).2.1)]))]):=by kernel_rfl
theorem wOd (g:Nat→T_Bar) (nb N k l w:Nat) (s q:Int) (i:Nat) :
    pieceOb Tryz.prog 0 [rg 1,.dec true,rg 4,rg 13,rg 2,.head] zf11 (CO2 g nb N k l w s q i) [0] 1 (CO2 g nb N k l w s (q+bwI w (g i).1 (g i).2.1) (i+1)) =
    some (zf11,[((decide ((↑i:Int)<(↑nb:Int)))=true),(IL 0 (↑i:Int)),(IT (↑i:Int) (↑nb:Int)),(NT 0 1),((true=true)→ (AN 1)),(NT 0 1),(IL 0 ((g i).1)),(NT 0 1),(IL 0 ((g i).2.1)),(R0 (q+bitI BinOp.and IntKind.i64 (bitI BinOp.and IntKind.i64 (shrI IntKind.i64 (↑w:Int) (g i).1) (shrI IntKind.i64 (↑w:Int) (g i).2.1)) 1)),(R1 (q+bitI BinOp.and IntKind.i64 (bitI BinOp.and IntKind.i64 (shrI IntKind.i64 (↑w:Int) (g i).1) (shrI IntKind.i64 (↑w:Int) (g i).2.1)) 1)),(R0 ((↑i:Int)+1)),(R1 ((↑i:Int)+1)),(AI ((↑N:Int))),(AN nb),(AP nb (fun i_1=>[.int .i64 ((g i_1).1),.int .i64 ((g i_1).2.1)])),(AI ((↑k:Int))),(AI ((↑l:Int))),(AN 0),(AI ((↑w:Int))),(AI s),(((q+bitI BinOp.and IntKind.i64 (bitI BinOp.and IntKind.i64 (shrI IntKind.i64 (↑w:Int) (g i).1) (shrI IntKind.i64 (↑w:Int) (g i).2.1)) 1):Int)=(q+bwI (↑w:Int) (g i).1 (g i).2.1)),(AN nb),(AP nb (fun i_1=>[.int .i64 ((g i_1).1),.int .i64 ((g i_1).2.1)])),(AI ((↑nb:Int))),((((↑i:Int)+1):Int)=(↑(i+1):Int)),(AN 2),(NL 1 1),(NL 1 1),(AI ((↑N:Int))),(AN nb),(AP nb (fun i_1=>[.int .i64 ((g i_1).1),.int .i64 ((g i_1).2.1)]))]):=by kernel_rfl
theorem wOt (g:Nat→T_Bar) (nb N k l w:Nat) (s q:Int) (i c:Nat) (f:Nat→Int) :
    pathOb Tryz.prog Tryz.f69 0 [rg 1,.dec false,rg 11,.dec true,rm [(3,oc [(0,iOb c f)] (.ar 1 0 0 c))] 2] zf11 (CO2 g nb N k l w s q i) [481] 1 [(0,iOb c f)] (.tup [.ar 1 0 0 c,.p (.bool true)]) =
    some [((decide ((↑i:Int)<(↑nb:Int)))=false),(AG (decide (q>0))),(AG (decide (q>0))),(((decide (q>0))=true)→(R0 ((↑k:Int)*s))),(((decide (q>0))=true)→(R1 ((↑k:Int)*s))),(AG (decide (q>0))),(AG (decide (q>0))),(((decide (q>0))=true)→(R0 ((↑k:Int)*s - (↑l:Int)))),(((decide (q>0))=true)→(R1 ((↑k:Int)*s - (↑l:Int)))),(AG (decide (q>0))),(AG (decide (q>0))),(AG (decide (q>0))),((bif decide (q>0) then decide (q>(↑k:Int)*s - (↑l:Int)) else false)=true),(NT 0 1),Con Tryz.prog 190 0 [] [.p (.int .i64 (↑w:Int)),.p (.int .i64 (↑N:Int))] [(0,⟨false,1,c,(fun i_1=>[.p (.int .i64 (f i_1))])⟩)] (.ar 1 0 0 c),(AN 0),(AN c),(true=true),(AN 1),(NL c c),(AA c (fun i_1=>[.p (.int .i64 (f i_1))])),(AE c)]:=by kernel_rfl
theorem wOf (g:Nat→T_Bar) (nb N k l w:Nat) (s q:Int) (i:Nat) :
    pieceOb Tryz.prog 0 [rg 1,.dec false,rg 11,.dec false,rg 3,.head] zf11 (CO2 g nb N k l w s q i) [0] 1 (CO0 g nb N k l (w+1)) =
    some (zf81,[((decide ((↑i:Int)<(↑nb:Int)))=false),(AG (decide (q>0))),(AG (decide (q>0))),(((decide (q>0))=true)→(R0 ((↑k:Int)*s))),(((decide (q>0))=true)→(R1 ((↑k:Int)*s))),(AG (decide (q>0))),(AG (decide (q>0))),(((decide (q>0))=true)→(R0 ((↑k:Int)*s - (↑l:Int)))),(((decide (q>0))=true)→(R1 ((↑k:Int)*s - (↑l:Int)))),(AG (decide (q>0))),(AG (decide (q>0))),(AG (decide (q>0))),((bif decide (q>0) then decide (q>(↑k:Int)*s - (↑l:Int)) else false)=false),(R0 ((↑w:Int)+1)),(R1 ((↑w:Int)+1)),(AI ((↑N:Int))),(AN nb),(AP nb (fun i_1=>[.int .i64 ((g i_1).1),.int .i64 ((g i_1).2.1)])),(AI ((↑k:Int))),(AI ((↑l:Int))),(AN 0),((((↑w:Int)+1):Int)=(↑(w+1):Int)),(AN 2),(NL 1 1),(NL 1 1),(AI ((↑N:Int))),(AN nb),(AP nb (fun i_1=>[.int .i64 ((g i_1).1),.int .i64 ((g i_1).2.1)]))]):=by kernel_rfl
theorem wQz (g:Nat→T_Bar) (nb N k l:Nat) :
    pieceOb Tryz.prog 0 [rg 3,rm [(1,oc [] (.p (.bool true))),(4,oc [] (.p (.bool true)))] 2,.dec false,rg 1,.head] [.code (bodyOf Tryz.f60)] (start Tryz.f60 [] 0 [grG g nb N,.p (.int .i64 k),.p (.int .i64 l)]) [0] 1 (CQ0 g nb N k l 1) =
    some (zf82,[(NT 0 1),Con Tryz.prog 53 0 [] [(zf110 N nb g)] [] (.p (.bool true)),(AG (!!true)),(AG (!!true)),(((!!true)=true)→ Con Tryz.prog 176 0 [] [.p (.int .i64 (↑k:Int)),.p (.int .i64 (↑l:Int))] [] (.p (.bool true))),(AG (!!true)),(((!true)=false)→ ((!!true)=true)),((bif !true then true else !true)=false),(AI ((↑N:Int))),(AN nb),(AP nb (fun i=>[.int .i64 ((g i).1),.int .i64 ((g i).2.1)])),(AI ((↑k:Int))),(AI ((↑l:Int))),(AN 0),((1:Int)=(↑1:Int)),((([AV.p (PV.int IntKind.i64 (↑N:Int)),brL g nb].length):Nat)=2),(NL 1 1),(NL 1 1),(AI ((↑N:Int))),(AN nb),(AP nb (fun i=>[.int .i64 ((g i).1),.int .i64 ((g i).2.1)]))]):=by kernel_rfl
theorem wQt (g:Nat→T_Bar) (nb N k l w c d:Nat) (f f2:Nat→Int) :
    pathOb Tryz.prog Tryz.f60 0 [rg 5,.dec true,rm [(3,oc [(0,iOb c f)] (.ar 1 0 0 c))] 1,rm [(2,oc [(0,iOb d f2)] (.ar 1 0 0 d))] 2,rg 12,.dec true,rg 3] zf82 (CQ0 g nb N k l w) [257] 1 [(0,iOb c f)] (.tup [.ar 1 0 0 c,.p (.bool true)]) =
    some [(NT 0 1),(IL 0 (↑N:Int)),((decide ((↑w:Int)<shlI IntKind.i64 1 (↑N:Int)))=true),(NT 0 1),Con Tryz.prog 177 0 [] [.p (.int .i64 (↑N:Int)),.p (.int .i64 (↑w:Int))] [(0,⟨false,1,c,(fun i=>[.p (.int .i64 (f i))])⟩)] (.ar 1 0 0 c),(NT 0 1),(AN 1),(NL c c),Con Tryz.prog 87 0 [] [(zf110 N nb g),.p (.seq true 1 c (fun i=>[.int .i64 (f i)]))] [(0,⟨false,1,d,(fun i=>[.p (.int .i64 (f2 i))])⟩)] (.ar 1 0 0 d),(AG (decide ((↑d:Int)>0))),(AG (decide ((↑d:Int)>0))),(AG (decide ((↑d:Int)>0))),(((decide ((↑d:Int)>0))=true)→(R0 ((↑k:Int)*(↑c:Int)))),(((decide ((↑d:Int)>0))=true)→(R1 ((↑k:Int)*(↑c:Int)))),(AG (decide ((↑d:Int)>0))),(AG (decide ((↑d:Int)>0))),(((decide ((↑d:Int)>0))=true)→(R0 ((↑k:Int)*(↑c:Int) - (↑l:Int)))),(((decide ((↑d:Int)>0))=true)→(R1 ((↑k:Int)*(↑c:Int) - (↑l:Int)))),(AG (decide ((↑d:Int)>0))),(AG (decide ((↑d:Int)>0))),(AG (decide ((↑d:Int)>0))),((bif decide ((↑d:Int)>0) then decide ((↑d:Int)>(↑k:Int)*(↑c:Int) - (↑l:Int)) else false)=true),(AN 0),(AN c),(true=true),(AN 1),(NL c c),(AA c (fun i=>[.p (.int .i64 (f i))])),(AE c)]:=by kernel_rfl
theorem wQf (g:Nat→T_Bar) (nb N k l w c d:Nat) (f f2:Nat→Int) :
    pieceOb Tryz.prog 0 [rg 5,.dec true,rm [(3,oc [(0,iOb c f)] (.ar 1 0 0 c))] 1,rm [(2,oc [(0,iOb d f2)] (.ar 1 0 0 d))] 2,rg 12,.dec false,rg 3,.head] zf82 (CQ0 g nb N k l w) [0] 1 (CQ0 g nb N k l (w+1)) =
    some (zf82,[(NT 0 1),(IL 0 (↑N:Int)),((decide ((↑w:Int)<shlI IntKind.i64 1 (↑N:Int)))=true),(NT 0 1),Con Tryz.prog 177 0 [] [.p (.int .i64 (↑N:Int)),.p (.int .i64 (↑w:Int))] [(0,⟨false,1,c,(fun i=>[.p (.int .i64 (f i))])⟩)] (.ar 1 0 0 c),(NT 0 1),(AN 1),(NL c c),Con Tryz.prog 87 0 [] [(zf110 N nb g),.p (.seq true 1 c (fun i=>[.int .i64 (f i)]))] [(0,⟨false,1,d,(fun i=>[.p (.int .i64 (f2 i))])⟩)] (.ar 1 0 0 d),(AG (decide ((↑d:Int)>0))),(AG (decide ((↑d:Int)>0))),(AG (decide ((↑d:Int)>0))),(((decide ((↑d:Int)>0))=true)→(R0 ((↑k:Int)*(↑c:Int)))),(((decide ((↑d:Int)>0))=true)→(R1 ((↑k:Int)*(↑c:Int)))),(AG (decide ((↑d:Int)>0))),(AG (decide ((↑d:Int)>0))),(((decide ((↑d:Int)>0))=true)→(R0 ((↑k:Int)*(↑c:Int) - (↑l:Int)))),(((decide ((↑d:Int)>0))=true)→(R1 ((↑k:Int)*(↑c:Int) - (↑l:Int)))),(AG (decide ((↑d:Int)>0))),(AG (decide ((↑d:Int)>0))),(AG (decide ((↑d:Int)>0))),((bif decide ((↑d:Int)>0) then decide ((↑d:Int)>(↑k:Int)*(↑c:Int) - (↑l:Int)) else false)=false),(R0 ((↑w:Int)+1)),(R1 ((↑w:Int)+1)),(AI ((↑N:Int))),(AN nb),(AP nb (fun i=>[.int .i64 ((g i).1),.int .i64 ((g i).2.1)])),(AI ((↑k:Int))),(AI ((↑l:Int))),(AN 0),((((↑w:Int)+1):Int)=(↑(w+1):Int)),(AN 2),(NL 1 1),(NL 1 1),(AI ((↑N:Int))),(AN nb),(AP nb (fun i=>[.int .i64 ((g i).1),.int .i64 ((g i).2.1)]))]):=by kernel_rfl
theorem wQe (g:Nat→T_Bar) (nb N k l w:Nat) :
    pathOb Tryz.prog Tryz.f60 0 [rg 5,.dec false,rg 3] zf82 (CQ0 g nb N k l w) [161] 1 [(0,iOb 0 (fun _=>0))] (.tup [.ar 1 0 0 0,.p (.bool false)]) =
    some [(NT 0 1),(IL 0 (↑N:Int)),((decide ((↑w:Int)<shlI IntKind.i64 1 (↑N:Int)))=false),(AN 0),(AN 0),(false=false),(AN 1),(NL 0 0),(AA 0 (fun i=>[.p (.int .i64 0)])),(AE 0)]:=by kernel_rfl
theorem wSi (g:Nat→T_Bar) (nb N k l c:Nat) (f:Nat→Int) (d:Bool) :
    pathOb Tryz.prog Tryz.f291 0 [rg 2,rm [(3,oc [(0,iOb c f)] (.tup [.ar 1 0 0 c,.p (.bool d)]))] 5,rm [(1,oc [] (.p (.bool true))),(3,oc [] (.p (.bool true)))] 6] [.code (bodyOf Tryz.f291)] (start Tryz.f291 [] 0 [grG g nb N,.p (.int .i64 k),.p (.int .i64 l)]) [] 1 [] (.p (.bool (!d))) =
    some [(NT 0 1),Con Tryz.prog 69 0 [] [(zf110 N nb g),.p (.int .i64 (↑k:Int)),.p (.int .i64 (↑l:Int))] [(0,⟨false,1,c,(fun i=>[.p (.int .i64 (f i))])⟩)] (.tup [.ar 1 0 0 c,.p (.bool d)]),(NT 0 1),Con Tryz.prog 62 0 [] [(zf110 N nb g)] [] (.p (.bool true)),(AG true),(AG true),((true=true)→ Con Tryz.prog 189 0 [] [.p (.int .i64 (↑k:Int)),.p (.int .i64 (↑l:Int))] [] (.p (.bool true))),(AG true),(AG (bif true then true else false)),(AG (bif true then true else false)),((bif bif true then true else false then !d else false)=(!d))]:=by kernel_rfl
theorem wSs (g:Nat→T_Bar) (nb N k l c:Nat) (f:Nat→Int) (d:Bool) :
    pathOb Tryz.prog Tryz.f285 0 [rg 2,rm [(3,oc [(0,iOb c f)] (.tup [.ar 1 0 0 c,.p (.bool d)]))] 5,rm [(1,oc [] (.p (.bool true))),(3,oc [] (.p (.bool true)))] 6] [.code (bodyOf Tryz.f285)] (start Tryz.f285 [] 0 [grG g nb N,.p (.int .i64 k),.p (.int .i64 l)]) [] 1 [] (.p (.bool (!d))) =
    some [(NT 0 1),Con Tryz.prog 60 0 [] [(zf110 N nb g),.p (.int .i64 (↑k:Int)),.p (.int .i64 (↑l:Int))] [(0,⟨false,1,c,(fun i=>[.p (.int .i64 (f i))])⟩)] (.tup [.ar 1 0 0 c,.p (.bool d)]),(NT 0 1),Con Tryz.prog 53 0 [] [(zf110 N nb g)] [] (.p (.bool true)),(AG true),(AG true),((true=true)→ Con Tryz.prog 176 0 [] [.p (.int .i64 (↑k:Int)),.p (.int .i64 (↑l:Int))] [] (.p (.bool true))),(AG true),(AG (bif true then true else false)),(AG (bif true then true else false)),((bif bif true then true else false then !d else false)=(!d))]:=by kernel_rfl
end Go.Proofs.YtkkjoghiigiokaaGreat.Mach
namespace Go.Proofs.YtkkjoghiigiokaaGreat.Mach
open Go
set_option linter.unusedVariables false
set_option linter.unusedSimpArgs false
theorem and_nat (x y:Nat) (hx:x<2 ^ 62) (hy:y<2 ^ 62):bitI .and .i64 (x:Int) (y:Int)=((x &&& y:Nat):Int):=by
  unfold bitI
  have e1:(BitVec.ofInt IntKind.i64.bits (x:Int) &&& BitVec.ofInt IntKind.i64.bits (y:Int)).toNat=x &&& y:=by
    rw [BitVec.toNat_and]
    show (BitVec.ofInt 64 (x:Int)).toNat &&& (BitVec.ofInt 64 (y:Int)).toNat=_
    rw [bv_nat,bv_nat,BitVec.toNat_ofNat,BitVec.toNat_ofNat,Nat.mod_eq_of_lt (by omega),Nat.mod_eq_of_lt (by omega)]
  simp only [e1]
  have:x &&& y≤x:=Nat.and_le_left
  exact wrap_in (by simp only [imin];omega) (by simp only [imax];omega)
theorem and_one (x:Nat) (hx:x<2 ^ 62):bitI .and .i64 (x:Int) 1=if x.testBit 0 then 1 else 0:=by
  rw [show (1:Int)=((1:Nat):Int) from rfl,and_nat x 1 hx (by omega),Nat.and_one_is_mod,Nat.testBit_zero]
  rcases Nat.mod_two_eq_zero_or_one x with h | h<;>simp [h]
theorem bvI_nat (m i:Nat) (hm:m<2 ^ 62) (hi:i<62):bvI (m:Int) (i:Int)=if btI (m:Int) (i:Int) then 1 else 0:=by
  rw [bt_test m i hm hi]
  unfold bvI
  have:=Nat.shiftRight_le m i
  rw [shr_nat m i hi,and_one _ (by omega),Nat.testBit_shiftRight]
  simp
theorem bwI_nat (m a b:Nat) (hm:m<2 ^ 62) (ha:a<62) (hb:b<62):bwI (m:Int) (a:Int) (b:Int)=if (btI (m:Int) (a:Int)&&btI (m:Int) (b:Int)) then 1 else 0:=by
  rw [bt_test m a hm ha,bt_test m b hm hb]
  unfold bwI
  have h1:=Nat.shiftRight_le m a
  have h2:=Nat.shiftRight_le m b
  have h3:(m >>> a) &&& (m >>> b)≤m >>> a:=Nat.and_le_left
  rw [shr_nat m a ha,shr_nat m b hb,and_nat _ _ (by omega) (by omega),and_one _ (by omega),Nat.testBit_and,Nat.testBit_shiftRight,Nat.testBit_shiftRight]
  simp
def flt (p:Nat→Bool):Nat→T_IntS
  | 0=>(0,fun _=>0)
  | i+1=>if p i=true then ((flt p i).1+1,fun s=>if s<(flt p i).1 then (flt p i).2 s else i) else flt p i
theorem flt_n (p:Nat→Bool):∀ i,(flt p i).1≤i
  | 0=>Nat.le_refl _
  | i+1=>by
    have:=flt_n p i
    simp only [flt]
    split
    · show (flt p i).1+1≤i+1;omega
    · omega
theorem flt_t {p:Nat→Bool} {i:Nat} (h:p i=true):flt p (i+1)=((flt p i).1+1,fun s=>if s<(flt p i).1 then (flt p i).2 s else i):=by simp [flt,h]
theorem flt_f {p:Nat→Bool} {i:Nat} (h:p i=false):flt p (i+1)=flt p i:=by simp [flt,h]
theorem hasI_congr (f g:Nat→Int) (x:Int):∀ n,(∀ i,i<n→f i=g i)→hasI f x n=hasI g x n
  | 0,_=>rfl
  | n+1,h=>by simp only [hasI,hasI_congr f g x n (fun i hi=>h i (by omega)),h n (by omega)]
theorem hasI_stD (w:Nat) (x:Int):∀ i,hasI (stD w i).2 x (stD w i).1=(decide (0≤x∧x<i)&&btI w x)
  | 0=>by
    have:decide (0≤x∧x<((0:Nat):Int))=false:=decide_eq_false (by omega)
    rw [this];rfl
  | i+1=>by
    have ih:=hasI_stD w x i
    by_cases hx:x=i
    · subst hx
      have h1:decide (0≤(i:Int)∧(i:Int)<(i:Int))=false:=decide_eq_false (by omega)
      have h2:decide (0≤(i:Int)∧(i:Int)<((i+1:Nat):Int))=true:=decide_eq_true (by omega)
      rw [h1] at ih
      rw [h2]
      cases hb:btI w i with
      | true =>
        rw [show stD w (i+1)=((stD w i).1+1,fun s=>if s<(stD w i).1 then (stD w i).2 s else i) by simp [stD,hb]]
        simp [hasI]
      | false =>
        rw [show stD w (i+1)=stD w i by simp [stD,hb]]
        rw [ih];rfl
    · have h1:decide (0≤x∧x<((i+1:Nat):Int))=decide (0≤x∧x<(i:Int)):=by
        rw [decide_eq_decide];omega
      rw [h1,← ih]
      cases hb:btI w i with
      | true =>
        rw [show stD w (i+1)=((stD w i).1+1,fun s=>if s<(stD w i).1 then (stD w i).2 s else i) by simp [stD,hb]]
        simp only [hasI,Nat.lt_irrefl,if_false]
        rw [show (((i:Nat):Int)==x)=false from beq_eq_false_iff_ne.2 (fun h=>hx h.symm),Bool.or_false]
        exact hasI_congr _ _ x _ (fun j hj=>by simp only [hj,if_true])
      | false=>rw [show stD w (i+1)=stD w i by simp [stD,hb]]
def spP (g:Nat→T_Bar) (w:Nat) (e:Nat):Bool:=btI w (g e).1&&btI w (g e).2.1
theorem con_SpannedBars {N nb:Nat} {g:Nat→T_Bar} (hok:OkBars N nb g) (hN:N≤8) (hnb:nb≤24) (w:Nat) :
    Con Tryz.prog 87 0 [] [grG g nb N,inL (stD w N)] [(0,iOb (flt (spP g w) nb).1 (flt (spP g w) nb).2)] (.ar 1 0 0 (flt (spP g w) nb).1):=by
  refine con_start Tryz.func87 rfl (by kernel_rfl) rfl (fun c hc=>?_)
  generalize hp:spP g w=p
  generalize hR:flt p nb=R
  have hS:=stD_n w N
  have lo:∀ d i,i+d=nb→Run Tryz.prog c 87 zf80 (CSp g nb N (stD w N) i (flt p i).1 (flt p i).2) (Post c [(0,iOb R.1 R.2)] (.ar 1 0 0 R.1)):=by
    intro d
    induction d with
    | zero =>
      intro i hi
      obtain rfl:i=nb:=by omega
      have hd:decide ((i:Int)<(i:Int))=false:=by simp
      rw [hR]
      refine path_ok mixed Tryz.func87 hc (wPe g i N (stD w N) i R.1 R.2) ?_
      repeat' (first | exact aN | apply aI)
      all_goals (first | exact aA _ _ | exact aE _ | omega | rfl | (intros;first | assumption | exact trivial | rfl | exact fT ‹_› | ((repeat' (first | assumption | apply anda | apply notf));done)) | (exact hd) | (intro t ht;simp [All]))
    | succ d ih =>
      intro i hi
      have hd:decide ((i:Int)<(nb:Int))=true:=decide_eq_true (by omega)
      have hrec:=ih (i+1) (by omega)
      have hbar:=hok i (by omega)
      have hfn:=flt_n p i
      have hc1:=con_l2Has (stD w N) (g i).1 (by omega)
      have hc2:=con_l2Has (stD w N) (g i).2.1 (by omega)
      rw [hasI_stD,decide_eq_true (by omega),Bool.true_and] at hc1 hc2
      have hpe:p i=(btI w (g i).1&&btI w (g i).2.1):=by rw [← hp];rfl
      cases hb:p i with
      | true =>
        rw [hb] at hpe
        have hh:btI w (g i).1=true∧btI w (g i).2.1=true:=by
          have:=hpe.symm;simpa using this
        rw [hh.1] at hc1
        rw [hh.2] at hc2
        rw [flt_t hb] at hrec
        generalize flt p i=q at hfn hrec ⊢
        refine piece_ok mixed hc (wPt g nb N (stD w N) i q.1 q.2) ?_ hrec
        repeat' (first | exact aN | apply aI)
        all_goals (first | exact aG _ | exact aP _ _ | omega | rfl | (intros;first | assumption | exact trivial | rfl | exact fT ‹_› | ((repeat' (first | assumption | apply anda | apply notf));done)) | (exact hd) | (exact hc1) | (intro _;exact hc2) | (simp;done) | (simp;omega) | (intro t ht;by_cases h':t<q.1<;>(simp [h',cvtL,cvt,tg,tru,All];done)) | (intro t ht;simp [All]))
      | false =>
        have hbf:(bif btI w (g i).1 then btI w (g i).2.1 else false)=false:=by
          rw [hb] at hpe
          rw [hpe]
          cases btI w (g i).1<;>rfl
        rw [flt_f hb] at hrec
        generalize flt p i=q at hfn hrec ⊢
        refine piece_ok mixed hc (wPf g nb N (stD w N) i q.1 q.2 (btI w (g i).1) (btI w (g i).2.1)) ?_ hrec
        repeat' (first | exact aN | apply aI)
        all_goals (first | exact aG _ | exact aP _ _ | exact aA _ _ | omega | rfl | (intros;first | assumption | exact trivial | rfl | exact fT ‹_› | ((repeat' (first | assumption | apply anda | apply notf));done)) | (exact hd) | (exact hc1) | (intro _;exact hc2) | (exact hbf) | (simp;done) | (intro _;omega) | (simp;omega) | (intro t ht;simp [All]))
  refine piece_ok mixed hc (wPz g nb N (stD w N)) ?_ (lo nb 0 (by omega))
  repeat' (first | exact aN | apply aI)
  all_goals (first | exact aP _ _ | exact aA _ _ | omega | rfl | (intros;first | assumption | exact trivial | rfl | exact fT ‹_› | ((repeat' (first | assumption | apply anda | apply notf));done)) | (simp;done) | (intro t ht;exact absurd ht (Nat.not_lt_zero _)) | (intro t ht;simp [All]))
def ovB (g:Nat→T_Bar) (nb N k l w:Nat):Bool :=
  bif decide (((flt (spP g w) nb).1:Int)>0) then decide (((flt (spP g w) nb).1:Int)>(k:Int)*((stD w N).1:Int) - (l:Int)) else false
def ovS (g:Nat→T_Bar) (nb N k l:Nat):Nat→Nat→T_IntS×Bool
  | 0,_=>((0,fun _=>0),false)
  | d+1,w=>if ovB g nb N k l w=true then (stD w N,true) else ovS g nb N k l d (w+1)
theorem ks_le {k s:Nat} (hk:k≤3) (hs:s≤8):0≤(k:Int)*(s:Int)∧(k:Int)*(s:Int)≤24:=by
  have:k*s≤3*8:=Nat.mul_le_mul hk hs
  rw [← Int.natCast_mul]
  omega
theorem con_Over_s {N nb:Nat} {g:Nat→T_Bar} (hg:isGraphF ((N:Int),(nb,g),())=true) (k l:Nat) (hk:1≤k∧k≤3) (hl:l+1≤2*k) {R:T_IntS×Bool} (hR:ovS g nb N k l (2 ^ N - 1) 1=R) :
    Con Tryz.prog 60 0 [] [grG g nb N,.p (.int .i64 k),.p (.int .i64 l)] [(0,iOb R.1.1 R.1.2)] (.tup [.ar 1 0 0 R.1.1,.p (.bool R.2)]):=by
  obtain ⟨hN,hnb,hok⟩:=graph_in hg
  have hsm:smS s_Graph ((N:Int),(nb,g),()):=⟨by simp [smS,smL],⟨by show nb≤1048576;omega,fun i hi=>by simp [smS,smL]⟩,True.intro⟩
  have hcg:=con_IsGraph_s ((N:Int),(nb,g),()) hsm
  rw [hg] at hcg
  have hr:=con_IsRange_s k l hk hl
  have hP:2 ^ N≤2 ^ 8:=Nat.pow_le_pow_right (by omega) hN.2
  have hP1:1≤2 ^ N:=Nat.one_le_two_pow
  have hsh:=shl_nat N (by omega)
  refine con_start Tryz.func60 rfl (by kernel_rfl) rfl (fun c hc=>?_)
  have lo:∀ d w,w+d=2 ^ N→ovS g nb N k l d w=R→Run Tryz.prog c 60 zf82 (CQ0 g nb N k l w) (Post c [(0,iOb R.1.1 R.1.2)] (.tup [.ar 1 0 0 R.1.1,.p (.bool R.2)])):=by
    intro d
    induction d with
    | zero =>
      intro w hw hRw
      have hd:decide ((w:Int)<shlI IntKind.i64 1 (N:Int))=false:=by rw [hsh];exact decide_eq_false (by omega)
      rw [← hRw]
      refine path_ok mixed Tryz.func60 hc (wQe g nb N k l w) ?_
      repeat' (first | exact aN | apply aI)
      all_goals (first | exact aA _ _ | exact aE _ | omega | rfl | (intros;first | assumption | exact trivial | rfl | exact fT ‹_› | ((repeat' (first | assumption | apply anda | apply notf));done)) | (exact hd) | (intro t ht;exact absurd ht (Nat.not_lt_zero _)) | (simp;done))
    | succ d ih =>
      intro w hw hRw
      have hd:decide ((w:Int)<shlI IntKind.i64 1 (N:Int))=true:=by rw [hsh];exact decide_eq_true (by omega)
      have hset:=con_l3Set w N (by omega)
      have hsp:=con_SpannedBars hok hN.2 hnb w
      have hks:=ks_le (k:=k) (s:=(stD w N).1) (by omega) (by have:=stD_n w N;omega)
      have hov:ovB g nb N k l w=(bif decide (((flt (spP g w) nb).1:Int)>0) then decide (((flt (spP g w) nb).1:Int)>(k:Int)*((stD w N).1:Int) - (l:Int)) else false):=rfl
      rw [ovS] at hRw
      by_cases hb:ovB g nb N k l w=true
      · rw [if_pos hb] at hRw
        rw [hb] at hov
        rw [← hRw]
        generalize stD w N=q at *
        generalize flt (spP g w) nb=y at *
        refine path_ok mixed Tryz.func60 hc (wQt g nb N k l w q.1 y.1 q.2 y.2) ?_
        repeat' (first | exact aN | apply aI)
        all_goals (first | exact aG _ | exact aA _ _ | exact aE _ | omega | rfl | (intros;first | assumption | exact trivial | rfl | exact fT ‹_› | ((repeat' (first | assumption | apply anda | apply notf));done)) | (exact hd) | (exact hset) | (exact hsp) | (exact hov.symm) | (simp;done) | (intro _;omega) | (intro t ht;simp [All]))
      · rw [if_neg hb] at hRw
        rw [show ovB g nb N k l w=false by simpa using hb] at hov
        have hrec:=ih (w+1) (by omega) hRw
        clear hRw hb
        generalize stD w N=q at *
        generalize flt (spP g w) nb=y at *
        refine piece_ok mixed hc (wQf g nb N k l w q.1 y.1 q.2 y.2) ?_ hrec
        repeat' (first | exact aN | apply aI)
        all_goals (first | exact aG _ | exact aP _ _ | omega | rfl | (intros;first | assumption | exact trivial | rfl | exact fT ‹_› | ((repeat' (first | assumption | apply anda | apply notf));done)) | (exact hd) | (exact hset) | (exact hsp) | (exact hov.symm) | (simp;done) | (intro _;omega) | (simp;omega) | (intro t ht;simp [All]))
  refine piece_ok mixed hc (wQz g nb N k l) ?_ (lo (2 ^ N - 1) 1 (by omega) hR)
  repeat' (first | exact aN | apply aI)
  all_goals (first | exact aG _ | exact aP _ _ | omega | rfl | (intros;first | assumption | exact trivial | rfl | exact fT ‹_› | ((repeat' (first | assumption | apply anda | apply notf));done)) | (exact hcg) | (intro _;exact hr) | (simp;done) | (intro t ht;simp [All]))
theorem con_Over_i {N nb:Nat} {g:Nat→T_Bar} (hg:isGraphF ((N:Int),(nb,g),())=true) (k l:Nat) (hk:1≤k∧k≤3) (hl:l+1≤2*k) {R:T_IntS×Bool} (hR:ovS g nb N k l (2 ^ N - 1) 1=R) :
    Con Tryz.prog 69 0 [] [grG g nb N,.p (.int .i64 k),.p (.int .i64 l)] [(0,iOb R.1.1 R.1.2)] (.tup [.ar 1 0 0 R.1.1,.p (.bool R.2)]):=by
  obtain ⟨hN,hnb,hok⟩:=graph_in hg
  have hsm:smS s_Graph ((N:Int),(nb,g),()):=⟨by simp [smS,smL],⟨by show nb≤1048576;omega,fun i hi=>by simp [smS,smL]⟩,True.intro⟩
  have hcg:=con_IsGraph_i ((N:Int),(nb,g),()) hsm
  rw [hg] at hcg
  have hr:=con_IsRange_i k l hk hl
  have hP:2 ^ N≤2 ^ 8:=Nat.pow_le_pow_right (by omega) hN.2
  have hP1:1≤2 ^ N:=Nat.one_le_two_pow
  have hsh:=shl_nat N (by omega)
  refine con_start Tryz.func69 rfl (by kernel_rfl) rfl (fun c hc=>?_)
  generalize hG:(Post c [(0,iOb R.1.1 R.1.2)] (.tup [.ar 1 0 0 R.1.1,.p (.bool R.2)]))=G
  have l2:∀ w,w<2 ^ N→(ovB g nb N k l w=true→R=(stD w N,true))→(ovB g nb N k l w=false→Run Tryz.prog c 69 zf81 (CO0 g nb N k l (w+1)) G) →
      ∀ d i,i+d=nb→Run Tryz.prog c 69 zf11 (CO2 g nb N k l w ((stD w N).1:Nat) ((flt (spP g w) i).1:Nat) i) G:=by
    intro w hw hT hF d
    have hks:=ks_le (k:=k) (s:=(stD w N).1) (by omega) (by have:=stD_n w N;omega)
    induction d with
    | zero =>
      intro i hi
      obtain rfl:i=nb:=by omega
      have hd:decide ((i:Int)<(i:Int))=false:=by simp
      have hov:ovB g i N k l w=(bif decide (((flt (spP g w) i).1:Int)>0) then decide (((flt (spP g w) i).1:Int)>(k:Int)*((stD w N).1:Int) - (l:Int)) else false):=rfl
      cases hb:ovB g i N k l w with
      | true =>
        rw [hb] at hov
        have hset:=con_setOf w N (by omega)
        rw [← hG,hT hb]
        clear hT hF
        generalize stD w N=q at *
        generalize flt (spP g w) i=y at *
        refine path_ok mixed Tryz.func69 hc (wOt g i N k l w q.1 y.1 i q.1 q.2) ?_
        repeat' (first | exact aN | apply aI)
        all_goals (first | exact aG _ | exact aA _ _ | exact aE _ | omega | rfl | (intros;first | assumption | exact trivial | rfl | exact fT ‹_› | ((repeat' (first | assumption | apply anda | apply notf));done)) | (exact hd) | (exact hset) | (exact hov.symm) | (simp;done) | (intro _;omega) | (intro t ht;simp [All]))
      | false =>
        rw [hb] at hov
        have hrec:=hF hb
        clear hT hF
        generalize stD w N=q at *
        generalize flt (spP g w) i=y at *
        refine piece_ok mixed hc (wOf g i N k l w q.1 y.1 i) ?_ hrec
        repeat' (first | exact aN | apply aI)
        all_goals (first | exact aG _ | exact aP _ _ | omega | rfl | (intros;first | assumption | exact trivial | rfl | exact fT ‹_› | ((repeat' (first | assumption | apply anda | apply notf));done)) | (exact hd) | (exact hov.symm) | (simp;done) | (intro _;omega) | (simp;omega) | (intro t ht;simp [All]))
    | succ d ih =>
      intro i hi
      have hd:decide ((i:Int)<(nb:Int))=true:=decide_eq_true (by omega)
      have hrec:=ih (i+1) (by omega)
      have hbar:=hok i (by omega)
      have hfn:=flt_n (spP g w) i
      have hbw:bwI w (g i).1 (g i).2.1=if spP g w i then 1 else 0:=by
        have:=bwI_nat w (g i).1.toNat (g i).2.1.toNat (by omega) (by omega) (by omega)
        rw [Int.toNat_of_nonneg (by omega),Int.toNat_of_nonneg (by omega)] at this
        exact this
      have e:((flt (spP g w) (i+1)).1:Int)=((flt (spP g w) i).1:Nat)+bwI w (g i).1 (g i).2.1:=by
        rw [hbw]
        cases hb:spP g w i with
        | true=>rw [flt_t hb];rfl
        | false=>rw [flt_f hb];simp
      rw [e] at hrec
      have hbb:0≤bwI w (g i).1 (g i).2.1∧bwI w (g i).1 (g i).2.1≤1:=by rw [hbw];split<;>omega
      have hbb2:0≤bitI BinOp.and IntKind.i64 (bitI BinOp.and IntKind.i64 (shrI IntKind.i64 (w:Int) (g i).1) (shrI IntKind.i64 (w:Int) (g i).2.1)) 1∧bitI BinOp.and IntKind.i64 (bitI BinOp.and IntKind.i64 (shrI IntKind.i64 (w:Int) (g i).1) (shrI IntKind.i64 (w:Int) (g i).2.1)) 1≤1:=hbb
      refine piece_ok mixed hc (wOd g nb N k l w _ _ i) ?_ hrec
      repeat' (first | exact aN | apply aI)
      all_goals (first | exact aP _ _ | omega | rfl | (intros;first | assumption | exact trivial | rfl | exact fT ‹_› | ((repeat' (first | assumption | apply anda | apply notf));done)) | (exact hd) | (simp;done) | omega | (simp;omega) | (intro t ht;simp [All]))
  have l1:∀ w,w<2 ^ N→(Run Tryz.prog c 69 zf11 (CO2 g nb N k l w ((stD w N).1:Nat) 0 0) G) →
      ∀ d v,v+d=N→Run Tryz.prog c 69 zf13 (CO1 g nb N k l w ((stD w v).1:Nat) v) G:=by
    intro w hw hnx d
    induction d with
    | zero =>
      intro v hv
      obtain rfl:v=N:=by omega
      have hd:decide ((v:Int)<(v:Int))=false:=by simp
      refine piece_ok mixed hc (wOc g nb v k l w _ v) ?_ hnx
      repeat' (first | exact aN | apply aI)
      all_goals (first | exact aP _ _ | omega | rfl | (intros;first | assumption | exact trivial | rfl | exact fT ‹_› | ((repeat' (first | assumption | apply anda | apply notf));done)) | (exact hd) | (simp;done) | (simp;omega) | (intro t ht;simp [All]))
    | succ d ih =>
      intro v hv
      have hd:decide ((v:Int)<(N:Int))=true:=decide_eq_true (by omega)
      have hrec:=ih (v+1) (by omega)
      have hsn:=stD_n w v
      have hbv:=bvI_nat w v (by omega) (by omega)
      have e:((stD w (v+1)).1:Int)=((stD w v).1:Nat)+bvI w v:=by
        rw [hbv]
        cases hb:btI w v with
        | true=>simp [stD,hb]
        | false=>simp [stD,hb]
      rw [e] at hrec
      have hbb:0≤bvI w v∧bvI w v≤1:=by rw [hbv];split<;>omega
      have hbb2:0≤bitI BinOp.and IntKind.i64 (shrI IntKind.i64 (w:Int) (v:Int)) 1∧bitI BinOp.and IntKind.i64 (shrI IntKind.i64 (w:Int) (v:Int)) 1≤1:=hbb
      refine piece_ok mixed hc (wOb g nb N k l w _ v) ?_ hrec
      repeat' (first | exact aN | apply aI)
      all_goals (first | exact aP _ _ | omega | rfl | (intros;first | assumption | exact trivial | rfl | exact fT ‹_› | ((repeat' (first | assumption | apply anda | apply notf));done)) | (exact hd) | (simp;done) | omega | (simp;omega) | (intro t ht;simp [All]))
  have lo:∀ d w,w+d=2 ^ N→ovS g nb N k l d w=R→Run Tryz.prog c 69 zf81 (CO0 g nb N k l w) G:=by
    intro d
    induction d with
    | zero =>
      intro w hw hRw
      have hd:decide ((w:Int)<shlI IntKind.i64 1 (N:Int))=false:=by rw [hsh];exact decide_eq_false (by omega)
      rw [← hG,← hRw]
      refine path_ok mixed Tryz.func69 hc (wOe g nb N k l w) ?_
      repeat' (first | exact aN | apply aI)
      all_goals (first | exact aA _ _ | exact aE _ | omega | rfl | (intros;first | assumption | exact trivial | rfl | exact fT ‹_› | ((repeat' (first | assumption | apply anda | apply notf));done)) | (exact hd) | (intro t ht;exact absurd ht (Nat.not_lt_zero _)) | (simp;done))
    | succ d ih =>
      intro w hw hRw
      have hd:decide ((w:Int)<shlI IntKind.i64 1 (N:Int))=true:=by rw [hsh];exact decide_eq_true (by omega)
      rw [ovS] at hRw
      have hnx:=l2 w (by omega) (fun hb=>by rw [if_pos hb] at hRw;exact hRw.symm) (fun hb=>ih (w+1) (by omega) (by rw [hb] at hRw;simpa using hRw)) nb 0 (by omega)
      have hny:=l1 w (by omega) hnx N 0 (by omega)
      refine piece_ok mixed hc (wOa g nb N k l w) ?_ hny
      repeat' (first | exact aN | apply aI)
      all_goals (first | exact aP _ _ | omega | rfl | (intros;first | assumption | exact trivial | rfl | exact fT ‹_› | ((repeat' (first | assumption | apply anda | apply notf));done)) | (exact hd) | (simp;done) | (intro t ht;simp [All]))
  refine piece_ok mixed hc (wOz g nb N k l) ?_ (lo (2 ^ N - 1) 1 (by omega) hR)
  repeat' (first | exact aN | apply aI)
  all_goals (first | exact aG _ | exact aP _ _ | omega | rfl | (intros;first | assumption | exact trivial | rfl | exact fT ‹_› | ((repeat' (first | assumption | apply anda | apply notf));done)) | (exact hcg) | (intro _;exact hr) | (simp;done) | (intro t ht;simp [All]))
end Go.Proofs.YtkkjoghiigiokaaGreat.Mach
namespace Go.Proofs.YtkkjoghiigiokaaGreat.Mach
open Go
set_option linter.unusedVariables false
set_option linter.unusedSimpArgs false
def bs (l:List Int):ByteArray:=l.foldl (fun r n=>r.push (UInt8.ofNat n.toNat)) ByteArray.empty
end Go.Proofs.YtkkjoghiigiokaaGreat.Mach
namespace Go.Proofs.YtkkjoghiigiokaaGreat.Mach
open Go
set_option linter.unusedVariables false
set_option linter.unusedSimpArgs false
theorem con_Sparse {N nb:Nat} {g:Nat→T_Bar} (hg:isGraphF ((N:Int),(nb,g),())=true) (k l:Nat) (hk:1≤k∧k≤3) (hl:l+1≤2*k) {R:T_IntS×Bool} (hR:ovS g nb N k l (2 ^ N - 1) 1=R) :
    Con Tryz.prog 291 0 [] [grG g nb N,.p (.int .i64 k),.p (.int .i64 l)] [] (.p (.bool (!R.2))) ∧
    Con Tryz.prog 285 0 [] [grG g nb N,.p (.int .i64 k),.p (.int .i64 l)] [] (.p (.bool (!R.2))):=by
  obtain ⟨hN,hnb,hok⟩:=graph_in hg
  have hsm:smS s_Graph ((N:Int),(nb,g),()):=⟨by simp [smS,smL],⟨by show nb≤1048576;omega,fun i hi=>by simp [smS,smL]⟩,True.intro⟩
  have h1:=con_IsGraph_i ((N:Int),(nb,g),()) hsm
  have h2:=con_IsGraph_s ((N:Int),(nb,g),()) hsm
  rw [hg] at h1 h2
  have h3:=con_IsRange_i k l hk hl
  have h4:=con_IsRange_s k l hk hl
  have h5:=con_Over_i hg k l hk hl hR
  have h6:=con_Over_s hg k l hk hl hR
  constructor
  · refine con_start Tryz.func291 rfl (by kernel_rfl) rfl (fun c hc=>?_)
    refine path_ok mixed Tryz.func291 hc (wSi g nb N k l R.1.1 R.1.2 R.2) ?_
    repeat' (first | exact aN | apply aI)
    all_goals (first | exact aG _ | omega | rfl | (intros;first | assumption | exact trivial | rfl | exact fT ‹_› | ((repeat' (first | assumption | apply anda | apply notf));done)) | (exact h5) | (exact h1) | (intro _;exact h3) | (simp;done))
  · refine con_start Tryz.func285 rfl (by kernel_rfl) rfl (fun c hc=>?_)
    refine path_ok mixed Tryz.func285 hc (wSs g nb N k l R.1.1 R.1.2 R.2) ?_
    repeat' (first | exact aN | apply aI)
    all_goals (first | exact aG _ | omega | rfl | (intros;first | assumption | exact trivial | rfl | exact fT ‹_› | ((repeat' (first | assumption | apply anda | apply notf));done)) | (exact h6) | (exact h2) | (intro _;exact h4) | (simp;done))
end Go.Proofs.YtkkjoghiigiokaaGreat.Mach
