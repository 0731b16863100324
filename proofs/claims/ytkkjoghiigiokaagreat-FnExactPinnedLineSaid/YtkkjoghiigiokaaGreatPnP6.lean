/- What the law Pn needs, part 6 of 6: the abstract machine and the contracts of the functions. Conditions: as each theorem says. -/
import Derived.Test.YtkkjoghiigiokaaGreatPnP5
namespace Go.Proofs.YtkkjoghiigiokaaGreat.Mach
open Go Go.Sort
set_option linter.unusedVariables false
set_option linter.unusedSimpArgs false
def kBars:ByteArray:=⟨#[98,97,114,115,32]⟩
def kFree:ByteArray:=⟨#[32,102,114,101,101,100,111,109,32]⟩
def kSteady:ByteArray:=⟨#[32,115,116,101,97,100,121,32]⟩
def kWorst:ByteArray:=⟨#[32,119,111,114,115,116,32]⟩
def kDrops:ByteArray:=⟨#[32,100,114,111,112,115,32]⟩
theorem kBars_z:(ByteArray.mk #[98,97,114,115,32]).size=5:=rfl
theorem kFree_z:(ByteArray.mk #[32,102,114,101,101,100,111,109,32]).size=9:=rfl
theorem kSteady_z:(ByteArray.mk #[32,115,116,101,97,100,121,32]).size=8:=rfl
theorem kWorst_z:(ByteArray.mk #[32,119,111,114,115,116,32]).size=7:=rfl
theorem kDrops_z:(ByteArray.mk #[32,100,114,111,112,115,32]).size=7:=rfl
theorem lIn (p:T_Pinned) :
    zS Tryz.f143 [rg 2,rm [(1,oc [] (.p (.bool false)))] 1,.dec true,rg 1] [pinA p] [] [] (.p (.str ⟨#[]⟩)) =
    some [(NT 0 1),zE 142 [(zf31 p)] [] (.p (.bool false)),((!false)=true),(ByteArray.mk #[]=ByteArray.mk #[])]:=by kernel_rfl
theorem lIa (p:T_Pinned) (fr w m:Int) (n:Nat) (h:Nat→Int) (f1 f2 f3 f4 f5:ByteArray) :
    zS Tryz.f143 [rg 2,rm [(1,oc [] (.p (.bool true)))] 1,.dec false,rm [(4,oc [] (.p (.str f1))),(3,oc [] (.p (.int .i64 fr))),(0,oc [] (.p (.str f2))),(3,oc [(0,iOb n h)] (.ar 1 0 0 n)),(1,oc [] (.p (.str f3)))] 2,rm [(1,oc [] (.tup [.p (.int .i64 w),.p (.int .i64 m)]))] 5,rg 2,.dec true,rm [(8,oc [] (.p (.str f4))),(3,oc [] (.p (.str f5)))] 2,rg 2] [pinA p] [] [] (.p (.str (((((((((kBars++f1)++kFree)++f2)++kSteady)++f3)++kWorst)++f4)++kDrops)++f5))) =
    some [(NT 0 1),zE 142 [(zf31 p)] [] (.p (.bool true)),((!true)=false),(NT 0 1),zE 129 [.p (.int .i64 (↑p.1.2.1.1:Int))] [] (.p (.str f1)),(NL ((ByteArray.mk #[98,97,114,115,32]).size+f1.size) 9223372036854775807),(NL ((ByteArray.mk #[98,97,114,115,32]++f1).size+(ByteArray.mk #[32,102,114,101,101,100,111,109,32]).size) 9223372036854775807),(NT 0 1),zE 249 [(zf31 p)] [] (.p (.int .i64 fr)),zE 129 [.p (.int .i64 fr)] [] (.p (.str f2)),(NL ((ByteArray.mk #[98,97,114,115,32]++f1++ByteArray.mk #[32,102,114,101,101,100,111,109,32]).size+f2.size) 9223372036854775807),(NL ((ByteArray.mk #[98,97,114,115,32]++f1++ByteArray.mk #[32,102,114,101,101,100,111,109,32]++f2).size+(ByteArray.mk #[32,115,116,101,97,100,121,32]).size) 9223372036854775807),(NT 0 1),zE 250 [(zf31 p)] [(0,⟨false,1,n,(fun i=>[.p (.int .i64 (h i))])⟩)] (.ar 1 0 0 n),zE 129 [.p (.int .i64 (↑n:Int))] [] (.p (.str f3)),(NL ((ByteArray.mk #[98,97,114,115,32]++f1++ByteArray.mk #[32,102,114,101,101,100,111,109,32]++f2++ByteArray.mk #[32,115,116,101,97,100,121,32]).size+f3.size) 9223372036854775807),(NT 0 1),zE 251 [(zf31 p)] [] (.tup [.p (.int .i64 w),.p (.int .i64 m)]),((decide (w≥0))=true),(NL ((ByteArray.mk #[98,97,114,115,32]++f1++ByteArray.mk #[32,102,114,101,101,100,111,109,32]++f2++ByteArray.mk #[32,115,116,101,97,100,121,32]++f3).size+(ByteArray.mk #[32,119,111,114,115,116,32]).size) 9223372036854775807),(NT 0 1),(IL 0 w),(IT w (↑p.1.2.1.1:Int)),zE 115 [.agg [.p (.int .i64 ((p.1.2.1.2 w.toNat).1)),.p (.int .i64 ((p.1.2.1.2 w.toNat).2.1))]] [] (.p (.str f4)),(NL ((ByteArray.mk #[98,97,114,115,32]++f1++ByteArray.mk #[32,102,114,101,101,100,111,109,32]++f2++ByteArray.mk #[32,115,116,101,97,100,121,32]++f3++ByteArray.mk #[32,119,111,114,115,116,32]).size+f4.size) 9223372036854775807),(NL ((ByteArray.mk #[98,97,114,115,32]++f1++ByteArray.mk #[32,102,114,101,101,100,111,109,32]++f2++ByteArray.mk #[32,115,116,101,97,100,121,32]++f3++ByteArray.mk #[32,119,111,114,115,116,32]++f4).size+(ByteArray.mk #[32,100,114,111,112,115,32]).size) 9223372036854775807),zE 129 [.p (.int .i64 m)] [] (.p (.str f5)),(NL ((ByteArray.mk #[98,97,114,115,32]++f1++ByteArray.mk #[32,102,114,101,101,100,111,109,32]++f2++ByteArray.mk #[32,115,116,101,97,100,121,32]++f3++ByteArray.mk #[32,119,111,114,115,116,32]++f4++ByteArray.mk #[32,100,114,111,112,115,32]).size+f5.size) 9223372036854775807),(ByteArray.mk #[98,97,114,115,32]++f1++ByteArray.mk #[32,102,114,101,101,100,111,109,32]++f2++ByteArray.mk #[32,115,116,101,97,100,121,32]++f3++ByteArray.mk #[32,119,111,114,115,116,32]++f4++ByteArray.mk #[32,100,114,111,112,115,32]++f5=kBars++f1++kFree++f2++kSteady++f3++kWorst++f4++kDrops++f5)]:=by kernel_rfl
theorem lIb (p:T_Pinned) (fr w m:Int) (n:Nat) (h:Nat→Int) (f1 f2 f3:ByteArray) :
    zS Tryz.f143 [rg 2,rm [(1,oc [] (.p (.bool true)))] 1,.dec false,rm [(4,oc [] (.p (.str f1))),(3,oc [] (.p (.int .i64 fr))),(0,oc [] (.p (.str f2))),(3,oc [(0,iOb n h)] (.ar 1 0 0 n)),(1,oc [] (.p (.str f3)))] 2,rm [(1,oc [] (.tup [.p (.int .i64 w),.p (.int .i64 m)]))] 5,rg 2,.dec false,rg 2] [pinA p] [] [] (.p (.str (((((kBars++f1)++kFree)++f2)++kSteady)++f3))) =
    some [(NT 0 1),zE 142 [(zf31 p)] [] (.p (.bool true)),((!true)=false),(NT 0 1),zE 129 [.p (.int .i64 (↑p.1.2.1.1:Int))] [] (.p (.str f1)),(NL ((ByteArray.mk #[98,97,114,115,32]).size+f1.size) 9223372036854775807),(NL ((ByteArray.mk #[98,97,114,115,32]++f1).size+(ByteArray.mk #[32,102,114,101,101,100,111,109,32]).size) 9223372036854775807),(NT 0 1),zE 249 [(zf31 p)] [] (.p (.int .i64 fr)),zE 129 [.p (.int .i64 fr)] [] (.p (.str f2)),(NL ((ByteArray.mk #[98,97,114,115,32]++f1++ByteArray.mk #[32,102,114,101,101,100,111,109,32]).size+f2.size) 9223372036854775807),(NL ((ByteArray.mk #[98,97,114,115,32]++f1++ByteArray.mk #[32,102,114,101,101,100,111,109,32]++f2).size+(ByteArray.mk #[32,115,116,101,97,100,121,32]).size) 9223372036854775807),(NT 0 1),zE 250 [(zf31 p)] [(0,⟨false,1,n,(fun i=>[.p (.int .i64 (h i))])⟩)] (.ar 1 0 0 n),zE 129 [.p (.int .i64 (↑n:Int))] [] (.p (.str f3)),(NL ((ByteArray.mk #[98,97,114,115,32]++f1++ByteArray.mk #[32,102,114,101,101,100,111,109,32]++f2++ByteArray.mk #[32,115,116,101,97,100,121,32]).size+f3.size) 9223372036854775807),(NT 0 1),zE 251 [(zf31 p)] [] (.tup [.p (.int .i64 w),.p (.int .i64 m)]),((decide (w≥0))=false),(ByteArray.mk #[98,97,114,115,32]++f1++ByteArray.mk #[32,102,114,101,101,100,111,109,32]++f2++ByteArray.mk #[32,115,116,101,97,100,121,32]++f3=kBars++f1++kFree++f2++kSteady++f3)]:=by kernel_rfl
theorem lSn (p:T_Pinned) :
    zS Tryz.f138 [rg 2,rm [(1,oc [] (.p (.bool false)))] 1,.dec true,rg 1] [pinA p] [] [] (.p (.str ⟨#[]⟩)) =
    some [(NT 0 1),zE 240 [(zf31 p)] [] (.p (.bool false)),((!false)=true),(ByteArray.mk #[]=ByteArray.mk #[])]:=by kernel_rfl
theorem lSa (p:T_Pinned) (fr w m:Int) (n:Nat) (h:Nat→Int) (f1 f2 f3 f4 f5 f6:ByteArray) :
    zS Tryz.f138 [rg 2,rm [(1,oc [] (.p (.bool true)))] 1,.dec false,rm [(4,oc [] (.p (.str f1))),(3,oc [] (.p (.int .i64 fr))),(0,oc [] (.p (.str f2))),(3,oc [(0,iOb n h)] (.ar 1 0 0 n)),(1,oc [] (.p (.str f3)))] 2,rm [(1,oc [] (.tup [.p (.int .i64 w),.p (.int .i64 m)]))] 5,rg 2,.dec true,rm [(9,oc [] (.p (.str f4))),(9,oc [] (.p (.str f5))),(3,oc [] (.p (.str f6)))] 2,rg 2] [pinA p] [] [] (.p (.str (((((((((((kBars++f1)++kFree)++f2)++kSteady)++f3)++kWorst)++f4)++kDash)++f5)++kDrops)++f6))) =
    some [(NT 0 1),zE 240 [(zf31 p)] [] (.p (.bool true)),((!true)=false),(NT 0 1),zE 118 [.p (.int .i64 (↑p.1.2.1.1:Int))] [] (.p (.str f1)),(NL ((ByteArray.mk #[98,97,114,115,32]).size+f1.size) 9223372036854775807),(NL ((ByteArray.mk #[98,97,114,115,32]++f1).size+(ByteArray.mk #[32,102,114,101,101,100,111,109,32]).size) 9223372036854775807),(NT 0 1),zE 241 [(zf31 p)] [] (.p (.int .i64 fr)),zE 118 [.p (.int .i64 fr)] [] (.p (.str f2)),(NL ((ByteArray.mk #[98,97,114,115,32]++f1++ByteArray.mk #[32,102,114,101,101,100,111,109,32]).size+f2.size) 9223372036854775807),(NL ((ByteArray.mk #[98,97,114,115,32]++f1++ByteArray.mk #[32,102,114,101,101,100,111,109,32]++f2).size+(ByteArray.mk #[32,115,116,101,97,100,121,32]).size) 9223372036854775807),(NT 0 1),zE 242 [(zf31 p)] [(0,⟨false,1,n,(fun i=>[.p (.int .i64 (h i))])⟩)] (.ar 1 0 0 n),zE 118 [.p (.int .i64 (↑n:Int))] [] (.p (.str f3)),(NL ((ByteArray.mk #[98,97,114,115,32]++f1++ByteArray.mk #[32,102,114,101,101,100,111,109,32]++f2++ByteArray.mk #[32,115,116,101,97,100,121,32]).size+f3.size) 9223372036854775807),(NT 0 1),zE 243 [(zf31 p)] [] (.tup [.p (.int .i64 w),.p (.int .i64 m)]),((decide (w≥0))=true),(NL ((ByteArray.mk #[98,97,114,115,32]++f1++ByteArray.mk #[32,102,114,101,101,100,111,109,32]++f2++ByteArray.mk #[32,115,116,101,97,100,121,32]++f3).size+(ByteArray.mk #[32,119,111,114,115,116,32]).size) 9223372036854775807),(NT 0 1),(IL 0 w),(IT w (↑p.1.2.1.1:Int)),zE 118 [.p (.int .i64 ((p.1.2.1.2 w.toNat).1))] [] (.p (.str f4)),(NL ((ByteArray.mk #[98,97,114,115,32]++f1++ByteArray.mk #[32,102,114,101,101,100,111,109,32]++f2++ByteArray.mk #[32,115,116,101,97,100,121,32]++f3++ByteArray.mk #[32,119,111,114,115,116,32]).size+f4.size) 9223372036854775807),(NL ((ByteArray.mk #[98,97,114,115,32]++f1++ByteArray.mk #[32,102,114,101,101,100,111,109,32]++f2++ByteArray.mk #[32,115,116,101,97,100,121,32]++f3++ByteArray.mk #[32,119,111,114,115,116,32]++f4).size+(ByteArray.mk #[45]).size) 9223372036854775807),(NT 0 1),(IL 0 w),(IT w (↑p.1.2.1.1:Int)),zE 118 [.p (.int .i64 ((p.1.2.1.2 w.toNat).2.1))] [] (.p (.str f5)),(NL ((ByteArray.mk #[98,97,114,115,32]++f1++ByteArray.mk #[32,102,114,101,101,100,111,109,32]++f2++ByteArray.mk #[32,115,116,101,97,100,121,32]++f3++ByteArray.mk #[32,119,111,114,115,116,32]++f4++ByteArray.mk #[45]).size+f5.size) 9223372036854775807),(NL ((ByteArray.mk #[98,97,114,115,32]++f1++ByteArray.mk #[32,102,114,101,101,100,111,109,32]++f2++ByteArray.mk #[32,115,116,101,97,100,121,32]++f3++ByteArray.mk #[32,119,111,114,115,116,32]++f4++ByteArray.mk #[45]++f5).size+(ByteArray.mk #[32,100,114,111,112,115,32]).size) 9223372036854775807),zE 118 [.p (.int .i64 m)] [] (.p (.str f6)),(NL ((ByteArray.mk #[98,97,114,115,32]++f1++ByteArray.mk #[32,102,114,101,101,100,111,109,32]++f2++ByteArray.mk #[32,115,116,101,97,100,121,32]++f3++ByteArray.mk #[32,119,111,114,115,116,32]++f4++ByteArray.mk #[45]++f5++ByteArray.mk #[32,100,114,111,112,115,32]).size+f6.size) 9223372036854775807),(ByteArray.mk #[98,97,114,115,32]++f1++ByteArray.mk #[32,102,114,101,101,100,111,109,32]++f2++ByteArray.mk #[32,115,116,101,97,100,121,32]++f3++ByteArray.mk #[32,119,111,114,115,116,32]++f4++ByteArray.mk #[45]++f5++ByteArray.mk #[32,100,114,111,112,115,32]++f6=kBars++f1++kFree++f2++kSteady++f3++kWorst++f4++kDash++f5++kDrops++f6)]:=by kernel_rfl
theorem lSb (p:T_Pinned) (fr w m:Int) (n:Nat) (h:Nat→Int) (f1 f2 f3:ByteArray) :
    zS Tryz.f138 [rg 2,rm [(1,oc [] (.p (.bool true)))] 1,.dec false,rm [(4,oc [] (.p (.str f1))),(3,oc [] (.p (.int .i64 fr))),(0,oc [] (.p (.str f2))),(3,oc [(0,iOb n h)] (.ar 1 0 0 n)),(1,oc [] (.p (.str f3)))] 2,rm [(1,oc [] (.tup [.p (.int .i64 w),.p (.int .i64 m)]))] 5,rg 2,.dec false,rg 2] [pinA p] [] [] (.p (.str (((((kBars++f1)++kFree)++f2)++kSteady)++f3))) =
    some [(NT 0 1),zE 240 [(zf31 p)] [] (.p (.bool true)),((!true)=false),(NT 0 1),zE 118 [.p (.int .i64 (↑p.1.2.1.1:Int))] [] (.p (.str f1)),(NL ((ByteArray.mk #[98,97,114,115,32]).size+f1.size) 9223372036854775807),(NL ((ByteArray.mk #[98,97,114,115,32]++f1).size+(ByteArray.mk #[32,102,114,101,101,100,111,109,32]).size) 9223372036854775807),(NT 0 1),zE 241 [(zf31 p)] [] (.p (.int .i64 fr)),zE 118 [.p (.int .i64 fr)] [] (.p (.str f2)),(NL ((ByteArray.mk #[98,97,114,115,32]++f1++ByteArray.mk #[32,102,114,101,101,100,111,109,32]).size+f2.size) 9223372036854775807),(NL ((ByteArray.mk #[98,97,114,115,32]++f1++ByteArray.mk #[32,102,114,101,101,100,111,109,32]++f2).size+(ByteArray.mk #[32,115,116,101,97,100,121,32]).size) 9223372036854775807),(NT 0 1),zE 242 [(zf31 p)] [(0,⟨false,1,n,(fun i=>[.p (.int .i64 (h i))])⟩)] (.ar 1 0 0 n),zE 118 [.p (.int .i64 (↑n:Int))] [] (.p (.str f3)),(NL ((ByteArray.mk #[98,97,114,115,32]++f1++ByteArray.mk #[32,102,114,101,101,100,111,109,32]++f2++ByteArray.mk #[32,115,116,101,97,100,121,32]).size+f3.size) 9223372036854775807),(NT 0 1),zE 243 [(zf31 p)] [] (.tup [.p (.int .i64 w),.p (.int .i64 m)]),((decide (w≥0))=false),(ByteArray.mk #[98,97,114,115,32]++f1++ByteArray.mk #[32,102,114,101,101,100,111,109,32]++f2++ByteArray.mk #[32,115,116,101,97,100,121,32]++f3=kBars++f1++kFree++f2++kSteady++f3)]:=by kernel_rfl
theorem sm_pinnedD {p:T_Pinned} (h:pinnedF p=true):smS s_Pinned p:=by
  have:=pinned_in h
  have:=(graph_inR this.1).2.2.1
  exact sm_pin (by omega) (by omega)
def woP (p:T_Pinned) (e:Nat):T_Pinned:=((p.1.1,(p.1.2.1.1 - 1,delB p.1.2.1.1 p.1.2.1.2 e),()),p.2)
theorem con_RemoveBar_s (v:T_Graph) (hg:isGraphF v=true) (e:Nat) (he:e<v.2.1.1):zE 259 [graphA v,.p (.int .i64 e)] [(0,brOb (v.2.1.1 - 1) (delB v.2.1.1 v.2.1.2 e))] (.tup [.agg [.p (.int .i64 v.1),.ar 2 0 0 (v.2.1.1 - 1)],.p (.bool true)]):=by
  obtain ⟨g1,g2,g3,g4⟩:=graph_inR hg
  have c1:=con_IsGraph_s v (sm_graph (by omega))
  rw [hg] at c1
  have hd:(bif bif !true then true else decide ((e:Int)<0) then true else decide ((e:Int)≥(v.2.1.1:Int)))=false:=by
    rw [decide_eq_false (show ¬ ((e:Int)<0) by omega),decide_eq_false (show ¬ ((e:Int)≥(v.2.1.1:Int)) by omega)];rfl
  refine csZ Tryz.func259 (fun c hc=>?_)
  refine pkD Tryz.func259 hc (zqRb v e) ?_
  and_intros
  all_goals (first | exact zH | (exact c1) | (exact hd) | (intro t ht;rcases Nat.lt_or_ge t e with h1 | h1;(simp [h1,delB,cvtL,cvt,tg,tru,All]);((try dsimp only);rw [if_neg (show ¬ t<0+e by omega),show t - (0+e)+(e+1)=t+1 by omega];simp [show ¬ t<e by omega,delB,show t+1<v.2.1.1 by omega,cvtL,cvt,tg,tru,All])))
theorem con_l27Less (p:T_Pinned) (hp:pinnedF p=true) (e:Nat) (he:e<p.1.2.1.1):zE 358 [pinA p,.p (.int .i64 e)] [(0,brOb (woP p e).1.2.1.1 (woP p e).1.2.1.2),(1,iOb p.2.1.1 p.2.1.2)] (.agg [.p (.int .i64 p.1.1),.ar 2 0 0 (woP p e).1.2.1.1,.ar 1 1 0 p.2.1.1]):=by
  have hp1:=pinned_in hp
  have ok:=pin_ok hp
  have hm:=ok.m
  have c1:=con_RemoveBar_s p.1 hp1.1 e he
  refine csZ Tryz.func358 (fun c hc=>?_)
  refine pkD Tryz.func358 hc (zqLl p e (woP p e).1.2.1.1 (woP p e).1.2.1.2) ?_
  and_intros
  all_goals (first | exact zI | (exact c1) | (intro t ht;simp [cvtL,cvt,tg,tru,All]))
theorem con_withoutBar (p:T_Pinned) (hp:pinnedF p=true) (e:Nat) (he:e<p.1.2.1.1):zE 361 [pinA p,.p (.int .i64 e)] [(0,brOb (woP p e).1.2.1.1 (woP p e).1.2.1.2),(1,iOb p.2.1.1 p.2.1.2)] (.agg [.p (.int .i64 p.1.1),.ar 2 0 0 (woP p e).1.2.1.1,.ar 1 1 0 p.2.1.1]):=by
  have ok:=pin_ok hp
  have hm:=ok.m;have hnb:=ok.nb
  have c1:=con_copyPinned p (sm_pinnedD hp)
  have c2:=con_DelBar p.1.2.1.1 e p.1.2.1.2 he (by omega)
  refine csZ Tryz.func361 (fun c hc=>?_)
  refine pkD Tryz.func361 hc (zqWo p e (p.1.2.1.1 - 1) (delB p.1.2.1.1 p.1.2.1.2 e)) ?_
  and_intros
  all_goals (first | exact zI | (exact c1) | (exact c2) | (intro t ht;simp [cvtL,cvt,tg,tru,All]))
def fwD (b a:NI):Nat→NI
  | 0=>zNI
  | k+1=>if hasI a.2 (b.2 k) a.1=true then fwD b a k else snN (fwD b a k) (b.2 k)
noncomputable def fwR (p:T_Pinned) (e:Nat):NI:=fwD (sdR p) (sdR (woP p e)) (sdR p).1
theorem fwD_n (b a:NI):∀ k,(fwD b a k).1≤k
  | 0=>Nat.le_refl _
  | k+1=>by
    have:=fwD_n b a k
    simp only [fwD]
    split
    · omega
    · simp only [snN];omega
theorem fwR_n (p:T_Pinned) (e:Nat):(fwR p e).1≤8:=by
  have:=fwD_n (sdR p) (sdR (woP p e)) (sdR p).1
  have:=sdR_n p
  unfold fwR
  omega
theorem sm_wo {p:T_Pinned} (hp:pinnedF p=true) (e:Nat):smS s_Pinned (woP p e):=by
  have ok:=pin_ok hp
  have hm:=ok.m;have hnb:=ok.nb
  exact sm_pin (by show p.1.2.1.1 - 1≤1048576;omega) (by show p.2.1.1≤1048576;omega)
theorem con_Falls_i (p:T_Pinned) (hp:pinnedF p=true) (e:Nat) (he:e<p.1.2.1.1):zE 328 [pinA p,.p (.int .i64 e)] [(0,iOb (fwR p e).1 (fwR p e).2)] (.ar 1 0 0 (fwR p e).1):=by
  have hnb:=(pin_ok hp).nb
  have c1:=con_IsPinned_i p (sm_pinnedD hp)
  rw [hp] at c1
  have cw:=con_within e 0 ((p.1.2.1.1:Int) - 1)
  rw [show inB (e:Int) 0 ((p.1.2.1.1:Int) - 1)=true by simp [inB];omega] at cw
  have co:=con_withoutBar p hp e he
  have ca:=con_Steady_i (woP p e) (sm_wo hp e)
  have cb:=con_Steady_i p (sm_pinnedD hp)
  have na:=sdR_n (woP p e)
  have nb:=sdR_n p
  unfold fwR
  generalize sdR (woP p e)=A at *
  generalize sdR p=B at *
  refine csZ Tryz.func328 (fun c hc=>?_)
  generalize hR:fwD B A B.1=R
  have lo:∀ d k,k+d=B.1→zR c 328 zf53 (SYf p e k (fwD B A k).1 A.1 B.1 (fwD B A k).2 A.2 B.2) (Post c [(0,iOb R.1 R.2)] (.ar 1 0 0 R.1)):=by
    intro d
    induction d with
    | zero =>
      intro k hk
      obtain rfl:k=B.1:=by omega
      have hd:decide ((B.1:Int)<(B.1:Int))=false:=by simp
      rw [hR]
      refine pkZ Tryz.func328 hc (zqFe p e B.1 R.1 A.1 B.1 R.2 A.2 B.2) ?_
      and_intros
      all_goals (first | exact zN | (exact hd) | (intro t ht;simp [cvtL,cvt,tg,tru,All]))
    | succ d ih =>
      intro k hk
      have hrec:=ih (k+1) (by omega)
      have hd:decide ((k:Int)<(B.1:Int))=true:=decide_eq_true (by omega)
      have ch:=con_Contains A (B.2 k) (by omega)
      have hn:=fwD_n B A k
      cases hh:hasI A.2 (B.2 k) A.1 with
      | true =>
        rw [hh] at ch
        rw [show fwD B A (k+1)=fwD B A k by simp [fwD,hh]] at hrec
        generalize fwD B A k=q at hn hrec ⊢
        refine pcD hc (zqFb p e k q.1 A.1 B.1 q.2 A.2 B.2) ?_ hrec
        and_intros
        all_goals (first | exact zN | (exact hd) | (exact ch) | (intro t ht;simp [cvtL,cvt,tg,tru,All]))
      | false =>
        rw [hh] at ch
        rw [show fwD B A (k+1)=snN (fwD B A k) (B.2 k) by simp [fwD,hh]] at hrec
        generalize fwD B A k=q at hn hrec ⊢
        refine pcD hc (zqFa p e k q.1 A.1 B.1 q.2 A.2 B.2) ?_ hrec
        and_intros
        all_goals (first | exact zN | (exact hd) | (exact ch) | (intro t ht;by_cases h':t<q.1<;>simp [h',snI,cvtL,cvt,tg,tru,All]))
  refine pcD hc (zqFz p e A.1 B.1 (woP p e).1.2.1.1 A.2 B.2 (woP p e).1.2.1.2) ?_ (lo B.1 0 (by omega))
  and_intros
  all_goals (first | exact zH | (intros;omega) | (exact c1) | (exact cw) | (intros;exact cw) | (exact co) | (exact ca) | (exact cb) | (intro t ht;exact absurd ht (Nat.not_lt_zero _)) | (intro t ht;simp [cvtL,cvt,tg,tru,All]))
theorem con_Falls_s (p:T_Pinned) (hp:pinnedF p=true) (e:Nat) (he:e<p.1.2.1.1):zE 321 [pinA p,.p (.int .i64 e)] [(0,iOb (fwR p e).1 (fwR p e).2)] (.ar 1 0 0 (fwR p e).1):=by
  have c1:=con_IsPinned_s p (sm_pinnedD hp)
  rw [hp] at c1
  have hd0:(bif bif !true then true else decide ((e:Int)<0) then true else decide ((e:Int)≥(p.1.2.1.1:Int)))=false:=by
    rw [decide_eq_false (show ¬ ((e:Int)<0) by omega),decide_eq_false (show ¬ ((e:Int)≥(p.1.2.1.1:Int)) by omega)];rfl
  have co:=con_l27Less p hp e he
  have ca:=con_Steady_s (woP p e) (sm_wo hp e)
  have cb:=con_Steady_s p (sm_pinnedD hp)
  have na:=sdR_n (woP p e)
  have nb:=sdR_n p
  unfold fwR
  generalize sdR (woP p e)=A at *
  generalize sdR p=B at *
  refine csZ Tryz.func321 (fun c hc=>?_)
  generalize hR:fwD B A B.1=R
  have lo:∀ d k,k+d=B.1→zR c 321 zf39 (SYg p e k (fwD B A k).1 A.1 B.1 (fwD B A k).2 A.2 B.2) (Post c [(0,iOb R.1 R.2)] (.ar 1 0 0 R.1)):=by
    intro d
    induction d with
    | zero =>
      intro k hk
      obtain rfl:k=B.1:=by omega
      have hd:decide ((B.1:Int)<(B.1:Int))=false:=by simp
      rw [hR]
      refine pkZ Tryz.func321 hc (zqGe p e B.1 R.1 A.1 B.1 R.2 A.2 B.2) ?_
      and_intros
      all_goals (first | exact zN | (exact hd) | (intro t ht;simp [cvtL,cvt,tg,tru,All]))
    | succ d ih =>
      intro k hk
      have hrec:=ih (k+1) (by omega)
      have hd:decide ((k:Int)<(B.1:Int))=true:=decide_eq_true (by omega)
      have ch:=con_l2Has A (B.2 k) (by omega)
      have hn:=fwD_n B A k
      cases hh:hasI A.2 (B.2 k) A.1 with
      | true =>
        rw [hh] at ch
        rw [show fwD B A (k+1)=fwD B A k by simp [fwD,hh]] at hrec
        generalize fwD B A k=q at hn hrec ⊢
        refine pcD hc (zqGb p e k q.1 A.1 B.1 q.2 A.2 B.2) ?_ hrec
        and_intros
        all_goals (first | exact zN | (exact hd) | (exact ch) | (intro t ht;simp [cvtL,cvt,tg,tru,All]))
      | false =>
        rw [hh] at ch
        rw [show fwD B A (k+1)=snN (fwD B A k) (B.2 k) by simp [fwD,hh]] at hrec
        generalize fwD B A k=q at hn hrec ⊢
        refine pcD hc (zqGa p e k q.1 A.1 B.1 q.2 A.2 B.2) ?_ hrec
        and_intros
        all_goals (first | exact zN | (exact hd) | (exact ch) | (intro t ht;by_cases h':t<q.1<;>simp [h',snI,cvtL,cvt,tg,tru,All]))
  refine pcD hc (zqGz p e A.1 B.1 (woP p e).1.2.1.1 A.2 B.2 (woP p e).1.2.1.2) ?_ (lo B.1 0 (by omega))
  and_intros
  all_goals (first | exact zH | (exact c1) | (exact hd0) | (exact co) | (exact ca) | (exact cb) | (intro t ht;exact absurd ht (Nat.not_lt_zero _)) | (intro t ht;simp [cvtL,cvt,tg,tru,All]))
noncomputable def wbD (p:T_Pinned):Nat→Int×Int
  | 0=>(-1,0)
  | k+1=>if ((fwR p k).1:Int)>(wbD p k).2 then ((k:Int),((fwR p k).1:Int)) else wbD p k
theorem wbD_in (p:T_Pinned):∀ k,-1≤(wbD p k).1∧(wbD p k).1<k∧0≤(wbD p k).2∧(wbD p k).2≤8
  | 0=>by simp [wbD]
  | k+1=>by
    have h1:=wbD_in p k
    have h2:=fwR_n p k
    simp only [wbD]
    split
    · simp only;omega
    · omega
theorem con_Worst_i (p:T_Pinned) (hp:pinnedF p=true):zE 251 [pinA p] [] (.tup [.p (.int .i64 (wbD p p.1.2.1.1).1),.p (.int .i64 (wbD p p.1.2.1.1).2)]):=by
  have ok:=pin_ok hp
  have hnb:=ok.nb
  refine csZ Tryz.func251 (fun c hc=>?_)
  generalize hR:wbD p p.1.2.1.1=R
  have lo:∀ d k,k+d=p.1.2.1.1→zR c 251 zf88 (SYw p k (wbD p k).1 (wbD p k).2) (Post c [] (.tup [.p (.int .i64 R.1),.p (.int .i64 R.2)])):=by
    intro d
    induction d with
    | zero =>
      intro k hk
      obtain rfl:k=p.1.2.1.1:=by omega
      have hd:decide ((p.1.2.1.1:Int)<(p.1.2.1.1:Int))=false:=by simp
      rw [hR]
      refine pkZ Tryz.func251 hc (zqWe p p.1.2.1.1 R.1 R.2) ?_
      and_intros
      all_goals (first | exact zN | (exact hd) | (intro t ht;simp [cvtL,cvt,tg,tru,All]))
    | succ d ih =>
      intro k hk
      have hrec:=ih (k+1) (by omega)
      have hd:decide ((k:Int)<(p.1.2.1.1:Int))=true:=decide_eq_true (by omega)
      have cf:=con_Falls_i p hp k (by omega)
      have hf:=fwR_n p k
      have e:wbD p (k+1)=if ((fwR p k).1:Int)>(wbD p k).2 then ((k:Int),((fwR p k).1:Int)) else wbD p k:=rfl
      generalize fwR p k=F at *
      by_cases hh:(F.1:Int)>(wbD p k).2
      · rw [e,if_pos hh] at hrec
        have hg:decide ((F.1:Int)>(wbD p k).2)=true:=decide_eq_true hh
        generalize wbD p k=q at hg hrec ⊢
        refine pcD hc (zqWa p k F.1 q.1 q.2 F.2) ?_ hrec
        and_intros
        all_goals (first | exact zN | (exact hd) | (exact cf) | (exact hg) | (intro t ht;simp [cvtL,cvt,tg,tru,All]))
      · rw [e,if_neg hh] at hrec
        have hg:decide ((F.1:Int)>(wbD p k).2)=false:=decide_eq_false hh
        generalize wbD p k=q at hg hrec ⊢
        refine pcD hc (zqWb p k F.1 q.1 q.2 F.2) ?_ hrec
        and_intros
        all_goals (first | exact zN | (exact hd) | (exact cf) | (exact hg) | (intro t ht;simp [cvtL,cvt,tg,tru,All]))
  refine pcD hc (zqWz p) ?_ (lo p.1.2.1.1 0 (by omega))
  and_intros
  all_goals (first | exact zN | (intro t ht;simp [cvtL,cvt,tg,tru,All]))
theorem con_Worst_s (p:T_Pinned) (hp:pinnedF p=true):zE 243 [pinA p] [] (.tup [.p (.int .i64 (wbD p p.1.2.1.1).1),.p (.int .i64 (wbD p p.1.2.1.1).2)]):=by
  have ok:=pin_ok hp
  have hnb:=ok.nb
  refine csZ Tryz.func243 (fun c hc=>?_)
  generalize hR:wbD p p.1.2.1.1=R
  have lo:∀ d k,k+d=p.1.2.1.1→zR c 243 zf70 (SYv p k (wbD p k).1 (wbD p k).2) (Post c [] (.tup [.p (.int .i64 R.1),.p (.int .i64 R.2)])):=by
    intro d
    induction d with
    | zero =>
      intro k hk
      obtain rfl:k=p.1.2.1.1:=by omega
      have hd:decide ((p.1.2.1.1:Int)<(p.1.2.1.1:Int))=false:=by simp
      rw [hR]
      refine pkZ Tryz.func243 hc (zqVe p p.1.2.1.1 R.1 R.2) ?_
      and_intros
      all_goals (first | exact zN | (exact hd) | (intro t ht;simp [cvtL,cvt,tg,tru,All]))
    | succ d ih =>
      intro k hk
      have hrec:=ih (k+1) (by omega)
      have hd:decide ((k:Int)<(p.1.2.1.1:Int))=true:=decide_eq_true (by omega)
      have cf:=con_Falls_s p hp k (by omega)
      have hf:=fwR_n p k
      have e:wbD p (k+1)=if ((fwR p k).1:Int)>(wbD p k).2 then ((k:Int),((fwR p k).1:Int)) else wbD p k:=rfl
      generalize fwR p k=F at *
      by_cases hh:(F.1:Int)>(wbD p k).2
      · rw [e,if_pos hh] at hrec
        have hg:decide ((F.1:Int)>(wbD p k).2)=true:=decide_eq_true hh
        generalize wbD p k=q at hg hrec ⊢
        refine pcD hc (zqVa p k F.1 q.1 q.2 F.2) ?_ hrec
        and_intros
        all_goals (first | exact zN | (exact hd) | (exact cf) | (exact hg) | (intro t ht;simp [cvtL,cvt,tg,tru,All]))
      · rw [e,if_neg hh] at hrec
        have hg:decide ((F.1:Int)>(wbD p k).2)=false:=decide_eq_false hh
        generalize wbD p k=q at hg hrec ⊢
        refine pcD hc (zqVb p k F.1 q.1 q.2 F.2) ?_ hrec
        and_intros
        all_goals (first | exact zN | (exact hd) | (exact cf) | (exact hg) | (intro t ht;simp [cvtL,cvt,tg,tru,All]))
  refine pcD hc (zqVz p) ?_ (lo p.1.2.1.1 0 (by omega))
  and_intros
  all_goals (first | exact zN | (intro t ht;simp [cvtL,cvt,tg,tru,All]))
noncomputable def ilB (p:T_Pinned):ByteArray :=
  if pinnedF p=true then
    (if (wbD p p.1.2.1.1).1<0 then ((((kBars++fmtI p.1.2.1.1)++kFree)++fmtI (frG p))++kSteady)++fmtI (sdR p).1
    else ((((((((kBars++fmtI p.1.2.1.1)++kFree)++fmtI (frG p))++kSteady)++fmtI (sdR p).1)++kWorst)++enB (p.1.2.1.2 (wbD p p.1.2.1.1).1.toNat))++kDrops)++fmtI (wbD p p.1.2.1.1).2)
  else ⟨#[]⟩
theorem frG_in (p:T_Pinned):-100≤frG p∧frG p≤100:=by
  have h1:=prG_in p
  have h2:=inrP_n p
  unfold frG
  split<;>omega
theorem con_Inspect_i (p:T_Pinned) (hs:smS s_Pinned p):zE 143 [pinA p] [] (.p (.str (ilB p))):=by
  have c1:=con_IsPinned_i p hs
  refine csZ Tryz.func143 (fun c hc=>?_)
  cases hp:pinnedF p with
  | false =>
    rw [hp] at c1
    rw [show ilB p=⟨#[]⟩ by simp [ilB,hp]]
    refine pkZ Tryz.func143 hc (lIn p) ?_
    and_intros
    all_goals (first | exact zN | (exact c1))
  | true =>
    rw [hp] at c1
    have ok:=pin_ok hp
    have hnb:=ok.nb
    have hfr:=frG_in p
    have hst:=sdR_n p
    have hw:=wbD_in p p.1.2.1.1
    have c2:=con_FormatInt_i p.1.2.1.1 (by omega) (by omega)
    have c3:=con_PinnedFreedom_i p hs
    have c4:=con_FormatInt_i (frG p) (by omega) (by omega)
    have c5:=con_Steady_i p hs
    have c6:=con_FormatInt_i (sdR p).1 (by omega) (by omega)
    have c7:=con_Worst_i p hp
    have c8:=con_FormatInt_i (wbD p p.1.2.1.1).2 (by omega) (by omega)
    have s1:=fmt_size p.1.2.1.1
    have s2:=fmt_size (frG p)
    have s3:=fmt_size (sdR p).1
    have s5:=fmt_size (wbD p p.1.2.1.1).2
    by_cases hw0:(wbD p p.1.2.1.1).1<0
    · rw [show ilB p=((((kBars++fmtI p.1.2.1.1)++kFree)++fmtI (frG p))++kSteady)++fmtI (sdR p).1 by simp [ilB,hp,hw0]]
      have hd:decide ((wbD p p.1.2.1.1).1≥0)=false:=decide_eq_false (by omega)
      generalize wbD p p.1.2.1.1=w at *
      generalize sdR p=S at *
      generalize frG p=fr at *
      generalize fmtI p.1.2.1.1=f1 at *
      generalize fmtI fr=f2 at *
      generalize fmtI S.1=f3 at *
      refine pkZ Tryz.func143 hc (lIb p fr w.1 w.2 S.1 S.2 f1 f2 f3) ?_
      and_intros
      all_goals (first | exact zN | (exact c1) | (exact c2) | (exact c3) | (exact c4) | (exact c5) | (exact c6) | (exact c7) | (exact hd) | (simp only [ByteArray.size_append,kBars_z,kFree_z,kSteady_z,kWorst_z,kDrops_z,kDash_z];omega))
    · rw [show ilB p=((((((((kBars++fmtI p.1.2.1.1)++kFree)++fmtI (frG p))++kSteady)++fmtI (sdR p).1)++kWorst)++enB (p.1.2.1.2 (wbD p p.1.2.1.1).1.toNat))++kDrops)++fmtI (wbD p p.1.2.1.1).2 by simp [ilB,hp,hw0]]
      have hd:decide ((wbD p p.1.2.1.1).1≥0)=true:=decide_eq_true (by omega)
      have hb:=ok.bars (wbD p p.1.2.1.1).1.toNat (by omega)
      have hN:=ok.N
      have c9:=con_ends (p.1.2.1.2 (wbD p p.1.2.1.1).1.toNat) (by omega) (by omega)
      have s4:=enB_size (p.1.2.1.2 (wbD p p.1.2.1.1).1.toNat)
      generalize enB (p.1.2.1.2 (wbD p p.1.2.1.1).1.toNat)=f4 at *
      generalize wbD p p.1.2.1.1=w at *
      generalize sdR p=S at *
      generalize frG p=fr at *
      generalize fmtI p.1.2.1.1=f1 at *
      generalize fmtI fr=f2 at *
      generalize fmtI S.1=f3 at *
      generalize fmtI w.2=f5 at *
      refine pkZ Tryz.func143 hc (lIa p fr w.1 w.2 S.1 S.2 f1 f2 f3 f4 f5) ?_
      and_intros
      all_goals (first | exact zN | (exact c1) | (exact c2) | (exact c3) | (exact c4) | (exact c5) | (exact c6) | (exact c7) | (exact c8) | (exact c9) | (exact hd) | (simp only [ByteArray.size_append,kBars_z,kFree_z,kSteady_z,kWorst_z,kDrops_z,kDash_z];omega))
theorem con_Inspect_s (p:T_Pinned) (hs:smS s_Pinned p):zE 138 [pinA p] [] (.p (.str (ilB p))):=by
  have c1:=con_IsPinned_s p hs
  refine csZ Tryz.func138 (fun c hc=>?_)
  cases hp:pinnedF p with
  | false =>
    rw [hp] at c1
    rw [show ilB p=⟨#[]⟩ by simp [ilB,hp]]
    refine pkZ Tryz.func138 hc (lSn p) ?_
    and_intros
    all_goals (first | exact zN | (exact c1))
  | true =>
    rw [hp] at c1
    have ok:=pin_ok hp
    have hnb:=ok.nb
    have hfr:=frG_in p
    have hst:=sdR_n p
    have hw:=wbD_in p p.1.2.1.1
    have c2:=con_FormatInt_s p.1.2.1.1 (by omega) (by omega)
    have c3:=con_PinnedFreedom_s p hs
    have c4:=con_FormatInt_s (frG p) (by omega) (by omega)
    have c5:=con_Steady_s p hs
    have c6:=con_FormatInt_s (sdR p).1 (by omega) (by omega)
    have c7:=con_Worst_s p hp
    have c8:=con_FormatInt_s (wbD p p.1.2.1.1).2 (by omega) (by omega)
    have s1:=fmt_size p.1.2.1.1
    have s2:=fmt_size (frG p)
    have s3:=fmt_size (sdR p).1
    have s5:=fmt_size (wbD p p.1.2.1.1).2
    by_cases hw0:(wbD p p.1.2.1.1).1<0
    · rw [show ilB p=((((kBars++fmtI p.1.2.1.1)++kFree)++fmtI (frG p))++kSteady)++fmtI (sdR p).1 by simp [ilB,hp,hw0]]
      have hd:decide ((wbD p p.1.2.1.1).1≥0)=false:=decide_eq_false (by omega)
      generalize wbD p p.1.2.1.1=w at *
      generalize sdR p=S at *
      generalize frG p=fr at *
      generalize fmtI p.1.2.1.1=f1 at *
      generalize fmtI fr=f2 at *
      generalize fmtI S.1=f3 at *
      refine pkZ Tryz.func138 hc (lSb p fr w.1 w.2 S.1 S.2 f1 f2 f3) ?_
      and_intros
      all_goals (first | exact zN | (exact c1) | (exact c2) | (exact c3) | (exact c4) | (exact c5) | (exact c6) | (exact c7) | (exact hd) | (simp only [ByteArray.size_append,kBars_z,kFree_z,kSteady_z,kWorst_z,kDrops_z,kDash_z];omega))
    · have hb:=ok.bars (wbD p p.1.2.1.1).1.toNat (by omega)
      have hN:=ok.N
      have he:ilB p=(((((((((((kBars++fmtI p.1.2.1.1)++kFree)++fmtI (frG p))++kSteady)++fmtI (sdR p).1)++kWorst)++fmtI (p.1.2.1.2 (wbD p p.1.2.1.1).1.toNat).1)++kDash)++fmtI (p.1.2.1.2 (wbD p p.1.2.1.1).1.toNat).2.1)++kDrops)++fmtI (wbD p p.1.2.1.1).2):=by
        unfold ilB
        rw [if_pos hp,if_neg hw0,enB,if_neg (by omega),if_pos (by omega)]
        simp only [ByteArray.append_assoc]
      rw [he]
      have hd:decide ((wbD p p.1.2.1.1).1≥0)=true:=decide_eq_true (by omega)
      have c9:=con_FormatInt_s (p.1.2.1.2 (wbD p p.1.2.1.1).1.toNat).1 (by omega) (by omega)
      have c10:=con_FormatInt_s (p.1.2.1.2 (wbD p p.1.2.1.1).1.toNat).2.1 (by omega) (by omega)
      have s4:=fmt_size (p.1.2.1.2 (wbD p p.1.2.1.1).1.toNat).1
      have s6:=fmt_size (p.1.2.1.2 (wbD p p.1.2.1.1).1.toNat).2.1
      generalize fmtI (p.1.2.1.2 (wbD p p.1.2.1.1).1.toNat).1=f4 at *
      generalize fmtI (p.1.2.1.2 (wbD p p.1.2.1.1).1.toNat).2.1=f6 at *
      generalize wbD p p.1.2.1.1=w at *
      generalize sdR p=S at *
      generalize frG p=fr at *
      generalize fmtI p.1.2.1.1=f1 at *
      generalize fmtI fr=f2 at *
      generalize fmtI S.1=f3 at *
      generalize fmtI w.2=f5 at *
      refine pkZ Tryz.func138 hc (lSa p fr w.1 w.2 S.1 S.2 f1 f2 f3 f4 f6 f5) ?_
      and_intros
      all_goals (first | exact zN | (exact c1) | (exact c2) | (exact c3) | (exact c4) | (exact c5) | (exact c6) | (exact c7) | (exact c8) | (exact c9) | (exact c10) | (exact hd) | (simp only [ByteArray.size_append,kBars_z,kFree_z,kSteady_z,kWorst_z,kDrops_z,kDash_z];omega))
open Go
def xdGrp:ByteArray:=⟨#[103,114,111,117,112,115]⟩
def xsGrp:ByteArray:=⟨#[32,103,114,111,117,112,115,32]⟩
def xdRai:ByteArray:=⟨#[114,97,105,115,101]⟩
def xsRai:ByteArray:=⟨#[32,114,97,105,115,101,32]⟩
theorem plN (p:T_Pinned) :
    zS Tryz.f36 [rg 2,rm [(1,oc [] (.p (.bool false)))] 1,.dec true,rg 1] [pinA p] [] [] (.p (.str xE)) =
    some [(NT 0 1),zE 142 [(zf31 p)] [] (.p (.bool false)),((!false)=true),(ByteArray.mk #[]=xE)]:=by kernel_rfl
theorem plR (p:T_Pinned) (s1:ByteArray) (c:Nat) (G:Nat→T_IntS) (b1:Bool) (t1 s2:ByteArray) (r:Nat) (R:Nat→RzE) (b2:Bool) (t2 s3:ByteArray) :
    zS Tryz.f36 [rg 2,rm [(1,oc [] (.p (.bool true)))] 1,.dec false,rm [(1,oc [] (.p (.str s1)))] 1,rm [(1,oc [] (.tup [rsL c G,.p (.bool b1)]))] 5,rm [(3,oc [] (.p (.str t1))),(1,oc [] (.p (.str s2)))] 1,rm [(1,oc [] (.tup [rzL false r R,.p (.bool b2)]))] 5,rm [(3,oc [] (.p (.str t2))),(1,oc [] (.p (.str s3)))] 1] [pinA p] [] [] (.p (.str s3)) =
    some [(NT 0 1),zE 142 [(zf31 p)] [] (.p (.bool true)),((!true)=false),(NT 0 1),zE 143 [(zf31 p)] [] (.p (.str s1)),(NT 0 1),zE 144 [(zf31 p)] [] (.tup [.p (.seq false 1 c (fun i=>[.seq false 1 ((G i).1) (fun i_1=>[.int .i64 ((G i).2 i_1)])])),.p (.bool b1)]),zE 109 [.p (.seq true 1 c (fun i=>[.seq true 1 ((G i).1) (fun i_1=>[.int .i64 ((G i).2 i_1)])]))] [] (.p (.str t1)),(AN 1),(NL 2 2),zE 114 [.p (.str s1),.p (.bool b1),.p (.seq true 1 2 (fun i=>[(cellP true [(List.getD ([.p (.str (ByteArray.mk #[103,114,111,117,112,115])),.p (.str t1)]:List AV) (rowIx 2 i*1) (.p .any))] 0)]))] [] (.p (.str s2)),(NT 0 1),zE 145 [(zf31 p)] [] (.tup [.p (.seq false 2 r (fun i=>[.int .i64 ((R i).1),.seq false 1 ((R i).2.1) (fun i_1=>[.int .i64 ((R i).2.2 i_1)])])),.p (.bool b2)]),zE 146 [.p (.seq true 2 r (fun i=>[.int .i64 ((R i).1),.seq true 1 ((R i).2.1) (fun i_1=>[.int .i64 ((R i).2.2 i_1)])]))] [] (.p (.str t2)),(AN 1),(NL 2 2),zE 114 [.p (.str s2),.p (.bool b2),.p (.seq true 1 2 (fun i=>[(cellP true [(List.getD ([.p (.str (ByteArray.mk #[114,97,105,115,101])),.p (.str t2)]:List AV) (rowIx 2 i*1) (.p .any))] 0)]))] [] (.p (.str s3)),(s3=s3)]:=by kernel_rfl
theorem psN (p:T_Pinned) (s1:ByteArray) :
    zS Tryz.f34 [rg 2,rm [(1,oc [] (.p (.str s1)))] 1,rg 2,.dec true,rg 1] [pinA p] [] [] (.p (.str xE)) =
    some [(NT 0 1),zE 138 [(zf31 p)] [] (.p (.str s1)),((s1.toList==(ByteArray.mk #[]).toList)=true),(ByteArray.mk #[]=xE)]:=by kernel_rfl
theorem psTT (p:T_Pinned) (s1:ByteArray) (c:Nat) (G:Nat→T_IntS) (t1:ByteArray) (r:Nat) (R:Nat→RzE) (t2:ByteArray) :
    zS Tryz.f34 [rg 2,rm [(1,oc [] (.p (.str s1)))] 1,rg 2,.dec false,rm [(1,oc [] (.tup [rsL c G,.p (.bool true)]))] 5,rg 1,.dec true,rm [(3,oc [] (.p (.str t1)))] 2,rm [(1,oc [] (.tup [rzL false r R,.p (.bool true)]))] 5,rg 1,.dec true,rm [(3,oc [] (.p (.str t2)))] 2,rg 2] [pinA p] [] [] (.p (.str ((((s1++xsGrp)++t1)++xsRai)++t2))) =
    some [(NT 0 1),zE 138 [(zf31 p)] [] (.p (.str s1)),((s1.toList==(ByteArray.mk #[]).toList)=false),(NT 0 1),zE 139 [(zf31 p)] [] ((zf106 c G)),(true=true),(NL (s1.size+(ByteArray.mk #[32,103,114,111,117,112,115,32]).size) 9223372036854775807),zE 101 [.p (.seq true 1 c (fun i=>[.seq true 1 ((G i).1) (fun i_1=>[.int .i64 ((G i).2 i_1)])]))] [] (.p (.str t1)),(NL ((s1++ByteArray.mk #[32,103,114,111,117,112,115,32]).size+t1.size) 9223372036854775807),(NT 0 1),zE 140 [(zf31 p)] [] (.tup [.p (.seq false 2 r (fun i=>[.int .i64 ((R i).1),.seq false 1 ((R i).2.1) (fun i_1=>[.int .i64 ((R i).2.2 i_1)])])),.p (.bool true)]),(true=true),(NL ((s1++ByteArray.mk #[32,103,114,111,117,112,115,32]++t1).size+(ByteArray.mk #[32,114,97,105,115,101,32]).size) 9223372036854775807),zE 141 [.p (.seq true 2 r (fun i=>[.int .i64 ((R i).1),.seq true 1 ((R i).2.1) (fun i_1=>[.int .i64 ((R i).2.2 i_1)])]))] [] (.p (.str t2)),(NL ((s1++ByteArray.mk #[32,103,114,111,117,112,115,32]++t1++ByteArray.mk #[32,114,97,105,115,101,32]).size+t2.size) 9223372036854775807),(s1++ByteArray.mk #[32,103,114,111,117,112,115,32]++t1++ByteArray.mk #[32,114,97,105,115,101,32]++t2=s1++xsGrp++t1++xsRai++t2)]:=by kernel_rfl
theorem psTF (p:T_Pinned) (s1:ByteArray) (c:Nat) (G:Nat→T_IntS) (t1:ByteArray) (r:Nat) (R:Nat→RzE) :
    zS Tryz.f34 [rg 2,rm [(1,oc [] (.p (.str s1)))] 1,rg 2,.dec false,rm [(1,oc [] (.tup [rsL c G,.p (.bool true)]))] 5,rg 1,.dec true,rm [(3,oc [] (.p (.str t1)))] 2,rm [(1,oc [] (.tup [rzL false r R,.p (.bool false)]))] 5,rg 1,.dec false,rg 2] [pinA p] [] [] (.p (.str ((s1++xsGrp)++t1))) =
    some [(NT 0 1),zE 138 [(zf31 p)] [] (.p (.str s1)),((s1.toList==(ByteArray.mk #[]).toList)=false),(NT 0 1),zE 139 [(zf31 p)] [] ((zf106 c G)),(true=true),(NL (s1.size+(ByteArray.mk #[32,103,114,111,117,112,115,32]).size) 9223372036854775807),zE 101 [.p (.seq true 1 c (fun i=>[.seq true 1 ((G i).1) (fun i_1=>[.int .i64 ((G i).2 i_1)])]))] [] (.p (.str t1)),(NL ((s1++ByteArray.mk #[32,103,114,111,117,112,115,32]).size+t1.size) 9223372036854775807),(NT 0 1),zE 140 [(zf31 p)] [] (.tup [.p (.seq false 2 r (fun i=>[.int .i64 ((R i).1),.seq false 1 ((R i).2.1) (fun i_1=>[.int .i64 ((R i).2.2 i_1)])])),.p (.bool false)]),(false=false),(s1++ByteArray.mk #[32,103,114,111,117,112,115,32]++t1=s1++xsGrp++t1)]:=by kernel_rfl
theorem psFT (p:T_Pinned) (s1:ByteArray) (c:Nat) (G:Nat→T_IntS) (r:Nat) (R:Nat→RzE) (t2:ByteArray) :
    zS Tryz.f34 [rg 2,rm [(1,oc [] (.p (.str s1)))] 1,rg 2,.dec false,rm [(1,oc [] (.tup [rsL c G,.p (.bool false)]))] 5,rg 1,.dec false,rm [(1,oc [] (.tup [rzL false r R,.p (.bool true)]))] 5,rg 1,.dec true,rm [(3,oc [] (.p (.str t2)))] 2,rg 2] [pinA p] [] [] (.p (.str ((s1++xsRai)++t2))) =
    some [(NT 0 1),zE 138 [(zf31 p)] [] (.p (.str s1)),((s1.toList==(ByteArray.mk #[]).toList)=false),(NT 0 1),zE 139 [(zf31 p)] [] ((zf105 c G)),(false=false),(NT 0 1),zE 140 [(zf31 p)] [] (.tup [.p (.seq false 2 r (fun i=>[.int .i64 ((R i).1),.seq false 1 ((R i).2.1) (fun i_1=>[.int .i64 ((R i).2.2 i_1)])])),.p (.bool true)]),(true=true),(NL (s1.size+(ByteArray.mk #[32,114,97,105,115,101,32]).size) 9223372036854775807),zE 141 [.p (.seq true 2 r (fun i=>[.int .i64 ((R i).1),.seq true 1 ((R i).2.1) (fun i_1=>[.int .i64 ((R i).2.2 i_1)])]))] [] (.p (.str t2)),(NL ((s1++ByteArray.mk #[32,114,97,105,115,101,32]).size+t2.size) 9223372036854775807),(s1++ByteArray.mk #[32,114,97,105,115,101,32]++t2=s1++xsRai++t2)]:=by kernel_rfl
theorem psFF (p:T_Pinned) (s1:ByteArray) (c:Nat) (G:Nat→T_IntS) (r:Nat) (R:Nat→RzE) :
    zS Tryz.f34 [rg 2,rm [(1,oc [] (.p (.str s1)))] 1,rg 2,.dec false,rm [(1,oc [] (.tup [rsL c G,.p (.bool false)]))] 5,rg 1,.dec false,rm [(1,oc [] (.tup [rzL false r R,.p (.bool false)]))] 5,rg 1,.dec false,rg 2] [pinA p] [] [] (.p (.str s1)) =
    some (zD [(NT 0 1),zE 138 [(zf31 p)] [] (.p (.str s1)),((s1.toList==(ByteArray.mk #[]).toList)=false),zE 139 [(zf31 p)] [] ((zf105 c G)),(false=false),zE 140 [(zf31 p)] [] (.tup [.p (.seq false 2 r (fun i=>[.int .i64 ((R i).1),.seq false 1 ((R i).2.1) (fun i_1=>[.int .i64 ((R i).2.2 i_1)])])),.p (.bool false)]),(s1=s1)] [0,1,2,0,3,4,0,5,4,6]):=by kernel_rfl
def RzOk (n:Nat) (R:Nat→RzE):Prop:=n≤8∧∀ i,i<n→(R i).2.1≤15∧0≤(R i).1∧(R i).1<8∧∀ s,s<(R i).2.1→0≤(R i).2.2 s∧(R i).2.2 s<15
def rzT (R:Nat→RzE) (i:Nat):ByteArray:=(fmtI (R i).1++sCo)++nmB (R i).2
def frT5 (n:Nat) (R:Nat→RzE):ByteArray:=if n=0 then sNone else joinB sSp (rzT R) n
theorem rzT_size {n:Nat} {R:Nat→RzE} (h:RzOk n R) {i:Nat} (hi:i<n):(rzT R i).size≤400∧0<(rzT R i).size:=by
  have h1:=fmt_size (R i).1
  have h2:=nmB_size (R i).2
  have h3:=(h.2 i hi).1
  have h4:sCo.size=1:=rfl
  unfold rzT
  rw [ByteArray.size_append,ByteArray.size_append]
  omega
theorem frT5_size {n:Nat} {R:Nat→RzE} (h:RzOk n R):(frT5 n R).size≤4000:=by
  unfold frT5
  split
  · show 4≤_;omega
  · have:=joinB_size sSp (rzT R) 400 n (fun i hi=>(rzT_size h hi).1)
    have hz:sSp.size=1:=rfl
    have:=h.1
    have e:n*(400+sSp.size)≤8*(400+sSp.size):=Nat.mul_le_mul_right _ this
    omega
theorem con_FmtR_i {n:Nat} {R:Nat→RzE} (h:RzOk n R):zE 146 [rzL true n R] [] (.p (.str (frT5 n R))):=by
  refine csZ Tryz.func146 (fun c hc=>?_)
  by_cases h0:n=0
  · subst h0
    refine pkZ Tryz.func146 hc (fmn R) ?_
    and_intros
    all_goals (first | exact zN | rfl)
  · rw [show frT5 n R=joinB sSp (rzT R) n by unfold frT5;rw [if_neg h0]]
    have hn:=h.1
    have hd0:((n:Int)==0)=false:=beq_eq_false_iff_ne.2 (by omega)
    have cg:=con_glued n (rzT R) sSp 400 (by omega) (by omega) (by show 1≤1000;omega) (fun i hi=>(rzT_size h hi).1)
    generalize joinB sSp (rzT R) n=s at cg ⊢
    have lo:∀ d i,i+d=n→zR c 146 zf69 (fmS n R (rzT R) i) (Post c [] (.p (.str s))):=by
      intro d
      induction d with
      | zero =>
        intro i hi
        obtain rfl:i=n:=by omega
        have hd:decide ((i:Int)<(i:Int))=false:=decide_eq_false (by omega)
        refine pkZ Tryz.func146 hc (fme5 i R (rzT R) s) ?_
        and_intros
        all_goals (first | exact zN | (exact hd) | (exact cg) | (intro t ht;simp [All]))
      | succ d ih =>
        intro i hi
        have hd:decide ((i:Int)<(n:Int))=true:=decide_eq_true (by omega)
        obtain ⟨h1,h2,h3,h4⟩:=h.2 i (by omega)
        have cf:=con_FormatInt_i (R i).1 (by omega) (by omega)
        have cn:=con_numbers (R i).2 (by omega) (fun s hs=>by have:=h4 s hs;omega)
        have z1:=fmt_size (R i).1
        have z2:=nmB_size (R i).2
        have hz:(ByteArray.mk #[58]).size=1:=rfl
        have hrow:rzT R i=(fmtI (R i).1++sCo)++nmB (R i).2:=rfl
        generalize fmtI (R i).1=a at *
        generalize nmB (R i).2=b at *
        refine pcD hc (fma n R (rzT R) i a b) ?_ (ih (i+1) (by omega))
        and_intros
        all_goals (first | exact zI | (exact hd) | (exact cf) | (exact cn) | (intro t ht;rcases Nat.lt_or_eq_of_le (Nat.le_of_lt_succ ht) with h' | h'<;>(simp [h',hrow,sCo,cvtL,cvt,tg,tru,All];done)) | (simp only [ByteArray.size_append,hz];omega) | (intros;simp [All,ntAL,ntA,ntP,ntL];done) | (simp;done) | (simp;omega))
    refine pcD hc (fmz5 n R (rzT R)) ?_ (lo n 0 (by omega))
    and_intros
    iterate 2 all_goals (first | exact zN | (exact hd0) | (intro t ht;exact absurd ht (Nat.not_lt_zero _)) | (intros;simp [All,ntAL,ntA,ntP,ntL];done) | (simp;done) | (simp;omega) | simp only [All])
theorem con_FmtR_s {n:Nat} {R:Nat→RzE} (h:RzOk n R):zE 141 [rzL true n R] [] (.p (.str (frT5 n R))):=by
  refine csZ Tryz.func141 (fun c hc=>?_)
  have hn:=h.1
  generalize hF:rzT R=F
  have hFz:∀ i,i<n→(F i).size≤400∧0<(F i).size:=fun i hi=>by rw [← hF];exact rzT_size h hi
  have hsz:∀ k,k≤n→(joinB sSp F k).size≤k*401:=fun k hk=>joinB_size sSp F 400 k (fun i hi=>(hFz i (by omega)).1)
  have hz:(ByteArray.mk #[58]).size=1:=rfl
  have hz2:(ByteArray.mk #[44]).size=1:=rfl
  have hz3:(ByteArray.mk #[32]).size=1:=rfl
  have li:∀ i,i<n→∀ s:ByteArray,s.size≤5000→zR c 141 zf85 (fnS n R (s++nmB (R i).2) (i+1)) (Post c [] (.p (.str (frT5 n R)))) →
      ∀ d k,k+d=(R i).2.1→zR c 141 zf26 (fnT n R (s++joinB sC (fun j=>fmtI ((R i).2.2 j)) k) i k) (Post c [] (.p (.str (frT5 n R)))):=by
    intro i hi s hs hk d
    obtain ⟨g1,g2,g3,g4⟩:=h.2 i hi
    have hzz:∀ k,(joinB sC (fun j=>fmtI ((R i).2.2 j)) k).size≤k*22:=fun k=>joinB_size sC _ 21 k (fun j hj=>fmt_size _)
    induction d with
    | zero =>
      intro k hkn
      obtain rfl:k=(R i).2.1:=by omega
      have hd:decide (((R i).2.1:Int)<((R i).2.1:Int))=false:=by simp
      refine pcZ hc (fne5 n R _ i (R i).2.1) ?_ hk
      and_intros
      all_goals (first | exact zN | (exact hd) | (simp;done) | (simp;omega))
    | succ d ih =>
      intro k hkn
      have hd:decide ((k:Int)<((R i).2.1:Int))=true:=decide_eq_true (by omega)
      have hrec:=ih (k+1) (by omega)
      have hvk:=g4 k (by omega)
      have cf:=con_FormatInt_s ((R i).2.2 k) (by omega) (by omega)
      have h1:=hzz k
      have h2:=fmt_size ((R i).2.2 k)
      by_cases h0:0<k
      · have hg:decide ((k:Int)>0)=true:=decide_eq_true (by omega)
        rw [joinB_pos sC _ h0,← ByteArray.append_assoc,← ByteArray.append_assoc] at hrec
        generalize joinB sC (fun j=>fmtI ((R i).2.2 j)) k=q at hrec h1 ⊢
        refine pcZ hc (fnc n R (s++q) i k (fmtI ((R i).2.2 k))) ?_ hrec
        and_intros
        all_goals (first | exact zN | (exact hd) | (exact hg) | (exact cf) | (simp only [ByteArray.size_append,hz2];omega) | (simp;done) | (simp;omega))
      · obtain rfl:k=0:=by omega
        have hg:decide (((0:Nat):Int)>0)=false:=by simp
        rw [joinB_one,sE_app] at hrec
        rw [joinB_0,app_sE]
        refine pcZ hc (fnd5 n R s i 0 (fmtI ((R i).2.2 0))) ?_ hrec
        and_intros
        all_goals (first | exact zN | (exact hd) | (exact hg) | (exact cf) | (simp;done) | (simp;omega))
  have lo:∀ d i,i+d=n→zR c 141 zf85 (fnS n R (joinB sSp F i) i) (Post c [] (.p (.str (frT5 n R)))):=by
    intro d
    induction d with
    | zero =>
      intro i hi
      obtain rfl:i=n:=by omega
      have hd:decide ((i:Int)<(i:Int))=false:=by simp
      have hs:=str_nil (joinB sSp F i)
      by_cases h0:i=0
      · rw [show frT5 i R=sNone by unfold frT5;rw [if_pos h0]]
        rw [decide_eq_true (by rw [h0];rfl)] at hs
        refine pkZ Tryz.func141 hc (fnf5 i R _ i) ?_
        and_intros
        all_goals (first | exact zN | (exact hd) | (exact hs))
      · rw [show frT5 i R=joinB sSp F i by unfold frT5;rw [if_neg h0,hF]]
        have hp:0<(joinB sSp F i).size:=by
          obtain ⟨m,rfl⟩:∃ m,i=m+1:=⟨i - 1,by omega⟩
          simp only [joinB]
          rw [ByteArray.size_append]
          have h3:=hFz m (by omega)
          omega
        rw [decide_eq_false (by omega)] at hs
        refine pkZ Tryz.func141 hc (fng i R _ i) ?_
        and_intros
        all_goals (first | exact zN | (exact hd) | (exact hs))
    | succ d ih =>
      intro i hi
      have hd:decide ((i:Int)<(n:Int))=true:=decide_eq_true (by omega)
      have hrec:=ih (i+1) (by omega)
      have h1:=hsz i (by omega)
      obtain ⟨g1,g2,g3,g4⟩:=h.2 i (by omega)
      have cf:=con_FormatInt_s (R i).1 (by omega) (by omega)
      have hfz:=fmt_size (R i).1
      have hFi:F i=(fmtI (R i).1++sCo)++nmB (R i).2:=by rw [← hF];rfl
      by_cases h0:0<i
      · have hg:decide ((i:Int)>0)=true:=decide_eq_true (by omega)
        rw [joinB_pos sSp F h0,hFi] at hrec
        rw [show (joinB sSp F i++sSp)++((fmtI (R i).1++sCo)++nmB (R i).2)=(((joinB sSp F i++sSp)++fmtI (R i).1)++sCo)++nmB (R i).2 by simp only [ByteArray.append_assoc]] at hrec
        have hnx:=li i (by omega) (((joinB sSp F i++sSp)++fmtI (R i).1)++sCo) (by rw [ByteArray.size_append,ByteArray.size_append,ByteArray.size_append];show _+1+_+1≤_;omega) hrec (R i).2.1 0 (by omega)
        rw [joinB_0,app_sE] at hnx
        generalize joinB sSp F i=q at hnx h1 ⊢
        generalize fmtI (R i).1=x at *
        refine pcZ hc (fna n R q i x) ?_ hnx
        and_intros
        all_goals (first | exact zN | (exact hd) | (exact hg) | (exact cf) | (simp only [ByteArray.size_append,hz,hz3];omega) | (simp;done) | (simp;omega))
      · obtain rfl:i=0:=by omega
        have hg:decide (((0:Nat):Int)>0)=false:=by simp
        rw [joinB_one,hFi,sE_app] at hrec
        have hnx:=li 0 (by omega) (fmtI (R 0).1++sCo) (by rw [ByteArray.size_append];show _+1≤_;omega) hrec (R 0).2.1 0 (by omega)
        rw [joinB_0,app_sE] at hnx
        rw [joinB_0]
        generalize fmtI (R 0).1=x at *
        have hsE:sE.size=0:=rfl
        refine pcZ hc (fnb n R sE 0 x) ?_ (by rw [sE_app];exact hnx)
        and_intros
        all_goals (first | exact zN | (exact hd) | (exact hg) | (exact cf) | (simp only [ByteArray.size_append,hz,hsE];omega) | (show (ByteArray.mk #[]).size+_≤_;show 0+_≤_;omega) | (simp;done) | (simp;omega))
  refine pcZ hc (fnz5 n R) ?_ (lo n 0 (by omega))
  and_intros
  all_goals (first | exact zN | (simp;done) | (simp;omega))
theorem il_size (p:T_Pinned):(ilB p).size≤1000∧((ilB p).size=0↔pinnedF p=false):=by
  have f1:=fmt_size (p.1.2.1.1:Int)
  have f2:=fmt_size (frG p)
  have f3:=fmt_size ((sdR p).1:Int)
  have f4:=fmt_size (wbD p p.1.2.1.1).2
  have f5:=fmt_size (p.1.2.1.2 (wbD p p.1.2.1.1).1.toNat).1
  have f6:=fmt_size (p.1.2.1.2 (wbD p p.1.2.1.1).1.toNat).2.1
  have k1:kBars.size=5:=rfl
  have k2:kFree.size=9:=rfl
  have k3:kSteady.size≤20:=by decide
  have k4:kWorst.size≤20:=by decide
  have k5:kDrops.size≤20:=by decide
  have k6:kDash.size≤20:=by decide
  unfold ilB
  cases hp:pinnedF p with
  | false =>
    rw [if_neg Bool.false_ne_true]
    exact ⟨Nat.zero_le _,fun _=>rfl,fun _=>rfl⟩
  | true =>
    rw [if_pos rfl]
    split
    · simp only [ByteArray.size_append]
      refine ⟨by omega,fun h=>by omega,fun h=>by cases h⟩
    · have f7:=enB_size (p.1.2.1.2 (wbD p p.1.2.1.1).1.toNat)
      simp only [ByteArray.size_append]
      refine ⟨by omega,fun h=>by omega,fun h=>by cases h⟩
theorem og_rows {p:T_Pinned} (hb:owB p=true):∀ n,n≤(asG p).1→(ogS p (asG p).1 (asG p).2 n).1.1=n∧∀ i,i<n→∃ s,s<(asG p).1∧(ogS p (asG p).1 (asG p).2 n).1.2 i=(asG p).2 s
  | 0,_=>⟨rfl,fun i hi=>absurd hi (Nat.not_lt_zero _)⟩
  | n+1,h=>by
    obtain ⟨rp,hg⟩:=as_gr hb
    have ih:=og_rows hb n (by omega)
    obtain ⟨ix,hi⟩:=og_all hb hg n (by omega)
    obtain ⟨j,hj,ej,_,_,_⟩:=og_round hb hg (show n<(asG p).1 by omega) hi
    have hjc:=(hi.lf.un j hj).1
    rw [ogS]
    refine ⟨by show _+1=n+1;rw [ih.1],fun i hi'=>?_⟩
    show ∃ s,s<(asG p).1∧snR5 _ _ _ i=_
    unfold snR5
    rw [ih.1]
    by_cases e:i<n
    · rw [if_pos e];exact ih.2 i e
    · rw [if_neg e];exact ⟨_,by rw [← ej];exact hjc,rfl⟩
theorem ogF_in (p:T_Pinned):(ogF p).1≤8∧∀ i,i<(ogF p).1→((ogF p).2 i).1≤8∧In64 ((ogF p).2 i):=by
  unfold ogF
  by_cases hb:owB p=true
  · rw [if_pos hb]
    have io:=in_ok (ow_pin hb)
    obtain ⟨ok,hL,ho⟩:=ow_ok hb
    have hN:=ok.N
    obtain ⟨rp,hg⟩:=as_gr hb
    have h:=og_rows hb (asG p).1 (Nat.le_refl _)
    have hcm:=hg.cm
    have hn8:=io.n
    rw [h.1]
    refine ⟨by omega,fun i hi=>?_⟩
    obtain ⟨s,hs,e⟩:=h.2 i hi
    rw [e]
    refine ⟨by have:=(hg.pos s hs).2;omega,fun k hk=>?_⟩
    obtain ⟨l,hl,e2⟩:=hg.only s (((asG p).2 s).2 k) hs ((hasI_ex _ _ _).2 ⟨k,hk,rfl⟩)
    have:=io.rn l hl
    omega
  · rw [if_neg hb]
    exact ⟨Nat.zero_le _,fun i hi=>absurd hi (Nat.not_lt_zero _)⟩
theorem frF_in (p:T_Pinned):RzOk (frF p).1 (frF p).2:=by
  unfold frF
  by_cases ho:frOk p=true
  · rw [if_pos ho]
    have hp:pinnedF p=true:=by
      cases hp:pinnedF p with
      | true=>rfl
      | false=>unfold frOk at ho;rw [hp] at ho;cases ho
    have h:=rz_ok hp (inrP p).1
    have io:=in_ok hp
    have hN:=(pin_ok hp).N
    have hn8:=io.n
    have h1:=h.cnt
    have h2:=h.le
    refine ⟨by omega,fun i hi=>?_⟩
    obtain ⟨g1,g2,g3,g4⟩:=h.rz i hi
    exact ⟨g1,g2,by omega,g4⟩
  · rw [if_neg ho]
    exact ⟨Nat.zero_le _,fun i hi=>absurd hi (Nat.not_lt_zero _)⟩
theorem og_size (p:T_Pinned):(fsB (ogF p).1 (ogF p).2).size≤2000:=by
  have h:=ogF_in p
  unfold fsB
  split
  · show 4≤_;omega
  · have:=joinB_size sSp (fun i=>stB ((ogF p).2 i)) 178 (ogF p).1 (fun i hi=>by have:=(stB_size ((ogF p).2 i)).1;have:=(h.2 i hi).1;show (stB ((ogF p).2 i)).size≤178;omega)
    have hz:sSp.size=1:=rfl
    have e:(ogF p).1*(178+sSp.size)≤8*(178+sSp.size):=Nat.mul_le_mul_right _ h.1
    omega
noncomputable def plF5 (p:T_Pinned):ByteArray :=
  let s:=if owB p=true then (ilB p++xsGrp)++fsB (ogF p).1 (ogF p).2 else ilB p
  if pinnedF p=true then (if frOk p=true then (s++xsRai)++frT5 (frF p).1 (frF p).2 else s) else xE
theorem con_PinLine_i (p:T_Pinned) (hs:smS s_Pinned p):zE 36 [pinA p] [] (.p (.str (plF5 p))):=by
  have c1:=con_IsPinned_i p hs
  unfold plF5
  cases hp:pinnedF p with
  | false =>
    rw [hp] at c1
    show Con _ _ _ _ _ _ (.p (.str xE))
    refine csZ Tryz.func36 (fun c hc=>?_)
    refine pkZ Tryz.func36 hc (plN p) ?_
    and_intros
    all_goals (first | exact zN | (exact c1) | rfl)
  | true =>
    rw [hp] at c1
    have c2:=con_Inspect_i p hs
    have c3:=con_Order_i p hs
    have hog:=ogF_in p
    have c4:=con_FormatSets_i (ogF p).1 (ogF p).2 (by omega) (fun i hi=>by have:=hog.2 i hi;exact ⟨by omega,this.2⟩)
    have c5:=con_Raising_i p hs
    have c6:=con_FmtR_i (frF_in p)
    have z1:=(il_size p).1
    have z2:=og_size p
    have z3:=frT5_size (frF_in p)
    show Con _ _ _ _ _ _ (.p (.str (if frOk p=true then ((if owB p=true then (ilB p++xsGrp)++fsB (ogF p).1 (ogF p).2 else ilB p)++xsRai)++frT5 (frF p).1 (frF p).2 else (if owB p=true then (ilB p++xsGrp)++fsB (ogF p).1 (ogF p).2 else ilB p))))
    generalize fsB (ogF p).1 (ogF p).2=t1 at *
    generalize frT5 (frF p).1 (frF p).2=t2 at *
    generalize ilB p=s1 at *
    generalize (ogF p).1=cg at *
    generalize (ogF p).2=G at *
    generalize (frF p).1=r at *
    generalize (frF p).2=Q at *
    generalize owB p=b1 at *
    generalize frOk p=b2 at *
    have hl1:=con_ifSo_2 s1 b1 xdGrp t1 (by omega) (by show 6≤_;omega) (by omega)
    have e1:s1++(((sSp++xdGrp)++sSp)++t1)=(s1++xsGrp)++t1:=by
      rw [show xsGrp=(sSp++xdGrp)++sSp from rfl];simp only [ByteArray.append_assoc]
    rw [e1] at hl1
    have z4:(if b1=true then (s1++xsGrp)++t1 else s1).size≤4000:=by
      split
      · simp only [ByteArray.size_append];show s1.size+8+t1.size≤_;omega
      · omega
    generalize (if b1=true then (s1++xsGrp)++t1 else s1)=s2 at *
    have hl2:=con_ifSo_2 s2 b2 xdRai t2 (by omega) (by show 5≤_;omega) (by omega)
    have e2:s2++(((sSp++xdRai)++sSp)++t2)=(s2++xsRai)++t2:=by
      rw [show xsRai=(sSp++xdRai)++sSp from rfl];simp only [ByteArray.append_assoc]
    rw [e2] at hl2
    generalize (if b2=true then (s2++xsRai)++t2 else s2)=s3 at *
    refine csZ Tryz.func36 (fun c hc=>?_)
    refine pkZ Tryz.func36 hc (plR p s1 cg G b1 t1 s2 r Q b2 t2 s3) ?_
    and_intros
    all_goals (first | exact zN | (exact c1) | (exact c2) | (exact c3) | (exact c4) | (exact c5) | (exact c6) | (exact hl1) | (exact hl2) | (intros;simp [All,ntAL,ntA,ntP,ntL];done) | (simp;done))
theorem con_PinLine_s (p:T_Pinned) (hs:smS s_Pinned p):zE 34 [pinA p] [] (.p (.str (plF5 p))):=by
  have c2:=con_Inspect_s p hs
  have hzero:=str_nil (ilB p)
  have hz0:=(il_size p).2
  unfold plF5
  cases hp:pinnedF p with
  | false =>
    rw [decide_eq_true (hz0.2 hp)] at hzero
    show Con _ _ _ _ _ _ (.p (.str xE))
    refine csZ Tryz.func34 (fun c hc=>?_)
    refine pkZ Tryz.func34 hc (psN p (ilB p)) ?_
    and_intros
    all_goals (first | exact zN | (exact c2) | (exact hzero) | rfl)
  | true =>
    rw [decide_eq_false (fun h=>by rw [hz0.1 h] at hp;cases hp)] at hzero
    have c3:=con_Order_s p hs
    have hog:=ogF_in p
    have c4:=con_FormatSets_s (ogF p).1 (ogF p).2 (by omega) (fun i hi=>by have:=hog.2 i hi;exact ⟨by omega,this.2⟩)
    have c5:=con_Raising_s p hs
    have c6:=con_FmtR_s (frF_in p)
    have z1:=(il_size p).1
    have z2:=og_size p
    have z3:=frT5_size (frF_in p)
    have k1:(ByteArray.mk #[32,103,114,111,117,112,115,32]).size=8:=rfl
    have k2:(ByteArray.mk #[32,114,97,105,115,101,32]).size=7:=rfl
    show Con _ _ _ _ _ _ (.p (.str (if frOk p=true then ((if owB p=true then (ilB p++xsGrp)++fsB (ogF p).1 (ogF p).2 else ilB p)++xsRai)++frT5 (frF p).1 (frF p).2 else (if owB p=true then (ilB p++xsGrp)++fsB (ogF p).1 (ogF p).2 else ilB p))))
    generalize fsB (ogF p).1 (ogF p).2=t1 at *
    generalize frT5 (frF p).1 (frF p).2=t2 at *
    generalize ilB p=s1 at *
    generalize (ogF p).1=cg at *
    generalize (ogF p).2=G at *
    generalize (frF p).1=r at *
    generalize (frF p).2=Q at *
    generalize owB p=b1 at *
    generalize frOk p=b2 at *
    refine csZ Tryz.func34 (fun c hc=>?_)
    cases b1 with
    | true =>
      cases b2 with
      | true =>
        refine pkZ Tryz.func34 hc (psTT p s1 cg G t1 r Q t2) ?_
        and_intros
        all_goals (first | exact zN | (exact c2) | (exact hzero) | (exact c3) | (exact c4) | (exact c5) | (exact c6) | (simp only [ByteArray.size_append,k1,k2];omega) | (intros;simp [All,ntAL,ntA,ntP,ntL];done) | (simp;done))
      | false =>
        refine pkZ Tryz.func34 hc (psTF p s1 cg G t1 r Q) ?_
        and_intros
        all_goals (first | exact zN | (exact c2) | (exact hzero) | (exact c3) | (exact c4) | (exact c5) | (simp only [ByteArray.size_append,k1,k2];omega) | (intros;simp [All,ntAL,ntA,ntP,ntL];done) | (simp;done))
    | false =>
      cases b2 with
      | true =>
        refine pkZ Tryz.func34 hc (psFT p s1 cg G r Q t2) ?_
        and_intros
        all_goals (first | exact zN | (exact c2) | (exact hzero) | (exact c3) | (exact c5) | (exact c6) | (simp only [ByteArray.size_append,k1,k2];omega) | (intros;simp [All,ntAL,ntA,ntP,ntL];done) | (simp;done))
      | false =>
        refine pkD Tryz.func34 hc (psFF p s1 cg G r Q) ?_
        and_intros
        all_goals (first | exact zN | (exact c2) | (exact hzero) | (exact c3) | (exact c5) | (simp only [ByteArray.size_append,k1,k2];omega) | (intros;simp [All,ntAL,ntA,ntP,ntL];done) | (simp;done))
theorem p_FnExactPinnedLine_0 (v0:T_Pinned) :
    zS Tryz.f7 [rg 2,rg 1,rm [(2,oc [] (.p (.int .i64 (f_szPinned v0 1048576))))] 1,rg 2,.dec true,rg 1] [(zf31 v0)] [] [] (.p (.bool true)) =
    some [(NT 0 1),zE 33 [(zf31 v0),.p (.int .i64 1048576)] [] (.p (.int .i64 (f_szPinned v0 1048576))),((decide (f_szPinned v0 1048576<0))=true),(true=true)]:=by kernel_rfl
theorem p_FnExactPinnedLine_e (v0:T_Pinned) :
    zS Tryz.f7 [rg 2,rg 1,rm [(2,oc [] (.p (.int .i64 (f_szPinned v0 1048576))))] 1,rg 2,.dec false,rm [(1,oc (zf42 v0) (zf117 v0)),(0,oc [] (.p (.str (plF5 v0))))] 1,rm [(1,oc (zf42 v0) (zf117 v0))] 2,rm [(1,oc [] (.p (.str (plF5 v0))))] 1,rg 3,.dec false,rm [(2,oc (zf42 v0) (zf117 v0)),(0,oc [] (.p (.bool true)))] 1,.dec false,rg 1] [(zf31 v0)] [] [] (.p (.bool true)) =
    some (zD [(NT 0 1),zE 33 [(zf31 v0),.p (.int .i64 1048576)] [] (.p (.int .i64 (f_szPinned v0 1048576))),((decide (f_szPinned v0 1048576<0))=false),zE 35 [(zf31 v0)] (zf41 v0) ((zf117 v0)),(AN 2),(NL v0.1.2.1.1 v0.1.2.1.1),(AN 1),(NL v0.2.1.1 v0.2.1.1),zE 34 [(zf31 v0)] [] (.p (.str (plF5 v0))),((true=true)→ (AN 1)),zE 36 [(zf31 v0)] [] (.p (.str (plF5 v0))),((!(plF5 v0).toList==(plF5 v0).toList)=false),zE 37 [(zf31 v0),(zf31 v0)] [] (.p (.bool true)),((!true)=false),(true=true)] [0,1,2,0,3,4,5,6,7,8,0,3,0,9,0,4,5,6,7,10,11,0,0,3,4,5,6,7,4,5,6,7,12,13,14]):=by kernel_rfl
theorem con_law_FnExactPinnedLine (v0:T_Pinned) (k0:okS s_Pinned v0):zE 7 [(zf31 v0)] [] (.p (.bool true)):=by
  refine csZ Tryz.func7 (fun c hc=>?_)
  have l0:=le_szPinned v0 1048576 (by omega)
  by_cases g0:(f_szPinned v0 1048576)<0
  · refine pkZ Tryz.func7 hc (p_FnExactPinnedLine_0 v0) ?_
    and_intros
    all_goals (first | exact zN | (exact con_szPinned v0 k0 _ (by omega) (by omega)) | (simp;omega))
  have hs0:=sm_szPinned v0 1048576 (by omega) (by omega) g0
  refine pkD Tryz.func7 hc (p_FnExactPinnedLine_e v0) ?_
  and_intros
  all_goals (first | exact zI | (exact con_szPinned v0 k0 _ (by omega) (by omega)) | (exact con_toPinned v0 hs0) | (exact con_PinLine_s v0 hs0) | (exact con_PinLine_i v0 hs0) | (exact con_eqPinned v0 hs0) | (simp;try omega))
end Go.Proofs.YtkkjoghiigiokaaGreat.Mach
