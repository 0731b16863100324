/- What the law Pr needs, part 3 of 4: the abstract machine and the contracts of the functions. Conditions: as each theorem says. -/
import Derived.Shelf.SlGeneric
import Derived.Ground.SlgmProg
import Derived.Ground.SlgnProg
import Derived.Shelf.SortM.Plain
import Derived.Shelf.SortM.SortNone
import Derived.Shelf.SlicesG.CompactI
import Derived.Shelf.SlLaysF0
import Derived.Shelf.SlSortCmp.InsertionK
import Derived.Ground.SlsfProg
import Derived.Test.YtgabljneilgilaaPrP2
namespace Go.Proofs
open Go Go.Shelf Go.RowKit Go.Lib Go.Sort
set_option linter.unusedVariables false
set_option linter.unusedSimpArgs false
shelf_lay_g SlLaysM.n5 Slgm 5 at Try 95 as Try.sortInt
shelf_lay_g SlLaysN.n43 Slgn 43 at Try 96 as Try.compInt
end Go.Proofs
namespace Go.Proofs.Ytgabljneilgilaa.Mach
open Go Go.Shelf Go.RowKit Go.Lib Go.Sort
set_option linter.unusedVariables false
set_option linter.unusedSimpArgs false
def numOb (n:Nat) (h:Nat→Int):Ob:=⟨false,1,n,fun i=>[.p (.int .i64 (h i))]⟩
def lstI (n:Nat) (h:Nat→Int):List Int:=(List.range n).map h
def srtI (l:List Int):List Int:=l.mergeSort fun x y=>decide (x≤y)
def atI (l:List Int) (i:Nat):Int:=l.getD i 0
theorem lstI_len (n:Nat) (h:Nat→Int):(lstI n h).length=n:=by simp [lstI]
theorem srtI_len (l:List Int):(srtI l).length=l.length:=by simp [srtI]
theorem putRow_id (w:World) (b base:Nat) (l:List Int):putRow (Value.int .i64) w b base l.toArray=putRow id w b base (l.map (Value.int .i64)).toArray:=by
  unfold putRow
  congr 1
  funext c
  unfold putCells
  congr 1
  funext k x
  have e1:l.toArray.size=(l.map (Value.int .i64)).toArray.size:=by simp
  rw [← e1]
  split
  · rename_i h
    have hk:k - base<l.length:=by have:=h.2;simp at this;omega
    rw [getElem!_pos _ _ (by simpa using hk),getElem!_pos _ _ (by simpa using hk)]
    simp
  · rfl
theorem int_cell {w:World} {β:Id→Option Addr} {own:Bool→Nat→Prop} {x:Int} {v:Value} (h:VR w β own (.p (.int .i64 x)) v):v=.int .i64 x:=vr_int h
theorem row_holds {w:World} {β:Id→Option Addr} {own:Bool→Nat→Prop} {n b base:Nat} {h:Nat→Int} {cells:Array Value} {el:TypeId} (hh:w.heap[b]? = some (.cells cells el (0,0)))
    (hrw:∀ i,i<n→∃ v,cells[base+i]? = some v∧One v∧VR w β own (.p (.int .i64 (h i))) v) (hpos:0<n) :
    Holds (Value.int .i64) w b base (lstI n h).toArray∧base+n≤cells.size:=by
  have hcell:∀ i,i<n→cells[base+i]? = some (.int .i64 (h i)):=by
    intro i hi
    obtain ⟨u,hu1,hu2,hu3⟩:=hrw i hi
    have:=int_cell (x:=h i) hu3
    subst this
    exact hu1
  refine ⟨fun t ht=>?_,?_⟩
  · have ht':t<n:=by simpa [lstI] using ht
    refine ⟨?_,by simp [World.frozen?,hh]⟩
    simp only [World.cell?,hh]
    rw [hcell t ht',getElem!_pos (lstI n h).toArray t ht]
    simp [lstI]
  · have:=hcell (n - 1) (by omega)
    rcases Nat.lt_or_ge (base+(n - 1)) cells.size with h' | h'
    · omega
    · rw [Array.getElem?_eq_none h'] at this;cases this
theorem con_rowI (f:FuncId) (hen:enterable Try.prog f=true) (n:Nat) (h:Nat→Int) (l:List Int) (hl:l.length=n) (res:AV)
    (h0:n=0→∀ (w:World) (p:Option Addr) (cp:Nat),Calls Try.prog f #[.slice p 0 cp] w fun e w'=>(∃ v,e=.returned v∧((∀ (w:World) (β:Id→Option Addr) (own:Bool→Nat→Prop),VR w β own res v)∨(v=.slice p 0 cp∧res=.ar 1 0 0 0)))∧w'=w)
    (h1:0<n→∀ (w:World) (b base c:Nat),n≤c→b<w.heap.size→Holds (Value.int .i64) w b base (lstI n h).toArray →
      Calls Try.prog f #[.slice (some ⟨b,base,none⟩) n c] w fun e w'=>(∃ v q os,e=.returned v∧w'=grow (putRow (Value.int .i64) (Sort.ahead w q) b base l.toArray) os ∧
        ∀ (w:World) (β:Id→Option Addr) (own:Bool→Nat→Prop) (cells:Array Value) (el:TypeId),β 0=some ⟨b,base,none⟩→w.heap[b]? = some (.cells cells el (0,0))→base+c≤cells.size→VR w β own res v)) :
    Con Try.prog f 1 [(0,numOb n h)] [.ar 1 0 0 n] [(0,numOb n (atI l))] res:=by
  refine ⟨hen,fun w β X vals hX hH hS hd hlen ha=>?_⟩
  obtain ⟨v0,rfl⟩:∃ v0,vals = #[v0]:=by
    rcases vals with ⟨l⟩
    match l,hlen with
    | [a],_=>exact ⟨a,rfl⟩
  have hv0:VR w β (ow X β [(0,numOb n h)]) (.ar 1 0 0 n) v0:=ha 0 (by simp)
  rcases Nat.eq_zero_or_pos n with rfl | hpos
  · obtain ⟨p,cap,rfl⟩:∃ p cap,v0=.slice p 0 cap:=by
      cases hv0 with
      | ar0=>exact ⟨_,_,rfl⟩
      | ar=>exact ⟨_,_,rfl⟩
    refine (h0 rfl w p cap).mono ?_
    rintro e w' ⟨⟨v,rfl,hv⟩,rfl⟩
    have hv':VR w' β (fr X β [(0,numOb 0 (atI l))]) res v:=by
      rcases hv with hv | ⟨rfl,rfl⟩
      · exact hv _ _ _
      · cases hv0 with
        | ar0=>exact .ar0 _ _ _ _
        | ar _ _ _ _ b base c cells elem fr' hβ hh hsz hc=>exact .ar _ _ _ _ b base _ cells elem fr' hβ hh hsz hc
    refine ⟨_,β,rfl,?_,?_,hv',?_,fun o a h=>h,fun b' h'=>.inl ?_,fun k h=>.inl h⟩
    · intro o ob hl
      obtain ⟨rfl,rfl⟩:=look_one hl
      rcases hH 0 _ (lk_one _) with ⟨hb,_⟩ | ⟨b,base,cells,el,hβ,hh,_⟩ | hm
      · exact .inl ⟨hb,rfl⟩
      · exact .inr (.inl ⟨b,base,cells,el,hβ,hh,fun i hi=>absurd hi (Nat.not_lt_zero _)⟩)
      · exact absurd hm.2.1 (by simp [numOb])
    · intro o o' ob ob' a a' h1 h2 h3 h4 h5
      obtain ⟨rfl,rfl⟩:=look_one h1
      obtain ⟨rfl,rfl⟩:=look_one h2
      rfl
    · rw [ow_one X β (numOb 0 (atI l)) (numOb 0 h)]
      exact Ext.refl _ _
    · rw [own_one _ _ _ rfl] at h' ⊢;exact h'
  · cases hv0 with
    | ar0=>exact absurd hpos (Nat.lt_irrefl 0)
    | ar _ _ _ _ b base c cells elem fr' hβ hh hsz hc =>
      rcases hH 0 _ (lk_one _) with ⟨hb,_⟩ | ⟨b',base',cells',el',hβ',hh',hrw⟩ | hm
      · rw [hb] at hβ;cases hβ
      · rw [hβ] at hβ'
        injection hβ' with hβ'
        injection hβ' with i1 i2 _
        subst i1;subst i2
        rw [hh] at hh'
        injection hh' with hh'
        injection hh' with i1 i2 i3
        subst i1;subst i2;subst i3
        have hrw':∀ i,i<n→∃ v,cells[base+i]? = some v∧One v∧VR w β (ow X β [(0,numOb n h)]) (.p (.int .i64 (h i))) v:=by
          intro i hi
          obtain ⟨v,k1,k2,k3⟩:=hrw i hi 0 (by simp [numOb])
          have e:base+(i*(numOb n h).z+0)=base+i:=by simp [numOb]
          exact ⟨v,by rw [← e];exact k1,k2,k3⟩
        obtain ⟨hHo,hend⟩:=row_holds (n:=n) (h:=h) hh hrw' hpos
        have hblk:b<w.heap.size:=by
          rcases Nat.lt_or_ge b w.heap.size with h' | h'
          · exact h'
          · rw [Array.getElem?_eq_none h'] at hh;cases hh
        have hcon:=h1 hpos w b base c hc hblk hHo
        rw [show base+0*1=base by omega]
        refine hcon.mono ?_
        rintro e w' ⟨v,q,os,rfl,rfl,hv⟩
        rw [putRow_id]
        refine sW_post (F:=(l.map (Value.int .i64)).toArray) hβ hh hS (by simpa using hend) (by simp [hl]) (fun i hi j hj=>?_) (fun own=>hv _ _ _ _ _ hβ (sW_at hh) (by rw [putCells_size];omega))
        obtain rfl:j=0:=by omega
        have e:((l.map (Value.int .i64)).toArray)[i*1+0]! = .int .i64 (atI l i):=by
          rw [getElem!_pos _ _ (by simp [hl];omega)]
          simp [atI,List.getD_eq_getElem?_getD,List.getElem?_eq_getElem (show i<l.length by omega)]
        rw [e]
        exact ⟨rfl,fun w' own=>.p _ _ (.int _ _)⟩
      · exact absurd hm.2.1 (by simp [numOb])
theorem con_SortI (n:Nat) (h:Nat→Int) (hn:n≤1048576) :
    Con Try.prog 95 1 [(0,numOb n h)] [.ar 1 0 0 n] [(0,numOb n (atI (srtI (lstI n h))))] (.tup []):=by
  have hnil:∀ (w:World) (β:Id→Option Addr) (own:Bool→Nat→Prop),VR w β own (.tup []) (.tuple #[]):=fun w' β own=>.tup [] #[] rfl (fun j hj=>absurd hj (Nat.not_lt_zero _))
  refine con_rowI _ (by kernel_rfl) n h _ (by rw [srtI_len,lstI_len]) _ (fun h0 w p cap=>?_) (fun hpos w b base c hc hb hH=>?_)
  · refine (AnyM.slices_Sort_int_none (P:=Try.prog) Try.sortInt p cap w).mono ?_
    rintro e w' ⟨rfl,rfl⟩
    exact ⟨⟨_,rfl,.inl hnil⟩,rfl⟩
  · have hcon:=AnyM.slices_Sort_int (P:=Try.prog) Try.sortInt b base c (lstI n h) w hH hb (by rw [lstI_len];omega)
    rw [lstI_len] at hcon
    change Calls Try.prog 95 _ _ _ at hcon
    refine hcon.mono ?_
    rintro e w' ⟨rfl,q,os,rfl⟩
    exact ⟨_,q,os,rfl,rfl,fun w β own _ _ _ _ _=>hnil _ _ _⟩
def cpI (l:List Int):List Int:=Lib.compact l
def cpZ (l:List Int):List Int:=Lib.compact l++List.replicate (l.length - (Lib.compact l).length) 0
theorem con_CompI (n:Nat) (h:Nat→Int) (hn:n≤1048576) (hle:(cpI (lstI n h)).length≤n) :
    Con Try.prog 96 1 [(0,numOb n h)] [.ar 1 0 0 n] [(0,numOb n (atI (cpZ (lstI n h))))] (.ar 1 0 0 (cpI (lstI n h)).length):=by
  have hz:(cpZ (lstI n h)).length=n:=by
    unfold cpZ cpI at *
    rw [List.length_append,List.length_replicate,lstI_len];omega
  refine con_rowI _ (by kernel_rfl) n h _ hz _ (fun h0 w p cap=>?_) (fun hpos w b base c hc hb hH=>?_)
  · subst h0
    refine (AnyG.slices_Compact_int_empty (P:=Try.prog) Try.compInt p cap w).mono ?_
    rintro e w' ⟨rfl,rfl⟩
    have hk:(cpI (lstI 0 h)).length=0:=by omega
    rw [hk]
    exact ⟨⟨_,rfl,.inr ⟨rfl,rfl⟩⟩,rfl⟩
  · have hcon:=AnyG.slices_Compact_int (P:=Try.prog) Try.compInt b base c (lstI n h) w hH (by rw [lstI_len];omega) (by rw [lstI_len];exact hc)
    rw [lstI_len] at hcon
    change Calls Try.prog 96 _ _ _ at hcon
    refine hcon.mono ?_
    rintro e w' ⟨rfl,q,rfl⟩
    refine ⟨_,q,#[],rfl,?_,fun w β own cells el hβ hh hsz=>?_⟩
    · rw [grow_empty];unfold cpZ;rw [lstI_len]
    · have e:(⟨b,base,none⟩:Addr)=⟨b,base+0*1,none⟩:=by simp
      rw [e]
      exact .ar 1 0 0 _ b base c cells el _ hβ hh (by omega) (by omega)
open Go
def btI (w i:Int):Bool:=bitI .and .i64 (shrI .i64 w i) 1==1
theorem shr_nat (m i:Nat) (hi:i<62):shrI .i64 (m:Int) (i:Int)=((m >>> i:Nat):Int):=by
  unfold shrI
  have:min (i:Int).toNat IntKind.i64.bits=i:=by simp [IntKind.bits];omega
  rw [this,Int.fdiv_eq_ediv_of_nonneg _ (Int.le_of_lt (Int.pow_pos (by omega))),Nat.shiftRight_eq_div_pow]
  simp
theorem bv_nat (x:Nat):BitVec.ofInt 64 (x:Int)=BitVec.ofNat 64 x:=by
  simp
theorem bt_test (m:Nat) (i:Nat) (hm:m<2 ^ 62) (hi:i<62):btI (m:Int) (i:Int)=m.testBit i:=by
  unfold btI
  rw [shr_nat m i hi]
  have hle:m >>> i≤m:=Nat.shiftRight_le m i
  rw [Nat.testBit_eq_decide_div_mod_eq,← Nat.shiftRight_eq_div_pow]
  generalize m >>> i=x at hle ⊢
  have e:bitI .and .i64 ((x:Nat):Int) 1=((x % 2:Nat):Int):=by
    unfold bitI
    have e1:(BitVec.ofInt IntKind.i64.bits ((x:Nat):Int) &&& BitVec.ofInt IntKind.i64.bits 1).toNat=x % 2:=by
      rw [BitVec.toNat_and]
      show ((BitVec.ofInt 64 ((x:Nat):Int)).toNat &&& 1)=_
      rw [bv_nat,BitVec.toNat_ofNat,Nat.mod_eq_of_lt (by omega),Nat.and_one_is_mod]
    simp only [e1]
    exact wrap_in (by simp only [imin];omega) (by simp only [imax];omega)
  rw [e]
  rcases Nat.mod_two_eq_zero_or_one x with h | h<;>simp [h]
def clI (m e:Int):Int:=bitI .andNot .i64 m (shlI .i64 1 e)
theorem shl_nat (e:Nat) (he:e<62):shlI .i64 1 (e:Int)=((2 ^ e:Nat):Int):=by
  unfold shlI
  have:min (e:Int).toNat IntKind.i64.bits=e:=by simp [IntKind.bits];omega
  rw [this]
  have h2:2 ^ e<2 ^ 62:=Nat.pow_lt_pow_right (by omega) he
  have h3:(1:Int)*2 ^ e=((2 ^ e:Nat):Int):=by simp
  rw [h3]
  generalize 2 ^ e=q at h2
  exact wrap_in (by simp only [imin];omega) (by simp only [imax];omega)
theorem cl_nat (m e:Nat) (hm:m<2 ^ 62) (he:e<62):∃ r:Nat,clI (m:Int) (e:Int)=(r:Int)∧r≤m∧∀ i,r.testBit i=(if i=e then false else m.testBit i):=by
  unfold clI
  rw [shl_nat e he]
  let r:Nat:=(BitVec.ofNat 64 m &&& ~~~BitVec.ofNat 64 (2 ^ e)).toNat
  have hr:bitI .andNot .i64 (m:Int) ((2 ^ e:Nat):Int)=IntKind.i64.wrap (r:Int):=by
    unfold bitI
    show IntKind.i64.wrap (((BitVec.ofInt 64 (m:Int) &&& ~~~BitVec.ofInt 64 ((2 ^ e:Nat):Int)).toNat:Nat):Int)=_
    rw [bv_nat,bv_nat]
  have hle:r≤m:=by
    show (BitVec.ofNat 64 m &&& ~~~BitVec.ofNat 64 (2 ^ e)).toNat≤m
    rw [BitVec.toNat_and,BitVec.toNat_ofNat,Nat.mod_eq_of_lt (by omega)]
    exact Nat.and_le_left
  have hbit:∀ i,r.testBit i=(if i=e then false else m.testBit i):=by
    intro i
    show (BitVec.ofNat 64 m &&& ~~~BitVec.ofNat 64 (2 ^ e)).toNat.testBit i=_
    rw [BitVec.testBit_toNat,BitVec.getLsbD_and,BitVec.getLsbD_not,BitVec.getLsbD_ofNat,BitVec.getLsbD_ofNat,Nat.testBit_two_pow]
    by_cases h1:i<64
    · by_cases h2:i=e
      · subst h2;simp
      · have:¬ e=i:=fun h=>h2 h.symm
        simp [h1,h2,this]
    · have hb:m.testBit i=false:=Nat.testBit_lt_two_pow (Nat.lt_of_lt_of_le hm (Nat.pow_le_pow_right (by omega) (by omega)))
      simp [h1,hb]
  refine ⟨r,?_,hle,hbit⟩
  rw [hr]
  exact wrap_in (by simp only [imin];omega) (by simp only [imax];omega)
def GSo (w M i c:Nat) (f:Nat→Int):St:=⟨[.p (.int .i64 w),.p (.int .i64 M),.p .any,.p .any,.p .any,.ar 1 0 0 c,.p .any,.p .any,.p (.int .i64 M),.p (.int .i64 i)]++List.replicate 13 anyA,[(0,iObW c f)],1⟩
def GSl (w M i c:Nat) (f:Nat→Int):St:=⟨[.p (.int .i64 M),.p (.int .i64 w),.p .any,.p .any,.p .any,.ar 1 0 0 c,.p (.int .i64 i)]++List.replicate 16 anyA,[(0,iObW c f)],1⟩
def GP0 (g:Nat→T_GainBar) (nb N n:Nat) (s:Nat→Int) (v q:Nat):St :=
  ⟨[gnA g nb N,inS n s,.pt 2 0 0 0,.p .any,.p .any,.p (.int .i64 q),.p (.int .i64 v)]++List.replicate 45 anyA,[(0,gnB g nb N)],1⟩
def GP1 (g:Nat→T_GainBar) (nb N n:Nat) (s:Nat→Int) (v q:Nat) (b:Bool) (k:Nat):St :=
  ⟨[gnA g nb N,inS n s,.pt 2 0 0 0,.p .any,.p .any,.p (.int .i64 q),.p (.int .i64 v),.p (.bool b),.p (.int .i64 k)]++List.replicate 43 anyA,[(0,gnB g nb N)],1⟩
def GQ0 (g:Nat→T_GainBar) (nb N P m:Nat) (F:Nat→Bool):St :=
  ⟨[gnA g nb N,.pt 2 0 0 0,.p .any,.ar 1 1 0 P]++List.replicate 12 anyA++[.p (.int .i64 P),.p (.int .i64 m)]++List.replicate 80 anyA,[(0,gnB g nb N),(1,bObW P F)],2⟩
def GQ1 (g:Nat→T_GainBar) (nb N P m:Nat) (F:Nat→Bool) (c:Nat) (s:Nat→Int) (q:Nat) (pts:Nat→Int) (k:Nat):St :=
  ⟨[gnA g nb N,.pt 2 0 0 0,.p .any,.ar 1 1 0 P,.p (.int .i64 m),.ar 1 2 0 c,.ar 1 3 0 q]++List.replicate 9 anyA++[.p (.int .i64 P),.p (.int .i64 m)]++List.replicate 11 anyA ++
    [.ar 1 2 0 c,.p (.int .i64 c),.p (.int .i64 k)]++List.replicate 66 anyA,[(0,gnB g nb N),(1,bObW P F),(2,iObW c s),(3,iObW q pts)],4⟩
def snp (q:Nat) (pts:Nat→Int) (a b:Int) (i:Nat):Int:=if i<q then pts i else if i=q then a else b
def GT0 (g:Nat→T_GainBar) (nb N m:Nat):St :=
  ⟨[gnA g nb N,.pt 2 0 0 0,.p .any,.p (.int .i64 m)]++List.replicate 32 anyA,[(0,gnB g nb N)],1⟩
theorem gOz (w M:Nat) :
    zT Try.f66 [rg 1,rg 2,rg 2,.head] [.p (.int .i64 w),.p (.int .i64 M)] [32] (GSo w M 0 0 (fun _=>0)) =
    some (zf35,[(AI ((↑w:Int))),(AI ((↑M:Int))),(AN 0),(AN 0),(AI ((↑M:Int))),((0:Int)=(↑0:Int)),(AN 1),(NL 0 0),(AA 0 (fun i=>[.p (.int .i64 0)]))]):=by kernel_rfl
theorem gOt (w M i c:Nat) (f:Nat→Int) :
    zM 0 [rg 1,.dec true,rg 2,rg 5,.dec true,rg 5,rg 2,.head] zf35 (GSo w M i c f) [353] 1 (GSo w M (i+1) (c+1) (fun s=>if s<c then f s else i)) =
    some (zf35,[((decide ((↑i:Int)<(↑M:Int)))=true),(IL 0 (↑i:Int)),((bitI BinOp.and IntKind.i64 (shrI IntKind.i64 (↑w:Int) (↑i:Int)) 1==1)=true),(NL 1 1),(NL c c),(NL ((c+1)*8) 140737488355328),(NL (c+1) 9223372036854775807),(ZLo ((↑i:Int)+1)),(ZHi ((↑i:Int)+1)),(AI ((↑w:Int))),(AI ((↑M:Int))),(AN 0),(AN ((c+1))),(AI ((↑M:Int))),((((↑i:Int)+1):Int)=(↑(i+1):Int)),(AN 1),(NL (c+1) (c+1)),(CV [(353,⟨false,1,(c+1),(fun i_2=>(if (i_2<c) then [.p (.int .i64 (f i_2))] else [.p (.int .i64 (↑i:Int))]))⟩),(321,⟨false,1,1,(fun i_2=>[.p (.int .i64 (↑i:Int))])⟩)] [353] 1 (c+1) (fun i_1=>if (i_1<c) then [.p (.int .i64 (f i_1))] else [.p (.int .i64 (↑i:Int))]) (fun i_1=>[.p (.int .i64 (if i_1<c then f i_1 else (↑i:Int)))]))]):=by kernel_rfl
theorem gOf (w M i c:Nat) (f:Nat→Int) :
    zM 0 [rg 1,.dec true,rg 2,rg 5,.dec false,rg 2,.head] zf35 (GSo w M i c f) [0] 1 (GSo w M (i+1) c f) =
    some (zf35,[((decide ((↑i:Int)<(↑M:Int)))=true),(IL 0 (↑i:Int)),((bitI BinOp.and IntKind.i64 (shrI IntKind.i64 (↑w:Int) (↑i:Int)) 1==1)=false),(ZLo ((↑i:Int)+1)),(ZHi ((↑i:Int)+1)),(AI ((↑w:Int))),(AI ((↑M:Int))),(AN 0),(AN c),(AI ((↑M:Int))),((((↑i:Int)+1):Int)=(↑(i+1):Int)),(AN 1),(NL c c),(AA c (fun i_1=>[.p (.int .i64 (f i_1))]))]):=by kernel_rfl
theorem gOe (w M i c:Nat) (f:Nat→Int) :
    zP Try.f66 0 [rg 1,.dec false,rg 2] zf35 (GSo w M i c f) [0] 1 [(0,iObW c f)] (.ar 1 0 0 c) =
    some [((decide ((↑i:Int)<(↑M:Int)))=false),(AN 0),(AN c),(AN 1),(NL c c),(AA c (fun i_1=>[.p (.int .i64 (f i_1))])),(AE c)]:=by kernel_rfl
theorem gLz (w M:Nat) :
    zT Try.f64 [rg 1,rg 2,rg 1,.head] [.p (.int .i64 M),.p (.int .i64 w)] [32] (GSl w M 0 0 (fun _=>0)) =
    some (zf36,[(AI ((↑M:Int))),(AI ((↑w:Int))),(AN 0),(AN 0),((0:Int)=(↑0:Int)),(AN 1),(NL 0 0),(AA 0 (fun i=>[.p (.int .i64 0)]))]):=by kernel_rfl
theorem gLt (w M i c:Nat) (f:Nat→Int) :
    zM 0 [rg 3,.dec true,rg 5,.dec true,rg 5,rg 3,.head] zf36 (GSl w M i c f) [353] 1 (GSl w M (i+1) (c+1) (fun s=>if s<c then f s else i)) =
    some (zf36,[((decide ((↑i:Int)<(↑M:Int)))=true),(IL 0 (↑i:Int)),((bitI BinOp.and IntKind.i64 (shrI IntKind.i64 (↑w:Int) (↑i:Int)) 1==1)=true),(NL 1 1),(NL c c),(NL ((c+1)*8) 140737488355328),(NL (c+1) 9223372036854775807),(ZLo ((↑i:Int)+1)),(ZHi ((↑i:Int)+1)),(AI ((↑M:Int))),(AI ((↑w:Int))),(AN 0),(AN ((c+1))),((((↑i:Int)+1):Int)=(↑(i+1):Int)),(AN 1),(NL (c+1) (c+1)),(CV [(353,⟨false,1,(c+1),(fun i_2=>(if (i_2<c) then [.p (.int .i64 (f i_2))] else [.p (.int .i64 (↑i:Int))]))⟩),(321,⟨false,1,1,(fun i_2=>[.p (.int .i64 (↑i:Int))])⟩)] [353] 1 (c+1) (fun i_1=>if (i_1<c) then [.p (.int .i64 (f i_1))] else [.p (.int .i64 (↑i:Int))]) (fun i_1=>[.p (.int .i64 (if i_1<c then f i_1 else (↑i:Int)))]))]):=by kernel_rfl
theorem gLf (w M i c:Nat) (f:Nat→Int) :
    zM 0 [rg 3,.dec true,rg 5,.dec false,rg 3,.head] zf36 (GSl w M i c f) [0] 1 (GSl w M (i+1) c f) =
    some (zf36,[((decide ((↑i:Int)<(↑M:Int)))=true),(IL 0 (↑i:Int)),((bitI BinOp.and IntKind.i64 (shrI IntKind.i64 (↑w:Int) (↑i:Int)) 1==1)=false),(ZLo ((↑i:Int)+1)),(ZHi ((↑i:Int)+1)),(AI ((↑M:Int))),(AI ((↑w:Int))),(AN 0),(AN c),((((↑i:Int)+1):Int)=(↑(i+1):Int)),(AN 1),(NL c c),(AA c (fun i_1=>[.p (.int .i64 (f i_1))]))]):=by kernel_rfl
theorem gLe (w M i c:Nat) (f:Nat→Int) :
    zP Try.f64 0 [rg 3,.dec false,rg 2] zf36 (GSl w M i c f) [0] 1 [(0,iObW c f)] (.ar 1 0 0 c) =
    some [((decide ((↑i:Int)<(↑M:Int)))=false),(AN 0),(AN c),(AN 1),(NL c c),(AA c (fun i_1=>[.p (.int .i64 (f i_1))])),(AE c)]:=by kernel_rfl
theorem gPz (g:Nat→T_GainBar) (nb N n:Nat) (s:Nat→Int) :
    zT Try.f65 [rg 2,rg 1,rg 1,.head] [gnA g nb N,inS n s] [0] (GP0 g nb N n s 0 0) =
    some (zf37,zD [(AI ((↑N:Int))),(AN nb),(AP nb (fun i=>[.int .i64 ((g i).1),.int .i64 ((g i).2.1),.int .i64 ((g i).2.2.1),.int .i64 ((g i).2.2.2.1)])),(AN n),(AP n (fun i=>[.int .i64 (s i)])),(AN 0),((0:Int)=(↑0:Int)),((([AV.p (PV.int IntKind.i64 (↑N:Int)),gnL g nb].length):Nat)=2),(NL 1 1)] [0,1,2,3,4,5,6,6,7,8,8,0,1,2]):=by kernel_rfl
theorem gPo (g:Nat→T_GainBar) (nb N n:Nat) (s:Nat→Int) (v q:Nat) :
    zM 0 [rg 4,.dec true,rg 1,rg 1,.head] zf37 (GP0 g nb N n s v q) [0] 1 (GP1 g nb N n s v q false 0) =
    some (zf6,zD [(NT 0 1),((decide ((↑v:Int)<(↑N:Int)))=true),(AI ((↑N:Int))),(AN nb),(AP nb (fun i=>[.int .i64 ((g i).1),.int .i64 ((g i).2.1),.int .i64 ((g i).2.2.1),.int .i64 ((g i).2.2.2.1)])),(AN n),(AP n (fun i=>[.int .i64 (s i)])),(AN 0),(AI ((↑q:Int))),(AI ((↑v:Int))),(false=false),((0:Int)=(↑0:Int)),(AN 2),(NL 1 1)] [0,1,2,3,4,5,6,7,8,9,10,11,12,13,13,2,3,4]):=by kernel_rfl
theorem gPi (g:Nat→T_GainBar) (nb N n:Nat) (s:Nat→Int) (v q:Nat) (b:Bool) (k:Nat) :
    zM 0 [rg 4,.dec true,rg 28,rg 3,.head] zf6 (GP1 g nb N n s v q b k) [0] 1 (GP1 g nb N n s v q (bif bif b then true else (gb g s k).1==(v:Int) then true else (gb g s k).2.1==(v:Int)) (k+1)) =
    some (zf6,zD [((decide ((↑k:Int)<(↑n:Int)))=true),(AG (!b)),(((!b)=true)→(NT 0 1)),(((!b)=true)→(IL 0 (↑k:Int))),(((!b)=true)→(IT (↑k:Int) (↑n:Int))),(((!b)=true)→(IL 0 (s k))),(((!b)=true)→(IT (s k) (↑nb:Int))),((b=false)→ ((!b)=true)),(AG (!bif b then true else (g (s k).toNat).1==(↑v:Int))),(((!bif b then true else (g (s k).toNat).1==(↑v:Int))=true)→(NT 0 1)),(((!bif b then true else (g (s k).toNat).1==(↑v:Int))=true)→(IL 0 (↑k:Int))),(((!bif b then true else (g (s k).toNat).1==(↑v:Int))=true)→(IT (↑k:Int) (↑n:Int))),(((!bif b then true else (g (s k).toNat).1==(↑v:Int))=true)→(IL 0 (s k))),(((!bif b then true else (g (s k).toNat).1==(↑v:Int))=true)→(IT (s k) (↑nb:Int))),(((bif b then true else (g (s k).toNat).1==(↑v:Int))=false)→ ((!bif b then true else (g (s k).toNat).1==(↑v:Int))=true)),(ZLo ((↑k:Int)+1)),(ZHi ((↑k:Int)+1)),(AI ((↑N:Int))),(AN nb),(AP nb (fun i=>[.int .i64 ((g i).1),.int .i64 ((g i).2.1),.int .i64 ((g i).2.2.1),.int .i64 ((g i).2.2.2.1)])),(AN n),(AP n (fun i=>[.int .i64 (s i)])),(AN 0),(AI ((↑q:Int))),(AI ((↑v:Int))),((bif bif b then true else (g (s k).toNat).1==(↑v:Int) then true else (g (s k).toNat).2.1==(↑v:Int))=(bif bif b then true else (gb g s k).1==(↑v:Int) then true else (gb g s k).2.1==(↑v:Int))),((((↑k:Int)+1):Int)=(↑(k+1):Int)),(AN 2),(NL 1 1)] [0,1,2,1,1,3,4,1,1,1,5,6,1,1,1,1,7,8,9,8,8,10,11,8,8,8,12,13,8,8,8,8,14,15,16,17,18,19,20,21,22,23,24,25,26,27,28,28,17,18,19]):=by kernel_rfl
theorem gPt (g:Nat→T_GainBar) (nb N n:Nat) (s:Nat→Int) (v q k:Nat) :
    zM 0 [rg 4,.dec false,rg 1,.dec true,rg 3,rg 3,.head] zf6 (GP1 g nb N n s v q true k) [0] 1 (GP0 g nb N n s (v+1) (q+1)) =
    some (zf37,zD [((decide ((↑k:Int)<(↑n:Int)))=false),(true=true),(ZLo ((↑q:Int)+1)),(ZHi ((↑q:Int)+1)),(ZLo ((↑v:Int)+1)),(ZHi ((↑v:Int)+1)),(AI ((↑N:Int))),(AN nb),(AP nb (fun i=>[.int .i64 ((g i).1),.int .i64 ((g i).2.1),.int .i64 ((g i).2.2.1),.int .i64 ((g i).2.2.2.1)])),(AN n),(AP n (fun i=>[.int .i64 (s i)])),(AN 0),((((↑q:Int)+1):Int)=(↑(q+1):Int)),((((↑v:Int)+1):Int)=(↑(v+1):Int)),(AN 2),(NL 1 1)] [0,1,2,3,4,5,6,7,8,9,10,11,12,13,14,15,15,6,7,8]):=by kernel_rfl
theorem gPf (g:Nat→T_GainBar) (nb N n:Nat) (s:Nat→Int) (v q k:Nat) :
    zM 0 [rg 4,.dec false,rg 1,.dec false,rg 3,.head] zf6 (GP1 g nb N n s v q false k) [0] 1 (GP0 g nb N n s (v+1) q) =
    some (zf37,zD [((decide ((↑k:Int)<(↑n:Int)))=false),(false=false),(ZLo ((↑v:Int)+1)),(ZHi ((↑v:Int)+1)),(AI ((↑N:Int))),(AN nb),(AP nb (fun i=>[.int .i64 ((g i).1),.int .i64 ((g i).2.1),.int .i64 ((g i).2.2.1),.int .i64 ((g i).2.2.2.1)])),(AN n),(AP n (fun i=>[.int .i64 (s i)])),(AN 0),(AI ((↑q:Int))),((((↑v:Int)+1):Int)=(↑(v+1):Int)),(AN 2),(NL 1 1)] [0,1,2,3,4,5,6,7,8,9,10,11,12,13,13,4,5,6]):=by kernel_rfl
theorem gPe (g:Nat→T_GainBar) (nb N n:Nat) (s:Nat→Int) (v q:Nat) :
    zP Try.f65 0 [rg 4,.dec false,rg 2] zf37 (GP0 g nb N n s v q) [] 1 [] (.p (.int .i64 q)) =
    some [(NT 0 1),((decide ((↑v:Int)<(↑N:Int)))=false),(AI ((↑q:Int)))]:=by kernel_rfl
theorem gQz (g:Nat→T_GainBar) (nb N P:Nat) :
    zT Try.f63 [rg 2,rg 6,rg 3,.head] [gnA g nb N] [0,192] (GQ0 g nb N P 0 (fun _=>false)) =
    some (zf38,zD [(NT 0 1),(IL 0 (↑nb:Int)),(IL 0 (shlI IntKind.i64 1 (↑nb:Int))),(IL (shlI IntKind.i64 1 (↑nb:Int)) (shlI IntKind.i64 1 (↑nb:Int))),(IL (shlI IntKind.i64 1 (↑nb:Int)*(↑1:Int)) 281474976710656),(ZHi (shlI IntKind.i64 1 (↑nb:Int))),(AI ((↑N:Int))),(AN nb),(AP nb (fun i=>[.int .i64 ((g i).1),.int .i64 ((g i).2.1),.int .i64 ((g i).2.2.1),.int .i64 ((g i).2.2.2.1)])),(AN 0),((((shlI IntKind.i64 1 (↑nb:Int)).toNat):Nat)=P),(((↑(shlI IntKind.i64 1 (↑nb:Int)).toNat:Int):Int)=(↑P:Int)),((0:Int)=(↑0:Int)),((([AV.p (PV.int IntKind.i64 (↑N:Int)),gnL g nb].length):Nat)=2),(NL 1 1),(AN 1),(NL P ((shlI IntKind.i64 1 (↑nb:Int)).toNat)),(AA P (fun i=>[.p (.bool false)]))] [0,1,2,3,4,5,6,7,8,9,9,10,11,12,13,14,14,6,7,8,15,16,17]):=by kernel_rfl
theorem gQo (g:Nat→T_GainBar) (nb N P m:Nat) (F:Nat→Bool) (c:Nat) (s:Nat→Int) :
    zM 0 [rg 1,.dec true,rg 2,rm [(4,oc [(0,iObW c s)] (.ar 1 0 0 c))] 1,rg 4,rg 2,rg 3,.head] zf38 (GQ0 g nb N P m F) [0,1,226,418] 1 (GQ1 g nb N P m (up F m true) c s 0 (fun _=>0) 0) =
    some (zf4,zD [((decide ((↑m:Int)<(↑P:Int)))=true),(NT 0 1),zE 66 [.p (.int .i64 (↑m:Int)),.p (.int .i64 (↑nb:Int))] [(0,⟨false,1,c,(fun i=>[.p (.int .i64 (s i))])⟩)] (.ar 1 0 0 c),(IL 0 (↑m:Int)),(IT (↑m:Int) (↑P:Int)),(NT m P),((false=true)→ ((P:Nat)=1)),(AI ((↑N:Int))),(AN nb),(AP nb (fun i=>[.int .i64 ((g i).1),.int .i64 ((g i).2.1),.int .i64 ((g i).2.2.1),.int .i64 ((g i).2.2.2.1)])),(AN 0),(AN P),(AI ((↑m:Int))),(AN c),(AI ((↑P:Int))),(AI ((↑c:Int))),((0:Int)=(↑0:Int)),(AN 2),(NL 1 1),(AN 1),(NL P P),(CV [(418,⟨false,1,0,(fun i_1=>[.p (.int .i64 0)])⟩),(1,⟨false,1,P,(fun i_1=>(if (i_1=m) then [.p (.bool true)] else [.p (.bool (F i_1))]))⟩),(226,⟨false,1,c,(fun i_1=>[.p (.int .i64 (s i_1))])⟩),(0,⟨true,2,1,(fun i_1=>[.p (.int .i64 (↑N:Int)),.p (.seq true 4 nb (fun i_2=>[.int .i64 ((g i_2).1),.int .i64 ((g i_2).2.1),.int .i64 ((g i_2).2.2.1),.int .i64 ((g i_2).2.2.2.1)]))])⟩)] [0,1,226,418] 1 P (fun i=>if (i=m) then [.p (.bool true)] else [.p (.bool (F i))]) (fun i=>[.p (.bool (up F m true i))])),(NL c c),(AA c (fun i=>[.p (.int .i64 (s i))])),(NL 0 0),(AA 0 (fun i=>[.p (.int .i64 0)]))] [0,1,2,3,4,5,6,7,8,9,10,10,11,12,10,13,10,10,14,12,10,13,15,16,17,18,18,7,8,9,19,20,21,19,22,23,19,24,25]):=by kernel_rfl
theorem gQi (g:Nat→T_GainBar) (nb N P m:Nat) (F:Nat→Bool) (c:Nat) (s:Nat→Int) (q:Nat) (pts:Nat→Int) (k:Nat) :
    zM 0 [rg 1,.dec true,rg 3,rg 17,rg 16,rg 2,.head] zf4 (GQ1 g nb N P m F c s q pts k) [0,1,2,1124] 1 (GQ1 g nb N P m (up F m (bif F m then F (clI m (s k)).toNat else false)) c s (q+2) (snp q pts (gb g s k).1 (gb g s k).2.1) (k+1)) =
    some (zf4,zD [((decide ((↑k:Int)<(↑c:Int)))=true),(IL 0 (↑k:Int)),(IT (↑k:Int) (↑c:Int)),(NT k c),(IL 0 (↑m:Int)),(IT (↑m:Int) (↑P:Int)),(NT m P),(AG (F m)),(((F m)=true)→(IL 0 (s k))),(((F m)=true)→(IL 0 (bitI BinOp.andNot IntKind.i64 (↑m:Int) (shlI IntKind.i64 1 (s k))))),(((F m)=true)→(IT (bitI BinOp.andNot IntKind.i64 (↑m:Int) (shlI IntKind.i64 1 (s k))) (↑P:Int))),(((F m)=true)→(NT ((bitI BinOp.andNot IntKind.i64 (↑m:Int) (shlI IntKind.i64 1 (s k))).toNat) P)),((false=true)→ ((P:Nat)=1)),(NT 0 1),(IL 0 (s k)),(IT (s k) (↑nb:Int)),(NL 2 2),(NL q q),(NL ((q+2)*8) 140737488355328),(NL (q+2) 9223372036854775807),(ZLo ((↑k:Int)+1)),(ZHi ((↑k:Int)+1)),(AI ((↑N:Int))),(AN nb),(AP nb (fun i=>[.int .i64 ((g i).1),.int .i64 ((g i).2.1),.int .i64 ((g i).2.2.1),.int .i64 ((g i).2.2.2.1)])),(AN 0),(AN P),(AI ((↑m:Int))),(AN c),(AN ((q+2))),(AI ((↑P:Int))),(AI ((↑c:Int))),((((↑k:Int)+1):Int)=(↑(k+1):Int)),(AN 2),(NL 1 1),(AN 1),(NL P P),(∀ i:Nat,(((i:Nat)<P)→(All (cvtL false [(1124,⟨false,1,(q+2),(fun i_1=>(if (i_1<q) then [.p (.int .i64 (pts i_1))] else [(List.getD ([(List.getD ([.p (.int .i64 ((g (s k).toNat).1)),.p (.int .i64 ((g (s k).toNat).2.1))]:List AV) (rowIx 2 (i_1 - q)*1) (.p .any))]:List AV) 0 (.p .any))]))⟩),(1092,⟨false,1,2,(fun i_1=>[(List.getD ([.p (.int .i64 ((g (s k).toNat).1)),.p (.int .i64 ((g (s k).toNat).2.1))]:List AV) (rowIx 2 i_1*1) (.p .any))])⟩),(1,⟨false,1,P,(fun i_1=>(if (i_1=m) then [.p (.bool (bif F m then F (bitI BinOp.andNot IntKind.i64 (↑m:Int) (shlI IntKind.i64 1 (s k))).toNat else false))] else [.p (.bool (F i_1))]))⟩),(0,⟨true,2,1,(fun i_1=>[.p (.int .i64 (↑N:Int)),.p (.seq true 4 nb (fun i_2=>[.int .i64 ((g i_2).1),.int .i64 ((g i_2).2.1),.int .i64 ((g i_2).2.2.1),.int .i64 ((g i_2).2.2.2.1)]))])⟩),(2,⟨false,1,c,(fun i_1=>[.p (.int .i64 (s i_1))])⟩)] [0,1,2,1124] 1 (if (i=m) then [.p (.bool (bif F m then F (bitI BinOp.andNot IntKind.i64 (↑m:Int) (shlI IntKind.i64 1 (s k))).toNat else false))] else [.p (.bool (F i))])).2∧(((cvtL false [(1124,⟨false,1,(q+2),(fun i_1=>(if (i_1<q) then [.p (.int .i64 (pts i_1))] else [(List.getD ([(List.getD ([.p (.int .i64 ((g (s k).toNat).1)),.p (.int .i64 ((g (s k).toNat).2.1))]:List AV) (rowIx 2 (i_1 - q)*1) (.p .any))]:List AV) 0 (.p .any))]))⟩),(1092,⟨false,1,2,(fun i_1=>[(List.getD ([.p (.int .i64 ((g (s k).toNat).1)),.p (.int .i64 ((g (s k).toNat).2.1))]:List AV) (rowIx 2 i_1*1) (.p .any))])⟩),(1,⟨false,1,P,(fun i_1=>(if (i_1=m) then [.p (.bool (bif F m then F (bitI BinOp.andNot IntKind.i64 (↑m:Int) (shlI IntKind.i64 1 (s k))).toNat else false))] else [.p (.bool (F i_1))]))⟩),(0,⟨true,2,1,(fun i_1=>[.p (.int .i64 (↑N:Int)),.p (.seq true 4 nb (fun i_2=>[.int .i64 ((g i_2).1),.int .i64 ((g i_2).2.1),.int .i64 ((g i_2).2.2.1),.int .i64 ((g i_2).2.2.2.1)]))])⟩),(2,⟨false,1,c,(fun i_1=>[.p (.int .i64 (s i_1))])⟩)] [0,1,2,1124] 1 (if (i=m) then [.p (.bool (bif F m then F (bitI BinOp.andNot IntKind.i64 (↑m:Int) (shlI IntKind.i64 1 (s k))).toNat else false))] else [.p (.bool (F i))])).1:List AV)=[.p (.bool (up F m (bif F m then F (clI (↑m:Int) (s k)).toNat else false) i))])))),(NL c c),(AA c (fun i=>[.p (.int .i64 (s i))])),(NL (q+2) (q+2)),(∀ i:Nat,(((i:Nat)<(q+2))→(All (cvtL false [(1124,⟨false,1,(q+2),(fun i_1=>(if (i_1<q) then [.p (.int .i64 (pts i_1))] else [(List.getD ([(List.getD ([.p (.int .i64 ((g (s k).toNat).1)),.p (.int .i64 ((g (s k).toNat).2.1))]:List AV) (rowIx 2 (i_1 - q)*1) (.p .any))]:List AV) 0 (.p .any))]))⟩),(1092,⟨false,1,2,(fun i_1=>[(List.getD ([.p (.int .i64 ((g (s k).toNat).1)),.p (.int .i64 ((g (s k).toNat).2.1))]:List AV) (rowIx 2 i_1*1) (.p .any))])⟩),(1,⟨false,1,P,(fun i_1=>(if (i_1=m) then [.p (.bool (bif F m then F (bitI BinOp.andNot IntKind.i64 (↑m:Int) (shlI IntKind.i64 1 (s k))).toNat else false))] else [.p (.bool (F i_1))]))⟩),(0,⟨true,2,1,(fun i_1=>[.p (.int .i64 (↑N:Int)),.p (.seq true 4 nb (fun i_2=>[.int .i64 ((g i_2).1),.int .i64 ((g i_2).2.1),.int .i64 ((g i_2).2.2.1),.int .i64 ((g i_2).2.2.2.1)]))])⟩),(2,⟨false,1,c,(fun i_1=>[.p (.int .i64 (s i_1))])⟩)] [0,1,2,1124] 1 (if (i<q) then [.p (.int .i64 (pts i))] else [(List.getD ([(List.getD ([.p (.int .i64 ((g (s k).toNat).1)),.p (.int .i64 ((g (s k).toNat).2.1))]:List AV) (rowIx 2 (i - q)*1) (.p .any))]:List AV) 0 (.p .any))])).2∧(((cvtL false [(1124,⟨false,1,(q+2),(fun i_1=>(if (i_1<q) then [.p (.int .i64 (pts i_1))] else [(List.getD ([(List.getD ([.p (.int .i64 ((g (s k).toNat).1)),.p (.int .i64 ((g (s k).toNat).2.1))]:List AV) (rowIx 2 (i_1 - q)*1) (.p .any))]:List AV) 0 (.p .any))]))⟩),(1092,⟨false,1,2,(fun i_1=>[(List.getD ([.p (.int .i64 ((g (s k).toNat).1)),.p (.int .i64 ((g (s k).toNat).2.1))]:List AV) (rowIx 2 i_1*1) (.p .any))])⟩),(1,⟨false,1,P,(fun i_1=>(if (i_1=m) then [.p (.bool (bif F m then F (bitI BinOp.andNot IntKind.i64 (↑m:Int) (shlI IntKind.i64 1 (s k))).toNat else false))] else [.p (.bool (F i_1))]))⟩),(0,⟨true,2,1,(fun i_1=>[.p (.int .i64 (↑N:Int)),.p (.seq true 4 nb (fun i_2=>[.int .i64 ((g i_2).1),.int .i64 ((g i_2).2.1),.int .i64 ((g i_2).2.2.1),.int .i64 ((g i_2).2.2.2.1)]))])⟩),(2,⟨false,1,c,(fun i_1=>[.p (.int .i64 (s i_1))])⟩)] [0,1,2,1124] 1 (if (i<q) then [.p (.int .i64 (pts i))] else [(List.getD ([(List.getD ([.p (.int .i64 ((g (s k).toNat).1)),.p (.int .i64 ((g (s k).toNat).2.1))]:List AV) (rowIx 2 (i - q)*1) (.p .any))]:List AV) 0 (.p .any))])).1:List AV)=[.p (.int .i64 (snp q pts (gb g s k).1 (gb g s k).2.1 i))]))))] [0,1,2,3,4,5,6,7,8,7,7,7,7,9,10,7,11,7,4,5,6,12,13,14,15,13,14,15,16,17,18,19,20,21,22,23,24,25,25,26,27,25,28,25,29,30,27,25,28,31,32,33,34,34,22,23,24,35,36,37,35,38,39,35,40,41]):=by kernel_rfl
theorem gQt (g:Nat→T_GainBar) (nb N P m:Nat) (F:Nat→Bool) (c:Nat) (s:Nat→Int) (q:Nat) (pts:Nat→Int) (k d:Nat) (p1 p2:Nat→Int) :
    zM 0 [rg 1,.dec false,rm [(1,oq [3] [(0,iObW q p1)] (.tup []))] 0,rm [(1,oq [3] [(0,iObW q p2)] (.ar 1 0 0 d))] 4,rm [(2,oc [] (.p (.bool true)))] 0,.dec true,rg 3,rg 18,rg 2,.head] zf4 (GQ1 g nb N P m F c s q pts k) [0,1] 1 (GQ0 g nb N P (m+1) (up F m (bif F m then (bif (m:Int)==0 then true else decide ((c:Int)≤2*(d:Int) - 2 - 1)) else false))) =
    some (zf38,zD [((decide ((↑k:Int)<(↑c:Int)))=false),(AE q),Con Try.prog 95 1 [(0,⟨false,1,q,(fun i=>[.p (.int .i64 (pts i))])⟩)] [.ar 1 0 0 q] [(0,⟨false,1,q,(fun i=>[.p (.int .i64 (p1 i))])⟩)] (.tup []),Con Try.prog 96 1 [(0,⟨false,1,q,(fun i=>[.p (.int .i64 (p1 i))])⟩)] [.ar 1 0 0 q] [(0,⟨false,1,q,(fun i=>[.p (.int .i64 (p2 i))])⟩)] (.ar 1 0 0 d),(ZLo (2*(↑d:Int))),(ZHi (2*(↑d:Int))),(ZLo (2*(↑d:Int) - 2)),(ZHi (2*(↑d:Int) - 2)),(NT 0 1),(AN 1),(NL c c),zE 67 [(zf25 N nb g),.p (.seq true 1 c (fun i=>[.int .i64 (s i)]))] [] (.p (.bool true)),(true=true),(ZLo (2*(↑d:Int) - 2 - 1)),(ZHi (2*(↑d:Int) - 2 - 1)),(IL 0 (↑m:Int)),(IT (↑m:Int) (↑P:Int)),(NT m P),(AG (F m)),(AG (F m&&!(↑m:Int)==0)),(((F m)=true)→((((↑m:Int)==0)=false)→ ((F m&&!(↑m:Int)==0)=true))),((false=true)→ ((P:Nat)=1)),(ZLo ((↑m:Int)+1)),(ZHi ((↑m:Int)+1)),(AI ((↑N:Int))),(AN nb),(AP nb (fun i=>[.int .i64 ((g i).1),.int .i64 ((g i).2.1),.int .i64 ((g i).2.2.1),.int .i64 ((g i).2.2.2.1)])),(AN 0),(AN P),(AI ((↑P:Int))),((((↑m:Int)+1):Int)=(↑(m+1):Int)),(AN 2),(NL 1 1),(NL P P),(CV [(1,⟨false,1,P,(fun i_1=>(if (i_1=m) then [.p (.bool (bif F m then bif (↑m:Int)==0 then true else decide ((↑c:Int)≤2*(↑d:Int) - 2 - 1) else false))] else [.p (.bool (F i_1))]))⟩),(3,⟨false,1,q,(fun i_1=>[.p (.int .i64 (p2 i_1))])⟩),(0,⟨true,2,1,(fun i_1=>[.p (.int .i64 (↑N:Int)),.p (.seq true 4 nb (fun i_2=>[.int .i64 ((g i_2).1),.int .i64 ((g i_2).2.1),.int .i64 ((g i_2).2.2.1),.int .i64 ((g i_2).2.2.2.1)]))])⟩),(2,⟨false,1,c,(fun i_1=>[.p (.int .i64 (s i_1))])⟩)] [0,1] 1 P (fun i=>if (i=m) then [.p (.bool (bif F m then bif (↑m:Int)==0 then true else decide ((↑c:Int)≤2*(↑d:Int) - 2 - 1) else false))] else [.p (.bool (F i))]) (fun i=>[.p (.bool (up F m (bif F m then bif (↑m:Int)==0 then true else decide ((↑c:Int)≤2*(↑d:Int) - 2 - 1) else false) i))]))] [0,1,2,1,3,4,5,6,7,8,9,10,11,12,13,14,15,16,17,18,18,19,19,19,18,20,18,15,16,17,21,22,23,24,25,26,27,27,28,29,30,31,32,32,24,25,26,9,33,34]):=by kernel_rfl
theorem gQf (g:Nat→T_GainBar) (nb N P m:Nat) (F:Nat→Bool) (c:Nat) (s:Nat→Int) (q:Nat) (pts:Nat→Int) (k d:Nat) (p1 p2:Nat→Int) :
    zM 0 [rg 1,.dec false,rm [(1,oq [3] [(0,iObW q p1)] (.tup []))] 0,rm [(1,oq [3] [(0,iObW q p2)] (.ar 1 0 0 d))] 4,rm [(2,oc [] (.p (.bool false)))] 0,.dec false,rg 18,rg 2,.head] zf4 (GQ1 g nb N P m F c s q pts k) [0,1] 1 (GQ0 g nb N P (m+1) (up F m (bif F m then (bif (m:Int)==0 then true else decide ((c:Int)≤2*(d:Int) - 2)) else false))) =
    some (zf38,zD [((decide ((↑k:Int)<(↑c:Int)))=false),(AE q),Con Try.prog 95 1 [(0,⟨false,1,q,(fun i=>[.p (.int .i64 (pts i))])⟩)] [.ar 1 0 0 q] [(0,⟨false,1,q,(fun i=>[.p (.int .i64 (p1 i))])⟩)] (.tup []),Con Try.prog 96 1 [(0,⟨false,1,q,(fun i=>[.p (.int .i64 (p1 i))])⟩)] [.ar 1 0 0 q] [(0,⟨false,1,q,(fun i=>[.p (.int .i64 (p2 i))])⟩)] (.ar 1 0 0 d),(ZLo (2*(↑d:Int))),(ZHi (2*(↑d:Int))),(ZLo (2*(↑d:Int) - 2)),(ZHi (2*(↑d:Int) - 2)),(NT 0 1),(AN 1),(NL c c),zE 67 [(zf25 N nb g),.p (.seq true 1 c (fun i=>[.int .i64 (s i)]))] [] (.p (.bool false)),(false=false),(IL 0 (↑m:Int)),(IT (↑m:Int) (↑P:Int)),(NT m P),(AG (F m)),(AG (F m&&!(↑m:Int)==0)),(((F m)=true)→((((↑m:Int)==0)=false)→ ((F m&&!(↑m:Int)==0)=true))),((false=true)→ ((P:Nat)=1)),(ZLo ((↑m:Int)+1)),(ZHi ((↑m:Int)+1)),(AI ((↑N:Int))),(AN nb),(AP nb (fun i=>[.int .i64 ((g i).1),.int .i64 ((g i).2.1),.int .i64 ((g i).2.2.1),.int .i64 ((g i).2.2.2.1)])),(AN 0),(AN P),(AI ((↑P:Int))),((((↑m:Int)+1):Int)=(↑(m+1):Int)),(AN 2),(NL 1 1),(NL P P),(CV [(1,⟨false,1,P,(fun i_1=>(if (i_1=m) then [.p (.bool (bif F m then bif (↑m:Int)==0 then true else decide ((↑c:Int)≤2*(↑d:Int) - 2) else false))] else [.p (.bool (F i_1))]))⟩),(3,⟨false,1,q,(fun i_1=>[.p (.int .i64 (p2 i_1))])⟩),(0,⟨true,2,1,(fun i_1=>[.p (.int .i64 (↑N:Int)),.p (.seq true 4 nb (fun i_2=>[.int .i64 ((g i_2).1),.int .i64 ((g i_2).2.1),.int .i64 ((g i_2).2.2.1),.int .i64 ((g i_2).2.2.2.1)]))])⟩),(2,⟨false,1,c,(fun i_1=>[.p (.int .i64 (s i_1))])⟩)] [0,1] 1 P (fun i=>if (i=m) then [.p (.bool (bif F m then bif (↑m:Int)==0 then true else decide ((↑c:Int)≤2*(↑d:Int) - 2) else false))] else [.p (.bool (F i))]) (fun i=>[.p (.bool (up F m (bif F m then bif (↑m:Int)==0 then true else decide ((↑c:Int)≤2*(↑d:Int) - 2) else false) i))]))] [0,1,2,1,3,4,5,6,7,8,9,10,11,12,13,14,15,16,16,17,17,17,16,18,16,13,14,15,19,20,21,22,23,24,25,25,26,27,28,29,30,30,22,23,24,9,31,32]):=by kernel_rfl
theorem gQe (g:Nat→T_GainBar) (nb N P m:Nat) (F F2:Nat→Bool) :
    zP Try.f63 0 [rg 1,.dec false,rg 2] zf38 (GQ0 g nb N P m F) [1] 1 [(0,bObW P F2)] (.ar 1 0 0 P) =
    some [((decide ((↑m:Int)<(↑P:Int)))=false),(AN 0),(AN P),(AN 1),(NL P P),(∀ i:Nat,(((i:Nat)<P)→(All []∧(([.p (.bool (F i))]:List AV)=[.p (.bool (F2 i))])))),(AE P)]:=by kernel_rfl
theorem gIn (v:T_GainGraph) :
    zS Try.f10 [rg 2,rm [(1,oc [] (.p (.bool false)))] 1,.dec true,rg 1] [gnA v.2.1.2 v.2.1.1 v.1] [] [] (.p (.bool false)) =
    some [(NT 0 1),zE 26 [(zf19 v)] [] (.p (.bool false)),((!false)=true),(false=false)]:=by kernel_rfl
theorem gIy (v:T_GainGraph) (P:Nat) (F:Nat→Bool) :
    zS Try.f10 [rg 2,rm [(1,oc [] (.p (.bool true)))] 1,.dec false,rm [(1,oc [(0,bObW P F)] (.ar 1 0 0 P))] 1,rg 7] [gnA v.2.1.2 v.2.1.1 v.1] [] [] (.p (.bool (F (P - 1)))) =
    some [(NT 0 1),zE 26 [(zf19 v)] [] (.p (.bool true)),((!true)=false),(NT 0 1),zE 63 [(zf19 v)] [(0,⟨false,1,P,(fun i=>[.p (.bool (F i))])⟩)] (.ar 1 0 0 P),(ZLo ((↑P:Int) - 1)),(ZHi ((↑P:Int) - 1)),(IL 0 ((↑P:Int) - 1)),(IT ((↑P:Int) - 1) (↑P:Int)),(NT (((↑P:Int) - 1).toNat) P),((F ((↑P:Int) - 1).toNat)=(F (P - 1)))]:=by kernel_rfl
theorem gTn (v:T_GainGraph) :
    zS Try.f11 [rg 2,rm [(1,oc [] (.p (.bool false)))] 1,.dec true,rg 1] [gnA v.2.1.2 v.2.1.1 v.1] [] [] (.p (.bool false)) =
    some [(NT 0 1),zE 15 [(zf19 v)] [] (.p (.bool false)),((!false)=true),(false=false)]:=by kernel_rfl
theorem gTz (g:Nat→T_GainBar) (nb N:Nat) :
    zT Try.f11 [rg 2,rm [(1,oc [] (.p (.bool true)))] 1,.dec false,rg 1,.head] [gnA g nb N] [0] (GT0 g nb N 1) =
    some (zf39,zD [(NT 0 1),zE 15 [(zf25 N nb g)] [] (.p (.bool true)),((!true)=false),(AI ((↑N:Int))),(AN nb),(AP nb (fun i=>[.int .i64 ((g i).1),.int .i64 ((g i).2.1),.int .i64 ((g i).2.2.1),.int .i64 ((g i).2.2.2.1)])),(AN 0),((1:Int)=(↑1:Int)),((([AV.p (PV.int IntKind.i64 (↑N:Int)),gnL g nb].length):Nat)=2),(NL 1 1)] [0,1,2,3,4,5,6,7,8,9,9,3,4,5]):=by kernel_rfl
theorem gTt (g:Nat→T_GainBar) (nb N m c d:Nat) (s:Nat→Int) :
    zM 0 [rg 6,.dec true,rm [(4,oc [(0,iObW c s)] (.ar 1 0 0 c))] 1,rm [(2,oc [] (.p (.int .i64 d)))] 3,rm [(2,oc [] (.p (.bool true)))] 0,.dec true,rg 3,rg 4,.dec false,rg 3,.head] zf39 (GT0 g nb N m) [0] 1 (GT0 g nb N (m+1)) =
    some (zf39,zD [(NT 0 1),(IL 0 (↑nb:Int)),((decide ((↑m:Int)<shlI IntKind.i64 1 (↑nb:Int)))=true),zE 64 [.p (.int .i64 (↑nb:Int)),.p (.int .i64 (↑m:Int))] [(0,⟨false,1,c,(fun i=>[.p (.int .i64 (s i))])⟩)] (.ar 1 0 0 c),(AN 1),(NL c c),zE 65 [(zf25 N nb g),.p (.seq true 1 c (fun i=>[.int .i64 (s i)]))] [] (.p (.int .i64 (↑d:Int))),(ZLo (2*(↑d:Int))),(ZHi (2*(↑d:Int))),(ZLo (2*(↑d:Int) - 2)),(ZHi (2*(↑d:Int) - 2)),zE 18 [(zf25 N nb g),.p (.seq true 1 c (fun i=>[.int .i64 (s i)]))] [] (.p (.bool true)),(true=true),(ZLo (2*(↑d:Int) - 2 - 1)),(ZHi (2*(↑d:Int) - 2 - 1)),((decide ((↑c:Int)>2*(↑d:Int) - 2 - 1))=false),(ZLo ((↑m:Int)+1)),(ZHi ((↑m:Int)+1)),(AI ((↑N:Int))),(AN nb),(AP nb (fun i=>[.int .i64 ((g i).1),.int .i64 ((g i).2.1),.int .i64 ((g i).2.2.1),.int .i64 ((g i).2.2.2.1)])),(AN 0),((((↑m:Int)+1):Int)=(↑(m+1):Int)),(AN 2),(NL 1 1)] [0,1,2,0,3,0,4,5,6,7,8,9,10,0,4,5,11,12,13,14,15,16,17,18,19,20,21,22,23,24,24,18,19,20]):=by kernel_rfl
theorem gTx (g:Nat→T_GainBar) (nb N m c d:Nat) (s:Nat→Int) :
    zP Try.f11 0 [rg 6,.dec true,rm [(4,oc [(0,iObW c s)] (.ar 1 0 0 c))] 1,rm [(2,oc [] (.p (.int .i64 d)))] 3,rm [(2,oc [] (.p (.bool true)))] 0,.dec true,rg 3,rg 4,.dec true,rg 1] zf39 (GT0 g nb N m) [] 1 [] (.p (.bool false)) =
    some [(NT 0 1),(IL 0 (↑nb:Int)),((decide ((↑m:Int)<shlI IntKind.i64 1 (↑nb:Int)))=true),(NT 0 1),zE 64 [.p (.int .i64 (↑nb:Int)),.p (.int .i64 (↑m:Int))] [(0,⟨false,1,c,(fun i=>[.p (.int .i64 (s i))])⟩)] (.ar 1 0 0 c),(NT 0 1),(AN 1),(NL c c),zE 65 [(zf25 N nb g),.p (.seq true 1 c (fun i=>[.int .i64 (s i)]))] [] (.p (.int .i64 (↑d:Int))),(ZLo (2*(↑d:Int))),(ZHi (2*(↑d:Int))),(ZLo (2*(↑d:Int) - 2)),(ZHi (2*(↑d:Int) - 2)),(NT 0 1),(AN 1),(NL c c),zE 18 [(zf25 N nb g),.p (.seq true 1 c (fun i=>[.int .i64 (s i)]))] [] (.p (.bool true)),(true=true),(ZLo (2*(↑d:Int) - 2 - 1)),(ZHi (2*(↑d:Int) - 2 - 1)),((decide ((↑c:Int)>2*(↑d:Int) - 2 - 1))=true),(false=false)]:=by kernel_rfl
theorem gTf (g:Nat→T_GainBar) (nb N m c d:Nat) (s:Nat→Int) :
    zM 0 [rg 6,.dec true,rm [(4,oc [(0,iObW c s)] (.ar 1 0 0 c))] 1,rm [(2,oc [] (.p (.int .i64 d)))] 3,rm [(2,oc [] (.p (.bool false)))] 0,.dec false,rg 4,.dec false,rg 3,.head] zf39 (GT0 g nb N m) [0] 1 (GT0 g nb N (m+1)) =
    some (zf39,zD [(NT 0 1),(IL 0 (↑nb:Int)),((decide ((↑m:Int)<shlI IntKind.i64 1 (↑nb:Int)))=true),zE 64 [.p (.int .i64 (↑nb:Int)),.p (.int .i64 (↑m:Int))] [(0,⟨false,1,c,(fun i=>[.p (.int .i64 (s i))])⟩)] (.ar 1 0 0 c),(AN 1),(NL c c),zE 65 [(zf25 N nb g),.p (.seq true 1 c (fun i=>[.int .i64 (s i)]))] [] (.p (.int .i64 (↑d:Int))),(ZLo (2*(↑d:Int))),(ZHi (2*(↑d:Int))),(ZLo (2*(↑d:Int) - 2)),(ZHi (2*(↑d:Int) - 2)),zE 18 [(zf25 N nb g),.p (.seq true 1 c (fun i=>[.int .i64 (s i)]))] [] (.p (.bool false)),(false=false),((decide ((↑c:Int)>2*(↑d:Int) - 2))=false),(ZLo ((↑m:Int)+1)),(ZHi ((↑m:Int)+1)),(AI ((↑N:Int))),(AN nb),(AP nb (fun i=>[.int .i64 ((g i).1),.int .i64 ((g i).2.1),.int .i64 ((g i).2.2.1),.int .i64 ((g i).2.2.2.1)])),(AN 0),((((↑m:Int)+1):Int)=(↑(m+1):Int)),(AN 2),(NL 1 1)] [0,1,2,0,3,0,4,5,6,7,8,9,10,0,4,5,11,12,13,14,15,16,17,18,19,20,21,22,22,16,17,18]):=by kernel_rfl
theorem gTy (g:Nat→T_GainBar) (nb N m c d:Nat) (s:Nat→Int) :
    zP Try.f11 0 [rg 6,.dec true,rm [(4,oc [(0,iObW c s)] (.ar 1 0 0 c))] 1,rm [(2,oc [] (.p (.int .i64 d)))] 3,rm [(2,oc [] (.p (.bool false)))] 0,.dec false,rg 4,.dec true,rg 1] zf39 (GT0 g nb N m) [] 1 [] (.p (.bool false)) =
    some (zD [(NT 0 1),(IL 0 (↑nb:Int)),((decide ((↑m:Int)<shlI IntKind.i64 1 (↑nb:Int)))=true),zE 64 [.p (.int .i64 (↑nb:Int)),.p (.int .i64 (↑m:Int))] [(0,⟨false,1,c,(fun i=>[.p (.int .i64 (s i))])⟩)] (.ar 1 0 0 c),(AN 1),(NL c c),zE 65 [(zf25 N nb g),.p (.seq true 1 c (fun i=>[.int .i64 (s i)]))] [] (.p (.int .i64 (↑d:Int))),(ZLo (2*(↑d:Int))),(ZHi (2*(↑d:Int))),(ZLo (2*(↑d:Int) - 2)),(ZHi (2*(↑d:Int) - 2)),zE 18 [(zf25 N nb g),.p (.seq true 1 c (fun i=>[.int .i64 (s i)]))] [] (.p (.bool false)),(false=false),((decide ((↑c:Int)>2*(↑d:Int) - 2))=true)] [0,1,2,0,3,0,4,5,6,7,8,9,10,0,4,5,11,12,13,12]):=by kernel_rfl
theorem gTe (g:Nat→T_GainBar) (nb N m:Nat) :
    zP Try.f11 0 [rg 6,.dec false,rg 1] zf39 (GT0 g nb N m) [] 1 [] (.p (.bool true)) =
    some [(NT 0 1),(IL 0 (↑nb:Int)),((decide ((↑m:Int)<shlI IntKind.i64 1 (↑nb:Int)))=false),(true=true)]:=by kernel_rfl
end Go.Proofs.Ytgabljneilgilaa.Mach
namespace Go.Proofs.Ytgabljneilgilaa.Sub
set_option linter.unusedVariables false
set_option linter.unusedSimpArgs false
def sel {α:Type} (g:Nat→α) (B:Nat→Bool):Nat→List α
  | 0=>[]
  | n+1=>if B n=true then sel g B n++[g n] else sel g B n
def cntB (B:Nat→Bool):Nat→Nat
  | 0=>0
  | n+1=>if B n=true then cntB B n+1 else cntB B n
theorem sel_len {α:Type} (g:Nat→α) (B:Nat→Bool):∀ n,(sel g B n).length=cntB B n
  | 0=>rfl
  | n+1=>by
    simp only [sel,cntB]
    split<;>simp [sel_len g B n]
theorem sel_congr {α:Type} {g h:Nat→α} {B C:Nat→Bool}:∀ n,(∀ i,i<n→B i=C i)→(∀ i,i<n→g i=h i)→sel g B n=sel h C n
  | 0,_,_=>rfl
  | n+1,h1,h2=>by
    simp only [sel]
    rw [sel_congr n (fun i hi=>h1 i (by omega)) (fun i hi=>h2 i (by omega)),h1 n (by omega),h2 n (by omega)]
theorem cntB_congr {B C:Nat→Bool}:∀ n,(∀ i,i<n→B i=C i)→cntB B n=cntB C n
  | 0,_=>rfl
  | n+1,h1=>by
    simp only [cntB]
    rw [cntB_congr n (fun i hi=>h1 i (by omega)),h1 n (by omega)]
theorem sel_mem {α:Type} (g:Nat→α) (B:Nat→Bool) (x:α):∀ n,x∈sel g B n↔∃ i,i<n∧B i=true∧g i=x
  | 0=>by simp [sel]
  | n+1=>by
    have ih:=sel_mem g B x n
    simp only [sel]
    split
    · rename_i h
      simp only [List.mem_append,List.mem_cons,List.not_mem_nil,or_false,ih]
      constructor
      · rintro (⟨i,h1,h2⟩ | h1)
        · exact ⟨i,by omega,h2⟩
        · exact ⟨n,by omega,h,h1.symm⟩
      · rintro ⟨i,h1,h2,h3⟩
        by_cases e:i=n
        · subst e;exact .inr h3.symm
        · exact .inl ⟨i,by omega,h2,h3⟩
    · rename_i h
      rw [ih]
      constructor
      · rintro ⟨i,h1,h2⟩;exact ⟨i,by omega,h2⟩
      · rintro ⟨i,h1,h2,h3⟩
        by_cases e:i=n
        · subst e;exact absurd h2 h
        · exact ⟨i,by omega,h2,h3⟩
def Row {α:Type} (g:Nat→α) (M:Nat→Bool) (n:Nat) (h:Nat→α):Prop:=∀ i,i<cntB M n→(sel g M n)[i]? = some (h i)
def Sub (K M:Nat→Bool):Prop:=∀ i,K i=true→M i=true
theorem Row.prev {α:Type} {g h:Nat→α} {M:Nat→Bool} {n:Nat} (hr:Row g M (n+1) h):Row g M n h:=by
  intro i hi
  have h1:=hr i (by simp only [cntB];split<;>omega)
  simp only [sel] at h1
  split at h1
  · rw [List.getElem?_append_left (by rw [sel_len];exact hi)] at h1;exact h1
  · exact h1
theorem Row.last {α:Type} {g h:Nat→α} {M:Nat→Bool} {n:Nat} (hr:Row g M (n+1) h) (hM:M n=true):h (cntB M n)=g n:=by
  have h1:=hr (cntB M n) (by simp [cntB,hM])
  simp only [sel,hM,if_true] at h1
  rw [List.getElem?_append_right (by rw [sel_len];exact Nat.le_refl _),sel_len,Nat.sub_self] at h1
  simpa using h1.symm
theorem Row.down {α:Type} {g h:Nat→α} {M:Nat→Bool}:∀ {n:Nat},Row g M n h→∀ B:Nat→Bool,∃ K,Sub K M∧sel h B (cntB M n)=sel g K n
  | 0,_,B=>⟨fun _=>false,fun i h=>by simp at h,rfl⟩
  | n+1,hr,B=>by
    obtain ⟨K,h1,h2⟩:=Row.down hr.prev B
    cases hM:M n with
    | false =>
      refine ⟨fun i=>if i=n then false else K i,fun i h=>?_,?_⟩
      · by_cases e:i=n
        · simp [e] at h
        · simp [e] at h;exact h1 i h
      · simp only [cntB,hM,Bool.false_eq_true,if_false,sel,if_true]
        rw [h2]
        exact sel_congr n (fun i hi=>by simp [show i≠n by omega]) (fun i hi=>rfl)
    | true =>
      refine ⟨fun i=>if i=n then B (cntB M n) else K i,fun i h=>?_,?_⟩
      · by_cases e:i=n
        · subst e;exact hM
        · simp [e] at h;exact h1 i h
      · have hl:=hr.last hM
        have he:sel g (fun i=>if i=n then B (cntB M n) else K i) n=sel g K n:=sel_congr n (fun i hi=>by simp [show i≠n by omega]) (fun i hi=>rfl)
        simp only [cntB,hM,if_true,sel]
        rw [h2,hl,he]
theorem Row.up {α:Type} {g h:Nat→α} {M:Nat→Bool}:∀ {n:Nat},Row g M n h→∀ K:Nat→Bool,Sub K M→∃ B,sel h B (cntB M n)=sel g K n
  | 0,_,K,_=>⟨fun _=>false,rfl⟩
  | n+1,hr,K,hK=>by
    obtain ⟨B,h2⟩:=Row.up hr.prev K hK
    cases hM:M n with
    | false =>
      have hKn:K n=false:=by
        cases e:K n with
        | false=>rfl
        | true=>rw [hK n e] at hM;cases hM
      exact ⟨B,by simp only [cntB,hM,Bool.false_eq_true,if_false,sel,hKn];exact h2⟩
    | true =>
      have hl:=hr.last hM
      refine ⟨fun i=>if i=cntB M n then K n else B i,?_⟩
      have he:sel h (fun i=>if i=cntB M n then K n else B i) (cntB M n)=sel h B (cntB M n):=sel_congr _ (fun i hi=>by simp [show i≠cntB M n by omega]) (fun i hi=>rfl)
      simp only [cntB,hM,if_true,sel]
      rw [he,h2,hl]
def All {α:Type} (ok:List α→Prop) (g:Nat→α) (M:Nat→Bool) (n:Nat):Prop:=∀ K,Sub K M→sel g K n≠[]→ok (sel g K n)
theorem Row.all {α:Type} {ok:List α→Prop} {g h:Nat→α} {M:Nat→Bool} {n:Nat} (hr:Row g M n h):All ok h (fun _=>true) (cntB M n)↔All ok g M n:=by
  constructor
  · intro H K hK hne
    obtain ⟨B,hB⟩:=hr.up K hK
    rw [← hB] at hne ⊢
    exact H B (fun _ _=>rfl) hne
  · intro H B _ hne
    obtain ⟨K,hK,he⟩:=hr.down B
    rw [he] at hne ⊢
    exact H K hK hne
def drop1 (M:Nat→Bool) (e:Nat) (i:Nat):Bool:=if i=e then false else M i
theorem all_step {α:Type} {ok:List α→Prop} {g:Nat→α} {M:Nat→Bool} {n:Nat}:All ok g M n↔(∀ e,e<n→M e=true→All ok g (drop1 M e) n)∧(sel g M n≠[]→ok (sel g M n)):=by
  constructor
  · intro H
    refine ⟨fun e _ _ K hK hne=>H K (fun i hi=>?_) hne,fun hne=>H M (fun _ h=>h) hne⟩
    have:=hK i hi
    unfold drop1 at this
    split at this
    · cases this
    · exact this
  · rintro ⟨h1,h2⟩ K hK hne
    by_cases h:∃ e,e<n∧M e=true∧K e=false
    · obtain ⟨e,he,hM,hKe⟩:=h
      refine h1 e he hM K (fun i hi=>?_) hne
      unfold drop1
      by_cases e':i=e
      · subst e';rw [hKe] at hi;cases hi
      · simp [e',hK i hi]
    · have he:sel g K n=sel g M n:=sel_congr n (fun i hi=>by
        cases hM:M i with
        | false =>
          cases hk:K i with
          | false=>rfl
          | true=>rw [hK i hk] at hM;cases hM
        | true =>
          cases hk:K i with
          | true=>rfl
          | false=>exact absurd ⟨i,hi,hM,hk⟩ h) (fun i hi=>rfl)
      rw [he] at hne ⊢
      exact h2 hne
theorem all_congr {α:Type} {ok:List α→Prop} {g:Nat→α} {M M':Nat→Bool} {n:Nat} (h:∀ i,i<n→M i=M' i):All ok g M n↔All ok g M' n:=by
  have key:∀ M M':Nat→Bool,(∀ i,i<n→M i=M' i)→All ok g M n→All ok g M' n:=by
    intro M M' h H K hK hne
    have e:sel g K n=sel g (fun i=>if i<n then K i else false) n:=sel_congr n (fun i hi=>by simp [hi]) (fun i hi=>rfl)
    rw [e] at hne ⊢
    refine H _ (fun i hi=>?_) hne
    by_cases hin:i<n
    · simp [hin] at hi;rw [h i hin];exact hK i hi
    · simp [hin] at hi
  exact ⟨key M M' h,key M' M (fun i hi=>(h i hi).symm)⟩
theorem mask_of (B:Nat→Bool):∀ n,∃ m,m<2 ^ n∧∀ i,i<n→m.testBit i=B i
  | 0=>⟨0,by simp,fun i hi=>absurd hi (Nat.not_lt_zero _)⟩
  | n+1=>by
    obtain ⟨m,h1,h2⟩:=mask_of B n
    cases hB:B n with
    | false =>
      refine ⟨m,by rw [Nat.pow_succ];omega,fun i hi=>?_⟩
      by_cases e:i=n
      · subst e;rw [hB];exact Nat.testBit_lt_two_pow h1
      · exact h2 i (by omega)
    | true =>
      refine ⟨2 ^ n+m,by rw [Nat.pow_succ];omega,fun i hi=>?_⟩
      by_cases e:i=n
      · subst e;rw [hB,Nat.testBit_two_pow_add_eq,Nat.testBit_lt_two_pow h1];rfl
      · rw [Nat.testBit_two_pow_add_gt (by omega)];exact h2 i (by omega)
end Go.Proofs.Ytgabljneilgilaa.Sub
namespace Go.Proofs.Ytgabljneilgilaa.Mach
open Go BL
set_option linter.unusedVariables false
set_option linter.unusedSimpArgs false
def stD (w:Nat):Nat→T_IntS
  | 0=>(0,fun _=>0)
  | i+1=>if btI w i=true then ((stD w i).1+1,fun s=>if s<(stD w i).1 then (stD w i).2 s else i) else stD w i
theorem stD_n (w:Nat):∀ i,(stD w i).1≤i
  | 0=>Nat.le_refl _
  | i+1=>by
    have:=stD_n w i
    simp only [stD]
    split
    · show (stD w i).1+1≤i+1;omega
    · omega
theorem con_setOf (w M:Nat) (hM:M≤62):zE 66 [.p (.int .i64 w),.p (.int .i64 M)] [(0,iObW (stD w M).1 (stD w M).2)] (.ar 1 0 0 (stD w M).1):=by
  refine csZ Try.func66 (fun c hc=>?_)
  generalize hR:stD w M=R
  have lo:∀ d i,i+d=M→zR c 66 zf35 (GSo w M i (stD w i).1 (stD w i).2) (Post c [(0,iObW R.1 R.2)] (.ar 1 0 0 R.1)):=by
    intro d
    induction d with
    | zero =>
      intro i hi
      obtain rfl:i=M:=by omega
      have hd:decide ((i:Int)<(i:Int))=false:=by simp
      rw [hR]
      refine pkZ Try.func66 hc (gOe w i i R.1 R.2) ?_
      and_intros
      all_goals (first | exact zN | (exact hd) | (intro t ht;simp [All]))
    | succ d ih =>
      intro i hi
      have hd:decide ((i:Int)<(M:Int))=true:=decide_eq_true (by omega)
      have hrec:=ih (i+1) (by omega)
      have hn:=stD_n w i
      cases hb:btI w i with
      | true =>
        rw [show stD w (i+1)=((stD w i).1+1,fun s=>if s<(stD w i).1 then (stD w i).2 s else i) by simp [stD,hb]] at hrec
        generalize stD w i=q at hn hrec ⊢
        refine pcZ hc (gOt w M i q.1 q.2) ?_ hrec
        and_intros
        all_goals (first | exact zN | (exact hd) | (exact hb) | (intro t ht;by_cases h':t<q.1<;>simp [h',cvtL,cvt,tg,tru,All]))
      | false =>
        rw [show stD w (i+1)=stD w i by simp [stD,hb]] at hrec
        generalize stD w i=q at hn hrec ⊢
        refine pcZ hc (gOf w M i q.1 q.2) ?_ hrec
        and_intros
        all_goals (first | exact zN | (exact hd) | (exact hb) | (intro t ht;simp [All]))
  refine pcZ hc (gOz w M) ?_ (lo M 0 (by omega))
  and_intros
  all_goals (first | exact zN | (intro t ht;exact absurd ht (Nat.not_lt_zero _)) | (intro t ht;simp [All]))
theorem con_l3Set (w M:Nat) (hM:M≤62):zE 64 [.p (.int .i64 M),.p (.int .i64 w)] [(0,iObW (stD w M).1 (stD w M).2)] (.ar 1 0 0 (stD w M).1):=by
  refine csZ Try.func64 (fun c hc=>?_)
  generalize hR:stD w M=R
  have lo:∀ d i,i+d=M→zR c 64 zf36 (GSl w M i (stD w i).1 (stD w i).2) (Post c [(0,iObW R.1 R.2)] (.ar 1 0 0 R.1)):=by
    intro d
    induction d with
    | zero =>
      intro i hi
      obtain rfl:i=M:=by omega
      have hd:decide ((i:Int)<(i:Int))=false:=by simp
      rw [hR]
      refine pkZ Try.func64 hc (gLe w i i R.1 R.2) ?_
      and_intros
      all_goals (first | exact zN | (exact hd) | (intro t ht;simp [All]))
    | succ d ih =>
      intro i hi
      have hd:decide ((i:Int)<(M:Int))=true:=decide_eq_true (by omega)
      have hrec:=ih (i+1) (by omega)
      have hn:=stD_n w i
      cases hb:btI w i with
      | true =>
        rw [show stD w (i+1)=((stD w i).1+1,fun s=>if s<(stD w i).1 then (stD w i).2 s else i) by simp [stD,hb]] at hrec
        generalize stD w i=q at hn hrec ⊢
        refine pcZ hc (gLt w M i q.1 q.2) ?_ hrec
        and_intros
        all_goals (first | exact zN | (exact hd) | (exact hb) | (intro t ht;by_cases h':t<q.1<;>simp [h',cvtL,cvt,tg,tru,All]))
      | false =>
        rw [show stD w (i+1)=stD w i by simp [stD,hb]] at hrec
        generalize stD w i=q at hn hrec ⊢
        refine pcZ hc (gLf w M i q.1 q.2) ?_ hrec
        and_intros
        all_goals (first | exact zN | (exact hd) | (exact hb) | (intro t ht;simp [All]))
  refine pcZ hc (gLz w M) ?_ (lo M 0 (by omega))
  and_intros
  all_goals (first | exact zN | (intro t ht;exact absurd ht (Nat.not_lt_zero _)) | (intro t ht;simp [All]))
def bkL (g:Nat→T_GainBar) (n:Nat) (s:Nat→Int):List T_GainBar:=(List.range n).map fun i=>gb g s i
theorem bkL_len (g:Nat→T_GainBar) (n:Nat) (s:Nat→Int):(bkL g n s).length=n:=by simp [bkL]
theorem bkL_mem (g:Nat→T_GainBar) (n:Nat) (s:Nat→Int) (b:T_GainBar):b∈bkL g n s↔∃ i,i<n∧gb g s i=b:=by simp [bkL]
theorem st_sel (g:Nat→T_GainBar) (w:Nat) (hw:w<2 ^ 62):∀ n,n≤62→bkL g (stD w n).1 (stD w n).2=Sub.sel g w.testBit n
  | 0,_=>rfl
  | n+1,h=>by
    have ih:=st_sel g w hw n (by omega)
    have hb:=bt_test w n hw (by omega)
    simp only [stD,Sub.sel]
    rw [hb]
    split
    · simp only [bkL,List.range_succ,List.map_append,List.map_cons,List.map_nil]
      rw [← ih]
      congr 1
      · refine List.map_congr_left (fun i hi=>?_)
        have hi:=List.mem_range.1 hi
        simp [gb,hi]
      · simp [gb]
    · exact ih
theorem st_at (w:Nat) (hw:w<2 ^ 62):∀ n,n≤62→∀ i,i<(stD w n).1→∃ e:Nat,(stD w n).2 i=(e:Int)∧e<n∧w.testBit e=true∧(∀ j,j<i→(stD w n).2 j<(e:Int))
  | 0,_,i,hi=>absurd hi (Nat.not_lt_zero _)
  | n+1,h,i,hi=>by
    have ih:=st_at w hw n (by omega)
    have hb:=bt_test w n hw (by omega)
    simp only [stD] at hi ⊢
    split at hi
    · rename_i hbt
      rw [if_pos hbt]
      have hi':i<(stD w n).1+1:=hi
      show ∃ e:Nat,(if i<(stD w n).1 then (stD w n).2 i else (n:Int))=(e:Int)∧e<n+1∧w.testBit e=true∧∀ j,j<i→(if j<(stD w n).1 then (stD w n).2 j else (n:Int))<(e:Int)
      by_cases e:i<(stD w n).1
      · obtain ⟨x,h1,h2,h3,h4⟩:=ih i e
        exact ⟨x,by rw [if_pos e];exact h1,by omega,h3,fun j hj=>by rw [if_pos (by omega)];exact h4 j hj⟩
      · refine ⟨n,by rw [if_neg e],by omega,by rw [← hb];exact hbt,fun j hj=>?_⟩
        obtain ⟨x,h1,h2,_⟩:=ih j (by omega)
        rw [if_pos (by omega),h1];omega
    · rename_i hbt
      rw [if_neg hbt]
      obtain ⟨x,h1,h2,h3⟩:=ih i hi
      exact ⟨x,h1,by omega,h3⟩
theorem st_has (w:Nat) (hw:w<2 ^ 62):∀ n,n≤62→∀ e,e<n→w.testBit e=true→∃ i,i<(stD w n).1∧(stD w n).2 i=(e:Int)
  | 0,_,e,he,_=>absurd he (Nat.not_lt_zero _)
  | n+1,h,e,he,ht=>by
    have ih:=st_has w hw n (by omega)
    have hb:=bt_test w n hw (by omega)
    by_cases h1:btI w n=true
    · have hs:stD w (n+1)=((stD w n).1+1,fun s=>if s<(stD w n).1 then (stD w n).2 s else n):=by simp [stD,h1]
      rw [hs]
      by_cases e':e=n
      · subst e';exact ⟨(stD w e).1,Nat.lt_succ_self _,by simp⟩
      · obtain ⟨i,h2,h3⟩:=ih e (by omega) ht
        exact ⟨i,Nat.lt_succ_of_lt h2,by show (if i<(stD w n).1 then (stD w n).2 i else (n:Int))=_;rw [if_pos h2];exact h3⟩
    · have hs:stD w (n+1)=stD w n:=by simp [stD,h1]
      rw [hs]
      refine ih e ?_ ht
      by_cases e':e=n
      · subst e';rw [hb] at h1;exact absurd ht h1
      · omega
theorem st_good (w nb:Nat) (hw:w<2 ^ 62) (hn:nb≤62):goodS nb (stD w nb).2 (stD w nb).1=true:=by
  have key:∀ k,k≤(stD w nb).1→goodS nb (stD w nb).2 k=true:=by
    intro k
    induction k with
    | zero=>intro _;rfl
    | succ k ih =>
      intro hk
      obtain ⟨e,h1,h2,_,h4⟩:=st_at w hw nb hn k (by omega)
      simp only [goodS,ih (by omega),Bool.true_and,Bool.not_eq_true']
      unfold badS
      rw [h1,decide_eq_false (by omega),decide_eq_false (show ¬ (e:Int)≥(nb:Int) by omega)]
      simp only [cond_false]
      by_cases h0:(k:Int)>0
      · rw [decide_eq_true h0]
        have:=h4 (k - 1) (by omega)
        rw [show ((k:Int) - 1).toNat=k - 1 by omega]
        simp only [cond_true,decide_eq_false_iff_not]
        omega
      · rw [decide_eq_false h0];rfl
  exact key _ (Nat.le_refl _)
def pB (L:List T_GainBar) (v:Nat):Bool:=L.any fun b=>b.1==(v:Int)||b.2.1==(v:Int)
def ptN (N:Nat) (L:List T_GainBar):Nat:=Sub.cntB (pB L) N
open Classical in
noncomputable def balL (L:List T_GainBar):Bool:=decide (∃ p q:Nat→Int,∀ b∈L,p b.1.toNat+b.2.2.1=p b.2.1.toNat∧q b.1.toNat+b.2.2.2.1=q b.2.1.toNat)
noncomputable def mostL (N:Nat) (L:List T_GainBar):Int:=if balL L=true then 2*(ptN N L:Int) - 2 - 1 else 2*(ptN N L:Int) - 2
def okG (N:Nat) (L:List T_GainBar):Prop:=(L.length:Int)≤mostL N L
theorem cntB_le (B:Nat→Bool):∀ n,Sub.cntB B n≤n
  | 0=>Nat.le_refl _
  | n+1=>by
    have:=cntB_le B n
    simp only [Sub.cntB]
    split<;>omega
theorem balP_L (g:Nat→T_GainBar) (N n:Nat) (s:Nat→Int):balP g N n s=balL (bkL g n s):=by
  unfold balP balL
  congr 1
  apply propext
  constructor
  · rintro ⟨p,q,h⟩
    refine ⟨p,q,fun b hb=>?_⟩
    obtain ⟨i,hi,rfl⟩:=(bkL_mem g n s b).1 hb
    exact h i hi
  · rintro ⟨p,q,h⟩
    exact ⟨p,q,fun i hi=>h _ ((bkL_mem g n s _).2 ⟨i,hi,rfl⟩)⟩
def ptB (g:Nat→T_GainBar) (s:Nat→Int) (v:Nat):Nat→Bool
  | 0=>false
  | k+1=>bif bif ptB g s v k then true else (gb g s k).1==(v:Int) then true else (gb g s k).2.1==(v:Int)
theorem ptB_L (g:Nat→T_GainBar) (s:Nat→Int) (v:Nat):∀ n,ptB g s v n=pB (bkL g n s) v
  | 0=>rfl
  | n+1=>by
    have ih:=ptB_L g s v n
    simp only [ptB,ih,pB,bkL,List.range_succ,List.map_append,List.any_append,List.map_cons,List.map_nil,List.any_cons,List.any_nil]
    cases (List.map (fun i=>gb g s i) (List.range n)).any fun b=>b.1==(v:Int)||b.2.1==(v:Int)<;>simp
theorem con_l29Points {N nb n:Nat} {g:Nat→T_GainBar} {s:Nat→Int} (hN:N≤4) (hnb:nb≤8) (hn:n≤8) (hs:∀ i,i<n→0≤s i∧s i<nb) :
    zE 65 [gnA g nb N,inS n s] [] (.p (.int .i64 (ptN N (bkL g n s)))):=by
  refine csZ Try.func65 (fun c hc=>?_)
  let B:Nat→Bool:=fun v=>ptB g s v n
  have hB:ptN N (bkL g n s)=Sub.cntB B N:=Sub.cntB_congr N (fun v hv=>(ptB_L g s v n).symm)
  rw [hB]
  have li:∀ v,(zR c 65 zf37 (GP0 g nb N n s (v+1) (Sub.cntB B (v+1))) (Post c [] (.p (.int .i64 (Sub.cntB B N)))))→v<N →
      ∀ d k,k+d=n→zR c 65 zf6 (GP1 g nb N n s v (Sub.cntB B v) (ptB g s v k) k) (Post c [] (.p (.int .i64 (Sub.cntB B N)))):=by
    intro v hk hv d
    have hcl:=cntB_le B v
    induction d with
    | zero =>
      intro k hkn
      obtain rfl:k=n:=by omega
      have hd:decide ((k:Int)<(k:Int))=false:=by simp
      cases hb:ptB g s v k with
      | true =>
        rw [show Sub.cntB B (v+1)=Sub.cntB B v+1 by simp only [Sub.cntB];rw [if_pos hb]] at hk
        refine pcD hc (gPt g nb N k s v (Sub.cntB B v) k) ?_ hk
        and_intros
        all_goals (first | exact zN | (exact hd) | (simp;omega))
      | false =>
        rw [show Sub.cntB B (v+1)=Sub.cntB B v by simp only [Sub.cntB];rw [if_neg (by show ¬ ptB g s v k=true;rw [hb];simp)]] at hk
        refine pcD hc (gPf g nb N k s v (Sub.cntB B v) k) ?_ hk
        and_intros
        all_goals (first | exact zN | (exact hd) | (simp;omega))
    | succ d ih =>
      intro k hkn
      have hd:decide ((k:Int)<(n:Int))=true:=decide_eq_true (by omega)
      have hsk:=hs k (by omega)
      refine pcD hc (gPi g nb N n s v (Sub.cntB B v) (ptB g s v k) k) ?_ (ih (k+1) (by omega))
      and_intros
      all_goals (first | exact zH | (exact hd) | (intros;exact hsk.1) | (intros;exact hsk.2) | (intros;omega) | (intro h;exact h) | (intro h;rw [h];rfl) | (intro h1 h2;rw [h1,h2];rfl) | (simp;omega))
  have lo:∀ d v,v+d=N→zR c 65 zf37 (GP0 g nb N n s v (Sub.cntB B v)) (Post c [] (.p (.int .i64 (Sub.cntB B N)))):=by
    intro d
    induction d with
    | zero =>
      intro v hv
      obtain rfl:v=N:=by omega
      have hd:decide ((v:Int)<(v:Int))=false:=by simp
      refine pkZ Try.func65 hc (gPe g nb v n s v (Sub.cntB B v)) ?_
      and_intros
      all_goals (first | exact zN | (exact hd))
    | succ d ih =>
      intro v hv
      have hd:decide ((v:Int)<(N:Int))=true:=decide_eq_true (by omega)
      have:=cntB_le B v
      refine pcD hc (gPo g nb N n s v (Sub.cntB B v)) ?_ (li v (ih (v+1) (by omega)) (by omega) n 0 (by omega))
      and_intros
      all_goals (first | exact zN | (exact hd) | (simp;omega))
  refine pcD hc (gPz g nb N n s) ?_ (lo N 0 (by omega))
  and_intros
  all_goals (first | exact zN | (simp;omega))
theorem cntB_add {B C:Nat→Bool} {x:Nat} (hx:B x=false) (hC:∀ v,C v=if v=x then true else B v):∀ n,x<n→Sub.cntB C n=Sub.cntB B n+1
  | 0,h=>absurd h (Nat.not_lt_zero _)
  | n+1,h=>by
    simp only [Sub.cntB]
    by_cases e:x=n
    · subst e
      rw [Sub.cntB_congr (B:=C) (C:=B) x (fun i hi=>by rw [hC i,if_neg (by omega)]),hC x,if_pos rfl,hx]
      simp
    · have hcn:C n=B n:=by
        rw [hC n]
        exact if_neg (fun h'=>e h'.symm)
      rw [cntB_add hx hC n (by omega),hcn]
      split<;>omega
open Classical in
theorem dist_len {N:Nat} {l:List Int} (hs:l.Pairwise (·≤·)) (h:∀ x∈l,0≤x∧x<N):(cpI l).length=Sub.cntB (fun v=>decide ((v:Int)∈l)) N:=by
  have at_:∀ i,i<l.length→l.toArray[i]! = l.getD i 0:=by
    intro i hi
    rw [getElem!_pos l.toArray i (by simpa using hi)]
    simp [List.getD_eq_getElem?_getD,hi]
  have asc:∀ i j,i≤j→j<l.length→l.toArray[i]!≤l.toArray[j]!:=by
    intro i j hij hj
    rw [at_ i (by omega),at_ j hj]
    by_cases e:i=j
    · subst e;exact Int.le_refl _
    · have:=List.pairwise_iff_getElem.1 hs i j (by omega) hj (by omega)
      simpa [List.getD_eq_getElem?_getD,hj,show i<l.length by omega] using this
  have key:∀ m,m≤l.length→(Lib.compactUpTo l.toArray m).length=Sub.cntB (fun v=>decide (∃ j,j<m∧l.toArray[j]! = (v:Int))) N:=by
    intro m
    induction m with
    | zero =>
      intro _
      rw [show Lib.compactUpTo l.toArray 0=[] from rfl]
      have:∀ n,Sub.cntB (fun v=>decide (∃ j,j<0∧l.toArray[j]! = (v:Int))) n=0:=by
        intro n
        induction n with
        | zero=>rfl
        | succ n ih=>simp only [Sub.cntB,ih];simp
      rw [this];rfl
    | succ m ih =>
      intro hm
      have ih:=ih (by omega)
      rw [Lib.compactUpTo_succ,List.length_append,ih]
      have hx:l.toArray[m]!∈l:=by
        rw [at_ m (by omega),List.getD_eq_getElem?_getD,List.getElem?_eq_getElem (show m<l.length by omega)]
        exact List.getElem_mem _
      have hb:=h _ hx
      have hC:∀ v:Nat,decide (∃ j,j<m+1∧l.toArray[j]! = (v:Int))=if v=l.toArray[m]!.toNat then true else decide (∃ j,j<m∧l.toArray[j]! = (v:Int)):=by
        intro v
        by_cases e:v=l.toArray[m]!.toNat
        · rw [if_pos e]
          exact decide_eq_true ⟨m,by omega,by omega⟩
        · rw [if_neg e]
          congr 1
          apply propext
          constructor
          · rintro ⟨j,h1,h2⟩
            by_cases e':j=m
            · subst e';exact absurd (by omega) e
            · exact ⟨j,by omega,h2⟩
          · rintro ⟨j,h1,h2⟩;exact ⟨j,by omega,h2⟩
      cases hk:Lib.keeps l.toArray m with
      | true =>
        simp only [if_true,List.length_cons,List.length_nil]
        refine (cntB_add (x:=l.toArray[m]!.toNat) ?_ hC N (by omega)).symm
        refine decide_eq_false ?_
        rintro ⟨j,h1,h2⟩
        have h2':l.toArray[j]! = l.toArray[m]!:=by omega
        have a1:=asc j (m - 1) (by omega) (by omega)
        have a2:=asc (m - 1) m (by omega) (by omega)
        unfold Lib.keeps at hk
        simp only [decide_eq_true_eq] at hk
        rcases hk with hk | hk
        · omega
        · exact hk (by omega)
      | false =>
        simp only [Bool.false_eq_true,if_false,List.length_nil,Nat.add_zero]
        refine Sub.cntB_congr N (fun v hv=>?_)
        rw [hC v]
        split
        · rename_i e
          unfold Lib.keeps at hk
          simp only [decide_eq_false_iff_not,not_or,ne_eq,Decidable.not_not] at hk
          exact decide_eq_true ⟨m - 1,by omega,by rw [← hk.2];omega⟩
        · rfl
  rw [show cpI l=Lib.compactUpTo l.toArray l.length from rfl,key _ (Nat.le_refl _)]
  refine Sub.cntB_congr N (fun v hv=>?_)
  congr 1
  apply propext
  rw [List.mem_iff_getElem]
  constructor
  · rintro ⟨j,h1,h2⟩
    refine ⟨j,h1,?_⟩
    rw [at_ j h1] at h2
    simpa [List.getD_eq_getElem?_getD,h1] using h2
  · rintro ⟨j,h1,h2⟩
    refine ⟨j,h1,?_⟩
    rw [at_ j h1]
    simpa [List.getD_eq_getElem?_getD,h1] using h2
def ptsD (g:Nat→T_GainBar) (s:Nat→Int):Nat→T_IntS
  | 0=>(0,fun _=>0)
  | k+1=>((ptsD g s k).1+2,snp (ptsD g s k).1 (ptsD g s k).2 (gb g s k).1 (gb g s k).2.1)
theorem ptsD_n (g:Nat→T_GainBar) (s:Nat→Int):∀ k,(ptsD g s k).1=2*k
  | 0=>rfl
  | k+1=>by
    have:=ptsD_n g s k
    show (ptsD g s k).1+2=_
    omega
theorem ptsD_mem (g:Nat→T_GainBar) (s:Nat→Int) (x:Int):∀ k,x∈lstI (ptsD g s k).1 (ptsD g s k).2↔∃ j,j<k∧((gb g s j).1=x∨(gb g s j).2.1=x)
  | 0=>by simp [lstI,ptsD]
  | k+1=>by
    have ih:=ptsD_mem g s x k
    simp only [lstI,List.mem_map,List.mem_range] at ih ⊢
    show (∃ a,a<(ptsD g s k).1+2∧snp (ptsD g s k).1 (ptsD g s k).2 (gb g s k).1 (gb g s k).2.1 a=x)↔_
    generalize ptsD g s k=r at ih ⊢
    constructor
    · rintro ⟨a,h1,h2⟩
      unfold snp at h2
      by_cases e:a<r.1
      · rw [if_pos e] at h2
        obtain ⟨j,h3,h4⟩:=ih.1 ⟨a,e,h2⟩
        exact ⟨j,by omega,h4⟩
      · rw [if_neg e] at h2
        by_cases e':a=r.1
        · rw [if_pos e'] at h2;exact ⟨k,by omega,.inl h2⟩
        · rw [if_neg e'] at h2;exact ⟨k,by omega,.inr h2⟩
    · rintro ⟨j,h1,h2⟩
      by_cases e:j=k
      · subst e
        rcases h2 with h2 | h2
        · exact ⟨r.1,by omega,by unfold snp;rw [if_neg (by omega),if_pos rfl];exact h2⟩
        · exact ⟨r.1+1,by omega,by unfold snp;rw [if_neg (by omega),if_neg (by omega)];exact h2⟩
      · obtain ⟨a,h3,h4⟩:=ih.2 ⟨j,by omega,h2⟩
        exact ⟨a,by omega,by unfold snp;rw [if_pos h3];exact h4⟩
theorem pts_len {N n:Nat} {g:Nat→T_GainBar} {s:Nat→Int} (hb:∀ i,i<n→0≤(gb g s i).1∧(gb g s i).1<N∧0≤(gb g s i).2.1∧(gb g s i).2.1<N) :
    (cpI (srtI (lstI (ptsD g s n).1 (ptsD g s n).2))).length=ptN N (bkL g n s):=by
  have hm:∀ x,x∈srtI (lstI (ptsD g s n).1 (ptsD g s n).2)↔∃ j,j<n∧((gb g s j).1=x∨(gb g s j).2.1=x):=by
    intro x
    rw [srtI,(List.mergeSort_perm _ _).mem_iff]
    exact ptsD_mem g s x n
  have hsort:(srtI (lstI (ptsD g s n).1 (ptsD g s n).2)).Pairwise (·≤·):=by
    have:=List.pairwise_mergeSort (le:=fun x y:Int=>decide (x≤y)) (fun a b c h1 h2=>by simp only [decide_eq_true_eq] at h1 h2 ⊢;omega) (fun a b=>by simp only [Bool.or_eq_true,decide_eq_true_eq];omega) (lstI (ptsD g s n).1 (ptsD g s n).2)
    exact this.imp (fun {a b} h=>by simpa using h)
  rw [dist_len hsort (fun x hx=>by
    obtain ⟨j,h1,h2⟩:=(hm x).1 hx
    obtain ⟨a1,a2,a3,a4⟩:=hb j h1
    rcases h2 with h2 | h2
    · rw [← h2];exact ⟨a1,a2⟩
    · rw [← h2];exact ⟨a3,a4⟩)]
  refine Sub.cntB_congr N (fun v hv=>?_)
  unfold pB
  rw [Bool.eq_iff_iff]
  simp only [decide_eq_true_eq,hm,List.any_eq_true,Bool.or_eq_true,beq_iff_eq]
  constructor
  · rintro ⟨j,h1,h2⟩
    exact ⟨_,(bkL_mem g n s _).2 ⟨j,h1,rfl⟩,h2⟩
  · rintro ⟨b,h1,h2⟩
    obtain ⟨j,h3,rfl⟩:=(bkL_mem g n s b).1 h1
    exact ⟨j,h3,h2⟩
open Go BL
open Classical in
noncomputable def spB (N:Nat) (g:Nat→T_GainBar) (nb w:Nat):Bool:=decide (Sub.All (okG N) g w.testBit nb)
noncomputable def cjB (N:Nat) (g:Nat→T_GainBar) (nb w:Nat):Nat→Bool
  | 0=>true
  | k+1=>bif cjB N g nb w k then spB N g nb (clI w ((stD w nb).2 k)).toNat else false
theorem pow_62 {n:Nat} (h:n≤8):2 ^ n≤256:=Nat.pow_le_pow_right (by omega) h
theorem shl_8 (n:Nat) (h:n≤8):shlI .i64 1 (n:Int)=((2 ^ n:Nat):Int):=shl_nat n (by omega)
theorem cl_at {nb w:Nat} (hnb:nb≤8) (hw:w<2 ^ nb) {k:Nat} (hk:k<(stD w nb).1):∃ r e:Nat,clI w ((stD w nb).2 k)=(r:Int)∧(stD w nb).2 k=(e:Int)∧e<nb∧w.testBit e=true∧r<w∧∀ i,r.testBit i=(if i=e then false else w.testBit i):=by
  have h8:=pow_62 hnb
  obtain ⟨e,h1,h2,h3,_⟩:=st_at w (by omega) nb (by omega) k hk
  rw [h1]
  obtain ⟨r,g1,g2,g3⟩:=cl_nat w e (by omega) (by omega)
  refine ⟨r,e,g1,rfl,h2,h3,?_,g3⟩
  have hne:r≠w:=by
    intro h
    have:=g3 e
    rw [h,h3,if_pos rfl] at this
    cases this
  omega
theorem sel_nil {g:Nat→T_GainBar} {nb w:Nat} (hw:w<2 ^ nb):Sub.sel g w.testBit nb=[]↔w=0:=by
  constructor
  · intro h
    apply Nat.eq_of_testBit_eq
    intro i
    rw [Nat.zero_testBit]
    cases hb:w.testBit i with
    | false=>rfl
    | true =>
      have hi:i<nb:=by
        rcases Nat.lt_or_ge i nb with h' | h'
        · exact h'
        · rw [Nat.testBit_lt_two_pow (Nat.lt_of_lt_of_le hw (Nat.pow_le_pow_right (by omega) h'))] at hb;cases hb
      have:g i∈Sub.sel g w.testBit nb:=(Sub.sel_mem g _ _ nb).2 ⟨i,hi,hb,rfl⟩
      rw [h] at this;cases this
  · rintro rfl
    have:∀ n,Sub.sel g (Nat.testBit 0) n=[]:=by
      intro n
      induction n with
      | zero=>rfl
      | succ n ih=>simp [Sub.sel,ih]
    exact this nb
theorem cjB_iff {N nb w:Nat} {g:Nat→T_GainBar}:∀ k,cjB N g nb w k=true↔∀ j,j<k→spB N g nb (clI w ((stD w nb).2 j)).toNat=true
  | 0=>by simp [cjB]
  | k+1=>by
    have ih:=cjB_iff (N:=N) (nb:=nb) (w:=w) (g:=g) k
    simp only [cjB]
    cases hc:cjB N g nb w k with
    | true =>
      rw [hc] at ih
      simp only [cond_true]
      constructor
      · intro h j hj
        by_cases e:j=k
        · subst e;exact h
        · exact ih.1 rfl j (by omega)
      · intro h;exact h k (by omega)
    | false =>
      rw [hc] at ih
      simp only [cond_false,Bool.false_eq_true,false_iff]
      intro h
      exact Bool.false_ne_true (ih.2 (fun j hj=>h j (by omega)))
open Classical in
theorem spB_step {N nb w:Nat} {g:Nat→T_GainBar} (hnb:nb≤8) (hw:w<2 ^ nb) :
    spB N g nb w=(bif cjB N g nb w (stD w nb).1 then (bif (w:Int)==0 then true else decide (((stD w nb).1:Int)≤mostL N (bkL g (stD w nb).1 (stD w nb).2))) else false):=by
  have h8:=pow_62 hnb
  have hsel:=st_sel g w (by omega) nb (by omega)
  have hcj:cjB N g nb w (stD w nb).1=true↔∀ e,e<nb→w.testBit e=true→Sub.All (okG N) g (Sub.drop1 w.testBit e) nb:=by
    rw [cjB_iff]
    constructor
    · intro h e he ht
      obtain ⟨i,hi,hs⟩:=st_has w (by omega) nb (by omega) e he ht
      obtain ⟨r,e',g1,g2,_,_,_,g3⟩:=cl_at hnb hw hi
      have:=h i hi
      rw [g1] at this
      have he':e'=e:=by omega
      subst he'
      have h2:Sub.All (okG N) g r.testBit nb:=of_decide_eq_true this
      exact (Sub.all_congr (fun i _=>by rw [g3 i];rfl)).1 h2
    · intro h j hj
      obtain ⟨r,e,g1,g2,g4,g5,_,g3⟩:=cl_at hnb hw hj
      rw [g1]
      exact decide_eq_true ((Sub.all_congr (fun i _=>by rw [Int.toNat_natCast,g3 i];rfl)).2 (h e g4 g5))
  have hst:=Sub.all_step (ok:=okG N) (g:=g) (M:=w.testBit) (n:=nb)
  cases hc:cjB N g nb w (stD w nb).1 with
  | false =>
    refine decide_eq_false (fun h=>?_)
    have:=hcj.2 (hst.1 h).1
    rw [hc] at this;cases this
  | true =>
    have h1:=hcj.1 hc
    by_cases hz:w=0
    · rw [show ((w:Int)==0)=true by rw [hz];rfl]
      exact decide_eq_true (hst.2 ⟨h1,fun hne=>absurd ((sel_nil hw).2 hz) hne⟩)
    · rw [show ((w:Int)==0)=false from beq_eq_false_iff_ne.2 (by omega)]
      simp only [cond_true,cond_false]
      rw [hsel]
      unfold spB
      congr 1
      apply propext
      have hlen:(Sub.sel g w.testBit nb).length=(stD w nb).1:=by rw [← hsel,bkL_len]
      constructor
      · intro h
        have:=(hst.1 h).2 (fun h'=>hz ((sel_nil hw).1 h'))
        unfold okG at this
        rw [hlen] at this
        exact this
      · intro h
        refine hst.2 ⟨h1,fun _=>?_⟩
        unfold okG
        rw [hlen];exact h
theorem rowIx2 (r:Nat):rowIx 2 r=r:=rfl
theorem up_up {α:Type} (F:Nat→α) (k:Nat) (x y:α):up (up F k x) k y=up F k y:=by
  funext i
  simp only [up]
  split<;>rfl
theorem mostL_t {N:Nat} {L:List T_GainBar} (h:balL L=true):mostL N L=2*(ptN N L:Int) - 2 - 1:=by simp [mostL,h]
theorem mostL_f {N:Nat} {L:List T_GainBar} (h:balL L=false):mostL N L=2*(ptN N L:Int) - 2:=by simp [mostL,h]
theorem cpI_le (l:List Int):(cpI l).length≤l.length:=by
  show (Lib.compactUpTo l.toArray l.length).length≤l.length
  unfold Lib.compactUpTo
  rw [List.length_map]
  exact Nat.le_trans (List.length_filter_le _ _) (by simp)
theorem lstI_srt (n:Nat) (h:Nat→Int):lstI n (atI (srtI (lstI n h)))=srtI (lstI n h):=by
  have hl:(srtI (lstI n h)).length=n:=by rw [srtI_len,lstI_len]
  generalize srtI (lstI n h)=l at hl
  refine List.ext_getElem (by rw [lstI_len,hl]) (fun i h1 h2=>?_)
  have e:atI l i=l[i]:=by simp [atI,List.getD_eq_getElem?_getD,List.getElem?_eq_getElem h2]
  rw [← e]
  simp [lstI]
theorem con_sparseSets {N nb:Nat} {g:Nat→T_GainBar} (hN:1≤N∧N≤4) (hnb:nb≤8) (hg:∀ i,i<nb→barOk N (g i)) :
    zE 63 [gnA g nb N] [(0,bObW (2 ^ nb) (spB N g nb))] (.ar 1 0 0 (2 ^ nb)):=by
  refine csZ Try.func63 (fun c hc=>?_)
  have h8:=pow_62 hnb
  have hsh:=shl_8 nb hnb
  generalize hP:2 ^ nb=P at h8 hsh ⊢
  have li:∀ m F,m<P→(∀ i,i<m→F i=spB N g nb i) →
      (∀ F',(∀ i,i<m+1→F' i=spB N g nb i)→zR c 63 zf38 (GQ0 g nb N P (m+1) F') (Post c [(0,bObW P (spB N g nb))] (.ar 1 0 0 P))) →
      ∀ d k,k+d=(stD m nb).1→zR c 63 zf4 (GQ1 g nb N P m (up F m (cjB N g nb m k)) (stD m nb).1 (stD m nb).2 (ptsD g (stD m nb).2 k).1 (ptsD g (stD m nb).2 k).2 k) (Post c [(0,bObW P (spB N g nb))] (.ar 1 0 0 P)):=by
    intro m F hm hF hk d
    have hw:m<2 ^ nb:=by omega
    have hcn:=stD_n m nb
    have hgood:=st_good m nb (by omega) (by omega)
    have hstep:=spB_step (N:=N) (g:=g) hnb hw
    have hpts:=fun k=>ptsD_n g (stD m nb).2 k
    have hcl:∀ k,k<(stD m nb).1→∃ r e:Nat,clI m ((stD m nb).2 k)=(r:Int)∧(stD m nb).2 k=(e:Int)∧e<nb∧m.testBit e=true∧r<m∧∀ i,r.testBit i=(if i=e then false else m.testBit i):=fun k hk=>cl_at hnb hw hk
    have hbar:∀ i,i<(stD m nb).1→0≤(gb g (stD m nb).2 i).1∧(gb g (stD m nb).2 i).1<N∧0≤(gb g (stD m nb).2 i).2.1∧(gb g (stD m nb).2 i).2.1<N:=by
      intro i hi
      obtain ⟨e,h1,h2,_⟩:=st_at m (by omega) nb (by omega) i hi
      have:=hg e h2
      unfold gb
      rw [h1,Int.toNat_natCast]
      unfold barOk at this
      omega
    have hlen:=pts_len (N:=N) (n:=(stD m nb).1) (g:=g) (s:=(stD m nb).2) hbar
    have hptn:=cntB_le (pB (bkL g (stD m nb).1 (stD m nb).2)) N
    have cb:=con_balanced hN hnb hg hgood
    rw [balP_L] at cb
    have hcjs:∀ k,cjB N g nb m (k+1)=bif cjB N g nb m k then spB N g nb (clI m ((stD m nb).2 k)).toNat else false:=fun k=>rfl
    have hpsx:∀ k,ptsD g (stD m nb).2 (k+1)=((ptsD g (stD m nb).2 k).1+2,snp (ptsD g (stD m nb).2 k).1 (ptsD g (stD m nb).2 k).2 (gb g (stD m nb).2 k).1 (gb g (stD m nb).2 k).2.1):=fun k=>rfl
    generalize stD m nb=S at *
    induction d with
    | zero =>
      intro k hkn
      obtain rfl:k=S.1:=by omega
      have hd:decide ((S.1:Int)<(S.1:Int))=false:=by simp
      have hq:=hpts S.1
      have hlI:=lstI_srt (ptsD g S.2 S.1).1 (ptsD g S.2 S.1).2
      have csrt:=con_SortI (ptsD g S.2 S.1).1 (ptsD g S.2 S.1).2 (by omega)
      have ccmp:=con_CompI (ptsD g S.2 S.1).1 (atI (srtI (lstI (ptsD g S.2 S.1).1 (ptsD g S.2 S.1).2))) (by omega) (Nat.le_trans (cpI_le _) (by rw [lstI_len];exact Nat.le_refl _))
      rw [hlI,hlen] at ccmp
      generalize atI (srtI (lstI (ptsD g S.2 S.1).1 (ptsD g S.2 S.1).2))=p1 at csrt ccmp
      generalize atI (cpZ (srtI (lstI (ptsD g S.2 S.1).1 (ptsD g S.2 S.1).2)))=p2 at ccmp
      generalize ptsD g S.2 S.1=r at csrt ccmp hq ⊢
      have hF':∀ b,b=spB N g nb m→∀ i,i<m+1→up F m b i=spB N g nb i:=by
        intro b hb i hi
        by_cases e:i=m
        · subst e;rw [up_same,hb]
        · rw [up_ne _ _ _ _ e];exact hF i (by omega)
      cases hbl:balL (bkL g S.1 S.2) with
      | true =>
        rw [hbl] at cb
        rw [mostL_t hbl] at hstep
        refine pcD hc (gQt g nb N P m (up F m (cjB N g nb m S.1)) S.1 S.2 r.1 r.2 S.1 (ptN N (bkL g S.1 S.2)) p1 p2) ?_ ?_
        rotate_left 1
        · rw [up_up,up_same]
          exact hk _ (hF' _ hstep.symm)
        and_intros
        all_goals (first | exact zH | (exact hd) | (exact csrt) | (exact ccmp) | (exact cb) | (intro h;exact h) | (intro h1 h2;simp [h1,h2]) | (intro t ht;by_cases h':t=m<;>(simp [h',cvtL,cvt,tg,tru,All,up];done)) | (unfold ptN;omega) | (simp;omega))
      | false =>
        rw [hbl] at cb
        rw [mostL_f hbl] at hstep
        refine pcD hc (gQf g nb N P m (up F m (cjB N g nb m S.1)) S.1 S.2 r.1 r.2 S.1 (ptN N (bkL g S.1 S.2)) p1 p2) ?_ ?_
        rotate_left 1
        · rw [up_up,up_same]
          exact hk _ (hF' _ hstep.symm)
        and_intros
        all_goals (first | exact zH | (exact hd) | (exact csrt) | (exact ccmp) | (exact cb) | (intro h;exact h) | (intro h1 h2;simp [h1,h2]) | (intro t ht;by_cases h':t=m<;>(simp [h',cvtL,cvt,tg,tru,All,up];done)) | (unfold ptN;omega) | (simp;omega))
    | succ d ih =>
      intro k hkn
      have hd:decide ((k:Int)<(S.1:Int))=true:=decide_eq_true (by omega)
      have hrec:=ih (k+1) (by omega)
      obtain ⟨r,e,g1,g2,g3,g4,g5,g6⟩:=hcl k (by omega)
      have hq:=hpts k
      have hst:up (up F m (cjB N g nb m k)) m (bif (up F m (cjB N g nb m k)) m then (up F m (cjB N g nb m k)) (clI m (S.2 k)).toNat else false)=up F m (cjB N g nb m (k+1)):=by
        rw [up_up,up_same,hcjs,g1,Int.toNat_natCast,up_ne _ _ _ _ (by omega),hF r g5]
      rw [← hst,hpsx k] at hrec
      have b1:0≤clI m (S.2 k):=by omega
      have b2:clI m (S.2 k)<(P:Int):=by omega
      have b3:(clI m (S.2 k)).toNat<P:=by omega
      generalize up F m (cjB N g nb m k)=F1 at hrec ⊢
      generalize ptsD g S.2 k=q at hrec hq ⊢
      refine pcD hc (gQi g nb N P m F1 S.1 S.2 q.1 q.2 k) ?_ hrec
      and_intros
      all_goals (first | exact zI | (exact hd) | (intros;omega) | (intros;exact b1) | (intros;exact b2) | (intros;exact b3) | (intro t ht;by_cases h':t=m<;>(simp [h',cvtL,cvt,tg,tru,All,up,clI];done)) | (intro t ht;rcases (show t<q.1∨t=q.1∨t=q.1+1 by omega) with h' | h' | h'<;>(simp [h',show ¬ (q.1+1<q.1) by omega,cvtL,cvt,tg,tru,All,snp,rowIx2,gb];done)) | (simp;omega))
  have lo:∀ d m F,m+d=P→(∀ i,i<m→F i=spB N g nb i)→zR c 63 zf38 (GQ0 g nb N P m F) (Post c [(0,bObW P (spB N g nb))] (.ar 1 0 0 P)):=by
    intro d
    induction d with
    | zero =>
      intro m F hm hF
      obtain rfl:m=P:=by omega
      have hd:decide ((m:Int)<(m:Int))=false:=by simp
      refine pkZ Try.func63 hc (gQe g nb N m m F (spB N g nb)) ?_
      and_intros
      iterate 2 all_goals (first | exact zN | (exact hd) | (intro t ht;rw [hF t ht];simp [All]) | simp only [All])
    | succ d ih =>
      intro m F hm hF
      have hd:decide ((m:Int)<(P:Int))=true:=decide_eq_true (by omega)
      have cs:=con_setOf m nb (by omega)
      have hcn:=stD_n m nb
      have hnx:=li m F (by omega) hF (fun F' hF'=>ih (m+1) F' (by omega) hF') (stD m nb).1 0 (by omega)
      generalize stD m nb=S at cs hcn hnx
      refine pcD hc (gQo g nb N P m F S.1 S.2) ?_ hnx
      and_intros
      all_goals (first | exact zI | (exact hd) | (exact cs) | (intro t ht;by_cases h':t=m<;>(simp [h',cvtL,cvt,tg,tru,All,up];done)) | (intro t ht;exact absurd ht (Nat.not_lt_zero _)) | (intro t ht;simp [All]) | (simp;omega))
  refine pcD hc (gQz g nb N P) ?_ (lo P 0 _ (by omega) (fun i hi=>absurd hi (Nat.not_lt_zero _)))
  and_intros
  all_goals (first | exact zN | (rw [hsh];omega) | (rw [hsh];simp;omega) | (rw [hsh];simp) | (intro t ht;simp [All]) | (simp;omega))
open Go BL
def gkOb (k:Nat) (h:Nat→T_GainBar):Ob:=⟨false,4,k,fun i=>[.p (.int .i64 (h i).1),.p (.int .i64 (h i).2.1),.p (.int .i64 (h i).2.2.1),.p (.int .i64 (h i).2.2.2.1)]⟩
def GF0 (g:Nat→T_GainBar) (nb N m:Nat) (b:Int):St :=
  ⟨[gnA g nb N,.pt 2 0 0 0,.p .any,.p (.int .i64 b),.p (.int .i64 m)]++List.replicate 57 anyA,[(0,gnB g nb N)],1⟩
def GF1 (g:Nat→T_GainBar) (nb N m:Nat) (b:Int) (c:Nat) (s:Nat→Int) (k:Nat) (h:Nat→T_GainBar):St :=
  ⟨[gnA g nb N,.pt 2 0 0 0,.p .any,.p (.int .i64 b),.p (.int .i64 m),.ar 1 1 0 c,.pt 2 2 0 0,.p (.int .i64 k)]++List.replicate 54 anyA,
   [(0,gnB g nb N),(1,iObW c s),(2,⟨true,2,1,fun _=>[.p (.int .i64 N),.ar 4 3 0 k]⟩),(3,gkOb k h)],4⟩
def GI0 (g:Nat→T_GainBar) (nb N P m:Nat) (b:Int) (F:Nat→Bool):St :=
  ⟨[gnA g nb N,.pt 2 0 0 0,.p .any,.p (.int .i64 b)]++List.replicate 6 anyA++[.ar 1 1 0 P,.p (.int .i64 P),.p (.int .i64 m)]++List.replicate 20 anyA,[(0,gnB g nb N),(1,bObW P F)],2⟩
def maxZ (b c:Int):Int:=if c>b then c else b
theorem fIn (v:T_GainGraph) :
    zS Try.f12 [rg 2,rm [(1,oc [] (.p (.bool false)))] 1,.dec true,rg 1] [gnA v.2.1.2 v.2.1.1 v.1] [] [] (.p (.int .i64 (-1))) =
    some [(NT 0 1),zE 26 [(zf19 v)] [] (.p (.bool false)),((!false)=true),(AI ((-1)))]:=by kernel_rfl
theorem fIz (g:Nat→T_GainBar) (nb N P:Nat) (F:Nat→Bool) :
    zT Try.f12 [rg 2,rm [(1,oc [] (.p (.bool true)))] 1,.dec false,rg 1,rm [(1,oc [(0,bObW P F)] (.ar 1 0 0 P))] 2,.head] [gnA g nb N] [0,224] (GI0 g nb N P 0 0 F) =
    some (zf27,zD [(NT 0 1),zE 26 [(zf25 N nb g)] [] (.p (.bool true)),((!true)=false),zE 63 [(zf25 N nb g)] [(0,⟨false,1,P,(fun i=>[.p (.bool (F i))])⟩)] (.ar 1 0 0 P),(AI ((↑N:Int))),(AN nb),(AP nb (fun i=>[.int .i64 ((g i).1),.int .i64 ((g i).2.1),.int .i64 ((g i).2.2.1),.int .i64 ((g i).2.2.2.1)])),(AN 0),(AI 0),(AN P),(AI ((↑P:Int))),((0:Int)=(↑0:Int)),((([AV.p (PV.int IntKind.i64 (↑N:Int)),gnL g nb].length):Nat)=2),(NL 1 1),(AN 1),(NL P P),(AA P (fun i=>[.p (.bool (F i))]))] [0,1,2,0,3,4,5,6,7,8,7,9,10,11,12,13,13,4,5,6,14,15,16]):=by kernel_rfl
theorem fIt (g:Nat→T_GainBar) (nb N P m c:Nat) (b:Int) (F:Nat→Bool) (s:Nat→Int) :
    zM 0 [rg 1,.dec true,rg 5,rg 1,.dec true,rm [(5,oc [(0,iObW c s)] (.ar 1 0 0 c))] 3,rg 2,.head] zf27 (GI0 g nb N P m b F) [0,1] 1 (GI0 g nb N P (m+1) (maxZ b c) F) =
    some (zf27,zD [((decide ((↑m:Int)<(↑P:Int)))=true),(IL 0 (↑m:Int)),(IT (↑m:Int) (↑P:Int)),(NT m P),((F m)=true),(NT 0 1),zE 66 [.p (.int .i64 (↑m:Int)),.p (.int .i64 (↑nb:Int))] [(0,⟨false,1,c,(fun i=>[.p (.int .i64 (s i))])⟩)] (.ar 1 0 0 c),(ZLo ((↑m:Int)+1)),(ZHi ((↑m:Int)+1)),(AI ((↑N:Int))),(AN nb),(AP nb (fun i=>[.int .i64 ((g i).1),.int .i64 ((g i).2.1),.int .i64 ((g i).2.2.1),.int .i64 ((g i).2.2.2.1)])),(AN 0),(((if true=true then if (↑c:Int)>b then (↑c:Int) else b else if (↑c:Int)<b then (↑c:Int) else b):Int)=(maxZ b (↑c:Int))),(AN P),(AI ((↑P:Int))),((((↑m:Int)+1):Int)=(↑(m+1):Int)),(AN 2),(NL 1 1),(AN 1),(NL P P),(AA P (fun i=>[.p (.bool (F i))]))] [0,1,2,3,4,5,6,7,8,9,10,11,12,13,12,14,15,16,17,18,18,9,10,11,19,20,21]):=by kernel_rfl
theorem fIf (g:Nat→T_GainBar) (nb N P m:Nat) (b:Int) (F:Nat→Bool) :
    zM 0 [rg 1,.dec true,rg 5,rg 1,.dec false,rg 2,.head] zf27 (GI0 g nb N P m b F) [0,1] 1 (GI0 g nb N P (m+1) b F) =
    some (zf27,zD [((decide ((↑m:Int)<(↑P:Int)))=true),(IL 0 (↑m:Int)),(IT (↑m:Int) (↑P:Int)),(NT m P),((F m)=false),(ZLo ((↑m:Int)+1)),(ZHi ((↑m:Int)+1)),(AI ((↑N:Int))),(AN nb),(AP nb (fun i=>[.int .i64 ((g i).1),.int .i64 ((g i).2.1),.int .i64 ((g i).2.2.1),.int .i64 ((g i).2.2.2.1)])),(AN 0),(AI b),(AN P),(AI ((↑P:Int))),((((↑m:Int)+1):Int)=(↑(m+1):Int)),(AN 2),(NL 1 1),(AN 1),(NL P P),(AA P (fun i=>[.p (.bool (F i))]))] [0,1,2,3,4,5,6,7,8,9,10,11,10,12,13,14,15,16,16,7,8,9,17,18,19]):=by kernel_rfl
theorem fIe (g:Nat→T_GainBar) (nb N P m:Nat) (b:Int) (F:Nat→Bool) :
    zP Try.f12 0 [rg 1,.dec false,rg 7] zf27 (GI0 g nb N P m b F) [] 1 [] (.p (.int .i64 (2*(N:Int) - 2 - b))) =
    some [((decide ((↑m:Int)<(↑P:Int)))=false),(NT 0 1),(ZLo (2*(↑N:Int))),(ZHi (2*(↑N:Int))),(ZLo (2*(↑N:Int) - 2)),(ZHi (2*(↑N:Int) - 2)),(ZLo (2*(↑N:Int) - 2 - b)),(ZHi (2*(↑N:Int) - 2 - b)),(AI ((2*(↑N:Int) - 2 - b)))]:=by kernel_rfl
theorem fSn (v:T_GainGraph) :
    zS Try.f13 [rg 2,rm [(1,oc [] (.p (.bool false)))] 1,.dec true,rg 1] [gnA v.2.1.2 v.2.1.1 v.1] [] [] (.p (.int .i64 (-1))) =
    some [(NT 0 1),zE 15 [(zf19 v)] [] (.p (.bool false)),((!false)=true),(AI ((-1)))]:=by kernel_rfl
theorem fSz (g:Nat→T_GainBar) (nb N:Nat) :
    zT Try.f13 [rg 2,rm [(1,oc [] (.p (.bool true)))] 1,.dec false,rg 1,rg 1,.head] [gnA g nb N] [0] (GF0 g nb N 0 0) =
    some (zf28,zD [(NT 0 1),zE 15 [(zf25 N nb g)] [] (.p (.bool true)),((!true)=false),(AI ((↑N:Int))),(AN nb),(AP nb (fun i=>[.int .i64 ((g i).1),.int .i64 ((g i).2.1),.int .i64 ((g i).2.2.1),.int .i64 ((g i).2.2.2.1)])),(AN 0),(AI 0),((0:Int)=(↑0:Int)),((([AV.p (PV.int IntKind.i64 (↑N:Int)),gnL g nb].length):Nat)=2),(NL 1 1)] [0,1,2,3,4,5,6,7,8,9,10,10,3,4,5]):=by kernel_rfl
theorem fSo (g:Nat→T_GainBar) (nb N m c:Nat) (b:Int) (s:Nat→Int) (h:Nat→T_GainBar) :
    zM 0 [rg 6,.dec true,rm [(4,oc [(0,iObW c s)] (.ar 1 0 0 c))] 1,rg 5,rg 1,.head] zf28 (GF0 g nb N m b) [0,321,481] 1 (GF1 g nb N m b c s 0 h) =
    some (zf5,zD [(NT 0 1),(IL 0 (↑nb:Int)),((decide ((↑m:Int)<shlI IntKind.i64 1 (↑nb:Int)))=true),zE 64 [.p (.int .i64 (↑nb:Int)),.p (.int .i64 (↑m:Int))] [(0,⟨false,1,c,(fun i=>[.p (.int .i64 (s i))])⟩)] (.ar 1 0 0 c),((true=true)→ (AN 1)),(AI ((↑N:Int))),(AN nb),(AP nb (fun i=>[.int .i64 ((g i).1),.int .i64 ((g i).2.1),.int .i64 ((g i).2.2.1),.int .i64 ((g i).2.2.2.1)])),(AN 0),(AI b),(AI ((↑m:Int))),(AN c),((0:Int)=(↑0:Int)),(AN 2),(NL 1 1),(AN 1),(NL c c),(AA c (fun i=>[.p (.int .i64 (s i))])),((((List.map (fun v=>AV.p (absV v)) [Value.int IntKind.i64 0,Value.slice none 0 0]).length):Nat)=2)] [0,1,2,0,3,0,0,4,5,6,7,8,9,10,8,11,8,12,13,14,14,5,6,7,15,16,17,18,14,14,5,8,8]):=by kernel_rfl
theorem fSi (g:Nat→T_GainBar) (nb N m c:Nat) (b:Int) (s:Nat→Int) (k:Nat) (h:Nat→T_GainBar) :
    zM 0 [rg 4,.dec true,rg 14,rg 3,.head] zf5 (GF1 g nb N m b c s k h) [0,1,2,484] 1 (GF1 g nb N m b c s (k+1) h) =
    some (zf5,zD [((decide ((↑k:Int)<(↑c:Int)))=true),(NT 0 1),(IL 0 (↑k:Int)),(IT (↑k:Int) (↑c:Int)),(NT k c),(IL 0 (s k)),(IT (s k) (↑nb:Int)),(NL 1 1),(NL k k),(NL ((k+1)*32) 140737488355328),(NL (k+1) 9223372036854775807),((true=true)→ (AN 1)),(ZLo ((↑k:Int)+1)),(ZHi ((↑k:Int)+1)),(AI ((↑N:Int))),(AN nb),(AP nb (fun i=>[.int .i64 ((g i).1),.int .i64 ((g i).2.1),.int .i64 ((g i).2.2.1),.int .i64 ((g i).2.2.2.1)])),(AN 0),(AI b),(AI ((↑m:Int))),(AN c),((((↑k:Int)+1):Int)=(↑(k+1):Int)),(AN 2),(AN 1),(NL c c),(AA c (fun i=>[.p (.int .i64 (s i))])),(AN ((k+1))),(AN 4),(NL (k+1) (k+1)),(∀ i:Nat,(((i:Nat)<(k+1))→(All (cvtL false [(2,⟨true,2,1,(fun i_1=>[.p (.int .i64 (↑N:Int)),.ar 4 484 0 (k+1)])⟩),(484,⟨false,4,(k+1),(fun i_1=>(if (i_1<k) then [.p (.int .i64 ((h i_1).1)),.p (.int .i64 ((h i_1).2.1)),.p (.int .i64 ((h i_1).2.2.1)),.p (.int .i64 ((h i_1).2.2.2.1))] else [.p (.int .i64 ((g (s k).toNat).1)),.p (.int .i64 ((g (s k).toNat).2.1)),.p (.int .i64 ((g (s k).toNat).2.2.1)),.p (.int .i64 ((g (s k).toNat).2.2.2.1))]))⟩),(452,⟨false,4,1,(fun i_1=>[.p (.int .i64 ((g (s k).toNat).1)),.p (.int .i64 ((g (s k).toNat).2.1)),.p (.int .i64 ((g (s k).toNat).2.2.1)),.p (.int .i64 ((g (s k).toNat).2.2.2.1))])⟩),(0,⟨true,2,1,(fun i_1=>[.p (.int .i64 (↑N:Int)),.p (.seq true 4 nb (fun i_2=>[.int .i64 ((g i_2).1),.int .i64 ((g i_2).2.1),.int .i64 ((g i_2).2.2.1),.int .i64 ((g i_2).2.2.2.1)]))])⟩),(1,⟨false,1,c,(fun i_1=>[.p (.int .i64 (s i_1))])⟩)] [0,1,2,484] 1 (if (i<k) then [.p (.int .i64 ((h i).1)),.p (.int .i64 ((h i).2.1)),.p (.int .i64 ((h i).2.2.1)),.p (.int .i64 ((h i).2.2.2.1))] else [.p (.int .i64 ((g (s k).toNat).1)),.p (.int .i64 ((g (s k).toNat).2.1)),.p (.int .i64 ((g (s k).toNat).2.2.1)),.p (.int .i64 ((g (s k).toNat).2.2.2.1))])).2∧(((cvtL false [(2,⟨true,2,1,(fun i_1=>[.p (.int .i64 (↑N:Int)),.ar 4 484 0 (k+1)])⟩),(484,⟨false,4,(k+1),(fun i_1=>(if (i_1<k) then [.p (.int .i64 ((h i_1).1)),.p (.int .i64 ((h i_1).2.1)),.p (.int .i64 ((h i_1).2.2.1)),.p (.int .i64 ((h i_1).2.2.2.1))] else [.p (.int .i64 ((g (s k).toNat).1)),.p (.int .i64 ((g (s k).toNat).2.1)),.p (.int .i64 ((g (s k).toNat).2.2.1)),.p (.int .i64 ((g (s k).toNat).2.2.2.1))]))⟩),(452,⟨false,4,1,(fun i_1=>[.p (.int .i64 ((g (s k).toNat).1)),.p (.int .i64 ((g (s k).toNat).2.1)),.p (.int .i64 ((g (s k).toNat).2.2.1)),.p (.int .i64 ((g (s k).toNat).2.2.2.1))])⟩),(0,⟨true,2,1,(fun i_1=>[.p (.int .i64 (↑N:Int)),.p (.seq true 4 nb (fun i_2=>[.int .i64 ((g i_2).1),.int .i64 ((g i_2).2.1),.int .i64 ((g i_2).2.2.1),.int .i64 ((g i_2).2.2.2.1)]))])⟩),(1,⟨false,1,c,(fun i_1=>[.p (.int .i64 (s i_1))])⟩)] [0,1,2,484] 1 (if (i<k) then [.p (.int .i64 ((h i).1)),.p (.int .i64 ((h i).2.1)),.p (.int .i64 ((h i).2.2.1)),.p (.int .i64 ((h i).2.2.2.1))] else [.p (.int .i64 ((g (s k).toNat).1)),.p (.int .i64 ((g (s k).toNat).2.1)),.p (.int .i64 ((g (s k).toNat).2.2.1)),.p (.int .i64 ((g (s k).toNat).2.2.2.1))])).1:List AV)=[.p (.int .i64 ((h i).1)),.p (.int .i64 ((h i).2.1)),.p (.int .i64 ((h i).2.2.1)),.p (.int .i64 ((h i).2.2.2.1))]))))] [0,1,1,2,3,4,5,6,7,8,9,10,1,11,12,13,14,15,16,17,18,19,17,20,17,21,22,7,7,14,15,16,23,24,25,22,7,7,14,17,26,27,28,29]):=by kernel_rfl
theorem fSt (g:Nat→T_GainBar) (nb N m c:Nat) (b:Int) (s:Nat→Int) (k:Nat) (h:Nat→T_GainBar) (q:Bool) :
    zM 0 [rg 4,.dec false,rm [(6,oc [] (.p (.bool q)))] 1,.dec true,rg 3,rg 3,.head] zf5 (GF1 g nb N m b c s k h) [0] 1 (GF0 g nb N (m+1) c) =
    some (zf28,zD [((decide ((↑k:Int)<(↑c:Int)))=false),(((decide ((↑c:Int)>b))=true)→(NT 0 1)),(AG (decide ((↑c:Int)>b))),(((decide ((↑c:Int)>b))=true)→ (AN 4)),(((decide ((↑c:Int)>b))=true)→(NL k k)),(((decide ((↑c:Int)>b))=true)→ zE 11 [(zf25 N k h)] [] (.p (.bool q))),((bif decide ((↑c:Int)>b) then q else false)=true),(ZLo ((↑m:Int)+1)),(ZHi ((↑m:Int)+1)),(AI ((↑N:Int))),(AN nb),(AP nb (fun i=>[.int .i64 ((g i).1),.int .i64 ((g i).2.1),.int .i64 ((g i).2.2.1),.int .i64 ((g i).2.2.2.1)])),(AN 0),(AI ((↑c:Int))),((((↑m:Int)+1):Int)=(↑(m+1):Int)),(AN 2),(NL 1 1)] [0,1,2,3,4,5,2,6,7,8,9,10,11,12,13,14,15,16,16,9,10,11]):=by kernel_rfl
theorem fSf (g:Nat→T_GainBar) (nb N m c:Nat) (b:Int) (s:Nat→Int) (k:Nat) (h:Nat→T_GainBar) (q:Bool) :
    zM 0 [rg 4,.dec false,rm [(6,oc [] (.p (.bool q)))] 1,.dec false,rg 3,.head] zf5 (GF1 g nb N m b c s k h) [0] 1 (GF0 g nb N (m+1) b) =
    some (zf28,zD [((decide ((↑k:Int)<(↑c:Int)))=false),(((decide ((↑c:Int)>b))=true)→(NT 0 1)),(AG (decide ((↑c:Int)>b))),(((decide ((↑c:Int)>b))=true)→ (AN 4)),(((decide ((↑c:Int)>b))=true)→(NL k k)),(((decide ((↑c:Int)>b))=true)→ zE 11 [(zf25 N k h)] [] (.p (.bool q))),((bif decide ((↑c:Int)>b) then q else false)=false),(ZLo ((↑m:Int)+1)),(ZHi ((↑m:Int)+1)),(AI ((↑N:Int))),(AN nb),(AP nb (fun i=>[.int .i64 ((g i).1),.int .i64 ((g i).2.1),.int .i64 ((g i).2.2.1),.int .i64 ((g i).2.2.2.1)])),(AN 0),(AI b),((((↑m:Int)+1):Int)=(↑(m+1):Int)),(AN 2),(NL 1 1)] [0,1,2,3,4,5,2,6,7,8,9,10,11,12,13,14,15,16,16,9,10,11]):=by kernel_rfl
theorem fSe (g:Nat→T_GainBar) (nb N m:Nat) (b:Int) :
    zP Try.f13 0 [rg 6,.dec false,rg 7] zf28 (GF0 g nb N m b) [] 1 [] (.p (.int .i64 (2*(N:Int) - 2 - b))) =
    some [(NT 0 1),(IL 0 (↑nb:Int)),((decide ((↑m:Int)<shlI IntKind.i64 1 (↑nb:Int)))=false),(NT 0 1),(ZLo (2*(↑N:Int))),(ZHi (2*(↑N:Int))),(ZLo (2*(↑N:Int) - 2)),(ZHi (2*(↑N:Int) - 2)),(ZLo (2*(↑N:Int) - 2 - b)),(ZHi (2*(↑N:Int) - 2 - b)),(AI ((2*(↑N:Int) - 2 - b)))]:=by kernel_rfl
open Classical in
noncomputable def sgF (v:T_GainGraph):Bool:=bif isGainF v then decide (Sub.All (okG v.1.toNat) v.2.1.2 (fun _=>true) v.2.1.1) else false
theorem all_full {N nb:Nat} {g:Nat→T_GainBar}:Sub.All (okG N) g (2 ^ nb - 1).testBit nb↔Sub.All (okG N) g (fun _=>true) nb :=
  Sub.all_congr (fun i hi=>by rw [Nat.testBit_two_pow_sub_one];simp [hi])
theorem con_IsGainSparse_i (v:T_GainGraph) (hs:smS s_GainGraph v):zE 10 [gnA v.2.1.2 v.2.1.1 v.1] [] (.p (.bool (sgF v))):=by
  have c1:=con_IsGainGraph_i v hs
  refine csZ Try.func10 (fun c hc=>?_)
  cases hp:isGainF v with
  | false =>
    rw [hp] at c1
    rw [show sgF v=false by simp [sgF,hp]]
    refine pkZ Try.func10 hc (gIn v) ?_
    and_intros
    all_goals (first | exact zN | (exact c1))
  | true =>
    rw [hp] at c1
    obtain ⟨N,nb,g,rfl,h1,h2,h3,h4⟩:=gain_in hp
    have cs:=con_sparseSets ⟨h1,h2⟩ h3 h4
    have h8:=pow_62 h3
    have hpos:0<2 ^ nb:=Nat.pow_pos (by omega)
    have hr:sgF ((N:Int),(nb,g),())=spB N g nb (2 ^ nb - 1):=by
      unfold sgF spB
      rw [hp]
      simp only [cond_true,Int.toNat_natCast]
      congr 1
      exact (propext all_full).symm
    rw [hr]
    generalize 2 ^ nb=P at cs h8 hpos ⊢
    have e:((P:Int) - 1).toNat=P - 1:=by omega
    refine pkZ Try.func10 hc (gIy ((N:Int),(nb,g),()) P (spB N g nb)) ?_
    and_intros
    all_goals (first | exact zN | (exact c1) | (exact cs) | (simp only [e];done) | (simp;omega))
theorem okB_at {N nb m:Nat} {g:Nat→T_GainBar} (hm:m<2 ^ nb) (hnb:nb≤8):okG N (Sub.sel g m.testBit nb)↔((stD m nb).1:Int)≤mostL N (bkL g (stD m nb).1 (stD m nb).2):=by
  have h8:=pow_62 hnb
  have h:=st_sel g m (by omega) nb (by omega)
  unfold okG
  rw [← h,bkL_len]
theorem con_IsGainSparse_s (v:T_GainGraph) (hs:smS s_GainGraph v):zE 11 [gnA v.2.1.2 v.2.1.1 v.1] [] (.p (.bool (sgF v))):=by
  have c1:=con_IsGainGraph_s v hs
  refine csZ Try.func11 (fun c hc=>?_)
  cases hp:isGainF v with
  | false =>
    rw [hp] at c1
    rw [show sgF v=false by simp [sgF,hp]]
    refine pkZ Try.func11 hc (gTn v) ?_
    and_intros
    all_goals (first | exact zN | (exact c1))
  | true =>
    rw [hp] at c1
    obtain ⟨N,nb,g,rfl,h1,h2,h3,h4⟩:=gain_in hp
    have h8:=pow_62 h3
    have hsh:=shl_8 nb h3
    have hr:sgF ((N:Int),(nb,g),())=true↔Sub.All (okG N) g (fun _=>true) nb:=by
      unfold sgF
      rw [hp]
      simp
    generalize sgF ((N:Int),(nb,g),())=B at hr
    have lo:∀ d m,m+d=2 ^ nb→1≤m→(∀ i,1≤i→i<m→okG N (Sub.sel g i.testBit nb))→zR c 11 zf39 (GT0 g nb N m) (Post c [] (.p (.bool B))):=by
      intro d
      induction d with
      | zero =>
        intro m hm h1m hok
        have hd:decide ((m:Int)<shlI .i64 1 (nb:Int))=false:=by rw [hsh];exact decide_eq_false (by omega)
        have hB:B=true:=hr.2 (fun K _ hne=>by
          obtain ⟨i,hi,hb⟩:=Sub.mask_of K nb
          have e:Sub.sel g K nb=Sub.sel g i.testBit nb:=Sub.sel_congr nb (fun j hj=>(hb j hj).symm) (fun j hj=>rfl)
          rw [e] at hne ⊢
          have:i≠0:=fun h=>hne ((sel_nil hi).2 h)
          exact hok i (by omega) (by omega))
        rw [hB]
        refine pkZ Try.func11 hc (gTe g nb N m) ?_
        and_intros
        all_goals (first | exact zN | (exact hd) | (simp;omega))
      | succ d ih =>
        intro m hm h1m hok
        have hd:decide ((m:Int)<shlI .i64 1 (nb:Int))=true:=by rw [hsh];exact decide_eq_true (by omega)
        have hw:m<2 ^ nb:=by omega
        have cs:=con_l3Set m nb (by omega)
        have hcn:=stD_n m nb
        have hgood:=st_good m nb (by omega) (by omega)
        have hgi:=goodS_in hgood
        have cp:=con_l29Points (N:=N) (g:=g) (n:=(stD m nb).1) (s:=(stD m nb).2) h2 h3 (by omega) (fun i hi=>⟨(hgi i hi).1,(hgi i hi).2.1⟩)
        have hptn:=cntB_le (pB (bkL g (stD m nb).1 (stD m nb).2)) N
        have cb:=con_IsBalanced_s ((N:Int),(nb,g),()) hs (stD m nb) (by omega)
        have hbl:isBalF ((N:Int),(nb,g),()) (stD m nb)=balL (bkL g (stD m nb).1 (stD m nb).2):=by
          unfold isBalF
          rw [show goodS ((N:Int),(nb,g),()).2.1.1 (stD m nb).2 (stD m nb).1=true from hgood,hp]
          simp only [cond_true,Int.toNat_natCast]
          exact balP_L _ _ _ _
        rw [hbl] at cb
        have hok2:=okB_at (N:=N) (g:=g) hw h3
        have hne:Sub.sel g m.testBit nb≠[]:=fun h=>by have:=(sel_nil hw).1 h;omega
        have hnx:okG N (Sub.sel g m.testBit nb)→zR c 11 zf39 (GT0 g nb N (m+1)) (Post c [] (.p (.bool B))):=fun h=>ih (m+1) (by omega) (by omega) (fun i hi h'=>by
          by_cases e:i=m
          · subst e;exact h
          · exact hok i hi (by omega))
        have hno:¬ okG N (Sub.sel g m.testBit nb)→B=false:=fun h=>by
          cases hB:B with
          | false=>rfl
          | true=>exact absurd (hr.1 hB m.testBit (fun _ _=>rfl) hne) h
        rw [hok2] at hnx hno
        clear hok2 hne hgi hgood hbl ih
        generalize stD m nb=S at *
        have hpp:ptN N (bkL g S.1 S.2)=Sub.cntB (pB (bkL g S.1 S.2)) N:=rfl
        cases hb:balL (bkL g S.1 S.2) with
        | true =>
          rw [hb] at cb
          rw [mostL_t hb] at hnx hno
          generalize ptN N (bkL g S.1 S.2)=D at *
          by_cases hq:(S.1:Int)≤2*(D:Int) - 2 - 1
          · refine pcD hc (gTt g nb N m S.1 D S.2) ?_ (hnx hq)
            and_intros
            all_goals (first | exact zN | (exact hd) | (exact cs) | (exact cp) | (exact cb) | (exact decide_eq_false (by omega)) | (simp;omega))
          · rw [hno hq]
            refine pkZ Try.func11 hc (gTx g nb N m S.1 D S.2) ?_
            and_intros
            all_goals (first | exact zN | (exact hd) | (exact cs) | (exact cp) | (exact cb) | (exact decide_eq_true (by omega)) | (simp;omega))
        | false =>
          rw [hb] at cb
          rw [mostL_f hb] at hnx hno
          generalize ptN N (bkL g S.1 S.2)=D at *
          by_cases hq:(S.1:Int)≤2*(D:Int) - 2
          · refine pcD hc (gTf g nb N m S.1 D S.2) ?_ (hnx hq)
            and_intros
            all_goals (first | exact zN | (exact hd) | (exact cs) | (exact cp) | (exact cb) | (exact decide_eq_false (by omega)) | (simp;omega))
          · rw [hno hq]
            refine pkD Try.func11 hc (gTy g nb N m S.1 D S.2) ?_
            and_intros
            all_goals (first | exact zN | (exact hd) | (exact cs) | (exact cp) | (exact cb) | (exact decide_eq_true (by omega)) | (simp;omega))
    have hpos:0<2 ^ nb:=Nat.pow_pos (by omega)
    refine pcD hc (gTz g nb N) ?_ (lo (2 ^ nb - 1) 1 (by omega) (Nat.le_refl _) (fun i hi h=>by omega))
    and_intros
    all_goals (first | exact zN | (exact c1) | (simp;omega))
noncomputable def bsI (N:Nat) (g:Nat→T_GainBar) (nb:Nat):Nat→Int
  | 0=>0
  | m+1=>if spB N g nb m=true then maxZ (bsI N g nb m) (stD m nb).1 else bsI N g nb m
theorem bsI_in (N:Nat) (g:Nat→T_GainBar) (nb:Nat):∀ m,0≤bsI N g nb m∧bsI N g nb m≤nb
  | 0=>⟨Int.le_refl _,by show (0:Int)≤nb;omega⟩
  | m+1=>by
    have ih:=bsI_in N g nb m
    have:=stD_n m nb
    simp only [bsI]
    split
    · unfold maxZ
      split<;>omega
    · exact ih
noncomputable def gfF (v:T_GainGraph):Int:=if isGainF v=true then 2*v.1 - 2 - bsI v.1.toNat v.2.1.2 v.2.1.1 (2 ^ v.2.1.1) else -1
theorem con_GainFreedom_i (v:T_GainGraph) (hs:smS s_GainGraph v):zE 12 [gnA v.2.1.2 v.2.1.1 v.1] [] (.p (.int .i64 (gfF v))):=by
  have c1:=con_IsGainGraph_i v hs
  refine csZ Try.func12 (fun c hc=>?_)
  cases hp:isGainF v with
  | false =>
    rw [hp] at c1
    rw [show gfF v = -1 by simp [gfF,hp]]
    refine pkZ Try.func12 hc (fIn v) ?_
    and_intros
    all_goals (first | exact zN | (exact c1))
  | true =>
    rw [hp] at c1
    obtain ⟨N,nb,g,rfl,h1,h2,h3,h4⟩:=gain_in hp
    have cs:=con_sparseSets ⟨h1,h2⟩ h3 h4
    have h8:=pow_62 h3
    have hr:gfF ((N:Int),(nb,g),())=2*(N:Int) - 2 - bsI N g nb (2 ^ nb):=by simp [gfF,hp]
    rw [hr]
    generalize 2 ^ nb=P at cs h8 ⊢
    have lo:∀ d m,m+d=P→zR c 12 zf27 (GI0 g nb N P m (bsI N g nb m) (spB N g nb)) (Post c [] (.p (.int .i64 (2*(N:Int) - 2 - bsI N g nb P)))):=by
      intro d
      induction d with
      | zero =>
        intro m hm
        obtain rfl:m=P:=by omega
        have hd:decide ((m:Int)<(m:Int))=false:=by simp
        have hb:=bsI_in N g nb m
        refine pkZ Try.func12 hc (fIe g nb N m m (bsI N g nb m) (spB N g nb)) ?_
        and_intros
        all_goals (first | exact zN | (exact hd) | (simp;omega))
      | succ d ih =>
        intro m hm
        have hd:decide ((m:Int)<(P:Int))=true:=decide_eq_true (by omega)
        have hrec:=ih (m+1) (by omega)
        have hb:=bsI_in N g nb m
        have hcn:=stD_n m nb
        have cst:=con_setOf m nb (by omega)
        cases hq:spB N g nb m with
        | true =>
          rw [show bsI N g nb (m+1)=maxZ (bsI N g nb m) (stD m nb).1 by simp [bsI,hq]] at hrec
          generalize stD m nb=S at *
          refine pcD hc (fIt g nb N P m S.1 (bsI N g nb m) (spB N g nb) S.2) ?_ hrec
          and_intros
          all_goals (first | exact zN | (exact hd) | (exact hq) | (exact cst) | (intro t ht;simp [All]) | (simp;omega))
        | false =>
          rw [show bsI N g nb (m+1)=bsI N g nb m by simp [bsI,hq]] at hrec
          refine pcD hc (fIf g nb N P m (bsI N g nb m) (spB N g nb)) ?_ hrec
          and_intros
          all_goals (first | exact zN | (exact hd) | (exact hq) | (intro t ht;simp [All]) | (simp;omega))
    refine pcD hc (fIz g nb N P (spB N g nb)) ?_ (lo P 0 (by omega))
    and_intros
    all_goals (first | exact zN | (exact c1) | (exact cs) | (intro t ht;simp [All]) | (simp;omega))
theorem sub_gain {N nb m:Nat} {g:Nat→T_GainBar} (hp:isGainF ((N:Int),(nb,g),())=true) (hm:m<2 ^ nb):isGainF ((N:Int),((stD m nb).1,fun i=>gb g (stD m nb).2 i),())=true:=by
  have hn:=stD_n m nb
  simp only [isGainF,Bool.and_eq_true,decide_eq_true_eq] at hp ⊢
  have h8:=pow_62 hp.2.2
  refine ⟨?_,hp.2.1,by omega⟩
  have key:∀ k,k≤(stD m nb).1→goodG ((N:Int),((stD m nb).1,fun i=>gb g (stD m nb).2 i),()) k=true:=by
    intro k
    induction k with
    | zero=>intro _;rfl
    | succ k ih =>
      intro hk
      obtain ⟨e,g1,g2,_⟩:=st_at m (by omega) nb (by have:=hp.2.2;omega) k (by omega)
      have hbad:=goodG_all hp.1 e g2
      simp only [goodG,ih (by omega),Bool.true_and,Bool.not_eq_true']
      show badG (N:Int) (g ((stD m nb).2 k).toNat)=false
      rw [g1,Int.toNat_natCast]
      exact hbad
  exact key _ (Nat.le_refl _)
theorem sub_sparse {N nb m:Nat} {g:Nat→T_GainBar} (hp:isGainF ((N:Int),(nb,g),())=true) (hm:m<2 ^ nb):sgF ((N:Int),((stD m nb).1,fun i=>gb g (stD m nb).2 i),())=spB N g nb m:=by
  have hnb:nb≤8:=by
    simp only [isGainF,Bool.and_eq_true,decide_eq_true_eq] at hp
    exact hp.2.2
  have h8:=pow_62 hnb
  unfold sgF spB
  rw [sub_gain hp hm]
  simp only [cond_true,Int.toNat_natCast]
  congr 1
  apply propext
  have hsel:=st_sel g m (by omega) nb (by omega)
  have hcn:Sub.cntB m.testBit nb=(stD m nb).1:=by rw [← Sub.sel_len g,← hsel,bkL_len]
  have hrow:Sub.Row g m.testBit nb (fun i=>gb g (stD m nb).2 i):=by
    intro i hi
    rw [← hsel]
    rw [hcn] at hi
    simp [bkL,hi]
  have:=hrow.all (ok:=okG N)
  rw [hcn] at this
  exact this
theorem con_GainFreedom_s (v:T_GainGraph) (hs:smS s_GainGraph v):zE 13 [gnA v.2.1.2 v.2.1.1 v.1] [] (.p (.int .i64 (gfF v))):=by
  have c1:=con_IsGainGraph_s v hs
  refine csZ Try.func13 (fun c hc=>?_)
  cases hp:isGainF v with
  | false =>
    rw [hp] at c1
    rw [show gfF v = -1 by simp [gfF,hp]]
    refine pkZ Try.func13 hc (fSn v) ?_
    and_intros
    all_goals (first | exact zN | (exact c1))
  | true =>
    rw [hp] at c1
    obtain ⟨N,nb,g,rfl,h1,h2,h3,h4⟩:=gain_in hp
    have h8:=pow_62 h3
    have hsh:=shl_8 nb h3
    have hr:gfF ((N:Int),(nb,g),())=2*(N:Int) - 2 - bsI N g nb (2 ^ nb):=by simp [gfF,hp]
    rw [hr]
    have hspx:=fun m hm=>sub_sparse (m:=m) hp hm
    generalize hP:2 ^ nb=P at h8 hsh hspx ⊢
    have li:∀ (m:Nat) (b:Int),m<P→0≤b→b≤(nb:Int)→zR c 13 zf28 (GF0 g nb N (m+1) (if spB N g nb m=true then maxZ b (stD m nb).1 else b)) (Post c [] (.p (.int .i64 (2*(N:Int) - 2 - bsI N g nb P)))) →
        ∀ d k,k+d=(stD m nb).1→zR c 13 zf5 (GF1 g nb N m b (stD m nb).1 (stD m nb).2 k (fun i=>gb g (stD m nb).2 i)) (Post c [] (.p (.int .i64 (2*(N:Int) - 2 - bsI N g nb P)))):=by
      intro m b hm hb0 hb1 hk d
      have hcn:=stD_n m nb
      have hat:=fun k hk=>st_at m (by omega) nb (by omega) k hk
      have hsp:=hspx m hm
      have csp:=con_IsGainSparse_s ((N:Int),((stD m nb).1,fun i=>gb g (stD m nb).2 i),()) ⟨trivial,⟨by show (stD m nb).1≤1048576;omega,fun i hi=>by simp [smS,smL]⟩,trivial⟩
      rw [hsp] at csp
      generalize stD m nb=S at *
      induction d with
      | zero =>
        intro k hkn
        obtain rfl:k=S.1:=by omega
        have hd:decide ((S.1:Int)<(S.1:Int))=false:=by simp
        by_cases hq:(bif decide ((S.1:Int)>b) then spB N g nb m else false)=true
        · have hst:(if spB N g nb m=true then maxZ b S.1 else b)=(S.1:Int):=by
            by_cases hg:(S.1:Int)>b
            · rw [decide_eq_true hg] at hq
              simp only [cond_true] at hq
              rw [if_pos hq,maxZ,if_pos hg]
            · rw [decide_eq_false hg] at hq;simp at hq
          rw [hst] at hk
          refine pcD hc (fSt g nb N m S.1 b S.2 S.1 (fun i=>gb g S.2 i) (spB N g nb m)) ?_ hk
          and_intros
          all_goals (first | exact zI | (exact hd) | (exact hq) | (intros;exact csp) | (intro t ht;simp [All]) | (simp;omega))
        · have hst:(if spB N g nb m=true then maxZ b S.1 else b)=b:=by
            by_cases hg:(S.1:Int)>b
            · rw [decide_eq_true hg] at hq
              simp only [cond_true] at hq
              rw [if_neg hq]
            · split
              · rw [maxZ,if_neg hg]
              · rfl
          rw [hst] at hk
          rw [Bool.not_eq_true] at hq
          refine pcD hc (fSf g nb N m S.1 b S.2 S.1 (fun i=>gb g S.2 i) (spB N g nb m)) ?_ hk
          and_intros
          all_goals (first | exact zI | (exact hd) | (exact hq) | (intros;exact csp) | (intro t ht;simp [All]) | (simp;omega))
      | succ d ih =>
        intro k hkn
        have hd:decide ((k:Int)<(S.1:Int))=true:=decide_eq_true (by omega)
        obtain ⟨e,g1,g2,_⟩:=hat k (by omega)
        refine pcD hc (fSi g nb N m S.1 b S.2 k (fun i=>gb g S.2 i)) ?_ (ih (k+1) (by omega))
        and_intros
        all_goals (first | exact zI | (exact hd) | (rw [g1];omega) | (intro t ht;rcases Nat.lt_or_eq_of_le (Nat.le_of_lt_succ ht) with h' | h'<;>(simp [h',cvtL,cvt,tg,tru,All,gb];done)) | (intro t ht;simp [All];done) | (simp;omega))
    have lo:∀ d m,m+d=P→zR c 13 zf28 (GF0 g nb N m (bsI N g nb m)) (Post c [] (.p (.int .i64 (2*(N:Int) - 2 - bsI N g nb P)))):=by
      intro d
      induction d with
      | zero =>
        intro m hm
        obtain rfl:m=P:=by omega
        have hd:decide ((m:Int)<shlI .i64 1 (nb:Int))=false:=by rw [hsh];simp
        have hb:=bsI_in N g nb m
        refine pkZ Try.func13 hc (fSe g nb N m (bsI N g nb m)) ?_
        and_intros
        all_goals (first | exact zN | (exact hd) | (simp;omega))
      | succ d ih =>
        intro m hm
        have hd:decide ((m:Int)<shlI .i64 1 (nb:Int))=true:=by rw [hsh];exact decide_eq_true (by omega)
        have hb:=bsI_in N g nb m
        have hcn:=stD_n m nb
        have cst:=con_l3Set m nb (by omega)
        have hnx:=li m (bsI N g nb m) (by omega) hb.1 hb.2 (ih (m+1) (by omega)) (stD m nb).1 0 (by omega)
        refine pcD hc (fSo g nb N m (stD m nb).1 (bsI N g nb m) (stD m nb).2 _) ?_ hnx
        and_intros
        all_goals (first | exact zI | (exact hd) | (exact cst) | (intro t ht;exact absurd ht (Nat.not_lt_zero _)) | (intro t ht;simp [All];done) | (simp;omega))
    refine pcD hc (fSz g nb N) ?_ (lo P 0 (by omega))
    and_intros
    all_goals (first | exact zN | (exact c1) | (simp;omega))
open Go
def mv1 (b:T_GainBar) (v x c:Int):Int:=if b.1=b.2.1 then c else if b.1=v then c+x else if b.2.1=v then c - x else c
def mX (g:T_GainGraph) (v x:Int) (i:Nat):Int:=mv1 (g.2.1.2 i) v x (g.2.1.2 i).2.2.1
def mY (g:T_GainGraph) (v y:Int) (i:Nat):Int:=mv1 (g.2.1.2 i) v y (g.2.1.2 i).2.2.2.1
def withXY (g:T_GainGraph) (XX YY:Nat→Int):T_GainGraph:=(g.1,(g.2.1.1,fun i=>((g.2.1.2 i).1,(g.2.1.2 i).2.1,XX i,YY i,())),())
def moved (g:T_GainGraph) (v x y:Int):T_GainGraph:=withXY g (mX g v x) (mY g v y)
def okSw (g:T_GainGraph) (v x y:Int):Bool:=bif bif bif isGainF g then inB v 0 (g.1 - 1) else false then inB x (-9) 9 else false then inB y (-9) 9 else false
def swF (g:T_GainGraph) (v x y:Int):Bool:=okSw g v x y&&isGainF (moved g v x y)
def swR (g:T_GainGraph) (v x y:Int):T_GainGraph:=if swF g v x y=true then moved g v x y else g
def gbOb (w:T_GainBarS):Ob:=⟨false,4,w.1,fun i=>[.p (.int .i64 (w.2 i).1),.p (.int .i64 (w.2 i).2.1),.p (.int .i64 (w.2 i).2.2.1),.p (.int .i64 (w.2 i).2.2.2.1)]⟩
def boxGa (g:T_GainGraph):Ob:=⟨true,2,1,fun i=>[.p (.int .i64 g.1),gainL g]⟩
def gaO (w:T_GainGraph) (j:Nat):AV:=.agg [.p (.int .i64 w.1),.ar 4 j 0 w.2.1.1]
def S23 (g:T_GainGraph) (v x y:Int) (XX YY:Nat→Int) (k:Nat):St :=
  ⟨[gainA g,.p (.int .i64 v),.p (.int .i64 x),.p (.int .i64 y),.pt 2 0 0 0,.p .any,.p .any,.p .any,.pt 2 1 0 0,.p .any,.pt 2 3 0 0,.p (.int .i64 k)]++List.replicate 120 anyA,
   [(0,boxGa g),(1,⟨true,2,1,fun i=>[.p (.int .i64 0),.p .nil]⟩),(2,⟨false,4,g.2.1.1,fun i=>[.p (.int .i64 (g.2.1.2 i).1),.p (.int .i64 (g.2.1.2 i).2.1),.p (.int .i64 (XX i)),.p (.int .i64 (YY i))]⟩),(3,⟨true,2,1,fun i=>[.p (.int .i64 g.1),.ar 4 2 0 g.2.1.1]⟩)],4⟩
def S24 (g:T_GainGraph) (v x y:Int) (k:Nat):St :=
  ⟨[gainA g,.p (.int .i64 v),.p (.int .i64 x),.p (.int .i64 y),.pt 2 0 0 0,.p .any,.p .any,.p .any,.pt 2 1 0 0,.p .any,.pt 2 3 0 0,.pt 2 4 0 0]++List.replicate 35 anyA++[gainL g,.p (.int .i64 g.2.1.1),.p (.int .i64 k)]++List.replicate 55 anyA,
   [(0,boxGa g),(1,⟨true,2,1,fun i=>[.p (.int .i64 0),.p .nil]⟩),(2,gbOb g.2.1),(3,⟨true,2,1,fun i=>[.p (.int .i64 g.1),.ar 4 2 0 g.2.1.1]⟩),(4,⟨true,2,1,fun i=>[.p (.int .i64 g.1),.ar 4 5 0 k]⟩),
    (5,⟨false,4,k,fun i=>[.p (.int .i64 (g.2.1.2 i).1),.p (.int .i64 (g.2.1.2 i).2.1),.p (.int .i64 (mX g v x i)),.p (.int .i64 (mY g v y i))]⟩)],6⟩
theorem p44 (g:T_GainGraph) :
    zS Try.f61 [rg 2,rg 8] [gainA g] [224] [(0,gbOb g.2.1)] (gaO g 0) =
    some [(NT 0 1),(NT 0 1),(NL 0 0),(NL ((0+g.2.1.1)*32) 140737488355328),(NL (0+g.2.1.1) 9223372036854775807),(NT 0 1),((true=true)→ (AN 1)),(NT 0 1),(AI g.1),(AN 0),(((0+g.2.1.1):Nat)=g.2.1.1),(AN 4),(NL g.2.1.1 (0+g.2.1.1)),(AA g.2.1.1 (fun i=>[.p (.int .i64 ((g.2.1.2 i).1)),.p (.int .i64 ((g.2.1.2 i).2.1)),.p (.int .i64 ((g.2.1.2 i).2.2.1)),.p (.int .i64 ((g.2.1.2 i).2.2.2.1))])),(AE g.2.1.1)]:=by kernel_rfl
theorem p23z (g:T_GainGraph) (v x y:Int) :
    zS Try.f8 [rg 3,rm [(1,oc [(0,gbOb g.2.1)] (gaO g 0))] 2,rm [(1,oc [] (.p (.bool (isGainF g)))),(13,oc [] (.p (.bool (inB x (-9) 9)))),(4,oc [] (.p (.bool (inB y (-9) 9))))] 2,.dec true,rg 3] [gainA g,.p (.int .i64 v),.p (.int .i64 x),.p (.int .i64 y)] [128] [(0,gbOb g.2.1)] (.tup [gaO g 0,.p (.bool false)]) =
    some (zD [(NT 0 1),zE 61 [(zf19 g)] (zf21 g) (.agg [.p (.int .i64 g.1),.ar 4 0 0 g.2.1.1]),((true=true)→ (AN 1)),zE 15 [(zf19 g)] [] (.p (.bool (isGainF g))),(AG (!!isGainF g)),(((!isGainF g)=false)→ ((!!isGainF g)=true)),(AG (!bif !isGainF g then true else decide (v<0))),(((!bif !isGainF g then true else decide (v<0))=true)→(NT 0 1)),(((bif !isGainF g then true else decide (v<0))=false)→ ((!bif !isGainF g then true else decide (v<0))=true)),(AG (!bif bif !isGainF g then true else decide (v<0) then true else decide (v≥g.1))),(((!bif bif !isGainF g then true else decide (v<0) then true else decide (v≥g.1))=true)→ zE 62 [.p (.int .i64 x),.p (.int .i64 (-9)),.p (.int .i64 9)] [] (.p (.bool (inB x (-9) 9)))),(((bif bif !isGainF g then true else decide (v<0) then true else decide (v≥g.1))=false)→ ((!bif bif !isGainF g then true else decide (v<0) then true else decide (v≥g.1))=true)),(AG (!bif bif bif !isGainF g then true else decide (v<0) then true else decide (v≥g.1) then true else !inB x (-9) 9)),(((!bif bif bif !isGainF g then true else decide (v<0) then true else decide (v≥g.1) then true else !inB x (-9) 9)=true)→ zE 62 [.p (.int .i64 y),.p (.int .i64 (-9)),.p (.int .i64 9)] [] (.p (.bool (inB y (-9) 9)))),(((bif bif bif !isGainF g then true else decide (v<0) then true else decide (v≥g.1) then true else !inB x (-9) 9)=false)→ ((!bif bif bif !isGainF g then true else decide (v<0) then true else decide (v≥g.1) then true else !inB x (-9) 9)=true)),((bif bif bif bif !isGainF g then true else decide (v<0) then true else decide (v≥g.1) then true else !inB x (-9) 9 then true else !inB y (-9) 9)=true),(AI g.1),(AN 0),(AN g.2.1.1),(false=false),(AN 4),(NL g.2.1.1 g.2.1.1),(AA g.2.1.1 (fun i=>[.p (.int .i64 ((g.2.1.2 i).1)),.p (.int .i64 ((g.2.1.2 i).2.1)),.p (.int .i64 ((g.2.1.2 i).2.2.1)),.p (.int .i64 ((g.2.1.2 i).2.2.2.1))])),(AE g.2.1.1)] [0,1,0,2,0,3,4,5,6,7,6,6,8,9,10,9,11,12,13,12,14,15,0,0,2,0,16,17,18,19,20,21,22,23]):=by kernel_rfl
theorem p23a (g:T_GainGraph) (v x y:Int) :
    zT Try.f8 [rg 3,rm [(1,oc [(0,gbOb g.2.1)] (gaO g 0))] 2,rm [(1,oc [] (.p (.bool (isGainF g)))),(13,oc [] (.p (.bool (inB x (-9) 9)))),(4,oc [] (.p (.bool (inB y (-9) 9))))] 2,.dec false,rg 1,.head] [gainA g,.p (.int .i64 v),.p (.int .i64 x),.p (.int .i64 y)] [0,32,128,160] (S23 g v x y (fun i=>(g.2.1.2 i).2.2.1) (fun i=>(g.2.1.2 i).2.2.2.1) 0) =
    some (zf32,zD [(NT 0 1),zE 61 [(zf19 g)] (zf21 g) (.agg [.p (.int .i64 g.1),.ar 4 0 0 g.2.1.1]),((true=true)→ (AN 1)),zE 15 [(zf19 g)] [] (.p (.bool (isGainF g))),(AG (!!isGainF g)),(((!isGainF g)=false)→ ((!!isGainF g)=true)),(AG (!bif !isGainF g then true else decide (v<0))),(((!bif !isGainF g then true else decide (v<0))=true)→(NT 0 1)),(((bif !isGainF g then true else decide (v<0))=false)→ ((!bif !isGainF g then true else decide (v<0))=true)),(AG (!bif bif !isGainF g then true else decide (v<0) then true else decide (v≥g.1))),(((!bif bif !isGainF g then true else decide (v<0) then true else decide (v≥g.1))=true)→ zE 62 [.p (.int .i64 x),.p (.int .i64 (-9)),.p (.int .i64 9)] [] (.p (.bool (inB x (-9) 9)))),(((bif bif !isGainF g then true else decide (v<0) then true else decide (v≥g.1))=false)→ ((!bif bif !isGainF g then true else decide (v<0) then true else decide (v≥g.1))=true)),(AG (!bif bif bif !isGainF g then true else decide (v<0) then true else decide (v≥g.1) then true else !inB x (-9) 9)),(((!bif bif bif !isGainF g then true else decide (v<0) then true else decide (v≥g.1) then true else !inB x (-9) 9)=true)→ zE 62 [.p (.int .i64 y),.p (.int .i64 (-9)),.p (.int .i64 9)] [] (.p (.bool (inB y (-9) 9)))),(((bif bif bif !isGainF g then true else decide (v<0) then true else decide (v≥g.1) then true else !inB x (-9) 9)=false)→ ((!bif bif bif !isGainF g then true else decide (v<0) then true else decide (v≥g.1) then true else !inB x (-9) 9)=true)),((bif bif bif bif !isGainF g then true else decide (v<0) then true else decide (v≥g.1) then true else !inB x (-9) 9 then true else !inB y (-9) 9)=false),(AI g.1),(AN g.2.1.1),(AP g.2.1.1 (fun i=>[.int .i64 ((g.2.1.2 i).1),.int .i64 ((g.2.1.2 i).2.1),.int .i64 ((g.2.1.2 i).2.2.1),.int .i64 ((g.2.1.2 i).2.2.2.1)])),(AI v),(AI x),(AI y),(AN 0),((0:Int)=(↑0:Int)),((([AV.p (PV.int IntKind.i64 g.1),AV.p (PV.seq true 4 g.2.1.1 fun i=>[PV.int IntKind.i64 (g.2.1.2 i).1,PV.int IntKind.i64 (g.2.1.2 i).2.1,PV.int IntKind.i64 (g.2.1.2 i).2.2.1,PV.int IntKind.i64 (g.2.1.2 i).2.2.2.1])].length):Nat)=2),(NL 1 1),((((List.map (fun v=>AV.p (absV v)) [Value.int IntKind.i64 0,Value.slice none 0 0]).length):Nat)=2),(AI 0),(AN 4),(NL g.2.1.1 g.2.1.1),(AA g.2.1.1 (fun i=>[.p (.int .i64 ((g.2.1.2 i).1)),.p (.int .i64 ((g.2.1.2 i).2.1)),.p (.int .i64 ((g.2.1.2 i).2.2.1)),.p (.int .i64 ((g.2.1.2 i).2.2.2.1))]))] [0,1,0,2,0,3,4,5,6,7,6,6,8,9,10,9,11,12,13,12,14,15,16,17,18,19,20,21,22,22,22,23,24,25,25,16,17,18,26,25,25,27,28,29,30,26,25,25,16,22,17]):=by kernel_rfl
theorem p23b1 (g:T_GainGraph) (v x y:Int) (XX YY:Nat→Int) (k:Nat) :
    zM 0 [rg 5,.dec true,rg 13,.dec true,rg 3,.head] zf32 (S23 g v x y XX YY k) [0,1,2,3] 1 (S23 g v x y XX YY (k+1)) =
    some (zf32,zD [(NT 0 1),((decide ((↑k:Int)<(↑g.2.1.1:Int)))=true),(IL 0 (↑k:Int)),(IT (↑k:Int) (↑g.2.1.1:Int)),(NT k g.2.1.1),(((g.2.1.2 k).1==(g.2.1.2 k).2.1)=true),(ZLo ((↑k:Int)+1)),(ZHi ((↑k:Int)+1)),(AI g.1),(AN g.2.1.1),(AP g.2.1.1 (fun i=>[.int .i64 ((g.2.1.2 i).1),.int .i64 ((g.2.1.2 i).2.1),.int .i64 ((g.2.1.2 i).2.2.1),.int .i64 ((g.2.1.2 i).2.2.2.1)])),(AI v),(AI x),(AI y),(AN 0),((((↑k:Int)+1):Int)=(↑(k+1):Int)),(AN 2),(NL 1 1),(AI 0),(AN 4),(NL g.2.1.1 g.2.1.1),(AA g.2.1.1 (fun i=>[.p (.int .i64 ((g.2.1.2 i).1)),.p (.int .i64 ((g.2.1.2 i).2.1)),.p (.int .i64 (XX i)),.p (.int .i64 (YY i))]))] [0,1,0,2,3,4,0,2,3,4,5,6,7,8,9,10,11,12,13,14,14,14,15,16,17,17,8,9,10,16,17,17,18,19,20,21,16,17,17,8,14,9]):=by kernel_rfl
theorem p23b2 (g:T_GainGraph) (v x y:Int) (XX YY:Nat→Int) (k:Nat) :
    zM 0 [rg 5,.dec true,rg 13,.dec false,rg 8,.dec true,rg 14,.head] zf32 (S23 g v x y XX YY k) [0,1,2,3] 1 (S23 g v x y (fun i=>if i=k then XX k+x else XX i) YY k) =
    some (zf13,zD [(NT 0 1),((decide ((↑k:Int)<(↑g.2.1.1:Int)))=true),(IL 0 (↑k:Int)),(IT (↑k:Int) (↑g.2.1.1:Int)),(NT k g.2.1.1),(((g.2.1.2 k).1==(g.2.1.2 k).2.1)=false),(((g.2.1.2 k).1==v)=true),(ZLo (XX k+x)),(ZHi (XX k+x)),((false=true)→ ((g.2.1.1:Nat)=1)),(AI g.1),(AN g.2.1.1),(AP g.2.1.1 (fun i=>[.int .i64 ((g.2.1.2 i).1),.int .i64 ((g.2.1.2 i).2.1),.int .i64 ((g.2.1.2 i).2.2.1),.int .i64 ((g.2.1.2 i).2.2.2.1)])),(AI v),(AI x),(AI y),(AN 0),(AI ((↑k:Int))),(AN 2),(NL 1 1),(AI 0),(AN 4),(NL g.2.1.1 g.2.1.1),(CV [(2,⟨false,4,g.2.1.1,(fun i_1=>(if (i_1=k) then [.p (.int .i64 ((g.2.1.2 k).1)),.p (.int .i64 ((g.2.1.2 k).2.1)),.p (.int .i64 (XX k+x)),.p (.int .i64 (YY k))] else [.p (.int .i64 ((g.2.1.2 i_1).1)),.p (.int .i64 ((g.2.1.2 i_1).2.1)),.p (.int .i64 (XX i_1)),.p (.int .i64 (YY i_1))]))⟩),(0,⟨true,2,1,(fun i_1=>[.p (.int .i64 g.1),.p (.seq true 4 g.2.1.1 (fun i_2=>[.int .i64 ((g.2.1.2 i_2).1),.int .i64 ((g.2.1.2 i_2).2.1),.int .i64 ((g.2.1.2 i_2).2.2.1),.int .i64 ((g.2.1.2 i_2).2.2.2.1)]))])⟩),(1,⟨true,2,1,(fun i_1=>[.p (.int .i64 0),.p (.nil)])⟩),(3,⟨true,2,1,(fun i_1=>[.p (.int .i64 g.1),.ar 4 2 0 g.2.1.1])⟩)] [0,1,2,3] 1 g.2.1.1 (fun i=>if (i=k) then [.p (.int .i64 ((g.2.1.2 k).1)),.p (.int .i64 ((g.2.1.2 k).2.1)),.p (.int .i64 (XX k+x)),.p (.int .i64 (YY k))] else [.p (.int .i64 ((g.2.1.2 i).1)),.p (.int .i64 ((g.2.1.2 i).2.1)),.p (.int .i64 (XX i)),.p (.int .i64 (YY i))]) (fun i=>[.p (.int .i64 ((g.2.1.2 i).1)),.p (.int .i64 ((g.2.1.2 i).2.1)),.p (.int .i64 (if i=k then XX k+x else XX i)),.p (.int .i64 (YY i))]))] [0,1,0,2,3,4,0,2,3,4,5,0,2,3,4,6,0,0,2,3,4,7,8,2,3,4,9,10,11,12,13,14,15,16,16,16,17,18,19,19,10,11,12,18,19,19,20,21,22,23,18,19,19,10,16,11]):=by kernel_rfl
theorem p23b2y (g:T_GainGraph) (v x y:Int) (XX YY:Nat→Int) (k:Nat) :
    zM 0 [rg 14,.head] zf13 (S23 g v x y XX YY k) [0,1,2,3] 1 (S23 g v x y XX (fun i=>if i=k then YY k+y else YY i) k) =
    some (zf14,zD [(NT 0 1),(IL 0 (↑k:Int)),(IT (↑k:Int) (↑g.2.1.1:Int)),(NT k g.2.1.1),(ZLo (YY k+y)),(ZHi (YY k+y)),((false=true)→ ((g.2.1.1:Nat)=1)),(AI g.1),(AN g.2.1.1),(AP g.2.1.1 (fun i=>[.int .i64 ((g.2.1.2 i).1),.int .i64 ((g.2.1.2 i).2.1),.int .i64 ((g.2.1.2 i).2.2.1),.int .i64 ((g.2.1.2 i).2.2.2.1)])),(AI v),(AI x),(AI y),(AN 0),(AI ((↑k:Int))),(AN 2),(NL 1 1),(AI 0),(AN 4),(NL g.2.1.1 g.2.1.1),(CV [(2,⟨false,4,g.2.1.1,(fun i_1=>(if (i_1=k) then [.p (.int .i64 ((g.2.1.2 k).1)),.p (.int .i64 ((g.2.1.2 k).2.1)),.p (.int .i64 (XX k)),.p (.int .i64 (YY k+y))] else [.p (.int .i64 ((g.2.1.2 i_1).1)),.p (.int .i64 ((g.2.1.2 i_1).2.1)),.p (.int .i64 (XX i_1)),.p (.int .i64 (YY i_1))]))⟩),(0,⟨true,2,1,(fun i_1=>[.p (.int .i64 g.1),.p (.seq true 4 g.2.1.1 (fun i_2=>[.int .i64 ((g.2.1.2 i_2).1),.int .i64 ((g.2.1.2 i_2).2.1),.int .i64 ((g.2.1.2 i_2).2.2.1),.int .i64 ((g.2.1.2 i_2).2.2.2.1)]))])⟩),(1,⟨true,2,1,(fun i_1=>[.p (.int .i64 0),.p (.nil)])⟩),(3,⟨true,2,1,(fun i_1=>[.p (.int .i64 g.1),.ar 4 2 0 g.2.1.1])⟩)] [0,1,2,3] 1 g.2.1.1 (fun i=>if (i=k) then [.p (.int .i64 ((g.2.1.2 k).1)),.p (.int .i64 ((g.2.1.2 k).2.1)),.p (.int .i64 (XX k)),.p (.int .i64 (YY k+y))] else [.p (.int .i64 ((g.2.1.2 i).1)),.p (.int .i64 ((g.2.1.2 i).2.1)),.p (.int .i64 (XX i)),.p (.int .i64 (YY i))]) (fun i=>[.p (.int .i64 ((g.2.1.2 i).1)),.p (.int .i64 ((g.2.1.2 i).2.1)),.p (.int .i64 (XX i)),.p (.int .i64 (if i=k then YY k+y else YY i))]))] [0,0,1,2,3,4,5,1,2,3,6,7,8,9,10,11,12,13,13,13,14,15,16,16,7,8,9,15,16,16,17,18,19,20,15,16,16,7,13,8]):=by kernel_rfl
theorem p23b2z (g:T_GainGraph) (v x y:Int) (XX YY:Nat→Int) (k:Nat) :
    zM 0 [rg 8,.dec false,rg 3,.head] zf14 (S23 g v x y XX YY k) [0,1,2,3] 1 (S23 g v x y XX YY (k+1)) =
    some (zf32,zD [(NT 0 1),(IL 0 (↑k:Int)),(IT (↑k:Int) (↑g.2.1.1:Int)),(NT k g.2.1.1),(((g.2.1.2 k).2.1==v)=false),(ZLo ((↑k:Int)+1)),(ZHi ((↑k:Int)+1)),(AI g.1),(AN g.2.1.1),(AP g.2.1.1 (fun i=>[.int .i64 ((g.2.1.2 i).1),.int .i64 ((g.2.1.2 i).2.1),.int .i64 ((g.2.1.2 i).2.2.1),.int .i64 ((g.2.1.2 i).2.2.2.1)])),(AI v),(AI x),(AI y),(AN 0),((((↑k:Int)+1):Int)=(↑(k+1):Int)),(AN 2),(NL 1 1),(AI 0),(AN 4),(NL g.2.1.1 g.2.1.1),(AA g.2.1.1 (fun i=>[.p (.int .i64 ((g.2.1.2 i).1)),.p (.int .i64 ((g.2.1.2 i).2.1)),.p (.int .i64 (XX i)),.p (.int .i64 (YY i))]))] [0,1,2,3,4,5,6,7,8,9,10,11,12,13,13,13,14,15,16,16,7,8,9,15,16,16,17,18,19,20,15,16,16,7,13,8]):=by kernel_rfl
theorem p23b3 (g:T_GainGraph) (v x y:Int) (XX YY:Nat→Int) (k:Nat) :
    zM 0 [rg 5,.dec true,rg 13,.dec false,rg 8,.dec false,rg 8,.dec true,rg 14,.head] zf32 (S23 g v x y XX YY k) [0,1,2,3] 1 (S23 g v x y (fun i=>if i=k then XX k - x else XX i) YY k) =
    some (zf16,zD [(NT 0 1),((decide ((↑k:Int)<(↑g.2.1.1:Int)))=true),(IL 0 (↑k:Int)),(IT (↑k:Int) (↑g.2.1.1:Int)),(NT k g.2.1.1),(((g.2.1.2 k).1==(g.2.1.2 k).2.1)=false),(((g.2.1.2 k).1==v)=false),(((g.2.1.2 k).2.1==v)=true),(ZLo (XX k - x)),(ZHi (XX k - x)),((false=true)→ ((g.2.1.1:Nat)=1)),(AI g.1),(AN g.2.1.1),(AP g.2.1.1 (fun i=>[.int .i64 ((g.2.1.2 i).1),.int .i64 ((g.2.1.2 i).2.1),.int .i64 ((g.2.1.2 i).2.2.1),.int .i64 ((g.2.1.2 i).2.2.2.1)])),(AI v),(AI x),(AI y),(AN 0),(AI ((↑k:Int))),(AN 2),(NL 1 1),(AI 0),(AN 4),(NL g.2.1.1 g.2.1.1),(CV [(2,⟨false,4,g.2.1.1,(fun i_1=>(if (i_1=k) then [.p (.int .i64 ((g.2.1.2 k).1)),.p (.int .i64 ((g.2.1.2 k).2.1)),.p (.int .i64 (XX k - x)),.p (.int .i64 (YY k))] else [.p (.int .i64 ((g.2.1.2 i_1).1)),.p (.int .i64 ((g.2.1.2 i_1).2.1)),.p (.int .i64 (XX i_1)),.p (.int .i64 (YY i_1))]))⟩),(0,⟨true,2,1,(fun i_1=>[.p (.int .i64 g.1),.p (.seq true 4 g.2.1.1 (fun i_2=>[.int .i64 ((g.2.1.2 i_2).1),.int .i64 ((g.2.1.2 i_2).2.1),.int .i64 ((g.2.1.2 i_2).2.2.1),.int .i64 ((g.2.1.2 i_2).2.2.2.1)]))])⟩),(1,⟨true,2,1,(fun i_1=>[.p (.int .i64 0),.p (.nil)])⟩),(3,⟨true,2,1,(fun i_1=>[.p (.int .i64 g.1),.ar 4 2 0 g.2.1.1])⟩)] [0,1,2,3] 1 g.2.1.1 (fun i=>if (i=k) then [.p (.int .i64 ((g.2.1.2 k).1)),.p (.int .i64 ((g.2.1.2 k).2.1)),.p (.int .i64 (XX k - x)),.p (.int .i64 (YY k))] else [.p (.int .i64 ((g.2.1.2 i).1)),.p (.int .i64 ((g.2.1.2 i).2.1)),.p (.int .i64 (XX i)),.p (.int .i64 (YY i))]) (fun i=>[.p (.int .i64 ((g.2.1.2 i).1)),.p (.int .i64 ((g.2.1.2 i).2.1)),.p (.int .i64 (if i=k then XX k - x else XX i)),.p (.int .i64 (YY i))]))] [0,1,0,2,3,4,0,2,3,4,5,0,2,3,4,6,0,2,3,4,7,0,0,2,3,4,8,9,2,3,4,10,11,12,13,14,15,16,17,17,17,18,19,20,20,11,12,13,19,20,20,21,22,23,24,19,20,20,11,17,12]):=by kernel_rfl
theorem p23b3y (g:T_GainGraph) (v x y:Int) (XX YY:Nat→Int) (k:Nat) :
    zM 0 [rg 14,rg 3,.head] zf16 (S23 g v x y XX YY k) [0,1,2,3] 1 (S23 g v x y XX (fun i=>if i=k then YY k - y else YY i) (k+1)) =
    some (zf32,zD [(NT 0 1),(IL 0 (↑k:Int)),(IT (↑k:Int) (↑g.2.1.1:Int)),(NT k g.2.1.1),(ZLo (YY k - y)),(ZHi (YY k - y)),((false=true)→ ((g.2.1.1:Nat)=1)),(ZLo ((↑k:Int)+1)),(ZHi ((↑k:Int)+1)),(AI g.1),(AN g.2.1.1),(AP g.2.1.1 (fun i=>[.int .i64 ((g.2.1.2 i).1),.int .i64 ((g.2.1.2 i).2.1),.int .i64 ((g.2.1.2 i).2.2.1),.int .i64 ((g.2.1.2 i).2.2.2.1)])),(AI v),(AI x),(AI y),(AN 0),((((↑k:Int)+1):Int)=(↑(k+1):Int)),(AN 2),(NL 1 1),(AI 0),(AN 4),(NL g.2.1.1 g.2.1.1),(CV [(2,⟨false,4,g.2.1.1,(fun i_1=>(if (i_1=k) then [.p (.int .i64 ((g.2.1.2 k).1)),.p (.int .i64 ((g.2.1.2 k).2.1)),.p (.int .i64 (XX k)),.p (.int .i64 (YY k - y))] else [.p (.int .i64 ((g.2.1.2 i_1).1)),.p (.int .i64 ((g.2.1.2 i_1).2.1)),.p (.int .i64 (XX i_1)),.p (.int .i64 (YY i_1))]))⟩),(0,⟨true,2,1,(fun i_1=>[.p (.int .i64 g.1),.p (.seq true 4 g.2.1.1 (fun i_2=>[.int .i64 ((g.2.1.2 i_2).1),.int .i64 ((g.2.1.2 i_2).2.1),.int .i64 ((g.2.1.2 i_2).2.2.1),.int .i64 ((g.2.1.2 i_2).2.2.2.1)]))])⟩),(1,⟨true,2,1,(fun i_1=>[.p (.int .i64 0),.p (.nil)])⟩),(3,⟨true,2,1,(fun i_1=>[.p (.int .i64 g.1),.ar 4 2 0 g.2.1.1])⟩)] [0,1,2,3] 1 g.2.1.1 (fun i=>if (i=k) then [.p (.int .i64 ((g.2.1.2 k).1)),.p (.int .i64 ((g.2.1.2 k).2.1)),.p (.int .i64 (XX k)),.p (.int .i64 (YY k - y))] else [.p (.int .i64 ((g.2.1.2 i).1)),.p (.int .i64 ((g.2.1.2 i).2.1)),.p (.int .i64 (XX i)),.p (.int .i64 (YY i))]) (fun i=>[.p (.int .i64 ((g.2.1.2 i).1)),.p (.int .i64 ((g.2.1.2 i).2.1)),.p (.int .i64 (XX i)),.p (.int .i64 (if i=k then YY k - y else YY i))]))] [0,0,1,2,3,4,5,1,2,3,6,7,8,9,10,11,12,13,14,15,15,15,16,17,18,18,9,10,11,17,18,18,19,20,21,22,17,18,18,9,15,10]):=by kernel_rfl
theorem p23b4 (g:T_GainGraph) (v x y:Int) (XX YY:Nat→Int) (k:Nat) :
    zM 0 [rg 5,.dec true,rg 13,.dec false,rg 8,.dec false,rg 8,.dec false,rg 3,.head] zf32 (S23 g v x y XX YY k) [0,1,2,3] 1 (S23 g v x y XX YY (k+1)) =
    some (zf32,zD [(NT 0 1),((decide ((↑k:Int)<(↑g.2.1.1:Int)))=true),(IL 0 (↑k:Int)),(IT (↑k:Int) (↑g.2.1.1:Int)),(NT k g.2.1.1),(((g.2.1.2 k).1==(g.2.1.2 k).2.1)=false),(((g.2.1.2 k).1==v)=false),(((g.2.1.2 k).2.1==v)=false),(ZLo ((↑k:Int)+1)),(ZHi ((↑k:Int)+1)),(AI g.1),(AN g.2.1.1),(AP g.2.1.1 (fun i=>[.int .i64 ((g.2.1.2 i).1),.int .i64 ((g.2.1.2 i).2.1),.int .i64 ((g.2.1.2 i).2.2.1),.int .i64 ((g.2.1.2 i).2.2.2.1)])),(AI v),(AI x),(AI y),(AN 0),((((↑k:Int)+1):Int)=(↑(k+1):Int)),(AN 2),(NL 1 1),(AI 0),(AN 4),(NL g.2.1.1 g.2.1.1),(AA g.2.1.1 (fun i=>[.p (.int .i64 ((g.2.1.2 i).1)),.p (.int .i64 ((g.2.1.2 i).2.1)),.p (.int .i64 (XX i)),.p (.int .i64 (YY i))]))] [0,1,0,2,3,4,0,2,3,4,5,0,2,3,4,6,0,2,3,4,7,8,9,10,11,12,13,14,15,16,16,16,17,18,19,19,10,11,12,18,19,19,20,21,22,23,18,19,19,10,16,11]):=by kernel_rfl
theorem p23t (g:T_GainGraph) (v x y:Int) (XX YY:Nat→Int) (k:Nat) (b:Bool) :
    zP Try.f8 0 [rg 5,.dec false,rm [(1,oc [] (.p (.bool b)))] 1,.dec true,rm [(1,oc [(0,gbOb g.2.1)] (gaO g 0))] 2] zf32 (S23 g v x y XX YY k) [292] 1 [(0,gbOb g.2.1)] (.tup [gaO g 0,.p (.bool false)]) =
    some (zD [(NT 0 1),((decide ((↑k:Int)<(↑g.2.1.1:Int)))=false),(AN 4),(NL g.2.1.1 g.2.1.1),zE 15 [.agg [.p (.int .i64 g.1),.p (.seq true 4 g.2.1.1 (fun i=>[.int .i64 ((g.2.1.2 i).1),.int .i64 ((g.2.1.2 i).2.1),.int .i64 (XX i),.int .i64 (YY i)]))]] [] (.p (.bool b)),((!b)=true),zE 61 [(zf19 g)] (zf21 g) (.agg [.p (.int .i64 g.1),.ar 4 0 0 g.2.1.1]),((true=true)→ (AN 1)),(AI g.1),(AN 0),(AN g.2.1.1),(false=false),(AA g.2.1.1 (fun i=>[.p (.int .i64 ((g.2.1.2 i).1)),.p (.int .i64 ((g.2.1.2 i).2.1)),.p (.int .i64 ((g.2.1.2 i).2.2.1)),.p (.int .i64 ((g.2.1.2 i).2.2.2.1))])),(AE g.2.1.1)] [0,1,0,2,3,4,5,0,6,0,7,0,8,9,10,11,2,3,12,13]):=by kernel_rfl
theorem p23f (g:T_GainGraph) (v x y:Int) (XX YY:Nat→Int) (k:Nat) (b:Bool) :
    zP Try.f8 0 [rg 5,.dec false,rm [(1,oc [] (.p (.bool b)))] 1,.dec false,rg 3] zf32 (S23 g v x y XX YY k) [2] 1 [(0,gbOb (moved g v x y).2.1)] (.tup [gaO (moved g v x y) 0,.p (.bool true)]) =
    some (zD [(NT 0 1),((decide ((↑k:Int)<(↑g.2.1.1:Int)))=false),(AN 4),(NL g.2.1.1 g.2.1.1),zE 15 [.agg [.p (.int .i64 g.1),.p (.seq true 4 g.2.1.1 (fun i=>[.int .i64 ((g.2.1.2 i).1),.int .i64 ((g.2.1.2 i).2.1),.int .i64 (XX i),.int .i64 (YY i)]))]] [] (.p (.bool b)),((!b)=false),((true=true)→ (AN 1)),(AI g.1),(AN 0),(AN g.2.1.1),(true=true),(∀ i:Nat,(((i:Nat)<g.2.1.1)→(All []∧(([.p (.int .i64 ((g.2.1.2 i).1)),.p (.int .i64 ((g.2.1.2 i).2.1)),.p (.int .i64 (XX i)),.p (.int .i64 (YY i))]:List AV)=[.p (.int .i64 ((g.2.1.2 i).1)),.p (.int .i64 ((g.2.1.2 i).2.1)),.p (.int .i64 (mX g v x i)),.p (.int .i64 (mY g v y i))])))),(AE g.2.1.1)] [0,1,0,2,3,4,5,0,0,6,0,7,8,9,10,2,3,11,12]):=by kernel_rfl
theorem p24z (g:T_GainGraph) (v x y:Int) :
    zS Try.f7 [rg 3,rg 9,rm [(1,oc [] (.p (.bool (isGainF g)))),(6,oc [] (.p (.bool (inB v 0 (g.1 - 1))))),(4,oc [] (.p (.bool (inB x (-9) 9)))),(4,oc [] (.p (.bool (inB y (-9) 9))))] 2,.dec true,rg 3] [gainA g,.p (.int .i64 v),.p (.int .i64 x),.p (.int .i64 y)] [256] [(0,gbOb g.2.1)] (.tup [gaO g 0,.p (.bool false)]) =
    some (zD [(NT 0 1),(NL 0 0),(NL ((0+g.2.1.1)*32) 140737488355328),(NL (0+g.2.1.1) 9223372036854775807),((true=true)→ (AN 1)),zE 26 [(zf19 g)] [] (.p (.bool (isGainF g))),(AG (!!isGainF g)),(((!!isGainF g)=true)→(NT 0 1)),(((!!isGainF g)=true)→(ZLo (g.1 - 1))),(((!!isGainF g)=true)→(ZHi (g.1 - 1))),(((!!isGainF g)=true)→ zE 60 [.p (.int .i64 v),.p (.int .i64 0),.p (.int .i64 (g.1 - 1))] [] (.p (.bool (inB v 0 (g.1 - 1))))),(((!isGainF g)=false)→ ((!!isGainF g)=true)),(AG (!bif !isGainF g then true else !inB v 0 (g.1 - 1))),(((!bif !isGainF g then true else !inB v 0 (g.1 - 1))=true)→ zE 60 [.p (.int .i64 x),.p (.int .i64 (-9)),.p (.int .i64 9)] [] (.p (.bool (inB x (-9) 9)))),(((bif !isGainF g then true else !inB v 0 (g.1 - 1))=false)→ ((!bif !isGainF g then true else !inB v 0 (g.1 - 1))=true)),(AG (!bif bif !isGainF g then true else !inB v 0 (g.1 - 1) then true else !inB x (-9) 9)),(((!bif bif !isGainF g then true else !inB v 0 (g.1 - 1) then true else !inB x (-9) 9)=true)→ zE 60 [.p (.int .i64 y),.p (.int .i64 (-9)),.p (.int .i64 9)] [] (.p (.bool (inB y (-9) 9)))),(((bif bif !isGainF g then true else !inB v 0 (g.1 - 1) then true else !inB x (-9) 9)=false)→ ((!bif bif !isGainF g then true else !inB v 0 (g.1 - 1) then true else !inB x (-9) 9)=true)),((bif bif bif !isGainF g then true else !inB v 0 (g.1 - 1) then true else !inB x (-9) 9 then true else !inB y (-9) 9)=true),(AI g.1),(AN 0),(((0+g.2.1.1):Nat)=g.2.1.1),(false=false),(AN 4),(NL g.2.1.1 (0+g.2.1.1)),(AA g.2.1.1 (fun i=>[.p (.int .i64 ((g.2.1.2 i).1)),.p (.int .i64 ((g.2.1.2 i).2.1)),.p (.int .i64 ((g.2.1.2 i).2.2.1)),.p (.int .i64 ((g.2.1.2 i).2.2.2.1))])),(AE g.2.1.1)] [0,0,1,2,3,0,4,0,5,6,7,6,8,9,6,6,10,6,11,12,13,12,14,15,16,15,17,18,0,0,4,0,19,20,21,22,23,24,25,26]):=by kernel_rfl
theorem p24a (g:T_GainGraph) (v x y:Int) :
    zT Try.f7 [rg 3,rg 9,rm [(1,oc [] (.p (.bool (isGainF g)))),(6,oc [] (.p (.bool (inB v 0 (g.1 - 1))))),(4,oc [] (.p (.bool (inB x (-9) 9)))),(4,oc [] (.p (.bool (inB y (-9) 9))))] 2,.dec false,rg 5,rg 4,.head] [gainA g,.p (.int .i64 v),.p (.int .i64 x),.p (.int .i64 y)] [0,32,256,320,1152] (S24 g v x y 0) =
    some (zf24,zD [(NT 0 1),(NL 0 0),(NL ((0+g.2.1.1)*32) 140737488355328),(NL (0+g.2.1.1) 9223372036854775807),((true=true)→ (AN 1)),zE 26 [(zf19 g)] [] (.p (.bool (isGainF g))),(AG (!!isGainF g)),(((!!isGainF g)=true)→(NT 0 1)),(((!!isGainF g)=true)→(ZLo (g.1 - 1))),(((!!isGainF g)=true)→(ZHi (g.1 - 1))),(((!!isGainF g)=true)→ zE 60 [.p (.int .i64 v),.p (.int .i64 0),.p (.int .i64 (g.1 - 1))] [] (.p (.bool (inB v 0 (g.1 - 1))))),(((!isGainF g)=false)→ ((!!isGainF g)=true)),(AG (!bif !isGainF g then true else !inB v 0 (g.1 - 1))),(((!bif !isGainF g then true else !inB v 0 (g.1 - 1))=true)→ zE 60 [.p (.int .i64 x),.p (.int .i64 (-9)),.p (.int .i64 9)] [] (.p (.bool (inB x (-9) 9)))),(((bif !isGainF g then true else !inB v 0 (g.1 - 1))=false)→ ((!bif !isGainF g then true else !inB v 0 (g.1 - 1))=true)),(AG (!bif bif !isGainF g then true else !inB v 0 (g.1 - 1) then true else !inB x (-9) 9)),(((!bif bif !isGainF g then true else !inB v 0 (g.1 - 1) then true else !inB x (-9) 9)=true)→ zE 60 [.p (.int .i64 y),.p (.int .i64 (-9)),.p (.int .i64 9)] [] (.p (.bool (inB y (-9) 9)))),(((bif bif !isGainF g then true else !inB v 0 (g.1 - 1) then true else !inB x (-9) 9)=false)→ ((!bif bif !isGainF g then true else !inB v 0 (g.1 - 1) then true else !inB x (-9) 9)=true)),((bif bif bif !isGainF g then true else !inB v 0 (g.1 - 1) then true else !inB x (-9) 9 then true else !inB y (-9) 9)=false),(AI g.1),(AN g.2.1.1),(AP g.2.1.1 (fun i=>[.int .i64 ((g.2.1.2 i).1),.int .i64 ((g.2.1.2 i).2.1),.int .i64 ((g.2.1.2 i).2.2.1),.int .i64 ((g.2.1.2 i).2.2.2.1)])),(AI v),(AI x),(AI y),(AN 0),(AI ((↑g.2.1.1:Int))),((0:Int)=(↑0:Int)),((([AV.p (PV.int IntKind.i64 g.1),AV.p (PV.seq true 4 g.2.1.1 fun i=>[PV.int IntKind.i64 (g.2.1.2 i).1,PV.int IntKind.i64 (g.2.1.2 i).2.1,PV.int IntKind.i64 (g.2.1.2 i).2.2.1,PV.int IntKind.i64 (g.2.1.2 i).2.2.2.1])].length):Nat)=2),(NL 1 1),((((List.map (fun v=>AV.p (absV v)) [Value.int IntKind.i64 0,Value.slice none 0 0]).length):Nat)=2),(AI 0),(AN 4),(NL g.2.1.1 (0+g.2.1.1)),(AA g.2.1.1 (fun i=>[.p (.int .i64 ((g.2.1.2 i).1)),.p (.int .i64 ((g.2.1.2 i).2.1)),.p (.int .i64 ((g.2.1.2 i).2.2.1)),.p (.int .i64 ((g.2.1.2 i).2.2.2.1))])),(((0+g.2.1.1):Nat)=g.2.1.1)] [0,0,1,2,3,0,4,0,5,6,7,6,8,9,6,6,10,6,11,12,13,12,14,15,16,15,17,18,0,0,4,0,19,20,21,22,23,24,25,25,25,25,20,21,26,27,28,29,29,19,20,21,30,29,29,31,32,33,34,30,29,29,19,25,35,30,29,29,19,25,25]):=by kernel_rfl
theorem p24b1 (g:T_GainGraph) (v x y:Int) (k:Nat) :
    zM 0 [rg 1,.dec true,rg 4,rg 10,.dec true,rg 12,rg 7,rg 2,.head] zf24 (S24 g v x y k) [0,1,2,3,4,998] 1 (S24 g v x y (k+1)) =
    some (zf24,zD [((decide ((↑k:Int)<(↑g.2.1.1:Int)))=true),(IL 0 (↑k:Int)),(IT (↑k:Int) (↑g.2.1.1:Int)),(NT 0 1),((true=true)→ (AN 1)),(AG ((g.2.1.2 k).1==v)),((((g.2.1.2 k).1==v)=true)→(NT 0 1)),((bif (g.2.1.2 k).1==v then (g.2.1.2 k).2.1 != v else false)=true),(ZLo ((g.2.1.2 k).2.2.1+x)),(ZHi ((g.2.1.2 k).2.2.1+x)),(ZLo ((g.2.1.2 k).2.2.2.1+y)),(ZHi ((g.2.1.2 k).2.2.2.1+y)),(NL 1 1),(NL k k),(NL ((k+1)*32) 140737488355328),(NL (k+1) 9223372036854775807),(ZLo ((↑k:Int)+1)),(ZHi ((↑k:Int)+1)),(AI g.1),(AN g.2.1.1),(AP g.2.1.1 (fun i=>[.int .i64 ((g.2.1.2 i).1),.int .i64 ((g.2.1.2 i).2.1),.int .i64 ((g.2.1.2 i).2.2.1),.int .i64 ((g.2.1.2 i).2.2.2.1)])),(AI v),(AI x),(AI y),(AN 0),(AI ((↑g.2.1.1:Int))),((((↑k:Int)+1):Int)=(↑(k+1):Int)),(AN 2),(AI 0),(AN 4),(NL g.2.1.1 g.2.1.1),(AA g.2.1.1 (fun i=>[.p (.int .i64 ((g.2.1.2 i).1)),.p (.int .i64 ((g.2.1.2 i).2.1)),.p (.int .i64 ((g.2.1.2 i).2.2.1)),.p (.int .i64 ((g.2.1.2 i).2.2.2.1))])),(AN ((k+1))),(NL (k+1) (k+1)),(∀ i:Nat,(((i:Nat)<(k+1))→(All (cvtL false [(4,⟨true,2,1,(fun i_1=>[.p (.int .i64 g.1),.ar 4 998 0 (k+1)])⟩),(998,⟨false,4,(k+1),(fun i_1=>(if (i_1<k) then [.p (.int .i64 ((g.2.1.2 i_1).1)),.p (.int .i64 ((g.2.1.2 i_1).2.1)),.p (.int .i64 (mX g v x i_1)),.p (.int .i64 (mY g v y i_1))] else [.p (.int .i64 ((g.2.1.2 k).1)),.p (.int .i64 ((g.2.1.2 k).2.1)),.p (.int .i64 ((g.2.1.2 k).2.2.1+x)),.p (.int .i64 ((g.2.1.2 k).2.2.2.1+y))]))⟩),(966,⟨false,4,1,(fun i_1=>[.p (.int .i64 ((g.2.1.2 k).1)),.p (.int .i64 ((g.2.1.2 k).2.1)),.p (.int .i64 ((g.2.1.2 k).2.2.1+x)),.p (.int .i64 ((g.2.1.2 k).2.2.2.1+y))])⟩),(102,⟨true,4,1,(fun i_1=>[.p (.int .i64 ((g.2.1.2 k).1)),.p (.int .i64 ((g.2.1.2 k).2.1)),.p (.int .i64 ((g.2.1.2 k).2.2.1+x)),.p (.int .i64 ((g.2.1.2 k).2.2.2.1+y))])⟩),(0,⟨true,2,1,(fun i_1=>[.p (.int .i64 g.1),.p (.seq true 4 g.2.1.1 (fun i_2=>[.int .i64 ((g.2.1.2 i_2).1),.int .i64 ((g.2.1.2 i_2).2.1),.int .i64 ((g.2.1.2 i_2).2.2.1),.int .i64 ((g.2.1.2 i_2).2.2.2.1)]))])⟩),(1,⟨true,2,1,(fun i_1=>[.p (.int .i64 0),.p (.nil)])⟩),(2,⟨false,4,g.2.1.1,(fun i_1=>[.p (.int .i64 ((g.2.1.2 i_1).1)),.p (.int .i64 ((g.2.1.2 i_1).2.1)),.p (.int .i64 ((g.2.1.2 i_1).2.2.1)),.p (.int .i64 ((g.2.1.2 i_1).2.2.2.1))])⟩),(3,⟨true,2,1,(fun i_1=>[.p (.int .i64 g.1),.ar 4 2 0 g.2.1.1])⟩)] [0,1,2,3,4,998] 1 (if (i<k) then [.p (.int .i64 ((g.2.1.2 i).1)),.p (.int .i64 ((g.2.1.2 i).2.1)),.p (.int .i64 (mX g v x i)),.p (.int .i64 (mY g v y i))] else [.p (.int .i64 ((g.2.1.2 k).1)),.p (.int .i64 ((g.2.1.2 k).2.1)),.p (.int .i64 ((g.2.1.2 k).2.2.1+x)),.p (.int .i64 ((g.2.1.2 k).2.2.2.1+y))])).2∧(((cvtL false [(4,⟨true,2,1,(fun i_1=>[.p (.int .i64 g.1),.ar 4 998 0 (k+1)])⟩),(998,⟨false,4,(k+1),(fun i_1=>(if (i_1<k) then [.p (.int .i64 ((g.2.1.2 i_1).1)),.p (.int .i64 ((g.2.1.2 i_1).2.1)),.p (.int .i64 (mX g v x i_1)),.p (.int .i64 (mY g v y i_1))] else [.p (.int .i64 ((g.2.1.2 k).1)),.p (.int .i64 ((g.2.1.2 k).2.1)),.p (.int .i64 ((g.2.1.2 k).2.2.1+x)),.p (.int .i64 ((g.2.1.2 k).2.2.2.1+y))]))⟩),(966,⟨false,4,1,(fun i_1=>[.p (.int .i64 ((g.2.1.2 k).1)),.p (.int .i64 ((g.2.1.2 k).2.1)),.p (.int .i64 ((g.2.1.2 k).2.2.1+x)),.p (.int .i64 ((g.2.1.2 k).2.2.2.1+y))])⟩),(102,⟨true,4,1,(fun i_1=>[.p (.int .i64 ((g.2.1.2 k).1)),.p (.int .i64 ((g.2.1.2 k).2.1)),.p (.int .i64 ((g.2.1.2 k).2.2.1+x)),.p (.int .i64 ((g.2.1.2 k).2.2.2.1+y))])⟩),(0,⟨true,2,1,(fun i_1=>[.p (.int .i64 g.1),.p (.seq true 4 g.2.1.1 (fun i_2=>[.int .i64 ((g.2.1.2 i_2).1),.int .i64 ((g.2.1.2 i_2).2.1),.int .i64 ((g.2.1.2 i_2).2.2.1),.int .i64 ((g.2.1.2 i_2).2.2.2.1)]))])⟩),(1,⟨true,2,1,(fun i_1=>[.p (.int .i64 0),.p (.nil)])⟩),(2,⟨false,4,g.2.1.1,(fun i_1=>[.p (.int .i64 ((g.2.1.2 i_1).1)),.p (.int .i64 ((g.2.1.2 i_1).2.1)),.p (.int .i64 ((g.2.1.2 i_1).2.2.1)),.p (.int .i64 ((g.2.1.2 i_1).2.2.2.1))])⟩),(3,⟨true,2,1,(fun i_1=>[.p (.int .i64 g.1),.ar 4 2 0 g.2.1.1])⟩)] [0,1,2,3,4,998] 1 (if (i<k) then [.p (.int .i64 ((g.2.1.2 i).1)),.p (.int .i64 ((g.2.1.2 i).2.1)),.p (.int .i64 (mX g v x i)),.p (.int .i64 (mY g v y i))] else [.p (.int .i64 ((g.2.1.2 k).1)),.p (.int .i64 ((g.2.1.2 k).2.1)),.p (.int .i64 ((g.2.1.2 k).2.2.1+x)),.p (.int .i64 ((g.2.1.2 k).2.2.2.1+y))])).1:List AV)=[.p (.int .i64 ((g.2.1.2 i).1)),.p (.int .i64 ((g.2.1.2 i).2.1)),.p (.int .i64 (mX g v x i)),.p (.int .i64 (mY g v y i))]))))] [0,1,2,3,4,3,5,6,5,5,5,7,3,8,9,3,10,11,3,4,3,4,3,3,12,13,14,15,3,4,16,17,18,19,20,21,22,23,24,24,24,24,19,20,25,26,27,12,12,18,19,20,27,12,12,28,29,30,31,27,12,12,18,24,19,27,12,12,18,24,32,29,33,34]):=by kernel_rfl
theorem p24b2 (g:T_GainGraph) (v x y:Int) (k:Nat) :
    zM 0 [rg 1,.dec true,rg 4,rg 10,.dec false,rg 10,.dec true,rg 12,rg 7,rg 2,.head] zf24 (S24 g v x y k) [0,1,2,3,4,1318] 1 (S24 g v x y (k+1)) =
    some (zf24,zD [((decide ((↑k:Int)<(↑g.2.1.1:Int)))=true),(IL 0 (↑k:Int)),(IT (↑k:Int) (↑g.2.1.1:Int)),(NT 0 1),((true=true)→ (AN 1)),(AG ((g.2.1.2 k).1==v)),((((g.2.1.2 k).1==v)=true)→(NT 0 1)),((bif (g.2.1.2 k).1==v then (g.2.1.2 k).2.1 != v else false)=false),(AG ((g.2.1.2 k).2.1==v)),((((g.2.1.2 k).2.1==v)=true)→(NT 0 1)),((bif (g.2.1.2 k).2.1==v then (g.2.1.2 k).1 != v else false)=true),(ZLo ((g.2.1.2 k).2.2.1 - x)),(ZHi ((g.2.1.2 k).2.2.1 - x)),(ZLo ((g.2.1.2 k).2.2.2.1 - y)),(ZHi ((g.2.1.2 k).2.2.2.1 - y)),(NL 1 1),(NL k k),(NL ((k+1)*32) 140737488355328),(NL (k+1) 9223372036854775807),(ZLo ((↑k:Int)+1)),(ZHi ((↑k:Int)+1)),(AI g.1),(AN g.2.1.1),(AP g.2.1.1 (fun i=>[.int .i64 ((g.2.1.2 i).1),.int .i64 ((g.2.1.2 i).2.1),.int .i64 ((g.2.1.2 i).2.2.1),.int .i64 ((g.2.1.2 i).2.2.2.1)])),(AI v),(AI x),(AI y),(AN 0),(AI ((↑g.2.1.1:Int))),((((↑k:Int)+1):Int)=(↑(k+1):Int)),(AN 2),(AI 0),(AN 4),(NL g.2.1.1 g.2.1.1),(AA g.2.1.1 (fun i=>[.p (.int .i64 ((g.2.1.2 i).1)),.p (.int .i64 ((g.2.1.2 i).2.1)),.p (.int .i64 ((g.2.1.2 i).2.2.1)),.p (.int .i64 ((g.2.1.2 i).2.2.2.1))])),(AN ((k+1))),(NL (k+1) (k+1)),(∀ i:Nat,(((i:Nat)<(k+1))→(All (cvtL false [(4,⟨true,2,1,(fun i_1=>[.p (.int .i64 g.1),.ar 4 1318 0 (k+1)])⟩),(1318,⟨false,4,(k+1),(fun i_1=>(if (i_1<k) then [.p (.int .i64 ((g.2.1.2 i_1).1)),.p (.int .i64 ((g.2.1.2 i_1).2.1)),.p (.int .i64 (mX g v x i_1)),.p (.int .i64 (mY g v y i_1))] else [.p (.int .i64 ((g.2.1.2 k).1)),.p (.int .i64 ((g.2.1.2 k).2.1)),.p (.int .i64 ((g.2.1.2 k).2.2.1 - x)),.p (.int .i64 ((g.2.1.2 k).2.2.2.1 - y))]))⟩),(1286,⟨false,4,1,(fun i_1=>[.p (.int .i64 ((g.2.1.2 k).1)),.p (.int .i64 ((g.2.1.2 k).2.1)),.p (.int .i64 ((g.2.1.2 k).2.2.1 - x)),.p (.int .i64 ((g.2.1.2 k).2.2.2.1 - y))])⟩),(102,⟨true,4,1,(fun i_1=>[.p (.int .i64 ((g.2.1.2 k).1)),.p (.int .i64 ((g.2.1.2 k).2.1)),.p (.int .i64 ((g.2.1.2 k).2.2.1 - x)),.p (.int .i64 ((g.2.1.2 k).2.2.2.1 - y))])⟩),(0,⟨true,2,1,(fun i_1=>[.p (.int .i64 g.1),.p (.seq true 4 g.2.1.1 (fun i_2=>[.int .i64 ((g.2.1.2 i_2).1),.int .i64 ((g.2.1.2 i_2).2.1),.int .i64 ((g.2.1.2 i_2).2.2.1),.int .i64 ((g.2.1.2 i_2).2.2.2.1)]))])⟩),(1,⟨true,2,1,(fun i_1=>[.p (.int .i64 0),.p (.nil)])⟩),(2,⟨false,4,g.2.1.1,(fun i_1=>[.p (.int .i64 ((g.2.1.2 i_1).1)),.p (.int .i64 ((g.2.1.2 i_1).2.1)),.p (.int .i64 ((g.2.1.2 i_1).2.2.1)),.p (.int .i64 ((g.2.1.2 i_1).2.2.2.1))])⟩),(3,⟨true,2,1,(fun i_1=>[.p (.int .i64 g.1),.ar 4 2 0 g.2.1.1])⟩)] [0,1,2,3,4,1318] 1 (if (i<k) then [.p (.int .i64 ((g.2.1.2 i).1)),.p (.int .i64 ((g.2.1.2 i).2.1)),.p (.int .i64 (mX g v x i)),.p (.int .i64 (mY g v y i))] else [.p (.int .i64 ((g.2.1.2 k).1)),.p (.int .i64 ((g.2.1.2 k).2.1)),.p (.int .i64 ((g.2.1.2 k).2.2.1 - x)),.p (.int .i64 ((g.2.1.2 k).2.2.2.1 - y))])).2∧(((cvtL false [(4,⟨true,2,1,(fun i_1=>[.p (.int .i64 g.1),.ar 4 1318 0 (k+1)])⟩),(1318,⟨false,4,(k+1),(fun i_1=>(if (i_1<k) then [.p (.int .i64 ((g.2.1.2 i_1).1)),.p (.int .i64 ((g.2.1.2 i_1).2.1)),.p (.int .i64 (mX g v x i_1)),.p (.int .i64 (mY g v y i_1))] else [.p (.int .i64 ((g.2.1.2 k).1)),.p (.int .i64 ((g.2.1.2 k).2.1)),.p (.int .i64 ((g.2.1.2 k).2.2.1 - x)),.p (.int .i64 ((g.2.1.2 k).2.2.2.1 - y))]))⟩),(1286,⟨false,4,1,(fun i_1=>[.p (.int .i64 ((g.2.1.2 k).1)),.p (.int .i64 ((g.2.1.2 k).2.1)),.p (.int .i64 ((g.2.1.2 k).2.2.1 - x)),.p (.int .i64 ((g.2.1.2 k).2.2.2.1 - y))])⟩),(102,⟨true,4,1,(fun i_1=>[.p (.int .i64 ((g.2.1.2 k).1)),.p (.int .i64 ((g.2.1.2 k).2.1)),.p (.int .i64 ((g.2.1.2 k).2.2.1 - x)),.p (.int .i64 ((g.2.1.2 k).2.2.2.1 - y))])⟩),(0,⟨true,2,1,(fun i_1=>[.p (.int .i64 g.1),.p (.seq true 4 g.2.1.1 (fun i_2=>[.int .i64 ((g.2.1.2 i_2).1),.int .i64 ((g.2.1.2 i_2).2.1),.int .i64 ((g.2.1.2 i_2).2.2.1),.int .i64 ((g.2.1.2 i_2).2.2.2.1)]))])⟩),(1,⟨true,2,1,(fun i_1=>[.p (.int .i64 0),.p (.nil)])⟩),(2,⟨false,4,g.2.1.1,(fun i_1=>[.p (.int .i64 ((g.2.1.2 i_1).1)),.p (.int .i64 ((g.2.1.2 i_1).2.1)),.p (.int .i64 ((g.2.1.2 i_1).2.2.1)),.p (.int .i64 ((g.2.1.2 i_1).2.2.2.1))])⟩),(3,⟨true,2,1,(fun i_1=>[.p (.int .i64 g.1),.ar 4 2 0 g.2.1.1])⟩)] [0,1,2,3,4,1318] 1 (if (i<k) then [.p (.int .i64 ((g.2.1.2 i).1)),.p (.int .i64 ((g.2.1.2 i).2.1)),.p (.int .i64 (mX g v x i)),.p (.int .i64 (mY g v y i))] else [.p (.int .i64 ((g.2.1.2 k).1)),.p (.int .i64 ((g.2.1.2 k).2.1)),.p (.int .i64 ((g.2.1.2 k).2.2.1 - x)),.p (.int .i64 ((g.2.1.2 k).2.2.2.1 - y))])).1:List AV)=[.p (.int .i64 ((g.2.1.2 i).1)),.p (.int .i64 ((g.2.1.2 i).2.1)),.p (.int .i64 (mX g v x i)),.p (.int .i64 (mY g v y i))]))))] [0,1,2,3,4,3,5,6,5,5,5,7,3,8,9,8,8,8,10,3,11,12,3,13,14,3,4,3,4,3,3,15,16,17,18,3,4,19,20,21,22,23,24,25,26,27,27,27,27,22,23,28,29,30,15,15,21,22,23,30,15,15,31,32,33,34,30,15,15,21,27,22,30,15,15,21,27,35,32,36,37]):=by kernel_rfl
theorem p24b3 (g:T_GainGraph) (v x y:Int) (k:Nat) :
    zM 0 [rg 1,.dec true,rg 4,rg 10,.dec false,rg 10,.dec false,rg 7,rg 2,.head] zf24 (S24 g v x y k) [0,1,2,3,4,934] 1 (S24 g v x y (k+1)) =
    some (zf24,zD [((decide ((↑k:Int)<(↑g.2.1.1:Int)))=true),(IL 0 (↑k:Int)),(IT (↑k:Int) (↑g.2.1.1:Int)),(NT 0 1),((true=true)→ (AN 1)),(AG ((g.2.1.2 k).1==v)),((((g.2.1.2 k).1==v)=true)→(NT 0 1)),((bif (g.2.1.2 k).1==v then (g.2.1.2 k).2.1 != v else false)=false),(AG ((g.2.1.2 k).2.1==v)),((((g.2.1.2 k).2.1==v)=true)→(NT 0 1)),((bif (g.2.1.2 k).2.1==v then (g.2.1.2 k).1 != v else false)=false),(NL 1 1),(NL k k),(NL ((k+1)*32) 140737488355328),(NL (k+1) 9223372036854775807),(ZLo ((↑k:Int)+1)),(ZHi ((↑k:Int)+1)),(AI g.1),(AN g.2.1.1),(AP g.2.1.1 (fun i=>[.int .i64 ((g.2.1.2 i).1),.int .i64 ((g.2.1.2 i).2.1),.int .i64 ((g.2.1.2 i).2.2.1),.int .i64 ((g.2.1.2 i).2.2.2.1)])),(AI v),(AI x),(AI y),(AN 0),(AI ((↑g.2.1.1:Int))),((((↑k:Int)+1):Int)=(↑(k+1):Int)),(AN 2),(AI 0),(AN 4),(NL g.2.1.1 g.2.1.1),(AA g.2.1.1 (fun i=>[.p (.int .i64 ((g.2.1.2 i).1)),.p (.int .i64 ((g.2.1.2 i).2.1)),.p (.int .i64 ((g.2.1.2 i).2.2.1)),.p (.int .i64 ((g.2.1.2 i).2.2.2.1))])),(AN ((k+1))),(NL (k+1) (k+1)),(∀ i:Nat,(((i:Nat)<(k+1))→(All (cvtL false [(4,⟨true,2,1,(fun i_1=>[.p (.int .i64 g.1),.ar 4 934 0 (k+1)])⟩),(934,⟨false,4,(k+1),(fun i_1=>(if (i_1<k) then [.p (.int .i64 ((g.2.1.2 i_1).1)),.p (.int .i64 ((g.2.1.2 i_1).2.1)),.p (.int .i64 (mX g v x i_1)),.p (.int .i64 (mY g v y i_1))] else [.p (.int .i64 ((g.2.1.2 k).1)),.p (.int .i64 ((g.2.1.2 k).2.1)),.p (.int .i64 ((g.2.1.2 k).2.2.1)),.p (.int .i64 ((g.2.1.2 k).2.2.2.1))]))⟩),(902,⟨false,4,1,(fun i_1=>[.p (.int .i64 ((g.2.1.2 k).1)),.p (.int .i64 ((g.2.1.2 k).2.1)),.p (.int .i64 ((g.2.1.2 k).2.2.1)),.p (.int .i64 ((g.2.1.2 k).2.2.2.1))])⟩),(102,⟨true,4,1,(fun i_1=>[.p (.int .i64 ((g.2.1.2 k).1)),.p (.int .i64 ((g.2.1.2 k).2.1)),.p (.int .i64 ((g.2.1.2 k).2.2.1)),.p (.int .i64 ((g.2.1.2 k).2.2.2.1))])⟩),(0,⟨true,2,1,(fun i_1=>[.p (.int .i64 g.1),.p (.seq true 4 g.2.1.1 (fun i_2=>[.int .i64 ((g.2.1.2 i_2).1),.int .i64 ((g.2.1.2 i_2).2.1),.int .i64 ((g.2.1.2 i_2).2.2.1),.int .i64 ((g.2.1.2 i_2).2.2.2.1)]))])⟩),(1,⟨true,2,1,(fun i_1=>[.p (.int .i64 0),.p (.nil)])⟩),(2,⟨false,4,g.2.1.1,(fun i_1=>[.p (.int .i64 ((g.2.1.2 i_1).1)),.p (.int .i64 ((g.2.1.2 i_1).2.1)),.p (.int .i64 ((g.2.1.2 i_1).2.2.1)),.p (.int .i64 ((g.2.1.2 i_1).2.2.2.1))])⟩),(3,⟨true,2,1,(fun i_1=>[.p (.int .i64 g.1),.ar 4 2 0 g.2.1.1])⟩)] [0,1,2,3,4,934] 1 (if (i<k) then [.p (.int .i64 ((g.2.1.2 i).1)),.p (.int .i64 ((g.2.1.2 i).2.1)),.p (.int .i64 (mX g v x i)),.p (.int .i64 (mY g v y i))] else [.p (.int .i64 ((g.2.1.2 k).1)),.p (.int .i64 ((g.2.1.2 k).2.1)),.p (.int .i64 ((g.2.1.2 k).2.2.1)),.p (.int .i64 ((g.2.1.2 k).2.2.2.1))])).2∧(((cvtL false [(4,⟨true,2,1,(fun i_1=>[.p (.int .i64 g.1),.ar 4 934 0 (k+1)])⟩),(934,⟨false,4,(k+1),(fun i_1=>(if (i_1<k) then [.p (.int .i64 ((g.2.1.2 i_1).1)),.p (.int .i64 ((g.2.1.2 i_1).2.1)),.p (.int .i64 (mX g v x i_1)),.p (.int .i64 (mY g v y i_1))] else [.p (.int .i64 ((g.2.1.2 k).1)),.p (.int .i64 ((g.2.1.2 k).2.1)),.p (.int .i64 ((g.2.1.2 k).2.2.1)),.p (.int .i64 ((g.2.1.2 k).2.2.2.1))]))⟩),(902,⟨false,4,1,(fun i_1=>[.p (.int .i64 ((g.2.1.2 k).1)),.p (.int .i64 ((g.2.1.2 k).2.1)),.p (.int .i64 ((g.2.1.2 k).2.2.1)),.p (.int .i64 ((g.2.1.2 k).2.2.2.1))])⟩),(102,⟨true,4,1,(fun i_1=>[.p (.int .i64 ((g.2.1.2 k).1)),.p (.int .i64 ((g.2.1.2 k).2.1)),.p (.int .i64 ((g.2.1.2 k).2.2.1)),.p (.int .i64 ((g.2.1.2 k).2.2.2.1))])⟩),(0,⟨true,2,1,(fun i_1=>[.p (.int .i64 g.1),.p (.seq true 4 g.2.1.1 (fun i_2=>[.int .i64 ((g.2.1.2 i_2).1),.int .i64 ((g.2.1.2 i_2).2.1),.int .i64 ((g.2.1.2 i_2).2.2.1),.int .i64 ((g.2.1.2 i_2).2.2.2.1)]))])⟩),(1,⟨true,2,1,(fun i_1=>[.p (.int .i64 0),.p (.nil)])⟩),(2,⟨false,4,g.2.1.1,(fun i_1=>[.p (.int .i64 ((g.2.1.2 i_1).1)),.p (.int .i64 ((g.2.1.2 i_1).2.1)),.p (.int .i64 ((g.2.1.2 i_1).2.2.1)),.p (.int .i64 ((g.2.1.2 i_1).2.2.2.1))])⟩),(3,⟨true,2,1,(fun i_1=>[.p (.int .i64 g.1),.ar 4 2 0 g.2.1.1])⟩)] [0,1,2,3,4,934] 1 (if (i<k) then [.p (.int .i64 ((g.2.1.2 i).1)),.p (.int .i64 ((g.2.1.2 i).2.1)),.p (.int .i64 (mX g v x i)),.p (.int .i64 (mY g v y i))] else [.p (.int .i64 ((g.2.1.2 k).1)),.p (.int .i64 ((g.2.1.2 k).2.1)),.p (.int .i64 ((g.2.1.2 k).2.2.1)),.p (.int .i64 ((g.2.1.2 k).2.2.2.1))])).1:List AV)=[.p (.int .i64 ((g.2.1.2 i).1)),.p (.int .i64 ((g.2.1.2 i).2.1)),.p (.int .i64 (mX g v x i)),.p (.int .i64 (mY g v y i))]))))] [0,1,2,3,4,3,5,6,5,5,5,7,3,8,9,8,8,8,10,3,3,11,12,13,14,3,4,15,16,17,18,19,20,21,22,23,23,23,23,18,19,24,25,26,11,11,17,18,19,26,11,11,27,28,29,30,26,11,11,17,23,18,26,11,11,17,23,31,28,32,33]):=by kernel_rfl
theorem p24t (g:T_GainGraph) (v x y:Int) (k:Nat) (b:Bool) :
    zP Try.f7 0 [rg 1,.dec false,rm [(1,oc [] (.p (.bool b)))] 1,.dec true,rg 3] zf24 (S24 g v x y k) [2] 1 [(0,gbOb g.2.1)] (.tup [gaO g 0,.p (.bool false)]) =
    some [((decide ((↑k:Int)<(↑g.2.1.1:Int)))=false),(NT 0 1),(AN 4),(NL k k),zE 26 [.agg [.p (.int .i64 g.1),.p (.seq true 4 k (fun i=>[.int .i64 ((g.2.1.2 i).1),.int .i64 ((g.2.1.2 i).2.1),.int .i64 (mX g v x i),.int .i64 (mY g v y i)]))]] [] (.p (.bool b)),((!b)=true),(NT 0 1),(NT 0 1),((true=true)→ (AN 1)),(NT 0 1),(AI g.1),(AN 0),(AN g.2.1.1),(false=false),(AN 4),(NL g.2.1.1 g.2.1.1),(AA g.2.1.1 (fun i=>[.p (.int .i64 ((g.2.1.2 i).1)),.p (.int .i64 ((g.2.1.2 i).2.1)),.p (.int .i64 ((g.2.1.2 i).2.2.1)),.p (.int .i64 ((g.2.1.2 i).2.2.2.1))])),(AE g.2.1.1)]:=by kernel_rfl
theorem p24f (g:T_GainGraph) (v x y:Int) (k:Nat) (b:Bool) :
    zP Try.f7 0 [rg 1,.dec false,rm [(1,oc [] (.p (.bool b)))] 1,.dec false,rg 3] zf24 (S24 g v x y k) [5] 1 [(0,gbOb (moved g v x y).2.1)] (.tup [gaO (moved g v x y) 0,.p (.bool true)]) =
    some [((decide ((↑k:Int)<(↑g.2.1.1:Int)))=false),(NT 0 1),(AN 4),(NL k k),zE 26 [.agg [.p (.int .i64 g.1),.p (.seq true 4 k (fun i=>[.int .i64 ((g.2.1.2 i).1),.int .i64 ((g.2.1.2 i).2.1),.int .i64 (mX g v x i),.int .i64 (mY g v y i)]))]] [] (.p (.bool b)),((!b)=false),(NT 0 1),(NT 0 1),((true=true)→ (AN 1)),(NT 0 1),(AI g.1),(AN 0),((k:Nat)=g.2.1.1),(true=true),(AN 4),(NL g.2.1.1 k),(AA g.2.1.1 (fun i=>[.p (.int .i64 ((g.2.1.2 i).1)),.p (.int .i64 ((g.2.1.2 i).2.1)),.p (.int .i64 (mX g v x i)),.p (.int .i64 (mY g v y i))])),(AE g.2.1.1)]:=by kernel_rfl
theorem sm_gain (N:Int) (w:T_GainBarS) (hn:w.1≤1048576):smS s_GainGraph (N,w,()):=⟨by simp [smS,smL],⟨hn,fun i hi=>by simp [smS,smL]⟩,True.intro⟩
theorem con_l29Copy (g:T_GainGraph) (hn:g.2.1.1≤1048576):zE 61 [gainA g] [(0,gbOb g.2.1)] (gaO g 0):=by
  refine csZ Try.func61 (fun c hc=>?_)
  refine pkZ Try.func61 hc (p44 g) ?_
  and_intros
  all_goals (first | exact zI | (intro i hi;simp [All]))
theorem goodG_in (g:T_GainGraph):∀ n,goodG g n=true→∀ i,i<n→badG g.1 (g.2.1.2 i)=false
  | 0,_,i,hi=>by omega
  | n+1,h,i,hi=>by
    simp only [goodG,Bool.and_eq_true,Bool.not_eq_true'] at h
    by_cases e:i=n
    · subst e;exact h.2
    · exact goodG_in g n h.1 i (by omega)
theorem gain_inW (g:T_GainGraph) (h:isGainF g=true):1≤g.1∧g.1≤4∧g.2.1.1≤8∧∀ i,i<g.2.1.1 →
    0≤(g.2.1.2 i).1∧(g.2.1.2 i).1≤(g.2.1.2 i).2.1∧(g.2.1.2 i).2.1<g.1∧-9≤(g.2.1.2 i).2.2.1∧(g.2.1.2 i).2.2.1≤9∧-9≤(g.2.1.2 i).2.2.2.1∧(g.2.1.2 i).2.2.2.1≤9:=by
  simp only [isGainF,inB,Bool.and_eq_true,decide_eq_true_eq] at h
  obtain ⟨h1,⟨h2,h3⟩,h4⟩:=h
  refine ⟨h2,h3,h4,fun i hi=>?_⟩
  have hb:=goodG_in g _ h1 i hi
  unfold badG inB at hb
  by_cases a1:(g.2.1.2 i).1<0
  · simp [a1] at hb
  by_cases a2:(g.2.1.2 i).1>(g.2.1.2 i).2.1
  · simp [a2] at hb
  by_cases a3:(g.2.1.2 i).2.1≥g.1
  · simp [a3] at hb
  by_cases a4:-9≤(g.2.1.2 i).2.2.1∧(g.2.1.2 i).2.2.1≤9
  · by_cases a5:-9≤(g.2.1.2 i).2.2.2.1∧(g.2.1.2 i).2.2.2.1≤9
    · omega
    · have:(decide (-9≤(g.2.1.2 i).2.2.2.1)&&decide ((g.2.1.2 i).2.2.2.1≤9))=false:=by
        rw [← Bool.decide_and,decide_eq_false a5]
      rw [this] at hb;simp at hb
  · have:(decide (-9≤(g.2.1.2 i).2.2.1)&&decide ((g.2.1.2 i).2.2.1≤9))=false:=by
      rw [← Bool.decide_and,decide_eq_false a4]
    rw [this] at hb;simp at hb
theorem goodG_congr (N:Int) (n:Nat) (f f':Nat→T_GainBar):∀ k,(∀ i,i<k→f i=f' i)→goodG (N,(n,f),()) k=goodG (N,(n,f'),()) k
  | 0,_=>rfl
  | k+1,h=>by
    simp only [goodG]
    rw [goodG_congr N n f f' k (fun i hi=>h i (by omega)),h k (by omega)]
theorem isGain_congr (N:Int) (n:Nat) (f f':Nat→T_GainBar) (h:∀ i,i<n→f i=f' i):isGainF (N,(n,f),())=isGainF (N,(n,f'),()):=by
  simp only [isGainF]
  rw [goodG_congr N n f f' n h]
theorem spec_head (g:T_GainGraph) (v x y:Int) :
    (bif bif bif bif !isGainF g then true else decide (v<0) then true else decide (v≥g.1) then true else !inB x (-9) 9 then true else !inB y (-9) 9)=!okSw g v x y:=by
  unfold okSw
  cases isGainF g<;>cases inB x (-9) 9<;>cases inB y (-9) 9<;>simp [inB]
  · by_cases h:v<0
    · have:¬ (0≤v):=by omega
      simp [h,this]
    · have h0:0≤v:=by omega
      by_cases h':g.1≤v
      · have:¬ (v≤g.1 - 1):=by omega
        simp [h,h0,h',this]
      · have:v≤g.1 - 1:=by omega
        simp [h,h0,h',this]
theorem impl_head (g:T_GainGraph) (v x y:Int) :
    (bif bif bif !isGainF g then true else !inB v 0 (g.1 - 1) then true else !inB x (-9) 9 then true else !inB y (-9) 9)=!okSw g v x y:=by
  unfold okSw
  cases isGainF g<;>cases inB v 0 (g.1 - 1)<;>cases inB x (-9) 9<;>cases inB y (-9) 9<;>rfl
theorem okSw_in {g:T_GainGraph} {v x y:Int} (h:okSw g v x y=true):isGainF g=true∧(0≤v∧v≤g.1 - 1)∧(-9≤x∧x≤9)∧-9≤y∧y≤9:=by
  unfold okSw at h
  cases h1:isGainF g<;>cases h2:inB v 0 (g.1 - 1)<;>cases h3:inB x (-9) 9<;>cases h4:inB y (-9) 9<;>rw [h1,h2,h3,h4] at h<;>simp at h
  simp only [inB,Bool.and_eq_true,decide_eq_true_eq] at h2 h3 h4
  exact ⟨rfl,h2,h3,h4⟩
theorem con_SwitchGains_s (g:T_GainGraph) (v x y:Int) (hs:smS s_GainGraph g):zE 8 [gainA g,.p (.int .i64 v),.p (.int .i64 x),.p (.int .i64 y)] [(0,gbOb (swR g v x y).2.1)]
    (.tup [gaO (swR g v x y) 0,.p (.bool (swF g v x y))]):=by
  have hn:g.2.1.1≤1048576:=hs.2.1.1
  refine csZ Try.func8 (fun c hc=>?_)
  have hhd:=spec_head g v x y
  cases hok:okSw g v x y with
  | false =>
    have hf:swF g v x y=false:=by simp [swF,hok]
    rw [show swR g v x y=g by simp [swR,hf],hf]
    rw [hok] at hhd
    refine pkD Try.func8 hc (p23z g v x y) ?_
    and_intros
    all_goals (first | exact zH | (exact con_l29Copy g hn) | (exact con_IsGainGraph_s g hs) | (intros;exact con_l1In _ _ _) | (exact hhd) | (intro i hi;simp [All]))
  | true =>
  rw [hok] at hhd
  obtain ⟨hg,hv,hx,hy⟩:=okSw_in hok
  obtain ⟨gn1,gn2,gn3,gin⟩:=gain_inW g hg
  have lp:∀ m k (XX YY:Nat→Int),k+m=g.2.1.1→(∀ i,i<k→XX i=mX g v x i∧YY i=mY g v y i)→(∀ i,k≤i→XX i=(g.2.1.2 i).2.2.1∧YY i=(g.2.1.2 i).2.2.2.1) →
      zR c 8 zf32 (S23 g v x y XX YY k) (Post c [(0,gbOb (swR g v x y).2.1)] (.tup [gaO (swR g v x y) 0,.p (.bool (swF g v x y))])):=by
    intro m
    induction m with
    | zero =>
      intro k XX YY hk h1 h2
      have hd:decide ((k:Int)<(g.2.1.1:Int))=false:=by simp;omega
      have he:isGainF (withXY g XX YY)=isGainF (moved g v x y):=isGain_congr _ _ _ _ (fun i hi=>by
        obtain ⟨e1,e2⟩:=h1 i (by omega)
        rw [e1,e2])
      have hsm:smS s_GainGraph (withXY g XX YY):=sm_gain g.1 _ hn
      have hcon:=con_IsGainGraph_s (withXY g XX YY) hsm
      rw [he] at hcon
      cases hm:isGainF (moved g v x y) with
      | false =>
        have hf:swF g v x y=false:=by simp [swF,hok,hm]
        rw [show swR g v x y=g by simp [swR,hf],hf]
        rw [hm] at hcon
        refine pkD Try.func8 hc (p23t g v x y XX YY k false) ?_
        and_intros
        all_goals (first | exact zI | (exact con_l29Copy g hn) | (exact hcon) | (intro i hi;simp [All]))
      | true =>
        have hf:swF g v x y=true:=by simp [swF,hok,hm]
        rw [show swR g v x y=moved g v x y by simp [swR,hf],hf]
        rw [hm] at hcon
        refine pkD Try.func8 hc (p23f g v x y XX YY k true) ?_
        and_intros
        iterate 2 all_goals (first | exact zI | (exact hcon) | (intro i hi;have hh:=h1 i (Nat.lt_of_lt_of_le hi (by show g.2.1.1≤k;omega));simp [All,hh.1,hh.2,moved,withXY]) | simp only [All])
    | succ m ih =>
      intro k XX YY hk h1 h2
      have hd:decide ((k:Int)<(g.2.1.1:Int))=true:=by simp;omega
      obtain ⟨b1,b2,b3,b4,b5,b6,b7⟩:=gin k (by omega)
      obtain ⟨q1,q2⟩:=h2 k (Nat.le_refl k)
      by_cases hab:(g.2.1.2 k).1=(g.2.1.2 k).2.1
      · have hb:((g.2.1.2 k).1==(g.2.1.2 k).2.1)=true:=by simp [hab]
        refine pcD hc (p23b1 g v x y XX YY k) ?_ (ih (k+1) XX YY (by omega) (fun i hi=>?_) (fun i hi=>h2 i (by omega)))
        ·
          and_intros
          all_goals (first | exact zN | (simp [All]))
        · by_cases e:i=k
          · subst e;simp [mX,mY,mv1,hab,q1,q2]
          · exact h1 i (by omega)
      · have hb:((g.2.1.2 k).1==(g.2.1.2 k).2.1)=false:=by simp [hab]
        by_cases hav:(g.2.1.2 k).1=v
        · have hb2:((g.2.1.2 k).1==v)=true:=by simp [hav]
          have hb3:((g.2.1.2 k).2.1==v)=false:=by simp;omega
          refine pcD hc (p23b2 g v x y XX YY k) ?_ (pcD hc (p23b2y g v x y _ YY k) ?_ (pcD hc (p23b2z g v x y _ _ k) ?_ (ih (k+1) _ _ (by omega) (fun i hi=>?_) (fun i hi=>?_))))
          ·
            and_intros
            all_goals (first | exact zI | (intro i hi;by_cases h:i=k<;>simp [h,cvtL,cvt,tg,tru,All]))
          ·
            and_intros
            all_goals (first | exact zH | (intro i hi;by_cases h:i=k<;>simp [h,cvtL,cvt,tg,tru,All]))
          ·
            and_intros
            all_goals (first | exact zH | (simp [All]))
          · by_cases e:i=k
            · subst e;simp [mX,mY,mv1,hab,hav,q1,q2];omega
            · simp only [e,if_false];exact h1 i (by omega)
          · have e:¬ i=k:=by omega
            simp only [e,if_false];exact h2 i (by omega)
        · have hb2:((g.2.1.2 k).1==v)=false:=by simp [hav]
          by_cases hbv:(g.2.1.2 k).2.1=v
          · have hb3:((g.2.1.2 k).2.1==v)=true:=by simp [hbv]
            refine pcD hc (p23b3 g v x y XX YY k) ?_ (pcD hc (p23b3y g v x y _ YY k) ?_ (ih (k+1) _ _ (by omega) (fun i hi=>?_) (fun i hi=>?_)))
            ·
              and_intros
              all_goals (first | exact zI | (intro i hi;by_cases h:i=k<;>simp [h,cvtL,cvt,tg,tru,All]))
            ·
              and_intros
              all_goals (first | exact zH | (intro i hi;by_cases h:i=k<;>simp [h,cvtL,cvt,tg,tru,All]))
            · by_cases e:i=k
              · subst e;simp [mX,mY,mv1,hab,hav,hbv,q1,q2]
              · simp only [e,if_false];exact h1 i (by omega)
            · have e:¬ i=k:=by omega
              simp only [e,if_false];exact h2 i (by omega)
          · have hb3:((g.2.1.2 k).2.1==v)=false:=by simp [hbv]
            refine pcD hc (p23b4 g v x y XX YY k) ?_ (ih (k+1) XX YY (by omega) (fun i hi=>?_) (fun i hi=>h2 i (by omega)))
            ·
              and_intros
              all_goals (first | exact zN | (simp [All]))
            · by_cases e:i=k
              · subst e;simp [mX,mY,mv1,hab,hav,hbv,q1,q2]
              · exact h1 i (by omega)
  refine pcD hc (p23a g v x y) ?_ (lp g.2.1.1 0 _ _ (by omega) (fun i hi=>absurd hi (Nat.not_lt_zero i)) (fun i _=>⟨rfl,rfl⟩))
  and_intros
  all_goals (first | exact zH | (exact con_l29Copy g hn) | (exact con_IsGainGraph_s g hs) | (intros;exact con_l1In _ _ _) | (exact hhd) | (intro i hi;simp [All]))
theorem con_SwitchGains_i (g:T_GainGraph) (v x y:Int) (hs:smS s_GainGraph g):zE 7 [gainA g,.p (.int .i64 v),.p (.int .i64 x),.p (.int .i64 y)] [(0,gbOb (swR g v x y).2.1)]
    (.tup [gaO (swR g v x y) 0,.p (.bool (swF g v x y))]):=by
  have hn:g.2.1.1≤1048576:=hs.2.1.1
  refine csZ Try.func7 (fun c hc=>?_)
  have hhd:=impl_head g v x y
  have hgi:∀ {b:Prop},(!!isGainF g)=true→(1≤g.1∧g.1≤4→b)→b:=fun h k=>k ⟨(gain_inW g (by simpa using h)).1,(gain_inW g (by simpa using h)).2.1⟩
  cases hok:okSw g v x y with
  | false =>
    have hf:swF g v x y=false:=by simp [swF,hok]
    rw [show swR g v x y=g by simp [swR,hf],hf]
    rw [hok] at hhd
    refine pkD Try.func7 hc (p24z g v x y) ?_
    and_intros
    all_goals (first | exact zH | (exact con_IsGainGraph_i g hs) | (intros;exact con_within _ _ _) | (exact hhd) | (intro h;exact hgi h (fun h=>by omega)) | (intro i hi;simp [All]))
  | true =>
  rw [hok] at hhd
  obtain ⟨hg,hv,hx,hy⟩:=okSw_in hok
  obtain ⟨gn1,gn2,gn3,gin⟩:=gain_inW g hg
  have lp:∀ m k,k+m=g.2.1.1 →
      zR c 7 zf24 (S24 g v x y k) (Post c [(0,gbOb (swR g v x y).2.1)] (.tup [gaO (swR g v x y) 0,.p (.bool (swF g v x y))])):=by
    intro m
    induction m with
    | zero =>
      intro k hk
      have hkn:k=g.2.1.1:=by omega
      subst hkn
      have hd:decide ((g.2.1.1:Int)<(g.2.1.1:Int))=false:=by simp
      have hsm:smS s_GainGraph (moved g v x y):=sm_gain g.1 _ hn
      have hcon:=con_IsGainGraph_i (moved g v x y) hsm
      cases hm:isGainF (moved g v x y) with
      | false =>
        have hf:swF g v x y=false:=by simp [swF,hok,hm]
        rw [show swR g v x y=g by simp [swR,hf],hf]
        rw [hm] at hcon
        refine pkZ Try.func7 hc (p24t g v x y _ false) ?_
        and_intros
        all_goals (first | exact zI | (exact hcon) | (intro i hi;simp [All]))
      | true =>
        have hf:swF g v x y=true:=by simp [swF,hok,hm]
        rw [show swR g v x y=moved g v x y by simp [swR,hf],hf]
        rw [hm] at hcon
        refine pkZ Try.func7 hc (p24f g v x y _ true) ?_
        and_intros
        all_goals (first | exact zI | (exact hcon) | (intro i hi;simp [All,moved,withXY]))
    | succ m ih =>
      intro k hk
      have hd:decide ((k:Int)<(g.2.1.1:Int))=true:=by simp;omega
      obtain ⟨b1,b2,b3,b4,b5,b6,b7⟩:=gin k (by omega)
      by_cases hc1:(g.2.1.2 k).1=v∧(g.2.1.2 k).2.1≠v
      · have hb:(bif (g.2.1.2 k).1==v then (g.2.1.2 k).2.1 != v else false)=true:=by simp [hc1.1,hc1.2]
        have ex:mX g v x k=(g.2.1.2 k).2.2.1+x:=by simp only [mX,mv1];rw [if_neg (by omega),if_pos hc1.1]
        have ey:mY g v y k=(g.2.1.2 k).2.2.2.1+y:=by simp only [mY,mv1];rw [if_neg (by omega),if_pos hc1.1]
        refine pcD hc (p24b1 g v x y k) ?_ (ih (k+1) (by omega))
        and_intros
        all_goals (first | exact zI | (exact hb) | (intro i hi;simp [All];done) | (intro i hi;rcases (show i<k∨i=k by omega) with h | h<;>simp [h,cvtL,cvt,tg,tru,All,ex,ey]))
      · have hb:(bif (g.2.1.2 k).1==v then (g.2.1.2 k).2.1 != v else false)=false:=by
          by_cases e1:(g.2.1.2 k).1=v
          · have e2:(g.2.1.2 k).2.1=v:=by
              by_cases e2:(g.2.1.2 k).2.1=v
              · exact e2
              · exact absurd ⟨e1,e2⟩ hc1
            simp [e1,e2]
          · simp [e1]
        by_cases hc2:(g.2.1.2 k).2.1=v∧(g.2.1.2 k).1≠v
        · have hb2:(bif (g.2.1.2 k).2.1==v then (g.2.1.2 k).1 != v else false)=true:=by simp [hc2.1,hc2.2]
          have ex:mX g v x k=(g.2.1.2 k).2.2.1 - x:=by simp only [mX,mv1];rw [if_neg (by omega),if_neg hc2.2,if_pos hc2.1]
          have ey:mY g v y k=(g.2.1.2 k).2.2.2.1 - y:=by simp only [mY,mv1];rw [if_neg (by omega),if_neg hc2.2,if_pos hc2.1]
          refine pcD hc (p24b2 g v x y k) ?_ (ih (k+1) (by omega))
          and_intros
          all_goals (first | exact zI | (exact hb) | (exact hb2) | (intro i hi;simp [All];done) | (intro i hi;rcases (show i<k∨i=k by omega) with h | h<;>simp [h,cvtL,cvt,tg,tru,All,ex,ey]))
        · have hb2:(bif (g.2.1.2 k).2.1==v then (g.2.1.2 k).1 != v else false)=false:=by
            by_cases e1:(g.2.1.2 k).2.1=v
            · have e2:(g.2.1.2 k).1=v:=by
                by_cases e2:(g.2.1.2 k).1=v
                · exact e2
                · exact absurd ⟨e1,e2⟩ hc2
              simp [e1,e2]
            · simp [e1]
          have ex:mX g v x k=(g.2.1.2 k).2.2.1:=by
            simp only [mX,mv1]
            by_cases e0:(g.2.1.2 k).1=(g.2.1.2 k).2.1
            · rw [if_pos e0]
            · rw [if_neg e0,if_neg (fun e=>hc1 ⟨e,by omega⟩),if_neg (fun e=>hc2 ⟨e,by omega⟩)]
          have ey:mY g v y k=(g.2.1.2 k).2.2.2.1:=by
            simp only [mY,mv1]
            by_cases e0:(g.2.1.2 k).1=(g.2.1.2 k).2.1
            · rw [if_pos e0]
            · rw [if_neg e0,if_neg (fun e=>hc1 ⟨e,by omega⟩),if_neg (fun e=>hc2 ⟨e,by omega⟩)]
          refine pcD hc (p24b3 g v x y k) ?_ (ih (k+1) (by omega))
          and_intros
          all_goals (first | exact zI | (exact hb) | (exact hb2) | (intro i hi;simp [All];done) | (intro i hi;rcases (show i<k∨i=k by omega) with h | h<;>simp [h,cvtL,cvt,tg,tru,All,ex,ey]))
  refine pcD hc (p24a g v x y) ?_ (lp g.2.1.1 0 (by omega))
  and_intros
  all_goals (first | exact zH | (exact con_IsGainGraph_i g hs) | (intros;exact con_within _ _ _) | (exact hhd) | (intro h;exact hgi h (fun h=>by omega)) | (intro i hi;simp [All]))
theorem sel_mapP {α β:Type} (g:Nat→α) (φ:α→β) (B:Nat→Bool):∀ n,Sub.sel (fun i=>φ (g i)) B n=(Sub.sel g B n).map φ
  | 0=>rfl
  | n+1=>by
    simp only [Sub.sel]
    rw [sel_mapP g φ B n]
    split<;>simp
def swB (v x y:Int) (b:T_GainBar):T_GainBar:=(b.1,b.2.1,mv1 b v x b.2.2.1,mv1 b v y b.2.2.2.1,())
def nnB (b:T_GainBar):Prop:=0≤b.1∧0≤b.2.1
theorem mv_pot {b:T_GainBar} {v x c:Int} {p p':Nat→Int} (hb:nnB b) (hp:∀ u:Nat,p u=p' u+(if (u:Int)=v then x else 0)) :
    p' b.1.toNat+mv1 b v x c=p' b.2.1.toNat↔p b.1.toNat+c=p b.2.1.toNat:=by
  have h0:((b.1.toNat:Nat):Int)=b.1:=Int.toNat_of_nonneg hb.1
  have h1:((b.2.1.toNat:Nat):Int)=b.2.1:=Int.toNat_of_nonneg hb.2
  rw [hp,hp,h0,h1]
  unfold mv1
  by_cases e:b.1=b.2.1
  · rw [if_pos e,e]
    omega
  · rw [if_neg e]
    by_cases e1:b.1=v
    · have e2:¬ b.2.1=v:=fun h=>e (e1.trans h.symm)
      rw [if_pos e1,if_pos e1,if_neg e2]
      omega
    · rw [if_neg e1,if_neg e1]
      by_cases e2:b.2.1=v
      · rw [if_pos e2,if_pos e2];omega
      · rw [if_neg e2,if_neg e2];omega
theorem sw_balL {v x y:Int} {L:List T_GainBar} (h:∀ b∈L,nnB b):balL (L.map (swB v x y))=balL L:=by
  unfold balL
  congr 1
  apply propext
  constructor
  · rintro ⟨p',q',hp⟩
    refine ⟨fun u=>p' u+(if (u:Int)=v then x else 0),fun u=>q' u+(if (u:Int)=v then y else 0),fun b hb=>?_⟩
    have h2:=hp _ (List.mem_map.2 ⟨b,hb,rfl⟩)
    exact ⟨(mv_pot (h b hb) (fun _=>rfl)).1 h2.1,(mv_pot (h b hb) (fun _=>rfl)).1 h2.2⟩
  · rintro ⟨p,q,hp⟩
    refine ⟨fun u=>p u - (if (u:Int)=v then x else 0),fun u=>q u - (if (u:Int)=v then y else 0),fun b' hb'=>?_⟩
    obtain ⟨b,hb,rfl⟩:=List.mem_map.1 hb'
    have h2:=hp b hb
    exact ⟨(mv_pot (p:=p) (p':=fun u=>p u - (if (u:Int)=v then x else 0)) (h b hb) (fun u=>(Int.sub_add_cancel _ _).symm)).2 h2.1,(mv_pot (p:=q) (p':=fun u=>q u - (if (u:Int)=v then y else 0)) (h b hb) (fun u=>(Int.sub_add_cancel _ _).symm)).2 h2.2⟩
theorem sw_ptN {v x y:Int} {N:Nat} {L:List T_GainBar}:ptN N (L.map (swB v x y))=ptN N L:=by
  unfold ptN
  refine Sub.cntB_congr N (fun i _=>?_)
  unfold pB
  rw [List.any_map]
  rfl
theorem sw_okG {v x y:Int} {N:Nat} {L:List T_GainBar} (h:∀ b∈L,nnB b):okG N (L.map (swB v x y))↔okG N L:=by
  unfold okG mostL
  rw [sw_balL h,sw_ptN,List.length_map]
theorem sw_all {v x y:Int} {N n:Nat} {g:Nat→T_GainBar} (h:∀ i,i<n→nnB (g i)) (M:Nat→Bool):Sub.All (okG N) (fun i=>swB v x y (g i)) M n↔Sub.All (okG N) g M n:=by
  unfold Sub.All
  have key:∀ K:Nat→Bool,(Sub.sel (fun i=>swB v x y (g i)) K n≠[]→okG N (Sub.sel (fun i=>swB v x y (g i)) K n))↔(Sub.sel g K n≠[]→okG N (Sub.sel g K n)):=by
    intro K
    have hm:∀ b∈Sub.sel g K n,nnB b:=by
      intro b hb
      obtain ⟨i,hi,_,rfl⟩:=(Sub.sel_mem g K b n).1 hb
      exact h i hi
    rw [sel_mapP g (swB v x y) K n,sw_okG hm]
    cases Sub.sel g K n<;>simp
  exact ⟨fun hK K hs=>(key K).1 (hK K hs),fun hK K hs=>(key K).2 (hK K hs)⟩
theorem sw_spB {v x y:Int} {N nb:Nat} {g:Nat→T_GainBar} (h:∀ i,i<nb→nnB (g i)) (w:Nat):spB N (fun i=>swB v x y (g i)) nb w=spB N g nb w:=by
  unfold spB
  congr 1
  exact propext (sw_all h _)
theorem sw_bsI {v x y:Int} {N nb:Nat} {g:Nat→T_GainBar} (h:∀ i,i<nb→nnB (g i)):∀ m,bsI N (fun i=>swB v x y (g i)) nb m=bsI N g nb m
  | 0=>rfl
  | m+1=>by
    simp only [bsI]
    rw [sw_spB h,sw_bsI h m]
theorem gain_nn {g:T_GainGraph} (h:isGainF g=true):∀ i,i<g.2.1.1→nnB (g.2.1.2 i):=by
  obtain ⟨_,_,_,gin⟩:=gain_inW g h
  intro i hi
  obtain ⟨b1,b2,b3,_⟩:=gin i hi
  exact ⟨by omega,by omega⟩
theorem sw_is {g:T_GainGraph} {v x y:Int} (h:swF g v x y=true):isGainF g=true∧isGainF (moved g v x y)=true∧swR g v x y=moved g v x y:=by
  refine ⟨?_,?_,by simp [swR,h]⟩
  · simp only [swF,Bool.and_eq_true] at h;exact (okSw_in h.1).1
  · simp only [swF,Bool.and_eq_true] at h;exact h.2
theorem sw_sparse {g:T_GainGraph} {v x y:Int} (h:swF g v x y=true):sgF (swR g v x y)=sgF g:=by
  obtain ⟨h1,h2,h3⟩:=sw_is h
  rw [h3]
  unfold sgF
  rw [h1,h2,cond_true,cond_true]
  congr 1
  exact propext (sw_all (gain_nn h1) _)
theorem sw_free {g:T_GainGraph} {v x y:Int} (h:swF g v x y=true):gfF (swR g v x y)=gfF g:=by
  obtain ⟨h1,h2,h3⟩:=sw_is h
  rw [h3]
  unfold gfF
  rw [if_pos h1,if_pos h2]
  have:=sw_bsI (v:=v) (x:=x) (y:=y) (N:=g.1.toNat) (gain_nn h1) (2 ^ g.2.1.1)
  exact congrArg (fun t=>2*g.1 - 2 - t) this
theorem goodS_inP {nb:Nat} {s:Nat→Int}:∀ {n:Nat},goodS nb s n=true→∀ i,i<n→(s i).toNat<nb
  | 0,_,i,hi=>absurd hi (Nat.not_lt_zero _)
  | n+1,h,i,hi=>by
    simp only [goodS,Bool.and_eq_true,Bool.not_eq_true'] at h
    by_cases e:i=n
    · subst e
      have h2:=h.2
      unfold badS at h2
      by_cases a1:s i<0
      · simp [a1] at h2
      · by_cases a2:(nb:Int)≤s i
        · simp [a1,a2] at h2
        · omega
    · exact goodS_inP h.1 i (by omega)
theorem sw_bal {g:T_GainGraph} {v x y:Int} {u:T_IntS} (h:swF g v x y=true):isBalF (swR g v x y) u=isBalF g u:=by
  obtain ⟨h1,h2,h3⟩:=sw_is h
  rw [h3]
  unfold isBalF
  rw [h1,h2,cond_true,cond_true]
  cases hg:goodS g.2.1.1 u.2 u.1 with
  | false=>rw [show goodS (moved g v x y).2.1.1 u.2 u.1=false from hg,cond_false,cond_false]
  | true =>
    rw [show goodS (moved g v x y).2.1.1 u.2 u.1=true from hg,cond_true,cond_true]
    rw [balP_L,balP_L]
    have e:bkL (moved g v x y).2.1.2 u.1 u.2=(bkL g.2.1.2 u.1 u.2).map (swB v x y):=by
      unfold bkL
      rw [List.map_map]
      rfl
    rw [e]
    refine sw_balL (fun b hb=>?_)
    obtain ⟨i,hi,rfl⟩:=(bkL_mem _ _ _ _).1 hb
    exact gain_nn h1 _ (goodS_inP hg i hi)
theorem spB_iff {N nb w:Nat} {g:Nat→T_GainBar}:spB N g nb w=true↔Sub.All (okG N) g w.testBit nb:=by simp [spB]
theorem bsI_ge {N nb:Nat} {g:Nat→T_GainBar}:∀ {M m:Nat},m<M→spB N g nb m=true→((stD m nb).1:Int)≤bsI N g nb M
  | 0,m,h,_=>absurd h (Nat.not_lt_zero _)
  | M+1,m,h,hs=>by
    simp only [bsI]
    by_cases e:m=M
    · subst e
      rw [if_pos hs]
      unfold maxZ
      split<;>omega
    · have:=bsI_ge (M:=M) (m:=m) (by omega) hs
      split
      · unfold maxZ;split<;>omega
      · exact this
theorem bsI_at {N nb:Nat} {g:Nat→T_GainBar}:∀ M,bsI N g nb M=0∨∃ m,m<M∧spB N g nb m=true∧((stD m nb).1:Int)=bsI N g nb M
  | 0=>.inl rfl
  | M+1=>by
    have ih:=bsI_at (N:=N) (nb:=nb) (g:=g) M
    simp only [bsI]
    by_cases hs:spB N g nb M=true
    · rw [if_pos hs]
      unfold maxZ
      split
      · exact .inr ⟨M,by omega,hs,rfl⟩
      · rcases ih with h | ⟨m,h1,h2,h3⟩
        · exact .inl h
        · exact .inr ⟨m,by omega,h2,h3⟩
    · rw [if_neg hs]
      rcases ih with h | ⟨m,h1,h2,h3⟩
      · exact .inl h
      · exact .inr ⟨m,by omega,h2,h3⟩
theorem cntB_full {B:Nat→Bool}:∀ {n:Nat},Sub.cntB B n=n→∀ i,i<n→B i=true
  | 0,_,i,hi=>absurd hi (Nat.not_lt_zero _)
  | n+1,h,i,hi=>by
    have hle:=cntB_le B n
    simp only [Sub.cntB] at h
    by_cases hb:B n=true
    · rw [if_pos hb] at h
      by_cases e:i=n
      · subst e;exact hb
      · exact cntB_full (B:=B) (n:=n) (by omega) i (by omega)
    · rw [if_neg hb] at h;omega
theorem st_cnt {nb w:Nat} (hw:w<2 ^ 62) (hn:nb≤62):(stD w nb).1=Sub.cntB w.testBit nb:=by
  have h:=st_sel (fun _=>(0,0,0,0,())) w hw nb hn
  have h2:=congrArg List.length h
  rw [bkL_len,Sub.sel_len] at h2
  exact h2
theorem sp_lenP {N nb m:Nat} {g:Nat→T_GainBar} (hN:1≤N) (hnb:nb≤8) (hm:m<2 ^ nb) (hs:spB N g nb m=true):((stD m nb).1:Int)≤2*N - 2:=by
  have h8:=pow_62 hnb
  rw [st_cnt (by omega) (by omega)]
  have ha:Sub.All (okG N) g m.testBit nb:=spB_iff.1 hs
  rw [← Sub.sel_len g]
  by_cases h0:Sub.sel g m.testBit nb=[]
  · rw [h0];show (0:Int)≤_;omega
  · have ho:=ha m.testBit (fun _ h=>h) h0
    have hp:ptN N (Sub.sel g m.testBit nb)≤N:=cntB_le _ N
    unfold okG mostL at ho
    split at ho<;>omega
theorem free_ok {f:T_GainGraph} (h:isGainF f=true):0≤gfF f∧sgF f=(gfF f==2*f.1 - 2 - (f.2.1.1:Int)):=by
  obtain ⟨h1,h2,h3,_⟩:=gain_inW f h
  obtain ⟨N,hN⟩:∃ N:Nat,f.1=(N:Int):=⟨f.1.toNat,by omega⟩
  have hN1:f.1.toNat=N:=by omega
  have h8:=pow_62 h3
  have hpos:0<2 ^ f.2.1.1:=Nat.pow_pos (by omega)
  have hb:bsI N f.2.1.2 f.2.1.1 (2 ^ f.2.1.1)≤2*N - 2:=by
    rcases bsI_at (N:=N) (nb:=f.2.1.1) (g:=f.2.1.2) (2 ^ f.2.1.1) with e | ⟨m,m1,m2,m3⟩
    · rw [e];omega
    · rw [← m3];exact sp_lenP (by omega) h3 m1 m2
  have hfull:Sub.All (okG N) f.2.1.2 (fun _=>true) f.2.1.1↔bsI N f.2.1.2 f.2.1.1 (2 ^ f.2.1.1)=f.2.1.1:=by
    constructor
    · intro ha
      have hs:spB N f.2.1.2 f.2.1.1 (2 ^ f.2.1.1 - 1)=true:=spB_iff.2 (all_full.2 ha)
      have hg:=bsI_ge (show 2 ^ f.2.1.1 - 1<2 ^ f.2.1.1 by omega) hs
      have hc:(stD (2 ^ f.2.1.1 - 1) f.2.1.1).1=f.2.1.1:=by
        rw [st_cnt (by omega) (by omega)]
        have:=Sub.cntB_congr (B:=(2 ^ f.2.1.1 - 1).testBit) (C:=fun _=>true) f.2.1.1 (fun i hi=>by rw [Nat.testBit_two_pow_sub_one];simp [hi])
        rw [this]
        clear hg hb this h3 h8 hpos hs ha
        generalize f.2.1.1=q
        induction q with
        | zero=>rfl
        | succ q ih=>simp [Sub.cntB,ih]
      rw [hc] at hg
      have:=(bsI_in N f.2.1.2 f.2.1.1 (2 ^ f.2.1.1)).2
      omega
    · intro e
      rcases bsI_at (N:=N) (nb:=f.2.1.1) (g:=f.2.1.2) (2 ^ f.2.1.1) with e0 | ⟨m,m1,m2,m3⟩
      · have hz:f.2.1.1=0:=by omega
        rw [hz]
        intro K _ hne
        exact absurd rfl hne
      · have hc:Sub.cntB m.testBit f.2.1.1=f.2.1.1:=by
          rw [← st_cnt (by omega) (by omega)]
          omega
        have ha:Sub.All (okG N) f.2.1.2 m.testBit f.2.1.1:=spB_iff.1 m2
        exact (Sub.all_congr (fun i hi=>cntB_full hc i hi)).1 ha
  unfold gfF sgF
  rw [if_pos h,h,cond_true,hN1,hN]
  refine ⟨by omega,?_⟩
  by_cases ha:Sub.All (okG N) f.2.1.2 (fun _=>true) f.2.1.1
  · simp [ha,hfull.1 ha]
  · have:¬ bsI N f.2.1.2 f.2.1.1 (2 ^ f.2.1.1)=f.2.1.1:=fun e=>ha (hfull.2 e)
    simp [ha]
    omega
def cdA (n:Nat) (f:Nat→Int):AV:=.p (.seq true 1 n (fun i=>[.int .u8 (f i)]))
def cdB (n:Nat) (f:Nat→Int):AV:=.p (.seq false 1 n (fun i=>[.int .u8 (f i)]))
def cuO (n:Nat) (f:Nat→Int) (s:Nat×Int):Ob:=⟨true,3,1,fun _=>[cdB n f,.p (.int .i64 (s.1:Int)),.p (.int .i64 s.2)]⟩
def Cn0 (n:Nat) (f:Nat→Int) (i:Nat) (h:Int):St :=
  ⟨[cdB n f,.p .any,.p .any,.p (.int .i64 h),.p (.int .i64 i)]++List.replicate 27 anyA,[],0⟩
def cnH (h y:Int):Int:=bitI .and .i64 (IntKind.i64.wrap (IntKind.i64.wrap (IntKind.i64.wrap (h*131)+y)+7)) 1073741823
def byH (h:Int):Int:=IntKind.i64.wrap (IntKind.i64.wrap (h*6364136223846793005)+1442695040888963407)
def byX (h:Int):Int:=bitI .and .i64 (bitI .xor .i64 (shrI .i64 (byH h) 33) (shrI .i64 (byH h) 45)) 255
def byY (h y:Int):Int:=bitI .and .i64 (byX h+y) 255
theorem drBig (n:Nat) (f:Nat→Int) :
    zS Try.f5 [rg 1,rg 4] [cdA n f] [] [] (.p (.bool (decide ((n:Int)>1048576)))) =
    some [((decide ((↑n:Int)>1048576))=(decide ((↑n:Int)>1048576)))]:=by kernel_rfl
theorem drNz (n:Nat) (f:Nat→Int) :
    zT Try.f56 [rg 1,rg 4,rg 1,.head] [cdB n f] [] (Cn0 n f 0 (10101+n)) =
    some (zf40,[(ZLo (10101+(↑n:Int))),(ZHi (10101+(↑n:Int))),(AN n),(AP n (fun i=>[.int .u8 (f i)])),(AI ((10101+(↑n:Int)))),((0:Int)=(↑0:Int))]):=by kernel_rfl
theorem drNa (n:Nat) (f:Nat→Int) (i:Nat) (h:Int) :
    zM 0 [rg 8,.dec true,rm [(1,oF),(5,oF),(0,oF)] 2,rg 3,.head] zf40 (Cn0 n f i h) [] 1 (Cn0 n f (i+1) (cnH h (f i))) =
    some (zf40,zD [(AG (decide ((↑i:Int)<(↑n:Int)))),((bif decide ((↑i:Int)<(↑n:Int)) then decide ((↑i:Int)<4000) else false)=true),(IL 0 (↑i:Int)),(IT (↑i:Int) (↑n:Int)),(ZLo (f i)),(ZHi (f i)),(ZLo ((↑i:Int)+1)),(ZHi ((↑i:Int)+1)),(AN n),(AP n (fun i_1=>[.int .u8 (f i_1)])),(((bitI BinOp.and IntKind.i64 (IntKind.i64.wrap (IntKind.i64.wrap (IntKind.i64.wrap (h*131)+f i)+7)) 1073741823):Int)=(cnH h (f i))),((((↑i:Int)+1):Int)=(↑(i+1):Int))] [0,0,1,2,3,4,5,6,7,8,9,10,11]):=by kernel_rfl
theorem drNe (n:Nat) (f:Nat→Int) (i:Nat) (h:Int) :
    zP Try.f56 0 [rg 8,.dec false,rg 5] zf40 (Cn0 n f i h) [352] 1 [(0,cuO n f (0,h))] (.pt 3 0 0 0) =
    some (zD [(AG (decide ((↑i:Int)<(↑n:Int)))),((bif decide ((↑i:Int)<(↑n:Int)) then decide ((↑i:Int)<4000) else false)=false),(AN 0),((((splice (splice (List.map (fun v=>AV.p (absV v)) [Value.slice none 0 0,Value.int IntKind.i64 0,Value.int IntKind.i64 0]).length 0 (List.map (fun v=>AV.p (absV v)) [Value.slice none 0 0,Value.int IntKind.i64 0,Value.int IntKind.i64 0]) [AV.p (PV.seq false 1 n fun i=>[PV.int IntKind.u8 (f i)])]).length 2 (splice (List.map (fun v=>AV.p (absV v)) [Value.slice none 0 0,Value.int IntKind.i64 0,Value.int IntKind.i64 0]).length 0 (List.map (fun v=>AV.p (absV v)) [Value.slice none 0 0,Value.int IntKind.i64 0,Value.int IntKind.i64 0]) [AV.p (PV.seq false 1 n fun i=>[PV.int IntKind.u8 (f i)])]) [AV.p (PV.int IntKind.i64 h)]).length):Nat)=3),(NL 1 1),(AN n),(AP n (fun i_1=>[.int .u8 (f i_1)])),((0:Int)=(↑0:Int)),(AI h),(∀ i_1:Nat,(((i_1:Nat)<1)→All [(false=false),(AE n)]))] [0,0,1,2,3,4,4,5,6,7,8,9]):=by kernel_rfl
theorem drBa (n:Nat) (f:Nat→Int) (s:Nat×Int) :
    zP Try.f94 1 [rg 1,rm [(5,oF),(0,oF)] 3,rg 13,rg 10,.dec true,rg 15,rg 9,rg 2] [.code (bodyOf Try.f94)] (start Try.f94 [(0,cuO n f s)] 1 [.pt 3 0 0 0]) [0] 1 [(0,cuO n f (s.1+1,byH s.2))] (.p (.int .i64 (byY s.2 (f s.1)))) =
    some (zD [(NT 0 1),((true=true)→ (AN 1)),(IL 0 33),(IL 0 45),((decide ((↑s.1:Int)<(↑n:Int)))=true),(IL 0 (↑s.1:Int)),(IT (↑s.1:Int) (↑n:Int)),(ZLo (f s.1)),(ZHi (f s.1)),(ZLo (bitI BinOp.and IntKind.i64 (bitI BinOp.xor IntKind.i64 (shrI IntKind.i64 (IntKind.i64.wrap (IntKind.i64.wrap (s.2*6364136223846793005)+1442695040888963407)) 33) (shrI IntKind.i64 (IntKind.i64.wrap (IntKind.i64.wrap (s.2*6364136223846793005)+1442695040888963407)) 45)) 255+f s.1)),(ZHi (bitI BinOp.and IntKind.i64 (bitI BinOp.xor IntKind.i64 (shrI IntKind.i64 (IntKind.i64.wrap (IntKind.i64.wrap (s.2*6364136223846793005)+1442695040888963407)) 33) (shrI IntKind.i64 (IntKind.i64.wrap (IntKind.i64.wrap (s.2*6364136223846793005)+1442695040888963407)) 45)) 255+f s.1)),(ZLo ((↑s.1:Int)+1)),(ZHi ((↑s.1:Int)+1)),(((bitI BinOp.and IntKind.i64 (bitI BinOp.and IntKind.i64 (bitI BinOp.xor IntKind.i64 (shrI IntKind.i64 (IntKind.i64.wrap (IntKind.i64.wrap (s.2*6364136223846793005)+1442695040888963407)) 33) (shrI IntKind.i64 (IntKind.i64.wrap (IntKind.i64.wrap (s.2*6364136223846793005)+1442695040888963407)) 45)) 255+f s.1) 255):Int)=(byY s.2 (f s.1))),(AN 3),(NL 1 1),(AN n),(AP n (fun i=>[.int .u8 (f i)])),((((↑s.1:Int)+1):Int)=(↑(s.1+1):Int)),(((IntKind.i64.wrap (IntKind.i64.wrap (s.2*6364136223846793005)+1442695040888963407)):Int)=(byH s.2)),(∀ i:Nat,(((i:Nat)<1)→All [(false=false),(AE n)]))] [0,0,1,0,2,0,3,0,0,4,0,0,5,6,7,8,9,10,0,11,12,0,1,13,14,15,15,16,17,18,19,20]):=by kernel_rfl
theorem drBb (n:Nat) (f:Nat→Int) (s:Nat×Int) :
    zP Try.f94 1 [rg 1,rm [(5,oF),(0,oF)] 3,rg 13,rg 10,.dec false,rg 2] [.code (bodyOf Try.f94)] (start Try.f94 [(0,cuO n f s)] 1 [.pt 3 0 0 0]) [0] 1 [(0,cuO n f (s.1,byH s.2))] (.p (.int .i64 (byX s.2))) =
    some (zD [(NT 0 1),((true=true)→ (AN 1)),(IL 0 33),(IL 0 45),((decide ((↑s.1:Int)<(↑n:Int)))=false),(((bitI BinOp.and IntKind.i64 (bitI BinOp.xor IntKind.i64 (shrI IntKind.i64 (IntKind.i64.wrap (IntKind.i64.wrap (s.2*6364136223846793005)+1442695040888963407)) 33) (shrI IntKind.i64 (IntKind.i64.wrap (IntKind.i64.wrap (s.2*6364136223846793005)+1442695040888963407)) 45)) 255):Int)=(byX s.2)),(AN 3),(NL 1 1),(AN n),(AP n (fun i=>[.int .u8 (f i)])),(AI ((↑s.1:Int))),(((IntKind.i64.wrap (IntKind.i64.wrap (s.2*6364136223846793005)+1442695040888963407)):Int)=(byH s.2)),(∀ i:Nat,(((i:Nat)<1)→All [(false=false),(AE n)]))] [0,0,1,0,2,0,3,0,0,4,5,6,7,7,8,9,10,11,12]):=by kernel_rfl
theorem drLz (n:Nat) (f:Nat→Int) (s:Nat×Int) (k:Int) :
    zP Try.f58 1 [rg 1,rg 2,.dec true,rg 1] [.code (bodyOf Try.f58)] (start Try.f58 [(0,cuO n f s)] 1 [.pt 3 0 0 0,.p (.int .i64 k)]) [0] 1 [(0,cuO n f s)] (.p (.int .i64 0)) =
    some [((decide (k≤0))=true),(AI 0),(AN 3),(NL 1 1),(NL 1 1),(AN n),(AP n (fun i=>[.int .u8 (f i)])),(AI ((↑s.1:Int))),(AI s.2),(∀ i:Nat,(((i:Nat)<1)→All [(false=false),(AE n)]))]:=by kernel_rfl
theorem drLa (n:Nat) (f:Nat→Int) (s s2:Nat×Int) (k x:Int) :
    zP Try.f58 1 [rg 1,rg 2,.dec false,rg 2,.dec true,rm [(1,⟨true,(some ⟨[0],[1000],[],1,[(0,cuO n f s2)],.p (.int .i64 x)⟩),none⟩)] 3] [.code (bodyOf Try.f58)] (start Try.f58 [(0,cuO n f s)] 1 [.pt 3 0 0 0,.p (.int .i64 k)]) [0] 1 [(0,cuO n f s2)] (.p (.int .i64 (x.tmod k))) =
    some [((decide (k≤0))=false),((decide (k≤256))=true),(AE 1),Con Try.prog 94 1 (zf49 n f s) [.pt 3 0 0 0] (zf49 n f s2) (.p (.int .i64 x)),(IL 0 x),(IT 0 k),(((x % k):Int)=(x.tmod k)),(AN 3),(NL 1 1),(NL 1 1),(AN n),(AP n (fun i=>[.int .u8 (f i)])),(AI ((↑s2.1:Int))),(AI s2.2),(∀ i:Nat,(((i:Nat)<1)→All [(false=false),(AE n)]))]:=by kernel_rfl
theorem drO (n:Nat) (f:Nat→Int) (s s2:Nat×Int) (k x:Int) :
    zP Try.f72 1 [rg 1,rm [(2,⟨true,(some ⟨[0],[1000],[],1,[(0,cuO n f s2)],.p (.int .i64 x)⟩),none⟩)] 2] [.code (bodyOf Try.f72)] (start Try.f72 [(0,cuO n f s)] 1 [.pt 3 0 0 0,.p (.int .i64 k)]) [0] 1 [(0,cuO n f s2)] (.p (.bool (x==0))) =
    some [(AE 1),Con Try.prog 58 1 (zf49 n f s) [.pt 3 0 0 0,.p (.int .i64 k)] (zf49 n f s2) (.p (.int .i64 x)),((x==0)=(x==0)),(AN 3),(NL 1 1),(NL 1 1),(AN n),(AP n (fun i=>[.int .u8 (f i)])),(AI ((↑s2.1:Int))),(AI s2.2),(∀ i:Nat,(((i:Nat)<1)→All [(false=false),(AE n)]))]:=by kernel_rfl
theorem drP (n:Nat) (f:Nat→Int) (s s2:Nat×Int) (m:Nat) (g:Nat→Int) (x:Nat) :
    zP Try.f59 1 [rg 1,rm [(4,⟨true,(some ⟨[0],[1000],[],1,[(0,cuO n f s2)],.p (.int .i64 x)⟩),none⟩)] 3] [.code (bodyOf Try.f59)] (start Try.f59 [(0,cuO n f s)] 1 [.pt 3 0 0 0,.p (.seq true 1 m (fun i=>[.int .i64 (g i)]))]) [0] 1 [(0,cuO n f s2)] (.p (.int .i64 (g x))) =
    some [(AE 1),Con Try.prog 58 1 (zf49 n f s) [.pt 3 0 0 0,.p (.int .i64 (↑m:Int))] (zf49 n f s2) (.p (.int .i64 (↑x:Int))),(IL 0 (↑x:Int)),(IT (↑x:Int) (↑m:Int)),(AI ((g x))),(AN 3),(NL 1 1),(NL 1 1),(AN n),(AP n (fun i=>[.int .u8 (f i)])),(AI ((↑s2.1:Int))),(AI s2.2),(∀ i:Nat,(((i:Nat)<1)→All [(false=false),(AE n)]))]:=by kernel_rfl
theorem and_255 (a:Int):0≤bitI .and .i64 a 255∧bitI .and .i64 a 255≤255:=by
  have h:bitI .and .i64 a 255=(((BitVec.ofInt 64 a).toNat &&& 255:Nat):Int):=by
    unfold bitI
    have e1:(BitVec.ofInt IntKind.i64.bits a &&& BitVec.ofInt IntKind.i64.bits 255).toNat=(BitVec.ofInt 64 a).toNat &&& 255:=by
      rw [BitVec.toNat_and];rfl
    simp only [e1]
    have h2:(BitVec.ofInt 64 a).toNat &&& 255≤255:=Nat.and_le_right
    exact wrap_in (by simp only [imin];omega) (by simp only [imax];omega)
  have h2:(BitVec.ofInt 64 a).toNat &&& 255≤255:=Nat.and_le_right
  rw [h]
  omega
def CdOk (n:Nat) (f:Nat→Int):Prop:=n≤1048576∧∀ i,i<n→0≤f i∧f i≤255
theorem con_big (n:Nat) (f:Nat→Int):zE 5 [cdA n f] [] (.p (.bool (decide ((n:Int)>1048576)))):=by
  refine csZ Try.func5 (fun c hc=>?_)
  refine pkZ Try.func5 hc (drBig n f) ?_
  and_intros
  all_goals (first | exact zN | (simp;done))
set_option maxRecDepth 20000 in
theorem con_l1New (n:Nat) (f:Nat→Int) (hn:CdOk n f):∃ s:Nat×Int,s.1≤n∧zE 56 [cdB n f] [(0,cuO n f s)] (.pt 3 0 0 0):=by
  have key:∀ e i h,i+e=n→∃ h':Int,∀ c:Cx,c.n=0→zR c 56 zf40 (Cn0 n f i h) (Post c [(0,cuO n f (0,h'))] (.pt 3 0 0 0)):=by
    intro e
    induction e with
    | zero =>
      intro i h hi
      refine ⟨h,fun c hc=>?_⟩
      have hd:decide ((i:Int)<(n:Int))=false:=decide_eq_false (by omega)
      refine pkD Try.func56 hc (drNe n f i h) ?_
      and_intros
      iterate 2 all_goals (first | exact zN | (rw [hd];rfl) | (simp [hd];done) | simp only [All])
    | succ e ih =>
      intro i h hi
      by_cases h4:i<4000
      · obtain ⟨h',hr⟩:=ih (i+1) (cnH h (f i)) (by omega)
        refine ⟨h',fun c hc=>?_⟩
        have hd:decide ((i:Int)<(n:Int))=true:=decide_eq_true (by omega)
        have hd4:decide ((i:Int)<4000)=true:=decide_eq_true (by omega)
        have hb:=hn.2 i (by omega)
        refine pcD hc (drNa n f i h) ?_ (hr c hc)
        and_intros
        all_goals (first | exact zN | (exact hd) | (exact hd4) | (rw [hd,hd4];rfl) | (simp [hd,hd4];done) | (simp;omega))
      · refine ⟨h,fun c hc=>?_⟩
        have hd4:decide ((i:Int)<4000)=false:=decide_eq_false (by omega)
        refine pkD Try.func56 hc (drNe n f i h) ?_
        and_intros
        iterate 2 all_goals (first | exact zN | (rw [hd4];cases decide ((i:Int)<(n:Int))<;>rfl) | (simp [hd4];done) | simp only [All])
  obtain ⟨h',hr⟩:=key n 0 (10101+n) (by omega)
  refine ⟨(0,h'),Nat.zero_le _,?_⟩
  have hn1:=hn.1
  refine csZ Try.func56 (fun c hc=>?_)
  refine pcZ hc (drNz n f) ?_ (hr c hc)
  and_intros
  all_goals (first | exact zN | (simp;omega))
theorem con_l1Byte (n:Nat) (f:Nat→Int) (hn:CdOk n f) (s:Nat×Int) (hs:s.1≤n):∃ (s2:Nat×Int) (x:Int),s2.1≤n∧(0≤x∧x≤255) ∧
    Con Try.prog 94 1 [(0,cuO n f s)] [.pt 3 0 0 0] [(0,cuO n f s2)] (.p (.int .i64 x)):=by
  have hn1:=hn.1
  by_cases h:s.1<n
  · have hd:decide ((s.1:Int)<(n:Int))=true:=decide_eq_true (by omega)
    have hb:=hn.2 s.1 h
    have hx:=and_255 (bitI .xor .i64 (shrI .i64 (byH s.2) 33) (shrI .i64 (byH s.2) 45))
    simp only [byH] at hx
    refine ⟨(s.1+1,byH s.2),byY s.2 (f s.1),h,and_255 _,?_⟩
    refine csZ Try.func94 (fun c hc=>?_)
    refine pkD Try.func94 hc (drBa n f s) ?_
    and_intros
    iterate 2 all_goals (first | exact zI | (exact hd) | (exact hb.1) | (simp;done) | (simp;omega) | simp only [All])
  · have hd:decide ((s.1:Int)<(n:Int))=false:=decide_eq_false (by omega)
    refine ⟨(s.1,byH s.2),byX s.2,hs,and_255 _,?_⟩
    refine csZ Try.func94 (fun c hc=>?_)
    refine pkD Try.func94 hc (drBb n f s) ?_
    and_intros
    iterate 2 all_goals (first | exact zI | (exact hd) | (simp;done) | (simp;omega) | simp only [All])
theorem con_l1Below (n:Nat) (f:Nat→Int) (hn:CdOk n f) (s:Nat×Int) (hs:s.1≤n) (k:Int) (hk:k≤256):∃ (s2:Nat×Int) (x:Int),s2.1≤n∧(0≤x∧(1≤k→x<k)∧x≤255) ∧
    Con Try.prog 58 1 [(0,cuO n f s)] [.pt 3 0 0 0,.p (.int .i64 k)] [(0,cuO n f s2)] (.p (.int .i64 x)):=by
  by_cases h:k≤0
  · have hd:decide (k≤0)=true:=decide_eq_true h
    refine ⟨s,0,hs,⟨Int.le_refl _,fun h1=>by omega,by omega⟩,?_⟩
    refine csZ Try.func58 (fun c hc=>?_)
    refine pkZ Try.func58 hc (drLz n f s k) ?_
    and_intros
    iterate 2 all_goals (first | exact zN | (exact hd) | (simp;done) | simp only [All])
  · have hd:decide (k≤0)=false:=decide_eq_false h
    have hd2:decide (k≤256)=true:=decide_eq_true hk
    obtain ⟨s2,x,h2,hx,cb⟩:=con_l1Byte n f hn s hs
    have e:x.tmod k=x % k:=Int.tmod_eq_emod_of_nonneg hx.1
    have e1:=Int.emod_nonneg x (show k≠0 by omega)
    have e2:=Int.emod_lt_of_pos x (show 0<k by omega)
    refine ⟨s2,x.tmod k,h2,by rw [e];exact ⟨e1,fun _=>e2,by omega⟩,?_⟩
    refine csZ Try.func58 (fun c hc=>?_)
    refine pkZ Try.func58 hc (drLa n f s s2 k x) ?_
    and_intros
    iterate 2 all_goals (first | exact zN | (exact hd) | (exact hd2) | (exact cb) | omega | (simp;done) | (simp;omega) | simp only [All])
theorem con_l1Once (n:Nat) (f:Nat→Int) (hn:CdOk n f) (s:Nat×Int) (hs:s.1≤n) (k:Int) (hk:k≤256):∃ (s2:Nat×Int) (b:Bool),s2.1≤n ∧
    Con Try.prog 72 1 [(0,cuO n f s)] [.pt 3 0 0 0,.p (.int .i64 k)] [(0,cuO n f s2)] (.p (.bool b)):=by
  obtain ⟨s2,x,h2,hx,cb⟩:=con_l1Below n f hn s hs k hk
  refine ⟨s2,x==0,h2,?_⟩
  refine csZ Try.func72 (fun c hc=>?_)
  refine pkZ Try.func72 hc (drO n f s s2 k x) ?_
  and_intros
  iterate 2 all_goals (first | exact zN | (exact cb) | (simp;done) | simp only [All])
theorem con_l1PickInt (n:Nat) (f:Nat→Int) (hn:CdOk n f) (s:Nat×Int) (hs:s.1≤n) (m:Nat) (g:Nat→Int) (hm:1≤m∧m≤256):∃ (s2:Nat×Int) (j:Nat),s2.1≤n∧j<m ∧
    Con Try.prog 59 1 [(0,cuO n f s)] [.pt 3 0 0 0,.p (.seq true 1 m (fun i=>[.int .i64 (g i)]))] [(0,cuO n f s2)] (.p (.int .i64 (g j))):=by
  obtain ⟨s2,x,h2,hx,cb⟩:=con_l1Below n f hn s hs m (by omega)
  have hx2:=hx.2.1 (by omega)
  obtain ⟨j,rfl⟩:∃ j:Nat,x=(j:Int):=⟨x.toNat,by omega⟩
  refine ⟨s2,j,h2,by omega,?_⟩
  refine csZ Try.func59 (fun c hc=>?_)
  refine pkZ Try.func59 hc (drP n f s s2 m g j) ?_
  and_intros
  iterate 2 all_goals (first | exact zN | (exact cb) | (simp;done) | (simp;omega) | simp only [All])
def zgB:Ob:=⟨true,2,1,fun _=>[.p (.int .i64 0),.p .nil]⟩
def Dg0 (n:Nat) (f:Nat→Int) (s:Nat×Int) (P m:Int) (k:Nat) (g:Nat→T_GainBar):St :=
  ⟨[.pt 3 0 0 0,.p .any,.pt 2 1 0 0,.pt 2 2 0 0,.p (.int .i64 m)]++List.replicate 72 anyA,
    [(0,cuO n f s),(1,zgB),(2,⟨true,2,1,fun _=>[.p (.int .i64 P),.ar 4 3 0 k]⟩),(3,gbOb (k,g))],4⟩
def gsn (g:Nat→T_GainBar) (k:Nat) (x:T_GainBar) (i:Nat):T_GainBar:=if i<k then g i else x
def gx0 (g:Nat→T_GainBar) (x:Int) (i:Nat):T_GainBar:=if i=0 then ((g 0).1,(g 0).2.1,x,(g 0).2.2.2.1,()) else g i
def mnB (a b:Int):Int:=if b<a then b else a
def mxB (a b:Int):Int:=if b>a then b else a
theorem dgz (n:Nat) (f:Nat→Int) (s s1 s2:Nat×Int) (x y:Int) :
    zM 1 [rg 1,rm [(1,⟨true,(some ⟨[0],[1000],[],1,[(0,cuO n f s1)],.p (.int .i64 x)⟩),none⟩)] 4,rm [(4,⟨true,(some ⟨[0],[1000],[],1,[(0,cuO n f s2)],.p (.int .i64 y)⟩),none⟩)] 1,.head] [.code (bodyOf Try.f57)] (start Try.f57 [(0,cuO n f s)] 1 [.pt 3 0 0 0]) [0,1,161] 1 (Dg0 n f s2 (1+x) y 0 (fun _=>(0,0,0,0,()))) =
    some (zf41,zD [(AE 1),Con Try.prog 58 1 (zf49 n f s) [.pt 3 0 0 0,.p (.int .i64 3)] (zf49 n f s1) (.p (.int .i64 x)),(ZLo (1+x)),(ZHi (1+x)),(NT 0 1),((true=true)→ (AN 1)),(ZLo (2*(1+x))),(ZHi (2*(1+x))),Con Try.prog 58 1 (zf49 n f s1) [.pt 3 0 0 0,.p (.int .i64 (2*(1+x)))] (zf49 n f s2) (.p (.int .i64 y)),(AN 0),(AI y),(AN 3),(NL 1 1),(AN n),(AP n (fun i=>[.int .u8 (f i)])),(AI ((↑s2.1:Int))),(AI s2.2),((((List.map (fun v=>AV.p (absV v)) [Value.int IntKind.i64 0,Value.slice none 0 0]).length):Nat)=2),(AI 0),(AI ((1+x)))] [0,1,2,3,4,5,4,6,7,0,8,9,9,9,10,11,12,12,13,14,15,16,17,12,12,18,17,12,12,19,9,9]):=by kernel_rfl
theorem dga (n:Nat) (f:Nat→Int) (s s1 s2 s3 s4:Nat×Int) (P m:Int) (k:Nat) (g:Nat→T_GainBar) (a b x y:Int) :
    zM 1 [rg 2,.dec true,rm [(3,⟨true,(some ⟨[0],[1000],[],1,[(0,cuO n f s1)],.p (.int .i64 a)⟩),none⟩)] 1,rm [(3,⟨true,(some ⟨[0],[1000],[],1,[(0,cuO n f s2)],.p (.int .i64 b)⟩),none⟩)] 1,rm [(1,⟨true,(some ⟨[0],[1000],[],1,[(0,cuO n f s3)],.p (.int .i64 x)⟩),none⟩)] 2,rm [(1,⟨true,(some ⟨[0],[1000],[],1,[(0,cuO n f s4)],.p (.int .i64 y)⟩),none⟩)] 2,rg 11,.dec true,rg 15,rg 3,.head] zf41 (Dg0 n f s P m k g) [0,1,2,1380] 1 (Dg0 n f s4 P (m - 1) (k+1) (gsn g k (mnB a b,mxB a b,x - 1,y - 1,()))) =
    some (zf41,[((decide (m>0))=true),(NT 0 1),(AE 1),Con Try.prog 58 1 (zf49 n f s) [.pt 3 0 0 0,.p (.int .i64 P)] (zf49 n f s1) (.p (.int .i64 a)),(NT 0 1),(AE 1),Con Try.prog 58 1 (zf49 n f s1) [.pt 3 0 0 0,.p (.int .i64 P)] (zf49 n f s2) (.p (.int .i64 b)),(AE 1),Con Try.prog 58 1 (zf49 n f s2) [.pt 3 0 0 0,.p (.int .i64 3)] (zf49 n f s3) (.p (.int .i64 x)),(ZLo (x - 1)),(ZHi (x - 1)),(AE 1),Con Try.prog 58 1 (zf49 n f s3) [.pt 3 0 0 0,.p (.int .i64 3)] (zf49 n f s4) (.p (.int .i64 y)),(ZLo (y - 1)),(ZHi (y - 1)),(AG (!a != b)),(((a != b)=false)→ ((!a != b)=true)),(AG (!bif a != b then true else x - 1 != 0)),(((bif a != b then true else x - 1 != 0)=false)→ ((!bif a != b then true else x - 1 != 0)=true)),((bif bif a != b then true else x - 1 != 0 then true else y - 1 != 0)=true),(NT 0 1),(NL 1 1),(NL k k),(NL ((k+1)*32) 140737488355328),(NL (k+1) 9223372036854775807),(NT 0 1),((true=true)→ (AN 1)),(ZLo (m - 1)),(ZHi (m - 1)),(AN 0),(AN 0),(AN 0),(AI ((m - 1))),(AN 3),(NL 1 1),(NL 1 1),(AN n),(AP n (fun i=>[.int .u8 (f i)])),(AI ((↑s4.1:Int))),(AI s4.2),(AN 2),(NL 1 1),(NL 1 1),(AI 0),(AN 2),(NL 1 1),(NL 1 1),(AI P),(AN 0),(AN ((k+1))),(AN 4),(NL (k+1) (k+1)),(∀ i:Nat,(((i:Nat)<(k+1))→(All (cvtL false [(2,⟨true,2,1,(fun i_1=>[.p (.int .i64 P),.ar 4 1380 0 (k+1)])⟩),(1380,⟨false,4,(k+1),(fun i_1=>(if (i_1<k) then [.p (.int .i64 (((k,g).2 i_1).1)),.p (.int .i64 (((k,g).2 i_1).2.1)),.p (.int .i64 (((k,g).2 i_1).2.2.1)),.p (.int .i64 (((k,g).2 i_1).2.2.2.1))] else [.p (.int .i64 (if false=true then if b>a then b else a else if b<a then b else a)),.p (.int .i64 (if true=true then if b>a then b else a else if b<a then b else a)),.p (.int .i64 (x - 1)),.p (.int .i64 (y - 1))]))⟩),(1348,⟨false,4,1,(fun i_1=>[.p (.int .i64 (if false=true then if b>a then b else a else if b<a then b else a)),.p (.int .i64 (if true=true then if b>a then b else a else if b<a then b else a)),.p (.int .i64 (x - 1)),.p (.int .i64 (y - 1))])⟩),(0,⟨true,3,1,(fun i_1=>[.p (.seq false 1 n (fun i_2=>[.int .u8 (f i_2)])),.p (.int .i64 (↑s4.1:Int)),.p (.int .i64 s4.2)])⟩),(1,⟨true,2,1,(fun i_1=>[.p (.int .i64 0),.p (.nil)])⟩)] [0,1,2,1380] 1 (if (i<k) then [.p (.int .i64 (((k,g).2 i).1)),.p (.int .i64 (((k,g).2 i).2.1)),.p (.int .i64 (((k,g).2 i).2.2.1)),.p (.int .i64 (((k,g).2 i).2.2.2.1))] else [.p (.int .i64 (if false=true then if b>a then b else a else if b<a then b else a)),.p (.int .i64 (if true=true then if b>a then b else a else if b<a then b else a)),.p (.int .i64 (x - 1)),.p (.int .i64 (y - 1))])).2∧(((cvtL false [(2,⟨true,2,1,(fun i_1=>[.p (.int .i64 P),.ar 4 1380 0 (k+1)])⟩),(1380,⟨false,4,(k+1),(fun i_1=>(if (i_1<k) then [.p (.int .i64 (((k,g).2 i_1).1)),.p (.int .i64 (((k,g).2 i_1).2.1)),.p (.int .i64 (((k,g).2 i_1).2.2.1)),.p (.int .i64 (((k,g).2 i_1).2.2.2.1))] else [.p (.int .i64 (if false=true then if b>a then b else a else if b<a then b else a)),.p (.int .i64 (if true=true then if b>a then b else a else if b<a then b else a)),.p (.int .i64 (x - 1)),.p (.int .i64 (y - 1))]))⟩),(1348,⟨false,4,1,(fun i_1=>[.p (.int .i64 (if false=true then if b>a then b else a else if b<a then b else a)),.p (.int .i64 (if true=true then if b>a then b else a else if b<a then b else a)),.p (.int .i64 (x - 1)),.p (.int .i64 (y - 1))])⟩),(0,⟨true,3,1,(fun i_1=>[.p (.seq false 1 n (fun i_2=>[.int .u8 (f i_2)])),.p (.int .i64 (↑s4.1:Int)),.p (.int .i64 s4.2)])⟩),(1,⟨true,2,1,(fun i_1=>[.p (.int .i64 0),.p (.nil)])⟩)] [0,1,2,1380] 1 (if (i<k) then [.p (.int .i64 (((k,g).2 i).1)),.p (.int .i64 (((k,g).2 i).2.1)),.p (.int .i64 (((k,g).2 i).2.2.1)),.p (.int .i64 (((k,g).2 i).2.2.2.1))] else [.p (.int .i64 (if false=true then if b>a then b else a else if b<a then b else a)),.p (.int .i64 (if true=true then if b>a then b else a else if b<a then b else a)),.p (.int .i64 (x - 1)),.p (.int .i64 (y - 1))])).1:List AV)=[.p (.int .i64 (((k+1,gsn g k (mnB a b,mxB a b,x - 1,y - 1,())).2 i).1)),.p (.int .i64 (((k+1,gsn g k (mnB a b,mxB a b,x - 1,y - 1,())).2 i).2.1)),.p (.int .i64 (((k+1,gsn g k (mnB a b,mxB a b,x - 1,y - 1,())).2 i).2.2.1)),.p (.int .i64 (((k+1,gsn g k (mnB a b,mxB a b,x - 1,y - 1,())).2 i).2.2.2.1))]))))]):=by kernel_rfl
theorem dgb (n:Nat) (f:Nat→Int) (s s1 s2 s3 s4:Nat×Int) (P m:Int) (k:Nat) (g:Nat→T_GainBar) (a b x y:Int) :
    zM 1 [rg 2,.dec true,rm [(3,⟨true,(some ⟨[0],[1000],[],1,[(0,cuO n f s1)],.p (.int .i64 a)⟩),none⟩)] 1,rm [(3,⟨true,(some ⟨[0],[1000],[],1,[(0,cuO n f s2)],.p (.int .i64 b)⟩),none⟩)] 1,rm [(1,⟨true,(some ⟨[0],[1000],[],1,[(0,cuO n f s3)],.p (.int .i64 x)⟩),none⟩)] 2,rm [(1,⟨true,(some ⟨[0],[1000],[],1,[(0,cuO n f s4)],.p (.int .i64 y)⟩),none⟩)] 2,rg 11,.dec false,rg 3,.head] zf41 (Dg0 n f s P m k g) [0,1,2,3] 1 (Dg0 n f s4 P (m - 1) k g) =
    some (zf41,[((decide (m>0))=true),(NT 0 1),(AE 1),Con Try.prog 58 1 (zf49 n f s) [.pt 3 0 0 0,.p (.int .i64 P)] (zf49 n f s1) (.p (.int .i64 a)),(NT 0 1),(AE 1),Con Try.prog 58 1 (zf49 n f s1) [.pt 3 0 0 0,.p (.int .i64 P)] (zf49 n f s2) (.p (.int .i64 b)),(AE 1),Con Try.prog 58 1 (zf49 n f s2) [.pt 3 0 0 0,.p (.int .i64 3)] (zf49 n f s3) (.p (.int .i64 x)),(ZLo (x - 1)),(ZHi (x - 1)),(AE 1),Con Try.prog 58 1 (zf49 n f s3) [.pt 3 0 0 0,.p (.int .i64 3)] (zf49 n f s4) (.p (.int .i64 y)),(ZLo (y - 1)),(ZHi (y - 1)),(AG (!a != b)),(((a != b)=false)→ ((!a != b)=true)),(AG (!bif a != b then true else x - 1 != 0)),(((bif a != b then true else x - 1 != 0)=false)→ ((!bif a != b then true else x - 1 != 0)=true)),((bif bif a != b then true else x - 1 != 0 then true else y - 1 != 0)=false),(ZLo (m - 1)),(ZHi (m - 1)),(AN 0),(AN 0),(AN 0),(AI ((m - 1))),(AN 3),(NL 1 1),(NL 1 1),(AN n),(AP n (fun i=>[.int .u8 (f i)])),(AI ((↑s4.1:Int))),(AI s4.2),(AN 2),(NL 1 1),(NL 1 1),(AI 0),(AN 2),(NL 1 1),(NL 1 1),(AI P),(AN 0),(AN k),(AN 4),(NL k k),(AA k (fun i=>[.p (.int .i64 (((k,g).2 i).1)),.p (.int .i64 (((k,g).2 i).2.1)),.p (.int .i64 (((k,g).2 i).2.2.1)),.p (.int .i64 (((k,g).2 i).2.2.2.1))]))]):=by kernel_rfl
theorem dge1 (n:Nat) (f:Nat→Int) (s:Nat×Int) (P:Int) (k:Nat) (g:Nat→T_GainBar) :
    zP Try.f57 1 [rg 2,.dec false,rm [(5,gF),(0,gF),(0,gF)] 0,.dec false,rg 2] zf41 (Dg0 n f s P 0 k g) [0,3] 1 [(0,cuO n f s),(1,gbOb (k,g))] (gaO (P,(k,g),()) 1) =
    some (zD [((decide (0>0))=false),(NT 0 1),((decide ((↑k:Int)>0))=false),(false=false),((true=true)→ (AN 1)),(AI P),(AN 0),(AN k),(AN 3),(NL 1 1),(AN n),(AP n (fun i=>[.int .u8 (f i)])),(AI ((↑s.1:Int))),(AI s.2),(AN 4),(NL k k),(AA k (fun i=>[.p (.int .i64 (((k,g).2 i).1)),.p (.int .i64 (((k,g).2 i).2.1)),.p (.int .i64 (((k,g).2 i).2.2.1)),.p (.int .i64 (((k,g).2 i).2.2.2.1))])),(∀ i:Nat,(((i:Nat)<1)→All [(false=false),(AE n)])),(AE k)] [0,1,2,2,2,3,1,1,4,1,5,6,7,8,9,9,10,11,12,13,14,15,16,17,18]):=by kernel_rfl
theorem dge2 (n:Nat) (f:Nat→Int) (s s1:Nat×Int) (P:Int) (k:Nat) (g:Nat→T_GainBar) :
    zP Try.f57 1 [rg 2,.dec false,rm [(5,gT),(0,⟨true,(some ⟨[0],[1000],[],1,[(0,cuO n f s1)],.p (.bool false)⟩),some true⟩),(0,gT)] 0,.dec false,rg 2] zf41 (Dg0 n f s P 0 k g) [0,3] 1 [(0,cuO n f s1),(1,gbOb (k,g))] (gaO (P,(k,g),()) 1) =
    some (zD [((decide (0>0))=false),(NT 0 1),((decide ((↑k:Int)>0))=true),(AE 1),Con Try.prog 72 1 (zf49 n f s) [.pt 3 0 0 0,.p (.int .i64 14)] (zf49 n f s1) (.p (.bool false)),(false=false),((true=true)→ (AN 1)),(AI P),(AN 0),(AN k),(AN 3),(NL 1 1),(AN n),(AP n (fun i=>[.int .u8 (f i)])),(AI ((↑s1.1:Int))),(AI s1.2),(AN 4),(NL k k),(AA k (fun i=>[.p (.int .i64 (((k,g).2 i).1)),.p (.int .i64 (((k,g).2 i).2.1)),.p (.int .i64 (((k,g).2 i).2.2.1)),.p (.int .i64 (((k,g).2 i).2.2.2.1))])),(∀ i:Nat,(((i:Nat)<1)→All [(false=false),(AE n)])),(AE k)] [0,1,2,2,3,4,2,5,1,1,6,1,7,8,9,10,11,11,12,13,14,15,16,17,18,19,20]):=by kernel_rfl
theorem dge3 (n:Nat) (f:Nat→Int) (s s1 s2:Nat×Int) (P:Int) (k:Nat) (g:Nat→T_GainBar) (x:Int) :
    zP Try.f57 1 [rg 2,.dec false,rm [(5,gT),(0,⟨true,(some ⟨[0],[1000],[],1,[(0,cuO n f s1)],.p (.bool true)⟩),some true⟩),(0,gT)] 0,.dec true,rm [(4,⟨true,(some ⟨[0],[1000],[],1,[(0,cuO n f s2)],.p (.int .i64 x)⟩),none⟩)] 3,rg 2] zf41 (Dg0 n f s P 0 k g) [0,3] 1 [(0,cuO n f s2),(1,gbOb (k,gx0 g x))] (gaO (P,(k,gx0 g x),()) 1) =
    some (zD [((decide (0>0))=false),(NT 0 1),((decide ((↑k:Int)>0))=true),(AE 1),Con Try.prog 72 1 (zf49 n f s) [.pt 3 0 0 0,.p (.int .i64 14)] (zf49 n f s1) (.p (.bool true)),(true=true),(AN 1),(NL 3 3),Con Try.prog 59 1 (zf49 n f s1) [.pt 3 0 0 0,.p (.seq true 1 3 (fun i=>[(cellP true [(List.getD ([.p (.int .i64 (-10)),.p (.int .i64 10),.p (.int .i64 9)]:List AV) (rowIx 3 i*1) (.p .any))] 0)]))] (zf49 n f s2) (.p (.int .i64 x)),(IL 0 0),(IT 0 (↑k:Int)),(NT 0 k),((false=true)→ ((k:Nat)=1)),((true=true)→ (AN 1)),(AI P),(AN 0),(AN k),(AN 3),(NL 1 1),(AN n),(AP n (fun i=>[.int .u8 (f i)])),(AI ((↑s2.1:Int))),(AI s2.2),(AN 4),(NL k k),(CV [(1,⟨true,2,1,(fun i_1=>[.p (.int .i64 P),.ar 4 3 0 k])⟩),(3,⟨false,4,k,(fun i_1=>(if (i_1=0) then [.p (.int .i64 (((k,g).2 0).1)),.p (.int .i64 (((k,g).2 0).2.1)),.p (.int .i64 x),.p (.int .i64 (((k,g).2 0).2.2.2.1))] else [.p (.int .i64 (((k,g).2 i_1).1)),.p (.int .i64 (((k,g).2 i_1).2.1)),.p (.int .i64 (((k,g).2 i_1).2.2.1)),.p (.int .i64 (((k,g).2 i_1).2.2.2.1))]))⟩),(0,⟨true,3,1,(fun i_1=>[.p (.seq false 1 n (fun i_2=>[.int .u8 (f i_2)])),.p (.int .i64 (↑s2.1:Int)),.p (.int .i64 s2.2)])⟩),(420,⟨false,1,3,(fun i_1=>[(List.getD ([.p (.int .i64 (-10)),.p (.int .i64 10),.p (.int .i64 9)]:List AV) (rowIx 3 i_1*1) (.p .any))])⟩),(2,⟨true,2,1,(fun i_1=>[.p (.int .i64 P),.ar 4 3 0 k])⟩)] [0,3] 1 k (fun i=>if (i=0) then [.p (.int .i64 (((k,g).2 0).1)),.p (.int .i64 (((k,g).2 0).2.1)),.p (.int .i64 x),.p (.int .i64 (((k,g).2 0).2.2.2.1))] else [.p (.int .i64 (((k,g).2 i).1)),.p (.int .i64 (((k,g).2 i).2.1)),.p (.int .i64 (((k,g).2 i).2.2.1)),.p (.int .i64 (((k,g).2 i).2.2.2.1))]) (fun i=>[.p (.int .i64 (((k,gx0 g x).2 i).1)),.p (.int .i64 (((k,gx0 g x).2 i).2.1)),.p (.int .i64 (((k,gx0 g x).2 i).2.2.1)),.p (.int .i64 (((k,gx0 g x).2 i).2.2.2.1))])),(∀ i:Nat,(((i:Nat)<1)→All [(false=false),(AE n)])),(AE k)] [0,1,2,2,3,4,2,5,1,3,6,7,8,9,10,11,12,1,1,13,1,14,15,16,17,18,18,19,20,21,22,23,24,25,26,27]):=by kernel_rfl
def pkA (x:Int):AV:=.p (.int .i64 x)
def pkP (n:Nat) (l:List Int):AV:=.p (.seq true 1 n (fun i=>[(cellP true [(List.getD (l.map pkA) (rowIx n i*1) (.p .any))] 0)]))
theorem cell_pk (l:List Int) (n i:Nat) (h:rowIx n i*1<l.length) (hi:rowIx n i=i):cellP true [(List.getD (l.map pkA) (rowIx n i*1) (.p .any))] 0=.int .i64 (l.getD i 0):=by
  rw [Nat.mul_one] at h ⊢
  rw [hi] at h ⊢
  simp [List.getD_eq_getElem?_getD,List.getElem?_eq_getElem h,pkA,cellP,tg,tru]
theorem pk_ext {P:Program} {f:FuncId} {H H':Hp} {l:List Int} {n:Nat} {res:AV} (h:Con P f 1 H [.pt 3 0 0 0,.p (.seq true 1 l.length (fun i=>[.int .i64 (l.getD i 0)]))] H' res) (hl:l.length=n):Con P f 1 H [.pt 3 0 0 0,pkP n l] H' res:=by
  refine h.arg_ext ?_
  subst hl
  have hcell:∀ i,i<l.length→cellP true [(List.getD (l.map pkA) (rowIx l.length i*1) (.p .any))] 0=.int .i64 (l.getD i 0):=fun i hi=>cell_pk l _ i (by rw [rowIx_lt hi];omega) (rowIx_lt hi)
  simp only [pkP,wkL,wk,wkP,beq_self_eq_true,Bool.and_self,if_true,ikEq,List.append_nil,List.cons_append,List.nil_append,All]
  and_intros<;>first | trivial | omega | (intro i hi;rw [hcell i hi]) | (intro i hi;rfl)
theorem con_pick (n:Nat) (f:Nat→Int) (hn:CdOk n f) (s:Nat×Int) (hs:s.1≤n) (l:List Int) (hm:1≤l.length∧l.length≤256):∃ (s2:Nat×Int) (x:Int),s2.1≤n∧x∈l ∧
    Con Try.prog 59 1 [(0,cuO n f s)] [.pt 3 0 0 0,pkP l.length l] [(0,cuO n f s2)] (.p (.int .i64 x)):=by
  obtain ⟨s2,j,h2,hj,cp⟩:=con_l1PickInt n f hn s hs l.length (fun i=>l.getD i 0) hm
  refine ⟨s2,l.getD j 0,h2,?_,pk_ext cp rfl⟩
  rw [List.getD_eq_getElem?_getD,List.getElem?_eq_getElem hj]
  exact List.getElem_mem hj
theorem con_l29Gain (n:Nat) (f:Nat→Int) (hn:CdOk n f) (s:Nat×Int) (hs:s.1≤n):∃ (s2:Nat×Int) (v:T_GainGraph),s2.1≤n∧v.2.1.1≤8 ∧
    Con Try.prog 57 1 [(0,cuO n f s)] [.pt 3 0 0 0] [(0,cuO n f s2),(1,gbOb v.2.1)] (gaO v 1):=by
  have key:∀ (P:Int),(1≤P∧P≤3)→∀ (e:Nat) (s:Nat×Int) (k:Nat) (g:Nat→T_GainBar),s.1≤n→k+e≤8→∃ (s2:Nat×Int) (v:T_GainGraph),s2.1≤n∧v.2.1.1≤8 ∧
      ∀ c:Cx,c.n=1→zR c 57 zf41 (Dg0 n f s P e k g) (Post c [(0,cuO n f s2),(1,gbOb v.2.1)] (gaO v 1)):=by
    intro P hP e
    induction e with
    | zero =>
      intro s k g hs hk
      rw [show ((0:Nat):Int)=0 from rfl]
      by_cases h0:k=0
      · subst h0
        refine ⟨s,(P,(0,g),()),hs,hk,fun c hc=>?_⟩
        refine pkD Try.func57 hc (dge1 n f s P 0 g) ?_
        and_intros
        iterate 2 all_goals (first | exact zI | (intros;simp [All];done) | (simp;done) | simp only [All])
      · have hd:decide ((k:Int)>0)=true:=decide_eq_true (by omega)
        obtain ⟨s1,b,h1,co⟩:=con_l1Once n f hn s hs 14 (by omega)
        cases b with
        | false =>
          refine ⟨s1,(P,(k,g),()),h1,hk,fun c hc=>?_⟩
          refine pkD Try.func57 hc (dge2 n f s s1 P k g) ?_
          and_intros
          iterate 2 all_goals (first | exact zI | (exact hd) | (exact co) | (intros;simp [All];done) | (simp;done) | (simp;omega) | simp only [All])
        | true =>
          obtain ⟨s2,x,h2,hx,cp⟩:=con_pick n f hn s1 h1 [-10,10,9] (by simp)
          refine ⟨s2,(P,(k,gx0 g x),()),h2,hk,fun c hc=>?_⟩
          refine pkD Try.func57 hc (dge3 n f s s1 s2 P k g x) ?_
          and_intros
          iterate 2 all_goals (first | exact zI | (exact hd) | (exact co) | (exact cp) | omega | (intros;simp [All];done) | (simp;done) | (simp;omega) | (intro i hi;by_cases h:i=0<;>simp [h,gx0,cvtL,cvt,tg,tru,All]) | simp only [All])
    | succ e ih =>
      intro s k g hs hk
      obtain ⟨s1,a,h1,ha,c1⟩:=con_l1Below n f hn s hs P (by omega)
      obtain ⟨s2,b,h2,hb,c2⟩:=con_l1Below n f hn s1 h1 P (by omega)
      obtain ⟨s3,x,h3,hx,c3⟩:=con_l1Below n f hn s2 h2 3 (by omega)
      obtain ⟨s4,y,h4,hy,c4⟩:=con_l1Below n f hn s3 h3 3 (by omega)
      have hd:decide (((e+1:Nat):Int)>0)=true:=decide_eq_true (by omega)
      have he:((e+1:Nat):Int) - 1=(e:Int):=by omega
      have hx2:=hx.2.1 (by omega)
      have hy2:=hy.2.1 (by omega)
      cases ht:(bif (bif a != b then true else (x - 1) != 0) then true else (y - 1) != 0) with
      | true =>
        obtain ⟨s5,v,h5,hv,hr⟩:=ih s4 (k+1) (gsn g k (mnB a b,mxB a b,x - 1,y - 1,())) h4 (by omega)
        refine ⟨s5,v,h5,hv,fun c hc=>?_⟩
        have hr2:=hr c hc
        rw [← he] at hr2
        refine pcZ hc (dga n f s s1 s2 s3 s4 P (e+1:Nat) k g a b x y) ?_ hr2
        and_intros
        all_goals (first | exact zH | (exact hd) | (exact ht) | (exact c1) | (exact c2) | (exact c3) | (exact c4) | (intros;simp [All];done) | (simp;done) | (simp;omega) | (intro i hi;rcases (show i<k∨i=k by omega) with h | h<;>simp [h,gsn,mnB,mxB,cvtL,cvt,tg,tru,All]))
      | false =>
        obtain ⟨s5,v,h5,hv,hr⟩:=ih s4 k g h4 (by omega)
        refine ⟨s5,v,h5,hv,fun c hc=>?_⟩
        have hr2:=hr c hc
        rw [← he] at hr2
        refine pcZ hc (dgb n f s s1 s2 s3 s4 P (e+1:Nat) k g a b x y) ?_ hr2
        and_intros
        all_goals (first | exact zH | (exact hd) | (exact ht) | (exact c1) | (exact c2) | (exact c3) | (exact c4) | (intros;simp [All];done) | (simp;done) | (simp;omega))
  obtain ⟨s1,x,h1,hx,c1⟩:=con_l1Below n f hn s hs 3 (by omega)
  have hx2:=hx.2.1 (by omega)
  obtain ⟨s2,y,h2,hy,c2⟩:=con_l1Below n f hn s1 h1 (2*(1+x)) (by omega)
  have hy2:=hy.2.1 (by omega)
  obtain ⟨m,rfl⟩:∃ m:Nat,y=(m:Int):=⟨y.toNat,by omega⟩
  obtain ⟨s3,v,h3,hv,hr⟩:=key (1+x) (by omega) m s2 0 (fun _=>(0,0,0,0,())) h2 (by omega)
  refine ⟨s3,v,h3,hv,?_⟩
  refine csZ Try.func57 (fun c hc=>?_)
  refine pcD hc (dgz n f s s1 s2 x m) ?_ (hr c hc)
  and_intros
  all_goals (first | exact zI | (exact c1) | (exact c2) | (intro i hi;exact absurd hi (Nat.not_lt_zero _)) | (intros;simp [All];done) | (simp;done) | (simp;omega))
theorem dhS (n:Nat) (f:Nat→Int) (s s1 s2 s3 s4:Nat×Int) (v:T_GainGraph) (x y z:Int) :
    zS Try.f6 [rg 4,rm [(1,⟨true,(some ⟨[],[0],[],1,[(0,cuO n f s)],.pt 3 0 0 0⟩),none⟩)] 1,rm [(1,⟨true,(some ⟨[160],[0],[],1,[(0,cuO n f s1),(1,gbOb v.2.1)],gaO v 1⟩),none⟩)] 2,rm [(1,⟨true,(some ⟨[160],[0],[],1,[(0,cuO n f s2)],.p (.int .i64 x)⟩),none⟩)] 2,rm [(1,⟨true,(some ⟨[160],[0],[],1,[(0,cuO n f s3)],.p (.int .i64 y)⟩),none⟩)] 2,rm [(5,⟨true,(some ⟨[160],[0],[],1,[(0,cuO n f s4)],.p (.int .i64 z)⟩),none⟩)] 4] [cdA n f] [256] [(0,gbOb v.2.1)] (.tup [gaO v 0,.p (.int .i64 (x - 1)),.p (.int .i64 (y - 2)),.p (.int .i64 z)]) =
    some [zE 56 [.p (.seq false 1 n (fun i=>[.int .u8 (f i)]))] (zf49 n f s) (.pt 3 0 0 0),(AE 1),Con Try.prog 57 1 (zf49 n f s) [.pt 3 0 0 0] (zf12 n f s1 v) (.agg [.p (.int .i64 v.1),.ar 4 1 0 v.2.1.1]),(NT 0 1),((true=true)→ (AN 1)),(AE 1),Con Try.prog 58 1 (zf49 n f s1) [.pt 3 0 0 0,.p (.int .i64 5)] (zf49 n f s2) (.p (.int .i64 x)),(ZLo (x - 1)),(ZHi (x - 1)),(AE 1),Con Try.prog 58 1 (zf49 n f s2) [.pt 3 0 0 0,.p (.int .i64 5)] (zf49 n f s3) (.p (.int .i64 y)),(ZLo (y - 2)),(ZHi (y - 2)),(NT 0 1),(AE 1),(AN 1),(NL 5 5),Con Try.prog 59 1 (zf49 n f s3) [.pt 3 0 0 0,.p (.seq true 1 5 (fun i=>[(cellP true [(List.getD ([.p (.int .i64 (-1)),.p (.int .i64 0),.p (.int .i64 2),.p (.int .i64 9),.p (.int .i64 10)]:List AV) (rowIx 5 i*1) (.p .any))] 0)]))] (zf49 n f s4) (.p (.int .i64 z)),(NT 0 1),((true=true)→ (AN 1)),(NT 0 1),(AI v.1),(AN 0),(AN v.2.1.1),(AI ((x - 1))),(AI ((y - 2))),(AI z),(AN 4),(NL v.2.1.1 v.2.1.1),(AA v.2.1.1 (fun i=>[.p (.int .i64 ((v.2.1.2 i).1)),.p (.int .i64 ((v.2.1.2 i).2.1)),.p (.int .i64 ((v.2.1.2 i).2.2.1)),.p (.int .i64 ((v.2.1.2 i).2.2.2.1))])),(AE v.2.1.1)]:=by kernel_rfl
theorem dhF (n:Nat) (f:Nat→Int) (s s1:Nat×Int) (v:T_GainGraph) :
    zS Try.f14 [rg 1,rm [(1,⟨true,(some ⟨[],[0],[],1,[(0,cuO n f s)],.pt 3 0 0 0⟩),none⟩),(0,⟨true,(some ⟨[64],[0],[],1,[(0,cuO n f s1),(1,gbOb v.2.1)],gaO v 1⟩),none⟩)] 1] [cdA n f] [96] [(0,gbOb v.2.1)] (gaO v 0) =
    some [zE 56 [.p (.seq false 1 n (fun i=>[.int .u8 (f i)]))] (zf49 n f s) (.pt 3 0 0 0),(AE 1),Con Try.prog 57 1 (zf49 n f s) [.pt 3 0 0 0] (zf12 n f s1 v) (.agg [.p (.int .i64 v.1),.ar 4 1 0 v.2.1.1]),(NT 0 1),((true=true)→ (AN 1)),(NT 0 1),(AI v.1),(AN 0),(AN v.2.1.1),(AN 4),(NL v.2.1.1 v.2.1.1),(AA v.2.1.1 (fun i=>[.p (.int .i64 ((v.2.1.2 i).1)),.p (.int .i64 ((v.2.1.2 i).2.1)),.p (.int .i64 ((v.2.1.2 i).2.2.1)),.p (.int .i64 ((v.2.1.2 i).2.2.2.1))])),(AE v.2.1.1)]:=by kernel_rfl
theorem dhU (n:Nat) (f:Nat→Int) (s s1:Nat×Int) (v:T_GainGraph) :
    zS Try.f19 [rg 1,rm [(1,⟨true,(some ⟨[],[0],[],1,[(0,cuO n f s)],.pt 3 0 0 0⟩),none⟩),(0,⟨true,(some ⟨[64],[0],[],1,[(0,cuO n f s1),(1,gbOb v.2.1)],gaO v 1⟩),none⟩)] 1] [cdA n f] [96] [(0,gbOb v.2.1)] (gaO v 0) =
    some [zE 56 [.p (.seq false 1 n (fun i=>[.int .u8 (f i)]))] (zf49 n f s) (.pt 3 0 0 0),(AE 1),Con Try.prog 57 1 (zf49 n f s) [.pt 3 0 0 0] (zf12 n f s1 v) (.agg [.p (.int .i64 v.1),.ar 4 1 0 v.2.1.1]),(NT 0 1),((true=true)→ (AN 1)),(NT 0 1),(AI v.1),(AN 0),(AN v.2.1.1),(AN 4),(NL v.2.1.1 v.2.1.1),(AA v.2.1.1 (fun i=>[.p (.int .i64 ((v.2.1.2 i).1)),.p (.int .i64 ((v.2.1.2 i).2.1)),.p (.int .i64 ((v.2.1.2 i).2.2.1)),.p (.int .i64 ((v.2.1.2 i).2.2.2.1))])),(AE v.2.1.1)]:=by kernel_rfl
theorem dhB (n:Nat) (f:Nat→Int) (s s1 s2:Nat×Int) (v:T_GainGraph) (w:Nat) (u:T_IntS) :
    zS Try.f16 [rg 2,rm [(1,⟨true,(some ⟨[],[0],[],1,[(0,cuO n f s)],.pt 3 0 0 0⟩),none⟩)] 1,rm [(1,⟨true,(some ⟨[96],[0],[],1,[(0,cuO n f s1),(1,gbOb v.2.1)],gaO v 1⟩),none⟩)] 2,rm [(6,⟨true,(some ⟨[96],[0],[],1,[(0,cuO n f s2)],.p (.int .i64 w)⟩),none⟩),(0,oc [(0,iObW u.1 u.2)] (.ar 1 0 0 u.1))] 2] [cdA n f] [192,512] [(0,gbOb v.2.1),(1,iObW u.1 u.2)] (.tup [gaO v 0,.ar 1 1 0 u.1]) =
    some (zD [zE 56 [.p (.seq false 1 n (fun i=>[.int .u8 (f i)]))] (zf49 n f s) (.pt 3 0 0 0),(AE 1),Con Try.prog 57 1 (zf49 n f s) [.pt 3 0 0 0] (zf12 n f s1 v) (.agg [.p (.int .i64 v.1),.ar 4 1 0 v.2.1.1]),(NT 0 1),((true=true)→ (AN 1)),Con Try.prog 58 1 (zf49 n f s1) [.pt 3 0 0 0,.p (.int .i64 256)] (zf49 n f s2) (.p (.int .i64 (↑w:Int))),zE 64 [.p (.int .i64 (if false=true then if (↑v.2.1.1:Int)>8 then (↑v.2.1.1:Int) else 8 else if (↑v.2.1.1:Int)<8 then (↑v.2.1.1:Int) else 8)),.p (.int .i64 (↑w:Int))] [(0,⟨false,1,u.1,(fun i=>[.p (.int .i64 (u.2 i))])⟩)] (.ar 1 0 0 u.1),(AI v.1),(AN 0),(AN v.2.1.1),(AN u.1),(AN 4),(NL v.2.1.1 v.2.1.1),(AA v.2.1.1 (fun i=>[.p (.int .i64 ((v.2.1.2 i).1)),.p (.int .i64 ((v.2.1.2 i).2.1)),.p (.int .i64 ((v.2.1.2 i).2.2.1)),.p (.int .i64 ((v.2.1.2 i).2.2.2.1))])),(AN 1),(NL u.1 u.1),(AA u.1 (fun i=>[.p (.int .i64 (u.2 i))])),(AE v.2.1.1),(AE u.1)] [0,1,2,3,4,3,3,1,5,6,3,4,3,7,8,9,8,10,11,12,13,14,15,16,17,18]):=by kernel_rfl
theorem dhEt (n:Nat) (f:Nat→Int) (s s1 s2:Nat×Int) (v:T_GainGraph) :
    zS Try.f22 [rg 2,rm [(1,⟨true,(some ⟨[],[0],[],1,[(0,cuO n f s)],.pt 3 0 0 0⟩),none⟩)] 1,rm [(1,⟨true,(some ⟨[96],[0],[],1,[(0,cuO n f s1),(1,gbOb v.2.1)],gaO v 1⟩),none⟩)] 2,rm [(1,⟨true,(some ⟨[96],[0],[],1,[(0,cuO n f s2)],.p (.bool true)⟩),none⟩)] 0,.dec true,rm [(2,oc [(0,gbOb v.2.1)] (gaO v 0))] 2] [cdA n f] [192,416] [(0,gbOb v.2.1),(1,gbOb v.2.1)] (.tup [gaO v 0,gaO v 1]) =
    some (zD [zE 56 [.p (.seq false 1 n (fun i=>[.int .u8 (f i)]))] (zf49 n f s) (.pt 3 0 0 0),(AE 1),Con Try.prog 57 1 (zf49 n f s) [.pt 3 0 0 0] (zf12 n f s1 v) (.agg [.p (.int .i64 v.1),.ar 4 1 0 v.2.1.1]),(NT 0 1),((true=true)→ (AN 1)),Con Try.prog 72 1 (zf49 n f s1) [.pt 3 0 0 0,.p (.int .i64 2)] (zf49 n f s2) (.p (.bool true)),(true=true),(AN 4),(NL v.2.1.1 v.2.1.1),zE 61 [(zf19 v)] (zf21 v) (.agg [.p (.int .i64 v.1),.ar 4 0 0 v.2.1.1]),(AI v.1),(AN 0),(AN v.2.1.1),(AA v.2.1.1 (fun i=>[.p (.int .i64 ((v.2.1.2 i).1)),.p (.int .i64 ((v.2.1.2 i).2.1)),.p (.int .i64 ((v.2.1.2 i).2.2.1)),.p (.int .i64 ((v.2.1.2 i).2.2.2.1))])),(AE v.2.1.1)] [0,1,2,3,4,1,5,6,3,3,7,8,9,3,4,3,4,3,3,10,11,12,10,11,12,7,8,13,7,8,13,14,14]):=by kernel_rfl
theorem dhEf (n:Nat) (f:Nat→Int) (s s1 s2 s3:Nat×Int) (v u:T_GainGraph) :
    zS Try.f22 [rg 2,rm [(1,⟨true,(some ⟨[],[0],[],1,[(0,cuO n f s)],.pt 3 0 0 0⟩),none⟩)] 1,rm [(1,⟨true,(some ⟨[96],[0],[],1,[(0,cuO n f s1),(1,gbOb v.2.1)],gaO v 1⟩),none⟩)] 2,rm [(1,⟨true,(some ⟨[96],[0],[],1,[(0,cuO n f s2)],.p (.bool false)⟩),none⟩)] 0,.dec false,rm [(2,⟨true,(some ⟨[96],[0],[],1,[(0,cuO n f s3),(1,gbOb u.2.1)],gaO u 1⟩),none⟩)] 2] [cdA n f] [192,416] [(0,gbOb v.2.1),(1,gbOb u.2.1)] (.tup [gaO v 0,gaO u 1]) =
    some (zD [zE 56 [.p (.seq false 1 n (fun i=>[.int .u8 (f i)]))] (zf49 n f s) (.pt 3 0 0 0),(AE 1),Con Try.prog 57 1 (zf49 n f s) [.pt 3 0 0 0] (zf12 n f s1 v) (.agg [.p (.int .i64 v.1),.ar 4 1 0 v.2.1.1]),(NT 0 1),((true=true)→ (AN 1)),Con Try.prog 72 1 (zf49 n f s1) [.pt 3 0 0 0,.p (.int .i64 2)] (zf49 n f s2) (.p (.bool false)),(false=false),Con Try.prog 57 1 (zf49 n f s2) [.pt 3 0 0 0] (zf12 n f s3 u) (.agg [.p (.int .i64 u.1),.ar 4 1 0 u.2.1.1]),(AI v.1),(AN 0),(AN v.2.1.1),(AI u.1),(AN u.2.1.1),(AN 4),(NL v.2.1.1 v.2.1.1),(AA v.2.1.1 (fun i=>[.p (.int .i64 ((v.2.1.2 i).1)),.p (.int .i64 ((v.2.1.2 i).2.1)),.p (.int .i64 ((v.2.1.2 i).2.2.1)),.p (.int .i64 ((v.2.1.2 i).2.2.2.1))])),(NL u.2.1.1 u.2.1.1),(AA u.2.1.1 (fun i=>[.p (.int .i64 ((u.2.1.2 i).1)),.p (.int .i64 ((u.2.1.2 i).2.1)),.p (.int .i64 ((u.2.1.2 i).2.2.1)),.p (.int .i64 ((u.2.1.2 i).2.2.2.1))])),(AE v.2.1.1),(AE u.2.1.1)] [0,1,2,3,4,1,5,6,3,1,7,3,4,3,4,3,3,8,9,10,11,9,12,13,14,15,13,16,17,18,19]):=by kernel_rfl
theorem con_DrawSwitchGains (n:Nat) (f:Nat→Int) (hn:CdOk n f):∃ (v:T_GainGraph) (x y z:Int),v.2.1.1≤8 ∧
    zE 6 [cdA n f] [(0,gbOb v.2.1)] (.tup [gaO v 0,.p (.int .i64 x),.p (.int .i64 y),.p (.int .i64 z)]):=by
  obtain ⟨s,h0,c0⟩:=con_l1New n f hn
  obtain ⟨s1,v,h1,hv,c1⟩:=con_l29Gain n f hn s h0
  obtain ⟨s2,x,h2,hx,c2⟩:=con_l1Below n f hn s1 h1 5 (by omega)
  obtain ⟨s3,y,h3,hy,c3⟩:=con_l1Below n f hn s2 h2 5 (by omega)
  obtain ⟨s4,z,h4,hz,c4⟩:=con_pick n f hn s3 h3 [-1,0,2,9,10] (by simp)
  refine ⟨v,x - 1,y - 2,z,hv,?_⟩
  refine csZ Try.func6 (fun c hc=>?_)
  refine pkZ Try.func6 hc (dhS n f s s1 s2 s3 s4 v x y z) ?_
  and_intros
  all_goals (first | exact zI | (exact c0) | (exact c1) | (exact c2) | (exact c3) | (exact c4) | (intros;simp [All];done) | (simp;done) | (simp;omega))
theorem con_DrawGainFreedom (n:Nat) (f:Nat→Int) (hn:CdOk n f):∃ (v:T_GainGraph),v.2.1.1≤8 ∧
    zE 14 [cdA n f] [(0,gbOb v.2.1)] (gaO v 0):=by
  obtain ⟨s,h0,c0⟩:=con_l1New n f hn
  obtain ⟨s1,v,h1,hv,c1⟩:=con_l29Gain n f hn s h0
  refine ⟨v,hv,?_⟩
  refine csZ Try.func14 (fun c hc=>?_)
  refine pkZ Try.func14 hc (dhF n f s s1 v) ?_
  and_intros
  all_goals (first | exact zI | (exact c0) | (exact c1) | (intros;simp [All];done) | (simp;done))
theorem con_DrawUnrolledGraph (n:Nat) (f:Nat→Int) (hn:CdOk n f):∃ (v:T_GainGraph),v.2.1.1≤8 ∧
    zE 19 [cdA n f] [(0,gbOb v.2.1)] (gaO v 0):=by
  obtain ⟨s,h0,c0⟩:=con_l1New n f hn
  obtain ⟨s1,v,h1,hv,c1⟩:=con_l29Gain n f hn s h0
  refine ⟨v,hv,?_⟩
  refine csZ Try.func19 (fun c hc=>?_)
  refine pkZ Try.func19 hc (dhU n f s s1 v) ?_
  and_intros
  all_goals (first | exact zI | (exact c0) | (exact c1) | (intros;simp [All];done) | (simp;done))
theorem con_DrawIsBalanced (n:Nat) (f:Nat→Int) (hn:CdOk n f):∃ (v:T_GainGraph) (u:T_IntS),v.2.1.1≤8∧u.1≤8 ∧
    zE 16 [cdA n f] [(0,gbOb v.2.1),(1,iObW u.1 u.2)] (.tup [gaO v 0,.ar 1 1 0 u.1]):=by
  obtain ⟨s,h0,c0⟩:=con_l1New n f hn
  obtain ⟨s1,v,h1,hv,c1⟩:=con_l29Gain n f hn s h0
  obtain ⟨s2,x,h2,hx,c2⟩:=con_l1Below n f hn s1 h1 256 (by omega)
  obtain ⟨w,rfl⟩:∃ w:Nat,x=(w:Int):=⟨x.toNat,by omega⟩
  have hle:=stD_n w v.2.1.1
  have hm:(if (v.2.1.1:Int)<8 then (v.2.1.1:Int) else 8)=(v.2.1.1:Int):=by
    by_cases h:(v.2.1.1:Int)<8
    · rw [if_pos h]
    · rw [if_neg h];omega
  have c3:=con_l3Set w v.2.1.1 (by omega)
  rw [← hm] at c3
  refine ⟨v,stD w v.2.1.1,hv,by omega,?_⟩
  refine csZ Try.func16 (fun c hc=>?_)
  refine pkD Try.func16 hc (dhB n f s s1 s2 v w (stD w v.2.1.1)) ?_
  and_intros
  all_goals (first | exact zI | (exact c0) | (exact c1) | (exact c2) | (exact c3) | (intros;simp [All];done) | (simp;done) | (simp;omega))
theorem con_DrawEqualGains (n:Nat) (f:Nat→Int) (hn:CdOk n f):∃ (v u:T_GainGraph),v.2.1.1≤8∧u.2.1.1≤8 ∧
    zE 22 [cdA n f] [(0,gbOb v.2.1),(1,gbOb u.2.1)] (.tup [gaO v 0,gaO u 1]):=by
  obtain ⟨s,h0,c0⟩:=con_l1New n f hn
  obtain ⟨s1,v,h1,hv,c1⟩:=con_l29Gain n f hn s h0
  obtain ⟨s2,b,h2,c2⟩:=con_l1Once n f hn s1 h1 2 (by omega)
  cases b with
  | true =>
    have c3:=con_l29Copy v (by omega)
    refine ⟨v,v,hv,hv,?_⟩
    refine csZ Try.func22 (fun c hc=>?_)
    refine pkD Try.func22 hc (dhEt n f s s1 s2 v) ?_
    and_intros
    all_goals (first | exact zI | (exact c0) | (exact c1) | (exact c2) | (exact c3) | (intros;simp [All];done) | (simp;done))
  | false =>
    obtain ⟨s3,u,h3,hu,c3⟩:=con_l29Gain n f hn s2 h2
    refine ⟨v,u,hv,hu,?_⟩
    refine csZ Try.func22 (fun c hc=>?_)
    refine pkD Try.func22 hc (dhEf n f s s1 s2 s3 v u) ?_
    and_intros
    all_goals (first | exact zI | (exact c0) | (exact c1) | (exact c2) | (exact c3) | (intros;simp [All];done) | (simp;done))
def eqBar (a b:T_GainBar):Bool:=a.1==b.1&&(a.2.1==b.2.1&&(a.2.2.1==b.2.2.1&&(a.2.2.2.1==b.2.2.2.1&&true)))
def eqTo (g h:Nat→T_GainBar):Nat→Bool
  | 0=>true
  | k+1=>eqTo g h k&&eqBar (g k) (h k)
def eqBars (v u:T_GainBarS):Bool:=if v.1=u.1 then eqTo v.2 u.2 v.1 else false
def eqGains (v u:T_GainGraph):Bool:=bif v.1==u.1 then eqBars v.2.1 u.2.1 else false
def barsA (v:T_GainBarS):AV:=.p (.seq true 4 v.1 (fun i=>[.int .i64 (v.2 i).1,.int .i64 (v.2 i).2.1,.int .i64 (v.2 i).2.2.1,.int .i64 (v.2 i).2.2.2.1]))
def S21 (v u:T_GainGraph) (k:Nat):St :=
  ⟨[gainA v,gainA u,.pt 2 0 0 0,.pt 2 1 0 0,.p .any,.p (.int .i64 k)]++List.replicate 32 anyA,
   [(0,⟨true,2,1,fun i=>[.p (.int .i64 v.1),gainL v]⟩),(1,⟨true,2,1,fun i=>[.p (.int .i64 u.1),gainL u]⟩)],2⟩
def S43 (v u:T_GainBarS) (k:Nat):St :=
  ⟨[barsA v,barsA u]++List.replicate 10 anyA++[.p (.int .i64 v.1),.p (.int .i64 k)]++List.replicate 12 anyA,[],0⟩
theorem p21z (v u:T_GainGraph) :
    zS Try.f9 [rg 3,rg 14,.dec true,rg 1] [gainA v,gainA u] [] [] (.p (.bool false)) =
    some (zD [(NT 0 1),(AG (!v.1 != u.1)),(((!v.1 != u.1)=true)→(NT 0 1)),(((v.1 != u.1)=false)→ ((!v.1 != u.1)=true)),((bif v.1 != u.1 then true else (↑v.2.1.1:Int) != (↑u.2.1.1:Int))=true),(false=false)] [0,0,1,2,1,1,2,1,1,1,3,4,5]):=by kernel_rfl
theorem p21a (v u:T_GainGraph) :
    zT Try.f9 [rg 3,rg 14,.dec false,rg 1,.head] [gainA v,gainA u] [0,32] (S21 v u 0) =
    some (zf45,zD [(NT 0 1),(AG (!v.1 != u.1)),(((!v.1 != u.1)=true)→(NT 0 1)),(((v.1 != u.1)=false)→ ((!v.1 != u.1)=true)),((bif v.1 != u.1 then true else (↑v.2.1.1:Int) != (↑u.2.1.1:Int))=false),(AI v.1),(AN v.2.1.1),(AP v.2.1.1 (fun i=>[.int .i64 ((v.2.1.2 i).1),.int .i64 ((v.2.1.2 i).2.1),.int .i64 ((v.2.1.2 i).2.2.1),.int .i64 ((v.2.1.2 i).2.2.2.1)])),(AI u.1),(AN u.2.1.1),(AP u.2.1.1 (fun i=>[.int .i64 ((u.2.1.2 i).1),.int .i64 ((u.2.1.2 i).2.1),.int .i64 ((u.2.1.2 i).2.2.1),.int .i64 ((u.2.1.2 i).2.2.2.1)])),(AN 0),((0:Int)=(↑0:Int)),((([AV.p (PV.int IntKind.i64 v.1),AV.p (PV.seq true 4 v.2.1.1 fun i=>[PV.int IntKind.i64 (v.2.1.2 i).1,PV.int IntKind.i64 (v.2.1.2 i).2.1,PV.int IntKind.i64 (v.2.1.2 i).2.2.1,PV.int IntKind.i64 (v.2.1.2 i).2.2.2.1])].length):Nat)=2),(NL 1 1),((([AV.p (PV.int IntKind.i64 u.1),AV.p (PV.seq true 4 u.2.1.1 fun i=>[PV.int IntKind.i64 (u.2.1.2 i).1,PV.int IntKind.i64 (u.2.1.2 i).2.1,PV.int IntKind.i64 (u.2.1.2 i).2.2.1,PV.int IntKind.i64 (u.2.1.2 i).2.2.2.1])].length):Nat)=2)] [0,0,1,2,1,1,2,1,1,1,3,4,5,6,7,8,9,10,11,11,12,13,14,14,5,6,7,15,14,14,8,9,10]):=by kernel_rfl
theorem p21b (v u:T_GainGraph) (k:Nat) :
    zM 0 [rg 5,.dec true,rg 11,.dec false,rg 3,.head] zf45 (S21 v u k) [0,1] 1 (S21 v u (k+1)) =
    some (zf45,zD [(NT 0 1),((decide ((↑k:Int)<(↑v.2.1.1:Int)))=true),(IL 0 (↑k:Int)),(IT (↑k:Int) (↑v.2.1.1:Int)),(IT (↑k:Int) (↑u.2.1.1:Int)),((!((v.2.1.2 k).1==(u.2.1.2 k).1&&((v.2.1.2 k).2.1==(u.2.1.2 k).2.1&&((v.2.1.2 k).2.2.1==(u.2.1.2 k).2.2.1&&((v.2.1.2 k).2.2.2.1==(u.2.1.2 k).2.2.2.1&&true)))))=false),(ZLo ((↑k:Int)+1)),(ZHi ((↑k:Int)+1)),(AI v.1),(AN v.2.1.1),(AP v.2.1.1 (fun i=>[.int .i64 ((v.2.1.2 i).1),.int .i64 ((v.2.1.2 i).2.1),.int .i64 ((v.2.1.2 i).2.2.1),.int .i64 ((v.2.1.2 i).2.2.2.1)])),(AI u.1),(AN u.2.1.1),(AP u.2.1.1 (fun i=>[.int .i64 ((u.2.1.2 i).1),.int .i64 ((u.2.1.2 i).2.1),.int .i64 ((u.2.1.2 i).2.2.1),.int .i64 ((u.2.1.2 i).2.2.2.1)])),(AN 0),((((↑k:Int)+1):Int)=(↑(k+1):Int)),(AN 2),(NL 1 1)] [0,1,0,2,3,0,2,4,5,6,7,8,9,10,11,12,13,14,14,15,16,17,17,8,9,10,16,17,17,11,12,13]):=by kernel_rfl
theorem p21c (v u:T_GainGraph) (k:Nat) :
    zP Try.f9 0 [rg 5,.dec true,rg 11,.dec true,rg 1] zf45 (S21 v u k) [] 1 [] (.p (.bool false)) =
    some (zD [(NT 0 1),((decide ((↑k:Int)<(↑v.2.1.1:Int)))=true),(IL 0 (↑k:Int)),(IT (↑k:Int) (↑v.2.1.1:Int)),(IT (↑k:Int) (↑u.2.1.1:Int)),((!((v.2.1.2 k).1==(u.2.1.2 k).1&&((v.2.1.2 k).2.1==(u.2.1.2 k).2.1&&((v.2.1.2 k).2.2.1==(u.2.1.2 k).2.2.1&&((v.2.1.2 k).2.2.2.1==(u.2.1.2 k).2.2.2.1&&true)))))=true),(false=false)] [0,1,0,2,3,0,2,4,5,6]):=by kernel_rfl
theorem p21d (v u:T_GainGraph) (k:Nat) :
    zP Try.f9 0 [rg 5,.dec false,rg 1] zf45 (S21 v u k) [] 1 [] (.p (.bool true)) =
    some [(NT 0 1),((decide ((↑k:Int)<(↑v.2.1.1:Int)))=false),(true=true)]:=by kernel_rfl
theorem p43z (v u:T_GainBarS) :
    zS Try.f74 [rg 1,rg 5,.dec true,rg 1] [barsA v,barsA u] [] [] (.p (.bool false)) =
    some [(((↑v.1:Int) != (↑u.1:Int))=true),(false=false)]:=by kernel_rfl
theorem p43a (v u:T_GainBarS) :
    zT Try.f74 [rg 1,rg 5,.dec false,rg 3,.head] [barsA v,barsA u] [] (S43 v u 0) =
    some (zf42,[(((↑v.1:Int) != (↑u.1:Int))=false),(AN v.1),(AP v.1 (fun i=>[.int .i64 ((v.2 i).1),.int .i64 ((v.2 i).2.1),.int .i64 ((v.2 i).2.2.1),.int .i64 ((v.2 i).2.2.2.1)])),(AN u.1),(AP u.1 (fun i=>[.int .i64 ((u.2 i).1),.int .i64 ((u.2 i).2.1),.int .i64 ((u.2 i).2.2.1),.int .i64 ((u.2 i).2.2.2.1)])),(AI ((↑v.1:Int))),((0:Int)=(↑0:Int))]):=by kernel_rfl
theorem p43b (v u:T_GainBarS) (k:Nat) :
    zM 0 [rg 1,.dec true,rg 2,rg 9,.dec false,rg 2,.head] zf42 (S43 v u k) [] 1 (S43 v u (k+1)) =
    some (zf42,[((decide ((↑k:Int)<(↑v.1:Int)))=true),(IL 0 (↑k:Int)),(IT (↑k:Int) (↑v.1:Int)),(IL 0 (↑k:Int)),(IT (↑k:Int) (↑u.1:Int)),((!((v.2 k).1==(u.2 k).1&&((v.2 k).2.1==(u.2 k).2.1&&((v.2 k).2.2.1==(u.2 k).2.2.1&&((v.2 k).2.2.2.1==(u.2 k).2.2.2.1&&true)))))=false),(ZLo ((↑k:Int)+1)),(ZHi ((↑k:Int)+1)),(AN v.1),(AP v.1 (fun i=>[.int .i64 ((v.2 i).1),.int .i64 ((v.2 i).2.1),.int .i64 ((v.2 i).2.2.1),.int .i64 ((v.2 i).2.2.2.1)])),(AN u.1),(AP u.1 (fun i=>[.int .i64 ((u.2 i).1),.int .i64 ((u.2 i).2.1),.int .i64 ((u.2 i).2.2.1),.int .i64 ((u.2 i).2.2.2.1)])),(AI ((↑v.1:Int))),((((↑k:Int)+1):Int)=(↑(k+1):Int))]):=by kernel_rfl
theorem p43c (v u:T_GainBarS) (k:Nat) :
    zP Try.f74 0 [rg 1,.dec true,rg 2,rg 9,.dec true,rg 1] zf42 (S43 v u k) [] 1 [] (.p (.bool false)) =
    some [((decide ((↑k:Int)<(↑v.1:Int)))=true),(IL 0 (↑k:Int)),(IT (↑k:Int) (↑v.1:Int)),(IL 0 (↑k:Int)),(IT (↑k:Int) (↑u.1:Int)),((!((v.2 k).1==(u.2 k).1&&((v.2 k).2.1==(u.2 k).2.1&&((v.2 k).2.2.1==(u.2 k).2.2.1&&((v.2 k).2.2.2.1==(u.2 k).2.2.2.1&&true)))))=true),(false=false)]:=by kernel_rfl
theorem p43d (v u:T_GainBarS) (k:Nat) :
    zP Try.f74 0 [rg 1,.dec false,rg 1] zf42 (S43 v u k) [] 1 [] (.p (.bool true)) =
    some [((decide ((↑k:Int)<(↑v.1:Int)))=false),(true=true)]:=by kernel_rfl
theorem p22 (v u:T_GainGraph) :
    zS Try.f25 [rg 3,rm [(10,oc [] (.p (.bool (eqBars v.2.1 u.2.1))))] 2] [gainA v,gainA u] [] [] (.p (.bool (eqGains v u))) =
    some (zD [(NT 0 1),(AG (v.1==u.1)),(((v.1==u.1)=true)→(NT 0 1)),(((v.1==u.1)=true)→ zE 74 [.p (.seq true 4 v.2.1.1 (fun i=>[.int .i64 ((v.2.1.2 i).1),.int .i64 ((v.2.1.2 i).2.1),.int .i64 ((v.2.1.2 i).2.2.1),.int .i64 ((v.2.1.2 i).2.2.2.1)])),.p (.seq true 4 u.2.1.1 (fun i=>[.int .i64 ((u.2.1.2 i).1),.int .i64 ((u.2.1.2 i).2.1),.int .i64 ((u.2.1.2 i).2.2.1),.int .i64 ((u.2.1.2 i).2.2.2.1)]))] [] (.p (.bool (eqBars v.2.1 u.2.1)))),((bif v.1==u.1 then eqBars v.2.1 u.2.1 else false)=(eqGains v u))] [0,0,1,2,1,2,1,1,3,1,4]):=by kernel_rfl
theorem eqTo_bad (g h:Nat→T_GainBar) (k:Nat) (e:eqBar (g k) (h k)=false):∀ n,k<n→eqTo g h n=false
  | 0,h'=>by omega
  | n+1,h'=>by
    by_cases e':k=n
    · subst e';simp [eqTo,e]
    · simp [eqTo,eqTo_bad g h k e n (by omega)]
theorem con_eqBars (v u:T_GainBarS) (hv:v.1≤1048576) (hu:u.1≤1048576):zE 74 [barsA v,barsA u] [] (.p (.bool (eqBars v u))):=by
  refine csZ Try.func74 (fun c hc=>?_)
  by_cases hz:v.1=u.1
  · rw [show eqBars v u=eqTo v.2 u.2 v.1 by simp [eqBars,hz]]
    have lp:∀ m k,k+m=v.1→eqTo v.2 u.2 k=true→zR c 74 zf42 (S43 v u k) (Post c [] (.p (.bool (eqTo v.2 u.2 v.1)))):=by
      intro m
      induction m with
      | zero =>
        intro k hk hg
        rw [show eqTo v.2 u.2 v.1=true by rw [show v.1=k by omega];exact hg]
        have hd:decide ((k:Int)<(v.1:Int))=false:=by simp;omega
        refine pkZ Try.func74 hc (p43d v u k) ?_
        and_intros
        all_goals (first | exact zN)
      | succ m ih =>
        intro k hk hg
        have hd:decide ((k:Int)<(v.1:Int))=true:=by simp;omega
        cases he:eqBar (v.2 k) (u.2 k) with
        | false =>
          rw [eqTo_bad _ _ k he v.1 (by omega)]
          refine pkZ Try.func74 hc (p43c v u k) ?_
          and_intros
          all_goals (first | exact zN | exact notf he)
        | true =>
          refine pcZ hc (p43b v u k) ?_ (ih (k+1) (by omega) (by simp [eqTo,hg,he]))
          and_intros
          all_goals (first | exact zN | exact nott he)
    refine pcZ hc (p43a v u) ?_ (lp v.1 0 (by omega) rfl)
    and_intros
    all_goals (first | exact zN | (simp;omega))
  · rw [show eqBars v u=false by simp [eqBars,hz]]
    refine pkZ Try.func74 hc (p43z v u) ?_
    and_intros
    all_goals (first | exact zN | (simp;omega))
theorem con_EqualGains_s (v u:T_GainGraph) (hv:smS s_GainGraph v) (hu:smS s_GainGraph u):zE 9 [gainA v,gainA u] [] (.p (.bool (eqGains v u))):=by
  refine csZ Try.func9 (fun c hc=>?_)
  have hn:v.2.1.1≤1048576:=hv.2.1.1
  by_cases hz:v.1=u.1∧v.2.1.1=u.2.1.1
  · rw [show eqGains v u=eqTo v.2.1.2 u.2.1.2 v.2.1.1 by simp [eqGains,eqBars,hz.1,hz.2]]
    have lp:∀ m k,k+m=v.2.1.1→eqTo v.2.1.2 u.2.1.2 k=true→zR c 9 zf45 (S21 v u k) (Post c [] (.p (.bool (eqTo v.2.1.2 u.2.1.2 v.2.1.1)))):=by
      intro m
      induction m with
      | zero =>
        intro k hk hg
        rw [show eqTo v.2.1.2 u.2.1.2 v.2.1.1=true by rw [show v.2.1.1=k by omega];exact hg]
        have hd:decide ((k:Int)<(v.2.1.1:Int))=false:=by simp;omega
        refine pkZ Try.func9 hc (p21d v u k) ?_
        and_intros
        all_goals (first | exact zN)
      | succ m ih =>
        intro k hk hg
        have hd:decide ((k:Int)<(v.2.1.1:Int))=true:=by simp;omega
        cases he:eqBar (v.2.1.2 k) (u.2.1.2 k) with
        | false =>
          rw [eqTo_bad _ _ k he v.2.1.1 (by omega)]
          refine pkD Try.func9 hc (p21c v u k) ?_
          and_intros
          all_goals (first | exact zN | exact notf he)
        | true =>
          refine pcD hc (p21b v u k) ?_ (ih (k+1) (by omega) (by simp [eqTo,hg,he]))
          and_intros
          all_goals (first | exact zN | exact nott he | (simp [All]))
    refine pcD hc (p21a v u) ?_ (lp v.2.1.1 0 (by omega) rfl)
    and_intros
    all_goals (first | exact zH | (intro h;simp [h]) | (simp [hz.1,hz.2]) | (simp [All]))
  · rw [show eqGains v u=false by
      simp only [eqGains,eqBars]
      by_cases h1:v.1=u.1
      · have h2:¬ v.2.1.1=u.2.1.1:=fun h=>hz ⟨h1,h⟩
        simp [h1,h2]
      · have:(v.1==u.1)=false:=by simpa using h1
        rw [this];rfl]
    refine pkD Try.func9 hc (p21z v u) ?_
    have hb:(bif v.1 != u.1 then true else (v.2.1.1:Int) != (u.2.1.1:Int))=true:=by
      by_cases h1:v.1=u.1
      · have h2:¬ v.2.1.1=u.2.1.1:=fun h=>hz ⟨h1,h⟩
        simp [h1];omega
      · simp [h1]
    and_intros
    all_goals (first | exact zH)
theorem con_EqualGains_i (v u:T_GainGraph) (hv:smS s_GainGraph v) (hu:smS s_GainGraph u):zE 25 [gainA v,gainA u] [] (.p (.bool (eqGains v u))):=by
  refine csZ Try.func25 (fun c hc=>?_)
  refine pkD Try.func25 hc (p22 v u) ?_
  and_intros
  all_goals (first | exact zI | (intros;exact con_eqBars v.2.1 u.2.1 hv.2.1.1 hu.2.1.1))
def aft (a b:T_Bar):Bool:=bif decide (a.1<b.1) then true else bif a.1==b.1 then decide (a.2.1≤b.2.1) else false
def cmpI (x y:Int):Int:=if x<y then -1 else if x>y then 1 else 0
def cmpB (a b:T_Bar):Int:=if cmpI a.1 b.1=0 then cmpI a.2.1 b.2.1 else cmpI a.1 b.1
def badB (N:Int) (g:Nat→T_Bar) (k:Nat):Bool :=
  bif bif bif decide ((g k).1<0) then true else decide ((g k).1≥(g k).2.1) then true else decide ((g k).2.1≥N) then true
    else bif decide ((k:Int)>0) then !aft (g ((k:Int) - 1).toNat) (g k) else false
def goodB (N:Int) (g:Nat→T_Bar):Nat→Bool
  | 0=>true
  | k+1=>goodB N g k&&!badB N g k
def isGraphF (v:T_Graph):Bool:=if inB v.1 1 8=true∧v.2.1.1≤24 then goodB v.1 v.2.1.2 v.2.1.1 else false
def barA (a:T_Bar):AV:=.agg [.p (.int .i64 a.1),.p (.int .i64 a.2.1)]
def graphL (v:T_BarS):AV:=.p (.seq true 2 v.1 (fun i=>[.int .i64 (v.2 i).1,.int .i64 (v.2 i).2.1]))
def graphA (v:T_Graph):AV:=.agg [.p (.int .i64 v.1),graphL v.2.1]
def boxG (v:T_Graph):Ob:=⟨true,2,1,fun i=>[.p (.int .i64 v.1),graphL v.2.1]⟩
def S51 (v:T_Graph) (k:Nat):St :=
  ⟨[graphA v,.pt 2 0 0 0]++List.replicate 14 anyA++[graphL v.2.1,.p (.int .i64 v.2.1.1),.p (.int .i64 k)]++List.replicate 37 anyA,[(0,boxG v)],1⟩
theorem p57 (a b:T_Bar) :
    zS Try.f84 [rg 3,rg 20] [barA a,barA b] [] [] (.p (.bool (aft a b))) =
    some (zD [(NT 0 1),(AG (!decide (a.1<b.1))),(((!decide (a.1<b.1))=true)→(NT 0 1)),(AG (!decide (a.1<b.1)&&a.1==b.1)),(((!decide (a.1<b.1)&&a.1==b.1)=true)→(NT 0 1)),(((!decide (a.1<b.1))=true)→(((a.1==b.1)=true)→ ((!decide (a.1<b.1)&&a.1==b.1)=true))),(((decide (a.1<b.1))=false)→ ((!decide (a.1<b.1))=true)),((bif decide (a.1<b.1) then true else bif a.1==b.1 then decide (a.2.1≤b.2.1) else false)=(aft a b))] [0,0,1,2,1,2,1,1,1,3,4,3,4,3,3,1,5,6,7]):=by kernel_rfl
theorem p62a (x y:Int) :
    zS Try.f99 [rg 1,rg 4,.dec true,rg 1] [.p (.int .i64 x),.p (.int .i64 y)] [] [] (.p (.int .i64 (-1))) =
    some [((decide (x<y))=true),(AI ((-1)))]:=by kernel_rfl
theorem p62b (x y:Int) :
    zS Try.f99 [rg 1,rg 4,.dec false,rg 4,.dec true,rg 1] [.p (.int .i64 x),.p (.int .i64 y)] [] [] (.p (.int .i64 1)) =
    some [((decide (x<y))=false),((decide (x>y))=true),(AI 1)]:=by kernel_rfl
theorem p62c (x y:Int) :
    zS Try.f99 [rg 1,rg 4,.dec false,rg 4,.dec false,rg 1] [.p (.int .i64 x),.p (.int .i64 y)] [] [] (.p (.int .i64 0)) =
    some [((decide (x<y))=false),((decide (x>y))=false),(AI 0)]:=by kernel_rfl
theorem p59a (a b:T_Bar) :
    zS Try.f73 [rg 3,rm [(4,oc [] (.p (.int .i64 (cmpI a.1 b.1))))] 1,rg 2,.dec true,rg 2] [barA a,barA b] [] [] (.p (.int .i64 (cmpI a.1 b.1))) =
    some [(NT 0 1),(NT 0 1),zE 99 [.p (.int .i64 a.1),.p (.int .i64 b.1)] [] (.p (.int .i64 (cmpI a.1 b.1))),((cmpI a.1 b.1 != 0)=true),(AI ((cmpI a.1 b.1)))]:=by kernel_rfl
theorem p59b (a b:T_Bar) :
    zS Try.f73 [rg 3,rm [(4,oc [] (.p (.int .i64 (cmpI a.1 b.1))))] 1,rg 2,.dec false,rm [(4,oc [] (.p (.int .i64 (cmpI a.2.1 b.2.1))))] 1] [barA a,barA b] [] [] (.p (.int .i64 (cmpI a.2.1 b.2.1))) =
    some [(NT 0 1),(NT 0 1),zE 99 [.p (.int .i64 a.1),.p (.int .i64 b.1)] [] (.p (.int .i64 (cmpI a.1 b.1))),((cmpI a.1 b.1 != 0)=false),(NT 0 1),(NT 0 1),zE 99 [.p (.int .i64 a.2.1),.p (.int .i64 b.2.1)] [] (.p (.int .i64 (cmpI a.2.1 b.2.1))),(AI ((cmpI a.2.1 b.2.1)))]:=by kernel_rfl
theorem p51z (v:T_Graph) :
    zS Try.f24 [rg 2,rm [(2,oc [] (.p (.bool (inB v.1 1 8))))] 7,.dec true,rg 1] [graphA v] [] [] (.p (.bool false)) =
    some (zD [(NT 0 1),zE 60 [.p (.int .i64 v.1),.p (.int .i64 1),.p (.int .i64 8)] [] (.p (.bool (inB v.1 1 8))),(AG (!!inB v.1 1 8)),(((!!inB v.1 1 8)=true)→(NT 0 1)),(((!inB v.1 1 8)=false)→ ((!!inB v.1 1 8)=true)),((bif !inB v.1 1 8 then true else decide ((↑v.2.1.1:Int)>24))=true),(false=false)] [0,1,2,3,2,2,4,5,6]):=by kernel_rfl
theorem p51a (v:T_Graph) :
    zT Try.f24 [rg 2,rm [(2,oc [] (.p (.bool (inB v.1 1 8))))] 7,.dec false,rg 4,.head] [graphA v] [0] (S51 v 0) =
    some (zf43,zD [(NT 0 1),zE 60 [.p (.int .i64 v.1),.p (.int .i64 1),.p (.int .i64 8)] [] (.p (.bool (inB v.1 1 8))),(AG (!!inB v.1 1 8)),(((!!inB v.1 1 8)=true)→(NT 0 1)),(((!inB v.1 1 8)=false)→ ((!!inB v.1 1 8)=true)),((bif !inB v.1 1 8 then true else decide ((↑v.2.1.1:Int)>24))=false),(AI v.1),(AN v.2.1.1),(AP v.2.1.1 (bRw v.2.1.2)),(AN 0),(AI ((↑v.2.1.1:Int))),((0:Int)=(↑0:Int)),((([AV.p (PV.int IntKind.i64 v.1),graphL v.2.1].length):Nat)=2),(NL 1 1)] [0,1,2,3,2,2,4,5,0,6,7,8,9,7,8,10,11,12,13,13,6,7,8]):=by kernel_rfl
theorem p51b (v:T_Graph) (k:Nat) :
    zM 0 [rg 1,.dec true,rg 6,rm [(28,oc [] (.p (.int .i64 (cmpB (v.2.1.2 ((k:Int) - 1).toNat) (v.2.1.2 k)))))] 3,.dec false,rg 2,.head] zf43 (S51 v k) [0] 1 (S51 v (k+1)) =
    some (zf43,zD [((decide ((↑k:Int)<(↑v.2.1.1:Int)))=true),(IL 0 (↑k:Int)),(IT (↑k:Int) (↑v.2.1.1:Int)),(NT 0 1),((true=true)→ (AN 1)),(AG (!decide ((vKz v k).1<0))),(((!decide ((vKz v k).1<0))=true)→(NT 0 1)),(((decide ((vKz v k).1<0))=false)→ ((!decide ((vKz v k).1<0))=true)),(AG (!bif decide ((vKz v k).1<0) then true else decide ((vKz v k).1≥(vKz v k).2.1))),(((!bif decide ((vKz v k).1<0) then true else decide ((vKz v k).1≥(vKz v k).2.1))=true)→(NT 0 1)),(((bif decide ((vKz v k).1<0) then true else decide ((vKz v k).1≥(vKz v k).2.1))=false)→ ((!bif decide ((vKz v k).1<0) then true else decide ((vKz v k).1≥(vKz v k).2.1))=true)),(AG (!bif bif decide ((vKz v k).1<0) then true else decide ((vKz v k).1≥(vKz v k).2.1) then true else decide ((vKz v k).2.1≥v.1))),(AG ((!bif bif decide ((vKz v k).1<0) then true else decide ((vKz v k).1≥(vKz v k).2.1) then true else decide ((vKz v k).2.1≥v.1))&&decide ((↑k:Int)>0))),((((!bif bif decide ((vKz v k).1<0) then true else decide ((vKz v k).1≥(vKz v k).2.1) then true else decide ((vKz v k).2.1≥v.1))&&decide ((↑k:Int)>0))=true)→(NT 0 1)),((((!bif bif decide ((vKz v k).1<0) then true else decide ((vKz v k).1≥(vKz v k).2.1) then true else decide ((vKz v k).2.1≥v.1))&&decide ((↑k:Int)>0))=true)→(ZLo ((↑k:Int) - 1))),((((!bif bif decide ((vKz v k).1<0) then true else decide ((vKz v k).1≥(vKz v k).2.1) then true else decide ((vKz v k).2.1≥v.1))&&decide ((↑k:Int)>0))=true)→(ZHi ((↑k:Int) - 1))),((((!bif bif decide ((vKz v k).1<0) then true else decide ((vKz v k).1≥(vKz v k).2.1) then true else decide ((vKz v k).2.1≥v.1))&&decide ((↑k:Int)>0))=true)→(IL 0 ((↑k:Int) - 1))),((((!bif bif decide ((vKz v k).1<0) then true else decide ((vKz v k).1≥(vKz v k).2.1) then true else decide ((vKz v k).2.1≥v.1))&&decide ((↑k:Int)>0))=true)→(IT ((↑k:Int) - 1) (↑v.2.1.1:Int))),((((!bif bif decide ((vKz v k).1<0) then true else decide ((vKz v k).1≥(vKz v k).2.1) then true else decide ((vKz v k).2.1≥v.1))&&decide ((↑k:Int)>0))=true)→ zE 73 [.agg [.p (.int .i64 ((v.2.1.2 ((↑k:Int) - 1).toNat).1)),.p (.int .i64 ((v.2.1.2 ((↑k:Int) - 1).toNat).2.1))],.agg [.p (.int .i64 ((v.2.1.2 k).1)),.p (.int .i64 ((v.2.1.2 k).2.1))]] [] (.p (.int .i64 (cmpB (v.2.1.2 ((↑k:Int) - 1).toNat) (v.2.1.2 k))))),(((!bif bif decide ((vKz v k).1<0) then true else decide ((vKz v k).1≥(vKz v k).2.1) then true else decide ((vKz v k).2.1≥v.1))=true)→(((decide ((↑k:Int)>0))=true)→ (((!bif bif decide ((vKz v k).1<0) then true else decide ((vKz v k).1≥(vKz v k).2.1) then true else decide ((vKz v k).2.1≥v.1))&&decide ((↑k:Int)>0))=true))),(((bif bif decide ((vKz v k).1<0) then true else decide ((vKz v k).1≥(vKz v k).2.1) then true else decide ((vKz v k).2.1≥v.1))=false)→ ((!bif bif decide ((vKz v k).1<0) then true else decide ((vKz v k).1≥(vKz v k).2.1) then true else decide ((vKz v k).2.1≥v.1))=true)),((bif bif bif decide ((vKz v k).1<0) then true else decide ((vKz v k).1≥(vKz v k).2.1) then true else decide ((vKz v k).2.1≥v.1) then true else bif decide ((↑k:Int)>0) then decide (cmpB (v.2.1.2 ((↑k:Int) - 1).toNat) (v.2.1.2 k)>0) else false)=false),(ZLo ((↑k:Int)+1)),(ZHi ((↑k:Int)+1)),(AI v.1),(AN v.2.1.1),(AP v.2.1.1 (bRw v.2.1.2)),(AN 0),(AI ((↑v.2.1.1:Int))),((((↑k:Int)+1):Int)=(↑(k+1):Int)),(AN 2),(NL 1 1)] [0,1,2,3,4,3,5,6,5,6,5,5,7,8,9,8,9,8,8,10,11,11,12,13,12,14,15,12,12,16,17,12,13,12,12,18,12,11,19,20,21,22,23,24,25,26,27,25,26,28,29,30,31,31,24,25,26]):=by kernel_rfl
theorem p51c (v:T_Graph) (k:Nat) :
    zP Try.f24 0 [rg 1,.dec true,rg 6,rm [(28,oc [] (.p (.int .i64 (cmpB (v.2.1.2 ((k:Int) - 1).toNat) (v.2.1.2 k)))))] 3,.dec true,rg 1] zf43 (S51 v k) [] 1 [] (.p (.bool false)) =
    some (zD [((decide ((↑k:Int)<(↑v.2.1.1:Int)))=true),(IL 0 (↑k:Int)),(IT (↑k:Int) (↑v.2.1.1:Int)),(NT 0 1),((true=true)→ (AN 1)),(AG (!decide ((vKz v k).1<0))),(((!decide ((vKz v k).1<0))=true)→(NT 0 1)),(((decide ((vKz v k).1<0))=false)→ ((!decide ((vKz v k).1<0))=true)),(AG (!bif decide ((vKz v k).1<0) then true else decide ((vKz v k).1≥(vKz v k).2.1))),(((!bif decide ((vKz v k).1<0) then true else decide ((vKz v k).1≥(vKz v k).2.1))=true)→(NT 0 1)),(((bif decide ((vKz v k).1<0) then true else decide ((vKz v k).1≥(vKz v k).2.1))=false)→ ((!bif decide ((vKz v k).1<0) then true else decide ((vKz v k).1≥(vKz v k).2.1))=true)),(AG (!bif bif decide ((vKz v k).1<0) then true else decide ((vKz v k).1≥(vKz v k).2.1) then true else decide ((vKz v k).2.1≥v.1))),(AG ((!bif bif decide ((vKz v k).1<0) then true else decide ((vKz v k).1≥(vKz v k).2.1) then true else decide ((vKz v k).2.1≥v.1))&&decide ((↑k:Int)>0))),((((!bif bif decide ((vKz v k).1<0) then true else decide ((vKz v k).1≥(vKz v k).2.1) then true else decide ((vKz v k).2.1≥v.1))&&decide ((↑k:Int)>0))=true)→(NT 0 1)),((((!bif bif decide ((vKz v k).1<0) then true else decide ((vKz v k).1≥(vKz v k).2.1) then true else decide ((vKz v k).2.1≥v.1))&&decide ((↑k:Int)>0))=true)→(ZLo ((↑k:Int) - 1))),((((!bif bif decide ((vKz v k).1<0) then true else decide ((vKz v k).1≥(vKz v k).2.1) then true else decide ((vKz v k).2.1≥v.1))&&decide ((↑k:Int)>0))=true)→(ZHi ((↑k:Int) - 1))),((((!bif bif decide ((vKz v k).1<0) then true else decide ((vKz v k).1≥(vKz v k).2.1) then true else decide ((vKz v k).2.1≥v.1))&&decide ((↑k:Int)>0))=true)→(IL 0 ((↑k:Int) - 1))),((((!bif bif decide ((vKz v k).1<0) then true else decide ((vKz v k).1≥(vKz v k).2.1) then true else decide ((vKz v k).2.1≥v.1))&&decide ((↑k:Int)>0))=true)→(IT ((↑k:Int) - 1) (↑v.2.1.1:Int))),((((!bif bif decide ((vKz v k).1<0) then true else decide ((vKz v k).1≥(vKz v k).2.1) then true else decide ((vKz v k).2.1≥v.1))&&decide ((↑k:Int)>0))=true)→ zE 73 [.agg [.p (.int .i64 ((v.2.1.2 ((↑k:Int) - 1).toNat).1)),.p (.int .i64 ((v.2.1.2 ((↑k:Int) - 1).toNat).2.1))],.agg [.p (.int .i64 ((v.2.1.2 k).1)),.p (.int .i64 ((v.2.1.2 k).2.1))]] [] (.p (.int .i64 (cmpB (v.2.1.2 ((↑k:Int) - 1).toNat) (v.2.1.2 k))))),(((!bif bif decide ((vKz v k).1<0) then true else decide ((vKz v k).1≥(vKz v k).2.1) then true else decide ((vKz v k).2.1≥v.1))=true)→(((decide ((↑k:Int)>0))=true)→ (((!bif bif decide ((vKz v k).1<0) then true else decide ((vKz v k).1≥(vKz v k).2.1) then true else decide ((vKz v k).2.1≥v.1))&&decide ((↑k:Int)>0))=true))),(((bif bif decide ((vKz v k).1<0) then true else decide ((vKz v k).1≥(vKz v k).2.1) then true else decide ((vKz v k).2.1≥v.1))=false)→ ((!bif bif decide ((vKz v k).1<0) then true else decide ((vKz v k).1≥(vKz v k).2.1) then true else decide ((vKz v k).2.1≥v.1))=true)),((bif bif bif decide ((vKz v k).1<0) then true else decide ((vKz v k).1≥(vKz v k).2.1) then true else decide ((vKz v k).2.1≥v.1) then true else bif decide ((↑k:Int)>0) then decide (cmpB (v.2.1.2 ((↑k:Int) - 1).toNat) (v.2.1.2 k)>0) else false)=true),(false=false)] [0,1,2,3,4,3,5,6,5,6,5,5,7,8,9,8,9,8,8,10,11,11,12,13,12,14,15,12,12,16,17,12,13,12,12,18,12,11,19,20,21,22]):=by kernel_rfl
theorem p51d (v:T_Graph) (k:Nat) :
    zP Try.f24 0 [rg 1,.dec false,rg 1] zf43 (S51 v k) [] 1 [] (.p (.bool true)) =
    some [((decide ((↑k:Int)<(↑v.2.1.1:Int)))=false),(true=true)]:=by kernel_rfl
theorem con_l2After (a b:T_Bar):zE 84 [barA a,barA b] [] (.p (.bool (aft a b))):=by
  refine csZ Try.func84 (fun c hc=>?_)
  refine pkD Try.func84 hc (p57 a b) ?_
  and_intros
  all_goals (first | exact zH)
theorem con_compareInts (x y:Int):zE 99 [.p (.int .i64 x),.p (.int .i64 y)] [] (.p (.int .i64 (cmpI x y))):=by
  refine csZ Try.func99 (fun c hc=>?_)
  by_cases h1:x<y
  · rw [show cmpI x y = -1 by simp [cmpI,h1]]
    refine pkZ Try.func99 hc (p62a x y) ?_
    and_intros
    all_goals (first | exact zN | (simp;omega))
  · by_cases h2:x>y
    · rw [show cmpI x y=1 by simp only [cmpI,h1,h2,if_true,if_false]]
      refine pkZ Try.func99 hc (p62b x y) ?_
      and_intros
      all_goals (first | exact zN | (simp;omega))
    · rw [show cmpI x y=0 by simp only [cmpI,h1,h2,if_false]]
      refine pkZ Try.func99 hc (p62c x y) ?_
      and_intros
      all_goals (first | exact zN | (simp;omega))
theorem con_compareBars (a b:T_Bar):zE 73 [barA a,barA b] [] (.p (.int .i64 (cmpB a b))):=by
  refine csZ Try.func73 (fun c hc=>?_)
  by_cases h1:cmpI a.1 b.1=0
  · rw [show cmpB a b=cmpI a.2.1 b.2.1 by simp [cmpB,h1]]
    refine pkZ Try.func73 hc (p59b a b) ?_
    and_intros
    all_goals (first | exact zN | (exact con_compareInts _ _) | (simp [h1]))
  · rw [show cmpB a b=cmpI a.1 b.1 by simp [cmpB,h1]]
    refine pkZ Try.func73 hc (p59a a b) ?_
    and_intros
    all_goals (first | exact zN | (exact con_compareInts _ _) | (simp [h1]))
theorem cmpB_gt (a b:T_Bar):decide (cmpB a b>0)=!aft a b:=by
  simp only [cmpB,cmpI,aft]
  by_cases h1:a.1<b.1
  · simp [h1]
  · by_cases h2:a.1>b.1
    · have h3:¬ a.1=b.1:=by omega
      simp [h1,h2,h3]
    · have h3:a.1=b.1:=by omega
      simp only [h1,h2,h3,if_true,if_false]
      by_cases h4:a.2.1<b.2.1
      · have:a.2.1≤b.2.1:=by omega
        simp [h4,this]
      · by_cases h5:a.2.1>b.2.1
        · have:¬ a.2.1≤b.2.1:=by omega
          simp [h4,h5,this]
        · have:a.2.1≤b.2.1:=by omega
          simp [h4,h5,this]
theorem goodB_bad (N:Int) (g:Nat→T_Bar) (k:Nat) (h:badB N g k=true):∀ n,k<n→goodB N g n=false
  | 0,h'=>by omega
  | n+1,h'=>by
    by_cases e:k=n
    · subst e;simp [goodB,h]
    · simp [goodB,goodB_bad N g k h n (by omega)]
theorem idx_lt {b:Bool} {k n:Nat} (h:(b&&decide ((k:Int)>0))=true) (hk:k<n):0≤(k:Int) - 1∧(k:Int) - 1<n∧-9223372036854775808≤(k:Int) - 1∧(k:Int) - 1≤n:=by
  simp at h
  omega
theorem con_IsGraph_i (v:T_Graph) (hs:smS s_Graph v):zE 24 [graphA v] [] (.p (.bool (isGraphF v))):=by
  refine csZ Try.func24 (fun c hc=>?_)
  have hn:v.2.1.1≤1048576:=hs.2.1.1
  by_cases hz:inB v.1 1 8=true∧v.2.1.1≤24
  · rw [show isGraphF v=goodB v.1 v.2.1.2 v.2.1.1 by rw [isGraphF,if_pos hz]]
    have lp:∀ m k,k+m=v.2.1.1→goodB v.1 v.2.1.2 k=true→zR c 24 zf43 (S51 v k) (Post c [] (.p (.bool (goodB v.1 v.2.1.2 v.2.1.1)))):=by
      intro m
      induction m with
      | zero =>
        intro k hk hg
        rw [show goodB v.1 v.2.1.2 v.2.1.1=true by rw [show v.2.1.1=k by omega];exact hg]
        have hd:decide ((k:Int)<(v.2.1.1:Int))=false:=by simp;omega
        refine pkZ Try.func24 hc (p51d v k) ?_
        and_intros
        all_goals (first | exact zN)
      | succ m ih =>
        intro k hk hg
        have hd:decide ((k:Int)<(v.2.1.1:Int))=true:=by simp;omega
        have hkn:k<v.2.1.1:=by omega
        cases he:badB v.1 v.2.1.2 k with
        | true =>
          rw [goodB_bad _ _ k he v.2.1.1 (by omega)]
          have he2:=he
          rw [badB,← cmpB_gt] at he2
          refine pkD Try.func24 hc (p51c v k) ?_
          and_intros
          all_goals (first | exact zH | (intros;exact con_compareBars _ _) | (exact he2) | (intro h;have:=idx_lt h hkn;omega))
        | false =>
          have he2:=he
          rw [badB,← cmpB_gt] at he2
          refine pcD hc (p51b v k) ?_ (ih (k+1) (by omega) (by simp [goodB,hg,he]))
          and_intros
          all_goals (first | exact zH | (intros;exact con_compareBars _ _) | (exact he2) | (intro h;have:=idx_lt h hkn;omega) | (simp [All]))
    refine pcD hc (p51a v) ?_ (lp v.2.1.1 0 (by omega) rfl)
    and_intros
    all_goals (first | exact zH | (exact con_within _ _ _) | (simp [hz.1];omega) | (simp [All]))
  · rw [show isGraphF v=false by rw [isGraphF,if_neg hz]]
    have hb:(bif !inB v.1 1 8 then true else decide ((v.2.1.1:Int)>24))=true:=by
      cases hi:inB v.1 1 8 with
      | false=>rfl
      | true =>
        have:¬ v.2.1.1≤24:=fun h=>hz ⟨hi,h⟩
        simp;omega
    refine pkD Try.func24 hc (p51z v) ?_
    and_intros
    all_goals (first | exact zH | (exact con_within _ _ _))
end Go.Proofs.Ytgabljneilgilaa.Mach
namespace Go.Proofs
open Go Go.Shelf Go.RowKit Go.Lib Go.Sort
set_option linter.unusedVariables false
set_option linter.unusedSimpArgs false
shelf_lay_g SlLaysF0.n6 Slsf 6 at Try 98 as Try.sortBar
end Go.Proofs
namespace Go.Proofs.Ytgabljneilgilaa.Mach
open Go Go.Shelf Go.RowKit Go.Lib Go.Sort
set_option linter.unusedVariables false
set_option linter.unusedSimpArgs false
def encB (x:T_Bar):List Value:=[.int .i64 x.1,.int .i64 x.2.1]
theorem cmpI_1 {x y:Int} (h:x<y):cmpI x y = -1:=by simp [cmpI,h]
theorem cmpI_2 {x y:Int} (h:y<x):cmpI x y=1:=by
  have h3:¬ x<y:=by omega
  simp [cmpI,h3,h]
theorem cmpI_3 {x y:Int} (h:¬ x<y) (h':¬ y<x):cmpI x y=0:=by simp [cmpI,h,h']
theorem cmp_int (x y:Int) (W:World):Calls Try.prog 99 #[.int .i64 x,.int .i64 y] W fun e w'=>e=.returned (.int .i64 (cmpI x y))∧w'=W:=by
  go_enter Try.func99,Try.ntmps99
  by_cases h1:x<y
  · have hc:=cmpI_1 h1
    go_wp2
    go_ret
    exact ⟨by first | rfl | (rw [hc];rfl),rfl⟩
  · by_cases h2:y<x
    · have hc:=cmpI_2 h2
      go_wp2
      go_ret
      exact ⟨by first | rfl | (rw [hc];rfl),rfl⟩
    · have hc:=cmpI_3 h1 h2
      go_wp2
      go_ret
      exact ⟨by first | rfl | (rw [hc];rfl),rfl⟩
set_option maxRecDepth 10000 in
set_option maxHeartbeats 1000000 in
theorem cmp_bars4 (a b c d:Int) (W:World):Calls Try.prog 73 #[.agg #[.int .i64 a,.int .i64 b],.agg #[.int .i64 c,.int .i64 d]] W fun e w'=>e=.returned (.int .i64 (if cmpI a c=0 then cmpI b d else cmpI a c))∧∃ q os',w'=grow (W.drewN q) os':=by
  have c1:=fun W'=>cmp_int a c W'
  have c2:=fun W'=>cmp_int b d W'
  generalize cmpI a c=r1 at c1 ⊢
  generalize cmpI b d=r2 at c2 ⊢
  by_cases h:r1=0
  · have h9:(if r1=0 then r2 else r1)=r2:=if_pos h
    have c1':∀ W':World,Calls Try.prog 99 #[.int .i64 a,.int .i64 c] W' fun e w'=>e=.returned (.int .i64 0)∧w'=W':=by rw [← h];exact c1
    rw [h9]
    clear c1 h9 h
    go_enter Try.func73,Try.ntmps73
    go_wp2_with fail
    go_at_call 99
    refine (c1' _).mono ?_
    rintro e w' ⟨rfl,rfl⟩
    go_wp2_with fail
    go_at_call 99
    refine (c2 _).mono ?_
    rintro e w' ⟨rfl,rfl⟩
    go_wp2
    go_ret
    exact ⟨rfl,0,_,by rw [alloc_eq_grow,alloc_eq_grow,grow_grow];rfl⟩
  · have h9:(if r1=0 then r2 else r1)=r1:=if_neg h
    rw [h9]
    clear h9
    go_enter Try.func73,Try.ntmps73
    clear c2
    go_wp2_with fail
    go_at_call 99
    refine (c1 _).mono ?_
    rintro e w' ⟨rfl,rfl⟩
    go_wp2
    go_ret
    exact ⟨rfl,0,_,by rw [alloc_eq_grow,alloc_eq_grow,grow_grow];rfl⟩
theorem cmp_bars (x y:T_Bar) (W:World):Calls Try.prog 73 #[.agg #[.int .i64 x.1,.int .i64 x.2.1],.agg #[.int .i64 y.1,.int .i64 y.2.1]] W fun e w'=>e=.returned (.int .i64 (cmpB x y))∧∃ q os',w'=grow (W.drewN q) os' :=
  cmp_bars4 x.1 x.2.1 y.1 y.2.1 W
end Go.Proofs.Ytgabljneilgilaa.Mach
namespace Go.Proofs.Ytgabljneilgilaa.Mat
set_option linter.unusedVariables false
def inn (R:Nat→Bool) (x:Nat×Nat):Bool:=R x.1&&R x.2
def cnt (R:Nat→Bool):List (Nat×Nat)→Nat
  | []=>0
  | x::l=>(inn R x).toNat+cnt R l
def GoodBar (N:Nat) (x:Nat×Nat):Prop:=x.1≠x.2∧x.1<N∧x.2<N
abbrev PB:=Nat×(Nat×Nat)
def tc (v:Nat):List PB→Nat
  | []=>0
  | p::l=>(p.1==v).toNat+tc v l
structure Game (N k l:Nat) (free:Nat→Nat) (P:List PB):Prop where
  ends:∀ p∈P,p.1=p.2.1∨p.1=p.2.2
  good:∀ p∈P,GoodBar N p.2
  sum:∀ v,v<N→free v+tc v P=k
theorem Game.lt {N k l:Nat} {free:Nat→Nat} {P:List PB} (h:Game N k l free P):∀ p∈P,p.1<N:=by
  intro p hp
  have:=h.good p hp
  rcases h.ends p hp with e | e
  · rw [e];exact this.2.1
  · rw [e];exact this.2.2
end Go.Proofs.Ytgabljneilgilaa.Mat
namespace Go.Proofs.Ytgabljneilgilaa.Mach
open Go
set_option linter.unusedVariables false
set_option linter.unusedSimpArgs false
def brL (g:Nat→T_Bar) (nb:Nat):AV:=.p (.seq true 2 nb (fun i=>[.int .i64 (g i).1,.int .i64 (g i).2.1]))
def brA (x:T_Bar):AV:=.agg [.p (.int .i64 x.1),.p (.int .i64 x.2.1)]
def iOb (n:Nat) (F:Nat→Int):Ob:=⟨false,1,n,fun i=>[.p (.int .i64 (F i))]⟩
def othF (x:T_Bar) (v:Int):Int:=if x.1=v then x.2.1 else x.1
def tcI (T:Nat→Int):Nat→Int→Int
  | 0,_=>0
  | m+1,v=>tcI T m v+if T m=v then 1 else 0
structure PInv (N k nb m:Nat) (g:Nat→T_Bar) (F T Q:Nat→Int):Prop where
  bars:∀ e,e<nb→0≤(g e).1∧(g e).1<(g e).2.1∧(g e).2.1<N
  q:∀ j,j<m→0≤Q j∧Q j<nb
  t:∀ j,j<m→T j=(g (Q j).toNat).1∨T j=(g (Q j).toNat).2.1
  f0:∀ v,v<N→0≤F v
  sum:∀ v:Nat,v<N→F v+tcI T m v=k
theorem tcI_upd (T:Nat→Int) (j:Nat) (u x:Int):∀ m,j<m→tcI (fun s=>if s=j then u else T s) m x=tcI T m x+(if u=x then 1 else 0) - (if T j=x then 1 else 0):=by
  have out:∀ m,m≤j→tcI (fun s=>if s=j then u else T s) m x=tcI T m x:=by
    intro m
    induction m with
    | zero=>intro _;rfl
    | succ m ih =>
      intro h
      simp only [tcI,show ¬ m=j by omega,if_false]
      rw [ih (by omega)]
  intro m
  induction m with
  | zero=>omega
  | succ m ih =>
    intro h
    by_cases e:j=m
    · subst e
      simp only [tcI,if_true]
      rw [out j (Nat.le_refl _)]
      omega
    · simp only [tcI,show ¬ m=j by omega,if_false]
      rw [ih (by omega)]
      omega
theorem tcI_nonneg (T:Nat→Int) (x:Int):∀ m,0≤tcI T m x
  | 0=>Int.le_refl 0
  | m+1=>by have:=tcI_nonneg T x m;simp only [tcI];split<;>omega
structure BInv (N m:Nat) (g:Nat→T_Bar) (F T Q td V:Nat→Int) (a b:Int) (tn:Nat):Prop where
  n1:1≤tn
  td0:td 0=a
  rng:∀ s,s<tn→0≤td s∧td s<N
  inj:∀ s s',s<s'→s'<tn→td s≠td s'
  par:∀ s,1≤s→s<tn→∃ j:Nat,j<m∧V s=j∧∃ s',s'<s∧T j=td s'∧othF (g (Q j).toNat) (td s')=td s
theorem BInv.add {N m:Nat} {g:Nat→T_Bar} {F T Q td V:Nat→Int} {a b:Int} {tn:Nat} (h:BInv N m g F T Q td V a b tn) {i j:Nat} (hi:i<tn) (hj:j<m) (ht:T j=td i) {v:Int}
    (hv:othF (g (Q j).toNat) (td i)=v) (hr:0≤v∧v<N) (hno:∀ s,s<tn→td s≠v) :
    BInv N m g F T Q (fun s=>if s<tn then td s else v) (fun s=>if s<tn then V s else j) a b (tn+1):=by
  have hn1:=h.n1
  refine ⟨by omega,?_,fun s hs=>?_,fun s s' h1 h2=>?_,fun s h1 h2=>?_⟩
  · show (if 0<tn then td 0 else v)=a
    rw [if_pos (by omega)];exact h.td0
  · show 0≤(if s<tn then td s else v)∧(if s<tn then td s else v)<N
    split
    · exact h.rng s (by assumption)
    · exact hr
  · show (if s<tn then td s else v)≠(if s'<tn then td s' else v)
    rw [if_pos (show s<tn by omega)]
    split
    · exact h.inj s s' h1 (by assumption)
    · exact hno s (by omega)
  · by_cases hs:s<tn
    · obtain ⟨j',g1,g2,s',g3,g4,g5⟩:=h.par s h1 hs
      refine ⟨j',g1,by simp only [hs,if_true];exact g2,s',g3,?_,?_⟩
      · show T j'=(if s'<tn then td s' else v)
        rw [if_pos (by omega)];exact g4
      · show othF (g (Q j').toNat) (if s'<tn then td s' else v)=(if s<tn then td s else v)
        rw [if_pos (by omega),if_pos hs];exact g5
    · refine ⟨j,hj,by simp only [hs,if_false],i,by omega,?_,?_⟩
      · show T j=(if i<tn then td i else v)
        rw [if_pos hi];exact ht
      · show othF (g (Q j).toNat) (if i<tn then td i else v)=(if s<tn then td s else v)
        rw [if_pos hi,if_neg hs];exact hv
theorem othF_end {x:T_Bar} (v:Int):othF x v=x.1∨othF x v=x.2.1:=by
  unfold othF;split
  · exact .inr rfl
  · exact .inl rfl
structure TInv (m:Nat) (g:Nat→T_Bar) (T Q td V T':Nat→Int) (v:Int) (s:Nat):Prop where
  keep:∀ p,1≤p→p≤s→T' (V p).toNat=T (V p).toNat
  t:∀ j,j<m→T' j=(g (Q j).toNat).1∨T' j=(g (Q j).toNat).2.1
  cnt:∀ x,tcI T' m x=tcI T m x+(if v=x then 1 else 0) - (if td s=x then 1 else 0)
theorem TInv.step {N m:Nat} {g:Nat→T_Bar} {F T Q td V:Nat→Int} {a b:Int} {tn:Nat} (h:BInv N m g F T Q td V a b tn) {T':Nat→Int} {v:Int} {s:Nat} (hs:s<tn) (hs1:1≤s)
    (ht:TInv m g T Q td V T' v s):∃ j:Nat,j<m∧V s=j∧∃ s',s'<s∧T' j=td s'∧TInv m g T Q td V (fun x=>if x=j then td s else T' x) v s'∧T j=td s'∧othF (g (Q j).toNat) (td s')=td s:=by
  obtain ⟨j,g1,g2,s',g3,g4,g5⟩:=h.par s hs1 hs
  have hk:T' j=td s':=by
    have:=ht.keep s hs1 (Nat.le_refl _)
    rw [g2] at this
    simp only [Int.toNat_natCast] at this
    rw [this,g4]
  refine ⟨j,g1,g2,s',g3,hk,⟨fun p h1 h2=>?_,fun j' hj'=>?_,fun x=>?_⟩,g4,g5⟩
  · obtain ⟨jp,e1,e2,sp,e3,e4,e5⟩:=h.par p h1 (by omega)
    have hne:jp≠j:=by
      intro e
      subst e
      rw [g4] at e4
      rw [← e4,g5] at e5
      exact h.inj p s (by omega) hs e5.symm
    have:=ht.keep p h1 (by omega)
    rw [e2] at this ⊢
    simp only [Int.toNat_natCast] at this ⊢
    rw [if_neg hne];exact this
  · show (if j'=j then td s else T' j')=_∨(if j'=j then td s else T' j')=_
    by_cases e:j'=j
    · subst e
      rw [if_pos rfl,← g5]
      exact othF_end _
    · rw [if_neg e];exact ht.t j' hj'
  · rw [tcI_upd T' j (td s) x m g1,ht.cnt x,hk]
    omega
structure Moved (N k nb m:Nat) (g:Nat→T_Bar) (F T Q:Nat→Int) (a b:Int) (F' T':Nat→Int) (r:Bool):Prop where
  inv:PInv N k nb m g F' T' Q
  yes:r=true→F' a.toNat=F a.toNat+1∧F' b.toNat=F b.toNat
  no:r=false→F'=F∧T'=T∧∃ R:Nat→Bool,R a.toNat=true∧(∀ j,j<m→R (T j).toNat=true→R (othF (g (Q j).toNat) (T j)).toNat=true)∧∀ v:Nat,R v=true→(v:Int)≠a→(v:Int)≠b→F v=0
theorem PInv.le {N k nb m:Nat} {g:Nat→T_Bar} {F T Q:Nat→Int} (hp:PInv N k nb m g F T Q) {v:Nat} (hv:v<N):0≤F v∧F v≤k:=by
  have h1:=hp.f0 v hv
  have h2:=hp.sum v hv
  have h3:=tcI_nonneg T v m
  omega
def pebO (N m:Nat) (j:Nat):AV:=.agg [.ar 1 j 0 N,.ar 1 ⟨j+1,none⟩ 0 m,.ar 1 ⟨j+2,none⟩ 0 m]
def pebR (N m:Nat) (F T Q:Nat→Int):Hp:=[(0,iOb N F),(1,iOb m T),(2,iOb m Q)]
theorem PInv.start {N k nb:Nat} {g:Nat→T_Bar} (hb:∀ e,e<nb→0≤(g e).1∧(g e).1<(g e).2.1∧(g e).2.1<N):PInv N k nb 0 g (fun _=>(k:Int)) (fun _=>0) (fun _=>0) :=
  ⟨hb,fun j hj=>absurd hj (Nat.not_lt_zero _),fun j hj=>absurd hj (Nat.not_lt_zero _),fun v _=>by show (0:Int)≤k;omega,fun v _=>by show (k:Int)+0=k;omega⟩
def grG (g:Nat→T_Bar) (nb N:Nat):AV:=.agg [.p (.int .i64 N),brL g nb]
def bxG (g:Nat→T_Bar) (nb N:Nat):Ob:=⟨true,2,1,fun _=>[.p (.int .i64 N),brL g nb]⟩
def pebR3 (N m:Nat) (F T Q F' T' Q':Nat→Int):Hp:=[(0,iOb N F),(1,iOb m T),(2,iOb m Q),(3,iOb N F'),(4,iOb m T'),(5,iOb m Q')]
def brOb (n:Nat) (h:Nat→T_Bar):Ob:=⟨false,2,n,fun i=>[.p (.int .i64 (h i).1),.p (.int .i64 (h i).2.1)]⟩
def bxB (x:T_Bar):Ob:=⟨true,2,1,fun _=>[.p (.int .i64 x.1),.p (.int .i64 x.2.1)]⟩
def SL (g:Nat→T_Bar) (nb N:Nat) (x:T_Bar) (i n:Nat) (pl:Bool) (h:Nat→T_Bar):St :=
  ⟨[grG g nb N,brA x,.pt 2 0 0 0,.pt 2 1 0 0,.pt 2 2 0 0,.pt 2 3 0 0,.p (.bool pl),.p (.int .i64 i)]++List.replicate 48 anyA,
   [(0,bxG g nb N),(1,bxB x),(2,⟨true,2,1,fun _=>[.p (.int .i64 0),.p .nil]⟩),(3,⟨true,2,1,fun _=>[.p (.int .i64 N),.ar 2 4 0 n]⟩),(4,brOb n h)],5⟩
def snoc (n:Nat) (h:Nat→T_Bar) (x:T_Bar) (s:Nat):T_Bar:=(if s<n then (h s).1 else x.1,if s<n then (h s).2.1 else x.2.1,())
theorem rLz (g:Nat→T_Bar) (nb N:Nat) (x:T_Bar) :
    zT Try.f71 [rg 3,rg 6,rg 1,rg 1,.head] [grG g nb N,brA x] [0,32,64,224,160] (SL g nb N x 0 0 false (fun _=>(0,0,()))) =
    some (zf29,zD [(NT 0 1),((true=true)→ (AN 1)),(AI ((↑N:Int))),(AN nb),(AP nb (bRw g)),(AI x.1),(AI x.2.1),(AN 0),(false=false),((0:Int)=(↑0:Int)),((([AV.p (PV.int IntKind.i64 (↑N:Int)),brL g nb].length):Nat)=2),(NL 1 1),((([AV.p (PV.int IntKind.i64 x.1),AV.p (PV.int IntKind.i64 x.2.1)].length):Nat)=2),((((List.map (fun v=>AV.p (absV v)) [Value.int IntKind.i64 0,Value.slice none 0 0]).length):Nat)=2),(AI 0),(AN 2),(NL 0 0),(AA 0 (fun i=>[.p (.int .i64 0),.p (.int .i64 0)]))] [0,0,1,2,3,4,5,6,7,7,7,7,8,9,10,11,11,2,3,4,12,11,11,5,6,13,11,11,14,13,11,11,2,7,7,15,16,17]):=by kernel_rfl
theorem rLa (g:Nat→T_Bar) (nb N:Nat) (x:T_Bar) (i n:Nat) (pl:Bool) (h:Nat→T_Bar) :
    zM 0 [rg 5,.dec true,rm [(9,oc [] (.p (.bool (aft (g i) x))))] 2,.dec true,rg 7,rg 1,rg 11,rg 3,.head] zf29 (SL g nb N x i n pl h) [0,1,2,3,1061] 1 (SL g nb N x (i+1) (n+1+1) true (snoc (n+1) (snoc n h x) (g i))) =
    some (zf29,zD [(NT 0 1),((decide ((↑i:Int)<(↑nb:Int)))=true),(AG (!pl)),(((!pl)=true)→(NT 0 1)),(((!pl)=true)→(IL 0 (↑i:Int))),(((!pl)=true)→(IT (↑i:Int) (↑nb:Int))),(((!pl)=true)→ zE 84 [.agg [.p (.int .i64 ((g i).1)),.p (.int .i64 ((g i).2.1))],.agg [.p (.int .i64 x.1),.p (.int .i64 x.2.1)]] [] (.p (.bool (aft (g i) x)))),((bif !pl then !aft (g i) x else false)=true),(NL 1 1),(NL n n),(NL ((n+1)*16) 140737488355328),(NL (n+1) 9223372036854775807),((true=true)→ (AN 1)),(IL 0 (↑i:Int)),(IT (↑i:Int) (↑nb:Int)),(NL (n+1) (n+1)),(NL ((n+1+1)*16) 140737488355328),(NL (n+1+1) 9223372036854775807),(ZLo ((↑i:Int)+1)),(ZHi ((↑i:Int)+1)),(AI ((↑N:Int))),(AN nb),(AP nb (bRw g)),(AI x.1),(AI x.2.1),(AN 0),(true=true),((((↑i:Int)+1):Int)=(↑(i+1):Int)),(AN 2),(AI 0),(AN ((n+1+1))),(NL (n+1+1) (n+1+1)),(CV [(3,⟨true,2,1,(fun i_2=>[.p (.int .i64 (↑N:Int)),.ar 2 1061 0 (n+1+1)])⟩),(1061,⟨false,2,(n+1+1),(fun i_2=>(if (i_2<n+1) then (if (i_2<n) then [.p (.int .i64 ((h i_2).1)),.p (.int .i64 ((h i_2).2.1))] else [.p (.int .i64 x.1),.p (.int .i64 x.2.1)]) else [.p (.int .i64 ((g i).1)),.p (.int .i64 ((g i).2.1))]))⟩),(1029,⟨false,2,1,(fun i_2=>[.p (.int .i64 ((g i).1)),.p (.int .i64 ((g i).2.1))])⟩),(645,⟨false,2,1,(fun i_2=>[.p (.int .i64 x.1),.p (.int .i64 x.2.1)])⟩),(0,⟨true,2,1,(fun i_2=>[.p (.int .i64 (↑N:Int)),.p (.seq true 2 nb (bRw g))])⟩),(1,⟨true,2,1,(fun i_2=>[.p (.int .i64 x.1),.p (.int .i64 x.2.1)])⟩),(2,⟨true,2,1,(fun i_2=>[.p (.int .i64 0),.p (.nil)])⟩)] [0,1,2,3,1061] 1 (n+1+1) (fun i_1=>if (i_1<n+1) then (if (i_1<n) then [.p (.int .i64 ((h i_1).1)),.p (.int .i64 ((h i_1).2.1))] else [.p (.int .i64 x.1),.p (.int .i64 x.2.1)]) else [.p (.int .i64 ((g i).1)),.p (.int .i64 ((g i).2.1))]) (fun i_1=>[.p (.int .i64 (if i_1<n+1 then if i_1<n then (h i_1).1 else x.1 else (g i).1)),.p (.int .i64 (if i_1<n+1 then if i_1<n then (h i_1).2.1 else x.2.1 else (g i).2.1))]))] [0,1,2,3,2,2,4,5,2,3,2,2,6,2,2,7,0,0,8,9,10,11,0,12,0,0,13,14,8,15,16,17,0,12,18,19,20,21,22,23,24,25,25,25,25,26,27,28,8,8,20,21,22,28,8,8,23,24,28,8,8,29,28,8,8,20,25,30,28,31,32]):=by kernel_rfl
theorem rLb (g:Nat→T_Bar) (nb N:Nat) (x:T_Bar) (i n:Nat) (pl:Bool) (h:Nat→T_Bar) :
    zM 0 [rg 5,.dec true,rm [(9,oc [] (.p (.bool (aft (g i) x))))] 2,.dec false,rg 11,rg 3,.head] zf29 (SL g nb N x i n pl h) [0,1,2,3,805] 1 (SL g nb N x (i+1) (n+1) pl (snoc n h (g i))) =
    some (zf29,zD [(NT 0 1),((decide ((↑i:Int)<(↑nb:Int)))=true),(AG (!pl)),(((!pl)=true)→(NT 0 1)),(((!pl)=true)→(IL 0 (↑i:Int))),(((!pl)=true)→(IT (↑i:Int) (↑nb:Int))),(((!pl)=true)→ zE 84 [.agg [.p (.int .i64 ((g i).1)),.p (.int .i64 ((g i).2.1))],.agg [.p (.int .i64 x.1),.p (.int .i64 x.2.1)]] [] (.p (.bool (aft (g i) x)))),((bif !pl then !aft (g i) x else false)=false),(IL 0 (↑i:Int)),(IT (↑i:Int) (↑nb:Int)),(NL 1 1),(NL n n),(NL ((n+1)*16) 140737488355328),(NL (n+1) 9223372036854775807),((true=true)→ (AN 1)),(ZLo ((↑i:Int)+1)),(ZHi ((↑i:Int)+1)),(AI ((↑N:Int))),(AN nb),(AP nb (bRw g)),(AI x.1),(AI x.2.1),(AN 0),(pl=pl),((((↑i:Int)+1):Int)=(↑(i+1):Int)),(AN 2),(AI 0),(AN ((n+1))),(NL (n+1) (n+1)),(CV [(3,⟨true,2,1,(fun i_2=>[.p (.int .i64 (↑N:Int)),.ar 2 805 0 (n+1)])⟩),(805,⟨false,2,(n+1),(fun i_2=>(if (i_2<n) then [.p (.int .i64 ((h i_2).1)),.p (.int .i64 ((h i_2).2.1))] else [.p (.int .i64 ((g i).1)),.p (.int .i64 ((g i).2.1))]))⟩),(773,⟨false,2,1,(fun i_2=>[.p (.int .i64 ((g i).1)),.p (.int .i64 ((g i).2.1))])⟩),(0,⟨true,2,1,(fun i_2=>[.p (.int .i64 (↑N:Int)),.p (.seq true 2 nb (bRw g))])⟩),(1,⟨true,2,1,(fun i_2=>[.p (.int .i64 x.1),.p (.int .i64 x.2.1)])⟩),(2,⟨true,2,1,(fun i_2=>[.p (.int .i64 0),.p (.nil)])⟩)] [0,1,2,3,805] 1 (n+1) (fun i_1=>if (i_1<n) then [.p (.int .i64 ((h i_1).1)),.p (.int .i64 ((h i_1).2.1))] else [.p (.int .i64 ((g i).1)),.p (.int .i64 ((g i).2.1))]) (fun i_1=>[.p (.int .i64 (if i_1<n then (h i_1).1 else (g i).1)),.p (.int .i64 (if i_1<n then (h i_1).2.1 else (g i).2.1))]))] [0,1,2,3,2,2,4,5,2,3,2,2,6,2,2,7,0,0,8,9,10,11,12,13,0,14,15,16,17,18,19,20,21,22,22,22,22,23,24,25,10,10,17,18,19,25,10,10,20,21,25,10,10,26,25,10,10,17,22,27,25,28,29]):=by kernel_rfl
theorem rLc (g:Nat→T_Bar) (nb N:Nat) (x:T_Bar) (i n:Nat) (pl:Bool) (h:Nat→T_Bar) :
    zP Try.f71 0 [rg 5,.dec false,rg 2,.dec true,rg 7,rg 2] zf29 (SL g nb N x i n pl h) [357] 1 [(0,brOb (n+1) (snoc n h x))] (.agg [.p (.int .i64 N),.ar 2 0 0 (n+1)]) =
    some (zD [(NT 0 1),((decide ((↑i:Int)<(↑nb:Int)))=false),((!pl)=true),(NL 1 1),(NL n n),(NL ((n+1)*16) 140737488355328),(NL (n+1) 9223372036854775807),((true=true)→ (AN 1)),(AI ((↑N:Int))),(AN 0),(AN ((n+1))),(AN 2),(NL (n+1) (n+1)),(CV [(2,⟨true,2,1,(fun i_2=>[.p (.int .i64 (↑N:Int)),.ar 2 357 0 (n+1)])⟩),(3,⟨true,2,1,(fun i_2=>[.p (.int .i64 (↑N:Int)),.ar 2 357 0 (n+1)])⟩),(357,⟨false,2,(n+1),(fun i_2=>(if (i_2<n) then [.p (.int .i64 ((h i_2).1)),.p (.int .i64 ((h i_2).2.1))] else [.p (.int .i64 x.1),.p (.int .i64 x.2.1)]))⟩),(325,⟨false,2,1,(fun i_2=>[.p (.int .i64 x.1),.p (.int .i64 x.2.1)])⟩),(0,⟨true,2,1,(fun i_2=>[.p (.int .i64 (↑N:Int)),.p (.seq true 2 nb (bRw g))])⟩),(1,⟨true,2,1,(fun i_2=>[.p (.int .i64 x.1),.p (.int .i64 x.2.1)])⟩)] [357] 1 (n+1) (fun i_1=>if (i_1<n) then [.p (.int .i64 ((h i_1).1)),.p (.int .i64 ((h i_1).2.1))] else [.p (.int .i64 x.1),.p (.int .i64 x.2.1)]) (fun i_1=>[.p (.int .i64 (if i_1<n then (h i_1).1 else x.1)),.p (.int .i64 (if i_1<n then (h i_1).2.1 else x.2.1))])),(AE ((n+1)))] [0,1,2,0,0,3,4,5,6,0,7,0,0,7,0,8,9,10,11,12,13,14]):=by kernel_rfl
theorem rLd (g:Nat→T_Bar) (nb N:Nat) (x:T_Bar) (i n:Nat) (pl:Bool) (h:Nat→T_Bar) :
    zP Try.f71 0 [rg 5,.dec false,rg 2,.dec false,rg 2] zf29 (SL g nb N x i n pl h) [4] 1 [(0,brOb n h)] (.agg [.p (.int .i64 N),.ar 2 0 0 n]) =
    some [(NT 0 1),((decide ((↑i:Int)<(↑nb:Int)))=false),((!pl)=false),(NT 0 1),(NT 0 1),((true=true)→ (AN 1)),(NT 0 1),(AI ((↑N:Int))),(AN 0),(AN n),(AN 2),(NL n n),(AA n (fun i_1=>[.p (.int .i64 ((h i_1).1)),.p (.int .i64 ((h i_1).2.1))])),(AE n)]:=by kernel_rfl
theorem snoc_lt {n:Nat} {h:Nat→T_Bar} {x:T_Bar} {s:Nat} (hs:s<n):snoc n h x s=h s:=by
  simp only [snoc,hs,if_true]
theorem snoc_ge {n:Nat} {h:Nat→T_Bar} {x:T_Bar} {s:Nat} (hs:¬ s<n):snoc n h x s=x:=by
  simp only [snoc,hs,if_false]
def insD (g:Nat→T_Bar) (x:T_Bar):Nat→Bool×Nat×(Nat→T_Bar)
  | 0=>(false,0,fun _=>(0,0,()))
  | i+1 =>
    if (bif !(insD g x i).1 then !aft (g i) x else false)=true then (true,(insD g x i).2.1+1+1,snoc ((insD g x i).2.1+1) (snoc (insD g x i).2.1 (insD g x i).2.2 x) (g i))
    else ((insD g x i).1,(insD g x i).2.1+1,snoc (insD g x i).2.1 (insD g x i).2.2 (g i))
def insR (g:Nat→T_Bar) (nb:Nat) (x:T_Bar):Nat×(Nat→T_Bar) :=
  if (insD g x nb).1=true then ((insD g x nb).2.1,(insD g x nb).2.2) else ((insD g x nb).2.1+1,snoc (insD g x nb).2.1 (insD g x nb).2.2 x)
theorem insD_n (g:Nat→T_Bar) (x:T_Bar):∀ i,(insD g x i).2.1=i+(if (insD g x i).1=true then 1 else 0)
  | 0=>rfl
  | i+1=>by
    have ih:=insD_n g x i
    simp only [insD]
    split
    · rename_i h
      have hf:(insD g x i).1=false:=by
        cases e:(insD g x i).1 with
        | false=>rfl
        | true=>rw [e] at h;simp at h
      rw [hf] at ih
      simp only [if_true]
      simp at ih
      omega
    · simp only
      omega
theorem insR_n (g:Nat→T_Bar) (nb:Nat) (x:T_Bar):(insR g nb x).1=nb+1:=by
  have h:=insD_n g x nb
  unfold insR
  split
  · rename_i hp;rw [if_pos hp] at h;exact h
  · rename_i hp;rw [if_neg hp] at h;show (insD g x nb).2.1+1=nb+1;omega
theorem con_l2Put (g:Nat→T_Bar) (nb N:Nat) (x:T_Bar) (hnb:nb≤1048576):zE 71 [grG g nb N,brA x] [(0,brOb (insR g nb x).1 (insR g nb x).2)] (.agg [.p (.int .i64 N),.ar 2 0 0 (insR g nb x).1]):=by
  refine csZ Try.func71 (fun c hc=>?_)
  have lp:∀ d i,i+d=nb→zR c 71 zf29 (SL g nb N x i (insD g x i).2.1 (insD g x i).1 (insD g x i).2.2) (Post c [(0,brOb (insR g nb x).1 (insR g nb x).2)] (.agg [.p (.int .i64 N),.ar 2 0 0 (insR g nb x).1])):=by
    intro d
    induction d with
    | zero =>
      intro i hi
      obtain rfl:i=nb:=by omega
      have hd:decide ((i:Int)<(i:Int))=false:=by simp
      have hn:=insD_n g x i
      have hle:(insD g x i).2.1≤i+1:=by split at hn<;>omega
      cases hp:(insD g x i).1 with
      | true =>
        rw [show insR g i x=((insD g x i).2.1,(insD g x i).2.2) by simp [insR,hp]]
        refine pkZ Try.func71 hc (rLd g i N x i (insD g x i).2.1 true (insD g x i).2.2) ?_
        and_intros
        all_goals (first | exact zI | (intro i hi;simp [All]))
      | false =>
        rw [show insR g i x=((insD g x i).2.1+1,snoc (insD g x i).2.1 (insD g x i).2.2 x) by simp [insR,hp]]
        refine pkD Try.func71 hc (rLc g i N x i (insD g x i).2.1 false (insD g x i).2.2) ?_
        and_intros
        all_goals (first | exact zI | (intro j hj;simp [All];done) | (intro j hj;by_cases h:j<(insD g x i).2.1<;>simp [h,snoc,cvtL,cvt,tg,tru,All]))
    | succ d ih =>
      intro i hi
      have hd:decide ((i:Int)<(nb:Int))=true:=by simp;omega
      have hn:=insD_n g x i
      have hle:(insD g x i).2.1≤i+1:=by split at hn<;>omega
      have hca:=con_l2After (g i) x
      have hs:insD g x (i+1)=if (bif !(insD g x i).1 then !aft (g i) x else false)=true then (true,(insD g x i).2.1+1+1,snoc ((insD g x i).2.1+1) (snoc (insD g x i).2.1 (insD g x i).2.2 x) (g i)) else ((insD g x i).1,(insD g x i).2.1+1,snoc (insD g x i).2.1 (insD g x i).2.2 (g i)):=rfl
      have hih:=ih (i+1) (by omega)
      cases ht:(bif !(insD g x i).1 then !aft (g i) x else false) with
      | true =>
        rw [hs,if_pos ht] at hih
        refine pcD hc (rLa g nb N x i (insD g x i).2.1 (insD g x i).1 (insD g x i).2.2) ?_ hih
        and_intros
        all_goals (first | exact zI | (intros;exact hca) | (exact ht) | (intro j hj;simp [All];done) | (intro j hj;by_cases h:j<(insD g x i).2.1+1<;>by_cases h':j<(insD g x i).2.1<;>simp [h,h',snoc,cvtL,cvt,tg,tru,All]) | (simp;omega))
      | false =>
        rw [hs,if_neg (by rw [ht];simp)] at hih
        refine pcD hc (rLb g nb N x i (insD g x i).2.1 (insD g x i).1 (insD g x i).2.2) ?_ hih
        and_intros
        all_goals (first | exact zI | (intros;exact hca) | (exact ht) | (intro j hj;simp [All];done) | (intro j hj;by_cases h:j<(insD g x i).2.1<;>simp [h,snoc,cvtL,cvt,tg,tru,All]))
  refine pcD hc (rLz g nb N x) ?_ (lp nb 0 (by omega))
  and_intros
  all_goals (first | exact zI | (intro i hi;simp [All]))
end Go.Proofs.Ytgabljneilgilaa.Mach
