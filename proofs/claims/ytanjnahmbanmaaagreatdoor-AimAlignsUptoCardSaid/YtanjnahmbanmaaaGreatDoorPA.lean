import Derived.Test.YtanjnahmbanmaaaGreatDoorThE
import Derived.Deep.Slices
import Derived.Test.YtanjnahmbanmaaaGreatDoorProg
import Derived.KernelRfl
import Derived.Lib.ItoaNum
import Derived.Test.YtanjnahmbanmaaaGreatDoorRows
import Derived.Lib.LaidTab
import Derived.ReadAgain
import Derived.ChangeOld
import Derived.RowKit3
import Derived.ChangeSame
import Derived.WideShapes
/- Parts of a proof. -/
set_option linter.unusedSimpArgs false
set_option linter.unusedVariables false
set_option linter.unusedSectionVars false
namespace Go.Abs
open Go.Deep
section
variable {H:Type}
def toPV (P:Program):Nat→TypeId→DataW H→PV
 | 0,_,_=>.undef
 | n+1,t,d=>match P.underlying t,d with
  | some .bool,.lit (.bool b)=>.bool b
  | some (.int k),.lit (.int _ z)=>if (Lit.int k z).wf=true then .int k z else .undef
  | some .string,.lit (.string s)=>.str (s.map (·.toNat))
  | some (.slice e),.slice ds _=>.seq (ds.map (toPV P n e))
  | some (.slice _),.nil=>.seq []
  | some (.struct fs),.agg ds=>.st (P.underlyingId t) ((fs.toList.zip ds).map fun p=>toPV P n p.1.type p.2)
  | some (.array _ e),.agg ds=>.st (P.underlyingId t) (ds.map (toPV P n e))
  | _,_=>.undef
def apc (P:Program):Nat→List Field→Bool
 | _,[]=>true
 | o,f::fs=>(f.offset == o) && apc P (o+P.cellsOf f.type) fs
def okT (P:Program):Nat→TypeId→Bool
 | 0,_=>false
 | n+1,t=>match P.underlying t with
  | some .bool | some (.int _) | some .string=>true
  | some (.slice e)=>okT P n e && decide (0<P.cellsOf e)
  | some (.struct fs)=>(szs P (P.underlyingId t) == some (fs.toList.map fun f=>P.cellsOf f.type)) && apc P 0 fs.toList && (((fs.toList.map fun f=>P.cellsOf f.type).sum) == P.cellsOf t) && fs.toList.all fun f=>okT P n f.type
  | some (.array m e)=>(szs P (P.underlyingId t) == some (List.replicate m (P.cellsOf e))) && (m*P.cellsOf e == P.cellsOf t) && okT P n e
  | _=>false
variable {enc:TypeId×Value→H} {P:Program} {w:World} {base:Nat} {held:Bool}
theorem aw4 {n k : Nat} {Imm : Nat → Prop} (ih : ∀ t cs d ps, okT P n t = true → DataW.trod enc P w base (fun _ => true) held k t cs = some (d, ps) → PVC P w Imm (toPV P n t d) cs) :
    ∀ (fs:List Field) (xs:List (DataW H×List MemPlace)) (o:Nat) (cs:List Value),apc P o fs=true→xs.length=fs.length→(∀ f∈fs,okT P n f.type=true)→o+(fs.map fun f=>P.cellsOf f.type).sum≤cs.length →
     (∀ (i:Nat) (f:Field),fs[i]?=some f→DataW.trod enc P w base (fun _=>true) held k f.type ((cs.drop f.offset).take (P.cellsOf f.type))=xs[i]?) →
     PVCl P w Imm (fs.map fun f=>P.cellsOf f.type) ((fs.zip (xs.map (·.1))).map fun p=>toPV P n p.1.type p.2) (fs.map fun f=>(cs.drop f.offset).take (P.cellsOf f.type)) ∧
      (fs.map fun f=>(cs.drop f.offset).take (P.cellsOf f.type)).flatten=(cs.drop o).take (fs.map fun f=>P.cellsOf f.type).sum
 | [],xs,o,cs,_,hl,_,_,_=>by
  have:xs=[]:=by simpa using hl
  subst this;simp [PVCl]
 | f::fs,[],o,cs,_,hl,_,_,_=>by simp at hl
 | f::fs,x::xs,o,cs,ho,hl,hok,hlen,hx=>by
  simp only [apc,Bool.and_eq_true,beq_iff_eq] at ho;obtain ⟨ho,ho2⟩:=ho;simp only [List.map_cons,List.sum_cons] at hlen;have hx0:=hx 0 f rfl;simp only [List.getElem?_cons_zero] at hx0;have h1:=ih _ _ x.1 x.2 (hok f List.mem_cons_self) hx0;have ⟨h2,h3⟩:=aw4 ih fs xs (o+P.cellsOf f.type) cs ho2 (by simpa using hl) (fun g hg=>hok g (List.mem_cons_of_mem _ hg)) (by omega) (fun i g hg=>by have:=hx (i+1) g (by simpa using hg); simpa using this);refine ⟨?_,?_⟩
  · simp only [List.map_cons,List.zip_cons_cons,PVCl];exact ⟨_,_,rfl,h1,by simp [ho]; omega,h2⟩
  · simp only [List.map_cons,List.flatten_cons,List.sum_cons,h3,ho];rw [← List.drop_drop,List.take_add]
theorem af8 {esz len:Nat} {Imm:Nat→Prop} {f:Nat→PV} {g:Nat→List Value}:∀ {l:List Nat},(∀ i∈l,PVC P w Imm (f i) (g i)∧(g i).length=esz)→PVCl P w Imm (List.replicate l.length esz) (l.map f) (l.map g)
 | [],_=>by simp [PVCl]
 | a::l,h=>by
  simp only [List.length_cons,List.replicate_succ,List.map_cons,PVCl];exact ⟨_,_,rfl,(h a List.mem_cons_self).1,(h a List.mem_cons_self).2,af8 (len:=len) fun i hi=>h i (List.mem_cons_of_mem _ hi)⟩
theorem trod_array {m : Nat} {e t : TypeId} {fuel : Nat} {cs : List Value} {x : DataW H × List MemPlace} {spare : Nat → Bool} (ht : P.underlying t = some (.array m e)) (h : DataW.trod enc P w base spare held fuel t cs = some x) :
    ∃ (xs:List (DataW H×List MemPlace)) (n:Nat),fuel=n+1∧x=(.agg (xs.map (·.1)),xs.flatMap (·.2))∧cs.length=P.cellsOf t∧xs.length=m ∧
     ∀ i,i<m→DataW.trod enc P w base spare held n e ((cs.drop (i*P.cellsOf e)).take (P.cellsOf e))=xs[i]?:=by
 cases fuel with
 | zero=>simp [DataW.trod] at h
 | succ n =>
  unfold DataW.trod at h;rw [ht] at h
  split at h <;> simp_all
  obtain ⟨hl,xs,hp,hd⟩:=h;exact ⟨xs,hd.symm,by simpa using mapM_some_length hp,fun i hi=>mapM_some_get hp i i (by simp [hi])⟩
theorem ahN {α:Type} {cs:List α} {esz:Nat}:∀ m,((List.range m).map fun i=>(cs.drop (i*esz)).take esz).flatten=cs.take (m*esz)
 | 0=>by simp
 | m+1=>by
  rw [List.range_succ,List.map_append,List.flatten_append,ahN m,Nat.succ_mul,List.take_add];simp
theorem akx {V:Nat→List Value} {esz:Nat}:∀ (len:Nat),(∀ i,i<len→(V i).length=esz)→((List.range len).map V).flatten.length=len*esz
 | 0,_=>by simp
 | len+1,h=>by
  rw [List.range_succ,List.map_append,List.flatten_append,List.length_append,akx len fun i hi=>h i (by omega),Nat.succ_mul];simp [h len (by omega)]
theorem ajH {V:Nat→List Value} {esz b o:Nat}:∀ (len:Nat),(∀ i,i<len→(V i).length=esz)→(∀ i,i<len→∀ j,j<esz→w.cell? ⟨b,o+(i*esz+j),none⟩=(V i)[j]?)→aa5 w b o ((List.range len).map V).flatten
 | 0,_,_=>by intro i hi; simp at hi
 | len+1,h,hc=>by
  intro i hi;have hl:=akx (V:=V) (esz:=esz) len fun i hi=>h i (by omega);have ih:=ajH (V:=V) (esz:=esz) (b:=b) (o:=o) len (fun i hi=>h i (by omega)) (fun i hi=>hc i (by omega));have e:((List.range (len+1)).map V).flatten=((List.range len).map V).flatten ++ V len:=by
   rw [List.range_succ,List.map_append,List.flatten_append]; simp
  have hi2:i<len*esz+esz:=by
   have:=akx (V:=V) (esz:=esz) (len+1) h;rw [Nat.succ_mul] at this; omega
  rw [← List.getElem?_eq_getElem hi,e]
  by_cases h1:i<len*esz
  · rw [List.getElem?_append_left (by omega),List.getElem?_eq_getElem (by omega)];exact ih i (by omega)
  · rw [List.getElem?_append_right (by omega),hl];have:=hc len (by omega) (i - len*esz) (by omega);rw [← this];congr 3; omega
theorem aho : ∀ (n : Nat) (fuel : Nat) (t : TypeId) (cs : List Value) (d : DataW H) (ps : List MemPlace), okT P n t = true → DataW.trod enc P w base (fun _ => true) held fuel t cs = some (d, ps) →
    PVC P w (fun k=>k<w.heap.size) (toPV P n t d) cs
 | 0,_,_,_,_,_,h,_=>by simp [okT] at h
 | n+1,fuel,t,cs,d,ps,h,hd=>by
  simp only [okT] at h
  split at h
  · rename_i ht;obtain ⟨b,rfl,hx⟩:=DataW.trod_bool ht hd;cases hx;simp [toPV,ht,PVC]
  · rename_i k ht;obtain ⟨z,rfl,hx,hz⟩:=DataW.trod_int ht hd;cases hx;simp [toPV,ht,hz,PVC]
  · rename_i ht;obtain ⟨s,rfl,hx,_⟩:=DataW.trod_string ht hd;cases hx;simp [toPV,ht,PVC]
  · rename_i e ht;simp only [Bool.and_eq_true,decide_eq_true_eq] at h;obtain ⟨he,hpos⟩:=h;rcases open_slice ht hd with ⟨rfl,hx⟩ | ⟨a,len,cap,m,k,D,Pl,rfl,hb,hl,hm,hmm,hx,hel⟩
    · cases hx;simp [toPV,ht,PVC]
    cases hx;simp only [if_true] at hmm;subst hmm;obtain ⟨V,hV⟩:=choose_lt hel;have hsp:a.spot=none∨m=0:=by
     by_cases hz:m=0
     · exact .inr hz
     left;obtain ⟨c1,_⟩:=hV 0 (by omega);obtain ⟨_,c2,c3⟩:=World.cells?_some c1;have c4:=c3 0 hpos;rw [List.getElem?_eq_getElem (by omega)] at c4;simp only [Addr.add,Nat.zero_mul,if_true] at c4;unfold World.cell? at c4
     split at c4
     · split at c4
       · cases c4
       · rename_i hs; simpa using hs
     · cases c4
    have hcell:∀ i,i<m→∀ j,j<P.cellsOf e→w.cell? ⟨a.block,a.off+(i*P.cellsOf e+j),none⟩=(V i)[j]?:=by
     intro i hi j hj;have hs:a.spot=none:=hsp.resolve_right (by omega);obtain ⟨_,_,c3⟩:=World.cells?_some (hV i hi).1;have:=c3 j hj;rw [add_add] at this;rw [← this];obtain ⟨ab,ao,asp⟩:=a;simp only at hs;subst hs;unfold Addr.add; split <;> simp_all
    have hlenV:∀ i,i<m→(V i).length=P.cellsOf e:=fun i hi=>(World.cells?_some (hV i hi).1).2.1;simp only [toPV,ht,PVC];right;obtain ⟨ab,ao,asp⟩:=a;refine ⟨ab,ao,m,P.cellsOf e,(List.range len).map V,?_,?_,?_,by simpa using hl,asp,hsp,by simp⟩
    · have:=af8 (P:=P) (w:=w) (len:=len) (esz:=P.cellsOf e) (Imm:=fun k=>k<w.heap.size) (f:=fun i=>toPV P n e (D i)) (g:=V) (l:=List.range len) (fun i hi=>by
       have hi:i<m:=by have:=List.mem_range.1 hi; omega
       exact ⟨aho n k e (V i) (D i) (Pl i) he (hV i hi).2,hlenV i hi⟩)
      simpa [Function.comp_def] using this
    · intro hne;have h0:0<len:=by
       rcases Nat.eq_zero_or_pos len with h | h
       · subst h; simp at hne
       · exact h
      have c:=hcell 0 (by omega) 0 hpos;rw [List.getElem?_eq_getElem (by rw [hlenV 0 (by omega)]; exact hpos)] at c;unfold World.cell? at c
      split at c
      · rename_i hh; exact (Array.getElem?_eq_some_iff.1 hh).1
      · cases c
    · exact ajH len (fun i hi=>hlenV i (by omega)) (fun i hi=>hcell i (by omega))
  · rename_i fs ht;simp only [Bool.and_eq_true,beq_iff_eq,List.all_eq_true] at h;obtain ⟨⟨⟨h1,h2⟩,h3⟩,h4⟩:=h;obtain ⟨xs,k,rfl,hx,hlen,hxl,hf⟩:=DataW.trod_struct ht hd;cases hx;have ⟨g1,g2⟩:=aw4 (Imm:=fun k=>k<w.heap.size) (fun t cs d ps hok hh=>aho n k t cs d ps hok hh) fs.toList xs 0 cs h2 (by simpa using hxl) h4 (by omega) (fun i f hi=>hf i f (by simpa using hi));simp only [toPV,ht,PVC];refine ⟨_,_,h1,g1,?_⟩;rw [g2,List.drop_zero,List.take_of_length_le (by omega)]
  · rename_i m e ht;simp only [Bool.and_eq_true,beq_iff_eq] at h;obtain ⟨⟨h1,h2⟩,h3⟩:=h;obtain ⟨xs,k,rfl,hx,hlen,hxl,hf⟩:=trod_array ht hd;cases hx;have hp:=af8 (P:=P) (w:=w) (len:=m) (esz:=P.cellsOf e) (Imm:=fun k=>k<w.heap.size) (f:=fun i=>match xs[i]? with
     | some x=>toPV P n e x.1
     | none=>.undef) (g:=fun i=>(cs.drop (i*P.cellsOf e)).take (P.cellsOf e)) (l:=List.range m) (fun i hi=>by
      have hi:i<m:=List.mem_range.1 hi;have hfi:=hf i hi;rw [List.getElem?_eq_getElem (by omega)] at hfi ⊢;refine ⟨aho n k e _ xs[i].1 xs[i].2 h3 hfi,?_⟩;have:(i+1)*P.cellsOf e≤m*P.cellsOf e:=Nat.mul_le_mul_right _ hi;rw [Nat.succ_mul] at this;simp; omega)
    have he:((List.range m).map fun i=>match xs[i]? with
     | some x=>toPV P n e x.1
     | none=>.undef)=(xs.map (·.1)).map (toPV P n e):=by
     apply List.ext_getElem
     · simp [hxl]
     · intro i hi1 hi2;simp at hi1;simp [List.getElem?_eq_getElem (show i<xs.length by omega)]
    rw [he,List.length_range] at hp;simp only [toPV,ht,PVC];refine ⟨_,_,h1,hp,?_⟩;rw [ahN,List.take_of_length_le (by omega)]
  · cases h
end
open Go.Proofs
def tab10:Array Value:=(Lib.pow10Tab.map fun z=>Value.int .u64 z).toArray
def rawOff:Nat→Option (Array Value)
 | 3=>some tab10
 | _=>none
instance glOff:Gl:=⟨fun _=>.undef,5,rawOff,fun u=>bif Nat.beq u 359 then some 360 else none⟩
@[simp] theorem ki3:kindOf Tryz.prog 3=.leaf:=by kernel_rfl
@[simp] theorem un3:Tryz.prog.underlying 3=some (.int .i64):=by kernel_rfl
@[simp] theorem tz3:aaT Tryz.prog 3=some (.int .i64 (0)):=by kernel_rfl
@[simp] theorem ki4:kindOf Tryz.prog 4=.leaf:=by kernel_rfl
@[simp] theorem ib4:afe Tryz.prog 4=true:=by kernel_rfl
@[simp] theorem tz5:aaT Tryz.prog 5=some (.int .u8 (0)):=by kernel_rfl
@[simp] theorem ki9:kindOf Tryz.prog 9=.leaf:=by kernel_rfl
@[simp] theorem at9:afU Tryz.prog 9=true:=by kernel_rfl
@[simp] theorem tz9:aaT Tryz.prog 9=some (.str []):=by kernel_rfl
@[simp] theorem ki22:kindOf Tryz.prog 22=.leaf:=by kernel_rfl
@[simp] theorem un22:Tryz.prog.underlying 22=some .string:=by kernel_rfl
@[simp] theorem tz22:aaT Tryz.prog 22=some (.str []):=by kernel_rfl
@[simp] theorem ki24:kindOf Tryz.prog 24=.agg 23:=by kernel_rfl
@[simp] theorem st24:abt Tryz.prog 24=some (23,2):=by kernel_rfl
@[simp] theorem tz24:aaT Tryz.prog 24=some (.st 23 [.str [],.str []]):=by kernel_rfl
@[simp] theorem ki25:kindOf Tryz.prog 25=.agg 25:=by kernel_rfl
@[simp] theorem un25:Tryz.prog.underlying 25=some (.array 3 24):=by kernel_rfl
@[simp] theorem ar25:arrT Tryz.prog 25=some (25,3):=by kernel_rfl
@[simp] theorem ki28:kindOf Tryz.prog 28=.leaf:=by kernel_rfl
@[simp] theorem tz28:aaT Tryz.prog 28=some (.int .i64 (0)):=by kernel_rfl
@[simp] theorem ki32:kindOf Tryz.prog 32=.agg 31:=by kernel_rfl
@[simp] theorem st32:abt Tryz.prog 32=some (31,3):=by kernel_rfl
@[simp] theorem tz32:aaT Tryz.prog 32=some (.st 31 [.str [],.str [],.str []]):=by kernel_rfl
@[simp] theorem ki63:kindOf Tryz.prog 63=.agg 62:=by kernel_rfl
@[simp] theorem st63:abt Tryz.prog 63=some (62,2):=by kernel_rfl
@[simp] theorem tz63:aaT Tryz.prog 63=some (.st 62 [.st 31 [.str [],.str [],.str []],.st 31 [.str [],.str [],.str []]]):=by kernel_rfl
@[simp] theorem ki68:kindOf Tryz.prog 68=.agg 62:=by kernel_rfl
@[simp] theorem st68:abt Tryz.prog 68=some (62,2):=by kernel_rfl
@[simp] theorem tz68:aaT Tryz.prog 68=some (.st 62 [.st 31 [.str [],.str [],.str []],.st 31 [.str [],.str [],.str []]]):=by kernel_rfl
@[simp] theorem ki83:kindOf Tryz.prog 83=.leaf:=by kernel_rfl
@[simp] theorem at83:afU Tryz.prog 83=true:=by kernel_rfl
@[simp] theorem el83:aax Tryz.prog 83=some 1:=by kernel_rfl
@[simp] theorem et83:aay Tryz.prog 83=3:=by kernel_rfl
@[simp] theorem at119:afU Tryz.prog 119=true:=by kernel_rfl
@[simp] theorem el119:aax Tryz.prog 119=some 1:=by kernel_rfl
@[simp] theorem et119:aay Tryz.prog 119=9:=by kernel_rfl
@[simp] theorem ki127:kindOf Tryz.prog 127=.leaf:=by kernel_rfl
@[simp] theorem el127:aax Tryz.prog 127=some 1:=by kernel_rfl
@[simp] theorem et127:aay Tryz.prog 127=309:=by kernel_rfl
@[simp] theorem ki129:kindOf Tryz.prog 129=.agg 128:=by kernel_rfl
@[simp] theorem st129:abt Tryz.prog 129=some (128,2):=by kernel_rfl
@[simp] theorem tz129:aaT Tryz.prog 129=some (.st 128 [.int .i64 (0),.nsl]):=by kernel_rfl
@[simp] theorem ki131:kindOf Tryz.prog 131=.agg 130:=by kernel_rfl
@[simp] theorem st131:abt Tryz.prog 131=some (130,2):=by kernel_rfl
@[simp] theorem tz131:aaT Tryz.prog 131=some (.st 130 [.st 128 [.int .i64 (0),.nsl],.st 128 [.int .i64 (0),.nsl]]):=by kernel_rfl
@[simp] theorem ki133:kindOf Tryz.prog 133=.agg 132:=by kernel_rfl
@[simp] theorem st133:abt Tryz.prog 133=some (132,2):=by kernel_rfl
@[simp] theorem tz133:aaT Tryz.prog 133=some (.st 132 [.st 130 [.st 128 [.int .i64 (0),.nsl],.st 128 [.int .i64 (0),.nsl]],.st 130 [.st 128 [.int .i64 (0),.nsl],.st 128 [.int .i64 (0),.nsl]]]):=by kernel_rfl
@[simp] theorem ki150:kindOf Tryz.prog 150=.agg 149:=by kernel_rfl
@[simp] theorem st150:abt Tryz.prog 150=some (149,3):=by kernel_rfl
@[simp] theorem tz150:aaT Tryz.prog 150=some (.st 149 [.st 130 [.st 128 [.int .i64 (0),.nsl],.st 128 [.int .i64 (0),.nsl]],.st 130 [.st 128 [.int .i64 (0),.nsl],.st 128 [.int .i64 (0),.nsl]],.st 130 [.st 128 [.int .i64 (0),.nsl],.st 128 [.int .i64 (0),.nsl]]]):=by kernel_rfl
@[simp] theorem ki155:kindOf Tryz.prog 155=.leaf:=by kernel_rfl
@[simp] theorem el155:aax Tryz.prog 155=some 1:=by kernel_rfl
@[simp] theorem et155:aay Tryz.prog 155=22:=by kernel_rfl
@[simp] theorem ki172:kindOf Tryz.prog 172=.agg 171:=by kernel_rfl
@[simp] theorem st172:abt Tryz.prog 172=some (171,3):=by kernel_rfl
@[simp] theorem tz172:aaT Tryz.prog 172=some (.st 171 [.st 132 [.st 130 [.st 128 [.int .i64 (0),.nsl],.st 128 [.int .i64 (0),.nsl]],.st 130 [.st 128 [.int .i64 (0),.nsl],.st 128 [.int .i64 (0),.nsl]]],.st 132 [.st 130 [.st 128 [.int .i64 (0),.nsl],.st 128 [.int .i64 (0),.nsl]],.st 130 [.st 128 [.int .i64 (0),.nsl],.st 128 [.int .i64 (0),.nsl]]],.st 130 [.st 128 [.int .i64 (0),.nsl],.st 128 [.int .i64 (0),.nsl]]]):=by kernel_rfl
@[simp] theorem ki223:kindOf Tryz.prog 223=.agg 222:=by kernel_rfl
@[simp] theorem st223:abt Tryz.prog 223=some (222,2):=by kernel_rfl
@[simp] theorem tz223:aaT Tryz.prog 223=some (.st 222 [.bool false,.nsl]):=by kernel_rfl
@[simp] theorem el238:aax Tryz.prog 238=some 1:=by kernel_rfl
@[simp] theorem et238:aay Tryz.prog 238=28:=by kernel_rfl
@[simp] theorem el304:aax Tryz.prog 304=some 2:=by kernel_rfl
@[simp] theorem et304:aay Tryz.prog 304=24:=by kernel_rfl
@[simp] theorem ki309:kindOf Tryz.prog 309=.leaf:=by kernel_rfl
@[simp] theorem tz309:aaT Tryz.prog 309=some (.int .u64 (0)):=by kernel_rfl
@[simp] theorem ki358:kindOf Tryz.prog 358=.leaf:=by kernel_rfl
@[simp] theorem el358:aax Tryz.prog 358=some 1:=by kernel_rfl
@[simp] theorem et358:aay Tryz.prog 358=5:=by kernel_rfl
@[simp] theorem ki360:kindOf Tryz.prog 360=.agg 359:=by kernel_rfl
@[simp] theorem st360:abt Tryz.prog 360=some (359,2):=by kernel_rfl
@[simp] theorem tz360:aaT Tryz.prog 360=some (.st 359 [.nptr,.nsl]):=by kernel_rfl
@[simp] theorem ki411:kindOf Tryz.prog 411=.agg 410:=by kernel_rfl
@[simp] theorem ar411:arrT Tryz.prog 411=some (410,256):=by kernel_rfl
@[simp] theorem sz23:szs Tryz.prog 23=some [1,1]:=by kernel_rfl
@[simp] theorem sz25:szs Tryz.prog 25=some [2,2,2]:=by kernel_rfl
@[simp] theorem sz31:szs Tryz.prog 31=some [1,1,1]:=by kernel_rfl
@[simp] theorem sz62:szs Tryz.prog 62=some [3,3]:=by kernel_rfl
@[simp] theorem sz128:szs Tryz.prog 128=some [1,1]:=by kernel_rfl
@[simp] theorem sz130:szs Tryz.prog 130=some [2,2]:=by kernel_rfl
@[simp] theorem sz132:szs Tryz.prog 132=some [4,4]:=by kernel_rfl
@[simp] theorem sz149:szs Tryz.prog 149=some [4,4,4]:=by kernel_rfl
@[simp] theorem sz171:szs Tryz.prog 171=some [8,8,4]:=by kernel_rfl
@[simp] theorem sz222:szs Tryz.prog 222=some [1,1]:=by kernel_rfl
set_option maxRecDepth 100000
section
variable {H:Type} {w:World} {Imm:Nat→Prop}
theorem int_of {n:Nat} (d:DataW H) (c) (h:PVC Tryz.prog w Imm (toPV Tryz.prog (n+1) 3 d) c):∃ z:Int,toPV Tryz.prog (n+1) 3 d=.int .i64 z:=by
 cases d with
 | lit l =>
  cases l with
  | int k z =>
   simp only [toPV,un3] at h ⊢
   split at h
   · rename_i hz; rw [if_pos hz]; exact ⟨_,rfl⟩
   · simp only [PVC] at h
  | _=>simp only [toPV,un3,PVC] at h
 | _=>simp only [toPV,un3,PVC] at h
end
theorem agK {P : Program} {W : World} {name : String} {d : DataW Unit} : ∀ {l : List (String × DataW Unit)} {ps : List MemPlace}, DataW.LaidVars P W l ps → (name, d) ∈ l →
    ∃ g t cs fuel p,P.globalNamed name=some g∧(P.globals[g]?).map (·.type)=some t∧W.var? P name=some cs∧DataW.trod (fun _=>()) P W 0 (fun _=>true) false fuel t cs.toList=some (d,p)∧∀ x∈MemPlace.row ⟨g,0,none⟩ cs.size,x∈ps
 | [],_,_,h=>by cases h
 | (n,d0)::r,ps,h,hm=>by
  obtain ⟨g,t,cs,fuel,p,q,h1,h2,h3,h4,h5,rfl⟩:=h;rcases List.mem_cons.1 hm with e | hm
  · cases e;exact ⟨g,t,cs,fuel,p,h1,h2,h3,h4,fun x hx=>by simp [hx]⟩
  · obtain ⟨g',t',cs',fuel',p',k1,k2,k3,k4,k5⟩:=agK h5 hm;exact ⟨g',t',cs',fuel',p',k1,k2,k3,k4,fun x hx=>by simp [k5 x hx]⟩
open Go.Proofs Go.Proofs.YtanjnahmbanmaaaGreatDoor
theorem alp : Tryz.prog.globalNamed "internal/strconv.uint64pow10" = some 3 := by kernel_rfl
theorem anP:((Rows.aimContactsUptoRow.laid).filter fun x=>x.2.handleName?.isSome)=[]:=by kernel_rfl
theorem pow_t:(Tryz.prog.globals[3]?).map (·.type)=some 417:=by kernel_rfl
theorem pow_u:Tryz.prog.underlying 417=some (.array 20 309):=by kernel_rfl
theorem pow_e:Tryz.prog.underlying 309=some (.int .u64):=by kernel_rfl
theorem pow_ce:Tryz.prog.cellsOf 309=1:=by kernel_rfl
theorem pow_ct:Tryz.prog.cellsOf 417=20:=by kernel_rfl
theorem aAP {W:World} (h:laidMetH Tryz.prog Rows.aimContactsUptoRow.laid W):aeX Tryz.prog W (fun k=>k<W.heap.size):=by
 unfold laidMetH at h;rw [anP] at h;obtain ⟨ps,hv,_,hz⟩:=h;obtain ⟨g, t, cs, fuel, p, k1, k2, k3, k4, k5⟩ := agK (name := "internal/strconv.uint64pow10") (d := Lib.tabData .u64 Lib.pow10Tab) hv (by
  show _∈[_,_,_,_,_,_,_];exact List.mem_cons_of_mem _ (List.mem_cons_of_mem _ List.mem_cons_self))
 rw [alp] at k1; cases k1;rw [pow_t] at k2; cases k2;have hcs:=Lib.cells_of_tab pow_u pow_e pow_ce pow_ct k4;have hcs':cs=tab10:=by rw [tab10,← hcs]
 have hlen:0<cs.size:=by rw [hcs']; decide
 obtain ⟨⟨c,T,hh⟩,_⟩:=hz 3 0 (k5 _ (by simp [MemPlace.row]; exact hlen));refine ⟨fun g=>by simp [PVV,Gl.g],fun g cs' hg=>?_⟩
 match g,hg with
 | 3,hg =>
  cases hg;refine ⟨(Array.getElem?_eq_some_iff.1 hh).1,T,?_⟩;simp only [World.var?,alp,Option.bind_some,hh,Option.some.injEq] at k3;rw [hh,k3,hcs']
section
variable [Gl] {P:Program}
theorem awp {f : FuncId} {args : List PV} {v : PV} (he : Enters P f) (h : aab P f args v) {w : World} {Imm : Nat → Prop} {cargs : List Value} (h1 : ∀ k, Imm k → k < w.heap.size) (hg : aeX P w Imm) (ha : PVVl P w Imm args cargs) :
    Calls P f cargs.toArray w fun e w'=>∃ cv,∃ Imm':Nat→Prop,e=.returned cv∧w.heap.size≤w'.heap.size∧(∀ k,k<w.heap.size→w'.heap[k]?=w.heap[k]?)∧(w'.os=w.os∧w'.output=w.output)∧PVV P w' Imm' v cv:=by
 rcases h with h | h
 · refine (h.2 w Imm cargs h1 hg ha).mono ?_;rintro e w' ⟨cv,Imm',k1,_,_,_,k5,k6,kio,k7⟩;exact ⟨cv,Imm',k1,k5,k6,kio,k7⟩
 · obtain ⟨cv,k1,_⟩:=h w Imm cargs ha;rw [he cargs.toArray w] at k1;cases k1
theorem kept_of {w w':World} (h:∀ k,k<w.heap.size→w'.heap[k]?=w.heap[k]?) (hio:w'.os=w.os∧w'.output=w.output) (may:MemPlace→Prop):w.keptBut w' may:=by
 refine ⟨hio.1,hio.2,fun i hi=>?_⟩;rw [h i hi];cases w.heap[i]? with
 | none=>rfl
 | some o=>cases o <;> first | exact ⟨rfl,rfl,rfl,fun _ _=>rfl⟩ | exact .inr ⟨rfl,rfl⟩ | rfl
theorem same_of {w w':World} (h:∀ k,k<w.heap.size→w'.heap[k]?=w.heap[k]?) {p:MemPlace} (hp:p.block<w.heap.size):w.sameAt w' p:=by
 cases p with
 | cell b o=>simp only [World.sameAt,World.cell?]; rw [h b hp]
 | map b=>simp only [World.sameAt]; rw [h b hp]
theorem aqB {H : Type} {enc : TypeId × Value → H} {f : Func} {s : ChangeSpec} {apart fresh handsOn : Bool} {W W' : World} {args : Array Value} {v : Value} {ds gs : List (DataW H)} {before pa pv : List MemPlace}
    (hW:DataW.Whole enc P f.params.toList s.vars apart W args.toList ds gs before)
    (hres:∀ (b:Nat) (sp:Nat→Bool) (hd:Bool),DataW.TrodAll enc P W' b sp hd f.resultTypes.toList (v.resultList f.resultTypes.size) (s.fn H (ds ++ gs)).results [])
    (hargs:∀ sp:Nat→Bool,(∀ p∈before,sp p.block=true)→DataW.TrodAll enc P W' 0 sp true f.params.toList args.toList (s.fn H (ds ++ gs)).args pa)
    (hvars:∀ sp:Nat→Bool,(∀ p∈before,sp p.block=true)→DataW.TrodVars enc P W' sp s.vars (s.fn H (ds ++ gs)).vars pv)
    (hps:before=pa ++ pv) (hk:W.keptBut W' (·∈before)):s.post enc P f apart fresh handsOn false W args v W':=by
 have hold:∀ p∈before,(fun b=>decide (b<W.heap.size)) p.block=true:=fun p hp=>by simpa using hW.lt p hp
 refine ⟨ds,gs,before,[],pa,pv,hW,hres _ _ _,hargs _ hold,hvars _ hold,World.keptBut_mono (fun p hp=>⟨hp,?_⟩) hk,fun h=>by cases h⟩;rw [hps,List.mem_append] at hp;exact Or.inr hp
end
section
variable {H:Type} {enc:TypeId×Value→H} {P:Program} {w:World}
theorem auY {n : Nat} {t : TypeId} {d : DataW H} {cs : List Value} {Imm : Nat → Prop} (h : PVC P w Imm (toPV P n t d) cs) :
    (((∃ fs,P.underlying t=some (.struct fs))∨∃ m e,P.underlying t=some (.array m e))∧∃ u,shp (toPV P n t d)=.agg u)∨((P.underlying t=some .bool∨(∃ k,P.underlying t=some (.int k))∨P.underlying t=some .string∨∃ e,P.underlying t=some (.slice e))∧shp (toPV P n t d)=.leaf):=by
 cases n with
 | zero=>simp only [toPV,PVC] at h
 | succ n =>
  unfold toPV at h ⊢
  split at h
  · rename_i hu; exact .inr ⟨.inl hu,rfl⟩
  · rename_i k z hu
    split at h
    · rename_i hz; rw [if_pos hz]; exact .inr ⟨.inr (.inl ⟨_,hu⟩),rfl⟩
    · simp only [PVC] at h
  · rename_i hu; exact .inr ⟨.inr (.inr (.inl hu)),rfl⟩
  · rename_i hu; exact .inr ⟨.inr (.inr (.inr ⟨_,hu⟩)),rfl⟩
  · rename_i hu; exact .inr ⟨.inr (.inr (.inr ⟨_,hu⟩)),rfl⟩
  · rename_i hu; exact .inl ⟨.inl ⟨_,hu⟩,_,rfl⟩
  · rename_i hu; exact .inl ⟨.inr ⟨_,_,hu⟩,_,rfl⟩
  · simp only [PVC] at h
theorem auW [Gl] {n : Nat} {t : TypeId} {v : Value} {d : DataW H} {ps : List MemPlace} {base base' : Nat} {r : Reach} (ho : okT P n t = true) (h : DataW.Trod enc P w base (fun _ => true) true t v d ps) (hv : Value.okWide P w r base' t v) :
    PVV P w (fun k=>k<w.heap.size) (toPV P n t d) v:=by
 obtain ⟨fuel,h⟩:=h;have hc:=aho n fuel t _ d ps ho h;rcases auY hc with ⟨hu,u,hs⟩ | ⟨hu,hs⟩
 · have:∃ cs,v=.agg cs:=by
    rcases hu with ⟨fs,hu⟩ | ⟨m,e,hu⟩
    · simp only [Value.okWide,hu] at hv;obtain ⟨cs,rfl,_,_⟩:=hv;exact ⟨cs,rfl⟩
    · simp only [Value.okWide,hu] at hv;obtain ⟨cs,rfl,_,_⟩:=hv;exact ⟨cs,rfl⟩
   obtain ⟨cs,rfl⟩:=this;rw [aiX hs] at hc;simpa [Value.cells] using hc
 · rw [aeN hs] at hc;obtain ⟨c,hc,hp⟩:=hc;have:v=c:=by
    cases v with
    | agg cs=>rcases hu with hu | ⟨k,hu⟩ | hu | ⟨e,hu⟩ <;> simp [Value.okWide,hu,Cell.okWide,Cell.ok] at hv
    | _=>simpa [Value.cells] using hc
   rw [this]; exact hp
def amW (P:Program) (n:Nat):List TypeId→List (DataW H)→List PV
 | t::ts,d::ds=>toPV P n t d::amW P n ts ds
 | _,_=>[]
theorem ahn [Gl] {n : Nat} {base : Nat} {r : Reach} : ∀ {ts : List TypeId} {vs : List Value} {ds : List (DataW H)} {ps : List MemPlace}, (∀ t ∈ ts, okT P n t = true) → DataW.TrodAll enc P w 0 (fun _ => true) true ts vs ds ps →
    (∀ (j:Nat) t v,ts[j]?=some t→vs[j]?=some v→Value.okWide P w r base t v)→PVVl P w (fun k=>k<w.heap.size) (amW P n ts ds) vs∧ds.length=ts.length
 | [],[],[],_,_,_,_=>by simp [amW,PVVl]
 | t::ts,v::vs,d::ds,_,ho,⟨p,q,h1,h2,_⟩,hv=>by
  have ⟨i1,i2⟩:=ahn (ts:=ts) (vs:=vs) (ds:=ds) (fun t ht=>ho t (List.mem_cons_of_mem _ ht)) h2 (fun j t v ht hv'=>hv (j+1) t v (by simpa using ht) (by simpa using hv'));refine ⟨?_,by simp [i2]⟩;simp only [amW,PVVl];exact ⟨v,vs,rfl,auW (ho t List.mem_cons_self) h1 (hv 0 t v rfl rfl),i1⟩
theorem aoI {n : Nat} : ∀ {ts : List TypeId} {vs : List Value} {ds : List (DataW H)} {ps : List MemPlace}, (∀ t ∈ ts, okT P n t = true) → DataW.TrodAll enc P w 0 (fun _ => true) true ts vs ds ps →
    ∀ p∈ts.zip ds,∃ cs,PVC P w (fun k=>k<w.heap.size) (toPV P n p.1 p.2) cs
 | [],[],[],_,_,_=>by simp
 | t::ts,v::vs,d::ds,_,ho,⟨p,q,⟨fuel,h1⟩,h2,_⟩=>by
  have i1:=aoI (ts:=ts) (vs:=vs) (ds:=ds) (fun t ht=>ho t (List.mem_cons_of_mem _ ht)) h2;intro x hx;rw [List.zip_cons_cons] at hx;rcases List.mem_cons.1 hx with rfl | hx
  · exact ⟨_,aho n fuel t _ d p (ho t List.mem_cons_self) h1⟩
  · exact i1 x hx
theorem afm {w' : World} {base : Nat} {spare : Nat → Bool} {held : Bool} : ∀ {ts : List TypeId} {vs : List Value} {ds : List (DataW H)} {ps : List MemPlace}, DataW.TrodAll enc P w base spare held ts vs ds ps → (∀ p ∈ ps, w.sameAt w' p) →
    DataW.TrodAll enc P w' base spare held ts vs ds ps
 | [],[],[],_,h,_=>h
 | t::ts,v::vs,d::ds,_,⟨p,q,⟨n,h1⟩,h2,e⟩,hs=>by
  subst e;exact ⟨p,q,⟨n,DataW.trod_carry n _ _ _ h1 fun x hx=>hs x (List.mem_append_left _ hx)⟩,afm h2 fun x hx=>hs x (List.mem_append_right _ hx),rfl⟩
theorem al2 [Gl] {f : FuncId} {fn : Func} {s : ChangeSpec} {n : Nat} {T : TypeId → Prop} (hvars : s.vars = []) (hfn : ∀ (H : Type) (ds : List (DataW H)), ds.length = fn.params.size → (s.fn H ds).results = [.lit (.bool true)] ∧ (s.fn H ds).args = ds ∧ (s.fn H ds).vars = [])
    (K:Kids P T) (hz:∀ t e,T t→P.underlying t=some (.slice e)→0<P.cellsOf e) (hT:∀ t∈fn.params.toList,T t) (hok:∀ t∈fn.params.toList,okT P n t=true) {tb:TypeId} (hr:fn.resultTypes=#[tb]) (hb:P.underlying tb=some .bool)
    (hent:Enters P f) {W:World} {args:Array Value} {ds gs:List (DataW H)} {before:List MemPlace} {base:Nat} (hg:aeX P W (fun k=>k<W.heap.size))
    (hgood:(∀ p∈fn.params.toList.zip ds,∃ cs,PVC P W (fun k=>k<W.heap.size) (toPV P n p.1 p.2) cs)→aab P f (amW P n fn.params.toList ds) (.bool true))
    (hval:∀ (j:Nat) t v,fn.params[j]?=some t→args[j]?=some v→Value.okWide P W .any base t v)
    (hW:DataW.Whole enc P fn.params.toList s.vars false W args.toList ds gs before) :
    Calls P f args W fun e W'=>∃ v,e=.returned v∧s.post enc P fn false true false false W args v W':=by
 have hW':=hW;obtain ⟨p,q,hA,hV,rfl,hfz,hnd⟩:=hW;rw [hvars] at hV;have ⟨hp,hlen⟩:=ahn hok hA (fun j t v ht hv=>hval j t v (by simpa using ht) (by simpa using hv));have hgs:gs=[]∧q=[]:=by
  cases gs with
  | nil=>exact ⟨rfl,hV⟩
  | cons g gs=>exact hV.elim
 obtain ⟨rfl,rfl⟩:=hgs;have hc:=awp hent (hgood (aoI hok hA)) (fun k hk=>hk) hg hp;refine hc.mono ?_;rintro e W' ⟨cv,Imm',rfl,k1,k2,k3,k4⟩;refine ⟨cv,rfl,?_⟩;obtain ⟨f1,f2,f3⟩:=hfn H (ds ++ []) (by simpa using hlen);have e1:cv=.bool true:=by simpa [PVV] using k4
 have hlt:=DataW.TrodAll.lt hA;refine aqB (pa:=p) (pv:=[]) hW' ?_ ?_ ?_ rfl (kept_of k2 k3 _)
 · intro b sp hd;rw [f1,hr,e1];refine ⟨[],[],⟨1,?_⟩,rfl,rfl⟩;simp [DataW.trod,hb,Value.cells]
 · intro sp hs;rw [f2];simp only [List.append_nil] at hs ⊢;exact afm (DataW.TrodAll.respare K hz hT hA fun p hp=>hs p hp) fun x hx=>same_of k2 (hlt x hx)
 · intro sp hs;rw [f3,hvars]; rfl
end
end Go.Abs
