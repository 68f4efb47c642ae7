import Derived.Test.YthckccalfpnmaaaGreatDoorThD
import Derived.Deep.Slices
import Derived.Test.YthckccalfpnmaaaGreatDoorProg
import Derived.KernelRfl
import Derived.Lib.ItoaNum
import Derived.Laws.RangeAny
import Derived.Laws.RangeString
import Derived.Test.YthckccalfpnmaaaGreatDoorRows
import Derived.Lib.LaidTab
import Derived.ReadAgain
import Derived.ChangeOld
import Derived.RowKit3
import Derived.ChangeSame
import Derived.WideShapes
import Derived.Deep.DeepHandedRow
import Derived.Deep.DeepWitnessRowRef
import Derived.Lib.LaidIn
import Derived.ProofKit
import Derived.OpenShut
import Derived.ChangeBears
import Derived.JoinedCond
import Derived.Seven
import Derived.SevenTiedAt
/- Parts of a proof. -/
set_option linter.unusedSimpArgs false
set_option linter.unusedVariables false
set_option linter.unusedSectionVars false
namespace Go.Abs
open Go.Deep
section
variable {H:Type}
def toPV (P:Program):Nat → TypeId → DataW H → PV
 | 0,_,_=>.undef
 | n + 1,t,d=>match P.underlying t,d with
  | some .bool,.lit (.bool b)=>.bool b
  | some (.int k),.lit (.int _ z)=>if (Lit.int k z).wf = true then .int k z else .undef
  | some .string,.lit (.string s)=>.str (s.map (·.toNat))
  | some (.slice e),.slice ds _=>.seq (ds.map (toPV P n e))
  | some (.slice _),.nil=>.seq []
  | some (.struct fs),.agg ds=>.st (P.underlyingId t) ((fs.toList.zip ds).map fun p=>toPV P n p.1.type p.2)
  | some (.array _ e),.agg ds=>.st (P.underlyingId t) (ds.map (toPV P n e))
  | _,_=>.undef
def offsOk (P:Program):Nat → List Field → Bool
 | _,[]=>true
 | o,f :: fs=>(f.offset == o) && offsOk P (o + P.cellsOf f.type) fs
def okT (P:Program):Nat → TypeId → Bool
 | 0,_=>false
 | n + 1,t=>match P.underlying t with
  | some .bool | some (.int _) | some .string=>true
  | some (.slice e)=>okT P n e && decide (0 < P.cellsOf e)
  | some (.struct fs)=>(szs P (P.underlyingId t) == some (fs.toList.map fun f=>P.cellsOf f.type)) && offsOk P 0 fs.toList && (((fs.toList.map fun f=>P.cellsOf f.type).sum) == P.cellsOf t) && fs.toList.all fun f=>okT P n f.type
  | some (.array m e)=>(szs P (P.underlyingId t) == some (List.replicate m (P.cellsOf e))) && (m * P.cellsOf e == P.cellsOf t) && okT P n e
  | _=>false
variable {enc:TypeId × Value → H} {P:Program} {w:World} {base:Nat} {held:Bool}
theorem st_aux {n k : Nat} {Imm : Nat → Prop} (ih : ∀ t cs d ps, okT P n t = true → DataW.trod enc P w base (fun _ => true) held k t cs = some (d, ps) → PVC P w Imm (toPV P n t d) cs) :
    ∀ (fs:List Field) (xs:List (DataW H × List MemPlace)) (o:Nat) (cs:List Value),offsOk P o fs = true → xs.length = fs.length → (∀ f ∈ fs,okT P n f.type = true) → o + (fs.map fun f=>P.cellsOf f.type).sum ≤ cs.length →
     (∀ (i:Nat) (f:Field),fs[i]? = some f → DataW.trod enc P w base (fun _=>true) held k f.type ((cs.drop f.offset).take (P.cellsOf f.type)) = xs[i]?) →
     PVCl P w Imm (fs.map fun f=>P.cellsOf f.type) ((fs.zip (xs.map (·.1))).map fun p=>toPV P n p.1.type p.2) (fs.map fun f=>(cs.drop f.offset).take (P.cellsOf f.type)) ∧
      (fs.map fun f=>(cs.drop f.offset).take (P.cellsOf f.type)).flatten = (cs.drop o).take (fs.map fun f=>P.cellsOf f.type).sum
 | [],xs,o,cs,_,hl,_,_,_=>by
  have:xs = []:=by simpa using hl
  subst this
  simp [PVCl]
 | f :: fs,[],o,cs,_,hl,_,_,_=>by simp at hl
 | f :: fs,x :: xs,o,cs,ho,hl,hok,hlen,hx=>by
  simp only [offsOk,Bool.and_eq_true,beq_iff_eq] at ho
  obtain ⟨ho,ho2⟩:=ho
  simp only [List.map_cons,List.sum_cons] at hlen
  have hx0:=hx 0 f rfl
  simp only [List.getElem?_cons_zero] at hx0
  have h1:=ih _ _ x.1 x.2 (hok f List.mem_cons_self) hx0
  have ⟨h2,h3⟩:=st_aux ih fs xs (o + P.cellsOf f.type) cs ho2 (by simpa using hl) (fun g hg=>hok g (List.mem_cons_of_mem _ hg)) (by omega) (fun i g hg=>by have:=hx (i + 1) g (by simpa using hg); simpa using this)
  refine ⟨?_,?_⟩
  · simp only [List.map_cons,List.zip_cons_cons,PVCl]
    exact ⟨_,_,rfl,h1,by simp [ho]; omega,h2⟩
  · simp only [List.map_cons,List.flatten_cons,List.sum_cons,h3,ho]
    rw [← List.drop_drop,List.take_add]
theorem pvcl_range {esz len:Nat} {Imm:Nat → Prop} {f:Nat → PV} {g:Nat → List Value}:∀ {l:List Nat},(∀ i ∈ l,PVC P w Imm (f i) (g i) ∧ (g i).length = esz) → PVCl P w Imm (List.replicate l.length esz) (l.map f) (l.map g)
 | [],_=>by simp [PVCl]
 | a :: l,h=>by
  simp only [List.length_cons,List.replicate_succ,List.map_cons,PVCl]
  exact ⟨_,_,rfl,(h a List.mem_cons_self).1,(h a List.mem_cons_self).2,pvcl_range (len:=len) fun i hi=>h i (List.mem_cons_of_mem _ hi)⟩
theorem trod_array {m : Nat} {e t : TypeId} {fuel : Nat} {cs : List Value} {x : DataW H × List MemPlace} {spare : Nat → Bool} (ht : P.underlying t = some (.array m e)) (h : DataW.trod enc P w base spare held fuel t cs = some x) :
    ∃ (xs:List (DataW H × List MemPlace)) (n:Nat),fuel = n + 1 ∧ x = (.agg (xs.map (·.1)),xs.flatMap (·.2)) ∧ cs.length = P.cellsOf t ∧ xs.length = m ∧
     ∀ i,i < m → DataW.trod enc P w base spare held n e ((cs.drop (i * P.cellsOf e)).take (P.cellsOf e)) = xs[i]?:=by
 cases fuel with
 | zero=>simp [DataW.trod] at h
 | succ n =>
  unfold DataW.trod at h
  rw [ht] at h
  split at h <;> simp_all
  obtain ⟨hl,xs,hp,hd⟩:=h
  exact ⟨xs,hd.symm,by simpa using mapM_some_length hp,fun i hi=>mapM_some_get hp i i (by simp [hi])⟩
theorem pieces_flat {α:Type} {cs:List α} {esz:Nat}:∀ m,((List.range m).map fun i=>(cs.drop (i * esz)).take esz).flatten = cs.take (m * esz)
 | 0=>by simp
 | m + 1=>by
  rw [List.range_succ,List.map_append,List.flatten_append,pieces_flat m,Nat.succ_mul,List.take_add]
  simp
theorem flat_len {V:Nat → List Value} {esz:Nat}:∀ (len:Nat),(∀ i,i < len → (V i).length = esz) → ((List.range len).map V).flatten.length = len * esz
 | 0,_=>by simp
 | len + 1,h=>by
  rw [List.range_succ,List.map_append,List.flatten_append,List.length_append,flat_len len fun i hi=>h i (by omega),Nat.succ_mul]
  simp [h len (by omega)]
theorem cells_flat {V:Nat → List Value} {esz b o:Nat}:∀ (len:Nat),(∀ i,i < len → (V i).length = esz) → (∀ i,i < len → ∀ j,j < esz → w.cell? ⟨b,o + (i * esz + j),none⟩ = (V i)[j]?) → CellsAt w b o ((List.range len).map V).flatten
 | 0,_,_=>by intro i hi; simp at hi
 | len + 1,h,hc=>by
  intro i hi
  have hl:=flat_len (V:=V) (esz:=esz) len fun i hi=>h i (by omega)
  have ih:=cells_flat (V:=V) (esz:=esz) (b:=b) (o:=o) len (fun i hi=>h i (by omega)) (fun i hi=>hc i (by omega))
  have e:((List.range (len + 1)).map V).flatten = ((List.range len).map V).flatten ++ V len:=by
   rw [List.range_succ,List.map_append,List.flatten_append]; simp
  have hi2:i < len * esz + esz:=by
   have:=flat_len (V:=V) (esz:=esz) (len + 1) h
   rw [Nat.succ_mul] at this; omega
  rw [← List.getElem?_eq_getElem hi,e]
  by_cases h1:i < len * esz
  · rw [List.getElem?_append_left (by omega),List.getElem?_eq_getElem (by omega)]
    exact ih i (by omega)
  · rw [List.getElem?_append_right (by omega),hl]
    have:=hc len (by omega) (i - len * esz) (by omega)
    rw [← this]
    congr 3; omega
theorem trod_pv : ∀ (n : Nat) (fuel : Nat) (t : TypeId) (cs : List Value) (d : DataW H) (ps : List MemPlace), okT P n t = true → DataW.trod enc P w base (fun _ => true) held fuel t cs = some (d, ps) →
    PVC P w (fun k=>k < w.heap.size) (toPV P n t d) cs
 | 0,_,_,_,_,_,h,_=>by simp [okT] at h
 | n + 1,fuel,t,cs,d,ps,h,hd=>by
  simp only [okT] at h
  split at h
  · rename_i ht
    obtain ⟨b,rfl,hx⟩:=DataW.trod_bool ht hd
    cases hx
    simp [toPV,ht,PVC]
  · rename_i k ht
    obtain ⟨z,rfl,hx,hz⟩:=DataW.trod_int ht hd
    cases hx
    simp [toPV,ht,hz,PVC]
  · rename_i ht
    obtain ⟨s,rfl,hx,_⟩:=DataW.trod_string ht hd
    cases hx
    simp [toPV,ht,PVC]
  · rename_i e ht
    simp only [Bool.and_eq_true,decide_eq_true_eq] at h
    obtain ⟨he,hpos⟩:=h
    rcases open_slice ht hd with ⟨rfl,hx⟩ | ⟨a,len,cap,m,k,D,Pl,rfl,hb,hl,hm,hmm,hx,hel⟩
    · cases hx
      simp [toPV,ht,PVC]
    cases hx
    simp only [if_true] at hmm
    subst hmm
    obtain ⟨V,hV⟩:=choose_lt hel
    have hsp:a.spot = none ∨ m = 0:=by
     by_cases hz:m = 0
     · exact .inr hz
     left
     obtain ⟨c1,_⟩:=hV 0 (by omega)
     obtain ⟨_,c2,c3⟩:=World.cells?_some c1
     have c4:=c3 0 hpos
     rw [List.getElem?_eq_getElem (by omega)] at c4
     simp only [Addr.add,Nat.zero_mul,if_true] at c4
     unfold World.cell? at c4
     split at c4
     · split at c4
       · cases c4
       · rename_i hs; simpa using hs
     · cases c4
    have hcell:∀ i,i < m → ∀ j,j < P.cellsOf e → w.cell? ⟨a.block,a.off + (i * P.cellsOf e + j),none⟩ = (V i)[j]?:=by
     intro i hi j hj
     have hs:a.spot = none:=hsp.resolve_right (by omega)
     obtain ⟨_,_,c3⟩:=World.cells?_some (hV i hi).1
     have:=c3 j hj
     rw [add_add] at this
     rw [← this]
     obtain ⟨ab,ao,asp⟩:=a
     simp only at hs
     subst hs
     unfold Addr.add; split <;> simp_all
    have hlenV:∀ i,i < m → (V i).length = P.cellsOf e:=fun i hi=>(World.cells?_some (hV i hi).1).2.1
    simp only [toPV,ht,PVC]
    right
    obtain ⟨ab,ao,asp⟩:=a
    refine ⟨ab,ao,m,P.cellsOf e,(List.range len).map V,?_,?_,?_,by simpa using hl,asp,hsp,by simp⟩
    · have:=pvcl_range (P:=P) (w:=w) (len:=len) (esz:=P.cellsOf e) (Imm:=fun k=>k < w.heap.size) (f:=fun i=>toPV P n e (D i)) (g:=V) (l:=List.range len) (fun i hi=>by
       have hi:i < m:=by have:=List.mem_range.1 hi; omega
       exact ⟨trod_pv n k e (V i) (D i) (Pl i) he (hV i hi).2,hlenV i hi⟩)
      simpa [Function.comp_def] using this
    · intro hne
      have h0:0 < len:=by
       rcases Nat.eq_zero_or_pos len with h | h
       · subst h; simp at hne
       · exact h
      have c:=hcell 0 (by omega) 0 hpos
      rw [List.getElem?_eq_getElem (by rw [hlenV 0 (by omega)]; exact hpos)] at c
      unfold World.cell? at c
      split at c
      · rename_i hh; exact (Array.getElem?_eq_some_iff.1 hh).1
      · cases c
    · exact cells_flat len (fun i hi=>hlenV i (by omega)) (fun i hi=>hcell i (by omega))
  · rename_i fs ht
    simp only [Bool.and_eq_true,beq_iff_eq,List.all_eq_true] at h
    obtain ⟨⟨⟨h1,h2⟩,h3⟩,h4⟩:=h
    obtain ⟨xs,k,rfl,hx,hlen,hxl,hf⟩:=DataW.trod_struct ht hd
    cases hx
    have ⟨g1,g2⟩:=st_aux (Imm:=fun k=>k < w.heap.size) (fun t cs d ps hok hh=>trod_pv n k t cs d ps hok hh) fs.toList xs 0 cs h2 (by simpa using hxl) h4 (by omega) (fun i f hi=>hf i f (by simpa using hi))
    simp only [toPV,ht,PVC]
    refine ⟨_,_,h1,g1,?_⟩
    rw [g2,List.drop_zero,List.take_of_length_le (by omega)]
  · rename_i m e ht
    simp only [Bool.and_eq_true,beq_iff_eq] at h
    obtain ⟨⟨h1,h2⟩,h3⟩:=h
    obtain ⟨xs,k,rfl,hx,hlen,hxl,hf⟩:=trod_array ht hd
    cases hx
    have hp:=pvcl_range (P:=P) (w:=w) (len:=m) (esz:=P.cellsOf e) (Imm:=fun k=>k < w.heap.size) (f:=fun i=>match xs[i]? with
     | some x=>toPV P n e x.1
     | none=>.undef) (g:=fun i=>(cs.drop (i * P.cellsOf e)).take (P.cellsOf e)) (l:=List.range m) (fun i hi=>by
      have hi:i < m:=List.mem_range.1 hi
      have hfi:=hf i hi
      rw [List.getElem?_eq_getElem (by omega)] at hfi ⊢
      refine ⟨trod_pv n k e _ xs[i].1 xs[i].2 h3 hfi,?_⟩
      have:(i + 1) * P.cellsOf e ≤ m * P.cellsOf e:=Nat.mul_le_mul_right _ hi
      rw [Nat.succ_mul] at this
      simp; omega)
    have he:((List.range m).map fun i=>match xs[i]? with
     | some x=>toPV P n e x.1
     | none=>.undef) = (xs.map (·.1)).map (toPV P n e):=by
     apply List.ext_getElem
     · simp [hxl]
     · intro i hi1 hi2
       simp at hi1
       simp [List.getElem?_eq_getElem (show i < xs.length by omega)]
    rw [he,List.length_range] at hp
    simp only [toPV,ht,PVC]
    refine ⟨_,_,h1,hp,?_⟩
    rw [pieces_flat,List.take_of_length_le (by omega)]
  · cases h
end
end Go.Abs
namespace Go.Abs
open Go.Proofs
def tab10:Array Value:=(Lib.pow10Tab.map fun z=>Value.int .u64 z).toArray
def rawOff:Nat → Option (Array Value)
 | 1=>some tab10
 | _=>none
instance glOff:Gl:=⟨fun _=>.undef,5,rawOff,fun u=>bif Nat.beq u 161 then some 162 else none⟩
@[simp] theorem ki3:kindOf Tryz.prog 3 = .leaf:=by kernel_rfl
@[simp] theorem un3:Tryz.prog.underlying 3 = some (.int .i64):=by kernel_rfl
@[simp] theorem tz3:tzero Tryz.prog 3 = some (.int .i64 (0)):=by kernel_rfl
@[simp] theorem ki4:kindOf Tryz.prog 4 = .leaf:=by kernel_rfl
@[simp] theorem tz4:tzero Tryz.prog 4 = some (.bool false):=by kernel_rfl
@[simp] theorem ki5:kindOf Tryz.prog 5 = .leaf:=by kernel_rfl
@[simp] theorem un5:Tryz.prog.underlying 5 = some (.int .u8):=by kernel_rfl
@[simp] theorem ki9:kindOf Tryz.prog 9 = .leaf:=by kernel_rfl
@[simp] theorem un9:Tryz.prog.underlying 9 = some .string:=by kernel_rfl
@[simp] theorem tz9:tzero Tryz.prog 9 = some (.str []):=by kernel_rfl
@[simp] theorem ki22:kindOf Tryz.prog 22 = .leaf:=by kernel_rfl
@[simp] theorem un22:Tryz.prog.underlying 22 = some (.slice 168):=by kernel_rfl
@[simp] theorem at22:appTy Tryz.prog 22 = true:=by kernel_rfl
@[simp] theorem el22:elemOk Tryz.prog 22 = some 2:=by kernel_rfl
@[simp] theorem et22:elemType Tryz.prog 22 = 168:=by kernel_rfl
@[simp] theorem ki24:kindOf Tryz.prog 24 = .agg 23:=by kernel_rfl
@[simp] theorem st24:structT Tryz.prog 24 = some (23,2):=by kernel_rfl
@[simp] theorem tz24:tzero Tryz.prog 24 = some (.st 23 [.str [],.nsl]):=by kernel_rfl
@[simp] theorem ki25:kindOf Tryz.prog 25 = .leaf:=by kernel_rfl
@[simp] theorem at25:appTy Tryz.prog 25 = true:=by kernel_rfl
@[simp] theorem el25:elemOk Tryz.prog 25 = some 2:=by kernel_rfl
@[simp] theorem et25:elemType Tryz.prog 25 = 55:=by kernel_rfl
@[simp] theorem ki27:kindOf Tryz.prog 27 = .agg 26:=by kernel_rfl
@[simp] theorem st27:structT Tryz.prog 27 = some (26,2):=by kernel_rfl
@[simp] theorem tz27:tzero Tryz.prog 27 = some (.st 26 [.str [],.nsl]):=by kernel_rfl
@[simp] theorem ki32:kindOf Tryz.prog 32 = .leaf:=by kernel_rfl
@[simp] theorem tz32:tzero Tryz.prog 32 = some (.int .i64 (0)):=by kernel_rfl
@[simp] theorem ki44:kindOf Tryz.prog 44 = .leaf:=by kernel_rfl
@[simp] theorem un44:Tryz.prog.underlying 44 = some (.slice 9):=by kernel_rfl
@[simp] theorem at44:appTy Tryz.prog 44 = true:=by kernel_rfl
@[simp] theorem el44:elemOk Tryz.prog 44 = some 1:=by kernel_rfl
@[simp] theorem et44:elemType Tryz.prog 44 = 9:=by kernel_rfl
@[simp] theorem ki53:kindOf Tryz.prog 53 = .leaf:=by kernel_rfl
@[simp] theorem un53:Tryz.prog.underlying 53 = some (.slice 3):=by kernel_rfl
@[simp] theorem at53:appTy Tryz.prog 53 = true:=by kernel_rfl
@[simp] theorem el53:elemOk Tryz.prog 53 = some 1:=by kernel_rfl
@[simp] theorem et53:elemType Tryz.prog 53 = 3:=by kernel_rfl
@[simp] theorem ki55:kindOf Tryz.prog 55 = .agg 54:=by kernel_rfl
@[simp] theorem st55:structT Tryz.prog 55 = some (54,2):=by kernel_rfl
@[simp] theorem tz55:tzero Tryz.prog 55 = some (.st 54 [.str [],.nsl]):=by kernel_rfl
@[simp] theorem ki74:kindOf Tryz.prog 74 = .leaf:=by kernel_rfl
@[simp] theorem un74:Tryz.prog.underlying 74 = some (.slice 148):=by kernel_rfl
@[simp] theorem at74:appTy Tryz.prog 74 = true:=by kernel_rfl
@[simp] theorem el74:elemOk Tryz.prog 74 = some 5:=by kernel_rfl
@[simp] theorem et74:elemType Tryz.prog 74 = 148:=by kernel_rfl
@[simp] theorem ki76:kindOf Tryz.prog 76 = .agg 75:=by kernel_rfl
@[simp] theorem st76:structT Tryz.prog 76 = some (75,1):=by kernel_rfl
@[simp] theorem tz76:tzero Tryz.prog 76 = some (.st 75 [.nsl]):=by kernel_rfl
@[simp] theorem at78:appTy Tryz.prog 78 = true:=by kernel_rfl
@[simp] theorem el78:elemOk Tryz.prog 78 = some 5:=by kernel_rfl
@[simp] theorem et78:elemType Tryz.prog 78 = 197:=by kernel_rfl
@[simp] theorem ki145:kindOf Tryz.prog 145 = .agg 145:=by kernel_rfl
@[simp] theorem un145:Tryz.prog.underlying 145 = some (.array 3 5):=by kernel_rfl
@[simp] theorem ar145:arrT Tryz.prog 145 = some (145,3):=by kernel_rfl
@[simp] theorem ki146:kindOf Tryz.prog 146 = .agg 146:=by kernel_rfl
@[simp] theorem ar146:arrT Tryz.prog 146 = some (146,3):=by kernel_rfl
@[simp] theorem tz146:tzero Tryz.prog 146 = some (.st 146 [.st 75 [.nsl],.st 75 [.nsl],.st 75 [.nsl]]):=by kernel_rfl
@[simp] theorem ki148:kindOf Tryz.prog 148 = .agg 147:=by kernel_rfl
@[simp] theorem st148:structT Tryz.prog 148 = some (147,4):=by kernel_rfl
@[simp] theorem tz148:tzero Tryz.prog 148 = some (.st 147 [.str [],.int .i64 (0),.nsl,.st 23 [.str [],.nsl]]):=by kernel_rfl
@[simp] theorem ki168:kindOf Tryz.prog 168 = .agg 54:=by kernel_rfl
@[simp] theorem st168:structT Tryz.prog 168 = some (54,2):=by kernel_rfl
@[simp] theorem tz168:tzero Tryz.prog 168 = some (.st 54 [.str [],.nsl]):=by kernel_rfl
@[simp] theorem ki197:kindOf Tryz.prog 197 = .agg 196:=by kernel_rfl
@[simp] theorem st197:structT Tryz.prog 197 = some (196,4):=by kernel_rfl
@[simp] theorem tz197:tzero Tryz.prog 197 = some (.st 196 [.str [],.int .i64 (0),.nsl,.st 26 [.str [],.nsl]]):=by kernel_rfl
@[simp] theorem ki198:kindOf Tryz.prog 198 = .leaf:=by kernel_rfl
@[simp] theorem ki201:kindOf Tryz.prog 201 = .leaf:=by kernel_rfl
@[simp] theorem tz201:tzero Tryz.prog 201 = some (.nmap):=by kernel_rfl
@[simp] theorem el280:elemOk Tryz.prog 280 = some 1:=by kernel_rfl
@[simp] theorem et280:elemType Tryz.prog 280 = 32:=by kernel_rfl
@[simp] theorem ki294:kindOf Tryz.prog 294 = .agg 293:=by kernel_rfl
@[simp] theorem tz294:tzero Tryz.prog 294 = some (.st 293 [.bool false,.str []]):=by kernel_rfl
@[simp] theorem ki298:kindOf Tryz.prog 298 = .agg 297:=by kernel_rfl
@[simp] theorem st298:structT Tryz.prog 298 = some (297,2):=by kernel_rfl
@[simp] theorem tz298:tzero Tryz.prog 298 = some (.st 297 [.st 75 [.nsl],.nmap]):=by kernel_rfl
@[simp] theorem sz23:szs Tryz.prog 23 = some [1,1]:=by kernel_rfl
@[simp] theorem sz26:szs Tryz.prog 26 = some [1,1]:=by kernel_rfl
@[simp] theorem sz54:szs Tryz.prog 54 = some [1,1]:=by kernel_rfl
@[simp] theorem sz75:szs Tryz.prog 75 = some [1]:=by kernel_rfl
@[simp] theorem sz145:szs Tryz.prog 145 = some [1,1,1]:=by kernel_rfl
@[simp] theorem sz147:szs Tryz.prog 147 = some [1,1,1,2]:=by kernel_rfl
@[simp] theorem sz196:szs Tryz.prog 196 = some [1,1,1,2]:=by kernel_rfl
@[simp] theorem sz293:szs Tryz.prog 293 = some [1,1]:=by kernel_rfl
@[simp] theorem sz297:szs Tryz.prog 297 = some [1,1]:=by kernel_rfl
@[simp] theorem bx23:(Gl.bx 23:Option TypeId) = none:=(rfl)
@[simp] theorem bx26:(Gl.bx 26:Option TypeId) = none:=(rfl)
@[simp] theorem bx54:(Gl.bx 54:Option TypeId) = none:=(rfl)
@[simp] theorem bx75:(Gl.bx 75:Option TypeId) = none:=(rfl)
@[simp] theorem bx145:(Gl.bx 145:Option TypeId) = none:=(rfl)
@[simp] theorem bx146:(Gl.bx 146:Option TypeId) = none:=(rfl)
@[simp] theorem bx147:(Gl.bx 147:Option TypeId) = none:=(rfl)
@[simp] theorem bx196:(Gl.bx 196:Option TypeId) = none:=(rfl)
@[simp] theorem bx293:(Gl.bx 293:Option TypeId) = none:=(rfl)
@[simp] theorem bx297:(Gl.bx 297:Option TypeId) = none:=(rfl)
@[simp] theorem co23:Tryz.prog.cellsOf 23 = 2:=by kernel_rfl
@[simp] theorem co26:Tryz.prog.cellsOf 26 = 2:=by kernel_rfl
@[simp] theorem co54:Tryz.prog.cellsOf 54 = 2:=by kernel_rfl
@[simp] theorem co75:Tryz.prog.cellsOf 75 = 1:=by kernel_rfl
@[simp] theorem co147:Tryz.prog.cellsOf 147 = 5:=by kernel_rfl
@[simp] theorem co196:Tryz.prog.cellsOf 196 = 5:=by kernel_rfl
end Go.Abs
namespace Go.Abs
open Go.Proofs
theorem mix:Tryz.prog.follows .mixedOrders = true:=by kernel_rfl
abbrev nf:FuncId → Bool:=fun _=>false
theorem isF14:IsFn Tryz.prog 14 Tryz.f14:=⟨Tryz.func14,by kernel_rfl⟩
theorem isF15:IsFn Tryz.prog 15 Tryz.f15:=⟨Tryz.func15,by kernel_rfl⟩
theorem isF16:IsFn Tryz.prog 16 Tryz.f16:=⟨Tryz.func16,by kernel_rfl⟩
theorem isF17:IsFn Tryz.prog 17 Tryz.f17:=⟨Tryz.func17,by kernel_rfl⟩
theorem isF18:IsFn Tryz.prog 18 Tryz.f18:=⟨Tryz.func18,by kernel_rfl⟩
theorem isF19:IsFn Tryz.prog 19 Tryz.f19:=⟨Tryz.func19,by kernel_rfl⟩
theorem isF20:IsFn Tryz.prog 20 Tryz.f20:=⟨Tryz.func20,by kernel_rfl⟩
theorem isF21:IsFn Tryz.prog 21 Tryz.f21:=⟨Tryz.func21,by kernel_rfl⟩
theorem isF24:IsFn Tryz.prog 24 Tryz.f24:=⟨Tryz.func24,by kernel_rfl⟩
theorem isF25:IsFn Tryz.prog 25 Tryz.f25:=⟨Tryz.func25,by kernel_rfl⟩
theorem isF28:IsFn Tryz.prog 28 Tryz.f28:=⟨Tryz.func28,by kernel_rfl⟩
theorem isF29:IsFn Tryz.prog 29 Tryz.f29:=⟨Tryz.func29,by kernel_rfl⟩
theorem isF30:IsFn Tryz.prog 30 Tryz.f30:=⟨Tryz.func30,by kernel_rfl⟩
theorem isF31:IsFn Tryz.prog 31 Tryz.f31:=⟨Tryz.func31,by kernel_rfl⟩
theorem isF32:IsFn Tryz.prog 32 Tryz.f32:=⟨Tryz.func32,by kernel_rfl⟩
theorem isF33:IsFn Tryz.prog 33 Tryz.f33:=⟨Tryz.func33,by kernel_rfl⟩
theorem isF36:IsFn Tryz.prog 36 Tryz.f36:=⟨Tryz.func36,by kernel_rfl⟩
theorem isF42:IsFn Tryz.prog 42 Tryz.f42:=⟨Tryz.func42,by kernel_rfl⟩
theorem isF43:IsFn Tryz.prog 43 Tryz.f43:=⟨Tryz.func43,by kernel_rfl⟩
theorem isF44:IsFn Tryz.prog 44 Tryz.f44:=⟨Tryz.func44,by kernel_rfl⟩
theorem isF45:IsFn Tryz.prog 45 Tryz.f45:=⟨Tryz.func45,by kernel_rfl⟩
theorem isF46:IsFn Tryz.prog 46 Tryz.f46:=⟨Tryz.func46,by kernel_rfl⟩
theorem isF47:IsFn Tryz.prog 47 Tryz.f47:=⟨Tryz.func47,by kernel_rfl⟩
theorem isF52:IsFn Tryz.prog 52 Tryz.f52:=⟨Tryz.func52,by kernel_rfl⟩
theorem isF55:IsFn Tryz.prog 55 Tryz.f55:=⟨Tryz.func55,by kernel_rfl⟩
theorem isF56:IsFn Tryz.prog 56 Tryz.f56:=⟨Tryz.func56,by kernel_rfl⟩
theorem isF61:IsFn Tryz.prog 61 Tryz.f61:=⟨Tryz.func61,by kernel_rfl⟩
theorem isF63:IsFn Tryz.prog 63 Tryz.f63:=⟨Tryz.func63,by kernel_rfl⟩
theorem isF64:IsFn Tryz.prog 64 Tryz.f64:=⟨Tryz.func64,by kernel_rfl⟩
theorem isF65:IsFn Tryz.prog 65 Tryz.f65:=⟨Tryz.func65,by kernel_rfl⟩
theorem isF66:IsFn Tryz.prog 66 Tryz.f66:=⟨Tryz.func66,by kernel_rfl⟩
theorem isF67:IsFn Tryz.prog 67 Tryz.f67:=⟨Tryz.func67,by kernel_rfl⟩
theorem isF72:IsFn Tryz.prog 72 Tryz.f72:=⟨Tryz.func72,by kernel_rfl⟩
theorem isF73:IsFn Tryz.prog 73 Tryz.f73:=⟨Tryz.func73,by kernel_rfl⟩
theorem isF75:IsFn Tryz.prog 75 Tryz.f75:=⟨Tryz.func75,by kernel_rfl⟩
theorem isF77:IsFn Tryz.prog 77 Tryz.f77:=⟨Tryz.func77,by kernel_rfl⟩
theorem isF86:IsFn Tryz.prog 86 Tryz.f86:=⟨Tryz.func86,by kernel_rfl⟩
theorem isF87:IsFn Tryz.prog 87 Tryz.f87:=⟨Tryz.func87,by kernel_rfl⟩
theorem isF88:IsFn Tryz.prog 88 Tryz.f88:=⟨Tryz.func88,by kernel_rfl⟩
theorem isF89:IsFn Tryz.prog 89 Tryz.f89:=⟨Tryz.func89,by kernel_rfl⟩
theorem isF90:IsFn Tryz.prog 90 Tryz.f90:=⟨Tryz.func90,by kernel_rfl⟩
theorem isF91:IsFn Tryz.prog 91 Tryz.f91:=⟨Tryz.func91,by kernel_rfl⟩
theorem isF92:IsFn Tryz.prog 92 Tryz.f92:=⟨Tryz.func92,by kernel_rfl⟩
theorem isF93:IsFn Tryz.prog 93 Tryz.f93:=⟨Tryz.func93,by kernel_rfl⟩
theorem isF94:IsFn Tryz.prog 94 Tryz.f94:=⟨Tryz.func94,by kernel_rfl⟩
theorem isF95:IsFn Tryz.prog 95 Tryz.f95:=⟨Tryz.func95,by kernel_rfl⟩
theorem isF96:IsFn Tryz.prog 96 Tryz.f96:=⟨Tryz.func96,by kernel_rfl⟩
theorem isF97:IsFn Tryz.prog 97 Tryz.f97:=⟨Tryz.func97,by kernel_rfl⟩
theorem isF98:IsFn Tryz.prog 98 Tryz.f98:=⟨Tryz.func98,by kernel_rfl⟩
theorem isF99:IsFn Tryz.prog 99 Tryz.f99:=⟨Tryz.func99,by kernel_rfl⟩
theorem isF100:IsFn Tryz.prog 100 Tryz.f100:=⟨Tryz.func100,by kernel_rfl⟩
theorem isF101:IsFn Tryz.prog 101 Tryz.f101:=⟨Tryz.func101,by kernel_rfl⟩
theorem isF102:IsFn Tryz.prog 102 Tryz.f102:=⟨Tryz.func102,by kernel_rfl⟩
theorem isF103:IsFn Tryz.prog 103 Tryz.f103:=⟨Tryz.func103,by kernel_rfl⟩
theorem isF104:IsFn Tryz.prog 104 Tryz.f104:=⟨Tryz.func104,by kernel_rfl⟩
theorem isF105:IsFn Tryz.prog 105 Tryz.f105:=⟨Tryz.func105,by kernel_rfl⟩
theorem isF106:IsFn Tryz.prog 106 Tryz.f106:=⟨Tryz.func106,by kernel_rfl⟩
theorem isF107:IsFn Tryz.prog 107 Tryz.f107:=⟨Tryz.func107,by kernel_rfl⟩
theorem isF109:IsFn Tryz.prog 109 Tryz.f109:=⟨Tryz.func109,by kernel_rfl⟩
theorem isF110:IsFn Tryz.prog 110 Tryz.f110:=⟨Tryz.func110,by kernel_rfl⟩
theorem isF111:IsFn Tryz.prog 111 Tryz.f111:=⟨Tryz.func111,by kernel_rfl⟩
theorem isF115:IsFn Tryz.prog 115 Tryz.f115:=⟨Tryz.func115,by kernel_rfl⟩
theorem isF116:IsFn Tryz.prog 116 Tryz.f116:=⟨Tryz.func116,by kernel_rfl⟩
theorem isF117:IsFn Tryz.prog 117 Tryz.f117:=⟨Tryz.func117,by kernel_rfl⟩
theorem isF118:IsFn Tryz.prog 118 Tryz.f118:=⟨Tryz.func118,by kernel_rfl⟩
theorem isF119:IsFn Tryz.prog 119 Tryz.f119:=⟨Tryz.func119,by kernel_rfl⟩
theorem isF122:IsFn Tryz.prog 122 Tryz.f122:=⟨Tryz.func122,by kernel_rfl⟩
theorem isF124:IsFn Tryz.prog 124 Tryz.f124:=⟨Tryz.func124,by kernel_rfl⟩
theorem isF125:IsFn Tryz.prog 125 Tryz.f125:=⟨Tryz.func125,by kernel_rfl⟩
theorem isF126:IsFn Tryz.prog 126 Tryz.f126:=⟨Tryz.func126,by kernel_rfl⟩
theorem isF127:IsFn Tryz.prog 127 Tryz.f127:=⟨Tryz.func127,by kernel_rfl⟩
theorem isF128:IsFn Tryz.prog 128 Tryz.f128:=⟨Tryz.func128,by kernel_rfl⟩
theorem isF129:IsFn Tryz.prog 129 Tryz.f129:=⟨Tryz.func129,by kernel_rfl⟩
theorem isF130:IsFn Tryz.prog 130 Tryz.f130:=⟨Tryz.func130,by kernel_rfl⟩
theorem isF131:IsFn Tryz.prog 131 Tryz.f131:=⟨Tryz.func131,by kernel_rfl⟩
theorem isF132:IsFn Tryz.prog 132 Tryz.f132:=⟨Tryz.func132,by kernel_rfl⟩
theorem isF133:IsFn Tryz.prog 133 Tryz.f133:=⟨Tryz.func133,by kernel_rfl⟩
theorem isF134:IsFn Tryz.prog 134 Tryz.f134:=⟨Tryz.func134,by kernel_rfl⟩
theorem isF137:IsFn Tryz.prog 137 Tryz.f137:=⟨Tryz.func137,by kernel_rfl⟩
theorem isF138:IsFn Tryz.prog 138 Tryz.f138:=⟨Tryz.func138,by kernel_rfl⟩
theorem isF139:IsFn Tryz.prog 139 Tryz.f139:=⟨Tryz.func139,by kernel_rfl⟩
theorem isF140:IsFn Tryz.prog 140 Tryz.f140:=⟨Tryz.func140,by kernel_rfl⟩
theorem isF141:IsFn Tryz.prog 141 Tryz.f141:=⟨Tryz.func141,by kernel_rfl⟩
theorem isF144:IsFn Tryz.prog 144 Tryz.f144:=⟨Tryz.func144,by kernel_rfl⟩
theorem isF145:IsFn Tryz.prog 145 Tryz.f145:=⟨Tryz.func145,by kernel_rfl⟩
theorem isF146:IsFn Tryz.prog 146 Tryz.f146:=⟨Tryz.func146,by kernel_rfl⟩
theorem isF148:IsFn Tryz.prog 148 Tryz.f148:=⟨Tryz.func148,by kernel_rfl⟩
theorem isF151:IsFn Tryz.prog 151 Tryz.f151:=⟨Tryz.func151,by kernel_rfl⟩
theorem isF152:IsFn Tryz.prog 152 Tryz.f152:=⟨Tryz.func152,by kernel_rfl⟩
theorem isF153:IsFn Tryz.prog 153 Tryz.f153:=⟨Tryz.func153,by kernel_rfl⟩
theorem isF154:IsFn Tryz.prog 154 Tryz.f154:=⟨Tryz.func154,by kernel_rfl⟩
theorem isF157:IsFn Tryz.prog 157 Tryz.f157:=⟨Tryz.func157,by kernel_rfl⟩
theorem isF158:IsFn Tryz.prog 158 Tryz.f158:=⟨Tryz.func158,by kernel_rfl⟩
theorem isF159:IsFn Tryz.prog 159 Tryz.f159:=⟨Tryz.func159,by kernel_rfl⟩
theorem isF160:IsFn Tryz.prog 160 Tryz.f160:=⟨Tryz.func160,by kernel_rfl⟩
theorem isF161:IsFn Tryz.prog 161 Tryz.f161:=⟨Tryz.func161,by kernel_rfl⟩
theorem isF162:IsFn Tryz.prog 162 Tryz.f162:=⟨Tryz.func162,by kernel_rfl⟩
theorem isF163:IsFn Tryz.prog 163 Tryz.f163:=⟨Tryz.func163,by kernel_rfl⟩
theorem isF164:IsFn Tryz.prog 164 Tryz.f164:=⟨Tryz.func164,by kernel_rfl⟩
theorem isF165:IsFn Tryz.prog 165 Tryz.f165:=⟨Tryz.func165,by kernel_rfl⟩
theorem isF166:IsFn Tryz.prog 166 Tryz.f166:=⟨Tryz.func166,by kernel_rfl⟩
theorem isF167:IsFn Tryz.prog 167 Tryz.f167:=⟨Tryz.func167,by kernel_rfl⟩
theorem isF168:IsFn Tryz.prog 168 Tryz.f168:=⟨Tryz.func168,by kernel_rfl⟩
theorem isF169:IsFn Tryz.prog 169 Tryz.f169:=⟨Tryz.func169,by kernel_rfl⟩
theorem isF170:IsFn Tryz.prog 170 Tryz.f170:=⟨Tryz.func170,by kernel_rfl⟩
theorem isF171:IsFn Tryz.prog 171 Tryz.f171:=⟨Tryz.func171,by kernel_rfl⟩
theorem isF172:IsFn Tryz.prog 172 Tryz.f172:=⟨Tryz.func172,by kernel_rfl⟩
theorem isF177:IsFn Tryz.prog 177 Tryz.f177:=⟨Tryz.func177,by kernel_rfl⟩
theorem isF178:IsFn Tryz.prog 178 Tryz.f178:=⟨Tryz.func178,by kernel_rfl⟩
theorem isF179:IsFn Tryz.prog 179 Tryz.f179:=⟨Tryz.func179,by kernel_rfl⟩
theorem isF180:IsFn Tryz.prog 180 Tryz.f180:=⟨Tryz.func180,by kernel_rfl⟩
theorem isF181:IsFn Tryz.prog 181 Tryz.f181:=⟨Tryz.func181,by kernel_rfl⟩
theorem isF182:IsFn Tryz.prog 182 Tryz.f182:=⟨Tryz.func182,by kernel_rfl⟩
theorem isF183:IsFn Tryz.prog 183 Tryz.f183:=⟨Tryz.func183,by kernel_rfl⟩
theorem isF184:IsFn Tryz.prog 184 Tryz.f184:=⟨Tryz.func184,by kernel_rfl⟩
theorem isF185:IsFn Tryz.prog 185 Tryz.f185:=⟨Tryz.func185,by kernel_rfl⟩
theorem isF186:IsFn Tryz.prog 186 Tryz.f186:=⟨Tryz.func186,by kernel_rfl⟩
theorem isF187:IsFn Tryz.prog 187 Tryz.f187:=⟨Tryz.func187,by kernel_rfl⟩
theorem isF188:IsFn Tryz.prog 188 Tryz.f188:=⟨Tryz.func188,by kernel_rfl⟩
theorem isF189:IsFn Tryz.prog 189 Tryz.f189:=⟨Tryz.func189,by kernel_rfl⟩
theorem isF190:IsFn Tryz.prog 190 Tryz.f190:=⟨Tryz.func190,by kernel_rfl⟩
theorem isF191:IsFn Tryz.prog 191 Tryz.f191:=⟨Tryz.func191,by kernel_rfl⟩
theorem isF192:IsFn Tryz.prog 192 Tryz.f192:=⟨Tryz.func192,by kernel_rfl⟩
theorem isF193:IsFn Tryz.prog 193 Tryz.f193:=⟨Tryz.func193,by kernel_rfl⟩
theorem isF194:IsFn Tryz.prog 194 Tryz.f194:=⟨Tryz.func194,by kernel_rfl⟩
theorem isF195:IsFn Tryz.prog 195 Tryz.f195:=⟨Tryz.func195,by kernel_rfl⟩
theorem isF196:IsFn Tryz.prog 196 Tryz.f196:=⟨Tryz.func196,by kernel_rfl⟩
theorem isF197:IsFn Tryz.prog 197 Tryz.f197:=⟨Tryz.func197,by kernel_rfl⟩
theorem isF199:IsFn Tryz.prog 199 Tryz.f199:=⟨Tryz.func199,by kernel_rfl⟩
theorem isF200:IsFn Tryz.prog 200 Tryz.f200:=⟨Tryz.func200,by kernel_rfl⟩
theorem isF201:IsFn Tryz.prog 201 Tryz.f201:=⟨Tryz.func201,by kernel_rfl⟩
theorem isF202:IsFn Tryz.prog 202 Tryz.f202:=⟨Tryz.func202,by kernel_rfl⟩
theorem isF203:IsFn Tryz.prog 203 Tryz.f203:=⟨Tryz.func203,by kernel_rfl⟩
theorem isF204:IsFn Tryz.prog 204 Tryz.f204:=⟨Tryz.func204,by kernel_rfl⟩
theorem isF205:IsFn Tryz.prog 205 Tryz.f205:=⟨Tryz.func205,by kernel_rfl⟩
theorem isF206:IsFn Tryz.prog 206 Tryz.f206:=⟨Tryz.func206,by kernel_rfl⟩
theorem isF207:IsFn Tryz.prog 207 Tryz.f207:=⟨Tryz.func207,by kernel_rfl⟩
theorem isF208:IsFn Tryz.prog 208 Tryz.f208:=⟨Tryz.func208,by kernel_rfl⟩
theorem isF209:IsFn Tryz.prog 209 Tryz.f209:=⟨Tryz.func209,by kernel_rfl⟩
theorem isF210:IsFn Tryz.prog 210 Tryz.f210:=⟨Tryz.func210,by kernel_rfl⟩
theorem isF212:IsFn Tryz.prog 212 Tryz.f212:=⟨Tryz.func212,by kernel_rfl⟩
theorem isF213:IsFn Tryz.prog 213 Tryz.f213:=⟨Tryz.func213,by kernel_rfl⟩
theorem isF214:IsFn Tryz.prog 214 Tryz.f214:=⟨Tryz.func214,by kernel_rfl⟩
theorem isF215:IsFn Tryz.prog 215 Tryz.f215:=⟨Tryz.func215,by kernel_rfl⟩
theorem isF216:IsFn Tryz.prog 216 Tryz.f216:=⟨Tryz.func216,by kernel_rfl⟩
theorem isF217:IsFn Tryz.prog 217 Tryz.f217:=⟨Tryz.func217,by kernel_rfl⟩
theorem isF218:IsFn Tryz.prog 218 Tryz.f218:=⟨Tryz.func218,by kernel_rfl⟩
theorem isF219:IsFn Tryz.prog 219 Tryz.f219:=⟨Tryz.func219,by kernel_rfl⟩
theorem isF220:IsFn Tryz.prog 220 Tryz.f220:=⟨Tryz.func220,by kernel_rfl⟩
theorem isF221:IsFn Tryz.prog 221 Tryz.f221:=⟨Tryz.func221,by kernel_rfl⟩
theorem isF222:IsFn Tryz.prog 222 Tryz.f222:=⟨Tryz.func222,by kernel_rfl⟩
theorem isF223:IsFn Tryz.prog 223 Tryz.f223:=⟨Tryz.func223,by kernel_rfl⟩
theorem isF225:IsFn Tryz.prog 225 Tryz.f225:=⟨Tryz.func225,by kernel_rfl⟩
theorem isF226:IsFn Tryz.prog 226 Tryz.f226:=⟨Tryz.func226,by kernel_rfl⟩
theorem isF227:IsFn Tryz.prog 227 Tryz.f227:=⟨Tryz.func227,by kernel_rfl⟩
theorem isF228:IsFn Tryz.prog 228 Tryz.f228:=⟨Tryz.func228,by kernel_rfl⟩
theorem isF229:IsFn Tryz.prog 229 Tryz.f229:=⟨Tryz.func229,by kernel_rfl⟩
theorem isF230:IsFn Tryz.prog 230 Tryz.f230:=⟨Tryz.func230,by kernel_rfl⟩
theorem isF231:IsFn Tryz.prog 231 Tryz.f231:=⟨Tryz.func231,by kernel_rfl⟩
theorem isF232:IsFn Tryz.prog 232 Tryz.f232:=⟨Tryz.func232,by kernel_rfl⟩
theorem isF233:IsFn Tryz.prog 233 Tryz.f233:=⟨Tryz.func233,by kernel_rfl⟩
theorem isF234:IsFn Tryz.prog 234 Tryz.f234:=⟨Tryz.func234,by kernel_rfl⟩
theorem isF235:IsFn Tryz.prog 235 Tryz.f235:=⟨Tryz.func235,by kernel_rfl⟩
theorem isF237:IsFn Tryz.prog 237 Tryz.f237:=⟨Tryz.func237,by kernel_rfl⟩
theorem isF238:IsFn Tryz.prog 238 Tryz.f238:=⟨Tryz.func238,by kernel_rfl⟩
theorem isF239:IsFn Tryz.prog 239 Tryz.f239:=⟨Tryz.func239,by kernel_rfl⟩
theorem isF240:IsFn Tryz.prog 240 Tryz.f240:=⟨Tryz.func240,by kernel_rfl⟩
theorem isF241:IsFn Tryz.prog 241 Tryz.f241:=⟨Tryz.func241,by kernel_rfl⟩
theorem isF242:IsFn Tryz.prog 242 Tryz.f242:=⟨Tryz.func242,by kernel_rfl⟩
theorem isF243:IsFn Tryz.prog 243 Tryz.f243:=⟨Tryz.func243,by kernel_rfl⟩
theorem isF244:IsFn Tryz.prog 244 Tryz.f244:=⟨Tryz.func244,by kernel_rfl⟩
theorem isF245:IsFn Tryz.prog 245 Tryz.f245:=⟨Tryz.func245,by kernel_rfl⟩
theorem isF246:IsFn Tryz.prog 246 Tryz.f246:=⟨Tryz.func246,by kernel_rfl⟩
theorem isF247:IsFn Tryz.prog 247 Tryz.f247:=⟨Tryz.func247,by kernel_rfl⟩
theorem isF248:IsFn Tryz.prog 248 Tryz.f248:=⟨Tryz.func248,by kernel_rfl⟩
theorem isF249:IsFn Tryz.prog 249 Tryz.f249:=⟨Tryz.func249,by kernel_rfl⟩
theorem isF250:IsFn Tryz.prog 250 Tryz.f250:=⟨Tryz.func250,by kernel_rfl⟩
theorem isF251:IsFn Tryz.prog 251 Tryz.f251:=⟨Tryz.func251,by kernel_rfl⟩
theorem isF252:IsFn Tryz.prog 252 Tryz.f252:=⟨Tryz.func252,by kernel_rfl⟩
theorem isF255:IsFn Tryz.prog 255 Tryz.f255:=⟨Tryz.func255,by kernel_rfl⟩
theorem isF256:IsFn Tryz.prog 256 Tryz.f256:=⟨Tryz.func256,by kernel_rfl⟩
theorem isF257:IsFn Tryz.prog 257 Tryz.f257:=⟨Tryz.func257,by kernel_rfl⟩
theorem isF258:IsFn Tryz.prog 258 Tryz.f258:=⟨Tryz.func258,by kernel_rfl⟩
theorem isF259:IsFn Tryz.prog 259 Tryz.f259:=⟨Tryz.func259,by kernel_rfl⟩
theorem isF260:IsFn Tryz.prog 260 Tryz.f260:=⟨Tryz.func260,by kernel_rfl⟩
theorem isF261:IsFn Tryz.prog 261 Tryz.f261:=⟨Tryz.func261,by kernel_rfl⟩
theorem isF262:IsFn Tryz.prog 262 Tryz.f262:=⟨Tryz.func262,by kernel_rfl⟩
theorem isF263:IsFn Tryz.prog 263 Tryz.f263:=⟨Tryz.func263,by kernel_rfl⟩
theorem isF264:IsFn Tryz.prog 264 Tryz.f264:=⟨Tryz.func264,by kernel_rfl⟩
theorem isF265:IsFn Tryz.prog 265 Tryz.f265:=⟨Tryz.func265,by kernel_rfl⟩
theorem isF266:IsFn Tryz.prog 266 Tryz.f266:=⟨Tryz.func266,by kernel_rfl⟩
theorem isF267:IsFn Tryz.prog 267 Tryz.f267:=⟨Tryz.func267,by kernel_rfl⟩
theorem isF268:IsFn Tryz.prog 268 Tryz.f268:=⟨Tryz.func268,by kernel_rfl⟩
theorem isF269:IsFn Tryz.prog 269 Tryz.f269:=⟨Tryz.func269,by kernel_rfl⟩
theorem isF270:IsFn Tryz.prog 270 Tryz.f270:=⟨Tryz.func270,by kernel_rfl⟩
theorem isF271:IsFn Tryz.prog 271 Tryz.f271:=⟨Tryz.func271,by kernel_rfl⟩
theorem isF273:IsFn Tryz.prog 273 Tryz.f273:=⟨Tryz.func273,by kernel_rfl⟩
theorem isF275:IsFn Tryz.prog 275 Tryz.f275:=⟨Tryz.func275,by kernel_rfl⟩
theorem isF276:IsFn Tryz.prog 276 Tryz.f276:=⟨Tryz.func276,by kernel_rfl⟩
theorem isF277:IsFn Tryz.prog 277 Tryz.f277:=⟨Tryz.func277,by kernel_rfl⟩
theorem isF278:IsFn Tryz.prog 278 Tryz.f278:=⟨Tryz.func278,by kernel_rfl⟩
theorem isF279:IsFn Tryz.prog 279 Tryz.f279:=⟨Tryz.func279,by kernel_rfl⟩
theorem isF280:IsFn Tryz.prog 280 Tryz.f280:=⟨Tryz.func280,by kernel_rfl⟩
theorem isF281:IsFn Tryz.prog 281 Tryz.f281:=⟨Tryz.func281,by kernel_rfl⟩
theorem isF282:IsFn Tryz.prog 282 Tryz.f282:=⟨Tryz.func282,by kernel_rfl⟩
theorem isF283:IsFn Tryz.prog 283 Tryz.f283:=⟨Tryz.func283,by kernel_rfl⟩
theorem isF284:IsFn Tryz.prog 284 Tryz.f284:=⟨Tryz.func284,by kernel_rfl⟩
theorem isF285:IsFn Tryz.prog 285 Tryz.f285:=⟨Tryz.func285,by kernel_rfl⟩
theorem isF286:IsFn Tryz.prog 286 Tryz.f286:=⟨Tryz.func286,by kernel_rfl⟩
theorem isF287:IsFn Tryz.prog 287 Tryz.f287:=⟨Tryz.func287,by kernel_rfl⟩
theorem isF288:IsFn Tryz.prog 288 Tryz.f288:=⟨Tryz.func288,by kernel_rfl⟩
theorem isF289:IsFn Tryz.prog 289 Tryz.f289:=⟨Tryz.func289,by kernel_rfl⟩
theorem isF290:IsFn Tryz.prog 290 Tryz.f290:=⟨Tryz.func290,by kernel_rfl⟩
theorem isF291:IsFn Tryz.prog 291 Tryz.f291:=⟨Tryz.func291,by kernel_rfl⟩
theorem isF292:IsFn Tryz.prog 292 Tryz.f292:=⟨Tryz.func292,by kernel_rfl⟩
theorem isF293:IsFn Tryz.prog 293 Tryz.f293:=⟨Tryz.func293,by kernel_rfl⟩
theorem isF295:IsFn Tryz.prog 295 Tryz.f295:=⟨Tryz.func295,by kernel_rfl⟩
theorem isF296:IsFn Tryz.prog 296 Tryz.f296:=⟨Tryz.func296,by kernel_rfl⟩
theorem isF298:IsFn Tryz.prog 298 Tryz.f298:=⟨Tryz.func298,by kernel_rfl⟩
theorem isF299:IsFn Tryz.prog 299 Tryz.f299:=⟨Tryz.func299,by kernel_rfl⟩
theorem isF300:IsFn Tryz.prog 300 Tryz.f300:=⟨Tryz.func300,by kernel_rfl⟩
theorem isF301:IsFn Tryz.prog 301 Tryz.f301:=⟨Tryz.func301,by kernel_rfl⟩
theorem isF302:IsFn Tryz.prog 302 Tryz.f302:=⟨Tryz.func302,by kernel_rfl⟩
theorem isF303:IsFn Tryz.prog 303 Tryz.f303:=⟨Tryz.func303,by kernel_rfl⟩
theorem isF304:IsFn Tryz.prog 304 Tryz.f304:=⟨Tryz.func304,by kernel_rfl⟩
theorem isF305:IsFn Tryz.prog 305 Tryz.f305:=⟨Tryz.func305,by kernel_rfl⟩
theorem isF306:IsFn Tryz.prog 306 Tryz.f306:=⟨Tryz.func306,by kernel_rfl⟩
theorem isF307:IsFn Tryz.prog 307 Tryz.f307:=⟨Tryz.func307,by kernel_rfl⟩
theorem isF308:IsFn Tryz.prog 308 Tryz.f308:=⟨Tryz.func308,by kernel_rfl⟩
theorem isF309:IsFn Tryz.prog 309 Tryz.f309:=⟨Tryz.func309,by kernel_rfl⟩
theorem isF310:IsFn Tryz.prog 310 Tryz.f310:=⟨Tryz.func310,by kernel_rfl⟩
theorem isF311:IsFn Tryz.prog 311 Tryz.f311:=⟨Tryz.func311,by kernel_rfl⟩
theorem isF312:IsFn Tryz.prog 312 Tryz.f312:=⟨Tryz.func312,by kernel_rfl⟩
theorem isF313:IsFn Tryz.prog 313 Tryz.f313:=⟨Tryz.func313,by kernel_rfl⟩
theorem isF314:IsFn Tryz.prog 314 Tryz.f314:=⟨Tryz.func314,by kernel_rfl⟩
theorem isF315:IsFn Tryz.prog 315 Tryz.f315:=⟨Tryz.func315,by kernel_rfl⟩
theorem isF316:IsFn Tryz.prog 316 Tryz.f316:=⟨Tryz.func316,by kernel_rfl⟩
theorem isF317:IsFn Tryz.prog 317 Tryz.f317:=⟨Tryz.func317,by kernel_rfl⟩
theorem isF318:IsFn Tryz.prog 318 Tryz.f318:=⟨Tryz.func318,by kernel_rfl⟩
theorem isF319:IsFn Tryz.prog 319 Tryz.f319:=⟨Tryz.func319,by kernel_rfl⟩
theorem isF320:IsFn Tryz.prog 320 Tryz.f320:=⟨Tryz.func320,by kernel_rfl⟩
theorem isF321:IsFn Tryz.prog 321 Tryz.f321:=⟨Tryz.func321,by kernel_rfl⟩
theorem isF322:IsFn Tryz.prog 322 Tryz.f322:=⟨Tryz.func322,by kernel_rfl⟩
theorem isF323:IsFn Tryz.prog 323 Tryz.f323:=⟨Tryz.func323,by kernel_rfl⟩
theorem isF324:IsFn Tryz.prog 324 Tryz.f324:=⟨Tryz.func324,by kernel_rfl⟩
theorem isF325:IsFn Tryz.prog 325 Tryz.f325:=⟨Tryz.func325,by kernel_rfl⟩
theorem isF326:IsFn Tryz.prog 326 Tryz.f326:=⟨Tryz.func326,by kernel_rfl⟩
theorem isF327:IsFn Tryz.prog 327 Tryz.f327:=⟨Tryz.func327,by kernel_rfl⟩
theorem isF328:IsFn Tryz.prog 328 Tryz.f328:=⟨Tryz.func328,by kernel_rfl⟩
theorem isF329:IsFn Tryz.prog 329 Tryz.f329:=⟨Tryz.func329,by kernel_rfl⟩
theorem isF330:IsFn Tryz.prog 330 Tryz.f330:=⟨Tryz.func330,by kernel_rfl⟩
theorem isF331:IsFn Tryz.prog 331 Tryz.f331:=⟨Tryz.func331,by kernel_rfl⟩
theorem isF332:IsFn Tryz.prog 332 Tryz.f332:=⟨Tryz.func332,by kernel_rfl⟩
theorem isF333:IsFn Tryz.prog 333 Tryz.f333:=⟨Tryz.func333,by kernel_rfl⟩
theorem isF334:IsFn Tryz.prog 334 Tryz.f334:=⟨Tryz.func334,by kernel_rfl⟩
theorem isF335:IsFn Tryz.prog 335 Tryz.f335:=⟨Tryz.func335,by kernel_rfl⟩
theorem isF336:IsFn Tryz.prog 336 Tryz.f336:=⟨Tryz.func336,by kernel_rfl⟩
end Go.Abs
namespace Go.Abs
open Go.Proofs
def firstE:List Int → Int
 | []=>0
 | e :: r=>if e = 0 then firstE r else e
def whenE (b:Bool) (e:Int):Int:=if b then e else 0
def isLet (c:Int):Bool:=(decide (97 ≤ c) && decide (c ≤ 122)) || (decide (65 ≤ c) && decide (c ≤ 90))
def isDig (c:Int):Bool:=decide (48 ≤ c) && decide (c ≤ 57)
def okN:Nat → List Nat → Bool
 | _,[]=>true
 | i,c :: r=>(isLet c || (decide (i ≠ 0) && (isDig c || decide ((c:Int) = 95)))) && okN (i + 1) r
def isName (s:List Nat):Bool:=decide (1 ≤ s.length) && decide (s.length ≤ 24) && okN 0 s
structure RowD where
 key:List Nat
 vals:List Int
 deriving DecidableEq
structure EditD where
 kind:List Nat
 row:RowD
 deriving DecidableEq
def eRow (r:RowD):PV:=.st 54 [.str r.key,.seq (r.vals.map (.int .i64))]
def eRows (l:List RowD):PV:=.seq (l.map eRow)
def far (n:Int):Bool:=decide (n < -999999999) || decide (n > 999999999)
def chkVals (l:List Int):Int:=firstE [whenE ((l.length:Int) == 0) 12,whenE (decide (16 < (l.length:Int))) 5,whenE (l.any far) 3]
def chkRowsFrom (seen:List (List Nat)):List RowD → Int
 | []=>0
 | r :: rs=>if firstE [whenE (!isName r.key) 8,whenE (seen.contains r.key) 9,chkVals r.vals] = 0 then chkRowsFrom (seen ++ [r.key]) rs
  else firstE [whenE (!isName r.key) 8,whenE (seen.contains r.key) 9,chkVals r.vals]
def chkRows (l:List RowD):Int:=if l.length > 256 then 5 else chkRowsFrom [] l
def kKeep:List Nat:=[107,101,101,112]
def kDrop:List Nat:=[100,114,111,112]
def kAdd:List Nat:=[97,100,100]
def known (k:List Nat):Bool:=k == kKeep || k == kDrop || k == kAdd
def shortRow (r:RowD):Bool:=decide (r.key.length ≤ 60) && decide (r.vals.length ≤ 19)
def shortRows (l:List RowD) (n:Nat):Bool:=(decide (l.length ≤ n) || decide (256 < l.length)) && decide (l.length ≤ 259) && l.all shortRow
theorem any_drop {α:Type} {p:α → Bool} {l:List α} {i:Nat} (hi:i < l.length):(l.drop i).any p = (p l[i] || (l.drop (i + 1)).any p):=by
 rw [List.drop_eq_getElem_cons hi,List.any_cons]
theorem all_drop {α:Type} {p:α → Bool} {l:List α} {i:Nat} (hi:i < l.length):(l.drop i).all p = (p l[i] && (l.drop (i + 1)).all p):=by
 rw [List.drop_eq_getElem_cons hi,List.all_cons]
theorem take_next {α β:Type} (f:α → β) {l:List α} {i:Nat} (hi:i < l.length):(l.map f).take (i + 1) = (l.map f).take i ++ [f l[i]]:=by
 rw [List.take_succ_eq_append_getElem (by simpa using hi)]; simp
@[simp] theorem shp_eRow {r:RowD}:shp (eRow r) = .agg 54:=rfl
attribute [simp] nilOf nilEq lookupM eqP updateM
end Go.Abs
namespace Go.Abs
open Go.Proofs
set_option maxRecDepth 100000
section
variable {H:Type} {w:World} {Imm:Nat → Prop}
theorem pvcl_mem {P:Program}:∀ {l:List Nat} {es:List PV} {css:List (List Value)},PVCl P w Imm l es css → ∀ e ∈ es,∃ c,PVC P w Imm e c
 | _,[],_,_=>fun e he=>by cases he
 | [],v :: vs,_,h=>by simp [PVCl] at h
 | n :: ns,v :: vs,css,h=>by
  simp only [PVCl] at h
  obtain ⟨c,cs,_,h1,_,h2⟩:=h
  intro e he
  rcases List.mem_cons.1 he with rfl | he
  · exact ⟨c,h1⟩
  · exact pvcl_mem h2 e he
theorem seq_of {P : Program} {α : Type} {n : Nat} {t e : TypeId} {F : α → PV} (ht : P.underlying t = some (.slice e)) (hF : ∀ (d : DataW H) c, PVC P w Imm (toPV P n e d) c → ∃ a, toPV P n e d = F a)
    {d:DataW H} {cs:List Value} (h:PVC P w Imm (toPV P (n + 1) t d) cs):∃ l:List α,toPV P (n + 1) t d = .seq (l.map F) ∧ ∀ es sp,d = .slice es sp → l.length = es.length:=by
 cases d with
 | nil=>exact ⟨[],by simp [toPV,ht],fun _ _ h=>by cases h⟩
 | slice ds sp =>
  simp only [toPV,ht,PVC] at h ⊢
  have hm:∀ e' ∈ ds.map (toPV P n e),∃ c,PVC P w Imm e' c:=by
   rcases h with ⟨h,_⟩ | ⟨_,_,_,_,css,h,_⟩
   · rw [h]; intro _ h; cases h
   · exact pvcl_mem h
  have key:∀ ds:List (DataW H),(∀ e' ∈ ds.map (toPV P n e),∃ c,PVC P w Imm e' c) → ∃ l:List α,ds.map (toPV P n e) = l.map F ∧ l.length = ds.length:=by
   intro ds
   induction ds with
   | nil=>intro _; exact ⟨[],rfl,rfl⟩
   | cons d r ih =>
    intro hm
    obtain ⟨c,hc⟩:=hm _ List.mem_cons_self
    obtain ⟨a,ha⟩:=hF d c hc
    obtain ⟨l,h1,h2⟩:=ih fun e' he=>hm e' (List.mem_cons_of_mem _ he)
    exact ⟨a :: l,by simp only [List.map_cons]; rw [ha,h1],by simp [h2]⟩
  obtain ⟨l,h1,h2⟩:=key ds hm
  exact ⟨l,by rw [h1],fun es sp' he=>by cases he; exact h2⟩
 | lit l=>simp only [toPV,ht,PVC] at h
 | ptr d=>simp only [toPV,ht,PVC] at h
 | agg l=>simp only [toPV,ht,PVC] at h
 | iface a b=>simp only [toPV,ht,PVC] at h
 | map l=>simp only [toPV,ht,PVC] at h
 | held a=>simp only [toPV,ht,PVC] at h
theorem int_of {n:Nat} (d:DataW H) (c) (h:PVC Tryz.prog w Imm (toPV Tryz.prog (n + 1) 3 d) c):∃ z:Int,toPV Tryz.prog (n + 1) 3 d = .int .i64 z:=by
 cases d with
 | lit l =>
  cases l with
  | int k z =>
   simp only [toPV,un3] at h ⊢
   split at h
   · rename_i hz; rw [if_pos hz]; exact ⟨_,rfl⟩
   · simp only [PVC] at h
  | _=>simp only [toPV,un3,PVC] at h
 | _=>simp only [toPV,un3,PVC] at h
theorem str_of {n:Nat} (d:DataW H) (c) (h:PVC Tryz.prog w Imm (toPV Tryz.prog (n + 1) 9 d) c):∃ s:List Nat,toPV Tryz.prog (n + 1) 9 d = .str s:=by
 cases d with
 | lit l=>cases l <;> first | exact ⟨_,by simp only [toPV,un9]; rfl⟩ | simp only [toPV,un9,PVC] at h
 | _=>simp only [toPV,un9,PVC] at h
theorem un168':∃ f0 f1:Field,Tryz.prog.underlying 168 = some (.struct #[f0,f1]) ∧ f0.type = 9 ∧ f1.type = 53:=⟨_,_,Tryz.underlying168,rfl,rfl⟩
theorem uid168:Tryz.prog.underlyingId 168 = 54:=by kernel_rfl
theorem two_of {P : Program} {n : Nat} {t : TypeId} {f0 f1 : Field} {k0 k1 : Nat} (ht : P.underlying t = some (.struct #[f0, f1])) (hs : szs P (P.underlyingId t) = some [k0, k1])
    {d:DataW H} {cs:List Value} (h:PVC P w Imm (toPV P (n + 1) t d) cs) :
    ∃ (x y:DataW H) (c0 c1:List Value),toPV P (n + 1) t d = .st (P.underlyingId t) [toPV P n f0.type x,toPV P n f1.type y] ∧ PVC P w Imm (toPV P n f0.type x) c0 ∧ PVC P w Imm (toPV P n f1.type y) c1:=by
 cases d with
 | agg l =>
  simp only [toPV,ht,PVC] at h ⊢
  obtain ⟨l',css,h1,h2,_⟩:=h
  rw [hs] at h1; cases h1
  match l,h2 with
  | [],h2=>simp [PVCl] at h2
  | [x],h2=>simp [PVCl] at h2
  | x :: y :: r,h2 =>
   simp only [List.zip_cons_cons,List.map_cons,PVCl,List.zip_nil_left,List.map_nil] at h2 ⊢
   obtain ⟨c0,_,_,g1,_,c1,_,_,g2,_⟩:=h2
   exact ⟨x,y,c0,c1,rfl,g1,g2⟩
 | _=>simp only [toPV,ht,PVC] at h
theorem row_of {n:Nat} (d:DataW H) (c) (h:PVC Tryz.prog w Imm (toPV Tryz.prog (n + 3) 168 d) c):∃ r:RowD,toPV Tryz.prog (n + 3) 168 d = eRow r:=by
 obtain ⟨f0,f1,hu,t0,t1⟩:=un168'
 obtain ⟨x,y,c0,c1,h1,h2,h3⟩:=two_of hu (by rw [uid168]; exact sz54) h
 rw [t0] at h1 h2; rw [t1] at h1 h3
 obtain ⟨s,hs⟩:=str_of x c0 h2
 obtain ⟨l,hl,_⟩:=seq_of un53 (fun d c hh=>int_of d c hh) h3
 exact ⟨⟨s,l⟩,by rw [h1,hs,hl,uid168]; rfl⟩
end
end Go.Abs
namespace Go.Abs
open Go.Proofs
set_option maxRecDepth 100000
theorem laidVars_mem {P : Program} {W : World} {name : String} {d : DataW Unit} : ∀ {l : List (String × DataW Unit)} {ps : List MemPlace}, DataW.LaidVars P W l ps → (name, d) ∈ l →
    ∃ g t cs fuel p,P.globalNamed name = some g ∧ (P.globals[g]?).map (·.type) = some t ∧ W.var? P name = some cs ∧ DataW.trod (fun _=>()) P W 0 (fun _=>true) false fuel t cs.toList = some (d,p) ∧ ∀ x ∈ MemPlace.row ⟨g,0,none⟩ cs.size,x ∈ ps
 | [],_,_,h=>by cases h
 | (n,d0) :: r,ps,h,hm=>by
  obtain ⟨g,t,cs,fuel,p,q,h1,h2,h3,h4,h5,rfl⟩:=h
  rcases List.mem_cons.1 hm with e | hm
  · cases e
    exact ⟨g,t,cs,fuel,p,h1,h2,h3,h4,fun x hx=>by simp [hx]⟩
  · obtain ⟨g',t',cs',fuel',p',k1,k2,k3,k4,k5⟩:=laidVars_mem h5 hm
    exact ⟨g',t',cs',fuel',p',k1,k2,k3,k4,fun x hx=>by simp [k5 x hx]⟩
end Go.Abs
namespace Go.Abs
open Go.Proofs Go.Proofs.YthckccalfpnmaaaGreatDoor
set_option maxRecDepth 100000
theorem pow_named : Tryz.prog.globalNamed "internal/strconv.uint64pow10" = some 1 := by kernel_rfl
theorem laid_filter:((Rows.officeScriptsUptoRow.laid).filter fun x=>x.2.handleName?.isSome) = []:=by kernel_rfl
theorem pow_t:(Tryz.prog.globals[1]?).map (·.type) = some 401:=by kernel_rfl
theorem pow_u:Tryz.prog.underlying 401 = some (.array 20 320):=by kernel_rfl
theorem pow_e:Tryz.prog.underlying 320 = some (.int .u64):=by kernel_rfl
theorem pow_ce:Tryz.prog.cellsOf 320 = 1:=by kernel_rfl
theorem pow_ct:Tryz.prog.cellsOf 401 = 20:=by kernel_rfl
theorem glob_ok {W:World} (h:laidMetH Tryz.prog Rows.officeScriptsUptoRow.laid W):GlobOk Tryz.prog W (fun k=>k < W.heap.size):=by
 unfold laidMetH at h
 rw [laid_filter] at h
 obtain ⟨ps,hv,_,hz⟩:=h
 obtain ⟨g, t, cs, fuel, p, k1, k2, k3, k4, k5⟩ := laidVars_mem (name := "internal/strconv.uint64pow10") (d := Lib.tabData .u64 Lib.pow10Tab) hv (by
  show _ ∈ [_,_,_,_,_,_,_]
  exact List.mem_cons_of_mem _ (List.mem_cons_of_mem _ List.mem_cons_self))
 rw [pow_named] at k1; cases k1
 rw [pow_t] at k2; cases k2
 have hcs:=Lib.cells_of_tab pow_u pow_e pow_ce pow_ct k4
 have hcs':cs = tab10:=by rw [tab10,← hcs]
 have hlen:0 < cs.size:=by rw [hcs']; decide
 obtain ⟨⟨c,T,hh⟩,_⟩:=hz 1 0 (k5 _ (by simp [MemPlace.row]; exact hlen))
 refine ⟨fun g=>by simp [PVV,Gl.g],fun g cs' hg=>?_⟩
 match g,hg with
 | 1,hg =>
  cases hg
  refine ⟨(Array.getElem?_eq_some_iff.1 hh).1,T,?_⟩
  simp only [World.var?,pow_named,Option.bind_some,hh,Option.some.injEq] at k3
  rw [hh,k3,hcs']
end Go.Abs
namespace Go.Abs
section
variable [Gl] {P:Program}
theorem calls_of {f : FuncId} {args : List PV} {v : PV} (he : Enters P f) (h : GoodC P f args v) {w : World} {Imm : Nat → Prop} {cargs : List Value} (h1 : ∀ k, Imm k → k < w.heap.size) (hg : GlobOk P w Imm) (ha : PVVl P w Imm args cargs) :
    Calls P f cargs.toArray w fun e w'=>∃ cv,∃ Imm':Nat → Prop,e = .returned cv ∧ w.heap.size ≤ w'.heap.size ∧ (∀ k,k < w.heap.size → w'.heap[k]? = w.heap[k]?) ∧ (w'.os = w.os ∧ w'.output = w.output) ∧ PVV P w' Imm' v cv:=by
 rcases h with h | h
 · refine (h.2 w Imm cargs h1 hg ha).mono ?_
   rintro e w' ⟨cv,Imm',k1,_,_,_,k5,k6,kio,k7⟩
   exact ⟨cv,Imm',k1,k5,k6,kio,k7⟩
 · obtain ⟨cv,k1,_⟩:=h w Imm cargs ha
   rw [he cargs.toArray w] at k1
   cases k1
theorem kept_of {w w':World} (h:∀ k,k < w.heap.size → w'.heap[k]? = w.heap[k]?) (hio:w'.os = w.os ∧ w'.output = w.output) (may:MemPlace → Prop):w.keptBut w' may:=by
 refine ⟨hio.1,hio.2,fun i hi=>?_⟩
 rw [h i hi]
 cases w.heap[i]? with
 | none=>rfl
 | some o=>cases o <;> first | exact ⟨rfl,rfl,rfl,fun _ _=>rfl⟩ | exact .inr ⟨rfl,rfl⟩ | rfl
theorem same_of {w w':World} (h:∀ k,k < w.heap.size → w'.heap[k]? = w.heap[k]?) {p:MemPlace} (hp:p.block < w.heap.size):w.sameAt w' p:=by
 cases p with
 | cell b o=>simp only [World.sameAt,World.cell?]; rw [h b hp]
 | map b=>simp only [World.sameAt]; rw [h b hp]
theorem post_plain {H : Type} {enc : TypeId × Value → H} {f : Func} {s : ChangeSpec} {apart fresh handsOn : Bool} {W W' : World} {args : Array Value} {v : Value} {ds gs : List (DataW H)} {before pa pv : List MemPlace}
    (hW:DataW.Whole enc P f.params.toList s.vars apart W args.toList ds gs before)
    (hres:∀ (b:Nat) (sp:Nat → Bool) (hd:Bool),DataW.TrodAll enc P W' b sp hd f.resultTypes.toList (v.resultList f.resultTypes.size) (s.fn H (ds ++ gs)).results [])
    (hargs:∀ sp:Nat → Bool,(∀ p ∈ before,sp p.block = true) → DataW.TrodAll enc P W' 0 sp true f.params.toList args.toList (s.fn H (ds ++ gs)).args pa)
    (hvars:∀ sp:Nat → Bool,(∀ p ∈ before,sp p.block = true) → DataW.TrodVars enc P W' sp s.vars (s.fn H (ds ++ gs)).vars pv)
    (hps:before = pa ++ pv) (hk:W.keptBut W' (· ∈ before)):s.post enc P f apart fresh handsOn false W args v W':=by
 have hold:∀ p ∈ before,(fun b=>decide (b < W.heap.size)) p.block = true:=fun p hp=>by simpa using hW.lt p hp
 refine ⟨ds,gs,before,[],pa,pv,hW,hres _ _ _,hargs _ hold,hvars _ hold,World.keptBut_mono (fun p hp=>⟨hp,?_⟩) hk,fun h=>by cases h⟩
 rw [hps,List.mem_append] at hp
 exact Or.inr hp
end
end Go.Abs
namespace Go.Abs
open Go.Deep
section
variable {H:Type} {enc:TypeId × Value → H} {P:Program} {w:World}
theorem toPV_shp {n : Nat} {t : TypeId} {d : DataW H} {cs : List Value} {Imm : Nat → Prop} (h : PVC P w Imm (toPV P n t d) cs) :
    (((∃ fs,P.underlying t = some (.struct fs)) ∨ ∃ m e,P.underlying t = some (.array m e)) ∧ ∃ u,shp (toPV P n t d) = .agg u) ∨ ((P.underlying t = some .bool ∨ (∃ k,P.underlying t = some (.int k)) ∨ P.underlying t = some .string ∨ ∃ e,P.underlying t = some (.slice e)) ∧ shp (toPV P n t d) = .leaf):=by
 cases n with
 | zero=>simp only [toPV,PVC] at h
 | succ n =>
  unfold toPV at h ⊢
  split at h
  · rename_i hu; exact .inr ⟨.inl hu,rfl⟩
  · rename_i k z hu
    split at h
    · rename_i hz; rw [if_pos hz]; exact .inr ⟨.inr (.inl ⟨_,hu⟩),rfl⟩
    · simp only [PVC] at h
  · rename_i hu; exact .inr ⟨.inr (.inr (.inl hu)),rfl⟩
  · rename_i hu; exact .inr ⟨.inr (.inr (.inr ⟨_,hu⟩)),rfl⟩
  · rename_i hu; exact .inr ⟨.inr (.inr (.inr ⟨_,hu⟩)),rfl⟩
  · rename_i hu; exact .inl ⟨.inl ⟨_,hu⟩,_,rfl⟩
  · rename_i hu; exact .inl ⟨.inr ⟨_,_,hu⟩,_,rfl⟩
  · simp only [PVC] at h
theorem trod_pvv [Gl] {n : Nat} {t : TypeId} {v : Value} {d : DataW H} {ps : List MemPlace} {base base' : Nat} {r : Reach} (ho : okT P n t = true) (h : DataW.Trod enc P w base (fun _ => true) true t v d ps) (hv : Value.okWide P w r base' t v) :
    PVV P w (fun k=>k < w.heap.size) (toPV P n t d) v:=by
 obtain ⟨fuel,h⟩:=h
 have hc:=trod_pv n fuel t _ d ps ho h
 rcases toPV_shp hc with ⟨hu,u,hs⟩ | ⟨hu,hs⟩
 · have:∃ cs,v = .agg cs:=by
    rcases hu with ⟨fs,hu⟩ | ⟨m,e,hu⟩
    · simp only [Value.okWide,hu] at hv
      obtain ⟨cs,rfl,_,_⟩:=hv
      exact ⟨cs,rfl⟩
    · simp only [Value.okWide,hu] at hv
      obtain ⟨cs,rfl,_,_⟩:=hv
      exact ⟨cs,rfl⟩
   obtain ⟨cs,rfl⟩:=this
   rw [PVC_agg hs] at hc
   simpa [Value.cells] using hc
 · rw [PVC_leaf hs] at hc
   obtain ⟨c,hc,hp⟩:=hc
   have:v = c:=by
    cases v with
    | agg cs=>rcases hu with hu | ⟨k,hu⟩ | hu | ⟨e,hu⟩ <;> simp [Value.okWide,hu,Cell.okWide,Cell.ok] at hv
    | _=>simpa [Value.cells] using hc
   rw [this]; exact hp
def toPVs (P:Program) (n:Nat):List TypeId → List (DataW H) → List PV
 | t :: ts,d :: ds=>toPV P n t d :: toPVs P n ts ds
 | _,_=>[]
theorem trod_pvvl [Gl] {n : Nat} {base : Nat} {r : Reach} : ∀ {ts : List TypeId} {vs : List Value} {ds : List (DataW H)} {ps : List MemPlace}, (∀ t ∈ ts, okT P n t = true) → DataW.TrodAll enc P w 0 (fun _ => true) true ts vs ds ps →
    (∀ (j:Nat) t v,ts[j]? = some t → vs[j]? = some v → Value.okWide P w r base t v) → PVVl P w (fun k=>k < w.heap.size) (toPVs P n ts ds) vs ∧ ds.length = ts.length
 | [],[],[],_,_,_,_=>by simp [toPVs,PVVl]
 | t :: ts,v :: vs,d :: ds,_,ho,⟨p,q,h1,h2,_⟩,hv=>by
  have ⟨i1,i2⟩:=trod_pvvl (ts:=ts) (vs:=vs) (ds:=ds) (fun t ht=>ho t (List.mem_cons_of_mem _ ht)) h2 (fun j t v ht hv'=>hv (j + 1) t v (by simpa using ht) (by simpa using hv'))
  refine ⟨?_,by simp [i2]⟩
  simp only [toPVs,PVVl]
  exact ⟨v,vs,rfl,trod_pvv (ho t List.mem_cons_self) h1 (hv 0 t v rfl rfl),i1⟩
theorem trod_pvc {n : Nat} : ∀ {ts : List TypeId} {vs : List Value} {ds : List (DataW H)} {ps : List MemPlace}, (∀ t ∈ ts, okT P n t = true) → DataW.TrodAll enc P w 0 (fun _ => true) true ts vs ds ps →
    ∀ p ∈ ts.zip ds,∃ cs,PVC P w (fun k=>k < w.heap.size) (toPV P n p.1 p.2) cs
 | [],[],[],_,_,_=>by simp
 | t :: ts,v :: vs,d :: ds,_,ho,⟨p,q,⟨fuel,h1⟩,h2,_⟩=>by
  have i1:=trod_pvc (ts:=ts) (vs:=vs) (ds:=ds) (fun t ht=>ho t (List.mem_cons_of_mem _ ht)) h2
  intro x hx
  rw [List.zip_cons_cons] at hx
  rcases List.mem_cons.1 hx with rfl | hx
  · exact ⟨_,trod_pv n fuel t _ d p (ho t List.mem_cons_self) h1⟩
  · exact i1 x hx
theorem trodAll_carry {w' : World} {base : Nat} {spare : Nat → Bool} {held : Bool} : ∀ {ts : List TypeId} {vs : List Value} {ds : List (DataW H)} {ps : List MemPlace}, DataW.TrodAll enc P w base spare held ts vs ds ps → (∀ p ∈ ps, w.sameAt w' p) →
    DataW.TrodAll enc P w' base spare held ts vs ds ps
 | [],[],[],_,h,_=>h
 | t :: ts,v :: vs,d :: ds,_,⟨p,q,⟨n,h1⟩,h2,e⟩,hs=>by
  subst e
  exact ⟨p,q,⟨n,DataW.trod_carry n _ _ _ h1 fun x hx=>hs x (List.mem_append_left _ hx)⟩,trodAll_carry h2 fun x hx=>hs x (List.mem_append_right _ hx),rfl⟩
theorem law_contract [Gl] {f : FuncId} {fn : Func} {s : ChangeSpec} {n : Nat} {T : TypeId → Prop} (hvars : s.vars = []) (hfn : ∀ (H : Type) (ds : List (DataW H)), ds.length = fn.params.size → (s.fn H ds).results = [.lit (.bool true)] ∧ (s.fn H ds).args = ds ∧ (s.fn H ds).vars = [])
    (K:Kids P T) (hz:∀ t e,T t → P.underlying t = some (.slice e) → 0 < P.cellsOf e) (hT:∀ t ∈ fn.params.toList,T t) (hok:∀ t ∈ fn.params.toList,okT P n t = true) {tb:TypeId} (hr:fn.resultTypes = #[tb]) (hb:P.underlying tb = some .bool)
    (hent:Enters P f) {W:World} {args:Array Value} {ds gs:List (DataW H)} {before:List MemPlace} {base:Nat} (hg:GlobOk P W (fun k=>k < W.heap.size))
    (hgood:(∀ p ∈ fn.params.toList.zip ds,∃ cs,PVC P W (fun k=>k < W.heap.size) (toPV P n p.1 p.2) cs) → GoodC P f (toPVs P n fn.params.toList ds) (.bool true))
    (hval:∀ (j:Nat) t v,fn.params[j]? = some t → args[j]? = some v → Value.okWide P W .any base t v)
    (hW:DataW.Whole enc P fn.params.toList s.vars false W args.toList ds gs before) :
    Calls P f args W fun e W'=>∃ v,e = .returned v ∧ s.post enc P fn false true false false W args v W':=by
 have hW':=hW
 obtain ⟨p,q,hA,hV,rfl,hfz,hnd⟩:=hW
 rw [hvars] at hV
 have ⟨hp,hlen⟩:=trod_pvvl hok hA (fun j t v ht hv=>hval j t v (by simpa using ht) (by simpa using hv))
 have hgs:gs = [] ∧ q = []:=by
  cases gs with
  | nil=>exact ⟨rfl,hV⟩
  | cons g gs=>exact hV.elim
 obtain ⟨rfl,rfl⟩:=hgs
 have hc:=calls_of hent (hgood (trod_pvc hok hA)) (fun k hk=>hk) hg hp
 refine hc.mono ?_
 rintro e W' ⟨cv,Imm',rfl,k1,k2,k3,k4⟩
 refine ⟨cv,rfl,?_⟩
 obtain ⟨f1,f2,f3⟩:=hfn H (ds ++ []) (by simpa using hlen)
 have e1:cv = .bool true:=by simpa [PVV] using k4
 have hlt:=DataW.TrodAll.lt hA
 refine post_plain (pa:=p) (pv:=[]) hW' ?_ ?_ ?_ rfl (kept_of k2 k3 _)
 · intro b sp hd
   rw [f1,hr,e1]
   refine ⟨[],[],⟨1,?_⟩,rfl,rfl⟩
   simp [DataW.trod,hb,Value.cells]
 · intro sp hs
   rw [f2]
   simp only [List.append_nil] at hs ⊢
   exact trodAll_carry (DataW.TrodAll.respare K hz hT hA fun p hp=>hs p hp) fun x hx=>same_of k2 (hlt x hx)
 · intro sp hs
   rw [f3,hvars]; rfl
end
end Go.Abs
namespace Go.Abs
open Go.Proofs Go.Proofs.YthckccalfpnmaaaGreatDoor
def litV:DataW Unit → Value
 | .lit (.int k n)=>.int k n
 | _=>.bool false
def aggL:DataW Unit → List (DataW Unit)
 | .agg l=>l
 | _=>[]
def cells1 (d:DataW Unit):List Value:=(aggL d).map litV
def cells2 (d:DataW Unit):List Value:=(aggL d).flatMap cells1
def bytesOfErr:DataW Unit → List UInt8
 | .iface _ (.ptr (.agg [.lit (.string b)]))=>b
 | _=>[]
def putG (h:Array Go.Obj) (g:Nat) (cs:Array Value):Array Go.Obj:=h.modify g fun
 | .cells _ t frozen=>Go.Obj.cells cs t frozen
 | o=>o
noncomputable def laidWorld (os:Os):World :=
 let N:=(World.settled Tryz.prog os).heap.size
 let w0:=World.holding Tryz.prog os ⟨#[.cells #[.string ⟨(bytesOfErr Rows.laid_strconv_ErrRange).toArray⟩] 417,.cells #[.string ⟨(bytesOfErr Rows.laid_strconv_ErrSyntax).toArray⟩] 417],#[],[]⟩
 let h0:=putG w0.heap 3 #[.iface 415 (.pointer (some ⟨N,0,none⟩))]
 let h1:=putG h0 2 #[.iface 415 (.pointer (some ⟨N + 1,0,none⟩))]
 let h2:=putG h1 6 (cells1 Rows.laid_math_bits_deBruijn32tab).toArray
 let h3:=putG h2 7 (cells1 Rows.laid_math_bits_deBruijn64tab).toArray
 let h4:=putG h3 1 (cells1 Rows.laid_internal_strconv_uint64pow10).toArray
 let h5:=putG h4 5 (cells2 Rows.laid_unicode_utf8_acceptRanges).toArray
 let h6:=putG h5 4 (cells1 Rows.laid_unicode_utf8_first).toArray
 { w0 with heap:=h6 }
noncomputable abbrev laidN:Nat:=(World.settled Tryz.prog default).heap.size
set_option maxRecDepth 1000000 in
theorem laid_in (os:Os) (args:Array Value):LaidIn Tryz.prog ((laidWorld os).forCall (fun _ _=>0) ⟨#[],args,[]⟩).memory Rows.officeScriptsUptoRow.laid [6,7,1,5,3,laidN,2,laidN + 1,4] :=
 LaidIn.of_run [6,7,1,5,3,laidN,2,laidN + 1,4] 8 (by kernel_rfl) (by kernel_rfl) (by kernel_rfl) (by kernel_rfl)
theorem laid_met (os:Os) (args:Array Value):laidMet Tryz.prog Rows.officeScriptsUptoRow.laid ((laidWorld os).forCall (fun _ _=>0) ⟨#[],args,[]⟩).memory:=(laid_in os args).met
end Go.Abs
namespace Go.Proofs.YthckccalfpnmaaaGreatDoor.bulks
theorem one_le {H:Type} (d:DataW H):1 ≤ Rows.uptoBulk d:=by
 cases d with
 | lit l=>cases l <;> simp [Rows.uptoBulk]
 | nil=>simp [Rows.uptoBulk]
 | ptr d=>simp [Rows.uptoBulk]
 | slice elems spare=>simp [Rows.uptoBulk]
 | agg parts=>simp [Rows.uptoBulk]
 | iface t d=>simp [Rows.uptoBulk]
 | map entries=>simp [Rows.uptoBulk]
 | held h=>simp [Rows.uptoBulk]
theorem part_le {H:Type} {d:DataW H} {l:List (DataW H)} (h:d ∈ l):Rows.uptoBulk d ≤ Rows.uptoBulkAll l:=by
 induction l with
 | nil=>cases h
 | cons x r ih =>
  simp only [Rows.uptoBulkAll]
  cases List.mem_cons.1 h with
  | inl e=>subst e; omega
  | inr e=>have:=ih e; omega
theorem append {H:Type} (l r:List (DataW H)):Rows.uptoBulkAll (l ++ r) = Rows.uptoBulkAll l + Rows.uptoBulkAll r:=by
 induction l with
 | nil=>simp [Rows.uptoBulkAll]
 | cons x l ih=>simp only [List.cons_append,Rows.uptoBulkAll,ih]; omega
theorem length_le {H:Type} (l:List (DataW H)):l.length ≤ Rows.uptoBulkAll l:=by
 induction l with
 | nil=>simp [Rows.uptoBulkAll]
 | cons x r ih=>have:=one_le x; simp only [Rows.uptoBulkAll,List.length_cons]; omega
theorem slice_le {H:Type} (elems spare:List (DataW H)):elems.length + spare.length + 1 ≤ Rows.uptoBulk (.slice elems spare):=by
 have h1:=length_le elems
 have h2:=length_le spare
 simp only [Rows.uptoBulk]
 omega
theorem bound {H:Type} {l:List (DataW H)} (hk:Rows.uptoSmall H l = true):Rows.uptoBulkAll l ≤ 1048576:=by
 simpa [Rows.uptoSmall] using hk
end Go.Proofs.YthckccalfpnmaaaGreatDoor.bulks
namespace Go.Abs
open Go.Proofs Go.Proofs.YthckccalfpnmaaaGreatDoor
set_option maxRecDepth 100000
theorem kidsT:Kids Tryz.prog (· < Tryz.prog.types.size):=kids_rows (by kernel_rfl) (by kernel_rfl)
theorem fullT:∀ t e,t < Tryz.prog.types.size → Tryz.prog.underlying t = some (.slice e) → 0 < Tryz.prog.cellsOf e:=slices_full_of Tryz.prog (by kernel_rfl)
section
variable {H:Type} {W:World} {Imm:Nat → Prop}
theorem list_arg {α : Type} {F : α → PV} {n : Nat} {t e : TypeId} (ht : Tryz.prog.underlying t = some (.slice e)) (hF : ∀ (d : DataW H) c, PVC Tryz.prog W Imm (toPV Tryz.prog n e d) c → ∃ a, toPV Tryz.prog n e d = F a)
    {d:DataW H} (h:∃ cs,PVC Tryz.prog W Imm (toPV Tryz.prog (n + 1) t d) cs) (hb:Rows.uptoBulk d ≤ 1048576):∃ l:List α,toPV Tryz.prog (n + 1) t d = .seq (l.map F) ∧ l.length ≤ 1048576:=by
 obtain ⟨cs,hc⟩:=h
 obtain ⟨l,h1,h2⟩:=seq_of ht hF hc
 refine ⟨l,h1,?_⟩
 cases d with
 | slice es sp =>
  have:=bulks.slice_le es sp
  rw [h2 es sp rfl]; omega
 | nil =>
  have:l.map F = []:=by
   have h3:=h1
   simp only [toPV,ht,PV.seq.injEq] at h3
   exact h3.symm
  have:l = []:=by simpa using this
  subst this; simp
 | lit x=>simp only [toPV,ht,PVC] at hc
 | ptr x=>simp only [toPV,ht,PVC] at hc
 | agg x=>simp only [toPV,ht,PVC] at hc
 | iface x y=>simp only [toPV,ht,PVC] at hc
 | map x=>simp only [toPV,ht,PVC] at hc
 | held x=>simp only [toPV,ht,PVC] at hc
end
end Go.Abs
namespace Go.Abs
open Go.Proofs Go.Proofs.YthckccalfpnmaaaGreatDoor
set_option maxRecDepth 100000
theorem p_laid:laidOutB Tryz.prog = true:=by kernel_rfl
theorem p_maps:mapsRowed Tryz.prog = true:=by kernel_rfl
theorem p_stops:Tryz.prog.stops = []:=by kernel_rfl
theorem p_stopKnobs:Tryz.prog.stopKnobs = []:=by kernel_rfl
theorem p_plainKeys:Tryz.prog.plainKeys = true:=by kernel_rfl
theorem p_stopsHeard:Tryz.prog.stopsHeard = true:=by kernel_rfl
theorem p_mayEnter:Tryz.prog.mayEnter = true:=by kernel_rfl
theorem p_lifts:Tryz.prog.liftsFinal = Rows.officeScriptsUptoRow.lifted:=by kernel_rfl
theorem p_make:Tryz.prog.make = some Rows.officeScriptsUptoRow.make:=by kernel_rfl
end Go.Abs
namespace Go.Abs
open Go.Proofs
section
variable {H:Type} {enc:TypeId × Value → H}
theorem said_of {p : Pinned} {C : Checked} {P : Program} (hC : p.checked = C) (hP : C.prog = P) {s : OpenSpec} {c : OpenClaim} (f : FuncId) (fn : Func)
    (hn:c.program = p.name) (hs:c.sum = p.sum) (hsp:c.spec = s.name)
    (hstart:c.start = .entering) (hout:c.outside = []) (hin:c.inits = []) (hun:c.under = none) (hi4:c.initsInPlace = [] ∧ c.initsUnfollowed = false ∧ c.initsRecurse = false ∧ c.initsNamed = [] ∧ c.initsPassed = []) (hnb:c.noBlocks = false) (hlv:c.leaving = false) (hfo:c.followed = none) (hnar:c.narrowed = s.cond.isSome) (hstill:c.still = false)
    (hfn:P.funcNamed c.func = some f) (hf:P.funcs[f]? = some fn)
    (closed:joinedFacts P f fn s.bare c = true)
    (hinst:fn.isInstance P c.origin c.targs) (hwrap:fn.isWrapper P c.wrapper c.mainSum)
    (h:∀ os:Os,os.Started → ∀ (H:Type) (enc:TypeId × Value → H) (F:Stop.Interp),
     ReturnsInHanded c.assume C os f .any (s.preRow enc P fn c.domain c.apart c.laid) ((s.at F).post enc P fn c.apart c.fresh c.handsOn c.again)):c.holds p s:=by
 subst hC; subst hP
 exact OpenClaim.holds_of_cond f fn hn hs hsp hstart hout hin hun hi4 hnb hlv hfo hnar hstill hfn hf closed hinst hwrap (fun os st H enc _ F=>by rw [OpenClaim.pre_eq_preRow]; exact h os st H enc F)
theorem lifted_of {a : Assume} {C : Checked} {P : Program} (hP : C.prog = P) {os : Os} {f : FuncId} {fn : Func} {s : OpenSpec} {F : Stop.Interp} {conds : List PathCond} {apart fresh handsOn again : Bool} {laid : List (String × DataW Unit)}
    (own:ownKnob P.godebug = none) (started:os.Started) (noInit:P.inits.idxOf? f = none) (hfn:P.funcs[f]? = some fn)
    (witness:∃ (w:World) (tape:Tape) (i:Input),w.os = os ∧ (w.forCall tape i).Shaped P ∧ i.vars = [] ∧ Input.okWide P (w.forCall tape i) .any w.heap.size f i ∧
     s.preRow enc P fn conds apart laid (w.forCall tape i).memory i.args ∧ a.holds P (lone (Frame.enter P f i.args .normal) [] (w.forCall tape i)))
    (contract:∀ (W:World) (base:Nat) (args:Array Value) (ds gs:List (DataW H)) (before:List MemPlace),
     (∀ (j:Nat) t v,fn.params[j]? = some t → args[j]? = some v → Value.okWide P W .any base t v) →
     DataW.Whole enc P fn.params.toList s.vars apart W args.toList ds gs before →
     (∀ k,s.cond = some k → k H (ds ++ gs) = true) →
     laidMetH P laid W →
     Calls P f args W fun e W'=>∃ v,e = .returned v ∧ (s.at F).post enc P fn apart fresh handsOn again W args v W') :
    ReturnsInHanded a C os f .any (s.preRow enc P fn conds apart laid) ((s.at F).post enc P fn apart fresh handsOn again):=by
 subst hP
 exact returnsInHanded_of_row own started noInit hfn witness (fun W base args ds gs before h1 h2 _ h4 _ h6 _ _=>contract W base args ds gs before h1 h2 h4 h6)
theorem witness_of {C : Checked} {P : Program} (hP : C.prog = P) {os : Os} {f : FuncId} {fn : Func} {s : OpenSpec} {conds : List PathCond} {apart : Bool} {laid : List (String × DataW Unit)} (w0 : World) (args : Array Value) (hos : w0.os = os)
    (hv:(w0.forCall (fun _ _=>0) ⟨#[],args,[]⟩).variablesRefB P = true)
    (hr:((w0.forCall (fun _ _=>0) ⟨#[],args,[]⟩).heap.toList.drop P.globals.size).take ((begin P (fun _ _=>0) default).world.heap.size - P.globals.size) =
     (begin P (fun _ _=>0) default).world.heap.toList.drop P.globals.size)
    (hok:Input.okWideB P (w0.forCall (fun _ _=>0) ⟨#[],args,[]⟩) f ⟨#[],args,[]⟩ = true)
    (hrow:s.preRow enc P fn conds apart laid (w0.forCall (fun _ _=>0) ⟨#[],args,[]⟩).memory args) :
    ∃ (w:World) (tape:Tape) (i:Input),w.os = os ∧ (w.forCall tape i).Shaped P ∧ i.vars = [] ∧ Input.okWide P (w.forCall tape i) .any w.heap.size f i ∧
     s.preRow enc P fn conds apart laid (w.forCall tape i).memory i.args ∧ ({ modest:=false }:Assume).holds P (lone (Frame.enter P f i.args .normal) [] (w.forCall tape i)):=by
 subst hP
 exact witness_row_atRef (C:=C) false w0 args hos hv hr hok hrow
theorem card_of {p : Pinned} {C : Checked} {P : Program} (hC : p.checked = C) (hP : C.prog = P) (Lk : Looks) {s : OpenSpec} {c : OpenClaim} (kinds : List LaidKind) (tests : Bool) (har : Bool × String) (lk : Bool) {f0 : FuncId} {fn0 : Func}
    (hc:c.holds p s) (hw:c.wfByText s = true) (htie:c.laidByTextAt Lk p kinds tests)
    (hst:c.start = .entering) (hnb:c.noBlocks = false ∧ c.again = false) (hm:P.mainIs = some (har.1,har.2.toList)) (hn:(!har.1 && har.2.isEmpty && !lk) = false)
    (hfn:P.funcNamed c.func = some f0) (hf:P.funcs[f0]? = some fn0) (hlk:lk = P.looks []) (hsi:∀ t ∈ fn0.params.toList,P.wantsStandIn t = false)
    (hg:false = c.goesBy P) :
    Claim7.holds p (.plain s) { stood:={ row:=c,standIns:=[],harness:=har,looks:=lk },kinds:=[],alts:=[],laidByText:=true,laidKinds:=kinds,laidTests:=tests,laidLooks:=Lk }:=by
 subst hC; subst hP
 refine Claim7.holds_tied_plain_at Lk [] kinds tests har lk hc (fun _ h=>by cases h) hw (fun _ h=>by cases h) htie hst hnb hm hn (fun f fn h1 h2=>?_) hg
 rw [hfn] at h1
 cases h1
 rw [hf] at h2
 cases h2
 exact ⟨hlk,fun j t ht=>hsi t (by simpa using Array.mem_of_getElem? ht)⟩
end
theorem pin_checked:Go.Proofs.YthckccalfpnmaaaGreatDoor.Tryz.pinned.checked = Tryz.checked:=rfl
theorem checked_prog:Tryz.checked.prog = Tryz.prog:=rfl
theorem p_looks:true = Tryz.prog.looks []:=by kernel_rfl
theorem p_own:ownKnob Tryz.prog.godebug = none:=by kernel_rfl
end Go.Abs
namespace Go.Abs
open Go.Proofs Go.Proofs.YthckccalfpnmaaaGreatDoor
set_option maxRecDepth 100000
section
variable {H:Type} {W:World} {Imm:Nat → Prop}
theorem str_arg' {n:Nat} {d:DataW H} (h:∃ cs,PVC Tryz.prog W Imm (toPV Tryz.prog (n + 1) 9 d) cs) (hb:Rows.uptoBulk d ≤ 1048576):∃ s:List Nat,toPV Tryz.prog (n + 1) 9 d = .str s ∧ s.length ≤ 1048576 ∧ ∀ c ∈ s,c < 256:=by
 obtain ⟨cs,h⟩:=h
 cases d with
 | lit l =>
  cases l with
  | string bytes =>
   refine ⟨bytes.map (·.toNat),by simp only [toPV,un9],?_,?_⟩
   · rw [Rows.uptoBulk] at hb
     rw [List.length_map]; omega
   · intro c hc
     obtain ⟨u,_,rfl⟩:=List.mem_map.1 hc
     exact u.toNat_lt
  | _=>simp only [toPV,un9,PVC] at h
 | _=>simp only [toPV,un9,PVC] at h
theorem str_arg {d:DataW H} (h:∃ cs,PVC Tryz.prog W Imm (toPV Tryz.prog 8 9 d) cs) (hb:Rows.uptoBulk d ≤ 1048576):∃ s:List Nat,toPV Tryz.prog 8 9 d = .str s ∧ s.length ≤ 1048576 ∧ ∀ c ∈ s,c < 256 :=
 str_arg' (n:=7) h hb
end
end Go.Abs
namespace Go.Abs
open Go.Proofs
set_option maxHeartbeats 4000000
set_option maxRecDepth 100000
theorem dec_iff {p q:Prop} [Decidable p] [Decidable q] (h:p ↔ q):decide p = decide q:=by simp [h]
theorem beq_drop {α:Type} [DecidableEq α] {a b:List α} {i:Nat} (ha:i < a.length) (hb:i < b.length):decide (a.drop i = b.drop i) = (decide (a[i] = b[i]) && decide (a.drop (i + 1) = b.drop (i + 1))):=by
 rw [List.drop_eq_getElem_cons ha,List.drop_eq_getElem_cons hb,dec_iff List.cons_eq_cons,Bool.decide_and]
theorem len_ne {α:Type} {a b:List α} (h:a.length ≠ b.length):a ≠ b:=fun e=>h (by rw [e])
theorem c_sameInts (a b:List Int) (ha:a.length ≤ 1048576) (hb:b.length ≤ 1048576):GoodC Tryz.prog 115 [.seq (a.map (.int .i64)),.seq (b.map (.int .i64))] (.bool (decide (a = b))):=by
 refine good_fn nf isF115 mix (by simp [Tryz.f115]) ?_
 by_cases hl:a.length = b.length
 · have hl':(a.length:Int) = b.length:=by omega
   simp [Tryz.f115,hl']
   refine lp (α:=Nat) (fun i=>⟨[(5,.p (.int .i64 i)),(1,.p (.seq (b.map (.int .i64)))),(0,.p (.seq (a.map (.int .i64))))],[]⟩) (fun i=>i ≤ a.length ∧ decide (a = b) = decide (a.drop i = b.drop i)) (fun i=>a.length - i) 0 (by simp) ?_
   rintro i ⟨k1,k2⟩
   by_cases hi:i < a.length
   · have hi':i < b.length:=by omega
     rw [beq_drop hi hi'] at k2
     have hw:=wi1 (i:=i) (by omega)
     by_cases he:a[i] = b[i]
     · rw [decide_eq_true he,Bool.true_and] at k2
       simp [hi,hi',he,hw]
       exact rd (i + 1) ⟨hi,k2⟩
     · rw [decide_eq_false he,Bool.false_and] at k2
       rw [k2]
       simp [hi,hi',he]
   · have:i = a.length:=by omega
     subst this
     have k3:decide (a = b) = true:=by rw [k2,List.drop_length,hl,List.drop_length]; rfl
     rw [k3]
     simp
 · have hl':¬ (a.length:Int) = b.length:=by omega
   rw [decide_eq_false (len_ne hl)]
   simp [Tryz.f115,hl']
theorem c_equalInts (a b:List Int) (ha:a.length ≤ 1048576) (hb:b.length ≤ 1048576):GoodC Tryz.prog 231 [.seq (a.map (.int .i64)),.seq (b.map (.int .i64))] (.bool (decide (a = b))):=by
 refine good_fn nf isF231 mix (by simp [Tryz.f231]) ?_
 by_cases hl:a.length = b.length
 · have hl':(a.length:Int) = b.length:=by omega
   simp [Tryz.f231,hl']
   refine lp (α:=Nat) (fun i=>⟨[(13,.p (.int .i64 i)),(12,.p (.int .i64 b.length)),(1,.p (.seq (b.map (.int .i64)))),(0,.p (.seq (a.map (.int .i64))))],[]⟩) (fun i=>i ≤ a.length ∧ decide (a = b) = decide (a.drop i = b.drop i)) (fun i=>a.length - i) 0 (by simp) ?_
   rintro i ⟨k1,k2⟩
   by_cases hi:i < a.length
   · have hi':i < b.length:=by omega
     rw [beq_drop hi hi'] at k2
     have hw:=wi1 (i:=i) (by omega)
     by_cases he:a[i] = b[i]
     · rw [decide_eq_true he,Bool.true_and] at k2
       simp [hi,hi',he,hw]
       exact rd (i + 1) ⟨hi,k2⟩
     · rw [decide_eq_false he,Bool.false_and] at k2
       rw [k2]
       simp [hi,hi',he]
   · have:i = a.length:=by omega
     subst this
     have k3:decide (a = b) = true:=by rw [k2,List.drop_length,hl,List.drop_length]; rfl
     rw [k3]
     simp [hl]
 · have hl':¬ (a.length:Int) = b.length:=by omega
   rw [decide_eq_false (len_ne hl)]
   simp [Tryz.f231,hl']
theorem row_ext (a b:RowD):a = b ↔ a.key = b.key ∧ a.vals = b.vals:=by cases a; cases b; simp
def rowB (r:RowD):Prop:=r.key.length ≤ 1048576 ∧ r.vals.length ≤ 1048576
def rowsB (l:List RowD):Prop:=l.length ≤ 1048576 ∧ ∀ r ∈ l,rowB r
theorem c_sameRow (a b:RowD) (ha:rowB a) (hb:rowB b):GoodC Tryz.prog 31 [eRow a,eRow b] (.bool (decide (a = b))):=by
 refine good_fn nf isF31 mix (by simp [Tryz.f31]) ?_
 rw [dec_iff (row_ext a b)]
 by_cases hk:a.key = b.key
 · simp [Tryz.f31,eRow,hk]
   refine c2 (c_sameInts a.vals b.vals ha.2 hb.2) ?_
   simp [hk]
 · simp [Tryz.f31,eRow,hk]
theorem c_same (a b:RowD) (ha:rowB a) (hb:rowB b):GoodC Tryz.prog 171 [eRow a,eRow b] (.bool (decide (a = b))):=by
 refine good_fn nf isF171 mix (by simp [Tryz.f171]) ?_
 rw [dec_iff (row_ext a b)]
 by_cases hk:a.key = b.key
 · simp [Tryz.f171,eRow,hk]
   refine c2 (c_equalInts a.vals b.vals ha.2 hb.2) ?_
   simp [hk]
 · simp [Tryz.f171,eRow,hk]
theorem c_sameRows (a b:List RowD) (ha:rowsB a) (hb:rowsB b):GoodC Tryz.prog 56 [eRows a,eRows b] (.bool (decide (a = b))):=by
 refine good_fn nf isF56 mix (by simp [Tryz.f56]) ?_
 obtain ⟨ha,ha'⟩:=ha
 obtain ⟨hb,hb'⟩:=hb
 unfold eRows
 by_cases hl:a.length = b.length
 · have hl':(a.length:Int) = b.length:=by omega
   simp [Tryz.f56,hl']
   refine lp (α:=Nat) (fun i=>⟨[(5,.p (.int .i64 i)),(1,.p (.seq (b.map eRow))),(0,.p (.seq (a.map eRow)))],[]⟩) (fun i=>i ≤ a.length ∧ decide (a = b) = decide (a.drop i = b.drop i)) (fun i=>a.length - i) 0 (by simp) ?_
   rintro i ⟨k1,k2⟩
   by_cases hi:i < a.length
   · have hi':i < b.length:=by omega
     rw [beq_drop hi hi'] at k2
     have hw:=wi1 (i:=i) (by omega)
     simp [hi,hi']
     refine e2 (c_sameRow a[i] b[i] (ha' _ (List.getElem_mem hi)) (hb' _ (List.getElem_mem hi'))) ?_
     by_cases he:a[i] = b[i]
     · rw [decide_eq_true he,Bool.true_and] at k2
       simp [he,hw]
       exact rd (i + 1) ⟨hi,k2⟩
     · rw [decide_eq_false he,Bool.false_and] at k2
       rw [k2]
       simp [he]
   · have:i = a.length:=by omega
     subst this
     have k3:decide (a = b) = true:=by rw [k2,List.drop_length,hl,List.drop_length]; rfl
     rw [k3]
     simp
 · have hl':¬ (a.length:Int) = b.length:=by omega
   rw [decide_eq_false (len_ne hl)]
   simp [Tryz.f56,hl']
end Go.Abs
namespace Go.Abs
open Go.Proofs
set_option maxHeartbeats 4000000
theorem c_first (es:List Int) (h:es.length ≤ 1048576):GoodC Tryz.prog 94 [.seq (es.map (.int .i64))] (.int .i64 (firstE es)):=by
 refine good_fn nf isF94 mix (by simp [Tryz.f94]) ?_
 simp [Tryz.f94]
 refine lp (α:=Nat) (fun i=>⟨[(7,.p (.int .i64 i)),(6,.p (.int .i64 es.length)),(5,.p (.seq (es.map (.int .i64))))],[]⟩) (fun i=>i ≤ es.length ∧ firstE (es.drop i) = firstE es) (fun i=>es.length - i) 0 (by simp) ?_
 rintro i ⟨h1,h2⟩
 simp
 by_cases hi:i < es.length
 · rw [List.drop_eq_getElem_cons hi] at h2
   have hw:=wi1 (i:=i) (by omega)
   simp [hi]
   by_cases he:es[i] = 0
   · simp [firstE,he] at h2
     simp [he,hw]
     exact rd (i + 1) ⟨hi,h2⟩
   · simp [firstE,he] at h2
     simp [he,← h2]
 · have:i = es.length:=by omega
   subst this
   simp [firstE] at h2
   simp [← h2]
theorem c_when (b:Bool) (e:Int):GoodC Tryz.prog 102 [.bool b,.int .i64 e] (.int .i64 (whenE b e)):=by
 refine good_fn nf isF102 mix (by simp [Tryz.f102]) ?_
 cases b <;> simp [Tryz.f102,whenE]
theorem cls (c : Int) : (97 ≤ c ∧ c ≤ 122) ∨ (¬ 97 ≤ c ∧ 65 ≤ c ∧ c ≤ 90) ∨ (¬ 97 ≤ c ∧ ¬ 65 ≤ c ∧ ¬ 48 ≤ c ∧ ¬ c = 95) ∨ (¬ 97 ≤ c ∧ ¬ 65 ≤ c ∧ 48 ≤ c ∧ c ≤ 57 ∧ ¬ c = 95) ∨ (¬ 97 ≤ c ∧ ¬ 65 ≤ c ∧ 48 ≤ c ∧ ¬ c ≤ 57 ∧ ¬ c = 95) ∨
    (¬ 97 ≤ c ∧ 65 ≤ c ∧ ¬ c ≤ 90 ∧ 48 ≤ c ∧ ¬ c ≤ 57 ∧ c = 95) ∨ (¬ 97 ≤ c ∧ 65 ≤ c ∧ ¬ c ≤ 90 ∧ 48 ≤ c ∧ ¬ c ≤ 57 ∧ ¬ c = 95) ∨ (97 ≤ c ∧ ¬ c ≤ 122 ∧ 65 ≤ c ∧ ¬ c ≤ 90 ∧ 48 ≤ c ∧ ¬ c ≤ 57 ∧ ¬ c = 95):=by omega
theorem c_isLetter (c:Int):GoodC Tryz.prog 233 [.int .i32 c] (.bool (isLet c)):=by
 refine good_fn nf isF233 mix (by simp [Tryz.f233]) ?_
 rcases cls c with ⟨a,b⟩ | ⟨a,b,d⟩ | ⟨a,b,d,e⟩ | ⟨a,b,d,e,f⟩ | ⟨a,b,d,e,f⟩ | ⟨a,b,d,e,f,g⟩ | ⟨a,b,d,e,f,g⟩ | ⟨a,b,d,e,f,g,h⟩ <;> simp [Tryz.f233,isLet, *]
theorem okN_drop {s:List Nat} {i:Nat} (hi:i < s.length):okN i (s.drop i) = ((isLet s[i] || (decide (i ≠ 0) && (isDig s[i] || decide ((s[i]:Int) = 95)))) && okN (i + 1) (s.drop (i + 1))):=by
 rw [List.drop_eq_getElem_cons hi,okN]
theorem c_refIsName (s:List Nat) (h:s.length ≤ 1048576):GoodC Tryz.prog 87 [.str s] (.bool (isName s)):=by
 refine good_fn nf isF87 mix (by simp [Tryz.f87]) ?_
 rcases lt_cases s.length 1 with ⟨g1,g1'⟩ | ⟨g1,g1'⟩
 · have:s.length = 0:=by omega
   simp [Tryz.f87,g1,isName,this]
 rcases lt_cases 24 s.length with ⟨g2,g2'⟩ | ⟨g2,g2'⟩
 · have:¬ s.length ≤ 24:=by omega
   simp [Tryz.f87,g1,g2,isName,this]
 simp [Tryz.f87,g1,g2]
 have e0:isName s = okN 0 s:=by simp [isName]; omega
 refine lp (α:=Nat) (fun i=>⟨[(3,.p (.int .i64 i)),(0,.p (.str s))],[]⟩) (fun i=>i ≤ s.length ∧ isName s = okN i (s.drop i)) (fun i=>s.length - i) 0 (by simp [e0]) ?_
 rintro i ⟨k1,k2⟩
 by_cases hi:i < s.length
 · rw [okN_drop hi] at k2
   have hw:=wi1 (i:=i) (by omega)
   generalize hc:(s[i]:Int) = c at *
   by_cases h0:i = 0
   · subst h0
     have hw1:IntKind.i64.wrap 1 = 1:=wi64 1 (by omega) (by omega)
     rcases cls c with ⟨a,b⟩ | ⟨a,b,d⟩ | ⟨a,b,d,e⟩ | ⟨a,b,d,e,f⟩ | ⟨a,b,d,e,f⟩ | ⟨a,b,d,e,f,g⟩ | ⟨a,b,d,e,f,g⟩ | ⟨a,b,d,e,f,g,h⟩
     · simp [isLet,a,b] at k2
       simp [hi,hc,a,b,hw1]
       exact rd 1 ⟨hi,by simpa using k2⟩
     · simp [isLet,a,b,d] at k2
       simp [hi,hc,a,b,d,hw1]
       exact rd 1 ⟨hi,by simpa using k2⟩
     all_goals
      simp [isLet, *] at k2
      simp [hi,hc, *]
   · rcases cls c with ⟨a,b⟩ | ⟨a,b,d⟩ | ⟨a,b,d,e⟩ | ⟨a,b,d,e,f⟩ | ⟨a,b,d,e,f⟩ | ⟨a,b,d,e,f,g⟩ | ⟨a,b,d,e,f,g⟩ | ⟨a,b,d,e,f,g,h⟩
     · simp [isLet,a,b] at k2
       simp [hi,hc,a,b,hw]
       exact rd (i + 1) ⟨hi,k2⟩
     · simp [isLet,a,b,d] at k2
       simp [hi,hc,a,b,d,hw]
       exact rd (i + 1) ⟨hi,k2⟩
     · simp [isLet,isDig,a,b,d,e] at k2
       simp [hi,hc,h0,a,b,d,e,k2]
     · simp [isLet,isDig,a,b,d,e,h0] at k2
       simp [hi,hc,h0,a,b,d,e,hw]
       exact rd (i + 1) ⟨hi,k2⟩
     · simp [isLet,isDig,a,b,d,e,f] at k2
       simp [hi,hc,h0,a,b,d,e,f,k2]
     · subst g
       simp [isLet,isDig,h0] at k2
       simp [hi,hc,h0,hw]
       exact rd (i + 1) ⟨hi,k2⟩
     · simp [isLet,isDig,a,b,d,e,f,g] at k2
       simp [hi,hc,h0,a,b,d,e,f,g,k2]
     · simp [isLet,isDig,a,b,d,e,f,g,h] at k2
       simp [hi,hc,h0,a,b,d,e,f,g,h,k2]
 · have:i = s.length:=by omega
   subst this
   simp [okN] at k2
   simp [k2]
end Go.Abs
namespace Go.Abs
open Go.Proofs
set_option maxHeartbeats 4000000
theorem toBA_size (s:List Nat):(toBA s).size = s.length:=by
 show (s.map UInt8.ofNat).toArray.size = _
 simp
theorem toBA_get (s:List Nat) (hb:∀ c ∈ s,c < 256) (i:Nat) (h:i < s.length) (h':i < (toBA s).size):((toBA s)[i]'h').toNat = s[i]:=by
 have e:(toBA s)[i]'h' = UInt8.ofNat s[i]:=by
  have:(toBA s)[i]'h' = (s.map UInt8.ofNat).toArray[i]'(by simpa using h):=rfl
  rw [this]; simp
 rw [e]
 have:=hb s[i] (List.getElem_mem h)
 simp; omega
theorem dec_lo {s:List Nat} (hb:∀ c ∈ s,c < 256) {i:Nat} (h:i < s.length) (ha:s[i] < 128):Utf8.decode (toBA s) i = (s[i],1):=by
 have h':i < (toBA s).size:=by rw [toBA_size]; exact h
 have e:=toBA_get s hb i h h'
 rw [decode_ascii (toBA s) i h' (by rw [e]; exact ha),e]
theorem dec_hi {s:List Nat} (hb:∀ c ∈ s,c < 256) {i:Nat} (h:i < s.length) (ha:¬ s[i] < 128):128 ≤ (Utf8.decode (toBA s) i).1 ∧ 1 ≤ (Utf8.decode (toBA s) i).2:=by
 have h':i < (toBA s).size:=by rw [toBA_size]; exact h
 have e:=toBA_get s hb i h h'
 exact decode_high (toBA s) i h' (by rw [e]; omega)
theorem c_isName (s:List Nat) (h:s.length ≤ 1048576):GoodC Tryz.prog 178 [.str s] (.bool (isName s)):=by
 refine good_str fun hb=>?_
 have hb:∀ c ∈ s,c < 256:=by simpa [strOkl,strOk] using hb
 refine good_fn nf isF178 mix (by simp [Tryz.f178]) ?_
 simp [Tryz.f178]
 refine lp (α:=Nat) (fun i=>⟨[(6,.ptr 0 []),(0,.p (.str s))],[.siter s i]⟩) (fun i=>i ≤ s.length ∧ okN 0 s = okN i (s.drop i)) (fun i=>s.length - i) 0 (by simp) ?_
 rintro i ⟨k1,k2⟩
 by_cases hi:i < s.length
 · rw [okN_drop hi] at k2
   by_cases ha:s[i] < 128
   · have hd:=dec_lo hb hi ha
     simp [hi,hd]
     refine c1 (c_isLetter _) ?_
     generalize hc:(s[i]:Int) = c at *
     by_cases h0:i = 0
     · rcases cls c with ⟨a,b⟩ | ⟨a,b,d⟩ | ⟨a,b,d,e⟩ | ⟨a,b,d,e,f⟩ | ⟨a,b,d,e,f⟩ | ⟨a,b,d,e,f,g⟩ | ⟨a,b,d,e,f,g⟩ | ⟨a,b,d,e,f,g,h⟩
       · simp [isLet,a,b] at k2
         simp [isLet,a,b]
         exact rd (i + 1) ⟨hi,k2⟩
       · simp [isLet,a,b,d] at k2
         simp [isLet,a,b,d]
         exact rd (i + 1) ⟨hi,k2⟩
       all_goals
        simp [isLet,isName, *] at k2
        simp [isLet,isName, *]
     · rcases cls c with ⟨a,b⟩ | ⟨a,b,d⟩ | ⟨a,b,d,e⟩ | ⟨a,b,d,e,f⟩ | ⟨a,b,d,e,f⟩ | ⟨a,b,d,e,f,g⟩ | ⟨a,b,d,e,f,g⟩ | ⟨a,b,d,e,f,g,h⟩
       · simp [isLet,a,b] at k2
         simp [isLet,a,b]
         exact rd (i + 1) ⟨hi,k2⟩
       · simp [isLet,a,b,d] at k2
         simp [isLet,a,b,d]
         exact rd (i + 1) ⟨hi,k2⟩
       · simp [isLet,isDig,a,b,d,e] at k2
         have d2:c < 48:=by omega
         simp [isLet,isName,a,b,e,h0,d2,k2]
       · simp [isLet,isDig,a,b,d,e,f,h0] at k2
         have d2:¬ c < 48:=by omega
         have e2:¬ 57 < c:=by omega
         simp [isLet,a,b,d2,e2,f,h0]
         exact rd (i + 1) ⟨hi,k2⟩
       · simp [isLet,isDig,a,b,d,e,f] at k2
         have d2:¬ c < 48:=by omega
         have e2:57 < c:=by omega
         simp [isLet,isName,a,b,d2,e2,f,h0,k2]
       · subst g
         simp [isLet,isDig,h0] at k2
         simp [isLet,h0]
         exact rd (i + 1) ⟨hi,k2⟩
       · simp [isLet,isDig,a,b,d,e,f,g] at k2
         have d2:¬ c < 48:=by omega
         have e2:57 < c:=by omega
         simp [isLet,isName,a,b,d,d2,e2,g,h0,k2]
       · simp [isLet,isDig,a,b,d,e,f,g,h] at k2
         have d2:¬ c < 48:=by omega
         have e2:57 < c:=by omega
         simp [isLet,isName,a,b,d,e,d2,e2,h,h0,k2]
   · obtain ⟨hd,_⟩:=dec_hi hb hi ha
     have hl:isLet (s[i]:Int) = false:=by simp [isLet]; omega
     have hg:isDig (s[i]:Int) = false:=by simp [isDig]; omega
     have h95:¬ (s[i]:Int) = 95:=by omega
     simp [hl,hg,h95] at k2
     rcases hdd:Utf8.decode (toBA s) i with ⟨c,d⟩
     rw [hdd] at hd
     have hl2:isLet (c:Int) = false:=by simp [isLet]; omega
     have h1:¬ (c:Int) = 95:=by omega
     have h2:¬ (c:Int) < 48:=by omega
     have h3:57 < (c:Int):=by omega
     simp [hi,hdd]
     refine c1 (c_isLetter _) ?_
     by_cases h0:i = 0
     · simp [hl2,h0,isName,k2]
     · simp [hl2,h0,h1,h2,h3,isName,k2]
 · have:i = s.length:=by omega
   subst this
   simp [okN] at k2
   cases hs:s with
   | nil=>simp [isName]
   | cons a r =>
    rw [hs] at k2
    rcases lt_cases 24 s.length with ⟨g,g'⟩ | ⟨g,g'⟩
    · rw [hs] at g g'
      have:¬ (r.length + 1) ≤ 24:=by simp at g; omega
      simp at g'
      simp [isName,k2,this]
      omega
    · rw [hs] at g g'
      have:(r.length + 1) ≤ 24:=by simp at g'; omega
      simp at g'
      simp [isName,k2,this]
      omega
end Go.Abs
namespace Go.Abs
open Go.Proofs
set_option maxHeartbeats 4000000
set_option maxRecDepth 100000
theorem c_named (s:List Nat) (h:s.length ≤ 1048576):GoodC Tryz.prog 95 [.str s] (.int .i64 (whenE (!isName s) 8)):=by
 refine good_fn nf isF95 mix (by simp [Tryz.f95]) ?_
 simp [Tryz.f95]
 refine c1 (c_isName s h) ?_
 simp
 refine c2 (c_when _ _) ?_
 simp
theorem c_out (n lo hi:Int):GoodC Tryz.prog 122 [.int .i64 n,.int .i64 lo,.int .i64 hi] (.bool (decide (n < lo) || decide (n > hi))):=by
 refine good_fn nf isF122 mix (by simp [Tryz.f122]) ?_
 by_cases h1:n < lo <;> by_cases h2:hi < n <;> simp [Tryz.f122,h1,h2]
theorem c_far (n:Int):GoodC Tryz.prog 235 [.int .i64 n] (.bool (far n)):=by
 refine good_fn nf isF235 mix (by simp [Tryz.f235]) ?_
 by_cases h1:n < -999999999 <;> by_cases h2:999999999 < n <;> simp [Tryz.f235,far,h1,h2]
def idxFrom {α:Type} (p:α → Bool):List α → Nat → Int
 | [],_=>-1
 | x :: r,i=>if p x then (i:Int) else idxFrom p r (i + 1)
theorem idxFrom_any {α:Type} (p:α → Bool):∀ (l:List α) (i:Nat),decide (0 ≤ idxFrom p l i) = l.any p
 | [],i=>by simp [idxFrom]
 | x :: r,i=>by
  by_cases h:p x
  · simp [idxFrom,h]
  · simp [idxFrom,h,idxFrom_any p r]
theorem c_indexInt {g : FuncId} {p : Int → Bool} (hg : ∀ n, GoodC Tryz.prog g [.int .i64 n] (.bool (p n))) (l : List Int) (h : l.length ≤ 1048576) :
    GoodC Tryz.prog 275 [.seq (l.map (.int .i64)),.func g [] []] (.int .i64 (idxFrom p l 0)):=by
 refine good_fn nf isF275 mix (by simp [Tryz.f275]) ?_
 simp [Tryz.f275]
 refine lp (α:=Nat) (fun i=>⟨[(8,.p (.int .i64 i)),(7,.p (.int .i64 l.length)),(1,.p (.func g [] [])),(0,.p (.seq (l.map (.int .i64))))],[]⟩) (fun i=>i ≤ l.length ∧ idxFrom p l 0 = idxFrom p (l.drop i) i) (fun i=>l.length - i) 0 (by simp) ?_
 rintro i ⟨k1,k2⟩
 by_cases hi:i < l.length
 · rw [List.drop_eq_getElem_cons hi] at k2
   have hw:=wi1 (i:=i) (by omega)
   simp [hi]
   refine c1 (hg _) ?_
   by_cases hp:p l[i]
   · simp [idxFrom,hp] at k2
     simp [hp,k2]
   · simp [idxFrom,hp] at k2
     simp [hp,hw]
     exact rd (i + 1) ⟨hi,k2⟩
 · have:i = l.length:=by omega
   subst this
   simp [idxFrom] at k2
   simp [k2]
theorem c_containsInt {g : FuncId} {p : Int → Bool} (hg : ∀ n, GoodC Tryz.prog g [.int .i64 n] (.bool (p n))) (l : List Int) (h : l.length ≤ 1048576) :
    GoodC Tryz.prog 234 [.seq (l.map (.int .i64)),.func g [] []] (.bool (l.any p)):=by
 refine good_fn nf isF234 mix (by simp [Tryz.f234]) ?_
 simp [Tryz.f234]
 refine c2 (c_indexInt hg l h) ?_
 simp [← idxFrom_any p l 0]
theorem c_checkValues (l:List Int) (h:l.length ≤ 1048576):GoodC Tryz.prog 179 [.seq (l.map (.int .i64))] (.int .i64 (chkVals l)):=by
 refine good_fn nf isF179 mix (by simp [Tryz.f179]) ?_
 simp [Tryz.f179]
 refine c2 (c_containsInt c_far l h) ?_
 simp
 refine c2 (c_when _ _) ?_
 simp
 refine c2 (c_when _ _) ?_
 simp
 refine c2 (c_when _ _) ?_
 simp
 refine cp (c_first [whenE ((l.length:Int) == 0) 12,whenE (decide (16 < (l.length:Int))) 5,whenE (l.any far) 3] (by simp)) (by simp [purL,purA]; exact ⟨rfl,rfl⟩) ?_
 simp [chkVals]
theorem c_checkRow (r:RowD) (h:r.vals.length ≤ 1048576):GoodC Tryz.prog 116 [eRow r] (.int .i64 (chkVals r.vals)):=by
 refine good_fn nf isF116 mix (by simp [Tryz.f116]) ?_
 by_cases h1:r.vals.length = 0
 · have e:chkVals r.vals = 12:=by simp [chkVals,whenE,firstE,h1]
   rw [e]
   simp [Tryz.f116,eRow,h1]
 rcases lt_cases 16 r.vals.length with ⟨g,g'⟩ | ⟨g,g'⟩
 · have e:chkVals r.vals = 5:=by simp [chkVals,whenE,firstE,h1,g]
   rw [e]
   simp [Tryz.f116,eRow,h1,g]
 have e:chkVals r.vals = whenE (r.vals.any far) 3:=by
  have a1:((r.vals.length:Int) == 0) = false:=by simpa using h1
  simp only [chkVals,a1,g,decide_false]
  cases r.vals.any far <;> rfl
 rw [e]
 simp [Tryz.f116,eRow,h1,g]
 refine lp (α:=Nat) (fun i=>⟨[(3,.p (.int .i64 i)),(1,.ptr 0 [])],[.box false (.p (eRow r))]⟩) (fun i=>i ≤ r.vals.length ∧ (r.vals.drop i).any far = r.vals.any far) (fun i=>r.vals.length - i) 0 (by simp) ?_ (he:=by simp [eRow]) (hh:=by simp [eRow])
 rintro i ⟨k1,k2⟩
 by_cases hi:i < r.vals.length
 · rw [any_drop hi] at k2
   have hw:=wi1 (i:=i) (by omega)
   simp [hi,eRow]
   refine c3 (c_out _ _ _) ?_
   cases hp:far r.vals[i]
   · rw [hp,Bool.false_or] at k2
     simp only [far] at hp
     simp [hp,hw]
     exact rd (i + 1) ⟨hi,k2⟩ (he:=by simp [eRow]) (hh:=by simp [eRow])
   · rw [hp,Bool.true_or] at k2
     have e2:whenE (r.vals.any far) 3 = 3:=by rw [← k2]; rfl
     simp only [far] at hp
     simp [hp,e2]
 · have:i = r.vals.length:=by omega
   subst this
   rw [List.drop_length,List.any_nil] at k2
   have e2:whenE (r.vals.any far) 3 = 0:=by rw [← k2]; rfl
   simp [eRow,e2]
end Go.Abs
namespace Go.Abs
open Go.Proofs
set_option maxHeartbeats 4000000
set_option maxRecDepth 100000
def keyIs (k:List Nat) (r:RowD):Bool:=decide (r.key = k)
theorem c_find (l:List RowD) (k:List Nat) (h:l.length ≤ 1048576):GoodC Tryz.prog 30 [.seq (l.map eRow),.str k] (.int .i64 (idxFrom (keyIs k) l 0)):=by
 refine good_fn nf isF30 mix (by simp [Tryz.f30]) ?_
 simp [Tryz.f30]
 refine lp (α:=Nat) (fun i=>⟨[(5,.p (.int .i64 i)),(1,.p (.str k)),(0,.p (.seq (l.map eRow)))],[]⟩) (fun i=>i ≤ l.length ∧ idxFrom (keyIs k) l 0 = idxFrom (keyIs k) (l.drop i) i) (fun i=>l.length - i) 0 (by simp) ?_
 rintro i ⟨k1,k2⟩
 by_cases hi:i < l.length
 · rw [List.drop_eq_getElem_cons hi,idxFrom] at k2
   have hw:=wi1 (i:=i) (by omega)
   by_cases hk:l[i].key = k
   · have e:keyIs k l[i] = true:=by simp [keyIs,hk]
     rw [e,if_pos rfl] at k2
     rw [k2]
     simp [hi,eRow,hk]
   · have e:keyIs k l[i] = false:=by simp [keyIs,hk]
     rw [e] at k2
     simp [hi,eRow,hk,hw]
     exact rd (i + 1) ⟨hi,by simpa using k2⟩
 · have:i = l.length:=by omega
   subst this
   rw [List.drop_length,idxFrom] at k2
   rw [k2]
   simp
theorem idxFrom_lt {α:Type} (p:α → Bool):∀ (l:List α) (j i:Nat),i < l.length → (∀ h:i < l.length,p l[i] = true) → (idxFrom p l j < j + i ↔ (l.take i).any p = true)
 | [],j,i,hi,_=>by simp at hi
 | x :: r,j,0,_,h=>by
  have:=h (by simp)
  simp at this
  simp [idxFrom,this]
 | x :: r,j,i + 1,hi,h=>by
  by_cases hx:p x = true
  · simp [idxFrom,hx]; omega
  · have hx:p x = false:=by simpa using hx
    have ih:=idxFrom_lt p r (j + 1) i (by simpa using hi) (fun h'=>by have:=h (by simp only [List.length_cons]; omega); rw [List.getElem_cons_succ] at this; exact this)
    simp only [idxFrom,hx,List.take_succ_cons,List.any_cons,Bool.false_or,Bool.false_eq_true,if_false]
    rw [← ih]
    have:((j + 1:Nat):Int) + i = (j:Int) + (i + 1:Nat):=by omega
    rw [this]
theorem find_seen (l:List RowD) {i:Nat} (hi:i < l.length):decide (idxFrom (keyIs l[i].key) l 0 < i) = ((l.take i).map (·.key)).contains l[i].key:=by
 have h:=idxFrom_lt (keyIs l[i].key) l 0 i hi (fun _=>by simp [keyIs])
 rw [Bool.eq_iff_iff,decide_eq_true_eq]
 have h0:((0:Nat):Int) + (i:Int) = i:=by omega
 rw [h0] at h
 rw [h]
 simp only [List.any_eq_true,keyIs,decide_eq_true_eq,List.contains_iff_mem,List.mem_map]
theorem chk_next (seen : List (List Nat)) (r : RowD) (rs : List RowD) : chkRowsFrom seen (r :: rs) =
    if isName r.key = false then 8 else if seen.contains r.key = true then 9 else if chkVals r.vals ≠ 0 then chkVals r.vals else chkRowsFrom (seen ++ [r.key]) rs:=by
 cases h1:isName r.key <;> cases h2:seen.contains r.key <;> by_cases h3:chkVals r.vals = 0 <;> simp only [chkRowsFrom,firstE,whenE,h1,h2,h3] <;> simp [h3]
theorem c_checkRowsR (l:List RowD) (h:rowsB l):GoodC Tryz.prog 32 [.seq (l.map eRow)] (.int .i64 (chkRows l)):=by
 refine good_fn nf isF32 mix (by simp [Tryz.f32]) ?_
 obtain ⟨h,h'⟩:=h
 rcases lt_cases 256 l.length with ⟨g1,g1'⟩ | ⟨g1,g1'⟩
 · have e:chkRows l = 5:=by simp only [chkRows]; rw [if_pos (by omega)]
   rw [e]
   simp [Tryz.f32,g1]
 have e:chkRows l = chkRowsFrom [] l:=by simp only [chkRows]; rw [if_neg (by omega)]
 rw [e]
 simp [Tryz.f32,g1]
 refine lp (α:=Nat) (fun i=>⟨[(3,.p (.int .i64 i)),(0,.p (.seq (l.map eRow)))],[]⟩) (fun i=>i ≤ l.length ∧ chkRowsFrom [] l = chkRowsFrom ((l.take i).map (·.key)) (l.drop i)) (fun i=>l.length - i) 0 (by simp) ?_
 rintro i ⟨k1,k2⟩
 by_cases hi:i < l.length
 · rw [List.drop_eq_getElem_cons hi,chk_next,← find_seen l hi] at k2
   have ⟨b1,b2⟩:=h' _ (List.getElem_mem hi)
   have hw:=wi1 (i:=i) (by omega)
   simp [hi,eRow]
   refine c1 (c_refIsName _ b1) ?_
   cases hn:isName l[i].key
   · rw [hn,if_pos rfl] at k2
     simp [k2]
   rw [hn,if_neg (by simp)] at k2
   simp [hi,eRow]
   refine c2 (c_find l l[i].key h) ?_
   cases hf:decide (idxFrom (keyIs l[i].key) l 0 < (i:Int))
   · rw [hf,if_neg (by simp)] at k2
     simp [hi,hf]
     refine c1 (c_checkRow l[i] b2) ?_
     by_cases hv:chkVals l[i].vals = 0
     · rw [if_neg (by simpa using hv)] at k2
       simp [hv,hw]
       refine rd (i + 1) ⟨hi,?_⟩
       rw [k2,List.take_succ_eq_append_getElem hi,List.map_append]; rfl
     · rw [if_pos hv] at k2
       simp [hv,k2]
   · rw [hf,if_pos rfl] at k2
     simp [hf,k2]
 · have:i = l.length:=by omega
   subst this
   rw [List.drop_length,chkRowsFrom] at k2
   simp [k2]
end Go.Abs
namespace Go.Abs
open Go.Proofs
set_option maxHeartbeats 4000000
set_option maxRecDepth 100000
def seenE (ks:List (List Nat)):List (PV × PV):=ks.map fun k=>(.str k,.bool true)
theorem look_seen (k:List Nat):∀ (ks:List (List Nat)),lookupM (seenE ks) (.str k) = some (if ks.contains k then some (.bool true) else none)
 | []=>by simp [seenE,lookupM]
 | a :: ks=>by
  have ih:=look_seen k ks
  simp only [seenE,List.map_cons,lookupM,eqP] at ih ⊢
  by_cases h:k = a
  · subst h; simp
  · have hb:(k == a) = false:=by simpa using h
    rw [hb]
    simp only [ih,List.contains_cons,hb,Bool.false_or]
theorem upd_seen (k:List Nat):∀ (ks:List (List Nat)),ks.contains k = false → updateM (seenE ks) (.str k) (.bool true) = seenE (ks ++ [k])
 | [],_=>by simp [seenE,updateM]
 | a :: ks,h=>by
  simp only [List.contains_cons,Bool.or_eq_false_iff] at h
  have ih:=upd_seen k ks h.2
  have hb:=h.1
  simp only [seenE,List.map_cons,updateM,eqP,List.cons_append,hb] at ih ⊢
  simp [ih]
theorem c_checkRows (l:List RowD) (h:rowsB l):GoodC Tryz.prog 96 [.seq (l.map eRow)] (.int .i64 (chkRows l)):=by
 refine good_fn nf isF96 mix (by simp [Tryz.f96]) ?_
 obtain ⟨h,h'⟩:=h
 rcases lt_cases 256 l.length with ⟨g1,g1'⟩ | ⟨g1,g1'⟩
 · have e:chkRows l = 5:=by simp only [chkRows]; rw [if_pos (by omega)]
   rw [e]
   simp [Tryz.f96,g1]
 have e:chkRows l = chkRowsFrom [] l:=by simp only [chkRows]; rw [if_neg (by omega)]
 rw [e]
 simp [Tryz.f96,g1]
 refine lp (α:=Nat) (fun i=>⟨[(13,.p (.int .i64 i)),(12,.p (.int .i64 l.length)),(11,.p (.seq (l.map eRow))),(3,.map 0)],[.map false (seenE ((l.take i).map (·.key)))]⟩) (fun i=>i ≤ l.length ∧ chkRowsFrom [] l = chkRowsFrom ((l.take i).map (·.key)) (l.drop i)) (fun i=>l.length - i) 0 (by simp) ?_ (hh:=by simp [seenE])
 rintro i ⟨k1,k2⟩
 by_cases hi:i < l.length
 · rw [List.drop_eq_getElem_cons hi,chkRowsFrom] at k2
   have ⟨b1,b2⟩:=h' _ (List.getElem_mem hi)
   have hw:=wi1 (i:=i) (by omega)
   have hl:=look_seen l[i].key ((l.take i).map (·.key))
   generalize hks:(l.take i).map (·.key) = ks at *
   simp [hi,eRow]
   refine e1 (c_named _ b1) ?_
   cases hc:ks.contains l[i].key
   · rw [hc,if_neg (by simp)] at hl
     rw [hc] at k2
     simp [hi,eRow,hl]
     refine e2 (c_when _ _) ?_
     simp [hi,eRow]
     refine e1 (c_checkValues _ b2) ?_
     simp
     refine ep (h1:=?h1) (c_first [whenE (!isName l[i].key) 8,whenE false 9,chkVals l[i].vals] (by simp)) (by simp; exact ⟨rfl,rfl⟩) (by simp; exact ⟨rfl,rfl⟩) ?_
     case h1=>simp
     generalize firstE [whenE (!isName l[i].key) 8,whenE false 9,chkVals l[i].vals] = E at *
     by_cases hE:E = 0
     · rw [if_pos hE] at k2
       simp [hE,hl,hw]
       refine ⟨rfl,?_⟩
       have hu:=upd_seen l[i].key ks hc
       have ht:(l.take (i + 1)).map (·.key) = ks ++ [l[i].key]:=by rw [List.take_succ_eq_append_getElem hi,List.map_append,hks]; rfl
       exact rd (i + 1) ⟨hi,by rw [ht,k2]⟩ (hh:=by simp [ht,hu])
     · rw [if_neg hE] at k2
       simp [hE,k2]
       rfl
   · rw [hc,if_pos rfl] at hl
     rw [hc] at k2
     simp [hi,eRow,hl]
     refine e2 (c_when _ _) ?_
     simp [hi,eRow]
     refine e1 (c_checkValues _ b2) ?_
     simp
     refine ep (h1:=?h1) (c_first [whenE (!isName l[i].key) 8,whenE true 9,chkVals l[i].vals] (by simp)) (by simp; exact ⟨rfl,rfl⟩) (by simp; exact ⟨rfl,rfl⟩) ?_
     case h1=>simp
     have hE:firstE [whenE (!isName l[i].key) 8,whenE true 9,chkVals l[i].vals] ≠ 0:=by
      cases isName l[i].key <;> simp [firstE,whenE]
     generalize firstE [whenE (!isName l[i].key) 8,whenE true 9,chkVals l[i].vals] = E at *
     rw [if_neg hE] at k2
     simp [hE,k2]
     rfl
 · have:i = l.length:=by omega
   subst this
   rw [List.drop_length,chkRowsFrom] at k2
   simp [k2]
end Go.Abs
