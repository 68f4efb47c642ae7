import Derived.Test.YtanjnahmbanmaaaGreatDoorThA
import Derived.Lib.Strings
import Derived.Laws.Append
import Derived.Laws.StructEq
import Derived.Laws.Concat
import Derived.MapKept
/- Parts of a proof. -/
set_option linter.unusedSimpArgs false
set_option linter.unusedVariables false
set_option linter.unusedSectionVars false
namespace Go.Abs
set_option linter.unusedSectionVars false
variable [Gl]
def ab3 (i:Nat):List AV→Env
 | []=>[]
 | v::r=>(i,v)::ab3 (i+1) r
def agG (P:Program) (s:St):ResultVar→Option AV
 | .tmp t=>some (getE s.env t)
 | .cell a T=>match getE s.env a with
  | .ptr b path=>match s.heap[b]? with
   | some (.box _ t)=>match subA t path with
    | some v=>if kindOf P T=shpA v then some v else none
    | none=>none
   | _=>none
  | _=>none
def aaO (P:Program) (s:St):List ResultVar→Option (List AV)
 | []=>some []
 | r::rs=>match agG P s r,aaO P s rs with
  | some v,some vs=>some (v::vs)
  | _,_=>none
def oneOf:List AV→AV
 | [v]=>v
 | vs=>match allP vs with
  | some l=>.p (.tup l)
  | none=>.tup vs
def mapO (f:AV→Option PV):List AV→Option (List PV)
 | []=>some []
 | v::vs=>match f v,mapO f vs with
  | some p,some ps=>some (p::ps)
  | _,_=>none
def purR (H:Heap):Nat→AV→Option PV
 | 0,.p v=>some v
 | 0,_=>none
 | n+1,x=>match x with
  | .p v=>some v
  | .sl b ver esz off len=>match H[b]? with
   | some (.arr k ver' esz' es) =>
    if ver=ver'∧esz=esz'∧off+len≤es.length then
     if k.gr=true∧es=[] then some .nsl else
     match mapO (purR H n) ((es.drop off).take len) with
     | some ps=>some (.lst (k == .exact && off+len == es.length) ps)
     | none=>none
    else none
   | _=>none
  | .ptr b path=>match H[b]? with
   | some (.box _ t)=>match subA t path with
    | some s=>match purR H n s with
     | some p=>some (.fptr p)
     | none=>none
    | none=>none
   | _=>none
  | .map b=>match H[b]? with
   | some (.map _ es)=>some (.fmap es)
   | _=>none
  | .func f fi ca=>match mapO (purR H n) fi,mapO (purR H n) ca with
   | some a,some b=>some (.func f a b)
   | _,_=>none
  | .st u fs=>match mapO (purR H n) fs with
   | some l=>some (.st u l)
   | none=>none
  | .tup vs=>match mapO (purR H n) vs with
   | some l=>some (.tup l)
   | none=>none
  | .eptr _ _ _ _ _=>none
section
variable {P:Program} {w:World} {Imm Prot:Nat→Prop} {β:Bd} {H:Heap}
def auK (Imm:Nat→Prop) (β:Bd) (H:Heap) (k:Nat):Prop:=Imm k∨∃ (b:Nat) (o:Obj),H[b]?=some o∧o.live∧β.blk b=k
theorem ao2:∀ {n:Nat} {v:AV} {p:PV},purR H n v=some p→(shpA v=shp p)
 | 0,v,p,h=>by
  cases v <;> simp [purR] at h;subst h; rfl
 | n+1,v,p,h=>by
  cases v <;> simp only [purR] at h
  case p v=>simp at h; subst h; rfl
  case eptr=>simp at h
  case sl b ver esz off len =>
   split at h
   · split at h
     · split at h
       · simp at h; subst h; rfl
       · split at h
         · simp at h; subst h; rfl
         · simp at h
     · simp at h
   · simp at h
  case ptr b path =>
   split at h
   · split at h
     · split at h
       · simp at h; subst h; rfl
       · simp at h
     · simp at h
   · simp at h
  all_goals
   split at h
   · simp at h; subst h; rfl
   · simp at h
theorem ajQ {v:AV} {p:PV} {cs:List Value} (hs:shpA v=shp p) (hc:AVC P w Imm β H v cs) {I:Nat→Prop} (h:∀ x,AVV P w Imm β H v x→PVV P w I p x):PVC P w I p cs:=by
 cases hv:shpA v with
 | bad=>exact ((acF hc).2 hv).elim
 | leaf =>
  obtain ⟨c,rfl,h1⟩:=(akZ hv cs).1 hc;exact (aeN (hs▸hv) _).2 ⟨c,rfl,h _ h1⟩
 | agg u=>exact (aiX (hs▸hv) cs).2 (h _ ((auM hv cs).1 hc))
section lists
variable {f:AV→Option PV} {I:Nat→Prop} (hf:∀ v p,f v=some p→shpA v=shp p∧(aaa (InH H) v→∀ x,AVV P w Imm β H v x→PVV P w I p x))
include hf
theorem afy:∀ {vs:List AV} {ps:List PV},mapO f vs=some ps→aac (InH H) vs→∀ xs,AVVl P w Imm β H vs xs→PVVl P w I ps xs
 | [],ps,h,_,xs,hx=>by
  simp [mapO] at h; subst h;simpa [AVVl,PVVl] using hx
 | v::vs,ps,h,hre,xs,hx=>by
  simp only [mapO] at h
  split at h
  case h_2=>simp at h
  rename_i q qs hq hqs;simp at h; subst h;simp only [aac] at hre;simp only [AVVl] at hx;obtain ⟨y,ys,rfl,k1,k2⟩:=hx;simp only [PVVl];exact ⟨y,ys,rfl,(hf _ _ hq).2 hre.1 _ k1,afy hqs hre.2 _ k2⟩
theorem agd:∀ {vs:List AV} {ps:List PV},mapO f vs=some ps→aac (InH H) vs→∀ l css,AVCl P w Imm β H l vs css→PVCl P w I l ps css
 | [],ps,h,_,l,css,hx=>by
  simp [mapO] at h; subst h;cases l <;> simp_all [AVCl,PVCl]
 | v::vs,ps,h,hre,l,css,hx=>by
  simp only [mapO] at h
  split at h
  case h_2=>simp at h
  rename_i q qs hq hqs;simp at h; subst h;simp only [aac] at hre;cases l with
  | nil=>simp [AVCl] at hx
  | cons m l =>
   simp only [AVCl] at hx;obtain ⟨c,cs,rfl,k1,k2,k3⟩:=hx;simp only [PVCl];exact ⟨c,cs,rfl,ajQ (hf _ _ hq).1 k1 ((hf _ _ hq).2 hre.1),k2,agd hqs hre.2 _ _ k3⟩
end lists
theorem aeE (hr:HRel P w Imm β H Prot):∀ (n:Nat) (v:AV) (p:PV),purR H n v=some p→aaa (InH H) v→∀ x,AVV P w Imm β H v x→PVV P w (auK Imm β H) p x
 | 0,v,p,h,_,x,hx=>by
  cases v <;> simp [purR] at h;subst h;simp only [AVV] at hx;exact PVV.mono (fun _=>.inl) (fun _ _=>rfl) _ _ hx
 | n+1,v,p,h,hre,x,hx=>by
  have hf:∀ v p,purR H n v=some p→shpA v=shp p∧(aaa (InH H) v→∀ x,AVV P w Imm β H v x→PVV P w (auK Imm β H) p x):=fun v p h=>⟨ao2 h,aeE hr n v p h⟩
  cases v <;> simp only [purR] at h
  case p v =>
   simp at h; subst h;simp only [AVV] at hx;exact PVV.mono (fun _=>.inl) (fun _ _=>rfl) _ _ hx
  case eptr=>simp at h
  case sl b ver esz off len =>
   split at h
   case h_2=>simp at h
   rename_i k ver' esz' es hob
   split at h
   case isFalse=>simp at h
   rename_i hcond;obtain ⟨rfl,rfl,hl⟩:=hcond;simp only [AVV] at hx;obtain ⟨_,hx⟩:=hx;simp only [RefC] at hx;obtain ⟨v1,v2,v3⟩:=hx k es hob
   split at h
   · rename_i hn;simp at h; subst h;simp [PVV,v2 hn]
   · rename_i hn
     split at h
     case h_2=>simp at h
     rename_i ps hps;simp at h; subst h;rw [v3 hn];rcases hr.objs b _ hob with hold | ⟨cs,T,css,rest,h1,h2,h3,h4,h5,h6,h7,h8⟩
     · exact (hn hold).elim
     obtain ⟨a,m,c,e1,e2,e3,e4,e5⟩:=ab1 h2 off len v1;have hseg:aac (InH H) ((es.drop off).take len):=by
      have:=hr.refs b _ hob;rw [aag];intro v hv;exact aag.1 this v (List.mem_of_mem_drop (List.mem_of_mem_take hv))
     have hlen:((es.drop off).take len).length=len:=by simp; omega
     have k1:=agd hf hps hseg _ _ e2;have hl2:ps.length=len:=by have:=(acT k1).2.1; simp at this; omega
     simp only [PVV];refine ⟨β.blk b,off*esz,β.cap b - off,esz,m,by rw [hl2,← hlen]; exact k1,fun _=>.inr ⟨b,_,hob,hn,rfl⟩,?_,?_,?_,none,.inl rfl,?_⟩
     · rw [← e3];exact abg h1 (post:=c.flatten ++ rest) (by rw [h3,e1]; simp)
     · intro hf;simp at hf;rw [hl2,h6 hf.1]; omega
     · rw [hl2]; omega
     · rw [hl2]
  case ptr b path =>
   split at h
   case h_2=>simp at h
   rename_i fz t hob
   split at h
   case h_2=>simp at h
   rename_i s hs
   split at h
   case h_2=>simp at h
   rename_i q hq;simp at h; subst h;simp only [AVV] at hx;obtain ⟨_,hx⟩:=hx;simp only [RefC] at hx;obtain ⟨blk0,off0,o,rfl,ho,hx⟩:=hx;obtain ⟨rfl,rfl⟩:=hx (.inl ⟨fz,_,hob⟩);obtain ⟨cs,T,h1,h2,h3,h4⟩:=hr.objs b _ hob;obtain ⟨pre,xs,post,e1,e2,e3,_⟩:=aek h2 hs ho;have hre':aaa (InH H) s:=afn hs (hr.refs b _ hob);simp only [PVV];refine ⟨β.blk b,off0,xs,ajQ (ao2 hq) e3 (aeE hr n _ _ hq hre'),.inr ⟨b,_,hob,trivial,rfl⟩,?_,rfl⟩;rw [← e2]; exact abg h1 e1
  case map b =>
   split at h
   case h_2=>simp at h
   rename_i fz es hob;simp at h; subst h;simp only [AVV] at hx;obtain ⟨_,hx⟩:=hx;simp only [RefC] at hx;have hx:=hx.1 ⟨fz,es,hob⟩;obtain ⟨ents,clock,h1,h2,h3⟩:=hr.objs b _ hob;simp only [PVV];exact ⟨β.blk b,ents,clock,.inr ⟨b,_,hob,trivial,rfl⟩,h1,PVM.mono (fun _=>.inl) (fun _ _=>rfl) _ _ h2,hx⟩
  case func f a b =>
   split at h
   case h_2=>simp at h
   rename_i a' b' ha hb;simp at h; subst h;simp only [aaa] at hre;simp only [AVV] at hx;obtain ⟨fv,cv,k1,k2,k3⟩:=hx;simp only [PVV];exact ⟨fv,cv,afy hf ha hre.1 _ k1,afy hf hb hre.2 _ k2,k3⟩
  case st u fs =>
   split at h
   case h_2=>simp at h
   rename_i l hl;simp at h; subst h;simp only [aaa] at hre;simp only [AVV] at hx;obtain ⟨l',css,k1,k2,k3⟩:=hx;simp only [PVV];exact ⟨l',css,k1,agd hf hl hre _ _ k2,k3⟩
  case tup vs =>
   split at h
   case h_2=>simp at h
   rename_i l hl;simp at h; subst h;simp only [aaa] at hre;simp only [AVV] at hx;obtain ⟨xs,k1,k2⟩:=hx;simp only [PVV];exact ⟨xs,afy hf hl hre _ k1,k2⟩
end
section
variable {P:Program} {frz:FuncId→Bool} {fit:Nat→Array Oper→Bool}
theorem aff:∀ (args:List AV) (i x:Nat),getE (ab3 i args) x=if i≤x then (args[x - i]?).getD (.p .undef) else .p .undef
 | [],i,x=>by simp [ab3,getE]
 | v::r,i,x=>by
  simp only [ab3,getE,aff r]
  by_cases h:x=i
  · subst h; simp
  · by_cases h1:i≤x
    · have h2:i+1≤x:=by omega
      simp only [h,h1,h2,if_true,if_false];rw [show x - i=(x - (i+1))+1 by omega,List.getElem?_cons_succ]
    · have h2:¬ i+1≤x:=by omega
      simp [h,h1,h2]
theorem aeO {w:World} {Imm:Nat→Prop} {β:Bd} {H:Heap}:∀ {vs:List AV} {xs:List Value},AVVl P w Imm β H vs xs→xs.length=vs.length∧∀ i:Nat,AVV P w Imm β H ((vs[i]?).getD (.p .undef)) ((xs[i]?).getD undef)
 | [],xs,h=>by simp only [AVVl] at h; subst h; simp [AVV,PVV]
 | v::vs,xs,h=>by
  simp only [AVVl] at h;obtain ⟨y,ys,rfl,h1,h2⟩:=h;have:=aeO h2;refine ⟨by simp [this.1],fun i=>?_⟩;cases i with
  | zero=>simpa using h1
  | succ i=>simpa using this.2 i
theorem arQ {Prot Imm : Nat → Prop} {β : Bd} {w : World} {H : Heap} {args : List AV} {cargs : List Value} {n : Nat} (hr : HRel P w Imm β H Prot) (ha : AVVl P w Imm β H args cargs) (hre : aac (InH H) args) (hn : args.length ≤ n) :
    SRel P n Prot Imm β ⟨ab3 0 args,H⟩ (cargs.toArray ++ Array.replicate (n - cargs.length) undef) w:=by
 obtain ⟨h1,h2⟩:=aeO ha;refine ⟨hr,fun x=>?_,fun x=>?_,by simp [h1]; omega⟩
 · have e:(cargs.toArray ++ Array.replicate (n - cargs.length) undef).getD x undef=(cargs[x]?).getD undef:=by
    rw [Array.getD_eq_getD_getElem?,← Array.getElem?_toList];simp only [Array.toList_append,Array.toList_replicate]
    by_cases hx:x<cargs.length
    · rw [List.getElem?_append_left (by simpa using hx)]
    · rw [List.getElem?_append_right (by simpa using hx)];simp only [List.getElem?_replicate];rw [List.getElem?_eq_none (by simpa using hx)]
      split <;> rfl
   rw [e,aff];simpa using h2 x
 · rw [aff];simp only [Nat.zero_le,if_true,Nat.sub_zero];cases hv:args[x]? with
   | none=>simp [aaa]
   | some v=>exact aag.1 hre v (List.mem_of_getElem? hv)
theorem ah6 {w : World} {Imm : Nat → Prop} {β : Bd} {H : Heap} {T : TypeId} {v : AV} {blk off : Nat} {xs : List Value} (hk : kindOf P T = shpA v) (hv : AVC P w Imm β H v xs) (hc : aa5 w blk off xs) :
    ∃ cv,(loadVar T ⟨blk,off,none⟩).run P w=.ok cv w∧AVV P w Imm β H v cv:=by
 obtain ⟨hl,hb⟩:=acF hv;have hadd:∀ j,(⟨blk,off,none⟩:Addr).add j=⟨blk,off+j,none⟩:=by intro j; unfold Addr.add; split <;> simp_all
 unfold kindOf at hk;cases hs:shpA v with
 | bad=>exact (hb hs).elim
 | leaf =>
  rw [hs] at hk;obtain ⟨c,rfl,h1⟩:=(akZ hs xs).1 hv;refine ⟨c,?_,h1⟩;have h0:=hc 0 (by simp);simp only [Nat.add_zero,List.getElem_cons_zero] at h0;have hagg:(isAgg T).run P w=.ok false w:=by
   cases hu:P.underlying T with
   | none=>simp [hu] at hk
   | some d =>
    cases d <;> simp only [hu] at hk <;> first
     | (simp [isAgg,run_underlying hu]; done)
     | (split at hk <;> simp at hk)
  simp [loadVar,hagg,h0]
 | agg u =>
  rw [hs] at hk;have h1:=(auM hs xs).1 hv;refine ⟨.agg xs.toArray,?_,h1⟩;have hagg:(isAgg T).run P w=.ok true w∧P.cellsOf T=xs.length:=by
   rw [hl,hs];cases hu:P.underlying T with
   | none=>simp [hu] at hk
   | some d =>
    cases d <;> simp only [hu] at hk <;> first
     | (split at hk
        · rename_i hc;simp at hk; subst hk;simp at hc;refine ⟨by simp [isAgg,run_underlying hu],hc.2⟩
        · simp at hk)
     | (split at hk <;> simp at hk)
  obtain ⟨i,hi⟩:∃ i,P.info? T=some i:=by
   cases hi:P.info? T with
   | none =>
    have h2:=hagg.1;simp [isAgg,underlying,Program.underlying,hi] at h2
   | some i=>exact ⟨i,rfl⟩
  have hsz:(sizeOf T).run P w=.ok xs.length w:=by
   rw [← hagg.2];simp [sizeOf,typeInfo,hi,Program.cellsOf]
  have hload:=run_loadCells_list (P:=P) w ⟨blk,off,none⟩ xs (fun j x hx=>by
   rw [hadd];have hj:j<xs.length:=(List.getElem?_eq_some_iff.1 hx).1;rw [hc j hj];rw [List.getElem?_eq_getElem hj] at hx;exact hx)
  simp [loadVar,hagg.1,hsz,hload]
theorem aqx {n : Nat} {Prot Imm : Nat → Prop} {β : Bd} {s : St} {t : Array Value} {w : World} (h : SRel P n Prot Imm β s t w) {rv : ResultVar} {v : AV} (hv : agG P s rv = some v) :
    ∃ cv,(match rv with
     | .tmp x=>(pure (t.getD x undef):Sem Value)
     | .cell a T=>do loadVar T (← asAddr (t.getD a undef))).run P w=.ok cv w∧AVV P w Imm β s.heap v cv∧aaa (InH s.heap) v:=by
 cases rv with
 | tmp x =>
  simp [agG] at hv; subst hv;exact ⟨_,rfl,h.env x,h.erefs x⟩
 | cell a T =>
  simp only [agG] at hv;have he:=h.env a
  split at hv
  case h_2=>simp at hv
  rename_i b path ha;rw [ha] at he
  split at hv
  case h_2=>simp at hv
  rename_i fz tr hob
  split at hv
  case h_2=>simp at hv
  rename_i v' hs
  split at hv
  case isFalse=>simp at hv
  rename_i hc;simp at hv; subst hv;simp only [AVV] at he;obtain ⟨_,he⟩:=he;simp only [RefC] at he;obtain ⟨blk0,off0,o,hptr,ho,he⟩:=he;obtain ⟨rfl,rfl⟩:=he (.inl ⟨fz,tr,hob⟩);obtain ⟨cs,T',h1,h2,h3,h4⟩:=h.heap.objs b _ hob;obtain ⟨pre,xs,post,e1,e2,e3,_⟩:=aek h2 hs ho;have hcells:aa5 w (β.blk b) off0 xs:=by rw [← e2]; exact abg h1 e1
  obtain ⟨cv,k1,k2⟩:=ah6 hc e3 hcells;refine ⟨cv,?_,k2,afn hs (h.heap.refs b _ hob)⟩;simp only [hptr,asAddr];simp [k1]
theorem ahE {n : Nat} {Prot Imm : Nat → Prop} {β : Bd} {s : St} {t : Array Value} {w : World} (h : SRel P n Prot Imm β s t w) : ∀ {rs : List ResultVar} {vs : List AV}, aaO P s rs = some vs →
    ∃ cvs:List Value,(rs.mapM (fun rv:ResultVar=>match rv with
     | .tmp x=>(pure (t.getD x undef):Sem Value)
     | .cell a T=>do loadVar T (← asAddr (t.getD a undef)))).run P w=.ok cvs w∧AVVl P w Imm β s.heap vs cvs∧aac (InH s.heap) vs
 | [],vs,hv=>by
  simp [aaO] at hv; subst hv;exact ⟨[],by simp,by simp [AVVl],by simp [aac]⟩
 | r::rs,vs,hv=>by
  simp only [aaO] at hv
  split at hv
  case h_2=>simp at hv
  rename_i v vs' h1 h2;simp at hv; subst hv;obtain ⟨cv,k1,k2,k3⟩:=aqx h h1;obtain ⟨cvs,g1,g2,g3⟩:=ahE h h2;refine ⟨cv::cvs,?_,by simp only [AVVl]; exact ⟨cv,cvs,rfl,k2,g2⟩,by simp only [aac]; exact ⟨k3,g3⟩⟩;simp only [List.mapM_cons,Sem.run_bind,k1,Result.andThen_ok,g1];rfl
theorem alL {w : World} {Imm : Nat → Prop} {β : Bd} {H : Heap} {vs : List AV} {cvs : List Value} (h : AVVl P w Imm β H vs cvs) (hr : aac (InH H) vs) :
    AVV P w Imm β H (oneOf vs) (if h:cvs.toArray.size=1 then cvs.toArray[0] else .tuple cvs.toArray)∧aaa (InH H) (oneOf vs):=by
 have hl:=(aeO h).1
 match vs,cvs,h with
 | [v],[c],h =>
  simp only [AVVl] at h;obtain ⟨y,ys,he,h1,h2⟩:=h;cases he;simp only [aac] at hr;exact ⟨by simpa [oneOf] using h1,by simpa [oneOf] using hr.1⟩
 | [],[],h=>exact ⟨by simp [oneOf,allP,AVV,PVV,PVVl],by simp [oneOf,allP,aaa]⟩
 | v1::v2::vs,c1::c2::cvs,h =>
  have hs:¬ (c1::c2::cvs).toArray.size=1:=by simp
  rw [dif_neg hs];simp only [oneOf];cases ha:allP (v1::v2::vs) with
  | none=>exact ⟨by simp only [AVV]; exact ⟨_,h,rfl⟩,by simpa only [aaa] using hr⟩
  | some l =>
   have:=acR ha;rw [this] at h;exact ⟨by simp only [AVV,PVV]; exact ⟨_,abq.1 h,rfl⟩,by simp [aaa]⟩
 | [],_::_,_=>simp at hl
 | [_],[],_=>simp at hl
 | [_],_::_::_,_=>simp at hl
 | _::_::_,[],_=>simp at hl
 | _::_::_,[_],_=>simp at hl
theorem takes {fr : Frame} {cs : List Frame} (hm : fr.mode = .returning) : ∀ (rs : List Nat) (w : World), rs.Nodup → (∀ r ∈ rs, w.heap[r]? = some (.deferred (some []))) →
    ∃ w',Steps P (lone { fr with defers:=rs.map mark } cs w) (lone { fr with defers:=[] } cs w')∧w'.heap.size=w.heap.size∧(∀ k,k ∉ rs→w'.heap[k]?=w.heap[k]?)∧(w'.os=w.os∧w'.output=w.output)
 | [],w,_,_=>⟨w,Steps.refl _ _,rfl,fun _ _=>rfl,rfl,rfl⟩
 | r::rs,w,hn,h=>by
  rw [List.nodup_cons] at hn;have hr:=h r (by simp);have hk:=run_takeDeferred (P:=P) hr;have hlt:=(Array.getElem?_eq_some_iff.1 hr).1;obtain ⟨w',h1,h2,h3,hio⟩:=takes hm rs (w.putObj r (.deferred none)) hn.2 (fun x hx=>(World.putObj_heap_other (fun (e:x=r)=>hn.1 (e▸hx))).trans (h x (by simp [hx])));refine ⟨w',(Steps.one (step_collected (fr:={ fr with defers:=(r::rs).map mark }) (d:=mark r) (ds:=rs.map mark) (by simp [hm]) rfl rfl hk)).trans h1,by simpa using h2,fun k hk=>?_,hio⟩;simp only [List.mem_cons,not_or] at hk;exact (h3 k hk.2).trans (World.putObj_heap_other hk.1)
theorem aiQ {N : Nat} {f : FuncId} {fn : Func} {c : Code} (HS : ab2 P frz) (HD : adx P frz fit) (hf : P.funcs[f]? = some fn) (hb : fn.body = some c) (hok : codeOk fit fn.ntmps c = true)
    {args:List AV} {H:Heap} {R:List AV→St→Prop} (hn:args.length≤fn.ntmps)
    (hwp:aap P frz (fn.ntmps,N) c (fun e s=>(match e with
     | .exit _=>False
     | _=>True)∧∃ vs,aaO P s fn.results.toList=some vs∧R vs s) ⟨ab3 0 args,H⟩)
    {w:World} {Imm Prot:Nat→Prop} {β:Bd} {cargs:List Value} (hr:HRel P w Imm β H Prot) (ha:AVVl P w Imm β H args cargs) (hre:aac (InH H) args) :
    Calls P f cargs.toArray w fun e w'=>∃ vs s cvs Imm' β' t,e=.returned (if h:cvs.toArray.size=1 then cvs.toArray[0] else .tuple cvs.toArray)∧R vs s∧SRel P fn.ntmps Prot Imm' β' s t w'∧Adv N Prot Imm w β H Prot Imm' w' β' s.heap ∧
     AVVl P w' Imm' β' s.heap vs cvs∧aac (InH s.heap) vs:=by
 intro cs;have hlen:=(aeO ha).1;obtain ⟨fr0,hfr0⟩:∃ fr0:Frame,fr0 = { fn:=f,tmps:=#[],todo:=[],defers:=[],mode:=.run,kind:=.normal }:=⟨_,rfl⟩
 have henter:Frame.enter P f cargs.toArray .normal=fat fr0 (cargs.toArray ++ Array.replicate (fn.ntmps - cargs.length) undef) [] [.code c]:=by
  subst hfr0;simp [Frame.enter,fat,hf,hb]
 obtain ⟨e,s,Prot1,Imm',β',t,w1,ds',⟨h1,vs,h2,h3⟩,h4,h5,h6,h7⟩:=abr (fr:=fr0) (cs:=cs) (ds:=[]) HS HD c [] hok hwp (arQ hr ha hre hn) (fun l hl=>by subst hfr0; cases hl);obtain ⟨rs,hds,hnd,hrs,hpr,_⟩:=h7;rw [List.append_nil] at hds;subst hds;rw [henter]
 have fin : ∀ todo, Steps P (lone (fat fr0 (cargs.toArray ++ Array.replicate (fn.ntmps - cargs.length) undef) [] [.code c]) cs w) (lone { fat fr0 t (rs.map mark) todo with mode := .returning } cs w1) →
     ∃ e w' fr,(∃ vs s cvs Imm' β' t,e=.returned (if h:cvs.toArray.size=1 then cvs.toArray[0] else .tuple cvs.toArray)∧R vs s∧SRel P fn.ntmps Prot Imm' β' s t w'∧Adv N Prot Imm w β H Prot Imm' w' β' s.heap ∧
      AVVl P w' Imm' β' s.heap vs cvs∧aac (InH s.heap) vs)∧Comes P (lone (fat fr0 (cargs.toArray ++ Array.replicate (fn.ntmps - cargs.length) undef) [] [.code c]) cs w) (lone fr cs w') e∧fr.fn=f∧fr.leaving P w' e:=by
  intro todo hst;obtain ⟨w',t1,t2,t3,t4⟩:=takes (P:=P) (fr:={ fat fr0 t (rs.map mark) todo with mode:=.returning }) (cs:=cs) rfl rs w1 hnd (fun r hr=>(hrs r hr).2.2.2);have hsame:∀ k,Imm' k→w'.heap[k]?=w1.heap[k]?:=fun k hk=>t3 k (fun hr=>(hrs k hr).2.2.1 hk);have hrel':SRel P fn.ntmps Prot Imm' β' s t w':=⟨h5.heap.shut h6.prot (R:=fun k=>k∈rs) (fun x hx=>⟨(hrs x hx).2.1,(hrs x hx).2.2.1⟩) t2 t3,fun x=>AVV.mono (fun _ x=>x) hsame (aaG.refl _ _) _ _ (h5.erefs x) (h5.env x),h5.erefs,h5.size⟩
  have hadv : Adv N Prot Imm w β H Prot Imm' w' β' s.heap := ⟨fun _ x => x, h6.imm, h6.fresh, ⟨by rw [t2]; exact h6.ext.size, fun k hk => (t3 k (fun hm => by
      have:=(hrs k hm).1;have:=hk.elim (hr.prot k) (hr.imm k);omega)).trans (h6.ext.same k hk),t4.1.trans h6.ext.io.1,t4.2.trans h6.ext.io.2⟩,h6.step,h6.inn,h6.loop⟩
  obtain ⟨cvs,g1,g2,g3⟩:=ahE hrel' h2;have hres:(results fn t).run P w'=.ok (if h:cvs.toArray.size=1 then cvs.toArray[0] else .tuple cvs.toArray) w':=by
   simp only [results];rw [Array.mapM_eq_mapM_toList];rw [Sem.run_bind,Sem.run_map]
   erw [g1]
   rfl
  refine ⟨_,w',{ fat fr0 t [] todo with mode:=.returning },⟨vs,s,cvs,Imm',β',t,rfl,h3,hrel',hadv,g2,g3⟩,Steps.trans hst t1,by subst hfr0; rfl,?_⟩;subst hfr0;exact ⟨rfl,rfl,rfl,fn,hf,hres⟩
 cases e with
 | exit id=>exact h1.elim
 | normal =>
  exact fin [] (Steps.trans h4 (.one (step_lone_go (by subst hfr0; simp [stepG,stepG.exec,fat]))))
 | ret =>
  obtain ⟨k',h4⟩:=h4;exact fin (.code .ret::k') (Steps.trans h4 (.one (step_lone_go (by subst hfr0; simp [stepG,stepG.exec,fat]))))
theorem apD {f : FuncId} {fn : Func} {c : Code} (HS : ab2 P frz) (HD : adx P frz fit) (hent : Enters P f) (hf : P.funcs[f]? = some fn) (hb : fn.body = some c) (hok : codeOk fit fn.ntmps c = true)
    {args:List PV} {v:PV} (hn:args.length≤fn.ntmps)
    (hwp:aap P frz (fn.ntmps,0) c (fun e s=>(match e with
     | .exit _=>False
     | _=>True)∧∃ vs,aaO P s fn.results.toList=some vs∧purR s.heap 9 (oneOf vs)=some v) ⟨ab3 0 (args.map .p),[]⟩):aot P f args v:=by
 refine ⟨hent,fun w Imm cargs himm hgl ha=>?_⟩;have hr:HRel P w Imm ⟨id,id⟩ [] (fun k=>k<w.heap.size):=⟨by simp,by simp,by simp,himm,fun _ h=>h,hgl⟩
 refine (aiQ HS HD hf hb hok (R:=fun vs s=>purR s.heap 9 (oneOf vs)=some v) (by simpa using hn) hwp hr (abq.2 ha) (aaE _ _)).mono ?_;rintro e w' ⟨vs,s,cvs,Imm',β',t,rfl,hR,hs,hadv,hv,hvr⟩;obtain ⟨h1,h2⟩:=alL hv hvr;have h3:=aeE hs.heap _ _ _ hR h2 _ h1;refine ⟨_,auK Imm' β' s.heap,rfl,fun k hk=>.inl (hadv.imm k hk),?_,?_,hadv.ext.size,fun k hk=>hadv.ext.same k (.inl hk),hadv.ext.io,h3⟩
 · rintro k (hk | ⟨b,o,ho,hl,rfl⟩)
   · rcases hadv.fresh k hk with h | h
     · exact .inl h
     · exact .inr (by omega)
   · by_cases hp:β'.blk b<w.heap.size
     ·
      left;have hold:=hs.heap.objs b o ho;have:Imm' (β'.blk b)∨¬ (β'.blk b<w.heap.size):=by
       have key:∀ fz,Held Imm' β' (fun k=>k<w.heap.size) fz b→Imm' (β'.blk b)∨¬ (β'.blk b<w.heap.size):=fun fz h=>by
        cases fz with
        | true=>exact .inl h
        | false=>exact .inr h.2
       cases o with
       | hole=>exact hl.elim
       | dead=>exact hl.elim
       | box fz t=>obtain ⟨_,_,_,_,h,_⟩:=hold; exact key _ h
       | arr k ver esz es =>
        rcases hold with hold | ⟨_,_,_,_,_,_,_,_,_,_,h,_⟩
        · exact (hl hold).elim
        · exact key _ h
       | map fz es=>obtain ⟨_,_,_,_,h⟩:=hold; exact key _ h
       | siter s pos=>obtain ⟨_,_,_,h⟩:=hold; exact key _ h
       | loop L=>obtain ⟨_,_,_,_,_,_,h⟩:=hold; exact key _ h
      rcases this with h | h
      · rcases hadv.fresh _ h with h' | h'
        · exact h'
        · exact (h' hp).elim
      · exact (h hp).elim
     · exact .inr (by omega)
 · rintro k (hk | ⟨b,o,ho,hl,rfl⟩)
   · exact hs.heap.imm k hk
   · exact hs.heap.ada ho hl
def arf (P:Program) (rs:List ResultVar) (N:Nat) (H':Heap) (v:AV) (e:aan) (s:St):Prop :=
 (match e with
  | .exit _=>False
  | _=>True)∧∃ vs,aaO P s rs=some vs∧oneOf vs=v∧(H'=s.heap∨(aaD N s ⟨[],H'⟩∧aaa (InH H') v))
theorem av4 {f : FuncId} {fn : Func} {c : Code} (HS : ab2 P frz) (HD : adx P frz fit) (hent : Enters P f) (hf : P.funcs[f]? = some fn) (hb : fn.body = some c) (hok : codeOk fit fn.ntmps c = true)
    {args:List AV} {H H':Heap} {v:AV} (hn:args.length≤fn.ntmps) (hwp:aap P frz (fn.ntmps,H.length) c (arf P fn.results.toList H.length H' v) ⟨ab3 0 args,H⟩):abp P f H args H' v:=by
 refine ⟨hent,fun w Imm Prot β cargs hr ha hre=>?_⟩;refine (aiQ HS HD hf hb hok (R:=fun vs s=>oneOf vs=v∧(H'=s.heap∨(aaD H.length s ⟨[],H'⟩∧aaa (InH H') v))) hn hwp hr ha hre).mono ?_;rintro e w' ⟨vs,s,cvs,Imm',β',t,rfl,⟨rfl,hfg⟩,hs,hadv,hvs,hvr⟩;obtain ⟨h1,h2⟩:=alL hvs hvr;obtain ⟨ha2,k1,k2,k3⟩:Adv H.length Prot Imm w β H Prot Imm' w' β' H'∧HRel P w' Imm' β' H' Prot∧AVV P w' Imm' β' H' (oneOf vs) (if h:cvs.toArray.size=1 then cvs.toArray[0] else .tuple cvs.toArray)∧aaa (InH H') (oneOf vs):=by
  rcases hfg with rfl | ⟨hfg,hv⟩
  · exact ⟨hadv,hs.heap,h1,h2⟩
  · refine ⟨hadv.trans (hfg.adv (β:=β') (Prot:=Prot) (Imm:=Imm') (w:=w')),(hfg.rel hs).heap,?_,hv⟩;rcases hfg with hfg | hfg
    · have e:H'=s.heap:=by rw [← hfg]
      rw [e]; exact h1
    · exact AVV.mono (fun _ x=>x) (fun _ _=>rfl) hfg.1.step _ _ h2 h1
 refine ⟨_,β',Imm',rfl,⟨ha2.imm,ha2.fresh,ha2.ext,ha2.step.full,k1,fun x hx=>?_,fun b hb=>?_⟩,k2,k3⟩
 · obtain ⟨o,ho,hh⟩:=hx;exact ha2.inn x (List.getElem?_eq_some_iff.1 ho).1 ⟨o,ho,hh⟩
 · obtain ⟨L,hL⟩:=hb;exact ha2.loop b (List.getElem?_eq_some_iff.1 hL).1 ⟨L,hL⟩
theorem SRel.post {n:Nat} {Prot Imm Imm':Nat→Prop} {β β':Bd} {s:St} {H':Heap} {t:Array Value} {w w':World} (h:SRel P n Prot Imm β s t w) (hp:Post P Prot Imm w β s.heap Imm' w' β' H'):SRel P n Prot Imm' β' ⟨s.env,H'⟩ t w' :=
 ⟨hp.rel,fun x=>AVV.mono hp.imm (fun k hk=>hp.ext.same k (.inr hk)) hp.step _ _ (h.erefs x) (h.env x),fun x=>aaa.mono hp.inn _ (h.erefs x),h.size⟩
def ahG:List Tmp→List AV→Env→Env
 | t::ts,v::vs,e=>ahG ts vs ((t,v)::e)
 | _,_,e=>e
def abL:aan→Option Code
 | .normal=>none
 | .exit id=>some (.exit id)
 | .ret=>some .ret
def aeC (b:Nat) (K:Heap→AV→Prop) (e:aan) (s:St):Prop :=
 match s.heap[b]? with
 | some (.loop L)=>K (s.heap.set b (.loop { L with st:=if (abL e).isNone then .ready else .done,pending:=abL e })) (.p (.bool (abL e).isNone))
 | _=>False
def aeD (P:Program) (frz:FuncId→Bool) (q:Cx) (b:Nat) (body:Code) (K:Heap→AV→Prop) (e:aan) (s:St):Prop :=
 match e,s.heap[b]? with
 | .normal,some (.loop L)=>L.st=.ready∧aap P frz q body (aeC b K) ⟨s.env,s.heap.set b (.loop { L with st:=.busy })⟩
 | _,_=>False
def aj3 (P:Program) (frz:FuncId→Bool) (L:acs) (b:Nat) (args:List AV) (H:Heap) (K:Heap→AV→Prop):Prop :=
 aap P frz (L.n,H.length) L.assign (aeD P frz (L.n,H.length) b L.body K) ⟨ahG L.params args L.env,H⟩
def ae5 (ts:List Tmp) (xs:List Value) (t:Array Value):Array Value:=(ts.zip xs).foldl (fun t (p,v)=>t.setIfInBounds p v) t
theorem ajo {w : World} {Imm : Nat → Prop} {β : Bd} {H : Heap} : ∀ {ts : List Tmp} {vs : List AV} {xs : List Value} {e : Env} {t : Array Value}, (∀ x ∈ ts, x < t.size) → AVVl P w Imm β H vs xs → aac (InH H) vs → (∀ x, AVV P w Imm β H (getE e x) (t.getD x undef)) → (∀ x, aaa (InH H) (getE e x)) →
    (ae5 ts xs t).size=t.size∧(∀ x,AVV P w Imm β H (getE (ahG ts vs e) x) ((ae5 ts xs t).getD x undef))∧(∀ x,aaa (InH H) (getE (ahG ts vs e) x))
 | [],vs,xs,e,t,_,hv,_,h1,h2=>by
  cases vs <;> exact ⟨rfl,h1,h2⟩
 | p::ts,[],xs,e,t,_,hv,_,h1,h2=>by
  simp only [AVVl] at hv;subst hv;exact ⟨rfl,h1,h2⟩
 | p::ts,v::vs,xs,e,t,hl,hv,hre,h1,h2=>by
  simp only [AVVl] at hv;obtain ⟨y,ys,rfl,k1,k2⟩:=hv;simp only [aac] at hre;have hp:p<t.size:=hl p (by simp);obtain ⟨g1,g2,g3⟩:=ajo (ts:=ts) (vs:=vs) (xs:=ys) (e:=(p,v)::e) (t:=t.setIfInBounds p y) (fun x hx=>by simpa using hl x (by simp [hx])) k2 hre.2
   (fun x=>by
    simp only [getE]
    by_cases hx:x=p
    · subst hx; simp [hp]; exact k1
    · simp only [hx,if_false,Array.getD_eq_getD_getElem?,Array.getElem?_setIfInBounds_ne (Ne.symm hx)];simpa using h1 x)
   (fun x=>by
    simp only [getE]
    split
    · exact hre.1
    · exact h2 x)
  exact ⟨by simpa [ae5] using g1,g2,g3⟩
theorem zip_toArray (ts:List Tmp) (xs:List Value) (t:Array Value):(ts.toArray.zip xs.toArray).foldl (fun t (p,v)=>t.setIfInBounds p v) t=ae5 ts xs t:=by
 unfold ae5;rw [← Array.foldl_toList];simp
theorem av2 (HS : ab2 P frz) (HD : adx P frz fit) {b : Nat} {L : acs} {H H' : Heap} {args : List AV} {v : AV} (hb : H[b]? = some (.loop L)) (hlen : args.length = L.params.length) (hps : ∀ x ∈ L.params, x < L.n)
    (ha:codeOk fit L.n L.assign=true) (hc:codeOk fit L.n L.body=true) (hwp:aj3 P frz L b args H (fun H2 v2=>v2=v∧aaD H.length ⟨[],H2⟩ ⟨[],H'⟩)):ad5 P b H args H' v:=by
 refine ⟨⟨L,hb⟩,fun w Imm Prot β cargs hr hargs hargr=>?_⟩;obtain ⟨tmps,defers,fn,h1,h2,h3,h4⟩:=hr.objs b _ hb;have hbl:b<H.length:=(List.getElem?_eq_some_iff.1 hb).1;have hcl:=(aeO hargs).1;have hy:=run_yield (P:=P) (args:=cargs.toArray) h1 (by simp [hcl,hlen]);obtain ⟨q1,q2,q3⟩:=ajo (ts:=L.params) (vs:=args) (xs:=cargs) (e:=L.env) (t:=tmps) (fun x hx=>by rw [h2]; exact hps x hx) hargs hargr h3 (hr.refs b _ hb);rw [zip_toArray] at hy;refine ⟨fn,_,_,_,hy,fun caller rest=>?_⟩;obtain ⟨fr0,hfr0⟩:∃ fr0:Frame,fr0 = { fn:=fn,tmps:=#[],todo:=[],defers:=[],mode:=.run,kind:=.normal,roundOf:=some (β.blk b) }:=⟨_,rfl⟩
 have hro:fr0.roundOf=some (β.blk b):=by subst hfr0; rfl
 have hki:fr0.kind=.normal:=by subst hfr0; rfl
 have hfr:Frame.round (β.blk b) fn (ae5 L.params cargs tmps) L.assign L.body .normal=fat fr0 (ae5 L.params cargs tmps) [] [.code L.assign,.beginRound,.code L.body]:=by subst hfr0; rfl
 have har:aiY H.length fr0 β H:=fun l hl=>by
  rw [hro] at hl; cases hl;exact ⟨b,hbl,⟨L,hb⟩,rfl⟩
 obtain ⟨e1,s1,Prot1,Imm1,β1,t1,w1,ds1,g1,g2,g3,g4,g5⟩:=abr (N:=H.length) (fr:=fr0) (cs:=caller::rest) (ds:=[]) HS HD L.assign [.beginRound,.code L.body] ha hwp ⟨hr,q2,q3,q1.trans h2⟩ har;unfold aeD at g1
 split at g1
 case h_2=>exact g1.elim
 rename_i L1 hL1;obtain ⟨g1,g6⟩:=g1;obtain ⟨rs1,m1,_,_,m4,m5⟩:=g5;have hrs1:=m5 (by rw [hro]; rfl);subst hrs1;obtain rfl:ds1=[]:=m1;have blk1:β1.blk b = β.blk b:=(g4.step.loop b hbl ⟨_,hb,trivial⟩ ⟨L1,hL1⟩).2;obtain ⟨rec,r1,r2,r3,r4,r5,r6,r7,r8,r9⟩:=akp g3.heap hL1 .busy L1.pending;rw [blk1] at r1 r9;have hbeg:=run_beginRound (P:=P) r1 (r2.trans g1);have hbeg':({ rec with state:=.busy }:Loop) = { rec with state:=.busy,pending:=L1.pending }:=by rw [← r3]
 rw [hbeg'] at hbeg;have hadv1:=g4.trans (r9.adv (N:=H.length));obtain ⟨e2,s2,Prot2,Imm2,β2,t2,w2,ds2,k1,k2,k3,k4,k5⟩:=abr (N:=H.length) (fr:=fr0) (cs:=caller::rest) (ds:=[]) HS HD L.body [] hc g6 (g3.post r9) (har.adv hadv1);unfold aeC at k1
 split at k1
 case h_2=>exact k1.elim
 rename_i L2 hL2;obtain ⟨rfl,hfg⟩:=k1;obtain ⟨rs2,n1,_,_,n4,n5⟩:=k5;have hrs2:=n5 (by rw [hro]; rfl);subst hrs2;obtain rfl:ds2=[]:=n1;have hprot:∀ k,Prot2 k→Prot k:=fun k hk=>(m4 k ((n4 k hk).resolve_right (by simp))).resolve_right (by simp);have hadv2:=hadv1.trans k4;have blk2:β2.blk b = β.blk b:=(hadv2.step.loop b hbl ⟨_,hb,trivial⟩ ⟨L2,hL2⟩).2;obtain ⟨rec2,p1,p2,p3,p4,p5,p6,p7,p8,p9⟩:=akp k3.heap hL2 (if (abL e2).isNone then .ready else .done) (abL e2);rw [blk2] at p1 p9;have hend:=run_endRound (P:=P) (abL e2) p1;have hadv3:=hadv2.trans (p9.adv (N:=H.length));have hadv4:=hadv3.trans (hfg.adv (β:=β2) (Prot:=Prot2) (Imm:=Imm2) (w:=w2.putObj (β.blk b) (.loop { rec2 with state:=if (abL e2).isNone then .ready else .done,pending:=abL e2 })));refine ⟨.bool (abL e2).isNone,w2.putObj (β.blk b) (.loop { rec2 with state:=if (abL e2).isNone then .ready else .done,pending:=abL e2 }),β2,Imm2,?_,?_,by simp [AVV,PVV],by simp [aaa]⟩
 · rw [hfr];refine Steps.trans (g2:Steps P _ _) ((Steps.one (stepR_beginRound (b:=fr0) (a:=⟨t1,[]⟩) hro hbeg)).trans ?_);cases e2 with
   | normal=>exact Steps.trans (k2:Steps P _ _) (.one (stepR_round_end (b:=fr0) (a:=⟨t2,[]⟩) hro hki hend))
   | exit id =>
    obtain ⟨k',a1,a2⟩:=k2;exact Steps.trans a2 (.one (stepR_round_exit (b:=fr0) (a:=⟨t2,[]⟩) hro hki (by rw [a1]; rfl) hend))
   | ret =>
    obtain ⟨k',a2⟩:=k2;exact Steps.trans a2 (.one (stepR_round_ret (b:=fr0) (a:=⟨t2,[]⟩) hro hki hend))
 · have hrel2:SRel P 0 Prot2 Imm2 β2 ⟨[],s2.heap.set b (.loop { L2 with st:=if (abL e2).isNone then .ready else .done,pending:=abL e2 })⟩ #[] (w2.putObj (β.blk b) (.loop { rec2 with state:=if (abL e2).isNone then .ready else .done,pending:=abL e2 })) :=
    ⟨p9.rel,fun x=>by simp [getE,AVV,PVV],fun x=>by simp [getE,aaa],rfl⟩
   have hrel3:=(hfg.rel hrel2).heap;refine ⟨hadv4.imm,hadv4.fresh,hadv4.ext,hadv4.step.full,hrel3.shut hadv4.prot (R:=fun _=>False) (fun _ h=>h.elim) rfl (fun _ _=>rfl),fun x hx=>?_,fun y hy=>?_⟩
   · obtain ⟨o,ho,hh⟩:=hx;exact hadv4.inn x (List.getElem?_eq_some_iff.1 ho).1 ⟨o,ho,hh⟩
   · obtain ⟨L',hL'⟩:=hy;exact hadv4.loop y (List.getElem?_eq_some_iff.1 hL').1 ⟨L',hL'⟩
end
section
variable {P:Program}
theorem aqe {w:World} {Imm:Nat→Prop} {b:Bool} {v:Value}:PVV P w Imm (.bool b) v↔v=.bool b:=by simp [PVV]
theorem aor {w:World} {Imm:Nat→Prop} {k:IntKind} {n:Int} {v:Value}:PVV P w Imm (.int k n) v↔v=.int k n:=by simp [PVV]
theorem auG {w:World} {Imm:Nat→Prop} {s:List Nat} {v:Value}:PVV P w Imm (.str s) v↔∃ bs:ByteArray,v=.string bs∧s=bs.data.toList.map (·.toNat):=by simp [PVV]
theorem aao {s:Sem Value} {w:World} {cv:Value} (h:s.run P w=.ok cv w):(do pure (Next.value (← s)):Sem Next).run P w=.ok (.value cv) w:=by simp [h]
theorem acP {s:Sem Value} {w w':World} {cv:Value} (h:s.run P w=.ok cv w'):(do pure (Next.value (← s)):Sem Next).run P w=.ok (.value cv) w':=by simp [h]
theorem acY {T:TypeId} {v:AV} {w:World} {Imm:Nat→Prop} {β:Bd} {H:Heap} {cs:List Value} (hk:kindOf P T=shpA v) (hv:AVC P w Imm β H v cs):P.cellsOf T=cs.length∧∃ i,P.info? T=some i∧i.size=cs.length:=by
 obtain ⟨hl,hb⟩:=acF hv;have h1:P.cellsOf T=cs.length:=by
  rw [hl,← hk];unfold kindOf at hk ⊢
  split at hk
  · split at hk <;> rename_i hc
    · simp at hc; rw [if_pos (by simpa using hc)]; simp [aah,hc.2]
    · exact (hb hk.symm).elim
  · split at hk <;> rename_i hc
    · simp at hc; rw [if_pos (by simpa using hc)]; simp [aah,hc]
    · exact (hb hk.symm).elim
  · split at hk <;> rename_i hc
    · simp at hc; rw [if_pos (by simpa using hc)]; simp [aah,hc]
    · exact (hb hk.symm).elim
  · exact (hb hk.symm).elim
 refine ⟨h1,?_⟩;cases hi:P.info? T with
 | none =>
  have:kindOf P T=.bad:=by simp [kindOf,Program.underlying,hi]
  rw [this] at hk;exact (hb hk.symm).elim
 | some i=>exact ⟨i,rfl,by simpa [Program.cellsOf,hi] using h1⟩
variable {o:Oper} {ρ:Operand→AV} {base:Nat}
theorem op_id {x:Operand} (hop:o.op=.move x∨o.op=.assign x):aae P o ρ base { v:=ρ x }:=by
 refine aae.same fun H w Imm Prot β ρc hr hρ _=>?_;refine ⟨ρc x,?_,hρ x ?_⟩
 · rcases hop with hop | hop <;> simp [execOp,hop]
 · rcases hop with hop | hop <;> simp [hop,Op.operands]
theorem op_pick {c a b:Operand} {t:Bool} (hop:o.op=.pick c a b) (hc:ρ c=.p (.bool t)):aae P o ρ base { v:=if t then ρ a else ρ b }:=by
 refine aae.same fun H w Imm Prot β ρc hr hρ _=>?_;have h1:=(hρ c (by simp [hop,Op.operands])).1;rw [hc] at h1;simp only [AVV,aqe] at h1;refine ⟨if t then ρc a else ρc b,by simp [execOp,hop,h1,asBool],?_⟩;cases t with
 | true=>exact hρ a (by simp [hop,Op.operands])
 | false=>exact hρ b (by simp [hop,Op.operands])
theorem ajs {t:Operand} {i:Nat} {vs:List AV} {v:AV} (hop:o.op=.extract t i) (ht:ρ t=.tup vs∨∃ l,ρ t=.p (.tup l)∧vs=l.map .p) (hi:vs[i]?=some v):aae P o ρ base { v }:=by
 refine aae.same fun H w Imm Prot β ρc hr hρ _=>?_;obtain ⟨h1,h2⟩:=hρ t (by simp [hop,Op.operands]);obtain ⟨xs,k1,k2,k3⟩:∃ xs,AVVl P w Imm β H vs xs∧ρc t=.tuple xs.toArray∧aac (InH H) vs:=by
  rcases ht with ht | ⟨l,ht,rfl⟩
  · rw [ht] at h1 h2;simp only [AVV,aaa] at h1 h2;obtain ⟨xs,a,b⟩:=h1;exact ⟨xs,a,b,h2⟩
  · rw [ht] at h1;simp only [AVV,PVV] at h1;obtain ⟨xs,a,b⟩:=h1;exact ⟨xs,abq.2 a,b,aaE _ _⟩
 obtain ⟨g1,g2⟩:=aeO k1;have hlt:i<vs.length:=(List.getElem?_eq_some_iff.1 hi).1;have hx:xs[i]?=some (xs[i]'(by omega)):=List.getElem?_eq_getElem (by omega);have g3:=g2 i;rw [hi,hx] at g3;refine ⟨xs[i]'(by omega),?_,by simpa using g3,aag.1 k3 v (List.mem_of_getElem? hi)⟩;simp only [execOp,hop,Instr.extract,k2];simp [hx]
theorem op_int {bop : BinOp} {T T' : TypeId} {x y : Operand} {k k' : IntKind} {a b : Int} {K : PV → Prop} (hop : o.op = .binOp bop T x y T') (hx : ρ x = .p (.int k a)) (hy : ρ y = .p (.int k' b)) (hk : k = k' ∨ bop = .shl ∨ bop = .shr)
    (h:al8 bop k a b K) (hin:List (Nat×Obj)):∃ v,K v∧aae P o ρ base { v:=.p v,hin }:=by
 have key : ∀ v, K v → (∀ w : World, (binOp bop T (.int k a) (.int k' b)).run P w = .ok (match v with | .int k n => .int k n | .bool b => .bool b | _ => undef) w) → (∀ w Imm, PVV P w Imm v (match v with | .int k n => .int k n | .bool b => .bool b | _ => undef)) →
     ∃ v,K v∧aae P o ρ base { v:=.p v,hin }:=by
  intro v hv hrun hrel;refine ⟨v,hv,aae.same fun H w Imm Prot β ρc hr hρ _=>?_⟩;have h1:=(hρ x (by simp [hop,Op.operands])).1;have h2:=(hρ y (by simp [hop,Op.operands])).1;rw [hx] at h1; rw [hy] at h2;simp only [AVV,aor] at h1 h2;refine ⟨_,?_,by simp only [AVV]; exact hrel w Imm,by simp [aaa]⟩;simp only [execOp,hop,h1,h2];refine aao ?_;have hg:(eqGuard bop T x y (.int k a) (.int k' b)).run P w=.ok () w:=by
   unfold eqGuard
   split <;> simp
  simp [hg,hrun w]
 cases bop <;> simp only [al8] at h
 case add | sub | mul | and | or | xor | andNot | eql | neq | lss | leq | gtr | geq =>
  obtain rfl:k=k':=by rcases hk with h | h | h <;> first | exact h | cases h
  exact key _ h (fun w=>by simp [binOp,Op.intArith,Op.intBits,Op.intCmp]) (fun w Imm=>by simp [PVV])
 case quo | rem =>
  obtain rfl:k=k':=by rcases hk with h | h | h <;> first | exact h | cases h
  exact key _ h.2 (fun w=>by simp [binOp,Op.intDiv,h.1]) (fun w Imm=>by simp [PVV])
 case shl | shr =>
  have hb:¬ b<0:=by omega
  exact key _ h.2 (fun w=>by simp [binOp,Op.shift,hb]) (fun w Imm=>by simp [PVV])
theorem op_un {u : UnOp} {T : TypeId} {x : Operand} {v r : PV} (hop : o.op = .unOp u T x) (hx : ρ x = .p v)
    (h:(u=.not∧∃ b,v=.bool b∧r=.bool (!b))∨(u=.neg∧∃ k n,v=.int k n∧r=.int k (k.wrap (0 - n))) ∨
     (u=.xor∧∃ k n,v=.int k n∧r=.int k (k.wrap (BitVec.ofInt k.bits (if k.signed then -1 else k.max) ^^^ BitVec.ofInt k.bits n).toNat))):aae P o ρ base { v:=.p r }:=by
 refine aae.same fun H w Imm Prot β ρc hr hρ _=>?_;have h1:=(hρ x (by simp [hop,Op.operands])).1;rw [hx] at h1;simp only [AVV] at h1;rcases h with ⟨rfl,b,rfl,rfl⟩ | ⟨rfl,k,n,rfl,rfl⟩ | ⟨rfl,k,n,rfl,rfl⟩
 · rw [aqe] at h1;exact ⟨_,by simp only [execOp,hop,h1]; exact aao (by simp [Op.unary]; rfl),by simp [AVV,PVV],by simp [aaa]⟩
 · rw [aor] at h1;exact ⟨_,by simp only [execOp,hop,h1]; exact aao (by simp [Op.unary,Op.intArith]; rfl),by simp [AVV,PVV],by simp [aaa]⟩
 · rw [aor] at h1;exact ⟨_,by simp only [execOp,hop,h1]; exact aao (by simp [Op.unary,Op.intBits]; rfl),by simp [AVV,PVV],by simp [aaa]⟩
end
section
variable {P:Program} {w:World} {Imm Prot:Nat→Prop} {β:Bd} {H:Heap}
variable {o:Oper} {ρ:Operand→AV} {base:Nat}
theorem aa8 (H:Heap) (b:Nat) (o':Obj):aaj H ([] ++ newAt b [o'])=H.set b o':=rfl
theorem asN {x : AV} {T : TypeId} (hs : shpA x ≠ .bad) (hx : bxB T (shpA x) = true) (hrefs : ∀ (H : Heap) (w : World) (Imm Prot : Nat → Prop) (β : Bd) (ρc : Operand → Value), HRel P w Imm β H Prot →
      (∀ y∈o.op.operands,AVV P w Imm β H (ρ y) (ρc y)∧aaa (InH H) (ρ y))→∃ cv,AVV P w Imm β H x cv∧aaa (InH H) x ∧
       (execOp ρc o).run P w=.ok (.value (.pointer (some ⟨w.heap.size,0,none⟩))) { w with heap:=w.heap.push (.cells cv.cells T) }) :
    aae P o ρ base { v:=.ptr base [],hnew:=[.box false x] }:=by
 intro H w Imm Prot β ρc hr hρ _ hholes;obtain ⟨cv,h1,h2,h3⟩:=hrefs H w Imm Prot β ρc hr hρ;have hb:H[base]?=some .hole:=by simpa using hholes 0 (by simp)
 have hcells:=afZ h1 hs;have hst:=ag5 (β:=β) hb (.box false x) w.heap.size 0;have hin:∀ y,InH H y→InH (H.set base (.box false x)) y:=acU hb (fun _ h=>h.elim);have hpost:=aeG (cap:=0) hr hb (ob:=.cells cv.cells T) (o':=.box false x)
  ⟨cv.cells,T,by simp [Bd.at],AVC.mono (fun _ x=>x) (fun k hk=>aei _ _ (hr.imm k hk)) hst _ _ h2 hcells,by
   simp only [Held,Bd.at,if_true,Bool.false_eq_true,if_false];exact ⟨fun h=>Nat.lt_irrefl _ (hr.imm _ h),fun h=>Nat.lt_irrefl _ (hr.prot _ h)⟩,by simp,hx⟩ (aaa.mono hin _ h2)
 refine ⟨_,_,_,_,Imm,h3,.inl rfl,hpost,?_,?_⟩
 · simp only [AVV,RefV,RefC,aa8];exact ⟨rfl,_,_,0,rfl,rfl,fun _=>by simp [Bd.at]⟩
 · simp only [aaa,aa8];exact ⟨.box false x,by simp only; rw [List.getElem?_set_self (List.getElem?_eq_some_iff.1 hb).1],trivial⟩
theorem op_box {T:TypeId} {x:Operand} (hop:o.op=.box T x) (hs:shpA (ρ x)≠.bad) (hx:bxB T (shpA (ρ x))=true):aae P o ρ base { v:=.ptr base [],hnew:=[.box false (ρ x)] }:=by
 refine asN (T:=T) hs hx fun H w Imm Prot β ρc hr hρ=>?_;obtain ⟨h1,h2⟩:=hρ x (by simp [hop,Op.operands]);refine ⟨ρc x,h1,h2,?_⟩;simp only [execOp,hop];simp [Instr.box,newVar,newRow]
theorem aef {w:World} {Imm:Nat→Prop}:∀ (n:Nat) (T:TypeId) (cs:List Value) (t:PV),ajh P n T cs=some t→PVC P w Imm t cs∧kindOf P T=shp t
 | 0,_,_,_,h=>by simp [ajh] at h
 | n+1,T,cs,t,h=>by
  have go:∀ (Ts:List TypeId) (l:List Nat) (cs:List Value) (fs:List PV),aee P (ajh P n) Ts l cs=some fs→∃ css,PVCl P w Imm l fs css∧css.flatten=cs:=by
   intro Ts
   induction Ts with
   | nil =>
    intro l cs fs h;cases l with
    | nil =>
     cases cs with
     | nil=>simp [aee] at h; subst h; exact ⟨[],by simp [PVCl]⟩
     | cons c cs=>simp [aee] at h
    | cons s ss=>simp [aee] at h
   | cons T Ts ih =>
    intro l cs fs h;cases l with
    | nil=>simp [aee] at h
    | cons s ss =>
     simp only [aee] at h
     split at h
     case isFalse=>simp at h
     rename_i hlen
     split at h
     case h_2=>simp at h
     rename_i v vs hv hvs
     split at h
     case isFalse=>simp at h
     rename_i hsz;simp at h; subst h;obtain ⟨h1,_⟩:=aef n T _ v hv;obtain ⟨css,h2,h3⟩:=ih ss _ vs hvs;refine ⟨cs.take s::css,by simp only [PVCl]; exact ⟨_,_,rfl,h1,hlen,h2⟩,?_⟩;simp [h3]
  unfold ajh at h
  split at h
  · rename_i hk
    split at h
    case h_2=>simp at h
    rename_i c
    split at h
    · simp at h
    · rename_i v hne;simp at h; subst h;have hv:=ahW (P:=P) (w:=w) (Imm:=Imm) c;have hl:shp (ofConst c)=.leaf:=by
       unfold ofConst at hne ⊢
       split <;> simp_all [shp]
      exact ⟨(aeN hl _).2 ⟨c,rfl,hv⟩,by rw [hk,hl]⟩
  · rename_i u hk
    split at h
    case h_2=>simp at h
    rename_i l hl
    split at h
    case h_2=>simp at h
    rename_i fs hfs;simp at h; subst h;obtain ⟨css,h1,h2⟩:=go _ _ _ _ hfs;refine ⟨by simp only [PVC]; exact ⟨l,css,hl,h1,h2.symm⟩,by simp [shp,hk]⟩
  · simp at h
theorem abO {T:TypeId} {z:PV} (h:aaT P T=some z):∃ i zv,P.info? T=some i∧i.zero=some zv∧(∀ (w:World) (Imm:Nat→Prop),PVC P w Imm z zv.cells.toList)∧kindOf P T=shp z:=by
 unfold aaT at h;cases hi:P.info? T with
 | none=>simp [hi] at h
 | some i =>
  simp only [hi,Option.bind_some] at h;cases hz:i.zero with
  | none=>simp [hz] at h
  | some zv =>
   simp only [hz] at h
   split at h
   case isFalse=>simp at h
   exact ⟨i,zv,rfl,hz,fun w Imm=>(aef 40 T _ z h).1,(aef (w:=default) (Imm:=fun _=>True) 40 T _ z h).2⟩
theorem arF {T:TypeId} {z:PV} (h:aaT P T=some z):∃ zv,(∀ w:World,(zeroValue T).run P w=.ok zv w)∧∀ (w:World) (Imm:Nat→Prop),PVV P w Imm z zv:=by
 obtain ⟨i,zv,h1,h2,h3,h4⟩:=abO h;refine ⟨zv,fun w=>by simp [zeroValue,typeInfo,h1,h2],fun w Imm=>?_⟩;have hagg:awM zv (shp z)=true:=by
  unfold aaT at h;simp only [h1,Option.bind_some,h2] at h
  split at h
  · rename_i ha; rw [← h4]; exact ha
  · simp at h
 have hc:=h3 w Imm;cases hs:shp z with
 | bad=>exact ((ac5 hc).2 hs).elim
 | leaf =>
  rw [hs] at hagg;obtain ⟨c,k1,k2⟩:=(aeN hs _).1 hc;cases zv <;> simp [awM] at hagg <;> (simp [Value.cells] at k1; subst k1; exact k2)
 | agg u =>
  rw [hs] at hagg;cases zv <;> simp [awM] at hagg;have:=(aiX hs _).1 hc;simpa [Value.cells] using this
theorem aeB {T:TypeId} {i:TypeInfo} {zv:Value} (h:P.info? T=some i) (hz:i.zero=some zv) (w:World):(zeroValue T).run P w=.ok zv w:=by
 simp [zeroValue,typeInfo,h,hz]
theorem avF {T:TypeId} {z:PV} (hop:o.op=.alloc T) (hz:aaT P T=some z) (hx:bxB T (shp z)=true):aae P o ρ base { v:=.ptr base [],hnew:=[.box false (.p z)] }:=by
 obtain ⟨i,zv,h1,h2,h3,h4⟩:=abO hz;intro H w Imm Prot β ρc hr hρ _ hholes;have hb:H[base]?=some .hole:=by simpa using hholes 0 (by simp)
 have hrun:(execOp ρc o).run P w=.ok (.value (.pointer (some ⟨w.heap.size,0,none⟩))) { w with heap:=w.heap.push (.cells zv.cells T) }:=by
  simp only [execOp,hop];simp [Instr.alloc,aeB h1 h2,newVar,newRow]
 have hpost:=aeG (cap:=0) hr hb (ob:=.cells zv.cells T) (o':=.box false (.p z))
  ⟨zv.cells,T,by simp [Bd.at],by simp only [AVC]; exact h3 _ _,by
   simp only [Held,Bd.at,if_true,Bool.false_eq_true,if_false];exact ⟨fun h=>Nat.lt_irrefl _ (hr.imm _ h),fun h=>Nat.lt_irrefl _ (hr.prot _ h)⟩,by simp,by simpa [shpA] using hx⟩ (by simp [Obj.refs,aaa])
 refine ⟨_,_,_,_,Imm,hrun,.inl rfl,hpost,?_,?_⟩
 · simp only [AVV,RefV,RefC,aa8];exact ⟨rfl,_,_,0,rfl,rfl,fun _=>by simp [Bd.at]⟩
 · simp only [aaa,aa8];exact ⟨.box false (.p z),by simp only; rw [List.getElem?_set_self (List.getElem?_eq_some_iff.1 hb).1],trivial⟩
theorem anE {T : TypeId} {a : Operand} {v : AV} (hop : o.op = .load T a) {ρc : Operand → Value} {blk off : Nat} {xs : List Value} (ha : ρc a = .pointer (some ⟨blk, off, none⟩)) (hk : kindOf P T = shpA v)
    (hv:AVC P w Imm β H v xs) (hc:aa5 w blk off xs):∃ cv,(execOp ρc o).run P w=.ok (.value cv) w∧AVV P w Imm β H v cv:=by
 obtain ⟨cv,h1,h2⟩:=ah6 hk hv hc;refine ⟨cv,?_,h2⟩;simp only [execOp,hop,Instr.loadAt,ha,Instr.sureAddr];simp [h1]
theorem aqd {esz : Nat} {es : List AV} {css : List (List Value)} (h : Row P w Imm β H esz es css) {i : Nat} (hi : i < es.length) :
    ∃ pre c post,css.flatten=pre ++ c ++ post∧pre.length=i*esz∧c.length=esz∧AVC P w Imm β H es[i] c ∧
     ∀ f' c',AVC P w Imm β H f' c'→c'.length=c.length→∃ css',css'.flatten=pre ++ c' ++ post∧Row P w Imm β H esz (es.set i f') css':=by
 obtain ⟨pre,c,post,h1,h2,h3,h4,h5,h6⟩:=agA h (List.getElem?_eq_getElem hi);have hl:c.length=esz:=by
  rw [List.getElem?_replicate] at h4;rw [if_pos hi] at h4;simpa using h4.symm
 refine ⟨pre,c,post,h1,?_,hl,h5,?_⟩
 · rw [h2,List.take_replicate,Nat.min_eq_left (by omega),List.sum_replicate_nat]
 · intro f' c' hf hc;obtain ⟨css',k1,k2⟩:=h6 f' c' hf hc;exact ⟨css',k1,by unfold Row; rw [List.length_set]; exact k2⟩
theorem op_load {T : TypeId} {a : Operand} (hop : o.op = .load T a) {H0 : Heap} {K : Eff → Prop} (h : afz P T H0 (ρ a) K) :
    ∃ e,K e∧aae P o ρ base e∧(∀ p∈e.hin,H0[p.1]?=some p.2)∧(∀ p∈e.hset,p.1<H0.length∧p.2≠.hole):=by
 unfold afz at h
 split at h
 · rename_i b path ha
   split at h
   case h_2=>exact h.elim
   rename_i fz t hob
   split at h
   case h_2=>exact h.elim
   rename_i s hs;obtain ⟨hk,h⟩:=h;refine ⟨_,h,aae.same fun H w Imm Prot β ρc hr hρ hin=>?_,by simpa using hob,by simp⟩;obtain ⟨h1,h2⟩:=hρ a (by simp [hop,Op.operands]);rw [ha] at h1;simp only [AVV,RefV,RefC] at h1;have hob':H[b]?=some (.box fz t):=by simpa using hin
   obtain ⟨_,blk0,off0,oo,hptr,ho,h1⟩:=h1;obtain ⟨rfl,rfl⟩:=h1 (.inl ⟨fz,t,hob'⟩);obtain ⟨cs,T',k1,k2,k3,k4⟩:=hr.objs b _ hob';obtain ⟨pre,xs,post,e1,e2,e3,_⟩:=aek k2 hs ho;obtain ⟨cv,g1,g2⟩:=anE hop hptr hk e3 (by rw [← e2]; exact abg k1 e1);exact ⟨cv,g1,g2,afn hs (hr.refs b _ hob')⟩
 · rename_i b ver esz i path ha
   split at h
   case h_2=>exact h.elim
   rename_i k ver' esz' es hob;obtain ⟨rfl,rfl,hi,h⟩:=h
   split at h
   case h_2=>exact h.elim
   rename_i s hs;obtain ⟨hk,h⟩:=h;refine ⟨_,h,aae.same fun H w Imm Prot β ρc hr hρ hin=>?_,by simpa using hob,by simp⟩;obtain ⟨h1,h2⟩:=hρ a (by simp [hop,Op.operands]);rw [ha] at h1;simp only [AVV,RefV,RefC] at h1;have hob':H[b]?=some (.arr k ver esz es):=by simpa using hin
   have hnn:¬ aam k es:=fun hn=>by rw [hn.2] at hi; simp at hi
   obtain ⟨_,blk0,off0,oo,hptr,ho,h1⟩:=h1;obtain ⟨rfl,rfl⟩:=h1 k es hob' hnn;rcases hr.objs b _ hob' with hold | ⟨cs,T',css,rest,k1,k2,k3,_⟩
   · exact (hnn hold).elim
   obtain ⟨pre0,c,post0,r1,r2,r3,r4,_⟩:=aqd k2 hi;obtain ⟨pre,xs,post,e1,e2,e3,_⟩:=aek r4 hs ho;have hcells:aa5 w (β.blk b) (i*esz+oo) xs:=by
    have:cs.toList=(pre0 ++ pre) ++ xs ++ (post ++ post0 ++ rest):=by rw [k3,r1,e1]; simp
    have h3:=abg k1 this;rw [List.length_append,r2,e2] at h3;exact h3
   obtain ⟨cv,g1,g2⟩:=anE hop hptr hk e3 hcells;exact ⟨cv,g1,g2,afn hs (aag.1 (hr.refs b _ hob') _ (List.getElem_mem hi))⟩
 · rename_i t ha;obtain ⟨hk,h⟩:=h;refine ⟨_,h,aae.same fun H w Imm Prot β ρc hr hρ hin=>?_,by simp,by simp⟩;obtain ⟨h1,h2⟩:=hρ a (by simp [hop,Op.operands]);rw [ha] at h1;simp only [AVV,PVV] at h1;obtain ⟨blk,off,ts,k1,k2,k3,k4⟩:=h1;obtain ⟨cv,g1,g2⟩:=anE (β:=β) (H:=H) (v:=.p t) hop k4 (by simpa [shpA] using hk) (by simpa only [AVC] using k1) k3;exact ⟨cv,g1,g2,by simp [aaa]⟩
 · exact h.elim
end
section
variable {P:Program} {w:World} {Imm Prot:Nat→Prop} {β:Bd} {H:Heap}
mutual
theorem auH:∀ {v:PV} {cs:List Value},PVC P w Imm v cs→∀ c∈cs,c.oneCell'=true
 | .undef,_,h | .tup _,_,h=>by simp [PVC] at h
 | .bool _,_,h | .int _ _,_,h | .nptr,_,h | .nsl,_,h | .nmap,_,h | .nfunc,_,h | .nif,_,h=>by simp only [PVC] at h; subst h; simp [Value.oneCell']
 | .str _,_,h=>by simp only [PVC] at h; obtain ⟨_,rfl,_⟩:=h; simp [Value.oneCell']
 | .fptr _,_,h=>by simp only [PVC] at h; obtain ⟨_,_,_,_,_,_,rfl⟩:=h; simp [Value.oneCell']
 | .lst _ _,_,h=>by simp only [PVC] at h; obtain ⟨_,_,_,_,_,_,_,_,_,_,_,_,rfl⟩:=h; simp [Value.oneCell']
 | .seq _,_,h=>by simp only [PVC] at h; rcases h with ⟨_,rfl⟩ | ⟨_,_,_,_,_,_,_,_,_,_,_,rfl⟩ <;> simp [Value.oneCell']
 | .fmap _,_,h=>by simp only [PVC] at h; obtain ⟨_,_,_,_,_,_,rfl⟩:=h; simp [Value.oneCell']
 | .func _ _ _,_,h=>by simp only [PVC] at h; obtain ⟨_,_,_,_,rfl⟩:=h; simp [Value.oneCell']
 | .st u fs,_,h=>by
  simp only [PVC] at h;obtain ⟨l,css,h1,h2,rfl⟩:=h;exact aqg h2
theorem aqg:∀ {l:List Nat} {vs:List PV} {css:List (List Value)},PVCl P w Imm l vs css→∀ c∈css.flatten,c.oneCell'=true
 | [],[],_,h=>by simp only [PVCl] at h; subst h; simp
 | [],_::_,_,h=>by simp [PVCl] at h
 | _::_,[],_,h=>by simp [PVCl] at h
 | n::ns,v::vs,css,h=>by
  simp only [PVCl] at h;obtain ⟨c,cs,rfl,h1,h2,h3⟩:=h;intro x hx;simp only [List.flatten_cons,List.mem_append] at hx;exact hx.elim (auH h1 x) (aqg h3 x)
end
mutual
theorem akY:∀ {v:AV} {cs:List Value},AVC P w Imm β H v cs→∀ c∈cs,c.oneCell'=true
 | .p t,_,h=>by simp only [AVC] at h; exact auH h
 | .ptr ..,_,h | .eptr ..,_,h | .sl ..,_,h | .map ..,_,h=>by simp only [AVC] at h; obtain ⟨v,rfl,h1,_⟩:=h; simpa using h1
 | .func ..,_,h=>by simp only [AVC] at h; obtain ⟨_,_,_,_,rfl⟩:=h; simp [Value.oneCell']
 | .tup _,_,h=>by simp [AVC] at h
 | .st u fs,_,h=>by
  simp only [AVC] at h;obtain ⟨l,css,h1,h2,rfl⟩:=h;exact aqh h2
theorem aqh:∀ {l:List Nat} {vs:List AV} {css:List (List Value)},AVCl P w Imm β H l vs css→∀ c∈css.flatten,c.oneCell'=true
 | [],[],_,h=>by simp only [AVCl] at h; subst h; simp
 | [],_::_,_,h=>by simp [AVCl] at h
 | _::_,[],_,h=>by simp [AVCl] at h
 | n::ns,v::vs,css,h=>by
  simp only [AVCl] at h;obtain ⟨c,cs,rfl,h1,h2,h3⟩:=h;intro x hx;simp only [List.flatten_cons,List.mem_append] at hx;exact hx.elim (akY h1 x) (aqh h3 x)
end
theorem ab4 (hr : HRel P w Imm β H Prot) {b : Nat} {o o' : Obj} (ho : H[b]? = some o) (hl : o.live) (hl' : o'.live) (hnh : ∀ v, o.has v → o'.has v) {old new : Array Value} {T : TypeId}
    (hblk:w.heap[β.blk b]?=some (.cells old T (0,0))) (hm:¬ Imm (β.blk b)∧¬ Prot (β.blk b)) (hst:aaG β H β (H.set b o'))
    (ho':ORel P (w.setRow (β.blk b) new) Imm β (H.set b o') Prot b o') (href:o'.refs (InH (H.set b o'))) :
    Post P Prot Imm w β H Imm (w.setRow (β.blk b) new) β (H.set b o'):=by
 refine Post.set hr (List.getElem?_eq_some_iff.1 ho).1 (fun _ _=>⟨rfl,rfl⟩) (fun _ x=>x) (fun _ x=>.inl x) (fun k hk=>by rw [setRow_size]; exact hr.imm k hk) (by rw [setRow_size]; exact Nat.le_refl _)
  (fun k hk _=>setRow_other w _ k _ (hk.resolve_right (fun h=>h hl'))) (fun _=>.inr ⟨rfl,⟨o,ho,hl⟩,.inr hm.1,hm.2⟩) hst ho' href (fun o1 v h1 h2=>by rw [ho] at h1; cases h1; exact hnh v h2) (fun L hL=>by obtain ⟨_,_,_,h1,_⟩:=hr.objs b _ hL; rw [hblk] at h1; cases h1)
theorem acW {b : Nat} {o o' : Obj} (ho : H[b]? = some o) (hk : (∃ f g t t', o = .box f t ∧ o' = .box g t') ∨ (∃ k v z es es', o = .arr k v z es ∧ o' = .arr k v z es' ∧ es.length = es'.length) ∨ (∃ f g es es', o = .map f es ∧ o' = .map g es') ∨ (∃ s p p', o = .siter s p ∧ o' = .siter s p')) :
    aaG β H β (H.set b o'):=by
 have hb:b<H.length:=(List.getElem?_eq_some_iff.1 ho).1;have ge:∀ x,x≠b→(H.set b o')[x]?=H[x]?:=fun x hx=>List.getElem?_set_ne (Ne.symm hx);have gb:(H.set b o')[b]?=some o':=List.getElem?_set_self hb;refine ⟨?_,?_,?_,?_,?_⟩
 · rintro x _ ⟨fz,t,h⟩;refine ⟨?_,rfl⟩
   by_cases hx:x=b
   · subst hx; rw [gb] at h; cases h;rcases hk with ⟨f,g,t1,t2,h1,h2⟩ | ⟨_,_,_,_,_,_,h2,_⟩ | ⟨_,_,_,_,_,h2⟩ | ⟨_,_,_,_,h2⟩
     · exact ⟨f,t1,by rw [ho,h1]⟩
     all_goals cases h2
   · rw [ge x hx] at h; exact ⟨fz,t,h⟩
 · rintro x _ ⟨s,p,h⟩;refine ⟨?_,rfl⟩
   by_cases hx:x=b
   · subst hx; rw [gb] at h; cases h;rcases hk with ⟨f,g,t1,t2,h1,h2⟩ | ⟨_,_,_,_,_,_,h2,_⟩ | ⟨_,_,_,_,_,h2⟩ | ⟨s1,p1,p2,h1,h2⟩
     · cases h2
     · cases h2
     · cases h2
     · exact ⟨s1,p1,by rw [ho,h1]⟩
   · rw [ge x hx] at h; exact ⟨s,p,h⟩
 · rintro x _ ⟨fz,t,h⟩;refine ⟨?_,rfl⟩
   by_cases hx:x=b
   · subst hx; rw [gb] at h; cases h;rcases hk with ⟨f,g,t1,t2,h1,h2⟩ | ⟨_,_,_,_,_,_,h2,_⟩ | ⟨f,g,e1,e2,h1,h2⟩ | ⟨s1,p1,p2,h1,h2⟩
     · cases h2
     · cases h2
     · exact ⟨f,e1,by rw [ho,h1]⟩
     · cases h2
   · rw [ge x hx] at h; exact ⟨fz,t,h⟩
 · intro x ver esz k es _ h
   by_cases hx:x=b
   · subst hx;unfold aaI at h ⊢;rw [gb] at h; cases h;rcases hk with ⟨f,g,t1,t2,h1,h2⟩ | ⟨k0,v,z,es1,es2,h1,h2,h3⟩ | ⟨_,_,_,_,_,h2⟩ | ⟨_,_,_,_,h2⟩
     · cases h2
     · cases h2;refine ⟨k,es1,by rw [ho,h1],by omega,?_,fun _=>⟨rfl,rfl⟩⟩;unfold aam;rw [← List.length_eq_zero_iff,← List.length_eq_zero_iff,h3]
     · cases h2
     · cases h2
   · unfold aaI at h ⊢;rw [ge x hx] at h; exact ⟨k,es,h,Nat.le_refl _,Iff.rfl,fun _=>⟨rfl,rfl⟩⟩
 · rintro x _ ⟨L,h⟩;refine ⟨?_,rfl⟩
   by_cases hx:x=b
   · subst hx; rw [gb] at h; cases h;rcases hk with ⟨f,g,t1,t2,h1,h2⟩ | ⟨_,_,_,_,_,_,h2,_⟩ | ⟨_,_,_,_,_,h2⟩ | ⟨_,_,_,_,h2⟩ <;> cases h2
   · rw [ge x hx] at h; exact ⟨L,h⟩
variable {o:Oper} {ρ:Operand→AV} {base:Nat}
theorem ak9 {T : TypeId} {a x : Operand} (hop : o.op = .store T a x) {ρc : Operand → Value} {blk off : Nat} {ys : List Value} {old : Array Value} {T' : TypeId} (ha : ρc a = .pointer (some ⟨blk, off, none⟩))
    (hx:(ρc x).cells.toList=ys) (hsz:P.cellsOf T=ys.length∧∃ i,P.info? T=some i∧i.size=ys.length) (hb:w.heap[blk]?=some (.cells old T' (0,0))) (hone:∀ c∈ys,c.oneCell'=true) (hl:off+ys.length≤old.size) :
    (execOp ρc o).run P w=.ok .skip (w.setRow blk (old.toList.take off ++ ys ++ old.toList.drop (off+ys.length)).toArray):=by
 obtain ⟨_,i,hi,his⟩:=hsz;have h1:(sizeOf T).run P w=.ok ys.length w:=by simp [sizeOf,typeInfo,hi,his]
 have h2:=run_storeCells_at (P:=P) blk off T' ys 0 old w hb (by simpa using hl) hone;simp only [Nat.add_zero] at h2;have hxs:(ρc x).cells.size=ys.length:=by rw [← hx]; simp
 simp only [execOp,hop,Instr.storeAt,ha,Instr.sureAddr];simp [storeVar,h1,hxs,hx,h2]
theorem ahu (u:TypeId) (fs:List AV):shpA (mkSt u fs)=.agg u:=by
 unfold mkSt; split <;> rfl
theorem au8 {t:AV} {path:List (TypeId×Nat)} {x s t':AV} (hs:subA t path=some s) (ht:setA t path x=some t') (hsh:shpA s=shpA x):shpA t'=shpA t:=by
 cases path with
 | nil =>
  simp only [setA,Option.some.injEq] at ht;subst ht;have:s=t:=by
   cases t <;> simp [subA] at hs <;> exact hs.symm
  rw [← hsh,this]
 | cons p r =>
  obtain ⟨u,i⟩:=p;cases t <;> simp only [setA] at ht
  case p t =>
   split at ht
   case isFalse=>simp at ht
   rename_i hu
   split at ht
   case h_2=>simp at ht
   split at ht
   case h_2=>simp at ht
   simp only [Option.some.injEq] at ht; subst ht;rw [ahu]; simp [shpA,hu]
  case st u' fs =>
   split at ht
   case isFalse=>simp at ht
   rename_i hu
   split at ht
   case h_2=>simp at ht
   split at ht
   case h_2=>simp at ht
   simp only [Option.some.injEq] at ht; subst ht;rw [ahu]; simp [shpA,hu]
  all_goals simp at ht
theorem avz {T : TypeId} {a x : Operand} (hop : o.op = .store T a x) {H0 : Heap} {K : Eff → Prop} (h : adC P T H0 (ρ a) (ρ x) K) :
    ∃ e,K e∧aae P o ρ base e∧(∀ p∈e.hin,H0[p.1]?=some p.2)∧(∀ p∈e.hset,p.1<H0.length∧p.2≠.hole):=by
 unfold adC at h;obtain ⟨hk,hbad,h⟩:=h
 split at h
 · rename_i b path ha
   split at h
   case h_2=>exact h.elim
   rename_i t hob
   split at h
   case h_2=>exact h.elim
   rename_i s t' hs ht';obtain ⟨hsh,h⟩:=h;refine ⟨_,h,?_,by simpa using hob,by simpa using (List.getElem?_eq_some_iff.1 hob).1⟩;intro H w Imm Prot β ρc hr hρ hin _;have hob':H[b]?=some (.box false t):=by simpa using hin
   obtain ⟨h1,_⟩:=hρ a (by simp [hop,Op.operands]);obtain ⟨x1,x2⟩:=hρ x (by simp [hop,Op.operands]);rw [ha] at h1;simp only [AVV,RefV,RefC] at h1;obtain ⟨_,blk0,off0,oo,hptr,ho,h1⟩:=h1;obtain ⟨rfl,rfl⟩:=h1 (.inl ⟨false,t,hob'⟩);obtain ⟨cs,T',k1,k2,k3,k4⟩:=hr.objs b _ hob';obtain ⟨pre,xs,post,e1,e2,e3,e4⟩:=aek k2 hs ho;have hxc:=afZ x1 hbad;have hlen:(ρc x).cells.toList.length=xs.length:=by rw [(acF hxc).1,(acF e3).1,hsh]
   have hcsl:cs.size=pre.length+xs.length+post.length:=by
    have:=congrArg List.length e1; simp at this; omega
   have hrun:=ak9 hop hptr rfl (acY hk hxc) k1 (akY hxc) (by omega);have hnew:(cs.toList.take off0 ++ (ρc x).cells.toList ++ cs.toList.drop (off0+(ρc x).cells.toList.length))=pre ++ (ρc x).cells.toList ++ post:=by
    rw [e1,hlen,← e2];simp
   rw [hnew] at hrun;have hst:aaG β H β (H.set b (.box false t')):=acW hob' (.inl ⟨_,_,_,_,rfl,rfl⟩);have hin':∀ y,InH H y→InH (H.set b (.box false t')) y:=acU hob' (fun _ h=>h);have hsame:∀ k,Imm k→(w.setRow (β.blk b) (pre ++ (ρc x).cells.toList ++ post).toArray).heap[k]?=w.heap[k]?:=fun k hki=>setRow_other w _ k _ (fun he=>k3.1 (he▸hki));have hpost:=ab4 hr hob' trivial (o':=.box false t') trivial (fun _ h=>h) k1 (new:=(pre ++ (ρc x).cells.toList ++ post).toArray) k3 hst
    ⟨_,T',setRow_heap w _ _ _ T' _ k1,AVC.mono (fun _ x=>x) hsame hst _ _ (afp ht' (hr.refs b _ hob') x2) (e4 _ _ _ ht' hxc hlen),k3,by simp,by rw [au8 hs ht' hsh]; exact k4.2⟩
    (aaa.mono hin' _ (afp ht' (hr.refs b _ hob') x2))
   exact ⟨_,_,_,β,Imm,hrun,.inr ⟨rfl,rfl⟩,hpost,by simp [AVV,PVV,PVVl,undef],by simp [aaa]⟩
 · rename_i b ver esz i path ha
   split at h
   case h_2=>exact h.elim
   rename_i k ver' esz' es hob;obtain ⟨rfl,rfl,hkf,hi,h⟩:=h
   split at h
   case h_2=>exact h.elim
   rename_i s t' hs ht';obtain ⟨hsh,h⟩:=h;refine ⟨_,h,?_,by simpa using hob,by simpa using (List.getElem?_eq_some_iff.1 hob).1⟩;intro H w Imm Prot β ρc hr hρ hin _;have hob':H[b]?=some (.arr k ver esz es):=by simpa using hin
   obtain ⟨h1,_⟩:=hρ a (by simp [hop,Op.operands]);obtain ⟨x1,x2⟩:=hρ x (by simp [hop,Op.operands]);rw [ha] at h1;simp only [AVV,RefV,RefC] at h1;have hnn:¬ aam k es:=fun hn=>by rw [hn.2] at hi; simp at hi
   obtain ⟨_,blk0,off0,oo,hptr,ho,h1⟩:=h1;obtain ⟨rfl,rfl⟩:=h1 k es hob' hnn;rcases hr.objs b _ hob' with hold | ⟨cs,T',css,rest,k1,k2,k3,k4,k5,k6,k7,k8⟩
   · exact (hnn hold).elim
   have hheld:¬ Imm (β.blk b)∧¬ Prot (β.blk b):=by
    unfold Held at k7;rw [if_neg (by simpa using hkf)] at k7;exact k7
   obtain ⟨pre0,c,post0,r1,r2,r3,r4,r5⟩:=aqd k2 hi;obtain ⟨pre,xs,post,e1,e2,e3,e4⟩:=aek r4 hs ho;have hxc:=afZ x1 hbad;have hlen:(ρc x).cells.toList.length=xs.length:=by rw [(acF hxc).1,(acF e3).1,hsh]
   have hcs:cs.toList=(pre0 ++ pre) ++ xs ++ (post ++ post0 ++ rest):=by rw [k3,r1,e1]; simp
   have hcsl:cs.size=(pre0 ++ pre).length+xs.length+(post ++ post0 ++ rest).length:=by
    have:=congrArg List.length hcs; simp at this ⊢; omega
   have hoff:(pre0 ++ pre).length=i*esz+oo:=by simp [r2,e2]
   have hrun:=ak9 hop hptr rfl (acY hk hxc) k1 (akY hxc) (by omega);have hnew:(cs.toList.take (i*esz+oo) ++ (ρc x).cells.toList ++ cs.toList.drop (i*esz+oo+(ρc x).cells.toList.length))=(pre0 ++ pre) ++ (ρc x).cells.toList ++ (post ++ post0 ++ rest):=by
    rw [hcs,hlen,← hoff,List.append_assoc (pre0 ++ pre),List.take_left',List.drop_append,List.append_assoc]
    · simp
    · rfl
   rw [hnew] at hrun;obtain ⟨css',c1,c2⟩:=r5 t' _ (e4 _ _ _ ht' hxc hlen) (by rw [e1]; simp [hlen]);have hst:aaG β H β (H.set b (.arr k ver esz (es.set i t'))):=acW hob' (.inr (.inl ⟨_,_,_,_,_,rfl,rfl,by simp⟩));have hin':∀ y,InH H y→InH (H.set b (.arr k ver esz (es.set i t'))) y:=acU hob' (fun _ h=>h);have hnn':¬ aam k (es.set i t'):=fun hn=>hnn ⟨hn.1,by have:=hn.2; rw [List.set_eq_nil_iff] at this; exact this⟩;have hrefs':aac (InH H) (es.set i t'):=by
    rw [aag];intro v hv;rcases List.mem_or_eq_of_mem_set hv with hv | rfl
    · exact aag.1 (hr.refs b _ hob') v hv
    · exact afp ht' (aag.1 (hr.refs b _ hob') _ (List.getElem_mem hi)) x2
   have hsame:∀ k',Imm k'→(w.setRow (β.blk b) ((pre0 ++ pre) ++ (ρc x).cells.toList ++ (post ++ post0 ++ rest)).toArray).heap[k']?=w.heap[k']?:=fun k' hki=>setRow_other w _ k' _ (fun he=>hheld.1 (he▸hki));have hpost:=ab4 hr hob' hnn (o':=.arr k ver esz (es.set i t')) hnn' (fun _ h=>h) k1 (new:=((pre0 ++ pre) ++ (ρc x).cells.toList ++ (post ++ post0 ++ rest)).toArray) hheld hst
    (.inr ⟨_,T',css',rest,setRow_heap w _ _ _ T' _ k1,AVCl.mono (fun _ x=>x) hsame hst _ _ _ hrefs' c2,by rw [c1]; simp,by
     rw [← k4,hcsl]; simp [hlen]; omega,by simpa using k5,fun hke=>by rw [k6 hke]; simp,k7,(fun hke=>(hkf hke).elim),k8.2⟩)
    (aac.mono hin' _ hrefs')
   exact ⟨_,_,_,β,Imm,hrun,.inr ⟨rfl,rfl⟩,hpost,by simp [AVV,PVV,PVVl,undef],by simp [aaa]⟩
 · exact h.elim
end
section
variable {P:Program} {w:World} {Imm Prot:Nat→Prop} {β:Bd} {H:Heap}
theorem ady (P:Program) (T:TypeId):P.underlying T=(P.info? (P.underlyingId T)).map (fun i:TypeInfo=>i.desc):=by
 unfold Program.underlying Program.underlyingId;cases hi:P.info? T with
 | none=>simp [hi]
 | some i =>
  obtain ⟨d,_,_,_,_,_,_,_,_,_⟩:=i;cases d <;> simp [hi]
theorem agf {T u:TypeId} (h:kindOf P T=.agg u):u=P.underlyingId T∧(∃ l,szs P u=some l)∧P.cellsOf T=P.cellsOf u:=by
 unfold kindOf at h
 split at h
 · split at h
   · rename_i hc;simp at h; subst h;simp at hc;exact ⟨rfl,Option.isSome_iff_exists.1 hc.1,hc.2⟩
   · simp at h
 · split at h
   · rename_i hc;simp at h; subst h;simp at hc;exact ⟨rfl,Option.isSome_iff_exists.1 hc.1,hc.2⟩
   · simp at h
 · split at h <;> simp at h
 · simp at h
theorem acn {T u : TypeId} {n : Nat} (h : abt P T = some (u, n)) : ∃ fs l, P.underlying T = some (.struct fs) ∧ fs.size = n ∧ kindOf P T = .agg u ∧ szs P u = some l ∧ l.length = n ∧
    ∀ (i:Nat) (_hi:i<n),∃ f,fs[i]?=some f∧f.offset=(l.take i).sum∧l[i]?=some (P.cellsOf f.type)∧0<P.cellsOf f.type∧(aaX P u)[i]?=some f.type:=by
 unfold abt at h
 split at h
 case h_2=>simp at h
 rename_i u' fs hk hu;simp at h;obtain ⟨rfl,rfl⟩:=h;obtain ⟨he,⟨l,hl⟩,_⟩:=agf hk;refine ⟨fs,l,hu,rfl,hk,hl,?_⟩;have hd:(P.info? u').map (fun i:TypeInfo=>i.desc)=some (.struct fs):=by rw [he,← ady,hu]
 unfold szs at hl;rw [hd] at hl;dsimp only at hl
 split at hl
 case isFalse=>simp at hl
 rename_i hc;simp at hl;simp only [Bool.and_eq_true,List.all_eq_true,decide_eq_true_eq,beq_iff_eq] at hc;obtain ⟨⟨h1,h2⟩,h3⟩:=hc;subst hl;refine ⟨by simp,fun i hi=>?_⟩;refine ⟨fs[i],by simp [hi],?_,by simp [hi],?_,?_⟩
 · have:=h3 (fs[i],i) (by rw [List.mem_iff_getElem?]; exact ⟨i,by simp [hi]⟩);simpa using this
 · have:=h1 (P.cellsOf fs[i].type) (by simp; exact ⟨fs[i],by simp,rfl⟩);exact this
 · unfold aaX;rw [hd];simp [hi]
theorem aew {T u:TypeId} {n:Nat} (h:arrT P T=some (u,n)):∃ e,P.underlying T=some (.array n e)∧kindOf P T=.agg u∧szs P u=some (List.replicate n (P.cellsOf e))∧0<P.cellsOf e:=by
 unfold arrT at h
 split at h
 case h_2=>simp at h
 rename_i u' n' e hk hu;simp at h;obtain ⟨rfl,rfl⟩:=h;obtain ⟨he,⟨l,hl⟩,_⟩:=agf hk;have hd:(P.info? u').map (fun i:TypeInfo=>i.desc)=some (.array n' e):=by rw [he,← ady,hu]
 have hl0:=hl;unfold szs at hl;rw [hd] at hl;dsimp only at hl
 split at hl
 case isFalse=>simp at hl
 rename_i hc;simp at hl hc;exact ⟨e,hu,hk,by rw [hl0,hl],hc.1⟩
theorem aci {p q:List (TypeId×Nat)} {a b:Nat} (ha:aaW P p=some a) (hb:aaW P q=some b):aaW P (p ++ q)=some (a+b):=by
 induction p generalizing a with
 | nil=>simp [aaW] at ha; subst ha; simpa using hb
 | cons x p ih =>
  obtain ⟨u,i⟩:=x;simp only [aaW] at ha;cases hz:szs P u with
  | none=>simp [hz] at ha
  | some l =>
   cases hp:aaW P p with
   | none=>simp [hz,hp] at ha
   | some a' =>
    simp [hz,hp] at ha;obtain ⟨hi,rfl⟩:=ha;simp only [List.cons_append,aaW,hz,ih hp,if_pos hi];congr 1; omega
theorem adJ {u:TypeId} {i:Nat} {l:List Nat} (hl:szs P u=some l) (hi:i<l.length):aaW P [(u,i)]=some (l.take i).sum:=by
 simp [aaW,hl,hi]
variable {o:Oper} {ρ:Operand→AV} {base:Nat}
theorem acg (blk off n:Nat):(⟨blk,off,none⟩:Addr).add n=⟨blk,off+n,none⟩:=by unfold Addr.add; split <;> simp_all
theorem alI {T : TypeId} {a : Operand} {f : Nat} (hop : o.op = .fieldAddr T a f) {K : Eff → Prop} (h : abo P T (ρ a) f K) :
    ∃ e,K e∧aae P o ρ base e∧e.hin=[]∧e.hset=[]:=by
 unfold abo at h
 split at h
 case h_2=>exact h.elim
 rename_i u n hst;obtain ⟨hf,h⟩:=h;obtain ⟨fs,l,hu,hn,hk,hl,hll,hfs⟩:=acn hst;obtain ⟨fd,g1,g2,g3,g4,g5⟩:=hfs f hf;have hpath:=adJ hl (by omega:f<l.length);have hrun:∀ (w:World) (ρc:Operand→Value) (blk off:Nat),ρc a=.pointer (some ⟨blk,off,none⟩)→(execOp ρc o).run P w=.ok (.value (.pointer (some ⟨blk,off+(l.take f).sum,none⟩))) w:=by
  intro w ρc blk off ha;obtain ⟨i,hi⟩:∃ i,P.info? fd.type=some i:=by
   cases hi:P.info? fd.type with
   | none=>simp [Program.cellsOf,hi] at g4
   | some i=>exact ⟨i,rfl⟩
  have hsz:(sizeOf fd.type).run P w=.ok (P.cellsOf fd.type) w:=by simp [sizeOf,typeInfo,hi,Program.cellsOf]
  simp only [execOp,hop];refine aao ?_;have hnz:¬ P.cellsOf fd.type=0:=by omega
  simp [Instr.fieldAt,run_underlying hu,g1,ha,Instr.sureAddr,fieldPlace,hsz,hnz,acg,g2]
 split at h
 · rename_i b path ha;refine ⟨_,h,aae.same fun H w Imm Prot β ρc hr hρ _=>?_,rfl,rfl⟩;obtain ⟨h1,h2⟩:=hρ a (by simp [hop,Op.operands]);rw [ha] at h1 h2;simp only [AVV,RefV,RefC,aaa] at h1 h2;obtain ⟨_,blk,off,oo,hptr,ho,hl'⟩:=h1;refine ⟨_,hrun w ρc _ _ hptr,?_,by simpa [aaa] using h2⟩;simp only [AVV,RefV,RefC];exact ⟨rfl,_,_,_,rfl,aci ho hpath,fun hlv=>⟨(hl' hlv).1,by rw [(hl' hlv).2]⟩⟩
 · rename_i b ver esz i path ha;refine ⟨_,h,aae.same fun H w Imm Prot β ρc hr hρ _=>?_,rfl,rfl⟩;obtain ⟨h1,h2⟩:=hρ a (by simp [hop,Op.operands]);rw [ha] at h1 h2;simp only [AVV,RefV,RefC,aaa] at h1 h2;obtain ⟨_,blk,off,oo,hptr,ho,hl'⟩:=h1;refine ⟨_,hrun w ρc _ _ hptr,?_,by simpa [aaa] using h2⟩;simp only [AVV,RefV,RefC];exact ⟨rfl,_,_,_,rfl,aci ho hpath,fun k es hlv hn=>⟨(hl' k es hlv hn).1,by rw [(hl' k es hlv hn).2]; omega⟩⟩
 · rename_i t ha;obtain ⟨hs,h⟩:=h
   split at h
   case h_2=>exact h.elim
   rename_i g hg;refine ⟨_,h,?_,rfl,rfl⟩;refine aae.same fun H w Imm Prot β ρc hr hρ _=>?_;obtain ⟨h1,_⟩:=hρ a (by simp [hop,Op.operands]);rw [ha] at h1;simp only [AVV,PVV] at h1;obtain ⟨blk,off,ts,k1,k2,k3,k4⟩:=h1;refine ⟨_,hrun w ρc _ _ k4,?_,by simp [aaa]⟩;obtain ⟨pre,xs,post,e1,e2,e3⟩:=ahe (path:=[(u,f)]) (s:=g) k1 (by simp [subP,hs,hg]) hpath;simp only [AVV,PVV];refine ⟨blk,off+(l.take f).sum,xs,e3,k2,?_,rfl⟩;intro i hi;have:=k3 (pre.length+i) (by rw [e1]; simp; omega);rw [← e2,Nat.add_assoc,this];congr 1;simp only [e1,List.append_assoc];rw [List.getElem_append_right (by omega)];simp only [Nat.add_sub_cancel_left];rw [List.getElem_append_left hi]
 · exact h.elim
end
section
variable {P:Program} {w:World} {Imm Prot:Nat→Prop} {β:Bd} {H:Heap}
variable {o:Oper} {ρ:Operand→AV} {base:Nat}
theorem ach {blk off:Nat} {ts pre xs post:List Value} (h:aa5 w blk off ts) (e:ts=pre ++ xs ++ post):aa5 w blk (off+pre.length) xs:=by
 intro i hi;have:=h (pre.length+i) (by rw [e]; simp; omega);rw [Nat.add_assoc,this];congr 1;simp only [e,List.append_assoc];rw [List.getElem_append_right (by omega)];simp only [Nat.add_sub_cancel_left];rw [List.getElem_append_left hi]
structure acV (P:Program) (T:TypeId) (sz:Nat) (e:TypeId) (i:TypeInfo):Prop where
 und:P.underlying T=some (.slice e)
 info:P.info? e=some i
 size:i.size=sz
 pos:0<sz
 bytes:i.bytes<32768
 bpos:0<i.bytes
 typ:aay P T=e
theorem aaM {T:TypeId} {sz:Nat} (h:aax P T=some sz):∃ e i,acV P T sz e i:=by
 unfold aax at h
 split at h
 case h_2=>simp at h
 rename_i e hu
 split at h
 case h_2=>simp at h
 rename_i i hi
 split at h
 case isFalse=>simp at h
 rename_i hc;simp at h; subst h;exact ⟨e,i,hu,hi,rfl,hc.2.1,hc.1,hc.2.2,by simp [aay,hu]⟩
theorem acV.run {T:TypeId} {sz:Nat} {e:TypeId} {i:TypeInfo} (h:acV P T sz e i) (w:World):(sizeOf e).run P w=.ok sz w:=by
 simp [sizeOf,typeInfo,h.info,h.size]
theorem alH {T : TypeId} {x ix : Operand} (hop : o.op = .indexAddr T x ix) {H0 : Heap} {K : Eff → Prop} (h : abm P T H0 (ρ x) (ρ ix) K) :
    ∃ e,K e∧aae P o ρ base e∧(∀ p∈e.hin,H0[p.1]?=some p.2)∧e.hset=[]:=by
 unfold abm at h
 split at h
 case h_2=>exact h.elim
 rename_i kk n hix;obtain ⟨h0,h⟩:=h;have hmx:x∈o.op.operands:=by simp [hop,Op.operands]
 have hmi:ix∈o.op.operands:=by simp [hop,Op.operands]
 have hidx:∀ {H:Heap} {w:World} {Imm:Nat→Prop} {β:Bd} {ρc:Operand→Value},(∀ y∈o.op.operands,AVV P w Imm β H (ρ y) (ρc y)∧aaa (InH H) (ρ y))→ρc ix=.int kk n:=by
  intro H w Imm β ρc hρ;have:=(hρ ix hmi).1;rw [hix] at this;simpa [AVV,PVV] using this
 split at h
 ·
  rename_i full es hx;obtain ⟨hlt,hsz,h⟩:=h;obtain ⟨e,ti,hE⟩:=aaM hsz;refine ⟨_,h,aae.same fun H w Imm Prot β ρc hr hρ _=>?_,by simp,rfl⟩;obtain ⟨h1,_⟩:=hρ x hmx;rw [hx] at h1;simp only [AVV,PVV] at h1;obtain ⟨blk,off,cap,esz,css,k1,k2,k3,k4,k5,sp,hsp,k6⟩:=h1;obtain rfl:sp=none:=hsp.resolve_right (by omega);have hrow:Row P w Imm ⟨id,id⟩ [] esz (es.map .p) css:=acS.2 k1;obtain ⟨pre,c,post,r1,r2,r3,r4,_⟩:=aqd hrow (i:=n.toNat) (by simpa using hlt);have hpc:PVC P w Imm es[n.toNat] c:=by
   have:(es.map AV.p)[n.toNat]'(by simpa using hlt)=.p es[n.toNat]:=by simp
   rw [this] at r4;simpa only [AVC] using r4
  have hesz:aah P (shp es[n.toNat])=esz:=by rw [← (ac5 hpc).1,r3]
  refine ⟨.pointer (some ⟨blk,off+n.toNat*esz,none⟩),?_,?_,by simp [aaa]⟩
  · simp only [execOp,hop];refine aao ?_;have hlt':n<(es.length:Int):=by omega
    simp [Instr.indexAt,hidx hρ,asIntOf,run_underlying hE.und,k6,h0,hlt',hE.run,hesz,acg]
  · simp only [AVV,PVV];refine ⟨blk,off+n.toNat*esz,c,hpc,k2 (by intro hn; rw [hn] at hlt; simp at hlt),?_,rfl⟩;rw [← r2]; exact ach k3 r1
 ·
  rename_i es hx;obtain ⟨hlt,hsz,h⟩:=h;obtain ⟨e,ti,hE⟩:=aaM hsz;refine ⟨_,h,aae.same fun H w Imm Prot β ρc hr hρ _=>?_,by simp,rfl⟩;obtain ⟨h1,_⟩:=hρ x hmx;rw [hx] at h1;simp only [AVV,PVV] at h1;rcases h1 with ⟨rfl,_⟩ | ⟨blk,off,cap,esz,css,k1,k2,k3,k5,sp,hsp,k6⟩
  · simp at hlt
  obtain rfl:sp=none:=hsp.resolve_right (by omega);have hrow:Row P w Imm ⟨id,id⟩ [] esz (es.map .p) css:=acS.2 k1;obtain ⟨pre,c,post,r1,r2,r3,r4,_⟩:=aqd hrow (i:=n.toNat) (by simpa using hlt);have hpc:PVC P w Imm es[n.toNat] c:=by
   have:(es.map AV.p)[n.toNat]'(by simpa using hlt)=.p es[n.toNat]:=by simp
   rw [this] at r4;simpa only [AVC] using r4
  have hesz:aah P (shp es[n.toNat])=esz:=by rw [← (ac5 hpc).1,r3]
  refine ⟨.pointer (some ⟨blk,off+n.toNat*esz,none⟩),?_,?_,by simp [aaa]⟩
  · simp only [execOp,hop];refine aao ?_;have hlt':n<(es.length:Int):=by omega
    simp [Instr.indexAt,hidx hρ,asIntOf,run_underlying hE.und,k6,h0,hlt',hE.run,hesz,acg]
  · simp only [AVV,PVV];refine ⟨blk,off+n.toNat*esz,c,hpc,k2 (by intro hn; rw [hn] at hlt; simp at hlt),?_,rfl⟩;rw [← r2]; exact ach k3 r1
 ·
  rename_i b ver esz off len hx;obtain ⟨hsz,hlt,h⟩:=h;obtain ⟨e,ti,hE⟩:=aaM hsz
  split at h
  case h_2=>exact h.elim
  rename_i k ver' esz' es hob;obtain ⟨rfl,rfl,hnn,h⟩:=h;refine ⟨_,h,aae.same fun H w Imm Prot β ρc hr hρ hin=>?_,by simpa using hob,rfl⟩;obtain ⟨h1,h2⟩:=hρ x hmx;rw [hx] at h1 h2;simp only [AVV,RefV,RefC,aaa] at h1 h2;have hob':H[b]?=some (.arr k ver esz es):=by simpa using hin
  obtain ⟨g1,g2,g3⟩:=h1.2 k es hob';have g3:=g3 hnn;refine ⟨.pointer (some ⟨β.blk b,off*esz+n.toNat*esz,none⟩),?_,?_,by simpa [aaa] using h2⟩
  · simp only [execOp,hop];refine aao ?_;have hlt':n<(len:Int):=by omega
    simp [Instr.indexAt,hidx hρ,asIntOf,run_underlying hE.und,g3,h0,hlt',hE.run,acg]
  · simp only [AVV,RefV,RefC];refine ⟨rfl,_,_,0,rfl,rfl,fun k' es' hl' hn'=>?_⟩;unfold aaI at hl';rw [hob'] at hl'; cases hl';exact ⟨rfl,by rw [Nat.add_mul]; simp⟩
 ·
  rename_i b path hx
  split at h
  case h_2=>exact h.elim
  rename_i u m harr;obtain ⟨hlt,h⟩:=h;obtain ⟨e,hu,hk,hl,hpos⟩:=aew harr;refine ⟨_,h,aae.same fun H w Imm Prot β ρc hr hρ _=>?_,by simp,rfl⟩;obtain ⟨h1,h2⟩:=hρ x hmx;rw [hx] at h1 h2;simp only [AVV,RefV,RefC,aaa] at h1 h2;obtain ⟨_,blk,off,oo,hptr,ho,hl'⟩:=h1;have hpath:=adJ hl (i:=n.toNat) (by simpa using hlt);have hsum:((List.replicate m (P.cellsOf e)).take n.toNat).sum=n.toNat*P.cellsOf e:=by rw [List.take_replicate,Nat.min_eq_left (by omega),List.sum_replicate_nat]
  have hsz:(sizeOf e).run P w=.ok (P.cellsOf e) w:=by
   cases hi:P.info? e with
   | none=>simp [Program.cellsOf,hi] at hpos
   | some i=>simp [sizeOf,typeInfo,hi,Program.cellsOf]
  refine ⟨.pointer (some ⟨blk,off+n.toNat*P.cellsOf e,none⟩),?_,?_,by simpa [aaa] using h2⟩
  · simp only [execOp,hop];refine aao ?_;have hlt':n<(m:Int):=by omega
    simp [Instr.indexAt,hidx hρ,asIntOf,run_underlying hu,hptr,Instr.sureAddr,h0,hlt',hsz,acg]
  · simp only [AVV,RefV,RefC];exact ⟨rfl,_,_,_,rfl,aci ho hpath,fun hlv=>⟨(hl' hlv).1,by rw [(hl' hlv).2,hsum]⟩⟩
 · rename_i b ver esz i path hx
   split at h
   case h_2=>exact h.elim
   rename_i u m harr;obtain ⟨hlt,h⟩:=h;obtain ⟨e,hu,hk,hl,hpos⟩:=aew harr;refine ⟨_,h,aae.same fun H w Imm Prot β ρc hr hρ _=>?_,by simp,rfl⟩;obtain ⟨h1,h2⟩:=hρ x hmx;rw [hx] at h1 h2;simp only [AVV,RefV,RefC,aaa] at h1 h2;obtain ⟨_,blk,off,oo,hptr,ho,hl'⟩:=h1;have hpath:=adJ hl (i:=n.toNat) (by simpa using hlt);have hsum:((List.replicate m (P.cellsOf e)).take n.toNat).sum=n.toNat*P.cellsOf e:=by rw [List.take_replicate,Nat.min_eq_left (by omega),List.sum_replicate_nat]
   have hsz:(sizeOf e).run P w=.ok (P.cellsOf e) w:=by
    cases hi:P.info? e with
    | none=>simp [Program.cellsOf,hi] at hpos
    | some i=>simp [sizeOf,typeInfo,hi,Program.cellsOf]
   refine ⟨.pointer (some ⟨blk,off+n.toNat*P.cellsOf e,none⟩),?_,?_,by simpa [aaa] using h2⟩
   · simp only [execOp,hop];refine aao ?_;have hlt':n<(m:Int):=by omega
     simp [Instr.indexAt,hidx hρ,asIntOf,run_underlying hu,hptr,Instr.sureAddr,h0,hlt',hsz,acg]
   · simp only [AVV,RefV,RefC];exact ⟨rfl,_,_,_,rfl,aci ho hpath,fun k es hlv hn=>⟨(hl' k es hlv hn).1,by rw [(hl' k es hlv hn).2,hsum]; omega⟩⟩
 · rename_i t hx
   split at h
   case h_2=>exact h.elim
   rename_i u m harr;obtain ⟨hs,hlt,h⟩:=h
   split at h
   case h_2=>exact h.elim
   rename_i g hg;obtain ⟨e,hu,hk,hl,hpos⟩:=aew harr;refine ⟨_,h,aae.same fun H w Imm Prot β ρc hr hρ _=>?_,by simp,rfl⟩;obtain ⟨h1,_⟩:=hρ x hmx;rw [hx] at h1;simp only [AVV,PVV] at h1;obtain ⟨blk,off,ts,k1,k2,k3,k4⟩:=h1;have hpath:=adJ hl (i:=n.toNat) (by simpa using hlt);have hsum:((List.replicate m (P.cellsOf e)).take n.toNat).sum=n.toNat*P.cellsOf e:=by rw [List.take_replicate,Nat.min_eq_left (by omega),List.sum_replicate_nat]
   have hsz:(sizeOf e).run P w=.ok (P.cellsOf e) w:=by
    cases hi:P.info? e with
    | none=>simp [Program.cellsOf,hi] at hpos
    | some i=>simp [sizeOf,typeInfo,hi,Program.cellsOf]
   obtain ⟨pre,xs,post,e1,e2,e3⟩:=ahe (path:=[(u,n.toNat)]) (s:=g) k1 (by simp [subP,hs,hg]) hpath;refine ⟨.pointer (some ⟨blk,off+n.toNat*P.cellsOf e,none⟩),?_,?_,by simp [aaa]⟩
   · simp only [execOp,hop];refine aao ?_;have hlt':n<(m:Int):=by omega
     simp [Instr.indexAt,hidx hρ,asIntOf,run_underlying hu,k4,Instr.sureAddr,h0,hlt',hsz,acg]
   · simp only [AVV,PVV];refine ⟨blk,_,xs,e3,k2,?_,rfl⟩;rw [← hsum,← e2]; exact ach k3 e1
 · exact h.elim
theorem str_get {bs:ByteArray} {s:List Nat} (h:s=bs.data.toList.map (·.toNat)) {i:Nat} (hi:i<s.length):∃ b:UInt8,bs[i]?=some b∧b.toNat=s[i]:=by
 subst h;have hi':i<bs.size:=by simpa using hi
 refine ⟨bs[i],by simp [hi'],?_⟩;simp only [List.getElem_map,Array.getElem_toList];rfl
theorem ano {T : TypeId} {x ix : Operand} {s : List Nat} {kk : IntKind} {n : Int} (hop : o.op = .index T x ix) (hx : ρ x = .p (.str s)) (hi : ρ ix = .p (.int kk n)) (hT : abY P T = true) (h0 : 0 ≤ n) (hlt : n.toNat < s.length) :
    aae P o ρ base { v:=.p (.int .u8 (s[n.toNat]'hlt)) }:=by
 refine aae.same fun H w Imm Prot β ρc hr hρ _=>?_;have h1:=(hρ x (by simp [hop,Op.operands])).1;have h2:=(hρ ix (by simp [hop,Op.operands])).1;rw [hx] at h1; rw [hi] at h2;simp only [AVV,PVV] at h1 h2;obtain ⟨bs,e1,e2⟩:=h1;obtain ⟨b,g1,g2⟩:=str_get e2 hlt;have hu:P.underlying T=some .string:=by
  unfold abY at hT
  split at hT
  · assumption
  · simp at hT
 refine ⟨.int .u8 b.toNat,?_,by simp [AVV,PVV,g2],by simp [aaa]⟩;simp only [execOp,hop,e1,h2];refine aao ?_;simp [Instr.index,asIntOf,run_underlying hu,h0,g1]
theorem aqI {S D : TypeId} {x : Operand} {k k0 : IntKind} {n : Int} (hop : o.op = .convert S D x) (hS : ∃ d, P.underlying S = some d) (hD : P.underlying D = some (.int k)) (hx : ρ x = .p (.int k0 n)) :
    aae P o ρ base { v:=.p (.int k (k.wrap n)) }:=by
 refine aae.same fun H w Imm Prot β ρc hr hρ _=>?_;have h1:=(hρ x (by simp [hop,Op.operands])).1;rw [hx] at h1;simp only [AVV,PVV] at h1;obtain ⟨d,hd⟩:=hS;refine ⟨.int k (k.wrap n),?_,by simp [AVV,PVV],by simp [aaa]⟩;simp only [execOp,hop,h1];refine aao ?_;simp [convert,run_underlying hd,run_underlying hD,Conv.intToInt]
theorem aqH {S D : TypeId} {x : Operand} {s : List Nat} (hop : o.op = .convert S D x) (hS : ∃ d, P.underlying S = some d) (hD : P.underlying D = some .string) (hx : ρ x = .p (.str s)) :
    aae P o ρ base { v:=.p (.str s) }:=by
 refine aae.same fun H w Imm Prot β ρc hr hρ _=>?_;have h1:=(hρ x (by simp [hop,Op.operands])).1;rw [hx] at h1;simp only [AVV,PVV] at h1;obtain ⟨bs,e1,e2⟩:=h1;obtain ⟨d,hd⟩:=hS;refine ⟨.string bs,?_,by simp only [AVV,PVV]; exact ⟨bs,rfl,e2⟩,by simp [aaa]⟩;simp only [execOp,hop,e1];refine aao ?_;simp only [convert,Sem.run_bind,run_underlying hd,run_underlying hD,Result.andThen_ok];cases d <;> simp
theorem arh {b ver esz off len:Nat} {k:AK} {es:List AV} {v:Value} (h:AVV P w Imm β H (.sl b ver esz off len) v) (hob:H[b]?=some (.arr k ver esz es)):∃ a c,v=.slice a len c:=by
 simp only [AVV,RefV,RefC] at h;obtain ⟨h1,h2,h3⟩:=h.2 k es hob
 by_cases hn:aam k es
 · rw [h2 hn];have:len=0:=by rw [hn.2] at h1; simp at h1; omega
   subst this;exact ⟨_,_,rfl⟩
 · exact ⟨_,_,h3 hn⟩
theorem agw:∀ {es:List (PV×PV)} {ents:List MapEntry},PVM P w Imm es ents→ents.length=es.length
 | [],ents,h=>by simp only [PVM] at h; subst h; rfl
 | (k,v)::r,ents,h=>by
  simp only [PVM] at h;obtain ⟨e,rest,rfl,h1,h2,h3⟩:=h;simp [agw h3]
theorem op_len {c : Call} {x : Operand} {n : Nat} {hin : List (Nat × Obj)} {H0 : Heap} (hop : o.op = .call c) (hc : c.callee = .builtin .len) (ha : c.args.toList = [x]) (hl : lenOf H0 (ρ x) = some (n, hin)) (hT : adb P (c.argTypes.getD 0 0) (ρ x) = true) (hts : 0 < c.argTypes.size) :
    aae P o ρ base { v:=.p (.int .i64 n),hin }∧(∀ p∈hin,H0[p.1]?=some p.2):=by
 have hmem:x∈o.op.operands:=by
  rw [hop]; simp only [Op.operands,Call.operands,hc];simp; rw [← Array.mem_toList_iff,ha]; simp
 have hargs:c.args=#[x]:=by apply Array.ext'; simpa using ha
 have hat:c.argTypes[0]?=some (c.argTypes.getD 0 0):=by simp [Array.getD,hts]
 have fin : ∀ {H : Heap} {w : World} {Imm : Nat → Prop} {β : Bd} {ρc : Operand → Value}, ((Builtin.len_ c.argTypes o.type #[ρc x]).run P w = .ok (goInt n) w) →
     ∃ cv,(execOp ρc o).run P w=.ok (.value cv) w∧AVV P w Imm β H (.p (.int .i64 n)) cv∧aaa (InH H) (.p (.int .i64 n)):=by
  intro H w Imm β ρc hrun;refine ⟨goInt n,?_,by simp [AVV,PVV,goInt],by simp [aaa]⟩;simp only [execOp,hop,resolve,hc,hargs];simp [invoke,builtin,hrun]
 have hstr:∀ T:TypeId,abY P T=true→P.underlying T=some .string:=by
  intro T h;unfold abY at h
  split at h
  · assumption
  · simp at h
 generalize hTT:c.argTypes.getD 0 0=T at *;unfold lenOf at hl
 split at hl
 · rename_i s hx;simp at hl; obtain ⟨rfl,rfl⟩:=hl;rw [hx] at hT;simp only [adb] at hT;refine ⟨aae.same fun H w Imm Prot β ρc hr hρ _=>fin ?_,by simp⟩;have h1:=(hρ x hmem).1;rw [hx] at h1;simp only [AVV,PVV] at h1;obtain ⟨bs,e1,e2⟩:=h1;have hs:s.length=bs.size:=by rw [e2]; simp
   simp [Builtin.len_,hat,run_underlying (hstr _ hT),e1,hs]
 · rename_i hx;simp at hl; obtain ⟨rfl,rfl⟩:=hl;rw [hx] at hT;refine ⟨aae.same fun H w Imm Prot β ρc hr hρ _=>fin ?_,by simp⟩;have h1:=(hρ x hmem).1;rw [hx] at h1;simp only [AVV,PVV] at h1;simp only [adb] at hT
   split at hT
   · rename_i e hu;simp [Builtin.len_,hat,run_underlying hu,h1]
   · simp at hT
 · rename_i hx;simp at hl; obtain ⟨rfl,rfl⟩:=hl;rw [hx] at hT;refine ⟨aae.same fun H w Imm Prot β ρc hr hρ _=>fin ?_,by simp⟩;have h1:=(hρ x hmem).1;rw [hx] at h1;simp only [AVV,PVV] at h1;simp only [adb] at hT
   split at hT
   · rename_i k e hu;simp [Builtin.len_,hat,run_underlying hu,h1]
   · simp at hT
 · rename_i f es hx;simp at hl; obtain ⟨rfl,rfl⟩:=hl;rw [hx] at hT;refine ⟨aae.same fun H w Imm Prot β ρc hr hρ _=>fin ?_,by simp⟩;have h1:=(hρ x hmem).1;rw [hx] at h1;simp only [AVV,PVV] at h1;obtain ⟨blk,off,cap,esz,css,k1,k2,k3,k4,k5,sp,hsp,k6⟩:=h1;simp only [adb] at hT
   split at hT
   · rename_i e hu;simp [Builtin.len_,hat,run_underlying hu,k6]
   · simp at hT
 · rename_i es hx;simp at hl; obtain ⟨rfl,rfl⟩:=hl;rw [hx] at hT;refine ⟨aae.same fun H w Imm Prot β ρc hr hρ _=>fin ?_,by simp⟩;have h1:=(hρ x hmem).1;rw [hx] at h1;simp only [AVV,PVV] at h1;simp only [adb] at hT
   split at hT
   · rename_i e hu;rcases h1 with ⟨rfl,k6⟩ | ⟨blk,off,cap,esz,css,k1,k2,k3,k5,sp,hsp,k6⟩
     · simp [Builtin.len_,hat,run_underlying hu,k6]
     · simp [Builtin.len_,hat,run_underlying hu,k6]
   · simp at hT
 · rename_i es hx;simp at hl; obtain ⟨rfl,rfl⟩:=hl;rw [hx] at hT;refine ⟨aae.same fun H w Imm Prot β ρc hr hρ _=>fin ?_,by simp⟩;have h1:=(hρ x hmem).1;rw [hx] at h1;simp only [AVV,PVV] at h1;obtain ⟨r,ents,clock,k1,k2,k3,k4⟩:=h1;simp only [adb] at hT
   split at hT
   · rename_i k e hu;have:=agw k3;have hg:(getObj r).run P w=.ok (.map ents clock) w:=by simp [getObj,Sem.run,k2]
     simp at this;simp [Builtin.len_,hat,run_underlying hu,k4,hg,this]
   · simp at hT
 · rename_i b ver esz off len hx
   split at hl
   case h_2=>simp at hl
   rename_i k ver' esz' es hob
   split at hl
   case isFalse=>simp at hl
   rename_i hc';obtain ⟨rfl,rfl⟩:=hc';simp at hl; obtain ⟨rfl,rfl⟩:=hl;rw [hx] at hT;refine ⟨aae.same fun H w Imm Prot β ρc hr hρ hin=>fin ?_,by simpa using hob⟩;have h1:=(hρ x hmem).1;rw [hx] at h1;obtain ⟨a,cp,e1⟩:=arh h1 (by simpa using hin);simp only [adb] at hT
   split at hT
   · rename_i e hu;simp [Builtin.len_,hat,run_underlying hu,e1]
   · simp at hT
 · rename_i b hx
   split at hl
   case h_2=>simp at hl
   rename_i fz es hob;simp at hl; obtain ⟨rfl,rfl⟩:=hl;rw [hx] at hT;refine ⟨aae.same fun H w Imm Prot β ρc hr hρ hin=>fin ?_,by simpa using hob⟩;have h1:=(hρ x hmem).1;rw [hx] at h1;simp only [AVV,RefV,RefC] at h1;have hob':H[b]?=some (.map fz es):=by simpa using hin
   obtain ⟨ents,clock,k2,k3,_⟩:=hr.objs b _ hob';have e1:=h1.2.1 ⟨fz,es,hob'⟩;simp only [adb] at hT
   split at hT
   · rename_i k e hu;have:=agw k3;have hg:(getObj (β.blk b)).run P w=.ok (.map ents clock) w:=by simp [getObj,Sem.run,k2]
     simp at this;simp [Builtin.len_,hat,run_underlying hu,e1,hg,this]
   · simp at hT
 · simp at hl
end
section
variable {P:Program} {w:World} {Imm Prot:Nat→Prop} {β:Bd} {H:Heap}
variable {o:Oper} {ρ:Operand→AV} {base:Nat}
theorem apF : ∀ (xs : List Value) (off j : Nat) (cells : Array Value), off + j + xs.length ≤ cells.size →
    ((xs.zipIdx j).foldl (fun cs (p:Value×Nat)=>cs.setIfInBounds (off+p.2) p.1) cells).toList=cells.toList.take (off+j) ++ xs ++ cells.toList.drop (off+j+xs.length)
 | [],off,j,cells,_=>by simp
 | x::xs,off,j,cells,h=>by
  simp only [List.zipIdx_cons,List.foldl_cons];rw [apF xs off (j+1) _ (by simp at h ⊢; omega)];simp only [Array.toList_setIfInBounds,List.length_cons];have hlt:off+j<cells.toList.length:=by simp at h ⊢; omega
  rw [show off+(j+1)=off+j+1 by omega];have h1:(cells.toList.set (off+j) x).take (off+j+1)=cells.toList.take (off+j) ++ [x]:=by
   rw [List.take_succ_eq_append_getElem (by simpa using hlt)];rw [List.take_set_of_le (Nat.le_refl _)];simp
  have h2:(cells.toList.set (off+j) x).drop (off+j+1+xs.length)=cells.toList.drop (off+j+(xs.length+1)):=by
   rw [List.drop_set_of_lt (by omega)]; congr 1; omega
  rw [h1,h2]; simp
theorem am6 {pre c post ys:List Value} (h:ys.length=c.length):((pre ++ c ++ post).take pre.length ++ ys ++ (pre ++ c ++ post).drop (pre.length+ys.length))=pre ++ ys ++ post:=by
 rw [h]; simp
theorem agm {l : List Nat} {place : Nat → Option (Nat × Nat)} (hplace : ∀ i n, l[i]? = some n → place i = some ((l.take i).sum, n)) :
    ∀ {parts:List (Nat×AV)} {cparts:List (Nat×Value)} {fs:List AV} {css:List (List Value)} {cells:Array Value},cparts.map Prod.fst=parts.map Prod.fst→(∀ i:Nat,AVV P w Imm β H (((parts[i]?).map Prod.snd).getD (.p .undef)) (((cparts[i]?).map Prod.snd).getD undef)) →
     acM P l parts→AVCl P w Imm β H l fs css→cells.toList=css.flatten →
     ∃ cells' css',Instr.fill place cells cparts=some cells'∧AVCl P w Imm β H l (aaH fs parts) css'∧cells'.toList=css'.flatten
 | [],[],fs,css,cells,_,_,_,h,hc=>⟨cells,css,rfl,h,hc⟩
 | [],_::_,_,_,_,hm,_,_,_,_=>by simp at hm
 | _::_,[],_,_,_,hm,_,_,_,_=>by simp at hm
 | (i,a)::parts,(i',v)::cparts,fs,css,cells,hm,hv,hok,h,hc=>by
  simp only [List.map_cons,List.cons.injEq] at hm;obtain ⟨rfl,hm⟩:=hm;simp only [acM] at hok;obtain ⟨⟨n,hn,hs,hb⟩,hok⟩:=hok;have hv0:AVV P w Imm β H a v:=by simpa using hv 0
  have hvr:=fun k=>hv (k+1);simp only [List.getElem?_cons_succ] at hvr;have hlen:=ad7 h;have hil:i'<l.length:=(List.getElem?_eq_some_iff.1 hn).1;have hif:i'<fs.length:=by omega
  obtain ⟨pre,c,post,e1,e2,e3,e4,e5,e6⟩:=agA h (List.getElem?_eq_getElem hif);have hcn:c.length=n:=by rw [hn] at e4; simpa using e4.symm
  have hvc:=afZ hv0 hb;have hvl:v.cells.toList.length=n:=by rw [(acF hvc).1,hs]
  obtain ⟨css',k1,k2⟩:=e6 a _ hvc (by omega);have hsz:cells.size=pre.length+c.length+post.length:=by
   have:=congrArg List.length (hc.trans e1); simp at this; omega
  have hvs:v.cells.size=n:=by simpa using hvl
  obtain ⟨afK,hcells1⟩:∃ afK,(v.cells.zipIdx.foldl (fun cs (p:Value×Nat)=>cs.setIfInBounds ((l.take i').sum+p.2) p.1) cells)=afK:=⟨_,rfl⟩
  have hlist:afK.toList=css'.flatten:=by
   rw [← hcells1,k1];have:=apF v.cells.toList (l.take i').sum 0 cells (by rw [← e2]; simp at hvl ⊢; omega);rw [← Array.foldl_toList];simp only [Array.toList_zipIdx];rw [this,hc,e1,Nat.add_zero,← e2];exact am6 (by omega)
  obtain ⟨cells',css'',g1,g2,g3⟩:=agm hplace hm hvr hok k2 hlist;refine ⟨cells',css'',?_,by simpa only [aaH] using g2,g3⟩;have hnot:¬ (v.cells.size≠n∨(l.take i').sum+v.cells.size > cells.size):=by
   rw [hvs,hsz,← e2]; omega
  simp only [Instr.fill,hplace i' n hn];simp only [Bool.or_eq_true,decide_eq_true_eq,hnot,if_false];simp only [← hcells1] at g1;exact g1
end
section
variable {P:Program} {w:World} {Imm Prot:Nat→Prop} {β:Bd} {H:Heap}
variable {o:Oper} {ρ:Operand→AV} {base:Nat}
theorem agJ {α γ:Type} (f:α→Sem γ) (g:α→γ) (w:World):∀ l:List α,(∀ a∈l,(f a).run P w=.ok (g a) w)→(l.mapM f).run P w=.ok (l.map g) w
 | [],_=>by simp
 | a::l,h=>by
  simp only [List.mapM_cons,Sem.run_bind,h a (by simp),Result.andThen_ok,agJ f g w l (fun b hb=>h b (by simp [hb])),List.map_cons];rfl
theorem akW {α γ:Type} (f:α→Sem γ) (g:α→γ) (w:World) (a:Array α) (h:∀ x∈a.toList,(f x).run P w=.ok (g x) w):(a.mapM f).run P w=.ok (a.toList.map g).toArray w:=by
 rw [Array.mapM_eq_mapM_toList,Sem.run_map,agJ f g w _ h];rfl
theorem alq {ρc : Operand → Value} {parts : Array (Nat × Operand)} (h : ∀ p ∈ parts.toList, AVV P w Imm β H (ρ p.2) (ρc p.2)) :
    ((parts.map fun (i,x)=>(i,ρc x)).toList).map Prod.fst=(parts.toList.map fun (i,x)=>(i,ρ x)).map Prod.fst ∧
    ∀ i:Nat,AVV P w Imm β H ((((parts.toList.map fun (i,x)=>(i,ρ x))[i]?).map Prod.snd).getD (.p .undef)) ((((parts.map fun (i,x)=>(i,ρc x)).toList[i]?).map Prod.snd).getD undef):=by
 refine ⟨by simp [Function.comp_def],fun i=>?_⟩;simp only [Array.toList_map,List.getElem?_map];cases hp:parts.toList[i]? with
 | none=>simp [AVV,PVV]
 | some p=>simpa using h p (List.mem_of_getElem? hp)
theorem aio {S:Nat×Nat→Prop}:∀ {parts:List (Nat×AV)} {fs:List AV},aac S fs→(∀ p∈parts,aaa S p.2)→aac S (aaH fs parts)
 | [],fs,h,_=>h
 | (i,v)::r,fs,h,hp=>by
  simp only [aaH];refine aio ?_ (fun p hp'=>hp p (by simp [hp']));rw [aag] at h ⊢;intro x hx;rcases List.mem_or_eq_of_mem_set hx with hx | rfl
  · exact h x hx
  · exact hp (i,x) (by simp)
theorem alr {c:Array (Nat×Operand)} {p:Nat×Operand} (hp:p∈c.toList):p.2∈((c.toList.map (·.2)).toArray:Array Operand):=by
 simp; exact ⟨p.1,by simpa using hp⟩
theorem avE {T u : TypeId} {z : PV} {l : List Nat} {parts : Array (Nat × Operand)} (hop : o.op = .build T parts) (hk : kindOf P T = .agg u) (hz : aaT P T = some z) (hl : szs P u = some l) (hs : shp z = .agg u)
    (hok:acM P l (parts.toList.map fun (i,x)=>(i,ρ x))):aae P o ρ base { v:=mkSt u (aaH ((flds z).map .p) (parts.toList.map fun (i,x)=>(i,ρ x))) }:=by
 obtain ⟨i,zv,z1,z2,z3,z4⟩:=abO hz;refine aae.same fun H w Imm Prot β ρc hr hρ _=>?_;have hparts:∀ p∈parts.toList,AVV P w Imm β H (ρ p.2) (ρc p.2)∧aaa (InH H) (ρ p.2):=fun p hp=>hρ p.2 (by rw [hop]; exact alr hp);obtain ⟨p1,p2⟩:=alq (ρ:=ρ) (ρc:=ρc) (parts:=parts) (fun p hp=>(hparts p hp).1);have hzc:=z3 w Imm;obtain ⟨fs,rfl⟩:∃ fs,z=.st u fs:=by cases z <;> simp [shp] at hs; subst hs; exact ⟨_,rfl⟩
 simp only [PVC] at hzc;obtain ⟨l',css,q1,q2,q3⟩:=hzc;rw [hl] at q1; cases q1
 have fin : ∀ place : Nat → Option (Nat × Nat), (∀ i n, l[i]? = some n → place i = some ((l.take i).sum, n)) →
     (∀ cells,Instr.fill place zv.cells (parts.map fun (i,x)=>(i,ρc x)).toList=some cells→(execOp ρc o).run P w=.ok (.value (.agg cells)) w) →
     ∃ cv,(execOp ρc o).run P w=.ok (.value cv) w∧AVV P w Imm β H (mkSt u (aaH ((flds (.st u fs)).map .p) (parts.toList.map fun (i,x)=>(i,ρ x)))) cv ∧
      aaa (InH H) (mkSt u (aaH ((flds (.st u fs)).map .p) (parts.toList.map fun (i,x)=>(i,ρ x)))):=by
  intro place hpl hrun;obtain ⟨cells',css',g1,g2,g3⟩:=agm hpl p1 p2 hok (acE.2 q2) q3;refine ⟨.agg cells',hrun _ g1,?_,ae4 (aio (aaE _ _) ?_)⟩
  · rw [awS];simp only [AVV];exact ⟨l,css',hl,g2,by rw [← g3]⟩
  · intro p hp;simp only [List.mem_map] at hp;obtain ⟨q,hq,rfl⟩:=hp;exact (hparts q hq).2
 have hkk:=hk;unfold kindOf at hkk
 split at hkk
 · rename_i fields hu;have hst:abt P T=some (u,fields.size):=by unfold abt; rw [hk,hu]
   obtain ⟨fs',l',s1,s2,s3,s4,s5,s6⟩:=acn hst;rw [hu] at s1; cases s1;rw [hl] at s4; cases s4;have hplaces:(fields.mapM fun f=>(do pure (f.offset,← sizeOf f.type):Sem (Nat×Nat))).run P w=.ok (fields.toList.map fun f:Field=>(f.offset,P.cellsOf f.type)).toArray w:=by
    refine akW _ _ w _ (fun f hf=>?_);obtain ⟨j,hj,rfl⟩:=List.mem_iff_getElem.1 hf;obtain ⟨f',g1,g2,g3,g4,g5⟩:=s6 j (by simpa using hj);have:fields[j]'(by simpa using hj)=f':=by
     have h0:fields[j]?=some (fields[j]'(by simpa using hj)):=Array.getElem?_eq_getElem (by simpa using hj);rw [g1] at h0; exact (Option.some.inj h0).symm
    simp only [Array.getElem_toList,this];simp [sizeOf_run' g4]
   refine fin (fun i=>(fields.toList.map fun f:Field=>(f.offset,P.cellsOf f.type)).toArray[i]?) ?_ (fun cells hc=>?_)
   · intro i n hn;have hi:i<fields.size:=by rw [← s5]; exact (List.getElem?_eq_some_iff.1 hn).1
     obtain ⟨f',g1,g2,g3,g4,g5⟩:=s6 i hi;rw [hn] at g3;simp only [List.getElem?_toArray,List.getElem?_map,Array.getElem?_toList,g1];simp [g2,Option.some.inj g3]
   · simp only [execOp,hop];refine aao ?_;simp only [Instr.build,Sem.run_bind,aeB z1 z2,Result.andThen_ok,run_underlying hu,hplaces,hc,Sem.run_pure]
 · rename_i n e hu;have hat:arrT P T=some (u,n):=by unfold arrT; rw [hk,hu]
   obtain ⟨e',s1,s2,s3,s4⟩:=aew hat;rw [hu] at s1; cases s1;rw [hl] at s3; cases s3;refine fin (fun i=>some (i*P.cellsOf e,P.cellsOf e)) ?_ (fun cells hc=>?_)
   · intro i n' hn;rw [List.getElem?_replicate] at hn
     split at hn
     · rename_i hlt;simp at hn; subst hn;rw [List.take_replicate,Nat.min_eq_left (by omega),List.sum_replicate_nat]
     · simp at hn
   · simp only [execOp,hop];refine aao ?_;simp only [Instr.build,Sem.run_bind,aeB z1 z2,Result.andThen_ok,run_underlying hu,sizeOf_run' s4,hc,Sem.run_pure]
 · split at hkk <;> simp at hkk
 · simp at hkk
where
 sizeOf_run' {P:Program} {w:World} {T:TypeId} (h:0<P.cellsOf T):(sizeOf T).run P w=.ok (P.cellsOf T) w:=by
  cases hi:P.info? T with
  | none=>simp [Program.cellsOf,hi] at h
  | some i=>simp [sizeOf,typeInfo,hi,Program.cellsOf]
theorem af0 (zc:Array Value) (n:Nat) (_h:0<zc.size):((Array.range (n*zc.size)).map (zc[· % zc.size]!)).toList=(List.replicate n zc.toList).flatten:=by
 simp only [Array.toList_map,Array.toList_range]
 induction n with
 | zero=>simp
 | succ n ih =>
  rw [Nat.succ_mul,List.range_add,List.map_append,ih,List.replicate_succ',List.flatten_append];congr 1;simp only [List.map_map,List.flatten_cons,List.flatten_nil,List.append_nil];refine List.ext_getElem (by simp) (fun i h1 h2=>?_);simp at h1;simp [Nat.mul_add_mod_self_right,Nat.mod_eq_of_lt h1,h1,getElem!_pos]
theorem acw {z:PV} {zc:List Value} (h:PVC P w Imm z zc):∀ n:Nat,Row P w Imm β H zc.length (List.replicate n (.p z)) (List.replicate n zc)
 | 0=>abh.2 rfl
 | n+1=>by
  rw [List.replicate_succ,List.replicate_succ,ad3];exact ⟨zc,_,rfl,by simpa only [AVC] using h,rfl,acw h n⟩
theorem afb (hr : HRel P w Imm β H Prot) {base : Nat} (hb : H[base]? = some .hole) {cells : Array Value} {T : TypeId} {k : AK} {esz cap : Nat} {es : List AV} {css : List (List Value)} {rest : List Value} (hkf : k ≠ .frozen) (hnn : ¬ aam k es)
    (hrow:Row P w Imm β H esz es css) (hre:aac (InH H) es) (hc:cells.toList=css.flatten ++ rest) (hsz:cells.size=cap*esz) (hle:es.length≤cap) (hex:k=.exact→cap=es.length) (hu8:k=.bytes→T=Gl.u8) :
    Post P Prot Imm w β H Imm { w with heap:=w.heap.push (.cells cells T) } (β.at base w.heap.size cap) (H.set base (.arr k 0 esz es)) ∧
    AVV P { w with heap:=w.heap.push (.cells cells T) } Imm (β.at base w.heap.size cap) (H.set base (.arr k 0 esz es)) (.sl base 0 esz 0 es.length) (.slice (some ⟨w.heap.size,0,none⟩) es.length cap):=by
 have hst:=ag5 (β:=β) hb (.arr k 0 esz es) w.heap.size cap;have hin:∀ y,InH H y→InH (H.set base (.arr k 0 esz es)) y:=acU hb (fun _ h=>h.elim);have hbl:=(List.getElem?_eq_some_iff.1 hb).1;refine ⟨aeG (cap:=cap) hr hb (ob:=.cells cells T)
  (.inr ⟨cells,T,css,rest,by simp [Bd.at],AVCl.mono (fun _ x=>x) (fun k hk=>aei _ _ (hr.imm k hk)) hst _ _ _ hre hrow,hc,by simp [Bd.at,hsz],by simpa [Bd.at] using hle,by simpa [Bd.at] using hex,by
   unfold Held;rw [if_neg (by simpa using hkf)];simp only [Bd.at,if_true];exact ⟨fun h=>Nat.lt_irrefl _ (hr.imm _ h),fun h=>Nat.lt_irrefl _ (hr.prot _ h)⟩,(fun h=>(hkf h).elim),hu8⟩) (aac.mono hin _ hre),?_⟩
 simp only [AVV,RefV,RefC];refine ⟨rfl,fun k' es' hl=>?_⟩;unfold aaI at hl;rw [List.getElem?_set_self hbl] at hl;cases hl;exact ⟨by omega,fun h=>(hnn h).elim,fun _=>by simp [Bd.at]⟩
theorem akf {T : TypeId} {n sz : Nat} {z : PV} {parts : Array (Nat × Operand)} (hop : o.op = .buildSlice T n parts) (hE : aax P T = some sz) (hz : aaT P (aay P T) = some z) (hs : aah P (shp z) = sz) (hn : n * sz ≤ 1000000)
    (hok:acM P (List.replicate n sz) (parts.toList.map fun (i,x)=>(i,ρ x))) :
    aae P o ρ base { v:=.sl base 0 sz 0 n,hnew:=[.arr .exact 0 sz (aaH (List.replicate n (.p z)) (parts.toList.map fun (i,x)=>(i,ρ x)))] }:=by
 obtain ⟨e,ti,hE⟩:=aaM hE;obtain ⟨i,zv,z1,z2,z3,z4⟩:=abO hz;rw [hE.typ] at z1;intro H w Imm Prot β ρc hr hρ _ hholes;have hb:H[base]?=some .hole:=by simpa using hholes 0 (by simp)
 have hparts:∀ p∈parts.toList,AVV P w Imm β H (ρ p.2) (ρc p.2)∧aaa (InH H) (ρ p.2):=fun p hp=>hρ p.2 (by rw [hop]; exact alr hp);obtain ⟨p1,p2⟩:=alq (ρ:=ρ) (ρc:=ρc) (parts:=parts) (fun p hp=>(hparts p hp).1);have hzc:=z3 w Imm;have hzl:zv.cells.size=sz:=by have:=(ac5 hzc).1; simp at this; omega
 have hrow:=acw (β:=β) (H:=H) hzc n;have hzll:zv.cells.toList.length=sz:=by simpa using hzl
 rw [hzll] at hrow;obtain ⟨cells0,hc0⟩:∃ c,c=(Array.range (n*sz)).map (zv.cells[· % zv.cells.size]!):=⟨_,rfl⟩
 have hl0:cells0.toList=(List.replicate n zv.cells.toList).flatten:=by
  rw [hc0,← hzl]; exact af0 _ _ (by rw [hzl]; exact hE.pos)
 have hrow':AVCl P w Imm β H (List.replicate n sz) (List.replicate n (.p z)) (List.replicate n zv.cells.toList):=by
  unfold Row at hrow; simpa using hrow
 obtain ⟨cells',css',g1,g2,g3⟩:=agm (place:=fun i=>some (i*sz,sz)) (by
  intro i n' hn';rw [List.getElem?_replicate] at hn'
  split at hn'
  · rename_i hlt;simp at hn'; subst hn';rw [List.take_replicate,Nat.min_eq_left (by omega),List.sum_replicate_nat]
  · simp at hn') p1 p2 hok hrow' hl0
 have hfl:(aaH (List.replicate n (.p z)) (parts.toList.map fun (i,x)=>(i,ρ x))).length=n:=by
  have:=(ad7 g2).2.1; simpa using this
 have hrow2:Row P w Imm β H sz (aaH (List.replicate n (.p z)) (parts.toList.map fun (i,x)=>(i,ρ x))) css':=by unfold Row; rw [hfl]; exact g2
 have hre:aac (InH H) (aaH (List.replicate n (.p z)) (parts.toList.map fun (i,x)=>(i,ρ x))):=by
  refine aio ?_ ?_
  · rw [aag]; intro v hv; rw [List.eq_of_mem_replicate hv]; simp [aaa]
  · intro p hp;simp only [List.mem_map] at hp;obtain ⟨q,hq,rfl⟩:=hp;exact (hparts q hq).2
 have hcs:cells'.size=n*sz:=by
  have h1:=(aar hrow2).2;rw [hfl,← g3] at h1; simpa using h1
 have hrun:(execOp ρc o).run P w=.ok (.value (.slice (some ⟨w.heap.size,0,none⟩) n n)) { w with heap:=w.heap.push (.cells cells' e) }:=by
  simp only [execOp,hop];have h24:¬ (n*sz > 2 ^ 24):=by omega
  have hcc0:n*sz=0→(Array.range (n*sz)).map ((#[]:Array Value)[· % (#[]:Array Value).size]!)=cells0:=by
   intro h0; rw [hc0,h0]; simp
  refine acP ?_;simp only [Instr.buildSlice,Sem.run_bind,run_underlying hE.und,Result.andThen_ok,hE.run,if_neg h24]
  by_cases h0:n*sz=0
  · rw [if_pos h0];simp only [Sem.run_bind,Sem.run_pure,Result.andThen_ok,hcc0 h0,g1,newRow,run_newObj]
  · rw [if_neg h0];simp only [Sem.run_bind,Sem.run_pure,Result.andThen_ok,aeB z1 z2,← hc0,g1,newRow,run_newObj]
 obtain ⟨q1,q2⟩:=afb (T:=e) (k:=.exact) hr hb (by simp) (by simp [aam,AK.gr]) hrow2 hre (rest:=[]) (by simpa using g3) (by rw [hcs]) (by omega:_≤n) (fun _=>hfl.symm) (fun h=>by cases h);rw [hfl] at q2;exact ⟨_,_,_,_,Imm,hrun,.inl rfl,q1,q2,by
  simp only [aaa,aa8];exact ⟨_,List.getElem?_set_self (List.getElem?_eq_some_iff.1 hb).1,Nat.le_refl _⟩⟩
theorem alG {T : TypeId} {lo co : Operand} {sz : Nat} {z : PV} {l : Int} (hop : o.op = .makeSlice T lo co) (hE : aax P T = some sz) (hz : aaT P (aay P T) = some z) (hl : ρ lo = .p (.int .i64 l)) (hc : ρ co = .p (.int .i64 l))
    (hs:aah P (shp z)=sz) (h0:0≤l) (hm:l≤maxL):aae P o ρ base { v:=.sl base 0 sz 0 l.toNat,hnew:=[.arr .exact 0 sz (List.replicate l.toNat (.p z))] }:=by
 obtain ⟨e,ti,hE⟩:=aaM hE;obtain ⟨i,zv,z1,z2,z3,z4⟩:=abO hz;rw [hE.typ] at z1;intro H w Imm Prot β ρc hr hρ _ hholes;have hb:H[base]?=some .hole:=by simpa using hholes 0 (by simp)
 have h1:=(hρ lo (by simp [hop,Op.operands])).1;have h2:=(hρ co (by simp [hop,Op.operands])).1;rw [hl] at h1; rw [hc] at h2;simp only [AVV,PVV] at h1 h2;have hzc:=z3 w Imm;have hzl:zv.cells.size=sz:=by have:=(ac5 hzc).1; simp at this; omega
 obtain ⟨n,rfl⟩:=Int.eq_ofNat_of_zero_le h0;have hrow:=acw (β:=β) (H:=H) hzc n;have hzll:zv.cells.toList.length=sz:=by simpa using hzl
 rw [hzll] at hrow;obtain ⟨cells0,hc0⟩:∃ c,c=(Array.range (n*sz)).map (zv.cells[· % zv.cells.size]!):=⟨_,rfl⟩
 have hl0:cells0.toList=(List.replicate n zv.cells.toList).flatten:=by
  rw [hc0,← hzl]; exact af0 _ _ (by rw [hzl]; exact hE.pos)
 have hn:n≤1073741824:=by unfold maxL at hm; omega
 have hbytes:ti.bytes*n≤32768*1073741824:=Nat.mul_le_mul (by have:=hE.bytes; omega) hn;have hrun:(execOp ρc o).run P w=.ok (.value (.slice (some ⟨w.heap.size,0,none⟩) n n)) { w with heap:=w.heap.push (.cells cells0 e) }:=by
  simp only [execOp,hop,h1,h2];have hwrap:IntKind.i64.wrap (n:Int)=n:=IntWalk.i64_in _ (by omega);have ht1:¬ ((n:Int)<0):=by omega
  have ht2:¬ ((ti.bytes:Int)*n > 2 ^ 48):=by
   intro hgt;have h2:ti.bytes*n≤35184372088832:=hbytes;have h3:((ti.bytes*n:Nat):Int) > 281474976710656:=by rw [Int.natCast_mul]; exact hgt
   omega
  have hcc0:n*sz=0→(Array.range (n*sz)).map ((#[]:Array Value)[· % (#[]:Array Value).size]!)=cells0:=by
   intro h0; rw [hc0,h0]; simp
  have hti:(typeInfo e).run P w=.ok ti w:=by simp [typeInfo,hE.info]
  have hcond:((decide ((n:Int)<0) || decide ((ti.bytes:Int)*n > 2 ^ 48)) || decide ((n:Int)<0) || decide ((n:Int) > n))=false:=by
   simp only [ht1,ht2,decide_false,Bool.or_false,Bool.false_or]; simp
  refine acP ?_;simp only [Instr.makeSlice,Sem.run_bind,run_underlying hE.und,Result.andThen_ok,asInt,asIntOf,Sem.run_pure,hti,hwrap];rw [if_neg (by simpa using hcond)];simp only [Sem.run_bind,run_askRoom,Result.andThen_ok,hE.run,Int.toNat_natCast]
  by_cases h0:n*sz=0
  · rw [if_pos h0];simp only [Sem.run_bind,Sem.run_pure,Result.andThen_ok,hcc0 h0,newRow,run_newObj]
  · rw [if_neg h0];simp only [Sem.run_bind,Sem.run_pure,Result.andThen_ok,aeB z1 z2,← hc0,newRow,run_newObj]
 have hcs:cells0.size=n*sz:=by
  have:=congrArg List.length hl0;simp at this; rw [this]; simp [hzl]
 obtain ⟨q1,q2⟩:=afb (T:=e) (k:=.exact) hr hb (cells:=cells0) (cap:=n) (by simp) (by simp [aam,AK.gr]) hrow (by
  rw [aag]; intro v hv; rw [List.eq_of_mem_replicate hv]; simp [aaa]) (rest:=[]) (by simpa using hl0) hcs (by simp) (fun _=>by simp) (fun h=>by cases h)
 simp only [List.length_replicate] at q2;exact ⟨_,_,_,_,Imm,hrun,.inl rfl,q1,q2,by
  simp only [aaa,aa8];exact ⟨_,List.getElem?_set_self (List.getElem?_eq_some_iff.1 hb).1,Nat.le_refl _⟩⟩
end
section
variable {P:Program} {w:World} {Imm Prot:Nat→Prop} {β:Bd} {H:Heap}
variable {o:Oper} {ρ:Operand→AV} {base:Nat}
theorem abI {x : Option Operand} {d : Nat} {R : Nat → Prop} (h : aaK (x.map ρ) d R) :
    ∃ n,R n∧((x=none∧n=d)∨∃ y k,x=some y∧ρ y=.p (.int k n)):=by
 cases x with
 | none=>exact ⟨d,h,.inl ⟨rfl,rfl⟩⟩
 | some y =>
  simp only [Option.map_some,aaK] at h
  split at h
  · rename_i hx; cases hx
  · rename_i k i hx;simp at hx;obtain ⟨h0,h⟩:=h;refine ⟨i.toNat,h,.inr ⟨y,k,rfl,?_⟩⟩;rw [hx,Int.toNat_of_nonneg h0]
  · exact h.elim
theorem acI {lo hi : Option Operand} {ρc : Operand → Value} {b : Bool} {len cap d h l : Nat} (hd : d = len) (hh : (hi = none ∧ h = d) ∨ ∃ y k, hi = some y ∧ ρ y = .p (.int k h)) (hl : (lo = none ∧ l = 0) ∨ ∃ y k, lo = some y ∧ ρ y = .p (.int k l))
    (hhc:h≤cap) (hlh:l≤h) (hρ:∀ y,(hi=some y∨lo=some y)→AVV P w Imm β H (ρ y) (ρc y)):(Instr.sliceBounds b len cap (lo.map ρc) (hi.map ρc) none).run P w=.ok (l,h,cap) w:=by
 subst hd;rcases hh with ⟨rfl,rfl⟩ | ⟨y,k,rfl,hy⟩ <;> rcases hl with ⟨rfl,rfl⟩ | ⟨z,k',rfl,hz⟩
 · simp [Instr.sliceBounds]
 · have h2:=hρ z (.inr rfl);rw [hz] at h2;simp only [AVV,PVV] at h2;simp [Instr.sliceBounds,h2,Instr.sliceBound,asIntOf,hlh]
 · have h1:=hρ y (.inl rfl);rw [hy] at h1;simp only [AVV,PVV] at h1;simp [Instr.sliceBounds,h1,Instr.sliceBound,asIntOf,hhc]
 · have h1:=hρ y (.inl rfl);rw [hy] at h1;simp only [AVV,PVV] at h1;have h2:=hρ z (.inr rfl);rw [hz] at h2;simp only [AVV,PVV] at h2;simp [Instr.sliceBounds,h1,h2,Instr.sliceBound,asIntOf,hhc,hlh]
theorem abA {T e:TypeId} (hu:P.underlying T=some (.slice e)) (x:Value) (lo hi mx:Option Value) (w:World):(Instr.sliceAt T x lo hi mx).run P w=(Instr.slice T x lo hi mx).run P w:=by
 simp only [Instr.sliceAt,Sem.run_bind,run_underlying hu,Result.andThen_ok]
theorem am1 {T:TypeId} (hu:P.underlying T=some .string) (x:Value) (lo hi mx:Option Value) (w:World):(Instr.sliceAt T x lo hi mx).run P w=(Instr.slice T x lo hi mx).run P w:=by
 simp only [Instr.sliceAt,Sem.run_bind,run_underlying hu,Result.andThen_ok]
theorem aco {T:TypeId} {x y:Operand} {lo hi mx:Option Operand} (hop:o.op=.slice T x lo hi mx) (h:hi=some y∨lo=some y):y∈o.op.operands:=by
 rw [hop]; simp only [Op.operands];rcases h with rfl | rfl <;> simp
theorem adQ {T:TypeId} (h:abY P T=true):P.underlying T=some .string:=by
 unfold abY at h
 split at h
 · assumption
 · simp at h
theorem aeL {esz:Nat}:∀ {l:List AV},abj P esz l↔∀ v∈l,shpA v≠.bad∧aah P (shpA v)=esz
 | []=>by simp [abj]
 | v::l=>by simp [abj,aeL (l:=l)]
theorem aeM {sz esz:Nat} {es:List AV} {css:List (List Value)} (hrow:Row P w Imm β H esz es css) (hs:abj P sz es) (hne:es≠[]):esz=sz:=by
 cases es with
 | nil=>exact (hne rfl).elim
 | cons v es =>
  rw [ad3] at hrow;obtain ⟨c,cs,rfl,h1,h2,_⟩:=hrow;have:=(aeL.1 hs v (by simp)).2;rw [← h2,(acF h1).1,this]
theorem aqf {esz : Nat} {es : List PV} {css : List (List Value)} (h : PVCl P w Imm (List.replicate es.length esz) es css) (off len : Nat) (hl : off + len ≤ es.length) :
    ∃ a b c,css=a ++ b ++ c∧PVCl P w Imm (List.replicate ((es.drop off).take len).length esz) ((es.drop off).take len) b∧a.flatten.length=off*esz:=by
 have hrow:Row P w Imm ⟨id,id⟩ [] esz (es.map .p) css:=acS.2 h;obtain ⟨a,b,c,e1,e2,e3,_⟩:=ab1 hrow off len (by simpa using hl);rw [adX,acS] at e2;exact ⟨a,b,c,e1,e2,e3⟩
theorem avA {T : TypeId} {x : Operand} {lo hi mx : Option Operand} (hop : o.op = .slice T x lo hi mx) {H0 : Heap} {K : Eff → Prop} (h : adD P T H0 (ρ x) (lo.map ρ) (hi.map ρ) (mx.map ρ) K) :
    ∃ e,K e∧aae P o ρ base e∧(∀ p∈e.hin,H0[p.1]?=some p.2)∧e.hset=[]:=by
 unfold adD at h;obtain ⟨hmx,h⟩:=h;obtain rfl:mx=none:=by cases mx <;> simp_all
 have hmem:x∈o.op.operands:=by rw [hop]; simp [Op.operands]
 split at h
 ·
  rename_i s hx;obtain ⟨hT,h⟩:=h;have hu:=adQ hT;obtain ⟨hh,h,hhi⟩:=abI h;obtain ⟨ll,h,hlo⟩:=abI h;obtain ⟨h1,h2,h⟩:=h;refine ⟨_,h,aae.same fun H w Imm Prot β ρc hr hρ _=>?_,by simp,rfl⟩;have hv:=(hρ x hmem).1;rw [hx] at hv;simp only [AVV,PVV] at hv;obtain ⟨bs,e1,e2⟩:=hv;have hsz:s.length=bs.size:=by rw [e2]; simp
  have hb:=acI (P:=P) (w:=w) (Imm:=Imm) (β:=β) (H:=H) (b:=false) (cap:=bs.size) (ρ:=ρ) (ρc:=ρc) hsz hhi hlo (by omega) h2 (fun y hy=>(hρ y (aco hop hy)).1);refine ⟨.string (bs.extract ll hh),?_,?_,by simp [aaa]⟩
  · simp only [execOp,hop,e1];refine aao ?_;rw [am1 hu];simp only [Instr.slice,Sem.run_bind,run_underlying hu,Result.andThen_ok,Option.map_none,Option.isSome_none];simp [hb]
  · simp only [AVV,PVV];refine ⟨_,rfl,?_⟩;rw [e2,← List.map_take,← List.map_drop,Go.Lib.extract_data,List.drop_take]
 ·
  rename_i hx;obtain ⟨hE,h⟩:=h;obtain ⟨sz,hE⟩:=Option.isSome_iff_exists.1 hE;obtain ⟨e,ti,hE⟩:=aaM hE;obtain ⟨hh,h,hhi⟩:=abI h;obtain ⟨ll,h,hlo⟩:=abI h;obtain ⟨h1,h2,hK⟩:=h;obtain rfl:hh=0:=by omega
  obtain rfl:ll=0:=by omega
  refine ⟨_,hK,aae.same fun H w Imm Prot β ρc hr hρ _=>?_,by simp,rfl⟩;have hv:=(hρ x hmem).1;rw [hx] at hv;simp only [AVV,PVV] at hv;have hb:=acI (P:=P) (w:=w) (Imm:=Imm) (β:=β) (H:=H) (b:=true) (cap:=0) (ρ:=ρ) (ρc:=ρc) (len:=0) (d:=0) rfl hhi hlo (by omega) h2 (fun y hy=>(hρ y (aco hop hy)).1);refine ⟨.slice none 0 0,?_,by rw [hx]; simp [AVV,PVV],by rw [hx]; simp [aaa]⟩;simp only [execOp,hop,hv];refine aao ?_;rw [abA hE.und];simp only [Instr.slice,Sem.run_bind,run_underlying hE.und,Result.andThen_ok,Option.map_none,hb,hE.run];simp
 ·
  rename_i full es hx;obtain ⟨hh,h,hhi⟩:=abI h;obtain ⟨ll,h,hlo⟩:=abI h;obtain ⟨h1,h2,h⟩:=h
  split at h
  case h_2=>exact h.elim
  rename_i sz hE;obtain ⟨hsh,h⟩:=h;obtain ⟨e,ti,hE⟩:=aaM hE;refine ⟨_,h,aae.same fun H w Imm Prot β ρc hr hρ _=>?_,by simp,rfl⟩;have hv:=(hρ x hmem).1;rw [hx] at hv;simp only [AVV,PVV] at hv;obtain ⟨blk,off,cap,esz,css,v1,v2,v3,v4,v5,sp,hsp,v6⟩:=hv;have hsp':cap≠ll→sp=none:=fun h=>hsp.resolve_right (by omega);have hb:=acI (P:=P) (w:=w) (Imm:=Imm) (β:=β) (H:=H) (b:=true) (cap:=cap) (ρ:=ρ) (ρc:=ρc) rfl hhi hlo (by omega) h2 (fun y hy=>(hρ y (aco hop hy)).1);refine ⟨.slice (some (if cap=ll then ⟨blk,off,sp⟩ else ⟨blk,off+ll*sz,none⟩)) (hh - ll) (cap - ll),?_,?_,by simp [aaa]⟩
  · simp only [execOp,hop,v6];refine aao ?_;rw [abA hE.und];simp only [Instr.slice,Sem.run_bind,run_underlying hE.und,Result.andThen_ok,Option.map_none,hb,hE.run]
    by_cases hc:cap=ll
    · simp [hc]
    · obtain rfl:=hsp' hc;simp [hc,acg]
  · have hln:((es.take hh).drop ll).length=hh - ll:=by simp; omega
    simp only [AVV,PVV,hln]
    by_cases hne:es=[]
    · subst hne;simp at h1;subst h1;obtain rfl:ll=0:=by omega
      by_cases hc:cap=0
      · exact ⟨blk,off,cap,sz,[],by simp [PVCl],by simp,by intro i hi; simp at hi,fun _=>by simpa using hc,by simp,sp,.inr hc,by simp [hc]⟩
      · exact ⟨blk,off,cap,sz,[],by simp [PVCl],by simp,by intro i hi; simp at hi,fun hf=>by simp at hf; simpa using v4 hf,by simp,none,.inl rfl,by simp [hc]⟩
    · have hez:esz=sz:=aeM (w:=w) (Imm:=Imm) (β:=β) (H:=H) (acS.2 v1) hsh (by simpa using hne);subst hez;obtain ⟨a,b,c,e1,e2,e3⟩:=aqf v1 ll (hh - ll) (by omega);rw [← List.drop_take] at e2;have hln':(es.drop ll).take (hh - ll)=(es.take hh).drop ll:=by rw [List.drop_take]
      rw [hln] at e2
      by_cases hc:cap=ll
      · obtain rfl:hh=ll:=by omega
        have hb0:b=[]:=by
         have:=(acT e2).2.2; simpa using this
        subst hb0;refine ⟨blk,off,cap - hh,esz,[],by simpa using e2,fun _=>v2 hne,by intro i hi; simp at hi,?_,by omega,sp,.inr (by omega),by simp [hc]⟩;intro _; omega
      · refine ⟨blk,off+ll*esz,cap - ll,esz,b,e2,fun _=>v2 hne,?_,?_,by omega,none,.inl rfl,by simp [hc]⟩
        · have:=ach v3 (pre:=a.flatten) (xs:=b.flatten) (post:=c.flatten) (by rw [e1]; simp);rw [e3] at this; exact this
        · intro hf;simp at hf;have:=v4 hf.1; omega
 ·
  rename_i es hx;obtain ⟨hh,h,hhi⟩:=abI h;obtain ⟨ll,h,hlo⟩:=abI h;obtain ⟨h1,h2,h⟩:=h
  split at h
  case h_2=>exact h.elim
  rename_i sz hE;obtain ⟨hsh,h⟩:=h;obtain ⟨e,ti,hE⟩:=aaM hE;refine ⟨_,h,aae.same fun H w Imm Prot β ρc hr hρ _=>?_,by simp,rfl⟩;have hv:=(hρ x hmem).1;rw [hx] at hv;simp only [AVV,PVV] at hv;rcases hv with ⟨rfl,hv⟩ | ⟨blk,off,cap,esz,css,v1,v2,v3,v5,sp,hsp,v6⟩
  · simp at h1;subst h1;obtain rfl:ll=0:=by omega
    have hb:=acI (P:=P) (w:=w) (Imm:=Imm) (β:=β) (H:=H) (b:=true) (cap:=0) (ρ:=ρ) (ρc:=ρc) (len:=0) (d:=0) rfl hhi hlo (by omega) h2 (fun y hy=>(hρ y (aco hop hy)).1);refine ⟨.slice none 0 0,?_,by simp [AVV,PVV],by simp [aaa]⟩;simp only [execOp,hop,hv];refine aao ?_;rw [abA hE.und];simp only [Instr.slice,Sem.run_bind,run_underlying hE.und,Result.andThen_ok,Option.map_none,hb,hE.run];simp
  have hsp':cap≠ll→sp=none:=fun h=>hsp.resolve_right (by omega);have hb:=acI (P:=P) (w:=w) (Imm:=Imm) (β:=β) (H:=H) (b:=true) (cap:=cap) (ρ:=ρ) (ρc:=ρc) rfl hhi hlo (by omega) h2 (fun y hy=>(hρ y (aco hop hy)).1);refine ⟨.slice (some (if cap=ll then ⟨blk,off,sp⟩ else ⟨blk,off+ll*sz,none⟩)) (hh - ll) (cap - ll),?_,?_,by simp [aaa]⟩
  · simp only [execOp,hop,v6];refine aao ?_;rw [abA hE.und];simp only [Instr.slice,Sem.run_bind,run_underlying hE.und,Result.andThen_ok,Option.map_none,hb,hE.run]
    by_cases hc:cap=ll
    · simp [hc]
    · obtain rfl:=hsp' hc;simp [hc,acg]
  · have hln:((es.take hh).drop ll).length=hh - ll:=by simp; omega
    simp only [AVV,PVV,hln];right
    by_cases hne:es=[]
    · subst hne;simp at h1;subst h1;obtain rfl:ll=0:=by omega
      by_cases hc:cap=0
      · exact ⟨blk,off,cap,sz,[],by simp [PVCl],by simp,by intro i hi; simp at hi,by simp,sp,.inr hc,by simp [hc]⟩
      · exact ⟨blk,off,cap,sz,[],by simp [PVCl],by simp,by intro i hi; simp at hi,by simp,none,.inl rfl,by simp [hc]⟩
    · have hez:esz=sz:=aeM (w:=w) (Imm:=Imm) (β:=β) (H:=H) (acS.2 v1) hsh (by simpa using hne);subst hez;obtain ⟨a,b,c,e1,e2,e3⟩:=aqf v1 ll (hh - ll) (by omega);rw [← List.drop_take] at e2;rw [hln] at e2
      by_cases hc:cap=ll
      · obtain rfl:hh=ll:=by omega
        have hb0:b=[]:=by
         have:=(acT e2).2.2; simpa using this
        subst hb0;exact ⟨blk,off,cap - hh,esz,[],by simpa using e2,fun _=>v2 hne,by intro i hi; simp at hi,by omega,sp,.inr (by omega),by simp [hc]⟩
      · refine ⟨blk,off+ll*esz,cap - ll,esz,b,e2,fun _=>v2 hne,?_,by omega,none,.inl rfl,by simp [hc]⟩;have:=ach v3 (pre:=a.flatten) (xs:=b.flatten) (post:=c.flatten) (by rw [e1]; simp);rw [e3] at this; exact this
 ·
  rename_i b ver esz off len hx
  split at h
  case h_2=>exact h.elim
  rename_i k ver' esz' es hob;obtain ⟨rfl,rfl,hE,hnn,hlen,h⟩:=h;obtain ⟨hh,h,hhi⟩:=abI h;obtain ⟨ll,h,hlo⟩:=abI h;obtain ⟨h1,h2,hK⟩:=h;obtain ⟨e,ti,hE⟩:=aaM hE
  have key : ∀ (H : Heap) (w : World) (Imm Prot : Nat → Prop) (β : Bd) (ρc : Operand → Value), HRel P w Imm β H Prot → (∀ x ∈ o.op.operands, AVV P w Imm β H (ρ x) (ρc x) ∧ aaa (InH H) (ρ x)) →
      H[b]?=some (.arr k ver esz es)→es.length≤β.cap b∧(execOp ρc o).run P w=.ok (.value (.slice (some (if β.cap b - off=ll then ⟨β.blk b,off*esz,none⟩ else ⟨β.blk b,off*esz+ll*esz,none⟩)) (hh - ll) (β.cap b - off - ll))) w:=by
   intro H w Imm Prot β ρc hr hρ hob';have hv:=(hρ x hmem).1;rw [hx] at hv;simp only [AVV,RefV,RefC] at hv;obtain ⟨_,_,hv⟩:=hv.2 k es hob';have hv:=hv hnn;rcases hr.objs b _ hob' with hold | ⟨cs,T',css,rest,k1,k2,k3,k4,k5,k6⟩
   · exact (hnn hold).elim
   have hb:=acI (P:=P) (w:=w) (Imm:=Imm) (β:=β) (H:=H) (b:=true) (cap:=β.cap b - off) (ρ:=ρ) (ρc:=ρc) rfl hhi hlo (by omega) h2 (fun y hy=>(hρ y (aco hop hy)).1);refine ⟨k5,?_⟩;simp only [execOp,hop,hv];refine aao ?_;rw [abA hE.und];simp only [Instr.slice,Sem.run_bind,run_underlying hE.und,Result.andThen_ok,Option.map_none,hb,hE.run]
   by_cases hc:β.cap b - off=ll
   · simp [hc]
   · simp [hc,acg]
  split at hK
  · rename_i hl0;subst hl0;refine ⟨_,hK,aae.same fun H w Imm Prot β ρc hr hρ hin=>?_,by simpa using hob,rfl⟩;have hob':H[b]?=some (.arr k ver esz es):=by simpa using hin
    obtain ⟨kc,krun⟩:=key H w Imm Prot β ρc hr hρ hob';refine ⟨_,krun,?_,?_⟩
    · simp only [AVV,RefV,RefC];refine ⟨by simp [Value.oneCell'],fun k' es' hl=>?_⟩;unfold aaI at hl;rw [hob'] at hl; cases hl;exact ⟨by omega,fun hn=>(hnn hn).elim,fun _=>by simp⟩
    · simp only [aaa]; exact ⟨_,hob',Nat.le_refl _⟩
  · rename_i hl0
    split at hK
    · rename_i hlh;subst hlh;refine ⟨_,hK,aae.same fun H w Imm Prot β ρc hr hρ hin=>?_,by simpa using hob,rfl⟩;have hob':H[b]?=some (.arr k ver esz es):=by simpa using hin
      obtain ⟨kc,krun⟩:=key H w Imm Prot β ρc hr hρ hob';refine ⟨_,krun,?_,by simp [aaa]⟩;simp only [AVV,PVV]
      by_cases hc:β.cap b - off=ll
      · exact ⟨β.blk b,off*esz,β.cap b - off - ll,esz,[],by simp [PVCl],by simp,by intro i hi; simp at hi,by simp,by simp,by simp [hc]⟩
      · exact ⟨β.blk b,off*esz+ll*esz,β.cap b - off - ll,esz,[],by simp [PVCl],by simp,by intro i hi; simp at hi,by simp,by simp,by simp [hc]⟩
    · rename_i hlh;refine ⟨_,hK,aae.same fun H w Imm Prot β ρc hr hρ hin=>?_,by simpa using hob,rfl⟩;have hob':H[b]?=some (.arr k ver esz es):=by simpa using hin
      obtain ⟨kc,krun⟩:=key H w Imm Prot β ρc hr hρ hob';refine ⟨_,krun,?_,?_⟩
      · simp only [AVV,RefV,RefC];refine ⟨by simp [Value.oneCell'],fun k' es' hl=>?_⟩;unfold aaI at hl;rw [hob'] at hl; cases hl;refine ⟨by omega,fun hn=>(hnn hn).elim,fun _=>?_⟩;have hc:¬ (β.cap b - off=ll):=by omega
        rw [if_neg hc,Nat.add_mul,Nat.sub_sub]
      · simp only [aaa]; exact ⟨_,hob',Nat.le_refl _⟩
 · exact h.elim
theorem asM {T : TypeId} {x : Operand} {lo hi : Option Operand} {mo : Operand} (hop : o.op = .slice T x lo hi (some mo)) {H0 : Heap} {K : Eff → Prop} (h : adE P T H0 (ρ x) (lo.map ρ) (hi.map ρ) (ρ mo) K) :
    ∃ e,K e∧aae P o ρ base e∧(∀ p∈e.hin,H0[p.1]?=some p.2)∧e.hset=[]:=by
 unfold adE at h;have hmem:x∈o.op.operands:=by rw [hop]; simp [Op.operands]
 split at h
 case h_2=>exact h.elim
 rename_i b ver esz off len hx
 split at h
 case h_2=>exact h.elim
 rename_i k ver' esz' es hob;obtain ⟨rfl,rfl,hE,hnn,hlen,hsome,h⟩:=h;obtain ⟨hh,h,hhi⟩:=abI h;obtain ⟨ll,h,hlo⟩:=abI h;have h':aaK ((some mo).map ρ) 0 (fun m=>off+m≤es.length∧hh≤m∧ll≤hh∧K { v:=.p .undef,hin:=[(b,.arr k ver esz es)] }):=h;obtain ⟨mm,h,hmo⟩:=abI h';obtain ⟨h1,h2,h3,hK⟩:=h;obtain ⟨sz,hE⟩:=Option.isSome_iff_exists.1 hE;obtain ⟨e,ti,hE⟩:=aaM hE;refine ⟨_,hK,aae.same fun H w Imm Prot β ρc hr hρ hin=>?_,by simpa using hob,rfl⟩;have hob':H[b]?=some (.arr k ver esz es):=by simpa using hin
 have hv:=(hρ x hmem).1;rw [hx] at hv;simp only [AVV,RefV,RefC] at hv;obtain ⟨_,_,hv⟩:=hv.2 k es hob';have hv:=hv hnn;rcases hr.objs b _ hob' with hold | ⟨cs,T',css,rest,k1,k2,k3,k4,k5,k6⟩
 · exact (hnn hold).elim
 have hmm:∃ km,ρ mo=.p (.int km mm):=by
  rcases hmo with ⟨h,_⟩ | ⟨y,km,hy,hv⟩
  · cases h
  · cases hy; exact ⟨km,hv⟩
 obtain ⟨km,hmm⟩:=hmm;have hvm:=(hρ mo (by rw [hop]; simp [Op.operands])).1;rw [hmm] at hvm;simp only [AVV,PVV] at hvm;have hhh:∃ y kh,hi=some y∧ρ y=.p (.int kh hh):=by
  rcases hhi with ⟨rfl,_⟩ | h
  · simp at hsome
  · exact h
 obtain ⟨y,kh,rfl,hy⟩:=hhh;have hvy:=(hρ y (aco hop (.inl rfl))).1;rw [hy] at hvy;simp only [AVV,PVV] at hvy;have hb:(Instr.sliceBounds true len (β.cap b - off) (lo.map ρc) (some (ρc y)) (some (ρc mo))).run P w=.ok (ll,hh,mm) w:=by
  have hm0:(mm:Int)≤((β.cap b - off:Nat):Int):=by omega
  rcases hlo with ⟨rfl,rfl⟩ | ⟨z,k',rfl,hz⟩
  · simp [Instr.sliceBounds,hvm,hvy,Instr.sliceBound,asIntOf,hm0,h2]
  · have hvz:=(hρ z (aco hop (.inr rfl))).1;rw [hz] at hvz;simp only [AVV,PVV] at hvz;simp [Instr.sliceBounds,hvm,hvy,hvz,Instr.sliceBound,asIntOf,hm0,h2,h3]
 have hrun:∃ cv,(Instr.sliceAt T (ρc x) (lo.map ρc) (some (ρc y)) (some (ρc mo))).run P w=.ok cv w:=by
  rw [abA hE.und,hv];simp only [Instr.slice,Sem.run_bind,run_underlying hE.und,Result.andThen_ok,hb,hE.run];exact ⟨_,rfl⟩
 obtain ⟨cv,hrun⟩:=hrun;refine ⟨cv,?_,by simp only [AVV,PVV],by simp [aaa]⟩;simp only [execOp,hop,Option.map_some];exact aao hrun
end
section
variable {P:Program} {w:World} {Imm Prot:Nat→Prop} {β:Bd} {H:Heap}
variable {o:Oper} {ρ:Operand→AV} {base:Nat}
theorem abi {H0 H:Heap} {a:AV} {xs:List AV} (h:aa4 H0 a=some xs) (hin:∀ p∈aas H0 a,H[p.1]?=some p.2):aa4 H a=some xs:=by
 cases a with
 | sl b ver esz off len =>
  simp only [aa4] at h ⊢;simp only [aas] at hin
  split at h
  case h_2=>simp at h
  rename_i k ver' esz' es hob;rw [hob] at hin;have:=hin _ (List.mem_singleton.2 rfl);simp only at this;rw [this]; exact h
 | p v=>cases v <;> exact h
 | _=>simp [aa4] at h
theorem abB {H0:Heap} {a:AV}:∀ p∈aas H0 a,H0[p.1]?=some p.2:=by
 intro p hp;unfold aas at hp
 split at hp
 all_goals first
  | (split at hp
     · rename_i o ho;simp at hp; subst hp; exact ho
     · simp at hp)
  | simp at hp
theorem aa9 {sz m:Nat} {blk off n c:Nat} {w:World} {xs:List Value} (hl:xs.length=m*sz) (hc:aa5 w blk off xs):(Builtin.firstCells sz m (.slice (some ⟨blk,off,none⟩) n c)).run P w=.ok xs.toArray w:=by
 refine run_firstCells_some w sz m _ n c xs hl ?_;intro j v hj;rw [acg];obtain ⟨hj1,hj2⟩:=List.getElem?_eq_some_iff.1 hj;rw [hc j hj1,hj2]
theorem abX {sz n c:Nat} {a:Addr} {w:World}:(Builtin.firstCells sz 0 (.slice (some a) n c)).run P w=.ok #[] w :=
 run_firstCells_some w sz 0 a n c [] (by simp) (fun j v hj=>by simp at hj)
theorem ahs {sz : Nat} {a : AV} {xs : List AV} {v : Value} (he : aa4 H a = some xs) (hr : HRel P w Imm β H Prot) (hv : AVV P w Imm β H a v) (hre : aaa (InH H) a) (hs : abj P sz xs) :
    ∃ css,Row P w Imm β H sz xs css∧aac (InH H) xs∧Builtin.lenOf v=pure xs.length ∧
     ∀ w':World,w'.heap=w.heap→∀ m,m≤xs.length→(Builtin.firstCells sz m v).run P w'=.ok (css.take m).flatten.toArray w':=by
 have rowtake:∀ {es:List AV} {css:List (List Value)} (m:Nat),Row P w Imm β H sz es css→m≤es.length→(css.take m).flatten.length=m*sz:=by
  intro es css m hrow hm;obtain ⟨x,y,z,e1,e2,e3,e4,e5⟩:=ab1 hrow 0 m (by omega);have hx:x=[]:=by have:=(aar e4).1; simpa using this
  have hy:y.length=m:=by have:=(aar e2).1; simp at this; omega
  subst hx;have hcss:css.take m=y:=by rw [e1]; simp [hy]
  rw [hcss];have:=(aar e2).2;rw [this]; simp [hm]
 have cells:∀ {blk off:Nat} {css:List (List Value)} (w':World),w'.heap=w.heap→aa5 w blk off css.flatten→∀ m,aa5 w' blk off (css.take m).flatten:=by
  intro blk off css w' hw hc m;have hc':aa5 w' blk off css.flatten:=hc.same (by rw [hw]);have:=ach hc' (pre:=[]) (xs:=(css.take m).flatten) (post:=(css.drop m).flatten) (by
   rw [List.nil_append,← List.flatten_append,List.take_append_drop])
  simpa using this
 cases a with
 | p t =>
  cases t with
  | nsl =>
   simp [aa4] at he; subst he;simp only [AVV,PVV] at hv;subst hv;exact ⟨[],abh.2 rfl,by simp [aac],rfl,fun w' _ m hm=>by simp [Builtin.firstCells]⟩
  | lst full es =>
   simp [aa4] at he; subst he;simp only [AVV,PVV] at hv;obtain ⟨blk,off,cap,esz,css,v1,v2,v3,v4,v5,sp,hsp,rfl⟩:=hv;rcases hsp with rfl | rfl
   case inr =>
    obtain rfl:es=[]:=List.length_eq_zero_iff.1 (by omega);exact ⟨[],abh.2 rfl,by simp [aac],rfl,fun w' _ m hm=>by
     obtain rfl:m=0:=by simpa using hm
     exact abX⟩
   have hrow:Row P w Imm β H esz (es.map .p) css:=acS.2 v1;have hrow':Row P w Imm β H sz (es.map .p) css:=by
    by_cases hne:es.map AV.p=[]
    · rw [hne] at hrow ⊢;rw [abh] at hrow ⊢; exact hrow
    · rw [← aeM hrow hs hne]; exact hrow
   refine ⟨css,hrow',aaE _ _,by simp [Builtin.lenOf],fun w' hw m hm=>?_⟩;exact aa9 (rowtake m hrow' hm) (cells w' hw v3 m)
  | seq es =>
   simp [aa4] at he; subst he;simp only [AVV,PVV] at hv;rcases hv with ⟨rfl,rfl⟩ | ⟨blk,off,cap,esz,css,v1,v2,v3,v5,sp,hsp,rfl⟩
   · exact ⟨[],abh.2 rfl,by simp [aac],rfl,fun w' _ m hm=>by simp [Builtin.firstCells]⟩
   rcases hsp with rfl | rfl
   case inr =>
    obtain rfl:es=[]:=List.length_eq_zero_iff.1 (by omega);exact ⟨[],abh.2 rfl,by simp [aac],rfl,fun w' _ m hm=>by
     obtain rfl:m=0:=by simpa using hm
     exact abX⟩
   have hrow:Row P w Imm β H esz (es.map .p) css:=acS.2 v1;have hrow':Row P w Imm β H sz (es.map .p) css:=by
    by_cases hne:es.map AV.p=[]
    · rw [hne] at hrow ⊢;rw [abh] at hrow ⊢; exact hrow
    · rw [← aeM hrow hs hne]; exact hrow
   refine ⟨css,hrow',aaE _ _,by simp [Builtin.lenOf],fun w' hw m hm=>?_⟩;exact aa9 (rowtake m hrow' hm) (cells w' hw v3 m)
  | str s =>
   simp [aa4] at he; subst he;simp only [AVV,PVV] at hv;obtain ⟨bs,rfl,rfl⟩:=hv;have hsz:sz=1∨bs.data.toList=[]:=by
    cases hbs:bs.data.toList with
    | nil=>exact .inr rfl
    | cons a r =>
     rw [hbs] at hs;simp [abj,shpA,shp,aah] at hs;exact .inl hs.1.symm
   have hrow:Row P w Imm β H sz ((bs.data.toList.map (·.toNat)).map fun c=>.p (.int .u8 (c:Nat))) (bs.data.toList.map fun c=>[Value.int .u8 c.toNat]):=by
    rcases hsz with rfl | hbs
    · generalize bs.data.toList=l
      induction l with
      | nil=>exact abh.2 rfl
      | cons a r ih=>exact ad3.2 ⟨_,_,rfl,by simp [AVC,PVC],rfl,ih⟩
    · rw [hbs]; exact abh.2 rfl
   refine ⟨_,hrow,by rw [aag]; intro v hv; simp at hv; obtain ⟨a,_,rfl⟩:=hv; simp [aaa],by simp [Builtin.lenOf],fun w' _ m _=>?_⟩;have e:((bs.data.toList.map fun c=>[Value.int .u8 c.toNat]).take m).flatten=(bs.data.toList.take m).map fun c=>Value.int .u8 c.toNat:=by
    rw [← List.map_take];generalize bs.data.toList.take m=l
    induction l with
    | nil=>rfl
    | cons a r ih=>simp [ih]
   rw [e];simp only [Builtin.firstCells,Sem.run_pure];congr 1;apply Array.ext';simp [ByteArray.data_extract]
  | _=>simp [aa4] at he
 | sl b ver esz off len =>
  simp only [aa4] at he
  split at he
  case h_2=>simp at he
  rename_i k ver' esz' es hob
  split at he
  case isFalse=>simp at he
  rename_i hc;obtain ⟨rfl,rfl,hl⟩:=hc;simp at he; subst he;simp only [AVV,RefV,RefC] at hv;obtain ⟨_,v2,v3⟩:=hv.2 k es hob;have hlen:((es.drop off).take len).length=len:=by simp; omega
  by_cases hn:aam k es
  · rw [v2 hn];have hes:=hn.2;subst hes;simp at hl;obtain ⟨rfl,rfl⟩:=hl;exact ⟨[],abh.2 (by simp),by simp [aac],rfl,fun w' _ m hm=>by simp [Builtin.firstCells]⟩
  · rw [v3 hn];rcases hr.objs b _ hob with hold | ⟨cs,T',css,rest,k1,k2,k3,k4,k5,k6⟩
    · exact (hn hold).elim
    obtain ⟨x,y,z,e1,e2,e3,e4,e5⟩:=ab1 k2 off len hl;have hrow':Row P w Imm β H sz ((es.drop off).take len) y:=by
     by_cases hne:(es.drop off).take len=[]
     · rw [hne] at e2 ⊢;rw [abh] at e2 ⊢; exact e2
     · rw [← aeM e2 hs hne]; exact e2
    refine ⟨y,hrow',?_,by rw [hlen]; rfl,fun w' hw m hm=>?_⟩
    · rw [aag];intro v hv;exact aag.1 (hr.refs b _ hob) v (List.mem_of_mem_drop (List.mem_of_mem_take hv))
    · refine aa9 (rowtake m hrow' hm) (cells w' hw ?_ m);rw [← e3];exact abg k1 (post:=z.flatten ++ rest) (by rw [k3,e1]; simp)
 | _=>simp [aa4] at he
theorem ard {T X e : TypeId} {i : TypeInfo} {zv : Value} {sz : Nat} (hE : acV P T sz e i) (hX : afU P X = true) (hz : i.zero = some zv) (ty : TypeId) {p : Option Addr} {sLen sCap n : Nat} {olds news : Array Value} (x : Value)
    (hx:Builtin.lenOf x=pure n) (hold:(Builtin.firstCells sz sLen (.slice p sLen sCap)).run P w.drew=.ok olds w.drew) (hnew:(Builtin.firstCells sz n x).run P w.drew=.ok news w.drew) (hg:sCap<sLen+n) (hm:sLen+n≤maxL) :
    ∃ cap,sLen+n≤cap∧(Builtin.append_ #[T,X] ty #[.slice p sLen sCap,x]).run P w =
     .ok (.slice (some ⟨w.heap.size,0,none⟩) (sLen+n) cap) { w.drew with heap:=w.heap.push (.cells (olds ++ news ++ Builtin.zeroCells zv.cells (cap - (sLen+n))) e) }:=by
 refine ⟨grownCap w (sLen+n) sCap e,by simp [grownCap,Question.cut],?_⟩;have hX':∃ d,P.underlying X=some d∧∀ k,d≠.int k:=by
  unfold afU at hX
  split at hX
  · simp at hX
  · rename_i d hd hu;exact ⟨_,hu,hd⟩
  · simp at hX
 obtain ⟨d,hd,hdk⟩:=hX';have hn:¬ (sLen+n≤sCap):=by omega
 have h63':¬ (9223372036854775807<((sLen:Int)+(n:Int))):=by unfold maxL at hm; omega
 have hfit:Builtin.nextslicecap (sLen+n) sCap*i.bytes≤281474976710656:=by
  refine growslice_fits hg ?_;have:=Nat.mul_le_mul hm (Nat.le_of_lt hE.bytes);unfold maxL at this; omega
 have h48':¬ (281474976710656<Builtin.nextslicecap (sLen+n) sCap*i.bytes):=by omega
 have hsz:(sizeOf e).run P w=.ok sz w:=hE.run w;have hti:∀ w:World,(typeInfo e).run P w=.ok i w:=fun w=>by simp [typeInfo,hE.info]
 have hzv:∀ w:World,(zeroValue e).run P w=.ok zv w:=fun w=>by simp [zeroValue,typeInfo,hE.info,hz]
 simp [Builtin.append_,run_underlying hE.und,run_underlying hd,hsz,hti,hzv,hx,hn,h63',h48',Question.forced,hold,hnew,newRow,grownCap,Array.append_assoc];rfl
theorem aiS {T X e : TypeId} {i : TypeInfo} {sz : Nat} (hE : acV P T sz e i) (hX : afU P X = true) (ty : TypeId) {g off : Nat} {sLen sCap n : Nat} {cur : Array Value} {T' : TypeId} {news : List Value} (x : Value)
    (hx:Builtin.lenOf x=pure n) (hb:w.heap[g]?=some (.cells cur T' (0,0))) (hnew:(Builtin.firstCells sz n x).run P w=.ok news.toArray w) (h1:∀ u∈news,u.oneCell'=true) (hroom:sLen+n≤sCap) (hfit:off+sLen*sz+news.length≤cur.size) :
    (Builtin.append_ #[T,X] ty #[.slice (some ⟨g,off,none⟩) sLen sCap,x]).run P w =
     .ok (.slice (some ⟨g,off,none⟩) (sLen+n) sCap) (w.setRow g (cur.toList.take (off+sLen*sz) ++ news ++ cur.toList.drop (off+sLen*sz+news.length)).toArray):=by
 have hX':∃ d,P.underlying X=some d∧∀ k,d≠.int k:=by
  unfold afU at hX
  split at hX
  · simp at hX
  · rename_i d hd hu;exact ⟨_,hu,hd⟩
  · simp at hX
 obtain ⟨d,hd,hdk⟩:=hX';have hst:=run_storeCells_at P g (off+sLen*sz) T' news 0 cur w hb (by simpa using hfit) h1;simp only [Nat.add_zero] at hst;have hsz:(sizeOf e).run P w=.ok sz w:=hE.run w;simp [Builtin.append_,run_underlying hE.und,run_underlying hd,hsz,hx,hroom,hnew,acg,hst]
theorem aom {T X e : TypeId} {i : TypeInfo} {sz : Nat} (hE : acV P T sz e i) (hX : afU P X = true) (ty : TypeId) {p : Option Addr} {sLen sCap : Nat} (x : Value)
    (hx:Builtin.lenOf x=pure 0) (hnew:(Builtin.firstCells sz 0 x).run P w=.ok #[] w) (hroom:sLen≤sCap) :
    (Builtin.append_ #[T,X] ty #[.slice p sLen sCap,x]).run P w=.ok (.slice p sLen sCap) w:=by
 have hX':∃ d,P.underlying X=some d∧∀ k,d≠.int k:=by
  unfold afU at hX
  split at hX
  · simp at hX
  · rename_i d hd hu;exact ⟨_,hu,hd⟩
  · simp at hX
 obtain ⟨d,hd,hdk⟩:=hX';have hsz:(sizeOf e).run P w=.ok sz w:=hE.run w;cases p with
 | none=>simp [Builtin.append_,run_underlying hE.und,run_underlying hd,hsz,hx,hroom,hnew]
 | some a=>simp [Builtin.append_,run_underlying hE.und,run_underlying hd,hsz,hx,hroom,hnew,storeCells]
theorem Post.drew {Imm':Nat→Prop} {w1 w':World} {β':Bd} {H':Heap} (hh:w1.heap=w.heap) (hio:w1.os=w.os∧w1.output=w.output) (h:Post P Prot Imm w1 β H Imm' w' β' H'):Post P Prot Imm w β H Imm' w' β' H' :=
 ⟨h.imm,h.fresh,⟨by rw [← hh]; exact h.ext.size,fun k hk=>by rw [← hh]; exact h.ext.same k hk,h.ext.io.1.trans hio.1,h.ext.io.2.trans hio.2⟩,h.step,h.rel,h.inn,h.loop⟩
theorem aiZ (z:Array Value) (n:Nat):(Builtin.zeroCells z n).size=n*z.size:=by simp [Builtin.zeroCells]
theorem aiV {esz:Nat}:∀ {es:List AV} {css:List (List Value)},Row P w Imm β H esz es css→∀ c∈css.flatten,c.oneCell'=true
 | [],css,h=>by rw [abh] at h; subst h; simp
 | v::es,css,h=>by
  rw [ad3] at h;obtain ⟨c,cs,rfl,h1,_,h2⟩:=h;intro x hx;simp only [List.flatten_cons,List.mem_append] at hx;exact hx.elim (akY h1 x) (aiV h2 x)
theorem Row.mono {w' : World} {Imm' : Nat → Prop} {β' : Bd} {H' : Heap} (hI : ∀ k, Imm k → Imm' k) (hs : ∀ k, Imm k → w'.heap[k]? = w.heap[k]?) (hst : aaG β H β' H') {esz : Nat} {es : List AV} {css : List (List Value)} (hre : aac (InH H) es)
    (h:Row P w Imm β H esz es css):Row P w' Imm' β' H' esz es css:=AVCl.mono hI hs hst _ _ _ hre h
theorem adW {c : Call} {s x : Operand} (hop : o.op = .call c) (hc : c.callee = .builtin .append) (ha : c.args.toList = [s, x]) {ρc : Operand → Value} {w w' : World} {v : Value}
    (h:(Builtin.append_ c.argTypes o.type #[ρc s,ρc x]).run P w=.ok v w'):(execOp ρc o).run P w=.ok (.value v) w':=by
 have hargs:c.args=#[s,x]:=by apply Array.ext'; simpa using ha
 simp only [execOp,hop,resolve,hc,hargs];simp [invoke,builtin,h]
theorem atB {c : Call} {s x : Operand} (hop : o.op = .call c) (hc : c.callee = .builtin .copy) (ha : c.args.toList = [s, x]) {ρc : Operand → Value} {w w' : World} {v : Value}
    (h:(Builtin.copy_ c.argTypes o.type #[ρc s,ρc x]).run P w=.ok v w'):(execOp ρc o).run P w=.ok (.value v) w':=by
 have hargs:c.args=#[s,x]:=by apply Array.ext'; simpa using ha
 simp only [execOp,hop,resolve,hc,hargs];simp [invoke,builtin,h]
end
section
variable {P:Program} {w:World} {Imm Prot:Nat→Prop} {β:Bd} {H:Heap}
variable {o:Oper} {ρ:Operand→AV} {base:Nat}
theorem ac3 {c : Call} {s x : Operand} (hop : o.op = .call c) (hc : c.callee = .builtin .append) (ha : c.args.toList = [s, x]) {T X e : TypeId} (hts : c.argTypes = #[T, X]) {i : TypeInfo} {zv : Value} {sz : Nat} (hE : acV P T sz e i) (hX : afU P X = true)
    (hz:i.zero=some zv) (hzs:zv.cells.size=sz) (hr:HRel P w Imm β H Prot) {ρc:Operand→Value} {p:Option Addr} {sLen sCap:Nat} {olds xs:List AV} {ocss:List (List Value)} (hs:ρc s=.slice p sLen sCap) (hol:olds.length=sLen) (hog:Row P w Imm β H sz olds ocss) (hor:aac (InH H) olds)
    (hold:(Builtin.firstCells sz sLen (.slice p sLen sCap)).run P w.drew=.ok ocss.flatten.toArray w.drew)
    (hx:aa4 H (ρ x)=some xs) (hxv:AVV P w Imm β H (ρ x) (ρc x)) (hxr:aaa (InH H) (ρ x)) (hsh:abj P sz xs) (hg:sCap<sLen+xs.length) (hm:sLen+xs.length≤maxL) :
    ∃ cap cells css rest,(execOp ρc o).run P w=.ok (.value (.slice (some ⟨w.heap.size,0,none⟩) (sLen+xs.length) cap)) { w.drew with heap:=w.heap.push (.cells cells e) } ∧
     Row P w Imm β H sz (olds ++ xs) css∧aac (InH H) (olds ++ xs)∧cells.toList=css.flatten ++ rest∧cells.size=cap*sz∧(olds ++ xs).length≤cap:=by
 obtain ⟨css,h1,h2,h3,h4⟩:=ahs hx hr hxv hxr hsh;have h5:=h4 w.drew rfl xs.length (Nat.le_refl _);have hcl:css.length=xs.length:=(aar h1).1;rw [List.take_of_length_le (by omega)] at h5;obtain ⟨cap,hcap,hrun⟩:=ard hE hX hz o.type (sLen:=sLen) (sCap:=sCap) (p:=p) (ρc x) h3 hold h5 hg hm;rw [← hts,← hs] at hrun;refine ⟨cap,_,ocss ++ css,(Builtin.zeroCells zv.cells (cap - (sLen+xs.length))).toList,adW hop hc ha hrun,aa0.2 ⟨_,_,rfl,hog,h1⟩,aav hor h2,by simp,?_,by simpa [hol] using hcap⟩;have e1:=(aar hog).2;have e2:=(aar h1).2;simp only [Array.size_append,List.size_toArray,aiZ,hzs,e1,e2,hol,← Nat.add_mul];congr 1; omega
theorem aqT {T:TypeId}:gk P T≠.frozen∧gk P T≠.exact:=by
 unfold gk; split <;> simp
theorem gk_u8 {T e:TypeId} (h:aay P T=e) (hk:gk P T=.bytes):e=Gl.u8:=by
 unfold gk at hk
 split at hk
 · rename_i h'; rw [← h]; exact h'
 · cases hk
theorem aij {_o' : Obj} {k : AK} {es : List AV} {css : List (List Value)} {rest : List Value} {cells : Array Value} {e : TypeId} {cap sz : Nat} (hr : HRel P w Imm β H Prot) (hb : H[base]? = some .hole)
    (hkf:k≠.frozen) (hnn:¬ aam k es) (hrow:Row P w Imm β H sz es css) (hre:aac (InH H) es) (hc:cells.toList=css.flatten ++ rest) (hsz:cells.size=cap*sz) (hle:es.length≤cap) (hex:k=.exact→cap=es.length) (hu8:k=.bytes→e=Gl.u8) :
    Post P Prot Imm w β H Imm { w.drew with heap:=w.heap.push (.cells cells e) } (β.at base w.heap.size cap) (aaj H ([] ++ newAt base [.arr k 0 sz es])) ∧
    AVV P { w.drew with heap:=w.heap.push (.cells cells e) } Imm (β.at base w.heap.size cap) (aaj H ([] ++ newAt base [.arr k 0 sz es])) (.sl base 0 sz 0 es.length) (.slice (some ⟨w.heap.size,0,none⟩) es.length cap) ∧
    aaa (InH (aaj H ([] ++ newAt base [.arr k 0 sz es]))) (.sl base 0 sz 0 es.length):=by
 have hr':HRel P w.drew Imm β H Prot:=HRel.afr (w:=w) (w':=w.drew) rfl hr;have hrow':Row P w.drew Imm β H sz es css:=Row.mono (w:=w) (w':=w.drew) (fun _ x=>x) (fun _ _=>rfl) (aaG.refl _ _) hre hrow;obtain ⟨q1,q2⟩:=afb (T:=e) (k:=k) hr' hb hkf hnn hrow' hre hc hsz hle hex hu8;rw [aa8];exact ⟨Post.drew (w1:=w.drew) rfl ⟨rfl,rfl⟩ q1,q2,⟨_,List.getElem?_set_self (List.getElem?_eq_some_iff.1 hb).1,Nat.le_refl _⟩⟩
theorem aoz {b:Nat} {k k':AK} {ver esz:Nat} {es es':List AV} {blk cap:Nat} (ho:H[b]?=some (.arr k ver esz es)):aaG β H (β.at b blk cap) (H.set b (.arr k' (ver+1) esz es')):=by
 have hb:b<H.length:=(List.getElem?_eq_some_iff.1 ho).1;have ge:∀ x,x≠b→(H.set b (.arr k' (ver+1) esz es'))[x]?=H[x]?:=fun x hx=>List.getElem?_set_ne (Ne.symm hx);have gb:(H.set b (.arr k' (ver+1) esz es'))[b]?=some (.arr k' (ver+1) esz es'):=List.getElem?_set_self hb;refine ⟨?_,?_,?_,?_,?_⟩
 · rintro x _ ⟨fz,t,h⟩
   by_cases hx:x=b
   · subst hx; rw [gb] at h; cases h
   · rw [ge x hx] at h; exact ⟨⟨fz,t,h⟩,by simp [Bd.at,hx]⟩
 · rintro x _ ⟨fz,t,h⟩
   by_cases hx:x=b
   · subst hx; rw [gb] at h; cases h
   · rw [ge x hx] at h; exact ⟨⟨fz,t,h⟩,by simp [Bd.at,hx]⟩
 · rintro x _ ⟨fz,t,h⟩
   by_cases hx:x=b
   · subst hx; rw [gb] at h; cases h
   · rw [ge x hx] at h; exact ⟨⟨fz,t,h⟩,by simp [Bd.at,hx]⟩
 · intro x v z kk ee hi h;unfold aaI at h
   by_cases hx:x=b
   · subst hx; rw [gb] at h; cases h;obtain ⟨ox,hox,hh⟩:=hi;simp only at hox;rw [ho] at hox; cases hox;simp only [Obj.has] at hh;omega
   · rw [ge x hx] at h;exact ⟨kk,ee,h,Nat.le_refl _,Iff.rfl,fun _=>by simp [Bd.at,hx]⟩
 · rintro x _ ⟨L,h⟩
   by_cases hx:x=b
   · subst hx; rw [gb] at h; cases h
   · rw [ge x hx] at h; exact ⟨⟨L,h⟩,by simp [Bd.at,hx]⟩
theorem Bd.at_self (β:Bd) (b:Nat):β.at b (β.blk b) (β.cap b) = β:=by
 cases β with
 | mk blk cap =>
  simp only [Bd.at,Bd.mk.injEq];constructor
  · funext x; split
    · rename_i h; rw [h]
    · rfl
  · funext x; split
    · rename_i h; rw [h]
    · rfl
theorem ae1 {α:Type} (A M Z X:List α):(A ++ M ++ Z).take A.length ++ X ++ (A ++ M ++ Z).drop (A.length+M.length)=A ++ X ++ Z:=by
 rw [List.append_assoc A M Z,List.take_left,← List.append_assoc,← List.length_append,List.drop_left]
theorem asP {c : Call} {s x : Operand} (hop : o.op = .call c) (hc : c.callee = .builtin .append) (ha : c.args.toList = [s, x]) (hts : c.argTypes.size = 2) {H0 : Heap} {K : Eff → Prop}
    (h:acC P (c.argTypes.getD 0 0) (c.argTypes.getD 1 0) H0 (ρ s) (ρ x) K) :
    ∃ e,K e∧aae P o ρ H0.length e∧(∀ p∈e.hin,H0[p.1]?=some p.2)∧(∀ p∈e.hset,p.1<H0.length∧p.2≠.hole):=by
 obtain ⟨T,X,hTX⟩:∃ T X,c.argTypes=#[T,X]:=by
  obtain ⟨l,hl⟩:∃ l,l=c.argTypes.toList:=⟨_,rfl⟩
  have h2:l.length=2:=by rw [hl]; simpa using hts
  match l,h2 with
  | [a,b],_=>exact ⟨a,b,by apply Array.ext'; simp [← hl]⟩
 have hmem:s∈o.op.operands∧x∈o.op.operands:=by
  have hargs:c.args=#[s,x]:=by apply Array.ext'; simpa using ha
  rw [hop]; simp [Op.operands,Call.operands,hc,hargs]
 have e1:c.argTypes.getD 0 0=T:=by rw [hTX]; rfl
 have e2:c.argTypes.getD 1 0=X:=by rw [hTX]; rfl
 rw [e1,e2] at h;unfold acC at h
 split at h
 case h_2=>exact h.elim
 rename_i sz xs hE hx;obtain ⟨hX,hz,hsh,h⟩:=h;obtain ⟨e,i,hE⟩:=aaM hE;obtain ⟨z,hz⟩:=Option.isSome_iff_exists.1 hz;obtain ⟨i',zv,z1,z2,z3,z4⟩:=abO hz;rw [hE.typ] at z1 z4;rw [hE.info] at z1; cases z1;have hzs:zv.cells.size=sz:=by
  obtain ⟨_,i2,k1,k2⟩:=acY (v:=.p z) (w:=default) (Imm:=fun _=>False) (β:=⟨id,id⟩) (H:=[]) z4 (by simp only [AVC]; exact z3 _ _);rw [hE.info] at k1; cases k1;have:=hE.size; simp at k2; omega
 have none' : ∀ {hin : List (Nat × Obj)}, (∀ p ∈ aas H0 (ρ x), p ∈ hin) → (∀ p ∈ hin, H0[p.1]? = some p.2) → xs = [] → (∀ (H : Heap) (w : World) (Imm Prot : Nat → Prop) (β : Bd) (v : Value), HRel P w Imm β H Prot → (∀ p ∈ hin, H[p.1]? = some p.2) → AVV P w Imm β H (ρ s) v → ∃ p a b, v = .slice p a b ∧ a ≤ b) →
     aae P o ρ H0.length { v:=ρ s,hin }:=by
  intro hin hsub hin0 hxs hsl;subst hxs;refine aae.same fun H w Imm Prot β ρc hr hρ hin=>?_;obtain ⟨p,a,b,hp,hab⟩:=hsl H w Imm Prot β _ hr hin (hρ s hmem.1).1;obtain ⟨css,h1,h2,h3,h4⟩:=ahs (abi hx (fun p hp=>hin p (hsub p hp))) hr (hρ x hmem.2).1 (hρ x hmem.2).2 hsh;have h5:=h4 w rfl 0 (Nat.le_refl _);simp only [List.take_zero,List.flatten_nil] at h5;have hrun:=aom hE hX o.type (p:=p) (sLen:=a) (sCap:=b) _ h3 h5 hab;rw [← hTX,← hp] at hrun;exact ⟨_,adW hop hc ha hrun,by rw [hp]; exact hp▸(hρ s hmem.1).1,(hρ s hmem.1).2⟩
 have nilcons:∀ l:List AV,l.isEmpty=true→l=[]:=fun l h=>by simpa using h
 split at h
 ·
  rename_i hs
  split at h
  · rename_i hem;refine ⟨_,h,?_,abB,by simp⟩;exact none' (fun p hp=>hp) abB (nilcons _ hem) (fun H w Imm Prot β v _ _ hv=>by rw [hs] at hv; simp only [AVV,PVV] at hv; exact ⟨_,_,_,hv,Nat.le_refl _⟩)
  · rename_i hem;obtain ⟨hm,h⟩:=h;refine ⟨_,h,?_,abB,by simp⟩;intro H w Imm Prot β ρc hr hρ hin hholes;have hb:H[H0.length]?=some .hole:=by simpa using hholes 0 (by simp)
    have hsv:=(hρ s hmem.1).1;rw [hs] at hsv;simp only [AVV,PVV] at hsv;have hpos:0<xs.length:=List.length_pos_iff.2 (by simpa using hem);obtain ⟨cap,cells,css,rest,r1,r2,r3,r4,r5,r6⟩:=ac3 hop hc ha hTX hE hX z2 hzs hr hsv (olds:=[]) (ocss:=[]) rfl (abh.2 rfl) (by simp [aac]) (by simp [Builtin.firstCells])
     (abi hx hin) (hρ x hmem.2).1 (hρ x hmem.2).2 hsh (by omega) (by omega)
    obtain ⟨q1,q2,q3⟩:=aij (base:=H0.length) (k:=gk P T) (e:=e) (_o':=.hole) hr hb aqT.1 (fun hn=>hem (by simpa using hn.2)) r2 r3 r4 r5 r6 (fun h=>(aqT.2 h).elim) (gk_u8 hE.typ);simp only [List.nil_append,Nat.zero_add] at r1 q1 q2 q3;exact ⟨_,_,_,_,Imm,r1,.inl rfl,q1,q2,q3⟩
 ·
  rename_i full es hs;obtain ⟨hes,h⟩:=h
  have hsv : ∀ {H : Heap} {w : World} {Imm : Nat → Prop} {β : Bd} {v : Value}, AVV P w Imm β H (ρ s) v → ∃ p c ocss, v = .slice p es.length c ∧ es.length ≤ c ∧ (full = true → c = es.length) ∧ Row P w Imm β H sz (es.map .p) ocss ∧
      (∀ w':World,w'.heap=w.heap→(Builtin.firstCells sz es.length v).run P w'=.ok ocss.flatten.toArray w'):=by
   intro H w Imm β v hv;rw [hs] at hv;simp only [AVV,PVV] at hv;obtain ⟨blk,off,cap,esz,css,v1,v2,v3,v4,v5,sp,hsp,rfl⟩:=hv;rcases hsp with rfl | rfl
   case inr =>
    obtain rfl:es=[]:=List.length_eq_zero_iff.1 (by omega);exact ⟨_,_,[],rfl,by simp,by simp,abh.2 rfl,fun w' _=>abX⟩
   have hrow:Row P w Imm β H esz (es.map .p) css:=acS.2 v1;have hrow':Row P w Imm β H sz (es.map .p) css:=by
    by_cases hne:es.map AV.p=[]
    · rw [hne] at hrow ⊢;rw [abh] at hrow ⊢; exact hrow
    · rw [← aeM hrow hes hne]; exact hrow
   refine ⟨_,_,css,rfl,v5,v4,hrow',fun w' hw=>aa9 (by have:=(aar hrow').2; simpa using this) (v3.same (by rw [hw]))⟩
  split at h
  · rename_i hem;refine ⟨_,h,?_,abB,by simp⟩;exact none' (fun p hp=>hp) abB (nilcons _ hem) (fun H w Imm Prot β v _ _ hv=>by obtain ⟨p,c,_,h1,h2,_⟩:=hsv hv; exact ⟨p,_,c,h1,h2⟩)
  · rename_i hem;obtain ⟨hf,hm,h⟩:=h;refine ⟨_,h,?_,abB,by simp⟩;intro H w Imm Prot β ρc hr hρ hin hholes;have hb:H[H0.length]?=some .hole:=by simpa using hholes 0 (by simp)
    have hpos:0<xs.length:=List.length_pos_iff.2 (by simpa using hem);obtain ⟨p,cp,ocss,s1,s2,s3,s4,s5⟩:=hsv (hρ s hmem.1).1;rw [s1] at s5;obtain ⟨cap,cells,css,rest,r1,r2,r3,r4,r5,r6⟩:=ac3 hop hc ha hTX hE hX z2 hzs hr s1 (olds:=es.map .p) (by simp) s4 (aaE _ _) (s5 w.drew rfl)
     (abi hx hin) (hρ x hmem.2).1 (hρ x hmem.2).2 hsh (by have:=s3 hf; omega) (by omega)
    obtain ⟨q1,q2,q3⟩:=aij (base:=H0.length) (k:=gk P T) (e:=e) (_o':=.hole) hr hb aqT.1 (fun hn=>hem (by have:=hn.2; simp at this; simp [this.2])) r2 r3 r4 r5 r6 (fun h=>(aqT.2 h).elim) (gk_u8 hE.typ);simp only [List.length_append,List.length_map] at q2 q3;exact ⟨_,_,_,_,Imm,r1,.inl rfl,q1,q2,q3⟩
 ·
  rename_i b ver esz off len hs
  split at h
  case h_2=>exact h.elim
  rename_i k ver' esz' es hob;obtain ⟨rfl,rfl,rfl,hlen,h⟩:=h;have hin0:∀ p∈(b,Obj.arr k ver esz es)::aas H0 (ρ x),H0[p.1]?=some p.2:=by
   intro p hp;rcases List.mem_cons.1 hp with rfl | hp
   · exact hob
   · exact abB p hp
  have hsv : ∀ {H : Heap} {w : World} {Imm Prot : Nat → Prop} {β : Bd} {v : Value}, HRel P w Imm β H Prot → H[b]? = some (.arr k ver esz es) → AVV P w Imm β H (ρ s) v →
      (aam k es∧v=.slice none 0 0∧len=0)∨(¬ aam k es∧v=.slice (some ⟨β.blk b,off*esz,none⟩) len (β.cap b - off) ∧
      ∃ cs T css rest,w.heap[β.blk b]?=some (.cells cs T (0,0))∧Row P w Imm β H esz es css∧cs.toList=css.flatten ++ rest ∧
      cs.size = β.cap b*esz∧es.length≤β.cap b∧(k=.exact→β.cap b=es.length)∧Held Imm β Prot (k == .frozen) b∧(k=.bytes→T=Gl.u8)):=by
   intro H w Imm Prot β v hr hob' hv;rw [hs] at hv;simp only [AVV,RefV,RefC] at hv;obtain ⟨_,v2,v3⟩:=hv.2 k es hob'
   by_cases hn:aam k es
   · exact .inl ⟨hn,v2 hn,by have:=hn.2; subst this; simp at hlen; omega⟩
   · rcases hr.objs b _ hob' with hold | ⟨cs,T',css,rest,k1,k2,k3,k4,k5,k6,k7,k8⟩
     · exact (hn hold).elim
     · exact .inr ⟨hn,v3 hn,cs,T',css,rest,k1,k2,k3,k4,k5,k6,k7,k8.2⟩
  have holds : ∀ {H : Heap} {w : World} {Imm : Nat → Prop} {β : Bd} {cs : Array Value} {T' : TypeId} {css : List (List Value)} {rest : List Value}, w.heap[β.blk b]? = some (.cells cs T' (0, 0)) → Row P w Imm β H esz es css → cs.toList = css.flatten ++ rest →
      ∃ ocss,Row P w Imm β H esz ((es.drop off).take len) ocss∧∀ (w':World) (n c:Nat),w'.heap=w.heap→(Builtin.firstCells esz len (.slice (some ⟨β.blk b,off*esz,none⟩) n c)).run P w'=.ok ocss.flatten.toArray w':=by
   intro H w Imm β cs T' css rest k1 k2 k3;obtain ⟨a,m,z,g1,g2,g3,g4,g5⟩:=ab1 k2 off len hlen;refine ⟨m,g2,fun w' n c hw=>aa9 (by have:=(aar g2).2; rw [this]; congr 1; simp; omega) ?_⟩;have:=abg k1 (pre:=a.flatten) (xs:=m.flatten) (post:=z.flatten ++ rest) (by rw [k3,g1]; simp);rw [g3] at this;exact this.same (by rw [hw])
  split at h
  · rename_i hem;refine ⟨_,h,?_,hin0,by simp⟩;refine none' (fun p hp=>List.mem_cons_of_mem _ hp) hin0 (nilcons _ hem) (fun H w Imm Prot β v hr hin hv=>?_);rcases hsv hr (hin (b,_) (by simp)) hv with ⟨_,h1,_⟩ | ⟨hn,h1,cs,T',css,rest,h2⟩
    · exact ⟨_,_,_,h1,Nat.le_refl _⟩
    · exact ⟨_,_,_,h1,by omega⟩
  · rename_i hem;have hpos:0<xs.length:=List.length_pos_iff.2 (by simpa using hem);obtain ⟨hm,h⟩:=h
    split at h
    · exact h.elim
    ·
     split at h
     · rename_i hroom;refine ⟨_,h,?_,hin0,by simpa using (List.getElem?_eq_some_iff.1 hob).1⟩;intro H w Imm Prot β ρc hr hρ hin _;have hob':H[b]?=some (.arr .exact ver esz es):=hin (b,_) (by simp);rcases hsv hr hob' (hρ s hmem.1).1 with ⟨hn,_⟩ | ⟨hn,h1,cs,T',css,rest,k1,k2,k3,k4,k5,k6,k7,k8⟩
       · cases hn.1
       obtain ⟨xcss,x1,x2,x3,x4⟩:=ahs (abi hx (fun p hp=>hin p (List.mem_cons_of_mem _ hp))) hr (hρ x hmem.2).1 (hρ x hmem.2).2 hsh;have x5:=x4 w rfl xs.length (Nat.le_refl _);rw [List.take_of_length_le (by have:=(aar x1).1; omega)] at x5;have hcap:=k6 rfl;obtain ⟨a,m,z',g1,g2,g3,g4,g5⟩:=ab1 k2 (off+len) xs.length hroom;have hxl:=(aar x1).2;have hml:m.flatten.length=xs.length*esz:=by have:=(aar g2).2; rw [this]; congr 1; simp; omega
       have hcs:cs.toList=a.flatten ++ m.flatten ++ (z'.flatten ++ rest):=by rw [k3,g1]; simp
       have hal:a.flatten.length=off*esz+len*esz:=by rw [g3,Nat.add_mul]
       have hsize:cs.size=a.flatten.length+m.flatten.length+(z'.flatten ++ rest).length:=by
        have:=congrArg List.length hcs; simp only [List.length_append,Array.length_toList] at this; rw [this,List.length_append]
       have hrun:=aiS hE hX o.type (sLen:=len) (sCap:=β.cap b - off) _ x3 k1 x5 (aiV x1) (by omega) (by rw [hxl,hsize,hal,hml]; exact Nat.le_add_right _ _);rw [← hTX,← h1] at hrun;have hnew:cs.toList.take (off*esz+len*esz) ++ xcss.flatten ++ cs.toList.drop (off*esz+len*esz+xcss.flatten.length)=a.flatten ++ xcss.flatten ++ (z'.flatten ++ rest):=by
        rw [hcs,← hal,hxl,← hml]; exact ae1 _ _ _ _
       rw [hnew] at hrun;have hst:aaG β H β (H.set b (.arr .exact ver esz (es.take (off+len) ++ xs ++ es.drop (off+len+xs.length)))):=acW hob' (.inr (.inl ⟨_,_,_,_,_,rfl,rfl,by simp; omega⟩));have hheld:¬ Imm (β.blk b)∧¬ Prot (β.blk b):=by
        unfold Held at k7; rw [if_neg (by simp)] at k7; exact k7
       have hsame:∀ k',Imm k'→(w.setRow (β.blk b) (a.flatten ++ xcss.flatten ++ (z'.flatten ++ rest)).toArray).heap[k']?=w.heap[k']?:=fun k' hki=>setRow_other w _ k' _ (fun he=>hheld.1 (he▸hki));have hrefs:aac (InH H) (es.take (off+len) ++ xs ++ es.drop (off+len+xs.length)):=by
        have hre:=aag.1 (hr.refs b _ hob');refine aav (aav ?_ x2) ?_
        · rw [aag]; exact fun v hv=>hre v (List.mem_of_mem_take hv)
        · rw [aag]; exact fun v hv=>hre v (List.mem_of_mem_drop hv)
       have hin':=acU hob' (o:=.arr .exact ver esz (es.take (off+len) ++ xs ++ es.drop (off+len+xs.length))) (fun _ h=>h);have hnl:(es.take (off+len) ++ xs ++ es.drop (off+len+xs.length)).length=es.length:=by simp; omega
       have hpost:=ab4 hr hob' hn (o':=.arr .exact ver esz (es.take (off+len) ++ xs ++ es.drop (off+len+xs.length))) (fun hn'=>by cases hn'.1) (fun _ h=>h) k1 (new:=(a.flatten ++ xcss.flatten ++ (z'.flatten ++ rest)).toArray) hheld hst
        (.inr ⟨_,T',a ++ xcss ++ z',rest,setRow_heap w _ _ _ T' _ k1,by
         refine Row.mono (fun _ x=>x) hsame hst hrefs (aa0.2 ⟨_,_,rfl,aa0.2 ⟨_,_,rfl,g4,x1⟩,g5⟩),by simp,by
         rw [← k4,hsize]; simp only [List.size_toArray,List.length_append,hxl,hml],by rw [hnl]; exact k5,fun _=>by rw [hnl]; exact hcap,k7,(fun hke=>by cases hke),k8⟩) (aac.mono hin' _ hrefs)
       refine ⟨_,_,_,β,Imm,adW hop hc ha hrun,.inl rfl,hpost,?_,?_⟩
       · simp only [AVV,RefV,RefC,aaj,newAt,List.append_nil];refine ⟨by simp [Value.oneCell'],fun k' es' hl=>?_⟩;unfold aaI at hl;rw [List.getElem?_set_self (List.getElem?_eq_some_iff.1 hob').1] at hl;cases hl;exact ⟨by rw [hnl]; omega,(fun hn'=>by cases hn'.1),fun _=>trivial⟩
       · simp only [aaa];exact ⟨_,List.getElem?_set_self (List.getElem?_eq_some_iff.1 hob').1,Nat.le_refl _⟩
     · rename_i hroom;refine ⟨_,h,?_,hin0,by simp⟩;intro H w Imm Prot β ρc hr hρ hin hholes;have hb:H[H0.length]?=some .hole:=by simpa using hholes 0 (by simp)
       have hob':H[b]?=some (.arr .exact ver esz es):=hin (b,_) (by simp);rcases hsv hr hob' (hρ s hmem.1).1 with ⟨hn,_⟩ | ⟨hn,h1,cs,T',css,rest,k1,k2,k3,k4,k5,k6,k7,k8⟩
       · cases hn.1
       have hcap:=k6 rfl;obtain ⟨ocss,o1,o2⟩:=holds k1 k2 k3;have hdl:((es.drop off).take len).length=len:=by simp; omega
       obtain ⟨cap,cells,css',rest',r1,r2,r3,r4,r5,r6⟩:=ac3 hop hc ha hTX hE hX z2 hzs hr h1 (olds:=(es.drop off).take len) hdl o1
        (by rw [aag]; exact fun v hv=>aag.1 (hr.refs b _ hob') v (List.mem_of_mem_drop (List.mem_of_mem_take hv))) (o2 w.drew _ _ rfl)
        (abi hx (fun p hp=>hin p (List.mem_cons_of_mem _ hp))) (hρ x hmem.2).1 (hρ x hmem.2).2 hsh (by omega) (by omega)
       obtain ⟨q1,q2,q3⟩:=aij (base:=H0.length) (k:=gk P T) (e:=e) (_o':=.hole) hr hb aqT.1 (fun hn=>hem (by have:=hn.2; simp at this; simp [this.2])) r2 r3 r4 r5 r6 (fun h=>(aqT.2 h).elim) (gk_u8 hE.typ);rw [List.length_append,hdl] at q2 q3;exact ⟨_,_,_,_,Imm,r1,.inl rfl,q1,q2,q3⟩
    ·
     rename_i hk1 hk2;obtain ⟨rfl,hku,h⟩:=h;have hkf:k≠.frozen:=fun e=>hk1 e;have hke:k≠.exact:=fun e=>hk2 e;have hkfb:(k == AK.frozen)=false:=by simpa using hkf
     refine ⟨_,h,?_,hin0,by simpa using (List.getElem?_eq_some_iff.1 hob).1⟩;intro H w Imm Prot β ρc hr hρ hin _;have hob':H[b]?=some (.arr k ver esz es):=hin (b,_) (by simp);have hbl:b<H.length:=(List.getElem?_eq_some_iff.1 hob').1;have htl:(es.take len).length=len:=by simp; omega
     have hretake:aac (InH H) (es.take len):=by rw [aag]; exact fun v hv=>aag.1 (hr.refs b _ hob') v (List.mem_of_mem_take hv)
     have hnn':¬ aam k (es.take len ++ xs):=fun hn'=>hem (by have:=hn'.2; simp at this; simp [this.2]);have hin':=acU hob' (o:=.arr k (ver+1) esz (es.take len ++ xs)) (fun v h=>by simp only [Obj.has] at h ⊢; omega)
     have fin : ∀ (p : Option Addr) (sCap : Nat) (ocss : List (List Value)), ρc s = .slice p len sCap → Row P w Imm β H esz (es.take len) ocss → (Builtin.firstCells esz len (.slice p len sCap)).run P w.drew = .ok ocss.flatten.toArray w.drew → sCap < len + xs.length →
         ∃ n cv w' β' Imm',(execOp ρc o).run P w=.ok n w'∧(n=.value cv∨n=.skip∧cv=undef) ∧
          Post P Prot Imm w β H Imm' w' β' (H.set b (.arr k (ver+1) esz (es.take len ++ xs)))∧AVV P w' Imm' β' (H.set b (.arr k (ver+1) esz (es.take len ++ xs))) (.sl b (ver+1) esz 0 (len+xs.length)) cv ∧
          aaa (InH (H.set b (.arr k (ver+1) esz (es.take len ++ xs)))) (.sl b (ver+1) esz 0 (len+xs.length)):=by
      intro p sCap ocss h1 hor hof hg;obtain ⟨cap,cells,css',rest',r1,r2,r3,r4,r5,r6⟩:=ac3 hop hc ha hTX hE hX z2 hzs hr h1 (olds:=es.take len) htl hor hretake hof
       (abi hx (fun p hp=>hin p (List.mem_cons_of_mem _ hp))) (hρ x hmem.2).1 (hρ x hmem.2).2 hsh hg (by omega)
      have hst:=aoz (β:=β) (k':=k) (es':=es.take len ++ xs) (blk:=w.heap.size) (cap:=cap) hob';have hpost:Post P Prot Imm w β H Imm { w.drew with heap:=w.heap.push (.cells cells e) } (β.at b w.heap.size cap) (H.set b (.arr k (ver+1) esz (es.take len ++ xs))):=by
       refine Post.set hr hbl (fun y hy=>by simp [Bd.at,hy]) (fun _ y=>y) (fun _ y=>.inl y) (fun k hk=>by have:=hr.imm k hk; simp; omega) (by simp)
        (fun k _ hk=>by simp [Array.getElem?_push,Nat.ne_of_lt hk]) (fun _=>.inl (by simp [Bd.at])) hst
        (.inr ⟨cells,e,css',rest',by simp [Bd.at],Row.mono (fun _ y=>y) (fun k hk=>by have:=hr.imm k hk; simp [Array.getElem?_push,Nat.ne_of_lt this]) hst r3 r2,r4,by simp [Bd.at,r5],by simpa [Bd.at] using r6,(fun hh=>(hke hh).elim),by
         unfold Held;rw [if_neg (by simpa using hkf)];simp only [Bd.at,if_true];exact ⟨fun h=>Nat.lt_irrefl _ (hr.imm _ h),fun h=>Nat.lt_irrefl _ (hr.prot _ h)⟩,(fun hh=>(hkf hh).elim),fun hb=>hE.typ▸hku hb⟩)
        (aac.mono hin' _ r3) (fun o1 v h1 h2=>by rw [hob'] at h1; cases h1; simp only [Obj.has] at h2 ⊢; omega) (fun L hL=>by rw [hob'] at hL; cases hL)
      refine ⟨_,_,_,_,Imm,r1,.inl rfl,hpost,?_,?_⟩
      · simp only [AVV,RefV,RefC];refine ⟨by simp [Value.oneCell'],fun k' es' hl=>?_⟩;unfold aaI at hl;rw [List.getElem?_set_self hbl] at hl;cases hl;exact ⟨by rw [List.length_append,htl]; omega,fun hn'=>(hnn' hn').elim,fun _=>by simp [Bd.at]⟩
      · simp only [aaa];exact ⟨_,List.getElem?_set_self hbl,Nat.le_refl _⟩
     simp only [aaj,newAt,List.append_nil];rcases hsv hr hob' (hρ s hmem.1).1 with ⟨hn,h1,rfl⟩ | ⟨hn,h1,cs,T',css,rest,k1,k2,k3,k4,k5,k6,k7,k8⟩
     · exact fin none 0 [] h1 (by simp [abh]) (by simp [Builtin.firstCells]) (by omega)
     · simp only [Nat.zero_mul,Nat.sub_zero] at h1
       by_cases hroom:len+xs.length≤β.cap b
       ·
        obtain ⟨xcss,x1,x2,x3,x4⟩:=ahs (abi hx (fun p hp=>hin p (List.mem_cons_of_mem _ hp))) hr (hρ x hmem.2).1 (hρ x hmem.2).2 hsh;have x5:=x4 w rfl xs.length (Nat.le_refl _);rw [List.take_of_length_le (by have:=(aar x1).1; omega)] at x5;obtain ⟨a,m,z',g1,g2,g3,g4,g5⟩:=ab1 k2 0 len hlen;have ha0:a=[]:=by have:=(aar g4).1; simpa using this
        subst ha0;have hxl:=(aar x1).2;have hml:m.flatten.length=len*esz:=by have:=(aar g2).2; rw [this]; congr 1
        have hcs:cs.toList=m.flatten ++ (z'.flatten ++ rest):=by rw [k3,g1]; simp
        have hrl:=Nat.mul_le_mul_right esz hroom;rw [Nat.add_mul] at hrl;have hrun:=aiS hE hX o.type (off:=0) (sLen:=len) (sCap:=β.cap b) _ x3 k1 x5 (aiV x1) hroom (by rw [hxl,k4]; omega);rw [← hTX,← h1] at hrun;obtain ⟨rest2,hrest2⟩:∃ r,r=cs.toList.drop (len*esz+xcss.flatten.length):=⟨_,rfl⟩
        have hnew:cs.toList.take (0+len*esz) ++ xcss.flatten ++ cs.toList.drop (0+len*esz+xcss.flatten.length)=(m ++ xcss).flatten ++ rest2:=by
         rw [Nat.zero_add,← hrest2];congr 1;rw [hcs,← hml]; simp
        rw [hnew] at hrun;have hheld:¬ Imm (β.blk b)∧¬ Prot (β.blk b):=by
         unfold Held at k7; rw [if_neg (by simpa using hkf)] at k7; exact k7
        have hst:aaG β H β (H.set b (.arr k (ver+1) esz (es.take len ++ xs))):=by
         have:=aoz (β:=β) (k':=k) (es':=es.take len ++ xs) (blk:=β.blk b) (cap:=β.cap b) hob'
         rwa [Bd.at_self] at this
        have hsame:∀ k',Imm k'→(w.setRow (β.blk b) ((m ++ xcss).flatten ++ rest2).toArray).heap[k']?=w.heap[k']?:=fun k' hki=>setRow_other w _ k' _ (fun he=>hheld.1 (he▸hki));have hrefs:aac (InH H) (es.take len ++ xs):=aav hretake x2;have hpost:=ab4 hr hob' hn (o':=.arr k (ver+1) esz (es.take len ++ xs)) hnn' (fun v h=>by simp only [Obj.has] at h ⊢; omega) k1 (new:=((m ++ xcss).flatten ++ rest2).toArray) hheld hst
         (.inr ⟨_,T',m ++ xcss,rest2,setRow_heap w _ _ _ T' _ k1,by
          refine Row.mono (fun _ x=>x) hsame hst hrefs (aa0.2 ⟨_,_,rfl,?_,x1⟩);simpa using g2,by simp,by
          rw [← k4]; simp only [List.size_toArray,List.length_append,List.flatten_append,hxl,hml,hrest2,List.length_drop,Array.length_toList,k4]; omega,by rw [List.length_append,htl]; exact hroom,(fun hh=>(hke hh).elim),k7,(fun h=>(hkf h).elim),k8⟩) (aac.mono hin' _ hrefs)
        refine ⟨_,_,_,β,Imm,adW hop hc ha hrun,.inl rfl,hpost,?_,?_⟩
        · simp only [AVV,RefV,RefC];refine ⟨by simp [Value.oneCell'],fun k' es' hl=>?_⟩;unfold aaI at hl;rw [List.getElem?_set_self hbl] at hl;cases hl;exact ⟨by rw [List.length_append,htl]; omega,fun hn'=>(hnn' hn').elim,fun _=>by simp⟩
        · simp only [aaa];exact ⟨_,List.getElem?_set_self hbl,Nat.le_refl _⟩
       · obtain ⟨ocss,o1,o2⟩:=holds k1 k2 k3;simp only [List.drop_zero,Nat.zero_mul] at o1 o2;exact fin _ _ ocss h1 o1 (o2 w.drew _ _ rfl) (by omega)
 · exact h.elim
end
section
variable {P:Program} {w:World} {Imm Prot:Nat→Prop} {β:Bd} {H:Heap}
variable {o:Oper} {ρ:Operand→AV} {base:Nat}
def acm (bs:ByteArray):List Nat:=bs.data.toList.map (·.toNat)
theorem adN:∀ {a b:List UInt8},a.map (·.toNat)=b.map (·.toNat)→a=b
 | [],[],_=>rfl
 | [],_::_,h=>by simp at h
 | _::_,[],h=>by simp at h
 | x::a,y::b,h=>by
  simp at h;rw [UInt8.toNat_inj.1 h.1,adN h.2]
theorem bytes_beq (a b:ByteArray):(a.toList == b.toList)=(acm a == acm b):=by
 rw [ByteArray.toList_eq,ByteArray.toList_eq];unfold acm
 by_cases h:a.data.toList=b.data.toList
 · simp [h]
 · have h2:¬ (a.data.toList.map (·.toNat)=b.data.toList.map (·.toNat)):=fun h'=>h (adN h')
   rw [beq_eq_false_iff_ne.2 h,beq_eq_false_iff_ne.2 h2]
theorem agP:∀ a b:List UInt8,Op.bytesLess a b=abJ (a.map (·.toNat)) (b.map (·.toNat))
 | [],[]=>rfl
 | _::_,[]=>rfl
 | [],_::_=>rfl
 | x::a,y::b=>by
  simp only [Op.bytesLess,List.map_cons,abJ,agP a b];congr 1
  · congr 1
    by_cases h:x=y
    · simp [h]
    · have:¬ x.toNat=y.toNat:=fun h'=>h (UInt8.toNat_inj.1 h');rw [beq_eq_false_iff_ne.2 h,beq_eq_false_iff_ne.2 this]
theorem op_str {bop : BinOp} {T T' : TypeId} {x y : Operand} {a b : List Nat} {K : PV → Prop} (hop : o.op = .binOp bop T x y T') (hx : ρ x = .p (.str a)) (hy : ρ y = .p (.str b))
    (h:ak8 bop a b K) (hin:List (Nat×Obj)):∃ v,K v∧aae P o ρ base { v:=.p v,hin }:=by
 have key:∀ v,K v→(∀ (w:World) (Imm:Nat→Prop) (s t:ByteArray),a=acm s→b=acm t→∃ r,(Op.stringOp bop s t).run P w=.ok r w∧PVV P w Imm v r)→∃ v,K v∧aae P o ρ base { v:=.p v,hin }:=by
  intro v hv hrun;refine ⟨v,hv,aae.same fun H w Imm Prot β ρc hr hρ _=>?_⟩;have h1:=(hρ x (by simp [hop,Op.operands])).1;have h2:=(hρ y (by simp [hop,Op.operands])).1;rw [hx] at h1; rw [hy] at h2;simp only [AVV,auG] at h1 h2;obtain ⟨s,e1,e2⟩:=h1;obtain ⟨t,e3,e4⟩:=h2;obtain ⟨r,r1,r2⟩:=hrun w Imm s t e2 e4;refine ⟨r,?_,by simpa only [AVV] using r2,by simp [aaa]⟩;simp only [execOp,hop,e1,e3];refine aao ?_;have hg:(eqGuard bop T x y (.string s) (.string t)).run P w=.ok () w:=by
   unfold eqGuard
   split <;> simp
  have hb:(binOp bop T (.string s) (.string t)).run P w=.ok r w:=by
   cases bop <;> first | (simp [ak8] at h; done) | exact r1
  simp [hg,hb]
 have hl:∀ s t:ByteArray,a=acm s→b=acm t→Op.bytesLess s.toList t.toList=abJ a b∧(s.toList == t.toList)=(a == b):=by
  intro s t hs ht;rw [bytes_beq,← hs,← ht,agP,ByteArray.toList_eq,ByteArray.toList_eq];exact ⟨by rw [hs,ht]; rfl,rfl⟩
 cases bop <;> simp only [ak8] at h
 case add =>
  refine key _ h.2 fun w Imm s t hs ht=>⟨.string (s ++ t),run_string_add_sum w s t ?_,?_⟩
  · have h1:a.length=s.size:=by rw [hs]; simp [acm]
    have h2:b.length=t.size:=by rw [ht]; simp [acm]
    omega
  · rw [auG]; exact ⟨_,rfl,by rw [hs,ht]; simp [acm,ByteArray.data_append]⟩
 case eql | neq | lss | leq | gtr | geq =>
  refine key _ h fun w Imm s t hs ht=>?_;obtain ⟨e1,e2⟩:=hl s t hs ht;exact ⟨_,by simp only [Op.stringOp,e1,e2]; rfl,by simp [PVV]⟩
theorem al7 {T:TypeId} (h:afe P T=true):P.underlying T=some .bool:=by
 unfold afe at h
 split at h
 · assumption
 · simp at h
theorem afs {T : TypeId} {a b : Value} {r : Bool} {w : World} (h : (Op.equal T a b).run P w = .ok r w) (ha : (∃ x, a = .bool x) ∨ (∃ x, a = .agg x) ∨ (∃ p n c, a = .slice p n c) ∨ (∃ m, a = .map m) ∨ a = .nilFunc ∨ (∃ f x y, a = .func f x y) ∨ (∃ p, a = .pointer p) ∨ a = .nilIface) :
    (binOp .eql T a b).run P w=.ok (.bool r) w∧(binOp .neq T a b).run P w=.ok (.bool !r) w:=by
 rcases ha with ⟨x,rfl⟩ | ⟨x,rfl⟩ | ⟨p,n,c,rfl⟩ | ⟨m,rfl⟩ | rfl | ⟨f,x,y,rfl⟩ | ⟨p,rfl⟩ | rfl
 all_goals (constructor <;> (unfold binOp; simp [h]))
def Shp.isAgg:Shp→Bool
 | .agg _=>true
 | _=>false
theorem atm {T:TypeId} {t:Shp} (hk:kindOf P T=t) (hb:t≠.bad) (w:World):(isAgg T).run P w=.ok t.isAgg w:=by
 unfold kindOf at hk;cases hu:P.underlying T with
 | none=>rw [hu] at hk; simp at hk; exact (hb hk.symm).elim
 | some d =>
  rw [hu] at hk;simp only [isAgg,Sem.run_bind,run_underlying hu,Result.andThen_ok];cases d <;> simp only at hk <;> (split at hk <;> first | (subst hk; rfl) | exact (hb hk.symm).elim)
theorem afx {F : TypeId} {v : PV} {pre c post : List Value} {cs : Array Value} (hk : kindOf P F = shp v) (hv : PVC P w Imm v c) (hcs : cs.toList = pre ++ c ++ post) :
    ∃ x,(part F cs pre.length).run P w=.ok x w∧PVV P w Imm v x:=by
 obtain ⟨h1,i,h2,h3⟩:=acY (v:=.p v) (β:=⟨id,id⟩) (H:=[]) (w:=w) (Imm:=Imm) hk (by simpa only [AVC] using hv);have hb:=(ac5 hv).2;have hag:=atm hk hb w;cases hs:shp v with
 | bad=>exact (hb hs).elim
 | leaf =>
  rw [hs] at hag;obtain ⟨x,rfl,hx⟩:=(aeN hs c).1 hv;refine ⟨x,?_,hx⟩;have:cs[pre.length]?=some x:=by rw [← Array.getElem?_toList,hcs]; simp
  simp [part,hag,this,Shp.isAgg]
 | agg u =>
  rw [hs] at hag;refine ⟨.agg c.toArray,?_,(aiX hs c).1 hv⟩;have hsz:(sizeOf F).run P w=.ok c.length w:=by simp [sizeOf,typeInfo,h2,h3]
  have:cs.extract pre.length (pre.length+c.length)=c.toArray:=by
   apply Array.ext';rw [Array.toList_extract,hcs];simp [List.extract_eq_take_drop]
  simp [part,hag,hsz,this,Shp.isAgg]
theorem aiW {n:Nat} {ns:List Nat} {v:PV} {vs:List PV} {css:List (List Value)} (h:PVCl P w Imm (n::ns) (v::vs) css):∃ c cs,css=c::cs∧PVC P w Imm v c∧c.length=n∧PVCl P w Imm ns vs cs:=by
 simpa only [PVCl] using h
theorem agM {eqF : TypeId → PV → PV → Option Bool} {d : Nat} (ih : ∀ F a b r, eqF F a b = some r → kindOf P F = shp a → kindOf P F = shp b → ∀ x y, PVV P w Imm a x → PVV P w Imm b y → (Op.equalIn d F x y).run P w = .ok r w) {X Y : Array Value} :
    ∀ (fs : List Field) (l : List Nat) (xs ys : List PV) (r : Bool) (pre pre' : List Value) (css dss : List (List Value)), eqTs P eqF (fs.map (·.type)) xs ys = some r → fs.all (fun f => f.name != "_") = true →
    (∀ (i:Nat) (f:Field),fs[i]?=some f→f.offset=pre.length+(l.take i).sum)→PVCl P w Imm l xs css→PVCl P w Imm l ys dss→pre.length=pre'.length →
    X.toList=pre ++ css.flatten→Y.toList=pre' ++ dss.flatten→(Op.eqFields d X Y fs).run P w=.ok r w
 | [],l,xs,ys,r,pre,pre',css,dss,he,_,_,_,_,_,_,_=>by
  cases xs <;> cases ys <;> simp [eqTs] at he;subst he; simp [Op.eqFields]
 | f::fs,l,xs,ys,r,pre,pre',css,dss,he,hn,ho,hx,hy,hp,hX,hY=>by
  cases xs with
  | nil=>simp [eqTs] at he
  | cons a xs =>
   cases ys with
   | nil=>simp [eqTs] at he
   | cons b ys =>
    cases l with
    | nil=>simp [PVCl] at hx
    | cons n l =>
     simp only [List.map_cons,eqTs] at he
     split at he
     case isFalse=>simp at he
     rename_i hk
     split at he
     case h_2=>simp at he
     rename_i r1 r2 h1 h2;simp at he; subst he;obtain ⟨c,cs,rfl,hc,hcl,hx'⟩:=aiW hx;obtain ⟨c',cs',rfl,hc',hcl',hy'⟩:=aiW hy;simp only [List.all_cons,Bool.and_eq_true,bne_iff_ne] at hn;have ho0:f.offset=pre.length:=by simpa using ho 0 f (by simp)
     obtain ⟨x,x1,x2⟩:=afx hk.1 hc (pre:=pre) (post:=cs.flatten) (cs:=X) (by rw [hX]; simp);obtain ⟨y,y1,y2⟩:=afx hk.2 hc' (pre:=pre') (post:=cs'.flatten) (cs:=Y) (by rw [hY]; simp);have e1:=ih _ _ _ _ h1 hk.1 hk.2 x y x2 y2;rw [← ho0] at x1;rw [← hp,← ho0] at y1;have rest:=agM ih fs l xs ys r2 (pre ++ c) (pre' ++ c') cs cs' h2 hn.2 (by
      intro i g hg;have:=ho (i+1) g (by simpa using hg);rw [this,List.take_succ_cons,List.sum_cons,List.length_append,hcl]; omega) hx' hy' (by simp [hp,hcl,hcl']) (by rw [hX]; simp) (by rw [hY]; simp)
     simp only [Op.eqFields,hn.1,ne_eq,not_false_eq_true,if_true,Sem.run_bind,x1,y1,e1,Result.andThen_ok];cases r1 with
     | false=>simp
     | true=>simpa using rest
theorem aiq:∀ (n:Nat) (T:TypeId) (v v':PV) (r:Bool),eqT P n T v v'=some r→∀ x y,PVV P w Imm v x→PVV P w Imm v' y→∀ d,n≤d→(Op.equalIn d T x y).run P w=.ok r w
 | 0,_,_,_,_,h,_,_,_,_,_,_=>by simp [eqT] at h
 | n+1,T,v,v',r,h,x,y,hx,hy,d,hd=>by
  obtain ⟨d,rfl⟩:∃ e,d=e+1:=⟨d - 1,by omega⟩
  unfold eqT at h
  split at h
  · rename_i a b hu;simp at h; subst h;simp only [PVV] at hx hy;subst hx; subst hy;simp [Op.equalIn,run_underlying hu]
  · rename_i k0 k a k' b hu
    split at h
    case isFalse=>simp at h
    rename_i hk;subst hk;simp at h; subst h;simp only [PVV] at hx hy;subst hx; subst hy;exact run_equalIn_int w d T k k0 a b hu
  · rename_i a b hu;simp at h; subst h;simp only [PVV] at hx hy;obtain ⟨s,rfl,hs⟩:=hx;obtain ⟨t,rfl,ht⟩:=hy;rw [run_equalIn_string w d T s t hu,bytes_beq,hs,ht]; rfl
  · rename_i fs u xs u' ys hu
    split at h
    case isFalse=>simp at h
    rename_i hc;obtain ⟨hk,rfl,hsi,hall⟩:=hc;simp only [PVV] at hx hy;obtain ⟨l,css,k1,k2,rfl⟩:=hx;obtain ⟨l',dss,k3,k4,rfl⟩:=hy;rw [k1] at k3; cases k3;obtain ⟨fs',l',s1,s2,s3,s4,s5,s6⟩:=acn (P:=P) (T:=T) (u:=u') (n:=fs.size) (by unfold abt; rw [hk,hu]);rw [hu] at s1; cases s1;rw [k1] at s4; cases s4;have hfo:P.fieldsOf T=fs:=by simp [Program.fieldsOf,hu]
    rw [run_equalIn_struct w d T _ _ (by rw [hfo]; exact hu) hsi,hfo];refine agM (eqF:=eqT P n) (fun F a b r hr _ _ x y hx hy=>aiq n F a b r hr x y hx hy d (by omega)) fs.toList l xs ys r [] [] css dss h hall ?_ k2 k4 rfl (by simp) (by simp);intro i f hf;have hi:i<fs.size:=by
     have:=(List.getElem?_eq_some_iff.1 hf).1; simpa using this
    obtain ⟨f',g1,g2,_⟩:=s6 i hi;rw [Array.getElem?_toList,g1] at hf;cases hf; simpa using g2
  · simp at h
end
section
variable {P:Program} {w:World} {Imm Prot:Nat→Prop} {β:Bd} {H:Heap}
variable {o:Oper} {ρ:Operand→AV} {base:Nat}
theorem asO {bop : BinOp} {T T' : TypeId} {x y : Operand} {r : Bool} {K : PV → Prop} {rin : List (Nat × Obj)} (hop : o.op = .binOp bop T x y T')
    (hb:bop=.eql∧K (.bool r)∨bop=.neq∧K (.bool !r))
    (hrun:∀ (H:Heap) (w:World) (Imm Prot:Nat→Prop) (β:Bd) (a b:Value),HRel P w Imm β H Prot→(∀ p∈rin,H[p.1]?=some p.2)→AVV P w Imm β H (ρ x) a→AVV P w Imm β H (ρ y) b→(Op.equal T a b).run P w=.ok r w ∧
     ((∃ x,a=.bool x)∨(∃ x,a=.agg x)∨(∃ p n c,a=.slice p n c)∨(∃ m,a=.map m)∨a=.nilFunc∨(∃ f x y,a=.func f x y)∨(∃ p,a=.pointer p)∨(a=.nilIface∧isC y=true))∧(∀ u v,a=.agg u→b=.agg v→P.eqGuardType P.depth T=false)) :
    ∃ v,K v∧aae P o ρ base { v:=.p v,hin:=rin }:=by
 have key : ∀ v, K v → (∀ (w : World) (a b : Value), (Op.equal T a b).run P w = .ok r w → ((∃ x, a = .bool x) ∨ (∃ x, a = .agg x) ∨ (∃ p n c, a = .slice p n c) ∨ (∃ m, a = .map m) ∨ a = .nilFunc ∨ (∃ f x y, a = .func f x y) ∨ (∃ p, a = .pointer p) ∨ a = .nilIface) →
     ∃ q,v=.bool q∧(binOp bop T a b).run P w=.ok (.bool q) w)→∃ v,K v∧aae P o ρ base { v:=.p v,hin:=rin }:=by
  intro v hv hq;refine ⟨v,hv,aae.same fun H w Imm Prot β ρc hr hρ hin=>?_⟩;obtain ⟨r1,r2,r3⟩:=hrun H w Imm Prot β _ _ hr hin (hρ x (by simp [hop,Op.operands])).1 (hρ y (by simp [hop,Op.operands])).1;obtain ⟨q,rfl,hq2⟩:=hq w _ _ r1 (by rcases r2 with h | h | h | h | h | h | h | h <;> simp [h]);refine ⟨.bool q,?_,by simp [AVV,PVV],by simp [aaa]⟩;simp only [execOp,hop];refine aao ?_;have hg:(eqGuard bop T x y (ρc x) (ρc y)).run P w=.ok () w:=by
   rcases r2 with ⟨p,hp⟩ | ⟨p,hp⟩ | ⟨p,n,c,hp⟩ | ⟨m,hp⟩ | hp | ⟨f,x',y',hp⟩ | ⟨p,hp⟩ | ⟨hp,hc⟩
   all_goals rw [hp] at r3 ⊢
   case inr.inl =>
    cases hy:ρc y with
    | agg ys =>
     exact run_eqGuard_agg w bop T x y p ys (r3 p ys rfl hy)
    | _=>cases bop <;> rfl
   case inr.inr.inr.inr.inr.inr.inr =>
    cases y <;> simp [isC] at hc;unfold eqGuard;cases bop <;> simp <;> (split <;> simp_all)
   all_goals (cases bop <;> rfl)
  simp [hg,hq2]
 rcases hb with ⟨rfl,hK⟩ | ⟨rfl,hK⟩
 · exact key _ hK fun w a b h1 h2=>⟨_,rfl,(afs h1 h2).1⟩
 · exact key _ hK fun w a b h1 h2=>⟨_,rfl,(afs h1 h2).2⟩
theorem aha (T:TypeId) (a b:Value):∃ d,9≤d+1∧Op.equal T a b=Op.equalIn (d+1) T a b:=⟨9999,by omega,rfl⟩
theorem ajt {T : TypeId} {c : Bool} {b : AV} {k : NilK} (h : aa3 P T c b = some k) :
    (k=.ptr∧b=.p .nptr∧∃ e,P.underlying T=some (.pointer e))∨(k=.slice∧b=.p .nsl∧∃ e,P.underlying T=some (.slice e)) ∨
    (k=.map∧b=.p .nmap∧∃ e f,P.underlying T=some (.map e f))∨(k=.func∧b=.p .nfunc∧∃ e f g,P.underlying T=some (.func e f g))∨(k=.iface∧b=.p .nif∧c=true∧∃ m,P.underlying T=some (.interface m)):=by
 unfold aa3 at h
 split at h <;> first
  | (split at h
     · rename_i hu; simp at h; subst h; simp [hu]
     · simp at h)
  | simp at h
theorem nil_run {T : TypeId} {c : Bool} {H0 : Heap} {a b : AV} {r : Bool} {k : NilK} (hk : aa3 P T c b = some k) (h : aaQ H0 k a = some r) {va vb : Value} (hin : ∀ p ∈ aas H0 a, H[p.1]? = some p.2) (ha : AVV P w Imm β H a va) (hb : AVV P w Imm β H b vb) :
    (Op.equal T va vb).run P w=.ok r w∧((∃ x,va=.bool x)∨(∃ x,va=.agg x)∨(∃ p n c,va=.slice p n c)∨(∃ m,va=.map m)∨va=.nilFunc∨(∃ f x y,va=.func f x y)∨(∃ p,va=.pointer p)∨(va=.nilIface∧c=true))∧(∀ u v,va=.agg u→vb=.agg v→P.eqGuardType P.depth T=false):=by
 obtain ⟨d,_,hd⟩:=aha T va vb;rw [hd];rcases ajt hk with ⟨rfl,rfl,e,hu⟩ | ⟨rfl,rfl,e,hu⟩ | ⟨rfl,rfl,e,f,hu⟩ | ⟨rfl,rfl,e,f,g,hu⟩ | ⟨rfl,rfl,hct,m,hu⟩
 all_goals simp only [AVV,PVV] at hb
 all_goals subst hb
 · cases a <;> simp only [aaQ] at h
   case p v =>
    cases v <;> simp only at h <;> simp at h
    all_goals subst h
    all_goals simp only [AVV,PVV] at ha
    · subst ha; simp [Op.equalIn,run_underlying hu]
    · obtain ⟨_,_,_,_,_,_,rfl⟩:=ha; simp [Op.equalIn,run_underlying hu]
   case ptr bb path =>
    simp only [AVV,RefV,RefC] at ha;obtain ⟨_,_,_,_,rfl,_⟩:=ha
    split at h
    · simp at h; subst h; simp [Op.equalIn,run_underlying hu]
    · simp at h
   all_goals simp at h
 · cases a <;> simp only [aaQ] at h
   case p v =>
    cases v
    case seq es =>
     cases es with
     | nil=>simp at h
     | cons e es =>
      simp at h; subst h;simp only [AVV,PVV] at ha;rcases ha with ⟨hh,_⟩ | ⟨_,_,_,_,_,_,_,_,_,_,_,rfl⟩
      · cases hh
      · simp [Op.equalIn,run_underlying hu]
    all_goals simp only at h
    all_goals simp at h
    all_goals subst h
    all_goals simp only [AVV,PVV] at ha
    · subst ha; simp [Op.equalIn,run_underlying hu]
    · obtain ⟨_,_,_,_,_,_,_,_,_,_,_,_,rfl⟩:=ha; simp [Op.equalIn,run_underlying hu]
   case sl bb ver esz off len =>
    simp only [AVV,RefV,RefC] at ha;simp only [aas] at hin
    split at h
    case h_2=>simp at h
    rename_i kk ver' esz' es hob;rw [hob] at hin;have hob':=hin _ (List.mem_singleton.2 rfl)
    split at h
    case isFalse=>simp at h
    rename_i hc;obtain ⟨rfl,rfl⟩:=hc;obtain ⟨_,h2,h3⟩:=ha.2 kk es hob'
    by_cases hn:aam kk es
    · rw [h2 hn];have:r=true:=by simp at h; rw [← h]; simp [hn.1,hn.2]
      subst this;simp [Op.equalIn,run_underlying hu]
    · rw [h3 hn];have:r=false:=by
       simp at h; rw [← h];unfold aam at hn
       by_cases hg:kk.gr=true
       · have hne:es≠[]:=fun h=>hn ⟨hg,h⟩;simp [hne]
       · simp [hg]
      subst this;simp [Op.equalIn,run_underlying hu]
   all_goals simp at h
 · cases a <;> simp only [aaQ] at h
   case p v =>
    cases v <;> simp only at h <;> simp at h
    all_goals subst h
    all_goals simp only [AVV,PVV] at ha
    · subst ha; simp [Op.equalIn,run_underlying hu]
    · obtain ⟨_,_,_,_,_,_,rfl⟩:=ha; simp [Op.equalIn,run_underlying hu]
   case map bb =>
    simp only [AVV,RefV,RefC] at ha;simp only [aas] at hin
    split at h
    case h_2=>simp at h
    rename_i fz es hob;rw [hob] at hin;have hob':=hin _ (List.mem_singleton.2 rfl);rw [ha.2.1 ⟨_,_,hob'⟩];simp at h; subst h; simp [Op.equalIn,run_underlying hu]
   all_goals simp at h
 · cases a <;> simp only [aaQ] at h
   case p v =>
    cases v <;> simp only at h <;> simp at h
    all_goals subst h
    all_goals simp only [AVV,PVV] at ha
    · obtain ⟨_,_,_,_,rfl⟩:=ha; simp [Op.equalIn,run_underlying hu]
    · subst ha; simp [Op.equalIn,run_underlying hu]
   case func f first caps =>
    simp only [AVV] at ha;obtain ⟨_,_,_,_,rfl⟩:=ha;simp at h; subst h; simp [Op.equalIn,run_underlying hu]
   all_goals simp at h
 · cases a <;> simp only [aaQ] at h
   case p v =>
    cases v <;> simp only at h <;> simp at h
    all_goals subst h
    all_goals simp only [AVV,PVV] at ha
    subst ha; simp [Op.equalIn,run_underlying hu,hct]
   all_goals simp at h
theorem op_bin {bop : BinOp} {T T' : TypeId} {x y : Operand} {K : PV → Prop} {H0 : Heap} (hop : o.op = .binOp bop T x y T') (h : agu P bop T (isC y) H0 (ρ x) (ρ y) K) :
    ∃ v,K v∧aae P o ρ base { v:=.p v,hin:=aas H0 (ρ x) }:=by
 unfold agu at h
 split at h
 · rename_i k a k' b hx hy;exact op_int hop hx hy h.1 h.2 _
 · rename_i a b hx hy;exact op_str hop hx hy h _
 · rename_i a b hx hy;obtain ⟨hT,h⟩:=h;have hu:=al7 hT;refine asO (r:=a == b) hop ?_ ?_
   · split at h
     · exact .inl ⟨rfl,h⟩
     · exact .inr ⟨rfl,h⟩
     · exact h.elim
   · intro H w Imm Prot β va vb hr hin ha hb;rw [hx] at ha; rw [hy] at hb;simp only [AVV,PVV] at ha hb;subst ha; subst hb;obtain ⟨d,_,hd⟩:=aha T (.bool a) (.bool b);rw [hd];exact ⟨by simp [Op.equalIn,run_underlying hu],.inl ⟨_,rfl⟩,fun u v hu _=>by cases hu⟩
 · rename_i u fs u' gs hx hy;obtain ⟨hok,h⟩:=h;obtain ⟨r,hr,hb⟩:∃ r,eqT P 9 T (.st u fs) (.st u' gs)=some r∧(bop=.eql∧K (.bool r)∨bop=.neq∧K (.bool !r)):=by
    split at h
    · rename_i r hr; exact ⟨r,hr,.inl ⟨rfl,h⟩⟩
    · rename_i r hr; exact ⟨r,hr,.inr ⟨rfl,h⟩⟩
    · exact h.elim
   refine asO (r:=r) hop hb ?_;intro H w Imm Prot β va vb _ hin ha hb;rw [hx] at ha; rw [hy] at hb;simp only [AVV] at ha hb;refine ⟨?_,?_,fun u v _ _=>by simpa [eqOk] using hok⟩
   · obtain ⟨d,hd9,hd⟩:=aha T va vb;rw [hd]; exact aiq 9 T _ _ r hr _ _ ha hb (d+1) hd9
   · simp only [PVV] at ha;obtain ⟨_,_,_,_,rfl⟩:=ha;exact .inr (.inl ⟨_,rfl⟩)
 · rename_i hx hy
   split at h
   case h_2=>exact h.elim
   rename_i k hk;obtain ⟨r,hr,hb⟩:∃ r,aaQ H0 k (ρ x)=some r∧(bop=.eql∧K (.bool r)∨bop=.neq∧K (.bool !r)):=by
    split at h
    · rename_i r hr; exact ⟨r,hr,.inl ⟨rfl,h⟩⟩
    · rename_i r hr; exact ⟨r,hr,.inr ⟨rfl,h⟩⟩
    · exact h.elim
   exact asO (r:=r) hop hb fun H w Imm Prot β va vb _ hin ha hb=>nil_run hk hr hin ha hb
end
section
variable {P:Program} {w:World} {Imm Prot:Nat→Prop} {β:Bd} {H:Heap}
variable {o:Oper} {ρ:Operand→AV} {base:Nat}
theorem acy {ρc:Operand→Value}:∀ (l:List Operand),(∀ x∈l,AVV P w Imm β H (ρ x) (ρc x)∧aaa (InH H) (ρ x))→AVVl P w Imm β H (l.map ρ) (l.map ρc)∧aac (InH H) (l.map ρ)
 | [],_=>by simp [AVVl,aac]
 | x::l,h=>by
  have h1:=h x (by simp);have h2:=acy l (fun y hy=>h y (by simp [hy]));simp only [List.map_cons,AVVl,aac];exact ⟨⟨_,_,rfl,h1.1,h2.1⟩,h1.2,h2.2⟩
theorem ag9 {H0 : Heap} : ∀ (l : List AV) {ps : List PV} {hin hset : List (Nat × Obj)} {H : Heap} {Imm : Nat → Prop} {vs : List Value}, aaR H0 l = some (ps, hin, hset) → HRel P w Imm β H Prot → AVVl P w Imm β H l vs → aac (InH H) l →
    (∀ p∈hin,∃ f fz t,p.2=.box fz t∧H[p.1]?=some (.box f t))→∃ Imm',Post P Prot Imm w β H Imm' w β (aaj H hset)∧PVVl P w Imm' ps vs∧∀ p∈hset,p.1<H0.length∧p.2≠.hole
 | [],ps,hin,hset,H,Imm,vs,h,hr,hv,_,_=>by
  simp [aaR] at h;obtain ⟨rfl,rfl,rfl⟩:=h;simp only [AVVl] at hv;exact ⟨Imm,Post.refl hr,by simpa [PVVl] using hv,by simp⟩
 | a::l,ps,hin,hset,H,Imm,vs,h,hr,hv,hre,hb=>by
  simp only [AVVl] at hv;obtain ⟨y,ys,rfl,hv1,hv2⟩:=hv;simp only [aac] at hre;cases a with
  | p v =>
   simp only [aaR] at h
   split at h
   case h_2=>simp at h
   rename_i ps' hin' hset' h';simp at h;obtain ⟨rfl,rfl,rfl⟩:=h;obtain ⟨Imm',q1,q2,q3⟩:=ag9 l h' hr hv2 hre.2 hb;simp only [AVV] at hv1;exact ⟨Imm',q1,by simp only [PVVl]; exact ⟨y,ys,rfl,PVV.mono q1.imm (fun _ _=>rfl) _ _ hv1,q2⟩,q3⟩
  | ptr b path =>
   cases path with
   | cons _ _=>simp [aaR] at h
   | nil =>
    simp only [aaR] at h
    split at h
    case h_2=>simp at h
    rename_i fz t ps' hin' hset' hob h';simp at h;obtain ⟨rfl,rfl,rfl⟩:=h;obtain ⟨f,fz',t',e1,e2⟩:=hb (b,.box fz (.p t)) (by simp);cases e1;have hpur:purA H (.ptr b [])=some (.fptr t,H.set b (.box true (.p t))):=by
     simp only at e2;simp [purA,e2,subP]
    obtain ⟨Imm1,p1,p2⟩:=alo hpur hr hv1 hre.1;have hbl:b<H.length:=(List.getElem?_eq_some_iff.1 e2).1;obtain ⟨Imm2,q1,q2,q3⟩:=ag9 l h' p1.rel (AVVl.mono p1.imm (fun _ _=>rfl) p1.step _ _ hre.2 hv2) (aac.mono p1.inn _ hre.2) (by
     intro p hp;obtain ⟨f2,fz2,t2,g1,g2⟩:=hb p (by simp [hp])
     by_cases hpb:b=p.1
     · rw [← hpb] at g2 ⊢;simp only at e2;rw [e2] at g2;cases g2;exact ⟨true,fz2,_,g1,by rw [List.getElem?_set_self hbl]⟩
     · exact ⟨f2,fz2,t2,g1,by rw [List.getElem?_set_ne hpb]; exact g2⟩)
    refine ⟨Imm2,by simpa only [aaj] using p1.trans q1,?_,?_⟩
    · simp only [PVVl]; exact ⟨y,ys,rfl,PVV.mono q1.imm (fun _ _=>rfl) _ _ p2,q2⟩
    · intro p hp;rcases List.mem_cons.1 hp with rfl | hp
      · exact ⟨(List.getElem?_eq_some_iff.1 hob).1,by simp⟩
      · exact q3 p hp
  | _=>simp [aaR] at h
theorem ann {f : FuncId} {fi ca : Array Operand} (hop : o.op = .makeFunc (.func f) fi ca) :
    (∀ a b,allP (fi.toList.map ρ)=some a→allP (ca.toList.map ρ)=some b→aae P o ρ base { v:=.p (.func f a b) }) ∧
    aae P o ρ base { v:=.func f (fi.toList.map ρ) (ca.toList.map ρ) } ∧
    (∀ (H0:Heap) a b hin hset,aaR H0 (fi.toList.map ρ)=some (a,[],[])→aaR H0 (ca.toList.map ρ)=some (b,hin,hset)→aae P o ρ base { v:=.p (.func f a b),hin,hset }∧(∀ p∈hin,H0[p.1]?=some p.2)∧(∀ p∈hset,p.1<H0.length∧p.2≠.hole)):=by
 have hmem:∀ x,x∈fi.toList∨x∈ca.toList→x∈o.op.operands:=by
  intro x hx;rw [hop]; simp only [Op.operands,Array.mem_append];simpa using hx
 have hexec:∀ (ρc:Operand→Value) (w:World),(execOp ρc o).run P w=.ok (.value (.func (.func f) (fi.toList.map ρc).toArray (ca.toList.map ρc).toArray)) w:=by
  intro ρc w;simp only [execOp,hop];refine aao ?_;have h1:(fi.toList.map ρc).toArray=fi.map ρc:=by apply Array.ext'; simp
  have h2:(ca.toList.map ρc).toArray=ca.map ρc:=by apply Array.ext'; simp
  rw [h1,h2];simp [Instr.makeFunc]
 refine ⟨?_,?_,?_⟩
 · intro a b ha hb;refine aae.same fun H w Imm Prot β ρc hr hρ _=>⟨_,hexec ρc w,?_,by simp [aaa]⟩
   obtain ⟨h1,_⟩:=acy fi.toList (fun x hx=>hρ x (hmem x (.inl hx)));obtain ⟨h2,_⟩:=acy ca.toList (fun x hx=>hρ x (hmem x (.inr hx)));rw [acR ha] at h1; rw [acR hb] at h2;simp only [AVV,PVV];exact ⟨_,_,abq.1 h1,abq.1 h2,rfl⟩
 · refine aae.same fun H w Imm Prot β ρc hr hρ _=>⟨_,hexec ρc w,?_,?_⟩
   · simp only [AVV];exact ⟨_,_,(acy fi.toList (fun x hx=>hρ x (hmem x (.inl hx)))).1,(acy ca.toList (fun x hx=>hρ x (hmem x (.inr hx)))).1,rfl⟩
   · simp only [aaa];exact ⟨(acy fi.toList (fun x hx=>hρ x (hmem x (.inl hx)))).2,(acy ca.toList (fun x hx=>hρ x (hmem x (.inr hx)))).2⟩
 · intro H0 a b hin hset ha hb;have hin0:∀ p∈hin,H0[p.1]?=some p.2∧∃ fz t,p.2=.box fz t:=by
    have:∀ (l:List AV) (b:List PV) (hin hset:List (Nat×Obj)),aaR H0 l=some (b,hin,hset)→∀ p∈hin,H0[p.1]?=some p.2∧∃ fz t,p.2=.box fz t:=by
     intro l
     induction l with
     | nil=>intro b hin hset h; simp [aaR] at h; obtain ⟨rfl,rfl,rfl⟩:=h; simp
     | cons x l ih =>
      intro b hin hset h;cases x with
      | p v =>
       simp only [aaR] at h
       split at h
       case h_2=>simp at h
       rename_i ps' hin' hset' h';simp at h;obtain ⟨rfl,rfl,rfl⟩:=h;exact ih _ _ _ h'
      | ptr bb path =>
       cases path with
       | cons _ _=>simp [aaR] at h
       | nil =>
        simp only [aaR] at h
        split at h
        case h_2=>simp at h
        rename_i fz t ps' hin' hset' hob h';simp at h;obtain ⟨rfl,rfl,rfl⟩:=h;intro p hp;rcases List.mem_cons.1 hp with rfl | hp
        · exact ⟨hob,_,_,rfl⟩
        · exact ih _ _ _ h' p hp
      | _=>simp [aaR] at h
    exact this _ _ _ _ hb
   have hset0:∀ p∈hset,p.1<H0.length∧p.2≠.hole:=by
    have:∀ (l:List AV) (b:List PV) (hin hset:List (Nat×Obj)),aaR H0 l=some (b,hin,hset)→∀ p∈hset,p.1<H0.length∧p.2≠.hole:=by
     intro l
     induction l with
     | nil=>intro b hin hset h; simp [aaR] at h; obtain ⟨rfl,rfl,rfl⟩:=h; simp
     | cons x l ih =>
      intro b hin hset h;cases x with
      | p v =>
       simp only [aaR] at h
       split at h
       case h_2=>simp at h
       rename_i ps' hin' hset' h';simp at h;obtain ⟨rfl,rfl,rfl⟩:=h;exact ih _ _ _ h'
      | ptr bb path =>
       cases path with
       | cons _ _=>simp [aaR] at h
       | nil =>
        simp only [aaR] at h
        split at h
        case h_2=>simp at h
        rename_i fz t ps' hin' hset' hob h';simp at h;obtain ⟨rfl,rfl,rfl⟩:=h;intro p hp;rcases List.mem_cons.1 hp with rfl | hp
        · exact ⟨(List.getElem?_eq_some_iff.1 hob).1,by simp⟩
        · exact ih _ _ _ h' p hp
      | _=>simp [aaR] at h
    exact this _ _ _ _ hb
   refine ⟨?_,fun p hp=>(hin0 p hp).1,hset0⟩;intro H w Imm Prot β ρc hr hρ hin' _;obtain ⟨h1,r1⟩:=acy fi.toList (fun x hx=>hρ x (hmem x (.inl hx)));obtain ⟨h2,r2⟩:=acy ca.toList (fun x hx=>hρ x (hmem x (.inr hx)));obtain ⟨Imm1,p1,p2,_⟩:=ag9 _ ha hr h1 r1 (by simp);simp only [aaj] at p1;obtain ⟨Imm2,q1,q2,_⟩:=ag9 _ hb p1.rel (AVVl.mono p1.imm (fun _ _=>rfl) p1.step _ _ r2 h2) r2 (by
    intro p hp;obtain ⟨_,fz,t,hp2⟩:=hin0 p hp;have h3:=hin' p hp;rw [hp2] at h3;exact ⟨fz,fz,t,hp2,h3⟩)
   simp only [newAt,List.append_nil];refine ⟨_,_,w,β,Imm2,hexec ρc w,.inl rfl,p1.trans q1,?_,by simp [aaa]⟩;simp only [AVV,PVV];exact ⟨_,_,PVVl.mono q1.imm (fun _ _=>rfl) _ _ p2,q2,rfl⟩
theorem ae7 {x:Operand} (hop:o.op=.nilCheck x) (h:(∃ b p,ρ x=.ptr b p)∨(∃ b v e i p,ρ x=.eptr b v e i p)∨∃ t,ρ x=.p (.fptr t)):aae P o ρ base { v:=ρ x }:=by
 refine aae.same fun H w Imm Prot β ρc hr hρ hin=>?_;have h1:=hρ x (by simp [hop,Op.operands]);refine ⟨ρc x,?_,h1⟩;have hp:∃ a,ρc x=.pointer (some a):=by
  rcases h with ⟨b,p,hx⟩ | ⟨b,v,e,i,p,hx⟩ | ⟨t,hx⟩
  · have h1:=h1.1;rw [hx] at h1;simp only [AVV,RefV,RefC] at h1;obtain ⟨_,_,_,_,h,_⟩:=h1; exact ⟨_,h⟩
  · have h1:=h1.1;rw [hx] at h1;simp only [AVV,RefV,RefC] at h1;obtain ⟨_,_,_,_,h,_⟩:=h1; exact ⟨_,h⟩
  · have h1:=h1.1;rw [hx] at h1;simp only [AVV,PVV] at h1;obtain ⟨_,_,_,_,_,_,h⟩:=h1; exact ⟨_,h⟩
 obtain ⟨a,ha⟩:=hp;simp [execOp,hop,ha]
end
end Go.Abs
