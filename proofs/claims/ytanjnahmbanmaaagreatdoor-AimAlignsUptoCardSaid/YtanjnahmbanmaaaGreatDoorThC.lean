import Derived.Test.YtanjnahmbanmaaaGreatDoorThB
import Derived.Laws.RangeString
import Derived.Lib.UnsafeStr
import Derived.Laws.BytesArg
import Derived.Orders
/- Parts of a proof. -/
set_option linter.unusedSimpArgs false
set_option linter.unusedVariables false
set_option linter.unusedSectionVars false
namespace Go.Abs
set_option linter.unusedSectionVars false
variable [Gl]
section
variable {P:Program} {w:World} {Imm Prot:Nat→Prop} {β:Bd} {H:Heap}
variable {o:Oper} {ρ:Operand→AV} {base:Nat}
open Go.MapKept
def aeU:PV→Prop
 | .st _ _=>False
 | _=>True
theorem apK {T:TypeId} {key:PV} (h:aeU key) (k:PV):eqK P T key k=eqP key k:=by
 cases key <;> first
  | exact h.elim
  | rfl
theorem alX {T:TypeId} {key:PV} (h:aeU key) (es:List (PV×PV)):aeq P T es key=aaY P T es key:=by
 cases key <;> first
  | exact h.elim
  | rfl
theorem afC {T:TypeId} {key:PV} {kv:Value} (h:abb P T key=true) (hl:aeU key) (hv:PVV P w Imm key kv):∃ d,P.underlying T=some d∧IsKey d kv:=by
 unfold abb at h
 split at h
 · split at h
   · rename_i hu;simp at h; subst h;simp only [PVV] at hv;subst hv;exact ⟨_,hu,by simp [IsKey]⟩
   · simp at h
 · simp only [PVV] at hv;obtain ⟨bs,rfl,_⟩:=hv;exact ⟨_,adQ h,by simp [IsKey]⟩
 · exact hl.elim
 · simp at h
theorem atC {T : TypeId} {d : TypeDesc} (hu : P.underlying T = some d) {key k' : PV} {kv v' : Value} {r : Bool} (h : abb P T key = true) (hl : aeU key) (he : eqP key k' = some r) (hv : PVV P w Imm key kv) (hv' : PVV P w Imm k' v') :
    Instr.sameNow d kv v'=some r∧(r=true→kv=v'):=by
 unfold abb at h
 split at h
 · split at h
   · rename_i hu';simp at h; subst h;rw [hu] at hu'; cases hu';cases k' <;> simp only [eqP] at he <;> try (simp at he; done)
     split at he
     · rename_i hk;subst hk;simp at he; subst he;simp only [PVV] at hv hv';subst hv; subst hv';simp [Instr.sameNow]
     · simp at he
   · simp at h
 · rename_i hs;have:=adQ h;rw [hu] at this; cases this;cases k' <;> simp only [eqP] at he <;> try (simp at he; done)
   simp at he; subst he;simp only [PVV] at hv hv';obtain ⟨a,rfl,e1⟩:=hv;obtain ⟨b,rfl,e2⟩:=hv';subst e1; subst e2;have hab:(List.map (fun x:UInt8=>x.toNat) a.data.toList=List.map (fun x:UInt8=>x.toNat) b.data.toList)↔a=b:=by
    constructor
    · intro h;have:=adN h;apply ByteArray.ext; apply Array.ext'; exact this
    · intro h; rw [h]
   by_cases hc:a=b
   · subst hc;simp [Instr.sameNow,MapKept.bytes_beq]
   · have h2:¬ (List.map (fun x:UInt8=>x.toNat) a.data.toList=List.map (fun x:UInt8=>x.toNat) b.data.toList):=fun h=>hc (hab.1 h);have h3:(a == b)=false:=by
      cases hb:(a == b) with
      | false=>rfl
      | true=>exact (hc ((MapKept.bytes_beq a b).1 hb)).elim
     simp [Instr.sameNow,h2,h3]
 · exact hl.elim
 · simp at h
theorem aky {T : TypeId} {d : TypeDesc} (hu : P.underlying T = some d) {key : PV} {kv : Value} (hk : abb P T key = true) (hlf : aeU key) (hkv : PVV P w Imm key kv) : ∀ (es : List (PV × PV)) (ents : List MapEntry) (i : Nat) (r : Option PV), PVM P w Imm es ents → aaY P T es key = some r →
    (r=none∧Instr.findNow d kv ents i=some none)∨∃ v j e,r=some v∧Instr.findNow d kv ents i=some (some (i+j,e.val))∧ents[j]?=some e∧PVV P w Imm v e.val∧e.key=kv ∧
     (∀ (x:PV) (xv:Value),PVV P w Imm x xv→PVM P w Imm (aa6 es key x) (ents.modify j fun e=>{ e with key:=kv,val:=xv }))
 | [],ents,i,r,hm,h=>by
  simp only [PVM] at hm;simp [aaY] at h;subst hm; subst h;exact .inl ⟨rfl,rfl⟩
 | (k',v')::es,ents,i,r,hm,h=>by
  simp only [PVM] at hm;obtain ⟨e,rest,rfl,h1,h2,h3⟩:=hm;simp only [aaY,apK hlf] at h
  split at h
  · rename_i he;simp at h; subst h;obtain ⟨g1,g2⟩:=atC hu hk hlf he hkv h1;refine .inr ⟨v',0,e,rfl,by simp [Instr.findNow,g1],rfl,h2,(g2 rfl).symm,fun x xv hx=>?_⟩;simp only [aa6,he,if_true];simp only [PVM];exact ⟨_,rest,rfl,hkv,hx,h3⟩
  · rename_i he;obtain ⟨g1,g2⟩:=atC hu hk hlf he hkv h1;rcases aky hu hk hlf hkv es rest (i+1) r h3 h with ⟨rfl,f1⟩ | ⟨v,j,e',rfl,f1,f2,f3,f4,f5⟩
    · exact .inl ⟨rfl,by simp [Instr.findNow,g1,f1]⟩
    · refine .inr ⟨v,j+1,e',rfl,by simp [Instr.findNow,g1,f1]; omega,by simpa using f2,f3,f4,fun x xv hx=>?_⟩;simp only [aa6,he];rw [if_neg (by simp)];simp only [PVM];exact ⟨e,_,by simp [List.modify_succ_cons],h1,h2,f5 x xv hx⟩
  · simp at h
theorem aiG {X : Array Value} {eqF : TypeId → PV → PV → Option Bool} (e : Bool) (n : Nat) :
    ∀ (fs : List Field) (l : List Nat) (xs : List PV) (r : Bool) (pre : List Value) (css : List (List Value)), eqTs P eqF (fs.map (·.type)) xs xs = some r → (∀ f ∈ fs, f.name ≠ "_" ∧ age P f.type = true) →
    (∀ (i:Nat) (f:Field),fs[i]?=some f→f.offset=pre.length+(l.take i).sum)→PVCl P w Imm l xs css →
    X.toList = pre ++ css.flatten → (forIn fs PUnit.unit (fun f _ => if f.name ≠ "_" then (do
     let x ← part f.type X f.offset
     Instr.checkKey e (n+1) f.type x
     pure (ForInStep.yield PUnit.unit)) else pure (ForInStep.yield PUnit.unit):Field→PUnit→Sem (ForInStep PUnit))).run P w=.ok PUnit.unit w
 | [],l,xs,r,pre,css,_,_,_,_,_=>by simp
 | f::fs,l,xs,r,pre,css,he,hn,ho,hx,hX=>by
  cases xs with
  | nil=>simp [eqTs] at he
  | cons a xs =>
   cases l with
   | nil=>simp [PVCl] at hx
   | cons m l =>
    simp only [List.map_cons,eqTs] at he
    split at he
    case isFalse=>simp at he
    rename_i hk
    split at he
    case h_2=>simp at he
    rename_i r1 r2 h1 h2;obtain ⟨c,cs,rfl,hc,hcl,hx'⟩:=aiW hx;obtain ⟨hn1,hn2⟩:=hn f (by simp);have ho0:f.offset=pre.length:=by simpa using ho 0 f (by simp)
    obtain ⟨x,x1,x2⟩:=afx hk.1 hc (pre:=pre) (post:=cs.flatten) (cs:=X) (by rw [hX]; simp);rw [← ho0] at x1;have ck:(Instr.checkKey e (n+1) f.type x).run P w=.ok () w:=by
     unfold age at hn2;unfold Instr.checkKey
     split at hn2
     · rename_i k hu;simp [run_underlying hu]
     · rename_i hu;simp [run_underlying hu]
     · rename_i hu;simp [run_underlying hu]
     · cases hn2
    have rest := aiG e n fs l xs r2 (pre ++ c) cs h2 (fun f hf => hn f (by simp [hf])) (by
        intro i g hg;have:=ho (i+1) g (by simpa using hg);rw [this,List.take_succ_cons,List.sum_cons,List.length_append,hcl]; omega) hx' (by rw [hX]; simp)
    rw [List.forIn_cons];simp only [hn1,ne_eq,not_false_eq_true,if_true,Sem.run_bind,x1,ck,Result.andThen_ok,Sem.run_pure];exact rest
theorem aj2 {T : TypeId} {flds : Array Field} {u : Nat} {fs : List PV} {kv : Value} (hu : P.underlying T = some (.struct flds)) (hall : flds.toList.all (fun f => f.name != "_" && age P f.type) = true) (he : (eqT P 9 T (.st u fs) (.st u fs)).isSome = true) (hv : PVV P w Imm (.st u fs) kv) (e : Bool) :
    (Instr.checkKey e 10000 T kv).run P w=.ok () w:=by
 obtain ⟨r,he⟩:=Option.isSome_iff_exists.1 he;unfold eqT at he;simp only [hu] at he
 split at he
 case isFalse=>simp at he
 rename_i hc;obtain ⟨hk,-,-,-⟩:=hc;simp only [PVV] at hv;obtain ⟨l,css,k1,k2,rfl⟩:=hv;obtain ⟨fs',l',s1,s2,s3,s4,s5,s6⟩:=acn (P:=P) (T:=T) (u:=u) (n:=flds.size) (by unfold abt; rw [hk,hu]);rw [hu] at s1; cases s1;rw [k1] at s4; cases s4;have key:=aiG (w:=w) (Imm:=Imm) (X:=css.flatten.toArray) e 9998 flds.toList l fs r [] css he (fun f hf=>by
  have:=List.all_eq_true.1 hall f hf;simpa using this) (by
   intro i f hf;have hi:i<flds.size:=by
    have:=(List.getElem?_eq_some_iff.1 hf).1; simpa using this
   obtain ⟨f',g1,g2,_⟩:=s6 i hi;rw [Array.getElem?_toList,g1] at hf;cases hf; simpa using g2) k2 (by simp)
 unfold Instr.checkKey;simp only [Sem.run_bind,run_underlying hu,Result.andThen_ok];rw [← Array.forIn_toList];rw [key];simp
theorem ain {T : TypeId} {u : Nat} {fs : List PV} {kv : Value} (hkv : PVV P w Imm (.st u fs) kv) : ∀ (es : List (PV × PV)) (ents : List MapEntry) (i : Nat) (r : Option PV), PVM P w Imm es ents → aaY P T es (.st u fs) = some r →
    (r=none∧(Instr.findAsking T kv ents i).run P w=.ok none w∧∀ x xv born,PVV P w Imm x xv→PVM P w Imm (aa6 es (.st u fs) x) (ents ++ [{ key:=kv,val:=xv,born }]))∨∃ (v:PV) (j:Nat) (e:MapEntry),r=some v∧(Instr.findAsking T kv ents i).run P w=.ok (some (i+j,e.val)) w∧PVV P w Imm v e.val
 | [],ents,i,r,hm,h=>by
  simp only [PVM] at hm;simp [aaY] at h;subst hm; subst h;refine .inl ⟨rfl,by simp [Instr.findAsking],fun x xv born hx=>?_⟩;simp only [aa6,PVM];exact ⟨_,[],rfl,hkv,hx,rfl⟩
 | (k',v')::es,ents,i,r,hm,h=>by
  simp only [PVM] at hm;obtain ⟨e,rest,rfl,h1,h2,h3⟩:=hm;simp only [aaY] at h;have eqr:∀ b,eqK P T (.st u fs) k'=some b→(Op.equal T kv e.key).run P w=.ok b w∧eqP (.st u fs) k'=some b:=by
   intro b hb;simp only [eqK] at hb
   split at hb
   · rename_i a c ha hc;cases a <;> cases c <;> simp at hb <;> subst hb <;>
     · obtain ⟨d,hd,hq⟩:=aha T kv e.key;rw [hq];exact ⟨aiq 9 T _ _ _ ha _ _ hkv h1 _ hd,hc⟩
   · simp at hb
  split at h
  · rename_i he;simp at h; subst h;obtain ⟨g1,g2⟩:=eqr _ he;exact .inr ⟨v',0,e,rfl,by simp [Instr.findAsking,g1],h2⟩
  · rename_i he;obtain ⟨g1,g2⟩:=eqr _ he;rcases ain hkv es rest (i+1) r h3 h with ⟨rfl,f1,f2⟩ | ⟨v,j,e',rfl,f1,f3⟩
    · refine .inl ⟨rfl,by simp [Instr.findAsking,g1,f1],fun x xv born hx=>?_⟩;simp only [aa6,g2];rw [if_neg (by simp)];simp only [PVM];exact ⟨e,_,rfl,h1,h2,f2 x xv born hx⟩
    · refine .inr ⟨v,j+1,e',rfl,?_,f3⟩;simp [Instr.findAsking,g1,f1]; omega
  · simp at h
theorem akz {T:TypeId} {flds:Array Field} (hu:P.underlying T=some (.struct flds)) {kv:Value} {ents:List MapEntry} {f:Option (Nat×Value)} (h:(Instr.findAsking T kv ents 0).run P w=.ok f w):(Instr.findKey T kv ents).run P w=.ok f w:=by
 unfold Instr.findKey;simp only [Sem.run_bind,run_underlying hu,Result.andThen_ok];cases ents with
 | nil =>
  simp only [Instr.findNow];simpa [Instr.findAsking] using h
 | cons e es =>
  have:Instr.findNow (.struct flds) kv (e::es) 0=none:=by simp [Instr.findNow,Instr.sameNow]
  rw [this];exact h
theorem agi {T : TypeId} {key : PV} (h : abb P T key = true) (hl : ¬ aeU key) : ∃ u fs flds, key = .st u fs ∧ P.underlying T = some (.struct flds) ∧ flds.toList.all (fun f => f.name != "_" && age P f.type) = true ∧ (eqT P 9 T (.st u fs) (.st u fs)).isSome = true := by
 cases key <;> first
  | exact (hl trivial).elim
  | skip
 rename_i u fs;simp only [abb] at h
 split at h
 · rename_i flds hu;rw [Bool.and_eq_true] at h;exact ⟨u,fs,flds,rfl,hu,h.1,h.2⟩
 · cases h
theorem apr {T : TypeId} {key : PV} {kv : Value} (hk : abb P T key = true) (hkv : PVV P w Imm key kv) {es : List (PV × PV)} {ents : List MapEntry} {r : Option PV} (hm : PVM P w Imm es ents) (h : aaY P T es key = some r) :
    (∀ e,(Instr.checkKey e 10000 T kv).run P w=.ok () w) ∧
    ((r=none∧(Instr.findKey T kv ents).run P w=.ok none w)∨∃ (v:PV) (j:Nat) (e:MapEntry),r=some v∧(Instr.findKey T kv ents).run P w=.ok (some (j,e.val)) w∧PVV P w Imm v e.val):=by
 by_cases hl:aeU key
 · obtain ⟨d,hd,hik⟩:=afC hk hl hkv;refine ⟨fun e=>run_checkKey hd hik _ 9999,?_⟩;rcases aky hd hk hl hkv es ents 0 r hm h with ⟨rfl,f1⟩ | ⟨v,j,e,rfl,f1,f2,f3,f4,_⟩
   · exact .inl ⟨rfl,run_findKey hd f1⟩
   · exact .inr ⟨v,0+j,e,rfl,run_findKey hd f1,f3⟩
 · obtain ⟨u,fs,flds,rfl,hu,h1,h2⟩:=agi hk hl;refine ⟨fun e=>aj2 hu h1 h2 hkv e,?_⟩;rcases ain hkv es ents 0 r hm h with ⟨rfl,f1,_⟩ | ⟨v,j,e,rfl,f1,f3⟩
   · exact .inl ⟨rfl,akz hu f1⟩
   · exact .inr ⟨v,0+j,e,rfl,akz hu f1,f3⟩
theorem ahh {T:TypeId} {key x:PV} {kv xv:Value} (hkv:PVV P w Imm key kv) (hx:PVV P w Imm x xv) (born:Nat):∀ (es:List (PV×PV)) (ents:List MapEntry),aeU key→PVM P w Imm es ents→aaY P T es key=some none→PVM P w Imm (aa6 es key x) (ents ++ [{ key:=kv,val:=xv,born }])
 | [],ents,_,hm,_=>by
  simp only [PVM] at hm;subst hm;simp only [aa6,PVM];exact ⟨_,[],rfl,hkv,hx,rfl⟩
 | (k',v')::es,ents,hlf,hm,h=>by
  simp only [PVM] at hm;obtain ⟨e,rest,rfl,h1,h2,h3⟩:=hm;simp only [aaY,apK hlf] at h
  split at h
  · simp at h
  · rename_i he;simp only [aa6,he];rw [if_neg (by simp)];simp only [PVM];exact ⟨e,_,rfl,h1,h2,ahh (T:=T) hkv hx born es rest hlf h3 h⟩
  · simp at h
def aqO (ok:Bool) (z:PV):Option PV→PV
 | some v=>if ok then .tup [v,.bool true] else v
 | none=>if ok then .tup [z,.bool false] else z
theorem aqN {T : TypeId} {KT E : TypeId} {x ix : Operand} {ok : Bool} {key z : PV} {r : Option PV} {es : List (PV × PV)} (hop : o.op = .lookup T x ix ok) (hT : agU P T = some (KT, E)) (hz : aaT P E = some z) (hk : abb P KT key = true) (hl : aaY P KT es key = some r)
    {ρc:Operand→Value} (hkv:PVV P w Imm key (ρc ix)) (hx:(ρc x=.map none∧es=[])∨∃ b ents clock,ρc x=.map (some b)∧w.heap[b]?=some (.map ents clock)∧PVM P w Imm es ents.toList) :
    ∃ cv,(execOp ρc o).run P w=.ok (.value cv) w∧PVV P w Imm (aqO ok z r) cv:=by
 have hmt:P.underlying T=some (.map KT E):=by
  unfold agU at hT
  split at hT
  · rename_i hu; simp at hT; rw [hu,hT.1,hT.2]
  · simp at hT
 obtain ⟨zv,z1,z2⟩:=arF hz;obtain ⟨ents,hents,hm⟩:∃ ents:Array MapEntry,((ρc x=.map none∧ents=#[])∨∃ b clock,ρc x=.map (some b)∧w.heap[b]?=some (.map ents clock))∧PVM P w Imm es ents.toList:=by
  rcases hx with ⟨hx,rfl⟩ | ⟨b,ents,clock,hx,hb,hm⟩
  · exact ⟨#[],.inl ⟨hx,rfl⟩,by simp [PVM]⟩
  · exact ⟨ents,.inr ⟨b,clock,hx,hb⟩,hm⟩
 obtain ⟨hck,hfind⟩:=apr hk hkv hm hl
 have fin : ∀ (f : Option (Nat × Value)) (v : Value) (b : Bool), (Instr.findKey KT (ρc ix) ents.toList).run P w = .ok f w → (f = none ∧ v = zv ∧ b = false ∨ ∃ j, f = some (j, v) ∧ b = true) →
     (execOp ρc o).run P w=.ok (.value (if ok then .tuple #[v,.bool b] else v)) w:=by
  intro f v b hf hfv;simp only [execOp,hop];refine aao ?_;rcases hfv with ⟨rfl,rfl,rfl⟩ | ⟨j,rfl,rfl⟩
  · rcases hents with ⟨hx,rfl⟩ | ⟨b,clock,hx,hb⟩
    · have hf:(Instr.findKey KT (ρc ix) []).run P w=.ok none w:=hf;cases ok <;> simp [Instr.lookup,run_underlying hmt,hx,hck,hf,z1]
    · cases ok <;> simp [Instr.lookup,run_underlying hmt,hx,MapKept.run_getObj_map hb,hck,hf,z1]
  · rcases hents with ⟨hx,rfl⟩ | ⟨b,clock,hx,hb⟩
    · have hf:(Instr.findKey KT (ρc ix) []).run P w=.ok (some (j,v)) w:=hf;cases ok <;> simp [Instr.lookup,run_underlying hmt,hx,hck,hf]
    · cases ok <;> simp [Instr.lookup,run_underlying hmt,hx,MapKept.run_getObj_map hb,hck,hf]
 rcases hfind with ⟨rfl,f1⟩ | ⟨v,j,e,rfl,f1,f3⟩
 · refine ⟨_,fin none zv false f1 (.inl ⟨rfl,rfl,rfl⟩),?_⟩;cases ok with
   | true=>simp only [aqO,if_true,PVV,PVVl]; exact ⟨_,⟨_,_,rfl,z2 w Imm,_,_,rfl,rfl,rfl⟩,rfl⟩
   | false=>simpa [aqO] using z2 w Imm
 · refine ⟨_,fin _ e.val true f1 (.inr ⟨_,rfl,rfl⟩),?_⟩;cases ok with
   | true=>simp only [aqO,if_true,PVV,PVVl]; exact ⟨_,⟨_,_,rfl,f3,_,_,rfl,rfl,rfl⟩,rfl⟩
   | false=>simpa [aqO] using f3
theorem aen {T : TypeId} {KT E : TypeId} {x ix : Operand} {ok : Bool} {key z : PV} {r : Option PV} {es : List (PV × PV)} {hin : List (Nat × Obj)} (hop : o.op = .lookup T x ix ok) (hT : agU P T = some (KT, E)) (hz : aaT P E = some z) (hi : ρ ix = .p key) (hk : abb P KT key = true) (hl : aaY P KT es key = some r)
    (hx:(ρ x=.p .nmap∧es=[])∨ρ x=.p (.fmap es)∨∃ b fz,ρ x=.map b∧(b,.map fz es)∈hin) :
    aae P o ρ base { v:=.p (aqO ok z r),hin }:=by
 refine aae.same fun H w Imm Prot β ρc hr hρ hin=>?_;have h1:=(hρ x (by simp [hop,Op.operands])).1;have h2:=(hρ ix (by simp [hop,Op.operands])).1;rw [hi] at h2;simp only [AVV] at h2;obtain ⟨cv,c1,c2⟩:=aqN hop hT hz hk hl (ρc:=ρc) (w:=w) (Imm:=Imm) h2 (by
  rcases hx with ⟨hx,rfl⟩ | hx | ⟨b,fz,hx,hm⟩
  · rw [hx] at h1; simp only [AVV,PVV] at h1; exact .inl ⟨h1,rfl⟩
  · rw [hx] at h1; simp only [AVV,PVV] at h1;obtain ⟨b,ents,clock,_,h3,h4,h5⟩:=h1;exact .inr ⟨b,ents,clock,h5,h3,h4⟩
  · rw [hx] at h1; simp only [AVV,RefV,RefC] at h1;have hob:=hin _ hm;obtain ⟨ents,clock,k1,k2,_⟩:=hr.objs b _ hob;exact .inr ⟨_,ents,clock,h1.2.1 ⟨_,_,hob⟩,k1,k2⟩)
 exact ⟨cv,c1,by simpa only [AVV] using c2,by simp [aaa]⟩
theorem aqG {T:TypeId} (hop:o.op=.makeMap T none):aae P o ρ base { v:=.map base,hnew:=[.map false []] }:=by
 intro H w Imm Prot β ρc hr hρ _ hholes;have hb:H[base]?=some .hole:=by simpa using hholes 0 (by simp)
 have hrun:(execOp ρc o).run P w=.ok (.value (.map (some w.heap.size))) { w with heap:=w.heap.push (.map #[] 0) }:=by
  simp only [execOp,hop];exact acP (by simp [Instr.makeMap])
 have hpost:=aeG (cap:=0) hr hb (ob:=.map #[] 0) (o':=.map false [])
  ⟨#[],0,by simp [Bd.at],by simp [PVM],by
   simp only [Held,Bd.at,if_true,Bool.false_eq_true,if_false];exact ⟨fun h=>Nat.lt_irrefl _ (hr.imm _ h),fun h=>Nat.lt_irrefl _ (hr.prot _ h)⟩⟩ trivial
 refine ⟨_,_,_,_,Imm,hrun,.inl rfl,hpost,?_,?_⟩
 · simp only [AVV,RefV,RefC,aa8];exact ⟨rfl,fun _=>by simp [Bd.at],fun ⟨L,hL⟩=>by rw [List.getElem?_set_self (List.getElem?_eq_some_iff.1 hb).1] at hL; cases hL⟩
 · simp only [aaa,aa8];exact ⟨_,List.getElem?_set_self (List.getElem?_eq_some_iff.1 hb).1,trivial⟩
theorem aoS (hr : HRel P w Imm β H Prot) {b : Nat} {o o' : Obj} (ho : H[b]? = some o) (hl : o.live) (hl' : o'.live) (hnh : ∀ v, o.has v → o'.has v) (hlo : ∀ L, o ≠ .loop L) {ob : Go.Obj}
    (_hb:β.blk b<w.heap.size) (hm:¬ Imm (β.blk b)∧¬ Prot (β.blk b)) (hst:aaG β H β (H.set b o'))
    (ho':ORel P { w with heap:=w.heap.setIfInBounds (β.blk b) ob } Imm β (H.set b o') Prot b o') (href:o'.refs (InH (H.set b o'))) :
    Post P Prot Imm w β H Imm { w with heap:=w.heap.setIfInBounds (β.blk b) ob } β (H.set b o'):=by
 refine Post.set hr (List.getElem?_eq_some_iff.1 ho).1 (fun _ _=>⟨rfl,rfl⟩) (fun _ x=>x) (fun _ x=>.inl x) (fun k hk=>by simpa using hr.imm k hk) (by simp)
  (fun k hk _=>?_) (fun _=>.inr ⟨rfl,⟨o,ho,hl⟩,.inr hm.1,hm.2⟩) hst ho' href (fun o1 v h1 h2=>by rw [ho] at h1; cases h1; exact hnh v h2) (fun L hL=>by rw [ho] at hL; cases hL; exact (hlo L rfl).elim)
 have hne:k≠β.blk b:=hk.resolve_right (fun h=>h hl');simp [Ne.symm hne]
theorem agI {T KT E : TypeId} {m k x : Operand} {b : Nat} {key v : PV} {es : List (PV × PV)} {r : Option PV} (hop : o.op = .mapUpdate T m k x ∨ o.op = .insert T m k x) (hT : agU P T = some (KT, E)) (hm : ρ m = .map b) (hk : ρ k = .p key) (hx : ρ x = .p v)
    (hf:abb P KT key=true) (hl:aeq P KT es key=some r):aae P o ρ base { v:=.p (.tup []),hin:=[(b,.map false es)],hset:=[(b,.map false (aa6 es key v))] }:=by
 have hmt:P.underlying T=some (.map KT E):=by
  unfold agU at hT
  split at hT
  · rename_i hu; simp at hT; rw [hu,hT.1,hT.2]
  · simp at hT
 intro H w Imm Prot β ρc hr hρ hin _;have hob:H[b]?=some (.map false es):=by simpa using hin
 have hmem:m∈o.op.operands∧k∈o.op.operands∧x∈o.op.operands:=by
  rcases hop with hop | hop <;> simp [hop,Op.operands]
 have h1:=(hρ m hmem.1).1;have h2:=(hρ k hmem.2.1).1;have h3:=(hρ x hmem.2.2).1;rw [hm] at h1; rw [hk] at h2; rw [hx] at h3;simp only [AVV,RefV,RefC] at h1 h2 h3;have h1:=h1.2.1 ⟨_,_,hob⟩;obtain ⟨ents,clock,k1,k2,k3⟩:=hr.objs b _ hob;have hheld:¬ Imm (β.blk b)∧¬ Prot (β.blk b):=by
  unfold Held at k3; rw [if_neg (by simp)] at k3; exact k3
 have hlm:aaY P KT es key=some r:=by
  by_cases hlf:aeU key
  · rw [← alX hlf]; exact hl
  · obtain ⟨u,fs,flds,rfl,_⟩:=agi hf hlf;simp only [aeq] at hl
    split at hl
    · rename_i hq; rw [hq]; exact hl
    · cases hl
 have hck:=(apr hf h2 k2 hlm).1 false;have hbl:β.blk b<w.heap.size:=(Array.getElem?_eq_some_iff.1 k1).1;have hst:aaG β H β (H.set b (.map false (aa6 es key v))):=acW hob (.inr (.inr (.inl ⟨_,_,_,_,rfl,rfl⟩)))
 have fin : ∀ (ents' : Array MapEntry) (clock' : Nat), (Instr.mapUpdate T (ρc m) (ρc k) (ρc x)).run P w = .ok () { w with heap := w.heap.setIfInBounds (β.blk b) (.map ents' clock') } → PVM P w Imm (aa6 es key v) ents'.toList →
     ∃ n cv w' β' Imm',(execOp ρc o).run P w=.ok n w'∧(n=.value cv∨n=.skip∧cv=undef) ∧
     Post P Prot Imm w β H Imm' w' β' (aaj H ([(b,.map false (aa6 es key v))] ++ newAt base []))∧AVV P w' Imm' β' (aaj H ([(b,.map false (aa6 es key v))] ++ newAt base [])) (.p (.tup [])) cv ∧
     aaa (InH (aaj H ([(b,.map false (aa6 es key v))] ++ newAt base []))) (.p (.tup [])):=by
  intro ents' clock' hrun hpv;have hex:(execOp ρc o).run P w=.ok .skip { w with heap:=w.heap.setIfInBounds (β.blk b) (.map ents' clock') }:=by
   rcases hop with hop | hop <;> simp [execOp,hop,hrun]
  have hsame:∀ k',Imm k'→({ w with heap:=w.heap.setIfInBounds (β.blk b) (.map ents' clock') }:World).heap[k']?=w.heap[k']?:=by
   intro k' hki;have:β.blk b≠k':=fun he=>hheld.1 (he▸hki);simp [this]
  refine ⟨_,_,_,β,Imm,hex,.inr ⟨rfl,rfl⟩,?_,by simp [AVV,PVV,PVVl,undef],by simp [aaa]⟩;simp only [newAt,List.append_nil,aaj];exact aoS (o':=.map false (aa6 es key v)) hr hob trivial trivial (fun _ h=>h) (fun _ h=>by cases h) hbl hheld hst ⟨ents',clock',by simp [hbl],PVM.mono (fun _ x=>x) hsame _ _ hpv,k3⟩ trivial
 by_cases hlf:aeU key
 case neg =>
  obtain ⟨u,fs,flds,rfl,hu,_,_⟩:=agi hf hlf;have hr0:r=none:=by
   simp only [aeq] at hl
   split at hl
   · simpa using hl.symm
   · cases hl
  subst hr0;rcases ain h2 es ents.toList 0 none k2 hlm with ⟨_,f1,f2⟩ | ⟨v',j,e,h0,_⟩
  · have hfk:=akz hu f1;refine fin (ents.push { key:=ρc k,val:=ρc x,born:=clock }) (clock+1) ?_ ?_
    · rw [h1];simp only [Instr.mapUpdate,Sem.run_bind,run_underlying hmt,Result.andThen_ok,MapKept.run_getObj_map k1,hck,hfk,run_setObj_map _ k1]
    · rw [Array.toList_push];exact f2 v (ρc x) clock h3
  · cases h0
 obtain ⟨d,hd,hik⟩:=afC hf hlf h2;rcases aky hd hf hlf h2 es ents.toList 0 r k2 hlm with ⟨rfl,f1⟩ | ⟨v',j,e,rfl,f1,f2,f3,f4,f5⟩
 · have hfk:=run_findKey (w:=w) hd f1;refine fin (ents.push { key:=ρc k,val:=ρc x,born:=clock }) (clock+1) ?_ ?_
   · rw [h1];simp only [Instr.mapUpdate,Sem.run_bind,run_underlying hmt,Result.andThen_ok,MapKept.run_getObj_map k1,hck,hfk,run_setObj_map _ k1]
   · rw [Array.toList_push];exact ahh (T:=KT) h2 h3 clock es ents.toList hlf k2 hlm
 · have hfk:=run_findKey (w:=w) hd f1;have hj:ents[j]?=some e:=by simpa using f2
   refine fin (ents.modify j fun e=>{ e with key:=ρc k,val:=ρc x }) clock ?_ ?_
   · rw [h1];simp only [Instr.mapUpdate,Sem.run_bind,run_underlying hmt,Result.andThen_ok,MapKept.run_getObj_map k1,hck,hfk];simp only [Nat.zero_add,hj,Option.map_some,Option.getD_some,f4,run_keyThatStays hik,Result.andThen_ok,run_setObj_map _ k1]
   · rw [Array.toList_modify];exact f5 v (ρc x) h3
end
section
variable {P:Program} {w:World} {Imm Prot:Nat→Prop} {β:Bd} {H:Heap}
variable {o:Oper} {ρ:Operand→AV} {base:Nat}
theorem amX (bs:ByteArray):toBA (acm bs)=bs:=by
 unfold toBA acm;apply ByteArray.ext;apply Array.ext';simp only [List.map_map];have:(UInt8.ofNat∘fun x:UInt8=>x.toNat)=id:=by funext x; simp
 rw [this]; simp
theorem avB {T:TypeId} {x:Operand} {s:List Nat} (hop:o.op=.range T x) (hx:ρ x=.p (.str s)) (hT:abY P T=true):aae P o ρ base { v:=.ptr base [],hnew:=[.siter s 0] }:=by
 intro H w Imm Prot β ρc hr hρ _ hholes;have hb:H[base]?=some .hole:=by simpa using hholes 0 (by simp)
 have h1:=(hρ x (by simp [hop,Op.operands])).1;rw [hx] at h1;simp only [AVV,PVV] at h1;obtain ⟨bs,e1,e2⟩:=h1;have hrun:(execOp ρc o).run P w=.ok (.value (.pointer (some ⟨w.heap.size,0,none⟩))) { w with heap:=w.heap.push (.stringIter bs 0) }:=by
  simp only [execOp,hop,e1];exact acP (by simp [Instr.range,run_underlying (adQ hT)])
 have hpost:=aeG (cap:=0) hr hb (ob:=.stringIter bs 0) (o':=.siter s 0)
  ⟨bs,by simp [Bd.at],e2,by
   simp only [Held,Bd.at,if_true,Bool.false_eq_true,if_false];exact ⟨fun h=>Nat.lt_irrefl _ (hr.imm _ h),fun h=>Nat.lt_irrefl _ (hr.prot _ h)⟩⟩ trivial
 refine ⟨_,_,_,_,Imm,hrun,.inl rfl,hpost,?_,?_⟩
 · simp only [AVV,RefV,RefC,aa8];exact ⟨rfl,_,_,0,rfl,rfl,fun _=>by simp [Bd.at]⟩
 · simp only [aaa,aa8];exact ⟨_,List.getElem?_set_self (List.getElem?_eq_some_iff.1 hb).1,trivial⟩
theorem op_next {it : Operand} {b : Nat} {s : List Nat} {pos : Nat} (hop : o.op = .next it true) (hx : ρ it = .ptr b []) :
    (pos<s.length→aae P o ρ base { v:=.p (.tup [.bool true,.int .i64 pos,.int .i32 (Utf8.decode (toBA s) pos).1]),hin:=[(b,.siter s pos)],hset:=[(b,.siter s (pos+(Utf8.decode (toBA s) pos).2))] }) ∧
    (¬ pos<s.length→aae P o ρ base { v:=.p (.tup [.bool false]),hin:=[(b,.siter s pos)] }):=by
 have key : ∀ {H : Heap} {w : World} {Imm Prot : Nat → Prop} {β : Bd} {ρc : Operand → Value}, HRel P w Imm β H Prot → (∀ x ∈ o.op.operands, AVV P w Imm β H (ρ x) (ρc x) ∧ aaa (InH H) (ρ x)) → H[b]? = some (.siter s pos) →
     ρc it=.pointer (some ⟨β.blk b,0,none⟩)∧∃ bs:ByteArray,w.heap[β.blk b]?=some (.stringIter bs pos)∧s=acm bs∧(¬ Imm (β.blk b)∧¬ Prot (β.blk b)):=by
  intro H w Imm Prot β ρc hr hρ hob;have h1:=(hρ it (by simp [hop,Op.operands])).1;rw [hx] at h1;simp only [AVV,RefV,RefC] at h1;obtain ⟨_,blk,off,oo,h2,h3,h4⟩:=h1;simp [aaW] at h3;subst h3;obtain ⟨rfl,rfl⟩:=h4 (.inr ⟨_,_,hob⟩);obtain ⟨bs,k1,k2,k3⟩:=hr.objs b _ hob;unfold Held at k3; rw [if_neg (by simp)] at k3;exact ⟨h2,bs,k1,k2,k3⟩
 constructor
 · intro hpos H w Imm Prot β ρc hr hρ hin _;have hob:H[b]?=some (.siter s pos):=by simpa using hin
   obtain ⟨h1,bs,k1,rfl,k3⟩:=key hr hρ hob;have hsz:pos<bs.size:=by simpa [acm] using hpos
   have hbl:β.blk b<w.heap.size:=(Array.getElem?_eq_some_iff.1 k1).1;rw [amX];have hrun:(execOp ρc o).run P w=.ok (.value (.tuple #[.bool true,goInt pos,.int .i32 (Utf8.decode bs pos).1])) { w with heap:=w.heap.setIfInBounds (β.blk b) (.stringIter bs (pos+(Utf8.decode bs pos).2)) }:=by
    simp only [execOp,hop,h1];refine acP ?_;simp [Instr.next,getObj,setObj,Sem.run,k1,Result.andThen,hsz]
   have hst:aaG β H β (H.set b (.siter (acm bs) (pos+(Utf8.decode bs pos).2))):=acW hob (.inr (.inr (.inr ⟨_,_,_,rfl,rfl⟩)));have hpost:=aoS (o':=.siter (acm bs) (pos+(Utf8.decode bs pos).2)) (ob:=.stringIter bs (pos+(Utf8.decode bs pos).2)) hr hob trivial trivial (fun _ h=>h) (fun _ h=>by cases h) hbl k3 hst
    ⟨bs,by simp [hbl],rfl,by unfold Held; rw [if_neg (by simp)]; exact k3⟩ trivial
   refine ⟨_,_,_,β,Imm,hrun,.inl rfl,?_,?_,by simp [aaa]⟩
   · simpa only [newAt,List.append_nil,aaj] using hpost
   · simp only [AVV,PVV,PVVl];exact ⟨_,⟨_,_,rfl,rfl,_,_,rfl,rfl,_,_,rfl,rfl,rfl⟩,rfl⟩
 · intro hpos;refine aae.same fun H w Imm Prot β ρc hr hρ hin=>?_;have hob:H[b]?=some (.siter s pos):=by simpa using hin
   obtain ⟨h1,bs,k1,rfl,k3⟩:=key hr hρ hob;have hsz:¬ pos<bs.size:=by simpa [acm] using hpos
   refine ⟨.tuple #[.bool false],?_,by simp only [AVV,PVV,PVVl]; exact ⟨_,⟨_,_,rfl,rfl,rfl⟩,rfl⟩,by simp [aaa]⟩;simp only [execOp,hop,h1];refine aao ?_;simp [Instr.next,getObj,Sem.run,k1,Result.andThen,hsz]
theorem avC {T u : TypeId} {x : Operand} {f : Nat} {fs : Array Field} {t g : PV} {F : TypeId} (hop : o.op = .field T x f) (hk : kindOf P T = .agg u) (hu : P.underlying T = some (.struct fs)) (hx : ρ x = .p t) (hs : shp t = .agg u) (hg : (flds t)[f]? = some g) (hF : (aaX P u)[f]? = some F) (hkF : kindOf P F = shp g) :
    aae P o ρ base { v:=.p g }:=by
 refine aae.same fun H w Imm Prot β ρc hr hρ _=>?_;have h1:=(hρ x (by simp [hop,Op.operands])).1;rw [hx] at h1;simp only [AVV] at h1;cases t <;> simp [shp] at hs;rename_i u' gs;subst hs;simp only [flds] at hg;simp only [PVV] at h1;obtain ⟨l,css,k1,k2,k3⟩:=h1;obtain ⟨fs',l',s1,s2,s3,s4,s5,s6⟩:=acn (P:=P) (T:=T) (u:=u') (n:=fs.size) (by unfold abt; rw [hk,hu]);rw [hu] at s1; cases s1;rw [k1] at s4; cases s4;have hrow:AVCl P w Imm ⟨id,id⟩ [] l (gs.map .p) css:=acE.2 k2;obtain ⟨pre,c,post,e1,e2,e3,e4,e5,_⟩:=agA (f:=.p g) (i:=f) hrow (by simp [hg]);simp only [AVC] at e5;obtain ⟨fl,g1,g2,g3,g4,g5⟩:=s6 f (by omega);rw [hF] at g5; cases g5;obtain ⟨y,y1,y2⟩:=afx hkF e5 (pre:=pre) (post:=post) (cs:=css.flatten.toArray) (by simpa using e1);refine ⟨y,?_,by simpa only [AVV] using y2,by simp [aaa]⟩;simp only [execOp,hop,k3];refine aao ?_;rw [e2,← g2] at y1;simp only [Instr.field,Sem.run_bind,run_underlying hu,Result.andThen_ok,g1];simp [asAgg,y1]
theorem anp {T u : TypeId} {n : Nat} {x ix : Operand} {kk : IntKind} {i : Int} {es : List PV} {g : PV} {F : TypeId} (hop : o.op = .index T x ix) (hT : arrT P T = some (u, n)) (hx : ρ x = .p (.st u es)) (hi : ρ ix = .p (.int kk i))
    (h0:0≤i) (hn:i.toNat<n) (hF:(aaX P u)[i.toNat]?=some F) (hg:es[i.toNat]?=some g) (hkF:kindOf P F=shp g):aae P o ρ base { v:=.p g }:=by
 refine aae.same fun H w Imm Prot β ρc hr hρ _=>?_;have h1:=(hρ x (by simp [hop,Op.operands])).1;have h2:=(hρ ix (by simp [hop,Op.operands])).1;rw [hx] at h1; rw [hi] at h2;simp only [AVV,PVV] at h1 h2;obtain ⟨l,css,k1,k2,k3⟩:=h1;obtain ⟨e,hu,hk,hl,hpos⟩:=aew hT;rw [k1] at hl; cases hl;have hcF:F=e:=by
  obtain ⟨he,_,_⟩:=agf hk;have hd:(P.info? u).map (fun i:TypeInfo=>i.desc)=some (.array n e):=by rw [he,← ady,hu]
  unfold aaX at hF;rw [hd] at hF;have hF':(List.replicate n e)[i.toNat]?=some F:=hF;rw [List.getElem?_replicate,if_pos hn] at hF';exact (Option.some.inj hF').symm
 subst hcF;have hrow:AVCl P w Imm ⟨id,id⟩ [] (List.replicate n (P.cellsOf F)) (es.map .p) css:=acE.2 k2;obtain ⟨pre,c,post,e1,e2,e3,e4,e5,_⟩:=agA (f:=.p g) (i:=i.toNat) hrow (by simp [hg]);simp only [AVC] at e5;obtain ⟨y,y1,y2⟩:=afx hkF e5 (pre:=pre) (post:=post) (cs:=css.flatten.toArray) (by simpa using e1);have hsum:((List.replicate n (P.cellsOf F)).take i.toNat).sum=i.toNat*P.cellsOf F:=by rw [List.take_replicate,Nat.min_eq_left (by omega),List.sum_replicate_nat]
 have hsz:(sizeOf F).run P w=.ok (P.cellsOf F) w:=by
  cases hi:P.info? F with
  | none=>simp [Program.cellsOf,hi] at hpos
  | some i=>simp [sizeOf,typeInfo,hi,Program.cellsOf]
 refine ⟨y,?_,by simpa only [AVV] using y2,by simp [aaa]⟩;simp only [execOp,hop,k3,h2];refine aao ?_;have hlt':i<(n:Int):=by omega
 rw [e2,hsum] at y1;simp only [Instr.index,asIntOf,Sem.run_bind,Sem.run_pure,run_underlying hu,Result.andThen_ok];simp [h0,hlt',hsz,y1]
theorem ah4 {k : IntKind} {isMax : Bool} {ρc : Operand → Value} : ∀ (l : List Operand) (a n : Int), acO k isMax (l.map ρ) a = some n → (∀ x ∈ l, AVV P w Imm β H (ρ x) (ρc x)) →
    ((l.map ρc).foldlM (if isMax then Builtin.max2 else Builtin.min2) (.int k a)).run P w=.ok (.int k n) w
 | [],a,n,h,_=>by simp [acO] at h; subst h; simp
 | x::l,a,n,h,hv=>by
  simp only [List.map_cons] at h;unfold acO at h
  split at h
  · rename_i e; cases e
  · rename_i k' b r a' e;simp at e;obtain ⟨e1,rfl⟩:=e
    split at h
    case isFalse=>simp at h
    rename_i hk;subst hk;have h1:=hv x (by simp);rw [e1] at h1;simp only [AVV,PVV] at h1;have ih:=ah4 l _ n h (fun y hy=>hv y (by simp [hy]));simp only [List.map_cons,List.foldlM_cons,Sem.run_bind,h1];cases isMax with
    | true=>simp only [if_true,Builtin.max2,Sem.run_pure,Result.andThen_ok] at ih ⊢; exact ih
    | false=>simp only [Bool.false_eq_true,if_false,Builtin.min2,Sem.run_pure,Result.andThen_ok] at ih ⊢; exact ih
  · simp at h
theorem alF {c : Call} {isMax : Bool} {k : IntKind} {a n : Int} {r : List AV} (hop : o.op = .call c) (hc : c.callee = .builtin (if isMax then .max else .min)) (ha : c.args.toList.map ρ = .p (.int k a) :: r) (h : acO k isMax r a = some n) :
    aae P o ρ base { v:=.p (.int k n) }:=by
 obtain ⟨x,l,hl⟩:∃ x l,c.args.toList=x::l:=by
  cases hh:c.args.toList with
  | nil=>rw [hh] at ha; simp at ha
  | cons x l=>exact ⟨x,l,rfl⟩
 rw [hl] at ha;simp at ha;obtain ⟨hx,rfl⟩:=ha;have hargs:c.args=(x::l).toArray:=by apply Array.ext'; simpa using hl
 have hmem:∀ y∈x::l,y∈o.op.operands:=by
  intro y hy;rw [hop]; simp only [Op.operands,Call.operands,hc,hargs];simpa using hy
 refine aae.same fun H w Imm Prot β ρc hr hρ _=>⟨.int k n,?_,by simp [AVV,PVV],by simp [aaa]⟩
 have h1:=(hρ x (hmem x (by simp))).1;rw [hx] at h1;simp only [AVV,PVV] at h1;have h2:=ah4 (ρc:=ρc) l a n h (fun y hy=>(hρ y (hmem y (by simp [hy]))).1);simp only [execOp,hop,resolve,hc,hargs];cases isMax with
 | true =>
  simp only [if_true] at h2 ⊢;simp [invoke,builtin,Builtin.max_,h1,h2]
 | false =>
  simp only [Bool.false_eq_true,if_false] at h2 ⊢;simp [invoke,builtin,Builtin.min_,h1,h2]
theorem op_copy {c : Call} {d x : Operand} {sz b ver off len : Nat} {k : AK} {es xs : List AV} {H0 : Heap} (hop : o.op = .call c) (hc : c.callee = .builtin .copy) (ha : c.args.toList = [d, x]) (hts : c.argTypes.size = 2) (hE : aax P (c.argTypes.getD 0 0) = some sz)
    (hd:ρ d=.sl b ver sz off len) (hx:aa4 H0 (ρ x)=some xs) (hsh:abj P sz xs) (hk:k≠.frozen) (hl:off+len≤es.length) (hnn:¬ aam k es) :
    aae P o ρ base { v:=.p (.int .i64 (min xs.length len:Nat)),hin:=(b,.arr k ver sz es)::aas H0 (ρ x),hset:=[(b,.arr k ver sz (es.take off ++ xs.take (min xs.length len) ++ es.drop (off+min xs.length len)))] }:=by
 obtain ⟨T,X,hTX⟩:∃ T X,c.argTypes=#[T,X]:=by
  obtain ⟨l,hl⟩:∃ l,l=c.argTypes.toList:=⟨_,rfl⟩
  have h2:l.length=2:=by rw [hl]; simpa using hts
  match l,h2 with
  | [a,b],_=>exact ⟨a,b,by apply Array.ext'; simp [← hl]⟩
 have hmem:d∈o.op.operands∧x∈o.op.operands:=by
  have hargs:c.args=#[d,x]:=by apply Array.ext'; simpa using ha
  rw [hop]; simp [Op.operands,Call.operands,hc,hargs]
 have e1:c.argTypes.getD 0 0=T:=by rw [hTX]; rfl
 rw [e1] at hE;obtain ⟨e,i,hE⟩:=aaM hE;intro H w Imm Prot β ρc hr hρ hin _;have hob:H[b]?=some (.arr k ver sz es):=hin (b,_) (by simp);have h1:=(hρ d hmem.1).1;rw [hd] at h1;simp only [AVV,RefV,RefC] at h1;obtain ⟨_,_,h1⟩:=h1.2 k es hob;have h1:=h1 hnn;rcases hr.objs b _ hob with hold | ⟨cs,T',css,rest,k1,k2,k3,k4,k5,k6,k7,k8⟩
 · exact (hnn hold).elim
 have hheld:¬ Imm (β.blk b)∧¬ Prot (β.blk b):=by
  unfold Held at k7; rw [if_neg (by simpa using hk)] at k7; exact k7
 obtain ⟨xcss,x1,x2,x3,x4⟩:=ahs (abi hx (fun p hp=>hin p (List.mem_cons_of_mem _ hp))) hr (hρ x hmem.2).1 (hρ x hmem.2).2 hsh;obtain ⟨n,hn⟩:∃ n,n=min xs.length len:=⟨_,rfl⟩
 rw [← hn];have x5:=x4 w rfl n (by omega);obtain ⟨y,m,z,g1,g2,g3,g4,g5⟩:=ab1 x1 0 n (by omega);have hy:y=[]:=by have:=(aar g4).1; simpa using this
 subst hy;have hm:xcss.take n=m:=by
  have:=(aar g2).1;rw [g1]; simp at this ⊢; rw [List.take_left' (by omega)]
 rw [hm] at x5;simp only [List.drop_zero] at g2;obtain ⟨a,m',z',f1,f2,f3,f4,f5⟩:=ab1 k2 off n (by omega);have hml:m.flatten.length=n*sz:=by have:=(aar g2).2; rw [this]; congr 1; simp; omega
 have hml':m'.flatten.length=n*sz:=by have:=(aar f2).2; rw [this]; congr 1; simp; omega
 have hcs:cs.toList=a.flatten ++ m'.flatten ++ (z'.flatten ++ rest):=by rw [k3,f1]; simp
 have hsize:cs.size=a.flatten.length+m'.flatten.length+(z'.flatten ++ rest).length:=by
  have:=congrArg List.length hcs; simp only [List.length_append,Array.length_toList] at this; rw [this,List.length_append]
 have hst2:=run_storeCells_at P (β.blk b) (off*sz) T' m.flatten 0 cs w k1 (by rw [hsize,f3,hml,hml']; simp only [Nat.add_zero]; exact Nat.le_add_right _ _) (aiV g2);simp only [Nat.add_zero] at hst2;have hnew:cs.toList.take (off*sz) ++ m.flatten ++ cs.toList.drop (off*sz+m.flatten.length)=a.flatten ++ m.flatten ++ (z'.flatten ++ rest):=by
  rw [hcs,← f3,hml,← hml']; exact ae1 _ _ _ _
 rw [hnew] at hst2;have hrun:(Builtin.copy_ c.argTypes o.type #[ρc d,ρc x]).run P w=.ok (goInt n) (w.setRow (β.blk b) (a.flatten ++ m.flatten ++ (z'.flatten ++ rest)).toArray):=by
  rw [hTX,h1];have hn':Nat.min xs.length len=n:=hn.symm;have hl2:∀ (p:Option Addr) (n c:Nat),Builtin.lenOf (.slice p n c)=pure n:=fun _ _ _=>rfl;simp [Builtin.copy_,run_underlying hE.und,x3,hn',hE.run,x5,hst2]
 have hnl:(es.take off ++ xs.take n ++ es.drop (off+n)).length=es.length:=by simp; omega
 have hst:aaG β H β (H.set b (.arr k ver sz (es.take off ++ xs.take n ++ es.drop (off+n)))):=acW hob (.inr (.inl ⟨_,_,_,_,_,rfl,rfl,hnl.symm⟩));have hsame:∀ k',Imm k'→(w.setRow (β.blk b) (a.flatten ++ m.flatten ++ (z'.flatten ++ rest)).toArray).heap[k']?=w.heap[k']?:=fun k' hki=>setRow_other w _ k' _ (fun he=>hheld.1 (he▸hki));have hrefs:aac (InH H) (es.take off ++ xs.take n ++ es.drop (off+n)):=by
  have hre:=aag.1 (hr.refs b _ hob);refine aav (aav ?_ ?_) ?_
  · rw [aag]; exact fun v hv=>hre v (List.mem_of_mem_take hv)
  · rw [aag]; exact fun v hv=>aag.1 x2 v (List.mem_of_mem_take hv)
  · rw [aag]; exact fun v hv=>hre v (List.mem_of_mem_drop hv)
 have hin':=acU hob (o:=.arr k ver sz (es.take off ++ xs.take n ++ es.drop (off+n))) (fun _ h=>h);have hnn':¬ aam k (es.take off ++ xs.take n ++ es.drop (off+n)):=fun h=>hnn ⟨h.1,by have h2:=h.2; rw [← List.length_eq_zero_iff] at h2 ⊢; rw [hnl] at h2; exact h2⟩;have hpost:=ab4 hr hob hnn (o':=.arr k ver sz (es.take off ++ xs.take n ++ es.drop (off+n))) hnn' (fun _ h=>h) k1 (new:=(a.flatten ++ m.flatten ++ (z'.flatten ++ rest)).toArray) hheld hst
  (.inr ⟨_,T',a ++ m ++ z',rest,setRow_heap w _ _ _ T' _ k1,by
   refine Row.mono (fun _ x=>x) hsame hst hrefs (aa0.2 ⟨_,_,rfl,aa0.2 ⟨_,_,rfl,f4,g2⟩,f5⟩),by simp,by
   rw [← k4,hsize]; simp only [List.size_toArray,List.length_append,hml,hml'],by rw [hnl]; exact k5,fun he=>by rw [hnl]; exact k6 he,k7,(fun hke=>(hk hke).elim),k8.2⟩) (aac.mono hin' _ hrefs)
 refine ⟨_,_,_,β,Imm,atB hop hc ha hrun,.inl rfl,?_,by simp [AVV,PVV,goInt],by simp [aaa]⟩;simpa only [newAt,List.append_nil,aaj] using hpost
end
section
variable {P:Program} {w:World} {Imm Prot:Nat→Prop} {β:Bd} {H:Heap}
variable {o:Oper} {ρ:Operand→AV} {base:Nat}
theorem akg {c:Call} {x:Operand} (hop:o.op=.call c) {b:Builtin} (hc:c.callee=.builtin b) (ha:c.args.toList=[x]):x∈o.op.operands∧c.args=#[x]:=by
 have hargs:c.args=#[x]:=by apply Array.ext'; simpa using ha
 refine ⟨?_,hargs⟩;rw [hop]; simp only [Op.operands,Call.operands,hc,hargs]; simp
theorem adP {T:TypeId} {a:AV} (h:adb P T a=true) (hs:(∃ b v e i l,a=.sl b v e i l)∨a=.p .nsl∨∃ f es,a=.p (.lst f es)):∃ e,P.underlying T=some (.slice e):=by
 rcases hs with ⟨b,v,e,i,l,rfl⟩ | rfl | ⟨f,es,rfl⟩ <;>
 · simp only [adb] at h
   split at h
   · rename_i e hu; exact ⟨e,hu⟩
   · simp at h
theorem op_cap {c : Call} {x : Operand} {n : Nat} {hin : List (Nat × Obj)} {H0 : Heap} (hop : o.op = .call c) (hc : c.callee = .builtin .cap) (ha : c.args.toList = [x]) (hl : awn H0 (ρ x) = some (n, hin)) (hT : adb P (c.argTypes.getD 0 0) (ρ x) = true) (hts : 0 < c.argTypes.size) :
    aae P o ρ base { v:=.p (.int .i64 n),hin }∧(∀ p∈hin,H0[p.1]?=some p.2):=by
 obtain ⟨hmem,hargs⟩:=akg hop hc ha;have hat:c.argTypes[0]?=some (c.argTypes.getD 0 0):=by simp [Array.getD,hts]
 generalize c.argTypes.getD 0 0=T at *
 have fin : ∀ {H : Heap} {w : World} {Imm : Nat → Prop} {β : Bd} {ρc : Operand → Value}, (∃ p l, ρc x = .slice p l n) → (∃ e, P.underlying T = some (.slice e)) →
     ∃ cv,(execOp ρc o).run P w=.ok (.value cv) w∧AVV P w Imm β H (.p (.int .i64 n)) cv∧aaa (InH H) (.p (.int .i64 n)):=by
  rintro H w Imm β ρc ⟨p,l,hx⟩ ⟨e,hu⟩;refine ⟨goInt n,?_,by simp [AVV,PVV,goInt],by simp [aaa]⟩;simp only [execOp,hop,resolve,hc,hargs];simp [invoke,builtin,Builtin.cap_,hat,hx,run_underlying hu]
 unfold awn at hl
 split at hl
 · rename_i hx;simp at hl; obtain ⟨rfl,rfl⟩:=hl;refine ⟨aae.same fun H w Imm Prot β ρc hr hρ hin=>fin ?_ (adP hT (.inr (.inl hx))),by simp⟩;have h1:=(hρ x hmem).1;rw [hx] at h1; simp only [AVV,PVV] at h1;exact ⟨_,_,h1⟩
 · rename_i es hx;simp at hl; obtain ⟨rfl,rfl⟩:=hl;refine ⟨aae.same fun H w Imm Prot β ρc hr hρ hin=>fin ?_ (adP hT (.inr (.inr ⟨_,_,hx⟩))),by simp⟩;have h1:=(hρ x hmem).1;rw [hx] at h1; simp only [AVV,PVV] at h1;obtain ⟨_,_,cap,_,_,_,_,_,h2,_,_,_,h3⟩:=h1;exact ⟨_,_,by rw [h3,h2 trivial]⟩
 · rename_i b ver esz off len hx
   split at hl
   case h_2=>simp at hl
   rename_i ver' esz' es hob
   split at hl
   case isFalse=>simp at hl
   rename_i hcond;obtain ⟨rfl,rfl,hle⟩:=hcond;simp at hl; obtain ⟨rfl,rfl⟩:=hl;refine ⟨aae.same fun H w Imm Prot β ρc hr hρ hin=>fin ?_ (adP hT (.inl ⟨_,_,_,_,_,hx⟩)),by simpa using hob⟩;have hob':H[b]?=some (.arr .exact ver esz es):=by simpa using hin
   have h1:=(hρ x hmem).1;rw [hx] at h1;simp only [AVV,RefV,RefC] at h1;obtain ⟨_,_,h3⟩:=h1.2 _ _ hob';have hnn:¬ aam .exact es:=fun h=>by simp [aam,AK.gr] at h
   rcases hr.objs b _ hob' with hold | ⟨cs,T',css,rest,k1,k2,k3,k4,k5,k6,_⟩
   · exact (hnn hold).elim
   exact ⟨_,_,by rw [h3 hnn,k6 rfl]⟩
 · simp at hl
theorem ake {c : Call} {x : Operand} (hop : o.op = .call c) (hc : c.callee = .builtin .clear) (ha : c.args.toList = [x]) (hx : ρ x = .p .nsl) (hT : adb P (c.argTypes.getD 0 0) (ρ x) = true) (hts : 0 < c.argTypes.size) :
    aae P o ρ base { v:=.p (.tup []) }:=by
 obtain ⟨hmem,hargs⟩:=akg hop hc ha;have hat:c.argTypes[0]?=some (c.argTypes.getD 0 0):=by simp [Array.getD,hts]
 generalize c.argTypes.getD 0 0=T at *;obtain ⟨e,hu⟩:=adP hT (.inr (.inl hx));refine aae.same fun H w Imm Prot β ρc hr hρ hin=>?_;have h1:=(hρ x hmem).1;rw [hx] at h1; simp only [AVV,PVV] at h1;refine ⟨.tuple #[],?_,by simp [AVV,PVV,PVVl],by simp [aaa]⟩;simp only [execOp,hop,resolve,hc,hargs];simp [invoke,builtin,Builtin.clear_,hat,h1,run_underlying hu]
theorem avD {c : Call} {x : Operand} {sz b ver off len : Nat} {k : AK} {es : List AV} {z : PV} (hop : o.op = .call c) (hc : c.callee = .builtin .clear) (ha : c.args.toList = [x]) (hts : 0 < c.argTypes.size) (hE : aax P (c.argTypes.getD 0 0) = some sz)
    (hz:aaT P (aay P (c.argTypes.getD 0 0))=some z) (hzs:aah P (shp z)=sz) (hx:ρ x=.sl b ver sz off len) (hk:k≠.frozen) (hl:off+len≤es.length) (hnn:¬ aam k es) (hpos:0<len) :
    aae P o ρ base { v:=.p (.tup []),hin:=[(b,.arr k ver sz es)],hset:=[(b,.arr k ver sz (es.take off ++ List.replicate len (.p z) ++ es.drop (off+len)))] }:=by
 obtain ⟨hmem,hargs⟩:=akg hop hc ha;have hat:c.argTypes[0]?=some (c.argTypes.getD 0 0):=by simp [Array.getD,hts]
 obtain ⟨e,i,hE⟩:=aaM hE;obtain ⟨iz,zv,z1,z2,z3,z4⟩:=abO hz;rw [hE.typ] at z1;intro H w Imm Prot β ρc hr hρ hin _;have hob:H[b]?=some (.arr k ver sz es):=hin (b,_) (by simp);have h1:=(hρ x hmem).1;rw [hx] at h1;simp only [AVV,RefV,RefC] at h1;obtain ⟨_,_,h1⟩:=h1.2 k es hob;have h1:=h1 hnn;rcases hr.objs b _ hob with hold | ⟨cs,T',css,rest,k1,k2,k3,k4,k5,k6,k7,k8⟩
 · exact (hnn hold).elim
 have hheld:¬ Imm (β.blk b)∧¬ Prot (β.blk b):=by
  unfold Held at k7; rw [if_neg (by simpa using hk)] at k7; exact k7
 have hzc:=z3 w Imm;have hzl:zv.cells.size=sz:=by have:=(ac5 hzc).1; simp at this; omega
 have hzll:zv.cells.toList.length=sz:=by simpa using hzl
 have hrow:=acw (β:=β) (H:=H) hzc len;rw [hzll] at hrow;obtain ⟨m,hm⟩:∃ m,m=List.replicate len zv.cells.toList:=⟨_,rfl⟩
 rw [← hm] at hrow;have hrow':Row P w Imm β H sz (List.replicate len (.p z)) m:=by
  exact hrow
 obtain ⟨a,m',z',f1,f2,f3,f4,f5⟩:=ab1 k2 off len hl;have hml:m.flatten.length=len*sz:=by have:=(aar hrow').2; rw [this]; simp
 have hml':m'.flatten.length=len*sz:=by have:=(aar f2).2; rw [this]; congr 1; simp; omega
 have hcs:cs.toList=a.flatten ++ m'.flatten ++ (z'.flatten ++ rest):=by rw [k3,f1]; simp
 have hsize:cs.size=a.flatten.length+m'.flatten.length+(z'.flatten ++ rest).length:=by
  have:=congrArg List.length hcs; simp only [List.length_append,Array.length_toList] at this; rw [this,List.length_append]
 have hst2:=run_storeCells_at P (β.blk b) (off*sz) T' m.flatten 0 cs w k1 (by rw [hsize,f3,hml,hml']; simp only [Nat.add_zero]; exact Nat.le_add_right _ _) (aiV hrow');simp only [Nat.add_zero] at hst2;have hnew:cs.toList.take (off*sz) ++ m.flatten ++ cs.toList.drop (off*sz+m.flatten.length)=a.flatten ++ m.flatten ++ (z'.flatten ++ rest):=by
  rw [hcs,← f3,hml,← hml']; exact ae1 _ _ _ _
 rw [hnew] at hst2;have hzeros:(Builtin.zeroCells zv.cells len).toList=m.flatten:=by
  have:=af0 zv.cells len (by rw [hzl]; exact hE.pos);rw [hm,← this]; rfl
 have hrun:(execOp ρc o).run P w=.ok (.value (.tuple #[])) (w.setRow (β.blk b) (a.flatten ++ m.flatten ++ (z'.flatten ++ rest)).toArray):=by
  obtain ⟨l',rfl⟩:∃ l',len=l'+1:=⟨len - 1,by omega⟩
  simp only [execOp,hop,resolve,hc,hargs];generalize c.argTypes.getD 0 0=T at *;simp only [Sem.run_bind,Sem.run_pure,Result.andThen_ok,invoke,builtin,List.map_toArray,List.map_cons,List.map_nil];have key:(Builtin.clear_ c.argTypes o.type #[ρc x]).run P w=.ok (.tuple #[]) (w.setRow (β.blk b) (a.flatten ++ m.flatten ++ (z'.flatten ++ rest)).toArray):=by
   simp [Builtin.clear_,hat,h1,run_underlying hE.und,aeB z1 z2,hzeros,hst2]
  rw [key]; rfl
 have hnl:(es.take off ++ List.replicate len (AV.p z) ++ es.drop (off+len)).length=es.length:=by simp; omega
 have hst:aaG β H β (H.set b (.arr k ver sz (es.take off ++ List.replicate len (.p z) ++ es.drop (off+len)))):=acW hob (.inr (.inl ⟨_,_,_,_,_,rfl,rfl,hnl.symm⟩));have hsame:∀ k',Imm k'→(w.setRow (β.blk b) (a.flatten ++ m.flatten ++ (z'.flatten ++ rest)).toArray).heap[k']?=w.heap[k']?:=fun k' hki=>setRow_other w _ k' _ (fun he=>hheld.1 (he▸hki));have hrefs:aac (InH H) (es.take off ++ List.replicate len (AV.p z) ++ es.drop (off+len)):=by
  have hre:=aag.1 (hr.refs b _ hob);refine aav (aav ?_ ?_) ?_
  · rw [aag]; exact fun v hv=>hre v (List.mem_of_mem_take hv)
  · rw [aag]; intro v hv; rw [List.eq_of_mem_replicate hv]; simp [aaa]
  · rw [aag]; exact fun v hv=>hre v (List.mem_of_mem_drop hv)
 have hin':=acU hob (o:=.arr k ver sz (es.take off ++ List.replicate len (.p z) ++ es.drop (off+len))) (fun _ h=>h);have hnn':¬ aam k (es.take off ++ List.replicate len (AV.p z) ++ es.drop (off+len)):=fun h=>hnn ⟨h.1,by have h2:=h.2; rw [← List.length_eq_zero_iff] at h2 ⊢; rw [hnl] at h2; exact h2⟩;have hpost:=ab4 hr hob hnn (o':=.arr k ver sz (es.take off ++ List.replicate len (AV.p z) ++ es.drop (off+len))) hnn' (fun _ h=>h) k1 (new:=(a.flatten ++ m.flatten ++ (z'.flatten ++ rest)).toArray) hheld hst
  (.inr ⟨_,T',a ++ m ++ z',rest,setRow_heap w _ _ _ T' _ k1,by
   refine Row.mono (fun _ x=>x) hsame hst hrefs (aa0.2 ⟨_,_,rfl,aa0.2 ⟨_,_,rfl,f4,hrow'⟩,f5⟩),by simp,by
   rw [← k4,hsize]; simp only [List.size_toArray,List.length_append,hml,hml'],by rw [hnl]; exact k5,fun he=>by rw [hnl]; exact k6 he,k7,(fun hke=>(hk hke).elim),k8.2⟩) (aac.mono hin' _ hrefs)
 refine ⟨_,_,_,β,Imm,hrun,.inl rfl,?_,by simp [AVV,PVV,PVVl],by simp [aaa]⟩;simpa only [newAt,List.append_nil,aaj] using hpost
theorem aem {c : Call} {x : Operand} {v : AV} {hin : List (Nat × Obj)} {H0 : Heap} (hop : o.op = .call c) (hc : c.callee = .builtin .unsafeSliceData) (ha : c.args.toList = [x])
    (h:(ρ x=.p .nsl∧v=.p .nptr∧hin=[])∨∃ b ver esz off len k es,ρ x=.sl b ver esz off len∧H0[b]?=some (.arr k ver esz es)∧hin=[(b,.arr k ver esz es)]∧((aam k es∧v=.p .nptr)∨(0<len∧off+len≤es.length∧v=.eptr b ver esz off []))) :
    aae P o ρ base { v,hin }:=by
 obtain ⟨hmem,hargs⟩:=akg hop hc ha;refine aae.same fun H w Imm Prot β ρc hr hρ hin'=>?_;obtain ⟨h1,h1r⟩:=hρ x hmem;have fin:∀ cv,(Builtin.unsafeSliceData_ c.argTypes o.type #[ρc x]).run P w=.ok cv w→(execOp ρc o).run P w=.ok (.value cv) w:=by
  intro cv hrun;simp only [execOp,hop,resolve,hc,hargs];simp only [Sem.run_bind,Sem.run_pure,Result.andThen_ok,invoke,builtin,List.map_toArray,List.map_cons,List.map_nil];rw [hrun]; rfl
 rcases h with ⟨hx,rfl,rfl⟩ | ⟨b,ver,esz,off,len,k,es,hx,hob,rfl,h⟩
 · rw [hx] at h1; simp only [AVV,PVV] at h1;exact ⟨_,fin _ (by rw [h1]; exact Lib.run_unsafeSliceData_nil w _ _ _ _),by simp [AVV,PVV],by simp [aaa]⟩
 · have hob':H[b]?=some (.arr k ver esz es):=by simpa using hin'
   rw [hx] at h1 h1r;simp only [AVV,RefV,RefC] at h1;obtain ⟨_,v2,v3⟩:=h1.2 k es hob';rcases h with ⟨hn,rfl⟩ | ⟨hpos,hle,rfl⟩
   · exact ⟨_,fin _ (by rw [v2 hn]; exact Lib.run_unsafeSliceData_nil w _ _ _ _),by simp [AVV,PVV],by simp [aaa]⟩
   · have hn:¬ aam k es:=fun h=>by rw [h.2] at hle; simp at hle; omega
     rcases hr.objs b _ hob' with hold | ⟨cs,T',css,rest,k1,k2,k3,k4,k5,_⟩
     · exact (hn hold).elim
     refine ⟨_,fin _ (by rw [v3 hn]; exact Lib.run_unsafeSliceData_row w _ _ _ _ _ (by omega)),?_,by simpa only [aaa] using h1r⟩;simp only [AVV,RefV,RefC];refine ⟨by simp [Value.oneCell'],β.blk b,off*esz,0,by simp,rfl,fun k' es' hl _=>⟨rfl,by simp⟩⟩
theorem atz (w:World) (a:Addr) (n:Nat):(w.freeze a n).os=w.os∧(w.freeze a n).output=w.output:=by
 unfold World.freeze
 first | exact ⟨rfl,rfl⟩ | (split <;> exact ⟨rfl,rfl⟩)
theorem ate {w' : World} (hr : HRel P w Imm β H Prot) {b : Nat} {o : Obj} (ho : H[b]? = some o) (hl : o.live) (hm : ¬ Imm (β.blk b) ∧ ¬ Prot (β.blk b)) (hlo : ∀ L, o ≠ .loop L) (hsz : w'.heap.size = w.heap.size)
    (hs:∀ k,k≠β.blk b→w'.heap[k]?=w.heap[k]?) (hio:w'.os=w.os∧w'.output=w.output:=by exact ⟨rfl,rfl⟩):Post P Prot Imm w β H Imm w' β (H.set b .dead):=by
 have hb:b<H.length:=(List.getElem?_eq_some_iff.1 ho).1;have ge:∀ (x:Nat) (o1:Obj),(H.set b Obj.dead)[x]?=some o1→o1≠.dead→H[x]?=some o1:=by
  intro x o1 hx hne
  by_cases hxb:b=x
  · subst hxb; rw [List.getElem?_set_self hb] at hx; cases hx; exact (hne rfl).elim
  · rwa [List.getElem?_set_ne hxb] at hx
 have hst:aaG β H β (H.set b .dead):=by
  refine ⟨?_,?_,?_,?_,?_⟩
  · rintro x _ ⟨f,t,h⟩; exact ⟨⟨f,t,ge _ _ h (by simp)⟩,rfl⟩
  · rintro x _ ⟨f,t,h⟩; exact ⟨⟨f,t,ge _ _ h (by simp)⟩,rfl⟩
  · rintro x _ ⟨f,t,h⟩; exact ⟨⟨f,t,ge _ _ h (by simp)⟩,rfl⟩
  · intro x ver esz k es _ h; exact ⟨k,es,ge _ _ h (by simp),Nat.le_refl _,Iff.rfl,fun _=>⟨rfl,rfl⟩⟩
  · rintro x _ ⟨L,h⟩; exact ⟨⟨L,ge _ _ h (by simp)⟩,rfl⟩
 have h1:Post P Prot Imm w β H Imm w β (H.set b .dead) :=
  Post.set hr hb (fun _ _=>⟨rfl,rfl⟩) (fun _ x=>x) (fun _ x=>.inl x) hr.imm (Nat.le_refl _) (fun _ _ _=>rfl) (fun h=>h.elim) hst trivial trivial (fun _ _ _ _=>trivial) (fun L hL=>by rw [ho] at hL; cases hL; exact (hlo L rfl).elim)
 have hx:=hr.ada ho hl;have h2:=h1.rel.ao3 hx (fun x o1 hx1 hl1 he=>by
  have hne:o1≠.dead:=fun e=>by rw [e] at hl1; exact hl1
  have hxb:x=b:=hr.inj x b o1 o (ge _ _ hx1 hne) ho hl1 hl (fun hi=>hm.1 (he▸hi)) he;subst hxb;rw [List.getElem?_set_self hb] at hx1; cases hx1; exact hl1)
 have h3:=h2.shut (w':=w') (Prot0:=Prot) (fun _ h=>.inl h) (R:=fun k=>k = β.blk b) (fun x e=>⟨.inr e,e▸hm.1⟩) hsz (fun k hk=>hs k hk);refine ⟨fun _ h=>h,fun _ h=>.inl h,⟨by omega,fun k hk=>hs k (fun e=>?_),hio⟩,hst,h3,h1.inn,h1.loop⟩;rcases hk with hk | hk
 · exact hm.2 (e▸hk)
 · exact hm.1 (e▸hk)
theorem aiO:∀ {es:List AV} {l:List Nat} {css:List (List Value)},bytesOf es=some l→Row P w Imm β H 1 es css→css.flatten=l.map (fun c=>Value.int .u8 (c:Nat))∧l.length=es.length∧∀ c∈l,c<256
 | [],l,css,h,hr=>by
  simp [bytesOf] at h; subst h;rw [abh] at hr; subst hr; simp
 | v::es,l,css,h,hr=>by
  unfold bytesOf at h
  split at h
  · rename_i e; cases e
  · rename_i c r e;simp at e;obtain ⟨rfl,rfl⟩:=e
    split at h
    case isFalse=>simp at h
    rename_i hc
    split at h
    case h_2=>simp at h
    rename_i l' hl';simp at h; subst h;rw [ad3] at hr;obtain ⟨cc,cs,rfl,h1,h2,h3⟩:=hr;obtain ⟨i1,i2,i3⟩:=aiO hl' h3;simp only [AVC,PVC] at h1;subst h1;refine ⟨by simp [i1]; omega,by simp [i2],?_⟩;intro x hx;rcases List.mem_cons.1 hx with rfl | hx
    · omega
    · exact i3 x hx
  · simp at h
theorem alJ {S D e : TypeId} {x : Operand} {b ver off len : Nat} {k : AK} {es : List AV} {l : List Nat} (hop : o.op = .convert S D x) (hS : P.underlying S = some (.slice e)) (hD : P.underlying D = some .string) (hE : P.underlying e = some (.int .u8)) (hx : ρ x = .sl b ver 1 off len)
    (h0:0<len) (hle:off+len≤es.length) (hl:bytesOf ((es.drop off).take len)=some l):aae P o ρ base { v:=.p (.str l),hin:=[(b,.arr k ver 1 es)] }:=by
 refine aae.same fun H w Imm Prot β ρc hr hρ hin=>?_;have hob:H[b]?=some (.arr k ver 1 es):=by simpa using hin
 have h1:=(hρ x (by simp [hop,Op.operands])).1;rw [hx] at h1;simp only [AVV,RefV,RefC] at h1;have hnn:¬ aam k es:=fun h=>by rw [h.2] at hle; simp at hle; omega
 have h1:=(h1.2 _ _ hob).2.2 hnn;rcases hr.objs b _ hob with hold | ⟨cs,T',css,rest,k1,k2,k3,k4,k5,k6,k7,k8⟩
 · exact (hnn hold).elim
 obtain ⟨a,m,z,g1,g2,g3,g4,g5⟩:=ab1 k2 off len hle;obtain ⟨b1,b2,b3⟩:=aiO hl g2;have hll:l.length=len:=by rw [b2]; simp; omega
 have hcells:cs.toList=a.flatten ++ (l.map (fun c=>Value.int .u8 (c:Nat)) ++ (z.flatten ++ rest)):=by
  rw [k3,g1]; simp only [List.flatten_append,List.append_assoc,b1]
 have hrun:=run_convert_bytes_arg (P:=P) w S e hS hE (β.blk b) (off*1) len (β.cap b - off) (l.map fun c:Nat=>(c:Int)) (by simpa using hll) (fun i hi=>by
  have hil:i<l.length:=by omega
  have:cs[off*1+i]?=some (.int .u8 (l[i]:Nat)):=by
   rw [← Array.getElem?_toList,hcells,List.getElem?_append_right (by omega),g3,Nat.add_sub_cancel_left,List.getElem?_append_left (by simpa using hil),List.getElem?_map,List.getElem?_eq_getElem hil]; rfl
  rw [List.getD_eq_getElem?_getD,List.getElem?_map,List.getElem?_eq_getElem hil];simp only [World.cell?,k1];simpa using this) D hD
 refine ⟨.string (strOfNums (l.map fun c:Nat=>(c:Int))),?_,?_,by simp [aaa]⟩
 · simp only [execOp,hop,h1];exact aao hrun
 · simp only [AVV,PVV];refine ⟨_,rfl,?_⟩;rw [strOfNums_data,List.map_map,List.map_map]
   conv=>lhs; rw [← List.map_id l]
   refine List.map_congr_left fun c hc=>?_;have:=b3 c hc;simp [UInt8.toNat_ofNat']; omega
theorem ahT {c : Call} {x y : Operand} {b ver n : Nat} {es : List AV} {l : List Nat} {T X : TypeId} (hop : o.op = .call c) (hc : c.callee = .builtin .unsafeString) (ha : c.args.toList = [x, y]) (hts : c.argTypes = #[T, X]) (hx : ρ x = .eptr b ver 1 0 []) (hy : ρ y = .p (.int .i64 n))
    (h0:0<n) (hle:n≤es.length) (h63:n≤9223372036854775807) (hT:P.underlying T=some (.pointer Gl.u8)) (hu:P.cellsOf Gl.u8=1) (hl:bytesOf (es.take n)=some l) :
    aae P o ρ base { v:=.p (.str l),hin:=[(b,.arr .bytes ver 1 es)],hset:=[(b,.dead)] }:=by
 have hargs:c.args=#[x,y]:=by apply Array.ext'; simpa using ha
 have hmem:x∈o.op.operands∧y∈o.op.operands:=by
  rw [hop]; simp [Op.operands,Call.operands,hc,hargs]
 intro H w Imm Prot β ρc hr hρ hin _;have hob:H[b]?=some (.arr .bytes ver 1 es):=by simpa using hin
 have h1:=(hρ x hmem.1).1;have h2:=(hρ y hmem.2).1;rw [hx] at h1; rw [hy] at h2;simp only [AVV,RefV,RefC,PVV] at h1 h2;have hnn:¬ aam .bytes es:=fun h=>by rw [h.2] at hle; simp at hle; omega
 obtain ⟨_,blk,off,oo,hp,ho,h1⟩:=h1;simp [aaW] at ho;subst ho;obtain ⟨rfl,rfl⟩:=h1 _ _ hob hnn;rcases hr.objs b _ hob with hold | ⟨cs,T',css,rest,k1,k2,k3,k4,k5,k6,k7,k8⟩
 · exact (hnn hold).elim
 obtain rfl:=k8.2 rfl;have hheld:¬ Imm (β.blk b)∧¬ Prot (β.blk b):=by
  unfold Held at k7; rw [if_neg (by simp)] at k7; exact k7
 obtain ⟨a,m,z,g1,g2,g3,g4,g5⟩:=ab1 k2 0 n (by omega);have ha0:a=[]:=by have:=(aar g4).1; simpa using this
 subst ha0;rw [List.drop_zero] at g2;obtain ⟨b1,b2,b3⟩:=aiO hl g2;obtain ⟨bs,hbs⟩:∃ bs:List UInt8,bs=l.map UInt8.ofNat:=⟨_,rfl⟩
 have hbl:bs.length=n:=by rw [hbs]; simp [b2]; omega
 have hbn:bs.map (·.toNat)=l:=by
  rw [hbs,List.map_map]
  conv=>rhs; rw [← List.map_id l]
  refine List.map_congr_left fun c hc=>?_;have:=b3 c hc;simp [UInt8.toNat_ofNat']; omega
 have hcells:cs.toList=bs.map (fun c=>Value.int .u8 c.toNat) ++ (z.flatten ++ rest):=by
  rw [k3,g1]; simp only [List.nil_append,List.flatten_append,List.append_assoc,b1];congr 1;rw [← hbn,List.map_map]; rfl
 have hrun := Lib.run_unsafeString_row (P := P) w T X o.type Gl.u8 hT hu (β.blk b) cs.size (by simp [World.shape?, k1]) bs (fun h => by rw [h] at hbl; simp at hbl; omega) (by
     have:=congrArg List.length hcells; simp only [Array.length_toList,List.length_append,List.length_map] at this; omega) (by omega) (fun j v hj=>by
     have hj':j<bs.length:=(List.getElem?_eq_some_iff.1 hj).1;rw [acg];have:cs[j]?=some (.int .u8 v.toNat):=by
      rw [← Array.getElem?_toList,hcells,List.getElem?_append_left (by simpa using hj'),List.getElem?_map,hj]; rfl
     simp [World.cell?,k1,this])
 have hexec:(execOp ρc o).run P w=.ok (.value (.string ⟨bs.toArray⟩)) (w.freeze ⟨β.blk b,0,none⟩ bs.length):=by
  simp only [execOp,hop,resolve,hc,hargs];simp only [Sem.run_bind,Sem.run_pure,Result.andThen_ok,invoke,builtin,List.map_toArray,List.map_cons,List.map_nil];have key:(Builtin.unsafeString_ c.argTypes o.type #[ρc x,ρc y]).run P w=.ok (.string ⟨bs.toArray⟩) (w.freeze ⟨β.blk b,0,none⟩ bs.length):=by
   rw [hts,hp,h2,← hbl];simpa using hrun
  rw [key]; rfl
 have hfz:∀ k,k≠β.blk b→(w.freeze ⟨β.blk b,0,none⟩ bs.length).heap[k]?=w.heap[k]?:=by
  intro k hk;unfold World.freeze
  split
  · rfl
  · simp [Array.getElem?_modify,Ne.symm hk]
 have hfs:(w.freeze ⟨β.blk b,0,none⟩ bs.length).heap.size=w.heap.size:=by
  unfold World.freeze
  split <;> simp
 have hpost:=ate hr hob hnn hheld (fun _ h=>by cases h) hfs hfz (atz _ _ _);refine ⟨_,_,_,β,Imm,hexec,.inl rfl,?_,?_,by simp [aaa]⟩
 · simpa only [newAt,List.append_nil,aaj] using hpost
 · simp only [AVV,PVV];exact ⟨_,rfl,by simpa using hbn.symm⟩
theorem aeP {c : Call} {x y : Operand} {T X : TypeId} (hop : o.op = .call c) (hc : c.callee = .builtin .unsafeString) (ha : c.args.toList = [x, y]) (hts : c.argTypes = #[T, X]) (hx : ρ x = .p .nptr) (hy : ρ y = .p (.int .i64 0)) :
    aae P o ρ base { v:=.p (.str []) }:=by
 have hargs:c.args=#[x,y]:=by apply Array.ext'; simpa using ha
 have hmem:x∈o.op.operands∧y∈o.op.operands:=by
  rw [hop]; simp [Op.operands,Call.operands,hc,hargs]
 refine aae.same fun H w Imm Prot β ρc hr hρ hin=>?_;have h1:=(hρ x hmem.1).1;have h2:=(hρ y hmem.2).1;rw [hx] at h1; rw [hy] at h2;simp only [AVV,PVV] at h1 h2;refine ⟨.string .empty,?_,by simp only [AVV,PVV]; exact ⟨_,rfl,rfl⟩,by simp [aaa]⟩;simp only [execOp,hop,resolve,hc,hargs];simp only [Sem.run_bind,Sem.run_pure,Result.andThen_ok,invoke,builtin,List.map_toArray,List.map_cons,List.map_nil];have key:(Builtin.unsafeString_ c.argTypes o.type #[ρc x,ρc y]).run P w=.ok (.string .empty) w:=by
  rw [hts,h1,h2];exact Lib.run_unsafeString_none w _ _ _ _
 rw [key]; rfl
end
section
variable {P:Program}
theorem asR {c:Call} {ρ:Operand→AV} {x:AV} (ha:c.args.toList.map ρ=[x]):∃ y,c.args.toList=[y]∧ρ y=x:=by
 match hh:c.args.toList with
 | []=>rw [hh] at ha; simp at ha
 | [y]=>rw [hh] at ha; simp at ha; exact ⟨y,rfl,ha⟩
 | _::_::_=>rw [hh] at ha; simp at ha
theorem ak6 {c:Call} (h:c.argTypes.size=2):∃ T X,c.argTypes=#[T,X]:=by
 obtain ⟨l,hl⟩:∃ l,l=c.argTypes.toList:=⟨_,rfl⟩
 have h2:l.length=2:=by rw [hl]; simpa using h
 match l,h2 with
 | [a,b],_=>exact ⟨a,b,by apply Array.ext'; simp [← hl]⟩
theorem aa2 (frz:FuncId→Bool):ab2 P frz:=by
 intro o ρ H K _ h;unfold ab7 at h;have plain:∀ {e:Eff},K e→aae P o ρ H.length e→e.hin=[]→e.hset=[]→∃ e,K e∧aae P o ρ H.length e∧(∀ p∈e.hin,H[p.1]?=some p.2)∧(∀ p∈e.hset,p.1<H.length∧p.2≠.hole):=by
  intro e h1 h2 h3 h4;exact ⟨e,h1,h2,by simp [h3],by simp [h4]⟩
 cases hop:o.op <;> simp only [hop] at h
 case move x=>exact plain h (op_id (.inl hop)) rfl rfl
 case assign x=>exact plain h (op_id (.inr hop)) rfl rfl
 case pick c a b =>
  split at h
  · rename_i t hc; exact plain h (op_pick hop hc) rfl rfl
  · exact h.elim
 case alloc T =>
  split at h
  · rename_i z hz; exact plain h.2.2.2 (avF hop hz h.2.2.1) rfl rfl
  · exact h.elim
 case box T x=>exact plain h.2.2.2 (op_box hop h.2.1 h.2.2.1) rfl rfl
 case build T parts =>
  split at h
  · rename_i u z hk hz
    split at h
    · rename_i l hl;obtain ⟨h1,h2,h3⟩:=h;exact plain h3 (avE hop hk hz hl h1 h2) rfl rfl
    · exact h.elim
  · exact h.elim
 case buildSlice T n parts =>
  split at h
  · rename_i sz z hE hz;obtain ⟨h1,h2,h3,h4⟩:=h;exact plain h4 (akf hop hE hz h1 h2 h3) rfl rfl
  · exact h.elim
 case load T a=>exact op_load hop h
 case store T a x=>exact avz hop h
 case binOp b T x y T' =>
  obtain ⟨v,h1,h2⟩:=op_bin (base:=H.length) hop h;exact ⟨_,h1,h2,abB,by simp⟩
 case unOp u T x =>
  split at h
  · rename_i b hx; exact plain h (op_un hop hx (.inl ⟨rfl,_,rfl,rfl⟩)) rfl rfl
  · rename_i k n hx; exact plain h (op_un hop hx (.inr (.inl ⟨rfl,_,_,rfl,rfl⟩))) rfl rfl
  · rename_i k n hx; exact plain h (op_un hop hx (.inr (.inr ⟨rfl,_,_,rfl,rfl⟩))) rfl rfl
  · exact h.elim
 case convert S D x =>
  split at h
  · rename_i d k k0 n hS hD hx; exact plain h (aqI hop ⟨_,hS⟩ hD hx) rfl rfl
  · rename_i d s hS hD hx; exact plain h (aqH hop ⟨_,hS⟩ hD hx) rfl rfl
  · rename_i e b ver esz off len hS hD hx
    split at h
    case h_2=>exact h.elim
    rename_i k ver' esz' es hob;obtain ⟨rfl,rfl,rfl,hE,h0,hle,h⟩:=h
    split at h
    case h_2=>exact h.elim
    rename_i l hl;exact ⟨_,h,alJ hop hS hD hE hx h0 hle hl,by simpa using hob,by simp⟩
  · exact h.elim
 case extract t i =>
  split at h
  · rename_i vs ht
    split at h
    · rename_i v hv; exact plain h (ajs hop (.inr ⟨_,ht,rfl⟩) (by simp [hv])) rfl rfl
    · exact h.elim
  · rename_i vs ht
    split at h
    · rename_i v hv; exact plain h (ajs hop (.inl ht) hv) rfl rfl
    · exact h.elim
  · exact h.elim
 case fieldAddr T a f =>
  obtain ⟨e,h1,h2,h3,h4⟩:=alI (base:=H.length) hop h;exact plain h1 h2 h3 h4
 case indexAddr T x i =>
  obtain ⟨e,h1,h2,h3,h4⟩:=alH (base:=H.length) hop h;exact ⟨e,h1,h2,h3,by simp [h4]⟩
 case field T x f =>
  split at h
  · rename_i u fs t hk hu hx;obtain ⟨h1,h⟩:=h
    split at h
    · rename_i g F hg hF;exact plain h.2 (avC hop hk hu hx h1 hg hF h.1) rfl rfl
    · exact h.elim
  · exact h.elim
 case index T x i =>
  split at h
  · rename_i s k n hx hi;obtain ⟨h1,h2,h3,h4⟩:=h;exact plain h4 (ano hop hx hi h1 h2 h3) rfl rfl
  · rename_i u es k n hx hi
    split at h
    · rename_i u' m F g hT hF hg;obtain ⟨rfl,h0,hn,hk,h⟩:=h;exact plain h (anp hop hT hx hi h0 hn hF hg hk) rfl rfl
    · exact h.elim
  · exact h.elim
 case makeFunc fn fi ca =>
  cases fn <;> simp only at h
  case func f =>
   obtain ⟨m1,m2,m3⟩:=ann (ρ:=ρ) (base:=H.length) hop
   split at h
   · split at h
     · rename_i a b hin hset ha hb;obtain ⟨q1,q2,q3⟩:=m3 H a b hin hset ha hb;exact ⟨_,h,q1,q2,q3⟩
     · exact h.elim
   · split at h
     · rename_i a b ha hb;exact plain h (m1 a b ha hb) rfl rfl
     · exact plain h m2 rfl rfl
 case makeSlice T l c =>
  split at h
  · rename_i sz z l' c' hE hz hl hc;obtain ⟨h1,h2,rfl,h4,h5⟩:=h;exact plain h5 (alG hop hE hz hl hc h1 h2 h4) rfl rfl
  · exact h.elim
 case slice T x lo hi mx =>
  cases mx with
  | none =>
   obtain ⟨e,h1,h2,h3,h4⟩:=avA (base:=H.length) hop h;exact ⟨e,h1,h2,h3,by simp [h4]⟩
  | some m =>
   obtain ⟨e,h1,h2,h3,h4⟩:=asM (base:=H.length) hop h;exact ⟨e,h1,h2,h3,by simp [h4]⟩
 case makeMap T r =>
  cases r <;> simp only at h;exact plain h (aqG hop) rfl rfl
 case lookup T x i ok =>
  split at h
  case h_2=>exact h.elim
  rename_i KT E key hT hi
  split at h
  case h_2=>exact h.elim
  rename_i z hz;obtain ⟨hk,h⟩:=h
  split at h
  · rename_i hx;exact plain h (aen (r:=none) (es:=[]) hop hT hz hi hk rfl (.inl ⟨hx,rfl⟩)) rfl rfl
  · rename_i es hx
    split at h
    · rename_i v hl; exact plain h (aen (r:=some v) hop hT hz hi hk hl (.inr (.inl hx))) rfl rfl
    · rename_i hl; exact plain h (aen (r:=none) hop hT hz hi hk hl (.inr (.inl hx))) rfl rfl
    · exact h.elim
  · rename_i b hx
    split at h
    case h_2=>exact h.elim
    rename_i fz es hob
    split at h
    · rename_i v hl;exact ⟨_,h,aen (r:=some v) hop hT hz hi hk hl (.inr (.inr ⟨b,fz,hx,by simp⟩)),by simpa using hob,by simp⟩
    · rename_i hl;exact ⟨_,h,aen (r:=none) hop hT hz hi hk hl (.inr (.inr ⟨b,fz,hx,by simp⟩)),by simpa using hob,by simp⟩
    · exact h.elim
  · exact h.elim
 case mapUpdate T m k x =>
  split at h
  case h_2=>exact h.elim
  rename_i KT E b key v hT hm hk hx;obtain ⟨hf,h⟩:=h
  split at h
  case h_2=>exact h.elim
  rename_i es hob
  split at h
  case h_2=>exact h.elim
  rename_i r hl;exact ⟨_,h,agI (.inl hop) hT hm hk hx hf hl,by simpa using hob,by simpa using (List.getElem?_eq_some_iff.1 hob).1⟩
 case insert T m k x =>
  split at h
  case h_2=>exact h.elim
  rename_i KT E b key v hT hm hk hx;obtain ⟨hf,h⟩:=h
  split at h
  case h_2=>exact h.elim
  rename_i es hob
  split at h
  case h_2=>exact h.elim
  rename_i r hl;exact ⟨_,h,agI (.inr hop) hT hm hk hx hf hl,by simpa using hob,by simpa using (List.getElem?_eq_some_iff.1 hob).1⟩
 case range T x =>
  split at h
  · rename_i s hx;exact plain h.2 (avB hop hx h.1) rfl rfl
  · exact h.elim
 case next it isStr =>
  cases isStr <;> simp only at h
  split at h
  case h_2=>exact h.elim
  rename_i b hx
  split at h
  case h_2=>exact h.elim
  rename_i s pos hob;obtain ⟨n1,n2⟩:=op_next (P:=P) (base:=H.length) (s:=s) (pos:=pos) hop hx
  split at h
  · rename_i hp;exact ⟨_,h,n1 hp,by simpa using hob,by simpa using (List.getElem?_eq_some_iff.1 hob).1⟩
  · rename_i hp;exact ⟨_,h,n2 hp,by simpa using hob,by simp⟩
 case nilCheck x =>
  split at h
  · rename_i b p hx; exact plain h (ae7 hop (.inl ⟨b,p,hx⟩)) rfl rfl
  · rename_i b v e i p hx; exact plain h (ae7 hop (.inr (.inl ⟨b,v,e,i,p,hx⟩))) rfl rfl
  · rename_i t hx; exact plain h (ae7 hop (.inr (.inr ⟨t,hx⟩))) rfl rfl
  · exact h.elim
 case call c =>
  split at h
  case h_2=>exact h.elim
  rename_i b hc
  split at h
  · rename_i x ha
    split at h
    case h_2=>exact h.elim
    rename_i n hin hl;obtain ⟨h1,h2,h3⟩:=h;obtain ⟨y,hy,rfl⟩:∃ y,c.args.toList=[y]∧ρ y=x:=by
     match hh:c.args.toList with
     | []=>rw [hh] at ha; simp at ha
     | [y]=>rw [hh] at ha; simp at ha; exact ⟨y,rfl,ha⟩
     | _::_::_=>rw [hh] at ha; simp at ha
    obtain ⟨q1,q2⟩:=op_len (P:=P) (base:=H.length) hop hc hy hl h1 h2;exact ⟨_,h3,q1,q2,by simp⟩
  · rename_i s x ha;obtain ⟨y,z,hy,rfl,rfl⟩:∃ y z,c.args.toList=[y,z]∧ρ y=s∧ρ z=x:=by
     match hh:c.args.toList with
     | []=>rw [hh] at ha; simp at ha
     | [y]=>rw [hh] at ha; simp at ha
     | [y,z]=>rw [hh] at ha; simp at ha; exact ⟨y,z,rfl,ha.1,ha.2⟩
     | _::_::_::_=>rw [hh] at ha; simp at ha
    exact asP hop hc hy h.1 h.2
  · rename_i k a r ha
    split at h
    · rename_i n hn; exact plain h (alF (isMax:=false) hop hc ha hn) rfl rfl
    · exact h.elim
  · rename_i k a r ha
    split at h
    · rename_i n hn; exact plain h (alF (isMax:=true) hop hc ha hn) rfl rfl
    · exact h.elim
  · rename_i d x ha;obtain ⟨y,z,hy,hd,rfl⟩:∃ y z,c.args.toList=[y,z]∧ρ y=d∧ρ z=x:=by
     match hh:c.args.toList with
     | []=>rw [hh] at ha; simp at ha
     | [y]=>rw [hh] at ha; simp at ha
     | [y,z]=>rw [hh] at ha; simp at ha; exact ⟨y,z,rfl,ha.1,ha.2⟩
     | _::_::_::_=>rw [hh] at ha; simp at ha
    split at h
    case h_2=>exact h.elim
    rename_i sz b ver esz off len xs hE hx;obtain ⟨rfl,h1,h2,h⟩:=h
    split at h
    case h_2=>exact h.elim
    rename_i k ver' esz' es hob;obtain ⟨rfl,rfl,h3,h4,h5,h6⟩:=h;refine ⟨_,h6,op_copy hop hc hy h2 hE hd hx h1 h3 h4 h5,?_,by simpa using (List.getElem?_eq_some_iff.1 hob).1⟩;intro p hp;rcases List.mem_cons.1 hp with rfl | hp
    · exact hob
    · exact abB p hp
  · rename_i x ha;obtain ⟨y,hy,rfl⟩:=asR ha
    split at h
    case h_2=>exact h.elim
    rename_i n hin hl;obtain ⟨h1,h2,h3⟩:=h;obtain ⟨q1,q2⟩:=op_cap (P:=P) (base:=H.length) hop hc hy hl h1 h2;exact ⟨_,h3,q1,q2,by simp⟩
  · rename_i x ha;obtain ⟨y,hy,hyx⟩:=asR ha
    split at h
    · rw [← hyx] at h;exact plain h.2.2 (ake hop hc hy hyx h.1 h.2.1) rfl rfl
    · split at h
      · rename_i b ver esz off len sz z k ver' esz' es hE hz hob;obtain ⟨rfl,rfl,rfl,h1,h2,h3,h4,h5,h6,h7⟩:=h;exact ⟨_,h7,avD hop hc hy h5 hE hz h1 hyx h2 h3 h4 h6,by simpa using hob,by simpa using (List.getElem?_eq_some_iff.1 hob).1⟩
      · exact h.elim
    · exact h.elim
  · rename_i x ha;obtain ⟨y,hy,hyx⟩:=asR ha
    split at h
    · exact plain h (aem (H0:=H) hop hc hy (.inl ⟨hyx,rfl,rfl⟩)) rfl rfl
    · split at h
      · rename_i b ver esz off len k ver' esz' es hob;obtain ⟨rfl,rfl,h⟩:=h;rcases h with ⟨h1,h2,h3⟩ | ⟨h1,h2,h3⟩
        · exact ⟨_,h3,aem hop hc hy (.inr ⟨_,_,_,_,_,_,_,hyx,hob,rfl,.inl ⟨⟨h1,h2⟩,rfl⟩⟩),by simpa using hob,by simp⟩
        · exact ⟨_,h3,aem hop hc hy (.inr ⟨_,_,_,_,_,_,_,hyx,hob,rfl,.inr ⟨h1,h2,rfl⟩⟩),by simpa using hob,by simp⟩
      · exact h.elim
    · exact h.elim
  · rename_i x n ha;obtain ⟨y,z,hy,hyx,hzn⟩:∃ y z,c.args.toList=[y,z]∧ρ y=x∧ρ z=.p (.int .i64 n):=by
     match hh:c.args.toList with
     | []=>rw [hh] at ha; simp at ha
     | [y]=>rw [hh] at ha; simp at ha
     | [y,z]=>rw [hh] at ha; simp at ha; exact ⟨y,z,rfl,ha.1,ha.2⟩
     | _::_::_::_=>rw [hh] at ha; simp at ha
    split at h
    · obtain ⟨rfl,h1,h2⟩:=h;obtain ⟨T,X,hTX⟩:=ak6 h1;exact plain h2 (aeP hop hc hy hTX hyx hzn) rfl rfl
    · split at h
      · rename_i b ver esz i ver' esz' es hob;obtain ⟨rfl,rfl,rfl,rfl,h1,h2,h3,h4,h5,h6,h⟩:=h;obtain ⟨T,X,hTX⟩:=ak6 h4
        split at h
        · rename_i l hl;obtain ⟨m,rfl⟩:=Int.eq_ofNat_of_zero_le (by omega:0≤n);simp only [Int.toNat_natCast] at h2 hl;have hT:P.underlying T=some (.pointer Gl.u8):=by
           rw [hTX] at h5;simp only [ptrTo] at h5
           split at h5
           · rename_i e he; simp at h5; rw [← h5]; exact he
           · simp at h5
          exact ⟨_,h,ahT hop hc hy hTX hyx hzn (by omega) h2 (by omega) hT h6 hl,by simpa using hob,by simpa using (List.getElem?_eq_some_iff.1 hob).1⟩
        · exact h.elim
      · exact h.elim
    · exact h.elim
  · exact h.elim
end
section
variable {P:Program} {frz:FuncId→Bool} {n:Nat}
theorem amj {o o':Obj} (h:aih o=some o'):aih o'=some o':=by
 unfold aih at h
 split at h
 · simp at h; subst h; rfl
 · rename_i k ver esz es
   split at h
   · simp at h
   · split at h
     · rename_i l hl; simp at h; subst h; simp [aih,AK.gr,hl]
     · simp at h
 · simp at h; subst h; rfl
 · simp at h
theorem frz_one {w : World} {Imm Prot : Nat → Prop} {β : Bd} {H : Heap} (hr : HRel P w Imm β H Prot) {b : Nat} {o o' : Obj} (ho : H[b]? = some o) (hf : aih o = some o') :
    ∃ Imm',Post P Prot Imm w β H Imm' w β (H.set b o')∧Imm' (β.blk b):=by
 unfold aih at hf
 split at hf
 · rename_i fz t;simp at hf; subst hf;obtain ⟨cs,T,h1,h2,h3,h4⟩:=hr.objs b _ ho;have hst:aaG β H β (H.set b (.box true (.p t))):=ab9 ho (.inl ⟨_,_,_,rfl,rfl⟩);exact aca hr ho trivial (o':=.box true (.p t)) trivial (fun _ h=>h) (fun _ h=>by cases h) hst h3.aju
    (fun Imm' hi hb=>⟨cs,T,h1,AVC.mono hi (fun _ _=>rfl) hst _ _ (by simp [aaa]) h2,hb,fun _=>trivial,h4.2⟩) (by simp [Obj.refs,aaa])
 · rename_i k ver esz es
   split at hf
   · simp at hf
   · rename_i hn
     split at hf
     case h_2=>simp at hf
     rename_i ps hps;simp at hf; subst hf;have hes:=acR hps;rcases hr.objs b _ ho with hold | ⟨cs,T,css,rest,h1,h2,h3,h4,h5,h6,h7,h8⟩
     · exact (hn hold).elim
     have hnf:¬ aam .frozen es:=fun h=>by cases h.1
     have hst:aaG β H β (H.set b (.arr .frozen ver esz es)):=ab9 ho (.inr (.inl ⟨_,_,_,_,_,rfl,rfl,hn,hnf⟩));exact aca hr ho hn (o':=.arr .frozen ver esz es) hnf (fun _ h=>h) (fun _ h=>by cases h) hst h7.aju
      (fun Imm' hi hb=>.inr ⟨cs,T,css,rest,h1,AVCl.mono hi (fun _ _=>rfl) hst _ _ _ (hr.refs b _ ho) h2,h3,h4,h5,(fun h=>by cases h),hb,fun _ e he=>(by rw [hes] at he; simp at he; obtain ⟨a,_,rfl⟩:=he; trivial),fun h=>by cases h⟩)
      (by rw [hes]; exact aaE _ _)
 · rename_i fz es;simp at hf; subst hf;obtain ⟨ents,clock,h1,h2,h3⟩:=hr.objs b _ ho;have hst:aaG β H β (H.set b (.map true es)):=ab9 ho (.inr (.inr ⟨_,_,_,rfl,rfl⟩));exact aca hr ho trivial (o':=.map true es) trivial (fun _ h=>h) (fun _ h=>by cases h) hst h3.aju
    (fun Imm' hi hb=>⟨ents,clock,h1,PVM.mono hi (fun _ _=>rfl) _ _ h2,hb⟩) trivial
 · simp at hf
theorem aii {w : World} {Prot : Nat → Prop} {β : Bd} {H0 : Heap} : ∀ (bs : List Nat) {hin hset : List (Nat × Obj)} {H : Heap} {Imm : Nat → Prop}, ad9 H0 bs = some (hin, hset) → HRel P w Imm β H Prot →
    (∀ p∈hin,∃ o1,H[p.1]?=some o1∧aih o1=aih p.2)→∃ Imm',Post P Prot Imm w β H Imm' w β (aaj H hset)∧∀ b∈bs,Imm' (β.blk b)
 | [],hin,hset,H,Imm,h,hr,_=>by
  simp [ad9] at h;obtain ⟨rfl,rfl⟩:=h;exact ⟨Imm,Post.refl hr,by simp⟩
 | b::bs,hin,hset,H,Imm,h,hr,hc=>by
  simp only [ad9] at h
  split at h
  case h_2=>simp at h
  rename_i o hin' hset' hob h'
  split at h
  case h_2=>simp at h
  rename_i o' hf;simp at h;obtain ⟨rfl,rfl⟩:=h;obtain ⟨o1,g1,g2⟩:=hc (b,o) (by simp);simp only at g1 g2;rw [hf] at g2;obtain ⟨Imm1,p1,p2⟩:=frz_one hr g1 g2;have hbl:b<H.length:=(List.getElem?_eq_some_iff.1 g1).1;obtain ⟨Imm2,q1,q2⟩:=aii bs h' p1.rel (by
   intro p hp;obtain ⟨o2,k1,k2⟩:=hc p (by simp [hp])
   by_cases hpb:b=p.1
   · rw [← hpb] at k1 ⊢;rw [g1] at k1; cases k1;refine ⟨o',by rw [List.getElem?_set_self hbl],?_⟩;rw [← k2,g2,amj g2]
   · exact ⟨o2,by rw [List.getElem?_set_ne hpb]; exact k1,k2⟩)
  refine ⟨Imm2,by simpa only [aaj] using p1.trans q1,?_⟩;intro x hx;rcases List.mem_cons.1 hx with rfl | hx
  · exact q1.imm _ p2
  · exact q2 x hx
theorem amk {H0:Heap}:∀ (bs:List Nat) {hin hset:List (Nat×Obj)},ad9 H0 bs=some (hin,hset)→(∀ p∈hin,H0[p.1]?=some p.2)∧(∀ p∈hset,p.1<H0.length∧p.2≠.hole)∧hin.map (·.1)=bs
 | [],hin,hset,h=>by
  simp [ad9] at h;obtain ⟨rfl,rfl⟩:=h;simp
 | b::bs,hin,hset,h=>by
  simp only [ad9] at h
  split at h
  case h_2=>simp at h
  rename_i o hin' hset' hob h'
  split at h
  case h_2=>simp at h
  rename_i o' hf;simp at h;obtain ⟨rfl,rfl⟩:=h;obtain ⟨i1,i2,i3⟩:=amk bs h';refine ⟨?_,?_,by simp [i3]⟩
  · intro p hp;rcases List.mem_cons.1 hp with rfl | hp
    · exact hob
    · exact i1 p hp
  · intro p hp;rcases List.mem_cons.1 hp with rfl | hp
    · refine ⟨(List.getElem?_eq_some_iff.1 hob).1,fun he=>?_⟩;simp only at he;have:=amj hf;rw [he] at this; simp [aih] at this
    · exact i2 p hp
theorem avm {w : World} {Imm Imm' Prot : Nat → Prop} {β : Bd} {H0 H : Heap} {a : AV} {pv : PV} {bs : List Nat} {v : Value} (hp : purE H0 a = some (pv, bs)) (hin : ∀ b ∈ bs, H[b]? = H0[b]?) (hr : HRel P w Imm β H Prot) (hv : AVV P w Imm β H a v)
    (hi:∀ k,Imm k→Imm' k) (hb:∀ b∈bs,Imm' (β.blk b)):PVV P w Imm' pv v:=by
 cases a with
 | p t =>
  simp [purE] at hp;obtain ⟨rfl,rfl⟩:=hp;simp only [AVV] at hv;exact PVV.mono hi (fun _ _=>rfl) _ _ hv
 | sl b ver esz off len =>
  simp only [purE] at hp
  split at hp
  case h_2=>simp at hp
  rename_i k ver' esz' es hob
  split at hp
  case isFalse=>simp at hp
  rename_i hcond;obtain ⟨rfl,rfl,hl⟩:=hcond
  split at hp
  · simp at hp
  · rename_i hn
    split at hp
    case h_2=>simp at hp
    rename_i ps hps;simp at hp;obtain ⟨rfl,rfl⟩:=hp;have hes:=acR hps;have hob':H[b]?=some (.arr k ver esz es):=by rw [hin b (by simp)]; exact hob
    have hib:=hb b (by simp);simp only [AVV,RefV,RefC] at hv;obtain ⟨v1,v2,v3⟩:=hv.2 k es hob';rcases hr.objs b _ hob' with hold | ⟨cs,T,css,rest,h1,h2,h3,h4,h5,h6,h7,h8⟩
    · exact (hn hold).elim
    rw [v3 hn];have hrow:Row P w Imm' β H esz es css:=AVCl.mono hi (fun _ _=>rfl) (aaG.refl _ _) _ _ _ (hr.refs b _ hob') h2;obtain ⟨a,m,c,e1,e2,e3,e4,e5⟩:=ab1 hrow off len v1;rw [hes,adX,acS] at e2;have hlen:((ps.drop off).take len).length=len:=by
     have:es.length=ps.length:=by rw [hes]; simp
     simp; omega
    simp only [PVV];refine ⟨β.blk b,off*esz,β.cap b - off,esz,m,e2,fun _=>hib,?_,?_,?_,none,.inl rfl,?_⟩
    · rw [← e3];exact abg h1 (post:=c.flatten ++ rest) (by rw [h3,e1]; simp)
    · intro hf;simp at hf;rw [hlen,h6 hf.1]; omega
    · rw [hlen]; omega
    · rw [hlen]
 | ptr b path =>
  simp only [purE] at hp
  split at hp
  case h_2=>simp at hp
  rename_i fz t hob
  split at hp
  case h_2=>simp at hp
  rename_i s hs;simp at hp;obtain ⟨rfl,rfl⟩:=hp;have hob':H[b]?=some (.box fz (.p t)):=by rw [hin b (by simp)]; exact hob
  have hib:=hb b (by simp);simp only [AVV,RefV,RefC] at hv;obtain ⟨_,blk0,off0,o,rfl,ho,hv⟩:=hv;obtain ⟨rfl,rfl⟩:=hv (.inl ⟨fz,_,hob'⟩);obtain ⟨cs,T,h1,h2,h3,h4⟩:=hr.objs b _ hob';have h2':PVC P w Imm' t cs.toList:=by simp only [AVC] at h2; exact PVC.mono hi (fun _ _=>rfl) _ _ h2
  obtain ⟨pre,xs,post,e1,e2,e3⟩:=ahe h2' hs ho;simp only [PVV];refine ⟨β.blk b,off0,xs,e3,hib,?_,rfl⟩;rw [← e2]; exact abg h1 e1
 | map b =>
  simp only [purE] at hp
  split at hp
  case h_2=>simp at hp
  rename_i fz es hob;simp at hp;obtain ⟨rfl,rfl⟩:=hp;have hob':H[b]?=some (.map fz es):=by rw [hin b (by simp)]; exact hob
  have hib:=hb b (by simp);simp only [AVV,RefV,RefC] at hv;have hv:=hv.2.1 ⟨fz,es,hob'⟩;obtain ⟨ents,clock,h1,h2,h3⟩:=hr.objs b _ hob';simp only [PVV];exact ⟨β.blk b,ents,clock,hib,h1,PVM.mono hi (fun _ _=>rfl) _ _ h2,hv⟩
 | eptr=>simp [purE] at hp
 | func=>simp [purE] at hp
 | st=>simp [purE] at hp
 | tup=>simp [purE] at hp
theorem aln {w : World} {Imm Imm' Prot : Nat → Prop} {β : Bd} {H0 H : Heap} : ∀ {l : List AV} {vs : List PV} {bs : List Nat} {cvs : List Value}, aj9 H0 l = some (vs, bs) → (∀ b ∈ bs, H[b]? = H0[b]?) → HRel P w Imm β H Prot → AVVl P w Imm β H l cvs →
    (∀ k,Imm k→Imm' k)→(∀ b∈bs,Imm' (β.blk b))→PVVl P w Imm' vs cvs
 | [],vs,bs,cvs,h,_,_,hv,_,_=>by
  simp [aj9] at h;obtain ⟨rfl,rfl⟩:=h;simp only [AVVl] at hv;simpa [PVVl] using hv
 | a::l,vs,bs,cvs,h,hin,hr,hv,hi,hb=>by
  simp only [aj9] at h
  split at h
  case h_2=>simp at h
  rename_i v bs1 vs' bs2 h1 h2;simp at h;obtain ⟨rfl,rfl⟩:=h;simp only [AVVl] at hv;obtain ⟨y,ys,rfl,k1,k2⟩:=hv;simp only [PVVl];exact ⟨y,ys,rfl,avm h1 (fun b hx=>hin b (by simp [hx])) hr k1 hi (fun b hx=>hb b (by simp [hx])),aln h2 (fun b hx=>hin b (by simp [hx])) hr k2 hi (fun b hx=>hb b (by simp [hx]))⟩
def Act (P:Program) (n:Nat) (o:Oper) (s:St) (e:Eff):Prop :=
 ∀ (fr:Frame) (k:List Item) (cs:List Frame) (ops:Array Oper) (i:Nat) (r:List Nat) (ds:List Deferred) (Prot Imm:Nat→Prop) (β:Bd) (s':St) (t:Array Value) (w:World),
  ops[i]?=some o→Region.wanted o (yielded ops t)=true→aes n o=true→SRel P n Prot Imm β s' t w→(∀ x∈o.op.operands,ev s'.env x=ev s.env x) →
  (∀ p∈e.hin,s'.heap[p.1]?=some p.2)→(∀ j,j<e.hnew.length→s'.heap[s.heap.length+j]?=some .hole) →
  ∃ Imm' β' t' w',Steps P (lone (fat fr t ds (.inRegion ops (i::r)::k)) cs w) (lone (fat fr t' ds (.inRegion ops r::k)) cs w') ∧
   SRel P n Prot Imm' β' ⟨put o.dst e.v s'.env,aaj s'.heap (e.hset ++ newAt s.heap.length e.hnew)⟩ t' w'∧∀ N,Adv N Prot Imm w β s'.heap Prot Imm' w' β' (aaj s'.heap (e.hset ++ newAt s.heap.length e.hnew))
theorem amr {o:Oper} {K:Eff→Prop} {s:St} (h:effD P frz o s K) (c:Call):o.op≠.defer c:=by
 intro hc;unfold effD at h;rw [hc] at h;simp [ab7,hc] at h
theorem axm {e e':Env} {l:List Operand} (h:∀ x∈l,ev e' x=ev e x):l.map (ev e')=l.map (ev e):=List.map_congr_left h
theorem apU {o : Oper} {f : Operand} {argsO : Array Operand} {aT : Array TypeId} {g : FuncId} {fi ca : List AV} {K : Eff → Prop} {s : St}
    (hop:o.op=.call { callee:=.value f,args:=argsO,argTypes:=aT })
    (hf:(ev s.env f=.func g fi ca)∨(∃ a b,ev s.env f=.p (.func g a b)∧fi=a.map .p∧ca=b.map .p))
    (h:adj P g (fi ++ argsO.toList.map (ev s.env) ++ ca) s.heap K) :
    ∃ e,K e∧(∀ p∈e.hin,s.heap[p.1]?=some p.2)∧(∀ p∈e.hset,p.1<s.heap.length∧p.2≠.hole)∧Act P n o s e:=by
 have hnd:∀ c,o.op≠.defer c:=fun c hc=>by rw [hop] at hc; cases hc
 have hmem:f∈o.op.operands∧∀ x∈argsO.toList,x∈o.op.operands:=by
  rw [hop]; simp [Op.operands,Call.operands];exact fun x hx=>.inr hx
 have base : ∀ {Prot Imm : Nat → Prop} {β : Bd} {s' : St} {t : Array Value} {w : World}, SRel P n Prot Imm β s' t w → (∀ x ∈ o.op.operands, ev s'.env x = ev s.env x) →
     ∃ cargs:List Value,AVVl P w Imm β s'.heap (fi ++ argsO.toList.map (ev s.env) ++ ca) cargs∧aac (InH s'.heap) (fi ++ argsO.toList.map (ev s.env) ++ ca)∧(execOp (acb t) o).run P w=(callFunc g cargs.toArray).run P w:=by
  intro Prot Imm β s' t w hrel hag;have hev:=afG hrel f;rw [hag f hmem.1] at hev;obtain ⟨fv,cv,hfn,hfi,hca,hri,hrc⟩:∃ fv cv:List Value,acb t f=.func (.func g) fv.toArray cv.toArray∧AVVl P w Imm β s'.heap fi fv∧AVVl P w Imm β s'.heap ca cv∧aac (InH s'.heap) fi∧aac (InH s'.heap) ca:=by
   rcases hf with hf | ⟨a,b,hf,rfl,rfl⟩
   · rw [hf] at hev;simp only [AVV,aaa] at hev;obtain ⟨⟨fv,cv,h1,h2,h3⟩,h4,h5⟩:=hev;exact ⟨fv,cv,h3,h1,h2,h4,h5⟩
   · rw [hf] at hev;simp only [AVV,PVV] at hev;obtain ⟨⟨fv,cv,h1,h2,h3⟩,_⟩:=hev;exact ⟨fv,cv,h3,abq.2 h1,abq.2 h2,aaE _ _,aaE _ _⟩
  obtain ⟨ha,har⟩:=afT hrel argsO.toList;rw [axm (fun x hx=>hag x (hmem.2 x hx))] at ha har;refine ⟨fv ++ argsO.toList.map (acb t) ++ cv,abS (abS hfi ha) hca,aav (aav hri har) hrc,?_⟩;simp only [execOp,hop,resolve,hfn,Deferred.ofValue,Sem.run_bind,Sem.run_pure,Result.andThen_ok,invoke];congr 2;simp
 have pure : ∀ (fr : Frame) (k : List Item) (cs : List Frame) (ops : Array Oper) (i : Nat) (r : List Nat) (ds : List Deferred) (Prot Imm Imm1 : Nat → Prop) (β : Bd) (s' : St) (t : Array Value) (w : World) (H1 : Heap) (cargs : List Value) (vs : List PV) (v : PV),
     ops[i]?=some o→Region.wanted o (yielded ops t)=true→aes n o=true→SRel P n Prot Imm β s' t w→(execOp (acb t) o).run P w=(callFunc g cargs.toArray).run P w →
     Post P Prot Imm w β s'.heap Imm1 w β H1→PVVl P w Imm1 vs cargs→aab P g vs v →
     ∃ Imm' β' t' w',Steps P (lone (fat fr t ds (.inRegion ops (i::r)::k)) cs w) (lone (fat fr t' ds (.inRegion ops r::k)) cs w') ∧
      SRel P n Prot Imm' β' ⟨put o.dst (.p v) s'.env,H1⟩ t' w'∧∀ N,Adv N Prot Imm w β s'.heap Prot Imm' w' β' H1:=by
  intro fr k cs ops i r ds Prot Imm Imm1 β s' t w H1 cargs vs v ho hw hdst hrel hexec hp hvs hg;rcases hg with ⟨hent,hg⟩ | hg
  · rw [hent] at hexec;obtain ⟨e,w',fr',⟨cv',Imm',he,g1,g2,g3,g4,g5,gio,g6⟩,hst,hfn',hlv⟩:=hg w Imm1 _ hp.rel.imm hp.rel.glob hvs (fat fr t ds (.inRegion ops (i::r)::k)::cs);subst he;have hpost:=hp.trans (hp.rel.later g1 g2 g3 g4 g5 gio);refine ⟨Imm',β,_,w',?_,hrel.put hdst hpost (by simpa [AVV] using g6) (by simp [aaa]),fun _=>hpost.adv⟩;rw [← abE ho];exact (Steps.one (ado ho hw hnd hexec)).trans (Steps.trans hst (.one (step_leave_returned hlv)))
  · obtain ⟨cv',h1,h2⟩:=hg w Imm1 _ hvs;rw [h1] at hexec;exact ⟨Imm1,β,_,w,.one (acG ho hw hnd hexec (.inl rfl)),hrel.put hdst hp (by simpa [AVV] using h2) (by simp [aaa]),fun _=>hp.adv⟩
 rcases h with ⟨vs,v,h1,h2,h3⟩ | ⟨vs,bs,hin,hset,v,h1,h2,h3,h4⟩ | ⟨e,hE,hok,hK⟩ | ⟨hin,v,hX,hin0,hK⟩
 · refine ⟨_,h3,by simp,by simp,?_⟩;intro fr k cs ops i r ds Prot Imm β s' t w ho hw hdst hrel hag _ _;obtain ⟨cargs,c1,c2,c3⟩:=base hrel hag;rw [h1] at c1;simp only [newAt,List.append_nil,aaj];exact pure fr k cs ops i r ds Prot Imm Imm β s' t w s'.heap cargs vs v ho hw hdst hrel c3 (Post.refl hrel.heap) (abq.1 c1) h2
 · obtain ⟨i1,i2,i3⟩:=amk bs h2;refine ⟨_,h4,i1,i2,?_⟩;intro fr k cs ops i r ds Prot Imm β s' t w ho hw hdst hrel hag hin' _;obtain ⟨cargs,c1,c2,c3⟩:=base hrel hag;obtain ⟨Imm1,p1,p2⟩:=aii bs h2 hrel.heap (fun p hp=>⟨p.2,hin' p hp,rfl⟩);simp only [newAt,List.append_nil];refine pure fr k cs ops i r ds Prot Imm Imm1 β s' t w _ cargs vs v ho hw hdst hrel c3 p1 (aln h1 ?_ hrel.heap c1 p1.imm p2) h3;intro b hb;rw [← i3] at hb;obtain ⟨p,hp,rfl⟩:=List.mem_map.1 hb;rw [hin' p hp,i1 p hp]
 · refine ⟨_,hK,hok.1,hok.2,?_⟩;intro fr k cs ops i r ds Prot Imm β s' t w ho hw hdst hrel hag hin' hnew;obtain ⟨cargs,c1,c2,c3⟩:=base hrel hag;rw [hE.1] at c3;obtain ⟨x,w',fr',⟨cv',β',Imm',he,g1,g2,g3⟩,hst,hfn',hlv⟩:=hE.2 s'.heap w Imm Prot β _ hrel.heap c1 c2 hin' hnew (fat fr t ds (.inRegion ops (i::r)::k)::cs);subst he;refine ⟨Imm',β',_,w',?_,hrel.put hdst g1 g2 g3,fun _=>g1.adv⟩;rw [← abE ho];exact (Steps.one (ado ho hw hnd c3)).trans (Steps.trans hst (.one (step_leave_returned hlv)))
 · refine ⟨_,hK,hin0,by simp,?_⟩;intro fr k cs ops i r ds Prot Imm β s' t w ho hw hdst hrel hag hin' hnew;obtain ⟨cargs,c1,c2,c3⟩:=base hrel hag;obtain ⟨cv',h1,h3⟩:=hX s'.heap w Imm Prot β _ hrel.heap c1 c2 hin';rw [h1] at c3;have hp:=Post.refl hrel.heap;simp only [newAt,List.append_nil,aaj];exact ⟨Imm,β,_,w,.one (acG ho hw hnd c3 (.inl rfl)),hrel.put hdst hp (by simpa [AVV] using h3) (by simp [aaa]),fun _=>hp.adv⟩
theorem arj {o : Oper} {f : Operand} {argsO : Array Operand} {aT : Array TypeId} {b : Nat} {e : Eff} {s : St}
    (hop:o.op=.call { callee:=.value f,args:=argsO,argTypes:=aT }) (hf:ev s.env f=.map b) (hY:ajR P b (argsO.toList.map (ev s.env)) s.heap.length e):Act P n o s e:=by
 have hnd:∀ c,o.op≠.defer c:=fun c hc=>by rw [hop] at hc; cases hc
 have hmem:f∈o.op.operands∧∀ x∈argsO.toList,x∈o.op.operands:=by
  rw [hop]; simp [Op.operands,Call.operands];exact fun x hx=>.inr hx
 intro fr k cs ops i r ds Prot Imm β s' t w ho hw hdst hrel hag hin' hnew;have hev:=(afG hrel f).1;rw [hag f hmem.1,hf] at hev;simp only [AVV,RefV,RefC] at hev;obtain ⟨ha,har⟩:=afT hrel argsO.toList;rw [axm (fun x hx=>hag x (hmem.2 x hx))] at ha har;obtain ⟨hlv,g,tmps,assign,body,h1,h2⟩:=hY s'.heap w Imm Prot β _ hrel.heap ha har hin' hnew;have hfn:=hev.2.2 hlv;have hexec:(execOp (acb t) o).run P w=(Instr.yield (β.blk b) (argsO.toList.map (acb t)).toArray).run P w:=by
  simp only [execOp,hop,resolve,hfn,Deferred.ofValue,Sem.run_bind,Sem.run_pure,Result.andThen_ok,invoke];congr 2;exact Array.ext' (by simp)
 rw [h1] at hexec;obtain ⟨cv,w',β',Imm',g1,g2,g3,g4⟩:=h2 (fat fr t ds (.inRegion ops (i::r)::k)) cs;refine ⟨Imm',β',_,w',?_,hrel.put hdst g2 g3 g4,fun _=>g2.adv⟩;rw [← abE ho];exact (Steps.one (ajj ho hw hnd hexec)).trans g1
theorem auF (HS : ab2 P frz) {o : Oper} {K : Eff → Prop} {s : St} (h : effD P frz o s K) :
    ∃ e,K e∧(∀ p∈e.hin,s.heap[p.1]?=some p.2)∧(∀ p∈e.hset,p.1<s.heap.length∧p.2≠.hole)∧Act P n o s e:=by
 have hnd:=amr h;have gen:ab7 P frz o (ev s.env) s.heap K→∃ e,K e∧(∀ p∈e.hin,s.heap[p.1]?=some p.2)∧(∀ p∈e.hset,p.1<s.heap.length∧p.2≠.hole)∧Act P n o s e:=by
  intro h;obtain ⟨e,hK,hs,hin,hset⟩:=HS o _ _ _ (fun v=>rfl) h;refine ⟨e,hK,hin,hset,?_⟩;intro fr k cs ops i r ds Prot Imm β s' t w ho hw hdst hrel hag hin' hnew;obtain ⟨nx,cv,w',β',Imm',h1,h2,h3,h4,h5⟩:=hs s'.heap w Imm Prot β (acb t) hrel.heap (fun x hx=>by rw [← hag x hx]; exact afG hrel x) hin' hnew;exact ⟨Imm',β',_,w',.one (acG ho hw hnd h1 h2),hrel.put hdst h3 h4 h5,fun _=>h3.adv⟩
 unfold effD at h
 split at h
 · rename_i f args aT hop
   split at h
   · rename_i g fi ca hf;exact apU hop (.inr ⟨fi,ca,hf,rfl,rfl⟩) h
   · rename_i g fi ca hf;exact apU hop (.inl hf) h
   · rename_i b hf;obtain ⟨e,hY,hok,hK⟩:=h;exact ⟨e,hK,hok.1,hok.2,arj hop hf hY⟩
   · exact h.elim
 · exact gen h
end
section
variable {P:Program} {frz:FuncId→Bool} {n:Nat}
def looks (ops:Array Oper) (o:Oper):List Tmp :=
 (o.op.operands.toList.filterMap fun x=>match x with
  | .tmp t=>some t
  | _=>none) ++ (match o.guard with
  | some (j,_)=>(match (ops[j]?).bind (·.dst) with
   | some d=>[d]
   | none=>[])
  | none=>[])
def adB (ops:Array Oper) (a b:Oper):Bool :=
 (match a.dst with
  | some d=>(looks ops b).contains d || b.dst == some d
  | none=>false) ||
 (match b.dst with
  | some d=>(looks ops a).contains d
  | none=>false)
def fit (_:Nat) (ops:Array Oper):Bool :=
 (List.range ops.size).all fun j=>match ops[j]? with
  | some o=>o.after.toList.all (fun e=>!Region.binds .any e || decide (e.on<j)) &&
   (List.range j).all (fun i=>match ops[i]? with
    | some u=>!adB ops u o || reach ops ops.size i j
    | none=>true)
  | none=>true
structure auJ (P:Program) (n:Nat) (ops:Array Oper) (o:Oper) (s:St) (e:Eff):Prop where
 hin:∀ p∈e.hin,s.heap[p.1]?=some p.2
 hset:∀ p∈e.hset,p.1<s.heap.length
 act:(∀ (t:Array Value) (s':St) (Prot Imm:Nat→Prop) (β:Bd) (w:World),SRel P n Prot Imm β s' t w→(∀ x∈looks ops o,getE s'.env x=getE s.env x)→Region.wanted o (yielded ops t)=true)∧Act P n o s e ∨
  (∀ (t:Array Value) (s':St) (Prot Imm:Nat→Prop) (β:Bd) (w:World),SRel P n Prot Imm β s' t w→(∀ x∈looks ops o,getE s'.env x=getE s.env x)→Region.wanted o (yielded ops t)=false)∧e = { v:=.p (.tup []) }
inductive Tr (P:Program) (n:Nat) (ops:Array Oper):List Oper→Nat→St→List (St×Eff)→St→Prop
 | nil (i:Nat) (s:St):Tr P n ops [] i s [] s
 | cons {o:Oper} {r:List Oper} {i:Nat} {s s':St} {e:Eff} {es:List (St×Eff)}:auJ P n ops o s e→Tr P n ops r (i+1) (e.app o.dst s) es s'→Tr P n ops (o::r) i s ((s,e)::es) s'
def aeg (i:Nat):List (St×Eff)→List Touch→List Touch
 | [],acc=>acc
 | (s,e)::r,acc=>aeg (i+1) r (ac7 i s.heap.length e acc)
theorem adS {ops:Array Oper} {o:Oper} {j:Nat} {want:Bool} (hg:o.guard=some (j,want)) {e e':Env} (h:∀ x∈looks ops o,getE e' x=getE e x):guardOf ops j e'=guardOf ops j e:=by
 unfold guardOf;cases hd:(ops[j]?).bind (·.dst) with
 | none=>rfl
 | some d =>
  simp only;exact h d (by simp [looks,hg,hd])
theorem aoJ (HS : ab2 P frz) {ops : Array Oper} (hok : ∀ o ∈ ops.toList, aes n o = true) : ∀ (l : List Oper) (i : Nat) (acc : List Touch) (s : St) {K : St → Prop}, (∀ o ∈ l, o ∈ ops.toList) → abu P frz ops l i acc K s →
    ∃ es s',Tr P n ops l i s es s'∧K s'∧ab5 ops (aeg i es acc)=true
 | [],i,acc,s,K,_,h=>⟨[],s,.nil i s,h.2,h.1⟩
 | o::l,i,acc,s,K,hl,h=>by
  have ih:=fun acc s (h:abu P frz ops l (i+1) acc K s)=>aoJ HS hok l (i+1) acc s (fun o ho=>hl o (by simp [ho])) h
  have skip : abu P frz ops l (i + 1) acc K ⟨put o.dst (.p (.tup [])) s.env, s.heap⟩ → (∀ (t : Array Value) (s' : St) (Prot Imm : Nat → Prop) (β : Bd) (w : World), SRel P n Prot Imm β s' t w → (∀ x ∈ looks ops o, getE s'.env x = getE s.env x) → Region.wanted o (yielded ops t) = false) →
      ∃ es s',Tr P n ops (o::l) i s es s'∧K s'∧ab5 ops (aeg i es acc)=true:=by
   intro hk hw;obtain ⟨es,s',h1,h2,h3⟩:=ih _ _ hk;refine ⟨(s,{ v:=.p (.tup []) })::es,s',.cons ⟨by simp,by simp,.inr ⟨hw,rfl⟩⟩ ?_,h2,by simpa [aeg,ac7] using h3⟩;simpa [Eff.app,aaj] using h1
  have go : effD P frz o s (fun e => abu P frz ops l (i + 1) (ac7 i s.heap.length e acc) K (e.app o.dst s)) → (∀ (t : Array Value) (s' : St) (Prot Imm : Nat → Prop) (β : Bd) (w : World), SRel P n Prot Imm β s' t w → (∀ x ∈ looks ops o, getE s'.env x = getE s.env x) → Region.wanted o (yielded ops t) = true) →
      ∃ es s',Tr P n ops (o::l) i s es s'∧K s'∧ab5 ops (aeg i es acc)=true:=by
   intro hk hw;obtain ⟨e,hK,hin,hset,hact⟩:=auF (n:=n) HS hk;obtain ⟨es,s',h1,h2,h3⟩:=ih _ _ hK;exact ⟨(s,e)::es,s',.cons ⟨hin,fun p hp=>(hset p hp).1,.inl ⟨hw,hact⟩⟩ h1,h2,by simpa [aeg] using h3⟩
  simp only [abu] at h
  split at h
  · rename_i hg;exact go h (fun _ _ _ _ _ _ _ _=>by simp [Region.wanted,hg])
  · rename_i j want hg
    split at h
    · rename_i b hb
      split at h
      · rename_i hbw;refine go h (fun t s' Prot Imm β w hrel hag=>?_);obtain ⟨g1,g2⟩:=afD hrel hok j;rw [adS hg hag] at g1;simp [Region.wanted,hg,g1 _ hb,hbw]
      · rename_i hbw;refine skip h (fun t s' Prot Imm β w hrel hag=>?_);obtain ⟨g1,g2⟩:=afD hrel hok j;rw [adS hg hag] at g1;simp [Region.wanted,hg,g1 _ hb,hbw]
    · rename_i hb;refine skip h (fun t s' Prot Imm β w hrel hag=>?_);obtain ⟨g1,g2⟩:=afD hrel hok j;rw [adS hg hag] at g2;simp [Region.wanted,hg,g2 hb]
    · exact h.elim
def amP (ops:Array Oper) (D:Nat→Prop):Prop:=∀ j o,ops[j]?=some o→D j→∀ e∈o.after,Region.binds .any e=true→D e.on
theorem af7 {ops:Array Oper} {D:Nat→Prop} (hc:amP ops D):∀ (f i j:Nat),reach ops f i j=true→(∀ o,ops[j]?=some o→∀ e∈o.after,Region.binds .any e=true→D e.on)→D i
 | 0,_,_,h,_=>by simp [reach] at h
 | f+1,i,j,h,hd=>by
  simp only [reach] at h
  split at h
  case h_2=>simp at h
  rename_i o ho;simp only [Bool.or_eq_true,List.any_eq_true,Bool.and_eq_true,beq_iff_eq,decide_eq_true_eq] at h;rcases h with ⟨e,he,h1,rfl⟩ | ⟨e,he,⟨h1,_⟩,h3⟩
  · exact hd o ho e (by simpa using he) h1
  · have hde:=hd o ho e (by simpa using he) h1;exact af7 hc f i e.on h3 (fun o' ho' e' he' hb'=>hc _ o' ho' hde e' he' hb')
end
section
variable {P:Program} {frz:FuncId→Bool} {n:Nat}
theorem adr (base:Nat) (l:List Obj):(newAt base l).map (·.1)=adR base l:=by
 induction l generalizing base with
 | nil=>rfl
 | cons o l ih=>simp [newAt,adR,ih]
theorem ah5 {base b:Nat} {l:List Obj}:b∈adR base l↔base≤b∧b<base+l.length:=by
 induction l generalizing base with
 | nil=>simp [adR]
 | cons o l ih=>simp only [adR,List.mem_cons,ih,List.length_cons]; omega
theorem afq {l:List (Nat×Obj)} {b:Nat} (h:b ∉ l.map (·.1)):∀ H:Heap,(aaj H l)[b]?=H[b]?:=by
 induction l with
 | nil=>intro H; rfl
 | cons p l ih =>
  obtain ⟨c,o⟩:=p;intro H;simp only [List.map_cons,List.mem_cons,not_or] at h;simp only [aaj];rw [ih h.2,List.getElem?_set_ne (Ne.symm h.1)]
theorem aqu {l:List (Nat×Obj)} {b:Nat} (h:b∈l.map (·.1)):∀ H H':Heap,H.length=H'.length→(aaj H l)[b]?=(aaj H' l)[b]?:=by
 induction l with
 | nil=>simp at h
 | cons p l ih =>
  obtain ⟨c,o⟩:=p;intro H H' hl;simp only [aaj]
  by_cases hb:b∈l.map (·.1)
  · exact ih hb _ _ (by simp [hl])
  · rw [afq hb,afq hb];simp only [List.map_cons,List.mem_cons] at h;have:b=c:=h.resolve_right hb;subst this
    by_cases hlt:b<H.length
    · rw [List.getElem?_set_self hlt,List.getElem?_set_self (by omega)]
    · rw [List.getElem?_eq_none (by simp; omega),List.getElem?_eq_none (by simp; omega)]
def stOf (es:List (St×Eff)) (s':St) (k:Nat):St:=match es[k]? with
 | some (s,_)=>s
 | none=>s'
def acd (es:List (St×Eff)) (k:Nat):Eff:=match es[k]? with
 | some (_,e)=>e
 | none=>{ v:=.p .undef }
theorem Tr.at {ops : Array Oper} : ∀ {l : List Oper} {i : Nat} {s s' : St} {es : List (St × Eff)}, Tr P n ops l i s es s' → es.length = l.length ∧ stOf es s' 0 = s ∧
    ∀ k o,l[k]?=some o→auJ P n ops o (stOf es s' k) (acd es k)∧stOf es s' (k+1)=(acd es k).app o.dst (stOf es s' k)
 | _,_,_,_,_,.nil i s=>⟨rfl,rfl,fun k o h=>by simp at h⟩
 | _,_,_,_,_,.cons (o:=o) (r:=r) (i:=i) (s:=s) (s':=s') (e:=e) (es:=es) hi ht=>by
  obtain ⟨h1,h2,h3⟩:=ht.at;refine ⟨by simp [h1],rfl,fun k o' hk=>?_⟩;cases k with
  | zero =>
   simp at hk; subst hk;refine ⟨by simpa [stOf,acd] using hi,?_⟩;have:stOf ((s,e)::es) s' (0+1)=stOf es s' 0:=by simp [stOf]
   rw [this,h2]; simp [stOf,acd]
  | succ k =>
   have e1:∀ m,stOf ((s,e)::es) s' (m+1)=stOf es s' m:=fun m=>by simp [stOf]
   have e2:acd ((s,e)::es) (k+1)=acd es k:=by simp [acd]
   rw [e1,e1,e2];exact h3 k o' (by simpa using hk)
theorem an7 (u:Touch) (i:Nat):aeR u ⟨i,[],[]⟩=false:=by
 simp [aeR]
theorem amU (i base:Nat) (e:Eff) (acc:List Touch):(ac7 i base e acc=acc∧aa7 i base e=⟨i,[],[]⟩)∨ac7 i base e acc=aa7 i base e::acc:=by
 unfold ac7
 split
 · rename_i h1 h2 h3;exact .inl ⟨rfl,by simp [aa7,h1,h2,h3,adR]⟩
 · exact .inr rfl
theorem aji {ops : Array Oper} : ∀ (es : List (St × Eff)) (i : Nat) (acc : List Touch), ab5 ops (aeg i es acc) = true → ab5 ops acc = true ∧
    (∀ u∈acc,∀ b s e,es[b]?=some (s,e)→aeR u (aa7 (i+b) s.heap.length e)=true→reach ops ops.size u.i (i+b)=true) ∧
    (∀ a b s e s2 e2,a<b→es[a]?=some (s,e)→es[b]?=some (s2,e2)→aeR (aa7 (i+a) s.heap.length e) (aa7 (i+b) s2.heap.length e2)=true→reach ops ops.size (i+a) (i+b)=true)
 | [],i,acc,h=>⟨h,by simp,by simp⟩
 | (s,e)::es,i,acc,h=>by
  simp only [aeg] at h;obtain ⟨h1,h2,h3⟩:=aji es (i+1) _ h
  have key : ab5 ops acc = true ∧ (∀ u ∈ acc, aeR u (aa7 i s.heap.length e) = true → reach ops ops.size u.i i = true) ∧ (∀ u ∈ acc, ∀ b s e, es[b]? = some (s, e) → aeR u (aa7 (i + 1 + b) s.heap.length e) = true → reach ops ops.size u.i (i + 1 + b) = true) ∧
      (∀ b s2 e2,es[b]?=some (s2,e2)→aeR (aa7 i s.heap.length e) (aa7 (i+1+b) s2.heap.length e2)=true→reach ops ops.size i (i+1+b)=true):=by
   rcases amU i s.heap.length e acc with ⟨ht,he⟩ | ht
   · rw [ht] at h1 h2;refine ⟨h1,fun u _ hc=>?_,h2,fun b s2 e2 _ hc=>?_⟩
     · rw [he,an7] at hc; cases hc
     · rw [he] at hc; simp [aeR] at hc
   · rw [ht] at h1 h2;simp only [ab5,Bool.and_eq_true,List.all_eq_true] at h1;refine ⟨h1.2,fun u hu hc=>?_,fun u hu=>h2 u (by simp [hu]),h2 _ (by simp)⟩;have:=h1.1 u hu;rw [hc] at this;exact (by simpa using this:reach ops ops.size u.i (aa7 i s.heap.length e).i=true)
  obtain ⟨k1,k2,k3,k4⟩:=key;refine ⟨k1,?_,?_⟩
  · intro u hu b s1 e1 hb hc;cases b with
    | zero=>simp at hb; obtain ⟨rfl,rfl⟩:=hb; exact k2 u hu hc
    | succ b =>
     have:=k3 u hu b s1 e1 (by simpa using hb);rw [show i+(b+1)=i+1+b by omega] at hc ⊢;exact this hc
  · intro a b s1 e1 s2 e2 hab ha hb hc;cases b with
    | zero=>omega
    | succ b =>
     rw [show i+(b+1)=i+1+b by omega] at hc ⊢;cases a with
     | zero =>
      simp at ha; obtain ⟨rfl,rfl⟩:=ha;exact k4 b s2 e2 (by simpa using hb) hc
     | succ a =>
      rw [show i+(a+1)=i+1+a by omega] at hc ⊢;exact h3 a b s1 e1 s2 e2 (by omega) (by simpa using ha) (by simpa using hb) hc
end
section
variable {P:Program} {frz:FuncId→Bool} {n:Nat}
def hx (N:Nat) (s:St):Heap:=s.heap ++ List.replicate (N - s.heap.length) .hole
def wrs (base:Nat) (e:Eff):List Nat:=(e.hset ++ newAt base e.hnew).map (·.1)
theorem hx_step {N:Nat} {s:St} {e:Eff} {o:Oper} (hset:∀ p∈e.hset,p.1<s.heap.length) (hN:(e.app o.dst s).heap.length≤N):hx N (e.app o.dst s)=aaj (hx N s) (e.hset ++ newAt s.heap.length e.hnew):=by
 have hl:(e.app o.dst s).heap=aaj s.heap e.hset ++ e.hnew:=rfl;have hlen:(e.app o.dst s).heap.length=s.heap.length+e.hnew.length:=by rw [hl]; simp [aa1]
 unfold hx;rw [hl];have h1:N - s.heap.length=e.hnew.length+(N - (s.heap.length+e.hnew.length)):=by omega
 rw [h1,← List.replicate_append_replicate,← List.append_assoc,adF _ _ _ (by
  intro p hp;rcases List.mem_append.1 hp with hp | hp
  · have:=hset p hp; simp; omega
  · have:p.1∈(newAt s.heap.length e.hnew).map (·.1):=List.mem_map_of_mem hp
    rw [adr,ah5] at this;simp; omega)]
 rw [adG,adF _ _ _ hset];have:=af5 (aaj s.heap e.hset) e.hnew;rw [aa1] at this;rw [this];congr 2;simp [aa1]
section sched
variable {ops:Array Oper} {es:List (St×Eff)} {s0 s':St}
structure aey (P:Program) (n:Nat) (ops:Array Oper) (es:List (St×Eff)) (s':St):Prop where
 len:es.length=ops.size
 at_:∀ k o,ops[k]?=some o→auJ P n ops o (stOf es s' k) (acd es k)∧stOf es s' (k+1)=(acd es k).app o.dst (stOf es s' k)
 dst:∀ o∈ops.toList,aes n o=true
 lower:∀ j o,ops[j]?=some o→∀ e∈o.after,Region.binds .any e=true→e.on<j
 tmps:∀ i j u o,i<j→ops[i]?=some u→ops[j]?=some o→adB ops u o=true→reach ops ops.size i j=true
 heap:∀ i j,i<j→j<ops.size→aeR (aa7 i (stOf es s' i).heap.length (acd es i)) (aa7 j (stOf es s' j).heap.length (acd es j))=true→reach ops ops.size i j=true
def wr (es:List (St×Eff)) (s':St) (i:Nat):List Nat:=wrs (stOf es s' i).heap.length (acd es i)
structure At (ops:Array Oper) (es:List (St×Eff)) (s':St) (D:Nat→Prop) (s:St):Prop where
 tmp:∀ x,∃ k,k≤ops.size∧getE s.env x=getE (stOf es s' k).env x∧∀ i o,ops[i]?=some o→o.dst=some x→(D i↔i<k)
 len:s.heap.length=s'.heap.length
 heap:∀ b,∃ k,k≤ops.size∧s.heap[b]?=(hx s'.heap.length (stOf es s' k))[b]?∧∀ i,i<ops.size→b∈wr es s' i→(D i↔i<k)
variable (h:aey P n ops es s')
include h
theorem aey.mono:∀ {k m:Nat},k≤m→m≤ops.size→(stOf es s' k).heap.length≤(stOf es s' m).heap.length:=by
 intro k m hkm hm
 induction m with
 | zero => obtain rfl : k = 0 := by omega
           exact Nat.le_refl _
 | succ m ih =>
  by_cases hk:k=m+1
  · subst hk; exact Nat.le_refl _
  · have h1:=ih (by omega) (by omega);have ho:ops[m]?=some ops[m]:=Array.getElem?_eq_getElem (by omega);obtain ⟨_,h2⟩:=h.at_ m _ ho;rw [h2];simp only [Eff.app,List.length_append,aa1];omega
theorem aey.last:stOf es s' ops.size=s':=by
 have:es[ops.size]?=none:=List.getElem?_eq_none (by rw [h.len]; exact Nat.le_refl _);simp [stOf,this]
theorem aey.leN {k:Nat} (hk:k≤ops.size):(stOf es s' k).heap.length≤s'.heap.length:=by
 have:=h.mono hk (Nat.le_refl _)
 rwa [h.last] at this
theorem aey.ade {k:Nat} (hk:k<ops.size):hx s'.heap.length (stOf es s' (k+1))=aaj (hx s'.heap.length (stOf es s' k)) ((acd es k).hset ++ newAt (stOf es s' k).heap.length (acd es k).hnew):=by
 have ho:ops[k]?=some ops[k]:=Array.getElem?_eq_getElem hk;obtain ⟨h1,h2⟩:=h.at_ k _ ho;have h3:=h.leN (k:=k+1) hk;rw [h2] at h3 ⊢;exact hx_step h1.hset h3
theorem hx_len {k:Nat} (hk:k≤ops.size):(hx s'.heap.length (stOf es s' k)).length=s'.heap.length:=by
 have:=h.leN hk;simp [hx]; omega
theorem aey.aoL {x:Nat}:∀ {k m:Nat},k≤m→m≤ops.size→(∀ i o,k≤i→i<m→ops[i]?=some o→o.dst≠some x)→getE (stOf es s' m).env x=getE (stOf es s' k).env x:=by
 intro k m hkm
 induction m with
 | zero => intro _ _; obtain rfl : k = 0 := by omega
           rfl
 | succ m ih =>
  intro hm hw
  by_cases hk:k=m+1
  · subst hk; rfl
  · have h1:=ih (by omega) (by omega) (fun i o a b=>hw i o a (by omega));have ho:ops[m]?=some ops[m]:=Array.getElem?_eq_getElem (by omega);obtain ⟨_,h2⟩:=h.at_ m _ ho;rw [h2];simp only [Eff.app,afE];rw [if_neg (hw m _ (by omega) (by omega) ho)];exact h1
theorem aey.amb {b:Nat}:∀ {k m:Nat},k≤m→m≤ops.size→(∀ i,k≤i→i<m→b ∉ wr es s' i)→(hx s'.heap.length (stOf es s' m))[b]?=(hx s'.heap.length (stOf es s' k))[b]?:=by
 intro k m hkm
 induction m with
 | zero => intro _ _; obtain rfl : k = 0 := by omega
           rfl
 | succ m ih =>
  intro hm hw
  by_cases hk:k=m+1
  · subst hk; rfl
  · have h1:=ih (by omega) (by omega) (fun i a b=>hw i a (by omega));rw [h.ade (by omega),afq (hw m (by omega) (by omega))];exact h1
theorem aey.arJ {x:Nat} {k m:Nat} (hk:k≤ops.size) (hm:m≤ops.size) (hw:∀ i o,ops[i]?=some o→o.dst=some x→(i<k↔i<m)):getE (stOf es s' m).env x=getE (stOf es s' k).env x:=by
 rcases Nat.le_total k m with hkm | hkm
 · exact h.aoL hkm hm fun i o a b ho hd=>by have:=hw i o ho hd; omega
 · exact (h.aoL hkm hk fun i o a b ho hd=>by have:=hw i o ho hd; omega).symm
theorem aey.apz {b:Nat} {k m:Nat} (hk:k≤ops.size) (hm:m≤ops.size) (hw:∀ i,i<ops.size→b∈wr es s' i→(i<k↔i<m)):(hx s'.heap.length (stOf es s' m))[b]?=(hx s'.heap.length (stOf es s' k))[b]?:=by
 rcases Nat.le_total k m with hkm | hkm
 · exact h.amb hkm hm fun i a c hd=>by have:=hw i (by omega) hd; omega
 · exact (h.amb hkm hk fun i a c hd=>by have:=hw i (by omega) hd; omega).symm
variable {D:Nat→Prop} (hc:amP ops D)
include hc
theorem aey.order {i : Nat} {o : Oper} (ho : ops[i]? = some o) (hnd : ¬ D i) (hready : ∀ e ∈ o.after, Region.binds .any e = true → D e.on) :
    (∀ j,j<i→reach ops ops.size j i=true→D j)∧(∀ j,j<ops.size→i<j→reach ops ops.size i j=true→¬ D j):=by
 constructor
 · intro j hj hr;exact af7 hc _ _ _ hr (fun o' ho'=>by rw [ho] at ho'; cases ho'; exact hready)
 · intro j hjl hj hr hd;exact hnd (af7 hc _ _ _ hr (fun o' ho' e he hb=>hc j o' ho' hd e he hb))
theorem aey.reads {i : Nat} {o : Oper} (ho : ops[i]? = some o) (hnd : ¬ D i) (hready : ∀ e ∈ o.after, Region.binds .any e = true → D e.on) {s : St} (hat : At ops es s' D s) :
    (∀ x∈looks ops o,getE s.env x=getE (stOf es s' i).env x)∧(∀ b,b∈(acd es i).hin.map (·.1)∨b∈wr es s' i→s.heap[b]?=(hx s'.heap.length (stOf es s' i))[b]?):=by
 obtain ⟨o1,o2⟩:=h.order hc ho hnd hready;have hi:i<ops.size:=(Array.getElem?_eq_some_iff.1 ho).1;constructor
 · intro x hx;obtain ⟨k,k1,k2,k3⟩:=hat.tmp x;rw [k2];refine h.arJ (by omega) k1 fun j u hu hd=>?_;have hj:j<ops.size:=(Array.getElem?_eq_some_iff.1 hu).1;rw [← k3 j u hu hd];constructor
   · intro hlt;refine o1 j hlt (h.tmps j i u o hlt hu ho ?_);simp [adB,hd,hx]
   · intro hDj;rcases Nat.lt_trichotomy j i with hlt | rfl | hlt
     · exact hlt
     · exact (hnd hDj).elim
     · exact (o2 j hj hlt (h.tmps i j o u hlt ho hu (by simp [adB,hd,hx])) hDj).elim
 · intro b hb;obtain ⟨k,k1,k2,k3⟩:=hat.heap b;rw [k2];refine h.apz (by omega) k1 fun j hj hw=>?_;rw [← k3 j hj hw];have hwj:b∈(aa7 j (stOf es s' j).heap.length (acd es j)).wr:=by
    unfold wr wrs at hw;rw [List.map_append,adr] at hw;exact hw
   have hbi:b∈(aa7 i (stOf es s' i).heap.length (acd es i)).rd∨b∈(aa7 i (stOf es s' i).heap.length (acd es i)).wr:=by
    rcases hb with hb | hb
    · exact .inl hb
    · unfold wr wrs at hb;rw [List.map_append,adr] at hb;exact .inr hb
   constructor
   · intro hlt;refine o1 j hlt (h.heap j i hlt hi ?_);simp only [aeR,Bool.or_eq_true,List.any_eq_true,List.contains_iff_mem];exact .inl ⟨b,hwj,hbi⟩
   · intro hDj;rcases Nat.lt_trichotomy j i with hlt | rfl | hlt
     · exact hlt
     · exact (hnd hDj).elim
     · refine (o2 j hj hlt (h.heap i j hlt hj ?_) hDj).elim;simp only [aeR,Bool.or_eq_true,List.any_eq_true,List.contains_iff_mem];rcases hbi with hbi | hbi
       · exact .inr ⟨b,hbi,hwj⟩
       · exact .inl ⟨b,hbi,.inr hwj⟩
theorem aey.next {i : Nat} {o : Oper} (ho : ops[i]? = some o) (hnd : ¬ D i) (hready : ∀ e ∈ o.after, Region.binds .any e = true → D e.on) {s : St} (hat : At ops es s' D s) :
    At ops es s' (fun j=>D j∨j=i) ⟨put o.dst (acd es i).v s.env,aaj s.heap ((acd es i).hset ++ newAt (stOf es s' i).heap.length (acd es i).hnew)⟩:=by
 obtain ⟨o1,o2⟩:=h.order hc ho hnd hready;have hi:i<ops.size:=(Array.getElem?_eq_some_iff.1 ho).1;obtain ⟨hitem,ade⟩:=h.at_ i o ho;refine ⟨fun x=>?_,by simp only [aa1]; exact hat.len,fun b=>?_⟩
 · by_cases hx:o.dst=some x
   · refine ⟨i+1,hi,?_,fun j u hu hd=>?_⟩
     · rw [ade]; simp [Eff.app,afE,hx]
     · have hj:j<ops.size:=(Array.getElem?_eq_some_iff.1 hu).1;constructor
       · rintro (hDj | rfl)
         · rcases Nat.lt_trichotomy j i with hlt | rfl | hlt
           · omega
           · omega
           · exact (o2 j hj hlt (h.tmps i j o u hlt ho hu (by simp [adB,hd,hx])) hDj).elim
         · omega
       · intro hlt
         by_cases hji:j=i
         · exact .inr hji
         · exact .inl (o1 j (by omega) (h.tmps j i u o (by omega) hu ho (by simp [adB,hd,hx])))
   · obtain ⟨k,k1,k2,k3⟩:=hat.tmp x;refine ⟨k,k1,?_,fun j u hu hd=>?_⟩
     · simp only [afE]; rw [if_neg hx]; exact k2
     · rw [← k3 j u hu hd];constructor
       · rintro (hDj | rfl)
         · exact hDj
         · rw [ho] at hu; cases hu; exact (hx hd).elim
       · exact .inl
 · by_cases hb:b∈wr es s' i
   · refine ⟨i+1,hi,?_,fun j hj hw=>?_⟩
     · rw [h.ade hi];exact aqu hb _ _ (by rw [hx_len h (by omega)]; exact hat.len)
     · have hwj:b∈(aa7 j (stOf es s' j).heap.length (acd es j)).wr:=by
        unfold wr wrs at hw;rw [List.map_append,adr] at hw;exact hw
       have hwi:b∈(aa7 i (stOf es s' i).heap.length (acd es i)).wr:=by
        unfold wr wrs at hb;rw [List.map_append,adr] at hb;exact hb
       constructor
       · rintro (hDj | rfl)
         · rcases Nat.lt_trichotomy j i with hlt | rfl | hlt
           · omega
           · omega
           · refine (o2 j hj hlt (h.heap i j hlt hj ?_) hDj).elim;simp only [aeR,Bool.or_eq_true,List.any_eq_true,List.contains_iff_mem];exact .inl ⟨b,hwi,.inr hwj⟩
         · omega
       · intro hlt
         by_cases hji:j=i
         · exact .inr hji
         · refine .inl (o1 j (by omega) (h.heap j i (by omega) hi ?_));simp only [aeR,Bool.or_eq_true,List.any_eq_true,List.contains_iff_mem];exact .inl ⟨b,hwj,.inr hwi⟩
   · obtain ⟨k,k1,k2,k3⟩:=hat.heap b;refine ⟨k,k1,?_,fun j hj hw=>?_⟩
     · simp only; rw [afq hb]; exact k2
     · rw [← k3 j hj hw];constructor
       · rintro (hDj | rfl)
         · exact hDj
         · exact (hb hw).elim
       · exact .inl
end sched
end
section
variable {P:Program} {frz:FuncId→Bool} {n:Nat}
variable {ops:Array Oper} {es:List (St×Eff)} {s':St}
theorem SRel.congr {Prot Imm:Nat→Prop} {β:Bd} {s u:St} {t:Array Value} {w:World} (h:SRel P n Prot Imm β s t w) (he:∀ x,getE u.env x=getE s.env x) (hh:u.heap=s.heap):SRel P n Prot Imm β u t w:=by
 refine ⟨by rw [hh]; exact h.heap,fun x=>?_,fun x=>?_,h.size⟩
 · rw [he,hh]; exact h.env x
 · rw [he,hh]; exact h.erefs x
theorem SRel.ama {Prot Imm:Nat→Prop} {β:Bd} {s:St} {t:Array Value} {w:World} (m:Nat) (h:SRel P n Prot Imm β s t w):SRel P n Prot Imm β ⟨s.env,s.heap ++ List.replicate m .hole⟩ t w :=
 ⟨h.heap.ama m,fun x=>AVV.mono (fun _ x=>x) (fun _ _=>rfl) (ab8 β s.heap m) _ _ (h.erefs x) (h.env x),fun x=>aaa.mono (acz _ _) _ (h.erefs x),h.size⟩
theorem av7 {o:Oper} {e e':Env} (h:∀ x∈looks ops o,getE e' x=getE e x):∀ x∈o.op.operands,ev e' x=ev e x:=by
 intro x hx;cases x with
 | tmp t =>
  simp only [ev];refine h t ?_;simp only [looks,List.mem_append,List.mem_filterMap];exact .inl ⟨.tmp t,by simpa using hx,rfl⟩
 | _=>rfl
theorem aey.run (h : aey P n ops es s') {D : Nat → Prop} (hc : amP ops D) {i : Nat} {o : Oper} (ho : ops[i]? = some o) (hnd : ¬ D i) (hready : ∀ e ∈ o.after, Region.binds .any e = true → D e.on) {s : St} (hat : At ops es s' D s)
    {fr:Frame} {k:List Item} {cs:List Frame} {r:List Nat} {ds:List Deferred} {Prot Imm:Nat→Prop} {β:Bd} {t:Array Value} {w:World} (hrel:SRel P n Prot Imm β s t w) :
    ∃ u Imm' β' t' w',Steps P (lone (fat fr t ds (.inRegion ops (i::r)::k)) cs w) (lone (fat fr t' ds (.inRegion ops r::k)) cs w')∧SRel P n Prot Imm' β' u t' w'∧(∀ N,Adv N Prot Imm w β s.heap Prot Imm' w' β' u.heap)∧At ops es s' (fun j=>D j∨j=i) u:=by
 obtain ⟨r1,r2⟩:=h.reads hc ho hnd hready hat;have hi:i<ops.size:=(Array.getElem?_eq_some_iff.1 ho).1;obtain ⟨hitem,_⟩:=h.at_ i o ho;have hnext:=h.next hc ho hnd hready hat;have hdst:aes n o=true:=h.dst o (by rw [Array.mem_toList_iff]; exact Array.mem_of_getElem? ho);have hle:=h.leN (k:=i) (by omega);rcases hitem.act with ⟨hw,hact⟩ | ⟨hw,he⟩
 · obtain ⟨Imm', β', t', w', a1, a2, a3⟩ := hact fr k cs ops i r ds Prot Imm β s t w ho (hw t s Prot Imm β w hrel r1) hdst hrel (av7 r1) (by
       intro p hp;rw [r2 p.1 (.inl (List.mem_map_of_mem hp))];have:=hitem.hin p hp;unfold hx;rw [List.getElem?_append_left (List.getElem?_eq_some_iff.1 this).1];exact this) (by
       intro j hj;have hm:(stOf es s' i).heap.length+j∈wr es s' i:=by
        unfold wr wrs;rw [List.map_append,adr];exact List.mem_append_right _ (ah5.2 ⟨by omega,by omega⟩)
       rw [r2 _ (.inr hm)];have h2:=h.leN (k:=i+1) (by omega);rw [(h.at_ i o ho).2] at h2;simp only [Eff.app,List.length_append,aa1] at h2;unfold hx;rw [aaC,if_neg (by omega),if_pos (by omega)])
   exact ⟨_,Imm',β',t',w',a1,a2,a3,hnext⟩
 · rw [he] at hnext;simp only [newAt,List.append_nil,aaj] at hnext;exact ⟨_,Imm,β,_,w,.one (ala ho (hw t s Prot Imm β w hrel r1)),hrel.put hdst (Post.refl hrel.heap) (by simp [AVV,PVV,PVVl,undef]) (by simp [aaa]),fun _=>Adv.refl _ _ _ _ _ _,hnext⟩
def isDone (listed:Array Bool) (i:Nat):Prop:=listed.getD i false=true
theorem ajE {p:Nat→Bool} {i:Nat}:∀ {l:List Nat},l.Nodup→i∈l→p i=true→l.countP p=l.countP (fun x=>p x && x != i)+1
 | [],_,h,_=>by simp at h
 | a::l,hn,h,hp=>by
  rw [List.nodup_cons] at hn
  by_cases ha:a=i
  · subst ha;have e:l.countP (fun x=>p x && x != a)=l.countP p:=by
     refine List.countP_congr fun x hx=>?_;have:x≠a:=fun e=>hn.1 (e▸hx);simp [this]
    simp [hp,e]
  · have h':i∈l:=by
     rcases List.mem_cons.1 h with h | h
     · exact (ha h.symm).elim
     · exact h
    have ih:=ajE hn.2 h' hp;rw [List.countP_cons,List.countP_cons,ih];have:(a != i)=true:=by simpa using ha
    simp only [this,Bool.and_true];omega
def left (ops:Array Oper) (listed:Array Bool):Nat:=(List.range ops.size).countP fun i=>!listed.getD i true
theorem aey.goes (h : aey P n ops es s') {fr : Frame} {k : List Item} {cs : List Frame} {ds : List Deferred} {Prot : Nat → Prop} : ∀ (fuel tp : Nat) (listed : Array Bool) (s : St) (Imm : Nat → Prop) (β : Bd) (t : Array Value) (w : World), listed.size = ops.size → left ops listed ≤ fuel → amP ops (isDone listed) →
    At ops es s' (isDone listed) s→SRel P n Prot Imm β s t w →
    ∃ u D Imm' β' t' w',Steps P (lone (fat fr t ds (.inRegion ops (Region.linearise.go .any ops fuel tp listed [])::k)) cs w) (lone (fat fr t' ds (.inRegion ops []::k)) cs w')∧SRel P n Prot Imm' β' u t' w'∧(∀ N,Adv N Prot Imm w β s.heap Prot Imm' w' β' u.heap)∧At ops es s' D u∧∀ j,j<ops.size→D j:=by
 have alldone:∀ (listed:Array Bool),listed.size=ops.size→Region.ready .any ops listed=[]→∀ j,j<ops.size→isDone listed j:=by
  intro listed hsz hr j
  induction j using Nat.strongRecOn with
  | _ j ih =>
   intro hj
   by_cases hd:isDone listed j
   · exact hd
   · exfalso;have hjl:j<listed.size:=by omega
     have:j∈Region.ready .any ops listed:=by
      rw [mem_ready];refine ⟨?_,ops[j],Array.getElem?_eq_getElem hj,fun e he hb=>?_⟩
      · unfold isDone at hd;simp only [Array.getD_eq_getD_getElem?,Array.getElem?_eq_getElem hjl,Option.getD_some] at hd ⊢;simpa using hd
      · have hlt:=h.lower j _ (Array.getElem?_eq_getElem hj) e he hb;exact ih e.on hlt (by omega)
     rw [hr] at this; simp at this
 intro fuel
 induction fuel with
 | zero =>
  intro tp listed s Imm β t w hsz hl hc hat hrel;have hr:Region.ready .any ops listed=[]:=by
   rw [List.eq_nil_iff_forall_not_mem];intro j hj;rw [mem_ready] at hj;obtain ⟨hj0,o,ho,_⟩:=hj;have hjl:j<ops.size:=(Array.getElem?_eq_some_iff.1 ho).1;have:0<left ops listed:=by
    unfold left;rw [List.countP_pos_iff];exact ⟨j,by simpa using hjl,by rw [hj0]; rfl⟩
   omega
  exact ⟨s,isDone listed,Imm,β,t,w,by simp only [Region.linearise.go,List.reverse_nil]; exact Steps.refl _ _,hrel,fun _=>Adv.refl _ _ _ _ _ _,hat,alldone listed hsz hr⟩
 | succ fuel ih =>
  intro tp listed s Imm β t w hsz hl hc hat hrel;have hgo:Region.linearise.go .any ops (fuel+1) tp listed []=(match (Region.ready .any ops listed)[tp % (Region.ready .any ops listed).length]? with
   | some i=>Region.linearise.go .any ops fuel (tp / (Region.ready .any ops listed).length) (listed.setIfInBounds i true) [i]
   | none=>[].reverse):=rfl
  rw [hgo];cases hi:(Region.ready .any ops listed)[tp % (Region.ready .any ops listed).length]? with
  | none =>
   have hr:Region.ready .any ops listed=[]:=by
    cases hr:Region.ready .any ops listed with
    | nil=>rfl
    | cons x xs =>
     rw [hr] at hi;have hlt:tp % (x::xs).length<(x::xs).length:=Nat.mod_lt _ (by simp);rw [List.getElem?_eq_getElem hlt] at hi;cases hi
   exact ⟨s,isDone listed,Imm,β,t,w,Steps.refl _ _,hrel,fun _=>Adv.refl _ _ _ _ _ _,hat,alldone listed hsz hr⟩
  | some i =>
   simp only;rw [linearise_go_acc,List.reverse_singleton,List.singleton_append];have hm:=List.mem_of_getElem? hi;obtain ⟨hj0,o,ho,hready⟩:=mem_ready.1 hm;have hil:i<ops.size:=(Array.getElem?_eq_some_iff.1 ho).1;have hils:i<listed.size:=by omega
   have hnd:¬ isDone listed i:=by
    unfold isDone;simp only [Array.getD_eq_getD_getElem?,Array.getElem?_eq_getElem hils,Option.getD_some] at hj0 ⊢;simp [hj0]
   obtain ⟨u,Imm1,β1,t1,w1,a1,a2,a3,a4⟩:=h.run (fr:=fr) (k:=k) (cs:=cs) (ds:=ds) (r:=Region.linearise.go .any ops fuel (tp / (Region.ready .any ops listed).length) (listed.setIfInBounds i true) []) hc ho hnd hready hat hrel;have hD:(fun j=>isDone listed j∨j=i)=isDone (listed.setIfInBounds i true):=by
    funext j
    unfold isDone
    by_cases hji:j=i
    · subst hji;simp [hils]
    · have:(listed.setIfInBounds i true).getD j false=listed.getD j false:=getD_set_ne false (Ne.symm hji);rw [this]; simp [hji]
   rw [hD] at a4;have hc':amP ops (isDone (listed.setIfInBounds i true)):=by
    rw [← hD];intro j o' ho' hj e he hb;rcases hj with hj | rfl
    · exact .inl (hc j o' ho' hj e he hb)
    · rw [ho] at ho'; cases ho';exact .inl (hready e he hb)
   have hl':left ops (listed.setIfInBounds i true)≤fuel:=by
    have hcd:=ajE (p:=fun j=>!listed.getD j true) (i:=i) (l:=List.range ops.size) List.nodup_range (by simpa using hil) (by show (!listed.getD i true)=true; rw [hj0]; rfl);have:left ops (listed.setIfInBounds i true)=(List.range ops.size).countP (fun x=>!listed.getD x true && x != i):=by
     unfold left;refine List.countP_congr fun x hx=>?_
     by_cases hxi:x=i
     · subst hxi; simp [hils]
     · have:(listed.setIfInBounds i true).getD x true=listed.getD x true:=getD_set_ne true (Ne.symm hxi);rw [this]; simp [hxi]
    unfold left at hl;omega
   obtain ⟨v,D,Imm2,β2,t2,w2,b1,b2,b3,b4,b5⟩:=ih (tp / (Region.ready .any ops listed).length) (listed.setIfInBounds i true) u Imm1 β1 t1 w1 (by simpa using hsz) hl' hc' a4 a2;exact ⟨v,D,Imm2,β2,t2,w2,a1.trans b1,b2,fun N=>(a3 N).trans (b3 N),b4,b5⟩
theorem av5 (h : fit n ops = true) : (∀ j o, ops[j]? = some o → ∀ e ∈ o.after, Region.binds .any e = true → e.on < j) ∧
    (∀ i j u o,i<j→ops[i]?=some u→ops[j]?=some o→adB ops u o=true→reach ops ops.size i j=true):=by
 unfold fit at h;rw [List.all_eq_true] at h;constructor
 · intro j o ho e he hb;have hj:j<ops.size:=(Array.getElem?_eq_some_iff.1 ho).1;have:=h j (by simpa using hj);rw [ho] at this;simp only [Bool.and_eq_true,List.all_eq_true] at this;have:=this.1 e (by simpa using he);simpa [hb] using this
 · intro i j u o hij hu ho hcl;have hj:j<ops.size:=(Array.getElem?_eq_some_iff.1 ho).1;have:=h j (by simpa using hj);rw [ho] at this;simp only [Bool.and_eq_true,List.all_eq_true] at this;have:=this.2 i (by simpa using hij);rw [hu] at this;simpa [hcl] using this
theorem aeI (HS:ab2 P frz) (hmix:P.follows .mixedOrders=true):adx P frz fit:=by
 intro n N ops fr k cs ds tp K s Prot Imm β t w hfit hok h hrel;obtain ⟨es,s',h1,h2,h3⟩:=aoJ HS hok ops.toList 0 [] s (fun _ h=>h) h;obtain ⟨t1,t2,t3⟩:=h1.at;obtain ⟨_,_,h6⟩:=aji es 0 [] h3;obtain ⟨f1,f2⟩:=av5 (n:=n) hfit;have hlen:es.length=ops.size:=by simpa using t1
 have hs:aey P n ops es s':=by
  refine ⟨hlen,fun k o ho=>t3 k o (by simpa using ho),hok,f1,f2,fun i j hij hj hcl=>?_⟩;have hi:i<es.length:=by omega
  have hj':j<es.length:=by omega
  have ei:es[i]?=some (es[i].1,es[i].2):=by simp [List.getElem?_eq_getElem hi]
  have ej:es[j]?=some (es[j].1,es[j].2):=by simp [List.getElem?_eq_getElem hj']
  have:=h6 i j es[i].1 es[i].2 es[j].1 es[j].2 hij ei ej;simp only [Nat.zero_add] at this;refine this ?_;have gi:stOf es s' i=es[i].1∧acd es i=es[i].2:=by simp [stOf,acd,List.getElem?_eq_getElem hi]
  have gj:stOf es s' j=es[j].1∧acd es j=es[j].2:=by simp [stOf,acd,List.getElem?_eq_getElem hj']
  rw [gi.1,gi.2,gj.1,gj.2] at hcl;exact hcl
 have hle:=hs.leN (k:=0) (Nat.zero_le _);rw [t2] at hle;obtain ⟨m,hm⟩:∃ m,m=s'.heap.length - s.heap.length:=⟨_,rfl⟩
 have hrel':=hrel.ama m;have hadv0:∀ N,Adv N Prot Imm w β s.heap Prot Imm w β (s.heap ++ List.replicate m .hole):=fun N=>⟨fun _ x=>x,fun _ x=>x,fun _ x=>.inl x,Ext.refl _ _ _,(ab8 _ _ _).n,fun x _=>acz _ _ x,fun b _ ⟨L,hL⟩=>⟨L,by rw [aaC,if_pos (List.getElem?_eq_some_iff.1 hL).1]; exact hL⟩⟩
 have hsch:Region.schedule (P.follows .mixedOrders) ops tp=Region.linearise.go .any ops ops.size tp (Array.replicate ops.size false) []:=by
  simp [Region.schedule,hmix,Region.linearise]
 have hnone:∀ i,¬ isDone (Array.replicate ops.size false) i:=by
  intro i hi;unfold isDone at hi
  by_cases hil:i<ops.size
  · simp [hil] at hi
  · simp [hil] at hi
 have hat:At ops es s' (isDone (Array.replicate ops.size false)) ⟨s.env,s.heap ++ List.replicate m .hole⟩:=by
  refine ⟨fun x=>⟨0,Nat.zero_le _,by rw [t2],fun i o _ _=>⟨fun h=>(hnone i h).elim,fun h=>by omega⟩⟩,by simp; omega,fun b=>⟨0,Nat.zero_le _,by rw [t2]; unfold hx; rw [← hm],fun i _ _=>⟨fun h=>(hnone i h).elim,fun h=>by omega⟩⟩⟩
 have hleft:left ops (Array.replicate ops.size false)≤ops.size:=by
  unfold left;have:=List.countP_le_length (p:=fun i=>!(Array.replicate ops.size false).getD i true) (l:=List.range ops.size);simpa using this
 obtain ⟨u,D,Imm',β',t',w',a1,a2,a3,a4,a5⟩:=hs.goes (fr:=fr) (k:=k) (cs:=cs) (ds:=ds) ops.size tp (Array.replicate ops.size false) _ Imm β t w (by simp) hleft (fun j o ho hd=>(hnone j hd).elim) hat hrel';rw [hsch];have he:∀ x,getE s'.env x=getE u.env x:=by
  intro x;obtain ⟨k,k1,k2,k3⟩:=a4.tmp x;rw [k2];have:=hs.arJ (x:=x) k1 (Nat.le_refl ops.size) (fun i o ho hd=>by
   have hi:i<ops.size:=(Array.getElem?_eq_some_iff.1 ho).1;have:=(k3 i o ho hd).1 (a5 i hi);exact ⟨fun _=>hi,fun _=>this⟩)
  rw [hs.last] at this; exact this
 have hh:s'.heap=u.heap:=by
  apply List.ext_getElem?;intro b;obtain ⟨k,k1,k2,k3⟩:=a4.heap b;rw [k2];have:=hs.apz (b:=b) k1 (Nat.le_refl ops.size) (fun i hi hw=>by
   have:=(k3 i hi hw).1 (a5 i hi);exact ⟨fun _=>hi,fun _=>this⟩)
  rw [hs.last] at this;rw [← this]; simp [hx]
 exact ⟨s',Imm',β',t',w',h2,a1,a2.congr he hh,(hadv0 N).trans (hh▸a3 N)⟩
end
section
variable {P:Program}
structure IsFn (P:Program) (f:FuncId) (fn:Func):Prop where
 func:P.funcs[f]?=some fn
 stat : (fn.body.isSome && (fn.name != "runtime.NumGoroutine") && codeOk fit fn.ntmps (fn.body.getD .skip)) = true
theorem IsFn.enters {f:FuncId} {fn:Func} (h:IsFn P f fn):Enters P f:=by
 intro args w;have hs:=h.stat;simp only [Bool.and_eq_true,bne_iff_ne] at hs;cases hfb:fn.body with
 | none=>rw [hfb] at hs; simp at hs
 | some c=>simp [callFunc,h.func,hs.1.2,hfb]
def Ends (P:Program) (rs:List ResultVar) (v:PV) (e:aan) (s:St):Prop :=
 (match e with
  | .exit _=>False
  | _=>True)∧∃ vs,aaO P s rs=some vs∧purR s.heap 9 (oneOf vs)=some v
theorem good {f : FuncId} {fn : Func} (frz : FuncId → Bool) (h : IsFn P f fn) (hmix : P.follows .mixedOrders = true) {args : List PV} {v : PV} (hn : args.length ≤ fn.ntmps)
    (hwp:aap P frz (fn.ntmps,0) (fn.body.getD .skip) (Ends P fn.results.toList v) ⟨ab3 0 (args.map .p),[]⟩):aab P f args v:=by
 have hs:=h.stat;simp only [Bool.and_eq_true,bne_iff_ne] at hs;have hb:fn.body=some (fn.body.getD .skip):=by
  have:=hs.1.1;cases hfb:fn.body <;> simp_all
 exact .inl (apD (aa2 frz) (aeI (aa2 frz) hmix) h.enters h.func hb hs.2 hn hwp)
class HasSpec (P:Program) (f:FuncId) (args:List PV) (pre:outParam Prop) (v:outParam PV):Prop where
 good:pre→aab P f args v
section calls
variable {f:FuncId} {H:Heap} {pre:Prop} {v:PV}
end calls
def aos (e:Env):Env→Prop
 | []=>True
 | (x,v)::r=>getE e x=v∧aos e r
def agx:Heap→Heap→Prop
 | _,[]=>True
 | [],.hole::t=>agx [] t
 | _::h,.hole::t=>agx h t
 | o::h,o'::t=>o=o'∧agx h t
 | [],_::_=>False
theorem aos.get {e:Env}:∀ {t:Env},aos e t→∀ x,getE t x=getE e x∨getE t x=.p .undef
 | [],_,x=>.inr rfl
 | (y,v)::t,h,x=>by
  simp only [aos] at h;simp only [getE]
  split
  · rename_i hx; subst hx; exact .inl h.1.symm
  · exact aos.get h.2 x
theorem agx.get:∀ {h t:Heap},agx h t→∀ (b:Nat) (o:Obj),t[b]?=some o→o=.hole∨h[b]?=some o
 | _,[],_,b,o,ho=>by simp at ho
 | [],o'::t,hk,b,o,ho=>by
  cases o' <;> simp only [agx] at hk;cases b with
  | zero=>simp at ho; exact .inl ho.symm
  | succ b=>exact (agx.get hk b o (by simpa using ho)).imp id (fun h=>by simp at h)
 | o1::h,o'::t,hk,b,o,ho=>by
  cases b with
  | zero =>
   simp at ho;cases o' <;> simp only [agx] at hk
   case hole=>exact .inl ho.symm
   all_goals exact .inr (by rw [← ho,← hk.1]; simp)
  | succ b =>
   have:agx h t:=by cases o' <;> simp only [agx] at hk <;> first | exact hk | exact hk.2
   exact (agx.get this b o (by simpa using ho)).imp id (fun h=>by simpa using h)
def aez (H:Heap):Env→Prop
 | []=>True
 | (_,v)::r=>aaa (InH H) v∧aez H r
def acD (H:Heap):Heap→Prop
 | []=>True
 | o::r=>o.refs (InH H)∧acD H r
theorem aez.get {H:Heap}:∀ {e:Env},aez H e→∀ x,aaa (InH H) (getE e x)
 | [],_,x=>by simp [getE,aaa]
 | (y,v)::e,h,x=>by
  simp only [aez] at h;simp only [getE]
  split
  · exact h.1
  · exact aez.get h.2 x
theorem acD.get {H:Heap}:∀ {h:Heap},acD H h→∀ (b:Nat) (o:Obj),h[b]?=some o→o.refs (InH H)
 | [],_,b,o,ho=>by simp at ho
 | o1::h,hr,b,o,ho=>by
  simp only [acD] at hr;cases b with
  | zero=>simp at ho; subst ho; exact hr.1
  | succ b=>exact acD.get hr.2 b o (by simpa using ho)
theorem agR.of {s t:St} (he:aos s.env t.env) (hh:agx s.heap t.heap) (hr:aez t.heap t.env) (hr2:acD t.heap t.heap):agR s t :=
 ⟨fun x=>(he.get x).imp id .inl,fun b o ho=>(hh.get b o ho).imp id .inl,hr.get,hr2.get⟩
theorem aaD.of {N:Nat} {s t:St} (hn:t.heap.take N=s.heap.take N) (he:aos s.env t.env) (hh:agx s.heap t.heap) (hr:aez t.heap t.env) (hr2:acD t.heap t.heap):aaD N s t:=by
 refine .inr ⟨agR.of he hh hr hr2,fun b hb=>?_⟩;have:=congrArg (fun l:Heap=>l[b]?) hn;simpa [List.getElem?_take,hb] using this
theorem goodI {f : FuncId} {fn : Func} (frz : FuncId → Bool) (h : IsFn P f fn) (hmix : P.follows .mixedOrders = true) {args : List AV} {H H' : Heap} {v : AV} (hn : args.length ≤ fn.ntmps)
    (hwp:aap P frz (fn.ntmps,H.length) (fn.body.getD .skip) (arf P fn.results.toList H.length H' v) ⟨ab3 0 args,H⟩):abp P f H args H' v:=by
 have hs:=h.stat;simp only [Bool.and_eq_true,bne_iff_ne] at hs;have hb:fn.body=some (fn.body.getD .skip):=by
  have:=hs.1.1;cases hfb:fn.body <;> simp_all
 exact av4 (aa2 frz) (aeI (aa2 frz) hmix) h.enters h.func hb hs.2 hn hwp
theorem goodY (frz : FuncId → Bool) (hmix : P.follows .mixedOrders = true) {b : Nat} {L : acs} {H H' : Heap} {args : List AV} {v : AV} (hb : H[b]? = some (.loop L)) (hlen : args.length = L.params.length)
    (hok:(L.params.all (fun x=>decide (x<L.n)) && codeOk fit L.n L.assign && codeOk fit L.n L.body)=true) (hwp:aj3 P frz L b args H (fun H2 v2=>v2=v∧aaD H.length ⟨[],H2⟩ ⟨[],H'⟩)):ad5 P b H args H' v:=by
 simp only [Bool.and_eq_true,List.all_eq_true,decide_eq_true_eq] at hok;exact av2 (aa2 frz) (aeI (aa2 frz) hmix) hb hlen hok.1.1 hok.1.2 hok.2 hwp
theorem again {N:Nat} {α:Type} {mk:α→St} {ok:α→Prop} {m:α→Nat} {n:Nat} {s':St} (a':α) (h1:m a'<n) (h2:ok a') (h3:aaD N s' (mk a')):∃ m' t',m'<n∧aaD N s' t'∧∃ a',ok a'∧t'=mk a'∧m'=m a' :=
 ⟨m a',mk a',h1,h3,a',h2,rfl,rfl⟩
end
section
variable {P:Program} {frz:FuncId→Bool}
def Sing {α:Type} (F:(α→Prop)→Prop):Prop:=∀ K,F K→∃ a,K a∧∀ K':α→Prop,K' a→F K'
theorem Sing.one {α β:Type} (f:β→α) (b:β):Sing (fun K:α→Prop=>K (f b)):=fun _ h=>⟨f b,h,fun _ h=>h⟩
theorem Sing.false {α:Type}:Sing (fun _:α→Prop=>False):=fun _ h=>h.elim
theorem Sing.and {α:Type} {p:Prop} {F:(α→Prop)→Prop} (h:Sing F):Sing (fun K=>p∧F K):=fun K hk=>by
 obtain ⟨a,h1,h2⟩:=h K hk.2;exact ⟨a,h1,fun K' h=>⟨hk.1,h2 K' h⟩⟩
theorem Sing.ex {α:Type} {β:Sort _} {F:β→(α→Prop)→Prop} (h:∀ b,Sing (F b)):Sing (fun K=>∃ b,F b K):=fun K ⟨b,hb⟩=>by
 obtain ⟨a,h1,h2⟩:=h b K hb;exact ⟨a,h1,fun K' h=>⟨b,h2 K' h⟩⟩
theorem Sing.or {α:Type} {F G:(α→Prop)→Prop} (h:Sing F) (h':Sing G):Sing (fun K=>F K∨G K):=fun K hk=>by
 rcases hk with hk | hk
 · obtain ⟨a,h1,h2⟩:=h K hk; exact ⟨a,h1,fun K' h=>.inl (h2 K' h)⟩
 · obtain ⟨a,h1,h2⟩:=h' K hk; exact ⟨a,h1,fun K' h=>.inr (h2 K' h)⟩
theorem Sing.ite {α:Type} {p:Prop} [Decidable p] {F G:(α→Prop)→Prop} (h:Sing F) (h':Sing G):Sing (fun K=>if p then F K else G K):=fun K hk=>by
 split at hk
 · rename_i hp; obtain ⟨a,h1,h2⟩:=h K hk; exact ⟨a,h1,fun K' h=>by simpa [hp] using h2 K' h⟩
 · rename_i hp; obtain ⟨a,h1,h2⟩:=h' K hk; exact ⟨a,h1,fun K' h=>by simpa [hp] using h2 K' h⟩
theorem Sing.bind {α β:Type} {F:(α→Prop)→Prop} {G:α→(β→Prop)→Prop} (h:Sing F) (h':∀ a,Sing (G a)):Sing (fun K=>F (fun a=>G a K)):=fun K hk=>by
 obtain ⟨a,h1,h2⟩:=h _ hk;obtain ⟨b,h3,h4⟩:=h' a K h1;exact ⟨b,h3,fun K' h=>h2 _ (h4 K' h)⟩
theorem Sing.map {α β:Type} {F:(α→Prop)→Prop} (h:Sing F) (f:α→β):Sing (fun K=>F (fun a=>K (f a))):=h.bind fun a=>Sing.one f a
theorem arY (T:TypeId) (H:Heap) (a:AV):Sing (afz P T H a):=by
 unfold afz
 repeat' first
  | exact Sing.false
  | exact Sing.one id _
  | refine Sing.and ?_
  | refine Sing.ex fun _=>?_
  | split
theorem aqs (T:TypeId) (H:Heap) (a x:AV):Sing (adC P T H a x):=by
 unfold adC
 repeat' first
  | exact Sing.false
  | exact Sing.one id _
  | refine Sing.and ?_
  | refine Sing.ex fun _=>?_
  | split
theorem ai3 (T:TypeId) (a:AV) (f:Nat):Sing (abo P T a f):=by
 unfold abo
 repeat' first
  | exact Sing.false
  | exact Sing.one id _
  | refine Sing.and ?_
  | refine Sing.ex fun _=>?_
  | split
theorem ai2 (T:TypeId) (H:Heap) (a i:AV):Sing (abm P T H a i):=by
 unfold abm
 repeat' first
  | exact Sing.false
  | exact Sing.one id _
  | refine Sing.and ?_
  | refine Sing.ex fun _=>?_
  | split
theorem am4 (T X:TypeId) (H:Heap) (s x:AV):Sing (acC P T X H s x):=by
 unfold acC
 repeat' first
  | exact Sing.false
  | exact Sing.one id _
  | refine Sing.and ?_
  | refine Sing.ex fun _=>?_
  | refine Sing.ite ?_ ?_
  | split
theorem aoQ {α:Type} {F:Nat→(α→Prop)→Prop} (x:Option AV) (d:Nat) (h:∀ n,Sing (F n)):Sing (fun K=>aaK x d (fun n=>F n K)):=by
 unfold aaK
 split
 · exact h _
 · exact Sing.and (h _)
 · exact Sing.false
theorem aqt (T:TypeId) (H:Heap) (x:AV) (lo hi mx:Option AV):Sing (adD P T H x lo hi mx):=by
 unfold adD;refine Sing.and ?_
 repeat' first
  | exact Sing.false
  | exact Sing.one id _
  | refine Sing.and ?_
  | refine aoQ _ _ fun _=>?_
  | refine Sing.ite ?_ ?_
  | split
theorem am2 (T:TypeId) (H:Heap) (x:AV) (lo hi:Option AV) (m:AV):Sing (adE P T H x lo hi m):=by
 unfold adE
 repeat' first
  | exact Sing.false
  | exact Sing.one id _
  | refine Sing.and ?_
  | refine aoQ _ _ fun _=>?_
  | split
theorem au4 (op:BinOp) (T:TypeId) (c:Bool) (H:Heap) (x y:AV) (f:PV→Eff):Sing (fun K:Eff→Prop=>agu P op T c H x y (fun v=>K (f v))):=by
 unfold agu
 repeat' first
  | exact Sing.false
  | exact Sing.one f _
  | refine Sing.and ?_
  | (unfold al8; split)
  | (unfold ak8; split)
  | split
theorem am3 (o:Oper) (ρ:Operand→AV) (H:Heap):Sing (ab7 P frz o ρ H):=by
 unfold ab7
 repeat' first
  | exact Sing.false
  | exact Sing.one id _
  | exact arY _ _ _
  | exact aqs _ _ _ _
  | exact ai3 _ _ _
  | exact ai2 _ _ _ _
  | exact aqt _ _ _ _ _ _
  | exact am2 _ _ _ _ _ _
  | exact am4 _ _ _ _ _
  | exact au4 _ _ _ _ _ _ _
  | refine Sing.and ?_
  | refine Sing.ex fun _=>?_
  | refine Sing.ite ?_ ?_
  | refine Sing.or ?_ ?_
  | split
  | dsimp only
theorem alf (d:Bool) (f:FuncId) (args:List AV) (H:Heap) {α:Type} (g:AV→Heap→α):Sing (fun K:α→Prop=>abM P d f args H (fun v H'=>K (g v H'))):=by
 unfold abM;refine Sing.or (Sing.ex fun vs=>Sing.ex fun v=>Sing.and (Sing.and ?_)) (Sing.and (Sing.or (Sing.ex fun vs=>Sing.ex fun H1=>Sing.ex fun v=>Sing.and (Sing.and ?_)) (Sing.or (Sing.ex fun H'=>Sing.ex fun v=>Sing.and ?_) (Sing.or (Sing.ex fun e=>Sing.and (Sing.and ?_)) (Sing.ex fun hin=>Sing.ex fun v=>Sing.and (Sing.and ?_))))))
 · exact Sing.one (fun v=>g (.p v) H) v
 · exact Sing.one (fun v=>g (.p v) H1) v
 · exact Sing.one (fun v=>g v H') v
 · exact Sing.one (fun _:Unit=>g e.v (aaj H e.hset ++ e.hnew)) ()
 · exact Sing.one (fun v=>g (.p v) H) v
theorem ajk (f:FuncId) (args:List AV) (H:Heap):Sing (adj P f args H):=by
 unfold adj;refine Sing.or (Sing.ex fun vs=>Sing.ex fun v=>Sing.and (Sing.and (Sing.one id _))) (Sing.or (Sing.ex fun vs=>Sing.ex fun bs=>Sing.ex fun hin=>Sing.ex fun hset=>Sing.ex fun v=>Sing.and (Sing.and (Sing.and (Sing.one id _)))) (Sing.or (Sing.ex fun e=>Sing.and (Sing.and (Sing.one id _))) (Sing.ex fun hin=>Sing.ex fun v=>Sing.and (Sing.and (Sing.one id _)))))
theorem ald (d:Bool) (o:Oper) (s:St):Sing (fun K=>opWP P frz d o K s):=by
 unfold opWP
 split
 · split
   · exact alf _ _ _ _ (fun v H'=>(⟨put o.dst v s.env,H'⟩:St))
   · exact alf _ _ _ _ (fun v H'=>(⟨put o.dst v s.env,H'⟩:St))
   · exact Sing.ex fun H'=>Sing.ex fun v=>Sing.and (Sing.one (fun _:Unit=>(⟨put o.dst v s.env,H'⟩:St)) ())
   · exact Sing.false
 · exact (am3 o _ _).map (fun e=>e.app o.dst s)
theorem ale (o:Oper) (s:St):Sing (effD P frz o s):=by
 unfold effD
 split
 · split
   · exact ajk _ _ _
   · exact ajk _ _ _
   · exact Sing.ex fun e=>Sing.and (Sing.and (Sing.one id _))
   · exact Sing.false
 · exact am3 o _ _
theorem agZ (d:Bool) (ops:Array Oper):∀ (l:List Oper) (s:St),Sing (fun K=>ac8 P frz d ops l K s)
 | [],s=>by simp only [ac8]; exact Sing.one id s
 | o::l,s=>by
  have go:Sing (fun K=>opWP P frz d o (ac8 P frz d ops l K) s):=(ald d o s).bind fun t=>agZ d ops l t;simp only [ac8]
  split
  · exact go
  · split
    · split
      · exact go
      · exact agZ d ops l _
    · exact agZ d ops l _
    · exact Sing.false
theorem afo (ops:Array Oper):∀ (l:List Oper) (i:Nat) (acc:List Touch) (s:St),Sing (fun K=>abu P frz ops l i acc K s)
 | [],i,acc,s=>by simp only [abu]; exact Sing.and (Sing.one id s)
 | o::l,i,acc,s=>by
  have go:Sing (fun K=>effD P frz o s fun e=>abu P frz ops l (i+1) (ac7 i s.heap.length e acc) K (e.app o.dst s)):=(ale o s).bind fun e=>afo ops l (i+1) _ _;simp only [abu]
  split
  · exact go
  · split
    · split
      · exact go
      · exact afo ops l (i+1) acc _
    · exact afo ops l (i+1) acc _
    · exact Sing.false
def awO (F:(aan→St→Prop)→Prop):Prop:=∀ Q,F Q→∃ e s,Q e s∧∀ Q':aan→St→Prop,Q' e s→F Q'
inductive amM (P:Program) (frz:FuncId→Bool) (q:Cx) (b:Code) (e:aan) (s:St):Nat→St→Prop
 | stop {k:Nat} {u:St}:(∀ Q:aan→St→Prop,Q e s→aap P frz q b Q u)→e≠.normal→amM P frz q b e s k u
 | step {k m:Nat} {u s1 u':St}:(∀ Q:aan→St→Prop,Q .normal s1→aap P frz q b Q u)→m<k→aaD q.2 s1 u'→amM P frz q b e s m u'→amM P frz q b e s k u
theorem arZ (j:Option Code) (s:St):awO (fun Q=>agj Q j s):=fun Q h=>by
 unfold agj at h
 split at h
 · exact ⟨.normal,s,h,fun _ h=>h⟩
 · rename_i id; exact ⟨.exit id,s,h,fun _ h=>h⟩
 · exact ⟨.ret,s,h,fun _ h=>h⟩
 · exact h.elim
theorem alc (b:Nat) (env:Env) (H:Heap):awO (fun Q=>acp b env Q H):=fun Q h=>by
 unfold acp at h
 split at h
 · rename_i L hL;obtain ⟨e,s,h1,h2⟩:=arZ _ _ Q h.2;exact ⟨e,s,h1,fun Q' hq=>by unfold acp; simp only [hL]; exact ⟨h.1,h2 Q' hq⟩⟩
 · exact h.elim
theorem ar0 (it:AV) (b:Nat) (H:Heap) (env:Env):awO (fun Q=>acZ P it b H (acp b env Q)):=fun Q h=>by
 unfold acZ at h
 split at h
 · obtain ⟨H',v,h1,h2⟩:=h;obtain ⟨e,s,k1,k2⟩:=alc b env H' Q h2;exact ⟨e,s,k1,fun Q' hq=>by simp only [acZ]; exact ⟨H',v,h1,k2 Q' hq⟩⟩
 · obtain ⟨H',v,h1,h2⟩:=h;obtain ⟨e,s,k1,k2⟩:=alc b env H' Q h2;exact ⟨e,s,k1,fun Q' hq=>by simp only [acZ]; exact ⟨H',v,h1,k2 Q' hq⟩⟩
 · exact h.elim
theorem abW {q:Cx}:∀ (c:Code) (s:St),awO (fun Q=>aap P frz q c Q s)
 | .skip,s | .label _,s=>fun Q h=>⟨.normal,s,h,fun _ h=>h⟩
 | .exit id,s=>fun Q h=>⟨.exit id,s,h,fun _ h=>h⟩
 | .ret,s=>fun Q h=>⟨.ret,s,h,fun _ h=>h⟩
 | .region id ops draw,s=>fun Q h=>by
  simp only [aap] at h ⊢
  split at h
  · rename_i hd;obtain ⟨t,h1,h2⟩:=afo ops _ _ _ _ _ h;exact ⟨.normal,t,h1,fun Q' h=>by simp only [hd,if_true]; exact h2 _ h⟩
  · rename_i hd;obtain ⟨t,h1,h2⟩:=agZ _ ops _ _ _ h;exact ⟨.normal,t,h1,fun Q' h=>by rw [if_neg hd]; exact h2 _ h⟩
 | .seq a b,s=>fun Q h=>by
  simp only [aap] at h ⊢;obtain ⟨e,t,h1,h2⟩:=abW a s _ h;cases e with
  | normal =>
   obtain ⟨e',t',h3,h4⟩:=abW b t _ h1;exact ⟨e',t',h3,fun Q' h=>h2 _ (h4 Q' h)⟩
  | exit id=>exact ⟨.exit id,t,h1,fun Q' h=>h2 _ h⟩
  | ret=>exact ⟨.ret,t,h1,fun Q' h=>h2 _ h⟩
 | .cond c a b,s=>fun Q h=>by
  simp only [aap] at h ⊢
  split at h
  · split at h
    · rename_i ht;obtain ⟨e,t,h1,h2⟩:=abW a s _ h;exact ⟨e,t,h1,fun Q' h=>by rw [if_pos ht]; exact h2 _ h⟩
    · rename_i ht;obtain ⟨e,t,h1,h2⟩:=abW b s _ h;exact ⟨e,t,h1,fun Q' h=>by rw [if_neg ht]; exact h2 _ h⟩
  · exact h.elim
 | .block id b,s=>fun Q h=>by
  simp only [aap] at h ⊢;obtain ⟨e,t,h1,h2⟩:=abW b s _ h;cases e with
  | normal=>exact ⟨.normal,t,h1,fun Q' h=>h2 _ h⟩
  | exit i =>
   by_cases hi:i=id
   · simp only [hi,if_true] at h1;exact ⟨.normal,t,h1,fun Q' h=>h2 _ (by simp only [hi,if_true]; exact h)⟩
   · simp only [hi,if_false] at h1;exact ⟨.exit i,t,h1,fun Q' h=>h2 _ (by simp only [hi,if_false]; exact h)⟩
  | ret=>exact ⟨.ret,t,h1,fun Q' h=>h2 _ h⟩
 | .scope b,s=>fun Q h=>by simp only [aap] at h ⊢; exact abW b s Q h
 | .loop b,s=>fun Q h=>by
  simp only [aap] at h ⊢;obtain ⟨I,⟨n0,t0,hf,hI⟩,hround⟩:=h;have key:∀ (n:Nat) (t:St),I n t→∃ e u,Q e u∧e≠.normal∧amM P frz q b e u n t:=by
   intro n
   induction n using Nat.strongRecOn with
   | _ n ih =>
    intro t hI;obtain ⟨e,s1,h1,h2⟩:=abW b t _ (hround n t hI);cases e with
    | normal =>
     obtain ⟨m,t',hlt,hf',hI'⟩:=h1;obtain ⟨e,u,k1,k2,k3⟩:=ih m hlt t' hI';exact ⟨e,u,k1,k2,.step h2 hlt hf' k3⟩
    | exit id=>exact ⟨.exit id,s1,h1,by simp,.stop h2 (by simp)⟩
    | ret=>exact ⟨.ret,s1,h1,by simp,.stop h2 (by simp)⟩
  obtain ⟨e,u,h1,h2,h3⟩:=key n0 t0 hI;refine ⟨e,u,h1,fun Q' hQ=>⟨amM P frz q b e u,⟨n0,t0,hf,h3⟩,?_⟩⟩;intro n t hl;cases hl with
  | stop hs hne =>
   refine hs _ ?_;cases e with
   | normal=>exact (hne rfl).elim
   | exit id=>exact hQ
   | ret=>exact hQ
  | step hs hlt hf' hl'=>exact hs _ ⟨_,_,hlt,hf',hl'⟩
 | .rangeFunc f ps a b,s=>fun Q h=>by
  simp only [aap] at h;obtain ⟨hN,env',he,h⟩:=h;obtain ⟨e,t,h1,h2⟩:=ar0 _ _ _ _ Q h;exact ⟨e,t,h1,fun Q' hq=>by simp only [aap]; exact ⟨hN,env',he,h2 Q' hq⟩⟩
 | .goto _,_ | .refuse _,_=>fun Q h=>by simp [aap] at h
def Spec (P:Program) (f:FuncId) (args:List PV) (Q:PV→Prop):Prop:=∃ v,aab P f args v∧Q v
def awR (P:Program) (rs:List ResultVar) (Q:PV→Prop) (e:aan) (s:St):Prop :=
 (match e with
  | .exit _=>False
  | _=>True)∧∃ vs,aaO P s rs=some vs∧∃ v,purR s.heap 9 (oneOf vs)=some v∧Q v
theorem Spec.mono {f:FuncId} {args:List PV} {Q Q':PV→Prop} (h:Spec P f args Q) (hq:∀ v,Q v→Q' v):Spec P f args Q':=by
 obtain ⟨v,h1,h2⟩:=h;exact ⟨v,h1,hq v h2⟩
end
def afR (id:Nat) (Q:aan→St→Prop) (e:aan) (s:St):Prop :=
 match e with
 | .exit i=>if i=id then Q .normal s else Q (.exit i) s
 | e=>Q e s
theorem akU {id:Nat} {Q:aan→St→Prop} {s:St}:afR id Q .normal s=Q .normal s:=(rfl)
theorem aol {id i:Nat} {Q:aan→St→Prop} {s:St}:afR id Q (.exit i) s=if i=id then Q .normal s else Q (.exit i) s:=(rfl)
theorem arc {id:Nat} {Q:aan→St→Prop} {s:St}:afR id Q .ret s=Q .ret s:=(rfl)
def ajl (N n:Nat) (I:Nat→St→Prop) (Q:aan→St→Prop) (e:aan) (s:St):Prop :=
 match e with
 | .normal=>∃ m' t',m'<n∧aaD N s t'∧I m' t'
 | e=>Q e s
theorem aj4 {N n:Nat} {I:Nat→St→Prop} {Q:aan→St→Prop} {s:St}:ajl N n I Q .normal s = ∃ m' t',m'<n∧aaD N s t'∧I m' t':=(rfl)
theorem am9 {N n id:Nat} {I:Nat→St→Prop} {Q:aan→St→Prop} {s:St}:ajl N n I Q (.exit id) s=Q (.exit id) s:=(rfl)
theorem aqw {N n:Nat} {I:Nat→St→Prop} {Q:aan→St→Prop} {s:St}:ajl N n I Q .ret s=Q .ret s:=(rfl)
section congrs
variable {P:Program}
end congrs
section
variable {P:Program} {frz:FuncId→Bool}
abbrev Res:=Option (Prop×Eff)
def runR (r:Res) (K:Eff→Prop):Prop :=
 match r with
 | some (p,e)=>p∧K e
 | none=>False
theorem ar9 {p:Prop} {e:Eff} {K:Eff→Prop}:runR (some (p,e)) K=(p∧K e):=(rfl)
theorem asa {K:Eff→Prop}:runR none K=False:=(rfl)
@[congr] theorem runR_congr {r r':Res} {K:Eff→Prop} (h:r=r'):runR r K=runR r' K:=by rw [h]
def Can (F:(Eff→Prop)→Prop) (r:Res):Prop:=∀ K,runR r K→F K
theorem Can.none {F:(Eff→Prop)→Prop}:Can F none:=fun _ h=>h.elim
def alY (P:Program) (T:TypeId) (H:Heap) (a:AV):Res :=
 match a with
 | .ptr b path=>match H[b]? with
  | some (.box fz t)=>match subA t path with
   | some s=>some (kindOf P T=shpA s,{ v:=s,hin:=[(b,.box fz t)] })
   | none=>none
  | _=>none
 | .eptr b ver esz i path=>match H[b]? with
  | some (.arr k ver' esz' es)=>match es[i]? with
   | some x=>match subA x path with
    | some s=>some ((ver=ver'∧esz=esz')∧kindOf P T=shpA s,{ v:=s,hin:=[(b,.arr k ver' esz' es)] })
    | none=>none
   | none=>none
  | _=>none
 | .p (.fptr t)=>some (kindOf P T=shp t,{ v:=.p t })
 | _=>none
theorem awo {T:TypeId} {H:Heap} {a:AV}:Can (afz P T H a) (alY P T H a):=by
 intro K h;unfold alY at h;unfold afz
 split at h
 · split at h
   · rename_i hob
     split at h
     · rename_i hs; simp only [runR] at h; simp only [hob,hs]; exact h
     · exact h.elim
   · exact h.elim
 · split at h
   · rename_i hob
     split at h
     · rename_i x hx;obtain ⟨hi,hx⟩:=List.getElem?_eq_some_iff.1 hx
       split at h
       · rename_i hs;simp only [runR] at h;simp only [hob];exact ⟨h.1.1.1,h.1.1.2,hi,by rw [hx,hs]; exact ⟨h.1.2,h.2⟩⟩
       · exact h.elim
     · exact h.elim
   · exact h.elim
 · exact h
 · exact h.elim
def agC (P:Program) (T:TypeId) (H:Heap) (a x:AV):Res :=
 match a with
 | .ptr b path=>match H[b]? with
  | some (.box false t)=>match subA t path,setA t path x with
   | some s,some t'=>some ((kindOf P T=shpA x∧shpA x≠.bad)∧shpA s=shpA x,{ v:=.p (.tup []),hin:=[(b,.box false t)],hset:=[(b,.box false t')] })
   | _,_=>none
  | _=>none
 | .eptr b ver esz i path=>match H[b]? with
  | some (.arr k ver' esz' es)=>match es[i]? with
   | some y=>match subA y path,setA y path x with
    | some s,some t'=>some ((kindOf P T=shpA x∧shpA x≠.bad)∧(ver=ver'∧esz=esz'∧k≠.frozen)∧shpA s=shpA x,{ v:=.p (.tup []),hin:=[(b,.arr k ver' esz' es)],hset:=[(b,.arr k ver' esz' (es.set i t'))] })
    | _,_=>none
   | none=>none
  | _=>none
 | _=>none
theorem auc {T:TypeId} {H:Heap} {a x:AV}:Can (adC P T H a x) (agC P T H a x):=by
 intro K h;unfold agC at h;unfold adC
 split at h
 · split at h
   · rename_i hob
     split at h
     · rename_i hs hs2; simp only [runR] at h; simp only [hob,hs,hs2]; exact ⟨h.1.1.1,h.1.1.2,h.1.2,h.2⟩
     · exact h.elim
   · exact h.elim
 · split at h
   · rename_i hob
     split at h
     · rename_i y hy;obtain ⟨hi,hy⟩:=List.getElem?_eq_some_iff.1 hy
       split at h
       · rename_i hs hs2;simp only [runR] at h;simp only [hob];exact ⟨h.1.1.1,h.1.1.2,h.1.2.1.1,h.1.2.1.2.1,h.1.2.1.2.2,hi,by rw [hy,hs,hs2]; exact ⟨h.1.2.2,h.2⟩⟩
       · exact h.elim
     · exact h.elim
   · exact h.elim
 · exact h.elim
def abU (P:Program) (T:TypeId) (a:AV) (f:Nat):Res :=
 match abt P T with
 | some (u,n)=>match a with
  | .ptr b path=>some (f<n,{ v:=.ptr b (path ++ [(u,f)]) })
  | .eptr b ver esz i path=>some (f<n,{ v:=.eptr b ver esz i (path ++ [(u,f)]) })
  | .p (.fptr t)=>match (flds t)[f]? with
   | some g=>some (f<n∧shp t=.agg u,{ v:=.p (.fptr g) })
   | none=>none
  | _=>none
 | _=>none
theorem akJ {T:TypeId} {a:AV} {f:Nat}:Can (abo P T a f) (abU P T a f):=by
 intro K h;unfold abU at h;unfold abo
 split at h
 · rename_i hs;simp only [hs]
   split at h
   · exact h
   · exact h
   · split at h
     · rename_i hg; simp only [runR] at h; simp only [hg]; exact ⟨h.1.1,h.1.2,h.2⟩
     · exact h.elim
   · exact h.elim
 · exact h.elim
def abT (P:Program) (T:TypeId) (H:Heap) (x i:AV):Res :=
 match i with
 | .p (.int _ i)=>match x with
  | .p (.lst _ es)=>match es[i.toNat]? with
   | some y=>some (0≤i∧aax P T=some (aah P (shp y)),{ v:=.p (.fptr y) })
   | none=>none
  | .p (.seq es)=>match es[i.toNat]? with
   | some y=>some (0≤i∧aax P T=some (aah P (shp y)),{ v:=.p (.fptr y) })
   | none=>none
  | .sl b ver esz off len=>match H[b]? with
   | some (.arr k ver' esz' es)=>some (0≤i∧aax P T=some esz∧i.toNat<len∧ver=ver'∧esz=esz'∧¬ (k.gr=true∧es=[]),{ v:=.eptr b ver esz (off+i.toNat) [],hin:=[(b,.arr k ver' esz' es)] })
   | _=>none
  | .ptr b path=>match arrT P T with
   | some (u,n)=>some (0≤i∧i.toNat<n,{ v:=.ptr b (path ++ [(u,i.toNat)]) })
   | _=>none
  | .eptr b ver esz j path=>match arrT P T with
   | some (u,n)=>some (0≤i∧i.toNat<n,{ v:=.eptr b ver esz j (path ++ [(u,i.toNat)]) })
   | _=>none
  | .p (.fptr t)=>match arrT P T with
   | some (u,n)=>match (flds t)[i.toNat]? with
    | some g=>some (0≤i∧shp t=.agg u∧i.toNat<n,{ v:=.p (.fptr g) })
    | none=>none
   | _=>none
  | _=>none
 | _=>none
theorem akI {T:TypeId} {H:Heap} {x i:AV}:Can (abm P T H x i) (abT P T H x i):=by
 intro K h;unfold abT at h;unfold abm
 split at h
 case h_2=>exact h.elim
 split at h
 · split at h
   · rename_i y hy;obtain ⟨hi,hy⟩:=List.getElem?_eq_some_iff.1 hy;simp only [runR] at h;exact ⟨h.1.1,hi,by rw [hy]; exact h.1.2,by rw [hy]; exact h.2⟩
   · exact h.elim
 · split at h
   · rename_i y hy;obtain ⟨hi,hy⟩:=List.getElem?_eq_some_iff.1 hy;simp only [runR] at h;exact ⟨h.1.1,hi,by rw [hy]; exact h.1.2,by rw [hy]; exact h.2⟩
   · exact h.elim
 · split at h
   · rename_i hob;simp only [runR] at h;obtain ⟨⟨h1,h2,h3,h4,h5,h6⟩,h7⟩:=h;refine ⟨h1,h2,h3,?_⟩;rw [hob];exact ⟨h4,h5,h6,h7⟩
   · exact h.elim
 · split at h
   · rename_i hs; simp only [runR] at h; simp only [hs]; exact ⟨h.1.1,h.1.2,h.2⟩
   · exact h.elim
 · split at h
   · rename_i hs; simp only [runR] at h; simp only [hs]; exact ⟨h.1.1,h.1.2,h.2⟩
   · exact h.elim
 · split at h
   · rename_i hs
     split at h
     · rename_i hg; simp only [runR] at h; simp only [hs,hg]; exact ⟨h.1.1,h.1.2.1,h.1.2.2,h.2⟩
     · exact h.elim
   · exact h.elim
 · exact h.elim
end
section
variable {P:Program} {frz:FuncId→Bool}
def aex (P:Program) (T X:TypeId) (H:Heap) (s x:AV):Res :=
 match aax P T,aa4 H x with
 | some sz,some xs=>match s with
  | .p .nsl => some ((afU P X = true ∧ (aaT P (aay P T)).isSome = true ∧ abj P sz xs) ∧ xs.length ≤ maxL,
      if xs.isEmpty then { v:=s,hin:=aas H x } else { v:=.sl H.length 0 sz 0 xs.length,hin:=aas H x,hnew:=[.arr (gk P T) 0 sz xs] })
  | .sl b ver esz off len=>match H[b]? with
   | some (.arr k ver' esz' es) => some ((afU P X = true ∧ (aaT P (aay P T)).isSome = true ∧ abj P sz xs) ∧ (ver = ver' ∧ esz = esz' ∧ esz = sz ∧ off + len ≤ es.length) ∧ es.length + xs.length ≤ maxL ∧ k ≠ .frozen ∧ (k ≠ .exact → off = 0) ∧ (k = .bytes → aay P T = Gl.u8),
       if xs.isEmpty then { v:=s,hin:=(b,.arr k ver' esz' es)::aas H x }
       else match k with
        | .exact => if off + len + xs.length ≤ es.length then
            { v:=.sl b ver esz off (len+xs.length),hin:=(b,.arr k ver' esz' es)::aas H x,hset:=[(b,.arr .exact ver esz (es.take (off+len) ++ xs ++ es.drop (off+len+xs.length)))] }
         else { v:=.sl H.length 0 sz 0 (len+xs.length),hin:=(b,.arr k ver' esz' es)::aas H x,hnew:=[.arr (gk P T) 0 sz ((es.drop off).take len ++ xs)] }
        | _=>{ v:=.sl b (ver+1) esz 0 (len+xs.length),hin:=(b,.arr k ver' esz' es)::aas H x,hset:=[(b,.arr k (ver+1) esz (es.take len ++ xs))] })
   | _=>none
  | _=>none
 | _,_=>none
theorem aq4 {T X:TypeId} {H:Heap} {s x:AV}:Can (acC P T X H s x) (aex P T X H s x):=by
 intro K h;unfold aex at h;unfold acC
 split at h
 case h_2=>exact h.elim
 rename_i sz xs h1 h2;simp only [h1,h2]
 split at h
 · simp only [runR] at h;obtain ⟨⟨⟨a1,a2,a3⟩,a4⟩,hk⟩:=h;refine ⟨a1,a2,a3,?_⟩;dsimp only
   split
   · rename_i he; rw [if_pos he] at hk; exact hk
   · rename_i he; rw [if_neg he] at hk; exact ⟨a4,hk⟩
 · split at h
   case h_2=>exact h.elim
   rename_i k ver' esz' es hob;simp only [runR] at h;obtain ⟨⟨⟨a1,a2,a3⟩,⟨rfl,rfl,a6,a7⟩,a8,a9,a10,a11⟩,hk⟩:=h;refine ⟨a1,a2,a3,?_⟩;simp only [hob];refine ⟨trivial,trivial,a6,a7,?_⟩
   split
   · rename_i he; rw [if_pos he] at hk; exact hk
   · rename_i he;rw [if_neg he] at hk;refine ⟨a8,?_⟩;cases k with
     | frozen=>exact a9 rfl
     | exact =>
      simp only at hk ⊢
      split
      · rename_i hc; rw [if_pos hc] at hk; exact hk
      · rename_i hc; rw [if_neg hc] at hk; exact hk
     | grow=>exact ⟨a10 (by simp),fun h=>(by cases h),hk⟩
     | bytes=>exact ⟨a10 (by simp),a11,hk⟩
 · exact h.elim
def bndV (x:Option AV) (d:Nat):Option (Prop×Nat) :=
 match x with
 | none=>some (True,d)
 | some (.p (.int _ i))=>some (0≤i,i.toNat)
 | _=>none
theorem adg {x:Option AV} {d n:Nat} {p:Prop} {K:Nat→Prop} (h:bndV x d=some (p,n)) (hp:p) (hk:K n):aaK x d K:=by
 unfold bndV at h;unfold aaK
 split at h
 · simp only [Option.some.injEq,Prod.mk.injEq] at h; obtain ⟨rfl,rfl⟩:=h; exact hk
 · simp only [Option.some.injEq,Prod.mk.injEq] at h; obtain ⟨rfl,rfl⟩:=h; exact ⟨hp,hk⟩
 · cases h
def agF (P:Program) (T:TypeId) (H:Heap) (x:AV) (lo hi:Option AV):Res :=
 match x with
 | .p (.str s)=>match bndV hi s.length,bndV lo 0 with
  | some (p,h),some (q,l)=>some (abY P T=true∧p∧q∧h≤s.length∧l≤h,{ v:=.p (.str ((s.take h).drop l)) })
  | _,_=>none
 | .p .nsl=>match bndV hi 0,bndV lo 0 with
  | some (p,h),some (q,l)=>some ((aax P T).isSome=true∧p∧q∧h≤0∧l≤h,{ v:=.p .nsl })
  | _,_=>none
 | .p (.lst full es)=>match bndV hi es.length,bndV lo 0,aax P T with
  | some (p,h),some (q,l),some sz=>some (p∧q∧h≤es.length∧l≤h∧abj P sz (es.map .p),{ v:=.p (.lst (full && h == es.length) ((es.take h).drop l)) })
  | _,_,_=>none
 | .p (.seq es)=>match bndV hi es.length,bndV lo 0,aax P T with
  | some (p,h),some (q,l),some sz=>some (p∧q∧h≤es.length∧l≤h∧abj P sz (es.map .p),{ v:=.p (.seq ((es.take h).drop l)) })
  | _,_,_=>none
 | .sl b ver esz off len=>match H[b]? with
  | some (.arr k ver' esz' es)=>match bndV hi len,bndV lo 0 with
   | some (p, h), some (q, l) => some ((ver = ver' ∧ esz = esz' ∧ aax P T = some esz ∧ ¬ (k.gr = true ∧ es = []) ∧ off + len ≤ es.length) ∧ p ∧ q ∧ off + h ≤ es.length ∧ l ≤ h,
       if l=0 then { v:=.sl b ver esz off h,hin:=[(b,.arr k ver' esz' es)] }
       else if l=h then { v:=.p (.lst false []),hin:=[(b,.arr k ver' esz' es)] }
       else { v:=.sl b ver esz (off+l) (h - l),hin:=[(b,.arr k ver' esz' es)] })
   | _,_=>none
  | _=>none
 | _=>none
theorem aud {T:TypeId} {H:Heap} {x:AV} {lo hi:Option AV}:Can (adD P T H x lo hi none) (agF P T H x lo hi):=by
 intro K h;unfold agF at h;unfold adD;refine ⟨rfl,?_⟩
 split at h
 · split at h
   case h_2=>exact h.elim
   rename_i h1 h2;simp only [runR] at h;obtain ⟨⟨a1,a2,a3,a4,a5⟩,hk⟩:=h;exact ⟨a1,adg h1 a2 (adg h2 a3 ⟨a4,a5,hk⟩)⟩
 · split at h
   case h_2=>exact h.elim
   rename_i h1 h2;simp only [runR] at h;obtain ⟨⟨a1,a2,a3,a4,a5⟩,hk⟩:=h;exact ⟨a1,adg h1 a2 (adg h2 a3 ⟨a4,a5,hk⟩)⟩
 · split at h
   case h_2=>exact h.elim
   rename_i h1 h2 h3;simp only [runR] at h;obtain ⟨⟨a2,a3,a4,a5,a6⟩,hk⟩:=h;refine adg h1 a2 (adg h2 a3 ⟨a4,a5,?_⟩);simp only [h3]; exact ⟨a6,hk⟩
 · split at h
   case h_2=>exact h.elim
   rename_i h1 h2 h3;simp only [runR] at h;obtain ⟨⟨a2,a3,a4,a5,a6⟩,hk⟩:=h;refine adg h1 a2 (adg h2 a3 ⟨a4,a5,?_⟩);simp only [h3]; exact ⟨a6,hk⟩
 · split at h
   case h_2=>exact h.elim
   rename_i hob
   split at h
   case h_2=>exact h.elim
   rename_i h1 h2;simp only [runR] at h;obtain ⟨⟨⟨a1,a2,a3,a4,a5⟩,a6,a7,a8,a9⟩,hk⟩:=h;simp only [hob];refine ⟨a1,a2,a3,a4,a5,adg h1 a6 (adg h2 a7 ⟨a8,a9,?_⟩)⟩
   split
   · rename_i hc; rw [if_pos hc] at hk; exact hk
   · rename_i hc;rw [if_neg hc] at hk
     split
     · rename_i hc; rw [if_pos hc] at hk; exact hk
     · rename_i hc; rw [if_neg hc] at hk; exact hk
 · exact h.elim
def anF (P:Program) (T:TypeId) (H:Heap) (x key:AV) (ok:Bool):Res :=
 match agU P T,key with
 | some (KT,E),.p key=>match aaT P E with
  | some z=>match x with
   | .p .nmap=>some (abb P KT key=true,{ v:=.p (if ok then .tup [z,.bool false] else z) })
   | .p (.fmap es)=>match aaY P KT es key with
    | some r => some (abb P KT key = true, { v := .p (match r with
        | some v=>if ok then .tup [v,.bool true] else v
        | none=>if ok then .tup [z,.bool false] else z) })
    | none=>none
   | .map b=>match H[b]? with
    | some (.map fz es)=>match aaY P KT es key with
     | some r => some (abb P KT key = true, { v := .p (match r with
         | some v=>if ok then .tup [v,.bool true] else v
         | none=>if ok then .tup [z,.bool false] else z),hin:=[(b,.map fz es)] })
     | none=>none
    | _=>none
   | _=>none
  | none=>none
 | _,_=>none
def insV (P:Program) (T:TypeId) (H:Heap) (m k x:AV):Res :=
 match agU P T,m,k,x with
 | some (KT,_),.map b,.p key,.p v=>match H[b]? with
  | some (.map false es)=>match aeq P KT es key with
   | some _=>some (abb P KT key=true,{ v:=.p (.tup []),hin:=[(b,.map false es)],hset:=[(b,.map false (aa6 es key v))] })
   | none=>none
  | _=>none
 | _,_,_,_=>none
def ahF (P:Program) (T:TypeId) (n:Nat) (x:AV):Res :=
 match x with
 | .p (.str s)=>some (abY P T=true,{ v:=.ptr n [],hnew:=[.siter s 0] })
 | _=>none
def anu (H:Heap) (it:AV):Res :=
 match it with
 | .ptr b []=>match H[b]? with
  | some (.siter s pos) => some (True, if pos < s.length then
      { v:=.p (.tup [.bool true,.int .i64 pos,.int .i32 (Utf8.decode (toBA s) pos).1]),hin:=[(b,.siter s pos)],hset:=[(b,.siter s (pos+(Utf8.decode (toBA s) pos).2))] }
   else { v:=.p (.tup [.bool false]),hin:=[(b,.siter s pos)] })
  | _=>none
 | _=>none
def anw (P:Program) (T:TypeId) (n:Nat) (l c:AV):Res :=
 match aax P T,aaT P (aay P T),l,c with
 | some sz,some z,.p (.int .i64 l),.p (.int .i64 c)=>some (aah P (shp z)=sz∧0≤l∧l=c∧l≤maxL,{ v:=.sl n 0 sz 0 l.toNat,hnew:=[.arr .exact 0 sz (List.replicate l.toNat (.p z))] })
 | _,_,_,_=>none
def copyV (P:Program) (T:TypeId) (H:Heap) (d x:AV):Res :=
 match aax P T,d,aa4 H x with
 | some sz,.sl b ver esz off len,some xs=>match H[b]? with
  | some (.arr k ver' esz' es) => some ((esz = sz ∧ abj P sz xs) ∧ ver = ver' ∧ esz = esz' ∧ k ≠ .frozen ∧ off + len ≤ es.length ∧ ¬ (k.gr = true ∧ es = []),
      { v:=.p (.int .i64 (min xs.length len:Nat)),hin:=(b,.arr k ver' esz' es)::aas H x,hset:=[(b,.arr k ver' esz' (es.take off ++ xs.take (min xs.length len) ++ es.drop (off+min xs.length len)))] })
  | _=>none
 | _,_,_=>none
def afa (x:AV):Res :=
 match x with
 | .ptr _ _ | .eptr _ _ _ _ _ | .p (.fptr _)=>some (True,{ v:=x })
 | _=>none
def minV (isMax:Bool) (xs:List AV):Res :=
 match xs with
 | .p (.int k a)::r=>match acO k isMax r a with
  | some n=>some (True,{ v:=.p (.int k n) })
  | none=>none
 | _=>none
def anA (f:FuncId) (fi ca:List AV):Res :=
 match allP fi,allP ca with
 | some a,some b=>some (True,{ v:=.p (.func f a b) })
 | _,_=>some (True,{ v:=.func f fi ca })
end
section
variable {P:Program} {frz:FuncId→Bool}
def anf (c a b:AV):Res :=
 match c with
 | .p (.bool t)=>some (True,{ v:=if t then a else b })
 | _=>none
def aiT (P:Program) (T:TypeId) (n:Nat):Res :=
 match aaT P T with
 | some z=>some (kindOf P T=shp z∧shp z≠.bad∧bxB T (shp z)=true,{ v:=.ptr n [],hnew:=[.box false (.p z)] })
 | none=>none
def boxV (P:Program) (T:TypeId) (n:Nat) (x:AV):Res:=some (kindOf P T=shpA x∧shpA x≠.bad∧bxB T (shpA x)=true,{ v:=.ptr n [],hnew:=[.box false x] })
def aiP (P:Program) (T:TypeId) (parts:List (Nat×AV)):Res :=
 match kindOf P T,aaT P T with
 | .agg u,some z=>match szs P u with
  | some l=>some (shp z=.agg u∧acM P l parts,{ v:=mkSt u (aaH ((flds z).map .p) parts) })
  | none=>none
 | _,_=>none
def abR (P:Program) (T:TypeId) (n:Nat) (parts:List (Nat×AV)) (b:Nat):Res :=
 match aax P T,aaT P (aay P T) with
 | some sz,some z=>some (aah P (shp z)=sz∧n*sz≤1000000∧acM P (List.replicate n sz) parts,{ v:=.sl b 0 sz 0 n,hnew:=[.arr .exact 0 sz (aaH (List.replicate n (.p z)) parts)] })
 | _,_=>none
def intV (op:BinOp) (k:IntKind) (a b:Int):Prop×PV :=
 match op with
 | .add=>(True,.int k (k.wrap (a+b)))
 | .sub=>(True,.int k (k.wrap (a - b)))
 | .mul=>(True,.int k (k.wrap (a*b)))
 | .quo=>(b≠0,.int k (k.wrap (a.tdiv b)))
 | .rem=>(b≠0,.int k (a.tmod b))
 | .and=>(True,.int k (k.wrap (BitVec.ofInt k.bits a &&& BitVec.ofInt k.bits b).toNat))
 | .or=>(True,.int k (k.wrap (BitVec.ofInt k.bits a ||| BitVec.ofInt k.bits b).toNat))
 | .xor=>(True,.int k (k.wrap (BitVec.ofInt k.bits a ^^^ BitVec.ofInt k.bits b).toNat))
 | .andNot=>(True,.int k (k.wrap (BitVec.ofInt k.bits a &&& ~~~ BitVec.ofInt k.bits b).toNat))
 | .eql=>(True,.bool (a == b))
 | .neq=>(True,.bool (a != b))
 | .lss=>(True,.bool (decide (a<b)))
 | .leq=>(True,.bool (decide (a≤b)))
 | .gtr=>(True,.bool (decide (a > b)))
 | .geq=>(True,.bool (decide (a ≥ b)))
 | .shl=>(0≤b,.int k (k.wrap (a*2 ^ (min b.toNat k.bits))))
 | .shr=>(0≤b,.int k (a.fdiv (2 ^ (min b.toNat k.bits))))
theorem intV_ok {op:BinOp} {k:IntKind} {a b:Int} {K:PV→Prop} (h:(intV op k a b).1) (hk:K (intV op k a b).2):al8 op k a b K:=by
 cases op <;> simp only [intV,al8] at * <;> first | exact hk | exact ⟨h,hk⟩
def strV (op:BinOp) (a b:List Nat):Option (Prop×PV) :=
 match op with
 | .add=>some (a.length+b.length<9223372036854775808,.str (a ++ b))
 | .eql=>some (True,.bool (a == b))
 | .neq=>some (True,.bool (!(a == b)))
 | .lss=>some (True,.bool (abJ a b))
 | .leq=>some (True,.bool (abJ a b || a == b))
 | .gtr=>some (True,.bool (!(abJ a b || a == b)))
 | .geq=>some (True,.bool (!(abJ a b)))
 | _=>none
def binV (P:Program) (op:BinOp) (T:TypeId) (c:Bool) (H:Heap) (x y:AV):Res :=
 match x,y with
 | .p (.int k a),.p (.int k' b)=>some ((k=k'∨op=.shl∨op=.shr)∧(intV op k a b).1,{ v:=.p (intV op k a b).2 })
 | .p (.str a),.p (.str b)=>match strV op a b with
  | some (p,v)=>some (p,{ v:=.p v })
  | none=>none
 | .p (.bool a),.p (.bool b)=>match op with
  | .eql=>some (afe P T=true,{ v:=.p (.bool (a == b)) })
  | .neq=>some (afe P T=true,{ v:=.p (.bool (!(a == b))) })
  | _=>none
 | .p (.st u fs),.p (.st u' gs)=>match eqT P 9 T (.st u fs) (.st u' gs),op with
  | some r,.eql=>some (eqOk P T=true,{ v:=.p (.bool r) })
  | some r,.neq=>some (eqOk P T=true,{ v:=.p (.bool !r) })
  | _,_=>none
 | x,y=>match aa3 P T c y with
  | some k=>match aaQ H k x,op with
   | some r,.eql=>some (True,{ v:=.p (.bool r),hin:=aas H x })
   | some r,.neq=>some (True,{ v:=.p (.bool !r),hin:=aas H x })
   | _,_=>none
  | none=>none
theorem amI {op : BinOp} {T : TypeId} {c : Bool} {H : Heap} {x y : AV} {k : NilK} {K : PV → Prop} (hk : aa3 P T c y = some k) : agu P op T c H x y K = (match aaQ H k x, op with
      | some r,.eql=>K (.bool r)
      | some r,.neq=>K (.bool !r)
      | _,_=>False):=by
 have hk':=hk;rcases ajt hk with ⟨rfl,rfl,_⟩ | ⟨rfl,rfl,_⟩ | ⟨rfl,rfl,_⟩ | ⟨rfl,rfl,_⟩ | ⟨rfl,rfl,_⟩
 all_goals
  unfold agu;cases x with
  | p v =>
   cases v <;> simp only [hk'] <;> (generalize aaQ H _ _=r; cases r <;> cases op <;> rfl)
  | _=>simp only [hk']; (generalize aaQ H _ _=r; cases r <;> cases op <;> rfl)
theorem can_bin {op:BinOp} {T:TypeId} {c:Bool} {H:Heap} {x y:AV}:Can (fun K=>agu P op T c H x y (fun v=>K { v:=.p v,hin:=aas H x })) (binV P op T c H x y):=by
 intro K h;unfold binV at h;unfold agu
 split at h
 · exact ⟨h.1.1,intV_ok h.1.2 h.2⟩
 · split at h
   · rename_i p v hv;simp only [runR] at h;show ak8 op _ _ _;unfold strV at hv
     split at hv <;> first
      | (simp only [Option.some.injEq, Prod.mk.injEq] at hv
         obtain ⟨h1,h2⟩:=hv;rw [← h1,← h2] at h;simp only [ak8]
         first | exact h.2 | exact ⟨h.1,h.2⟩)
      | cases hv
   · exact h.elim
 · split at h
   · exact ⟨h.1,h.2⟩
   · exact ⟨h.1,h.2⟩
   · exact h.elim
 · split at h
   · rename_i hr; simp only [runR] at h; simp only [hr]; exact ⟨h.1,h.2⟩
   · rename_i hr; simp only [runR] at h; simp only [hr]; exact ⟨h.1,h.2⟩
   · exact h.elim
 · rename_i h1 h2 h3 h4
   split at h
   case h_2=>exact h.elim
   rename_i k hk;clear h1 h2 h3 h4;show agu P op T c H x y _;rw [amI hk];generalize aaQ H k x=q at h ⊢;cases q <;> cases op <;> first | exact h.elim | exact h.2
def unV (op:UnOp) (x:AV):Res :=
 match op,x with
 | .not,.p (.bool b)=>some (True,{ v:=.p (.bool (!b)) })
 | .neg,.p (.int k n)=>some (True,{ v:=.p (.int k (k.wrap (0 - n))) })
 | .xor,.p (.int k n)=>some (True,{ v:=.p (.int k (k.wrap (BitVec.ofInt k.bits (if k.signed then -1 else k.max) ^^^ BitVec.ofInt k.bits n).toNat)) })
 | _,_=>none
def an5 (P:Program) (S D:TypeId) (H:Heap) (x:AV):Res :=
 match P.underlying S,P.underlying D,x with
 | some _,some (.int k),.p (.int _ n)=>some (True,{ v:=.p (.int k (k.wrap n)) })
 | some _,some .string,.p (.str s)=>some (True,{ v:=.p (.str s) })
 | some (.slice e),some .string,.sl b ver esz off len=>match H[b]? with
  | some (.arr k ver' esz' es)=>match bytesOf ((es.drop off).take len) with
   | some l=>some ((ver=ver'∧esz=esz'∧esz=1∧P.underlying e=some (.int .u8)∧0<len∧off+len≤es.length),{ v:=.p (.str l),hin:=[(b,.arr k ver' esz' es)] })
   | none=>none
  | _=>none
 | _,_,_=>none
def adV (t:AV) (i:Nat):Res :=
 match t with
 | .p (.tup vs)=>match vs[i]? with
  | some v=>some (True,{ v:=.p v })
  | none=>none
 | .tup vs=>match vs[i]? with
  | some v=>some (True,{ v })
  | none=>none
 | _=>none
def aid (P:Program) (T:TypeId) (x i:AV):Res :=
 match x,i with
 | .p (.str s),.p (.int _ i)=>match s[i.toNat]? with
  | some c=>some (abY P T=true∧0≤i,{ v:=.p (.int .u8 c) })
  | none=>none
 | .p (.st u es),.p (.int _ i)=>match arrT P T,(aaX P u)[i.toNat]?,es[i.toNat]? with
  | some (u',n),some F,some g=>some (u'=u∧0≤i∧i.toNat<n∧kindOf P F=shp g,{ v:=.p g })
  | _,_,_=>none
 | _,_=>none
def lenV (P:Program) (T:TypeId) (n:Nat) (H:Heap) (x:AV):Res :=
 match lenOf H x with
 | some (m,hin)=>some (adb P T x=true∧0<n,{ v:=.p (.int .i64 m),hin })
 | none=>none
def opW (P:Program) (frz:FuncId→Bool) (o:Oper) (e:Env) (H:Heap) (K:Eff→Prop):Prop :=
 match o.op with
 | .move x | .assign x=>K { v:=ev e x }
 | .pick c a b=>runR (anf (ev e c) (ev e a) (ev e b)) K
 | .alloc T=>runR (aiT P T H.length) K
 | .box T x=>runR (boxV P T H.length (ev e x)) K
 | .build T parts=>runR (aiP P T (parts.toList.map fun (i,x)=>(i,ev e x))) K
 | .buildSlice T n parts=>runR (abR P T n (parts.toList.map fun (i,x)=>(i,ev e x)) H.length) K
 | .load T a=>runR (alY P T H (ev e a)) K
 | .store T a x=>runR (agC P T H (ev e a) (ev e x)) K
 | .binOp op T x y _=>runR (binV P op T (isC y) H (ev e x) (ev e y)) K
 | .unOp op _ x=>runR (unV op (ev e x)) K
 | .convert S D x=>runR (an5 P S D H (ev e x)) K
 | .extract t i=>runR (adV (ev e t) i) K
 | .fieldAddr T a f=>runR (abU P T (ev e a) f) K
 | .indexAddr T x i=>runR (abT P T H (ev e x) (ev e i)) K
 | .index T x i=>runR (aid P T (ev e x) (ev e i)) K
 | .slice T x lo hi none=>runR (agF P T H (ev e x) (lo.map (ev e)) (hi.map (ev e))) K
 | .lookup T x i ok=>runR (anF P T H (ev e x) (ev e i) ok) K
 | .mapUpdate T m k x | .insert T m k x=>runR (insV P T H (ev e m) (ev e k) (ev e x)) K
 | .range T x=>runR (ahF P T H.length (ev e x)) K
 | .next it true=>runR (anu H (ev e it)) K
 | .makeSlice T l c=>runR (anw P T H.length (ev e l) (ev e c)) K
 | .nilCheck x=>runR (afa (ev e x)) K
 | .call c=>match c.callee with
  | .builtin .len=>(match c.args.toList with
   | [x]=>runR (lenV P (c.argTypes.getD 0 0) c.argTypes.size H (ev e x)) K
   | _=>False)
  | .builtin .append=>(match c.args.toList with
   | [s,x]=>c.argTypes.size=2∧runR (aex P (c.argTypes.getD 0 0) (c.argTypes.getD 1 0) H (ev e s) (ev e x)) K
   | _=>False)
  | .builtin .copy=>(match c.args.toList with
   | [d,x]=>c.argTypes.size=2∧runR (copyV P (c.argTypes.getD 0 0) H (ev e d) (ev e x)) K
   | _=>False)
  | .builtin .min=>runR (minV false (c.args.toList.map (ev e))) K
  | .builtin .max=>runR (minV true (c.args.toList.map (ev e))) K
  | _=>ab7 P frz o (ev e) H K
 | _=>ab7 P frz o (ev e) H K
theorem axj {o:Oper} {e:Env} {H:Heap} {K:Eff→Prop} (h:opW P frz o e H K):ab7 P frz o (ev e) H K:=by
 unfold opW at h;unfold ab7;cases hop:o.op <;> simp only [hop] at h <;> simp only
 case move | assign=>exact h
 case pick c a b =>
  unfold anf at h
  split at h
  · rename_i hc; simp only [hc]; exact h.2
  · exact h.elim
 case alloc T =>
  unfold aiT at h
  split at h
  · rename_i hz; simp only [runR] at h; simp only [hz]; exact ⟨h.1.1,h.1.2.1,h.1.2.2,h.2⟩
  · exact h.elim
 case box T x=>exact ⟨h.1.1,h.1.2.1,h.1.2.2,h.2⟩
 case build T parts =>
  unfold aiP at h
  split at h
  · rename_i hk hz
    split at h
    · rename_i hl; simp only [runR] at h; simp only [hk,hz,hl]; exact ⟨h.1.1,h.1.2,h.2⟩
    · exact h.elim
  · exact h.elim
 case buildSlice T n parts =>
  unfold abR at h
  split at h
  · rename_i hk hz; simp only [runR] at h; simp only [hk,hz]; exact ⟨h.1.1,h.1.2.1,h.1.2.2,h.2⟩
  · exact h.elim
 case load T a=>exact awo K h
 case store T a x=>exact auc K h
 case binOp op T x y T'=>exact can_bin K h
 case unOp op T x =>
  unfold unV at h
  split at h
  · rename_i hx; simp only [hx]; exact h.2
  · rename_i hx; simp only [hx]; exact h.2
  · rename_i hx; simp only [hx]; exact h.2
  · exact h.elim
 case convert S D x =>
  unfold an5 at h
  split at h
  · rename_i h1 h2 h3; simp only [h1,h2,h3]; exact h.2
  · rename_i h1 h2 h3; simp only [h1,h2,h3]; exact h.2
  · rename_i h1 h2 h3
    split at h
    · rename_i hob
      split at h
      · rename_i hl;obtain ⟨⟨a1,a2,a3,a4,a5,a6⟩,h⟩:=h;simp only [h1,h2,h3,hob,hl];exact ⟨a1,a2,a3,a4,a5,a6,h⟩
      · exact h.elim
    · exact h.elim
  · exact h.elim
 case extract t i =>
  unfold adV at h
  split at h
  · rename_i ht
    split at h
    · rename_i hv; simp only [ht,hv]; exact h.2
    · exact h.elim
  · rename_i ht
    split at h
    · rename_i hv; simp only [ht,hv]; exact h.2
    · exact h.elim
  · exact h.elim
 case fieldAddr T a f=>exact akJ K h
 case indexAddr T x i=>exact akI K h
 case index T x i =>
  unfold aid at h
  split at h
  · rename_i hx hi
    split at h
    · rename_i c hc;obtain ⟨hlt,rfl⟩:=List.getElem?_eq_some_iff.1 hc;simp only [hx,hi]; exact ⟨h.1.1,h.1.2,hlt,h.2⟩
    · exact h.elim
  · rename_i hx hi
    split at h
    · rename_i h1 h2 h3;obtain ⟨⟨g1,g2,g3,g4⟩,h⟩:=h;simp only [hx,hi,h1,h2,h3]; exact ⟨g1,g2,g3,g4,h⟩
    · exact h.elim
  · exact h.elim
 case slice T x lo hi mx =>
  cases mx with
  | none=>exact aud K h
  | some m=>simp only [ab7,hop] at h; exact h
 case lookup T x i ok =>
  unfold anF at h
  split at h
  case h_2=>exact h.elim
  rename_i hm hi;simp only [hm,hi]
  split at h
  case h_2=>exact h.elim
  rename_i z hz;simp only [hz]
  split at h
  · rename_i hx; simp only [hx]; exact h
  · rename_i es hx;simp only [hx]
    split at h
    case h_2=>exact h.elim
    rename_i r hr;refine ⟨h.1,?_⟩;simp only [hr];cases r <;> exact h.2
  · rename_i b hx;simp only [hx]
    split at h
    case h_2=>exact h.elim
    rename_i hob
    split at h
    case h_2=>exact h.elim
    rename_i r hr;refine ⟨h.1,?_⟩;simp only [hob,hr];cases r <;> exact h.2
  · exact h.elim
 case mapUpdate T m k x | insert T m k x =>
  unfold insV at h
  split at h
  case h_2=>exact h.elim
  rename_i h1 h2 h3 h4;simp only [h1,h2,h3,h4]
  split at h
  case h_2=>exact h.elim
  rename_i hob
  split at h
  case h_2=>exact h.elim
  rename_i hr;refine ⟨h.1,?_⟩;simp only [hob,hr]; exact h.2
 case range T x =>
  unfold ahF at h
  split at h
  · rename_i hx; simp only [hx]; exact h
  · exact h.elim
 case next it s =>
  cases s with
  | false=>simp only [ab7,hop] at h
  | true =>
   dsimp only at h ⊢;unfold anu at h
   split at h
   case h_2=>exact h.elim
   rename_i hx;simp only [hx]
   split at h
   case h_2=>exact h.elim
   rename_i hob;simp only [hob];have h:=h.2
   split
   · rename_i hc; rw [if_pos hc] at h; exact h
   · rename_i hc; rw [if_neg hc] at h; exact h
 case makeSlice T l c =>
  unfold anw at h
  split at h
  · rename_i h1 h2 h3 h4; simp only [h1,h2,h3,h4]; exact ⟨h.1.1,h.1.2.1,h.1.2.2.1,h.1.2.2.2,h.2⟩
  · exact h.elim
 case nilCheck x =>
  unfold afa at h
  split at h
  · rename_i hx; simp only [hx]; rw [hx] at h; exact h.2
  · rename_i hx; simp only [hx]; rw [hx] at h; exact h.2
  · rename_i hx; simp only [hx]; rw [hx] at h; exact h.2
  · exact h.elim
 case call c =>
  split at h
  · rename_i hc
    split at h
    · rename_i x hx;unfold lenV at h
      split at h
      · rename_i hl; simp only [runR] at h; simp only [hc,hx,List.map_cons,List.map_nil,hl]; exact ⟨h.1.1,h.1.2,h.2⟩
      · exact h.elim
    · exact h.elim
  · rename_i hc
    split at h
    · rename_i s x hx;simp only [hc,hx,List.map_cons,List.map_nil];exact ⟨h.1,aq4 K h.2⟩
    · exact h.elim
  · rename_i hc
    split at h
    · rename_i d x hx;simp only [hc,hx,List.map_cons,List.map_nil];obtain ⟨h0,h⟩:=h;unfold copyV at h
      split at h
      case h_2=>exact h.elim
      rename_i h1 h2 h3
      split at h
      case h_2=>exact h.elim
      rename_i hob;simp only [runR] at h;obtain ⟨⟨⟨a1,a2⟩,a3,a4,a5,a6,a7⟩,hk⟩:=h;simp only [h1,h2,h3,hob];exact ⟨a1,a2,h0,a3,a4,a5,a6,a7,hk⟩
    · exact h.elim
  · rename_i hc;unfold minV at h
    split at h
    case h_2=>exact h.elim
    rename_i hx
    split at h
    case h_2=>exact h.elim
    rename_i hr;simp only [hc,hx,hr]; exact h.2
  · rename_i hc;unfold minV at h
    split at h
    case h_2=>exact h.elim
    rename_i hx
    split at h
    case h_2=>exact h.elim
    rename_i hr;simp only [hc,hx,hr]; exact h.2
  · unfold ab7 at h;simp only [hop] at h;exact h
 all_goals first
  | exact h
  | (unfold ab7 at h
     simp only [hop] at h;exact h)
  | (unfold ab7 at h
     simp only [hop] at h)
end
section
variable {P:Program} {frz:FuncId→Bool}
def appK (dst:Option Tmp) (s:St) (K:St→Prop) (e:Eff):Prop:=K (e.app dst s)
def putK (dst:Option Tmp) (s:St) (K:St→Prop) (v:AV) (H:Heap):Prop:=K ⟨put dst v s.env,H⟩
def an8 (P:Program) (f:AV) (args:List AV) (H:Heap) (K:AV→Heap→Prop):Prop :=
 match f with
 | .p (.func g fi ca)=>abM P false g (fi.map .p ++ args ++ ca.map .p) H K
 | .func g fi ca=>abM P false g (fi ++ args ++ ca) H K
 | .map b=>∃ H' v,ad5 P b H args H' v∧K v H'
 | _=>False
def aiI (P:Program) (f:AV) (args:List AV) (H:Heap) (K:Eff→Prop):Prop :=
 match f with
 | .p (.func g fi ca)=>adj P g (fi.map .p ++ args ++ ca.map .p) H K
 | .func g fi ca=>adj P g (fi ++ args ++ ca) H K
 | .map b=>∃ e,ajR P b args H.length e∧amO H e∧K e
 | _=>False
def aaA (P:Program) (frz:FuncId→Bool) (o:Oper) (K:St→Prop) (s:St):Prop :=
 match o.op with
 | .call { callee:=.value f,args,.. }=>an8 P (ev s.env f) (args.toList.map (ev s.env)) s.heap (putK o.dst s K)
 | _=>opW P frz o s.env s.heap (appK o.dst s K)
def aaB (P:Program) (frz:FuncId→Bool) (o:Oper) (s:St) (K:Eff→Prop):Prop :=
 match o.op with
 | .call { callee:=.value f,args,.. }=>aiI P (ev s.env f) (args.toList.map (ev s.env)) s.heap K
 | _=>opW P frz o s.env s.heap K
theorem asw {o:Oper} {K:St→Prop} {s:St} (h:aaA P frz o K s):opWP P frz false o K s:=by
 unfold aaA at h;unfold opWP
 split at h
 · rename_i f args aT hop;simp only [hop];unfold an8 at h
   split at h
   · rename_i hf; simp only [hf]; exact h
   · rename_i hf; simp only [hf]; exact h
   · rename_i hf; simp only [hf]; exact h
   · exact h.elim
 · rename_i hne
   split
   · rename_i f args aT hop; exact (hne _ _ _ hop).elim
   · exact axj h
theorem atK {o:Oper} {K:Eff→Prop} {s:St} (h:aaB P frz o s K):effD P frz o s K:=by
 unfold aaB at h;unfold effD
 split at h
 · rename_i f args aT hop;simp only [hop];unfold aiI at h
   split at h
   · rename_i hf; simp only [hf]; exact h
   · rename_i hf; simp only [hf]; exact h
   · rename_i hf; simp only [hf]; exact h
   · exact h.elim
 · rename_i hne
   split
   · rename_i f args aT hop; exact (hne _ _ _ hop).elim
   · exact axj h
def opsW (P:Program) (frz:FuncId→Bool) (ops:Array Oper):List Oper→(St→Prop)→St→Prop
 | [],K,s=>K s
 | o::r,K,s=>match o.guard with
  | none=>aaA P frz o (opsW P frz ops r K) s
  | some (j,want)=>match guardOf ops j s.env with
   | .p (.bool t)=>if t=want then aaA P frz o (opsW P frz ops r K) s else opsW P frz ops r K ⟨put o.dst (.p (.tup [])) s.env,s.heap⟩
   | .p (.tup [])=>opsW P frz ops r K ⟨put o.dst (.p (.tup [])) s.env,s.heap⟩
   | _=>False
def acN (P:Program) (frz:FuncId→Bool) (ops:Array Oper):List Oper→Nat→List Touch→(St→Prop)→St→Prop
 | [],_,acc,K,s=>ab5 ops acc=true∧K s
 | o::r,i,acc,K,s=>match o.guard with
  | none=>aaB P frz o s fun e=>acN P frz ops r (i+1) (ac7 i s.heap.length e acc) K (e.app o.dst s)
  | some (j,want)=>match guardOf ops j s.env with
   | .p (.bool t)=>if t=want then aaB P frz o s fun e=>acN P frz ops r (i+1) (ac7 i s.heap.length e acc) K (e.app o.dst s)
    else acN P frz ops r (i+1) acc K ⟨put o.dst (.p (.tup [])) s.env,s.heap⟩
   | .p (.tup [])=>acN P frz ops r (i+1) acc K ⟨put o.dst (.p (.tup [])) s.env,s.heap⟩
   | _=>False
theorem akc {ops:Array Oper}:∀ (l:List Oper) {K K':St→Prop} {s:St},(∀ s,K s→K' s)→opsW P frz ops l K s→ac8 P frz false ops l K' s
 | [],K,K',s,hk,h=>by simp only [opsW] at h; simp only [ac8]; exact hk s h
 | o::l,K,K',s,hk,h=>by
  have go:aaA P frz o (opsW P frz ops l K) s→opWP P frz false o (ac8 P frz false ops l K') s:=fun h=>by
   obtain ⟨t,h1,h2⟩:=ald false o s _ (asw h);exact h2 _ (akc l hk h1)
  simp only [opsW] at h;simp only [ac8]
  split at h
  · rename_i hg; simp only [hg]; exact go h
  · rename_i j want hg;simp only [hg]
    split at h
    · rename_i t ht;simp only [ht]
      split at h
      · rename_i htw; rw [if_pos htw]; exact go h
      · rename_i htw; rw [if_neg htw]; exact akc l hk h
    · rename_i ht; simp only [ht]; exact akc l hk h
    · exact h.elim
theorem ag3 {ops:Array Oper}:∀ (l:List Oper) {i:Nat} {acc:List Touch} {K K':St→Prop} {s:St},(∀ s,K s→K' s)→acN P frz ops l i acc K s→abu P frz ops l i acc K' s
 | [],i,acc,K,K',s,hk,h=>by simp only [acN] at h; simp only [abu]; exact ⟨h.1,hk s h.2⟩
 | o::l,i,acc,K,K',s,hk,h=>by
  have go:aaB P frz o s (fun e=>acN P frz ops l (i+1) (ac7 i s.heap.length e acc) K (e.app o.dst s))→effD P frz o s (fun e=>abu P frz ops l (i+1) (ac7 i s.heap.length e acc) K' (e.app o.dst s)):=fun h=>by
   obtain ⟨e,h1,h2⟩:=ale o s _ (atK h);exact h2 _ (ag3 l hk h1)
  simp only [acN] at h;simp only [abu]
  split at h
  · rename_i hg; simp only [hg]; exact go h
  · rename_i j want hg;simp only [hg]
    split at h
    · rename_i t ht;simp only [ht]
      split at h
      · rename_i htw; rw [if_pos htw]; exact go h
      · rename_i htw; rw [if_neg htw]; exact ag3 l hk h
    · rename_i ht; simp only [ht]; exact ag3 l hk h
    · exact h.elim
def aq2 (v:AV) (a b:St→Prop) (s:St):Prop :=
 match v with
 | .p (.bool t)=>if t then a s else b s
 | _=>False
def seqQ (K:St→Prop) (Q:aan→St→Prop) (e:aan) (s:St):Prop :=
 match e with
 | .normal=>K s
 | e=>Q e s
def aaV (P:Program) (frz:FuncId→Bool) (q:Cx):Code→(aan→St→Prop)→St→Prop
 | .skip,Q,s | .label _,Q,s=>Q .normal s
 | .region _ ops draw,Q,s=>if draw then acN P frz ops ops.toList 0 [] (Q .normal) s else opsW P frz ops ops.toList (Q .normal) s
 | .seq a b,Q,s=>aaV P frz q a (seqQ (aaV P frz q b Q) Q) s
 | .cond c a b,Q,s=>aq2 (ev s.env c) (aaV P frz q a Q) (aaV P frz q b Q) s
 | .block id b,Q,s=>aaV P frz q b (afR id Q) s
 | .scope b,Q,s=>aaV P frz q b Q s
 | .loop b,Q,s=>∃ I:Nat→St→Prop,(∃ n t,aaD q.2 s t∧I n t)∧∀ n t,I n t→aaV P frz q b (ajl q.2 n I Q) t
 | .rangeFunc f ps a b,Q,s=>q.2≤s.heap.length∧acZ P (ev s.env f) s.heap.length (s.heap ++ [.loop ⟨.ready,none,q.1,ps.toList,a,b,s.env⟩]) (acp s.heap.length s.env Q)
 | .exit id,Q,s=>Q (.exit id) s
 | .ret,Q,s=>Q .ret s
 | _,_,_=>False
theorem atf {Q Q':aan→St→Prop} (hq:∀ e s,Q e s→Q' e s) {j:Option Code} {s:St} (h:agj Q j s):agj Q' j s:=by
 unfold agj at h ⊢
 split at h
 · exact hq _ _ h
 · exact hq _ _ h
 · exact hq _ _ h
 · exact h.elim
theorem alC {Q Q':aan→St→Prop} (hq:∀ e s,Q e s→Q' e s) {b:Nat} {env:Env} {H:Heap} (h:acp b env Q H):acp b env Q' H:=by
 unfold acp at h ⊢
 split at h
 · exact ⟨h.1,atf hq h.2⟩
 · exact h.elim
theorem al5 {it:AV} {b:Nat} {H:Heap} {K K':Heap→Prop} (hk:∀ H,K H→K' H) (h:acZ P it b H K):acZ P it b H K':=by
 unfold acZ at h ⊢
 split at h
 · obtain ⟨H',v,h1,h2⟩:=h; exact ⟨H',v,h1,hk _ h2⟩
 · obtain ⟨H',v,h1,h2⟩:=h; exact ⟨H',v,h1,hk _ h2⟩
 · exact h.elim
theorem ab0 {q:Cx}:∀ (c:Code) {Q Q':aan→St→Prop} {s:St},(∀ e s,Q e s→Q' e s)→aaV P frz q c Q s→aap P frz q c Q' s
 | .skip,Q,Q',s,hq,h | .label _,Q,Q',s,hq,h=>by simp only [aaV] at h; simp only [aap]; exact hq _ _ h
 | .exit _,Q,Q',s,hq,h | .ret,Q,Q',s,hq,h=>by simp only [aaV] at h; simp only [aap]; exact hq _ _ h
 | .region id ops draw,Q,Q',s,hq,h=>by
  simp only [aaV] at h;simp only [aap]
  split at h
  · rename_i hd; rw [if_pos hd]; exact ag3 _ (hq _) h
  · rename_i hd; rw [if_neg hd]; exact akc _ (hq _) h
 | .seq a b,Q,Q',s,hq,h=>by
  simp only [aaV] at h;simp only [aap];refine ab0 a (fun e s he=>?_) h;cases e with
  | normal=>exact ab0 b hq he
  | exit id=>exact hq _ _ he
  | ret=>exact hq _ _ he
 | .cond c a b,Q,Q',s,hq,h=>by
  simp only [aaV] at h;simp only [aap];unfold aq2 at h
  split at h
  · rename_i t ht;simp only [ht]
    split at h
    · rename_i hb; rw [if_pos hb]; exact ab0 a hq h
    · rename_i hb; rw [if_neg hb]; exact ab0 b hq h
  · exact h.elim
 | .block id b,Q,Q',s,hq,h=>by
  simp only [aaV] at h;simp only [aap];refine ab0 b (fun e s he=>?_) h;cases e with
  | normal=>exact hq _ _ he
  | exit i =>
   simp only [afR] at he
   by_cases hi:i=id
   · simp only [hi,if_true] at he ⊢; exact hq _ _ he
   · simp only [hi,if_false] at he ⊢; exact hq _ _ he
  | ret=>exact hq _ _ he
 | .scope b,Q,Q',s,hq,h=>by simp only [aaV] at h; simp only [aap]; exact ab0 b hq h
 | .loop b,Q,Q',s,hq,h=>by
  simp only [aaV] at h;simp only [aap];obtain ⟨I,h1,h2⟩:=h;refine ⟨I,h1,fun n t hI=>ab0 b (fun e s he=>?_) (h2 n t hI)⟩;cases e with
  | normal=>exact he
  | exit id=>exact hq _ _ he
  | ret=>exact hq _ _ he
 | .rangeFunc f ps a b,Q,Q',s,hq,h=>by
  simp only [aaV] at h;simp only [aap];exact ⟨h.1,s.env,fun _=>rfl,al5 (fun H=>alC hq) h.2⟩
 | .goto _,_,_,_,_,h | .refuse _,_,_,_,_,h=>by simp [aaV] at h
end
end Go.Abs
