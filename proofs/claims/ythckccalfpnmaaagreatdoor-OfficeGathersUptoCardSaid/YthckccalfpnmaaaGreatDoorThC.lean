import Derived.Test.YthckccalfpnmaaaGreatDoorThB
import Derived.Laws.RangeString
import Derived.Lib.UnsafeStr
import Derived.Laws.BytesArg
import Derived.Orders
/- Parts of a proof. -/
set_option linter.unusedSimpArgs false
set_option linter.unusedVariables false
set_option linter.unusedSectionVars false
namespace Go.Abs
set_option linter.unusedSectionVars false
variable [Gl]
section
variable {P:Program} {w:World} {Imm Prot:Nat → Prop} {β:Bd} {H:Heap}
variable {o:Oper} {ρ:Operand → AV} {base:Nat}
open Go.MapKept
theorem keyFits_isKey {T:TypeId} {key:PV} {kv:Value} (h:keyFits P T key = true) (hv:PVV P w Imm key kv):∃ d,P.underlying T = some d ∧ IsKey d kv:=by
 unfold keyFits at h
 split at h
 · split at h
   · rename_i hu
     simp at h; subst h
     simp only [PVV] at hv
     subst hv
     exact ⟨_,hu,by simp [IsKey]⟩
   · simp at h
 · simp only [PVV] at hv
   obtain ⟨bs,rfl,_⟩:=hv
   exact ⟨_,isStrT_some h,by simp [IsKey]⟩
 · simp at h
theorem eqP_key {T : TypeId} {d : TypeDesc} (hu : P.underlying T = some d) {key k' : PV} {kv v' : Value} {r : Bool} (h : keyFits P T key = true) (he : eqP key k' = some r) (hv : PVV P w Imm key kv) (hv' : PVV P w Imm k' v') :
    Instr.sameNow d kv v' = some r ∧ (r = true → kv = v'):=by
 unfold keyFits at h
 split at h
 · split at h
   · rename_i hu'
     simp at h; subst h
     rw [hu] at hu'; cases hu'
     cases k' <;> simp only [eqP] at he <;> try (simp at he; done)
     split at he
     · rename_i hk
       subst hk
       simp at he; subst he
       simp only [PVV] at hv hv'
       subst hv; subst hv'
       simp [Instr.sameNow]
     · simp at he
   · simp at h
 · rename_i hs
   have:=isStrT_some h
   rw [hu] at this; cases this
   cases k' <;> simp only [eqP] at he <;> try (simp at he; done)
   simp at he; subst he
   simp only [PVV] at hv hv'
   obtain ⟨a,rfl,e1⟩:=hv
   obtain ⟨b,rfl,e2⟩:=hv'
   subst e1; subst e2
   have hab:(List.map (fun x:UInt8=>x.toNat) a.data.toList = List.map (fun x:UInt8=>x.toNat) b.data.toList) ↔ a = b:=by
    constructor
    · intro h
      have:=map_toNat_inj h
      apply ByteArray.ext; apply Array.ext'; exact this
    · intro h; rw [h]
   by_cases hc:a = b
   · subst hc
     simp [Instr.sameNow,MapKept.bytes_beq]
   · have h2:¬ (List.map (fun x:UInt8=>x.toNat) a.data.toList = List.map (fun x:UInt8=>x.toNat) b.data.toList):=fun h=>hc (hab.1 h)
     have h3:(a == b) = false:=by
      cases hb:(a == b) with
      | false=>rfl
      | true=>exact (hc ((MapKept.bytes_beq a b).1 hb)).elim
     simp [Instr.sameNow,h2,h3]
 · simp at h
theorem find_rel {T : TypeId} {d : TypeDesc} (hu : P.underlying T = some d) {key : PV} {kv : Value} (hk : keyFits P T key = true) (hkv : PVV P w Imm key kv) : ∀ (es : List (PV × PV)) (ents : List MapEntry) (i : Nat) (r : Option PV), PVM P w Imm es ents → lookupM es key = some r →
    (r = none ∧ Instr.findNow d kv ents i = some none) ∨ ∃ v j e,r = some v ∧ Instr.findNow d kv ents i = some (some (i + j,e.val)) ∧ ents[j]? = some e ∧ PVV P w Imm v e.val ∧ e.key = kv ∧
     (∀ (x:PV) (xv:Value),PVV P w Imm x xv → PVM P w Imm (updateM es key x) (ents.modify j fun e=>{ e with key:=kv,val:=xv }))
 | [],ents,i,r,hm,h=>by
  simp only [PVM] at hm
  simp [lookupM] at h
  subst hm; subst h
  exact .inl ⟨rfl,rfl⟩
 | (k',v') :: es,ents,i,r,hm,h=>by
  simp only [PVM] at hm
  obtain ⟨e,rest,rfl,h1,h2,h3⟩:=hm
  simp only [lookupM] at h
  split at h
  · rename_i he
    simp at h; subst h
    obtain ⟨g1,g2⟩:=eqP_key hu hk he hkv h1
    refine .inr ⟨v',0,e,rfl,by simp [Instr.findNow,g1],rfl,h2,(g2 rfl).symm,fun x xv hx=>?_⟩
    simp only [updateM,he,if_true]
    simp only [PVM]
    exact ⟨_,rest,rfl,hkv,hx,h3⟩
  · rename_i he
    obtain ⟨g1,g2⟩:=eqP_key hu hk he hkv h1
    rcases find_rel hu hk hkv es rest (i + 1) r h3 h with ⟨rfl,f1⟩ | ⟨v,j,e',rfl,f1,f2,f3,f4,f5⟩
    · exact .inl ⟨rfl,by simp [Instr.findNow,g1,f1]⟩
    · refine .inr ⟨v,j + 1,e',rfl,by simp [Instr.findNow,g1,f1]; omega,by simpa using f2,f3,f4,fun x xv hx=>?_⟩
      simp only [updateM,he]
      rw [if_neg (by simp)]
      simp only [PVM]
      exact ⟨e,_,by simp [List.modify_succ_cons],h1,h2,f5 x xv hx⟩
  · simp at h
theorem update_push {T:TypeId} {key x:PV} {kv xv:Value} (hkv:PVV P w Imm key kv) (hx:PVV P w Imm x xv) (born:Nat):∀ (es:List (PV × PV)) (ents:List MapEntry),PVM P w Imm es ents → lookupM es key = some none → PVM P w Imm (updateM es key x) (ents ++ [{ key:=kv,val:=xv,born }])
 | [],ents,hm,_=>by
  simp only [PVM] at hm
  subst hm
  simp only [updateM,PVM]
  exact ⟨_,[],rfl,hkv,hx,rfl⟩
 | (k',v') :: es,ents,hm,h=>by
  simp only [PVM] at hm
  obtain ⟨e,rest,rfl,h1,h2,h3⟩:=hm
  simp only [lookupM] at h
  split at h
  · simp at h
  · rename_i he
    simp only [updateM,he]
    rw [if_neg (by simp)]
    simp only [PVM]
    exact ⟨e,_,rfl,h1,h2,update_push (T:=T) hkv hx born es rest h3 h⟩
  · simp at h
def lookV (ok:Bool) (z:PV):Option PV → PV
 | some v=>if ok then .tup [v,.bool true] else v
 | none=>if ok then .tup [z,.bool false] else z
theorem lookup_run {T : TypeId} {KT E : TypeId} {x ix : Operand} {ok : Bool} {key z : PV} {r : Option PV} {es : List (PV × PV)} (hop : o.op = .lookup T x ix ok) (hT : mapTy P T = some (KT, E)) (hz : tzero P E = some z) (hk : keyFits P KT key = true) (hl : lookupM es key = some r)
    {ρc:Operand → Value} (hkv:PVV P w Imm key (ρc ix)) (hx:(ρc x = .map none ∧ es = []) ∨ ∃ b ents clock,ρc x = .map (some b) ∧ w.heap[b]? = some (.map ents clock) ∧ PVM P w Imm es ents.toList) :
    ∃ cv,(execOp ρc o).run P w = .ok (.value cv) w ∧ PVV P w Imm (lookV ok z r) cv:=by
 have hmt:P.underlying T = some (.map KT E):=by
  unfold mapTy at hT
  split at hT
  · rename_i hu; simp at hT; rw [hu,hT.1,hT.2]
  · simp at hT
 obtain ⟨d,hd,hik⟩:=keyFits_isKey hk hkv
 obtain ⟨zv,z1,z2⟩:=tzero_val hz
 obtain ⟨ents,hents,hm⟩:∃ ents:Array MapEntry,((ρc x = .map none ∧ ents = #[]) ∨ ∃ b clock,ρc x = .map (some b) ∧ w.heap[b]? = some (.map ents clock)) ∧ PVM P w Imm es ents.toList:=by
  rcases hx with ⟨hx,rfl⟩ | ⟨b,ents,clock,hx,hb,hm⟩
  · exact ⟨#[],.inl ⟨hx,rfl⟩,by simp [PVM]⟩
  · exact ⟨ents,.inr ⟨b,clock,hx,hb⟩,hm⟩
 have hck:∀ e,(Instr.checkKey e 10000 KT (ρc ix)).run P w = .ok () w:=fun e=>run_checkKey hd hik _ 9999
 have fin : ∀ (f : Option (Nat × Value)) (v : Value) (b : Bool), (Instr.findKey KT (ρc ix) ents.toList).run P w = .ok f w → (f = none ∧ v = zv ∧ b = false ∨ ∃ j, f = some (j, v) ∧ b = true) →
     (execOp ρc o).run P w = .ok (.value (if ok then .tuple #[v,.bool b] else v)) w:=by
  intro f v b hf hfv
  simp only [execOp,hop]
  refine exec_value ?_
  rcases hfv with ⟨rfl,rfl,rfl⟩ | ⟨j,rfl,rfl⟩
  · rcases hents with ⟨hx,rfl⟩ | ⟨b,clock,hx,hb⟩
    · have hf:(Instr.findKey KT (ρc ix) []).run P w = .ok none w:=hf
      cases ok <;> simp [Instr.lookup,run_underlying hmt,hx,hck,hf,z1]
    · cases ok <;> simp [Instr.lookup,run_underlying hmt,hx,MapKept.run_getObj_map hb,hck,hf,z1]
  · rcases hents with ⟨hx,rfl⟩ | ⟨b,clock,hx,hb⟩
    · have hf:(Instr.findKey KT (ρc ix) []).run P w = .ok (some (j,v)) w:=hf
      cases ok <;> simp [Instr.lookup,run_underlying hmt,hx,hck,hf]
    · cases ok <;> simp [Instr.lookup,run_underlying hmt,hx,MapKept.run_getObj_map hb,hck,hf]
 rcases find_rel hd hk hkv es ents.toList 0 r hm hl with ⟨rfl,f1⟩ | ⟨v,j,e,rfl,f1,f2,f3,f4,_⟩
 · refine ⟨_,fin none zv false (run_findKey (w:=w) hd f1) (.inl ⟨rfl,rfl,rfl⟩),?_⟩
   cases ok with
   | true=>simp only [lookV,if_true,PVV,PVVl]; exact ⟨_,⟨_,_,rfl,z2 w Imm,_,_,rfl,rfl,rfl⟩,rfl⟩
   | false=>simpa [lookV] using z2 w Imm
 · refine ⟨_,fin _ e.val true (run_findKey (w:=w) hd f1) (.inr ⟨_,rfl,rfl⟩),?_⟩
   cases ok with
   | true=>simp only [lookV,if_true,PVV,PVVl]; exact ⟨_,⟨_,_,rfl,f3,_,_,rfl,rfl,rfl⟩,rfl⟩
   | false=>simpa [lookV] using f3
theorem op_lookup {T : TypeId} {KT E : TypeId} {x ix : Operand} {ok : Bool} {key z : PV} {r : Option PV} {es : List (PV × PV)} {hin : List (Nat × Obj)} (hop : o.op = .lookup T x ix ok) (hT : mapTy P T = some (KT, E)) (hz : tzero P E = some z) (hi : ρ ix = .p key) (hk : keyFits P KT key = true) (hl : lookupM es key = some r)
    (hx:(ρ x = .p .nmap ∧ es = []) ∨ ρ x = .p (.fmap es) ∨ ∃ b fz,ρ x = .map b ∧ (b,.map fz es) ∈ hin) :
    EffSound P o ρ base { v:=.p (lookV ok z r),hin }:=by
 refine EffSound.same fun H w Imm Prot β ρc hr hρ hin=>?_
 have h1:=(hρ x (by simp [hop,Op.operands])).1
 have h2:=(hρ ix (by simp [hop,Op.operands])).1
 rw [hi] at h2
 simp only [AVV] at h2
 obtain ⟨cv,c1,c2⟩:=lookup_run hop hT hz hk hl (ρc:=ρc) (w:=w) (Imm:=Imm) h2 (by
  rcases hx with ⟨hx,rfl⟩ | hx | ⟨b,fz,hx,hm⟩
  · rw [hx] at h1; simp only [AVV,PVV] at h1; exact .inl ⟨h1,rfl⟩
  · rw [hx] at h1; simp only [AVV,PVV] at h1
    obtain ⟨b,ents,clock,_,h3,h4,h5⟩:=h1
    exact .inr ⟨b,ents,clock,h5,h3,h4⟩
  · rw [hx] at h1; simp only [AVV,RefV,RefC] at h1
    have hob:=hin _ hm
    obtain ⟨ents,clock,k1,k2,_⟩:=hr.objs b _ hob
    exact .inr ⟨_,ents,clock,h1.2.1 ⟨_,_,hob⟩,k1,k2⟩)
 exact ⟨cv,c1,by simpa only [AVV] using c2,by simp [refsLt]⟩
theorem op_makeMap {T:TypeId} (hop:o.op = .makeMap T none):EffSound P o ρ base { v:=.map base,hnew:=[.map false []] }:=by
 intro H w Imm Prot β ρc hr hρ _ hholes
 have hb:H[base]? = some .hole:=by simpa using hholes 0 (by simp)
 have hrun:(execOp ρc o).run P w = .ok (.value (.map (some w.heap.size))) { w with heap:=w.heap.push (.map #[] 0) }:=by
  simp only [execOp,hop]
  exact exec_value' (by simp [Instr.makeMap])
 have hpost:=new_post (cap:=0) hr hb (ob:=.map #[] 0) (o':=.map false [])
  ⟨#[],0,by simp [Bd.at],by simp [PVM],by
   simp only [Held,Bd.at,if_true,Bool.false_eq_true,if_false]
   exact ⟨fun h=>Nat.lt_irrefl _ (hr.imm _ h),fun h=>Nat.lt_irrefl _ (hr.prot _ h)⟩⟩ trivial
 refine ⟨_,_,_,_,Imm,hrun,.inl rfl,hpost,?_,?_⟩
 · simp only [AVV,RefV,RefC,setAll_one]
   exact ⟨rfl,fun _=>by simp [Bd.at],fun ⟨L,hL⟩=>by rw [List.getElem?_set_self (List.getElem?_eq_some_iff.1 hb).1] at hL; cases hL⟩
 · simp only [refsLt,setAll_one]
   exact ⟨_,List.getElem?_set_self (List.getElem?_eq_some_iff.1 hb).1,trivial⟩
theorem set_post (hr : HRel P w Imm β H Prot) {b : Nat} {o o' : Obj} (ho : H[b]? = some o) (hl : o.live) (hl' : o'.live) (hnh : ∀ v, o.has v → o'.has v) (hlo : ∀ L, o ≠ .loop L) {ob : Go.Obj}
    (_hb:β.blk b < w.heap.size) (hm:¬ Imm (β.blk b) ∧ ¬ Prot (β.blk b)) (hst:HStep β H β (H.set b o'))
    (ho':ORel P { w with heap:=w.heap.setIfInBounds (β.blk b) ob } Imm β (H.set b o') Prot b o') (href:o'.refs (InH (H.set b o'))) :
    Post P Prot Imm w β H Imm { w with heap:=w.heap.setIfInBounds (β.blk b) ob } β (H.set b o'):=by
 refine Post.set hr (List.getElem?_eq_some_iff.1 ho).1 (fun _ _=>⟨rfl,rfl⟩) (fun _ x=>x) (fun _ x=>.inl x) (fun k hk=>by simpa using hr.imm k hk) (by simp)
  (fun k hk _=>?_) (fun _=>.inr ⟨rfl,⟨o,ho,hl⟩,.inr hm.1,hm.2⟩) hst ho' href (fun o1 v h1 h2=>by rw [ho] at h1; cases h1; exact hnh v h2) (fun L hL=>by rw [ho] at hL; cases hL; exact (hlo L rfl).elim)
 have hne:k ≠ β.blk b:=hk.resolve_right (fun h=>h hl')
 simp [Ne.symm hne]
theorem op_mapUpdate {T KT E : TypeId} {m k x : Operand} {b : Nat} {key v : PV} {es : List (PV × PV)} {r : Option PV} (hop : o.op = .mapUpdate T m k x ∨ o.op = .insert T m k x) (hT : mapTy P T = some (KT, E)) (hm : ρ m = .map b) (hk : ρ k = .p key) (hx : ρ x = .p v)
    (hf:keyFits P KT key = true) (hl:lookupM es key = some r):EffSound P o ρ base { v:=.p (.tup []),hin:=[(b,.map false es)],hset:=[(b,.map false (updateM es key v))] }:=by
 have hmt:P.underlying T = some (.map KT E):=by
  unfold mapTy at hT
  split at hT
  · rename_i hu; simp at hT; rw [hu,hT.1,hT.2]
  · simp at hT
 intro H w Imm Prot β ρc hr hρ hin _
 have hob:H[b]? = some (.map false es):=by simpa using hin
 have hmem:m ∈ o.op.operands ∧ k ∈ o.op.operands ∧ x ∈ o.op.operands:=by
  rcases hop with hop | hop <;> simp [hop,Op.operands]
 have h1:=(hρ m hmem.1).1
 have h2:=(hρ k hmem.2.1).1
 have h3:=(hρ x hmem.2.2).1
 rw [hm] at h1; rw [hk] at h2; rw [hx] at h3
 simp only [AVV,RefV,RefC] at h1 h2 h3
 have h1:=h1.2.1 ⟨_,_,hob⟩
 obtain ⟨ents,clock,k1,k2,k3⟩:=hr.objs b _ hob
 have hheld:¬ Imm (β.blk b) ∧ ¬ Prot (β.blk b):=by
  unfold Held at k3; rw [if_neg (by simp)] at k3; exact k3
 obtain ⟨d,hd,hik⟩:=keyFits_isKey hf h2
 have hck:(Instr.checkKey false 10000 KT (ρc k)).run P w = .ok () w:=run_checkKey hd hik _ 9999
 have hbl:β.blk b < w.heap.size:=(Array.getElem?_eq_some_iff.1 k1).1
 have hst:HStep β H β (H.set b (.map false (updateM es key v))):=set_step hob (.inr (.inr (.inl ⟨_,_,_,_,rfl,rfl⟩)))
 have fin : ∀ (ents' : Array MapEntry) (clock' : Nat), (Instr.mapUpdate T (ρc m) (ρc k) (ρc x)).run P w = .ok () { w with heap := w.heap.setIfInBounds (β.blk b) (.map ents' clock') } → PVM P w Imm (updateM es key v) ents'.toList →
     ∃ n cv w' β' Imm',(execOp ρc o).run P w = .ok n w' ∧ (n = .value cv ∨ n = .skip ∧ cv = undef) ∧
     Post P Prot Imm w β H Imm' w' β' (setAll H ([(b,.map false (updateM es key v))] ++ newAt base [])) ∧ AVV P w' Imm' β' (setAll H ([(b,.map false (updateM es key v))] ++ newAt base [])) (.p (.tup [])) cv ∧
     refsLt (InH (setAll H ([(b,.map false (updateM es key v))] ++ newAt base []))) (.p (.tup [])):=by
  intro ents' clock' hrun hpv
  have hex:(execOp ρc o).run P w = .ok .skip { w with heap:=w.heap.setIfInBounds (β.blk b) (.map ents' clock') }:=by
   rcases hop with hop | hop <;> simp [execOp,hop,hrun]
  have hsame:∀ k',Imm k' → ({ w with heap:=w.heap.setIfInBounds (β.blk b) (.map ents' clock') }:World).heap[k']? = w.heap[k']?:=by
   intro k' hki
   have:β.blk b ≠ k':=fun he=>hheld.1 (he ▸ hki)
   simp [this]
  refine ⟨_,_,_,β,Imm,hex,.inr ⟨rfl,rfl⟩,?_,by simp [AVV,PVV,PVVl,undef],by simp [refsLt]⟩
  simp only [newAt,List.append_nil,setAll]
  exact set_post (o':=.map false (updateM es key v)) hr hob trivial trivial (fun _ h=>h) (fun _ h=>by cases h) hbl hheld hst ⟨ents',clock',by simp [hbl],PVM.mono (fun _ x=>x) hsame _ _ hpv,k3⟩ trivial
 rcases find_rel hd hf h2 es ents.toList 0 r k2 hl with ⟨rfl,f1⟩ | ⟨v',j,e,rfl,f1,f2,f3,f4,f5⟩
 · have hfk:=run_findKey (w:=w) hd f1
   refine fin (ents.push { key:=ρc k,val:=ρc x,born:=clock }) (clock + 1) ?_ ?_
   · rw [h1]
     simp only [Instr.mapUpdate,Sem.run_bind,run_underlying hmt,Result.andThen_ok,MapKept.run_getObj_map k1,hck,hfk,run_setObj_map _ k1]
   · rw [Array.toList_push]
     exact update_push (T:=KT) h2 h3 clock es ents.toList k2 hl
 · have hfk:=run_findKey (w:=w) hd f1
   have hj:ents[j]? = some e:=by simpa using f2
   refine fin (ents.modify j fun e=>{ e with key:=ρc k,val:=ρc x }) clock ?_ ?_
   · rw [h1]
     simp only [Instr.mapUpdate,Sem.run_bind,run_underlying hmt,Result.andThen_ok,MapKept.run_getObj_map k1,hck,hfk]
     simp only [Nat.zero_add,hj,Option.map_some,Option.getD_some,f4,run_keyThatStays hik,Result.andThen_ok,run_setObj_map _ k1]
   · rw [Array.toList_modify]
     exact f5 v (ρc x) h3
end
end Go.Abs
namespace Go.Abs
set_option linter.unusedSectionVars false
variable [Gl]
section
variable {P:Program} {w:World} {Imm Prot:Nat → Prop} {β:Bd} {H:Heap}
variable {o:Oper} {ρ:Operand → AV} {base:Nat}
theorem toBA_toNats (bs:ByteArray):toBA (toNats bs) = bs:=by
 unfold toBA toNats
 apply ByteArray.ext
 apply Array.ext'
 simp only [List.map_map]
 have:(UInt8.ofNat ∘ fun x:UInt8=>x.toNat) = id:=by funext x; simp
 rw [this]; simp
theorem op_range {T:TypeId} {x:Operand} {s:List Nat} (hop:o.op = .range T x) (hx:ρ x = .p (.str s)) (hT:isStrT P T = true):EffSound P o ρ base { v:=.ptr base [],hnew:=[.siter s 0] }:=by
 intro H w Imm Prot β ρc hr hρ _ hholes
 have hb:H[base]? = some .hole:=by simpa using hholes 0 (by simp)
 have h1:=(hρ x (by simp [hop,Op.operands])).1
 rw [hx] at h1
 simp only [AVV,PVV] at h1
 obtain ⟨bs,e1,e2⟩:=h1
 have hrun:(execOp ρc o).run P w = .ok (.value (.pointer (some ⟨w.heap.size,0,none⟩))) { w with heap:=w.heap.push (.stringIter bs 0) }:=by
  simp only [execOp,hop,e1]
  exact exec_value' (by simp [Instr.range,run_underlying (isStrT_some hT)])
 have hpost:=new_post (cap:=0) hr hb (ob:=.stringIter bs 0) (o':=.siter s 0)
  ⟨bs,by simp [Bd.at],e2,by
   simp only [Held,Bd.at,if_true,Bool.false_eq_true,if_false]
   exact ⟨fun h=>Nat.lt_irrefl _ (hr.imm _ h),fun h=>Nat.lt_irrefl _ (hr.prot _ h)⟩⟩ trivial
 refine ⟨_,_,_,_,Imm,hrun,.inl rfl,hpost,?_,?_⟩
 · simp only [AVV,RefV,RefC,setAll_one]
   exact ⟨rfl,_,_,0,rfl,rfl,fun _=>by simp [Bd.at]⟩
 · simp only [refsLt,setAll_one]
   exact ⟨_,List.getElem?_set_self (List.getElem?_eq_some_iff.1 hb).1,trivial⟩
theorem op_next {it : Operand} {b : Nat} {s : List Nat} {pos : Nat} (hop : o.op = .next it true) (hx : ρ it = .ptr b []) :
    (pos < s.length → EffSound P o ρ base { v:=.p (.tup [.bool true,.int .i64 pos,.int .i32 (Utf8.decode (toBA s) pos).1]),hin:=[(b,.siter s pos)],hset:=[(b,.siter s (pos + (Utf8.decode (toBA s) pos).2))] }) ∧
    (¬ pos < s.length → EffSound P o ρ base { v:=.p (.tup [.bool false]),hin:=[(b,.siter s pos)] }):=by
 have key : ∀ {H : Heap} {w : World} {Imm Prot : Nat → Prop} {β : Bd} {ρc : Operand → Value}, HRel P w Imm β H Prot → (∀ x ∈ o.op.operands, AVV P w Imm β H (ρ x) (ρc x) ∧ refsLt (InH H) (ρ x)) → H[b]? = some (.siter s pos) →
     ρc it = .pointer (some ⟨β.blk b,0,none⟩) ∧ ∃ bs:ByteArray,w.heap[β.blk b]? = some (.stringIter bs pos) ∧ s = toNats bs ∧ (¬ Imm (β.blk b) ∧ ¬ Prot (β.blk b)):=by
  intro H w Imm Prot β ρc hr hρ hob
  have h1:=(hρ it (by simp [hop,Op.operands])).1
  rw [hx] at h1
  simp only [AVV,RefV,RefC] at h1
  obtain ⟨_,blk,off,oo,h2,h3,h4⟩:=h1
  simp [pathOff] at h3
  subst h3
  obtain ⟨rfl,rfl⟩:=h4 (.inr ⟨_,_,hob⟩)
  obtain ⟨bs,k1,k2,k3⟩:=hr.objs b _ hob
  unfold Held at k3; rw [if_neg (by simp)] at k3
  exact ⟨h2,bs,k1,k2,k3⟩
 constructor
 · intro hpos H w Imm Prot β ρc hr hρ hin _
   have hob:H[b]? = some (.siter s pos):=by simpa using hin
   obtain ⟨h1,bs,k1,rfl,k3⟩:=key hr hρ hob
   have hsz:pos < bs.size:=by simpa [toNats] using hpos
   have hbl:β.blk b < w.heap.size:=(Array.getElem?_eq_some_iff.1 k1).1
   rw [toBA_toNats]
   have hrun:(execOp ρc o).run P w = .ok (.value (.tuple #[.bool true,goInt pos,.int .i32 (Utf8.decode bs pos).1])) { w with heap:=w.heap.setIfInBounds (β.blk b) (.stringIter bs (pos + (Utf8.decode bs pos).2)) }:=by
    simp only [execOp,hop,h1]
    refine exec_value' ?_
    simp [Instr.next,getObj,setObj,Sem.run,k1,Result.andThen,hsz]
   have hst:HStep β H β (H.set b (.siter (toNats bs) (pos + (Utf8.decode bs pos).2))):=set_step hob (.inr (.inr (.inr ⟨_,_,_,rfl,rfl⟩)))
   have hpost:=set_post (o':=.siter (toNats bs) (pos + (Utf8.decode bs pos).2)) (ob:=.stringIter bs (pos + (Utf8.decode bs pos).2)) hr hob trivial trivial (fun _ h=>h) (fun _ h=>by cases h) hbl k3 hst
    ⟨bs,by simp [hbl],rfl,by unfold Held; rw [if_neg (by simp)]; exact k3⟩ trivial
   refine ⟨_,_,_,β,Imm,hrun,.inl rfl,?_,?_,by simp [refsLt]⟩
   · simpa only [newAt,List.append_nil,setAll] using hpost
   · simp only [AVV,PVV,PVVl]
     exact ⟨_,⟨_,_,rfl,rfl,_,_,rfl,rfl,_,_,rfl,rfl,rfl⟩,rfl⟩
 · intro hpos
   refine EffSound.same fun H w Imm Prot β ρc hr hρ hin=>?_
   have hob:H[b]? = some (.siter s pos):=by simpa using hin
   obtain ⟨h1,bs,k1,rfl,k3⟩:=key hr hρ hob
   have hsz:¬ pos < bs.size:=by simpa [toNats] using hpos
   refine ⟨.tuple #[.bool false],?_,by simp only [AVV,PVV,PVVl]; exact ⟨_,⟨_,_,rfl,rfl,rfl⟩,rfl⟩,by simp [refsLt]⟩
   simp only [execOp,hop,h1]
   refine exec_value ?_
   simp [Instr.next,getObj,Sem.run,k1,Result.andThen,hsz]
theorem op_field {T u : TypeId} {x : Operand} {f : Nat} {fs : Array Field} {t g : PV} {F : TypeId} (hop : o.op = .field T x f) (hk : kindOf P T = .agg u) (hu : P.underlying T = some (.struct fs)) (hx : ρ x = .p t) (hs : shp t = .agg u) (hg : (flds t)[f]? = some g) (hF : (compTypes P u)[f]? = some F) (hkF : kindOf P F = shp g) :
    EffSound P o ρ base { v:=.p g }:=by
 refine EffSound.same fun H w Imm Prot β ρc hr hρ _=>?_
 have h1:=(hρ x (by simp [hop,Op.operands])).1
 rw [hx] at h1
 simp only [AVV] at h1
 cases t <;> simp [shp] at hs
 rename_i u' gs
 subst hs
 simp only [flds] at hg
 simp only [PVV] at h1
 obtain ⟨l,css,k1,k2,k3⟩:=h1
 obtain ⟨fs',l',s1,s2,s3,s4,s5,s6⟩:=structT_some (P:=P) (T:=T) (u:=u') (n:=fs.size) (by unfold structT; rw [hk,hu])
 rw [hu] at s1; cases s1
 rw [k1] at s4; cases s4
 have hrow:AVCl P w Imm ⟨id,id⟩ [] l (gs.map .p) css:=AVCl_map.2 k2
 obtain ⟨pre,c,post,e1,e2,e3,e4,e5,_⟩:=AVCl_at (f:=.p g) (i:=f) hrow (by simp [hg])
 simp only [AVC] at e5
 obtain ⟨fl,g1,g2,g3,g4,g5⟩:=s6 f (by omega)
 rw [hF] at g5; cases g5
 obtain ⟨y,y1,y2⟩:=part_run hkF e5 (pre:=pre) (post:=post) (cs:=css.flatten.toArray) (by simpa using e1)
 refine ⟨y,?_,by simpa only [AVV] using y2,by simp [refsLt]⟩
 simp only [execOp,hop,k3]
 refine exec_value ?_
 rw [e2,← g2] at y1
 simp only [Instr.field,Sem.run_bind,run_underlying hu,Result.andThen_ok,g1]
 simp [asAgg,y1]
theorem minInts_run {k : IntKind} {isMax : Bool} {ρc : Operand → Value} : ∀ (l : List Operand) (a n : Int), minInts k isMax (l.map ρ) a = some n → (∀ x ∈ l, AVV P w Imm β H (ρ x) (ρc x)) →
    ((l.map ρc).foldlM (if isMax then Builtin.max2 else Builtin.min2) (.int k a)).run P w = .ok (.int k n) w
 | [],a,n,h,_=>by simp [minInts] at h; subst h; simp
 | x :: l,a,n,h,hv=>by
  simp only [List.map_cons] at h
  unfold minInts at h
  split at h
  · rename_i e; cases e
  · rename_i k' b r a' e
    simp at e
    obtain ⟨e1,rfl⟩:=e
    split at h
    case isFalse=>simp at h
    rename_i hk
    subst hk
    have h1:=hv x (by simp)
    rw [e1] at h1
    simp only [AVV,PVV] at h1
    have ih:=minInts_run l _ n h (fun y hy=>hv y (by simp [hy]))
    simp only [List.map_cons,List.foldlM_cons,Sem.run_bind,h1]
    cases isMax with
    | true=>simp only [if_true,Builtin.max2,Sem.run_pure,Result.andThen_ok] at ih ⊢; exact ih
    | false=>simp only [Bool.false_eq_true,if_false,Builtin.min2,Sem.run_pure,Result.andThen_ok] at ih ⊢; exact ih
  · simp at h
theorem op_minmax {c : Call} {isMax : Bool} {k : IntKind} {a n : Int} {r : List AV} (hop : o.op = .call c) (hc : c.callee = .builtin (if isMax then .max else .min)) (ha : c.args.toList.map ρ = .p (.int k a) :: r) (h : minInts k isMax r a = some n) :
    EffSound P o ρ base { v:=.p (.int k n) }:=by
 obtain ⟨x,l,hl⟩:∃ x l,c.args.toList = x :: l:=by
  cases hh:c.args.toList with
  | nil=>rw [hh] at ha; simp at ha
  | cons x l=>exact ⟨x,l,rfl⟩
 rw [hl] at ha
 simp at ha
 obtain ⟨hx,rfl⟩:=ha
 have hargs:c.args = (x :: l).toArray:=by apply Array.ext'; simpa using hl
 have hmem:∀ y ∈ x :: l,y ∈ o.op.operands:=by
  intro y hy
  rw [hop]; simp only [Op.operands,Call.operands,hc,hargs]
  simpa using hy
 refine EffSound.same fun H w Imm Prot β ρc hr hρ _=>⟨.int k n,?_,by simp [AVV,PVV],by simp [refsLt]⟩
 have h1:=(hρ x (hmem x (by simp))).1
 rw [hx] at h1
 simp only [AVV,PVV] at h1
 have h2:=minInts_run (ρc:=ρc) l a n h (fun y hy=>(hρ y (hmem y (by simp [hy]))).1)
 simp only [execOp,hop,resolve,hc,hargs]
 cases isMax with
 | true =>
  simp only [if_true] at h2 ⊢
  simp [invoke,builtin,Builtin.max_,h1,h2]
 | false =>
  simp only [Bool.false_eq_true,if_false] at h2 ⊢
  simp [invoke,builtin,Builtin.min_,h1,h2]
theorem op_copy {c : Call} {d x : Operand} {sz b ver off len : Nat} {k : AK} {es xs : List AV} {H0 : Heap} (hop : o.op = .call c) (hc : c.callee = .builtin .copy) (ha : c.args.toList = [d, x]) (hts : c.argTypes.size = 2) (hE : elemOk P (c.argTypes.getD 0 0) = some sz)
    (hd:ρ d = .sl b ver sz off len) (hx:elemsOf H0 (ρ x) = some xs) (hsh:allShp P sz xs) (hk:k ≠ .frozen) (hl:off + len ≤ es.length) (hnn:¬ isNilArr k es) :
    EffSound P o ρ base { v:=.p (.int .i64 (min xs.length len:Nat)),hin:=(b,.arr k ver sz es) :: readsOf H0 (ρ x),hset:=[(b,.arr k ver sz (es.take off ++ xs.take (min xs.length len) ++ es.drop (off + min xs.length len)))] }:=by
 obtain ⟨T,X,hTX⟩:∃ T X,c.argTypes = #[T,X]:=by
  obtain ⟨l,hl⟩:∃ l,l = c.argTypes.toList:=⟨_,rfl⟩
  have h2:l.length = 2:=by rw [hl]; simpa using hts
  match l,h2 with
  | [a,b],_=>exact ⟨a,b,by apply Array.ext'; simp [← hl]⟩
 have hmem:d ∈ o.op.operands ∧ x ∈ o.op.operands:=by
  have hargs:c.args = #[d,x]:=by apply Array.ext'; simpa using ha
  rw [hop]; simp [Op.operands,Call.operands,hc,hargs]
 have e1:c.argTypes.getD 0 0 = T:=by rw [hTX]; rfl
 rw [e1] at hE
 obtain ⟨e,i,hE⟩:=elemOk_some hE
 intro H w Imm Prot β ρc hr hρ hin _
 have hob:H[b]? = some (.arr k ver sz es):=hin (b,_) (by simp)
 have h1:=(hρ d hmem.1).1
 rw [hd] at h1
 simp only [AVV,RefV,RefC] at h1
 obtain ⟨_,_,h1⟩:=h1.2 k es hob
 have h1:=h1 hnn
 rcases hr.objs b _ hob with hold | ⟨cs,T',css,rest,k1,k2,k3,k4,k5,k6,k7,k8⟩
 · exact (hnn hold).elim
 have hheld:¬ Imm (β.blk b) ∧ ¬ Prot (β.blk b):=by
  unfold Held at k7; rw [if_neg (by simpa using hk)] at k7; exact k7
 obtain ⟨xcss,x1,x2,x3,x4⟩:=src_run (elemsOf_same hx (fun p hp=>hin p (List.mem_cons_of_mem _ hp))) hr (hρ x hmem.2).1 (hρ x hmem.2).2 hsh
 obtain ⟨n,hn⟩:∃ n,n = min xs.length len:=⟨_,rfl⟩
 rw [← hn]
 have x5:=x4 w rfl n (by omega)
 obtain ⟨y,m,z,g1,g2,g3,g4,g5⟩:=Row_seg x1 0 n (by omega)
 have hy:y = []:=by have:=(Row_length g4).1; simpa using this
 subst hy
 have hm:xcss.take n = m:=by
  have:=(Row_length g2).1
  rw [g1]; simp at this ⊢; rw [List.take_left' (by omega)]
 rw [hm] at x5
 simp only [List.drop_zero] at g2
 obtain ⟨a,m',z',f1,f2,f3,f4,f5⟩:=Row_seg k2 off n (by omega)
 have hml:m.flatten.length = n * sz:=by have:=(Row_length g2).2; rw [this]; congr 1; simp; omega
 have hml':m'.flatten.length = n * sz:=by have:=(Row_length f2).2; rw [this]; congr 1; simp; omega
 have hcs:cs.toList = a.flatten ++ m'.flatten ++ (z'.flatten ++ rest):=by rw [k3,f1]; simp
 have hsize:cs.size = a.flatten.length + m'.flatten.length + (z'.flatten ++ rest).length:=by
  have:=congrArg List.length hcs; simp only [List.length_append,Array.length_toList] at this; rw [this,List.length_append]
 have hst2:=run_storeCells_at P (β.blk b) (off * sz) T' m.flatten 0 cs w k1 (by rw [hsize,f3,hml,hml']; simp only [Nat.add_zero]; exact Nat.le_add_right _ _) (Row_one g2)
 simp only [Nat.add_zero] at hst2
 have hnew:cs.toList.take (off * sz) ++ m.flatten ++ cs.toList.drop (off * sz + m.flatten.length) = a.flatten ++ m.flatten ++ (z'.flatten ++ rest):=by
  rw [hcs,← f3,hml,← hml']; exact splice_list _ _ _ _
 rw [hnew] at hst2
 have hrun:(Builtin.copy_ c.argTypes o.type #[ρc d,ρc x]).run P w = .ok (goInt n) (w.setRow (β.blk b) (a.flatten ++ m.flatten ++ (z'.flatten ++ rest)).toArray):=by
  rw [hTX,h1]
  have hn':Nat.min xs.length len = n:=hn.symm
  have hl2:∀ (p:Option Addr) (n c:Nat),Builtin.lenOf (.slice p n c) = pure n:=fun _ _ _=>rfl
  simp [Builtin.copy_,run_underlying hE.und,x3,hn',hE.run,x5,hst2]
 have hnl:(es.take off ++ xs.take n ++ es.drop (off + n)).length = es.length:=by simp; omega
 have hst:HStep β H β (H.set b (.arr k ver sz (es.take off ++ xs.take n ++ es.drop (off + n)))):=set_step hob (.inr (.inl ⟨_,_,_,_,_,rfl,rfl,hnl.symm⟩))
 have hsame:∀ k',Imm k' → (w.setRow (β.blk b) (a.flatten ++ m.flatten ++ (z'.flatten ++ rest)).toArray).heap[k']? = w.heap[k']?:=fun k' hki=>setRow_other w _ k' _ (fun he=>hheld.1 (he ▸ hki))
 have hrefs:refsLtl (InH H) (es.take off ++ xs.take n ++ es.drop (off + n)):=by
  have hre:=refsLtl_mem.1 (hr.refs b _ hob)
  refine refsLtl_append (refsLtl_append ?_ ?_) ?_
  · rw [refsLtl_mem]; exact fun v hv=>hre v (List.mem_of_mem_take hv)
  · rw [refsLtl_mem]; exact fun v hv=>refsLtl_mem.1 x2 v (List.mem_of_mem_take hv)
  · rw [refsLtl_mem]; exact fun v hv=>hre v (List.mem_of_mem_drop hv)
 have hin':=InH_set hob (o:=.arr k ver sz (es.take off ++ xs.take n ++ es.drop (off + n))) (fun _ h=>h)
 have hnn':¬ isNilArr k (es.take off ++ xs.take n ++ es.drop (off + n)):=fun h=>hnn ⟨h.1,by have h2:=h.2; rw [← List.length_eq_zero_iff] at h2 ⊢; rw [hnl] at h2; exact h2⟩
 have hpost:=write_post hr hob hnn (o':=.arr k ver sz (es.take off ++ xs.take n ++ es.drop (off + n))) hnn' (fun _ h=>h) k1 (new:=(a.flatten ++ m.flatten ++ (z'.flatten ++ rest)).toArray) hheld hst
  (.inr ⟨_,T',a ++ m ++ z',rest,setRow_heap w _ _ _ T' _ k1,by
   refine Row.mono (fun _ x=>x) hsame hst hrefs (Row_append.2 ⟨_,_,rfl,Row_append.2 ⟨_,_,rfl,f4,g2⟩,f5⟩),by simp,by
   rw [← k4,hsize]; simp only [List.size_toArray,List.length_append,hml,hml'],by rw [hnl]; exact k5,fun he=>by rw [hnl]; exact k6 he,k7,(fun hke=>(hk hke).elim),k8.2⟩) (refsLtl.mono hin' _ hrefs)
 refine ⟨_,_,_,β,Imm,exec_copy hop hc ha hrun,.inl rfl,?_,by simp [AVV,PVV,goInt],by simp [refsLt]⟩
 simpa only [newAt,List.append_nil,setAll] using hpost
end
end Go.Abs
namespace Go.Abs
set_option linter.unusedSectionVars false
variable [Gl]
section
variable {P:Program} {w:World} {Imm Prot:Nat → Prop} {β:Bd} {H:Heap}
variable {o:Oper} {ρ:Operand → AV} {base:Nat}
theorem one_arg {c:Call} {x:Operand} (hop:o.op = .call c) {b:Builtin} (hc:c.callee = .builtin b) (ha:c.args.toList = [x]):x ∈ o.op.operands ∧ c.args = #[x]:=by
 have hargs:c.args = #[x]:=by apply Array.ext'; simpa using ha
 refine ⟨?_,hargs⟩
 rw [hop]; simp only [Op.operands,Call.operands,hc,hargs]; simp
theorem lenTy_slice {T:TypeId} {a:AV} (h:lenTy P T a = true) (hs:(∃ b v e i l,a = .sl b v e i l) ∨ a = .p .nsl ∨ ∃ f es,a = .p (.lst f es)):∃ e,P.underlying T = some (.slice e):=by
 rcases hs with ⟨b,v,e,i,l,rfl⟩ | rfl | ⟨f,es,rfl⟩ <;>
 · simp only [lenTy] at h
   split at h
   · rename_i e hu; exact ⟨e,hu⟩
   · simp at h
theorem op_cap {c : Call} {x : Operand} {n : Nat} {hin : List (Nat × Obj)} {H0 : Heap} (hop : o.op = .call c) (hc : c.callee = .builtin .cap) (ha : c.args.toList = [x]) (hl : capOf H0 (ρ x) = some (n, hin)) (hT : lenTy P (c.argTypes.getD 0 0) (ρ x) = true) (hts : 0 < c.argTypes.size) :
    EffSound P o ρ base { v:=.p (.int .i64 n),hin } ∧ (∀ p ∈ hin,H0[p.1]? = some p.2):=by
 obtain ⟨hmem,hargs⟩:=one_arg hop hc ha
 have hat:c.argTypes[0]? = some (c.argTypes.getD 0 0):=by simp [Array.getD,hts]
 generalize c.argTypes.getD 0 0 = T at *
 have fin : ∀ {H : Heap} {w : World} {Imm : Nat → Prop} {β : Bd} {ρc : Operand → Value}, (∃ p l, ρc x = .slice p l n) → (∃ e, P.underlying T = some (.slice e)) →
     ∃ cv,(execOp ρc o).run P w = .ok (.value cv) w ∧ AVV P w Imm β H (.p (.int .i64 n)) cv ∧ refsLt (InH H) (.p (.int .i64 n)):=by
  rintro H w Imm β ρc ⟨p,l,hx⟩ ⟨e,hu⟩
  refine ⟨goInt n,?_,by simp [AVV,PVV,goInt],by simp [refsLt]⟩
  simp only [execOp,hop,resolve,hc,hargs]
  simp [invoke,builtin,Builtin.cap_,hat,hx,run_underlying hu]
 unfold capOf at hl
 split at hl
 · rename_i hx
   simp at hl; obtain ⟨rfl,rfl⟩:=hl
   refine ⟨EffSound.same fun H w Imm Prot β ρc hr hρ hin=>fin ?_ (lenTy_slice hT (.inr (.inl hx))),by simp⟩
   have h1:=(hρ x hmem).1
   rw [hx] at h1; simp only [AVV,PVV] at h1
   exact ⟨_,_,h1⟩
 · rename_i es hx
   simp at hl; obtain ⟨rfl,rfl⟩:=hl
   refine ⟨EffSound.same fun H w Imm Prot β ρc hr hρ hin=>fin ?_ (lenTy_slice hT (.inr (.inr ⟨_,_,hx⟩))),by simp⟩
   have h1:=(hρ x hmem).1
   rw [hx] at h1; simp only [AVV,PVV] at h1
   obtain ⟨_,_,cap,_,_,_,_,_,h2,_,_,_,h3⟩:=h1
   exact ⟨_,_,by rw [h3,h2 trivial]⟩
 · rename_i b ver esz off len hx
   split at hl
   case h_2=>simp at hl
   rename_i ver' esz' es hob
   split at hl
   case isFalse=>simp at hl
   rename_i hcond
   obtain ⟨rfl,rfl,hle⟩:=hcond
   simp at hl; obtain ⟨rfl,rfl⟩:=hl
   refine ⟨EffSound.same fun H w Imm Prot β ρc hr hρ hin=>fin ?_ (lenTy_slice hT (.inl ⟨_,_,_,_,_,hx⟩)),by simpa using hob⟩
   have hob':H[b]? = some (.arr .exact ver esz es):=by simpa using hin
   have h1:=(hρ x hmem).1
   rw [hx] at h1
   simp only [AVV,RefV,RefC] at h1
   obtain ⟨_,_,h3⟩:=h1.2 _ _ hob'
   have hnn:¬ isNilArr .exact es:=fun h=>by simp [isNilArr,AK.gr] at h
   rcases hr.objs b _ hob' with hold | ⟨cs,T',css,rest,k1,k2,k3,k4,k5,k6,_⟩
   · exact (hnn hold).elim
   exact ⟨_,_,by rw [h3 hnn,k6 rfl]⟩
 · simp at hl
theorem op_clear_none {c : Call} {x : Operand} (hop : o.op = .call c) (hc : c.callee = .builtin .clear) (ha : c.args.toList = [x]) (hx : ρ x = .p .nsl) (hT : lenTy P (c.argTypes.getD 0 0) (ρ x) = true) (hts : 0 < c.argTypes.size) :
    EffSound P o ρ base { v:=.p (.tup []) }:=by
 obtain ⟨hmem,hargs⟩:=one_arg hop hc ha
 have hat:c.argTypes[0]? = some (c.argTypes.getD 0 0):=by simp [Array.getD,hts]
 generalize c.argTypes.getD 0 0 = T at *
 obtain ⟨e,hu⟩:=lenTy_slice hT (.inr (.inl hx))
 refine EffSound.same fun H w Imm Prot β ρc hr hρ hin=>?_
 have h1:=(hρ x hmem).1
 rw [hx] at h1; simp only [AVV,PVV] at h1
 refine ⟨.tuple #[],?_,by simp [AVV,PVV,PVVl],by simp [refsLt]⟩
 simp only [execOp,hop,resolve,hc,hargs]
 simp [invoke,builtin,Builtin.clear_,hat,h1,run_underlying hu]
theorem op_clear {c : Call} {x : Operand} {sz b ver off len : Nat} {k : AK} {es : List AV} {z : PV} (hop : o.op = .call c) (hc : c.callee = .builtin .clear) (ha : c.args.toList = [x]) (hts : 0 < c.argTypes.size) (hE : elemOk P (c.argTypes.getD 0 0) = some sz)
    (hz:tzero P (elemType P (c.argTypes.getD 0 0)) = some z) (hzs:shpSize P (shp z) = sz) (hx:ρ x = .sl b ver sz off len) (hk:k ≠ .frozen) (hl:off + len ≤ es.length) (hnn:¬ isNilArr k es) (hpos:0 < len) :
    EffSound P o ρ base { v:=.p (.tup []),hin:=[(b,.arr k ver sz es)],hset:=[(b,.arr k ver sz (es.take off ++ List.replicate len (.p z) ++ es.drop (off + len)))] }:=by
 obtain ⟨hmem,hargs⟩:=one_arg hop hc ha
 have hat:c.argTypes[0]? = some (c.argTypes.getD 0 0):=by simp [Array.getD,hts]
 obtain ⟨e,i,hE⟩:=elemOk_some hE
 obtain ⟨iz,zv,z1,z2,z3,z4⟩:=tzero_sound hz
 rw [hE.typ] at z1
 intro H w Imm Prot β ρc hr hρ hin _
 have hob:H[b]? = some (.arr k ver sz es):=hin (b,_) (by simp)
 have h1:=(hρ x hmem).1
 rw [hx] at h1
 simp only [AVV,RefV,RefC] at h1
 obtain ⟨_,_,h1⟩:=h1.2 k es hob
 have h1:=h1 hnn
 rcases hr.objs b _ hob with hold | ⟨cs,T',css,rest,k1,k2,k3,k4,k5,k6,k7,k8⟩
 · exact (hnn hold).elim
 have hheld:¬ Imm (β.blk b) ∧ ¬ Prot (β.blk b):=by
  unfold Held at k7; rw [if_neg (by simpa using hk)] at k7; exact k7
 have hzc:=z3 w Imm
 have hzl:zv.cells.size = sz:=by have:=(PVC_size hzc).1; simp at this; omega
 have hzll:zv.cells.toList.length = sz:=by simpa using hzl
 have hrow:=replicate_row (β:=β) (H:=H) hzc len
 rw [hzll] at hrow
 obtain ⟨m,hm⟩:∃ m,m = List.replicate len zv.cells.toList:=⟨_,rfl⟩
 rw [← hm] at hrow
 have hrow':Row P w Imm β H sz (List.replicate len (.p z)) m:=by
  exact hrow
 obtain ⟨a,m',z',f1,f2,f3,f4,f5⟩:=Row_seg k2 off len hl
 have hml:m.flatten.length = len * sz:=by have:=(Row_length hrow').2; rw [this]; simp
 have hml':m'.flatten.length = len * sz:=by have:=(Row_length f2).2; rw [this]; congr 1; simp; omega
 have hcs:cs.toList = a.flatten ++ m'.flatten ++ (z'.flatten ++ rest):=by rw [k3,f1]; simp
 have hsize:cs.size = a.flatten.length + m'.flatten.length + (z'.flatten ++ rest).length:=by
  have:=congrArg List.length hcs; simp only [List.length_append,Array.length_toList] at this; rw [this,List.length_append]
 have hst2:=run_storeCells_at P (β.blk b) (off * sz) T' m.flatten 0 cs w k1 (by rw [hsize,f3,hml,hml']; simp only [Nat.add_zero]; exact Nat.le_add_right _ _) (Row_one hrow')
 simp only [Nat.add_zero] at hst2
 have hnew:cs.toList.take (off * sz) ++ m.flatten ++ cs.toList.drop (off * sz + m.flatten.length) = a.flatten ++ m.flatten ++ (z'.flatten ++ rest):=by
  rw [hcs,← f3,hml,← hml']; exact splice_list _ _ _ _
 rw [hnew] at hst2
 have hzeros:(Builtin.zeroCells zv.cells len).toList = m.flatten:=by
  have:=zeros_list zv.cells len (by rw [hzl]; exact hE.pos)
  rw [hm,← this]; rfl
 have hrun:(execOp ρc o).run P w = .ok (.value (.tuple #[])) (w.setRow (β.blk b) (a.flatten ++ m.flatten ++ (z'.flatten ++ rest)).toArray):=by
  obtain ⟨l',rfl⟩:∃ l',len = l' + 1:=⟨len - 1,by omega⟩
  simp only [execOp,hop,resolve,hc,hargs]
  generalize c.argTypes.getD 0 0 = T at *
  simp only [Sem.run_bind,Sem.run_pure,Result.andThen_ok,invoke,builtin,List.map_toArray,List.map_cons,List.map_nil]
  have key:(Builtin.clear_ c.argTypes o.type #[ρc x]).run P w = .ok (.tuple #[]) (w.setRow (β.blk b) (a.flatten ++ m.flatten ++ (z'.flatten ++ rest)).toArray):=by
   simp [Builtin.clear_,hat,h1,run_underlying hE.und,run_zero z1 z2,hzeros,hst2]
  rw [key]; rfl
 have hnl:(es.take off ++ List.replicate len (AV.p z) ++ es.drop (off + len)).length = es.length:=by simp; omega
 have hst:HStep β H β (H.set b (.arr k ver sz (es.take off ++ List.replicate len (.p z) ++ es.drop (off + len)))):=set_step hob (.inr (.inl ⟨_,_,_,_,_,rfl,rfl,hnl.symm⟩))
 have hsame:∀ k',Imm k' → (w.setRow (β.blk b) (a.flatten ++ m.flatten ++ (z'.flatten ++ rest)).toArray).heap[k']? = w.heap[k']?:=fun k' hki=>setRow_other w _ k' _ (fun he=>hheld.1 (he ▸ hki))
 have hrefs:refsLtl (InH H) (es.take off ++ List.replicate len (AV.p z) ++ es.drop (off + len)):=by
  have hre:=refsLtl_mem.1 (hr.refs b _ hob)
  refine refsLtl_append (refsLtl_append ?_ ?_) ?_
  · rw [refsLtl_mem]; exact fun v hv=>hre v (List.mem_of_mem_take hv)
  · rw [refsLtl_mem]; intro v hv; rw [List.eq_of_mem_replicate hv]; simp [refsLt]
  · rw [refsLtl_mem]; exact fun v hv=>hre v (List.mem_of_mem_drop hv)
 have hin':=InH_set hob (o:=.arr k ver sz (es.take off ++ List.replicate len (.p z) ++ es.drop (off + len))) (fun _ h=>h)
 have hnn':¬ isNilArr k (es.take off ++ List.replicate len (AV.p z) ++ es.drop (off + len)):=fun h=>hnn ⟨h.1,by have h2:=h.2; rw [← List.length_eq_zero_iff] at h2 ⊢; rw [hnl] at h2; exact h2⟩
 have hpost:=write_post hr hob hnn (o':=.arr k ver sz (es.take off ++ List.replicate len (AV.p z) ++ es.drop (off + len))) hnn' (fun _ h=>h) k1 (new:=(a.flatten ++ m.flatten ++ (z'.flatten ++ rest)).toArray) hheld hst
  (.inr ⟨_,T',a ++ m ++ z',rest,setRow_heap w _ _ _ T' _ k1,by
   refine Row.mono (fun _ x=>x) hsame hst hrefs (Row_append.2 ⟨_,_,rfl,Row_append.2 ⟨_,_,rfl,f4,hrow'⟩,f5⟩),by simp,by
   rw [← k4,hsize]; simp only [List.size_toArray,List.length_append,hml,hml'],by rw [hnl]; exact k5,fun he=>by rw [hnl]; exact k6 he,k7,(fun hke=>(hk hke).elim),k8.2⟩) (refsLtl.mono hin' _ hrefs)
 refine ⟨_,_,_,β,Imm,hrun,.inl rfl,?_,by simp [AVV,PVV,PVVl],by simp [refsLt]⟩
 simpa only [newAt,List.append_nil,setAll] using hpost
theorem op_sliceData {c : Call} {x : Operand} {v : AV} {hin : List (Nat × Obj)} {H0 : Heap} (hop : o.op = .call c) (hc : c.callee = .builtin .unsafeSliceData) (ha : c.args.toList = [x])
    (h:(ρ x = .p .nsl ∧ v = .p .nptr ∧ hin = []) ∨ ∃ b ver esz off len k es,ρ x = .sl b ver esz off len ∧ H0[b]? = some (.arr k ver esz es) ∧ hin = [(b,.arr k ver esz es)] ∧ ((isNilArr k es ∧ v = .p .nptr) ∨ (0 < len ∧ off + len ≤ es.length ∧ v = .eptr b ver esz off []))) :
    EffSound P o ρ base { v,hin }:=by
 obtain ⟨hmem,hargs⟩:=one_arg hop hc ha
 refine EffSound.same fun H w Imm Prot β ρc hr hρ hin'=>?_
 obtain ⟨h1,h1r⟩:=hρ x hmem
 have fin:∀ cv,(Builtin.unsafeSliceData_ c.argTypes o.type #[ρc x]).run P w = .ok cv w → (execOp ρc o).run P w = .ok (.value cv) w:=by
  intro cv hrun
  simp only [execOp,hop,resolve,hc,hargs]
  simp only [Sem.run_bind,Sem.run_pure,Result.andThen_ok,invoke,builtin,List.map_toArray,List.map_cons,List.map_nil]
  rw [hrun]; rfl
 rcases h with ⟨hx,rfl,rfl⟩ | ⟨b,ver,esz,off,len,k,es,hx,hob,rfl,h⟩
 · rw [hx] at h1; simp only [AVV,PVV] at h1
   exact ⟨_,fin _ (by rw [h1]; exact Lib.run_unsafeSliceData_nil w _ _ _ _),by simp [AVV,PVV],by simp [refsLt]⟩
 · have hob':H[b]? = some (.arr k ver esz es):=by simpa using hin'
   rw [hx] at h1 h1r
   simp only [AVV,RefV,RefC] at h1
   obtain ⟨_,v2,v3⟩:=h1.2 k es hob'
   rcases h with ⟨hn,rfl⟩ | ⟨hpos,hle,rfl⟩
   · exact ⟨_,fin _ (by rw [v2 hn]; exact Lib.run_unsafeSliceData_nil w _ _ _ _),by simp [AVV,PVV],by simp [refsLt]⟩
   · have hn:¬ isNilArr k es:=fun h=>by rw [h.2] at hle; simp at hle; omega
     rcases hr.objs b _ hob' with hold | ⟨cs,T',css,rest,k1,k2,k3,k4,k5,_⟩
     · exact (hn hold).elim
     refine ⟨_,fin _ (by rw [v3 hn]; exact Lib.run_unsafeSliceData_row w _ _ _ _ _ (by omega)),?_,by simpa only [refsLt] using h1r⟩
     simp only [AVV,RefV,RefC]
     refine ⟨by simp [Value.oneCell'],β.blk b,off * esz,0,by simp,rfl,fun k' es' hl _=>⟨rfl,by simp⟩⟩
theorem freeze_io (w:World) (a:Addr) (n:Nat):(w.freeze a n).os = w.os ∧ (w.freeze a n).output = w.output:=by
 unfold World.freeze
 first | exact ⟨rfl,rfl⟩ | (split <;> exact ⟨rfl,rfl⟩)
theorem kill_post {w' : World} (hr : HRel P w Imm β H Prot) {b : Nat} {o : Obj} (ho : H[b]? = some o) (hl : o.live) (hm : ¬ Imm (β.blk b) ∧ ¬ Prot (β.blk b)) (hlo : ∀ L, o ≠ .loop L) (hsz : w'.heap.size = w.heap.size)
    (hs:∀ k,k ≠ β.blk b → w'.heap[k]? = w.heap[k]?) (hio:w'.os = w.os ∧ w'.output = w.output:=by exact ⟨rfl,rfl⟩):Post P Prot Imm w β H Imm w' β (H.set b .dead):=by
 have hb:b < H.length:=(List.getElem?_eq_some_iff.1 ho).1
 have ge:∀ (x:Nat) (o1:Obj),(H.set b Obj.dead)[x]? = some o1 → o1 ≠ .dead → H[x]? = some o1:=by
  intro x o1 hx hne
  by_cases hxb:b = x
  · subst hxb; rw [List.getElem?_set_self hb] at hx; cases hx; exact (hne rfl).elim
  · rwa [List.getElem?_set_ne hxb] at hx
 have hst:HStep β H β (H.set b .dead):=by
  refine ⟨?_,?_,?_,?_,?_⟩
  · rintro x _ ⟨f,t,h⟩; exact ⟨⟨f,t,ge _ _ h (by simp)⟩,rfl⟩
  · rintro x _ ⟨f,t,h⟩; exact ⟨⟨f,t,ge _ _ h (by simp)⟩,rfl⟩
  · rintro x _ ⟨f,t,h⟩; exact ⟨⟨f,t,ge _ _ h (by simp)⟩,rfl⟩
  · intro x ver esz k es _ h; exact ⟨k,es,ge _ _ h (by simp),Nat.le_refl _,Iff.rfl,fun _=>⟨rfl,rfl⟩⟩
  · rintro x _ ⟨L,h⟩; exact ⟨⟨L,ge _ _ h (by simp)⟩,rfl⟩
 have h1:Post P Prot Imm w β H Imm w β (H.set b .dead) :=
  Post.set hr hb (fun _ _=>⟨rfl,rfl⟩) (fun _ x=>x) (fun _ x=>.inl x) hr.imm (Nat.le_refl _) (fun _ _ _=>rfl) (fun h=>h.elim) hst trivial trivial (fun _ _ _ _=>trivial) (fun L hL=>by rw [ho] at hL; cases hL; exact (hlo L rfl).elim)
 have hx:=hr.live_lt ho hl
 have h2:=h1.rel.prot_add hx (fun x o1 hx1 hl1 he=>by
  have hne:o1 ≠ .dead:=fun e=>by rw [e] at hl1; exact hl1
  have hxb:x = b:=hr.inj x b o1 o (ge _ _ hx1 hne) ho hl1 hl (fun hi=>hm.1 (he ▸ hi)) he
  subst hxb
  rw [List.getElem?_set_self hb] at hx1; cases hx1; exact hl1)
 have h3:=h2.shut (w':=w') (Prot0:=Prot) (fun _ h=>.inl h) (R:=fun k=>k = β.blk b) (fun x e=>⟨.inr e,e ▸ hm.1⟩) hsz (fun k hk=>hs k hk)
 refine ⟨fun _ h=>h,fun _ h=>.inl h,⟨by omega,fun k hk=>hs k (fun e=>?_),hio⟩,hst,h3,h1.inn,h1.loop⟩
 rcases hk with hk | hk
 · exact hm.2 (e ▸ hk)
 · exact hm.1 (e ▸ hk)
theorem bytes_row:∀ {es:List AV} {l:List Nat} {css:List (List Value)},bytesOf es = some l → Row P w Imm β H 1 es css → css.flatten = l.map (fun c=>Value.int .u8 (c:Nat)) ∧ l.length = es.length ∧ ∀ c ∈ l,c < 256
 | [],l,css,h,hr=>by
  simp [bytesOf] at h; subst h
  rw [Row_nil] at hr; subst hr; simp
 | v :: es,l,css,h,hr=>by
  unfold bytesOf at h
  split at h
  · rename_i e; cases e
  · rename_i c r e
    simp at e
    obtain ⟨rfl,rfl⟩:=e
    split at h
    case isFalse=>simp at h
    rename_i hc
    split at h
    case h_2=>simp at h
    rename_i l' hl'
    simp at h; subst h
    rw [Row_cons] at hr
    obtain ⟨cc,cs,rfl,h1,h2,h3⟩:=hr
    obtain ⟨i1,i2,i3⟩:=bytes_row hl' h3
    simp only [AVC,PVC] at h1
    subst h1
    refine ⟨by simp [i1]; omega,by simp [i2],?_⟩
    intro x hx
    rcases List.mem_cons.1 hx with rfl | hx
    · omega
    · exact i3 x hx
  · simp at h
theorem op_convBytes {S D e : TypeId} {x : Operand} {b ver off len : Nat} {k : AK} {es : List AV} {l : List Nat} (hop : o.op = .convert S D x) (hS : P.underlying S = some (.slice e)) (hD : P.underlying D = some .string) (hE : P.underlying e = some (.int .u8)) (hx : ρ x = .sl b ver 1 off len)
    (h0:0 < len) (hle:off + len ≤ es.length) (hl:bytesOf ((es.drop off).take len) = some l):EffSound P o ρ base { v:=.p (.str l),hin:=[(b,.arr k ver 1 es)] }:=by
 refine EffSound.same fun H w Imm Prot β ρc hr hρ hin=>?_
 have hob:H[b]? = some (.arr k ver 1 es):=by simpa using hin
 have h1:=(hρ x (by simp [hop,Op.operands])).1
 rw [hx] at h1
 simp only [AVV,RefV,RefC] at h1
 have hnn:¬ isNilArr k es:=fun h=>by rw [h.2] at hle; simp at hle; omega
 have h1:=(h1.2 _ _ hob).2.2 hnn
 rcases hr.objs b _ hob with hold | ⟨cs,T',css,rest,k1,k2,k3,k4,k5,k6,k7,k8⟩
 · exact (hnn hold).elim
 obtain ⟨a,m,z,g1,g2,g3,g4,g5⟩:=Row_seg k2 off len hle
 obtain ⟨b1,b2,b3⟩:=bytes_row hl g2
 have hll:l.length = len:=by rw [b2]; simp; omega
 have hcells:cs.toList = a.flatten ++ (l.map (fun c=>Value.int .u8 (c:Nat)) ++ (z.flatten ++ rest)):=by
  rw [k3,g1]; simp only [List.flatten_append,List.append_assoc,b1]
 have hrun:=run_convert_bytes_arg (P:=P) w S e hS hE (β.blk b) (off * 1) len (β.cap b - off) (l.map fun c:Nat=>(c:Int)) (by simpa using hll) (fun i hi=>by
  have hil:i < l.length:=by omega
  have:cs[off * 1 + i]? = some (.int .u8 (l[i]:Nat)):=by
   rw [← Array.getElem?_toList,hcells,List.getElem?_append_right (by omega),g3,Nat.add_sub_cancel_left,List.getElem?_append_left (by simpa using hil),List.getElem?_map,List.getElem?_eq_getElem hil]; rfl
  rw [List.getD_eq_getElem?_getD,List.getElem?_map,List.getElem?_eq_getElem hil]
  simp only [World.cell?,k1]
  simpa using this) D hD
 refine ⟨.string (strOfNums (l.map fun c:Nat=>(c:Int))),?_,?_,by simp [refsLt]⟩
 · simp only [execOp,hop,h1]
   exact exec_value hrun
 · simp only [AVV,PVV]
   refine ⟨_,rfl,?_⟩
   rw [strOfNums_data,List.map_map,List.map_map]
   conv=>lhs; rw [← List.map_id l]
   refine List.map_congr_left fun c hc=>?_
   have:=b3 c hc
   simp [UInt8.toNat_ofNat']; omega
theorem op_unsafeString {c : Call} {x y : Operand} {b ver n : Nat} {es : List AV} {l : List Nat} {T X : TypeId} (hop : o.op = .call c) (hc : c.callee = .builtin .unsafeString) (ha : c.args.toList = [x, y]) (hts : c.argTypes = #[T, X]) (hx : ρ x = .eptr b ver 1 0 []) (hy : ρ y = .p (.int .i64 n))
    (h0:0 < n) (hle:n ≤ es.length) (h63:n ≤ 9223372036854775807) (hT:P.underlying T = some (.pointer Gl.u8)) (hu:P.cellsOf Gl.u8 = 1) (hl:bytesOf (es.take n) = some l) :
    EffSound P o ρ base { v:=.p (.str l),hin:=[(b,.arr .bytes ver 1 es)],hset:=[(b,.dead)] }:=by
 have hargs:c.args = #[x,y]:=by apply Array.ext'; simpa using ha
 have hmem:x ∈ o.op.operands ∧ y ∈ o.op.operands:=by
  rw [hop]; simp [Op.operands,Call.operands,hc,hargs]
 intro H w Imm Prot β ρc hr hρ hin _
 have hob:H[b]? = some (.arr .bytes ver 1 es):=by simpa using hin
 have h1:=(hρ x hmem.1).1
 have h2:=(hρ y hmem.2).1
 rw [hx] at h1; rw [hy] at h2
 simp only [AVV,RefV,RefC,PVV] at h1 h2
 have hnn:¬ isNilArr .bytes es:=fun h=>by rw [h.2] at hle; simp at hle; omega
 obtain ⟨_,blk,off,oo,hp,ho,h1⟩:=h1
 simp [pathOff] at ho
 subst ho
 obtain ⟨rfl,rfl⟩:=h1 _ _ hob hnn
 rcases hr.objs b _ hob with hold | ⟨cs,T',css,rest,k1,k2,k3,k4,k5,k6,k7,k8⟩
 · exact (hnn hold).elim
 obtain rfl:=k8.2 rfl
 have hheld:¬ Imm (β.blk b) ∧ ¬ Prot (β.blk b):=by
  unfold Held at k7; rw [if_neg (by simp)] at k7; exact k7
 obtain ⟨a,m,z,g1,g2,g3,g4,g5⟩:=Row_seg k2 0 n (by omega)
 have ha0:a = []:=by have:=(Row_length g4).1; simpa using this
 subst ha0
 rw [List.drop_zero] at g2
 obtain ⟨b1,b2,b3⟩:=bytes_row hl g2
 obtain ⟨bs,hbs⟩:∃ bs:List UInt8,bs = l.map UInt8.ofNat:=⟨_,rfl⟩
 have hbl:bs.length = n:=by rw [hbs]; simp [b2]; omega
 have hbn:bs.map (·.toNat) = l:=by
  rw [hbs,List.map_map]
  conv=>rhs; rw [← List.map_id l]
  refine List.map_congr_left fun c hc=>?_
  have:=b3 c hc
  simp [UInt8.toNat_ofNat']; omega
 have hcells:cs.toList = bs.map (fun c=>Value.int .u8 c.toNat) ++ (z.flatten ++ rest):=by
  rw [k3,g1]; simp only [List.nil_append,List.flatten_append,List.append_assoc,b1]
  congr 1
  rw [← hbn,List.map_map]; rfl
 have hrun := Lib.run_unsafeString_row (P := P) w T X o.type Gl.u8 hT hu (β.blk b) cs.size (by simp [World.shape?, k1]) bs (fun h => by rw [h] at hbl; simp at hbl; omega) (by
     have:=congrArg List.length hcells; simp only [Array.length_toList,List.length_append,List.length_map] at this; omega) (by omega) (fun j v hj=>by
     have hj':j < bs.length:=(List.getElem?_eq_some_iff.1 hj).1
     rw [add_off]
     have:cs[j]? = some (.int .u8 v.toNat):=by
      rw [← Array.getElem?_toList,hcells,List.getElem?_append_left (by simpa using hj'),List.getElem?_map,hj]; rfl
     simp [World.cell?,k1,this])
 have hexec:(execOp ρc o).run P w = .ok (.value (.string ⟨bs.toArray⟩)) (w.freeze ⟨β.blk b,0,none⟩ bs.length):=by
  simp only [execOp,hop,resolve,hc,hargs]
  simp only [Sem.run_bind,Sem.run_pure,Result.andThen_ok,invoke,builtin,List.map_toArray,List.map_cons,List.map_nil]
  have key:(Builtin.unsafeString_ c.argTypes o.type #[ρc x,ρc y]).run P w = .ok (.string ⟨bs.toArray⟩) (w.freeze ⟨β.blk b,0,none⟩ bs.length):=by
   rw [hts,hp,h2,← hbl]
   simpa using hrun
  rw [key]; rfl
 have hfz:∀ k,k ≠ β.blk b → (w.freeze ⟨β.blk b,0,none⟩ bs.length).heap[k]? = w.heap[k]?:=by
  intro k hk
  unfold World.freeze
  split
  · rfl
  · simp [Array.getElem?_modify,Ne.symm hk]
 have hfs:(w.freeze ⟨β.blk b,0,none⟩ bs.length).heap.size = w.heap.size:=by
  unfold World.freeze
  split <;> simp
 have hpost:=kill_post hr hob hnn hheld (fun _ h=>by cases h) hfs hfz (freeze_io _ _ _)
 refine ⟨_,_,_,β,Imm,hexec,.inl rfl,?_,?_,by simp [refsLt]⟩
 · simpa only [newAt,List.append_nil,setAll] using hpost
 · simp only [AVV,PVV]
   exact ⟨_,rfl,by simpa using hbn.symm⟩
theorem op_unsafeString_none {c : Call} {x y : Operand} {T X : TypeId} (hop : o.op = .call c) (hc : c.callee = .builtin .unsafeString) (ha : c.args.toList = [x, y]) (hts : c.argTypes = #[T, X]) (hx : ρ x = .p .nptr) (hy : ρ y = .p (.int .i64 0)) :
    EffSound P o ρ base { v:=.p (.str []) }:=by
 have hargs:c.args = #[x,y]:=by apply Array.ext'; simpa using ha
 have hmem:x ∈ o.op.operands ∧ y ∈ o.op.operands:=by
  rw [hop]; simp [Op.operands,Call.operands,hc,hargs]
 refine EffSound.same fun H w Imm Prot β ρc hr hρ hin=>?_
 have h1:=(hρ x hmem.1).1
 have h2:=(hρ y hmem.2).1
 rw [hx] at h1; rw [hy] at h2
 simp only [AVV,PVV] at h1 h2
 refine ⟨.string .empty,?_,by simp only [AVV,PVV]; exact ⟨_,rfl,rfl⟩,by simp [refsLt]⟩
 simp only [execOp,hop,resolve,hc,hargs]
 simp only [Sem.run_bind,Sem.run_pure,Result.andThen_ok,invoke,builtin,List.map_toArray,List.map_cons,List.map_nil]
 have key:(Builtin.unsafeString_ c.argTypes o.type #[ρc x,ρc y]).run P w = .ok (.string .empty) w:=by
  rw [hts,h1,h2]
  exact Lib.run_unsafeString_none w _ _ _ _
 rw [key]; rfl
end
end Go.Abs
namespace Go.Abs
set_option linter.unusedSectionVars false
variable [Gl]
section
variable {P:Program}
theorem one_of {c:Call} {ρ:Operand → AV} {x:AV} (ha:c.args.toList.map ρ = [x]):∃ y,c.args.toList = [y] ∧ ρ y = x:=by
 match hh:c.args.toList with
 | []=>rw [hh] at ha; simp at ha
 | [y]=>rw [hh] at ha; simp at ha; exact ⟨y,rfl,ha⟩
 | _ :: _ :: _=>rw [hh] at ha; simp at ha
theorem two_types {c:Call} (h:c.argTypes.size = 2):∃ T X,c.argTypes = #[T,X]:=by
 obtain ⟨l,hl⟩:∃ l,l = c.argTypes.toList:=⟨_,rfl⟩
 have h2:l.length = 2:=by rw [hl]; simpa using h
 match l,h2 with
 | [a,b],_=>exact ⟨a,b,by apply Array.ext'; simp [← hl]⟩
theorem ops_are_sound (frz:FuncId → Bool):OpsSound P frz:=by
 intro o ρ H K _ h
 unfold opEff at h
 have plain:∀ {e:Eff},K e → EffSound P o ρ H.length e → e.hin = [] → e.hset = [] → ∃ e,K e ∧ EffSound P o ρ H.length e ∧ (∀ p ∈ e.hin,H[p.1]? = some p.2) ∧ (∀ p ∈ e.hset,p.1 < H.length ∧ p.2 ≠ .hole):=by
  intro e h1 h2 h3 h4
  exact ⟨e,h1,h2,by simp [h3],by simp [h4]⟩
 cases hop:o.op <;> simp only [hop] at h
 case move x=>exact plain h (op_id (.inl hop)) rfl rfl
 case assign x=>exact plain h (op_id (.inr hop)) rfl rfl
 case pick c a b =>
  split at h
  · rename_i t hc; exact plain h (op_pick hop hc) rfl rfl
  · exact h.elim
 case alloc T =>
  split at h
  · rename_i z hz; exact plain h.2.2.2 (op_alloc hop hz h.2.2.1) rfl rfl
  · exact h.elim
 case box T x=>exact plain h.2.2.2 (op_box hop h.2.1 h.2.2.1) rfl rfl
 case build T parts =>
  split at h
  · rename_i u z hk hz
    split at h
    · rename_i l hl
      obtain ⟨h1,h2,h3⟩:=h
      exact plain h3 (op_build hop hk hz hl h1 h2) rfl rfl
    · exact h.elim
  · exact h.elim
 case buildSlice T n parts =>
  split at h
  · rename_i sz z hE hz
    obtain ⟨h1,h2,h3,h4⟩:=h
    exact plain h4 (op_buildSlice hop hE hz h1 h2 h3) rfl rfl
  · exact h.elim
 case load T a=>exact op_load hop h
 case store T a x=>exact op_store hop h
 case binOp b T x y T' =>
  obtain ⟨v,h1,h2⟩:=op_bin (base:=H.length) hop h
  exact ⟨_,h1,h2,readsOf_in,by simp⟩
 case unOp u T x =>
  split at h
  · rename_i b hx; exact plain h (op_un hop hx (.inl ⟨rfl,_,rfl,rfl⟩)) rfl rfl
  · rename_i k n hx; exact plain h (op_un hop hx (.inr (.inl ⟨rfl,_,_,rfl,rfl⟩))) rfl rfl
  · rename_i k n hx; exact plain h (op_un hop hx (.inr (.inr ⟨rfl,_,_,rfl,rfl⟩))) rfl rfl
  · exact h.elim
 case convert S D x =>
  split at h
  · rename_i d k k0 n hS hD hx; exact plain h (op_convInt hop ⟨_,hS⟩ hD hx) rfl rfl
  · rename_i d s hS hD hx; exact plain h (op_convStr hop ⟨_,hS⟩ hD hx) rfl rfl
  · rename_i e b ver esz off len hS hD hx
    split at h
    case h_2=>exact h.elim
    rename_i k ver' esz' es hob
    obtain ⟨rfl,rfl,rfl,hE,h0,hle,h⟩:=h
    split at h
    case h_2=>exact h.elim
    rename_i l hl
    exact ⟨_,h,op_convBytes hop hS hD hE hx h0 hle hl,by simpa using hob,by simp⟩
  · exact h.elim
 case extract t i =>
  split at h
  · rename_i vs ht
    split at h
    · rename_i v hv; exact plain h (op_extract hop (.inr ⟨_,ht,rfl⟩) (by simp [hv])) rfl rfl
    · exact h.elim
  · rename_i vs ht
    split at h
    · rename_i v hv; exact plain h (op_extract hop (.inl ht) hv) rfl rfl
    · exact h.elim
  · exact h.elim
 case fieldAddr T a f =>
  obtain ⟨e,h1,h2,h3,h4⟩:=op_fieldAddr (base:=H.length) hop h
  exact plain h1 h2 h3 h4
 case indexAddr T x i =>
  obtain ⟨e,h1,h2,h3,h4⟩:=op_indexAddr (base:=H.length) hop h
  exact ⟨e,h1,h2,h3,by simp [h4]⟩
 case field T x f =>
  split at h
  · rename_i u fs t hk hu hx
    obtain ⟨h1,h⟩:=h
    split at h
    · rename_i g F hg hF
      exact plain h.2 (op_field hop hk hu hx h1 hg hF h.1) rfl rfl
    · exact h.elim
  · exact h.elim
 case index T x i =>
  split at h
  · rename_i s k n hx hi
    obtain ⟨h1,h2,h3,h4⟩:=h
    exact plain h4 (op_indexStr hop hx hi h1 h2 h3) rfl rfl
  · exact h.elim
 case makeFunc fn fi ca =>
  cases fn <;> simp only at h
  case func f =>
   obtain ⟨m1,m2,m3⟩:=op_makeFunc (ρ:=ρ) (base:=H.length) hop
   split at h
   · split at h
     · rename_i a b hin hset ha hb
       obtain ⟨q1,q2,q3⟩:=m3 H a b hin hset ha hb
       exact ⟨_,h,q1,q2,q3⟩
     · exact h.elim
   · split at h
     · rename_i a b ha hb
       exact plain h (m1 a b ha hb) rfl rfl
     · exact plain h m2 rfl rfl
 case makeSlice T l c =>
  split at h
  · rename_i sz z l' c' hE hz hl hc
    obtain ⟨h1,h2,rfl,h4,h5⟩:=h
    exact plain h5 (op_makeSlice hop hE hz hl hc h1 h2 h4) rfl rfl
  · exact h.elim
 case slice T x lo hi mx =>
  cases mx with
  | none =>
   obtain ⟨e,h1,h2,h3,h4⟩:=op_slice (base:=H.length) hop h
   exact ⟨e,h1,h2,h3,by simp [h4]⟩
  | some m =>
   obtain ⟨e,h1,h2,h3,h4⟩:=op_sliceM (base:=H.length) hop h
   exact ⟨e,h1,h2,h3,by simp [h4]⟩
 case makeMap T r =>
  cases r <;> simp only at h
  exact plain h (op_makeMap hop) rfl rfl
 case lookup T x i ok =>
  split at h
  case h_2=>exact h.elim
  rename_i KT E key hT hi
  split at h
  case h_2=>exact h.elim
  rename_i z hz
  obtain ⟨hk,h⟩:=h
  split at h
  · rename_i hx
    exact plain h (op_lookup (r:=none) (es:=[]) hop hT hz hi hk rfl (.inl ⟨hx,rfl⟩)) rfl rfl
  · rename_i es hx
    split at h
    · rename_i v hl; exact plain h (op_lookup (r:=some v) hop hT hz hi hk hl (.inr (.inl hx))) rfl rfl
    · rename_i hl; exact plain h (op_lookup (r:=none) hop hT hz hi hk hl (.inr (.inl hx))) rfl rfl
    · exact h.elim
  · rename_i b hx
    split at h
    case h_2=>exact h.elim
    rename_i fz es hob
    split at h
    · rename_i v hl
      exact ⟨_,h,op_lookup (r:=some v) hop hT hz hi hk hl (.inr (.inr ⟨b,fz,hx,by simp⟩)),by simpa using hob,by simp⟩
    · rename_i hl
      exact ⟨_,h,op_lookup (r:=none) hop hT hz hi hk hl (.inr (.inr ⟨b,fz,hx,by simp⟩)),by simpa using hob,by simp⟩
    · exact h.elim
  · exact h.elim
 case mapUpdate T m k x =>
  split at h
  case h_2=>exact h.elim
  rename_i KT E b key v hT hm hk hx
  obtain ⟨hf,h⟩:=h
  split at h
  case h_2=>exact h.elim
  rename_i es hob
  split at h
  case h_2=>exact h.elim
  rename_i r hl
  exact ⟨_,h,op_mapUpdate (.inl hop) hT hm hk hx hf hl,by simpa using hob,by simpa using (List.getElem?_eq_some_iff.1 hob).1⟩
 case insert T m k x =>
  split at h
  case h_2=>exact h.elim
  rename_i KT E b key v hT hm hk hx
  obtain ⟨hf,h⟩:=h
  split at h
  case h_2=>exact h.elim
  rename_i es hob
  split at h
  case h_2=>exact h.elim
  rename_i r hl
  exact ⟨_,h,op_mapUpdate (.inr hop) hT hm hk hx hf hl,by simpa using hob,by simpa using (List.getElem?_eq_some_iff.1 hob).1⟩
 case range T x =>
  split at h
  · rename_i s hx
    exact plain h.2 (op_range hop hx h.1) rfl rfl
  · exact h.elim
 case next it isStr =>
  cases isStr <;> simp only at h
  split at h
  case h_2=>exact h.elim
  rename_i b hx
  split at h
  case h_2=>exact h.elim
  rename_i s pos hob
  obtain ⟨n1,n2⟩:=op_next (P:=P) (base:=H.length) (s:=s) (pos:=pos) hop hx
  split at h
  · rename_i hp
    exact ⟨_,h,n1 hp,by simpa using hob,by simpa using (List.getElem?_eq_some_iff.1 hob).1⟩
  · rename_i hp
    exact ⟨_,h,n2 hp,by simpa using hob,by simp⟩
 case nilCheck x =>
  split at h
  · rename_i b p hx; exact plain h (op_nilCheck hop (.inl ⟨b,p,hx⟩)) rfl rfl
  · rename_i b v e i p hx; exact plain h (op_nilCheck hop (.inr (.inl ⟨b,v,e,i,p,hx⟩))) rfl rfl
  · rename_i t hx; exact plain h (op_nilCheck hop (.inr (.inr ⟨t,hx⟩))) rfl rfl
  · exact h.elim
 case call c =>
  split at h
  case h_2=>exact h.elim
  rename_i b hc
  split at h
  · rename_i x ha
    split at h
    case h_2=>exact h.elim
    rename_i n hin hl
    obtain ⟨h1,h2,h3⟩:=h
    obtain ⟨y,hy,rfl⟩:∃ y,c.args.toList = [y] ∧ ρ y = x:=by
     match hh:c.args.toList with
     | []=>rw [hh] at ha; simp at ha
     | [y]=>rw [hh] at ha; simp at ha; exact ⟨y,rfl,ha⟩
     | _ :: _ :: _=>rw [hh] at ha; simp at ha
    obtain ⟨q1,q2⟩:=op_len (P:=P) (base:=H.length) hop hc hy hl h1 h2
    exact ⟨_,h3,q1,q2,by simp⟩
  · rename_i s x ha
    obtain ⟨y,z,hy,rfl,rfl⟩:∃ y z,c.args.toList = [y,z] ∧ ρ y = s ∧ ρ z = x:=by
     match hh:c.args.toList with
     | []=>rw [hh] at ha; simp at ha
     | [y]=>rw [hh] at ha; simp at ha
     | [y,z]=>rw [hh] at ha; simp at ha; exact ⟨y,z,rfl,ha.1,ha.2⟩
     | _ :: _ :: _ :: _=>rw [hh] at ha; simp at ha
    exact op_append hop hc hy h.1 h.2
  · rename_i k a r ha
    split at h
    · rename_i n hn; exact plain h (op_minmax (isMax:=false) hop hc ha hn) rfl rfl
    · exact h.elim
  · rename_i k a r ha
    split at h
    · rename_i n hn; exact plain h (op_minmax (isMax:=true) hop hc ha hn) rfl rfl
    · exact h.elim
  · rename_i d x ha
    obtain ⟨y,z,hy,hd,rfl⟩:∃ y z,c.args.toList = [y,z] ∧ ρ y = d ∧ ρ z = x:=by
     match hh:c.args.toList with
     | []=>rw [hh] at ha; simp at ha
     | [y]=>rw [hh] at ha; simp at ha
     | [y,z]=>rw [hh] at ha; simp at ha; exact ⟨y,z,rfl,ha.1,ha.2⟩
     | _ :: _ :: _ :: _=>rw [hh] at ha; simp at ha
    split at h
    case h_2=>exact h.elim
    rename_i sz b ver esz off len xs hE hx
    obtain ⟨rfl,h1,h2,h⟩:=h
    split at h
    case h_2=>exact h.elim
    rename_i k ver' esz' es hob
    obtain ⟨rfl,rfl,h3,h4,h5,h6⟩:=h
    refine ⟨_,h6,op_copy hop hc hy h2 hE hd hx h1 h3 h4 h5,?_,by simpa using (List.getElem?_eq_some_iff.1 hob).1⟩
    intro p hp
    rcases List.mem_cons.1 hp with rfl | hp
    · exact hob
    · exact readsOf_in p hp
  · rename_i x ha
    obtain ⟨y,hy,rfl⟩:=one_of ha
    split at h
    case h_2=>exact h.elim
    rename_i n hin hl
    obtain ⟨h1,h2,h3⟩:=h
    obtain ⟨q1,q2⟩:=op_cap (P:=P) (base:=H.length) hop hc hy hl h1 h2
    exact ⟨_,h3,q1,q2,by simp⟩
  · rename_i x ha
    obtain ⟨y,hy,hyx⟩:=one_of ha
    split at h
    · rw [← hyx] at h
      exact plain h.2.2 (op_clear_none hop hc hy hyx h.1 h.2.1) rfl rfl
    · split at h
      · rename_i b ver esz off len sz z k ver' esz' es hE hz hob
        obtain ⟨rfl,rfl,rfl,h1,h2,h3,h4,h5,h6,h7⟩:=h
        exact ⟨_,h7,op_clear hop hc hy h5 hE hz h1 hyx h2 h3 h4 h6,by simpa using hob,by simpa using (List.getElem?_eq_some_iff.1 hob).1⟩
      · exact h.elim
    · exact h.elim
  · rename_i x ha
    obtain ⟨y,hy,hyx⟩:=one_of ha
    split at h
    · exact plain h (op_sliceData (H0:=H) hop hc hy (.inl ⟨hyx,rfl,rfl⟩)) rfl rfl
    · split at h
      · rename_i b ver esz off len k ver' esz' es hob
        obtain ⟨rfl,rfl,h⟩:=h
        rcases h with ⟨h1,h2,h3⟩ | ⟨h1,h2,h3⟩
        · exact ⟨_,h3,op_sliceData hop hc hy (.inr ⟨_,_,_,_,_,_,_,hyx,hob,rfl,.inl ⟨⟨h1,h2⟩,rfl⟩⟩),by simpa using hob,by simp⟩
        · exact ⟨_,h3,op_sliceData hop hc hy (.inr ⟨_,_,_,_,_,_,_,hyx,hob,rfl,.inr ⟨h1,h2,rfl⟩⟩),by simpa using hob,by simp⟩
      · exact h.elim
    · exact h.elim
  · rename_i x n ha
    obtain ⟨y,z,hy,hyx,hzn⟩:∃ y z,c.args.toList = [y,z] ∧ ρ y = x ∧ ρ z = .p (.int .i64 n):=by
     match hh:c.args.toList with
     | []=>rw [hh] at ha; simp at ha
     | [y]=>rw [hh] at ha; simp at ha
     | [y,z]=>rw [hh] at ha; simp at ha; exact ⟨y,z,rfl,ha.1,ha.2⟩
     | _ :: _ :: _ :: _=>rw [hh] at ha; simp at ha
    split at h
    · obtain ⟨rfl,h1,h2⟩:=h
      obtain ⟨T,X,hTX⟩:=two_types h1
      exact plain h2 (op_unsafeString_none hop hc hy hTX hyx hzn) rfl rfl
    · split at h
      · rename_i b ver esz i ver' esz' es hob
        obtain ⟨rfl,rfl,rfl,rfl,h1,h2,h3,h4,h5,h6,h⟩:=h
        obtain ⟨T,X,hTX⟩:=two_types h4
        split at h
        · rename_i l hl
          obtain ⟨m,rfl⟩:=Int.eq_ofNat_of_zero_le (by omega:0 ≤ n)
          simp only [Int.toNat_natCast] at h2 hl
          have hT:P.underlying T = some (.pointer Gl.u8):=by
           rw [hTX] at h5
           simp only [ptrTo] at h5
           split at h5
           · rename_i e he; simp at h5; rw [← h5]; exact he
           · simp at h5
          exact ⟨_,h,op_unsafeString hop hc hy hTX hyx hzn (by omega) h2 (by omega) hT h6 hl,by simpa using hob,by simpa using (List.getElem?_eq_some_iff.1 hob).1⟩
        · exact h.elim
      · exact h.elim
    · exact h.elim
  · exact h.elim
end
end Go.Abs
namespace Go.Abs
set_option linter.unusedSectionVars false
variable [Gl]
section
variable {P:Program} {frz:FuncId → Bool} {n:Nat}
theorem frzOf_frz {o o':Obj} (h:frzOf o = some o'):frzOf o' = some o':=by
 unfold frzOf at h
 split at h
 · simp at h; subst h; rfl
 · rename_i k ver esz es
   split at h
   · simp at h
   · split at h
     · rename_i l hl; simp at h; subst h; simp [frzOf,AK.gr,hl]
     · simp at h
 · simp at h; subst h; rfl
 · simp at h
theorem frz_one {w : World} {Imm Prot : Nat → Prop} {β : Bd} {H : Heap} (hr : HRel P w Imm β H Prot) {b : Nat} {o o' : Obj} (ho : H[b]? = some o) (hf : frzOf o = some o') :
    ∃ Imm',Post P Prot Imm w β H Imm' w β (H.set b o') ∧ Imm' (β.blk b):=by
 unfold frzOf at hf
 split at hf
 · rename_i fz t
   simp at hf; subst hf
   obtain ⟨cs,T,h1,h2,h3,h4⟩:=hr.objs b _ ho
   have hst:HStep β H β (H.set b (.box true (.p t))):=freeze_step ho (.inl ⟨_,_,_,rfl,rfl⟩)
   exact freeze_post hr ho trivial (o':=.box true (.p t)) trivial (fun _ h=>h) (fun _ h=>by cases h) hst h3.imm_or
    (fun Imm' hi hb=>⟨cs,T,h1,AVC.mono hi (fun _ _=>rfl) hst _ _ (by simp [refsLt]) h2,hb,fun _=>trivial,h4.2⟩) (by simp [Obj.refs,refsLt])
 · rename_i k ver esz es
   split at hf
   · simp at hf
   · rename_i hn
     split at hf
     case h_2=>simp at hf
     rename_i ps hps
     simp at hf; subst hf
     have hes:=allP_eq hps
     rcases hr.objs b _ ho with hold | ⟨cs,T,css,rest,h1,h2,h3,h4,h5,h6,h7,h8⟩
     · exact (hn hold).elim
     have hnf:¬ isNilArr .frozen es:=fun h=>by cases h.1
     have hst:HStep β H β (H.set b (.arr .frozen ver esz es)):=freeze_step ho (.inr (.inl ⟨_,_,_,_,_,rfl,rfl,hn,hnf⟩))
     exact freeze_post hr ho hn (o':=.arr .frozen ver esz es) hnf (fun _ h=>h) (fun _ h=>by cases h) hst h7.imm_or
      (fun Imm' hi hb=>.inr ⟨cs,T,css,rest,h1,AVCl.mono hi (fun _ _=>rfl) hst _ _ _ (hr.refs b _ ho) h2,h3,h4,h5,(fun h=>by cases h),hb,fun _ e he=>(by rw [hes] at he; simp at he; obtain ⟨a,_,rfl⟩:=he; trivial),fun h=>by cases h⟩)
      (by rw [hes]; exact refsLtl_map _ _)
 · rename_i fz es
   simp at hf; subst hf
   obtain ⟨ents,clock,h1,h2,h3⟩:=hr.objs b _ ho
   have hst:HStep β H β (H.set b (.map true es)):=freeze_step ho (.inr (.inr ⟨_,_,_,rfl,rfl⟩))
   exact freeze_post hr ho trivial (o':=.map true es) trivial (fun _ h=>h) (fun _ h=>by cases h) hst h3.imm_or
    (fun Imm' hi hb=>⟨ents,clock,h1,PVM.mono hi (fun _ _=>rfl) _ _ h2,hb⟩) trivial
 · simp at hf
theorem frzAll_post {w : World} {Prot : Nat → Prop} {β : Bd} {H0 : Heap} : ∀ (bs : List Nat) {hin hset : List (Nat × Obj)} {H : Heap} {Imm : Nat → Prop}, frzAll H0 bs = some (hin, hset) → HRel P w Imm β H Prot →
    (∀ p ∈ hin,∃ o1,H[p.1]? = some o1 ∧ frzOf o1 = frzOf p.2) → ∃ Imm',Post P Prot Imm w β H Imm' w β (setAll H hset) ∧ ∀ b ∈ bs,Imm' (β.blk b)
 | [],hin,hset,H,Imm,h,hr,_=>by
  simp [frzAll] at h
  obtain ⟨rfl,rfl⟩:=h
  exact ⟨Imm,Post.refl hr,by simp⟩
 | b :: bs,hin,hset,H,Imm,h,hr,hc=>by
  simp only [frzAll] at h
  split at h
  case h_2=>simp at h
  rename_i o hin' hset' hob h'
  split at h
  case h_2=>simp at h
  rename_i o' hf
  simp at h
  obtain ⟨rfl,rfl⟩:=h
  obtain ⟨o1,g1,g2⟩:=hc (b,o) (by simp)
  simp only at g1 g2
  rw [hf] at g2
  obtain ⟨Imm1,p1,p2⟩:=frz_one hr g1 g2
  have hbl:b < H.length:=(List.getElem?_eq_some_iff.1 g1).1
  obtain ⟨Imm2,q1,q2⟩:=frzAll_post bs h' p1.rel (by
   intro p hp
   obtain ⟨o2,k1,k2⟩:=hc p (by simp [hp])
   by_cases hpb:b = p.1
   · rw [← hpb] at k1 ⊢
     rw [g1] at k1; cases k1
     refine ⟨o',by rw [List.getElem?_set_self hbl],?_⟩
     rw [← k2,g2,frzOf_frz g2]
   · exact ⟨o2,by rw [List.getElem?_set_ne hpb]; exact k1,k2⟩)
  refine ⟨Imm2,by simpa only [setAll] using p1.trans q1,?_⟩
  intro x hx
  rcases List.mem_cons.1 hx with rfl | hx
  · exact q1.imm _ p2
  · exact q2 x hx
theorem frzAll_in {H0:Heap}:∀ (bs:List Nat) {hin hset:List (Nat × Obj)},frzAll H0 bs = some (hin,hset) → (∀ p ∈ hin,H0[p.1]? = some p.2) ∧ (∀ p ∈ hset,p.1 < H0.length ∧ p.2 ≠ .hole) ∧ hin.map (·.1) = bs
 | [],hin,hset,h=>by
  simp [frzAll] at h
  obtain ⟨rfl,rfl⟩:=h
  simp
 | b :: bs,hin,hset,h=>by
  simp only [frzAll] at h
  split at h
  case h_2=>simp at h
  rename_i o hin' hset' hob h'
  split at h
  case h_2=>simp at h
  rename_i o' hf
  simp at h
  obtain ⟨rfl,rfl⟩:=h
  obtain ⟨i1,i2,i3⟩:=frzAll_in bs h'
  refine ⟨?_,?_,by simp [i3]⟩
  · intro p hp
    rcases List.mem_cons.1 hp with rfl | hp
    · exact hob
    · exact i1 p hp
  · intro p hp
    rcases List.mem_cons.1 hp with rfl | hp
    · refine ⟨(List.getElem?_eq_some_iff.1 hob).1,fun he=>?_⟩
      simp only at he
      have:=frzOf_frz hf
      rw [he] at this; simp [frzOf] at this
    · exact i2 p hp
theorem purE_val {w : World} {Imm Imm' Prot : Nat → Prop} {β : Bd} {H0 H : Heap} {a : AV} {pv : PV} {bs : List Nat} {v : Value} (hp : purE H0 a = some (pv, bs)) (hin : ∀ b ∈ bs, H[b]? = H0[b]?) (hr : HRel P w Imm β H Prot) (hv : AVV P w Imm β H a v)
    (hi:∀ k,Imm k → Imm' k) (hb:∀ b ∈ bs,Imm' (β.blk b)):PVV P w Imm' pv v:=by
 cases a with
 | p t =>
  simp [purE] at hp
  obtain ⟨rfl,rfl⟩:=hp
  simp only [AVV] at hv
  exact PVV.mono hi (fun _ _=>rfl) _ _ hv
 | sl b ver esz off len =>
  simp only [purE] at hp
  split at hp
  case h_2=>simp at hp
  rename_i k ver' esz' es hob
  split at hp
  case isFalse=>simp at hp
  rename_i hcond
  obtain ⟨rfl,rfl,hl⟩:=hcond
  split at hp
  · simp at hp
  · rename_i hn
    split at hp
    case h_2=>simp at hp
    rename_i ps hps
    simp at hp
    obtain ⟨rfl,rfl⟩:=hp
    have hes:=allP_eq hps
    have hob':H[b]? = some (.arr k ver esz es):=by rw [hin b (by simp)]; exact hob
    have hib:=hb b (by simp)
    simp only [AVV,RefV,RefC] at hv
    obtain ⟨v1,v2,v3⟩:=hv.2 k es hob'
    rcases hr.objs b _ hob' with hold | ⟨cs,T,css,rest,h1,h2,h3,h4,h5,h6,h7,h8⟩
    · exact (hn hold).elim
    rw [v3 hn]
    have hrow:Row P w Imm' β H esz es css:=AVCl.mono hi (fun _ _=>rfl) (HStep.refl _ _) _ _ _ (hr.refs b _ hob') h2
    obtain ⟨a,m,c,e1,e2,e3,e4,e5⟩:=Row_seg hrow off len v1
    rw [hes,drop_take_map,Row_map] at e2
    have hlen:((ps.drop off).take len).length = len:=by
     have:es.length = ps.length:=by rw [hes]; simp
     simp; omega
    simp only [PVV]
    refine ⟨β.blk b,off * esz,β.cap b - off,esz,m,e2,fun _=>hib,?_,?_,?_,none,.inl rfl,?_⟩
    · rw [← e3]
      exact cellsAt_of h1 (post:=c.flatten ++ rest) (by rw [h3,e1]; simp)
    · intro hf
      simp at hf
      rw [hlen,h6 hf.1]; omega
    · rw [hlen]; omega
    · rw [hlen]
 | ptr b path =>
  simp only [purE] at hp
  split at hp
  case h_2=>simp at hp
  rename_i fz t hob
  split at hp
  case h_2=>simp at hp
  rename_i s hs
  simp at hp
  obtain ⟨rfl,rfl⟩:=hp
  have hob':H[b]? = some (.box fz (.p t)):=by rw [hin b (by simp)]; exact hob
  have hib:=hb b (by simp)
  simp only [AVV,RefV,RefC] at hv
  obtain ⟨_,blk0,off0,o,rfl,ho,hv⟩:=hv
  obtain ⟨rfl,rfl⟩:=hv (.inl ⟨fz,_,hob'⟩)
  obtain ⟨cs,T,h1,h2,h3,h4⟩:=hr.objs b _ hob'
  have h2':PVC P w Imm' t cs.toList:=by simp only [AVC] at h2; exact PVC.mono hi (fun _ _=>rfl) _ _ h2
  obtain ⟨pre,xs,post,e1,e2,e3⟩:=PVC_path h2' hs ho
  simp only [PVV]
  refine ⟨β.blk b,off0,xs,e3,hib,?_,rfl⟩
  rw [← e2]; exact cellsAt_of h1 e1
 | map b =>
  simp only [purE] at hp
  split at hp
  case h_2=>simp at hp
  rename_i fz es hob
  simp at hp
  obtain ⟨rfl,rfl⟩:=hp
  have hob':H[b]? = some (.map fz es):=by rw [hin b (by simp)]; exact hob
  have hib:=hb b (by simp)
  simp only [AVV,RefV,RefC] at hv
  have hv:=hv.2.1 ⟨fz,es,hob'⟩
  obtain ⟨ents,clock,h1,h2,h3⟩:=hr.objs b _ hob'
  simp only [PVV]
  exact ⟨β.blk b,ents,clock,hib,h1,PVM.mono hi (fun _ _=>rfl) _ _ h2,hv⟩
 | eptr=>simp [purE] at hp
 | func=>simp [purE] at hp
 | st=>simp [purE] at hp
 | tup=>simp [purE] at hp
theorem purEL_val {w : World} {Imm Imm' Prot : Nat → Prop} {β : Bd} {H0 H : Heap} : ∀ {l : List AV} {vs : List PV} {bs : List Nat} {cvs : List Value}, purEL H0 l = some (vs, bs) → (∀ b ∈ bs, H[b]? = H0[b]?) → HRel P w Imm β H Prot → AVVl P w Imm β H l cvs →
    (∀ k,Imm k → Imm' k) → (∀ b ∈ bs,Imm' (β.blk b)) → PVVl P w Imm' vs cvs
 | [],vs,bs,cvs,h,_,_,hv,_,_=>by
  simp [purEL] at h
  obtain ⟨rfl,rfl⟩:=h
  simp only [AVVl] at hv
  simpa [PVVl] using hv
 | a :: l,vs,bs,cvs,h,hin,hr,hv,hi,hb=>by
  simp only [purEL] at h
  split at h
  case h_2=>simp at h
  rename_i v bs1 vs' bs2 h1 h2
  simp at h
  obtain ⟨rfl,rfl⟩:=h
  simp only [AVVl] at hv
  obtain ⟨y,ys,rfl,k1,k2⟩:=hv
  simp only [PVVl]
  exact ⟨y,ys,rfl,purE_val h1 (fun b hx=>hin b (by simp [hx])) hr k1 hi (fun b hx=>hb b (by simp [hx])),purEL_val h2 (fun b hx=>hin b (by simp [hx])) hr k2 hi (fun b hx=>hb b (by simp [hx]))⟩
def Act (P:Program) (n:Nat) (o:Oper) (s:St) (e:Eff):Prop :=
 ∀ (fr:Frame) (k:List Item) (cs:List Frame) (ops:Array Oper) (i:Nat) (r:List Nat) (ds:List Deferred) (Prot Imm:Nat → Prop) (β:Bd) (s':St) (t:Array Value) (w:World),
  ops[i]? = some o → Region.wanted o (yielded ops t) = true → dstOk n o = true → SRel P n Prot Imm β s' t w → (∀ x ∈ o.op.operands,ev s'.env x = ev s.env x) →
  (∀ p ∈ e.hin,s'.heap[p.1]? = some p.2) → (∀ j,j < e.hnew.length → s'.heap[s.heap.length + j]? = some .hole) →
  ∃ Imm' β' t' w',Steps P (lone (fat fr t ds (.inRegion ops (i :: r) :: k)) cs w) (lone (fat fr t' ds (.inRegion ops r :: k)) cs w') ∧
   SRel P n Prot Imm' β' ⟨put o.dst e.v s'.env,setAll s'.heap (e.hset ++ newAt s.heap.length e.hnew)⟩ t' w' ∧ ∀ N,Adv N Prot Imm w β s'.heap Prot Imm' w' β' (setAll s'.heap (e.hset ++ newAt s.heap.length e.hnew))
theorem effD_noDefer {o:Oper} {K:Eff → Prop} {s:St} (h:effD P frz o s K) (c:Call):o.op ≠ .defer c:=by
 intro hc
 unfold effD at h
 rw [hc] at h
 simp [opEff,hc] at h
theorem map_ev {e e':Env} {l:List Operand} (h:∀ x ∈ l,ev e' x = ev e x):l.map (ev e') = l.map (ev e):=List.map_congr_left h
theorem call_act {o : Oper} {f : Operand} {argsO : Array Operand} {aT : Array TypeId} {g : FuncId} {fi ca : List AV} {K : Eff → Prop} {s : St}
    (hop:o.op = .call { callee:=.value f,args:=argsO,argTypes:=aT })
    (hf:(ev s.env f = .func g fi ca) ∨ (∃ a b,ev s.env f = .p (.func g a b) ∧ fi = a.map .p ∧ ca = b.map .p))
    (h:CallE P g (fi ++ argsO.toList.map (ev s.env) ++ ca) s.heap K) :
    ∃ e,K e ∧ (∀ p ∈ e.hin,s.heap[p.1]? = some p.2) ∧ (∀ p ∈ e.hset,p.1 < s.heap.length ∧ p.2 ≠ .hole) ∧ Act P n o s e:=by
 have hnd:∀ c,o.op ≠ .defer c:=fun c hc=>by rw [hop] at hc; cases hc
 have hmem:f ∈ o.op.operands ∧ ∀ x ∈ argsO.toList,x ∈ o.op.operands:=by
  rw [hop]; simp [Op.operands,Call.operands]
  exact fun x hx=>.inr hx
 have base : ∀ {Prot Imm : Nat → Prop} {β : Bd} {s' : St} {t : Array Value} {w : World}, SRel P n Prot Imm β s' t w → (∀ x ∈ o.op.operands, ev s'.env x = ev s.env x) →
     ∃ cargs:List Value,AVVl P w Imm β s'.heap (fi ++ argsO.toList.map (ev s.env) ++ ca) cargs ∧ refsLtl (InH s'.heap) (fi ++ argsO.toList.map (ev s.env) ++ ca) ∧ (execOp (evalT t) o).run P w = (callFunc g cargs.toArray).run P w:=by
  intro Prot Imm β s' t w hrel hag
  have hev:=ev_rel hrel f
  rw [hag f hmem.1] at hev
  obtain ⟨fv,cv,hfn,hfi,hca,hri,hrc⟩:∃ fv cv:List Value,evalT t f = .func (.func g) fv.toArray cv.toArray ∧ AVVl P w Imm β s'.heap fi fv ∧ AVVl P w Imm β s'.heap ca cv ∧ refsLtl (InH s'.heap) fi ∧ refsLtl (InH s'.heap) ca:=by
   rcases hf with hf | ⟨a,b,hf,rfl,rfl⟩
   · rw [hf] at hev
     simp only [AVV,refsLt] at hev
     obtain ⟨⟨fv,cv,h1,h2,h3⟩,h4,h5⟩:=hev
     exact ⟨fv,cv,h3,h1,h2,h4,h5⟩
   · rw [hf] at hev
     simp only [AVV,PVV] at hev
     obtain ⟨⟨fv,cv,h1,h2,h3⟩,_⟩:=hev
     exact ⟨fv,cv,h3,AVVl_map.2 h1,AVVl_map.2 h2,refsLtl_map _ _,refsLtl_map _ _⟩
  obtain ⟨ha,har⟩:=args_rel hrel argsO.toList
  rw [map_ev (fun x hx=>hag x (hmem.2 x hx))] at ha har
  refine ⟨fv ++ argsO.toList.map (evalT t) ++ cv,AVVl_append (AVVl_append hfi ha) hca,refsLtl_append (refsLtl_append hri har) hrc,?_⟩
  simp only [execOp,hop,resolve,hfn,Deferred.ofValue,Sem.run_bind,Sem.run_pure,Result.andThen_ok,invoke]
  congr 2
  simp
 have pure : ∀ (fr : Frame) (k : List Item) (cs : List Frame) (ops : Array Oper) (i : Nat) (r : List Nat) (ds : List Deferred) (Prot Imm Imm1 : Nat → Prop) (β : Bd) (s' : St) (t : Array Value) (w : World) (H1 : Heap) (cargs : List Value) (vs : List PV) (v : PV),
     ops[i]? = some o → Region.wanted o (yielded ops t) = true → dstOk n o = true → SRel P n Prot Imm β s' t w → (execOp (evalT t) o).run P w = (callFunc g cargs.toArray).run P w →
     Post P Prot Imm w β s'.heap Imm1 w β H1 → PVVl P w Imm1 vs cargs → GoodC P g vs v →
     ∃ Imm' β' t' w',Steps P (lone (fat fr t ds (.inRegion ops (i :: r) :: k)) cs w) (lone (fat fr t' ds (.inRegion ops r :: k)) cs w') ∧
      SRel P n Prot Imm' β' ⟨put o.dst (.p v) s'.env,H1⟩ t' w' ∧ ∀ N,Adv N Prot Imm w β s'.heap Prot Imm' w' β' H1:=by
  intro fr k cs ops i r ds Prot Imm Imm1 β s' t w H1 cargs vs v ho hw hdst hrel hexec hp hvs hg
  rcases hg with ⟨hent,hg⟩ | hg
  · rw [hent] at hexec
    obtain ⟨e,w',fr',⟨cv',Imm',he,g1,g2,g3,g4,g5,gio,g6⟩,hst,hfn',hlv⟩:=hg w Imm1 _ hp.rel.imm hp.rel.glob hvs (fat fr t ds (.inRegion ops (i :: r) :: k) :: cs)
    subst he
    have hpost:=hp.trans (hp.rel.later g1 g2 g3 g4 g5 gio)
    refine ⟨Imm',β,_,w',?_,hrel.put hdst hpost (by simpa [AVV] using g6) (by simp [refsLt]),fun _=>hpost.adv⟩
    rw [← fat_finish ho]
    exact (Steps.one (st_opEnter ho hw hnd hexec)).trans (Steps.trans hst (.one (step_leave_returned hlv)))
  · obtain ⟨cv',h1,h2⟩:=hg w Imm1 _ hvs
    rw [h1] at hexec
    exact ⟨Imm1,β,_,w,.one (st_opValue ho hw hnd hexec (.inl rfl)),hrel.put hdst hp (by simpa [AVV] using h2) (by simp [refsLt]),fun _=>hp.adv⟩
 rcases h with ⟨vs,v,h1,h2,h3⟩ | ⟨vs,bs,hin,hset,v,h1,h2,h3,h4⟩ | ⟨e,hE,hok,hK⟩ | ⟨hin,v,hX,hin0,hK⟩
 · refine ⟨_,h3,by simp,by simp,?_⟩
   intro fr k cs ops i r ds Prot Imm β s' t w ho hw hdst hrel hag _ _
   obtain ⟨cargs,c1,c2,c3⟩:=base hrel hag
   rw [h1] at c1
   simp only [newAt,List.append_nil,setAll]
   exact pure fr k cs ops i r ds Prot Imm Imm β s' t w s'.heap cargs vs v ho hw hdst hrel c3 (Post.refl hrel.heap) (AVVl_map.1 c1) h2
 · obtain ⟨i1,i2,i3⟩:=frzAll_in bs h2
   refine ⟨_,h4,i1,i2,?_⟩
   intro fr k cs ops i r ds Prot Imm β s' t w ho hw hdst hrel hag hin' _
   obtain ⟨cargs,c1,c2,c3⟩:=base hrel hag
   obtain ⟨Imm1,p1,p2⟩:=frzAll_post bs h2 hrel.heap (fun p hp=>⟨p.2,hin' p hp,rfl⟩)
   simp only [newAt,List.append_nil]
   refine pure fr k cs ops i r ds Prot Imm Imm1 β s' t w _ cargs vs v ho hw hdst hrel c3 p1 (purEL_val h1 ?_ hrel.heap c1 p1.imm p2) h3
   intro b hb
   rw [← i3] at hb
   obtain ⟨p,hp,rfl⟩:=List.mem_map.1 hb
   rw [hin' p hp,i1 p hp]
 · refine ⟨_,hK,hok.1,hok.2,?_⟩
   intro fr k cs ops i r ds Prot Imm β s' t w ho hw hdst hrel hag hin' hnew
   obtain ⟨cargs,c1,c2,c3⟩:=base hrel hag
   rw [hE.1] at c3
   obtain ⟨x,w',fr',⟨cv',β',Imm',he,g1,g2,g3⟩,hst,hfn',hlv⟩:=hE.2 s'.heap w Imm Prot β _ hrel.heap c1 c2 hin' hnew (fat fr t ds (.inRegion ops (i :: r) :: k) :: cs)
   subst he
   refine ⟨Imm',β',_,w',?_,hrel.put hdst g1 g2 g3,fun _=>g1.adv⟩
   rw [← fat_finish ho]
   exact (Steps.one (st_opEnter ho hw hnd c3)).trans (Steps.trans hst (.one (step_leave_returned hlv)))
 · refine ⟨_,hK,hin0,by simp,?_⟩
   intro fr k cs ops i r ds Prot Imm β s' t w ho hw hdst hrel hag hin' hnew
   obtain ⟨cargs,c1,c2,c3⟩:=base hrel hag
   obtain ⟨cv',h1,h3⟩:=hX s'.heap w Imm Prot β _ hrel.heap c1 c2 hin'
   rw [h1] at c3
   have hp:=Post.refl hrel.heap
   simp only [newAt,List.append_nil,setAll]
   exact ⟨Imm,β,_,w,.one (st_opValue ho hw hnd c3 (.inl rfl)),hrel.put hdst hp (by simpa [AVV] using h3) (by simp [refsLt]),fun _=>hp.adv⟩
theorem act_sound (HS : OpsSound P frz) {o : Oper} {K : Eff → Prop} {s : St} (h : effD P frz o s K) :
    ∃ e,K e ∧ (∀ p ∈ e.hin,s.heap[p.1]? = some p.2) ∧ (∀ p ∈ e.hset,p.1 < s.heap.length ∧ p.2 ≠ .hole) ∧ Act P n o s e:=by
 have hnd:=effD_noDefer h
 have gen:opEff P frz o (ev s.env) s.heap K → ∃ e,K e ∧ (∀ p ∈ e.hin,s.heap[p.1]? = some p.2) ∧ (∀ p ∈ e.hset,p.1 < s.heap.length ∧ p.2 ≠ .hole) ∧ Act P n o s e:=by
  intro h
  obtain ⟨e,hK,hs,hin,hset⟩:=HS o _ _ _ (fun v=>rfl) h
  refine ⟨e,hK,hin,hset,?_⟩
  intro fr k cs ops i r ds Prot Imm β s' t w ho hw hdst hrel hag hin' hnew
  obtain ⟨nx,cv,w',β',Imm',h1,h2,h3,h4,h5⟩:=hs s'.heap w Imm Prot β (evalT t) hrel.heap (fun x hx=>by rw [← hag x hx]; exact ev_rel hrel x) hin' hnew
  exact ⟨Imm',β',_,w',.one (st_opValue ho hw hnd h1 h2),hrel.put hdst h3 h4 h5,fun _=>h3.adv⟩
 unfold effD at h
 split at h
 · rename_i f args aT hop
   split at h
   · rename_i g fi ca hf
     exact call_act hop (.inr ⟨fi,ca,hf,rfl,rfl⟩) h
   · rename_i g fi ca hf
     exact call_act hop (.inl hf) h
   · exact h.elim
 · exact gen h
end
end Go.Abs
namespace Go.Abs
set_option linter.unusedSectionVars false
variable [Gl]
section
variable {P:Program} {frz:FuncId → Bool} {n:Nat}
def looks (ops:Array Oper) (o:Oper):List Tmp :=
 (o.op.operands.toList.filterMap fun x=>match x with
  | .tmp t=>some t
  | _=>none) ++ (match o.guard with
  | some (j,_)=>(match (ops[j]?).bind (·.dst) with
   | some d=>[d]
   | none=>[])
  | none=>[])
def tmpClash (ops:Array Oper) (a b:Oper):Bool :=
 (match a.dst with
  | some d=>(looks ops b).contains d || b.dst == some d
  | none=>false) ||
 (match b.dst with
  | some d=>(looks ops a).contains d
  | none=>false)
def fit (_:Nat) (ops:Array Oper):Bool :=
 (List.range ops.size).all fun j=>match ops[j]? with
  | some o=>o.after.toList.all (fun e=>!Region.binds .any e || decide (e.on < j)) &&
   (List.range j).all (fun i=>match ops[i]? with
    | some u=>!tmpClash ops u o || reach ops ops.size i j
    | none=>true)
  | none=>true
structure ItemOk (P:Program) (n:Nat) (ops:Array Oper) (o:Oper) (s:St) (e:Eff):Prop where
 hin:∀ p ∈ e.hin,s.heap[p.1]? = some p.2
 hset:∀ p ∈ e.hset,p.1 < s.heap.length
 act:(∀ (t:Array Value) (s':St) (Prot Imm:Nat → Prop) (β:Bd) (w:World),SRel P n Prot Imm β s' t w → (∀ x ∈ looks ops o,getE s'.env x = getE s.env x) → Region.wanted o (yielded ops t) = true) ∧ Act P n o s e ∨
  (∀ (t:Array Value) (s':St) (Prot Imm:Nat → Prop) (β:Bd) (w:World),SRel P n Prot Imm β s' t w → (∀ x ∈ looks ops o,getE s'.env x = getE s.env x) → Region.wanted o (yielded ops t) = false) ∧ e = { v:=.p (.tup []) }
inductive Tr (P:Program) (n:Nat) (ops:Array Oper):List Oper → Nat → St → List (St × Eff) → St → Prop
 | nil (i:Nat) (s:St):Tr P n ops [] i s [] s
 | cons {o:Oper} {r:List Oper} {i:Nat} {s s':St} {e:Eff} {es:List (St × Eff)}:ItemOk P n ops o s e → Tr P n ops r (i + 1) (e.app o.dst s) es s' → Tr P n ops (o :: r) i s ((s,e) :: es) s'
def touches (i:Nat):List (St × Eff) → List Touch → List Touch
 | [],acc=>acc
 | (s,e) :: r,acc=>touches (i + 1) r (touch i s.heap.length e acc)
theorem guardOf_looks {ops:Array Oper} {o:Oper} {j:Nat} {want:Bool} (hg:o.guard = some (j,want)) {e e':Env} (h:∀ x ∈ looks ops o,getE e' x = getE e x):guardOf ops j e' = guardOf ops j e:=by
 unfold guardOf
 cases hd:(ops[j]?).bind (·.dst) with
 | none=>rfl
 | some d =>
  simp only
  exact h d (by simp [looks,hg,hd])
theorem trace_of (HS : OpsSound P frz) {ops : Array Oper} (hok : ∀ o ∈ ops.toList, dstOk n o = true) : ∀ (l : List Oper) (i : Nat) (acc : List Touch) (s : St) {K : St → Prop}, (∀ o ∈ l, o ∈ ops.toList) → opsWPd P frz ops l i acc K s →
    ∃ es s',Tr P n ops l i s es s' ∧ K s' ∧ touchOk ops (touches i es acc) = true
 | [],i,acc,s,K,_,h=>⟨[],s,.nil i s,h.2,h.1⟩
 | o :: l,i,acc,s,K,hl,h=>by
  have ih:=fun acc s (h:opsWPd P frz ops l (i + 1) acc K s)=>trace_of HS hok l (i + 1) acc s (fun o ho=>hl o (by simp [ho])) h
  have skip : opsWPd P frz ops l (i + 1) acc K ⟨put o.dst (.p (.tup [])) s.env, s.heap⟩ → (∀ (t : Array Value) (s' : St) (Prot Imm : Nat → Prop) (β : Bd) (w : World), SRel P n Prot Imm β s' t w → (∀ x ∈ looks ops o, getE s'.env x = getE s.env x) → Region.wanted o (yielded ops t) = false) →
      ∃ es s',Tr P n ops (o :: l) i s es s' ∧ K s' ∧ touchOk ops (touches i es acc) = true:=by
   intro hk hw
   obtain ⟨es,s',h1,h2,h3⟩:=ih _ _ hk
   refine ⟨(s,{ v:=.p (.tup []) }) :: es,s',.cons ⟨by simp,by simp,.inr ⟨hw,rfl⟩⟩ ?_,h2,by simpa [touches,touch] using h3⟩
   simpa [Eff.app,setAll] using h1
  have go : effD P frz o s (fun e => opsWPd P frz ops l (i + 1) (touch i s.heap.length e acc) K (e.app o.dst s)) → (∀ (t : Array Value) (s' : St) (Prot Imm : Nat → Prop) (β : Bd) (w : World), SRel P n Prot Imm β s' t w → (∀ x ∈ looks ops o, getE s'.env x = getE s.env x) → Region.wanted o (yielded ops t) = true) →
      ∃ es s',Tr P n ops (o :: l) i s es s' ∧ K s' ∧ touchOk ops (touches i es acc) = true:=by
   intro hk hw
   obtain ⟨e,hK,hin,hset,hact⟩:=act_sound (n:=n) HS hk
   obtain ⟨es,s',h1,h2,h3⟩:=ih _ _ hK
   exact ⟨(s,e) :: es,s',.cons ⟨hin,fun p hp=>(hset p hp).1,.inl ⟨hw,hact⟩⟩ h1,h2,by simpa [touches] using h3⟩
  simp only [opsWPd] at h
  split at h
  · rename_i hg
    exact go h (fun _ _ _ _ _ _ _ _=>by simp [Region.wanted,hg])
  · rename_i j want hg
    split at h
    · rename_i b hb
      split at h
      · rename_i hbw
        refine go h (fun t s' Prot Imm β w hrel hag=>?_)
        obtain ⟨g1,g2⟩:=guard_rel hrel hok j
        rw [guardOf_looks hg hag] at g1
        simp [Region.wanted,hg,g1 _ hb,hbw]
      · rename_i hbw
        refine skip h (fun t s' Prot Imm β w hrel hag=>?_)
        obtain ⟨g1,g2⟩:=guard_rel hrel hok j
        rw [guardOf_looks hg hag] at g1
        simp [Region.wanted,hg,g1 _ hb,hbw]
    · rename_i hb
      refine skip h (fun t s' Prot Imm β w hrel hag=>?_)
      obtain ⟨g1,g2⟩:=guard_rel hrel hok j
      rw [guardOf_looks hg hag] at g2
      simp [Region.wanted,hg,g2 hb]
    · exact h.elim
def Closed (ops:Array Oper) (D:Nat → Prop):Prop:=∀ j o,ops[j]? = some o → D j → ∀ e ∈ o.after,Region.binds .any e = true → D e.on
theorem reach_done {ops:Array Oper} {D:Nat → Prop} (hc:Closed ops D):∀ (f i j:Nat),reach ops f i j = true → (∀ o,ops[j]? = some o → ∀ e ∈ o.after,Region.binds .any e = true → D e.on) → D i
 | 0,_,_,h,_=>by simp [reach] at h
 | f + 1,i,j,h,hd=>by
  simp only [reach] at h
  split at h
  case h_2=>simp at h
  rename_i o ho
  simp only [Bool.or_eq_true,List.any_eq_true,Bool.and_eq_true,beq_iff_eq,decide_eq_true_eq] at h
  rcases h with ⟨e,he,h1,rfl⟩ | ⟨e,he,⟨h1,_⟩,h3⟩
  · exact hd o ho e (by simpa using he) h1
  · have hde:=hd o ho e (by simpa using he) h1
    exact reach_done hc f i e.on h3 (fun o' ho' e' he' hb'=>hc _ o' ho' hde e' he' hb')
end
end Go.Abs
namespace Go.Abs
set_option linter.unusedSectionVars false
variable [Gl]
section
variable {P:Program} {frz:FuncId → Bool} {n:Nat}
theorem newAt_ids (base:Nat) (l:List Obj):(newAt base l).map (·.1) = idsFrom base l:=by
 induction l generalizing base with
 | nil=>rfl
 | cons o l ih=>simp [newAt,idsFrom,ih]
theorem mem_idsFrom {base b:Nat} {l:List Obj}:b ∈ idsFrom base l ↔ base ≤ b ∧ b < base + l.length:=by
 induction l generalizing base with
 | nil=>simp [idsFrom]
 | cons o l ih=>simp only [idsFrom,List.mem_cons,ih,List.length_cons]; omega
theorem setAll_ne {l:List (Nat × Obj)} {b:Nat} (h:b ∉ l.map (·.1)):∀ H:Heap,(setAll H l)[b]? = H[b]?:=by
 induction l with
 | nil=>intro H; rfl
 | cons p l ih =>
  obtain ⟨c,o⟩:=p
  intro H
  simp only [List.map_cons,List.mem_cons,not_or] at h
  simp only [setAll]
  rw [ih h.2,List.getElem?_set_ne (Ne.symm h.1)]
theorem setAll_mem {l:List (Nat × Obj)} {b:Nat} (h:b ∈ l.map (·.1)):∀ H H':Heap,H.length = H'.length → (setAll H l)[b]? = (setAll H' l)[b]?:=by
 induction l with
 | nil=>simp at h
 | cons p l ih =>
  obtain ⟨c,o⟩:=p
  intro H H' hl
  simp only [setAll]
  by_cases hb:b ∈ l.map (·.1)
  · exact ih hb _ _ (by simp [hl])
  · rw [setAll_ne hb,setAll_ne hb]
    simp only [List.map_cons,List.mem_cons] at h
    have:b = c:=h.resolve_right hb
    subst this
    by_cases hlt:b < H.length
    · rw [List.getElem?_set_self hlt,List.getElem?_set_self (by omega)]
    · rw [List.getElem?_eq_none (by simp; omega),List.getElem?_eq_none (by simp; omega)]
def stOf (es:List (St × Eff)) (s':St) (k:Nat):St:=match es[k]? with
 | some (s,_)=>s
 | none=>s'
def effOf (es:List (St × Eff)) (k:Nat):Eff:=match es[k]? with
 | some (_,e)=>e
 | none=>{ v:=.p .undef }
theorem Tr.at {ops : Array Oper} : ∀ {l : List Oper} {i : Nat} {s s' : St} {es : List (St × Eff)}, Tr P n ops l i s es s' → es.length = l.length ∧ stOf es s' 0 = s ∧
    ∀ k o,l[k]? = some o → ItemOk P n ops o (stOf es s' k) (effOf es k) ∧ stOf es s' (k + 1) = (effOf es k).app o.dst (stOf es s' k)
 | _,_,_,_,_,.nil i s=>⟨rfl,rfl,fun k o h=>by simp at h⟩
 | _,_,_,_,_,.cons (o:=o) (r:=r) (i:=i) (s:=s) (s':=s') (e:=e) (es:=es) hi ht=>by
  obtain ⟨h1,h2,h3⟩:=ht.at
  refine ⟨by simp [h1],rfl,fun k o' hk=>?_⟩
  cases k with
  | zero =>
   simp at hk; subst hk
   refine ⟨by simpa [stOf,effOf] using hi,?_⟩
   have:stOf ((s,e) :: es) s' (0 + 1) = stOf es s' 0:=by simp [stOf]
   rw [this,h2]; simp [stOf,effOf]
  | succ k =>
   have e1:∀ m,stOf ((s,e) :: es) s' (m + 1) = stOf es s' m:=fun m=>by simp [stOf]
   have e2:effOf ((s,e) :: es) (k + 1) = effOf es k:=by simp [effOf]
   rw [e1,e1,e2]
   exact h3 k o' (by simpa using hk)
theorem clash_empty (u:Touch) (i:Nat):clash u ⟨i,[],[]⟩ = false:=by
 simp [clash]
theorem touch_cases (i base:Nat) (e:Eff) (acc:List Touch):(touch i base e acc = acc ∧ touchOf i base e = ⟨i,[],[]⟩) ∨ touch i base e acc = touchOf i base e :: acc:=by
 unfold touch
 split
 · rename_i h1 h2 h3
   exact .inl ⟨rfl,by simp [touchOf,h1,h2,h3,idsFrom]⟩
 · exact .inr rfl
theorem touches_ok {ops : Array Oper} : ∀ (es : List (St × Eff)) (i : Nat) (acc : List Touch), touchOk ops (touches i es acc) = true → touchOk ops acc = true ∧
    (∀ u ∈ acc,∀ b s e,es[b]? = some (s,e) → clash u (touchOf (i + b) s.heap.length e) = true → reach ops ops.size u.i (i + b) = true) ∧
    (∀ a b s e s2 e2,a < b → es[a]? = some (s,e) → es[b]? = some (s2,e2) → clash (touchOf (i + a) s.heap.length e) (touchOf (i + b) s2.heap.length e2) = true → reach ops ops.size (i + a) (i + b) = true)
 | [],i,acc,h=>⟨h,by simp,by simp⟩
 | (s,e) :: es,i,acc,h=>by
  simp only [touches] at h
  obtain ⟨h1,h2,h3⟩:=touches_ok es (i + 1) _ h
  have key : touchOk ops acc = true ∧ (∀ u ∈ acc, clash u (touchOf i s.heap.length e) = true → reach ops ops.size u.i i = true) ∧ (∀ u ∈ acc, ∀ b s e, es[b]? = some (s, e) → clash u (touchOf (i + 1 + b) s.heap.length e) = true → reach ops ops.size u.i (i + 1 + b) = true) ∧
      (∀ b s2 e2,es[b]? = some (s2,e2) → clash (touchOf i s.heap.length e) (touchOf (i + 1 + b) s2.heap.length e2) = true → reach ops ops.size i (i + 1 + b) = true):=by
   rcases touch_cases i s.heap.length e acc with ⟨ht,he⟩ | ht
   · rw [ht] at h1 h2
     refine ⟨h1,fun u _ hc=>?_,h2,fun b s2 e2 _ hc=>?_⟩
     · rw [he,clash_empty] at hc; cases hc
     · rw [he] at hc; simp [clash] at hc
   · rw [ht] at h1 h2
     simp only [touchOk,Bool.and_eq_true,List.all_eq_true] at h1
     refine ⟨h1.2,fun u hu hc=>?_,fun u hu=>h2 u (by simp [hu]),h2 _ (by simp)⟩
     have:=h1.1 u hu
     rw [hc] at this
     exact (by simpa using this:reach ops ops.size u.i (touchOf i s.heap.length e).i = true)
  obtain ⟨k1,k2,k3,k4⟩:=key
  refine ⟨k1,?_,?_⟩
  · intro u hu b s1 e1 hb hc
    cases b with
    | zero=>simp at hb; obtain ⟨rfl,rfl⟩:=hb; exact k2 u hu hc
    | succ b =>
     have:=k3 u hu b s1 e1 (by simpa using hb)
     rw [show i + (b + 1) = i + 1 + b by omega] at hc ⊢
     exact this hc
  · intro a b s1 e1 s2 e2 hab ha hb hc
    cases b with
    | zero=>omega
    | succ b =>
     rw [show i + (b + 1) = i + 1 + b by omega] at hc ⊢
     cases a with
     | zero =>
      simp at ha; obtain ⟨rfl,rfl⟩:=ha
      exact k4 b s2 e2 (by simpa using hb) hc
     | succ a =>
      rw [show i + (a + 1) = i + 1 + a by omega] at hc ⊢
      exact h3 a b s1 e1 s2 e2 (by omega) (by simpa using ha) (by simpa using hb) hc
end
end Go.Abs
namespace Go.Abs
set_option linter.unusedSectionVars false
variable [Gl]
section
variable {P:Program} {frz:FuncId → Bool} {n:Nat}
def hx (N:Nat) (s:St):Heap:=s.heap ++ List.replicate (N - s.heap.length) .hole
def wrs (base:Nat) (e:Eff):List Nat:=(e.hset ++ newAt base e.hnew).map (·.1)
theorem hx_step {N:Nat} {s:St} {e:Eff} {o:Oper} (hset:∀ p ∈ e.hset,p.1 < s.heap.length) (hN:(e.app o.dst s).heap.length ≤ N):hx N (e.app o.dst s) = setAll (hx N s) (e.hset ++ newAt s.heap.length e.hnew):=by
 have hl:(e.app o.dst s).heap = setAll s.heap e.hset ++ e.hnew:=rfl
 have hlen:(e.app o.dst s).heap.length = s.heap.length + e.hnew.length:=by rw [hl]; simp [setAll_length]
 unfold hx
 rw [hl]
 have h1:N - s.heap.length = e.hnew.length + (N - (s.heap.length + e.hnew.length)):=by omega
 rw [h1,← List.replicate_append_replicate,← List.append_assoc,setAll_left _ _ _ (by
  intro p hp
  rcases List.mem_append.1 hp with hp | hp
  · have:=hset p hp; simp; omega
  · have:p.1 ∈ (newAt s.heap.length e.hnew).map (·.1):=List.mem_map_of_mem hp
    rw [newAt_ids,mem_idsFrom] at this
    simp; omega)]
 rw [setAll_append,setAll_left _ _ _ hset]
 have:=setAll_new (setAll s.heap e.hset) e.hnew
 rw [setAll_length] at this
 rw [this]
 congr 2
 simp [setAll_length]
section sched
variable {ops:Array Oper} {es:List (St × Eff)} {s0 s':St}
structure Sched (P:Program) (n:Nat) (ops:Array Oper) (es:List (St × Eff)) (s':St):Prop where
 len:es.length = ops.size
 at_:∀ k o,ops[k]? = some o → ItemOk P n ops o (stOf es s' k) (effOf es k) ∧ stOf es s' (k + 1) = (effOf es k).app o.dst (stOf es s' k)
 dst:∀ o ∈ ops.toList,dstOk n o = true
 lower:∀ j o,ops[j]? = some o → ∀ e ∈ o.after,Region.binds .any e = true → e.on < j
 tmps:∀ i j u o,i < j → ops[i]? = some u → ops[j]? = some o → tmpClash ops u o = true → reach ops ops.size i j = true
 heap:∀ i j,i < j → j < ops.size → clash (touchOf i (stOf es s' i).heap.length (effOf es i)) (touchOf j (stOf es s' j).heap.length (effOf es j)) = true → reach ops ops.size i j = true
def wr (es:List (St × Eff)) (s':St) (i:Nat):List Nat:=wrs (stOf es s' i).heap.length (effOf es i)
structure At (ops:Array Oper) (es:List (St × Eff)) (s':St) (D:Nat → Prop) (s:St):Prop where
 tmp:∀ x,∃ k,k ≤ ops.size ∧ getE s.env x = getE (stOf es s' k).env x ∧ ∀ i o,ops[i]? = some o → o.dst = some x → (D i ↔ i < k)
 len:s.heap.length = s'.heap.length
 heap:∀ b,∃ k,k ≤ ops.size ∧ s.heap[b]? = (hx s'.heap.length (stOf es s' k))[b]? ∧ ∀ i,i < ops.size → b ∈ wr es s' i → (D i ↔ i < k)
variable (h:Sched P n ops es s')
include h
theorem Sched.mono:∀ {k m:Nat},k ≤ m → m ≤ ops.size → (stOf es s' k).heap.length ≤ (stOf es s' m).heap.length:=by
 intro k m hkm hm
 induction m with
 | zero => obtain rfl : k = 0 := by omega
           exact Nat.le_refl _
 | succ m ih =>
  by_cases hk:k = m + 1
  · subst hk; exact Nat.le_refl _
  · have h1:=ih (by omega) (by omega)
    have ho:ops[m]? = some ops[m]:=Array.getElem?_eq_getElem (by omega)
    obtain ⟨_,h2⟩:=h.at_ m _ ho
    rw [h2]
    simp only [Eff.app,List.length_append,setAll_length]
    omega
theorem Sched.last:stOf es s' ops.size = s':=by
 have:es[ops.size]? = none:=List.getElem?_eq_none (by rw [h.len]; exact Nat.le_refl _)
 simp [stOf,this]
theorem Sched.leN {k:Nat} (hk:k ≤ ops.size):(stOf es s' k).heap.length ≤ s'.heap.length:=by
 have:=h.mono hk (Nat.le_refl _)
 rwa [h.last] at this
theorem Sched.hstep {k:Nat} (hk:k < ops.size):hx s'.heap.length (stOf es s' (k + 1)) = setAll (hx s'.heap.length (stOf es s' k)) ((effOf es k).hset ++ newAt (stOf es s' k).heap.length (effOf es k).hnew):=by
 have ho:ops[k]? = some ops[k]:=Array.getElem?_eq_getElem hk
 obtain ⟨h1,h2⟩:=h.at_ k _ ho
 have h3:=h.leN (k:=k + 1) hk
 rw [h2] at h3 ⊢
 exact hx_step h1.hset h3
theorem hx_len {k:Nat} (hk:k ≤ ops.size):(hx s'.heap.length (stOf es s' k)).length = s'.heap.length:=by
 have:=h.leN hk
 simp [hx]; omega
theorem Sched.tmp_same {x:Nat}:∀ {k m:Nat},k ≤ m → m ≤ ops.size → (∀ i o,k ≤ i → i < m → ops[i]? = some o → o.dst ≠ some x) → getE (stOf es s' m).env x = getE (stOf es s' k).env x:=by
 intro k m hkm
 induction m with
 | zero => intro _ _; obtain rfl : k = 0 := by omega
           rfl
 | succ m ih =>
  intro hm hw
  by_cases hk:k = m + 1
  · subst hk; rfl
  · have h1:=ih (by omega) (by omega) (fun i o a b=>hw i o a (by omega))
    have ho:ops[m]? = some ops[m]:=Array.getElem?_eq_getElem (by omega)
    obtain ⟨_,h2⟩:=h.at_ m _ ho
    rw [h2]
    simp only [Eff.app,getE_put]
    rw [if_neg (hw m _ (by omega) (by omega) ho)]
    exact h1
theorem Sched.heap_same {b:Nat}:∀ {k m:Nat},k ≤ m → m ≤ ops.size → (∀ i,k ≤ i → i < m → b ∉ wr es s' i) → (hx s'.heap.length (stOf es s' m))[b]? = (hx s'.heap.length (stOf es s' k))[b]?:=by
 intro k m hkm
 induction m with
 | zero => intro _ _; obtain rfl : k = 0 := by omega
           rfl
 | succ m ih =>
  intro hm hw
  by_cases hk:k = m + 1
  · subst hk; rfl
  · have h1:=ih (by omega) (by omega) (fun i a b=>hw i a (by omega))
    rw [h.hstep (by omega),setAll_ne (hw m (by omega) (by omega))]
    exact h1
theorem Sched.tmp_two {x:Nat} {k m:Nat} (hk:k ≤ ops.size) (hm:m ≤ ops.size) (hw:∀ i o,ops[i]? = some o → o.dst = some x → (i < k ↔ i < m)):getE (stOf es s' m).env x = getE (stOf es s' k).env x:=by
 rcases Nat.le_total k m with hkm | hkm
 · exact h.tmp_same hkm hm fun i o a b ho hd=>by have:=hw i o ho hd; omega
 · exact (h.tmp_same hkm hk fun i o a b ho hd=>by have:=hw i o ho hd; omega).symm
theorem Sched.heap_two {b:Nat} {k m:Nat} (hk:k ≤ ops.size) (hm:m ≤ ops.size) (hw:∀ i,i < ops.size → b ∈ wr es s' i → (i < k ↔ i < m)):(hx s'.heap.length (stOf es s' m))[b]? = (hx s'.heap.length (stOf es s' k))[b]?:=by
 rcases Nat.le_total k m with hkm | hkm
 · exact h.heap_same hkm hm fun i a c hd=>by have:=hw i (by omega) hd; omega
 · exact (h.heap_same hkm hk fun i a c hd=>by have:=hw i (by omega) hd; omega).symm
variable {D:Nat → Prop} (hc:Closed ops D)
include hc
theorem Sched.order {i : Nat} {o : Oper} (ho : ops[i]? = some o) (hnd : ¬ D i) (hready : ∀ e ∈ o.after, Region.binds .any e = true → D e.on) :
    (∀ j,j < i → reach ops ops.size j i = true → D j) ∧ (∀ j,j < ops.size → i < j → reach ops ops.size i j = true → ¬ D j):=by
 constructor
 · intro j hj hr
   exact reach_done hc _ _ _ hr (fun o' ho'=>by rw [ho] at ho'; cases ho'; exact hready)
 · intro j hjl hj hr hd
   exact hnd (reach_done hc _ _ _ hr (fun o' ho' e he hb=>hc j o' ho' hd e he hb))
theorem Sched.reads {i : Nat} {o : Oper} (ho : ops[i]? = some o) (hnd : ¬ D i) (hready : ∀ e ∈ o.after, Region.binds .any e = true → D e.on) {s : St} (hat : At ops es s' D s) :
    (∀ x ∈ looks ops o,getE s.env x = getE (stOf es s' i).env x) ∧ (∀ b,b ∈ (effOf es i).hin.map (·.1) ∨ b ∈ wr es s' i → s.heap[b]? = (hx s'.heap.length (stOf es s' i))[b]?):=by
 obtain ⟨o1,o2⟩:=h.order hc ho hnd hready
 have hi:i < ops.size:=(Array.getElem?_eq_some_iff.1 ho).1
 constructor
 · intro x hx
   obtain ⟨k,k1,k2,k3⟩:=hat.tmp x
   rw [k2]
   refine h.tmp_two (by omega) k1 fun j u hu hd=>?_
   have hj:j < ops.size:=(Array.getElem?_eq_some_iff.1 hu).1
   rw [← k3 j u hu hd]
   constructor
   · intro hlt
     refine o1 j hlt (h.tmps j i u o hlt hu ho ?_)
     simp [tmpClash,hd,hx]
   · intro hDj
     rcases Nat.lt_trichotomy j i with hlt | rfl | hlt
     · exact hlt
     · exact (hnd hDj).elim
     · exact (o2 j hj hlt (h.tmps i j o u hlt ho hu (by simp [tmpClash,hd,hx])) hDj).elim
 · intro b hb
   obtain ⟨k,k1,k2,k3⟩:=hat.heap b
   rw [k2]
   refine h.heap_two (by omega) k1 fun j hj hw=>?_
   rw [← k3 j hj hw]
   have hwj:b ∈ (touchOf j (stOf es s' j).heap.length (effOf es j)).wr:=by
    unfold wr wrs at hw
    rw [List.map_append,newAt_ids] at hw
    exact hw
   have hbi:b ∈ (touchOf i (stOf es s' i).heap.length (effOf es i)).rd ∨ b ∈ (touchOf i (stOf es s' i).heap.length (effOf es i)).wr:=by
    rcases hb with hb | hb
    · exact .inl hb
    · unfold wr wrs at hb
      rw [List.map_append,newAt_ids] at hb
      exact .inr hb
   constructor
   · intro hlt
     refine o1 j hlt (h.heap j i hlt hi ?_)
     simp only [clash,Bool.or_eq_true,List.any_eq_true,List.contains_iff_mem]
     exact .inl ⟨b,hwj,hbi⟩
   · intro hDj
     rcases Nat.lt_trichotomy j i with hlt | rfl | hlt
     · exact hlt
     · exact (hnd hDj).elim
     · refine (o2 j hj hlt (h.heap i j hlt hj ?_) hDj).elim
       simp only [clash,Bool.or_eq_true,List.any_eq_true,List.contains_iff_mem]
       rcases hbi with hbi | hbi
       · exact .inr ⟨b,hbi,hwj⟩
       · exact .inl ⟨b,hbi,.inr hwj⟩
theorem Sched.next {i : Nat} {o : Oper} (ho : ops[i]? = some o) (hnd : ¬ D i) (hready : ∀ e ∈ o.after, Region.binds .any e = true → D e.on) {s : St} (hat : At ops es s' D s) :
    At ops es s' (fun j=>D j ∨ j = i) ⟨put o.dst (effOf es i).v s.env,setAll s.heap ((effOf es i).hset ++ newAt (stOf es s' i).heap.length (effOf es i).hnew)⟩:=by
 obtain ⟨o1,o2⟩:=h.order hc ho hnd hready
 have hi:i < ops.size:=(Array.getElem?_eq_some_iff.1 ho).1
 obtain ⟨hitem,hstep⟩:=h.at_ i o ho
 refine ⟨fun x=>?_,by simp only [setAll_length]; exact hat.len,fun b=>?_⟩
 · by_cases hx:o.dst = some x
   · refine ⟨i + 1,hi,?_,fun j u hu hd=>?_⟩
     · rw [hstep]; simp [Eff.app,getE_put,hx]
     · have hj:j < ops.size:=(Array.getElem?_eq_some_iff.1 hu).1
       constructor
       · rintro (hDj | rfl)
         · rcases Nat.lt_trichotomy j i with hlt | rfl | hlt
           · omega
           · omega
           · exact (o2 j hj hlt (h.tmps i j o u hlt ho hu (by simp [tmpClash,hd,hx])) hDj).elim
         · omega
       · intro hlt
         by_cases hji:j = i
         · exact .inr hji
         · exact .inl (o1 j (by omega) (h.tmps j i u o (by omega) hu ho (by simp [tmpClash,hd,hx])))
   · obtain ⟨k,k1,k2,k3⟩:=hat.tmp x
     refine ⟨k,k1,?_,fun j u hu hd=>?_⟩
     · simp only [getE_put]; rw [if_neg hx]; exact k2
     · rw [← k3 j u hu hd]
       constructor
       · rintro (hDj | rfl)
         · exact hDj
         · rw [ho] at hu; cases hu; exact (hx hd).elim
       · exact .inl
 · by_cases hb:b ∈ wr es s' i
   · refine ⟨i + 1,hi,?_,fun j hj hw=>?_⟩
     · rw [h.hstep hi]
       exact setAll_mem hb _ _ (by rw [hx_len h (by omega)]; exact hat.len)
     · have hwj:b ∈ (touchOf j (stOf es s' j).heap.length (effOf es j)).wr:=by
        unfold wr wrs at hw
        rw [List.map_append,newAt_ids] at hw
        exact hw
       have hwi:b ∈ (touchOf i (stOf es s' i).heap.length (effOf es i)).wr:=by
        unfold wr wrs at hb
        rw [List.map_append,newAt_ids] at hb
        exact hb
       constructor
       · rintro (hDj | rfl)
         · rcases Nat.lt_trichotomy j i with hlt | rfl | hlt
           · omega
           · omega
           · refine (o2 j hj hlt (h.heap i j hlt hj ?_) hDj).elim
             simp only [clash,Bool.or_eq_true,List.any_eq_true,List.contains_iff_mem]
             exact .inl ⟨b,hwi,.inr hwj⟩
         · omega
       · intro hlt
         by_cases hji:j = i
         · exact .inr hji
         · refine .inl (o1 j (by omega) (h.heap j i (by omega) hi ?_))
           simp only [clash,Bool.or_eq_true,List.any_eq_true,List.contains_iff_mem]
           exact .inl ⟨b,hwj,.inr hwi⟩
   · obtain ⟨k,k1,k2,k3⟩:=hat.heap b
     refine ⟨k,k1,?_,fun j hj hw=>?_⟩
     · simp only; rw [setAll_ne hb]; exact k2
     · rw [← k3 j hj hw]
       constructor
       · rintro (hDj | rfl)
         · exact hDj
         · exact (hb hw).elim
       · exact .inl
end sched
end
end Go.Abs
namespace Go.Abs
set_option linter.unusedSectionVars false
variable [Gl]
section
variable {P:Program} {frz:FuncId → Bool} {n:Nat}
variable {ops:Array Oper} {es:List (St × Eff)} {s':St}
theorem SRel.congr {Prot Imm:Nat → Prop} {β:Bd} {s u:St} {t:Array Value} {w:World} (h:SRel P n Prot Imm β s t w) (he:∀ x,getE u.env x = getE s.env x) (hh:u.heap = s.heap):SRel P n Prot Imm β u t w:=by
 refine ⟨by rw [hh]; exact h.heap,fun x=>?_,fun x=>?_,h.size⟩
 · rw [he,hh]; exact h.env x
 · rw [he,hh]; exact h.erefs x
theorem SRel.holes {Prot Imm:Nat → Prop} {β:Bd} {s:St} {t:Array Value} {w:World} (m:Nat) (h:SRel P n Prot Imm β s t w):SRel P n Prot Imm β ⟨s.env,s.heap ++ List.replicate m .hole⟩ t w :=
 ⟨h.heap.holes m,fun x=>AVV.mono (fun _ x=>x) (fun _ _=>rfl) (holes_step β s.heap m) _ _ (h.erefs x) (h.env x),fun x=>refsLt.mono (holes_in _ _) _ (h.erefs x),h.size⟩
theorem ev_looks {o:Oper} {e e':Env} (h:∀ x ∈ looks ops o,getE e' x = getE e x):∀ x ∈ o.op.operands,ev e' x = ev e x:=by
 intro x hx
 cases x with
 | tmp t =>
  simp only [ev]
  refine h t ?_
  simp only [looks,List.mem_append,List.mem_filterMap]
  exact .inl ⟨.tmp t,by simpa using hx,rfl⟩
 | _=>rfl
theorem Sched.run (h : Sched P n ops es s') {D : Nat → Prop} (hc : Closed ops D) {i : Nat} {o : Oper} (ho : ops[i]? = some o) (hnd : ¬ D i) (hready : ∀ e ∈ o.after, Region.binds .any e = true → D e.on) {s : St} (hat : At ops es s' D s)
    {fr:Frame} {k:List Item} {cs:List Frame} {r:List Nat} {ds:List Deferred} {Prot Imm:Nat → Prop} {β:Bd} {t:Array Value} {w:World} (hrel:SRel P n Prot Imm β s t w) :
    ∃ u Imm' β' t' w',Steps P (lone (fat fr t ds (.inRegion ops (i :: r) :: k)) cs w) (lone (fat fr t' ds (.inRegion ops r :: k)) cs w') ∧ SRel P n Prot Imm' β' u t' w' ∧ (∀ N,Adv N Prot Imm w β s.heap Prot Imm' w' β' u.heap) ∧ At ops es s' (fun j=>D j ∨ j = i) u:=by
 obtain ⟨r1,r2⟩:=h.reads hc ho hnd hready hat
 have hi:i < ops.size:=(Array.getElem?_eq_some_iff.1 ho).1
 obtain ⟨hitem,_⟩:=h.at_ i o ho
 have hnext:=h.next hc ho hnd hready hat
 have hdst:dstOk n o = true:=h.dst o (by rw [Array.mem_toList_iff]; exact Array.mem_of_getElem? ho)
 have hle:=h.leN (k:=i) (by omega)
 rcases hitem.act with ⟨hw,hact⟩ | ⟨hw,he⟩
 · obtain ⟨Imm', β', t', w', a1, a2, a3⟩ := hact fr k cs ops i r ds Prot Imm β s t w ho (hw t s Prot Imm β w hrel r1) hdst hrel (ev_looks r1) (by
       intro p hp
       rw [r2 p.1 (.inl (List.mem_map_of_mem hp))]
       have:=hitem.hin p hp
       unfold hx
       rw [List.getElem?_append_left (List.getElem?_eq_some_iff.1 this).1]
       exact this) (by
       intro j hj
       have hm:(stOf es s' i).heap.length + j ∈ wr es s' i:=by
        unfold wr wrs
        rw [List.map_append,newAt_ids]
        exact List.mem_append_right _ (mem_idsFrom.2 ⟨by omega,by omega⟩)
       rw [r2 _ (.inr hm)]
       have h2:=h.leN (k:=i + 1) (by omega)
       rw [(h.at_ i o ho).2] at h2
       simp only [Eff.app,List.length_append,setAll_length] at h2
       unfold hx
       rw [getElem?_holes,if_neg (by omega),if_pos (by omega)])
   exact ⟨_,Imm',β',t',w',a1,a2,a3,hnext⟩
 · rw [he] at hnext
   simp only [newAt,List.append_nil,setAll] at hnext
   exact ⟨_,Imm,β,_,w,.one (st_opSkip ho (hw t s Prot Imm β w hrel r1)),hrel.put hdst (Post.refl hrel.heap) (by simp [AVV,PVV,PVVl,undef]) (by simp [refsLt]),fun _=>Adv.refl _ _ _ _ _ _,hnext⟩
def isDone (listed:Array Bool) (i:Nat):Prop:=listed.getD i false = true
theorem count_drop {p:Nat → Bool} {i:Nat}:∀ {l:List Nat},l.Nodup → i ∈ l → p i = true → l.countP p = l.countP (fun x=>p x && x != i) + 1
 | [],_,h,_=>by simp at h
 | a :: l,hn,h,hp=>by
  rw [List.nodup_cons] at hn
  by_cases ha:a = i
  · subst ha
    have e:l.countP (fun x=>p x && x != a) = l.countP p:=by
     refine List.countP_congr fun x hx=>?_
     have:x ≠ a:=fun e=>hn.1 (e ▸ hx)
     simp [this]
    simp [hp,e]
  · have h':i ∈ l:=by
     rcases List.mem_cons.1 h with h | h
     · exact (ha h.symm).elim
     · exact h
    have ih:=count_drop hn.2 h' hp
    rw [List.countP_cons,List.countP_cons,ih]
    have:(a != i) = true:=by simpa using ha
    simp only [this,Bool.and_true]
    omega
def left (ops:Array Oper) (listed:Array Bool):Nat:=(List.range ops.size).countP fun i=>!listed.getD i true
theorem Sched.goes (h : Sched P n ops es s') {fr : Frame} {k : List Item} {cs : List Frame} {ds : List Deferred} {Prot : Nat → Prop} : ∀ (fuel tp : Nat) (listed : Array Bool) (s : St) (Imm : Nat → Prop) (β : Bd) (t : Array Value) (w : World), listed.size = ops.size → left ops listed ≤ fuel → Closed ops (isDone listed) →
    At ops es s' (isDone listed) s → SRel P n Prot Imm β s t w →
    ∃ u D Imm' β' t' w',Steps P (lone (fat fr t ds (.inRegion ops (Region.linearise.go .any ops fuel tp listed []) :: k)) cs w) (lone (fat fr t' ds (.inRegion ops [] :: k)) cs w') ∧ SRel P n Prot Imm' β' u t' w' ∧ (∀ N,Adv N Prot Imm w β s.heap Prot Imm' w' β' u.heap) ∧ At ops es s' D u ∧ ∀ j,j < ops.size → D j:=by
 have alldone:∀ (listed:Array Bool),listed.size = ops.size → Region.ready .any ops listed = [] → ∀ j,j < ops.size → isDone listed j:=by
  intro listed hsz hr j
  induction j using Nat.strongRecOn with
  | _ j ih =>
   intro hj
   by_cases hd:isDone listed j
   · exact hd
   · exfalso
     have hjl:j < listed.size:=by omega
     have:j ∈ Region.ready .any ops listed:=by
      rw [mem_ready]
      refine ⟨?_,ops[j],Array.getElem?_eq_getElem hj,fun e he hb=>?_⟩
      · unfold isDone at hd
        simp only [Array.getD_eq_getD_getElem?,Array.getElem?_eq_getElem hjl,Option.getD_some] at hd ⊢
        simpa using hd
      · have hlt:=h.lower j _ (Array.getElem?_eq_getElem hj) e he hb
        exact ih e.on hlt (by omega)
     rw [hr] at this; simp at this
 intro fuel
 induction fuel with
 | zero =>
  intro tp listed s Imm β t w hsz hl hc hat hrel
  have hr:Region.ready .any ops listed = []:=by
   rw [List.eq_nil_iff_forall_not_mem]
   intro j hj
   rw [mem_ready] at hj
   obtain ⟨hj0,o,ho,_⟩:=hj
   have hjl:j < ops.size:=(Array.getElem?_eq_some_iff.1 ho).1
   have:0 < left ops listed:=by
    unfold left
    rw [List.countP_pos_iff]
    exact ⟨j,by simpa using hjl,by rw [hj0]; rfl⟩
   omega
  exact ⟨s,isDone listed,Imm,β,t,w,by simp only [Region.linearise.go,List.reverse_nil]; exact Steps.refl _ _,hrel,fun _=>Adv.refl _ _ _ _ _ _,hat,alldone listed hsz hr⟩
 | succ fuel ih =>
  intro tp listed s Imm β t w hsz hl hc hat hrel
  have hgo:Region.linearise.go .any ops (fuel + 1) tp listed [] = (match (Region.ready .any ops listed)[tp % (Region.ready .any ops listed).length]? with
   | some i=>Region.linearise.go .any ops fuel (tp / (Region.ready .any ops listed).length) (listed.setIfInBounds i true) [i]
   | none=>[].reverse):=rfl
  rw [hgo]
  cases hi:(Region.ready .any ops listed)[tp % (Region.ready .any ops listed).length]? with
  | none =>
   have hr:Region.ready .any ops listed = []:=by
    cases hr:Region.ready .any ops listed with
    | nil=>rfl
    | cons x xs =>
     rw [hr] at hi
     have hlt:tp % (x :: xs).length < (x :: xs).length:=Nat.mod_lt _ (by simp)
     rw [List.getElem?_eq_getElem hlt] at hi
     cases hi
   exact ⟨s,isDone listed,Imm,β,t,w,Steps.refl _ _,hrel,fun _=>Adv.refl _ _ _ _ _ _,hat,alldone listed hsz hr⟩
  | some i =>
   simp only
   rw [linearise_go_acc,List.reverse_singleton,List.singleton_append]
   have hm:=List.mem_of_getElem? hi
   obtain ⟨hj0,o,ho,hready⟩:=mem_ready.1 hm
   have hil:i < ops.size:=(Array.getElem?_eq_some_iff.1 ho).1
   have hils:i < listed.size:=by omega
   have hnd:¬ isDone listed i:=by
    unfold isDone
    simp only [Array.getD_eq_getD_getElem?,Array.getElem?_eq_getElem hils,Option.getD_some] at hj0 ⊢
    simp [hj0]
   obtain ⟨u,Imm1,β1,t1,w1,a1,a2,a3,a4⟩:=h.run (fr:=fr) (k:=k) (cs:=cs) (ds:=ds) (r:=Region.linearise.go .any ops fuel (tp / (Region.ready .any ops listed).length) (listed.setIfInBounds i true) []) hc ho hnd hready hat hrel
   have hD:(fun j=>isDone listed j ∨ j = i) = isDone (listed.setIfInBounds i true):=by
    funext j
    unfold isDone
    by_cases hji:j = i
    · subst hji
      simp [hils]
    · have:(listed.setIfInBounds i true).getD j false = listed.getD j false:=getD_set_ne false (Ne.symm hji)
      rw [this]; simp [hji]
   rw [hD] at a4
   have hc':Closed ops (isDone (listed.setIfInBounds i true)):=by
    rw [← hD]
    intro j o' ho' hj e he hb
    rcases hj with hj | rfl
    · exact .inl (hc j o' ho' hj e he hb)
    · rw [ho] at ho'; cases ho'
      exact .inl (hready e he hb)
   have hl':left ops (listed.setIfInBounds i true) ≤ fuel:=by
    have hcd:=count_drop (p:=fun j=>!listed.getD j true) (i:=i) (l:=List.range ops.size) List.nodup_range (by simpa using hil) (by show (!listed.getD i true) = true; rw [hj0]; rfl)
    have:left ops (listed.setIfInBounds i true) = (List.range ops.size).countP (fun x=>!listed.getD x true && x != i):=by
     unfold left
     refine List.countP_congr fun x hx=>?_
     by_cases hxi:x = i
     · subst hxi; simp [hils]
     · have:(listed.setIfInBounds i true).getD x true = listed.getD x true:=getD_set_ne true (Ne.symm hxi)
       rw [this]; simp [hxi]
    unfold left at hl
    omega
   obtain ⟨v,D,Imm2,β2,t2,w2,b1,b2,b3,b4,b5⟩:=ih (tp / (Region.ready .any ops listed).length) (listed.setIfInBounds i true) u Imm1 β1 t1 w1 (by simpa using hsz) hl' hc' a4 a2
   exact ⟨v,D,Imm2,β2,t2,w2,a1.trans b1,b2,fun N=>(a3 N).trans (b3 N),b4,b5⟩
theorem fit_spec (h : fit n ops = true) : (∀ j o, ops[j]? = some o → ∀ e ∈ o.after, Region.binds .any e = true → e.on < j) ∧
    (∀ i j u o,i < j → ops[i]? = some u → ops[j]? = some o → tmpClash ops u o = true → reach ops ops.size i j = true):=by
 unfold fit at h
 rw [List.all_eq_true] at h
 constructor
 · intro j o ho e he hb
   have hj:j < ops.size:=(Array.getElem?_eq_some_iff.1 ho).1
   have:=h j (by simpa using hj)
   rw [ho] at this
   simp only [Bool.and_eq_true,List.all_eq_true] at this
   have:=this.1 e (by simpa using he)
   simpa [hb] using this
 · intro i j u o hij hu ho hcl
   have hj:j < ops.size:=(Array.getElem?_eq_some_iff.1 ho).1
   have:=h j (by simpa using hj)
   rw [ho] at this
   simp only [Bool.and_eq_true,List.all_eq_true] at this
   have:=this.2 i (by simpa using hij)
   rw [hu] at this
   simpa [hcl] using this
theorem draw_sound (HS:OpsSound P frz) (hmix:P.follows .mixedOrders = true):DrawSound P frz fit:=by
 intro n N ops fr k cs ds tp K s Prot Imm β t w hfit hok h hrel
 obtain ⟨es,s',h1,h2,h3⟩:=trace_of HS hok ops.toList 0 [] s (fun _ h=>h) h
 obtain ⟨t1,t2,t3⟩:=h1.at
 obtain ⟨_,_,h6⟩:=touches_ok es 0 [] h3
 obtain ⟨f1,f2⟩:=fit_spec (n:=n) hfit
 have hlen:es.length = ops.size:=by simpa using t1
 have hs:Sched P n ops es s':=by
  refine ⟨hlen,fun k o ho=>t3 k o (by simpa using ho),hok,f1,f2,fun i j hij hj hcl=>?_⟩
  have hi:i < es.length:=by omega
  have hj':j < es.length:=by omega
  have ei:es[i]? = some (es[i].1,es[i].2):=by simp [List.getElem?_eq_getElem hi]
  have ej:es[j]? = some (es[j].1,es[j].2):=by simp [List.getElem?_eq_getElem hj']
  have:=h6 i j es[i].1 es[i].2 es[j].1 es[j].2 hij ei ej
  simp only [Nat.zero_add] at this
  refine this ?_
  have gi:stOf es s' i = es[i].1 ∧ effOf es i = es[i].2:=by simp [stOf,effOf,List.getElem?_eq_getElem hi]
  have gj:stOf es s' j = es[j].1 ∧ effOf es j = es[j].2:=by simp [stOf,effOf,List.getElem?_eq_getElem hj']
  rw [gi.1,gi.2,gj.1,gj.2] at hcl
  exact hcl
 have hle:=hs.leN (k:=0) (Nat.zero_le _)
 rw [t2] at hle
 obtain ⟨m,hm⟩:∃ m,m = s'.heap.length - s.heap.length:=⟨_,rfl⟩
 have hrel':=hrel.holes m
 have hadv0:∀ N,Adv N Prot Imm w β s.heap Prot Imm w β (s.heap ++ List.replicate m .hole):=fun N=>⟨fun _ x=>x,fun _ x=>x,fun _ x=>.inl x,Ext.refl _ _ _,(holes_step _ _ _).n,fun x _=>holes_in _ _ x,fun b _ ⟨L,hL⟩=>⟨L,by rw [getElem?_holes,if_pos (List.getElem?_eq_some_iff.1 hL).1]; exact hL⟩⟩
 have hsch:Region.schedule (P.follows .mixedOrders) ops tp = Region.linearise.go .any ops ops.size tp (Array.replicate ops.size false) []:=by
  simp [Region.schedule,hmix,Region.linearise]
 have hnone:∀ i,¬ isDone (Array.replicate ops.size false) i:=by
  intro i hi
  unfold isDone at hi
  by_cases hil:i < ops.size
  · simp [hil] at hi
  · simp [hil] at hi
 have hat:At ops es s' (isDone (Array.replicate ops.size false)) ⟨s.env,s.heap ++ List.replicate m .hole⟩:=by
  refine ⟨fun x=>⟨0,Nat.zero_le _,by rw [t2],fun i o _ _=>⟨fun h=>(hnone i h).elim,fun h=>by omega⟩⟩,by simp; omega,fun b=>⟨0,Nat.zero_le _,by rw [t2]; unfold hx; rw [← hm],fun i _ _=>⟨fun h=>(hnone i h).elim,fun h=>by omega⟩⟩⟩
 have hleft:left ops (Array.replicate ops.size false) ≤ ops.size:=by
  unfold left
  have:=List.countP_le_length (p:=fun i=>!(Array.replicate ops.size false).getD i true) (l:=List.range ops.size)
  simpa using this
 obtain ⟨u,D,Imm',β',t',w',a1,a2,a3,a4,a5⟩:=hs.goes (fr:=fr) (k:=k) (cs:=cs) (ds:=ds) ops.size tp (Array.replicate ops.size false) _ Imm β t w (by simp) hleft (fun j o ho hd=>(hnone j hd).elim) hat hrel'
 rw [hsch]
 have he:∀ x,getE s'.env x = getE u.env x:=by
  intro x
  obtain ⟨k,k1,k2,k3⟩:=a4.tmp x
  rw [k2]
  have:=hs.tmp_two (x:=x) k1 (Nat.le_refl ops.size) (fun i o ho hd=>by
   have hi:i < ops.size:=(Array.getElem?_eq_some_iff.1 ho).1
   have:=(k3 i o ho hd).1 (a5 i hi)
   exact ⟨fun _=>hi,fun _=>this⟩)
  rw [hs.last] at this; exact this
 have hh:s'.heap = u.heap:=by
  apply List.ext_getElem?
  intro b
  obtain ⟨k,k1,k2,k3⟩:=a4.heap b
  rw [k2]
  have:=hs.heap_two (b:=b) k1 (Nat.le_refl ops.size) (fun i hi hw=>by
   have:=(k3 i hi hw).1 (a5 i hi)
   exact ⟨fun _=>hi,fun _=>this⟩)
  rw [hs.last] at this
  rw [← this]; simp [hx]
 exact ⟨s',Imm',β',t',w',h2,a1,a2.congr he hh,(hadv0 N).trans (hh ▸ a3 N)⟩
end
end Go.Abs
namespace Go.Abs
set_option linter.unusedSectionVars false
variable [Gl]
section
variable {P:Program}
structure IsFn (P:Program) (f:FuncId) (fn:Func):Prop where
 func:P.funcs[f]? = some fn
 stat : (fn.body.isSome && (fn.name != "runtime.NumGoroutine") && codeOk fit fn.ntmps (fn.body.getD .skip)) = true
theorem IsFn.enters {f:FuncId} {fn:Func} (h:IsFn P f fn):Enters P f:=by
 intro args w
 have hs:=h.stat
 simp only [Bool.and_eq_true,bne_iff_ne] at hs
 cases hfb:fn.body with
 | none=>rw [hfb] at hs; simp at hs
 | some c=>simp [callFunc,h.func,hs.1.2,hfb]
def Ends (P:Program) (rs:List ResultVar) (v:PV) (e:AExit) (s:St):Prop :=
 (match e with
  | .exit _=>False
  | _=>True) ∧ ∃ vs,resVals P s rs = some vs ∧ purR s.heap 9 (oneOf vs) = some v
theorem good {f : FuncId} {fn : Func} (frz : FuncId → Bool) (h : IsFn P f fn) (hmix : P.follows .mixedOrders = true) {args : List PV} {v : PV} (hn : args.length ≤ fn.ntmps)
    (hwp:codeWP P frz (fn.ntmps,0) (fn.body.getD .skip) (Ends P fn.results.toList v) ⟨argEnv 0 (args.map .p),[]⟩):GoodC P f args v:=by
 have hs:=h.stat
 simp only [Bool.and_eq_true,bne_iff_ne] at hs
 have hb:fn.body = some (fn.body.getD .skip):=by
  have:=hs.1.1
  cases hfb:fn.body <;> simp_all
 exact .inl (goodP_of (ops_are_sound frz) (draw_sound (ops_are_sound frz) hmix) h.enters h.func hb hs.2 hn hwp)
class HasSpec (P:Program) (f:FuncId) (args:List PV) (pre:outParam Prop) (v:outParam PV):Prop where
 good:pre → GoodC P f args v
section calls
variable {f:FuncId} {H:Heap} {pre:Prop} {v:PV}
end calls
def KeepE (e:Env):Env → Prop
 | []=>True
 | (x,v) :: r=>getE e x = v ∧ KeepE e r
def KeepH:Heap → Heap → Prop
 | _,[]=>True
 | [],.hole :: t=>KeepH [] t
 | _ :: h,.hole :: t=>KeepH h t
 | o :: h,o' :: t=>o = o' ∧ KeepH h t
 | [],_ :: _=>False
theorem KeepE.get {e:Env}:∀ {t:Env},KeepE e t → ∀ x,getE t x = getE e x ∨ getE t x = .p .undef
 | [],_,x=>.inr rfl
 | (y,v) :: t,h,x=>by
  simp only [KeepE] at h
  simp only [getE]
  split
  · rename_i hx; subst hx; exact .inl h.1.symm
  · exact KeepE.get h.2 x
theorem KeepH.get:∀ {h t:Heap},KeepH h t → ∀ (b:Nat) (o:Obj),t[b]? = some o → o = .hole ∨ h[b]? = some o
 | _,[],_,b,o,ho=>by simp at ho
 | [],o' :: t,hk,b,o,ho=>by
  cases o' <;> simp only [KeepH] at hk
  cases b with
  | zero=>simp at ho; exact .inl ho.symm
  | succ b=>exact (KeepH.get hk b o (by simpa using ho)).imp id (fun h=>by simp at h)
 | o1 :: h,o' :: t,hk,b,o,ho=>by
  cases b with
  | zero =>
   simp at ho
   cases o' <;> simp only [KeepH] at hk
   case hole=>exact .inl ho.symm
   all_goals exact .inr (by rw [← ho,← hk.1]; simp)
  | succ b =>
   have:KeepH h t:=by cases o' <;> simp only [KeepH] at hk <;> first | exact hk | exact hk.2
   exact (KeepH.get this b o (by simpa using ho)).imp id (fun h=>by simpa using h)
def RefsE (H:Heap):Env → Prop
 | []=>True
 | (_,v) :: r=>refsLt (InH H) v ∧ RefsE H r
def RefsH (H:Heap):Heap → Prop
 | []=>True
 | o :: r=>o.refs (InH H) ∧ RefsH H r
theorem RefsE.get {H:Heap}:∀ {e:Env},RefsE H e → ∀ x,refsLt (InH H) (getE e x)
 | [],_,x=>by simp [getE,refsLt]
 | (y,v) :: e,h,x=>by
  simp only [RefsE] at h
  simp only [getE]
  split
  · exact h.1
  · exact RefsE.get h.2 x
theorem RefsH.get {H:Heap}:∀ {h:Heap},RefsH H h → ∀ (b:Nat) (o:Obj),h[b]? = some o → o.refs (InH H)
 | [],_,b,o,ho=>by simp at ho
 | o1 :: h,hr,b,o,ho=>by
  simp only [RefsH] at hr
  cases b with
  | zero=>simp at ho; subst ho; exact hr.1
  | succ b=>exact RefsH.get hr.2 b o (by simpa using ho)
theorem Forget.of {s t:St} (he:KeepE s.env t.env) (hh:KeepH s.heap t.heap) (hr:RefsE t.heap t.env) (hr2:RefsH t.heap t.heap):Forget s t :=
 ⟨fun x=>(he.get x).imp id .inl,fun b o ho=>(hh.get b o ho).imp id .inl,hr.get,hr2.get⟩
theorem ForgetN.of {N:Nat} {s t:St} (hn:t.heap.take N = s.heap.take N) (he:KeepE s.env t.env) (hh:KeepH s.heap t.heap) (hr:RefsE t.heap t.env) (hr2:RefsH t.heap t.heap):ForgetN N s t:=by
 refine .inr ⟨Forget.of he hh hr hr2,fun b hb=>?_⟩
 have:=congrArg (fun l:Heap=>l[b]?) hn
 simpa [List.getElem?_take,hb] using this
theorem goodI {f : FuncId} {fn : Func} (frz : FuncId → Bool) (h : IsFn P f fn) (hmix : P.follows .mixedOrders = true) {args : List AV} {H H' : Heap} {v : AV} (hn : args.length ≤ fn.ntmps)
    (hwp:codeWP P frz (fn.ntmps,H.length) (fn.body.getD .skip) (EndsI P fn.results.toList H.length H' v) ⟨argEnv 0 args,H⟩):GoodI P f H args H' v:=by
 have hs:=h.stat
 simp only [Bool.and_eq_true,bne_iff_ne] at hs
 have hb:fn.body = some (fn.body.getD .skip):=by
  have:=hs.1.1
  cases hfb:fn.body <;> simp_all
 exact goodI_of (ops_are_sound frz) (draw_sound (ops_are_sound frz) hmix) h.enters h.func hb hs.2 hn hwp
theorem goodY (frz : FuncId → Bool) (hmix : P.follows .mixedOrders = true) {b : Nat} {L : LoopA} {H H' : Heap} {args : List AV} {v : AV} (hb : H[b]? = some (.loop L)) (hlen : args.length = L.params.length)
    (hok:(L.params.all (fun x=>decide (x < L.n)) && codeOk fit L.n L.assign && codeOk fit L.n L.body) = true) (hwp:roundWP P frz L b args H (fun H2 v2=>v2 = v ∧ ForgetN H.length ⟨[],H2⟩ ⟨[],H'⟩)):GoodY P b H args H' v:=by
 simp only [Bool.and_eq_true,List.all_eq_true,decide_eq_true_eq] at hok
 exact goodY_of (ops_are_sound frz) (draw_sound (ops_are_sound frz) hmix) hb hlen hok.1.1 hok.1.2 hok.2 hwp
theorem again {N:Nat} {α:Type} {mk:α → St} {ok:α → Prop} {m:α → Nat} {n:Nat} {s':St} (a':α) (h1:m a' < n) (h2:ok a') (h3:ForgetN N s' (mk a')):∃ m' t',m' < n ∧ ForgetN N s' t' ∧ ∃ a',ok a' ∧ t' = mk a' ∧ m' = m a' :=
 ⟨m a',mk a',h1,h3,a',h2,rfl,rfl⟩
end
end Go.Abs
namespace Go.Abs
set_option linter.unusedSectionVars false
variable [Gl]
section
variable {P:Program} {frz:FuncId → Bool}
def Sing {α:Type} (F:(α → Prop) → Prop):Prop:=∀ K,F K → ∃ a,K a ∧ ∀ K':α → Prop,K' a → F K'
theorem Sing.one {α β:Type} (f:β → α) (b:β):Sing (fun K:α → Prop=>K (f b)):=fun _ h=>⟨f b,h,fun _ h=>h⟩
theorem Sing.false {α:Type}:Sing (fun _:α → Prop=>False):=fun _ h=>h.elim
theorem Sing.and {α:Type} {p:Prop} {F:(α → Prop) → Prop} (h:Sing F):Sing (fun K=>p ∧ F K):=fun K hk=>by
 obtain ⟨a,h1,h2⟩:=h K hk.2
 exact ⟨a,h1,fun K' h=>⟨hk.1,h2 K' h⟩⟩
theorem Sing.ex {α:Type} {β:Sort _} {F:β → (α → Prop) → Prop} (h:∀ b,Sing (F b)):Sing (fun K=>∃ b,F b K):=fun K ⟨b,hb⟩=>by
 obtain ⟨a,h1,h2⟩:=h b K hb
 exact ⟨a,h1,fun K' h=>⟨b,h2 K' h⟩⟩
theorem Sing.or {α:Type} {F G:(α → Prop) → Prop} (h:Sing F) (h':Sing G):Sing (fun K=>F K ∨ G K):=fun K hk=>by
 rcases hk with hk | hk
 · obtain ⟨a,h1,h2⟩:=h K hk; exact ⟨a,h1,fun K' h=>.inl (h2 K' h)⟩
 · obtain ⟨a,h1,h2⟩:=h' K hk; exact ⟨a,h1,fun K' h=>.inr (h2 K' h)⟩
theorem Sing.ite {α:Type} {p:Prop} [Decidable p] {F G:(α → Prop) → Prop} (h:Sing F) (h':Sing G):Sing (fun K=>if p then F K else G K):=fun K hk=>by
 split at hk
 · rename_i hp; obtain ⟨a,h1,h2⟩:=h K hk; exact ⟨a,h1,fun K' h=>by simpa [hp] using h2 K' h⟩
 · rename_i hp; obtain ⟨a,h1,h2⟩:=h' K hk; exact ⟨a,h1,fun K' h=>by simpa [hp] using h2 K' h⟩
theorem Sing.bind {α β:Type} {F:(α → Prop) → Prop} {G:α → (β → Prop) → Prop} (h:Sing F) (h':∀ a,Sing (G a)):Sing (fun K=>F (fun a=>G a K)):=fun K hk=>by
 obtain ⟨a,h1,h2⟩:=h _ hk
 obtain ⟨b,h3,h4⟩:=h' a K h1
 exact ⟨b,h3,fun K' h=>h2 _ (h4 K' h)⟩
theorem Sing.map {α β:Type} {F:(α → Prop) → Prop} (h:Sing F) (f:α → β):Sing (fun K=>F (fun a=>K (f a))):=h.bind fun a=>Sing.one f a
theorem sing_load (T:TypeId) (H:Heap) (a:AV):Sing (loadWP P T H a):=by
 unfold loadWP
 repeat' first
  | exact Sing.false
  | exact Sing.one id _
  | refine Sing.and ?_
  | refine Sing.ex fun _=>?_
  | split
theorem sing_store (T:TypeId) (H:Heap) (a x:AV):Sing (storeWP P T H a x):=by
 unfold storeWP
 repeat' first
  | exact Sing.false
  | exact Sing.one id _
  | refine Sing.and ?_
  | refine Sing.ex fun _=>?_
  | split
theorem sing_fieldAddr (T:TypeId) (a:AV) (f:Nat):Sing (fieldAddrWP P T a f):=by
 unfold fieldAddrWP
 repeat' first
  | exact Sing.false
  | exact Sing.one id _
  | refine Sing.and ?_
  | refine Sing.ex fun _=>?_
  | split
theorem sing_indexAddr (T:TypeId) (H:Heap) (a i:AV):Sing (indexAddrWP P T H a i):=by
 unfold indexAddrWP
 repeat' first
  | exact Sing.false
  | exact Sing.one id _
  | refine Sing.and ?_
  | refine Sing.ex fun _=>?_
  | split
theorem sing_append (T X:TypeId) (H:Heap) (s x:AV):Sing (appendWP P T X H s x):=by
 unfold appendWP
 repeat' first
  | exact Sing.false
  | exact Sing.one id _
  | refine Sing.and ?_
  | refine Sing.ex fun _=>?_
  | refine Sing.ite ?_ ?_
  | split
theorem sing_bnd {α:Type} {F:Nat → (α → Prop) → Prop} (x:Option AV) (d:Nat) (h:∀ n,Sing (F n)):Sing (fun K=>sliceBnd x d (fun n=>F n K)):=by
 unfold sliceBnd
 split
 · exact h _
 · exact Sing.and (h _)
 · exact Sing.false
theorem sing_slice (T:TypeId) (H:Heap) (x:AV) (lo hi mx:Option AV):Sing (sliceWP P T H x lo hi mx):=by
 unfold sliceWP
 refine Sing.and ?_
 repeat' first
  | exact Sing.false
  | exact Sing.one id _
  | refine Sing.and ?_
  | refine sing_bnd _ _ fun _=>?_
  | refine Sing.ite ?_ ?_
  | split
theorem sing_sliceM (T:TypeId) (H:Heap) (x:AV) (lo hi:Option AV) (m:AV):Sing (sliceMWP P T H x lo hi m):=by
 unfold sliceMWP
 repeat' first
  | exact Sing.false
  | exact Sing.one id _
  | refine Sing.and ?_
  | refine sing_bnd _ _ fun _=>?_
  | split
theorem sing_bin (op:BinOp) (T:TypeId) (c:Bool) (H:Heap) (x y:AV) (f:PV → Eff):Sing (fun K:Eff → Prop=>binWP P op T c H x y (fun v=>K (f v))):=by
 unfold binWP
 repeat' first
  | exact Sing.false
  | exact Sing.one f _
  | refine Sing.and ?_
  | (unfold intOp; split)
  | (unfold strOp; split)
  | split
theorem sing_op (o:Oper) (ρ:Operand → AV) (H:Heap):Sing (opEff P frz o ρ H):=by
 unfold opEff
 repeat' first
  | exact Sing.false
  | exact Sing.one id _
  | exact sing_load _ _ _
  | exact sing_store _ _ _ _
  | exact sing_fieldAddr _ _ _
  | exact sing_indexAddr _ _ _ _
  | exact sing_slice _ _ _ _ _ _
  | exact sing_sliceM _ _ _ _ _ _
  | exact sing_append _ _ _ _ _
  | exact sing_bin _ _ _ _ _ _ _
  | refine Sing.and ?_
  | refine Sing.ex fun _=>?_
  | refine Sing.ite ?_ ?_
  | refine Sing.or ?_ ?_
  | split
  | dsimp only
theorem sing_call (d:Bool) (f:FuncId) (args:List AV) (H:Heap) {α:Type} (g:AV → Heap → α):Sing (fun K:α → Prop=>CallWP P d f args H (fun v H'=>K (g v H'))):=by
 unfold CallWP
 refine Sing.or (Sing.ex fun vs=>Sing.ex fun v=>Sing.and (Sing.and ?_)) (Sing.and (Sing.or (Sing.ex fun vs=>Sing.ex fun H1=>Sing.ex fun v=>Sing.and (Sing.and ?_)) (Sing.or (Sing.ex fun H'=>Sing.ex fun v=>Sing.and ?_) (Sing.or (Sing.ex fun e=>Sing.and (Sing.and ?_)) (Sing.ex fun hin=>Sing.ex fun v=>Sing.and (Sing.and ?_))))))
 · exact Sing.one (fun v=>g (.p v) H) v
 · exact Sing.one (fun v=>g (.p v) H1) v
 · exact Sing.one (fun v=>g v H') v
 · exact Sing.one (fun _:Unit=>g e.v (setAll H e.hset ++ e.hnew)) ()
 · exact Sing.one (fun v=>g (.p v) H) v
theorem sing_callE (f:FuncId) (args:List AV) (H:Heap):Sing (CallE P f args H):=by
 unfold CallE
 refine Sing.or (Sing.ex fun vs=>Sing.ex fun v=>Sing.and (Sing.and (Sing.one id _))) (Sing.or (Sing.ex fun vs=>Sing.ex fun bs=>Sing.ex fun hin=>Sing.ex fun hset=>Sing.ex fun v=>Sing.and (Sing.and (Sing.and (Sing.one id _)))) (Sing.or (Sing.ex fun e=>Sing.and (Sing.and (Sing.one id _))) (Sing.ex fun hin=>Sing.ex fun v=>Sing.and (Sing.and (Sing.one id _)))))
theorem sing_opWP (d:Bool) (o:Oper) (s:St):Sing (fun K=>opWP P frz d o K s):=by
 unfold opWP
 split
 · split
   · exact sing_call _ _ _ _ (fun v H'=>(⟨put o.dst v s.env,H'⟩:St))
   · exact sing_call _ _ _ _ (fun v H'=>(⟨put o.dst v s.env,H'⟩:St))
   · exact Sing.ex fun H'=>Sing.ex fun v=>Sing.and (Sing.one (fun _:Unit=>(⟨put o.dst v s.env,H'⟩:St)) ())
   · exact Sing.false
 · exact (sing_op o _ _).map (fun e=>e.app o.dst s)
theorem sing_effD (o:Oper) (s:St):Sing (effD P frz o s):=by
 unfold effD
 split
 · split
   · exact sing_callE _ _ _
   · exact sing_callE _ _ _
   · exact Sing.false
 · exact sing_op o _ _
theorem sing_ops (d:Bool) (ops:Array Oper):∀ (l:List Oper) (s:St),Sing (fun K=>opsWP P frz d ops l K s)
 | [],s=>by simp only [opsWP]; exact Sing.one id s
 | o :: l,s=>by
  have go:Sing (fun K=>opWP P frz d o (opsWP P frz d ops l K) s):=(sing_opWP d o s).bind fun t=>sing_ops d ops l t
  simp only [opsWP]
  split
  · exact go
  · split
    · split
      · exact go
      · exact sing_ops d ops l _
    · exact sing_ops d ops l _
    · exact Sing.false
theorem sing_opsd (ops:Array Oper):∀ (l:List Oper) (i:Nat) (acc:List Touch) (s:St),Sing (fun K=>opsWPd P frz ops l i acc K s)
 | [],i,acc,s=>by simp only [opsWPd]; exact Sing.and (Sing.one id s)
 | o :: l,i,acc,s=>by
  have go:Sing (fun K=>effD P frz o s fun e=>opsWPd P frz ops l (i + 1) (touch i s.heap.length e acc) K (e.app o.dst s)):=(sing_effD o s).bind fun e=>sing_opsd ops l (i + 1) _ _
  simp only [opsWPd]
  split
  · exact go
  · split
    · split
      · exact go
      · exact sing_opsd ops l (i + 1) acc _
    · exact sing_opsd ops l (i + 1) acc _
    · exact Sing.false
def Sing2 (F:(AExit → St → Prop) → Prop):Prop:=∀ Q,F Q → ∃ e s,Q e s ∧ ∀ Q':AExit → St → Prop,Q' e s → F Q'
inductive LoopTo (P:Program) (frz:FuncId → Bool) (q:Cx) (b:Code) (e:AExit) (s:St):Nat → St → Prop
 | stop {k:Nat} {u:St}:(∀ Q:AExit → St → Prop,Q e s → codeWP P frz q b Q u) → e ≠ .normal → LoopTo P frz q b e s k u
 | step {k m:Nat} {u s1 u':St}:(∀ Q:AExit → St → Prop,Q .normal s1 → codeWP P frz q b Q u) → m < k → ForgetN q.2 s1 u' → LoopTo P frz q b e s m u' → LoopTo P frz q b e s k u
theorem sing_jump (j:Option Code) (s:St):Sing2 (fun Q=>jumpQ Q j s):=fun Q h=>by
 unfold jumpQ at h
 split at h
 · exact ⟨.normal,s,h,fun _ h=>h⟩
 · rename_i id; exact ⟨.exit id,s,h,fun _ h=>h⟩
 · exact ⟨.ret,s,h,fun _ h=>h⟩
 · exact h.elim
theorem sing_over (b:Nat) (env:Env) (H:Heap):Sing2 (fun Q=>overWP b env Q H):=fun Q h=>by
 unfold overWP at h
 split at h
 · rename_i L hL
   obtain ⟨e,s,h1,h2⟩:=sing_jump _ _ Q h.2
   exact ⟨e,s,h1,fun Q' hq=>by unfold overWP; simp only [hL]; exact ⟨h.1,h2 Q' hq⟩⟩
 · exact h.elim
theorem sing_iter (it:AV) (b:Nat) (H:Heap) (env:Env):Sing2 (fun Q=>iterWP P it b H (overWP b env Q)):=fun Q h=>by
 unfold iterWP at h
 split at h
 · obtain ⟨H',v,h1,h2⟩:=h
   obtain ⟨e,s,k1,k2⟩:=sing_over b env H' Q h2
   exact ⟨e,s,k1,fun Q' hq=>by simp only [iterWP]; exact ⟨H',v,h1,k2 Q' hq⟩⟩
 · obtain ⟨H',v,h1,h2⟩:=h
   obtain ⟨e,s,k1,k2⟩:=sing_over b env H' Q h2
   exact ⟨e,s,k1,fun Q' hq=>by simp only [iterWP]; exact ⟨H',v,h1,k2 Q' hq⟩⟩
 · exact h.elim
theorem sing_code {q:Cx}:∀ (c:Code) (s:St),Sing2 (fun Q=>codeWP P frz q c Q s)
 | .skip,s | .label _,s=>fun Q h=>⟨.normal,s,h,fun _ h=>h⟩
 | .exit id,s=>fun Q h=>⟨.exit id,s,h,fun _ h=>h⟩
 | .ret,s=>fun Q h=>⟨.ret,s,h,fun _ h=>h⟩
 | .region id ops draw,s=>fun Q h=>by
  simp only [codeWP] at h ⊢
  split at h
  · rename_i hd
    obtain ⟨t,h1,h2⟩:=sing_opsd ops _ _ _ _ _ h
    exact ⟨.normal,t,h1,fun Q' h=>by simp only [hd,if_true]; exact h2 _ h⟩
  · rename_i hd
    obtain ⟨t,h1,h2⟩:=sing_ops _ ops _ _ _ h
    exact ⟨.normal,t,h1,fun Q' h=>by rw [if_neg hd]; exact h2 _ h⟩
 | .seq a b,s=>fun Q h=>by
  simp only [codeWP] at h ⊢
  obtain ⟨e,t,h1,h2⟩:=sing_code a s _ h
  cases e with
  | normal =>
   obtain ⟨e',t',h3,h4⟩:=sing_code b t _ h1
   exact ⟨e',t',h3,fun Q' h=>h2 _ (h4 Q' h)⟩
  | exit id=>exact ⟨.exit id,t,h1,fun Q' h=>h2 _ h⟩
  | ret=>exact ⟨.ret,t,h1,fun Q' h=>h2 _ h⟩
 | .cond c a b,s=>fun Q h=>by
  simp only [codeWP] at h ⊢
  split at h
  · split at h
    · rename_i ht
      obtain ⟨e,t,h1,h2⟩:=sing_code a s _ h
      exact ⟨e,t,h1,fun Q' h=>by rw [if_pos ht]; exact h2 _ h⟩
    · rename_i ht
      obtain ⟨e,t,h1,h2⟩:=sing_code b s _ h
      exact ⟨e,t,h1,fun Q' h=>by rw [if_neg ht]; exact h2 _ h⟩
  · exact h.elim
 | .block id b,s=>fun Q h=>by
  simp only [codeWP] at h ⊢
  obtain ⟨e,t,h1,h2⟩:=sing_code b s _ h
  cases e with
  | normal=>exact ⟨.normal,t,h1,fun Q' h=>h2 _ h⟩
  | exit i =>
   by_cases hi:i = id
   · simp only [hi,if_true] at h1
     exact ⟨.normal,t,h1,fun Q' h=>h2 _ (by simp only [hi,if_true]; exact h)⟩
   · simp only [hi,if_false] at h1
     exact ⟨.exit i,t,h1,fun Q' h=>h2 _ (by simp only [hi,if_false]; exact h)⟩
  | ret=>exact ⟨.ret,t,h1,fun Q' h=>h2 _ h⟩
 | .scope b,s=>fun Q h=>by simp only [codeWP] at h ⊢; exact sing_code b s Q h
 | .loop b,s=>fun Q h=>by
  simp only [codeWP] at h ⊢
  obtain ⟨I,⟨n0,t0,hf,hI⟩,hround⟩:=h
  have key:∀ (n:Nat) (t:St),I n t → ∃ e u,Q e u ∧ e ≠ .normal ∧ LoopTo P frz q b e u n t:=by
   intro n
   induction n using Nat.strongRecOn with
   | _ n ih =>
    intro t hI
    obtain ⟨e,s1,h1,h2⟩:=sing_code b t _ (hround n t hI)
    cases e with
    | normal =>
     obtain ⟨m,t',hlt,hf',hI'⟩:=h1
     obtain ⟨e,u,k1,k2,k3⟩:=ih m hlt t' hI'
     exact ⟨e,u,k1,k2,.step h2 hlt hf' k3⟩
    | exit id=>exact ⟨.exit id,s1,h1,by simp,.stop h2 (by simp)⟩
    | ret=>exact ⟨.ret,s1,h1,by simp,.stop h2 (by simp)⟩
  obtain ⟨e,u,h1,h2,h3⟩:=key n0 t0 hI
  refine ⟨e,u,h1,fun Q' hQ=>⟨LoopTo P frz q b e u,⟨n0,t0,hf,h3⟩,?_⟩⟩
  intro n t hl
  cases hl with
  | stop hs hne =>
   refine hs _ ?_
   cases e with
   | normal=>exact (hne rfl).elim
   | exit id=>exact hQ
   | ret=>exact hQ
  | step hs hlt hf' hl'=>exact hs _ ⟨_,_,hlt,hf',hl'⟩
 | .rangeFunc f ps a b,s=>fun Q h=>by
  simp only [codeWP] at h
  obtain ⟨hN,env',he,h⟩:=h
  obtain ⟨e,t,h1,h2⟩:=sing_iter _ _ _ _ Q h
  exact ⟨e,t,h1,fun Q' hq=>by simp only [codeWP]; exact ⟨hN,env',he,h2 Q' hq⟩⟩
 | .goto _,_ | .refuse _,_=>fun Q h=>by simp [codeWP] at h
def Spec (P:Program) (f:FuncId) (args:List PV) (Q:PV → Prop):Prop:=∃ v,GoodC P f args v ∧ Q v
def EndsQ (P:Program) (rs:List ResultVar) (Q:PV → Prop) (e:AExit) (s:St):Prop :=
 (match e with
  | .exit _=>False
  | _=>True) ∧ ∃ vs,resVals P s rs = some vs ∧ ∃ v,purR s.heap 9 (oneOf vs) = some v ∧ Q v
theorem Spec.mono {f:FuncId} {args:List PV} {Q Q':PV → Prop} (h:Spec P f args Q) (hq:∀ v,Q v → Q' v):Spec P f args Q':=by
 obtain ⟨v,h1,h2⟩:=h
 exact ⟨v,h1,hq v h2⟩
end
end Go.Abs
namespace Go.Abs
set_option linter.unusedSectionVars false
variable [Gl]
def blockQ (id:Nat) (Q:AExit → St → Prop) (e:AExit) (s:St):Prop :=
 match e with
 | .exit i=>if i = id then Q .normal s else Q (.exit i) s
 | e=>Q e s
theorem blockQ_normal {id:Nat} {Q:AExit → St → Prop} {s:St}:blockQ id Q .normal s = Q .normal s:=(rfl)
theorem blockQ_exit {id i:Nat} {Q:AExit → St → Prop} {s:St}:blockQ id Q (.exit i) s = if i = id then Q .normal s else Q (.exit i) s:=(rfl)
theorem blockQ_ret {id:Nat} {Q:AExit → St → Prop} {s:St}:blockQ id Q .ret s = Q .ret s:=(rfl)
def roundQ (N n:Nat) (I:Nat → St → Prop) (Q:AExit → St → Prop) (e:AExit) (s:St):Prop :=
 match e with
 | .normal=>∃ m' t',m' < n ∧ ForgetN N s t' ∧ I m' t'
 | e=>Q e s
theorem roundQ_normal {N n:Nat} {I:Nat → St → Prop} {Q:AExit → St → Prop} {s:St}:roundQ N n I Q .normal s = ∃ m' t',m' < n ∧ ForgetN N s t' ∧ I m' t':=(rfl)
theorem roundQ_exit {N n id:Nat} {I:Nat → St → Prop} {Q:AExit → St → Prop} {s:St}:roundQ N n I Q (.exit id) s = Q (.exit id) s:=(rfl)
theorem roundQ_ret {N n:Nat} {I:Nat → St → Prop} {Q:AExit → St → Prop} {s:St}:roundQ N n I Q .ret s = Q .ret s:=(rfl)
section congrs
variable {P:Program}
end congrs
end Go.Abs
namespace Go.Abs
set_option linter.unusedSectionVars false
variable [Gl]
section
variable {P:Program} {frz:FuncId → Bool}
abbrev Res:=Option (Prop × Eff)
def runR (r:Res) (K:Eff → Prop):Prop :=
 match r with
 | some (p,e)=>p ∧ K e
 | none=>False
theorem runR_some {p:Prop} {e:Eff} {K:Eff → Prop}:runR (some (p,e)) K = (p ∧ K e):=(rfl)
theorem runR_none {K:Eff → Prop}:runR none K = False:=(rfl)
@[congr] theorem runR_congr {r r':Res} {K:Eff → Prop} (h:r = r'):runR r K = runR r' K:=by rw [h]
def Can (F:(Eff → Prop) → Prop) (r:Res):Prop:=∀ K,runR r K → F K
theorem Can.none {F:(Eff → Prop) → Prop}:Can F none:=fun _ h=>h.elim
def loadV (P:Program) (T:TypeId) (H:Heap) (a:AV):Res :=
 match a with
 | .ptr b path=>match H[b]? with
  | some (.box fz t)=>match subA t path with
   | some s=>some (kindOf P T = shpA s,{ v:=s,hin:=[(b,.box fz t)] })
   | none=>none
  | _=>none
 | .eptr b ver esz i path=>match H[b]? with
  | some (.arr k ver' esz' es)=>match es[i]? with
   | some x=>match subA x path with
    | some s=>some ((ver = ver' ∧ esz = esz') ∧ kindOf P T = shpA s,{ v:=s,hin:=[(b,.arr k ver' esz' es)] })
    | none=>none
   | none=>none
  | _=>none
 | .p (.fptr t)=>some (kindOf P T = shp t,{ v:=.p t })
 | _=>none
theorem can_load {T:TypeId} {H:Heap} {a:AV}:Can (loadWP P T H a) (loadV P T H a):=by
 intro K h
 unfold loadV at h
 unfold loadWP
 split at h
 · split at h
   · rename_i hob
     split at h
     · rename_i hs; simp only [runR] at h; simp only [hob,hs]; exact h
     · exact h.elim
   · exact h.elim
 · split at h
   · rename_i hob
     split at h
     · rename_i x hx
       obtain ⟨hi,hx⟩:=List.getElem?_eq_some_iff.1 hx
       split at h
       · rename_i hs
         simp only [runR] at h
         simp only [hob]
         exact ⟨h.1.1.1,h.1.1.2,hi,by rw [hx,hs]; exact ⟨h.1.2,h.2⟩⟩
       · exact h.elim
     · exact h.elim
   · exact h.elim
 · exact h
 · exact h.elim
def storeV (P:Program) (T:TypeId) (H:Heap) (a x:AV):Res :=
 match a with
 | .ptr b path=>match H[b]? with
  | some (.box false t)=>match subA t path,setA t path x with
   | some s,some t'=>some ((kindOf P T = shpA x ∧ shpA x ≠ .bad) ∧ shpA s = shpA x,{ v:=.p (.tup []),hin:=[(b,.box false t)],hset:=[(b,.box false t')] })
   | _,_=>none
  | _=>none
 | .eptr b ver esz i path=>match H[b]? with
  | some (.arr k ver' esz' es)=>match es[i]? with
   | some y=>match subA y path,setA y path x with
    | some s,some t'=>some ((kindOf P T = shpA x ∧ shpA x ≠ .bad) ∧ (ver = ver' ∧ esz = esz' ∧ k ≠ .frozen) ∧ shpA s = shpA x,{ v:=.p (.tup []),hin:=[(b,.arr k ver' esz' es)],hset:=[(b,.arr k ver' esz' (es.set i t'))] })
    | _,_=>none
   | none=>none
  | _=>none
 | _=>none
theorem can_store {T:TypeId} {H:Heap} {a x:AV}:Can (storeWP P T H a x) (storeV P T H a x):=by
 intro K h
 unfold storeV at h
 unfold storeWP
 split at h
 · split at h
   · rename_i hob
     split at h
     · rename_i hs hs2; simp only [runR] at h; simp only [hob,hs,hs2]; exact ⟨h.1.1.1,h.1.1.2,h.1.2,h.2⟩
     · exact h.elim
   · exact h.elim
 · split at h
   · rename_i hob
     split at h
     · rename_i y hy
       obtain ⟨hi,hy⟩:=List.getElem?_eq_some_iff.1 hy
       split at h
       · rename_i hs hs2
         simp only [runR] at h
         simp only [hob]
         exact ⟨h.1.1.1,h.1.1.2,h.1.2.1.1,h.1.2.1.2.1,h.1.2.1.2.2,hi,by rw [hy,hs,hs2]; exact ⟨h.1.2.2,h.2⟩⟩
       · exact h.elim
     · exact h.elim
   · exact h.elim
 · exact h.elim
def fieldAddrV (P:Program) (T:TypeId) (a:AV) (f:Nat):Res :=
 match structT P T with
 | some (u,n)=>match a with
  | .ptr b path=>some (f < n,{ v:=.ptr b (path ++ [(u,f)]) })
  | .eptr b ver esz i path=>some (f < n,{ v:=.eptr b ver esz i (path ++ [(u,f)]) })
  | .p (.fptr t)=>match (flds t)[f]? with
   | some g=>some (f < n ∧ shp t = .agg u,{ v:=.p (.fptr g) })
   | none=>none
  | _=>none
 | _=>none
theorem can_fieldAddr {T:TypeId} {a:AV} {f:Nat}:Can (fieldAddrWP P T a f) (fieldAddrV P T a f):=by
 intro K h
 unfold fieldAddrV at h
 unfold fieldAddrWP
 split at h
 · rename_i hs
   simp only [hs]
   split at h
   · exact h
   · exact h
   · split at h
     · rename_i hg; simp only [runR] at h; simp only [hg]; exact ⟨h.1.1,h.1.2,h.2⟩
     · exact h.elim
   · exact h.elim
 · exact h.elim
def indexAddrV (P:Program) (T:TypeId) (H:Heap) (x i:AV):Res :=
 match i with
 | .p (.int _ i)=>match x with
  | .p (.lst _ es)=>match es[i.toNat]? with
   | some y=>some (0 ≤ i ∧ elemOk P T = some (shpSize P (shp y)),{ v:=.p (.fptr y) })
   | none=>none
  | .p (.seq es)=>match es[i.toNat]? with
   | some y=>some (0 ≤ i ∧ elemOk P T = some (shpSize P (shp y)),{ v:=.p (.fptr y) })
   | none=>none
  | .sl b ver esz off len=>match H[b]? with
   | some (.arr k ver' esz' es)=>some (0 ≤ i ∧ elemOk P T = some esz ∧ i.toNat < len ∧ ver = ver' ∧ esz = esz' ∧ ¬ (k.gr = true ∧ es = []),{ v:=.eptr b ver esz (off + i.toNat) [],hin:=[(b,.arr k ver' esz' es)] })
   | _=>none
  | .ptr b path=>match arrT P T with
   | some (u,n)=>some (0 ≤ i ∧ i.toNat < n,{ v:=.ptr b (path ++ [(u,i.toNat)]) })
   | _=>none
  | .eptr b ver esz j path=>match arrT P T with
   | some (u,n)=>some (0 ≤ i ∧ i.toNat < n,{ v:=.eptr b ver esz j (path ++ [(u,i.toNat)]) })
   | _=>none
  | .p (.fptr t)=>match arrT P T with
   | some (u,n)=>match (flds t)[i.toNat]? with
    | some g=>some (0 ≤ i ∧ shp t = .agg u ∧ i.toNat < n,{ v:=.p (.fptr g) })
    | none=>none
   | _=>none
  | _=>none
 | _=>none
theorem can_indexAddr {T:TypeId} {H:Heap} {x i:AV}:Can (indexAddrWP P T H x i) (indexAddrV P T H x i):=by
 intro K h
 unfold indexAddrV at h
 unfold indexAddrWP
 split at h
 case h_2=>exact h.elim
 split at h
 · split at h
   · rename_i y hy
     obtain ⟨hi,hy⟩:=List.getElem?_eq_some_iff.1 hy
     simp only [runR] at h
     exact ⟨h.1.1,hi,by rw [hy]; exact h.1.2,by rw [hy]; exact h.2⟩
   · exact h.elim
 · split at h
   · rename_i y hy
     obtain ⟨hi,hy⟩:=List.getElem?_eq_some_iff.1 hy
     simp only [runR] at h
     exact ⟨h.1.1,hi,by rw [hy]; exact h.1.2,by rw [hy]; exact h.2⟩
   · exact h.elim
 · split at h
   · rename_i hob
     simp only [runR] at h
     obtain ⟨⟨h1,h2,h3,h4,h5,h6⟩,h7⟩:=h
     refine ⟨h1,h2,h3,?_⟩
     rw [hob]
     exact ⟨h4,h5,h6,h7⟩
   · exact h.elim
 · split at h
   · rename_i hs; simp only [runR] at h; simp only [hs]; exact ⟨h.1.1,h.1.2,h.2⟩
   · exact h.elim
 · split at h
   · rename_i hs; simp only [runR] at h; simp only [hs]; exact ⟨h.1.1,h.1.2,h.2⟩
   · exact h.elim
 · split at h
   · rename_i hs
     split at h
     · rename_i hg; simp only [runR] at h; simp only [hs,hg]; exact ⟨h.1.1,h.1.2.1,h.1.2.2,h.2⟩
     · exact h.elim
   · exact h.elim
 · exact h.elim
end
end Go.Abs
namespace Go.Abs
set_option linter.unusedSectionVars false
variable [Gl]
section
variable {P:Program} {frz:FuncId → Bool}
def appendV (P:Program) (T X:TypeId) (H:Heap) (s x:AV):Res :=
 match elemOk P T,elemsOf H x with
 | some sz,some xs=>match s with
  | .p .nsl => some ((appTy P X = true ∧ (tzero P (elemType P T)).isSome = true ∧ allShp P sz xs) ∧ xs.length ≤ maxL,
      if xs.isEmpty then { v:=s,hin:=readsOf H x } else { v:=.sl H.length 0 sz 0 xs.length,hin:=readsOf H x,hnew:=[.arr (gk P T) 0 sz xs] })
  | .sl b ver esz off len=>match H[b]? with
   | some (.arr k ver' esz' es) => some ((appTy P X = true ∧ (tzero P (elemType P T)).isSome = true ∧ allShp P sz xs) ∧ (ver = ver' ∧ esz = esz' ∧ esz = sz ∧ off + len ≤ es.length) ∧ es.length + xs.length ≤ maxL ∧ k ≠ .frozen ∧ (k ≠ .exact → off = 0) ∧ (k = .bytes → elemType P T = Gl.u8),
       if xs.isEmpty then { v:=s,hin:=(b,.arr k ver' esz' es) :: readsOf H x }
       else match k with
        | .exact => if off + len + xs.length ≤ es.length then
            { v:=.sl b ver esz off (len + xs.length),hin:=(b,.arr k ver' esz' es) :: readsOf H x,hset:=[(b,.arr .exact ver esz (es.take (off + len) ++ xs ++ es.drop (off + len + xs.length)))] }
         else { v:=.sl H.length 0 sz 0 (len + xs.length),hin:=(b,.arr k ver' esz' es) :: readsOf H x,hnew:=[.arr (gk P T) 0 sz ((es.drop off).take len ++ xs)] }
        | _=>{ v:=.sl b (ver + 1) esz 0 (len + xs.length),hin:=(b,.arr k ver' esz' es) :: readsOf H x,hset:=[(b,.arr k (ver + 1) esz (es.take len ++ xs))] })
   | _=>none
  | _=>none
 | _,_=>none
theorem can_append {T X:TypeId} {H:Heap} {s x:AV}:Can (appendWP P T X H s x) (appendV P T X H s x):=by
 intro K h
 unfold appendV at h
 unfold appendWP
 split at h
 case h_2=>exact h.elim
 rename_i sz xs h1 h2
 simp only [h1,h2]
 split at h
 · simp only [runR] at h
   obtain ⟨⟨⟨a1,a2,a3⟩,a4⟩,hk⟩:=h
   refine ⟨a1,a2,a3,?_⟩
   dsimp only
   split
   · rename_i he; rw [if_pos he] at hk; exact hk
   · rename_i he; rw [if_neg he] at hk; exact ⟨a4,hk⟩
 · split at h
   case h_2=>exact h.elim
   rename_i k ver' esz' es hob
   simp only [runR] at h
   obtain ⟨⟨⟨a1,a2,a3⟩,⟨rfl,rfl,a6,a7⟩,a8,a9,a10,a11⟩,hk⟩:=h
   refine ⟨a1,a2,a3,?_⟩
   simp only [hob]
   refine ⟨trivial,trivial,a6,a7,?_⟩
   split
   · rename_i he; rw [if_pos he] at hk; exact hk
   · rename_i he
     rw [if_neg he] at hk
     refine ⟨a8,?_⟩
     cases k with
     | frozen=>exact a9 rfl
     | exact =>
      simp only at hk ⊢
      split
      · rename_i hc; rw [if_pos hc] at hk; exact hk
      · rename_i hc; rw [if_neg hc] at hk; exact hk
     | grow=>exact ⟨a10 (by simp),fun h=>(by cases h),hk⟩
     | bytes=>exact ⟨a10 (by simp),a11,hk⟩
 · exact h.elim
def bndV (x:Option AV) (d:Nat):Option (Prop × Nat) :=
 match x with
 | none=>some (True,d)
 | some (.p (.int _ i))=>some (0 ≤ i,i.toNat)
 | _=>none
theorem bndV_ok {x:Option AV} {d n:Nat} {p:Prop} {K:Nat → Prop} (h:bndV x d = some (p,n)) (hp:p) (hk:K n):sliceBnd x d K:=by
 unfold bndV at h
 unfold sliceBnd
 split at h
 · simp only [Option.some.injEq,Prod.mk.injEq] at h; obtain ⟨rfl,rfl⟩:=h; exact hk
 · simp only [Option.some.injEq,Prod.mk.injEq] at h; obtain ⟨rfl,rfl⟩:=h; exact ⟨hp,hk⟩
 · cases h
def sliceV (P:Program) (T:TypeId) (H:Heap) (x:AV) (lo hi:Option AV):Res :=
 match x with
 | .p (.str s)=>match bndV hi s.length,bndV lo 0 with
  | some (p,h),some (q,l)=>some (isStrT P T = true ∧ p ∧ q ∧ h ≤ s.length ∧ l ≤ h,{ v:=.p (.str ((s.take h).drop l)) })
  | _,_=>none
 | .p .nsl=>match bndV hi 0,bndV lo 0 with
  | some (p,h),some (q,l)=>some ((elemOk P T).isSome = true ∧ p ∧ q ∧ h ≤ 0 ∧ l ≤ h,{ v:=.p .nsl })
  | _,_=>none
 | .p (.lst full es)=>match bndV hi es.length,bndV lo 0,elemOk P T with
  | some (p,h),some (q,l),some sz=>some (p ∧ q ∧ h ≤ es.length ∧ l ≤ h ∧ allShp P sz (es.map .p),{ v:=.p (.lst (full && h == es.length) ((es.take h).drop l)) })
  | _,_,_=>none
 | .p (.seq es)=>match bndV hi es.length,bndV lo 0,elemOk P T with
  | some (p,h),some (q,l),some sz=>some (p ∧ q ∧ h ≤ es.length ∧ l ≤ h ∧ allShp P sz (es.map .p),{ v:=.p (.seq ((es.take h).drop l)) })
  | _,_,_=>none
 | .sl b ver esz off len=>match H[b]? with
  | some (.arr k ver' esz' es)=>match bndV hi len,bndV lo 0 with
   | some (p, h), some (q, l) => some ((ver = ver' ∧ esz = esz' ∧ elemOk P T = some esz ∧ ¬ (k.gr = true ∧ es = []) ∧ off + len ≤ es.length) ∧ p ∧ q ∧ off + h ≤ es.length ∧ l ≤ h,
       if l = 0 then { v:=.sl b ver esz off h,hin:=[(b,.arr k ver' esz' es)] }
       else if l = h then { v:=.p (.lst false []),hin:=[(b,.arr k ver' esz' es)] }
       else { v:=.sl b ver esz (off + l) (h - l),hin:=[(b,.arr k ver' esz' es)] })
   | _,_=>none
  | _=>none
 | _=>none
theorem can_slice {T:TypeId} {H:Heap} {x:AV} {lo hi:Option AV}:Can (sliceWP P T H x lo hi none) (sliceV P T H x lo hi):=by
 intro K h
 unfold sliceV at h
 unfold sliceWP
 refine ⟨rfl,?_⟩
 split at h
 · split at h
   case h_2=>exact h.elim
   rename_i h1 h2
   simp only [runR] at h
   obtain ⟨⟨a1,a2,a3,a4,a5⟩,hk⟩:=h
   exact ⟨a1,bndV_ok h1 a2 (bndV_ok h2 a3 ⟨a4,a5,hk⟩)⟩
 · split at h
   case h_2=>exact h.elim
   rename_i h1 h2
   simp only [runR] at h
   obtain ⟨⟨a1,a2,a3,a4,a5⟩,hk⟩:=h
   exact ⟨a1,bndV_ok h1 a2 (bndV_ok h2 a3 ⟨a4,a5,hk⟩)⟩
 · split at h
   case h_2=>exact h.elim
   rename_i h1 h2 h3
   simp only [runR] at h
   obtain ⟨⟨a2,a3,a4,a5,a6⟩,hk⟩:=h
   refine bndV_ok h1 a2 (bndV_ok h2 a3 ⟨a4,a5,?_⟩)
   simp only [h3]; exact ⟨a6,hk⟩
 · split at h
   case h_2=>exact h.elim
   rename_i h1 h2 h3
   simp only [runR] at h
   obtain ⟨⟨a2,a3,a4,a5,a6⟩,hk⟩:=h
   refine bndV_ok h1 a2 (bndV_ok h2 a3 ⟨a4,a5,?_⟩)
   simp only [h3]; exact ⟨a6,hk⟩
 · split at h
   case h_2=>exact h.elim
   rename_i hob
   split at h
   case h_2=>exact h.elim
   rename_i h1 h2
   simp only [runR] at h
   obtain ⟨⟨⟨a1,a2,a3,a4,a5⟩,a6,a7,a8,a9⟩,hk⟩:=h
   simp only [hob]
   refine ⟨a1,a2,a3,a4,a5,bndV_ok h1 a6 (bndV_ok h2 a7 ⟨a8,a9,?_⟩)⟩
   split
   · rename_i hc; rw [if_pos hc] at hk; exact hk
   · rename_i hc
     rw [if_neg hc] at hk
     split
     · rename_i hc; rw [if_pos hc] at hk; exact hk
     · rename_i hc; rw [if_neg hc] at hk; exact hk
 · exact h.elim
def lkupV (P:Program) (T:TypeId) (H:Heap) (x key:AV) (ok:Bool):Res :=
 match mapTy P T,key with
 | some (KT,E),.p key=>match tzero P E with
  | some z=>match x with
   | .p .nmap=>some (keyFits P KT key = true,{ v:=.p (if ok then .tup [z,.bool false] else z) })
   | .p (.fmap es)=>match lookupM es key with
    | some r => some (keyFits P KT key = true, { v := .p (match r with
        | some v=>if ok then .tup [v,.bool true] else v
        | none=>if ok then .tup [z,.bool false] else z) })
    | none=>none
   | .map b=>match H[b]? with
    | some (.map fz es)=>match lookupM es key with
     | some r => some (keyFits P KT key = true, { v := .p (match r with
         | some v=>if ok then .tup [v,.bool true] else v
         | none=>if ok then .tup [z,.bool false] else z),hin:=[(b,.map fz es)] })
     | none=>none
    | _=>none
   | _=>none
  | none=>none
 | _,_=>none
def insV (P:Program) (T:TypeId) (H:Heap) (m k x:AV):Res :=
 match mapTy P T,m,k,x with
 | some (KT,_),.map b,.p key,.p v=>match H[b]? with
  | some (.map false es)=>match lookupM es key with
   | some _=>some (keyFits P KT key = true,{ v:=.p (.tup []),hin:=[(b,.map false es)],hset:=[(b,.map false (updateM es key v))] })
   | none=>none
  | _=>none
 | _,_,_,_=>none
def rangeV (P:Program) (T:TypeId) (n:Nat) (x:AV):Res :=
 match x with
 | .p (.str s)=>some (isStrT P T = true,{ v:=.ptr n [],hnew:=[.siter s 0] })
 | _=>none
def nextV (H:Heap) (it:AV):Res :=
 match it with
 | .ptr b []=>match H[b]? with
  | some (.siter s pos) => some (True, if pos < s.length then
      { v:=.p (.tup [.bool true,.int .i64 pos,.int .i32 (Utf8.decode (toBA s) pos).1]),hin:=[(b,.siter s pos)],hset:=[(b,.siter s (pos + (Utf8.decode (toBA s) pos).2))] }
   else { v:=.p (.tup [.bool false]),hin:=[(b,.siter s pos)] })
  | _=>none
 | _=>none
def mkSlV (P:Program) (T:TypeId) (n:Nat) (l c:AV):Res :=
 match elemOk P T,tzero P (elemType P T),l,c with
 | some sz,some z,.p (.int .i64 l),.p (.int .i64 c)=>some (shpSize P (shp z) = sz ∧ 0 ≤ l ∧ l = c ∧ l ≤ maxL,{ v:=.sl n 0 sz 0 l.toNat,hnew:=[.arr .exact 0 sz (List.replicate l.toNat (.p z))] })
 | _,_,_,_=>none
def copyV (P:Program) (T:TypeId) (H:Heap) (d x:AV):Res :=
 match elemOk P T,d,elemsOf H x with
 | some sz,.sl b ver esz off len,some xs=>match H[b]? with
  | some (.arr k ver' esz' es) => some ((esz = sz ∧ allShp P sz xs) ∧ ver = ver' ∧ esz = esz' ∧ k ≠ .frozen ∧ off + len ≤ es.length ∧ ¬ (k.gr = true ∧ es = []),
      { v:=.p (.int .i64 (min xs.length len:Nat)),hin:=(b,.arr k ver' esz' es) :: readsOf H x,hset:=[(b,.arr k ver' esz' (es.take off ++ xs.take (min xs.length len) ++ es.drop (off + min xs.length len)))] })
  | _=>none
 | _,_,_=>none
def nilChkV (x:AV):Res :=
 match x with
 | .ptr _ _ | .eptr _ _ _ _ _ | .p (.fptr _)=>some (True,{ v:=x })
 | _=>none
def minV (isMax:Bool) (xs:List AV):Res :=
 match xs with
 | .p (.int k a) :: r=>match minInts k isMax r a with
  | some n=>some (True,{ v:=.p (.int k n) })
  | none=>none
 | _=>none
def mkFnV (f:FuncId) (fi ca:List AV):Res :=
 match allP fi,allP ca with
 | some a,some b=>some (True,{ v:=.p (.func f a b) })
 | _,_=>some (True,{ v:=.func f fi ca })
end
end Go.Abs
namespace Go.Abs
set_option linter.unusedSectionVars false
variable [Gl]
section
variable {P:Program} {frz:FuncId → Bool}
def pickV (c a b:AV):Res :=
 match c with
 | .p (.bool t)=>some (True,{ v:=if t then a else b })
 | _=>none
def allocV (P:Program) (T:TypeId) (n:Nat):Res :=
 match tzero P T with
 | some z=>some (kindOf P T = shp z ∧ shp z ≠ .bad ∧ bxB T (shp z) = true,{ v:=.ptr n [],hnew:=[.box false (.p z)] })
 | none=>none
def boxV (P:Program) (T:TypeId) (n:Nat) (x:AV):Res:=some (kindOf P T = shpA x ∧ shpA x ≠ .bad ∧ bxB T (shpA x) = true,{ v:=.ptr n [],hnew:=[.box false x] })
def buildV (P:Program) (T:TypeId) (parts:List (Nat × AV)):Res :=
 match kindOf P T,tzero P T with
 | .agg u,some z=>match szs P u with
  | some l=>some (shp z = .agg u ∧ partsOk P l parts,{ v:=mkSt u (fillParts ((flds z).map .p) parts) })
  | none=>none
 | _,_=>none
def buildSliceV (P:Program) (T:TypeId) (n:Nat) (parts:List (Nat × AV)) (b:Nat):Res :=
 match elemOk P T,tzero P (elemType P T) with
 | some sz,some z=>some (shpSize P (shp z) = sz ∧ n * sz ≤ 1000000 ∧ partsOk P (List.replicate n sz) parts,{ v:=.sl b 0 sz 0 n,hnew:=[.arr .exact 0 sz (fillParts (List.replicate n (.p z)) parts)] })
 | _,_=>none
def intV (op:BinOp) (k:IntKind) (a b:Int):Prop × PV :=
 match op with
 | .add=>(True,.int k (k.wrap (a + b)))
 | .sub=>(True,.int k (k.wrap (a - b)))
 | .mul=>(True,.int k (k.wrap (a * b)))
 | .quo=>(b ≠ 0,.int k (k.wrap (a.tdiv b)))
 | .rem=>(b ≠ 0,.int k (a.tmod b))
 | .and=>(True,.int k (k.wrap (BitVec.ofInt k.bits a &&& BitVec.ofInt k.bits b).toNat))
 | .or=>(True,.int k (k.wrap (BitVec.ofInt k.bits a ||| BitVec.ofInt k.bits b).toNat))
 | .xor=>(True,.int k (k.wrap (BitVec.ofInt k.bits a ^^^ BitVec.ofInt k.bits b).toNat))
 | .andNot=>(True,.int k (k.wrap (BitVec.ofInt k.bits a &&& ~~~ BitVec.ofInt k.bits b).toNat))
 | .eql=>(True,.bool (a == b))
 | .neq=>(True,.bool (a != b))
 | .lss=>(True,.bool (decide (a < b)))
 | .leq=>(True,.bool (decide (a ≤ b)))
 | .gtr=>(True,.bool (decide (a > b)))
 | .geq=>(True,.bool (decide (a ≥ b)))
 | .shl=>(0 ≤ b,.int k (k.wrap (a * 2 ^ (min b.toNat k.bits))))
 | .shr=>(0 ≤ b,.int k (a.fdiv (2 ^ (min b.toNat k.bits))))
theorem intV_ok {op:BinOp} {k:IntKind} {a b:Int} {K:PV → Prop} (h:(intV op k a b).1) (hk:K (intV op k a b).2):intOp op k a b K:=by
 cases op <;> simp only [intV,intOp] at * <;> first | exact hk | exact ⟨h,hk⟩
def strV (op:BinOp) (a b:List Nat):Option (Prop × PV) :=
 match op with
 | .add=>some (a.length + b.length < 9223372036854775808,.str (a ++ b))
 | .eql=>some (True,.bool (a == b))
 | .neq=>some (True,.bool (!(a == b)))
 | .lss=>some (True,.bool (strLess a b))
 | .leq=>some (True,.bool (strLess a b || a == b))
 | .gtr=>some (True,.bool (!(strLess a b || a == b)))
 | .geq=>some (True,.bool (!(strLess a b)))
 | _=>none
def binV (P:Program) (op:BinOp) (T:TypeId) (c:Bool) (H:Heap) (x y:AV):Res :=
 match x,y with
 | .p (.int k a),.p (.int k' b)=>some ((k = k' ∨ op = .shl ∨ op = .shr) ∧ (intV op k a b).1,{ v:=.p (intV op k a b).2 })
 | .p (.str a),.p (.str b)=>match strV op a b with
  | some (p,v)=>some (p,{ v:=.p v })
  | none=>none
 | .p (.bool a),.p (.bool b)=>match op with
  | .eql=>some (isBoolT P T = true,{ v:=.p (.bool (a == b)) })
  | .neq=>some (isBoolT P T = true,{ v:=.p (.bool (!(a == b))) })
  | _=>none
 | .p (.st u fs),.p (.st u' gs)=>match eqT P 9 T (.st u fs) (.st u' gs),op with
  | some r,.eql=>some (eqOk P T = true,{ v:=.p (.bool r) })
  | some r,.neq=>some (eqOk P T = true,{ v:=.p (.bool !r) })
  | _,_=>none
 | x,y=>match nilOf P T c y with
  | some k=>match nilEq H k x,op with
   | some r,.eql=>some (True,{ v:=.p (.bool r),hin:=readsOf H x })
   | some r,.neq=>some (True,{ v:=.p (.bool !r),hin:=readsOf H x })
   | _,_=>none
  | none=>none
theorem binWP_nil {op : BinOp} {T : TypeId} {c : Bool} {H : Heap} {x y : AV} {k : NilK} {K : PV → Prop} (hk : nilOf P T c y = some k) : binWP P op T c H x y K = (match nilEq H k x, op with
      | some r,.eql=>K (.bool r)
      | some r,.neq=>K (.bool !r)
      | _,_=>False):=by
 have hk':=hk
 rcases nilOf_some hk with ⟨rfl,rfl,_⟩ | ⟨rfl,rfl,_⟩ | ⟨rfl,rfl,_⟩ | ⟨rfl,rfl,_⟩ | ⟨rfl,rfl,_⟩
 all_goals
  unfold binWP
  cases x with
  | p v =>
   cases v <;> simp only [hk'] <;> (generalize nilEq H _ _ = r; cases r <;> cases op <;> rfl)
  | _=>simp only [hk']; (generalize nilEq H _ _ = r; cases r <;> cases op <;> rfl)
theorem can_bin {op:BinOp} {T:TypeId} {c:Bool} {H:Heap} {x y:AV}:Can (fun K=>binWP P op T c H x y (fun v=>K { v:=.p v,hin:=readsOf H x })) (binV P op T c H x y):=by
 intro K h
 unfold binV at h
 unfold binWP
 split at h
 · exact ⟨h.1.1,intV_ok h.1.2 h.2⟩
 · split at h
   · rename_i p v hv
     simp only [runR] at h
     show strOp op _ _ _
     unfold strV at hv
     split at hv <;> first
      | (simp only [Option.some.injEq, Prod.mk.injEq] at hv
         obtain ⟨h1,h2⟩:=hv
         rw [← h1,← h2] at h
         simp only [strOp]
         first | exact h.2 | exact ⟨h.1,h.2⟩)
      | cases hv
   · exact h.elim
 · split at h
   · exact ⟨h.1,h.2⟩
   · exact ⟨h.1,h.2⟩
   · exact h.elim
 · split at h
   · rename_i hr; simp only [runR] at h; simp only [hr]; exact ⟨h.1,h.2⟩
   · rename_i hr; simp only [runR] at h; simp only [hr]; exact ⟨h.1,h.2⟩
   · exact h.elim
 · rename_i h1 h2 h3 h4
   split at h
   case h_2=>exact h.elim
   rename_i k hk
   clear h1 h2 h3 h4
   show binWP P op T c H x y _
   rw [binWP_nil hk]
   generalize nilEq H k x = q at h ⊢
   cases q <;> cases op <;> first | exact h.elim | exact h.2
def unV (op:UnOp) (x:AV):Res :=
 match op,x with
 | .not,.p (.bool b)=>some (True,{ v:=.p (.bool (!b)) })
 | .neg,.p (.int k n)=>some (True,{ v:=.p (.int k (k.wrap (0 - n))) })
 | .xor,.p (.int k n)=>some (True,{ v:=.p (.int k (k.wrap (BitVec.ofInt k.bits (if k.signed then -1 else k.max) ^^^ BitVec.ofInt k.bits n).toNat)) })
 | _,_=>none
def convV (P:Program) (S D:TypeId) (H:Heap) (x:AV):Res :=
 match P.underlying S,P.underlying D,x with
 | some _,some (.int k),.p (.int _ n)=>some (True,{ v:=.p (.int k (k.wrap n)) })
 | some _,some .string,.p (.str s)=>some (True,{ v:=.p (.str s) })
 | some (.slice e),some .string,.sl b ver esz off len=>match H[b]? with
  | some (.arr k ver' esz' es)=>match bytesOf ((es.drop off).take len) with
   | some l=>some ((ver = ver' ∧ esz = esz' ∧ esz = 1 ∧ P.underlying e = some (.int .u8) ∧ 0 < len ∧ off + len ≤ es.length),{ v:=.p (.str l),hin:=[(b,.arr k ver' esz' es)] })
   | none=>none
  | _=>none
 | _,_,_=>none
def extractV (t:AV) (i:Nat):Res :=
 match t with
 | .p (.tup vs)=>match vs[i]? with
  | some v=>some (True,{ v:=.p v })
  | none=>none
 | .tup vs=>match vs[i]? with
  | some v=>some (True,{ v })
  | none=>none
 | _=>none
def indexV (P:Program) (T:TypeId) (x i:AV):Res :=
 match x,i with
 | .p (.str s),.p (.int _ i)=>match s[i.toNat]? with
  | some c=>some (isStrT P T = true ∧ 0 ≤ i,{ v:=.p (.int .u8 c) })
  | none=>none
 | _,_=>none
def lenV (P:Program) (T:TypeId) (n:Nat) (H:Heap) (x:AV):Res :=
 match lenOf H x with
 | some (m,hin)=>some (lenTy P T x = true ∧ 0 < n,{ v:=.p (.int .i64 m),hin })
 | none=>none
def opW (P:Program) (frz:FuncId → Bool) (o:Oper) (e:Env) (H:Heap) (K:Eff → Prop):Prop :=
 match o.op with
 | .move x | .assign x=>K { v:=ev e x }
 | .pick c a b=>runR (pickV (ev e c) (ev e a) (ev e b)) K
 | .alloc T=>runR (allocV P T H.length) K
 | .box T x=>runR (boxV P T H.length (ev e x)) K
 | .build T parts=>runR (buildV P T (parts.toList.map fun (i,x)=>(i,ev e x))) K
 | .buildSlice T n parts=>runR (buildSliceV P T n (parts.toList.map fun (i,x)=>(i,ev e x)) H.length) K
 | .load T a=>runR (loadV P T H (ev e a)) K
 | .store T a x=>runR (storeV P T H (ev e a) (ev e x)) K
 | .binOp op T x y _=>runR (binV P op T (isC y) H (ev e x) (ev e y)) K
 | .unOp op _ x=>runR (unV op (ev e x)) K
 | .convert S D x=>runR (convV P S D H (ev e x)) K
 | .extract t i=>runR (extractV (ev e t) i) K
 | .fieldAddr T a f=>runR (fieldAddrV P T (ev e a) f) K
 | .indexAddr T x i=>runR (indexAddrV P T H (ev e x) (ev e i)) K
 | .index T x i=>runR (indexV P T (ev e x) (ev e i)) K
 | .slice T x lo hi none=>runR (sliceV P T H (ev e x) (lo.map (ev e)) (hi.map (ev e))) K
 | .lookup T x i ok=>runR (lkupV P T H (ev e x) (ev e i) ok) K
 | .mapUpdate T m k x | .insert T m k x=>runR (insV P T H (ev e m) (ev e k) (ev e x)) K
 | .range T x=>runR (rangeV P T H.length (ev e x)) K
 | .next it true=>runR (nextV H (ev e it)) K
 | .makeSlice T l c=>runR (mkSlV P T H.length (ev e l) (ev e c)) K
 | .nilCheck x=>runR (nilChkV (ev e x)) K
 | .call c=>match c.callee with
  | .builtin .len=>(match c.args.toList with
   | [x]=>runR (lenV P (c.argTypes.getD 0 0) c.argTypes.size H (ev e x)) K
   | _=>False)
  | .builtin .append=>(match c.args.toList with
   | [s,x]=>c.argTypes.size = 2 ∧ runR (appendV P (c.argTypes.getD 0 0) (c.argTypes.getD 1 0) H (ev e s) (ev e x)) K
   | _=>False)
  | .builtin .copy=>(match c.args.toList with
   | [d,x]=>c.argTypes.size = 2 ∧ runR (copyV P (c.argTypes.getD 0 0) H (ev e d) (ev e x)) K
   | _=>False)
  | .builtin .min=>runR (minV false (c.args.toList.map (ev e))) K
  | .builtin .max=>runR (minV true (c.args.toList.map (ev e))) K
  | _=>opEff P frz o (ev e) H K
 | _=>opEff P frz o (ev e) H K
theorem opW_ok {o:Oper} {e:Env} {H:Heap} {K:Eff → Prop} (h:opW P frz o e H K):opEff P frz o (ev e) H K:=by
 unfold opW at h
 unfold opEff
 cases hop:o.op <;> simp only [hop] at h <;> simp only
 case move | assign=>exact h
 case pick c a b =>
  unfold pickV at h
  split at h
  · rename_i hc; simp only [hc]; exact h.2
  · exact h.elim
 case alloc T =>
  unfold allocV at h
  split at h
  · rename_i hz; simp only [runR] at h; simp only [hz]; exact ⟨h.1.1,h.1.2.1,h.1.2.2,h.2⟩
  · exact h.elim
 case box T x=>exact ⟨h.1.1,h.1.2.1,h.1.2.2,h.2⟩
 case build T parts =>
  unfold buildV at h
  split at h
  · rename_i hk hz
    split at h
    · rename_i hl; simp only [runR] at h; simp only [hk,hz,hl]; exact ⟨h.1.1,h.1.2,h.2⟩
    · exact h.elim
  · exact h.elim
 case buildSlice T n parts =>
  unfold buildSliceV at h
  split at h
  · rename_i hk hz; simp only [runR] at h; simp only [hk,hz]; exact ⟨h.1.1,h.1.2.1,h.1.2.2,h.2⟩
  · exact h.elim
 case load T a=>exact can_load K h
 case store T a x=>exact can_store K h
 case binOp op T x y T'=>exact can_bin K h
 case unOp op T x =>
  unfold unV at h
  split at h
  · rename_i hx; simp only [hx]; exact h.2
  · rename_i hx; simp only [hx]; exact h.2
  · rename_i hx; simp only [hx]; exact h.2
  · exact h.elim
 case convert S D x =>
  unfold convV at h
  split at h
  · rename_i h1 h2 h3; simp only [h1,h2,h3]; exact h.2
  · rename_i h1 h2 h3; simp only [h1,h2,h3]; exact h.2
  · rename_i h1 h2 h3
    split at h
    · rename_i hob
      split at h
      · rename_i hl
        obtain ⟨⟨a1,a2,a3,a4,a5,a6⟩,h⟩:=h
        simp only [h1,h2,h3,hob,hl]
        exact ⟨a1,a2,a3,a4,a5,a6,h⟩
      · exact h.elim
    · exact h.elim
  · exact h.elim
 case extract t i =>
  unfold extractV at h
  split at h
  · rename_i ht
    split at h
    · rename_i hv; simp only [ht,hv]; exact h.2
    · exact h.elim
  · rename_i ht
    split at h
    · rename_i hv; simp only [ht,hv]; exact h.2
    · exact h.elim
  · exact h.elim
 case fieldAddr T a f=>exact can_fieldAddr K h
 case indexAddr T x i=>exact can_indexAddr K h
 case index T x i =>
  unfold indexV at h
  split at h
  · rename_i hx hi
    split at h
    · rename_i c hc
      obtain ⟨hlt,rfl⟩:=List.getElem?_eq_some_iff.1 hc
      simp only [hx,hi]; exact ⟨h.1.1,h.1.2,hlt,h.2⟩
    · exact h.elim
  · exact h.elim
 case slice T x lo hi mx =>
  cases mx with
  | none=>exact can_slice K h
  | some m=>simp only [opEff,hop] at h; exact h
 case lookup T x i ok =>
  unfold lkupV at h
  split at h
  case h_2=>exact h.elim
  rename_i hm hi
  simp only [hm,hi]
  split at h
  case h_2=>exact h.elim
  rename_i z hz
  simp only [hz]
  split at h
  · rename_i hx; simp only [hx]; exact h
  · rename_i es hx
    simp only [hx]
    split at h
    case h_2=>exact h.elim
    rename_i r hr
    refine ⟨h.1,?_⟩
    simp only [hr]
    cases r <;> exact h.2
  · rename_i b hx
    simp only [hx]
    split at h
    case h_2=>exact h.elim
    rename_i hob
    split at h
    case h_2=>exact h.elim
    rename_i r hr
    refine ⟨h.1,?_⟩
    simp only [hob,hr]
    cases r <;> exact h.2
  · exact h.elim
 case mapUpdate T m k x | insert T m k x =>
  unfold insV at h
  split at h
  case h_2=>exact h.elim
  rename_i h1 h2 h3 h4
  simp only [h1,h2,h3,h4]
  split at h
  case h_2=>exact h.elim
  rename_i hob
  split at h
  case h_2=>exact h.elim
  rename_i hr
  refine ⟨h.1,?_⟩
  simp only [hob,hr]; exact h.2
 case range T x =>
  unfold rangeV at h
  split at h
  · rename_i hx; simp only [hx]; exact h
  · exact h.elim
 case next it s =>
  cases s with
  | false=>simp only [opEff,hop] at h
  | true =>
   dsimp only at h ⊢
   unfold nextV at h
   split at h
   case h_2=>exact h.elim
   rename_i hx
   simp only [hx]
   split at h
   case h_2=>exact h.elim
   rename_i hob
   simp only [hob]
   have h:=h.2
   split
   · rename_i hc; rw [if_pos hc] at h; exact h
   · rename_i hc; rw [if_neg hc] at h; exact h
 case makeSlice T l c =>
  unfold mkSlV at h
  split at h
  · rename_i h1 h2 h3 h4; simp only [h1,h2,h3,h4]; exact ⟨h.1.1,h.1.2.1,h.1.2.2.1,h.1.2.2.2,h.2⟩
  · exact h.elim
 case nilCheck x =>
  unfold nilChkV at h
  split at h
  · rename_i hx; simp only [hx]; rw [hx] at h; exact h.2
  · rename_i hx; simp only [hx]; rw [hx] at h; exact h.2
  · rename_i hx; simp only [hx]; rw [hx] at h; exact h.2
  · exact h.elim
 case call c =>
  split at h
  · rename_i hc
    split at h
    · rename_i x hx
      unfold lenV at h
      split at h
      · rename_i hl; simp only [runR] at h; simp only [hc,hx,List.map_cons,List.map_nil,hl]; exact ⟨h.1.1,h.1.2,h.2⟩
      · exact h.elim
    · exact h.elim
  · rename_i hc
    split at h
    · rename_i s x hx
      simp only [hc,hx,List.map_cons,List.map_nil]
      exact ⟨h.1,can_append K h.2⟩
    · exact h.elim
  · rename_i hc
    split at h
    · rename_i d x hx
      simp only [hc,hx,List.map_cons,List.map_nil]
      obtain ⟨h0,h⟩:=h
      unfold copyV at h
      split at h
      case h_2=>exact h.elim
      rename_i h1 h2 h3
      split at h
      case h_2=>exact h.elim
      rename_i hob
      simp only [runR] at h
      obtain ⟨⟨⟨a1,a2⟩,a3,a4,a5,a6,a7⟩,hk⟩:=h
      simp only [h1,h2,h3,hob]
      exact ⟨a1,a2,h0,a3,a4,a5,a6,a7,hk⟩
    · exact h.elim
  · rename_i hc
    unfold minV at h
    split at h
    case h_2=>exact h.elim
    rename_i hx
    split at h
    case h_2=>exact h.elim
    rename_i hr
    simp only [hc,hx,hr]; exact h.2
  · rename_i hc
    unfold minV at h
    split at h
    case h_2=>exact h.elim
    rename_i hx
    split at h
    case h_2=>exact h.elim
    rename_i hr
    simp only [hc,hx,hr]; exact h.2
  · unfold opEff at h
    simp only [hop] at h
    exact h
 all_goals first
  | exact h
  | (unfold opEff at h
     simp only [hop] at h
     exact h)
  | (unfold opEff at h
     simp only [hop] at h)
end
end Go.Abs
namespace Go.Abs
set_option linter.unusedSectionVars false
variable [Gl]
section
variable {P:Program} {frz:FuncId → Bool}
def appK (dst:Option Tmp) (s:St) (K:St → Prop) (e:Eff):Prop:=K (e.app dst s)
def putK (dst:Option Tmp) (s:St) (K:St → Prop) (v:AV) (H:Heap):Prop:=K ⟨put dst v s.env,H⟩
def callV (P:Program) (f:AV) (args:List AV) (H:Heap) (K:AV → Heap → Prop):Prop :=
 match f with
 | .p (.func g fi ca)=>CallWP P false g (fi.map .p ++ args ++ ca.map .p) H K
 | .func g fi ca=>CallWP P false g (fi ++ args ++ ca) H K
 | .map b=>∃ H' v,GoodY P b H args H' v ∧ K v H'
 | _=>False
def callVd (P:Program) (f:AV) (args:List AV) (H:Heap) (K:Eff → Prop):Prop :=
 match f with
 | .p (.func g fi ca)=>CallE P g (fi.map .p ++ args ++ ca.map .p) H K
 | .func g fi ca=>CallE P g (fi ++ args ++ ca) H K
 | _=>False
def plainW (P:Program) (frz:FuncId → Bool) (o:Oper) (K:St → Prop) (s:St):Prop :=
 match o.op with
 | .call { callee:=.value f,args,.. }=>callV P (ev s.env f) (args.toList.map (ev s.env)) s.heap (putK o.dst s K)
 | _=>opW P frz o s.env s.heap (appK o.dst s K)
def drawnW (P:Program) (frz:FuncId → Bool) (o:Oper) (s:St) (K:Eff → Prop):Prop :=
 match o.op with
 | .call { callee:=.value f,args,.. }=>callVd P (ev s.env f) (args.toList.map (ev s.env)) s.heap K
 | _=>opW P frz o s.env s.heap K
theorem plainW_ok {o:Oper} {K:St → Prop} {s:St} (h:plainW P frz o K s):opWP P frz false o K s:=by
 unfold plainW at h
 unfold opWP
 split at h
 · rename_i f args aT hop
   simp only [hop]
   unfold callV at h
   split at h
   · rename_i hf; simp only [hf]; exact h
   · rename_i hf; simp only [hf]; exact h
   · rename_i hf; simp only [hf]; exact h
   · exact h.elim
 · rename_i hne
   split
   · rename_i f args aT hop; exact (hne _ _ _ hop).elim
   · exact opW_ok h
theorem drawnW_ok {o:Oper} {K:Eff → Prop} {s:St} (h:drawnW P frz o s K):effD P frz o s K:=by
 unfold drawnW at h
 unfold effD
 split at h
 · rename_i f args aT hop
   simp only [hop]
   unfold callVd at h
   split at h
   · rename_i hf; simp only [hf]; exact h
   · rename_i hf; simp only [hf]; exact h
   · exact h.elim
 · rename_i hne
   split
   · rename_i f args aT hop; exact (hne _ _ _ hop).elim
   · exact opW_ok h
def opsW (P:Program) (frz:FuncId → Bool) (ops:Array Oper):List Oper → (St → Prop) → St → Prop
 | [],K,s=>K s
 | o :: r,K,s=>match o.guard with
  | none=>plainW P frz o (opsW P frz ops r K) s
  | some (j,want)=>match guardOf ops j s.env with
   | .p (.bool t)=>if t = want then plainW P frz o (opsW P frz ops r K) s else opsW P frz ops r K ⟨put o.dst (.p (.tup [])) s.env,s.heap⟩
   | .p (.tup [])=>opsW P frz ops r K ⟨put o.dst (.p (.tup [])) s.env,s.heap⟩
   | _=>False
def opsWd (P:Program) (frz:FuncId → Bool) (ops:Array Oper):List Oper → Nat → List Touch → (St → Prop) → St → Prop
 | [],_,acc,K,s=>touchOk ops acc = true ∧ K s
 | o :: r,i,acc,K,s=>match o.guard with
  | none=>drawnW P frz o s fun e=>opsWd P frz ops r (i + 1) (touch i s.heap.length e acc) K (e.app o.dst s)
  | some (j,want)=>match guardOf ops j s.env with
   | .p (.bool t)=>if t = want then drawnW P frz o s fun e=>opsWd P frz ops r (i + 1) (touch i s.heap.length e acc) K (e.app o.dst s)
    else opsWd P frz ops r (i + 1) acc K ⟨put o.dst (.p (.tup [])) s.env,s.heap⟩
   | .p (.tup [])=>opsWd P frz ops r (i + 1) acc K ⟨put o.dst (.p (.tup [])) s.env,s.heap⟩
   | _=>False
theorem opsW_ok {ops:Array Oper}:∀ (l:List Oper) {K K':St → Prop} {s:St},(∀ s,K s → K' s) → opsW P frz ops l K s → opsWP P frz false ops l K' s
 | [],K,K',s,hk,h=>by simp only [opsW] at h; simp only [opsWP]; exact hk s h
 | o :: l,K,K',s,hk,h=>by
  have go:plainW P frz o (opsW P frz ops l K) s → opWP P frz false o (opsWP P frz false ops l K') s:=fun h=>by
   obtain ⟨t,h1,h2⟩:=sing_opWP false o s _ (plainW_ok h)
   exact h2 _ (opsW_ok l hk h1)
  simp only [opsW] at h
  simp only [opsWP]
  split at h
  · rename_i hg; simp only [hg]; exact go h
  · rename_i j want hg
    simp only [hg]
    split at h
    · rename_i t ht
      simp only [ht]
      split at h
      · rename_i htw; rw [if_pos htw]; exact go h
      · rename_i htw; rw [if_neg htw]; exact opsW_ok l hk h
    · rename_i ht; simp only [ht]; exact opsW_ok l hk h
    · exact h.elim
theorem opsWd_ok {ops:Array Oper}:∀ (l:List Oper) {i:Nat} {acc:List Touch} {K K':St → Prop} {s:St},(∀ s,K s → K' s) → opsWd P frz ops l i acc K s → opsWPd P frz ops l i acc K' s
 | [],i,acc,K,K',s,hk,h=>by simp only [opsWd] at h; simp only [opsWPd]; exact ⟨h.1,hk s h.2⟩
 | o :: l,i,acc,K,K',s,hk,h=>by
  have go:drawnW P frz o s (fun e=>opsWd P frz ops l (i + 1) (touch i s.heap.length e acc) K (e.app o.dst s)) → effD P frz o s (fun e=>opsWPd P frz ops l (i + 1) (touch i s.heap.length e acc) K' (e.app o.dst s)):=fun h=>by
   obtain ⟨e,h1,h2⟩:=sing_effD o s _ (drawnW_ok h)
   exact h2 _ (opsWd_ok l hk h1)
  simp only [opsWd] at h
  simp only [opsWPd]
  split at h
  · rename_i hg; simp only [hg]; exact go h
  · rename_i j want hg
    simp only [hg]
    split at h
    · rename_i t ht
      simp only [ht]
      split at h
      · rename_i htw; rw [if_pos htw]; exact go h
      · rename_i htw; rw [if_neg htw]; exact opsWd_ok l hk h
    · rename_i ht; simp only [ht]; exact opsWd_ok l hk h
    · exact h.elim
def condW (v:AV) (a b:St → Prop) (s:St):Prop :=
 match v with
 | .p (.bool t)=>if t then a s else b s
 | _=>False
def seqQ (K:St → Prop) (Q:AExit → St → Prop) (e:AExit) (s:St):Prop :=
 match e with
 | .normal=>K s
 | e=>Q e s
def codeW (P:Program) (frz:FuncId → Bool) (q:Cx):Code → (AExit → St → Prop) → St → Prop
 | .skip,Q,s | .label _,Q,s=>Q .normal s
 | .region _ ops draw,Q,s=>if draw then opsWd P frz ops ops.toList 0 [] (Q .normal) s else opsW P frz ops ops.toList (Q .normal) s
 | .seq a b,Q,s=>codeW P frz q a (seqQ (codeW P frz q b Q) Q) s
 | .cond c a b,Q,s=>condW (ev s.env c) (codeW P frz q a Q) (codeW P frz q b Q) s
 | .block id b,Q,s=>codeW P frz q b (blockQ id Q) s
 | .scope b,Q,s=>codeW P frz q b Q s
 | .loop b,Q,s=>∃ I:Nat → St → Prop,(∃ n t,ForgetN q.2 s t ∧ I n t) ∧ ∀ n t,I n t → codeW P frz q b (roundQ q.2 n I Q) t
 | .rangeFunc f ps a b,Q,s=>q.2 ≤ s.heap.length ∧ iterWP P (ev s.env f) s.heap.length (s.heap ++ [.loop ⟨.ready,none,q.1,ps.toList,a,b,s.env⟩]) (overWP s.heap.length s.env Q)
 | .exit id,Q,s=>Q (.exit id) s
 | .ret,Q,s=>Q .ret s
 | _,_,_=>False
theorem jump_mono {Q Q':AExit → St → Prop} (hq:∀ e s,Q e s → Q' e s) {j:Option Code} {s:St} (h:jumpQ Q j s):jumpQ Q' j s:=by
 unfold jumpQ at h ⊢
 split at h
 · exact hq _ _ h
 · exact hq _ _ h
 · exact hq _ _ h
 · exact h.elim
theorem over_mono {Q Q':AExit → St → Prop} (hq:∀ e s,Q e s → Q' e s) {b:Nat} {env:Env} {H:Heap} (h:overWP b env Q H):overWP b env Q' H:=by
 unfold overWP at h ⊢
 split at h
 · exact ⟨h.1,jump_mono hq h.2⟩
 · exact h.elim
theorem iter_mono {it:AV} {b:Nat} {H:Heap} {K K':Heap → Prop} (hk:∀ H,K H → K' H) (h:iterWP P it b H K):iterWP P it b H K':=by
 unfold iterWP at h ⊢
 split at h
 · obtain ⟨H',v,h1,h2⟩:=h; exact ⟨H',v,h1,hk _ h2⟩
 · obtain ⟨H',v,h1,h2⟩:=h; exact ⟨H',v,h1,hk _ h2⟩
 · exact h.elim
theorem codeW_ok {q:Cx}:∀ (c:Code) {Q Q':AExit → St → Prop} {s:St},(∀ e s,Q e s → Q' e s) → codeW P frz q c Q s → codeWP P frz q c Q' s
 | .skip,Q,Q',s,hq,h | .label _,Q,Q',s,hq,h=>by simp only [codeW] at h; simp only [codeWP]; exact hq _ _ h
 | .exit _,Q,Q',s,hq,h | .ret,Q,Q',s,hq,h=>by simp only [codeW] at h; simp only [codeWP]; exact hq _ _ h
 | .region id ops draw,Q,Q',s,hq,h=>by
  simp only [codeW] at h
  simp only [codeWP]
  split at h
  · rename_i hd; rw [if_pos hd]; exact opsWd_ok _ (hq _) h
  · rename_i hd; rw [if_neg hd]; exact opsW_ok _ (hq _) h
 | .seq a b,Q,Q',s,hq,h=>by
  simp only [codeW] at h
  simp only [codeWP]
  refine codeW_ok a (fun e s he=>?_) h
  cases e with
  | normal=>exact codeW_ok b hq he
  | exit id=>exact hq _ _ he
  | ret=>exact hq _ _ he
 | .cond c a b,Q,Q',s,hq,h=>by
  simp only [codeW] at h
  simp only [codeWP]
  unfold condW at h
  split at h
  · rename_i t ht
    simp only [ht]
    split at h
    · rename_i hb; rw [if_pos hb]; exact codeW_ok a hq h
    · rename_i hb; rw [if_neg hb]; exact codeW_ok b hq h
  · exact h.elim
 | .block id b,Q,Q',s,hq,h=>by
  simp only [codeW] at h
  simp only [codeWP]
  refine codeW_ok b (fun e s he=>?_) h
  cases e with
  | normal=>exact hq _ _ he
  | exit i =>
   simp only [blockQ] at he
   by_cases hi:i = id
   · simp only [hi,if_true] at he ⊢; exact hq _ _ he
   · simp only [hi,if_false] at he ⊢; exact hq _ _ he
  | ret=>exact hq _ _ he
 | .scope b,Q,Q',s,hq,h=>by simp only [codeW] at h; simp only [codeWP]; exact codeW_ok b hq h
 | .loop b,Q,Q',s,hq,h=>by
  simp only [codeW] at h
  simp only [codeWP]
  obtain ⟨I,h1,h2⟩:=h
  refine ⟨I,h1,fun n t hI=>codeW_ok b (fun e s he=>?_) (h2 n t hI)⟩
  cases e with
  | normal=>exact he
  | exit id=>exact hq _ _ he
  | ret=>exact hq _ _ he
 | .rangeFunc f ps a b,Q,Q',s,hq,h=>by
  simp only [codeW] at h
  simp only [codeWP]
  exact ⟨h.1,s.env,fun _=>rfl,iter_mono (fun H=>over_mono hq) h.2⟩
 | .goto _,_,_,_,_,h | .refuse _,_,_,_,_,h=>by simp [codeW] at h
end
end Go.Abs
namespace Go.Abs
set_option linter.unusedSectionVars false
variable [Gl]
section
variable {P:Program} {frz:FuncId → Bool} {q:Cx}
theorem w_skip {Q:AExit → St → Prop} {s:St}:codeW P frz q .skip Q s = Q .normal s:=(rfl)
theorem w_label {l:Nat} {Q:AExit → St → Prop} {s:St}:codeW P frz q (.label l) Q s = Q .normal s:=(rfl)
theorem w_exit {id:Nat} {Q:AExit → St → Prop} {s:St}:codeW P frz q (.exit id) Q s = Q (.exit id) s:=(rfl)
theorem w_ret {Q:AExit → St → Prop} {s:St}:codeW P frz q .ret Q s = Q .ret s:=(rfl)
theorem w_scope {b:Code} {Q:AExit → St → Prop} {s:St}:codeW P frz q (.scope b) Q s = codeW P frz q b Q s:=(rfl)
theorem w_draw {id:Nat} {l:List Oper} {Q:AExit → St → Prop} {s:St}:codeW P frz q (.region id l.toArray true) Q s = opsWd P frz l.toArray l 0 [] (Q .normal) s:=by simp [codeW]
theorem w_plain {id:Nat} {l:List Oper} {Q:AExit → St → Prop} {s:St}:codeW P frz q (.region id l.toArray false) Q s = opsW P frz l.toArray l (Q .normal) s:=by simp [codeW]
theorem w_seq {a b:Code} {Q:AExit → St → Prop} {s:St}:codeW P frz q (.seq a b) Q s = codeW P frz q a (seqQ (codeW P frz q b Q) Q) s:=(rfl)
theorem w_block {id:Nat} {b:Code} {Q:AExit → St → Prop} {s:St}:codeW P frz q (.block id b) Q s = codeW P frz q b (blockQ id Q) s:=(rfl)
theorem w_cond {c:Operand} {a b:Code} {Q:AExit → St → Prop} {s:St}:codeW P frz q (.cond c a b) Q s = condW (ev s.env c) (codeW P frz q a Q) (codeW P frz q b Q) s:=(rfl)
theorem seqQ_normal {K:St → Prop} {Q:AExit → St → Prop} {s:St}:seqQ K Q .normal s = K s:=(rfl)
theorem seqQ_exit {id:Nat} {K:St → Prop} {Q:AExit → St → Prop} {s:St}:seqQ K Q (.exit id) s = Q (.exit id) s:=(rfl)
theorem seqQ_ret {K:St → Prop} {Q:AExit → St → Prop} {s:St}:seqQ K Q .ret s = Q .ret s:=(rfl)
theorem condW_bool {t:Bool} {a b:St → Prop} {s:St}:condW (.p (.bool t)) a b s = if t then a s else b s:=(rfl)
def contd (P:Program) (frz:FuncId → Bool) (ops:Array Oper) (r:List Oper) (i:Nat) (acc:List Touch) (K:St → Prop) (dst:Option Tmp) (s:St) (e:Eff):Prop :=
 opsWd P frz ops r (i + 1) (touch i s.heap.length e acc) K (e.app dst s)
theorem contd_eq {ops : Array Oper} {r : List Oper} {i : Nat} {acc : List Touch} {K : St → Prop} {dst : Option Tmp} {env : Env} {heap : Heap} {v : AV} {hin hset : List (Nat × Obj)} {hnew : List Obj} :
    contd P frz ops r i acc K dst ⟨env,heap⟩ ⟨v,hin,hset,hnew⟩ = opsWd P frz ops r (i + 1) (touch i heap.length ⟨v,hin,hset,hnew⟩ acc) K ⟨put dst v env,setAll heap hset ++ hnew⟩:=(rfl)
theorem appK_eq {dst:Option Tmp} {env:Env} {heap:Heap} {K:St → Prop} {v:AV} {hin hset:List (Nat × Obj)} {hnew:List Obj}:appK dst ⟨env,heap⟩ K ⟨v,hin,hset,hnew⟩ = K ⟨put dst v env,setAll heap hset ++ hnew⟩:=(rfl)
theorem putK_eq {dst:Option Tmp} {env:Env} {heap H:Heap} {K:St → Prop} {v:AV}:putK dst ⟨env,heap⟩ K v H = K ⟨put dst v env,H⟩:=(rfl)
def guardWd (P:Program) (frz:FuncId → Bool) (ops:Array Oper) (o:Oper) (r:List Oper) (i:Nat) (acc:List Touch) (K:St → Prop) (want:Bool) (s:St) (g:AV):Prop :=
 match g with
 | .p (.bool t)=>if t = want then drawnW P frz o s (contd P frz ops r i acc K o.dst s) else opsWd P frz ops r (i + 1) acc K ⟨put o.dst (.p (.tup [])) s.env,s.heap⟩
 | .p (.tup [])=>opsWd P frz ops r (i + 1) acc K ⟨put o.dst (.p (.tup [])) s.env,s.heap⟩
 | _=>False
def guardW (P:Program) (frz:FuncId → Bool) (ops:Array Oper) (o:Oper) (r:List Oper) (K:St → Prop) (want:Bool) (s:St) (g:AV):Prop :=
 match g with
 | .p (.bool t)=>if t = want then plainW P frz o (opsW P frz ops r K) s else opsW P frz ops r K ⟨put o.dst (.p (.tup [])) s.env,s.heap⟩
 | .p (.tup [])=>opsW P frz ops r K ⟨put o.dst (.p (.tup [])) s.env,s.heap⟩
 | _=>False
theorem wd_nil {ops:Array Oper} {i:Nat} {acc:List Touch} {K:St → Prop} {s:St}:opsWd P frz ops [] i acc K s = (touchOk ops acc = true ∧ K s):=(rfl)
theorem wd_cons {ops : Array Oper} {i ty : Nat} {pos : String} {acc : List Touch} {K : St → Prop} {s : St} {dst : Option Tmp} {op : Op} {af : Array Edge} {r : List Oper} :
    opsWd P frz ops ({ dst,op,type:=ty,pos,after:=af,guard:=none } :: r) i acc K s = drawnW P frz { dst,op,type:=ty,pos,after:=af,guard:=none } s (contd P frz ops r i acc K dst s):=(rfl)
theorem wd_guard {ops : Array Oper} {i ty j : Nat} {want : Bool} {pos : String} {acc : List Touch} {K : St → Prop} {s : St} {dst : Option Tmp} {op : Op} {af : Array Edge} {r : List Oper} :
    opsWd P frz ops ({ dst,op,type:=ty,pos,after:=af,guard:=some (j,want) } :: r) i acc K s = guardWd P frz ops { dst,op,type:=ty,pos,after:=af,guard:=some (j,want) } r i acc K want s (guardOf ops j s.env):=(rfl)
theorem wp_nil {ops:Array Oper} {K:St → Prop} {s:St}:opsW P frz ops [] K s = K s:=(rfl)
theorem wp_cons {ops : Array Oper} {ty : Nat} {pos : String} {K : St → Prop} {s : St} {dst : Option Tmp} {op : Op} {af : Array Edge} {r : List Oper} :
    opsW P frz ops ({ dst,op,type:=ty,pos,after:=af,guard:=none } :: r) K s = plainW P frz { dst,op,type:=ty,pos,after:=af,guard:=none } (opsW P frz ops r K) s:=(rfl)
theorem wp_guard {ops : Array Oper} {ty j : Nat} {want : Bool} {pos : String} {K : St → Prop} {s : St} {dst : Option Tmp} {op : Op} {af : Array Edge} {r : List Oper} :
    opsW P frz ops ({ dst,op,type:=ty,pos,after:=af,guard:=some (j,want) } :: r) K s = guardW P frz ops { dst,op,type:=ty,pos,after:=af,guard:=some (j,want) } r K want s (guardOf ops j s.env):=(rfl)
end
section congrs
variable {P:Program} {frz:FuncId → Bool} {q:Cx}
end congrs
section ops
variable {P:Program} {frz:FuncId → Bool} {dst:Option Tmp} {ty:Nat} {pos:String} {af:Array Edge} {g:Option (Nat × Bool)} {env:Env} {heap:Heap} {K:Eff → Prop} {L:St → Prop}
theorem d_move {x:Operand}:drawnW P frz ⟨dst,.move x,ty,pos,af,g⟩ ⟨env,heap⟩ K = K { v:=ev env x }:=(rfl)
theorem d_assign {x:Operand}:drawnW P frz ⟨dst,.assign x,ty,pos,af,g⟩ ⟨env,heap⟩ K = K { v:=ev env x }:=(rfl)
theorem d_pick {c a b:Operand}:drawnW P frz ⟨dst,.pick c a b,ty,pos,af,g⟩ ⟨env,heap⟩ K = runR (pickV (ev env c) (ev env a) (ev env b)) K:=(rfl)
theorem d_alloc {T:TypeId}:drawnW P frz ⟨dst,.alloc T,ty,pos,af,g⟩ ⟨env,heap⟩ K = runR (allocV P T heap.length) K:=(rfl)
theorem d_box {T:TypeId} {x:Operand}:drawnW P frz ⟨dst,.box T x,ty,pos,af,g⟩ ⟨env,heap⟩ K = runR (boxV P T heap.length (ev env x)) K:=(rfl)
theorem d_build {T:TypeId} {parts:Array (Nat × Operand)}:drawnW P frz ⟨dst,.build T parts,ty,pos,af,g⟩ ⟨env,heap⟩ K = runR (buildV P T (parts.toList.map fun (i,x)=>(i,ev env x))) K:=(rfl)
theorem d_buildSlice {T:TypeId} {n:Nat} {parts:Array (Nat × Operand)}:drawnW P frz ⟨dst,.buildSlice T n parts,ty,pos,af,g⟩ ⟨env,heap⟩ K = runR (buildSliceV P T n (parts.toList.map fun (i,x)=>(i,ev env x)) heap.length) K:=(rfl)
theorem d_load {T:TypeId} {a:Operand}:drawnW P frz ⟨dst,.load T a,ty,pos,af,g⟩ ⟨env,heap⟩ K = runR (loadV P T heap (ev env a)) K:=(rfl)
theorem d_store {T:TypeId} {a x:Operand}:drawnW P frz ⟨dst,.store T a x,ty,pos,af,g⟩ ⟨env,heap⟩ K = runR (storeV P T heap (ev env a) (ev env x)) K:=(rfl)
theorem d_bin {op:BinOp} {T T':TypeId} {x y:Operand}:drawnW P frz ⟨dst,.binOp op T x y T',ty,pos,af,g⟩ ⟨env,heap⟩ K = runR (binV P op T (isC y) heap (ev env x) (ev env y)) K:=(rfl)
theorem d_un {op:UnOp} {T:TypeId} {x:Operand}:drawnW P frz ⟨dst,.unOp op T x,ty,pos,af,g⟩ ⟨env,heap⟩ K = runR (unV op (ev env x)) K:=(rfl)
theorem d_conv {S D:TypeId} {x:Operand}:drawnW P frz ⟨dst,.convert S D x,ty,pos,af,g⟩ ⟨env,heap⟩ K = runR (convV P S D heap (ev env x)) K:=(rfl)
theorem d_extract {t:Operand} {i:Nat}:drawnW P frz ⟨dst,.extract t i,ty,pos,af,g⟩ ⟨env,heap⟩ K = runR (extractV (ev env t) i) K:=(rfl)
theorem d_fieldAddr {T:TypeId} {a:Operand} {f:Nat}:drawnW P frz ⟨dst,.fieldAddr T a f,ty,pos,af,g⟩ ⟨env,heap⟩ K = runR (fieldAddrV P T (ev env a) f) K:=(rfl)
theorem d_indexAddr {T:TypeId} {x i:Operand}:drawnW P frz ⟨dst,.indexAddr T x i,ty,pos,af,g⟩ ⟨env,heap⟩ K = runR (indexAddrV P T heap (ev env x) (ev env i)) K:=(rfl)
theorem d_index {T:TypeId} {x i:Operand}:drawnW P frz ⟨dst,.index T x i,ty,pos,af,g⟩ ⟨env,heap⟩ K = runR (indexV P T (ev env x) (ev env i)) K:=(rfl)
theorem d_len {x:Operand} {aT:Array TypeId}:drawnW P frz ⟨dst,.call { callee:=.builtin .len,args:=#[x],argTypes:=aT },ty,pos,af,g⟩ ⟨env,heap⟩ K = runR (lenV P (aT.getD 0 0) aT.size heap (ev env x)) K:=(rfl)
theorem d_call {f:Operand} {args:List Operand} {aT:Array TypeId}:drawnW P frz ⟨dst,.call { callee:=.value f,args:=args.toArray,argTypes:=aT },ty,pos,af,g⟩ ⟨env,heap⟩ K = callVd P (ev env f) (args.map (ev env)) heap K:=(rfl)
theorem p_move {x:Operand}:plainW P frz ⟨dst,.move x,ty,pos,af,g⟩ L ⟨env,heap⟩ = appK dst ⟨env,heap⟩ L { v:=ev env x }:=(rfl)
theorem p_assign {x:Operand}:plainW P frz ⟨dst,.assign x,ty,pos,af,g⟩ L ⟨env,heap⟩ = appK dst ⟨env,heap⟩ L { v:=ev env x }:=(rfl)
theorem p_pick {c a b:Operand}:plainW P frz ⟨dst,.pick c a b,ty,pos,af,g⟩ L ⟨env,heap⟩ = runR (pickV (ev env c) (ev env a) (ev env b)) (appK dst ⟨env,heap⟩ L):=(rfl)
theorem p_alloc {T:TypeId}:plainW P frz ⟨dst,.alloc T,ty,pos,af,g⟩ L ⟨env,heap⟩ = runR (allocV P T heap.length) (appK dst ⟨env,heap⟩ L):=(rfl)
theorem p_box {T:TypeId} {x:Operand}:plainW P frz ⟨dst,.box T x,ty,pos,af,g⟩ L ⟨env,heap⟩ = runR (boxV P T heap.length (ev env x)) (appK dst ⟨env,heap⟩ L):=(rfl)
theorem p_build {T:TypeId} {parts:Array (Nat × Operand)}:plainW P frz ⟨dst,.build T parts,ty,pos,af,g⟩ L ⟨env,heap⟩ = runR (buildV P T (parts.toList.map fun (i,x)=>(i,ev env x))) (appK dst ⟨env,heap⟩ L):=(rfl)
theorem p_buildSlice {T:TypeId} {n:Nat} {parts:Array (Nat × Operand)}:plainW P frz ⟨dst,.buildSlice T n parts,ty,pos,af,g⟩ L ⟨env,heap⟩ = runR (buildSliceV P T n (parts.toList.map fun (i,x)=>(i,ev env x)) heap.length) (appK dst ⟨env,heap⟩ L):=(rfl)
theorem p_load {T:TypeId} {a:Operand}:plainW P frz ⟨dst,.load T a,ty,pos,af,g⟩ L ⟨env,heap⟩ = runR (loadV P T heap (ev env a)) (appK dst ⟨env,heap⟩ L):=(rfl)
theorem p_store {T:TypeId} {a x:Operand}:plainW P frz ⟨dst,.store T a x,ty,pos,af,g⟩ L ⟨env,heap⟩ = runR (storeV P T heap (ev env a) (ev env x)) (appK dst ⟨env,heap⟩ L):=(rfl)
theorem p_bin {op:BinOp} {T T':TypeId} {x y:Operand}:plainW P frz ⟨dst,.binOp op T x y T',ty,pos,af,g⟩ L ⟨env,heap⟩ = runR (binV P op T (isC y) heap (ev env x) (ev env y)) (appK dst ⟨env,heap⟩ L):=(rfl)
theorem p_un {op:UnOp} {T:TypeId} {x:Operand}:plainW P frz ⟨dst,.unOp op T x,ty,pos,af,g⟩ L ⟨env,heap⟩ = runR (unV op (ev env x)) (appK dst ⟨env,heap⟩ L):=(rfl)
theorem p_conv {S D:TypeId} {x:Operand}:plainW P frz ⟨dst,.convert S D x,ty,pos,af,g⟩ L ⟨env,heap⟩ = runR (convV P S D heap (ev env x)) (appK dst ⟨env,heap⟩ L):=(rfl)
theorem p_extract {t:Operand} {i:Nat}:plainW P frz ⟨dst,.extract t i,ty,pos,af,g⟩ L ⟨env,heap⟩ = runR (extractV (ev env t) i) (appK dst ⟨env,heap⟩ L):=(rfl)
theorem p_fieldAddr {T:TypeId} {a:Operand} {f:Nat}:plainW P frz ⟨dst,.fieldAddr T a f,ty,pos,af,g⟩ L ⟨env,heap⟩ = runR (fieldAddrV P T (ev env a) f) (appK dst ⟨env,heap⟩ L):=(rfl)
theorem p_indexAddr {T:TypeId} {x i:Operand}:plainW P frz ⟨dst,.indexAddr T x i,ty,pos,af,g⟩ L ⟨env,heap⟩ = runR (indexAddrV P T heap (ev env x) (ev env i)) (appK dst ⟨env,heap⟩ L):=(rfl)
theorem p_index {T:TypeId} {x i:Operand}:plainW P frz ⟨dst,.index T x i,ty,pos,af,g⟩ L ⟨env,heap⟩ = runR (indexV P T (ev env x) (ev env i)) (appK dst ⟨env,heap⟩ L):=(rfl)
theorem p_len {x:Operand} {aT:Array TypeId}:plainW P frz ⟨dst,.call { callee:=.builtin .len,args:=#[x],argTypes:=aT },ty,pos,af,g⟩ L ⟨env,heap⟩ = runR (lenV P (aT.getD 0 0) aT.size heap (ev env x)) (appK dst ⟨env,heap⟩ L):=(rfl)
theorem p_call {f:Operand} {args:List Operand} {aT:Array TypeId}:plainW P frz ⟨dst,.call { callee:=.value f,args:=args.toArray,argTypes:=aT },ty,pos,af,g⟩ L ⟨env,heap⟩ = callV P (ev env f) (args.map (ev env)) heap (putK dst ⟨env,heap⟩ L):=(rfl)
theorem d_slice {T:TypeId} {x:Operand} {lo hi:Option Operand}:drawnW P frz ⟨dst,.slice T x lo hi none,ty,pos,af,g⟩ ⟨env,heap⟩ K = runR (sliceV P T heap (ev env x) (lo.map (ev env)) (hi.map (ev env))) K:=(rfl)
theorem p_slice {T:TypeId} {x:Operand} {lo hi:Option Operand}:plainW P frz ⟨dst,.slice T x lo hi none,ty,pos,af,g⟩ L ⟨env,heap⟩ = runR (sliceV P T heap (ev env x) (lo.map (ev env)) (hi.map (ev env))) (appK dst ⟨env,heap⟩ L):=(rfl)
theorem d_lookup {T:TypeId} {x i:Operand} {ok:Bool}:drawnW P frz ⟨dst,.lookup T x i ok,ty,pos,af,g⟩ ⟨env,heap⟩ K = runR (lkupV P T heap (ev env x) (ev env i) ok) K:=(rfl)
theorem p_lookup {T:TypeId} {x i:Operand} {ok:Bool}:plainW P frz ⟨dst,.lookup T x i ok,ty,pos,af,g⟩ L ⟨env,heap⟩ = runR (lkupV P T heap (ev env x) (ev env i) ok) (appK dst ⟨env,heap⟩ L):=(rfl)
theorem d_mapUpdate {T:TypeId} {m k x:Operand}:drawnW P frz ⟨dst,.mapUpdate T m k x,ty,pos,af,g⟩ ⟨env,heap⟩ K = runR (insV P T heap (ev env m) (ev env k) (ev env x)) K:=(rfl)
theorem p_mapUpdate {T:TypeId} {m k x:Operand}:plainW P frz ⟨dst,.mapUpdate T m k x,ty,pos,af,g⟩ L ⟨env,heap⟩ = runR (insV P T heap (ev env m) (ev env k) (ev env x)) (appK dst ⟨env,heap⟩ L):=(rfl)
theorem d_insert {T:TypeId} {m k x:Operand}:drawnW P frz ⟨dst,.insert T m k x,ty,pos,af,g⟩ ⟨env,heap⟩ K = runR (insV P T heap (ev env m) (ev env k) (ev env x)) K:=(rfl)
theorem p_insert {T:TypeId} {m k x:Operand}:plainW P frz ⟨dst,.insert T m k x,ty,pos,af,g⟩ L ⟨env,heap⟩ = runR (insV P T heap (ev env m) (ev env k) (ev env x)) (appK dst ⟨env,heap⟩ L):=(rfl)
theorem d_range {T:TypeId} {x:Operand}:drawnW P frz ⟨dst,.range T x,ty,pos,af,g⟩ ⟨env,heap⟩ K = runR (rangeV P T heap.length (ev env x)) K:=(rfl)
theorem p_range {T:TypeId} {x:Operand}:plainW P frz ⟨dst,.range T x,ty,pos,af,g⟩ L ⟨env,heap⟩ = runR (rangeV P T heap.length (ev env x)) (appK dst ⟨env,heap⟩ L):=(rfl)
theorem d_next {it:Operand}:drawnW P frz ⟨dst,.next it true,ty,pos,af,g⟩ ⟨env,heap⟩ K = runR (nextV heap (ev env it)) K:=(rfl)
theorem p_next {it:Operand}:plainW P frz ⟨dst,.next it true,ty,pos,af,g⟩ L ⟨env,heap⟩ = runR (nextV heap (ev env it)) (appK dst ⟨env,heap⟩ L):=(rfl)
theorem d_makeSlice {T:TypeId} {l c:Operand}:drawnW P frz ⟨dst,.makeSlice T l c,ty,pos,af,g⟩ ⟨env,heap⟩ K = runR (mkSlV P T heap.length (ev env l) (ev env c)) K:=(rfl)
theorem p_makeSlice {T:TypeId} {l c:Operand}:plainW P frz ⟨dst,.makeSlice T l c,ty,pos,af,g⟩ L ⟨env,heap⟩ = runR (mkSlV P T heap.length (ev env l) (ev env c)) (appK dst ⟨env,heap⟩ L):=(rfl)
theorem d_nilCheck {x:Operand}:drawnW P frz ⟨dst,.nilCheck x,ty,pos,af,g⟩ ⟨env,heap⟩ K = runR (nilChkV (ev env x)) K:=(rfl)
theorem p_nilCheck {x:Operand}:plainW P frz ⟨dst,.nilCheck x,ty,pos,af,g⟩ L ⟨env,heap⟩ = runR (nilChkV (ev env x)) (appK dst ⟨env,heap⟩ L):=(rfl)
theorem d_min {args:Array Operand} {aT:Array TypeId}:drawnW P frz ⟨dst,.call { callee:=.builtin .min,args,argTypes:=aT },ty,pos,af,g⟩ ⟨env,heap⟩ K = runR (minV false (args.toList.map (ev env))) K:=(rfl)
theorem p_min {args:Array Operand} {aT:Array TypeId}:plainW P frz ⟨dst,.call { callee:=.builtin .min,args,argTypes:=aT },ty,pos,af,g⟩ L ⟨env,heap⟩ = runR (minV false (args.toList.map (ev env))) (appK dst ⟨env,heap⟩ L):=(rfl)
theorem d_max {args:Array Operand} {aT:Array TypeId}:drawnW P frz ⟨dst,.call { callee:=.builtin .max,args,argTypes:=aT },ty,pos,af,g⟩ ⟨env,heap⟩ K = runR (minV true (args.toList.map (ev env))) K:=(rfl)
theorem p_max {args:Array Operand} {aT:Array TypeId}:plainW P frz ⟨dst,.call { callee:=.builtin .max,args,argTypes:=aT },ty,pos,af,g⟩ L ⟨env,heap⟩ = runR (minV true (args.toList.map (ev env))) (appK dst ⟨env,heap⟩ L):=(rfl)
theorem d_makeMap {T:TypeId}:drawnW P frz ⟨dst,.makeMap T none,ty,pos,af,g⟩ ⟨env,heap⟩ K = K { v:=.map heap.length,hnew:=[.map false []] }:=(rfl)
theorem p_makeMap {T:TypeId}:plainW P frz ⟨dst,.makeMap T none,ty,pos,af,g⟩ L ⟨env,heap⟩ = appK dst ⟨env,heap⟩ L { v:=.map heap.length,hnew:=[.map false []] }:=(rfl)
theorem d_append {s x:Operand} {T X:TypeId}:drawnW P frz ⟨dst,.call { callee:=.builtin .append,args:=#[s,x],argTypes:=#[T,X] },ty,pos,af,g⟩ ⟨env,heap⟩ K = runR (appendV P T X heap (ev env s) (ev env x)) K:=by simp [drawnW,opW]
theorem p_append {s x:Operand} {T X:TypeId}:plainW P frz ⟨dst,.call { callee:=.builtin .append,args:=#[s,x],argTypes:=#[T,X] },ty,pos,af,g⟩ L ⟨env,heap⟩ = runR (appendV P T X heap (ev env s) (ev env x)) (appK dst ⟨env,heap⟩ L):=by simp [plainW,opW]
theorem d_copy {s x:Operand} {T X:TypeId}:drawnW P frz ⟨dst,.call { callee:=.builtin .copy,args:=#[s,x],argTypes:=#[T,X] },ty,pos,af,g⟩ ⟨env,heap⟩ K = runR (copyV P T heap (ev env s) (ev env x)) K:=by simp [drawnW,opW]
theorem p_copy {s x:Operand} {T X:TypeId}:plainW P frz ⟨dst,.call { callee:=.builtin .copy,args:=#[s,x],argTypes:=#[T,X] },ty,pos,af,g⟩ L ⟨env,heap⟩ = runR (copyV P T heap (ev env s) (ev env x)) (appK dst ⟨env,heap⟩ L):=by simp [plainW,opW]
theorem cv_fn {f:FuncId} {fi ca:List AV} {args:List AV} {M:AV → Heap → Prop}:callV P (.func f fi ca) args heap M = CallWP P false f (fi ++ args ++ ca) heap M:=(rfl)
theorem cvd_fn {f:FuncId} {fi ca:List AV} {args:List AV}:callVd P (.func f fi ca) args heap K = CallE P f (fi ++ args ++ ca) heap K:=(rfl)
theorem cv_p {f:FuncId} {fi ca:List PV} {args:List AV} {M:AV → Heap → Prop}:callV P (.p (.func f fi ca)) args heap M = CallWP P false f (fi.map .p ++ args ++ ca.map .p) heap M:=(rfl)
theorem cvd_p {f:FuncId} {fi ca:List PV} {args:List AV}:callVd P (.p (.func f fi ca)) args heap K = CallE P f (fi.map .p ++ args ++ ca.map .p) heap K:=(rfl)
end ops
section
variable {P:Program}
@[simp] theorem shp_bool {b:Bool}:shp (.bool b) = .leaf:=(rfl)
@[simp] theorem shp_int {k:IntKind} {n:Int}:shp (.int k n) = .leaf:=(rfl)
@[simp] theorem shp_str {l:List Nat}:shp (.str l) = .leaf:=(rfl)
@[simp] theorem shp_nsl:shp .nsl = .leaf:=(rfl)
@[simp] theorem shp_seq {l:List PV}:shp (.seq l) = .leaf:=(rfl)
@[simp] theorem shp_nmap:shp .nmap = .leaf:=(rfl)
@[simp] theorem shp_nfunc:shp .nfunc = .leaf:=(rfl)
@[simp] theorem shp_st {u:TypeId} {fs:List PV}:shp (.st u fs) = .agg u:=(rfl)
@[simp] theorem shpA_p {v:PV}:shpA (.p v) = shp v:=(rfl)
@[simp] theorem shpA_st {u:TypeId} {fs:List AV}:shpA (.st u fs) = .agg u:=(rfl)
@[simp] theorem shpA_ptr {b:Nat} {p:List (TypeId × Nat)}:shpA (.ptr b p) = .leaf:=(rfl)
@[simp] theorem shpA_sl {b v e o l:Nat}:shpA (.sl b v e o l) = .leaf:=(rfl)
@[simp] theorem shpA_map {b:Nat}:shpA (.map b) = .leaf:=(rfl)
@[simp] theorem shpA_func {f:FuncId} {a b:List AV}:shpA (.func f a b) = .leaf:=(rfl)
@[simp] theorem flds_st {u:TypeId} {fs:List PV}:flds (.st u fs) = fs:=(rfl)
theorem endsQ_ret {rs:List ResultVar} {Q:PV → Prop} {s:St}:EndsQ P rs Q .ret s = ∃ vs,resVals P s rs = some vs ∧ ∃ v,purR s.heap 9 (oneOf vs) = some v ∧ Q v:=by simp [EndsQ]
theorem endsQ_normal {rs:List ResultVar} {Q:PV → Prop} {s:St}:EndsQ P rs Q .normal s = ∃ vs,resVals P s rs = some vs ∧ ∃ v,purR s.heap 9 (oneOf vs) = some v ∧ Q v:=by simp [EndsQ]
attribute [simp] endsQ_ret endsQ_normal clash w_skip w_label w_exit w_ret w_scope w_draw w_plain w_seq w_block w_cond seqQ_normal seqQ_exit seqQ_ret condW_bool contd_eq appK_eq putK_eq wd_nil wd_cons wp_nil wp_cons wd_guard wp_guard
 d_move d_assign d_pick d_alloc d_box d_build d_buildSlice d_load d_store d_bin d_un d_conv d_extract d_fieldAddr d_indexAddr d_index d_len d_call
 p_move p_assign p_pick p_alloc p_box p_build p_buildSlice p_load p_store p_bin p_un p_conv p_extract p_fieldAddr p_indexAddr p_index p_len p_call cv_p cvd_p d_slice p_slice d_lookup p_lookup d_mapUpdate p_mapUpdate d_insert p_insert d_range p_range d_next p_next d_makeSlice p_makeSlice d_nilCheck p_nilCheck d_min p_min d_max p_max d_makeMap p_makeMap d_append p_append d_copy p_copy cv_fn cvd_fn appendV bndV sliceV lkupV insV rangeV nextV mkSlV copyV nilChkV minV elemsOf readsOf allShp keyFits mapTy gk isStrT minInts runR_some runR_none
 blockQ_normal blockQ_exit blockQ_ret roundQ_normal roundQ_exit roundQ_ret
 getE put argEnv ev ofConst setAll touch touchOf idsFrom subA subP setA mkSt allP pickV allocV boxV bxB buildV buildSliceV binV intV strV unV convV extractV indexV lenV loadV storeV fieldAddrV indexAddrV lenOf lenTy fillParts partsOk shpSize
 isC resVals resVal oneOf purR
end
end Go.Abs
