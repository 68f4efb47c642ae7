import Derived.Test.YthckccalfpnmaaaGreatDoorThD
/- Parts of a proof. -/
set_option linter.unusedSimpArgs false
set_option linter.unusedVariables false
set_option linter.unusedSectionVars false
namespace Go.Abs
set_option linter.unusedSectionVars false
variable [Gl]
section
variable {P:Program} {frz:FuncId → Bool} {w:World} {Imm Prot:Nat → Prop} {β:Bd} {H:Heap}
def killH (K:Nat → Bool) (H:Heap):Heap:=H.mapIdx fun i o=>if K i then .dead else o
theorem killH_get {K:Nat → Bool} {b:Nat}:(killH K H)[b]? = (H[b]?).map fun o=>if K b then .dead else o:=by simp [killH]
theorem killH_some {K:Nat → Bool} {b:Nat} {o:Obj} (h:(killH K H)[b]? = some o):∃ o0,H[b]? = some o0 ∧ ((K b = true ∧ o = .dead) ∨ (K b = false ∧ o = o0)):=by
 rw [killH_get,Option.map_eq_some_iff] at h
 obtain ⟨o0,h1,h2⟩:=h
 refine ⟨o0,h1,?_⟩
 cases hk:K b <;> simp [hk] at h2
 · exact .inr ⟨rfl,h2.symm⟩
 · exact .inl ⟨rfl,h2.symm⟩
theorem killH_in {K:Nat → Bool} {x:Nat × Nat} (h:InH H x):InH (killH K H) x:=by
 obtain ⟨o,h1,h2⟩:=h
 refine ⟨if K x.1 then .dead else o,by rw [killH_get,h1]; rfl,?_⟩
 split
 · trivial
 · exact h2
theorem killH_step {K:Nat → Bool}:HStep β H β (killH K H):=by
 refine ⟨fun b _ h=>⟨?_,rfl⟩,fun b _ h=>⟨?_,rfl⟩,fun b _ h=>⟨?_,rfl⟩,fun b ver esz k es _ h=>⟨k,es,?_,Nat.le_refl _,Iff.rfl,fun _=>⟨rfl,rfl⟩⟩,fun b _ h=>⟨?_,rfl⟩⟩
 · obtain ⟨fz,t,h⟩:=h
   obtain ⟨o0,h1,h2⟩:=killH_some h
   rcases h2 with ⟨_,h2⟩ | ⟨_,rfl⟩
   · cases h2
   · exact ⟨fz,t,h1⟩
 · obtain ⟨s,q,h⟩:=h
   obtain ⟨o0,h1,h2⟩:=killH_some h
   rcases h2 with ⟨_,h2⟩ | ⟨_,rfl⟩
   · cases h2
   · exact ⟨s,q,h1⟩
 · obtain ⟨s,q,h⟩:=h
   obtain ⟨o0,h1,h2⟩:=killH_some h
   rcases h2 with ⟨_,h2⟩ | ⟨_,rfl⟩
   · cases h2
   · exact ⟨s,q,h1⟩
 · obtain ⟨o0,h1,h2⟩:=killH_some h
   rcases h2 with ⟨_,h2⟩ | ⟨_,rfl⟩
   · cases h2
   · exact h1
 · obtain ⟨L,h⟩:=h
   obtain ⟨o0,h1,h2⟩:=killH_some h
   rcases h2 with ⟨_,h2⟩ | ⟨_,rfl⟩
   · cases h2
   · exact ⟨L,h1⟩
def ImmK (K:Nat → Bool) (Imm:Nat → Prop) (β:Bd) (H:Heap) (k:Nat):Prop:=Imm k ∨ ∃ (b:Nat) (o:Obj),H[b]? = some o ∧ o.live ∧ K b = true ∧ β.blk b = k
theorem HRel.kill (K:Nat → Bool) (hr:HRel P w Imm β H Prot):HRel P w Imm β (killH K H) Prot:=by
 refine ⟨fun b o ho=>?_,fun b b' o o' ho ho' hl hl' hn he=>?_,fun b o ho=>?_,hr.imm,hr.prot,hr.glob⟩
 · obtain ⟨o0,h1,h2⟩:=killH_some ho
   rcases h2 with ⟨_,rfl⟩ | ⟨_,rfl⟩
   · trivial
   · exact ORel.carry (fun _ x=>x) (fun _ _=>rfl) killH_step (hr.refs b o h1) (fun _=>⟨rfl,rfl,rfl⟩) (fun _ _ h=>h) (hr.objs b o h1)
 · obtain ⟨o0,h1,h2⟩:=killH_some ho
   obtain ⟨o0',h1',h2'⟩:=killH_some ho'
   rcases h2 with ⟨_,rfl⟩ | ⟨_,rfl⟩
   · exact hl.elim
   rcases h2' with ⟨_,rfl⟩ | ⟨_,rfl⟩
   · exact hl'.elim
   exact hr.inj b b' _ _ h1 h1' hl hl' hn he
 · obtain ⟨o0,h1,h2⟩:=killH_some ho
   rcases h2 with ⟨_,rfl⟩ | ⟨_,rfl⟩
   · trivial
   · exact Obj.refs_mono (fun _ h=>killH_in h) (hr.refs b o h1)
theorem HRel.killImm (K:Nat → Bool) (hr:HRel P w Imm β H Prot):HRel P w (ImmK K Imm β H) β (killH K H) Prot:=by
 have hk:=hr.kill K
 have hi:∀ k,Imm k → ImmK K Imm β H k:=fun k h=>.inl h
 refine ⟨fun b o ho=>?_,fun b b' o o' ho ho' hl hl' hn he=>hk.inj b b' o o' ho ho' hl hl' (fun h=>hn (hi _ h)) he,hk.refs,fun k h=>?_,hr.prot,⟨fun g=>PVV.mono hi (fun _ _=>rfl) _ _ (hr.glob.val g),fun g cs h=>⟨hi _ (hr.glob.raw g cs h).1,(hr.glob.raw g cs h).2⟩⟩⟩
 · have ho2:=ho
   obtain ⟨o0,h1,h2⟩:=killH_some ho
   rcases h2 with ⟨_,rfl⟩ | ⟨kb,rfl⟩
   · trivial
   · refine ORel.carry hi (fun _ _=>rfl) (HStep.refl β _) (hk.refs b o ho2) (fun _=>⟨rfl,rfl,rfl⟩) (fun hl fz h=>?_) (hk.objs b o ho2)
     cases fz with
     | true=>exact hi _ h
     | false =>
      refine ⟨?_,h.2⟩
      rintro (h3 | ⟨b1,o1,g1,g2,g3,g4⟩)
      · exact h.1 h3
      · have:=hr.inj b1 b o1 o g1 h1 g2 hl (by rw [g4]; exact h.1) g4
        rw [this,kb] at g3; cases g3
 · rcases h with h | ⟨b1,o1,g1,g2,g3,rfl⟩
   · exact hr.imm k h
   · exact hr.live_lt g1 g2
theorem ORel.held {b:Nat} {o:Obj} (h:ORel P w Imm β H Prot b o) (hl:o.live):Imm (β.blk b) ∨ ¬ Prot (β.blk b):=by
 by_cases hi:Imm (β.blk b)
 · exact .inl hi
 · exact .inr (h.mut hl hi)
theorem GoodI.pure {f : FuncId} {args : List AV} {H' : Heap} {v : AV} {n : Nat} {p : PV} (K : Nat → Bool) (h : GoodI P f H args H' v) (hp : purR (killH (fun i => !K i) H') n v = some p) (hl : ∀ b L, K b = true → H[b]? ≠ some (.loop L)) :
    GoodI P f H args (killH K H') (.p p):=by
 refine ⟨h.1,fun w Imm Prot β cargs hr ha hre=>(h.2 w Imm Prot β cargs hr ha hre).mono ?_⟩
 rintro e w' ⟨cv,β',Imm',rfl,hpo,hv,hrv⟩
 have hrel:=hpo.rel
 have hk2:=hrel.kill (fun i=>!K i)
 have hv2:AVV P w' Imm' β' (killH (fun i=>!K i) H') v cv:=AVV.mono (fun _ x=>x) (fun _ _=>rfl) killH_step _ _ hrv hv
 have hpv:=purR_sound hk2 n v p hp (refsLt.mono (fun _ h=>killH_in h) v hrv) cv hv2
 refine ⟨cv,β',ImmK K Imm' β' H',rfl,⟨fun k hk=>.inl (hpo.imm k hk),?_,hpo.ext,?_,hrel.killImm K,fun x hx=>killH_in (hpo.inn x hx),?_⟩,?_,trivial⟩
 · rintro k (hk | ⟨b,o,g1,g2,g3,rfl⟩)
   · exact hpo.fresh k hk
   · rcases (hrel.objs b o g1).held g2 with h | h
     · exact hpo.fresh _ h
     · exact .inr h
 · have hst:=hpo.step
   have hk:=killH_step (K:=K) (β:=β') (H:=H')
   refine ⟨fun b hb hL=>?_,fun b hb hL=>?_,fun b hb hL=>?_,fun b ver esz k es hb hL=>?_,fun b hb hL=>?_⟩
   · exact hst.box b hb (hk.box b (hpo.inn _ hb) hL).1
   · exact hst.it b hb (hk.it b (hpo.inn _ hb) hL).1
   · exact hst.map b hb (hk.map b (hpo.inn _ hb) hL).1
   · have h3:LiveArr H' b ver esz k es:=by
      obtain ⟨o0,h1,h2⟩:=killH_some hL
      rcases h2 with ⟨_,h2⟩ | ⟨_,rfl⟩
      · cases h2
      · exact h1
     exact hst.arr b ver esz k es hb h3
   · exact hst.loop b hb (hk.loop b (hpo.inn _ hb) hL).1
 · rintro b ⟨L,hL⟩
   obtain ⟨L',hL'⟩:=hpo.loop b ⟨L,hL⟩
   have hkb:K b = false:=by
    cases hkb:K b with
    | false=>rfl
    | true=>exact (hl b L hkb hL).elim
   exact ⟨L',by rw [killH_get,hL']; simp [hkb]⟩
 · show PVV P w' _ p cv
   refine PVV.mono ?_ (fun _ _=>rfl) _ _ hpv
   rintro k (hk | ⟨b,o,g1,g2,rfl⟩)
   · exact .inl hk
   · obtain ⟨o0,h1,h2⟩:=killH_some g1
     rcases h2 with ⟨_,rfl⟩ | ⟨kb,rfl⟩
     · exact g2.elim
     · exact .inr ⟨b,o,h1,g2,by simpa using kb,rfl⟩
end
end Go.Abs
namespace Go.Abs
set_option linter.unusedSectionVars false
variable [Gl]
section
variable {P:Program} {w:World} {Imm Prot:Nat → Prop} {β:Bd}
theorem swap_step {t t':AV} {r:Heap}:HStep β (.box false t :: r) β (.box false t' :: r):=by
 refine ⟨fun b _ h=>⟨?_,rfl⟩,fun b _ h=>⟨?_,rfl⟩,fun b _ h=>⟨?_,rfl⟩,fun b ver esz k es _ h=>⟨k,es,?_,Nat.le_refl _,Iff.rfl,fun _=>⟨rfl,rfl⟩⟩,fun b _ h=>⟨?_,rfl⟩⟩
 · cases b with
   | zero=>exact ⟨false,t,rfl⟩
   | succ b=>exact h
 · obtain ⟨s,q,h⟩:=h
   cases b with
   | zero=>simp at h
   | succ b=>exact ⟨s,q,h⟩
 · obtain ⟨s,q,h⟩:=h
   cases b with
   | zero=>simp at h
   | succ b=>exact ⟨s,q,h⟩
 · cases b with
   | zero=>simp [LiveArr] at h
   | succ b=>exact h
 · obtain ⟨L,h⟩:=h
   cases b with
   | zero=>simp at h
   | succ b=>exact ⟨L,h⟩
theorem swap_in {t t':AV} {r:Heap} {x:Nat × Nat} (h:InH (.box false t :: r) x):InH (.box false t' :: r) x:=by
 obtain ⟨o,h1,h2⟩:=h
 obtain ⟨b,v⟩:=x
 cases b with
 | zero=>exact ⟨_,rfl,trivial⟩
 | succ b=>exact ⟨o,h1,h2⟩
theorem HRel.swap {t t' : AV} {r : Heap} (hr : HRel P w Imm β (.box false t :: r) Prot) (hc : ∀ cs, AVC P w Imm β (.box false t :: r) t cs → AVC P w Imm β (.box false t :: r) t' cs) (hbx : ∀ T, bxB T (shpA t') = true)
    (href:∀ n,refsLt n t → refsLt n t'):HRel P w Imm β (.box false t' :: r) Prot:=by
 refine ⟨fun b o ho=>?_,fun b b' o o' ho ho' hl hl' hn he=>?_,fun b o ho=>?_,hr.imm,hr.prot,hr.glob⟩
 · cases b with
   | zero =>
    simp at ho; subst ho
    obtain ⟨cs,T,h1,h2,h3,h4,h5⟩:=hr.objs 0 _ rfl
    have hre:=hr.refs 0 _ rfl
    exact ⟨cs,T,h1,AVC.mono (fun _ x=>x) (fun _ _=>rfl) swap_step _ _ (href _ hre) (hc _ h2),h3,(fun h=>absurd h (by simp)),hbx T⟩
   | succ b=>exact ORel.carry (fun _ x=>x) (fun _ _=>rfl) swap_step (hr.refs (b + 1) o ho) (fun _=>⟨rfl,rfl,rfl⟩) (fun _ _ h=>h) (hr.objs (b + 1) o ho)
 · have key:∀ {b:Nat} {o:Obj},(Obj.box false t' :: r)[b]? = some o → o.live → ∃ o1,(Obj.box false t :: r)[b]? = some o1 ∧ o1.live:=by
    intro b o ho hl
    cases b with
    | zero=>exact ⟨_,rfl,trivial⟩
    | succ b=>exact ⟨o,ho,hl⟩
   obtain ⟨o1,k1,k2⟩:=key ho hl
   obtain ⟨o2,k3,k4⟩:=key ho' hl'
   exact hr.inj b b' o1 o2 k1 k3 k2 k4 hn he
 · cases b with
   | zero =>
    simp at ho; subst ho
    exact refsLt.mono (fun _ h=>swap_in h) _ (href _ (hr.refs 0 _ rfl))
   | succ b=>exact Obj.refs_mono (fun _ h=>swap_in h) (hr.refs (b + 1) o ho)
theorem avc_wrap {H:Heap} {u:TypeId} {n:Nat} (hu:szs P u = some [n]) {t:AV} {cs:List Value}:AVC P w Imm β H (.st u [t]) cs ↔ AVC P w Imm β H t cs ∧ cs.length = n:=by
 simp only [AVC,hu,Option.some.injEq]
 constructor
 · rintro ⟨l,css,rfl,h1,rfl⟩
   simp only [AVCl] at h1
   obtain ⟨c,d,rfl,h2,h3,rfl⟩:=h1
   simpa using ⟨h2,h3⟩
 · rintro ⟨h1,h2⟩
   exact ⟨[n],[cs],rfl,by simp only [AVCl]; exact ⟨cs,[],rfl,h1,h2,rfl⟩,by simp⟩
theorem GoodI.wrap {f : FuncId} {u : TypeId} {n : Nat} {t t' : AV} {r r' : Heap} {args : List AV} {v : AV} (hu : szs P u = some [n]) (hb : ∀ T, bxB T (.agg u) = true) (hb1 : ∀ T, bxB T (shpA t) = true) (hn : ∀ (w : World) (Imm : Nat → Prop) (β : Bd) (H : Heap) (cs : List Value), AVC P w Imm β H t' cs → cs.length = n)
    (h:GoodI P f (.box false t :: r) (.ptr 0 [] :: args) (.box false t' :: r') v):GoodI P f (.box false (.st u [t]) :: r) (.ptr 0 [(u,0)] :: args) (.box false (.st u [t']) :: r') v:=by
 refine ⟨h.1,fun w Imm Prot β cargs hr ha hre=>?_⟩
 have hr1:HRel P w Imm β (.box false t :: r) Prot:=hr.swap (fun cs h=>((avc_wrap hu).1 h).1) hb1 (fun n h=>by simpa [refsLt,refsLtl] using h)
 obtain ⟨x,xs,rfl,h1,h2⟩:=ha
 have ha1:AVVl P w Imm β (.box false t :: r) (.ptr 0 [] :: args) (x :: xs):=by
  refine ⟨x,xs,rfl,?_,AVVl.mono (fun _ x=>x) (fun _ _=>rfl) swap_step _ _ hre.2 h2⟩
  obtain ⟨q1,blk,off,o,q2,q3,q4⟩:=h1
  refine ⟨q1,blk,off,0,q2,rfl,fun _=>?_⟩
  have ho:o = 0:=by simpa [pathOff,hu] using q3.symm
  have:=q4 (.inl ⟨false,_,rfl⟩)
  rw [ho] at this; exact this
 refine (h.2 w Imm Prot β (x :: xs) hr1 ha1 ⟨⟨_,rfl,trivial⟩,refsLtl.mono (fun _ h=>swap_in h) _ hre.2⟩).mono ?_
 rintro e w' ⟨cv,β',Imm',rfl,hpo,hv,hrv⟩
 refine ⟨cv,β',Imm',rfl,⟨hpo.imm,hpo.fresh,hpo.ext,?_,?_,fun x hx=>swap_in (hpo.inn x (swap_in hx)),?_⟩,AVV.mono (fun _ x=>x) (fun _ _=>rfl) swap_step _ _ hrv hv,refsLt.mono (fun _ h=>swap_in h) _ hrv⟩
 · have hst:=hpo.step
   have s1:=swap_step (β:=β) (t:=.st u [t]) (t':=t) (r:=r)
   have s2:=swap_step (β:=β') (t:=t') (t':=.st u [t']) (r:=r')
   have i1:∀ x,InH (.box false (.st u [t]) :: r) x → InH (.box false t :: r) x:=fun x h=>swap_in h
   have i2:∀ x,InH (.box false t :: r) x → InH (.box false t' :: r') x:=hpo.inn
   refine ⟨fun b hb hL=>?_,fun b hb hL=>?_,fun b hb hL=>?_,fun b ver esz k es hb hL=>?_,fun b hb hL=>?_⟩
   · obtain ⟨k1,k2⟩:=s2.box b (i2 _ (i1 _ hb)) hL
     obtain ⟨k3,k4⟩:=hst.box b (i1 _ hb) k1
     exact ⟨(s1.box b hb k3).1,k4⟩
   · obtain ⟨k1,k2⟩:=s2.it b (i2 _ (i1 _ hb)) hL
     obtain ⟨k3,k4⟩:=hst.it b (i1 _ hb) k1
     exact ⟨(s1.it b hb k3).1,k4⟩
   · obtain ⟨k1,k2⟩:=s2.map b (i2 _ (i1 _ hb)) hL
     obtain ⟨k3,k4⟩:=hst.map b (i1 _ hb) k1
     exact ⟨(s1.map b hb k3).1,k4⟩
   · have k1:LiveArr (.box false t' :: r') b ver esz k es:=by
      cases b with
      | zero=>simp [LiveArr] at hL
      | succ b=>exact hL
     obtain ⟨k0,es0,q1,q2⟩:=hst.arr b ver esz k es (i1 _ hb) k1
     refine ⟨k0,es0,?_,q2⟩
     cases b with
     | zero=>simp [LiveArr] at q1
     | succ b=>exact q1
   · obtain ⟨k1,k2⟩:=s2.loop b (i2 _ (i1 _ hb)) hL
     obtain ⟨k3,k4⟩:=hst.loop b (i1 _ hb) k1
     exact ⟨(s1.loop b hb k3).1,k4⟩
 · exact hpo.rel.swap (fun cs h=>(avc_wrap hu).2 ⟨h,hn _ _ _ _ _ h⟩) hb (fun n h=>by simpa [refsLt,refsLtl] using h)
 · rintro b ⟨L,hL⟩
   have k1:LiveLoop (.box false t :: r) b:=by
    cases b with
    | zero=>simp at hL
    | succ b=>exact ⟨L,hL⟩
   obtain ⟨L',k2⟩:=hpo.loop b k1
   cases b with
   | zero=>simp at k2
   | succ b=>exact ⟨L',k2⟩
end
end Go.Abs
namespace Go.Abs
set_option linter.unusedSectionVars false
variable [Gl]
section
variable {P:Program} {w:World} {Imm Prot:Nat → Prop} {β:Bd}
def deads (n:Nat):Heap:=List.replicate n .dead
theorem deads_get {n b:Nat} {o:Obj} (h:(deads n)[b]? = some o):o = .dead:=by
 simp only [deads,List.getElem?_replicate] at h
 split at h
 · injection h with h; exact h.symm
 · cases h
theorem GoodI.cut {f:FuncId} {H:Heap} {args:List AV} {n:Nat} {p:PV} (h:GoodI P f H args (deads n) (.p p)):GoodI P f H args (deads H.length) (.p p):=by
 refine ⟨h.1,fun w Imm Prot β cargs hr ha hre=>(h.2 w Imm Prot β cargs hr ha hre).mono ?_⟩
 rintro e w' ⟨cv,β',Imm',rfl,hpo,hv,hrv⟩
 have no:∀ {m b:Nat} {o:Obj},(deads m)[b]? = some o → o.live → False:=fun h hl=>by rw [deads_get h] at hl; exact hl
 refine ⟨cv,β',Imm',rfl,⟨hpo.imm,hpo.fresh,hpo.ext,⟨?_,?_,?_,?_,?_⟩,⟨fun b o ho=>by rw [deads_get ho]; trivial,fun b b' o o' ho _ hl=>(no ho hl).elim,fun b o ho=>by rw [deads_get ho]; trivial,hpo.rel.imm,hpo.rel.prot,hpo.rel.glob⟩,?_,?_⟩,hv,trivial⟩
 · rintro b _ ⟨fz,t,h⟩; cases deads_get h
 · rintro b _ ⟨fz,t,h⟩; cases deads_get h
 · rintro b _ ⟨fz,t,h⟩; cases deads_get h
 · intro b ver esz k es _ h; cases deads_get h
 · rintro b _ ⟨L,h⟩; cases deads_get h
 · rintro x ⟨o,h1,_⟩
   have hlt:=(List.getElem?_eq_some_iff.1 h1).1
   exact ⟨.dead,by rw [deads,List.getElem?_replicate,if_pos hlt],trivial⟩
 · intro b hb
   obtain ⟨L,hL⟩:=hpo.loop b hb
   cases deads_get hL
theorem GoodI.weak {f:FuncId} {H H':Heap} {args:List AV} {v v':PV} (h:GoodI P f H args H' (.p v)) (hv:Wk v v'):GoodI P f H args H' (.p v'):=by
 refine ⟨h.1,fun w Imm Prot β cargs hr ha hre=>(h.2 w Imm Prot β cargs hr ha hre).mono ?_⟩
 rintro e w' ⟨cv,β',Imm',rfl,hpo,h2,hrv⟩
 exact ⟨cv,β',Imm',rfl,hpo,PVV.weak _ _ _ hv h2,trivial⟩
end
end Go.Abs
namespace Go.Abs
set_option linter.unusedSectionVars false
variable [Gl]
section
variable {P:Program}
def EndsX (P:Program) (rs:List ResultVar) (N:Nat) (Q:AV → Heap → Prop) (e:Tg (rs,N,Q) AExit) (s:Tg (rs,N,Q) St):Prop :=
 (match e with
  | .exit _=>False
  | _=>True) ∧ ∃ vs,resVals P s rs = some vs ∧ ∃ H',Q (oneOf vs) H' ∧ (H' = St.heap s ∨ (ForgetN N s ⟨[],H'⟩ ∧ refsLt (InH H') (oneOf vs)))
theorem endsX_ret {rs:List ResultVar} {N:Nat} {Q:AV → Heap → Prop} {s:St}:EndsX P rs N Q .ret s = ∃ vs,resVals P s rs = some vs ∧ ∃ H',Q (oneOf vs) H' ∧ (H' = s.heap ∨ (ForgetN N s ⟨[],H'⟩ ∧ refsLt (InH H') (oneOf vs))):=by simp [EndsX]
theorem endsX_normal {rs:List ResultVar} {N:Nat} {Q:AV → Heap → Prop} {s:St}:EndsX P rs N Q .normal s = ∃ vs,resVals P s rs = some vs ∧ ∃ H',Q (oneOf vs) H' ∧ (H' = s.heap ∨ (ForgetN N s ⟨[],H'⟩ ∧ refsLt (InH H') (oneOf vs))):=by simp [EndsX]
attribute [simp] endsX_ret endsX_normal
end
end Go.Abs
namespace Go.Abs
set_option linter.unusedSectionVars false
variable [Gl]
section
variable {P:Program}
theorem GoodC.heap {f:FuncId} {vs vs':List PV} {v:PV} {H H1:Heap} {args:List AV} (h:GoodC P f vs v) (hE:Enters P f) (ha:purL H args = some (vs',H1)) (h1:Wkl vs' vs:=by first | exact Wkl.refl _ | simp):GoodI P f H args H1 (.p v):=by
 refine ⟨hE,fun w Imm Prot β cargs hrel hargs hargr=>?_⟩
 obtain ⟨Imm1,p1,p2⟩:=purL_post ha hrel hargs hargr
 rcases h.weak h1 (Wk.refl _) with hG | hX
 · intro cs
   obtain ⟨e,w',fr',⟨cv,Imm',he,m1,m2,m3,m4,m5,m6,m7⟩,hst,hfn',hlv⟩:=hG.2 w Imm1 _ p1.rel.imm p1.rel.glob p2 cs
   subst he
   exact ⟨_,w',fr',⟨cv,β,Imm',rfl,p1.trans (p1.rel.later m1 m2 m3 m4 m5 m6),by simpa [AVV] using m7,by simp [refsLt]⟩,hst,hfn',hlv⟩
 · obtain ⟨cv,h2,_⟩:=hX w Imm1 _ p2
   rw [hE] at h2
   cases h2
end
end Go.Abs
namespace Go.Abs
set_option linter.unusedSectionVars false
variable [Gl]
section
variable {P:Program}
theorem GoodC.inSt {f : FuncId} {u : TypeId} {vs vs' v : PV} {H H1 : Heap} {b ver esz off len : Nat} (h : GoodC P f [.st u [vs]] v) (hE : Enters P f) (hu : szs P u = some [1])
    (ha:purL H [.sl b ver esz off len] = some ([vs'],H1)) (hs:shp vs' = .leaf) (h1:Wk vs' vs):GoodI P f H [.st u [.sl b ver esz off len]] H1 (.p v):=by
 refine ⟨hE,fun w Imm Prot β cargs hrel hargs hargr=>?_⟩
 simp only [AVVl,AVV] at hargs
 obtain ⟨x,xs,rfl,⟨l,css,hl,hc,rfl⟩,rfl⟩:=hargs
 rw [hu] at hl
 cases hl
 simp only [AVCl,AVC] at hc
 obtain ⟨c,cs,rfl,⟨y,rfl,hy⟩,_,rfl⟩:=hc
 have hargs':AVVl P w Imm β H [.sl b ver esz off len] [y]:=by
  simp only [AVVl,AVV]
  exact ⟨y,[],rfl,hy,rfl⟩
 have hargr':refsLtl (InH H) [.sl b ver esz off len]:=by
  simp only [refsLtl,refsLt] at hargr ⊢
  exact hargr.1
 obtain ⟨Imm1,p1,p2⟩:=purL_post ha hrel hargs' hargr'
 simp only [PVVl] at p2
 obtain ⟨y',ys,hyy,p3,rfl⟩:=p2
 cases hyy
 have p4:PVVl P w Imm1 [.st u [vs']] [Value.agg #[y]]:=by
  simp only [PVVl,PVV]
  refine ⟨_,_,rfl,⟨[1],[[y]],hu,?_,rfl⟩,rfl⟩
  simp only [PVCl]
  exact ⟨[y],[],rfl,(PVC_leaf hs [y]).2 ⟨y,rfl,p3⟩,rfl,rfl⟩
 have hw:Wkl [PV.st u [vs']] [PV.st u [vs]]:=by simp [Wk,Wkl,h1]
 rcases h.weak hw (Wk.refl _) with hG | hX
 · intro cs
   obtain ⟨e,w',fr',⟨cv,Imm',he,m1,m2,m3,m4,m5,m6,m7⟩,hst,hfn',hlv⟩:=hG.2 w Imm1 _ p1.rel.imm p1.rel.glob p4 cs
   subst he
   exact ⟨_,w',fr',⟨cv,β,Imm',rfl,p1.trans (p1.rel.later m1 m2 m3 m4 m5 m6),by simpa [AVV] using m7,by simp [refsLt]⟩,hst,hfn',hlv⟩
 · obtain ⟨cv,h2,_⟩:=hX w Imm1 _ p4
   rw [hE] at h2
   cases h2
end
end Go.Abs
namespace Go.Abs
set_option linter.unusedSectionVars false
variable [Gl]
section
variable {P:Program} {w:World} {Imm Prot:Nat → Prop} {β:Bd}
theorem AVCl.swapE {H H':Heap}:∀ {l:List Nat} {es es':List AV} {css:List (List Value)},es.length = es'.length → (∀ p ∈ es.zip es',∀ c,AVC P w Imm β H p.1 c → AVC P w Imm β H' p.2 c) → AVCl P w Imm β H l es css → AVCl P w Imm β H' l es' css
 | [],[],[],_,_,_,h=>by simpa [AVCl] using h
 | [],[],_ :: _,_,hl,_,_=>by simp at hl
 | [],_ :: _,_,_,_,_,h=>by simp [AVCl] at h
 | _ :: _,[],_,_,_,_,h=>by simp [AVCl] at h
 | _ :: _,_ :: _,[],_,hl,_,_=>by simp at hl
 | n :: l,e :: es,e' :: es',css,hl,hc,h=>by
  simp only [AVCl] at h ⊢
  obtain ⟨c,cs,rfl,h1,h2,h3⟩:=h
  exact ⟨c,cs,rfl,hc (e,e') (by simp) c h1,h2,AVCl.swapE (by simpa using hl) (fun p hp=>hc p (by simp [hp])) h3⟩
theorem swapArr_post {H : Heap} (hr : HRel P w Imm β H Prot) {b n z : Nat} {es es' : List AV} (hb : H[b]? = some (.arr .grow n z es)) (hne : es ≠ []) (hl : es.length = es'.length)
    (hc:∀ p ∈ es.zip es',∀ c,AVC P w Imm β H p.1 c → AVC P w Imm β (H.set b (.arr .grow n z es')) p.2 c) (href:refsLtl (InH (H.set b (.arr .grow n z es'))) es') :
    Post P Prot Imm w β H Imm w β (H.set b (.arr .grow n z es')):=by
 have hnil:¬ isNilArr .grow es:=fun h=>hne h.2
 have hnil':¬ isNilArr .grow es':=fun h=>hne (by
  have:=h.2
  subst this
  exact List.length_eq_zero_iff.1 (by simpa using hl))
 rcases hr.objs b _ hb with h | ⟨cs,T,css,rest,k1,k2,k3,k4,k5,k6,k7,k8,k9⟩
 · exact (hnil h).elim
 have k7':¬ Imm (β.blk b) ∧ ¬ Prot (β.blk b):=by simpa [Held] using k7
 refine Post.set hr (List.getElem?_eq_some_iff.1 hb).1 (fun _ _=>⟨rfl,rfl⟩) (fun _ x=>x) (fun _ x=>.inl x) hr.imm (Nat.le_refl _) (fun _ _ _=>rfl)
  (fun _=>.inr ⟨rfl,⟨_,hb,hnil⟩,.inl fun _ _=>rfl,k7'.2⟩) (set_step hb (.inr (.inl ⟨_,_,_,_,_,rfl,rfl,hl⟩)))
  (.inr ⟨cs,T,css,rest,k1,by rw [← hl]; exact AVCl.swapE hl hc k2,k3,k4,by rw [← hl]; exact k5,by simp,k7,by simp,k9⟩) href ?_ (fun L hL=>by rw [hb] at hL; cases hL)
 intro o v h1 h2
 rw [hb] at h1
 cases h1
 exact h2
theorem zip_app {α β:Type}:∀ {a:List α} {a':List β} {b:List α} {b':List β},a.length = a'.length → (a ++ b).zip (a' ++ b') = a.zip a' ++ b.zip b'
 | [],[],_,_,_=>rfl
 | [],_ :: _,_,_,h=>by simp at h
 | _ :: _,[],_,_,h=>by simp at h
 | x :: a,y :: a',b,b',h=>by simp [zip_app (a:=a) (a':=a') (b:=b) (b':=b') (by simpa using h)]
theorem zip_same {α β:Type} (f g:α → β):∀ (l:List α) (p:β × β),p ∈ (l.map f).zip (l.map g) → ∃ x ∈ l,p = (f x,g x)
 | [],p,h=>by simp at h
 | x :: l,p,h=>by
  simp only [List.map_cons,List.zip_cons_cons,List.mem_cons] at h
  rcases h with rfl | h
  · exact ⟨x,List.mem_cons_self,rfl⟩
  · obtain ⟨y,hy,e⟩:=zip_same f g l p h
    exact ⟨y,List.mem_cons_of_mem _ hy,e⟩
theorem GoodI.frzE {f : FuncId} {u : TypeId} {v0 n z : Nat} {ps es pre post : List PV} {args : List AV} {H' : Heap} {v : AV} (hps : ps ≠ [])
    (h:GoodI P f [.arr .frozen v0 1 (ps.map .p),.arr .grow n z ((es ++ [PV.st u (pre ++ .seq ps :: post)]).map .p)] args H' v) :
    GoodI P f [.arr .exact v0 1 (ps.map .p),.arr .grow n z (es.map .p ++ [.st u (pre.map .p ++ .sl 0 v0 1 0 ps.length :: post.map .p)])] args H' v:=by
 refine ⟨h.1,fun w Imm Prot β cargs hr ha hra=>?_⟩
 have hnil0:¬ isNilArr .exact (ps.map AV.p):=fun h=>hps (by simpa using h.2)
 have hl0:RefV P β [.arr .exact v0 1 (ps.map .p),.arr .grow n z (es.map .p ++ [.st u (pre.map .p ++ .sl 0 v0 1 0 ps.length :: post.map .p)])] (.sl 0 v0 1 0 ps.length) (.slice (some ⟨β.blk 0,0,none⟩) ps.length (β.cap 0)):=by
  refine ⟨rfl,?_⟩
  intro k es' hk
  simp only [LiveArr,List.getElem?_cons_zero,Option.some.injEq,Obj.arr.injEq] at hk
  obtain ⟨rfl,_,_,rfl⟩:=hk
  exact ⟨by simp,fun h=>(hnil0 h).elim,fun _=>by simp⟩
 have hpl:purL [.arr .exact v0 1 (ps.map .p),.arr .grow n z (es.map .p ++ [.st u (pre.map .p ++ .sl 0 v0 1 0 ps.length :: post.map .p)])] [.sl 0 v0 1 0 ps.length] = some ([.lst true ps],[.arr .frozen v0 1 (ps.map .p),.arr .grow n z (es.map .p ++ [.st u (pre.map .p ++ .sl 0 v0 1 0 ps.length :: post.map .p)])]):=by
  simp [purL,purA,allP_map,AK.gr]
 obtain ⟨Imm1,p1,p2⟩:=purL_post hpl hr (vs:=[.slice (some ⟨β.blk 0,0,none⟩) ps.length (β.cap 0)]) (by simp only [AVVl,AVV]; exact ⟨_,_,rfl,hl0,rfl⟩) (by simp [refsLtl,refsLt,InH,Obj.has])
 simp only [PVVl] at p2
 obtain ⟨y,ys,hy,p3,rfl⟩:=p2
 cases hy
 have hseq:PVC P w Imm1 (.seq ps) [.slice (some ⟨β.blk 0,0,none⟩) ps.length (β.cap 0)]:=by
  have:=(PVC_leaf (v:=.lst true ps) rfl _).2 ⟨_,rfl,p3⟩
  simp only [PVC] at this ⊢
  obtain ⟨blk,off,cap,esz,css,q1,q2,q3,_,q4,sp,q5,q6⟩:=this
  exact .inr ⟨blk,off,cap,esz,css,q1,q2,q3,q4,sp,q5,q6⟩
 have p4:=swapArr_post (es':=(es ++ [PV.st u (pre ++ .seq ps :: post)]).map .p) p1.rel (b:=1) rfl (by simp) (by simp) (by
  intro p hp c hcc
  rw [List.map_append,zip_app (by simp)] at hp
  rcases List.mem_append.1 hp with hp | hp
  · obtain ⟨x,_,rfl⟩:=zip_same AV.p AV.p es p hp
    simpa [AVC] using hcc
  · simp only [List.map_cons,List.map_nil,List.zip_cons_cons,List.zip_nil_left,List.mem_singleton] at hp
    subst hp
    simp only [AVC] at hcc ⊢
    obtain ⟨l,css,q1,q2,rfl⟩:=hcc
    simp only [PVC]
    refine ⟨l,css,q1,?_,rfl⟩
    rw [← AVCl_map (β:=β) (H:=[])]
    refine AVCl.swapE (by simp) ?_ q2
    intro p hp c hcc
    rw [List.map_append,zip_app (by simp)] at hp
    rcases List.mem_append.1 hp with hp | hp
    · obtain ⟨x,_,rfl⟩:=zip_same AV.p AV.p pre p hp
      simpa [AVC] using hcc
    · simp only [List.map_cons,List.zip_cons_cons,List.mem_cons] at hp
      rcases hp with rfl | hp
      · simp only [AVC] at hcc ⊢
        obtain ⟨y,rfl,_,hy⟩:=hcc
        have:=hy .frozen (ps.map .p) rfl
        have hv:=this.2.2 (fun h=>hps (by simpa using h.2))
        simp only [Nat.zero_mul,Nat.sub_zero] at hv
        rw [hv]
        exact hseq
      · obtain ⟨x,_,rfl⟩:=zip_same AV.p AV.p post p hp
        simpa [AVC] using hcc)
  (by rw [refsLtl_mem]; intro v hv; obtain ⟨x,_,rfl⟩:=List.mem_map.1 hv; trivial)
 have p5:=p1.trans p4
 have hst:=p5.step
 have hin:=p5.inn
 refine (h.2 w Imm1 Prot β cargs p4.rel ?_ ?_).mono ?_
 · exact AVVl.mono p5.imm (fun k hk=>p5.ext.same k (.inr hk)) hst _ _ hra ha
 · exact refsLtl.mono hin _ hra
 · rintro e w' ⟨cv,β',Imm',rfl,hpo,hv,hrv⟩
   exact ⟨cv,β',Imm',rfl,p5.trans hpo,hv,hrv⟩
end
end Go.Abs
namespace Go.Abs
set_option linter.unusedSectionVars false
variable [Gl]
section
variable {P:Program}
def wrA:List (Option TypeId) → List AV → List AV
 | some u :: ws,a :: avs=>.st u [a] :: wrA ws avs
 | none :: ws,a :: avs=>a :: wrA ws avs
 | _,_=>[]
def wrP:List (Option TypeId) → List PV → List PV
 | some u :: ws,a :: avs=>.st u [a] :: wrP ws avs
 | none :: ws,a :: avs=>a :: wrP ws avs
 | _,_=>[]
def wrOk (P:Program):List (Option TypeId) → List AV → List PV → Prop
 | some u :: ws,a :: avs,v :: vs=>szs P u = some [1] ∧ shp v = .leaf ∧ (∃ b ver esz off len,a = .sl b ver esz off len) ∧ wrOk P ws avs vs
 | none :: ws,_ :: avs,_ :: vs=>wrOk P ws avs vs
 | [],[],[]=>True
 | _,_,_=>False
theorem wr_in {w : World} {Imm : Nat → Prop} {β : Bd} {H : Heap} : ∀ {ws : List (Option TypeId)} {avs : List AV} {vs : List PV} {cs : List Value}, wrOk P ws avs vs → AVVl P w Imm β H (wrA ws avs) cs → refsLtl (InH H) (wrA ws avs) →
    ∃ ys,AVVl P w Imm β H avs ys ∧ refsLtl (InH H) avs ∧ ∀ (w':World) (Imm':Nat → Prop),PVVl P w' Imm' vs ys → PVVl P w' Imm' (wrP ws vs) cs
 | some u :: ws,a :: avs,v :: vs,cs,h,ha,hr=>by
  obtain ⟨hu,hs,⟨b,ver,esz,off,len,rfl⟩,h⟩:=h
  simp only [wrA,AVVl,AVV] at ha
  obtain ⟨x,xs,rfl,⟨l,css,hl,hc,rfl⟩,h2⟩:=ha
  rw [hu] at hl
  cases hl
  simp only [AVCl,AVC] at hc
  obtain ⟨c,cs,rfl,⟨y,rfl,hy⟩,_,rfl⟩:=hc
  simp only [wrA,refsLtl,refsLt] at hr
  obtain ⟨ys,k1,k2,k3⟩:=wr_in h h2 hr.2
  refine ⟨y :: ys,?_,?_,?_⟩
  · simp only [AVVl,AVV]; exact ⟨y,ys,rfl,hy,k1⟩
  · simp only [refsLtl,refsLt]; exact ⟨hr.1.1,k2⟩
  · intro w' Imm' hp
    simp only [PVVl] at hp
    obtain ⟨y',ys',he,p3,p4⟩:=hp
    cases he
    simp only [wrP,PVVl,PVV]
    refine ⟨_,_,rfl,⟨[1],[[y]],hu,?_,rfl⟩,k3 w' Imm' p4⟩
    simp only [PVCl]
    exact ⟨[y],[],rfl,(PVC_leaf hs [y]).2 ⟨y,rfl,p3⟩,rfl,rfl⟩
 | none :: ws,a :: avs,v :: vs,cs,h,ha,hr=>by
  simp only [wrA,AVVl] at ha
  obtain ⟨x,xs,rfl,h1,h2⟩:=ha
  simp only [wrA,refsLtl] at hr
  obtain ⟨ys,k1,k2,k3⟩:=wr_in (show wrOk P ws avs vs from h) h2 hr.2
  refine ⟨x :: ys,?_,?_,?_⟩
  · simp only [AVVl]; exact ⟨x,ys,rfl,h1,k1⟩
  · simp only [refsLtl]; exact ⟨hr.1,k2⟩
  · intro w' Imm' hp
    simp only [PVVl] at hp
    obtain ⟨y',ys',he,p3,p4⟩:=hp
    cases he
    simp only [wrP,PVVl]
    exact ⟨_,_,rfl,p3,k3 w' Imm' p4⟩
 | [],[],[],cs,_,ha,_=>by
  simp only [wrA,AVVl] at ha
  subst ha
  exact ⟨[],by simp [AVVl],by simp [refsLtl],fun w' Imm' _=>by simp [wrP,PVVl]⟩
theorem GoodC.inSts {f : FuncId} {ws : List (Option TypeId)} {avs : List AV} {vs vs' : List PV} {v : PV} {H H1 : Heap} (h : GoodC P f (wrP ws vs) v) (hE : Enters P f)
    (ha:purL H avs = some (vs',H1)) (hw:wrOk P ws avs vs') (h1:Wkl (wrP ws vs') (wrP ws vs)):GoodI P f H (wrA ws avs) H1 (.p v):=by
 refine ⟨hE,fun w Imm Prot β cargs hrel hargs hargr=>?_⟩
 obtain ⟨ys,k1,k2,k3⟩:=wr_in hw hargs hargr
 obtain ⟨Imm1,p1,p2⟩:=purL_post ha hrel k1 k2
 have p4:=k3 _ _ p2
 rcases h.weak h1 (Wk.refl _) with hG | hX
 · intro cs
   obtain ⟨e,w',fr',⟨cv,Imm',he,m1,m2,m3,m4,m5,m6,m7⟩,hst,hfn',hlv⟩:=hG.2 w Imm1 _ p1.rel.imm p1.rel.glob p4 cs
   subst he
   exact ⟨_,w',fr',⟨cv,β,Imm',rfl,p1.trans (p1.rel.later m1 m2 m3 m4 m5 m6),by simpa [AVV] using m7,by simp [refsLt]⟩,hst,hfn',hlv⟩
 · obtain ⟨cv,h2,_⟩:=hX w Imm1 _ p4
   rw [hE] at h2
   cases h2
end
end Go.Abs
