import Derived.Test.YthckccalfpnmaaaGreatDoorThD
/- Parts of a proof. -/
set_option linter.unusedSimpArgs false
set_option linter.unusedVariables false
set_option linter.unusedSectionVars false
namespace Go.Abs
set_option linter.unusedSectionVars false
variable [Gl]
section
variable {P:Program} {frz:FuncId → Bool}
theorem khg_same {T:Heap}:∀ {h:Heap},KeepHg T h h = True
 | []=>by simp [KeepHg]
 | o :: h=>by simp [KeepHg,KO_same,khg_same (h:=h)]
theorem refsH_apd {T:Heap}:∀ {h k:Heap},RefsH T (h ++ k) = (RefsH T h ∧ RefsH T k)
 | [],k=>by simp [RefsH]
 | o :: h,k=>by simp [RefsH,refsH_apd (h:=h),and_assoc]
theorem rl_repl {N:Nat × Nat → Prop} {n:Nat} {v:PV}:refsLtl N (List.replicate n (.p v)) = True:=by
 rw [refsLtl_mem,eq_iff_iff,iff_true]; intro x hx; rw [(List.mem_replicate.1 hx).2]; trivial
theorem renL_lam {σ:Nat → Nat} {α:Type} {f:α → PV} {l:List α}:renL σ (l.map fun x=>.p (f x)) = l.map fun x=>.p (f x):=renL_map (f:=f)
theorem refsL {L:LoopA} {e:Env} {H:Heap} (h:L.env = e) (hr:RefsE H e):∀ x,refsLt (InH H) (getE L.env x):=by rw [h]; exact hr.get
def LoopA.bz (L:LoopA):LoopA:={ L with st:=.busy }
def LoopA.dn (L:LoopA) (j:Code):LoopA:={ L with st:=.done,pending:=some j }
def LoopA.xh (L:LoopA):LoopA:={ L with st:=.exhausted }
theorem refsLd {L:LoopA} {e:Env} {H:Heap} {j:Code} (h:L.env = e) (hr:RefsE H e):∀ x,refsLt (InH H) (getE (L.dn j).env x):=refsL h hr
def Stream (P:Program) (g:FuncId) (fi ca:List PV) (items:List (List PV)):Prop :=
 ∀ (b k:Nat) (Hs:Nat → Heap) (H':Heap),k ≤ items.length → (∀ i,i ≤ k → RefsH (Hs i) (Hs i) ∧ refsLt (InH (Hs i)) (.map b)) →
  (∀ i a,i < k → items[i]? = some a → GoodY P b (Hs i) (a.map .p) (Hs (i + 1)) (.p (.bool true))) →
  (k = items.length ∧ H' = Hs k ∨ ∃ a,items[k]? = some a ∧ GoodY P b (Hs k) (a.map .p) H' (.p (.bool false))) →
  GoodI P g (Hs 0) (fi.map .p ++ [.map b] ++ ca.map .p) H' (.p (.tup []))
theorem cv_map' {b:Nat} {args:List AV} {M:AV → Heap → Prop} {heap:Heap}:callS P heap M (.map b) args = ∃ H' v,GoodY P b heap args H' v ∧ M v H':=(rfl)
def reS (b:Nat) (L:LoopA) (N:Nat) (H':Heap) (v:Bool) (e:Tg (b,L,N,H',v) AExit) (s:Tg (b,L,N,H',v) St):Prop :=
 match e with
 | .normal=>v = true ∧ (St.heap s)[b]? = some (.loop L.bz) ∧ ForgetN N ⟨[],(St.heap s).set b (.loop L)⟩ ⟨[],H'⟩
 | .exit id=>v = false ∧ (St.heap s)[b]? = some (.loop L.bz) ∧ ForgetN N ⟨[],(St.heap s).set b (.loop (L.dn (.exit id)))⟩ ⟨[],H'⟩
 | .ret=>v = false ∧ (St.heap s)[b]? = some (.loop L.bz) ∧ ForgetN N ⟨[],(St.heap s).set b (.loop (L.dn .ret))⟩ ⟨[],H'⟩
section
variable {b N:Nat} {L:LoopA} {H':Heap} {v:Bool} {s:St}
theorem reS_normal:reS b L N H' v .normal s = (v = true ∧ s.heap[b]? = some (.loop L.bz) ∧ ForgetN N ⟨[],s.heap.set b (.loop L)⟩ ⟨[],H'⟩):=(rfl)
theorem reS_exit {id:Nat}:reS b L N H' v (.exit id) s = (v = false ∧ s.heap[b]? = some (.loop L.bz) ∧ ForgetN N ⟨[],s.heap.set b (.loop (L.dn (.exit id)))⟩ ⟨[],H'⟩):=(rfl)
theorem reS_ret:reS b L N H' v .ret s = (v = false ∧ s.heap[b]? = some (.loop L.bz) ∧ ForgetN N ⟨[],s.heap.set b (.loop (L.dn .ret))⟩ ⟨[],H'⟩):=(rfl)
end
def rbS (P:Program) (frz:FuncId → Bool) (q:Cx) (b:Nat) (c:Code) (L:LoopA) (H':Heap) (v:Bool) (e:Tg (q,b,c,L,H',v) AExit) (s:Tg (q,b,c,L,H',v) St):Prop :=
 match e with
 | .normal=>(St.heap s)[b]? = some (.loop L) ∧ codeS P frz q c (reS b L q.2 H' v) ⟨St.env s,(St.heap s).set b (.loop L.bz)⟩
 | _=>False
theorem rbS_normal {q:Cx} {b:Nat} {c:Code} {L:LoopA} {H':Heap} {v:Bool} {s:St}:rbS P frz q b c L H' v .normal s = (s.heap[b]? = some (.loop L) ∧ codeS P frz q c (reS b L q.2 H' v) ⟨s.env,s.heap.set b (.loop L.bz)⟩):=(rfl)
theorem y_round (frz : FuncId → Bool) (hmix : P.follows .mixedOrders = true) {b n : Nat} {L : LoopA} {H H' : Heap} {args : List AV} {v : Bool} {ps : List Tmp} {a c : Code} {env : Env}
    (hL:L = ⟨.ready,none,n,ps,a,c,env⟩) (hb:H[b]? = some (.loop L)) (hlen:args.length = ps.length)
    (hok:(ps.all (fun x=>decide (x < n)) && codeOk fit n a && codeOk fit n c) = true)
    (hwp:codeS P frz (n,H.length) a (rbS P frz (n,H.length) b c L H' v) ⟨putAll ps args env,H⟩):GoodY P b H args H' (.p (.bool v)):=by
 refine goodY frz hmix hb (by rw [hL]; exact hlen) (by rw [hL]; exact hok) ?_
 unfold roundWP
 have e1:L.n = n:=by rw [hL]
 have e2:L.assign = a:=by rw [hL]
 have e3:L.body = c:=by rw [hL]
 have e4:L.params = ps:=by rw [hL]
 have e5:L.env = env:=by rw [hL]
 have e6:L.st = .ready:=by rw [hL]
 rw [e1,e2,e3,e4,e5]
 refine codeW_ok (Q:=rbS P frz (n,H.length) b c L H' v) _ (fun e s h=>?_) hwp
 cases e with
 | normal =>
  obtain ⟨h1,h2⟩:=h
  simp only [roundBegin,h1]
  refine ⟨e6,codeW_ok (Q:=reS b L H.length H' v) _ (fun e s h=>?_) h2⟩
  cases e with
  | normal =>
   obtain ⟨rfl,h3,h4⟩:=h
   have hh:s.heap[b]? = some (.loop L.bz):=h3
   simp only [roundEnd,hh,jumpOf]
   refine ⟨rfl,?_⟩
   have:({ L.bz with st:=LoopState.ready,pending:=none }:LoopA) = L:=by subst hL; rfl
   simpa [this] using h4
  | exit id =>
   obtain ⟨rfl,h3,h4⟩:=h
   have hh:s.heap[b]? = some (.loop L.bz):=h3
   simp only [roundEnd,hh,jumpOf]
   exact ⟨rfl,h4⟩
  | ret =>
   obtain ⟨rfl,h3,h4⟩:=h
   have hh:s.heap[b]? = some (.loop L.bz):=h3
   simp only [roundEnd,hh,jumpOf]
   exact ⟨rfl,h4⟩
 | exit id=>exact h.elim
 | ret=>exact h.elim
theorem rf {f : Operand} {ps : Array Tmp} {a c : Code} {Q : AExit → St → Prop} {env : Env} {heap : Heap} {q : Cx} {g : FuncId} {fi ca : List PV} {items : List (List PV)} (hst : Stream P g fi ca items) (hf : ev env f = .p (.func g fi ca)) (hq : q.2 ≤ heap.length)
    (X:LoopA → Nat → Heap) (k:Nat) (hk:k ≤ items.length) (h0:∀ L,X L 0 = heap ++ [.loop L])
    (hx:∀ L,L = ⟨.ready,none,q.1,ps.toList,a,c,env⟩ → ∀ i,i ≤ k → (X L i)[heap.length]? = some (.loop L) ∧ RefsE (X L i) env ∧ (RefsE (X L i) env → (∀ x,refsLt (InH (X L i)) (getE L.env x)) → RefsH (X L i) (X L i)))
    (hy:∀ L,L = ⟨.ready,none,q.1,ps.toList,a,c,env⟩ → ∀ i x,i < k → items[i]? = some x → GoodY P heap.length (X L i) (x.map .p) (X L (i + 1)) (.p (.bool true)))
    (he:∀ L,L = ⟨.ready,none,q.1,ps.toList,a,c,env⟩ → (k = items.length ∧ Q .normal ⟨env,(X L k).set heap.length (.loop L.xh)⟩) ∨
     ∃ x j X',items[k]? = some x ∧ X'[heap.length]? = some (.loop (L.dn j)) ∧ GoodY P heap.length (X L k) (x.map .p) X' (.p (.bool false)) ∧ jumpQ Q (some j) ⟨env,X'.set heap.length (.loop (L.dn j).xh)⟩) :
    codeS P frz q (.rangeFunc f ps a c) Q ⟨env,heap⟩:=by
 obtain ⟨L,hL⟩:∃ L:LoopA,L = ⟨.ready,none,q.1,ps.toList,a,c,env⟩:=⟨_,rfl⟩
 have hS:=hst heap.length k (X L)
 refine ⟨hq,?_⟩
 show iterWP P (ev env f) heap.length (heap ++ [.loop ⟨.ready,none,q.1,ps.toList,a,c,env⟩]) (overWP heap.length env Q)
 rw [hf]
 simp only [iterWP]
 rw [← hL,← h0 L]
 have hR:∀ i,i ≤ k → RefsH (X L i) (X L i) ∧ refsLt (InH (X L i)) (.map heap.length):=by
  intro i hi
  obtain ⟨h1,h2,h3⟩:=hx L hL i hi
  have e5:L.env = env:=by rw [hL]
  refine ⟨h3 h2 (by rw [e5]; exact h2.get),?_⟩
  simp only [refsLt,InH,h1]
  exact ⟨_,rfl,by simp [Obj.has]⟩
 rcases he L hL with ⟨h1,h2⟩ | ⟨x,j,X',h1,h2,h3,h4⟩
 · refine ⟨_,_,hS (X L k) hk hR (hy L hL) (.inl ⟨h1,rfl⟩),?_⟩
   have hb:=(hx L hL k (Nat.le_refl k)).1
   simp only [overWP,hb]
   refine ⟨by rw [hL]; simp,?_⟩
   have:L.pending = none:=by rw [hL]
   simp only [this,jumpQ]
   have e:L.xh = { L with st:=.exhausted }:=rfl
   rw [this] at e
   rw [e] at h2
   exact h2
 · refine ⟨_,_,hS X' hk hR (hy L hL) (.inr ⟨x,h1,h3⟩),?_⟩
   simp only [overWP,h2]
   exact ⟨by simp [LoopA.dn],h4⟩
section framed
variable {f:FuncId} {H0 H0' H:Heap} {args0 args:List AV} {v0:AV} {K:AV → Heap → Prop} {L:Eff → Prop}
theorem frame_e (h : GoodI P f H0 args0 H0' v0) (bs : List Nat) (hlen : bs.length = H0.length) (hnd : bs.Nodup) (hlt : ∀ b ∈ bs, b < H.length) (hl : H0.length ≤ H0'.length) (ha : refsLtl (InH H0) args0) (hr : RefsH H0 H0) (hargs : renL (sig bs H.length) args0 = args) :
    GoodE P f args H.length (effF bs H.length H0 H0' v0):=by
 have:=h.frame bs H.length hlen hnd hlt hl ha hr.get
 rwa [hargs] at this
theorem cf (h : GoodI P f H0 args0 H0' v0) (bs : List Nat) (hk : K (ren (sig bs H.length) v0) (setAll H (bs.zip ((H0'.take H0.length).map (renO (sig bs H.length)))) ++ (H0'.drop H0.length).map (renO (sig bs H.length)))) (hin : ∀ p ∈ bs.zip (H0.map (renO (sig bs H.length))), H[p.1]? = some p.2 := by simp [sig]) (hset : ∀ p ∈ bs.zip ((H0'.take H0.length).map (renO (sig bs H.length))), p.1 < H.length ∧ p.2 ≠ .hole := by simp [sig])
    (hlen:bs.length = H0.length:=by simp) (hnd:bs.Nodup:=by simp) (hlt:∀ b ∈ bs,b < H.length:=by simp) (hl:H0.length ≤ H0'.length:=by simp) (ha:refsLtl (InH H0) args0:=by simp) (hr:RefsH H0 H0:=by simp) (hargs:renL (sig bs H.length) args0 = args:=by simp [sig]):CallS P false f K args H :=
 .inr ⟨rfl,.inr (.inr (.inl ⟨_,frame_e h bs hlen hnd hlt hl ha hr hargs,⟨hin,hset⟩,hk⟩))⟩
theorem ef (h : GoodI P f H0 args0 H0' v0) (bs : List Nat) (hk : L { v := ren (sig bs H.length) v0, hin := bs.zip (H0.map (renO (sig bs H.length))), hset := bs.zip ((H0'.take H0.length).map (renO (sig bs H.length))), hnew := (H0'.drop H0.length).map (renO (sig bs H.length)) }) (hin : ∀ p ∈ bs.zip (H0.map (renO (sig bs H.length))), H[p.1]? = some p.2 := by simp [sig]) (hset : ∀ p ∈ bs.zip ((H0'.take H0.length).map (renO (sig bs H.length))), p.1 < H.length ∧ p.2 ≠ .hole := by simp [sig])
    (hlen:bs.length = H0.length:=by simp) (hnd:bs.Nodup:=by simp) (hlt:∀ b ∈ bs,b < H.length:=by simp) (hl:H0.length ≤ H0'.length:=by simp) (ha:refsLtl (InH H0) args0:=by simp) (hr:RefsH H0 H0:=by simp) (hargs:renL (sig bs H.length) args0 = args:=by simp [sig]):CallSd P f L args H :=
 .inr (.inr (.inl ⟨_,frame_e h bs hlen hnd hlt hl ha hr hargs,⟨hin,hset⟩,hk⟩))
end framed
section bytes
variable {dst:Option Tmp} {ty:Nat} {pos:String} {af:Array Edge} {g:Option (Nat × Bool)} {env:Env} {heap:Heap} {L:St → Prop} {K:Eff → Prop}
theorem d_sdata {x : Operand} {aT : Array TypeId} {b ver esz off len : Nat} {k : AK} {es : List AV} (hx : ev env x = .sl b ver esz off len) (hb : heap[b]? = some (.arr k ver esz es)) (h0 : 0 < len) (hl : off + len ≤ es.length)
    (hk:K { v:=.eptr b ver esz off [],hin:=[(b,.arr k ver esz es)] }):drawnS P frz ⟨dst,.call { callee:=.builtin .unsafeSliceData,args:=#[x],argTypes:=aT },ty,pos,af,g⟩ ⟨env,heap⟩ K ():=by
 show (match ev env x with
     | .p .nsl=>K { v:=.p .nptr }
     | .sl b ver esz off len=>(match heap[b]? with
      | some (.arr k ver' esz' es)=>ver = ver' ∧ esz = esz' ∧ ((k.gr = true ∧ es = [] ∧ K { v:=.p .nptr,hin:=[(b,.arr k ver' esz' es)] }) ∨ (0 < len ∧ off + len ≤ es.length ∧ K { v:=.eptr b ver esz off [],hin:=[(b,.arr k ver' esz' es)] }))
      | _=>False)
     | _=>False)
 rw [hx]
 simp only [hb]
 exact ⟨trivial,trivial,.inr ⟨h0,hl,hk⟩⟩
theorem d_ustr {x y : Operand} {aT : Array TypeId} {b ver : Nat} {m : Int} {es : List AV} {l : List Nat} (hx : ev env x = .eptr b ver 1 0 []) (hy : ev env y = .p (.int .i64 m)) (hb : heap[b]? = some (.arr .bytes ver 1 es)) (h0 : 0 < m) (hm : m.toNat ≤ es.length) (h63 : m ≤ 9223372036854775807)
    (ha:aT.size = 2) (hT:ptrTo P (aT.getD 0 0) = some Gl.u8) (hu:P.cellsOf Gl.u8 = 1) (hl:bytesOf (es.take m.toNat) = some l)
    (hk:K { v:=.p (.str l),hin:=[(b,.arr .bytes ver 1 es)],hset:=[(b,.dead)] }):drawnS P frz ⟨dst,.call { callee:=.builtin .unsafeString,args:=#[x,y],argTypes:=aT },ty,pos,af,g⟩ ⟨env,heap⟩ K ():=by
 have h:opEff P frz ⟨dst,.call { callee:=.builtin .unsafeString,args:=#[x,y],argTypes:=aT },ty,pos,af,g⟩ (ev env) heap K:=by
  unfold opEff
  simp only [List.map_cons,List.map_nil,hx,hy,hb]
  exact ⟨trivial,trivial,trivial,trivial,h0,hm,h63,ha,hT,hu,by rw [hl]; exact hk⟩
 exact h
end bytes
theorem rf2 {f : Operand} {ps : Array Tmp} {a c : Code} {Q : AExit → St → Prop} {env : Env} {heap : Heap} {q : Cx} {g : FuncId} {fi ca : List PV} {items : List (List PV)} (hst : Stream P g fi ca items) (hf : ev env f = .p (.func g fi ca)) (hq : q.2 ≤ heap.length)
    (X F:LoopA → Nat → Heap) (okB:Nat → Bool) (j:Code) (k:Nat) (hk:k ≤ items.length) (hok:∀ i,i < k → okB i = true) (hbad:k = items.length ∨ (k < items.length ∧ okB k = false)) (h0:∀ L,X L 0 = heap ++ [.loop L])
    (hx:∀ L,L = ⟨.ready,none,q.1,ps.toList,a,c,env⟩ → ∀ i,i ≤ k → (X L i)[heap.length]? = some (.loop L) ∧ RefsE (X L i) env ∧ (RefsE (X L i) env → (∀ x,refsLt (InH (X L i)) (getE L.env x)) → RefsH (X L i) (X L i)))
    (hy:∀ L,L = ⟨.ready,none,q.1,ps.toList,a,c,env⟩ → ∀ i x,i ≤ k → items[i]? = some x → GoodY P heap.length (X L i) (x.map .p) (if okB i = true then X L (i + 1) else F L (i + 1)) (.p (.bool (okB i))))
    (hF:∀ L,(F L (k + 1))[heap.length]? = some (.loop (L.dn j)))
    (hend:k = items.length → ∀ L,Q .normal ⟨env,(X L k).set heap.length (.loop L.xh)⟩)
    (hstop:k < items.length → ∀ L,jumpQ Q (some j) ⟨env,(F L (k + 1)).set heap.length (.loop (L.dn j).xh)⟩) :
    codeS P frz q (.rangeFunc f ps a c) Q ⟨env,heap⟩:=by
 refine rf hst hf hq X k hk h0 hx (fun L hL i x hi hi2=>?_) (fun L hL=>?_)
 · have:=hy L hL i x (by omega) hi2
   rw [hok i hi] at this
   exact this
 · rcases hbad with hb | ⟨hb,hb2⟩
   · exact .inl ⟨hb,hend hb L⟩
   · right
     refine ⟨items[k],j,F L (k + 1),List.getElem?_eq_getElem hb,hF L,?_,hstop hb L⟩
     have:=hy L hL k items[k] (Nat.le_refl _) (List.getElem?_eq_getElem hb)
     rw [hb2] at this
     exact this
attribute [simp] renL_lam rl_repl khg_same refsH_apd reS_normal reS_exit reS_ret rbS_normal cv_map' putAll
end
end Go.Abs
namespace Go.Abs
set_option linter.unusedSectionVars false
variable [Gl]
section
variable {P:Program} {frz:FuncId → Bool} {w:World} {Imm Prot:Nat → Prop} {β:Bd} {H:Heap}
def killH (K:Nat → Bool) (H:Heap):Heap:=H.mapIdx fun i o=>if K i then .dead else o
theorem killH_get {K:Nat → Bool} {b:Nat}:(killH K H)[b]? = (H[b]?).map fun o=>if K b then .dead else o:=by simp [killH]
theorem killH_some {K:Nat → Bool} {b:Nat} {o:Obj} (h:(killH K H)[b]? = some o):∃ o0,H[b]? = some o0 ∧ ((K b = true ∧ o = .dead) ∨ (K b = false ∧ o = o0)):=by
 rw [killH_get,Option.map_eq_some_iff] at h
 obtain ⟨o0,h1,h2⟩:=h
 refine ⟨o0,h1,?_⟩
 cases hk:K b <;> simp [hk] at h2
 · exact .inr ⟨rfl,h2.symm⟩
 · exact .inl ⟨rfl,h2.symm⟩
theorem killH_in {K:Nat → Bool} {x:Nat × Nat} (h:InH H x):InH (killH K H) x:=by
 obtain ⟨o,h1,h2⟩:=h
 refine ⟨if K x.1 then .dead else o,by rw [killH_get,h1]; rfl,?_⟩
 split
 · trivial
 · exact h2
theorem killH_step {K:Nat → Bool}:HStep β H β (killH K H):=by
 refine ⟨fun b _ h=>⟨?_,rfl⟩,fun b _ h=>⟨?_,rfl⟩,fun b _ h=>⟨?_,rfl⟩,fun b ver esz k es _ h=>⟨k,es,?_,Nat.le_refl _,Iff.rfl,fun _=>⟨rfl,rfl⟩⟩,fun b _ h=>⟨?_,rfl⟩⟩
 · obtain ⟨fz,t,h⟩:=h
   obtain ⟨o0,h1,h2⟩:=killH_some h
   rcases h2 with ⟨_,h2⟩ | ⟨_,rfl⟩
   · cases h2
   · exact ⟨fz,t,h1⟩
 · obtain ⟨s,q,h⟩:=h
   obtain ⟨o0,h1,h2⟩:=killH_some h
   rcases h2 with ⟨_,h2⟩ | ⟨_,rfl⟩
   · cases h2
   · exact ⟨s,q,h1⟩
 · obtain ⟨s,q,h⟩:=h
   obtain ⟨o0,h1,h2⟩:=killH_some h
   rcases h2 with ⟨_,h2⟩ | ⟨_,rfl⟩
   · cases h2
   · exact ⟨s,q,h1⟩
 · obtain ⟨o0,h1,h2⟩:=killH_some h
   rcases h2 with ⟨_,h2⟩ | ⟨_,rfl⟩
   · cases h2
   · exact h1
 · obtain ⟨L,h⟩:=h
   obtain ⟨o0,h1,h2⟩:=killH_some h
   rcases h2 with ⟨_,h2⟩ | ⟨_,rfl⟩
   · cases h2
   · exact ⟨L,h1⟩
def ImmK (K:Nat → Bool) (Imm:Nat → Prop) (β:Bd) (H:Heap) (k:Nat):Prop:=Imm k ∨ ∃ (b:Nat) (o:Obj),H[b]? = some o ∧ o.live ∧ K b = true ∧ β.blk b = k
theorem HRel.kill (K:Nat → Bool) (hr:HRel P w Imm β H Prot):HRel P w Imm β (killH K H) Prot:=by
 refine ⟨fun b o ho=>?_,fun b b' o o' ho ho' hl hl' hn he=>?_,fun b o ho=>?_,hr.imm,hr.prot,hr.glob⟩
 · obtain ⟨o0,h1,h2⟩:=killH_some ho
   rcases h2 with ⟨_,rfl⟩ | ⟨_,rfl⟩
   · trivial
   · exact ORel.carry (fun _ x=>x) (fun _ _=>rfl) killH_step (hr.refs b o h1) (fun _=>⟨rfl,rfl,rfl⟩) (fun _ _ h=>h) (hr.objs b o h1)
 · obtain ⟨o0,h1,h2⟩:=killH_some ho
   obtain ⟨o0',h1',h2'⟩:=killH_some ho'
   rcases h2 with ⟨_,rfl⟩ | ⟨_,rfl⟩
   · exact hl.elim
   rcases h2' with ⟨_,rfl⟩ | ⟨_,rfl⟩
   · exact hl'.elim
   exact hr.inj b b' _ _ h1 h1' hl hl' hn he
 · obtain ⟨o0,h1,h2⟩:=killH_some ho
   rcases h2 with ⟨_,rfl⟩ | ⟨_,rfl⟩
   · trivial
   · exact Obj.refs_mono (fun _ h=>killH_in h) (hr.refs b o h1)
theorem HRel.killImm (K:Nat → Bool) (hr:HRel P w Imm β H Prot):HRel P w (ImmK K Imm β H) β (killH K H) Prot:=by
 have hk:=hr.kill K
 have hi:∀ k,Imm k → ImmK K Imm β H k:=fun k h=>.inl h
 refine ⟨fun b o ho=>?_,fun b b' o o' ho ho' hl hl' hn he=>hk.inj b b' o o' ho ho' hl hl' (fun h=>hn (hi _ h)) he,hk.refs,fun k h=>?_,hr.prot,⟨fun g=>PVV.mono hi (fun _ _=>rfl) _ _ (hr.glob.val g),fun g cs h=>⟨hi _ (hr.glob.raw g cs h).1,(hr.glob.raw g cs h).2⟩⟩⟩
 · have ho2:=ho
   obtain ⟨o0,h1,h2⟩:=killH_some ho
   rcases h2 with ⟨_,rfl⟩ | ⟨kb,rfl⟩
   · trivial
   · refine ORel.carry hi (fun _ _=>rfl) (HStep.refl β _) (hk.refs b o ho2) (fun _=>⟨rfl,rfl,rfl⟩) (fun hl fz h=>?_) (hk.objs b o ho2)
     cases fz with
     | true=>exact hi _ h
     | false =>
      refine ⟨?_,h.2⟩
      rintro (h3 | ⟨b1,o1,g1,g2,g3,g4⟩)
      · exact h.1 h3
      · have:=hr.inj b1 b o1 o g1 h1 g2 hl (by rw [g4]; exact h.1) g4
        rw [this,kb] at g3; cases g3
 · rcases h with h | ⟨b1,o1,g1,g2,g3,rfl⟩
   · exact hr.imm k h
   · exact hr.live_lt g1 g2
theorem ORel.held {b:Nat} {o:Obj} (h:ORel P w Imm β H Prot b o) (hl:o.live):Imm (β.blk b) ∨ ¬ Prot (β.blk b):=by
 by_cases hi:Imm (β.blk b)
 · exact .inl hi
 · exact .inr (h.mut hl hi)
theorem GoodI.pure {f : FuncId} {args : List AV} {H' : Heap} {v : AV} {n : Nat} {p : PV} (K : Nat → Bool) (h : GoodI P f H args H' v) (hp : purR (killH (fun i => !K i) H') n v = some p) (hl : ∀ b L, K b = true → H[b]? ≠ some (.loop L)) :
    GoodI P f H args (killH K H') (.p p):=by
 refine ⟨h.1,fun w Imm Prot β cargs hr ha hre=>(h.2 w Imm Prot β cargs hr ha hre).mono ?_⟩
 rintro e w' ⟨cv,β',Imm',rfl,hpo,hv,hrv⟩
 have hrel:=hpo.rel
 have hk2:=hrel.kill (fun i=>!K i)
 have hv2:AVV P w' Imm' β' (killH (fun i=>!K i) H') v cv:=AVV.mono (fun _ x=>x) (fun _ _=>rfl) killH_step _ _ hrv hv
 have hpv:=purR_sound hk2 n v p hp (refsLt.mono (fun _ h=>killH_in h) v hrv) cv hv2
 refine ⟨cv,β',ImmK K Imm' β' H',rfl,⟨fun k hk=>.inl (hpo.imm k hk),?_,hpo.ext,?_,hrel.killImm K,fun x hx=>killH_in (hpo.inn x hx),?_⟩,?_,trivial⟩
 · rintro k (hk | ⟨b,o,g1,g2,g3,rfl⟩)
   · exact hpo.fresh k hk
   · rcases (hrel.objs b o g1).held g2 with h | h
     · exact hpo.fresh _ h
     · exact .inr h
 · have hst:=hpo.step
   have hk:=killH_step (K:=K) (β:=β') (H:=H')
   refine ⟨fun b hb hL=>?_,fun b hb hL=>?_,fun b hb hL=>?_,fun b ver esz k es hb hL=>?_,fun b hb hL=>?_⟩
   · exact hst.box b hb (hk.box b (hpo.inn _ hb) hL).1
   · exact hst.it b hb (hk.it b (hpo.inn _ hb) hL).1
   · exact hst.map b hb (hk.map b (hpo.inn _ hb) hL).1
   · have h3:LiveArr H' b ver esz k es:=by
      obtain ⟨o0,h1,h2⟩:=killH_some hL
      rcases h2 with ⟨_,h2⟩ | ⟨_,rfl⟩
      · cases h2
      · exact h1
     exact hst.arr b ver esz k es hb h3
   · exact hst.loop b hb (hk.loop b (hpo.inn _ hb) hL).1
 · rintro b ⟨L,hL⟩
   obtain ⟨L',hL'⟩:=hpo.loop b ⟨L,hL⟩
   have hkb:K b = false:=by
    cases hkb:K b with
    | false=>rfl
    | true=>exact (hl b L hkb hL).elim
   exact ⟨L',by rw [killH_get,hL']; simp [hkb]⟩
 · show PVV P w' _ p cv
   refine PVV.mono ?_ (fun _ _=>rfl) _ _ hpv
   rintro k (hk | ⟨b,o,g1,g2,rfl⟩)
   · exact .inl hk
   · obtain ⟨o0,h1,h2⟩:=killH_some g1
     rcases h2 with ⟨_,rfl⟩ | ⟨kb,rfl⟩
     · exact g2.elim
     · exact .inr ⟨b,o,h1,g2,by simpa using kb,rfl⟩
end
end Go.Abs
namespace Go.Abs
set_option linter.unusedSectionVars false
variable [Gl]
section
variable {P:Program} {w:World} {Imm Prot:Nat → Prop} {β:Bd}
theorem swap_step {t t':AV} {r:Heap}:HStep β (.box false t :: r) β (.box false t' :: r):=by
 refine ⟨fun b _ h=>⟨?_,rfl⟩,fun b _ h=>⟨?_,rfl⟩,fun b _ h=>⟨?_,rfl⟩,fun b ver esz k es _ h=>⟨k,es,?_,Nat.le_refl _,Iff.rfl,fun _=>⟨rfl,rfl⟩⟩,fun b _ h=>⟨?_,rfl⟩⟩
 · cases b with
   | zero=>exact ⟨false,t,rfl⟩
   | succ b=>exact h
 · obtain ⟨s,q,h⟩:=h
   cases b with
   | zero=>simp at h
   | succ b=>exact ⟨s,q,h⟩
 · obtain ⟨s,q,h⟩:=h
   cases b with
   | zero=>simp at h
   | succ b=>exact ⟨s,q,h⟩
 · cases b with
   | zero=>simp [LiveArr] at h
   | succ b=>exact h
 · obtain ⟨L,h⟩:=h
   cases b with
   | zero=>simp at h
   | succ b=>exact ⟨L,h⟩
theorem swap_in {t t':AV} {r:Heap} {x:Nat × Nat} (h:InH (.box false t :: r) x):InH (.box false t' :: r) x:=by
 obtain ⟨o,h1,h2⟩:=h
 obtain ⟨b,v⟩:=x
 cases b with
 | zero=>exact ⟨_,rfl,trivial⟩
 | succ b=>exact ⟨o,h1,h2⟩
theorem HRel.swap {t t' : AV} {r : Heap} (hr : HRel P w Imm β (.box false t :: r) Prot) (hc : ∀ cs, AVC P w Imm β (.box false t :: r) t cs → AVC P w Imm β (.box false t :: r) t' cs) (hbx : ∀ T, bxB T (shpA t') = true)
    (href:∀ n,refsLt n t → refsLt n t'):HRel P w Imm β (.box false t' :: r) Prot:=by
 refine ⟨fun b o ho=>?_,fun b b' o o' ho ho' hl hl' hn he=>?_,fun b o ho=>?_,hr.imm,hr.prot,hr.glob⟩
 · cases b with
   | zero =>
    simp at ho; subst ho
    obtain ⟨cs,T,h1,h2,h3,h4,h5⟩:=hr.objs 0 _ rfl
    have hre:=hr.refs 0 _ rfl
    exact ⟨cs,T,h1,AVC.mono (fun _ x=>x) (fun _ _=>rfl) swap_step _ _ (href _ hre) (hc _ h2),h3,(fun h=>absurd h (by simp)),hbx T⟩
   | succ b=>exact ORel.carry (fun _ x=>x) (fun _ _=>rfl) swap_step (hr.refs (b + 1) o ho) (fun _=>⟨rfl,rfl,rfl⟩) (fun _ _ h=>h) (hr.objs (b + 1) o ho)
 · have key:∀ {b:Nat} {o:Obj},(Obj.box false t' :: r)[b]? = some o → o.live → ∃ o1,(Obj.box false t :: r)[b]? = some o1 ∧ o1.live:=by
    intro b o ho hl
    cases b with
    | zero=>exact ⟨_,rfl,trivial⟩
    | succ b=>exact ⟨o,ho,hl⟩
   obtain ⟨o1,k1,k2⟩:=key ho hl
   obtain ⟨o2,k3,k4⟩:=key ho' hl'
   exact hr.inj b b' o1 o2 k1 k3 k2 k4 hn he
 · cases b with
   | zero =>
    simp at ho; subst ho
    exact refsLt.mono (fun _ h=>swap_in h) _ (href _ (hr.refs 0 _ rfl))
   | succ b=>exact Obj.refs_mono (fun _ h=>swap_in h) (hr.refs (b + 1) o ho)
theorem avc_wrap {H:Heap} {u:TypeId} {n:Nat} (hu:szs P u = some [n]) {t:AV} {cs:List Value}:AVC P w Imm β H (.st u [t]) cs ↔ AVC P w Imm β H t cs ∧ cs.length = n:=by
 simp only [AVC,hu,Option.some.injEq]
 constructor
 · rintro ⟨l,css,rfl,h1,rfl⟩
   simp only [AVCl] at h1
   obtain ⟨c,d,rfl,h2,h3,rfl⟩:=h1
   simpa using ⟨h2,h3⟩
 · rintro ⟨h1,h2⟩
   exact ⟨[n],[cs],rfl,by simp only [AVCl]; exact ⟨cs,[],rfl,h1,h2,rfl⟩,by simp⟩
theorem GoodI.wrap {f : FuncId} {u : TypeId} {n : Nat} {t t' : AV} {r r' : Heap} {args : List AV} {v : AV} (hu : szs P u = some [n]) (hb : ∀ T, bxB T (.agg u) = true) (hb1 : ∀ T, bxB T (shpA t) = true) (hn : ∀ (w : World) (Imm : Nat → Prop) (β : Bd) (H : Heap) (cs : List Value), AVC P w Imm β H t' cs → cs.length = n)
    (h:GoodI P f (.box false t :: r) (.ptr 0 [] :: args) (.box false t' :: r') v):GoodI P f (.box false (.st u [t]) :: r) (.ptr 0 [(u,0)] :: args) (.box false (.st u [t']) :: r') v:=by
 refine ⟨h.1,fun w Imm Prot β cargs hr ha hre=>?_⟩
 have hr1:HRel P w Imm β (.box false t :: r) Prot:=hr.swap (fun cs h=>((avc_wrap hu).1 h).1) hb1 (fun n h=>by simpa [refsLt,refsLtl] using h)
 obtain ⟨x,xs,rfl,h1,h2⟩:=ha
 have ha1:AVVl P w Imm β (.box false t :: r) (.ptr 0 [] :: args) (x :: xs):=by
  refine ⟨x,xs,rfl,?_,AVVl.mono (fun _ x=>x) (fun _ _=>rfl) swap_step _ _ hre.2 h2⟩
  obtain ⟨q1,blk,off,o,q2,q3,q4⟩:=h1
  refine ⟨q1,blk,off,0,q2,rfl,fun _=>?_⟩
  have ho:o = 0:=by simpa [pathOff,hu] using q3.symm
  have:=q4 (.inl ⟨false,_,rfl⟩)
  rw [ho] at this; exact this
 refine (h.2 w Imm Prot β (x :: xs) hr1 ha1 ⟨⟨_,rfl,trivial⟩,refsLtl.mono (fun _ h=>swap_in h) _ hre.2⟩).mono ?_
 rintro e w' ⟨cv,β',Imm',rfl,hpo,hv,hrv⟩
 refine ⟨cv,β',Imm',rfl,⟨hpo.imm,hpo.fresh,hpo.ext,?_,?_,fun x hx=>swap_in (hpo.inn x (swap_in hx)),?_⟩,AVV.mono (fun _ x=>x) (fun _ _=>rfl) swap_step _ _ hrv hv,refsLt.mono (fun _ h=>swap_in h) _ hrv⟩
 · have hst:=hpo.step
   have s1:=swap_step (β:=β) (t:=.st u [t]) (t':=t) (r:=r)
   have s2:=swap_step (β:=β') (t:=t') (t':=.st u [t']) (r:=r')
   have i1:∀ x,InH (.box false (.st u [t]) :: r) x → InH (.box false t :: r) x:=fun x h=>swap_in h
   have i2:∀ x,InH (.box false t :: r) x → InH (.box false t' :: r') x:=hpo.inn
   refine ⟨fun b hb hL=>?_,fun b hb hL=>?_,fun b hb hL=>?_,fun b ver esz k es hb hL=>?_,fun b hb hL=>?_⟩
   · obtain ⟨k1,k2⟩:=s2.box b (i2 _ (i1 _ hb)) hL
     obtain ⟨k3,k4⟩:=hst.box b (i1 _ hb) k1
     exact ⟨(s1.box b hb k3).1,k4⟩
   · obtain ⟨k1,k2⟩:=s2.it b (i2 _ (i1 _ hb)) hL
     obtain ⟨k3,k4⟩:=hst.it b (i1 _ hb) k1
     exact ⟨(s1.it b hb k3).1,k4⟩
   · obtain ⟨k1,k2⟩:=s2.map b (i2 _ (i1 _ hb)) hL
     obtain ⟨k3,k4⟩:=hst.map b (i1 _ hb) k1
     exact ⟨(s1.map b hb k3).1,k4⟩
   · have k1:LiveArr (.box false t' :: r') b ver esz k es:=by
      cases b with
      | zero=>simp [LiveArr] at hL
      | succ b=>exact hL
     obtain ⟨k0,es0,q1,q2⟩:=hst.arr b ver esz k es (i1 _ hb) k1
     refine ⟨k0,es0,?_,q2⟩
     cases b with
     | zero=>simp [LiveArr] at q1
     | succ b=>exact q1
   · obtain ⟨k1,k2⟩:=s2.loop b (i2 _ (i1 _ hb)) hL
     obtain ⟨k3,k4⟩:=hst.loop b (i1 _ hb) k1
     exact ⟨(s1.loop b hb k3).1,k4⟩
 · exact hpo.rel.swap (fun cs h=>(avc_wrap hu).2 ⟨h,hn _ _ _ _ _ h⟩) hb (fun n h=>by simpa [refsLt,refsLtl] using h)
 · rintro b ⟨L,hL⟩
   have k1:LiveLoop (.box false t :: r) b:=by
    cases b with
    | zero=>simp at hL
    | succ b=>exact ⟨L,hL⟩
   obtain ⟨L',k2⟩:=hpo.loop b k1
   cases b with
   | zero=>simp at k2
   | succ b=>exact ⟨L',k2⟩
end
end Go.Abs
namespace Go.Abs
set_option linter.unusedSectionVars false
variable [Gl]
section
variable {P:Program} {frz:FuncId → Bool} {dst:Option Tmp} {ty:Nat} {pos:String} {af:Array Edge} {g:Option (Nat × Bool)} {env:Env} {heap:Heap} {L:St → Prop}
theorem p_clear {x : Operand} {T : TypeId} {b ver esz off len : Nat} {k : AK} {es : List AV} {z : PV} (hx : ev env x = .sl b ver esz off len) (hb : heap[b]? = some (.arr k ver esz es)) (hT : elemOk P T = some esz) (hz : tzero P (elemType P T) = some z) (hs : shpSize P (shp z) = esz)
    (hk:k = .exact) (hl:off + len ≤ es.length) (h0:0 < len)
    (hK:appS dst ⟨env,heap⟩ L { v:=.p (.tup []),hin:=[(b,.arr k ver esz es)],hset:=[(b,.arr k ver esz (es.take off ++ List.replicate len (.p z) ++ es.drop (off + len)))] }):plainS P frz ⟨dst,.call { callee:=.builtin .clear,args:=#[x],argTypes:=#[T] },ty,pos,af,g⟩ L ⟨env,heap⟩ ():=by
 subst hk
 have h:opEff P frz ⟨dst,.call { callee:=.builtin .clear,args:=#[x],argTypes:=#[T] },ty,pos,af,g⟩ (ev env) heap (appS dst ⟨env,heap⟩ L):=by
  unfold opEff
  simp only [List.map_cons,List.map_nil,hx,hb]
  rw [show (#[T]:Array TypeId).getD 0 0 = T from rfl,hT,hz]
  exact ⟨rfl,rfl,rfl,hs,by simp,hl,by simp [AK.gr],by simp,h0,hK⟩
 exact h
theorem p_cap {x : Operand} {T : TypeId} {b ver esz off len : Nat} {es : List AV} (hx : ev env x = .sl b ver esz off len) (hb : heap[b]? = some (.arr .exact ver esz es)) (hT : (elemOk P T).isSome = true) (hl : off + len ≤ es.length)
    (hK:appS dst ⟨env,heap⟩ L { v:=.p (.int .i64 (es.length - off:Nat)),hin:=[(b,.arr .exact ver esz es)] }):plainS P frz ⟨dst,.call { callee:=.builtin .cap,args:=#[x],argTypes:=#[T] },ty,pos,af,g⟩ L ⟨env,heap⟩ ():=by
 have h:opEff P frz ⟨dst,.call { callee:=.builtin .cap,args:=#[x],argTypes:=#[T] },ty,pos,af,g⟩ (ev env) heap (appS dst ⟨env,heap⟩ L):=by
  unfold opEff
  have hc:capOf heap (.sl b ver esz off len) = some (es.length - off,[(b,.arr .exact ver esz es)]):=by
   simp only [capOf,hb]
   rw [if_pos ⟨trivial,trivial,by omega⟩]
  have hl:lenTy P T (.sl b ver esz off len) = true:=by
   simp only [elemOk] at hT
   simp only [lenTy]
   split at hT
   · rfl
   · simp at hT
  simp only [List.map_cons,List.map_nil,hx,hc]
  exact ⟨hl,by simp,hK⟩
 exact h
theorem p_slice3 {x lo hi m : Operand} {T : TypeId} {b ver esz off len l h n : Nat} {es : List AV} (hx : ev env x = .sl b ver esz off len) (hb : heap[b]? = some (.arr .exact ver esz es)) (hT : (elemOk P T).isSome = true) (hl : off + len ≤ es.length)
    (hlo:ev env lo = .p (.int .i64 l)) (hhi:ev env hi = .p (.int .i64 h)) (hm:ev env m = .p (.int .i64 n)) (h1:off + n ≤ es.length) (h2:h ≤ n) (h3:l ≤ h)
    (hK:appS dst ⟨env,heap⟩ L { v:=.p .undef,hin:=[(b,.arr .exact ver esz es)] }):plainS P frz ⟨dst,.slice T x (some lo) (some hi) (some m),ty,pos,af,g⟩ L ⟨env,heap⟩ ():=by
 have hh:opEff P frz ⟨dst,.slice T x (some lo) (some hi) (some m),ty,pos,af,g⟩ (ev env) heap (appS dst ⟨env,heap⟩ L):=by
  unfold opEff
  simp only [Option.map_some,hlo,hhi,hm,hx,sliceMWP,hb,sliceBnd,Int.toNat_natCast]
  exact ⟨trivial,trivial,hT,by simp [AK.gr],hl,rfl,by omega,by omega,by omega,h1,h2,h3,hK⟩
 exact hh
end
end Go.Abs
namespace Go.Abs
set_option linter.unusedSectionVars false
variable [Gl]
section
variable {P:Program} {w:World} {Imm Prot:Nat → Prop} {β:Bd}
def deads (n:Nat):Heap:=List.replicate n .dead
theorem deads_get {n b:Nat} {o:Obj} (h:(deads n)[b]? = some o):o = .dead:=by
 simp only [deads,List.getElem?_replicate] at h
 split at h
 · injection h with h; exact h.symm
 · cases h
theorem killH_all {H:Heap}:killH (fun _=>true) H = deads H.length:=by
 apply List.ext_getElem?
 intro i
 rw [killH_get,deads,List.getElem?_replicate]
 by_cases h:i < H.length
 · rw [List.getElem?_eq_getElem h,if_pos h]; rfl
 · rw [List.getElem?_eq_none (by omega),if_neg h]; rfl
theorem killH_no {H:Heap}:killH (fun _=>!true) H = H:=by
 apply List.ext_getElem?
 intro i
 rw [killH_get]
 cases H[i]? <;> rfl
theorem GoodI.cut {f:FuncId} {H:Heap} {args:List AV} {n:Nat} {p:PV} (h:GoodI P f H args (deads n) (.p p)):GoodI P f H args (deads H.length) (.p p):=by
 refine ⟨h.1,fun w Imm Prot β cargs hr ha hre=>(h.2 w Imm Prot β cargs hr ha hre).mono ?_⟩
 rintro e w' ⟨cv,β',Imm',rfl,hpo,hv,hrv⟩
 have no:∀ {m b:Nat} {o:Obj},(deads m)[b]? = some o → o.live → False:=fun h hl=>by rw [deads_get h] at hl; exact hl
 refine ⟨cv,β',Imm',rfl,⟨hpo.imm,hpo.fresh,hpo.ext,⟨?_,?_,?_,?_,?_⟩,⟨fun b o ho=>by rw [deads_get ho]; trivial,fun b b' o o' ho _ hl=>(no ho hl).elim,fun b o ho=>by rw [deads_get ho]; trivial,hpo.rel.imm,hpo.rel.prot,hpo.rel.glob⟩,?_,?_⟩,hv,trivial⟩
 · rintro b _ ⟨fz,t,h⟩; cases deads_get h
 · rintro b _ ⟨fz,t,h⟩; cases deads_get h
 · rintro b _ ⟨fz,t,h⟩; cases deads_get h
 · intro b ver esz k es _ h; cases deads_get h
 · rintro b _ ⟨L,h⟩; cases deads_get h
 · rintro x ⟨o,h1,_⟩
   have hlt:=(List.getElem?_eq_some_iff.1 h1).1
   exact ⟨.dead,by rw [deads,List.getElem?_replicate,if_pos hlt],trivial⟩
 · intro b hb
   obtain ⟨L,hL⟩:=hpo.loop b hb
   cases deads_get hL
theorem GoodI.weak {f:FuncId} {H H':Heap} {args:List AV} {v v':PV} (h:GoodI P f H args H' (.p v)) (hv:Wk v v'):GoodI P f H args H' (.p v'):=by
 refine ⟨h.1,fun w Imm Prot β cargs hr ha hre=>(h.2 w Imm Prot β cargs hr ha hre).mono ?_⟩
 rintro e w' ⟨cv,β',Imm',rfl,hpo,h2,hrv⟩
 exact ⟨cv,β',Imm',rfl,hpo,PVV.weak _ _ _ hv h2,trivial⟩
theorem goodD_fn {f : FuncId} {fn : Func} (frz : FuncId → Bool) (h : IsFn P f fn) (hmix : P.follows .mixedOrders = true) {args : List AV} {H : Heap} {v : PV} (hn : args.length ≤ fn.ntmps) (hl : ∀ (b : Nat) (L : LoopA), H[b]? ≠ some (.loop L))
    (hwp:codeS P frz (fn.ntmps,H.length) (fn.body.getD .skip) (EndsS P fn.results.toList v) ⟨argEnv 0 args,H⟩):GoodI P f H args (deads H.length) (.p v):=by
 obtain ⟨e,s,⟨h1,vs,h2,h3⟩,h5⟩:=sing_code _ _ _ (codeW_ok (Q':=EndsS P fn.results.toList v) _ (fun _ _ h=>h) hwp)
 obtain ⟨v',h3,h4⟩:=pur_ok _ _ _ h3
 have hg:GoodI P f H args s.heap (oneOf vs):=goodI frz h hmix hn (h5 (EndsI P fn.results.toList H.length s.heap (oneOf vs)) ⟨by cases e <;> exact h1,vs,h2,rfl,.inl rfl⟩)
 have hp:=hg.pure (fun _=>true) (n:=9) (p:=v') (by rw [killH_no]; exact h3) (fun b L _=>hl b L)
 rw [killH_all] at hp
 exact hp.cut.weak h4
end
end Go.Abs
namespace Go.Abs
set_option linter.unusedSectionVars false
variable [Gl]
section
variable {P:Program}
def EndsX (P:Program) (rs:List ResultVar) (N:Nat) (Q:AV → Heap → Prop) (e:Tg (rs,N,Q) AExit) (s:Tg (rs,N,Q) St):Prop :=
 (match e with
  | .exit _=>False
  | _=>True) ∧ ∃ vs,resVals P s rs = some vs ∧ ∃ H',Q (oneOf vs) H' ∧ (H' = St.heap s ∨ (ForgetN N s ⟨[],H'⟩ ∧ refsLt (InH H') (oneOf vs)))
theorem endsX_ret {rs:List ResultVar} {N:Nat} {Q:AV → Heap → Prop} {s:St}:EndsX P rs N Q .ret s = ∃ vs,resVals P s rs = some vs ∧ ∃ H',Q (oneOf vs) H' ∧ (H' = s.heap ∨ (ForgetN N s ⟨[],H'⟩ ∧ refsLt (InH H') (oneOf vs))):=by simp [EndsX]
theorem endsX_normal {rs:List ResultVar} {N:Nat} {Q:AV → Heap → Prop} {s:St}:EndsX P rs N Q .normal s = ∃ vs,resVals P s rs = some vs ∧ ∃ H',Q (oneOf vs) H' ∧ (H' = s.heap ∨ (ForgetN N s ⟨[],H'⟩ ∧ refsLt (InH H') (oneOf vs))):=by simp [EndsX]
theorem goodX_fn {f : FuncId} {fn : Func} (frz : FuncId → Bool) (h : IsFn P f fn) (hmix : P.follows .mixedOrders = true) {args : List AV} {H : Heap} (Q : AV → Heap → Prop) (hn : args.length ≤ fn.ntmps)
    (hwp:codeS P frz (fn.ntmps,H.length) (fn.body.getD .skip) (EndsX P fn.results.toList H.length Q) ⟨argEnv 0 args,H⟩):∃ v H',Q v H' ∧ GoodI P f H args H' v:=by
 obtain ⟨e,s,⟨h1,vs,h2,H',h3,h4⟩,h5⟩:=sing_code _ _ _ (codeW_ok (Q':=EndsX P fn.results.toList H.length Q) _ (fun _ _ h=>h) hwp)
 exact ⟨oneOf vs,H',h3,goodI frz h hmix hn (h5 (EndsI P fn.results.toList H.length H' (oneOf vs)) ⟨by cases e <;> exact h1,vs,h2,rfl,h4⟩)⟩
attribute [simp] endsX_ret endsX_normal
end
end Go.Abs
namespace Go.Abs
set_option linter.unusedSectionVars false
variable [Gl]
section
variable {P:Program}
theorem GoodC.heap {f:FuncId} {vs vs':List PV} {v:PV} {H H1:Heap} {args:List AV} (h:GoodC P f vs v) (hE:Enters P f) (ha:purL H args = some (vs',H1)) (h1:Wkl vs' vs:=by first | exact Wkl.refl _ | simp):GoodI P f H args H1 (.p v):=by
 refine ⟨hE,fun w Imm Prot β cargs hrel hargs hargr=>?_⟩
 obtain ⟨Imm1,p1,p2⟩:=purL_post ha hrel hargs hargr
 rcases h.weak h1 (Wk.refl _) with hG | hX
 · intro cs
   obtain ⟨e,w',fr',⟨cv,Imm',he,m1,m2,m3,m4,m5,m6,m7⟩,hst,hfn',hlv⟩:=hG.2 w Imm1 _ p1.rel.imm p1.rel.glob p2 cs
   subst he
   exact ⟨_,w',fr',⟨cv,β,Imm',rfl,p1.trans (p1.rel.later m1 m2 m3 m4 m5 m6),by simpa [AVV] using m7,by simp [refsLt]⟩,hst,hfn',hlv⟩
 · obtain ⟨cv,h2,_⟩:=hX w Imm1 _ p2
   rw [hE] at h2
   cases h2
theorem purl_val {w:World} {Imm Prot:Nat → Prop} {β:Bd} {H:Heap} {n:Nat} (hr:HRel P w Imm β H Prot):∀ {args:List AV} {vs:List PV} {cargs:List Value},mapO (purR H n) args = some vs → refsLtl (InH H) args → AVVl P w Imm β H args cargs → PVVl P w (ImmAll Imm β H) vs cargs
 | [],vs,cargs,h,_,hv=>by
  simp [mapO] at h
  subst h
  simp only [AVVl] at hv
  simpa [PVVl] using hv
 | a :: args,vs,cargs,h,hre,hv=>by
  simp only [mapO] at h
  split at h
  case h_2=>simp at h
  rename_i y ys h1 h2
  simp at h
  subst h
  simp only [AVVl] at hv
  obtain ⟨z,zs,rfl,k1,k2⟩:=hv
  simp only [refsLtl] at hre
  simp only [PVVl]
  exact ⟨z,zs,rfl,purR_sound hr n a y h1 hre.1 z k1,purl_val hr h2 hre.2 k2⟩
theorem GoodC.eat {f:FuncId} {vs:List PV} {v:PV} {H:Heap} {args:List AV} (n:Nat) (h:GoodC P f vs v) (hE:Enters P f) (ha:Purl H n args vs) (hl:∀ (b:Nat) (L:LoopA),H[b]? ≠ some (.loop L)):GoodI P f H args (deads H.length) (.p v):=by
 obtain ⟨ps,h1,h2⟩:=purl_ok n (fun x v h=>pur_ok n x v h) args vs ha
 refine ⟨hE,fun w Imm Prot β cargs hrel hargs hargr=>?_⟩
 have p2:PVVl P w (ImmK (fun _=>true) Imm β H) ps cargs:=PVVl.mono (by
  rintro k (hk | ⟨b,o,g1,g2,rfl⟩)
  · exact .inl hk
  · exact .inr ⟨b,o,g1,g2,rfl,rfl⟩) (fun _ _=>rfl) _ _ (purl_val hrel h1 hargr hargs)
 have p1:Post P Prot Imm w β H (ImmK (fun _=>true) Imm β H) w β (killH (fun _=>true) H):=by
  refine ⟨fun k hk=>.inl hk,?_,(Post.refl hrel).ext,killH_step,hrel.killImm _,fun x hx=>killH_in hx,?_⟩
  · rintro k (hk | ⟨b,o,g1,g2,g3,rfl⟩)
    · exact .inl hk
    · exact (hrel.objs b o g1).held g2
  · rintro b ⟨L,hL⟩
    exact (hl b L hL).elim
 rw [← killH_all]
 rcases h.weak h2 (Wk.refl _) with hG | hX
 · intro cs
   obtain ⟨e,w',fr',⟨cv,Imm',he,m1,m2,m3,m4,m5,m6,m7⟩,hst,hfn',hlv⟩:=hG.2 w _ _ p1.rel.imm p1.rel.glob p2 cs
   subst he
   exact ⟨_,w',fr',⟨cv,β,Imm',rfl,p1.trans (p1.rel.later m1 m2 m3 m4 m5 m6),by simpa [AVV] using m7,by simp [refsLt]⟩,hst,hfn',hlv⟩
 · obtain ⟨cv,h2,_⟩:=hX w _ _ p2
   rw [hE] at h2
   cases h2
end
end Go.Abs
namespace Go.Abs
set_option linter.unusedSectionVars false
variable [Gl]
section
variable {P:Program} {w:World} {Imm Prot:Nat → Prop} {β:Bd}
theorem HRel.swapR {t t' : AV} {r : Heap} (hr : HRel P w Imm β (.box false t :: r) Prot) (hc : ∀ cs, AVC P w Imm β (.box false t :: r) t cs → AVC P w Imm β (.box false t :: r) t' cs) (hbx : ∀ T, bxB T (shpA t') = true)
    (href:refsLt (InH (.box false t :: r)) t → refsLt (InH (.box false t :: r)) t'):HRel P w Imm β (.box false t' :: r) Prot:=by
 refine ⟨fun b o ho=>?_,fun b b' o o' ho ho' hl hl' hn he=>?_,fun b o ho=>?_,hr.imm,hr.prot,hr.glob⟩
 · cases b with
   | zero =>
    simp at ho; subst ho
    obtain ⟨cs,T,h1,h2,h3,h4,h5⟩:=hr.objs 0 _ rfl
    have hre:=hr.refs 0 _ rfl
    exact ⟨cs,T,h1,AVC.mono (fun _ x=>x) (fun _ _=>rfl) swap_step _ _ (href hre) (hc _ h2),h3,(fun h=>absurd h (by simp)),hbx T⟩
   | succ b=>exact ORel.carry (fun _ x=>x) (fun _ _=>rfl) swap_step (hr.refs (b + 1) o ho) (fun _=>⟨rfl,rfl,rfl⟩) (fun _ _ h=>h) (hr.objs (b + 1) o ho)
 · have key:∀ {b:Nat} {o:Obj},(Obj.box false t' :: r)[b]? = some o → o.live → ∃ o1,(Obj.box false t :: r)[b]? = some o1 ∧ o1.live:=by
    intro b o ho hl
    cases b with
    | zero=>exact ⟨_,rfl,trivial⟩
    | succ b=>exact ⟨o,ho,hl⟩
   obtain ⟨o1,k1,k2⟩:=key ho hl
   obtain ⟨o2,k3,k4⟩:=key ho' hl'
   exact hr.inj b b' o1 o2 k1 k3 k2 k4 hn he
 · cases b with
   | zero =>
    simp at ho; subst ho
    exact refsLt.mono (fun _ h=>swap_in h) _ (href (hr.refs 0 _ rfl))
   | succ b=>exact Obj.refs_mono (fun _ h=>swap_in h) (hr.refs (b + 1) o ho)
theorem GoodI.swap {f : FuncId} {t t1 : AV} {r : Heap} {args : List AV} {v : AV} (hb : ∀ T, bxB T (shpA t) = true) (hb1 : ∀ T, bxB T (shpA t1) = true)
    (hc:∀ (w:World) (Imm:Nat → Prop) (β:Bd) (cs:List Value),AVC P w Imm β (.box false t :: r) t cs → AVC P w Imm β (.box false t :: r) t1 cs)
    (hc1:∀ (w:World) (Imm:Nat → Prop) (β:Bd) (cs:List Value),AVC P w Imm β (.box false t1 :: r) t1 cs → AVC P w Imm β (.box false t1 :: r) t cs)
    (hre:refsLt (InH (.box false t1 :: r)) t) (hre1:refsLt (InH (.box false t :: r)) t1)
    (h:GoodI P f (.box false t1 :: r) args (.box false t1 :: r) v):GoodI P f (.box false t :: r) args (.box false t :: r) v:=by
 refine ⟨h.1,fun w Imm Prot β cargs hr ha hra=>?_⟩
 have hr1:HRel P w Imm β (.box false t1 :: r) Prot:=hr.swapR (hc _ _ _) hb1 (fun _=>hre1)
 refine (h.2 w Imm Prot β cargs hr1 (AVVl.mono (fun _ x=>x) (fun _ _=>rfl) swap_step _ _ hra ha) (refsLtl.mono (fun _ h=>swap_in h) _ hra)).mono ?_
 rintro e w' ⟨cv,β',Imm',rfl,hpo,hv,hrv⟩
 refine ⟨cv,β',Imm',rfl,⟨hpo.imm,hpo.fresh,hpo.ext,?_,?_,fun x hx=>swap_in (hpo.inn x (swap_in hx)),?_⟩,AVV.mono (fun _ x=>x) (fun _ _=>rfl) swap_step _ _ hrv hv,refsLt.mono (fun _ h=>swap_in h) _ hrv⟩
 · have hst:=hpo.step
   have s1:=swap_step (β:=β) (t:=t) (t':=t1) (r:=r)
   have s2:=swap_step (β:=β') (t:=t1) (t':=t) (r:=r)
   have i1:∀ x,InH (.box false t :: r) x → InH (.box false t1 :: r) x:=fun x h=>swap_in h
   have i2:∀ x,InH (.box false t1 :: r) x → InH (.box false t1 :: r) x:=hpo.inn
   refine ⟨fun b hb hL=>?_,fun b hb hL=>?_,fun b hb hL=>?_,fun b ver esz k es hb hL=>?_,fun b hb hL=>?_⟩
   · obtain ⟨k1,k2⟩:=s2.box b (i2 _ (i1 _ hb)) hL
     obtain ⟨k3,k4⟩:=hst.box b (i1 _ hb) k1
     exact ⟨(s1.box b hb k3).1,k4⟩
   · obtain ⟨k1,k2⟩:=s2.it b (i2 _ (i1 _ hb)) hL
     obtain ⟨k3,k4⟩:=hst.it b (i1 _ hb) k1
     exact ⟨(s1.it b hb k3).1,k4⟩
   · obtain ⟨k1,k2⟩:=s2.map b (i2 _ (i1 _ hb)) hL
     obtain ⟨k3,k4⟩:=hst.map b (i1 _ hb) k1
     exact ⟨(s1.map b hb k3).1,k4⟩
   · have k1:LiveArr (.box false t1 :: r) b ver esz k es:=by
      cases b with
      | zero=>simp [LiveArr] at hL
      | succ b=>exact hL
     obtain ⟨k0,es0,q1,q2⟩:=hst.arr b ver esz k es (i1 _ hb) k1
     refine ⟨k0,es0,?_,q2⟩
     cases b with
     | zero=>simp [LiveArr] at q1
     | succ b=>exact q1
   · obtain ⟨k1,k2⟩:=s2.loop b (i2 _ (i1 _ hb)) hL
     obtain ⟨k3,k4⟩:=hst.loop b (i1 _ hb) k1
     exact ⟨(s1.loop b hb k3).1,k4⟩
 · exact hpo.rel.swapR (hc1 _ _ _) hb (fun _=>hre)
 · rintro b ⟨L,hL⟩
   have k1:LiveLoop (.box false t1 :: r) b:=by
    cases b with
    | zero=>simp at hL
    | succ b=>exact ⟨L,hL⟩
   obtain ⟨L',k2⟩:=hpo.loop b k1
   cases b with
   | zero=>simp at k2
   | succ b=>exact ⟨L',k2⟩
end
end Go.Abs
