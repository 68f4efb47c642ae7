import Derived.Test.YthckccalfpnmaaaGreatDoorThD
import Derived.Test.YthckccalfpnmaaaGreatDoorPB
import Derived.Test.YthckccalfpnmaaaGreatDoorPA
import Derived.Shelf.Sort.Plain
import Derived.Shelf.Slices.In.SortNone
/- Parts of a proof. -/
set_option linter.unusedSimpArgs false
set_option linter.unusedVariables false
set_option linter.unusedSectionVars false
namespace Go.Abs
set_option linter.unusedSectionVars false
variable [Gl]
section
variable {P : Program} {frz : FuncId → Bool} {q : Cx}
theorem runR_mono {r : Res} {K K' : Eff → Prop} (hk : ∀ e, K e → K' e) (h : runR r K) : runR r K' := by
  unfold runR at h ⊢
  split at h
  · exact ⟨h.1, hk _ h.2⟩
  · exact h.elim
theorem opEff_mono {o : Oper} {e : Env} {H : Heap} {K K' : Eff → Prop} (hk : ∀ e, K e → K' e) (h : opEff P frz o (ev e) H K) : opEff P frz o (ev e) H K' := by
  obtain ⟨x, h1, h2⟩ := sing_op (frz := frz) o (ev e) H K h
  exact h2 K' (hk x h1)
theorem opW_mono {o : Oper} {e : Env} {H : Heap} {K K' : Eff → Prop} (hk : ∀ e, K e → K' e) (h : opW P frz o e H K) : opW P frz o e H K' := by
  unfold opW at h ⊢
  repeat' split at h
  all_goals first | exact hk _ h | exact runR_mono hk h | exact ⟨h.1, runR_mono hk h.2⟩ | exact opEff_mono hk h | exact h.elim
theorem callWP_mono {d : Bool} {f : FuncId} {args : List AV} {H : Heap} {K K' : AV → Heap → Prop} (hk : ∀ v H, K v H → K' v H) (h : CallWP P d f args H K) : CallWP P d f args H K' := by
  rcases h with ⟨vs, v, h1, h2, h3⟩ | ⟨hd, ⟨vs, H1, v, h1, h2, h3⟩ | ⟨H', v, h1, h2⟩ | ⟨e, h1, h2, h3⟩ | ⟨hin, v, h1, h2, h3⟩⟩
  · exact .inl ⟨vs, v, h1, h2, hk _ _ h3⟩
  · exact .inr ⟨hd, .inl ⟨vs, H1, v, h1, h2, hk _ _ h3⟩⟩
  · exact .inr ⟨hd, .inr (.inl ⟨H', v, h1, hk _ _ h2⟩)⟩
  · exact .inr ⟨hd, .inr (.inr (.inl ⟨e, h1, h2, hk _ _ h3⟩))⟩
  · exact .inr ⟨hd, .inr (.inr (.inr ⟨hin, v, h1, h2, hk _ _ h3⟩))⟩
theorem callE_mono {f : FuncId} {args : List AV} {H : Heap} {K K' : Eff → Prop} (hk : ∀ e, K e → K' e) (h : CallE P f args H K) : CallE P f args H K' := by
  rcases h with ⟨vs, v, h1, h2, h3⟩ | ⟨vs, bs, hin, hset, v, h1, h2, h3, h4⟩ | ⟨e, h1, h2, h3⟩ | ⟨hin, v, h1, h2, h3⟩
  · exact .inl ⟨vs, v, h1, h2, hk _ h3⟩
  · exact .inr (.inl ⟨vs, bs, hin, hset, v, h1, h2, h3, hk _ h4⟩)
  · exact .inr (.inr (.inl ⟨e, h1, h2, hk _ h3⟩))
  · exact .inr (.inr (.inr ⟨hin, v, h1, h2, hk _ h3⟩))
theorem plainW_mono {o : Oper} {K K' : St → Prop} {s : St} (hk : ∀ s, K s → K' s) (h : plainW P frz o K s) : plainW P frz o K' s := by
  unfold plainW at h ⊢
  split at h
  · rename_i f args aT hop
    unfold callV at h ⊢
    split at h
    · exact callWP_mono (fun v H hh => hk _ hh) h
    · exact callWP_mono (fun v H hh => hk _ hh) h
    · obtain ⟨H', v, h1, h2⟩ := h; exact ⟨H', v, h1, hk _ h2⟩
    · exact h.elim
  · exact opW_mono (fun e hh => hk _ hh) h
theorem drawnW_mono {o : Oper} {s : St} {K K' : Eff → Prop} (hk : ∀ e, K e → K' e) (h : drawnW P frz o s K) : drawnW P frz o s K' := by
  unfold drawnW at h ⊢
  split at h
  · rename_i f args aT hop
    unfold callVd at h ⊢
    split at h
    · exact callE_mono hk h
    · exact callE_mono hk h
    · exact h.elim
  · exact opW_mono hk h
theorem opsW_mono {ops : Array Oper} : ∀ (l : List Oper) {K K' : St → Prop} {s : St}, (∀ s, K s → K' s) → opsW P frz ops l K s → opsW P frz ops l K' s
  | [], K, K', s, hk, h => hk s h
  | o :: l, K, K', s, hk, h => by
    simp only [opsW] at h ⊢
    split at h
    · exact plainW_mono (fun s hs => opsW_mono l hk hs) h
    · split at h
      · split at h
        · rename_i ht; rw [if_pos ht]; exact plainW_mono (fun s hs => opsW_mono l hk hs) h
        · rename_i ht; rw [if_neg ht]; exact opsW_mono l hk h
      · exact opsW_mono l hk h
      · exact h.elim
theorem opsWd_mono {ops : Array Oper} : ∀ (l : List Oper) {i : Nat} {acc : List Touch} {K K' : St → Prop} {s : St}, (∀ s, K s → K' s) → opsWd P frz ops l i acc K s → opsWd P frz ops l i acc K' s
  | [], i, acc, K, K', s, hk, h => ⟨h.1, hk s h.2⟩
  | o :: l, i, acc, K, K', s, hk, h => by
    simp only [opsWd] at h ⊢
    split at h
    · exact drawnW_mono (fun e hs => opsWd_mono l hk hs) h
    · split at h
      · split at h
        · rename_i ht; rw [if_pos ht]; exact drawnW_mono (fun e hs => opsWd_mono l hk hs) h
        · rename_i ht; rw [if_neg ht]; exact opsWd_mono l hk h
      · exact opsWd_mono l hk h
      · exact h.elim
theorem codeW_mono : ∀ (c : Code) {Q Q' : AExit → St → Prop} {s : St}, (∀ e s, Q e s → Q' e s) → codeW P frz q c Q s → codeW P frz q c Q' s
  | .skip, Q, Q', s, hq, h => hq _ _ h
  | .label _, Q, Q', s, hq, h => hq _ _ h
  | .exit _, Q, Q', s, hq, h => hq _ _ h
  | .ret, Q, Q', s, hq, h => hq _ _ h
  | .region _ ops draw, Q, Q', s, hq, h => by
    simp only [codeW] at h ⊢
    split at h
    · rename_i hd; rw [if_pos hd]; exact opsWd_mono _ (fun s hs => hq _ _ hs) h
    · rename_i hd; rw [if_neg hd]; exact opsW_mono _ (fun s hs => hq _ _ hs) h
  | .seq a b, Q, Q', s, hq, h => by
    simp only [codeW] at h ⊢
    refine codeW_mono a (fun e s he => ?_) h
    cases e with
    | normal => exact codeW_mono b hq he
    | exit i => exact hq _ _ he
    | ret => exact hq _ _ he
  | .cond c a b, Q, Q', s, hq, h => by
    simp only [codeW] at h ⊢
    unfold condW at h ⊢
    split at h
    · split at h
      · rename_i ht; rw [if_pos ht]; exact codeW_mono a hq h
      · rename_i ht; rw [if_neg ht]; exact codeW_mono b hq h
    · exact h.elim
  | .block id b, Q, Q', s, hq, h => by
    simp only [codeW] at h ⊢
    refine codeW_mono b (fun e s he => ?_) h
    cases e with
    | normal => exact hq _ _ he
    | exit i =>
      simp only [blockQ] at he ⊢
      by_cases hi : i = id
      · simp only [hi, if_true] at he ⊢; exact hq _ _ he
      · simp only [hi, if_false] at he ⊢; exact hq _ _ he
    | ret => exact hq _ _ he
  | .scope b, Q, Q', s, hq, h => codeW_mono b hq h
  | .loop b, Q, Q', s, hq, h => by
    simp only [codeW] at h ⊢
    obtain ⟨I, h1, h2⟩ := h
    refine ⟨I, h1, fun n t hI => codeW_mono b (fun e s he => ?_) (h2 n t hI)⟩
    cases e with
    | normal => exact he
    | exit id => exact hq _ _ he
    | ret => exact hq _ _ he
  | .rangeFunc f ps a b, Q, Q', s, hq, h => by
    simp only [codeW] at h ⊢
    exact ⟨h.1, iter_mono (fun H => over_mono hq) h.2⟩
  | .goto _, _, _, _, _, h => h.elim
  | .refuse _, _, _, _, _, h => h.elim
def joinS (R : St → Prop) (Q : AExit → St → Prop) (e : Tg (R, Q) AExit) (s : Tg (R, Q) St) : Prop := match e with
  | .normal => R s
  | e => Q e s
theorem joinS_normal {R : St → Prop} {Q : AExit → St → Prop} {s : St} : joinS R Q .normal s = R s := (rfl)
theorem joinS_exit {R : St → Prop} {Q : AExit → St → Prop} {id : Nat} {s : St} : joinS R Q (.exit id) s = Q (.exit id) s := (rfl)
theorem joinS_ret {R : St → Prop} {Q : AExit → St → Prop} {s : St} : joinS R Q .ret s = Q .ret s := (rfl)
theorem join {a b : Code} {Q : AExit → St → Prop} {s : St} (R : St → Prop) (h1 : codeS P frz q a (joinS R Q) s) (h2 : ∀ s', R s' → codeS P frz q b Q s') : codeS P frz q (.seq a b) Q s := by
  rw [w_seq']
  refine codeW_mono a (fun e s he => ?_) h1
  cases e with
  | normal => exact h2 s he
  | exit i => exact he
  | ret => exact he
theorem rl_pc {α : Type} {N : Nat × Nat → Prop} {f : α → PV} {l : List α} : refsLtl N (l.map (AV.p ∘ f)) = True := rl_p
attribute [simp] joinS_normal joinS_exit joinS_ret rl_pc
end
end Go.Abs
namespace Go.Abs
set_option linter.unusedSectionVars false
variable [Gl]
section
variable {P : Program} {frz : FuncId → Bool}
def EndsIS (P : Program) (rs : List ResultVar) (N : Nat) (H' : Heap) (v : AV) (e : Tg (rs, N, H', v) AExit) (s : Tg (rs, N, H', v) St) : Prop := EndsI P rs N H' v e s
theorem endsIS_ret {rs : List ResultVar} {N : Nat} {H' : Heap} {v : AV} {s : St} : EndsIS P rs N H' v .ret s = ∃ vs, resVals P s rs = some vs ∧ oneOf vs = v ∧ (H' = s.heap ∨ (ForgetN N s ⟨[], H'⟩ ∧ refsLt (InH H') v)) := by simp [EndsIS, EndsI]
theorem endsIS_normal {rs : List ResultVar} {N : Nat} {H' : Heap} {v : AV} {s : St} : EndsIS P rs N H' v .normal s = ∃ vs, resVals P s rs = some vs ∧ oneOf vs = v ∧ (H' = s.heap ∨ (ForgetN N s ⟨[], H'⟩ ∧ refsLt (InH H') v)) := by simp [EndsIS, EndsI]
theorem goodI_fn {f : FuncId} {fn : Func} (frz : FuncId → Bool) (h : IsFn P f fn) (hmix : P.follows .mixedOrders = true) {args : List AV} {H H' : Heap} {v : AV} (hn : args.length ≤ fn.ntmps)
    (hwp : codeS P frz (fn.ntmps, H.length) (fn.body.getD .skip) (EndsIS P fn.results.toList H.length H' v) ⟨argEnv 0 args, H⟩) : GoodI P f H args H' v :=
  goodI frz h hmix hn (codeW_ok (Q' := EndsI P fn.results.toList H.length H' v) _ (fun _ _ h => h) hwp)
theorem sig_nil {n i : Nat} : sig [] n i = n + i := by simp [sig]
def fieldT (P : Program) (T : TypeId) (f : Nat) : Option (TypeId × Shp) := match kindOf P T, P.underlying T with
  | .agg u, some (.struct _) => ((compTypes P u)[f]?).map fun F => (u, kindOf P F)
  | _, _ => none
def fieldV (P : Program) (T : TypeId) (f : Nat) (x : AV) : Res := match fieldT P T f, x with
  | some (u, k), .p t => match (flds t)[f]? with
    | some g => some (shp t = .agg u ∧ k = shp g, { v := .p g })
    | none => none
  | _, _ => none
theorem field_eq {T : TypeId} {x : AV} {f : Nat} {K : Eff → Prop} : (match kindOf P T, P.underlying T, x with
    | .agg u, some (.struct _), .p t => shp t = .agg u ∧ (match (flds t)[f]?, (compTypes P u)[f]? with
      | some g, some F => kindOf P F = shp g ∧ K { v := .p g }
      | _, _ => False)
    | _, _, _ => False) = runR (fieldV P T f x) K := by
  unfold fieldV fieldT
  cases h1 : kindOf P T with
  | agg u => cases h2 : P.underlying T with
    | none => simp [runR]
    | some d => cases d with
      | struct fs => cases x with
        | p t => cases hc : (compTypes P u)[f]? <;> cases hg : (flds t)[f]? <;> simp [runR, hg, hc, and_assoc]
        | _ => cases hc : (compTypes P u)[f]? <;> simp [runR, hc]
      | _ => simp [runR]
  | _ => simp [runR]
section fields
variable {dst : Option Tmp} {ty : Nat} {pos : String} {af : Array Edge} {g : Option (Nat × Bool)} {env : Env} {heap : Heap} {L : St → Prop} {K : Eff → Prop} {T : TypeId} {x : Operand} {f : Nat}
theorem p_field' : plainS P frz ⟨dst, .field T x f, ty, pos, af, g⟩ L ⟨env, heap⟩ () = runS (appS dst ⟨env, heap⟩ L) (fieldV P T f (ev env x)) := field_eq
theorem d_field' : drawnS P frz ⟨dst, .field T x f, ty, pos, af, g⟩ ⟨env, heap⟩ K () = runS K (fieldV P T f (ev env x)) := field_eq
theorem fieldV_st {T u u' : TypeId} {k : Shp} {fs : List PV} {f : Nat} (h : fieldT P T f = some (u, k)) : fieldV P T f (.p (.st u' fs)) = match fs[f]? with
    | some g => some (u' = u ∧ k = shp g, { v := .p g })
    | none => none := by
  unfold fieldV
  simp only [h, flds, shp, Shp.agg.injEq]
end fields
theorem renL_map {σ : Nat → Nat} {α : Type} {f : α → PV} : ∀ {l : List α}, renL σ (l.map (AV.p ∘ f)) = l.map (AV.p ∘ f)
  | [] => rfl
  | a :: l => by simp only [List.map_cons, renL, renL_map (l := l)]; rfl
theorem renL_map2 {σ : Nat → Nat} {α β : Type} {f : β → PV} {g : α → β} {l : List α} : renL σ (l.map ((AV.p ∘ f) ∘ g)) = l.map ((AV.p ∘ f) ∘ g) := renL_map (f := f ∘ g)
theorem rl_pc2 {α β : Type} {N : Nat × Nat → Prop} {f : β → PV} {g : α → β} {l : List α} : refsLtl N (l.map ((AV.p ∘ f) ∘ g)) = True := rl_pc (f := f ∘ g)
attribute [simp] p_field' d_field' renL_map2 rl_pc2 endsIS_ret endsIS_normal sig_nil ren renL renO renL_map
end
end Go.Abs
namespace Go.Abs
set_option linter.unusedSectionVars false
variable [Gl]
section
variable {P : Program} {frz : FuncId → Bool}
theorem khg_same {T : Heap} : ∀ {h : Heap}, KeepHg T h h = True
  | [] => by simp [KeepHg]
  | o :: h => by simp [KeepHg, KO_same, khg_same (h := h)]
theorem refsH_apd {T : Heap} : ∀ {h k : Heap}, RefsH T (h ++ k) = (RefsH T h ∧ RefsH T k)
  | [], k => by simp [RefsH]
  | o :: h, k => by simp [RefsH, refsH_apd (h := h), and_assoc]
theorem rl_repl {N : Nat × Nat → Prop} {n : Nat} {v : PV} : refsLtl N (List.replicate n (.p v)) = True := by
  rw [refsLtl_mem, eq_iff_iff, iff_true]; intro x hx; rw [(List.mem_replicate.1 hx).2]; trivial
theorem renL_lam {σ : Nat → Nat} {α : Type} {f : α → PV} {l : List α} : renL σ (l.map fun x => .p (f x)) = l.map fun x => .p (f x) := renL_map (f := f)
theorem refsL {L : LoopA} {e : Env} {H : Heap} (h : L.env = e) (hr : RefsE H e) : ∀ x, refsLt (InH H) (getE L.env x) := by rw [h]; exact hr.get
def LoopA.bz (L : LoopA) : LoopA := { L with st := .busy }
def LoopA.dn (L : LoopA) (j : Code) : LoopA := { L with st := .done, pending := some j }
def LoopA.xh (L : LoopA) : LoopA := { L with st := .exhausted }
theorem refsLd {L : LoopA} {e : Env} {H : Heap} {j : Code} (h : L.env = e) (hr : RefsE H e) : ∀ x, refsLt (InH H) (getE (L.dn j).env x) := refsL h hr
def Stream (P : Program) (g : FuncId) (fi ca : List PV) (items : List (List PV)) : Prop :=
  ∀ (b k : Nat) (Hs : Nat → Heap) (H' : Heap), k ≤ items.length → (∀ i, i ≤ k → RefsH (Hs i) (Hs i) ∧ refsLt (InH (Hs i)) (.map b)) →
    (∀ i a, i < k → items[i]? = some a → GoodY P b (Hs i) (a.map .p) (Hs (i + 1)) (.p (.bool true))) →
    (k = items.length ∧ H' = Hs k ∨ ∃ a, items[k]? = some a ∧ GoodY P b (Hs k) (a.map .p) H' (.p (.bool false))) →
    GoodI P g (Hs 0) (fi.map .p ++ [.map b] ++ ca.map .p) H' (.p (.tup []))
theorem cv_map' {b : Nat} {args : List AV} {M : AV → Heap → Prop} {heap : Heap} : callS P heap M (.map b) args = ∃ H' v, GoodY P b heap args H' v ∧ M v H' := (rfl)
def reS (b : Nat) (L : LoopA) (N : Nat) (H' : Heap) (v : Bool) (e : Tg (b, L, N, H', v) AExit) (s : Tg (b, L, N, H', v) St) : Prop :=
  match e with
  | .normal => v = true ∧ (St.heap s)[b]? = some (.loop L.bz) ∧ ForgetN N ⟨[], (St.heap s).set b (.loop L)⟩ ⟨[], H'⟩
  | .exit id => v = false ∧ (St.heap s)[b]? = some (.loop L.bz) ∧ ForgetN N ⟨[], (St.heap s).set b (.loop (L.dn (.exit id)))⟩ ⟨[], H'⟩
  | .ret => v = false ∧ (St.heap s)[b]? = some (.loop L.bz) ∧ ForgetN N ⟨[], (St.heap s).set b (.loop (L.dn .ret))⟩ ⟨[], H'⟩
section
variable {b N : Nat} {L : LoopA} {H' : Heap} {v : Bool} {s : St}
theorem reS_normal : reS b L N H' v .normal s = (v = true ∧ s.heap[b]? = some (.loop L.bz) ∧ ForgetN N ⟨[], s.heap.set b (.loop L)⟩ ⟨[], H'⟩) := (rfl)
theorem reS_exit {id : Nat} : reS b L N H' v (.exit id) s = (v = false ∧ s.heap[b]? = some (.loop L.bz) ∧ ForgetN N ⟨[], s.heap.set b (.loop (L.dn (.exit id)))⟩ ⟨[], H'⟩) := (rfl)
theorem reS_ret : reS b L N H' v .ret s = (v = false ∧ s.heap[b]? = some (.loop L.bz) ∧ ForgetN N ⟨[], s.heap.set b (.loop (L.dn .ret))⟩ ⟨[], H'⟩) := (rfl)
end
def rbS (P : Program) (frz : FuncId → Bool) (q : Cx) (b : Nat) (c : Code) (L : LoopA) (H' : Heap) (v : Bool) (e : Tg (q, b, c, L, H', v) AExit) (s : Tg (q, b, c, L, H', v) St) : Prop :=
  match e with
  | .normal => (St.heap s)[b]? = some (.loop L) ∧ codeS P frz q c (reS b L q.2 H' v) ⟨St.env s, (St.heap s).set b (.loop L.bz)⟩
  | _ => False
theorem rbS_normal {q : Cx} {b : Nat} {c : Code} {L : LoopA} {H' : Heap} {v : Bool} {s : St} : rbS P frz q b c L H' v .normal s = (s.heap[b]? = some (.loop L) ∧ codeS P frz q c (reS b L q.2 H' v) ⟨s.env, s.heap.set b (.loop L.bz)⟩) := (rfl)
theorem y_round (frz : FuncId → Bool) (hmix : P.follows .mixedOrders = true) {b n : Nat} {L : LoopA} {H H' : Heap} {args : List AV} {v : Bool} {ps : List Tmp} {a c : Code} {env : Env}
    (hL : L = ⟨.ready, none, n, ps, a, c, env⟩) (hb : H[b]? = some (.loop L)) (hlen : args.length = ps.length)
    (hok : (ps.all (fun x => decide (x < n)) && codeOk fit n a && codeOk fit n c) = true)
    (hwp : codeS P frz (n, H.length) a (rbS P frz (n, H.length) b c L H' v) ⟨putAll ps args env, H⟩) : GoodY P b H args H' (.p (.bool v)) := by
  refine goodY frz hmix hb (by rw [hL]; exact hlen) (by rw [hL]; exact hok) ?_
  unfold roundWP
  have e1 : L.n = n := by rw [hL]
  have e2 : L.assign = a := by rw [hL]
  have e3 : L.body = c := by rw [hL]
  have e4 : L.params = ps := by rw [hL]
  have e5 : L.env = env := by rw [hL]
  have e6 : L.st = .ready := by rw [hL]
  rw [e1, e2, e3, e4, e5]
  refine codeW_ok (Q := rbS P frz (n, H.length) b c L H' v) _ (fun e s h => ?_) hwp
  cases e with
  | normal =>
    obtain ⟨h1, h2⟩ := h
    simp only [roundBegin, h1]
    refine ⟨e6, codeW_ok (Q := reS b L H.length H' v) _ (fun e s h => ?_) h2⟩
    cases e with
    | normal =>
      obtain ⟨rfl, h3, h4⟩ := h
      have hh : s.heap[b]? = some (.loop L.bz) := h3
      simp only [roundEnd, hh, jumpOf]
      refine ⟨rfl, ?_⟩
      have : ({ L.bz with st := LoopState.ready, pending := none } : LoopA) = L := by subst hL; rfl
      simpa [this] using h4
    | exit id =>
      obtain ⟨rfl, h3, h4⟩ := h
      have hh : s.heap[b]? = some (.loop L.bz) := h3
      simp only [roundEnd, hh, jumpOf]
      exact ⟨rfl, h4⟩
    | ret =>
      obtain ⟨rfl, h3, h4⟩ := h
      have hh : s.heap[b]? = some (.loop L.bz) := h3
      simp only [roundEnd, hh, jumpOf]
      exact ⟨rfl, h4⟩
  | exit id => exact h.elim
  | ret => exact h.elim
theorem rf {f : Operand} {ps : Array Tmp} {a c : Code} {Q : AExit → St → Prop} {env : Env} {heap : Heap} {q : Cx} {g : FuncId} {fi ca : List PV} {items : List (List PV)} (hst : Stream P g fi ca items) (hf : ev env f = .p (.func g fi ca)) (hq : q.2 ≤ heap.length)
    (X : LoopA → Nat → Heap) (k : Nat) (hk : k ≤ items.length) (h0 : ∀ L, X L 0 = heap ++ [.loop L])
    (hx : ∀ L, L = ⟨.ready, none, q.1, ps.toList, a, c, env⟩ → ∀ i, i ≤ k → (X L i)[heap.length]? = some (.loop L) ∧ RefsE (X L i) env ∧ (RefsE (X L i) env → (∀ x, refsLt (InH (X L i)) (getE L.env x)) → RefsH (X L i) (X L i)))
    (hy : ∀ L, L = ⟨.ready, none, q.1, ps.toList, a, c, env⟩ → ∀ i x, i < k → items[i]? = some x → GoodY P heap.length (X L i) (x.map .p) (X L (i + 1)) (.p (.bool true)))
    (he : ∀ L, L = ⟨.ready, none, q.1, ps.toList, a, c, env⟩ → (k = items.length ∧ Q .normal ⟨env, (X L k).set heap.length (.loop L.xh)⟩) ∨
      ∃ x j X', items[k]? = some x ∧ X'[heap.length]? = some (.loop (L.dn j)) ∧ GoodY P heap.length (X L k) (x.map .p) X' (.p (.bool false)) ∧ jumpQ Q (some j) ⟨env, X'.set heap.length (.loop (L.dn j).xh)⟩) :
    codeS P frz q (.rangeFunc f ps a c) Q ⟨env, heap⟩ := by
  obtain ⟨L, hL⟩ : ∃ L : LoopA, L = ⟨.ready, none, q.1, ps.toList, a, c, env⟩ := ⟨_, rfl⟩
  have hS := hst heap.length k (X L)
  refine ⟨hq, ?_⟩
  show iterWP P (ev env f) heap.length (heap ++ [.loop ⟨.ready, none, q.1, ps.toList, a, c, env⟩]) (overWP heap.length env Q)
  rw [hf]
  simp only [iterWP]
  rw [← hL, ← h0 L]
  have hR : ∀ i, i ≤ k → RefsH (X L i) (X L i) ∧ refsLt (InH (X L i)) (.map heap.length) := by
    intro i hi
    obtain ⟨h1, h2, h3⟩ := hx L hL i hi
    have e5 : L.env = env := by rw [hL]
    refine ⟨h3 h2 (by rw [e5]; exact h2.get), ?_⟩
    simp only [refsLt, InH, h1]
    exact ⟨_, rfl, by simp [Obj.has]⟩
  rcases he L hL with ⟨h1, h2⟩ | ⟨x, j, X', h1, h2, h3, h4⟩
  · refine ⟨_, _, hS (X L k) hk hR (hy L hL) (.inl ⟨h1, rfl⟩), ?_⟩
    have hb := (hx L hL k (Nat.le_refl k)).1
    simp only [overWP, hb]
    refine ⟨by rw [hL]; simp, ?_⟩
    have : L.pending = none := by rw [hL]
    simp only [this, jumpQ]
    have e : L.xh = { L with st := .exhausted } := rfl
    rw [this] at e
    rw [e] at h2
    exact h2
  · refine ⟨_, _, hS X' hk hR (hy L hL) (.inr ⟨x, h1, h3⟩), ?_⟩
    simp only [overWP, h2]
    exact ⟨by simp [LoopA.dn], h4⟩
section framed
variable {f : FuncId} {H0 H0' H : Heap} {args0 args : List AV} {v0 : AV} {K : AV → Heap → Prop} {L : Eff → Prop}
theorem frame_e (h : GoodI P f H0 args0 H0' v0) (bs : List Nat) (hlen : bs.length = H0.length) (hnd : bs.Nodup) (hlt : ∀ b ∈ bs, b < H.length) (hl : H0.length ≤ H0'.length) (ha : refsLtl (InH H0) args0) (hr : RefsH H0 H0) (hargs : renL (sig bs H.length) args0 = args) :
    GoodE P f args H.length (effF bs H.length H0 H0' v0) := by
  have := h.frame bs H.length hlen hnd hlt hl ha hr.get
  rwa [hargs] at this
theorem ef (h : GoodI P f H0 args0 H0' v0) (bs : List Nat) (hk : L { v := ren (sig bs H.length) v0, hin := bs.zip (H0.map (renO (sig bs H.length))), hset := bs.zip ((H0'.take H0.length).map (renO (sig bs H.length))), hnew := (H0'.drop H0.length).map (renO (sig bs H.length)) }) (hin : ∀ p ∈ bs.zip (H0.map (renO (sig bs H.length))), H[p.1]? = some p.2 := by simp [sig]) (hset : ∀ p ∈ bs.zip ((H0'.take H0.length).map (renO (sig bs H.length))), p.1 < H.length ∧ p.2 ≠ .hole := by simp [sig])
    (hlen : bs.length = H0.length := by simp) (hnd : bs.Nodup := by simp) (hlt : ∀ b ∈ bs, b < H.length := by simp) (hl : H0.length ≤ H0'.length := by simp) (ha : refsLtl (InH H0) args0 := by simp) (hr : RefsH H0 H0 := by simp) (hargs : renL (sig bs H.length) args0 = args := by simp [sig]) : CallSd P f L args H :=
  .inr (.inr (.inl ⟨_, frame_e h bs hlen hnd hlt hl ha hr hargs, ⟨hin, hset⟩, hk⟩))
end framed
section bytes
variable {dst : Option Tmp} {ty : Nat} {pos : String} {af : Array Edge} {g : Option (Nat × Bool)} {env : Env} {heap : Heap} {L : St → Prop} {K : Eff → Prop}
end bytes
theorem rf2 {f : Operand} {ps : Array Tmp} {a c : Code} {Q : AExit → St → Prop} {env : Env} {heap : Heap} {q : Cx} {g : FuncId} {fi ca : List PV} {items : List (List PV)} (hst : Stream P g fi ca items) (hf : ev env f = .p (.func g fi ca)) (hq : q.2 ≤ heap.length)
    (X F : LoopA → Nat → Heap) (okB : Nat → Bool) (j : Code) (k : Nat) (hk : k ≤ items.length) (hok : ∀ i, i < k → okB i = true) (hbad : k = items.length ∨ (k < items.length ∧ okB k = false)) (h0 : ∀ L, X L 0 = heap ++ [.loop L])
    (hx : ∀ L, L = ⟨.ready, none, q.1, ps.toList, a, c, env⟩ → ∀ i, i ≤ k → (X L i)[heap.length]? = some (.loop L) ∧ RefsE (X L i) env ∧ (RefsE (X L i) env → (∀ x, refsLt (InH (X L i)) (getE L.env x)) → RefsH (X L i) (X L i)))
    (hy : ∀ L, L = ⟨.ready, none, q.1, ps.toList, a, c, env⟩ → ∀ i x, i ≤ k → items[i]? = some x → GoodY P heap.length (X L i) (x.map .p) (if okB i = true then X L (i + 1) else F L (i + 1)) (.p (.bool (okB i))))
    (hF : ∀ L, (F L (k + 1))[heap.length]? = some (.loop (L.dn j)))
    (hend : k = items.length → ∀ L, Q .normal ⟨env, (X L k).set heap.length (.loop L.xh)⟩)
    (hstop : k < items.length → ∀ L, jumpQ Q (some j) ⟨env, (F L (k + 1)).set heap.length (.loop (L.dn j).xh)⟩) :
    codeS P frz q (.rangeFunc f ps a c) Q ⟨env, heap⟩ := by
  refine rf hst hf hq X k hk h0 hx (fun L hL i x hi hi2 => ?_) (fun L hL => ?_)
  · have := hy L hL i x (by omega) hi2
    rw [hok i hi] at this
    exact this
  · rcases hbad with hb | ⟨hb, hb2⟩
    · exact .inl ⟨hb, hend hb L⟩
    · right
      refine ⟨items[k], j, F L (k + 1), List.getElem?_eq_getElem hb, hF L, ?_, hstop hb L⟩
      have := hy L hL k items[k] (Nat.le_refl _) (List.getElem?_eq_getElem hb)
      rw [hb2] at this
      exact this
attribute [simp] renL_lam rl_repl khg_same refsH_apd reS_normal reS_exit reS_ret rbS_normal cv_map' putAll
end
end Go.Abs
namespace Go.Abs
set_option linter.unusedSectionVars false
variable [Gl]
section
variable {P : Program} {frz : FuncId → Bool} {w : World} {Imm Prot : Nat → Prop} {β : Bd} {H : Heap}
def killH (K : Nat → Bool) (H : Heap) : Heap := H.mapIdx fun i o => if K i then .dead else o
theorem killH_get {K : Nat → Bool} {b : Nat} : (killH K H)[b]? = (H[b]?).map fun o => if K b then .dead else o := by simp [killH]
theorem killH_some {K : Nat → Bool} {b : Nat} {o : Obj} (h : (killH K H)[b]? = some o) : ∃ o0, H[b]? = some o0 ∧ ((K b = true ∧ o = .dead) ∨ (K b = false ∧ o = o0)) := by
  rw [killH_get, Option.map_eq_some_iff] at h
  obtain ⟨o0, h1, h2⟩ := h
  refine ⟨o0, h1, ?_⟩
  cases hk : K b <;> simp [hk] at h2
  · exact .inr ⟨rfl, h2.symm⟩
  · exact .inl ⟨rfl, h2.symm⟩
theorem killH_in {K : Nat → Bool} {x : Nat × Nat} (h : InH H x) : InH (killH K H) x := by
  obtain ⟨o, h1, h2⟩ := h
  refine ⟨if K x.1 then .dead else o, by rw [killH_get, h1]; rfl, ?_⟩
  split
  · trivial
  · exact h2
theorem killH_step {K : Nat → Bool} : HStep β H β (killH K H) := by
  refine ⟨fun b _ h => ⟨?_, rfl⟩, fun b _ h => ⟨?_, rfl⟩, fun b _ h => ⟨?_, rfl⟩, fun b ver esz k es _ h => ⟨k, es, ?_, Nat.le_refl _, Iff.rfl, fun _ => ⟨rfl, rfl⟩⟩, fun b _ h => ⟨?_, rfl⟩⟩
  · obtain ⟨fz, t, h⟩ := h
    obtain ⟨o0, h1, h2⟩ := killH_some h
    rcases h2 with ⟨_, h2⟩ | ⟨_, rfl⟩
    · cases h2
    · exact ⟨fz, t, h1⟩
  · obtain ⟨s, q, h⟩ := h
    obtain ⟨o0, h1, h2⟩ := killH_some h
    rcases h2 with ⟨_, h2⟩ | ⟨_, rfl⟩
    · cases h2
    · exact ⟨s, q, h1⟩
  · obtain ⟨s, q, h⟩ := h
    obtain ⟨o0, h1, h2⟩ := killH_some h
    rcases h2 with ⟨_, h2⟩ | ⟨_, rfl⟩
    · cases h2
    · exact ⟨s, q, h1⟩
  · obtain ⟨o0, h1, h2⟩ := killH_some h
    rcases h2 with ⟨_, h2⟩ | ⟨_, rfl⟩
    · cases h2
    · exact h1
  · obtain ⟨L, h⟩ := h
    obtain ⟨o0, h1, h2⟩ := killH_some h
    rcases h2 with ⟨_, h2⟩ | ⟨_, rfl⟩
    · cases h2
    · exact ⟨L, h1⟩
def ImmK (K : Nat → Bool) (Imm : Nat → Prop) (β : Bd) (H : Heap) (k : Nat) : Prop := Imm k ∨ ∃ (b : Nat) (o : Obj), H[b]? = some o ∧ o.live ∧ K b = true ∧ β.blk b = k
theorem HRel.kill (K : Nat → Bool) (hr : HRel P w Imm β H Prot) : HRel P w Imm β (killH K H) Prot := by
  refine ⟨fun b o ho => ?_, fun b b' o o' ho ho' hl hl' hn he => ?_, fun b o ho => ?_, hr.imm, hr.prot, hr.glob⟩
  · obtain ⟨o0, h1, h2⟩ := killH_some ho
    rcases h2 with ⟨_, rfl⟩ | ⟨_, rfl⟩
    · trivial
    · exact ORel.carry (fun _ x => x) (fun _ _ => rfl) killH_step (hr.refs b o h1) (fun _ => ⟨rfl, rfl, rfl⟩) (fun _ _ h => h) (hr.objs b o h1)
  · obtain ⟨o0, h1, h2⟩ := killH_some ho
    obtain ⟨o0', h1', h2'⟩ := killH_some ho'
    rcases h2 with ⟨_, rfl⟩ | ⟨_, rfl⟩
    · exact hl.elim
    rcases h2' with ⟨_, rfl⟩ | ⟨_, rfl⟩
    · exact hl'.elim
    exact hr.inj b b' _ _ h1 h1' hl hl' hn he
  · obtain ⟨o0, h1, h2⟩ := killH_some ho
    rcases h2 with ⟨_, rfl⟩ | ⟨_, rfl⟩
    · trivial
    · exact Obj.refs_mono (fun _ h => killH_in h) (hr.refs b o h1)
theorem HRel.killImm (K : Nat → Bool) (hr : HRel P w Imm β H Prot) : HRel P w (ImmK K Imm β H) β (killH K H) Prot := by
  have hk := hr.kill K
  have hi : ∀ k, Imm k → ImmK K Imm β H k := fun k h => .inl h
  refine ⟨fun b o ho => ?_, fun b b' o o' ho ho' hl hl' hn he => hk.inj b b' o o' ho ho' hl hl' (fun h => hn (hi _ h)) he, hk.refs, fun k h => ?_, hr.prot, ⟨fun g => PVV.mono hi (fun _ _ => rfl) _ _ (hr.glob.val g), fun g cs h => ⟨hi _ (hr.glob.raw g cs h).1, (hr.glob.raw g cs h).2⟩⟩⟩
  · have ho2 := ho
    obtain ⟨o0, h1, h2⟩ := killH_some ho
    rcases h2 with ⟨_, rfl⟩ | ⟨kb, rfl⟩
    · trivial
    · refine ORel.carry hi (fun _ _ => rfl) (HStep.refl β _) (hk.refs b o ho2) (fun _ => ⟨rfl, rfl, rfl⟩) (fun hl fz h => ?_) (hk.objs b o ho2)
      cases fz with
      | true => exact hi _ h
      | false =>
        refine ⟨?_, h.2⟩
        rintro (h3 | ⟨b1, o1, g1, g2, g3, g4⟩)
        · exact h.1 h3
        · have := hr.inj b1 b o1 o g1 h1 g2 hl (by rw [g4]; exact h.1) g4
          rw [this, kb] at g3; cases g3
  · rcases h with h | ⟨b1, o1, g1, g2, g3, rfl⟩
    · exact hr.imm k h
    · exact hr.live_lt g1 g2
theorem ORel.held {b : Nat} {o : Obj} (h : ORel P w Imm β H Prot b o) (hl : o.live) : Imm (β.blk b) ∨ ¬ Prot (β.blk b) := by
  by_cases hi : Imm (β.blk b)
  · exact .inl hi
  · exact .inr (h.mut hl hi)
end
end Go.Abs
namespace Go.Abs
set_option linter.unusedSectionVars false
variable [Gl]
section
variable {P : Program} {w : World} {Imm Prot : Nat → Prop} {β : Bd}
theorem swap_step {t t' : AV} {r : Heap} : HStep β (.box false t :: r) β (.box false t' :: r) := by
  refine ⟨fun b _ h => ⟨?_, rfl⟩, fun b _ h => ⟨?_, rfl⟩, fun b _ h => ⟨?_, rfl⟩, fun b ver esz k es _ h => ⟨k, es, ?_, Nat.le_refl _, Iff.rfl, fun _ => ⟨rfl, rfl⟩⟩, fun b _ h => ⟨?_, rfl⟩⟩
  · cases b with
    | zero => exact ⟨false, t, rfl⟩
    | succ b => exact h
  · obtain ⟨s, q, h⟩ := h
    cases b with
    | zero => simp at h
    | succ b => exact ⟨s, q, h⟩
  · obtain ⟨s, q, h⟩ := h
    cases b with
    | zero => simp at h
    | succ b => exact ⟨s, q, h⟩
  · cases b with
    | zero => simp [LiveArr] at h
    | succ b => exact h
  · obtain ⟨L, h⟩ := h
    cases b with
    | zero => simp at h
    | succ b => exact ⟨L, h⟩
theorem swap_in {t t' : AV} {r : Heap} {x : Nat × Nat} (h : InH (.box false t :: r) x) : InH (.box false t' :: r) x := by
  obtain ⟨o, h1, h2⟩ := h
  obtain ⟨b, v⟩ := x
  cases b with
  | zero => exact ⟨_, rfl, trivial⟩
  | succ b => exact ⟨o, h1, h2⟩
theorem HRel.swap {t t' : AV} {r : Heap} (hr : HRel P w Imm β (.box false t :: r) Prot) (hc : ∀ cs, AVC P w Imm β (.box false t :: r) t cs → AVC P w Imm β (.box false t :: r) t' cs) (hbx : ∀ T, bxB T (shpA t') = true)
    (href : ∀ n, refsLt n t → refsLt n t') : HRel P w Imm β (.box false t' :: r) Prot := by
  refine ⟨fun b o ho => ?_, fun b b' o o' ho ho' hl hl' hn he => ?_, fun b o ho => ?_, hr.imm, hr.prot, hr.glob⟩
  · cases b with
    | zero =>
      simp at ho; subst ho
      obtain ⟨cs, T, h1, h2, h3, h4, h5⟩ := hr.objs 0 _ rfl
      have hre := hr.refs 0 _ rfl
      exact ⟨cs, T, h1, AVC.mono (fun _ x => x) (fun _ _ => rfl) swap_step _ _ (href _ hre) (hc _ h2), h3, (fun h => absurd h (by simp)), hbx T⟩
    | succ b => exact ORel.carry (fun _ x => x) (fun _ _ => rfl) swap_step (hr.refs (b + 1) o ho) (fun _ => ⟨rfl, rfl, rfl⟩) (fun _ _ h => h) (hr.objs (b + 1) o ho)
  · have key : ∀ {b : Nat} {o : Obj}, (Obj.box false t' :: r)[b]? = some o → o.live → ∃ o1, (Obj.box false t :: r)[b]? = some o1 ∧ o1.live := by
      intro b o ho hl
      cases b with
      | zero => exact ⟨_, rfl, trivial⟩
      | succ b => exact ⟨o, ho, hl⟩
    obtain ⟨o1, k1, k2⟩ := key ho hl
    obtain ⟨o2, k3, k4⟩ := key ho' hl'
    exact hr.inj b b' o1 o2 k1 k3 k2 k4 hn he
  · cases b with
    | zero =>
      simp at ho; subst ho
      exact refsLt.mono (fun _ h => swap_in h) _ (href _ (hr.refs 0 _ rfl))
    | succ b => exact Obj.refs_mono (fun _ h => swap_in h) (hr.refs (b + 1) o ho)
theorem avc_wrap {H : Heap} {u : TypeId} {n : Nat} (hu : szs P u = some [n]) {t : AV} {cs : List Value} : AVC P w Imm β H (.st u [t]) cs ↔ AVC P w Imm β H t cs ∧ cs.length = n := by
  simp only [AVC, hu, Option.some.injEq]
  constructor
  · rintro ⟨l, css, rfl, h1, rfl⟩
    simp only [AVCl] at h1
    obtain ⟨c, d, rfl, h2, h3, rfl⟩ := h1
    simpa using ⟨h2, h3⟩
  · rintro ⟨h1, h2⟩
    exact ⟨[n], [cs], rfl, by simp only [AVCl]; exact ⟨cs, [], rfl, h1, h2, rfl⟩, by simp⟩
theorem GoodI.wrap {f : FuncId} {u : TypeId} {n : Nat} {t t' : AV} {r r' : Heap} {args : List AV} {v : AV} (hu : szs P u = some [n]) (hb : ∀ T, bxB T (.agg u) = true) (hb1 : ∀ T, bxB T (shpA t) = true) (hn : ∀ (w : World) (Imm : Nat → Prop) (β : Bd) (H : Heap) (cs : List Value), AVC P w Imm β H t' cs → cs.length = n)
    (h : GoodI P f (.box false t :: r) (.ptr 0 [] :: args) (.box false t' :: r') v) : GoodI P f (.box false (.st u [t]) :: r) (.ptr 0 [(u, 0)] :: args) (.box false (.st u [t']) :: r') v := by
  refine ⟨h.1, fun w Imm Prot β cargs hr ha hre => ?_⟩
  have hr1 : HRel P w Imm β (.box false t :: r) Prot := hr.swap (fun cs h => ((avc_wrap hu).1 h).1) hb1 (fun n h => by simpa [refsLt, refsLtl] using h)
  obtain ⟨x, xs, rfl, h1, h2⟩ := ha
  have ha1 : AVVl P w Imm β (.box false t :: r) (.ptr 0 [] :: args) (x :: xs) := by
    refine ⟨x, xs, rfl, ?_, AVVl.mono (fun _ x => x) (fun _ _ => rfl) swap_step _ _ hre.2 h2⟩
    obtain ⟨q1, blk, off, o, q2, q3, q4⟩ := h1
    refine ⟨q1, blk, off, 0, q2, rfl, fun _ => ?_⟩
    have ho : o = 0 := by simpa [pathOff, hu] using q3.symm
    have := q4 (.inl ⟨false, _, rfl⟩)
    rw [ho] at this; exact this
  refine (h.2 w Imm Prot β (x :: xs) hr1 ha1 ⟨⟨_, rfl, trivial⟩, refsLtl.mono (fun _ h => swap_in h) _ hre.2⟩).mono ?_
  rintro e w' ⟨cv, β', Imm', rfl, hpo, hv, hrv⟩
  refine ⟨cv, β', Imm', rfl, ⟨hpo.imm, hpo.fresh, hpo.ext, ?_, ?_, fun x hx => swap_in (hpo.inn x (swap_in hx)), ?_⟩, AVV.mono (fun _ x => x) (fun _ _ => rfl) swap_step _ _ hrv hv, refsLt.mono (fun _ h => swap_in h) _ hrv⟩
  · have hst := hpo.step
    have s1 := swap_step (β := β) (t := .st u [t]) (t' := t) (r := r)
    have s2 := swap_step (β := β') (t := t') (t' := .st u [t']) (r := r')
    have i1 : ∀ x, InH (.box false (.st u [t]) :: r) x → InH (.box false t :: r) x := fun x h => swap_in h
    have i2 : ∀ x, InH (.box false t :: r) x → InH (.box false t' :: r') x := hpo.inn
    refine ⟨fun b hb hL => ?_, fun b hb hL => ?_, fun b hb hL => ?_, fun b ver esz k es hb hL => ?_, fun b hb hL => ?_⟩
    · obtain ⟨k1, k2⟩ := s2.box b (i2 _ (i1 _ hb)) hL
      obtain ⟨k3, k4⟩ := hst.box b (i1 _ hb) k1
      exact ⟨(s1.box b hb k3).1, k4⟩
    · obtain ⟨k1, k2⟩ := s2.it b (i2 _ (i1 _ hb)) hL
      obtain ⟨k3, k4⟩ := hst.it b (i1 _ hb) k1
      exact ⟨(s1.it b hb k3).1, k4⟩
    · obtain ⟨k1, k2⟩ := s2.map b (i2 _ (i1 _ hb)) hL
      obtain ⟨k3, k4⟩ := hst.map b (i1 _ hb) k1
      exact ⟨(s1.map b hb k3).1, k4⟩
    · have k1 : LiveArr (.box false t' :: r') b ver esz k es := by
        cases b with
        | zero => simp [LiveArr] at hL
        | succ b => exact hL
      obtain ⟨k0, es0, q1, q2⟩ := hst.arr b ver esz k es (i1 _ hb) k1
      refine ⟨k0, es0, ?_, q2⟩
      cases b with
      | zero => simp [LiveArr] at q1
      | succ b => exact q1
    · obtain ⟨k1, k2⟩ := s2.loop b (i2 _ (i1 _ hb)) hL
      obtain ⟨k3, k4⟩ := hst.loop b (i1 _ hb) k1
      exact ⟨(s1.loop b hb k3).1, k4⟩
  · exact hpo.rel.swap (fun cs h => (avc_wrap hu).2 ⟨h, hn _ _ _ _ _ h⟩) hb (fun n h => by simpa [refsLt, refsLtl] using h)
  · rintro b ⟨L, hL⟩
    have k1 : LiveLoop (.box false t :: r) b := by
      cases b with
      | zero => simp at hL
      | succ b => exact ⟨L, hL⟩
    obtain ⟨L', k2⟩ := hpo.loop b k1
    cases b with
    | zero => simp at k2
    | succ b => exact ⟨L', k2⟩
end
end Go.Abs
namespace Go.Abs
set_option linter.unusedSectionVars false
variable [Gl]
section
variable {P : Program} {w : World} {Imm Prot : Nat → Prop} {β : Bd}
def deads (n : Nat) : Heap := List.replicate n .dead
theorem killH_all {H : Heap} : killH (fun _ => true) H = deads H.length := by
  apply List.ext_getElem?
  intro i
  rw [killH_get, deads, List.getElem?_replicate]
  by_cases h : i < H.length
  · rw [List.getElem?_eq_getElem h, if_pos h]; rfl
  · rw [List.getElem?_eq_none (by omega), if_neg h]; rfl
theorem GoodI.weak {f : FuncId} {H H' : Heap} {args : List AV} {v v' : PV} (h : GoodI P f H args H' (.p v)) (hv : Wk v v') : GoodI P f H args H' (.p v') := by
  refine ⟨h.1, fun w Imm Prot β cargs hr ha hre => (h.2 w Imm Prot β cargs hr ha hre).mono ?_⟩
  rintro e w' ⟨cv, β', Imm', rfl, hpo, h2, hrv⟩
  exact ⟨cv, β', Imm', rfl, hpo, PVV.weak _ _ _ hv h2, trivial⟩
end
end Go.Abs
namespace Go.Abs
set_option linter.unusedSectionVars false
variable [Gl]
section
variable {P : Program}
def EndsX (P : Program) (rs : List ResultVar) (N : Nat) (Q : AV → Heap → Prop) (e : Tg (rs, N, Q) AExit) (s : Tg (rs, N, Q) St) : Prop :=
  (match e with
    | .exit _ => False
    | _ => True) ∧ ∃ vs, resVals P s rs = some vs ∧ ∃ H', Q (oneOf vs) H' ∧ (H' = St.heap s ∨ (ForgetN N s ⟨[], H'⟩ ∧ refsLt (InH H') (oneOf vs)))
theorem endsX_ret {rs : List ResultVar} {N : Nat} {Q : AV → Heap → Prop} {s : St} : EndsX P rs N Q .ret s = ∃ vs, resVals P s rs = some vs ∧ ∃ H', Q (oneOf vs) H' ∧ (H' = s.heap ∨ (ForgetN N s ⟨[], H'⟩ ∧ refsLt (InH H') (oneOf vs))) := by simp [EndsX]
theorem endsX_normal {rs : List ResultVar} {N : Nat} {Q : AV → Heap → Prop} {s : St} : EndsX P rs N Q .normal s = ∃ vs, resVals P s rs = some vs ∧ ∃ H', Q (oneOf vs) H' ∧ (H' = s.heap ∨ (ForgetN N s ⟨[], H'⟩ ∧ refsLt (InH H') (oneOf vs))) := by simp [EndsX]
attribute [simp] endsX_ret endsX_normal
end
end Go.Abs
namespace Go.Abs
set_option linter.unusedSectionVars false
variable [Gl]
section
variable {P : Program}
theorem GoodC.heap {f : FuncId} {vs vs' : List PV} {v : PV} {H H1 : Heap} {args : List AV} (h : GoodC P f vs v) (hE : Enters P f) (ha : purL H args = some (vs', H1)) (h1 : Wkl vs' vs := by first | exact Wkl.refl _ | simp) : GoodI P f H args H1 (.p v) := by
  refine ⟨hE, fun w Imm Prot β cargs hrel hargs hargr => ?_⟩
  obtain ⟨Imm1, p1, p2⟩ := purL_post ha hrel hargs hargr
  rcases h.weak h1 (Wk.refl _) with hG | hX
  · intro cs
    obtain ⟨e, w', fr', ⟨cv, Imm', he, m1, m2, m3, m4, m5, m6, m7⟩, hst, hfn', hlv⟩ := hG.2 w Imm1 _ p1.rel.imm p1.rel.glob p2 cs
    subst he
    exact ⟨_, w', fr', ⟨cv, β, Imm', rfl, p1.trans (p1.rel.later m1 m2 m3 m4 m5 m6), by simpa [AVV] using m7, by simp [refsLt]⟩, hst, hfn', hlv⟩
  · obtain ⟨cv, h2, _⟩ := hX w Imm1 _ p2
    rw [hE] at h2
    cases h2
theorem purl_val {w : World} {Imm Prot : Nat → Prop} {β : Bd} {H : Heap} {n : Nat} (hr : HRel P w Imm β H Prot) : ∀ {args : List AV} {vs : List PV} {cargs : List Value}, mapO (purR H n) args = some vs → refsLtl (InH H) args → AVVl P w Imm β H args cargs → PVVl P w (ImmAll Imm β H) vs cargs
  | [], vs, cargs, h, _, hv => by
    simp [mapO] at h
    subst h
    simp only [AVVl] at hv
    simpa [PVVl] using hv
  | a :: args, vs, cargs, h, hre, hv => by
    simp only [mapO] at h
    split at h
    case h_2 => simp at h
    rename_i y ys h1 h2
    simp at h
    subst h
    simp only [AVVl] at hv
    obtain ⟨z, zs, rfl, k1, k2⟩ := hv
    simp only [refsLtl] at hre
    simp only [PVVl]
    exact ⟨z, zs, rfl, purR_sound hr n a y h1 hre.1 z k1, purl_val hr h2 hre.2 k2⟩
theorem GoodC.eat {f : FuncId} {vs : List PV} {v : PV} {H : Heap} {args : List AV} (n : Nat) (h : GoodC P f vs v) (hE : Enters P f) (ha : Purl H n args vs) (hl : ∀ (b : Nat) (L : LoopA), H[b]? ≠ some (.loop L)) : GoodI P f H args (deads H.length) (.p v) := by
  obtain ⟨ps, h1, h2⟩ := purl_ok n (fun x v h => pur_ok n x v h) args vs ha
  refine ⟨hE, fun w Imm Prot β cargs hrel hargs hargr => ?_⟩
  have p2 : PVVl P w (ImmK (fun _ => true) Imm β H) ps cargs := PVVl.mono (by
    rintro k (hk | ⟨b, o, g1, g2, rfl⟩)
    · exact .inl hk
    · exact .inr ⟨b, o, g1, g2, rfl, rfl⟩) (fun _ _ => rfl) _ _ (purl_val hrel h1 hargr hargs)
  have p1 : Post P Prot Imm w β H (ImmK (fun _ => true) Imm β H) w β (killH (fun _ => true) H) := by
    refine ⟨fun k hk => .inl hk, ?_, (Post.refl hrel).ext, killH_step, hrel.killImm _, fun x hx => killH_in hx, ?_⟩
    · rintro k (hk | ⟨b, o, g1, g2, g3, rfl⟩)
      · exact .inl hk
      · exact (hrel.objs b o g1).held g2
    · rintro b ⟨L, hL⟩
      exact (hl b L hL).elim
  rw [← killH_all]
  rcases h.weak h2 (Wk.refl _) with hG | hX
  · intro cs
    obtain ⟨e, w', fr', ⟨cv, Imm', he, m1, m2, m3, m4, m5, m6, m7⟩, hst, hfn', hlv⟩ := hG.2 w _ _ p1.rel.imm p1.rel.glob p2 cs
    subst he
    exact ⟨_, w', fr', ⟨cv, β, Imm', rfl, p1.trans (p1.rel.later m1 m2 m3 m4 m5 m6), by simpa [AVV] using m7, by simp [refsLt]⟩, hst, hfn', hlv⟩
  · obtain ⟨cv, h2, _⟩ := hX w _ _ p2
    rw [hE] at h2
    cases h2
end
end Go.Abs
namespace Go.Abs
open Go.Proofs Go.Proofs.YthckccalfpnmaaaGreatDoor
set_option maxRecDepth 100000
section
variable {H : Type} {W : World} {Imm : Nat → Prop}
theorem str_arg' {n : Nat} {d : DataW H} (h : ∃ cs, PVC Tryz.prog W Imm (toPV Tryz.prog (n + 1) 9 d) cs) (hb : Rows.uptoBulk d ≤ 1048576) : ∃ s : List Nat, toPV Tryz.prog (n + 1) 9 d = .str s ∧ s.length ≤ 1048576 ∧ ∀ c ∈ s, c < 256 := by
  obtain ⟨cs, h⟩ := h
  cases d with
  | lit l =>
    cases l with
    | string bytes =>
      refine ⟨bytes.map (·.toNat), by simp only [toPV, un9], ?_, ?_⟩
      · rw [Rows.uptoBulk] at hb
        rw [List.length_map]; omega
      · intro c hc
        obtain ⟨u, _, rfl⟩ := List.mem_map.1 hc
        exact u.toNat_lt
    | _ => simp only [toPV, un9, PVC] at h
  | _ => simp only [toPV, un9, PVC] at h
theorem str_arg {d : DataW H} (h : ∃ cs, PVC Tryz.prog W Imm (toPV Tryz.prog 8 9 d) cs) (hb : Rows.uptoBulk d ≤ 1048576) : ∃ s : List Nat, toPV Tryz.prog 8 9 d = .str s ∧ s.length ≤ 1048576 ∧ ∀ c ∈ s, c < 256 :=
  str_arg' (n := 7) h hb
end
end Go.Abs
namespace Go.Abs
open Go.Proofs
set_option maxHeartbeats 4000000
set_option maxRecDepth 100000
theorem dec_iff {p q : Prop} [Decidable p] [Decidable q] (h : p ↔ q) : decide p = decide q := by simp [h]
theorem beq_drop {α : Type} [DecidableEq α] {a b : List α} {i : Nat} (ha : i < a.length) (hb : i < b.length) : decide (a.drop i = b.drop i) = (decide (a[i] = b[i]) && decide (a.drop (i + 1) = b.drop (i + 1))) := by
  rw [List.drop_eq_getElem_cons ha, List.drop_eq_getElem_cons hb, dec_iff List.cons_eq_cons, Bool.decide_and]
theorem len_ne {α : Type} {a b : List α} (h : a.length ≠ b.length) : a ≠ b := fun e => h (by rw [e])
theorem c_sameInts (a b : List Int) (ha : a.length ≤ 1048576) (hb : b.length ≤ 1048576) : GoodC Tryz.prog 115 [.seq (a.map (.int .i64)), .seq (b.map (.int .i64))] (.bool (decide (a = b))) := by
  refine good_fn nf isF115 mix (by simp [Tryz.f115]) ?_
  by_cases hl : a.length = b.length
  · have hl' : (a.length : Int) = b.length := by omega
    simp [Tryz.f115, hl']
    refine lp (α := Nat) (fun i => ⟨[(5, .p (.int .i64 i)), (1, .p (.seq (b.map (.int .i64)))), (0, .p (.seq (a.map (.int .i64))))], []⟩) (fun i => i ≤ a.length ∧ decide (a = b) = decide (a.drop i = b.drop i)) (fun i => a.length - i) 0 (by simp) ?_
    rintro i ⟨k1, k2⟩
    by_cases hi : i < a.length
    · have hi' : i < b.length := by omega
      rw [beq_drop hi hi'] at k2
      have hw := wi1 (i := i) (by omega)
      by_cases he : a[i] = b[i]
      · rw [decide_eq_true he, Bool.true_and] at k2
        simp [hi, hi', he, hw]
        exact rd (i + 1) ⟨hi, k2⟩
      · rw [decide_eq_false he, Bool.false_and] at k2
        rw [k2]
        simp [hi, hi', he]
    · have : i = a.length := by omega
      subst this
      have k3 : decide (a = b) = true := by rw [k2, List.drop_length, hl, List.drop_length]; rfl
      rw [k3]
      simp
  · have hl' : ¬ (a.length : Int) = b.length := by omega
    rw [decide_eq_false (len_ne hl)]
    simp [Tryz.f115, hl']
def rowB (r : RowD) : Prop := r.key.length ≤ 1048576 ∧ r.vals.length ≤ 1048576
def rowsB (l : List RowD) : Prop := l.length ≤ 1048576 ∧ ∀ r ∈ l, rowB r
def editB (e : EditD) : Prop := e.kind.length ≤ 1048576 ∧ rowB e.row
def editsB (l : List EditD) : Prop := l.length ≤ 1048576 ∧ ∀ e ∈ l, editB e
end Go.Abs
namespace Go.Abs
open Go.Proofs
def cst : List RowD → List RowD → Nat
  | [], b => b.length
  | x :: a, [] => a.length + 1
  | x :: a, y :: b => if x = y then min (1 + min (cst a (y :: b)) (cst (x :: a) b)) (cst a b) else 1 + min (cst a (y :: b)) (cst (x :: a) b)
  termination_by a b => a.length + b.length
def costC (a b : List RowD) (i k : Nat) : Int := cst (a.drop i) (b.drop k)
section table
variable (a b : List RowD)
def fullR (i : Nat) : List AV := (List.range (b.length + 1)).map fun k => .p (.int .i64 (costC a b i k))
def partR (i t : Nat) : List AV := (List.range (b.length + 1)).map fun k => .p (.int .i64 (if b.length + 1 ≤ k + t then costC a b i k else 0))
def outR (j : Nat) : List AV := (List.range (a.length + 1)).map fun p => if a.length + 1 ≤ p + j then .sl (a.length + 1 - p) 0 1 0 (b.length + 1) else .p .nsl
def rowsR (j : Nat) : Heap := (List.range j).map fun t => .arr .exact 0 1 (fullR a b (a.length - t))
def tabG (j : Nat) : Heap := .arr .exact 0 1 (outR a b j) :: rowsR a b j
def tabH (j : Nat) (cells : List AV) : Heap := .arr .exact 0 1 (outR a b (j + 1)) :: (rowsR a b j ++ [.arr .exact 0 1 cells])
variable {a b}
def tabN (a b : List RowD) (j : Nat) : Heap := tabG a b j ++ [.arr .exact 0 1 (List.replicate (b.length + 1) (.p (.int .i64 0)))]
end table
end Go.Abs
namespace Go.Abs
open Go.Proofs
def diffS : List RowD → List RowD → List EditD
  | [], [] => []
  | [], y :: b => ⟨kAdd, y⟩ :: diffS [] b
  | x :: a, [] => ⟨kDrop, x⟩ :: diffS a []
  | x :: a, y :: b =>
    if x = y ∧ cst (x :: a) (y :: b) = cst a b then ⟨kKeep, x⟩ :: diffS a b
    else if cst (x :: a) (y :: b) = 1 + cst a (y :: b) then ⟨kDrop, x⟩ :: diffS a (y :: b)
    else ⟨kAdd, y⟩ :: diffS (x :: a) b
  termination_by a b => a.length + b.length
section steps
variable {a b : List RowD} {i k : Nat}
end steps
end Go.Abs
namespace Go.Abs
open Go.Proofs
set_option maxHeartbeats 4000000
set_option maxRecDepth 100000
def rowL (a b : List RowD) (i : Nat) : List PV := (List.range (b.length + 1)).map fun k => .int .i64 (costC a b i k)
def tblL (a b : List RowD) : List PV := (List.range (a.length + 1)).map fun i => .seq (rowL a b i)
def tabPV (a b : List RowD) : PV := .seq (tblL a b)
end Go.Abs
namespace Go.Abs
open Go.Proofs
section table
variable {a b : List RowD}
def tabE (a b : List RowD) (l : List EditD) : Heap := tabG a b (a.length + 1) ++ [.arr .grow l.length 3 (l.map fun e => .p (eEdit e))]
end table
end Go.Abs
namespace Go.Abs
open Go.Proofs
set_option maxHeartbeats 4000000
theorem c_first (es : List Int) (h : es.length ≤ 1048576) : GoodC Tryz.prog 94 [.seq (es.map (.int .i64))] (.int .i64 (firstE es)) := by
  refine good_fn nf isF94 mix (by simp [Tryz.f94]) ?_
  simp [Tryz.f94]
  refine lp (α := Nat) (fun i => ⟨[(7, .p (.int .i64 i)), (6, .p (.int .i64 es.length)), (5, .p (.seq (es.map (.int .i64))))], []⟩) (fun i => i ≤ es.length ∧ firstE (es.drop i) = firstE es) (fun i => es.length - i) 0 (by simp) ?_
  rintro i ⟨h1, h2⟩
  simp
  by_cases hi : i < es.length
  · rw [List.drop_eq_getElem_cons hi] at h2
    have hw := wi1 (i := i) (by omega)
    simp [hi]
    by_cases he : es[i] = 0
    · simp [firstE, he] at h2
      simp [he, hw]
      exact rd (i + 1) ⟨hi, h2⟩
    · simp [firstE, he] at h2
      simp [he, ← h2]
  · have : i = es.length := by omega
    subst this
    simp [firstE] at h2
    simp [← h2]
theorem c_lfirst (es : List Int) (h : es.length ≤ 1048576) : GoodC Tryz.prog 26 [.seq (es.map (.int .i64))] (.int .i64 (firstE es)) := by
  refine good_fn nf isF26 mix (by simp [Tryz.f26]) ?_
  simp [Tryz.f26]
  refine lp (α := Nat) (fun i => ⟨[(7, .p (.int .i64 i)), (6, .p (.int .i64 es.length)), (5, .p (.seq (es.map (.int .i64))))], []⟩) (fun i => i ≤ es.length ∧ firstE (es.drop i) = firstE es) (fun i => es.length - i) 0 (by simp) ?_
  rintro i ⟨h1, h2⟩
  simp
  by_cases hi : i < es.length
  · rw [List.drop_eq_getElem_cons hi] at h2
    have hw := wi1 (i := i) (by omega)
    simp [hi]
    by_cases he : es[i] = 0
    · simp [firstE, he] at h2
      simp [he, hw]
      exact rd (i + 1) ⟨hi, h2⟩
    · simp [firstE, he] at h2
      simp [he, ← h2]
  · have : i = es.length := by omega
    subst this
    simp [firstE] at h2
    simp [← h2]
theorem c_when (b : Bool) (e : Int) : GoodC Tryz.prog 102 [.bool b, .int .i64 e] (.int .i64 (whenE b e)) := by
  refine good_fn nf isF102 mix (by simp [Tryz.f102]) ?_
  cases b <;> simp [Tryz.f102, whenE]
theorem c_lwhen (b : Bool) (e : Int) : GoodC Tryz.prog 39 [.bool b, .int .i64 e] (.int .i64 (whenE b e)) := by
  refine good_fn nf isF39 mix (by simp [Tryz.f39]) ?_
  cases b <;> simp [Tryz.f39, whenE]
theorem cls (c : Int) : (97 ≤ c ∧ c ≤ 122) ∨ (¬ 97 ≤ c ∧ 65 ≤ c ∧ c ≤ 90) ∨ (¬ 97 ≤ c ∧ ¬ 65 ≤ c ∧ ¬ 48 ≤ c ∧ ¬ c = 95) ∨ (¬ 97 ≤ c ∧ ¬ 65 ≤ c ∧ 48 ≤ c ∧ c ≤ 57 ∧ ¬ c = 95) ∨ (¬ 97 ≤ c ∧ ¬ 65 ≤ c ∧ 48 ≤ c ∧ ¬ c ≤ 57 ∧ ¬ c = 95) ∨
    (¬ 97 ≤ c ∧ 65 ≤ c ∧ ¬ c ≤ 90 ∧ 48 ≤ c ∧ ¬ c ≤ 57 ∧ c = 95) ∨ (¬ 97 ≤ c ∧ 65 ≤ c ∧ ¬ c ≤ 90 ∧ 48 ≤ c ∧ ¬ c ≤ 57 ∧ ¬ c = 95) ∨ (97 ≤ c ∧ ¬ c ≤ 122 ∧ 65 ≤ c ∧ ¬ c ≤ 90 ∧ 48 ≤ c ∧ ¬ c ≤ 57 ∧ ¬ c = 95) := by omega
theorem c_isLetter (c : Int) : GoodC Tryz.prog 233 [.int .i32 c] (.bool (isLet c)) := by
  refine good_fn nf isF233 mix (by simp [Tryz.f233]) ?_
  rcases cls c with ⟨a, b⟩ | ⟨a, b, d⟩ | ⟨a, b, d, e⟩ | ⟨a, b, d, e, f⟩ | ⟨a, b, d, e, f⟩ | ⟨a, b, d, e, f, g⟩ | ⟨a, b, d, e, f, g⟩ | ⟨a, b, d, e, f, g, h⟩ <;> simp [Tryz.f233, isLet, *]
theorem okN_drop {s : List Nat} {i : Nat} (hi : i < s.length) : okN i (s.drop i) = ((isLet s[i] || (decide (i ≠ 0) && (isDig s[i] || decide ((s[i] : Int) = 95)))) && okN (i + 1) (s.drop (i + 1))) := by
  rw [List.drop_eq_getElem_cons hi, okN]
theorem c_refIsName (s : List Nat) (h : s.length ≤ 1048576) : GoodC Tryz.prog 87 [.str s] (.bool (isName s)) := by
  refine good_fn nf isF87 mix (by simp [Tryz.f87]) ?_
  rcases lt_cases s.length 1 with ⟨g1, g1'⟩ | ⟨g1, g1'⟩
  · have : s.length = 0 := by omega
    simp [Tryz.f87, g1, isName, this]
  rcases lt_cases 24 s.length with ⟨g2, g2'⟩ | ⟨g2, g2'⟩
  · have : ¬ s.length ≤ 24 := by omega
    simp [Tryz.f87, g1, g2, isName, this]
  simp [Tryz.f87, g1, g2]
  have e0 : isName s = okN 0 s := by simp [isName]; omega
  refine lp (α := Nat) (fun i => ⟨[(3, .p (.int .i64 i)), (0, .p (.str s))], []⟩) (fun i => i ≤ s.length ∧ isName s = okN i (s.drop i)) (fun i => s.length - i) 0 (by simp [e0]) ?_
  rintro i ⟨k1, k2⟩
  by_cases hi : i < s.length
  · rw [okN_drop hi] at k2
    have hw := wi1 (i := i) (by omega)
    generalize hc : (s[i] : Int) = c at *
    by_cases h0 : i = 0
    · subst h0
      have hw1 : IntKind.i64.wrap 1 = 1 := wi64 1 (by omega) (by omega)
      rcases cls c with ⟨a, b⟩ | ⟨a, b, d⟩ | ⟨a, b, d, e⟩ | ⟨a, b, d, e, f⟩ | ⟨a, b, d, e, f⟩ | ⟨a, b, d, e, f, g⟩ | ⟨a, b, d, e, f, g⟩ | ⟨a, b, d, e, f, g, h⟩
      · simp [isLet, a, b] at k2
        simp [hi, hc, a, b, hw1]
        exact rd 1 ⟨hi, by simpa using k2⟩
      · simp [isLet, a, b, d] at k2
        simp [hi, hc, a, b, d, hw1]
        exact rd 1 ⟨hi, by simpa using k2⟩
      all_goals
        simp [isLet, *] at k2
        simp [hi, hc, *]
    · rcases cls c with ⟨a, b⟩ | ⟨a, b, d⟩ | ⟨a, b, d, e⟩ | ⟨a, b, d, e, f⟩ | ⟨a, b, d, e, f⟩ | ⟨a, b, d, e, f, g⟩ | ⟨a, b, d, e, f, g⟩ | ⟨a, b, d, e, f, g, h⟩
      · simp [isLet, a, b] at k2
        simp [hi, hc, a, b, hw]
        exact rd (i + 1) ⟨hi, k2⟩
      · simp [isLet, a, b, d] at k2
        simp [hi, hc, a, b, d, hw]
        exact rd (i + 1) ⟨hi, k2⟩
      · simp [isLet, isDig, a, b, d, e] at k2
        simp [hi, hc, h0, a, b, d, e, k2]
      · simp [isLet, isDig, a, b, d, e, h0] at k2
        simp [hi, hc, h0, a, b, d, e, hw]
        exact rd (i + 1) ⟨hi, k2⟩
      · simp [isLet, isDig, a, b, d, e, f] at k2
        simp [hi, hc, h0, a, b, d, e, f, k2]
      · subst g
        simp [isLet, isDig, h0] at k2
        simp [hi, hc, h0, hw]
        exact rd (i + 1) ⟨hi, k2⟩
      · simp [isLet, isDig, a, b, d, e, f, g] at k2
        simp [hi, hc, h0, a, b, d, e, f, g, k2]
      · simp [isLet, isDig, a, b, d, e, f, g, h] at k2
        simp [hi, hc, h0, a, b, d, e, f, g, h, k2]
  · have : i = s.length := by omega
    subst this
    simp [okN] at k2
    simp [k2]
end Go.Abs
namespace Go.Abs
open Go.Proofs
set_option maxHeartbeats 4000000
theorem toBA_size (s : List Nat) : (toBA s).size = s.length := by
  show (s.map UInt8.ofNat).toArray.size = _
  simp
theorem toBA_get (s : List Nat) (hb : ∀ c ∈ s, c < 256) (i : Nat) (h : i < s.length) (h' : i < (toBA s).size) : ((toBA s)[i]'h').toNat = s[i] := by
  have e : (toBA s)[i]'h' = UInt8.ofNat s[i] := by
    have : (toBA s)[i]'h' = (s.map UInt8.ofNat).toArray[i]'(by simpa using h) := rfl
    rw [this]; simp
  rw [e]
  have := hb s[i] (List.getElem_mem h)
  simp; omega
theorem dec_lo {s : List Nat} (hb : ∀ c ∈ s, c < 256) {i : Nat} (h : i < s.length) (ha : s[i] < 128) : Utf8.decode (toBA s) i = (s[i], 1) := by
  have h' : i < (toBA s).size := by rw [toBA_size]; exact h
  have e := toBA_get s hb i h h'
  rw [decode_ascii (toBA s) i h' (by rw [e]; exact ha), e]
theorem dec_hi {s : List Nat} (hb : ∀ c ∈ s, c < 256) {i : Nat} (h : i < s.length) (ha : ¬ s[i] < 128) : 128 ≤ (Utf8.decode (toBA s) i).1 ∧ 1 ≤ (Utf8.decode (toBA s) i).2 := by
  have h' : i < (toBA s).size := by rw [toBA_size]; exact h
  have e := toBA_get s hb i h h'
  exact decode_high (toBA s) i h' (by rw [e]; omega)
theorem c_isName (s : List Nat) (h : s.length ≤ 1048576) : GoodC Tryz.prog 178 [.str s] (.bool (isName s)) := by
  refine good_str fun hb => ?_
  have hb : ∀ c ∈ s, c < 256 := by simpa [strOkl, strOk] using hb
  refine good_fn nf isF178 mix (by simp [Tryz.f178]) ?_
  simp [Tryz.f178]
  refine lp (α := Nat) (fun i => ⟨[(6, .ptr 0 []), (0, .p (.str s))], [.siter s i]⟩) (fun i => i ≤ s.length ∧ okN 0 s = okN i (s.drop i)) (fun i => s.length - i) 0 (by simp) ?_
  rintro i ⟨k1, k2⟩
  by_cases hi : i < s.length
  · rw [okN_drop hi] at k2
    by_cases ha : s[i] < 128
    · have hd := dec_lo hb hi ha
      simp [hi, hd]
      refine c1 (c_isLetter _) ?_
      generalize hc : (s[i] : Int) = c at *
      by_cases h0 : i = 0
      · rcases cls c with ⟨a, b⟩ | ⟨a, b, d⟩ | ⟨a, b, d, e⟩ | ⟨a, b, d, e, f⟩ | ⟨a, b, d, e, f⟩ | ⟨a, b, d, e, f, g⟩ | ⟨a, b, d, e, f, g⟩ | ⟨a, b, d, e, f, g, h⟩
        · simp [isLet, a, b] at k2
          simp [isLet, a, b]
          exact rd (i + 1) ⟨hi, k2⟩
        · simp [isLet, a, b, d] at k2
          simp [isLet, a, b, d]
          exact rd (i + 1) ⟨hi, k2⟩
        all_goals
          simp [isLet, isName, *] at k2
          simp [isLet, isName, *]
      · rcases cls c with ⟨a, b⟩ | ⟨a, b, d⟩ | ⟨a, b, d, e⟩ | ⟨a, b, d, e, f⟩ | ⟨a, b, d, e, f⟩ | ⟨a, b, d, e, f, g⟩ | ⟨a, b, d, e, f, g⟩ | ⟨a, b, d, e, f, g, h⟩
        · simp [isLet, a, b] at k2
          simp [isLet, a, b]
          exact rd (i + 1) ⟨hi, k2⟩
        · simp [isLet, a, b, d] at k2
          simp [isLet, a, b, d]
          exact rd (i + 1) ⟨hi, k2⟩
        · simp [isLet, isDig, a, b, d, e] at k2
          have d2 : c < 48 := by omega
          simp [isLet, isName, a, b, e, h0, d2, k2]
        · simp [isLet, isDig, a, b, d, e, f, h0] at k2
          have d2 : ¬ c < 48 := by omega
          have e2 : ¬ 57 < c := by omega
          simp [isLet, a, b, d2, e2, f, h0]
          exact rd (i + 1) ⟨hi, k2⟩
        · simp [isLet, isDig, a, b, d, e, f] at k2
          have d2 : ¬ c < 48 := by omega
          have e2 : 57 < c := by omega
          simp [isLet, isName, a, b, d2, e2, f, h0, k2]
        · subst g
          simp [isLet, isDig, h0] at k2
          simp [isLet, h0]
          exact rd (i + 1) ⟨hi, k2⟩
        · simp [isLet, isDig, a, b, d, e, f, g] at k2
          have d2 : ¬ c < 48 := by omega
          have e2 : 57 < c := by omega
          simp [isLet, isName, a, b, d, d2, e2, g, h0, k2]
        · simp [isLet, isDig, a, b, d, e, f, g, h] at k2
          have d2 : ¬ c < 48 := by omega
          have e2 : 57 < c := by omega
          simp [isLet, isName, a, b, d, e, d2, e2, h, h0, k2]
    · obtain ⟨hd, _⟩ := dec_hi hb hi ha
      have hl : isLet (s[i] : Int) = false := by simp [isLet]; omega
      have hg : isDig (s[i] : Int) = false := by simp [isDig]; omega
      have h95 : ¬ (s[i] : Int) = 95 := by omega
      simp [hl, hg, h95] at k2
      rcases hdd : Utf8.decode (toBA s) i with ⟨c, d⟩
      rw [hdd] at hd
      have hl2 : isLet (c : Int) = false := by simp [isLet]; omega
      have h1 : ¬ (c : Int) = 95 := by omega
      have h2 : ¬ (c : Int) < 48 := by omega
      have h3 : 57 < (c : Int) := by omega
      simp [hi, hdd]
      refine c1 (c_isLetter _) ?_
      by_cases h0 : i = 0
      · simp [hl2, h0, isName, k2]
      · simp [hl2, h0, h1, h2, h3, isName, k2]
  · have : i = s.length := by omega
    subst this
    simp [okN] at k2
    cases hs : s with
    | nil => simp [isName]
    | cons a r =>
      rw [hs] at k2
      rcases lt_cases 24 s.length with ⟨g, g'⟩ | ⟨g, g'⟩
      · rw [hs] at g g'
        have : ¬ (r.length + 1) ≤ 24 := by simp at g; omega
        simp at g'
        simp [isName, k2, this]
        omega
      · rw [hs] at g g'
        have : (r.length + 1) ≤ 24 := by simp at g'; omega
        simp at g'
        simp [isName, k2, this]
        omega
end Go.Abs
namespace Go.Abs
open Go.Proofs
set_option maxHeartbeats 4000000
set_option maxRecDepth 100000
theorem c_named (s : List Nat) (h : s.length ≤ 1048576) : GoodC Tryz.prog 95 [.str s] (.int .i64 (whenE (!isName s) 8)) := by
  refine good_fn nf isF95 mix (by simp [Tryz.f95]) ?_
  simp [Tryz.f95]
  refine c1 (c_isName s h) ?_
  simp
  refine c2 (c_when _ _) ?_
  simp
theorem c_out (n lo hi : Int) : GoodC Tryz.prog 122 [.int .i64 n, .int .i64 lo, .int .i64 hi] (.bool (decide (n < lo) || decide (n > hi))) := by
  refine good_fn nf isF122 mix (by simp [Tryz.f122]) ?_
  by_cases h1 : n < lo <;> by_cases h2 : hi < n <;> simp [Tryz.f122, h1, h2]
def idxFrom {α : Type} (p : α → Bool) : List α → Nat → Int
  | [], _ => -1
  | x :: r, i => if p x then (i : Int) else idxFrom p r (i + 1)
end Go.Abs
namespace Go.Abs
open Go.Proofs
set_option maxHeartbeats 4000000
set_option maxRecDepth 100000
def keyIs (k : List Nat) (r : RowD) : Bool := decide (r.key = k)
end Go.Abs
namespace Go.Abs
open Go.Proofs
set_option maxHeartbeats 4000000
set_option maxRecDepth 100000
def seenE (ks : List (List Nat)) : List (PV × PV) := ks.map fun k => (.str k, .bool true)
end Go.Abs
namespace Go.Abs
open Go.Proofs
set_option maxHeartbeats 4000000
set_option maxRecDepth 100000
theorem shp_map {α : Type} {sz : Nat} {f : α → AV} {l : List α} (h : ∀ x, shpA (f x) ≠ .bad ∧ shpSize Tryz.prog (shpA (f x)) = sz) : allShp Tryz.prog sz (l.map f) := by
  rw [allShp_iff]; intro v hv; simp only [List.mem_map] at hv; obtain ⟨x, _, rfl⟩ := hv; exact h x
def invK (k : List Nat) : List Nat := if k = kAdd then kDrop else if k = kDrop then kAdd else k
def inv (e : EditD) : EditD := ⟨invK e.kind, e.row⟩
def invertS (l : List EditD) : List EditD := if chkEdits l = 0 then l.map inv else []
end Go.Abs
namespace Go.Abs
open Go.Proofs
set_option maxHeartbeats 4000000
set_option maxRecDepth 100000
@[simp] theorem allP_mapc {α : Type} {f : α → PV} : ∀ {l : List α}, allP (l.map fun x => .p (f x)) = some (l.map f)
  | [] => rfl
  | a :: l => by simp [allP, allP_mapc (l := l)]
def patchGo : List RowD → List RowD → List EditD → Option (List RowD × List RowD)
  | rest, out, [] => some (rest, out)
  | rest, out, e :: l =>
    if e.kind = kAdd then patchGo rest (out ++ [e.row]) l
    else match rest with
      | r :: rs => if r = e.row then patchGo rs (if e.kind = kDrop then out else out ++ [e.row]) l else none
      | [] => none
def patchEnd : Option (List RowD × List RowD) → List RowD × Int
  | none => ([], 29)
  | some (rest, out) => if rest ≠ [] then ([], 24) else if chkRows out ≠ 0 then ([], chkRows out) else (out, 0)
def patchC (a : List RowD) (l : List EditD) : List RowD × Int := patchEnd (patchGo a [] l)
def patchS (a : List RowD) (l : List EditD) : List RowD × Int := if firstE [chkRows a, chkEdits l] ≠ 0 then ([], firstE [chkRows a, chkEdits l]) else patchC a l
end Go.Abs
namespace Go.Abs
open Go.Proofs
def okRow (r : RowD) : Prop := isName r.key = true ∧ chkVals r.vals = 0
inductive Leads : List RowD → List EditD → List RowD → Nat → Prop
  | nil : Leads [] [] [] 0
  | keep {a l b n} (r : RowD) (h : Leads a l b n) : Leads (r :: a) (⟨kKeep, r⟩ :: l) (r :: b) n
  | drop {a l b n} (r : RowD) (h : Leads a l b n) : Leads (r :: a) (⟨kDrop, r⟩ :: l) b (n + 1)
  | add {a l b n} (r : RowD) (h : Leads a l b n) : Leads a (⟨kAdd, r⟩ :: l) (r :: b) (n + 1)
theorem Leads.inv {a l b n} (h : Leads a l b n) : Leads b (l.map inv) a n := by
  induction h with
  | nil => exact .nil
  | keep r h ih => simpa [Go.Abs.inv, invK, kKeep, kAdd, kDrop] using Leads.keep r ih
  | drop r h ih => simpa [Go.Abs.inv, invK, kAdd, kDrop] using Leads.add r ih
  | add r h ih => simpa [Go.Abs.inv, invK, kAdd, kDrop] using Leads.drop r ih
def costE : List EditD → Nat
  | [] => 0
  | e :: l => (if e.kind = kKeep then 0 else 1) + costE l
end Go.Abs
namespace Go.Abs
open Go.Proofs
def look : List RowD → List Nat → Option (List Int)
  | [], _ => none
  | r :: l, k => if r.key = k then some r.vals else look l k
def keysOf (l : List RowD) : List (List Nat) := l.map (·.key)
def agreeS (a b : List RowD) (k : List Nat) : Bool := decide (look a k = look b k)
def allK (a b : List RowD) : List (List Nat) := keysOf a ++ (keysOf b).filter fun k => !(keysOf a).contains k
def srcS (base a b : List RowD) (k : List Nat) : List RowD := if look a k ≠ look b k ∧ look a k = look base k then b else a
def confS (base a b : List RowD) (k : List Nat) : Bool := decide (look a k ≠ look b k ∧ look a k ≠ look base k ∧ look b k ≠ look base k)
def rowAt (l : List RowD) (k : List Nat) : Option RowD := (look l k).map fun v => ⟨k, v⟩
def outS (base a b : List RowD) : List RowD := (allK a b).filterMap fun k => rowAt (srcS base a b k) k
def sLess : List Nat → List Nat → Bool
  | _, [] => false
  | [], _ :: _ => true
  | a :: x, b :: y => decide (a < b) || (a == b && sLess x y)
def insS : List (List Nat) → List Nat → List (List Nat)
  | [], k => [k]
  | x :: l, k => if sLess x k then x :: insS l k else k :: x :: l
def Asc (l : List (List Nat)) : Prop := l.Pairwise fun x y => sLess y x = false
def sortS (l : List (List Nat)) : List (List Nat) := l.foldl insS []
end Go.Abs
namespace Go.Abs
open Go.Proofs
section merge
variable {base a b : List RowD}
def confL (base a b : List RowD) : List (List Nat) := sortS ((allK a b).filter (confS base a b))
end merge
end Go.Abs
namespace Go.Abs
open Go.Proofs
set_option maxHeartbeats 4000000
set_option maxRecDepth 100000
structure BookD where
  name : List Nat
  rows : List RowD
  deriving DecidableEq
def eBook (b : BookD) : PV := .st 23 [.str b.name, .seq (b.rows.map eRow)]
def rBook (b : BookD) : PV := .st 26 [.str b.name, .seq (b.rows.map eRow)]
def bookB (b : BookD) : Prop := b.name.length ≤ 1048576 ∧ rowsB b.rows
def chkBook (b : BookD) : Int := firstE [whenE (!isName b.name) 8, chkRows b.rows]
def shortBook (b : BookD) (n : Nat) : Bool := decide (b.name.length ≤ 60) && shortRows b.rows n
def eWs (l : List (List Nat)) : PV := .seq (l.map .str)
theorem c_sameWords (a b : List (List Nat)) (ha : a.length ≤ 1048576) (hb : b.length ≤ 1048576) : GoodC Tryz.prog 28 [.seq (a.map .str), .seq (b.map .str)] (.bool (decide (a = b))) := by
  refine good_fn nf isF28 mix (by simp [Tryz.f28]) ?_
  by_cases hl : a.length = b.length
  case neg =>
    have hl' : ¬ (a.length : Int) = b.length := by omega
    simp [Tryz.f28, hl, hl', len_ne hl]
  have hl' : (a.length : Int) = b.length := by omega
  simp [Tryz.f28, hl, hl']
  refine lp (α := Nat) (fun i => ⟨[(5, .p (.int .i64 i)), (1, .p (.seq (b.map .str))), (0, .p (.seq (a.map .str)))], []⟩) (fun i => i ≤ a.length ∧ decide (a.drop i = b.drop i) = decide (a = b)) (fun i => a.length - i) 0 (by simp) ?_
  rintro i ⟨k1, k2⟩
  by_cases hi : i < a.length
  · have hib : i < b.length := by omega
    rw [beq_drop hi hib] at k2
    have hw := wi1 (i := i) (by omega)
    by_cases he : a[i] = b[i]
    · simp [he] at k2
      simp [hi, hib, he, hw]
      exact rd (i + 1) ⟨hi, by simpa using k2⟩
    · simp [he] at k2
      simp [hi, hib, he, k2]
  · have : i = a.length := by omega
    subst this
    have hb0 : b.drop a.length = [] := List.drop_eq_nil_of_le (by omega)
    simp [hb0] at k2
    simp [k2]
end Go.Abs
namespace Go.Abs
def splAux (c : Nat) : List Nat → List Nat → List (List Nat)
  | cur, [] => [cur]
  | cur, x :: s => if x = c then cur :: splAux c [] s else splAux c (cur ++ [x]) s
def spl (c : Nat) (s : List Nat) : List (List Nat) := splAux c [] s
def decV (a c : Nat) : Nat := a * 10 + (c - 48)
def valsT (l : List Int) : List Nat := joinN [44] (l.map itoaN)
end Go.Abs
namespace Go.Abs
open Go.Proofs
set_option maxHeartbeats 4000000
set_option maxRecDepth 100000
theorem goodP_seq {P : Program} {f : FuncId} {pre post es : List PV} {v : PV} (h1 : es = [] → GoodP P f (pre ++ .nsl :: post) v) (h2 : GoodP P f (pre ++ .lst false es :: post) v) : GoodP P f (pre ++ .seq es :: post) v := by
  have split : ∀ {w : World} {Imm : Nat → Prop} {xs : List Value} {pre : List PV}, PVVl P w Imm (pre ++ .seq es :: post) xs → (es = [] ∧ PVVl P w Imm (pre ++ .nsl :: post) xs) ∨ PVVl P w Imm (pre ++ .lst false es :: post) xs := by
    intro w Imm xs pre
    induction pre generalizing xs with
    | nil =>
      intro h
      simp only [List.nil_append, PVVl] at h ⊢
      obtain ⟨y, ys, e, h1, h2⟩ := h
      rcases PVV_seq.1 h1 with ⟨h0, h⟩ | h
      · exact .inl ⟨h0, y, ys, e, h, h2⟩
      · exact .inr ⟨y, ys, e, h, h2⟩
    | cons p pre ih =>
      intro h
      simp only [List.cons_append, PVVl] at h ⊢
      obtain ⟨y, ys, e, h1, h2⟩ := h
      rcases ih h2 with ⟨h0, h⟩ | h
      · exact .inl ⟨h0, y, ys, e, h1, h⟩
      · exact .inr ⟨y, ys, e, h1, h⟩
  refine ⟨h2.1, fun w Imm cargs k1 k2 k3 => ?_⟩
  rcases split k3 with ⟨h0, h⟩ | h
  · exact (h1 h0).2 w Imm cargs k1 k2 h
  · exact h2.2 w Imm cargs k1 k2 h
theorem goodP_of_C {P : Program} {f : FuncId} {args : List PV} {v : PV} (he : Enters P f) (h : GoodC P f args v) : GoodP P f args v := by
  rcases h with h | h
  · exact h
  · refine ⟨he, fun w Imm cargs _ _ ha => ?_⟩
    obtain ⟨cv, k1, _⟩ := h w Imm cargs ha
    rw [he cargs.toArray w] at k1
    cases k1
theorem c_join (l : List (List Nat)) (sep : List Nat) (hl : l.length ≤ 1048576) (hj : (joinN sep l).length ≤ 140737488355328) : GoodC Tryz.prog 159 [.seq (l.map .str), .str sep] (.str (joinN sep l)) :=
  .inl (goodP_seq (pre := []) (post := [.str sep]) (fun h => by
    have : l = [] := by simpa using h
    subst this
    exact goodP_of_C isF159.enters (h159n sep)) (goodP_of_C isF159.enters (h159 false l sep (by omega) hj)))
def inI (n : Int) : Prop := -9223372036854775808 ≤ n ∧ n ≤ 9223372036854775807
theorem c_mappedIS (l : List Int) (h : l.length ≤ 1048576) (hb : ∀ n ∈ l, inI n) : GoodC Tryz.prog 181 [.seq (l.map (.int .i64)), .func 182 [] []] (.seq ((l.map itoaN).map .str)) := by
  refine good_fn nf isF181 mix (by simp [Tryz.f181]) ?_
  simp [Tryz.f181]
  refine lp (α := Nat) (fun i => ⟨[(10, .p (.int .i64 i)), (9, .p (.int .i64 l.length)), (8, .p (.seq (l.map (.int .i64)))), (5, .sl 0 i 1 0 i), (1, .p (.func 182 [] []))], [.arr .grow i 1 ((l.map fun n => .p (.str (itoaN n))).take i)]⟩) (fun i => i ≤ l.length) (fun i => l.length - i) 0 (by simp) ?_
  rintro i k1
  by_cases hi : i < l.length
  · have hw := wi1 (i := i) (by omega)
    have ht := take_next (fun n => AV.p (.str (itoaN n))) hi
    have hn := hb l[i] (List.getElem_mem hi)
    simp [hi]
    refine c1 (h182 l[i] hn.1 hn.2) ?_
    simp
    refine ⟨⟨by omega, by simp [maxL]; omega⟩, ?_⟩
    exact rd (i + 1) hi (he := by simp [hw]) (hh := by simp [ht]) (hr2 := by simp [ht])
  · have : i = l.length := by omega
    subst this
    simp
end Go.Abs
namespace Go.Abs
open Go.Proofs
set_option maxHeartbeats 4000000
set_option maxRecDepth 100000
def rowsE (l : List RowD) : List (PV × PV) := l.map fun r => (.str r.key, eRow r)
end Go.Abs
namespace Go.Abs
open Go.Proofs
set_option maxHeartbeats 4000000
set_option maxRecDepth 100000
def heldE (o : Option (List Int)) : PV := .st 293 [.bool o.isSome, .str (valsT (o.getD []))]
def rowsI (l : List RowD) : Prop := ∀ r ∈ l, ∀ n ∈ r.vals, inI n
@[simp] theorem u8_eq : (Gl.u8 : TypeId) = 5 := rfl
@[simp] theorem shp_strs {l : List (List Nat)} : allShp Tryz.prog 1 (List.map (AV.p ∘ PV.str) l) := shp_map fun x => ⟨by simp [shpA, shp], by simp [shpA, shp, shpSize]⟩
@[simp] theorem shp_strs_take {l : List (List Nat)} {i : Nat} : allShp Tryz.prog 1 (List.take i (List.map (AV.p ∘ PV.str) l)) := by
  rw [allShp_iff]; intro v hv; exact (allShp_iff.1 shp_strs) v (List.mem_of_mem_take hv)
@[simp] theorem shp_strs_drop {l : List (List Nat)} {i : Nat} : allShp Tryz.prog 1 (List.drop i (List.map (AV.p ∘ PV.str) l)) := by
  rw [allShp_iff]; intro v hv; exact (allShp_iff.1 shp_strs) v (List.mem_of_mem_drop hv)
def insAt (k : List Nat) : List (List Nat) → Nat
  | [] => 0
  | x :: l => if sLess x k then insAt k l + 1 else 0
end Go.Abs
namespace Go.Abs
open Go.Proofs
set_option maxHeartbeats 4000000
set_option maxRecDepth 100000
def kTo (a b : List RowD) (i : Nat) : List (List Nat) := keysOf (a.take i) ++ (keysOf (b.take (i - a.length))).filter fun k => !(keysOf a).contains k
def resS (x a b : List RowD) (n : List Nat) : PV :=
  if (outS x a b).length > 256 then .tup [rBook ⟨[], []⟩, .seq [], .int .i64 5] else .tup [rBook ⟨n, outS x a b⟩, .seq ((confL x a b).map .str), .int .i64 0]
section
variable (x a b : List RowD) (xn an bn : List Nat) (ver : Nat) (C : List AV)
def mH (out : List RowD) : Heap := [.box false (.p (.st 26 [.str xn, .seq (x.map eRow)])), .box false (.p (.st 26 [.str an, .seq (a.map eRow)])), .box false (.p (.st 26 [.str bn, .seq (b.map eRow)])),
  .box false (.p (.st 26 [.str [], .nsl])), .box false (.st 26 [.p (.str an), .sl 7 out.length 2 0 out.length]), .hole, .arr .grow ver 2 C, .arr .grow out.length 2 (out.map (AV.p ∘ eRow))]
structure MKeep (i : Nat) (out : List RowD) (s : St) : Prop where
  e3 : getE s.env 3 = .ptr 0 []
  e4 : getE s.env 4 = .ptr 1 []
  e5 : getE s.env 5 = .ptr 2 []
  e6 : getE s.env 6 = .ptr 3 []
  e9 : getE s.env 9 = .ptr 4 []
  e11 : getE s.env 11 = .sl 6 ver 2 0 (a.length + b.length)
  e12 : getE s.env 12 = .p (.int .i64 i)
  hp : s.heap = mH x a b xn an bn ver C out
end
end Go.Abs
namespace Go.Proofs
open Go.Shelf
def Tryz.lays190_ren : Go.Shelf.Ren := ⟨fun | 190 => 163 | 125 => 222 | 258 => 221 | 128 => 270 | 129 => 271 | 302 => 261 | 303 => 262 | 304 => 263 | 305 => 264 | 306 => 265 | 307 => 266 | 308 => 267 | 309 => 268 | 310 => 269 | 333 => 300 | 329 => 301 | 330 => 302 | 334 => 303 | 335 => 304 | 336 => 247 | 344 => 322 | n => n, fun | 31 => 44 | 9 => 9 | 3 => 3 | 46 => 261 | 0 => 0 | 51 => 317 | 53 => 320 | 4 => 4 | 183 => 351 | 182 => 350 | 131 => 286 | 5 => 5 | 218 => 378 | 222 => 382 | 228 => 397 | 229 => 398 | n => n, fun | n => n⟩
end Go.Proofs
namespace Go.Abs
open Go.Proofs
set_option maxHeartbeats 4000000
set_option maxRecDepth 100000
def resP (x a b : List RowD) (n : List Nat) : PV :=
  if (outS x a b).length > 256 then .tup [eBook ⟨[], []⟩, .seq [], .int .i64 5] else .tup [eBook ⟨n, outS x a b⟩, .seq ((confL x a b).map .str), .int .i64 0]
theorem ft_held : fieldT Tryz.prog 294 0 = some (293, .leaf) := by kernel_rfl
@[simp] theorem fv_held {b : Bool} {s : PV} : fieldV Tryz.prog 294 0 (.p (.st 293 [.bool b, s])) = some (True, { v := .p (.bool b) }) := by
  rw [fieldV_st ft_held]
  simp [shp]
theorem so_held : Tryz.prog.stoodInHeld 294 = false := by kernel_rfl
@[simp] theorem eo_held : eqOk Tryz.prog 294 = true := by kernel_rfl
def heldC (p : Bool) (s : List Nat) (q : Bool) (t : List Nat) : Bool := decide (p = q ∧ s = t)
@[simp] theorem eq_held {p q : Bool} {s t : List Nat} : eqT Tryz.prog 9 294 (.st 293 [.bool p, .str s]) (.st 293 [.bool q, .str t]) = some (heldC p s q t) := by
  have hu := Tryz.underlying294
  have : ((p == q) && ((s == t) && true)) = heldC p s q t := by
    rw [heldC, Bool.eq_iff_iff]; simp
  rw [← this]
  simp [eqT, hu, so_held, eqTs, shp]
section
variable (x a b : List RowD) (xn an bn : List Nat)
def pH (ks cs : List (List Nat)) (out : List RowD) : Heap := [.box false (.p (.st 23 [.str xn, .seq (x.map eRow)])), .box false (.p (.st 23 [.str an, .seq (a.map eRow)])), .box false (.p (.st 23 [.str bn, .seq (b.map eRow)])),
  .box false (.p (.st 23 [.str [], .nsl])), .box false (.st 23 [.p (.str an), .sl 7 out.length 2 0 out.length]), .arr .grow ks.length 1 (ks.map (AV.p ∘ PV.str)), .arr .grow cs.length 1 (cs.map (AV.p ∘ PV.str)), .arr .grow out.length 2 (out.map (AV.p ∘ eRow))]
end
end Go.Abs
namespace Go.Abs
open Go.Proofs
set_option maxHeartbeats 4000000
set_option maxRecDepth 100000
@[simp] theorem shp_eBook {b : BookD} : shp (eBook b) = .agg 23 := rfl
@[simp] theorem shp_rBook {b : BookD} : shp (rBook b) = .agg 26 := rfl
def mergeC (x a b : BookD) : BookD × List (List Nat) × Int :=
  if (outS x.rows a.rows b.rows).length > 256 then (⟨[], []⟩, [], 5) else (⟨a.name, outS x.rows a.rows b.rows⟩, confL x.rows a.rows b.rows, 0)
def mergeV (x a b : BookD) : BookD × List (List Nat) × Int :=
  if firstE [chkBook x, chkBook a, chkBook b] ≠ 0 then (⟨[], []⟩, [], firstE [chkBook x, chkBook a, chkBook b]) else mergeC x a b
end Go.Abs
namespace Go.Abs
def low : Nat → Nat → List Nat
  | 0, _ => []
  | i + 1, n => (48 + n / 10 ^ i % 10) :: low i n
def nd (n : Nat) : Nat := if h : n = 0 then 0 else nd (n / 10) + 1
  decreasing_by omega
theorem nd_lt : ∀ (i n : Nat), i < nd n ↔ 10 ^ i ≤ n
  | 0, n => by
    rw [nd]; split
    · subst n; simp
    · simp; omega
  | i + 1, n => by
    rw [nd]; split
    · rename_i h
      subst h
      have := Nat.pow_pos (n := i + 1) (show 0 < 10 by omega)
      constructor
      · intro h; omega
      · intro h; omega
    · have := nd_lt i (n / 10)
      rw [Nat.le_div_iff_mul_le (by omega), ← Nat.pow_succ] at this
      rw [← this]; omega
theorem low_app (b n : Nat) : ∀ a, low (a + b) n = low a (n / 10 ^ b) ++ low b n
  | 0 => by simp [low]
  | a + 1 => by
    rw [show a + 1 + b = (a + b) + 1 by omega, low, low, low_app b n a, Nat.div_div_eq_div_mul, ← Nat.pow_add, Nat.add_comm b a]; rfl
theorem low_mod (n k : Nat) : ∀ b, b ≤ k → low b (n % 10 ^ k) = low b n
  | 0, _ => rfl
  | b + 1, h => by
    have e : k = b + (k - b - 1 + 1) := by omega
    have h1 : n % 10 ^ k / 10 ^ b = n / 10 ^ b % 10 ^ (k - b - 1 + 1) := by
      conv => lhs; rw [e, Nat.pow_add]
      rw [Nat.mod_mul_right_div_self]
    rw [low, low, low_mod n k b (by omega), h1, Nat.mod_mod_of_dvd _ (Nat.pow_dvd_pow 10 (show 1 ≤ k - b - 1 + 1 by omega) |> fun h => by simpa using h)]
theorem nd_eq {n m : Nat} (h : ∀ i, i < nd n ↔ i < m) : nd n = m := by
  have h1 := h m
  have h2 := h (nd n)
  omega
theorem nd_add {n k : Nat} (h : 10 ^ k ≤ n) : nd n = nd (n / 10 ^ k) + k := by
  refine nd_eq fun i => ?_
  rw [nd_lt]
  by_cases hi : i < k
  · have := Nat.pow_le_pow_right (show 0 < 10 by omega) (Nat.le_of_lt hi)
    constructor
    · intro _; omega
    · intro _; omega
  · obtain ⟨j, rfl⟩ : ∃ j, i = j + k := ⟨i - k, by omega⟩
    rw [Nat.pow_add, ← Nat.le_div_iff_mul_le (Nat.pow_pos (by omega)), ← nd_lt]; omega
theorem nd_le {n k : Nat} (h : n < 10 ^ k) : nd n ≤ k := by
  rcases Nat.lt_or_ge k (nd n) with h1 | h1
  · rw [nd_lt] at h1; omega
  · exact h1
theorem nd_pos {n : Nat} (h : 0 < n) : 0 < nd n := by rw [nd_lt, Nat.pow_zero]; exact h
theorem low_join {M : Nat} (h : 10 ^ 9 ≤ M) : low (nd M) M = low (nd (M / 10 ^ 9)) (M / 10 ^ 9) ++ low 9 (M % 10 ^ 9) := by
  rw [nd_add h, low_app, low_mod _ _ _ (Nat.le_refl 9)]
theorem digitsF_low : ∀ (f n : Nat) (acc : List Nat), n < 10 ^ (f + 1) → digitsF (f + 1) n acc = low (max 1 (nd n)) n ++ acc
  | f, n, acc, h => by
    rw [digitsF, Bool.cond_eq_ite]
    split
    · rename_i h9
      rw [Nat.ble_eq] at h9
      have := nd_le (n := n) (k := 1) (by simp; omega)
      have e : max 1 (nd n) = 1 := by omega
      rw [e]; simp [low]; omega
    · rename_i h9
      rw [Nat.ble_eq] at h9
      match f, h with
      | 0, h => simp at h; omega
      | f + 1, h =>
        have h1 : n / 10 < 10 ^ (f + 1) := by rw [Nat.div_lt_iff_lt_mul (by omega), ← Nat.pow_succ]; exact h
        have h2 := nd_add (n := n) (k := 1) (by simp; omega)
        have h3 := nd_pos (n := n / 10) (by omega)
        rw [Nat.pow_one] at h2
        rw [digitsF_low f _ _ h1]
        have e1 : max 1 (nd (n / 10)) = nd (n / 10) := by omega
        have e2 : max 1 (nd n) = nd (n / 10) + 1 := by omega
        rw [e1, e2, low_app]
        simp [low]
theorem itoaN_nat {n : Nat} (h : n < 10 ^ 20) : itoaN n = low (max 1 (nd n)) n := by
  show digitsF 20 n [] = _
  rw [digitsF_low 19 n [] h, List.append_nil]
theorem itoaN_neg {n : Nat} (h : n < 10 ^ 20) (h0 : 0 < n) : itoaN (-(n : Int)) = 45 :: low (nd n) n := by
  obtain ⟨m, rfl⟩ : ∃ m, n = m + 1 := ⟨n - 1, by omega⟩
  have e : (-((m + 1 : Nat) : Int)) = Int.negSucc m := rfl
  have h3 := nd_pos h0
  have e1 : max 1 (nd (m + 1)) = nd (m + 1) := by omega
  rw [e]
  show 45 :: digitsF 20 (m + 1) [] = _
  rw [digitsF_low 19 (m + 1) [] h, List.append_nil, e1]
def d9 (n : Nat) : List Nat := if h : n = 0 then [] else n % 10 ^ 9 :: d9 (n / 10 ^ 9)
  decreasing_by omega
theorem d9_lt : ∀ (i n : Nat), i < (d9 n).length ↔ (10 ^ 9) ^ i ≤ n
  | 0, n => by
    rw [d9]; split
    · subst n; simp
    · simp; omega
  | i + 1, n => by
    rw [d9]; split
    · rename_i h
      subst h
      have := Nat.pow_pos (n := i + 1) (show 0 < 10 ^ 9 by omega)
      constructor
      · intro h; simp at h
      · intro h; omega
    · have := d9_lt i (n / 10 ^ 9)
      rw [Nat.le_div_iff_mul_le (by omega), ← Nat.pow_succ] at this
      rw [← this, List.length_cons]; omega
theorem d9_get : ∀ (i n : Nat) (h : i < (d9 n).length), (d9 n)[i] = n / (10 ^ 9) ^ i % 10 ^ 9
  | 0, n, h => by
    have h0 : ¬ n = 0 := by intro e; subst e; rw [d9] at h; simp at h
    have e : d9 n = n % 10 ^ 9 :: d9 (n / 10 ^ 9) := by rw [d9, dif_neg h0]
    simp only [e, List.getElem_cons_zero, Nat.pow_zero, Nat.div_one]
  | i + 1, n, h => by
    have h0 : ¬ n = 0 := by intro e; subst e; rw [d9] at h; simp at h
    have e : d9 n = n % 10 ^ 9 :: d9 (n / 10 ^ 9) := by rw [d9, dif_neg h0]
    simp only [e, List.getElem_cons_succ]
    rw [d9_get i (n / 10 ^ 9) (by rw [e] at h; simpa using h), Nat.div_div_eq_div_mul, ← Nat.pow_succ']
theorem d9_len {n k : Nat} (h : n < (10 ^ 9) ^ k) : (d9 n).length ≤ k := by
  rcases Nat.lt_or_ge k (d9 n).length with h1 | h1
  · rw [d9_lt] at h1; omega
  · exact h1
end Go.Abs
namespace Go.Abs
open Go.Proofs
set_option maxHeartbeats 4000000
set_option maxRecDepth 100000
theorem dig_slice : ∀ d : Nat, d < 10 → (48 :: ([49, 50, 51, 52, 53, 54, 55, 56, 57] : List Nat).take d).drop d = [48 + d] := by decide
theorem c_decimal (n w : Nat) (hn : n < 10 ^ 18) (hw : w ≤ 9) : GoodC Tryz.prog 298 [.int .i64 n, .int .i64 w] (.str (low (max w (nd n)) n)) := by
  refine good_fn nf isF298 mix (by simp [Tryz.f298]) ?_
  simp [Tryz.f298]
  have h18 := nd_le hn
  refine lp (α := Nat × Nat) (fun (i, m) => ⟨[(5, .p (.str (low i n))), (1, .p (.int .i64 w)), (0, .p (.int .i64 m))], []⟩) (fun (i, m) => i ≤ max w (nd n) ∧ m = n / 10 ^ i) (fun (i, _) => max w (nd n) - i) (0, n) (by simp) ?_ (he := by simp [low])
  rintro ⟨i, m⟩ ⟨h1, h2⟩
  dsimp only at h1 h2 ⊢
  have hl : (low i n).length = i := by
    clear h1 h2
    induction i with
    | zero => rfl
    | succ i ih => simp [low, ih]
  have hp : (0 < m) ↔ i < nd n := by rw [h2, nd_lt, Nat.div_pos_iff]; have := Nat.pow_pos (n := i) (show 0 < 10 by omega); omega
  have hb : m ≤ n := by rw [h2]; exact Nat.div_le_self _ _
  have hnext : m / 10 = n / 10 ^ (i + 1) := by rw [h2, Nat.pow_succ, Nat.div_div_eq_div_mul]
  have hlow : low (i + 1) n = (48 + m % 10) :: low i n := by rw [h2]; rfl
  clear h2
  have e1 : (m : Int).tmod 10 = (m : Int) % 10 := Int.tmod_eq_emod_of_nonneg (by omega)
  have e2 : (m : Int).tdiv 10 = (m : Int) / 10 := Int.tdiv_eq_ediv_of_nonneg (by omega)
  have e3 : IntKind.i64.wrap ((m : Int) / 10) = (m : Int) / 10 := wi64 _ (by omega) (by omega)
  have e4 : IntKind.i64.wrap ((m : Int) % 10 + 1) = (m : Int) % 10 + 1 := wi64 _ (by omega) (by omega)
  have e5 := dig_slice (m % 10) (by omega)
  have e6 : ((m : Int) % 10 + 1).toNat = m % 10 + 1 := by omega
  have e7 : ((m : Int) % 10).toNat = m % 10 := by omega
  by_cases q1 : 0 < m
  · have q1' : (0 : Int) < (m : Int) := by omega
    have hi : i < max w (nd n) := by omega
    simp [q1, q1', e1, e2, e3, e4, e5, e6, e7, hl]
    refine ⟨by omega, by omega, ?_⟩
    exact rd (i + 1, m / 10) ⟨hi, hnext⟩ (h1 := by dsimp only; omega) (he := by simp [hlow])
  · have q1' : ¬ (0 : Int) < (m : Int) := by omega
    by_cases q2 : i < w
    · have q2' : (i : Int) < (w : Int) := by omega
      have hi : i < max w (nd n) := by omega
      simp [q1, q1', q2, q2', e1, e2, e3, e4, e5, e6, e7, hl]
      refine ⟨by omega, by omega, ?_⟩
      exact rd (i + 1, m / 10) ⟨hi, hnext⟩ (h1 := by dsimp only; omega) (he := by simp [hlow])
    · have q2' : ¬ (i : Int) < (w : Int) := by omega
      have hi : max w (nd n) = i := by omega
      simp [q1, q1', q2, q2', hl, hi]
def eInt (neg : Bool) (l : List Nat) : PV := .st 345 [.bool neg, .seq (l.map fun (x : Nat) => .int .i64 x)]
theorem c_trim (l : List Nat) (h : l.length ≤ 100) (hl : ∀ h : l ≠ [], l.getLast h ≠ 0) : GoodC Tryz.prog 321 [.seq (l.map fun (x : Nat) => .int .i64 x)] (.seq (l.map fun (x : Nat) => .int .i64 x)) := by
  refine good_fn nf isF321 mix (by simp [Tryz.f321]) ?_
  simp [Tryz.f321]
  refine lp (α := Unit) (fun _ => ⟨[(0, .p (.seq (l.map fun (x : Nat) => .int .i64 x)))], []⟩) (fun _ => True) (fun _ => 0) () trivial ?_
  rintro _ _
  by_cases h0 : l = []
  · subst h0
    simp
  · have hp : 0 < l.length := List.length_pos_iff.2 h0
    have q1 : (0 : Int) < (l.length : Int) := by omega
    have e1 : IntKind.i64.wrap ((l.length : Int) - 1) = (l.length : Int) - 1 := wi64 _ (by omega) (by omega)
    have e2 : ((l.length : Int) - 1).toNat = l.length - 1 := by omega
    have e3 : l[l.length - 1]? = some (l.getLast h0) := by rw [← List.getLast?_eq_getElem?, List.getLast?_eq_some_getLast h0]
    have e4 : ((l.getLast h0 : Nat) : Int) ≠ 0 := by have := hl h0; omega
    simp [q1, hp, e1, e2, e3, e4]
    exact ⟨by omega, fun e => (hl h0 e).elim⟩
theorem c_signed (neg : Bool) (l : List Nat) (h : l.length ≤ 100) (hl : ∀ h : l ≠ [], l.getLast h ≠ 0) (hn : l = [] → neg = false) : GoodC Tryz.prog 299 [.bool neg, .seq (l.map fun (x : Nat) => .int .i64 x)] (eInt neg l) := by
  refine good_fn nf isF299 mix (by simp [Tryz.f299]) ?_
  simp [Tryz.f299]
  refine c1 (c_trim l h hl) ?_
  cases neg
  · simp [eInt]
  · have h0 : l ≠ [] := fun e => by simpa using hn e
    have hp : 0 < l.length := List.length_pos_iff.2 h0
    simp [eInt, hp]
theorem d9_last {n : Nat} (h : d9 n ≠ []) : (d9 n).getLast h ≠ 0 := by
  have hp : 0 < (d9 n).length := List.length_pos_iff.2 h
  have h1 := (d9_lt ((d9 n).length - 1) n).1 (by omega)
  have h2 : ¬ (10 ^ 9) ^ (d9 n).length ≤ n := by rw [← d9_lt]; omega
  rw [List.getLast_eq_getElem, d9_get]
  have e : (d9 n).length = (d9 n).length - 1 + 1 := by omega
  rw [e, Nat.pow_succ] at h2
  have h3 : n / (10 ^ 9) ^ ((d9 n).length - 1) < 10 ^ 9 := by rw [Nat.div_lt_iff_lt_mul (Nat.pow_pos (by omega)), Nat.mul_comm]; omega
  rw [Nat.mod_eq_of_lt h3]
  have := Nat.div_pos h1 (Nat.pow_pos (by omega))
  omega
theorem d9_step {m : Nat} (h : 0 < m) : d9 m = m % 1000000000 :: d9 (m / 1000000000) := by
  rw [d9, dif_neg (by omega)]
theorem c_whole (n : Int) (hn : inI n) : GoodC Tryz.prog 258 [.int .i64 n] (eInt (decide (n < 0)) (d9 n.natAbs)) := by
  refine good_fn nf isF258 mix (by simp [Tryz.f258]) ?_
  by_cases h0 : n < 0
  · obtain ⟨k, rfl⟩ : ∃ k : Nat, n = -(k : Int) := ⟨n.natAbs, by omega⟩
    have ek : (-(k : Int)).natAbs = k := by omega
    have hkp : 0 < k := by omega
    have hL : (d9 k).length ≤ 3 := d9_len (by have := hn.1; have := hn.2; simp; omega)
    have hlast : ∀ h : d9 k ≠ [], (d9 k).getLast h ≠ 0 := fun h => d9_last h
    rw [ek]
    have hs := c_signed true (d9 k) (by omega) hlast (fun e => by rw [d9_step (by omega)] at e; cases e)
    simp [Tryz.f258, h0]
    refine lp (α := Nat × List Nat) (fun (m, out) => ⟨[(4, .p (.bool true)), (3, .sl 1 out.length 1 0 out.length), (2, .ptr 0 []), (0, .p (.int .i64 (-(m : Int))))], [.box false (.p (.st 345 [.bool false, .nsl])), .arr .grow out.length 1 (out.map fun (x : Nat) => .p (.int .i64 x))]⟩)
      (fun (m, out) => m ≤ k ∧ out ++ d9 m = d9 k) (fun (m, _) => m) (k, []) (by simp) ?_ (he := by simp [hkp])
    rintro ⟨m, out⟩ ⟨h1, h2⟩
    dsimp only at h1 h2 ⊢
    have hk : (k : Int) ≤ 9223372036854775808 := by have := hn.1; omega
    have hol : out.length ≤ 3 := by have := congrArg List.length h2; rw [List.length_append] at this; omega
    by_cases hm : m = 0
    · subst hm
      have e0 : d9 0 = [] := by rw [d9, dif_pos rfl]
      rw [e0, List.append_nil] at h2
      subst h2
      clear h1 e0
      simp [h0]
      generalize d9 k = l at *
      cases l with
      | nil =>
        refine cp (h1 := ?g1) hs (by simp; exact ⟨rfl, rfl⟩) ?_
        case g1 => simp
        simp [eInt, hkp]
      | cons x r =>
        refine cp (h1 := ?g2) hs (by simp; exact ⟨rfl, rfl⟩) ?_
        case g2 => simp
        simp [eInt, hkp]
    · have hm' : ¬ (m : Int) = 0 := by omega
      have e1 : (-(m : Int)).tmod 1000000000 = -((m : Int) % 1000000000) := by rw [Int.neg_tmod, Int.tmod_eq_emod_of_nonneg (by omega)]
      have e2 : (-(m : Int)).tdiv 1000000000 = -((m : Int) / 1000000000) := by rw [Int.neg_tdiv, Int.tdiv_eq_ediv_of_nonneg (by omega)]
      have e3 : IntKind.i64.wrap (-((m : Int) / 1000000000)) = -((m : Int) / 1000000000) := wi64 _ (by omega) (by omega)
      have e5 : IntKind.i64.wrap ((m : Int) % 1000000000) = (m : Int) % 1000000000 := wi64 _ (by omega) (by omega)
      rw [d9_step (by omega)] at h2
      by_cases e4 : (0 : Int) < (m : Int) % 1000000000
      · simp [hm, hm', e1, e2, e3, e4, e5]
        refine ⟨by simp only [maxL]; omega, ?_⟩
        exact rd (m / 1000000000, out ++ [m % 1000000000]) ⟨by dsimp only; omega, by simpa using h2⟩ (h1 := by dsimp only; omega)
      · have e6 : (m : Int) % 1000000000 = 0 := by omega
        have e7 : m % 1000000000 = 0 := by omega
        rw [e7] at h2
        simp [hm, hm', e1, e2, e3, e6]
        refine ⟨by simp only [maxL]; omega, ?_⟩
        exact rd (m / 1000000000, out ++ [0]) ⟨by dsimp only; omega, by simpa using h2⟩ (h1 := by dsimp only; omega)
  · obtain ⟨k, rfl⟩ : ∃ k : Nat, n = k := ⟨n.natAbs, by omega⟩
    have ek : (k : Int).natAbs = k := by omega
    have hL : (d9 k).length ≤ 3 := d9_len (by have := hn.1; have := hn.2; simp; omega)
    have hlast : ∀ h : d9 k ≠ [], (d9 k).getLast h ≠ 0 := fun h => d9_last h
    rw [ek]
    have hs := c_signed false (d9 k) (by omega) hlast (fun _ => rfl)
    simp [Tryz.f258, h0]
    refine lp (α := Nat × List Nat) (fun (m, out) => ⟨[(4, .p (.bool false)), (3, .sl 1 out.length 1 0 out.length), (2, .ptr 0 []), (0, .p (.int .i64 m))], [.box false (.p (.st 345 [.bool false, .nsl])), .arr .grow out.length 1 (out.map fun (x : Nat) => .p (.int .i64 x))]⟩)
      (fun (m, out) => m ≤ k ∧ out ++ d9 m = d9 k) (fun (m, _) => m) (k, []) (by simp) ?_
    rintro ⟨m, out⟩ ⟨h1, h2⟩
    dsimp only at h1 h2 ⊢
    have hk : (k : Int) ≤ 9223372036854775807 := hn.2
    have hol : out.length ≤ 3 := by have := congrArg List.length h2; rw [List.length_append] at this; omega
    by_cases hm : m = 0
    · subst hm
      have e0 : d9 0 = [] := by rw [d9, dif_pos rfl]
      rw [e0, List.append_nil] at h2
      subst h2
      clear h1 e0
      simp [h0]
      generalize d9 k = l at *
      cases l with
      | nil =>
        refine cp (h1 := ?g1) hs (by simp; exact ⟨rfl, rfl⟩) ?_
        case g1 => simp
        simp [eInt]
      | cons x r =>
        refine cp (h1 := ?g2) hs (by simp; exact ⟨rfl, rfl⟩) ?_
        case g2 => simp
        simp [eInt]
    · have hm' : ¬ (m : Int) = 0 := by omega
      have e1 : (m : Int).tmod 1000000000 = (m : Int) % 1000000000 := Int.tmod_eq_emod_of_nonneg (by omega)
      have e2 : (m : Int).tdiv 1000000000 = (m : Int) / 1000000000 := Int.tdiv_eq_ediv_of_nonneg (by omega)
      have e3 : IntKind.i64.wrap ((m : Int) / 1000000000) = (m : Int) / 1000000000 := wi64 _ (by omega) (by omega)
      have e4 : ¬ (m : Int) % 1000000000 < 0 := by omega
      rw [d9_step (by omega)] at h2
      simp [hm, hm', e1, e2, e3, e4]
      refine ⟨by simp only [maxL]; omega, ?_⟩
      exact rd (m / 1000000000, out ++ [m % 1000000000]) ⟨by dsimp only; omega, by simpa using h2⟩ (h1 := by dsimp only; omega)
end Go.Abs
namespace Go.Abs
open Go.Proofs
set_option maxHeartbeats 4000000
set_option maxRecDepth 100000
theorem low_len (n : Nat) : ∀ i, (low i n).length = i
  | 0 => rfl
  | i + 1 => by simp [low, low_len n i]
theorem c_text (neg : Bool) (n : Nat) (hn : n < 10 ^ 20) : GoodC Tryz.prog 257 [eInt neg (d9 n)] (.str (if n = 0 then [48] else if neg = true then 45 :: low (nd n) n else low (nd n) n)) := by
  refine good_fn nf isF257 mix (by simp [Tryz.f257]) ?_
  by_cases h0 : n = 0
  · subst h0
    have e0 : d9 0 = [] := by rw [d9, dif_pos rfl]
    simp [Tryz.f257, eInt, e0]
  have hL : (d9 n).length ≤ 3 := d9_len (by simp; omega)
  have hne : d9 n ≠ [] := by rw [d9_step (by omega)]; simp
  have hp : 0 < (d9 n).length := List.length_pos_iff.2 hne
  have l1 := (d9_lt ((d9 n).length - 1) n).1 (by omega)
  have l2 : ¬ (10 ^ 9) ^ (d9 n).length ≤ n := by rw [← d9_lt]; omega
  have gl := fun i h => d9_get i n h
  have ll := fun i => d9_lt i n
  have hnd : nd n ≤ 20 := nd_le hn
  generalize d9 n = l at *
  obtain ⟨k, hk⟩ : ∃ k, l.length = k + 1 := ⟨l.length - 1, by omega⟩
  rw [hk] at l1 l2
  simp only [Nat.add_sub_cancel] at l1
  have l3 : n / (10 ^ 9) ^ k < 10 ^ 9 := by
    rw [Nat.pow_succ] at l2
    rw [Nat.div_lt_iff_lt_mul (Nat.pow_pos (by omega)), Nat.mul_comm]; omega
  have l4 := Nat.div_pos l1 (Nat.pow_pos (by omega))
  have g1 : l[k]'(by omega) = n / (10 ^ 9) ^ k := by rw [gl k (by omega), Nat.mod_eq_of_lt l3]
  generalize hM : n / (10 ^ 9) ^ k = M at *
  have hp' : ¬ (k : Int) + 1 = 0 := by omega
  have i1 : IntKind.i64.wrap (k : Int) = (k : Int) := wi64 _ (by omega) (by omega)
  have i2 : IntKind.i64.wrap ((k : Int) + 1 - 2) = (k : Int) - 1 := by rw [wi64 _ (by omega) (by omega)]; omega
  have hkl : k < l.length := by omega
  have em : max 1 (nd M) = nd M := by have := nd_pos l4; omega
  simp [Tryz.f257, eInt, hk, hp', i1, i2, hkl, g1, h0]
  have dc := c_decimal M 1 (by omega) (by omega)
  rw [em] at dc
  refine c2 dc ?_
  simp
  refine lp (α := Nat × Nat) (fun (j, m) => ⟨[(4, .p (.int .i64 ((j : Int) - 1))), (3, .p (.str (low (nd m) m))), (1, .ptr 0 [])], [.box false (.p (.st 345 [.bool neg, .seq (l.map fun (x : Nat) => .int .i64 x)]))]⟩)
    (fun (j, m) => j ≤ k ∧ m = n / (10 ^ 9) ^ j ∧ 0 < m) (fun (j, _) => j) (k, M) ⟨Nat.le_refl _, hM.symm, l4⟩ ?_ (he := by simp [hk, i2])
  rintro ⟨j, m⟩ ⟨h1, h2, h3⟩
  dsimp only at h1 h2 h3 ⊢
  cases j with
  | zero =>
    rw [Nat.pow_zero, Nat.div_one] at h2
    subst h2
    have q : ¬ (0 : Int) ≤ 0 - 1 := by omega
    cases neg
    · simp [low_len, h0]
    · simp [low_len, h0]
      omega
  | succ j =>
    have hjl : j < l.length := by omega
    have g := gl j hjl
    have hd : n / (10 ^ 9) ^ j / 10 ^ 9 = m := by rw [h2, Nat.div_div_eq_div_mul, ← Nat.pow_succ]
    have hge : 10 ^ 9 ≤ n / (10 ^ 9) ^ j := by
      rcases Nat.lt_or_ge (n / (10 ^ 9) ^ j) (10 ^ 9) with h | h
      · rw [Nat.div_eq_of_lt h] at hd; omega
      · exact h
    have hj := low_join hge
    have hle : n / (10 ^ 9) ^ j ≤ n := Nat.div_le_self _ _
    rw [hd] at hj
    generalize hm' : n / (10 ^ 9) ^ j = m' at *
    have hx : m' % 10 ^ 9 < 10 ^ 9 := Nat.mod_lt _ (by omega)
    have e9 : max 9 (nd (m' % 10 ^ 9)) = 9 := by have := nd_le hx; omega
    have dc := c_decimal (m' % 10 ^ 9) 9 (by omega) (by omega)
    rw [e9, ← g] at dc
    rw [← g] at hj
    have hmd : nd m ≤ 20 := by
      have : m ≤ n := by rw [h2]; exact Nat.div_le_self _ _
      exact nd_le (by omega)
    have i3 : IntKind.i64.wrap ((j : Int) - 1) = (j : Int) - 1 := wi64 _ (by omega) (by omega)
    simp [hjl]
    refine c2 dc ?_
    simp [low_len, i3]
    exact ⟨by omega, rd (j, m') ⟨by dsimp only; omega, hm'.symm, by dsimp only; omega⟩ (h1 := by dsimp only; omega) (he := by simp [hj])⟩
theorem text_itoa {n : Int} (hn : inI n) : (if n.natAbs = 0 then [48] else if decide (n < 0) = true then 45 :: low (nd n.natAbs) n.natAbs else low (nd n.natAbs) n.natAbs) = itoaN n := by
  have h1 := hn.1
  have h2 := hn.2
  by_cases h0 : n < 0
  · obtain ⟨k, rfl⟩ : ∃ k : Nat, n = -(k : Int) := ⟨n.natAbs, by omega⟩
    have ek : (-(k : Int)).natAbs = k := by omega
    rw [ek, if_neg (by omega), if_pos (by simpa using h0), itoaN_neg (by omega) (by omega)]
  · obtain ⟨k, rfl⟩ : ∃ k : Nat, n = k := ⟨n.natAbs, by omega⟩
    have ek : (k : Int).natAbs = k := by omega
    rw [ek, itoaN_nat (by omega)]
    by_cases hk : k = 0
    · subst hk
      have : nd 0 = 0 := by rw [nd, dif_pos rfl]
      simp [this, low]
    · have := nd_pos (n := k) (by omega)
      have e : max 1 (nd k) = nd k := by omega
      rw [if_neg hk, if_neg (by simp), e]
theorem c_fromInt (n : Int) (hn : inI n) : GoodC Tryz.prog 213 [.int .i64 n] (.str (itoaN n)) := by
  refine good_fn nf isF213 mix (by simp [Tryz.f213]) ?_
  simp [Tryz.f213]
  refine c1 (c_whole n hn) ?_
  simp
  have hc := c_text (decide (n < 0)) n.natAbs (by have := hn.1; have := hn.2; omega)
  rw [text_itoa hn] at hc
  refine c1 hc ?_
  simp
theorem c_textR (n : Int) (hn : inI n) : GoodC Tryz.prog 151 [.int .i64 n] (.str (itoaN n)) := by
  refine good_fn nf isF151 mix (by simp [Tryz.f151]) ?_
  simp [Tryz.f151]
  refine c1 (c_fromInt n hn) ?_
  simp
end Go.Abs
namespace Go.Abs
open Go.Proofs
set_option maxHeartbeats 4000000
set_option maxRecDepth 100000
def rowT (r : RowD) : List Nat := r.key ++ (32 :: (valsT r.vals ++ [10]))
def rowsT (l : List RowD) : List Nat := l.flatMap rowT
def bookT (b : BookD) : List Nat := [98, 111, 111, 107, 32] ++ b.name ++ [10] ++ rowsT b.rows
def bookT0 (b : BookD) (i : Nat) : List Nat := [98, 111, 111, 107, 32] ++ b.name ++ [10] ++ rowsT (b.rows.take i)
def printS (b : BookD) : List Nat × Int := if 4096 < (bookT b).length then ([], 26) else (bookT b, 0)
end Go.Abs
