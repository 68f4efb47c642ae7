import Derived.Test.YthckccalfpnmaaaGreatDoorThD
import Derived.Test.YthckccalfpnmaaaGreatDoorPA
import Derived.Test.YthckccalfpnmaaaGreatDoorPB
import Derived.Shelf.Sort.Plain
import Derived.Shelf.Slices.In.SortNone
/- Parts of a proof. -/
set_option linter.unusedSimpArgs false
set_option linter.unusedVariables false
set_option linter.unusedSectionVars false
namespace Go.Abs
set_option linter.unusedSectionVars false
variable [Gl]
section
variable {P : Program} {frz : FuncId → Bool} {q : Cx}
theorem runR_mono {r : Res} {K K' : Eff → Prop} (hk : ∀ e, K e → K' e) (h : runR r K) : runR r K' := by
  unfold runR at h ⊢
  split at h
  · exact ⟨h.1, hk _ h.2⟩
  · exact h.elim
theorem opEff_mono {o : Oper} {e : Env} {H : Heap} {K K' : Eff → Prop} (hk : ∀ e, K e → K' e) (h : opEff P frz o (ev e) H K) : opEff P frz o (ev e) H K' := by
  obtain ⟨x, h1, h2⟩ := sing_op (frz := frz) o (ev e) H K h
  exact h2 K' (hk x h1)
theorem opW_mono {o : Oper} {e : Env} {H : Heap} {K K' : Eff → Prop} (hk : ∀ e, K e → K' e) (h : opW P frz o e H K) : opW P frz o e H K' := by
  unfold opW at h ⊢
  repeat' split at h
  all_goals first | exact hk _ h | exact runR_mono hk h | exact ⟨h.1, runR_mono hk h.2⟩ | exact opEff_mono hk h | exact h.elim
theorem callWP_mono {d : Bool} {f : FuncId} {args : List AV} {H : Heap} {K K' : AV → Heap → Prop} (hk : ∀ v H, K v H → K' v H) (h : CallWP P d f args H K) : CallWP P d f args H K' := by
  rcases h with ⟨vs, v, h1, h2, h3⟩ | ⟨hd, ⟨vs, H1, v, h1, h2, h3⟩ | ⟨H', v, h1, h2⟩ | ⟨e, h1, h2, h3⟩ | ⟨hin, v, h1, h2, h3⟩⟩
  · exact .inl ⟨vs, v, h1, h2, hk _ _ h3⟩
  · exact .inr ⟨hd, .inl ⟨vs, H1, v, h1, h2, hk _ _ h3⟩⟩
  · exact .inr ⟨hd, .inr (.inl ⟨H', v, h1, hk _ _ h2⟩)⟩
  · exact .inr ⟨hd, .inr (.inr (.inl ⟨e, h1, h2, hk _ _ h3⟩))⟩
  · exact .inr ⟨hd, .inr (.inr (.inr ⟨hin, v, h1, h2, hk _ _ h3⟩))⟩
theorem callE_mono {f : FuncId} {args : List AV} {H : Heap} {K K' : Eff → Prop} (hk : ∀ e, K e → K' e) (h : CallE P f args H K) : CallE P f args H K' := by
  rcases h with ⟨vs, v, h1, h2, h3⟩ | ⟨vs, bs, hin, hset, v, h1, h2, h3, h4⟩ | ⟨e, h1, h2, h3⟩ | ⟨hin, v, h1, h2, h3⟩
  · exact .inl ⟨vs, v, h1, h2, hk _ h3⟩
  · exact .inr (.inl ⟨vs, bs, hin, hset, v, h1, h2, h3, hk _ h4⟩)
  · exact .inr (.inr (.inl ⟨e, h1, h2, hk _ h3⟩))
  · exact .inr (.inr (.inr ⟨hin, v, h1, h2, hk _ h3⟩))
theorem plainW_mono {o : Oper} {K K' : St → Prop} {s : St} (hk : ∀ s, K s → K' s) (h : plainW P frz o K s) : plainW P frz o K' s := by
  unfold plainW at h ⊢
  split at h
  · rename_i f args aT hop
    unfold callV at h ⊢
    split at h
    · exact callWP_mono (fun v H hh => hk _ hh) h
    · exact callWP_mono (fun v H hh => hk _ hh) h
    · obtain ⟨H', v, h1, h2⟩ := h; exact ⟨H', v, h1, hk _ h2⟩
    · exact h.elim
  · exact opW_mono (fun e hh => hk _ hh) h
theorem drawnW_mono {o : Oper} {s : St} {K K' : Eff → Prop} (hk : ∀ e, K e → K' e) (h : drawnW P frz o s K) : drawnW P frz o s K' := by
  unfold drawnW at h ⊢
  split at h
  · rename_i f args aT hop
    unfold callVd at h ⊢
    split at h
    · exact callE_mono hk h
    · exact callE_mono hk h
    · exact h.elim
  · exact opW_mono hk h
theorem opsW_mono {ops : Array Oper} : ∀ (l : List Oper) {K K' : St → Prop} {s : St}, (∀ s, K s → K' s) → opsW P frz ops l K s → opsW P frz ops l K' s
  | [], K, K', s, hk, h => hk s h
  | o :: l, K, K', s, hk, h => by
    simp only [opsW] at h ⊢
    split at h
    · exact plainW_mono (fun s hs => opsW_mono l hk hs) h
    · split at h
      · split at h
        · rename_i ht; rw [if_pos ht]; exact plainW_mono (fun s hs => opsW_mono l hk hs) h
        · rename_i ht; rw [if_neg ht]; exact opsW_mono l hk h
      · exact opsW_mono l hk h
      · exact h.elim
theorem opsWd_mono {ops : Array Oper} : ∀ (l : List Oper) {i : Nat} {acc : List Touch} {K K' : St → Prop} {s : St}, (∀ s, K s → K' s) → opsWd P frz ops l i acc K s → opsWd P frz ops l i acc K' s
  | [], i, acc, K, K', s, hk, h => ⟨h.1, hk s h.2⟩
  | o :: l, i, acc, K, K', s, hk, h => by
    simp only [opsWd] at h ⊢
    split at h
    · exact drawnW_mono (fun e hs => opsWd_mono l hk hs) h
    · split at h
      · split at h
        · rename_i ht; rw [if_pos ht]; exact drawnW_mono (fun e hs => opsWd_mono l hk hs) h
        · rename_i ht; rw [if_neg ht]; exact opsWd_mono l hk h
      · exact opsWd_mono l hk h
      · exact h.elim
theorem codeW_mono : ∀ (c : Code) {Q Q' : AExit → St → Prop} {s : St}, (∀ e s, Q e s → Q' e s) → codeW P frz q c Q s → codeW P frz q c Q' s
  | .skip, Q, Q', s, hq, h => hq _ _ h
  | .label _, Q, Q', s, hq, h => hq _ _ h
  | .exit _, Q, Q', s, hq, h => hq _ _ h
  | .ret, Q, Q', s, hq, h => hq _ _ h
  | .region _ ops draw, Q, Q', s, hq, h => by
    simp only [codeW] at h ⊢
    split at h
    · rename_i hd; rw [if_pos hd]; exact opsWd_mono _ (fun s hs => hq _ _ hs) h
    · rename_i hd; rw [if_neg hd]; exact opsW_mono _ (fun s hs => hq _ _ hs) h
  | .seq a b, Q, Q', s, hq, h => by
    simp only [codeW] at h ⊢
    refine codeW_mono a (fun e s he => ?_) h
    cases e with
    | normal => exact codeW_mono b hq he
    | exit i => exact hq _ _ he
    | ret => exact hq _ _ he
  | .cond c a b, Q, Q', s, hq, h => by
    simp only [codeW] at h ⊢
    unfold condW at h ⊢
    split at h
    · split at h
      · rename_i ht; rw [if_pos ht]; exact codeW_mono a hq h
      · rename_i ht; rw [if_neg ht]; exact codeW_mono b hq h
    · exact h.elim
  | .block id b, Q, Q', s, hq, h => by
    simp only [codeW] at h ⊢
    refine codeW_mono b (fun e s he => ?_) h
    cases e with
    | normal => exact hq _ _ he
    | exit i =>
      simp only [blockQ] at he ⊢
      by_cases hi : i = id
      · simp only [hi, if_true] at he ⊢; exact hq _ _ he
      · simp only [hi, if_false] at he ⊢; exact hq _ _ he
    | ret => exact hq _ _ he
  | .scope b, Q, Q', s, hq, h => codeW_mono b hq h
  | .loop b, Q, Q', s, hq, h => by
    simp only [codeW] at h ⊢
    obtain ⟨I, h1, h2⟩ := h
    refine ⟨I, h1, fun n t hI => codeW_mono b (fun e s he => ?_) (h2 n t hI)⟩
    cases e with
    | normal => exact he
    | exit id => exact hq _ _ he
    | ret => exact hq _ _ he
  | .rangeFunc f ps a b, Q, Q', s, hq, h => by
    simp only [codeW] at h ⊢
    exact ⟨h.1, iter_mono (fun H => over_mono hq) h.2⟩
  | .goto _, _, _, _, _, h => h.elim
  | .refuse _, _, _, _, _, h => h.elim
def joinS (R : St → Prop) (Q : AExit → St → Prop) (e : Tg (R, Q) AExit) (s : Tg (R, Q) St) : Prop := match e with
  | .normal => R s
  | e => Q e s
theorem joinS_normal {R : St → Prop} {Q : AExit → St → Prop} {s : St} : joinS R Q .normal s = R s := (rfl)
theorem joinS_exit {R : St → Prop} {Q : AExit → St → Prop} {id : Nat} {s : St} : joinS R Q (.exit id) s = Q (.exit id) s := (rfl)
theorem joinS_ret {R : St → Prop} {Q : AExit → St → Prop} {s : St} : joinS R Q .ret s = Q .ret s := (rfl)
theorem join {a b : Code} {Q : AExit → St → Prop} {s : St} (R : St → Prop) (h1 : codeS P frz q a (joinS R Q) s) (h2 : ∀ s', R s' → codeS P frz q b Q s') : codeS P frz q (.seq a b) Q s := by
  rw [w_seq']
  refine codeW_mono a (fun e s he => ?_) h1
  cases e with
  | normal => exact h2 s he
  | exit i => exact he
  | ret => exact he
theorem rl_pc {α : Type} {N : Nat × Nat → Prop} {f : α → PV} {l : List α} : refsLtl N (l.map (AV.p ∘ f)) = True := rl_p
attribute [simp] joinS_normal joinS_exit joinS_ret rl_pc
end
end Go.Abs
namespace Go.Abs
set_option linter.unusedSectionVars false
variable [Gl]
section
variable {P : Program} {frz : FuncId → Bool}
def EndsIS (P : Program) (rs : List ResultVar) (N : Nat) (H' : Heap) (v : AV) (e : Tg (rs, N, H', v) AExit) (s : Tg (rs, N, H', v) St) : Prop := EndsI P rs N H' v e s
theorem endsIS_ret {rs : List ResultVar} {N : Nat} {H' : Heap} {v : AV} {s : St} : EndsIS P rs N H' v .ret s = ∃ vs, resVals P s rs = some vs ∧ oneOf vs = v ∧ (H' = s.heap ∨ (ForgetN N s ⟨[], H'⟩ ∧ refsLt (InH H') v)) := by simp [EndsIS, EndsI]
theorem endsIS_normal {rs : List ResultVar} {N : Nat} {H' : Heap} {v : AV} {s : St} : EndsIS P rs N H' v .normal s = ∃ vs, resVals P s rs = some vs ∧ oneOf vs = v ∧ (H' = s.heap ∨ (ForgetN N s ⟨[], H'⟩ ∧ refsLt (InH H') v)) := by simp [EndsIS, EndsI]
theorem goodI_fn {f : FuncId} {fn : Func} (frz : FuncId → Bool) (h : IsFn P f fn) (hmix : P.follows .mixedOrders = true) {args : List AV} {H H' : Heap} {v : AV} (hn : args.length ≤ fn.ntmps)
    (hwp : codeS P frz (fn.ntmps, H.length) (fn.body.getD .skip) (EndsIS P fn.results.toList H.length H' v) ⟨argEnv 0 args, H⟩) : GoodI P f H args H' v :=
  goodI frz h hmix hn (codeW_ok (Q' := EndsI P fn.results.toList H.length H' v) _ (fun _ _ h => h) hwp)
theorem sig_nil {n i : Nat} : sig [] n i = n + i := by simp [sig]
theorem cn {f : FuncId} {H H' : Heap} {K : AV → Heap → Prop} {v : AV} {args : List PV} (h : GoodI P f [] (args.map .p) H' v) (hk : K (ren (sig [] H.length) v) (H ++ H'.map (renO (sig [] H.length)))) : CallS P false f K (args.map .p) H := by
  refine .inr ⟨rfl, .inr (.inr (.inl ⟨effF [] H.length [] H' v, ?_, ⟨by simp [effF], by simp [effF]⟩, ?_⟩))⟩
  · have hr : refsLtl (InH ([] : Heap)) (args.map .p) := by rw [refsLtl_mem]; intro v hv; obtain ⟨x, _, rfl⟩ := List.mem_map.1 hv; trivial
    have := h.frame [] H.length rfl List.nodup_nil (by simp) (by simp) hr (by simp)
    have e : renL (sig [] H.length) (args.map .p) = args.map .p := by
      clear h hr this hk
      induction args with
      | nil => rfl
      | cons a r ih => simp only [List.map_cons, renL, ren, ih]
    rwa [e] at this
  · simpa [effF, setAll] using hk
theorem cn1 {f : FuncId} {H H' : Heap} {K : AV → Heap → Prop} {v : AV} {a : PV} (h : GoodI P f [] [.p a] H' v) (hk : K (ren (sig [] H.length) v) (H ++ H'.map (renO (sig [] H.length)))) : CallS P false f K [.p a] H := cn (args := [a]) h hk
def fieldT (P : Program) (T : TypeId) (f : Nat) : Option (TypeId × Shp) := match kindOf P T, P.underlying T with
  | .agg u, some (.struct _) => ((compTypes P u)[f]?).map fun F => (u, kindOf P F)
  | _, _ => none
def fieldV (P : Program) (T : TypeId) (f : Nat) (x : AV) : Res := match fieldT P T f, x with
  | some (u, k), .p t => match (flds t)[f]? with
    | some g => some (shp t = .agg u ∧ k = shp g, { v := .p g })
    | none => none
  | _, _ => none
theorem field_eq {T : TypeId} {x : AV} {f : Nat} {K : Eff → Prop} : (match kindOf P T, P.underlying T, x with
    | .agg u, some (.struct _), .p t => shp t = .agg u ∧ (match (flds t)[f]?, (compTypes P u)[f]? with
      | some g, some F => kindOf P F = shp g ∧ K { v := .p g }
      | _, _ => False)
    | _, _, _ => False) = runR (fieldV P T f x) K := by
  unfold fieldV fieldT
  cases h1 : kindOf P T with
  | agg u => cases h2 : P.underlying T with
    | none => simp [runR]
    | some d => cases d with
      | struct fs => cases x with
        | p t => cases hc : (compTypes P u)[f]? <;> cases hg : (flds t)[f]? <;> simp [runR, hg, hc, and_assoc]
        | _ => cases hc : (compTypes P u)[f]? <;> simp [runR, hc]
      | _ => simp [runR]
  | _ => simp [runR]
section fields
variable {dst : Option Tmp} {ty : Nat} {pos : String} {af : Array Edge} {g : Option (Nat × Bool)} {env : Env} {heap : Heap} {L : St → Prop} {K : Eff → Prop} {T : TypeId} {x : Operand} {f : Nat}
theorem p_field' : plainS P frz ⟨dst, .field T x f, ty, pos, af, g⟩ L ⟨env, heap⟩ () = runS (appS dst ⟨env, heap⟩ L) (fieldV P T f (ev env x)) := field_eq
theorem d_field' : drawnS P frz ⟨dst, .field T x f, ty, pos, af, g⟩ ⟨env, heap⟩ K () = runS K (fieldV P T f (ev env x)) := field_eq
theorem fieldV_st {T u u' : TypeId} {k : Shp} {fs : List PV} {f : Nat} (h : fieldT P T f = some (u, k)) : fieldV P T f (.p (.st u' fs)) = match fs[f]? with
    | some g => some (u' = u ∧ k = shp g, { v := .p g })
    | none => none := by
  unfold fieldV
  simp only [h, flds, shp, Shp.agg.injEq]
end fields
theorem renL_map {σ : Nat → Nat} {α : Type} {f : α → PV} : ∀ {l : List α}, renL σ (l.map (AV.p ∘ f)) = l.map (AV.p ∘ f)
  | [] => rfl
  | a :: l => by simp only [List.map_cons, renL, renL_map (l := l)]; rfl
theorem renL_map2 {σ : Nat → Nat} {α β : Type} {f : β → PV} {g : α → β} {l : List α} : renL σ (l.map ((AV.p ∘ f) ∘ g)) = l.map ((AV.p ∘ f) ∘ g) := renL_map (f := f ∘ g)
theorem rl_pc2 {α β : Type} {N : Nat × Nat → Prop} {f : β → PV} {g : α → β} {l : List α} : refsLtl N (l.map ((AV.p ∘ f) ∘ g)) = True := rl_pc (f := f ∘ g)
attribute [simp] p_field' d_field' renL_map2 rl_pc2 endsIS_ret endsIS_normal sig_nil ren renL renO renL_map
end
end Go.Abs
namespace Go.Abs
set_option linter.unusedSectionVars false
variable [Gl]
section
variable {P : Program} {frz : FuncId → Bool}
theorem khg_same {T : Heap} : ∀ {h : Heap}, KeepHg T h h = True
  | [] => by simp [KeepHg]
  | o :: h => by simp [KeepHg, KO_same, khg_same (h := h)]
theorem refsH_apd {T : Heap} : ∀ {h k : Heap}, RefsH T (h ++ k) = (RefsH T h ∧ RefsH T k)
  | [], k => by simp [RefsH]
  | o :: h, k => by simp [RefsH, refsH_apd (h := h), and_assoc]
theorem rl_repl {N : Nat × Nat → Prop} {n : Nat} {v : PV} : refsLtl N (List.replicate n (.p v)) = True := by
  rw [refsLtl_mem, eq_iff_iff, iff_true]; intro x hx; rw [(List.mem_replicate.1 hx).2]; trivial
theorem renL_lam {σ : Nat → Nat} {α : Type} {f : α → PV} {l : List α} : renL σ (l.map fun x => .p (f x)) = l.map fun x => .p (f x) := renL_map (f := f)
def LoopA.bz (L : LoopA) : LoopA := { L with st := .busy }
def LoopA.dn (L : LoopA) (j : Code) : LoopA := { L with st := .done, pending := some j }
def LoopA.xh (L : LoopA) : LoopA := { L with st := .exhausted }
def Stream (P : Program) (g : FuncId) (fi ca : List PV) (items : List (List PV)) : Prop :=
  ∀ (b k : Nat) (Hs : Nat → Heap) (H' : Heap), k ≤ items.length → (∀ i, i ≤ k → RefsH (Hs i) (Hs i) ∧ refsLt (InH (Hs i)) (.map b)) →
    (∀ i a, i < k → items[i]? = some a → GoodY P b (Hs i) (a.map .p) (Hs (i + 1)) (.p (.bool true))) →
    (k = items.length ∧ H' = Hs k ∨ ∃ a, items[k]? = some a ∧ GoodY P b (Hs k) (a.map .p) H' (.p (.bool false))) →
    GoodI P g (Hs 0) (fi.map .p ++ [.map b] ++ ca.map .p) H' (.p (.tup []))
theorem cv_map' {b : Nat} {args : List AV} {M : AV → Heap → Prop} {heap : Heap} : callS P heap M (.map b) args = ∃ H' v, GoodY P b heap args H' v ∧ M v H' := (rfl)
def reS (b : Nat) (L : LoopA) (N : Nat) (H' : Heap) (v : Bool) (e : Tg (b, L, N, H', v) AExit) (s : Tg (b, L, N, H', v) St) : Prop :=
  match e with
  | .normal => v = true ∧ (St.heap s)[b]? = some (.loop L.bz) ∧ ForgetN N ⟨[], (St.heap s).set b (.loop L)⟩ ⟨[], H'⟩
  | .exit id => v = false ∧ (St.heap s)[b]? = some (.loop L.bz) ∧ ForgetN N ⟨[], (St.heap s).set b (.loop (L.dn (.exit id)))⟩ ⟨[], H'⟩
  | .ret => v = false ∧ (St.heap s)[b]? = some (.loop L.bz) ∧ ForgetN N ⟨[], (St.heap s).set b (.loop (L.dn .ret))⟩ ⟨[], H'⟩
section
variable {b N : Nat} {L : LoopA} {H' : Heap} {v : Bool} {s : St}
theorem reS_normal : reS b L N H' v .normal s = (v = true ∧ s.heap[b]? = some (.loop L.bz) ∧ ForgetN N ⟨[], s.heap.set b (.loop L)⟩ ⟨[], H'⟩) := (rfl)
theorem reS_exit {id : Nat} : reS b L N H' v (.exit id) s = (v = false ∧ s.heap[b]? = some (.loop L.bz) ∧ ForgetN N ⟨[], s.heap.set b (.loop (L.dn (.exit id)))⟩ ⟨[], H'⟩) := (rfl)
theorem reS_ret : reS b L N H' v .ret s = (v = false ∧ s.heap[b]? = some (.loop L.bz) ∧ ForgetN N ⟨[], s.heap.set b (.loop (L.dn .ret))⟩ ⟨[], H'⟩) := (rfl)
end
def rbS (P : Program) (frz : FuncId → Bool) (q : Cx) (b : Nat) (c : Code) (L : LoopA) (H' : Heap) (v : Bool) (e : Tg (q, b, c, L, H', v) AExit) (s : Tg (q, b, c, L, H', v) St) : Prop :=
  match e with
  | .normal => (St.heap s)[b]? = some (.loop L) ∧ codeS P frz q c (reS b L q.2 H' v) ⟨St.env s, (St.heap s).set b (.loop L.bz)⟩
  | _ => False
theorem rbS_normal {q : Cx} {b : Nat} {c : Code} {L : LoopA} {H' : Heap} {v : Bool} {s : St} : rbS P frz q b c L H' v .normal s = (s.heap[b]? = some (.loop L) ∧ codeS P frz q c (reS b L q.2 H' v) ⟨s.env, s.heap.set b (.loop L.bz)⟩) := (rfl)
section framed
variable {f : FuncId} {H0 H0' H : Heap} {args0 args : List AV} {v0 : AV} {K : AV → Heap → Prop} {L : Eff → Prop}
theorem frame_e (h : GoodI P f H0 args0 H0' v0) (bs : List Nat) (hlen : bs.length = H0.length) (hnd : bs.Nodup) (hlt : ∀ b ∈ bs, b < H.length) (hl : H0.length ≤ H0'.length) (ha : refsLtl (InH H0) args0) (hr : RefsH H0 H0) (hargs : renL (sig bs H.length) args0 = args) :
    GoodE P f args H.length (effF bs H.length H0 H0' v0) := by
  have := h.frame bs H.length hlen hnd hlt hl ha hr.get
  rwa [hargs] at this
theorem cf (h : GoodI P f H0 args0 H0' v0) (bs : List Nat) (hk : K (ren (sig bs H.length) v0) (setAll H (bs.zip ((H0'.take H0.length).map (renO (sig bs H.length)))) ++ (H0'.drop H0.length).map (renO (sig bs H.length)))) (hin : ∀ p ∈ bs.zip (H0.map (renO (sig bs H.length))), H[p.1]? = some p.2 := by simp [sig]) (hset : ∀ p ∈ bs.zip ((H0'.take H0.length).map (renO (sig bs H.length))), p.1 < H.length ∧ p.2 ≠ .hole := by simp [sig])
    (hlen : bs.length = H0.length := by simp) (hnd : bs.Nodup := by simp) (hlt : ∀ b ∈ bs, b < H.length := by simp) (hl : H0.length ≤ H0'.length := by simp) (ha : refsLtl (InH H0) args0 := by simp) (hr : RefsH H0 H0 := by simp) (hargs : renL (sig bs H.length) args0 = args := by simp [sig]) : CallS P false f K args H :=
  .inr ⟨rfl, .inr (.inr (.inl ⟨_, frame_e h bs hlen hnd hlt hl ha hr hargs, ⟨hin, hset⟩, hk⟩))⟩
theorem ef (h : GoodI P f H0 args0 H0' v0) (bs : List Nat) (hk : L { v := ren (sig bs H.length) v0, hin := bs.zip (H0.map (renO (sig bs H.length))), hset := bs.zip ((H0'.take H0.length).map (renO (sig bs H.length))), hnew := (H0'.drop H0.length).map (renO (sig bs H.length)) }) (hin : ∀ p ∈ bs.zip (H0.map (renO (sig bs H.length))), H[p.1]? = some p.2 := by simp [sig]) (hset : ∀ p ∈ bs.zip ((H0'.take H0.length).map (renO (sig bs H.length))), p.1 < H.length ∧ p.2 ≠ .hole := by simp [sig])
    (hlen : bs.length = H0.length := by simp) (hnd : bs.Nodup := by simp) (hlt : ∀ b ∈ bs, b < H.length := by simp) (hl : H0.length ≤ H0'.length := by simp) (ha : refsLtl (InH H0) args0 := by simp) (hr : RefsH H0 H0 := by simp) (hargs : renL (sig bs H.length) args0 = args := by simp [sig]) : CallSd P f L args H :=
  .inr (.inr (.inl ⟨_, frame_e h bs hlen hnd hlt hl ha hr hargs, ⟨hin, hset⟩, hk⟩))
end framed
section bytes
variable {dst : Option Tmp} {ty : Nat} {pos : String} {af : Array Edge} {g : Option (Nat × Bool)} {env : Env} {heap : Heap} {L : St → Prop} {K : Eff → Prop}
end bytes
attribute [simp] renL_lam rl_repl khg_same refsH_apd reS_normal reS_exit reS_ret rbS_normal cv_map' putAll
end
end Go.Abs
namespace Go.Abs
set_option linter.unusedSectionVars false
variable [Gl]
section
variable {P : Program} {frz : FuncId → Bool} {w : World} {Imm Prot : Nat → Prop} {β : Bd} {H : Heap}
def killH (K : Nat → Bool) (H : Heap) : Heap := H.mapIdx fun i o => if K i then .dead else o
theorem killH_get {K : Nat → Bool} {b : Nat} : (killH K H)[b]? = (H[b]?).map fun o => if K b then .dead else o := by simp [killH]
theorem killH_some {K : Nat → Bool} {b : Nat} {o : Obj} (h : (killH K H)[b]? = some o) : ∃ o0, H[b]? = some o0 ∧ ((K b = true ∧ o = .dead) ∨ (K b = false ∧ o = o0)) := by
  rw [killH_get, Option.map_eq_some_iff] at h
  obtain ⟨o0, h1, h2⟩ := h
  refine ⟨o0, h1, ?_⟩
  cases hk : K b <;> simp [hk] at h2
  · exact .inr ⟨rfl, h2.symm⟩
  · exact .inl ⟨rfl, h2.symm⟩
theorem killH_in {K : Nat → Bool} {x : Nat × Nat} (h : InH H x) : InH (killH K H) x := by
  obtain ⟨o, h1, h2⟩ := h
  refine ⟨if K x.1 then .dead else o, by rw [killH_get, h1]; rfl, ?_⟩
  split
  · trivial
  · exact h2
theorem killH_step {K : Nat → Bool} : HStep β H β (killH K H) := by
  refine ⟨fun b _ h => ⟨?_, rfl⟩, fun b _ h => ⟨?_, rfl⟩, fun b _ h => ⟨?_, rfl⟩, fun b ver esz k es _ h => ⟨k, es, ?_, Nat.le_refl _, Iff.rfl, fun _ => ⟨rfl, rfl⟩⟩, fun b _ h => ⟨?_, rfl⟩⟩
  · obtain ⟨fz, t, h⟩ := h
    obtain ⟨o0, h1, h2⟩ := killH_some h
    rcases h2 with ⟨_, h2⟩ | ⟨_, rfl⟩
    · cases h2
    · exact ⟨fz, t, h1⟩
  · obtain ⟨s, q, h⟩ := h
    obtain ⟨o0, h1, h2⟩ := killH_some h
    rcases h2 with ⟨_, h2⟩ | ⟨_, rfl⟩
    · cases h2
    · exact ⟨s, q, h1⟩
  · obtain ⟨s, q, h⟩ := h
    obtain ⟨o0, h1, h2⟩ := killH_some h
    rcases h2 with ⟨_, h2⟩ | ⟨_, rfl⟩
    · cases h2
    · exact ⟨s, q, h1⟩
  · obtain ⟨o0, h1, h2⟩ := killH_some h
    rcases h2 with ⟨_, h2⟩ | ⟨_, rfl⟩
    · cases h2
    · exact h1
  · obtain ⟨L, h⟩ := h
    obtain ⟨o0, h1, h2⟩ := killH_some h
    rcases h2 with ⟨_, h2⟩ | ⟨_, rfl⟩
    · cases h2
    · exact ⟨L, h1⟩
def ImmK (K : Nat → Bool) (Imm : Nat → Prop) (β : Bd) (H : Heap) (k : Nat) : Prop := Imm k ∨ ∃ (b : Nat) (o : Obj), H[b]? = some o ∧ o.live ∧ K b = true ∧ β.blk b = k
theorem HRel.kill (K : Nat → Bool) (hr : HRel P w Imm β H Prot) : HRel P w Imm β (killH K H) Prot := by
  refine ⟨fun b o ho => ?_, fun b b' o o' ho ho' hl hl' hn he => ?_, fun b o ho => ?_, hr.imm, hr.prot, hr.glob⟩
  · obtain ⟨o0, h1, h2⟩ := killH_some ho
    rcases h2 with ⟨_, rfl⟩ | ⟨_, rfl⟩
    · trivial
    · exact ORel.carry (fun _ x => x) (fun _ _ => rfl) killH_step (hr.refs b o h1) (fun _ => ⟨rfl, rfl, rfl⟩) (fun _ _ h => h) (hr.objs b o h1)
  · obtain ⟨o0, h1, h2⟩ := killH_some ho
    obtain ⟨o0', h1', h2'⟩ := killH_some ho'
    rcases h2 with ⟨_, rfl⟩ | ⟨_, rfl⟩
    · exact hl.elim
    rcases h2' with ⟨_, rfl⟩ | ⟨_, rfl⟩
    · exact hl'.elim
    exact hr.inj b b' _ _ h1 h1' hl hl' hn he
  · obtain ⟨o0, h1, h2⟩ := killH_some ho
    rcases h2 with ⟨_, rfl⟩ | ⟨_, rfl⟩
    · trivial
    · exact Obj.refs_mono (fun _ h => killH_in h) (hr.refs b o h1)
theorem HRel.killImm (K : Nat → Bool) (hr : HRel P w Imm β H Prot) : HRel P w (ImmK K Imm β H) β (killH K H) Prot := by
  have hk := hr.kill K
  have hi : ∀ k, Imm k → ImmK K Imm β H k := fun k h => .inl h
  refine ⟨fun b o ho => ?_, fun b b' o o' ho ho' hl hl' hn he => hk.inj b b' o o' ho ho' hl hl' (fun h => hn (hi _ h)) he, hk.refs, fun k h => ?_, hr.prot, ⟨fun g => PVV.mono hi (fun _ _ => rfl) _ _ (hr.glob.val g), fun g cs h => ⟨hi _ (hr.glob.raw g cs h).1, (hr.glob.raw g cs h).2⟩⟩⟩
  · have ho2 := ho
    obtain ⟨o0, h1, h2⟩ := killH_some ho
    rcases h2 with ⟨_, rfl⟩ | ⟨kb, rfl⟩
    · trivial
    · refine ORel.carry hi (fun _ _ => rfl) (HStep.refl β _) (hk.refs b o ho2) (fun _ => ⟨rfl, rfl, rfl⟩) (fun hl fz h => ?_) (hk.objs b o ho2)
      cases fz with
      | true => exact hi _ h
      | false =>
        refine ⟨?_, h.2⟩
        rintro (h3 | ⟨b1, o1, g1, g2, g3, g4⟩)
        · exact h.1 h3
        · have := hr.inj b1 b o1 o g1 h1 g2 hl (by rw [g4]; exact h.1) g4
          rw [this, kb] at g3; cases g3
  · rcases h with h | ⟨b1, o1, g1, g2, g3, rfl⟩
    · exact hr.imm k h
    · exact hr.live_lt g1 g2
theorem ORel.held {b : Nat} {o : Obj} (h : ORel P w Imm β H Prot b o) (hl : o.live) : Imm (β.blk b) ∨ ¬ Prot (β.blk b) := by
  by_cases hi : Imm (β.blk b)
  · exact .inl hi
  · exact .inr (h.mut hl hi)
theorem GoodI.pure {f : FuncId} {args : List AV} {H' : Heap} {v : AV} {n : Nat} {p : PV} (K : Nat → Bool) (h : GoodI P f H args H' v) (hp : purR (killH (fun i => !K i) H') n v = some p) (hl : ∀ b L, K b = true → H[b]? ≠ some (.loop L)) :
    GoodI P f H args (killH K H') (.p p) := by
  refine ⟨h.1, fun w Imm Prot β cargs hr ha hre => (h.2 w Imm Prot β cargs hr ha hre).mono ?_⟩
  rintro e w' ⟨cv, β', Imm', rfl, hpo, hv, hrv⟩
  have hrel := hpo.rel
  have hk2 := hrel.kill (fun i => !K i)
  have hv2 : AVV P w' Imm' β' (killH (fun i => !K i) H') v cv := AVV.mono (fun _ x => x) (fun _ _ => rfl) killH_step _ _ hrv hv
  have hpv := purR_sound hk2 n v p hp (refsLt.mono (fun _ h => killH_in h) v hrv) cv hv2
  refine ⟨cv, β', ImmK K Imm' β' H', rfl, ⟨fun k hk => .inl (hpo.imm k hk), ?_, hpo.ext, ?_, hrel.killImm K, fun x hx => killH_in (hpo.inn x hx), ?_⟩, ?_, trivial⟩
  · rintro k (hk | ⟨b, o, g1, g2, g3, rfl⟩)
    · exact hpo.fresh k hk
    · rcases (hrel.objs b o g1).held g2 with h | h
      · exact hpo.fresh _ h
      · exact .inr h
  · have hst := hpo.step
    have hk := killH_step (K := K) (β := β') (H := H')
    refine ⟨fun b hb hL => ?_, fun b hb hL => ?_, fun b hb hL => ?_, fun b ver esz k es hb hL => ?_, fun b hb hL => ?_⟩
    · exact hst.box b hb (hk.box b (hpo.inn _ hb) hL).1
    · exact hst.it b hb (hk.it b (hpo.inn _ hb) hL).1
    · exact hst.map b hb (hk.map b (hpo.inn _ hb) hL).1
    · have h3 : LiveArr H' b ver esz k es := by
        obtain ⟨o0, h1, h2⟩ := killH_some hL
        rcases h2 with ⟨_, h2⟩ | ⟨_, rfl⟩
        · cases h2
        · exact h1
      exact hst.arr b ver esz k es hb h3
    · exact hst.loop b hb (hk.loop b (hpo.inn _ hb) hL).1
  · rintro b ⟨L, hL⟩
    obtain ⟨L', hL'⟩ := hpo.loop b ⟨L, hL⟩
    have hkb : K b = false := by
      cases hkb : K b with
      | false => rfl
      | true => exact (hl b L hkb hL).elim
    exact ⟨L', by rw [killH_get, hL']; simp [hkb]⟩
  · show PVV P w' _ p cv
    refine PVV.mono ?_ (fun _ _ => rfl) _ _ hpv
    rintro k (hk | ⟨b, o, g1, g2, rfl⟩)
    · exact .inl hk
    · obtain ⟨o0, h1, h2⟩ := killH_some g1
      rcases h2 with ⟨_, rfl⟩ | ⟨kb, rfl⟩
      · exact g2.elim
      · exact .inr ⟨b, o, h1, g2, by simpa using kb, rfl⟩
end
end Go.Abs
namespace Go.Abs
set_option linter.unusedSectionVars false
variable [Gl]
section
variable {P : Program} {w : World} {Imm Prot : Nat → Prop} {β : Bd}
theorem swap_step {t t' : AV} {r : Heap} : HStep β (.box false t :: r) β (.box false t' :: r) := by
  refine ⟨fun b _ h => ⟨?_, rfl⟩, fun b _ h => ⟨?_, rfl⟩, fun b _ h => ⟨?_, rfl⟩, fun b ver esz k es _ h => ⟨k, es, ?_, Nat.le_refl _, Iff.rfl, fun _ => ⟨rfl, rfl⟩⟩, fun b _ h => ⟨?_, rfl⟩⟩
  · cases b with
    | zero => exact ⟨false, t, rfl⟩
    | succ b => exact h
  · obtain ⟨s, q, h⟩ := h
    cases b with
    | zero => simp at h
    | succ b => exact ⟨s, q, h⟩
  · obtain ⟨s, q, h⟩ := h
    cases b with
    | zero => simp at h
    | succ b => exact ⟨s, q, h⟩
  · cases b with
    | zero => simp [LiveArr] at h
    | succ b => exact h
  · obtain ⟨L, h⟩ := h
    cases b with
    | zero => simp at h
    | succ b => exact ⟨L, h⟩
theorem swap_in {t t' : AV} {r : Heap} {x : Nat × Nat} (h : InH (.box false t :: r) x) : InH (.box false t' :: r) x := by
  obtain ⟨o, h1, h2⟩ := h
  obtain ⟨b, v⟩ := x
  cases b with
  | zero => exact ⟨_, rfl, trivial⟩
  | succ b => exact ⟨o, h1, h2⟩
theorem HRel.swap {t t' : AV} {r : Heap} (hr : HRel P w Imm β (.box false t :: r) Prot) (hc : ∀ cs, AVC P w Imm β (.box false t :: r) t cs → AVC P w Imm β (.box false t :: r) t' cs) (hbx : ∀ T, bxB T (shpA t') = true)
    (href : ∀ n, refsLt n t → refsLt n t') : HRel P w Imm β (.box false t' :: r) Prot := by
  refine ⟨fun b o ho => ?_, fun b b' o o' ho ho' hl hl' hn he => ?_, fun b o ho => ?_, hr.imm, hr.prot, hr.glob⟩
  · cases b with
    | zero =>
      simp at ho; subst ho
      obtain ⟨cs, T, h1, h2, h3, h4, h5⟩ := hr.objs 0 _ rfl
      have hre := hr.refs 0 _ rfl
      exact ⟨cs, T, h1, AVC.mono (fun _ x => x) (fun _ _ => rfl) swap_step _ _ (href _ hre) (hc _ h2), h3, (fun h => absurd h (by simp)), hbx T⟩
    | succ b => exact ORel.carry (fun _ x => x) (fun _ _ => rfl) swap_step (hr.refs (b + 1) o ho) (fun _ => ⟨rfl, rfl, rfl⟩) (fun _ _ h => h) (hr.objs (b + 1) o ho)
  · have key : ∀ {b : Nat} {o : Obj}, (Obj.box false t' :: r)[b]? = some o → o.live → ∃ o1, (Obj.box false t :: r)[b]? = some o1 ∧ o1.live := by
      intro b o ho hl
      cases b with
      | zero => exact ⟨_, rfl, trivial⟩
      | succ b => exact ⟨o, ho, hl⟩
    obtain ⟨o1, k1, k2⟩ := key ho hl
    obtain ⟨o2, k3, k4⟩ := key ho' hl'
    exact hr.inj b b' o1 o2 k1 k3 k2 k4 hn he
  · cases b with
    | zero =>
      simp at ho; subst ho
      exact refsLt.mono (fun _ h => swap_in h) _ (href _ (hr.refs 0 _ rfl))
    | succ b => exact Obj.refs_mono (fun _ h => swap_in h) (hr.refs (b + 1) o ho)
theorem avc_wrap {H : Heap} {u : TypeId} {n : Nat} (hu : szs P u = some [n]) {t : AV} {cs : List Value} : AVC P w Imm β H (.st u [t]) cs ↔ AVC P w Imm β H t cs ∧ cs.length = n := by
  simp only [AVC, hu, Option.some.injEq]
  constructor
  · rintro ⟨l, css, rfl, h1, rfl⟩
    simp only [AVCl] at h1
    obtain ⟨c, d, rfl, h2, h3, rfl⟩ := h1
    simpa using ⟨h2, h3⟩
  · rintro ⟨h1, h2⟩
    exact ⟨[n], [cs], rfl, by simp only [AVCl]; exact ⟨cs, [], rfl, h1, h2, rfl⟩, by simp⟩
theorem GoodI.wrap {f : FuncId} {u : TypeId} {n : Nat} {t t' : AV} {r r' : Heap} {args : List AV} {v : AV} (hu : szs P u = some [n]) (hb : ∀ T, bxB T (.agg u) = true) (hb1 : ∀ T, bxB T (shpA t) = true) (hn : ∀ (w : World) (Imm : Nat → Prop) (β : Bd) (H : Heap) (cs : List Value), AVC P w Imm β H t' cs → cs.length = n)
    (h : GoodI P f (.box false t :: r) (.ptr 0 [] :: args) (.box false t' :: r') v) : GoodI P f (.box false (.st u [t]) :: r) (.ptr 0 [(u, 0)] :: args) (.box false (.st u [t']) :: r') v := by
  refine ⟨h.1, fun w Imm Prot β cargs hr ha hre => ?_⟩
  have hr1 : HRel P w Imm β (.box false t :: r) Prot := hr.swap (fun cs h => ((avc_wrap hu).1 h).1) hb1 (fun n h => by simpa [refsLt, refsLtl] using h)
  obtain ⟨x, xs, rfl, h1, h2⟩ := ha
  have ha1 : AVVl P w Imm β (.box false t :: r) (.ptr 0 [] :: args) (x :: xs) := by
    refine ⟨x, xs, rfl, ?_, AVVl.mono (fun _ x => x) (fun _ _ => rfl) swap_step _ _ hre.2 h2⟩
    obtain ⟨q1, blk, off, o, q2, q3, q4⟩ := h1
    refine ⟨q1, blk, off, 0, q2, rfl, fun _ => ?_⟩
    have ho : o = 0 := by simpa [pathOff, hu] using q3.symm
    have := q4 (.inl ⟨false, _, rfl⟩)
    rw [ho] at this; exact this
  refine (h.2 w Imm Prot β (x :: xs) hr1 ha1 ⟨⟨_, rfl, trivial⟩, refsLtl.mono (fun _ h => swap_in h) _ hre.2⟩).mono ?_
  rintro e w' ⟨cv, β', Imm', rfl, hpo, hv, hrv⟩
  refine ⟨cv, β', Imm', rfl, ⟨hpo.imm, hpo.fresh, hpo.ext, ?_, ?_, fun x hx => swap_in (hpo.inn x (swap_in hx)), ?_⟩, AVV.mono (fun _ x => x) (fun _ _ => rfl) swap_step _ _ hrv hv, refsLt.mono (fun _ h => swap_in h) _ hrv⟩
  · have hst := hpo.step
    have s1 := swap_step (β := β) (t := .st u [t]) (t' := t) (r := r)
    have s2 := swap_step (β := β') (t := t') (t' := .st u [t']) (r := r')
    have i1 : ∀ x, InH (.box false (.st u [t]) :: r) x → InH (.box false t :: r) x := fun x h => swap_in h
    have i2 : ∀ x, InH (.box false t :: r) x → InH (.box false t' :: r') x := hpo.inn
    refine ⟨fun b hb hL => ?_, fun b hb hL => ?_, fun b hb hL => ?_, fun b ver esz k es hb hL => ?_, fun b hb hL => ?_⟩
    · obtain ⟨k1, k2⟩ := s2.box b (i2 _ (i1 _ hb)) hL
      obtain ⟨k3, k4⟩ := hst.box b (i1 _ hb) k1
      exact ⟨(s1.box b hb k3).1, k4⟩
    · obtain ⟨k1, k2⟩ := s2.it b (i2 _ (i1 _ hb)) hL
      obtain ⟨k3, k4⟩ := hst.it b (i1 _ hb) k1
      exact ⟨(s1.it b hb k3).1, k4⟩
    · obtain ⟨k1, k2⟩ := s2.map b (i2 _ (i1 _ hb)) hL
      obtain ⟨k3, k4⟩ := hst.map b (i1 _ hb) k1
      exact ⟨(s1.map b hb k3).1, k4⟩
    · have k1 : LiveArr (.box false t' :: r') b ver esz k es := by
        cases b with
        | zero => simp [LiveArr] at hL
        | succ b => exact hL
      obtain ⟨k0, es0, q1, q2⟩ := hst.arr b ver esz k es (i1 _ hb) k1
      refine ⟨k0, es0, ?_, q2⟩
      cases b with
      | zero => simp [LiveArr] at q1
      | succ b => exact q1
    · obtain ⟨k1, k2⟩ := s2.loop b (i2 _ (i1 _ hb)) hL
      obtain ⟨k3, k4⟩ := hst.loop b (i1 _ hb) k1
      exact ⟨(s1.loop b hb k3).1, k4⟩
  · exact hpo.rel.swap (fun cs h => (avc_wrap hu).2 ⟨h, hn _ _ _ _ _ h⟩) hb (fun n h => by simpa [refsLt, refsLtl] using h)
  · rintro b ⟨L, hL⟩
    have k1 : LiveLoop (.box false t :: r) b := by
      cases b with
      | zero => simp at hL
      | succ b => exact ⟨L, hL⟩
    obtain ⟨L', k2⟩ := hpo.loop b k1
    cases b with
    | zero => simp at k2
    | succ b => exact ⟨L', k2⟩
end
end Go.Abs
namespace Go.Abs
set_option linter.unusedSectionVars false
variable [Gl]
section
variable {P : Program} {frz : FuncId → Bool} {dst : Option Tmp} {ty : Nat} {pos : String} {af : Array Edge} {g : Option (Nat × Bool)} {env : Env} {heap : Heap} {L : St → Prop}
theorem p_clear {x : Operand} {T : TypeId} {b ver esz off len : Nat} {k : AK} {es : List AV} {z : PV} (hx : ev env x = .sl b ver esz off len) (hb : heap[b]? = some (.arr k ver esz es)) (hT : elemOk P T = some esz) (hz : tzero P (elemType P T) = some z) (hs : shpSize P (shp z) = esz)
    (hk : k = .exact) (hl : off + len ≤ es.length) (h0 : 0 < len)
    (hK : appS dst ⟨env, heap⟩ L { v := .p (.tup []), hin := [(b, .arr k ver esz es)], hset := [(b, .arr k ver esz (es.take off ++ List.replicate len (.p z) ++ es.drop (off + len)))] }) : plainS P frz ⟨dst, .call { callee := .builtin .clear, args := #[x], argTypes := #[T] }, ty, pos, af, g⟩ L ⟨env, heap⟩ () := by
  subst hk
  have h : opEff P frz ⟨dst, .call { callee := .builtin .clear, args := #[x], argTypes := #[T] }, ty, pos, af, g⟩ (ev env) heap (appS dst ⟨env, heap⟩ L) := by
    unfold opEff
    simp only [List.map_cons, List.map_nil, hx, hb]
    rw [show (#[T] : Array TypeId).getD 0 0 = T from rfl, hT, hz]
    exact ⟨rfl, rfl, rfl, hs, by simp, hl, by simp [AK.gr], by simp, h0, hK⟩
  exact h
theorem p_cap {x : Operand} {T : TypeId} {b ver esz off len : Nat} {es : List AV} (hx : ev env x = .sl b ver esz off len) (hb : heap[b]? = some (.arr .exact ver esz es)) (hT : (elemOk P T).isSome = true) (hl : off + len ≤ es.length)
    (hK : appS dst ⟨env, heap⟩ L { v := .p (.int .i64 (es.length - off : Nat)), hin := [(b, .arr .exact ver esz es)] }) : plainS P frz ⟨dst, .call { callee := .builtin .cap, args := #[x], argTypes := #[T] }, ty, pos, af, g⟩ L ⟨env, heap⟩ () := by
  have h : opEff P frz ⟨dst, .call { callee := .builtin .cap, args := #[x], argTypes := #[T] }, ty, pos, af, g⟩ (ev env) heap (appS dst ⟨env, heap⟩ L) := by
    unfold opEff
    have hc : capOf heap (.sl b ver esz off len) = some (es.length - off, [(b, .arr .exact ver esz es)]) := by
      simp only [capOf, hb]
      rw [if_pos ⟨trivial, trivial, by omega⟩]
    have hl : lenTy P T (.sl b ver esz off len) = true := by
      simp only [elemOk] at hT
      simp only [lenTy]
      split at hT
      · rfl
      · simp at hT
    simp only [List.map_cons, List.map_nil, hx, hc]
    exact ⟨hl, by simp, hK⟩
  exact h
theorem p_slice3 {x lo hi m : Operand} {T : TypeId} {b ver esz off len l h n : Nat} {es : List AV} (hx : ev env x = .sl b ver esz off len) (hb : heap[b]? = some (.arr .exact ver esz es)) (hT : (elemOk P T).isSome = true) (hl : off + len ≤ es.length)
    (hlo : ev env lo = .p (.int .i64 l)) (hhi : ev env hi = .p (.int .i64 h)) (hm : ev env m = .p (.int .i64 n)) (h1 : off + n ≤ es.length) (h2 : h ≤ n) (h3 : l ≤ h)
    (hK : appS dst ⟨env, heap⟩ L { v := .p .undef, hin := [(b, .arr .exact ver esz es)] }) : plainS P frz ⟨dst, .slice T x (some lo) (some hi) (some m), ty, pos, af, g⟩ L ⟨env, heap⟩ () := by
  have hh : opEff P frz ⟨dst, .slice T x (some lo) (some hi) (some m), ty, pos, af, g⟩ (ev env) heap (appS dst ⟨env, heap⟩ L) := by
    unfold opEff
    simp only [Option.map_some, hlo, hhi, hm, hx, sliceMWP, hb, sliceBnd, Int.toNat_natCast]
    exact ⟨trivial, trivial, hT, by simp [AK.gr], hl, rfl, by omega, by omega, by omega, h1, h2, h3, hK⟩
  exact hh
end
end Go.Abs
namespace Go.Abs
set_option linter.unusedSectionVars false
variable [Gl]
section
variable {P : Program} {w : World} {Imm Prot : Nat → Prop} {β : Bd}
def deads (n : Nat) : Heap := List.replicate n .dead
theorem deads_get {n b : Nat} {o : Obj} (h : (deads n)[b]? = some o) : o = .dead := by
  simp only [deads, List.getElem?_replicate] at h
  split at h
  · injection h with h; exact h.symm
  · cases h
theorem killH_all {H : Heap} : killH (fun _ => true) H = deads H.length := by
  apply List.ext_getElem?
  intro i
  rw [killH_get, deads, List.getElem?_replicate]
  by_cases h : i < H.length
  · rw [List.getElem?_eq_getElem h, if_pos h]; rfl
  · rw [List.getElem?_eq_none (by omega), if_neg h]; rfl
theorem killH_no {H : Heap} : killH (fun _ => !true) H = H := by
  apply List.ext_getElem?
  intro i
  rw [killH_get]
  cases H[i]? <;> rfl
theorem GoodI.cut {f : FuncId} {H : Heap} {args : List AV} {n : Nat} {p : PV} (h : GoodI P f H args (deads n) (.p p)) : GoodI P f H args (deads H.length) (.p p) := by
  refine ⟨h.1, fun w Imm Prot β cargs hr ha hre => (h.2 w Imm Prot β cargs hr ha hre).mono ?_⟩
  rintro e w' ⟨cv, β', Imm', rfl, hpo, hv, hrv⟩
  have no : ∀ {m b : Nat} {o : Obj}, (deads m)[b]? = some o → o.live → False := fun h hl => by rw [deads_get h] at hl; exact hl
  refine ⟨cv, β', Imm', rfl, ⟨hpo.imm, hpo.fresh, hpo.ext, ⟨?_, ?_, ?_, ?_, ?_⟩, ⟨fun b o ho => by rw [deads_get ho]; trivial, fun b b' o o' ho _ hl => (no ho hl).elim, fun b o ho => by rw [deads_get ho]; trivial, hpo.rel.imm, hpo.rel.prot, hpo.rel.glob⟩, ?_, ?_⟩, hv, trivial⟩
  · rintro b _ ⟨fz, t, h⟩; cases deads_get h
  · rintro b _ ⟨fz, t, h⟩; cases deads_get h
  · rintro b _ ⟨fz, t, h⟩; cases deads_get h
  · intro b ver esz k es _ h; cases deads_get h
  · rintro b _ ⟨L, h⟩; cases deads_get h
  · rintro x ⟨o, h1, _⟩
    have hlt := (List.getElem?_eq_some_iff.1 h1).1
    exact ⟨.dead, by rw [deads, List.getElem?_replicate, if_pos hlt], trivial⟩
  · intro b hb
    obtain ⟨L, hL⟩ := hpo.loop b hb
    cases deads_get hL
theorem GoodI.weak {f : FuncId} {H H' : Heap} {args : List AV} {v v' : PV} (h : GoodI P f H args H' (.p v)) (hv : Wk v v') : GoodI P f H args H' (.p v') := by
  refine ⟨h.1, fun w Imm Prot β cargs hr ha hre => (h.2 w Imm Prot β cargs hr ha hre).mono ?_⟩
  rintro e w' ⟨cv, β', Imm', rfl, hpo, h2, hrv⟩
  exact ⟨cv, β', Imm', rfl, hpo, PVV.weak _ _ _ hv h2, trivial⟩
theorem goodD_fn {f : FuncId} {fn : Func} (frz : FuncId → Bool) (h : IsFn P f fn) (hmix : P.follows .mixedOrders = true) {args : List AV} {H : Heap} {v : PV} (hn : args.length ≤ fn.ntmps) (hl : ∀ (b : Nat) (L : LoopA), H[b]? ≠ some (.loop L))
    (hwp : codeS P frz (fn.ntmps, H.length) (fn.body.getD .skip) (EndsS P fn.results.toList v) ⟨argEnv 0 args, H⟩) : GoodI P f H args (deads H.length) (.p v) := by
  obtain ⟨e, s, ⟨h1, vs, h2, h3⟩, h5⟩ := sing_code _ _ _ (codeW_ok (Q' := EndsS P fn.results.toList v) _ (fun _ _ h => h) hwp)
  obtain ⟨v', h3, h4⟩ := pur_ok _ _ _ h3
  have hg : GoodI P f H args s.heap (oneOf vs) := goodI frz h hmix hn (h5 (EndsI P fn.results.toList H.length s.heap (oneOf vs)) ⟨by cases e <;> exact h1, vs, h2, rfl, .inl rfl⟩)
  have hp := hg.pure (fun _ => true) (n := 9) (p := v') (by rw [killH_no]; exact h3) (fun b L _ => hl b L)
  rw [killH_all] at hp
  exact hp.cut.weak h4
end
end Go.Abs
namespace Go.Abs
set_option linter.unusedSectionVars false
variable [Gl]
section
variable {P : Program}
def EndsX (P : Program) (rs : List ResultVar) (N : Nat) (Q : AV → Heap → Prop) (e : Tg (rs, N, Q) AExit) (s : Tg (rs, N, Q) St) : Prop :=
  (match e with
    | .exit _ => False
    | _ => True) ∧ ∃ vs, resVals P s rs = some vs ∧ ∃ H', Q (oneOf vs) H' ∧ (H' = St.heap s ∨ (ForgetN N s ⟨[], H'⟩ ∧ refsLt (InH H') (oneOf vs)))
theorem endsX_ret {rs : List ResultVar} {N : Nat} {Q : AV → Heap → Prop} {s : St} : EndsX P rs N Q .ret s = ∃ vs, resVals P s rs = some vs ∧ ∃ H', Q (oneOf vs) H' ∧ (H' = s.heap ∨ (ForgetN N s ⟨[], H'⟩ ∧ refsLt (InH H') (oneOf vs))) := by simp [EndsX]
theorem endsX_normal {rs : List ResultVar} {N : Nat} {Q : AV → Heap → Prop} {s : St} : EndsX P rs N Q .normal s = ∃ vs, resVals P s rs = some vs ∧ ∃ H', Q (oneOf vs) H' ∧ (H' = s.heap ∨ (ForgetN N s ⟨[], H'⟩ ∧ refsLt (InH H') (oneOf vs))) := by simp [EndsX]
theorem goodX_fn {f : FuncId} {fn : Func} (frz : FuncId → Bool) (h : IsFn P f fn) (hmix : P.follows .mixedOrders = true) {args : List AV} {H : Heap} (Q : AV → Heap → Prop) (hn : args.length ≤ fn.ntmps)
    (hwp : codeS P frz (fn.ntmps, H.length) (fn.body.getD .skip) (EndsX P fn.results.toList H.length Q) ⟨argEnv 0 args, H⟩) : ∃ v H', Q v H' ∧ GoodI P f H args H' v := by
  obtain ⟨e, s, ⟨h1, vs, h2, H', h3, h4⟩, h5⟩ := sing_code _ _ _ (codeW_ok (Q' := EndsX P fn.results.toList H.length Q) _ (fun _ _ h => h) hwp)
  exact ⟨oneOf vs, H', h3, goodI frz h hmix hn (h5 (EndsI P fn.results.toList H.length H' (oneOf vs)) ⟨by cases e <;> exact h1, vs, h2, rfl, h4⟩)⟩
attribute [simp] endsX_ret endsX_normal
end
end Go.Abs
namespace Go.Abs
set_option linter.unusedSectionVars false
variable [Gl]
section
variable {P : Program}
theorem GoodC.heap {f : FuncId} {vs vs' : List PV} {v : PV} {H H1 : Heap} {args : List AV} (h : GoodC P f vs v) (hE : Enters P f) (ha : purL H args = some (vs', H1)) (h1 : Wkl vs' vs := by first | exact Wkl.refl _ | simp) : GoodI P f H args H1 (.p v) := by
  refine ⟨hE, fun w Imm Prot β cargs hrel hargs hargr => ?_⟩
  obtain ⟨Imm1, p1, p2⟩ := purL_post ha hrel hargs hargr
  rcases h.weak h1 (Wk.refl _) with hG | hX
  · intro cs
    obtain ⟨e, w', fr', ⟨cv, Imm', he, m1, m2, m3, m4, m5, m6, m7⟩, hst, hfn', hlv⟩ := hG.2 w Imm1 _ p1.rel.imm p1.rel.glob p2 cs
    subst he
    exact ⟨_, w', fr', ⟨cv, β, Imm', rfl, p1.trans (p1.rel.later m1 m2 m3 m4 m5 m6), by simpa [AVV] using m7, by simp [refsLt]⟩, hst, hfn', hlv⟩
  · obtain ⟨cv, h2, _⟩ := hX w Imm1 _ p2
    rw [hE] at h2
    cases h2
theorem purl_val {w : World} {Imm Prot : Nat → Prop} {β : Bd} {H : Heap} {n : Nat} (hr : HRel P w Imm β H Prot) : ∀ {args : List AV} {vs : List PV} {cargs : List Value}, mapO (purR H n) args = some vs → refsLtl (InH H) args → AVVl P w Imm β H args cargs → PVVl P w (ImmAll Imm β H) vs cargs
  | [], vs, cargs, h, _, hv => by
    simp [mapO] at h
    subst h
    simp only [AVVl] at hv
    simpa [PVVl] using hv
  | a :: args, vs, cargs, h, hre, hv => by
    simp only [mapO] at h
    split at h
    case h_2 => simp at h
    rename_i y ys h1 h2
    simp at h
    subst h
    simp only [AVVl] at hv
    obtain ⟨z, zs, rfl, k1, k2⟩ := hv
    simp only [refsLtl] at hre
    simp only [PVVl]
    exact ⟨z, zs, rfl, purR_sound hr n a y h1 hre.1 z k1, purl_val hr h2 hre.2 k2⟩
theorem GoodC.eat {f : FuncId} {vs : List PV} {v : PV} {H : Heap} {args : List AV} (n : Nat) (h : GoodC P f vs v) (hE : Enters P f) (ha : Purl H n args vs) (hl : ∀ (b : Nat) (L : LoopA), H[b]? ≠ some (.loop L)) : GoodI P f H args (deads H.length) (.p v) := by
  obtain ⟨ps, h1, h2⟩ := purl_ok n (fun x v h => pur_ok n x v h) args vs ha
  refine ⟨hE, fun w Imm Prot β cargs hrel hargs hargr => ?_⟩
  have p2 : PVVl P w (ImmK (fun _ => true) Imm β H) ps cargs := PVVl.mono (by
    rintro k (hk | ⟨b, o, g1, g2, rfl⟩)
    · exact .inl hk
    · exact .inr ⟨b, o, g1, g2, rfl, rfl⟩) (fun _ _ => rfl) _ _ (purl_val hrel h1 hargr hargs)
  have p1 : Post P Prot Imm w β H (ImmK (fun _ => true) Imm β H) w β (killH (fun _ => true) H) := by
    refine ⟨fun k hk => .inl hk, ?_, (Post.refl hrel).ext, killH_step, hrel.killImm _, fun x hx => killH_in hx, ?_⟩
    · rintro k (hk | ⟨b, o, g1, g2, g3, rfl⟩)
      · exact .inl hk
      · exact (hrel.objs b o g1).held g2
    · rintro b ⟨L, hL⟩
      exact (hl b L hL).elim
  rw [← killH_all]
  rcases h.weak h2 (Wk.refl _) with hG | hX
  · intro cs
    obtain ⟨e, w', fr', ⟨cv, Imm', he, m1, m2, m3, m4, m5, m6, m7⟩, hst, hfn', hlv⟩ := hG.2 w _ _ p1.rel.imm p1.rel.glob p2 cs
    subst he
    exact ⟨_, w', fr', ⟨cv, β, Imm', rfl, p1.trans (p1.rel.later m1 m2 m3 m4 m5 m6), by simpa [AVV] using m7, by simp [refsLt]⟩, hst, hfn', hlv⟩
  · obtain ⟨cv, h2, _⟩ := hX w _ _ p2
    rw [hE] at h2
    cases h2
end
end Go.Abs
namespace Go.Abs
open Go.Proofs
set_option maxHeartbeats 4000000
set_option maxRecDepth 100000
theorem dec_iff {p q : Prop} [Decidable p] [Decidable q] (h : p ↔ q) : decide p = decide q := by simp [h]
theorem beq_drop {α : Type} [DecidableEq α] {a b : List α} {i : Nat} (ha : i < a.length) (hb : i < b.length) : decide (a.drop i = b.drop i) = (decide (a[i] = b[i]) && decide (a.drop (i + 1) = b.drop (i + 1))) := by
  rw [List.drop_eq_getElem_cons ha, List.drop_eq_getElem_cons hb, dec_iff List.cons_eq_cons, Bool.decide_and]
theorem len_ne {α : Type} {a b : List α} (h : a.length ≠ b.length) : a ≠ b := fun e => h (by rw [e])
theorem c_sameInts (a b : List Int) (ha : a.length ≤ 1048576) (hb : b.length ≤ 1048576) : GoodC Tryz.prog 115 [.seq (a.map (.int .i64)), .seq (b.map (.int .i64))] (.bool (decide (a = b))) := by
  refine good_fn nf isF115 mix (by simp [Tryz.f115]) ?_
  by_cases hl : a.length = b.length
  · have hl' : (a.length : Int) = b.length := by omega
    simp [Tryz.f115, hl']
    refine lp (α := Nat) (fun i => ⟨[(5, .p (.int .i64 i)), (1, .p (.seq (b.map (.int .i64)))), (0, .p (.seq (a.map (.int .i64))))], []⟩) (fun i => i ≤ a.length ∧ decide (a = b) = decide (a.drop i = b.drop i)) (fun i => a.length - i) 0 (by simp) ?_
    rintro i ⟨k1, k2⟩
    by_cases hi : i < a.length
    · have hi' : i < b.length := by omega
      rw [beq_drop hi hi'] at k2
      have hw := wi1 (i := i) (by omega)
      by_cases he : a[i] = b[i]
      · rw [decide_eq_true he, Bool.true_and] at k2
        simp [hi, hi', he, hw]
        exact rd (i + 1) ⟨hi, k2⟩
      · rw [decide_eq_false he, Bool.false_and] at k2
        rw [k2]
        simp [hi, hi', he]
    · have : i = a.length := by omega
      subst this
      have k3 : decide (a = b) = true := by rw [k2, List.drop_length, hl, List.drop_length]; rfl
      rw [k3]
      simp
  · have hl' : ¬ (a.length : Int) = b.length := by omega
    rw [decide_eq_false (len_ne hl)]
    simp [Tryz.f115, hl']
theorem c_equalInts (a b : List Int) (ha : a.length ≤ 1048576) (hb : b.length ≤ 1048576) : GoodC Tryz.prog 231 [.seq (a.map (.int .i64)), .seq (b.map (.int .i64))] (.bool (decide (a = b))) := by
  refine good_fn nf isF231 mix (by simp [Tryz.f231]) ?_
  by_cases hl : a.length = b.length
  · have hl' : (a.length : Int) = b.length := by omega
    simp [Tryz.f231, hl']
    refine lp (α := Nat) (fun i => ⟨[(13, .p (.int .i64 i)), (12, .p (.int .i64 b.length)), (1, .p (.seq (b.map (.int .i64)))), (0, .p (.seq (a.map (.int .i64))))], []⟩) (fun i => i ≤ a.length ∧ decide (a = b) = decide (a.drop i = b.drop i)) (fun i => a.length - i) 0 (by simp) ?_
    rintro i ⟨k1, k2⟩
    by_cases hi : i < a.length
    · have hi' : i < b.length := by omega
      rw [beq_drop hi hi'] at k2
      have hw := wi1 (i := i) (by omega)
      by_cases he : a[i] = b[i]
      · rw [decide_eq_true he, Bool.true_and] at k2
        simp [hi, hi', he, hw]
        exact rd (i + 1) ⟨hi, k2⟩
      · rw [decide_eq_false he, Bool.false_and] at k2
        rw [k2]
        simp [hi, hi', he]
    · have : i = a.length := by omega
      subst this
      have k3 : decide (a = b) = true := by rw [k2, List.drop_length, hl, List.drop_length]; rfl
      rw [k3]
      simp [hl]
  · have hl' : ¬ (a.length : Int) = b.length := by omega
    rw [decide_eq_false (len_ne hl)]
    simp [Tryz.f231, hl']
theorem row_ext (a b : RowD) : a = b ↔ a.key = b.key ∧ a.vals = b.vals := by cases a; cases b; simp
def rowB (r : RowD) : Prop := r.key.length ≤ 1048576 ∧ r.vals.length ≤ 1048576
def rowsB (l : List RowD) : Prop := l.length ≤ 1048576 ∧ ∀ r ∈ l, rowB r
def editB (e : EditD) : Prop := e.kind.length ≤ 1048576 ∧ rowB e.row
def editsB (l : List EditD) : Prop := l.length ≤ 1048576 ∧ ∀ e ∈ l, editB e
theorem c_sameRow (a b : RowD) (ha : rowB a) (hb : rowB b) : GoodC Tryz.prog 31 [eRow a, eRow b] (.bool (decide (a = b))) := by
  refine good_fn nf isF31 mix (by simp [Tryz.f31]) ?_
  rw [dec_iff (row_ext a b)]
  by_cases hk : a.key = b.key
  · simp [Tryz.f31, eRow, hk]
    refine c2 (c_sameInts a.vals b.vals ha.2 hb.2) ?_
    simp [hk]
  · simp [Tryz.f31, eRow, hk]
theorem c_sameRows (a b : List RowD) (ha : rowsB a) (hb : rowsB b) : GoodC Tryz.prog 56 [eRows a, eRows b] (.bool (decide (a = b))) := by
  refine good_fn nf isF56 mix (by simp [Tryz.f56]) ?_
  obtain ⟨ha, ha'⟩ := ha
  obtain ⟨hb, hb'⟩ := hb
  unfold eRows
  by_cases hl : a.length = b.length
  · have hl' : (a.length : Int) = b.length := by omega
    simp [Tryz.f56, hl']
    refine lp (α := Nat) (fun i => ⟨[(5, .p (.int .i64 i)), (1, .p (.seq (b.map eRow))), (0, .p (.seq (a.map eRow)))], []⟩) (fun i => i ≤ a.length ∧ decide (a = b) = decide (a.drop i = b.drop i)) (fun i => a.length - i) 0 (by simp) ?_
    rintro i ⟨k1, k2⟩
    by_cases hi : i < a.length
    · have hi' : i < b.length := by omega
      rw [beq_drop hi hi'] at k2
      have hw := wi1 (i := i) (by omega)
      simp [hi, hi']
      refine e2 (c_sameRow a[i] b[i] (ha' _ (List.getElem_mem hi)) (hb' _ (List.getElem_mem hi'))) ?_
      by_cases he : a[i] = b[i]
      · rw [decide_eq_true he, Bool.true_and] at k2
        simp [he, hw]
        exact rd (i + 1) ⟨hi, k2⟩
      · rw [decide_eq_false he, Bool.false_and] at k2
        rw [k2]
        simp [he]
    · have : i = a.length := by omega
      subst this
      have k3 : decide (a = b) = true := by rw [k2, List.drop_length, hl, List.drop_length]; rfl
      rw [k3]
      simp
  · have hl' : ¬ (a.length : Int) = b.length := by omega
    rw [decide_eq_false (len_ne hl)]
    simp [Tryz.f56, hl']
end Go.Abs
namespace Go.Abs
open Go.Proofs
def cst : List RowD → List RowD → Nat
  | [], b => b.length
  | x :: a, [] => a.length + 1
  | x :: a, y :: b => if x = y then min (1 + min (cst a (y :: b)) (cst (x :: a) b)) (cst a b) else 1 + min (cst a (y :: b)) (cst (x :: a) b)
  termination_by a b => a.length + b.length
def costC (a b : List RowD) (i k : Nat) : Int := cst (a.drop i) (b.drop k)
section table
variable (a b : List RowD)
def fullR (i : Nat) : List AV := (List.range (b.length + 1)).map fun k => .p (.int .i64 (costC a b i k))
def partR (i t : Nat) : List AV := (List.range (b.length + 1)).map fun k => .p (.int .i64 (if b.length + 1 ≤ k + t then costC a b i k else 0))
def outR (j : Nat) : List AV := (List.range (a.length + 1)).map fun p => if a.length + 1 ≤ p + j then .sl (a.length + 1 - p) 0 1 0 (b.length + 1) else .p .nsl
def rowsR (j : Nat) : Heap := (List.range j).map fun t => .arr .exact 0 1 (fullR a b (a.length - t))
def tabG (j : Nat) : Heap := .arr .exact 0 1 (outR a b j) :: rowsR a b j
def tabH (j : Nat) (cells : List AV) : Heap := .arr .exact 0 1 (outR a b (j + 1)) :: (rowsR a b j ++ [.arr .exact 0 1 cells])
variable {a b}
def tabN (a b : List RowD) (j : Nat) : Heap := tabG a b j ++ [.arr .exact 0 1 (List.replicate (b.length + 1) (.p (.int .i64 0)))]
end table
end Go.Abs
namespace Go.Abs
open Go.Proofs
def diffS : List RowD → List RowD → List EditD
  | [], [] => []
  | [], y :: b => ⟨kAdd, y⟩ :: diffS [] b
  | x :: a, [] => ⟨kDrop, x⟩ :: diffS a []
  | x :: a, y :: b =>
    if x = y ∧ cst (x :: a) (y :: b) = cst a b then ⟨kKeep, x⟩ :: diffS a b
    else if cst (x :: a) (y :: b) = 1 + cst a (y :: b) then ⟨kDrop, x⟩ :: diffS a (y :: b)
    else ⟨kAdd, y⟩ :: diffS (x :: a) b
  termination_by a b => a.length + b.length
section steps
variable {a b : List RowD} {i k : Nat}
end steps
end Go.Abs
namespace Go.Abs
open Go.Proofs
set_option maxHeartbeats 4000000
set_option maxRecDepth 100000
def rowL (a b : List RowD) (i : Nat) : List PV := (List.range (b.length + 1)).map fun k => .int .i64 (costC a b i k)
def tblL (a b : List RowD) : List PV := (List.range (a.length + 1)).map fun i => .seq (rowL a b i)
def tabPV (a b : List RowD) : PV := .seq (tblL a b)
end Go.Abs
namespace Go.Abs
open Go.Proofs
section table
variable {a b : List RowD}
def tabE (a b : List RowD) (l : List EditD) : Heap := tabG a b (a.length + 1) ++ [.arr .grow l.length 3 (l.map fun e => .p (eEdit e))]
end table
end Go.Abs
namespace Go.Abs
open Go.Proofs
set_option maxHeartbeats 4000000
theorem c_first (es : List Int) (h : es.length ≤ 1048576) : GoodC Tryz.prog 94 [.seq (es.map (.int .i64))] (.int .i64 (firstE es)) := by
  refine good_fn nf isF94 mix (by simp [Tryz.f94]) ?_
  simp [Tryz.f94]
  refine lp (α := Nat) (fun i => ⟨[(7, .p (.int .i64 i)), (6, .p (.int .i64 es.length)), (5, .p (.seq (es.map (.int .i64))))], []⟩) (fun i => i ≤ es.length ∧ firstE (es.drop i) = firstE es) (fun i => es.length - i) 0 (by simp) ?_
  rintro i ⟨h1, h2⟩
  simp
  by_cases hi : i < es.length
  · rw [List.drop_eq_getElem_cons hi] at h2
    have hw := wi1 (i := i) (by omega)
    simp [hi]
    by_cases he : es[i] = 0
    · simp [firstE, he] at h2
      simp [he, hw]
      exact rd (i + 1) ⟨hi, h2⟩
    · simp [firstE, he] at h2
      simp [he, ← h2]
  · have : i = es.length := by omega
    subst this
    simp [firstE] at h2
    simp [← h2]
theorem c_when (b : Bool) (e : Int) : GoodC Tryz.prog 102 [.bool b, .int .i64 e] (.int .i64 (whenE b e)) := by
  refine good_fn nf isF102 mix (by simp [Tryz.f102]) ?_
  cases b <;> simp [Tryz.f102, whenE]
theorem cls (c : Int) : (97 ≤ c ∧ c ≤ 122) ∨ (¬ 97 ≤ c ∧ 65 ≤ c ∧ c ≤ 90) ∨ (¬ 97 ≤ c ∧ ¬ 65 ≤ c ∧ ¬ 48 ≤ c ∧ ¬ c = 95) ∨ (¬ 97 ≤ c ∧ ¬ 65 ≤ c ∧ 48 ≤ c ∧ c ≤ 57 ∧ ¬ c = 95) ∨ (¬ 97 ≤ c ∧ ¬ 65 ≤ c ∧ 48 ≤ c ∧ ¬ c ≤ 57 ∧ ¬ c = 95) ∨
    (¬ 97 ≤ c ∧ 65 ≤ c ∧ ¬ c ≤ 90 ∧ 48 ≤ c ∧ ¬ c ≤ 57 ∧ c = 95) ∨ (¬ 97 ≤ c ∧ 65 ≤ c ∧ ¬ c ≤ 90 ∧ 48 ≤ c ∧ ¬ c ≤ 57 ∧ ¬ c = 95) ∨ (97 ≤ c ∧ ¬ c ≤ 122 ∧ 65 ≤ c ∧ ¬ c ≤ 90 ∧ 48 ≤ c ∧ ¬ c ≤ 57 ∧ ¬ c = 95) := by omega
theorem c_isLetter (c : Int) : GoodC Tryz.prog 233 [.int .i32 c] (.bool (isLet c)) := by
  refine good_fn nf isF233 mix (by simp [Tryz.f233]) ?_
  rcases cls c with ⟨a, b⟩ | ⟨a, b, d⟩ | ⟨a, b, d, e⟩ | ⟨a, b, d, e, f⟩ | ⟨a, b, d, e, f⟩ | ⟨a, b, d, e, f, g⟩ | ⟨a, b, d, e, f, g⟩ | ⟨a, b, d, e, f, g, h⟩ <;> simp [Tryz.f233, isLet, *]
theorem okN_drop {s : List Nat} {i : Nat} (hi : i < s.length) : okN i (s.drop i) = ((isLet s[i] || (decide (i ≠ 0) && (isDig s[i] || decide ((s[i] : Int) = 95)))) && okN (i + 1) (s.drop (i + 1))) := by
  rw [List.drop_eq_getElem_cons hi, okN]
theorem c_refIsName (s : List Nat) (h : s.length ≤ 1048576) : GoodC Tryz.prog 87 [.str s] (.bool (isName s)) := by
  refine good_fn nf isF87 mix (by simp [Tryz.f87]) ?_
  rcases lt_cases s.length 1 with ⟨g1, g1'⟩ | ⟨g1, g1'⟩
  · have : s.length = 0 := by omega
    simp [Tryz.f87, g1, isName, this]
  rcases lt_cases 24 s.length with ⟨g2, g2'⟩ | ⟨g2, g2'⟩
  · have : ¬ s.length ≤ 24 := by omega
    simp [Tryz.f87, g1, g2, isName, this]
  simp [Tryz.f87, g1, g2]
  have e0 : isName s = okN 0 s := by simp [isName]; omega
  refine lp (α := Nat) (fun i => ⟨[(3, .p (.int .i64 i)), (0, .p (.str s))], []⟩) (fun i => i ≤ s.length ∧ isName s = okN i (s.drop i)) (fun i => s.length - i) 0 (by simp [e0]) ?_
  rintro i ⟨k1, k2⟩
  by_cases hi : i < s.length
  · rw [okN_drop hi] at k2
    have hw := wi1 (i := i) (by omega)
    generalize hc : (s[i] : Int) = c at *
    by_cases h0 : i = 0
    · subst h0
      have hw1 : IntKind.i64.wrap 1 = 1 := wi64 1 (by omega) (by omega)
      rcases cls c with ⟨a, b⟩ | ⟨a, b, d⟩ | ⟨a, b, d, e⟩ | ⟨a, b, d, e, f⟩ | ⟨a, b, d, e, f⟩ | ⟨a, b, d, e, f, g⟩ | ⟨a, b, d, e, f, g⟩ | ⟨a, b, d, e, f, g, h⟩
      · simp [isLet, a, b] at k2
        simp [hi, hc, a, b, hw1]
        exact rd 1 ⟨hi, by simpa using k2⟩
      · simp [isLet, a, b, d] at k2
        simp [hi, hc, a, b, d, hw1]
        exact rd 1 ⟨hi, by simpa using k2⟩
      all_goals
        simp [isLet, *] at k2
        simp [hi, hc, *]
    · rcases cls c with ⟨a, b⟩ | ⟨a, b, d⟩ | ⟨a, b, d, e⟩ | ⟨a, b, d, e, f⟩ | ⟨a, b, d, e, f⟩ | ⟨a, b, d, e, f, g⟩ | ⟨a, b, d, e, f, g⟩ | ⟨a, b, d, e, f, g, h⟩
      · simp [isLet, a, b] at k2
        simp [hi, hc, a, b, hw]
        exact rd (i + 1) ⟨hi, k2⟩
      · simp [isLet, a, b, d] at k2
        simp [hi, hc, a, b, d, hw]
        exact rd (i + 1) ⟨hi, k2⟩
      · simp [isLet, isDig, a, b, d, e] at k2
        simp [hi, hc, h0, a, b, d, e, k2]
      · simp [isLet, isDig, a, b, d, e, h0] at k2
        simp [hi, hc, h0, a, b, d, e, hw]
        exact rd (i + 1) ⟨hi, k2⟩
      · simp [isLet, isDig, a, b, d, e, f] at k2
        simp [hi, hc, h0, a, b, d, e, f, k2]
      · subst g
        simp [isLet, isDig, h0] at k2
        simp [hi, hc, h0, hw]
        exact rd (i + 1) ⟨hi, k2⟩
      · simp [isLet, isDig, a, b, d, e, f, g] at k2
        simp [hi, hc, h0, a, b, d, e, f, g, k2]
      · simp [isLet, isDig, a, b, d, e, f, g, h] at k2
        simp [hi, hc, h0, a, b, d, e, f, g, h, k2]
  · have : i = s.length := by omega
    subst this
    simp [okN] at k2
    simp [k2]
end Go.Abs
namespace Go.Abs
open Go.Proofs
set_option maxHeartbeats 4000000
theorem toBA_size (s : List Nat) : (toBA s).size = s.length := by
  show (s.map UInt8.ofNat).toArray.size = _
  simp
theorem toBA_get (s : List Nat) (hb : ∀ c ∈ s, c < 256) (i : Nat) (h : i < s.length) (h' : i < (toBA s).size) : ((toBA s)[i]'h').toNat = s[i] := by
  have e : (toBA s)[i]'h' = UInt8.ofNat s[i] := by
    have : (toBA s)[i]'h' = (s.map UInt8.ofNat).toArray[i]'(by simpa using h) := rfl
    rw [this]; simp
  rw [e]
  have := hb s[i] (List.getElem_mem h)
  simp; omega
theorem dec_lo {s : List Nat} (hb : ∀ c ∈ s, c < 256) {i : Nat} (h : i < s.length) (ha : s[i] < 128) : Utf8.decode (toBA s) i = (s[i], 1) := by
  have h' : i < (toBA s).size := by rw [toBA_size]; exact h
  have e := toBA_get s hb i h h'
  rw [decode_ascii (toBA s) i h' (by rw [e]; exact ha), e]
theorem dec_hi {s : List Nat} (hb : ∀ c ∈ s, c < 256) {i : Nat} (h : i < s.length) (ha : ¬ s[i] < 128) : 128 ≤ (Utf8.decode (toBA s) i).1 ∧ 1 ≤ (Utf8.decode (toBA s) i).2 := by
  have h' : i < (toBA s).size := by rw [toBA_size]; exact h
  have e := toBA_get s hb i h h'
  exact decode_high (toBA s) i h' (by rw [e]; omega)
theorem c_isName (s : List Nat) (h : s.length ≤ 1048576) : GoodC Tryz.prog 178 [.str s] (.bool (isName s)) := by
  refine good_str fun hb => ?_
  have hb : ∀ c ∈ s, c < 256 := by simpa [strOkl, strOk] using hb
  refine good_fn nf isF178 mix (by simp [Tryz.f178]) ?_
  simp [Tryz.f178]
  refine lp (α := Nat) (fun i => ⟨[(6, .ptr 0 []), (0, .p (.str s))], [.siter s i]⟩) (fun i => i ≤ s.length ∧ okN 0 s = okN i (s.drop i)) (fun i => s.length - i) 0 (by simp) ?_
  rintro i ⟨k1, k2⟩
  by_cases hi : i < s.length
  · rw [okN_drop hi] at k2
    by_cases ha : s[i] < 128
    · have hd := dec_lo hb hi ha
      simp [hi, hd]
      refine c1 (c_isLetter _) ?_
      generalize hc : (s[i] : Int) = c at *
      by_cases h0 : i = 0
      · rcases cls c with ⟨a, b⟩ | ⟨a, b, d⟩ | ⟨a, b, d, e⟩ | ⟨a, b, d, e, f⟩ | ⟨a, b, d, e, f⟩ | ⟨a, b, d, e, f, g⟩ | ⟨a, b, d, e, f, g⟩ | ⟨a, b, d, e, f, g, h⟩
        · simp [isLet, a, b] at k2
          simp [isLet, a, b]
          exact rd (i + 1) ⟨hi, k2⟩
        · simp [isLet, a, b, d] at k2
          simp [isLet, a, b, d]
          exact rd (i + 1) ⟨hi, k2⟩
        all_goals
          simp [isLet, isName, *] at k2
          simp [isLet, isName, *]
      · rcases cls c with ⟨a, b⟩ | ⟨a, b, d⟩ | ⟨a, b, d, e⟩ | ⟨a, b, d, e, f⟩ | ⟨a, b, d, e, f⟩ | ⟨a, b, d, e, f, g⟩ | ⟨a, b, d, e, f, g⟩ | ⟨a, b, d, e, f, g, h⟩
        · simp [isLet, a, b] at k2
          simp [isLet, a, b]
          exact rd (i + 1) ⟨hi, k2⟩
        · simp [isLet, a, b, d] at k2
          simp [isLet, a, b, d]
          exact rd (i + 1) ⟨hi, k2⟩
        · simp [isLet, isDig, a, b, d, e] at k2
          have d2 : c < 48 := by omega
          simp [isLet, isName, a, b, e, h0, d2, k2]
        · simp [isLet, isDig, a, b, d, e, f, h0] at k2
          have d2 : ¬ c < 48 := by omega
          have e2 : ¬ 57 < c := by omega
          simp [isLet, a, b, d2, e2, f, h0]
          exact rd (i + 1) ⟨hi, k2⟩
        · simp [isLet, isDig, a, b, d, e, f] at k2
          have d2 : ¬ c < 48 := by omega
          have e2 : 57 < c := by omega
          simp [isLet, isName, a, b, d2, e2, f, h0, k2]
        · subst g
          simp [isLet, isDig, h0] at k2
          simp [isLet, h0]
          exact rd (i + 1) ⟨hi, k2⟩
        · simp [isLet, isDig, a, b, d, e, f, g] at k2
          have d2 : ¬ c < 48 := by omega
          have e2 : 57 < c := by omega
          simp [isLet, isName, a, b, d, d2, e2, g, h0, k2]
        · simp [isLet, isDig, a, b, d, e, f, g, h] at k2
          have d2 : ¬ c < 48 := by omega
          have e2 : 57 < c := by omega
          simp [isLet, isName, a, b, d, e, d2, e2, h, h0, k2]
    · obtain ⟨hd, _⟩ := dec_hi hb hi ha
      have hl : isLet (s[i] : Int) = false := by simp [isLet]; omega
      have hg : isDig (s[i] : Int) = false := by simp [isDig]; omega
      have h95 : ¬ (s[i] : Int) = 95 := by omega
      simp [hl, hg, h95] at k2
      rcases hdd : Utf8.decode (toBA s) i with ⟨c, d⟩
      rw [hdd] at hd
      have hl2 : isLet (c : Int) = false := by simp [isLet]; omega
      have h1 : ¬ (c : Int) = 95 := by omega
      have h2 : ¬ (c : Int) < 48 := by omega
      have h3 : 57 < (c : Int) := by omega
      simp [hi, hdd]
      refine c1 (c_isLetter _) ?_
      by_cases h0 : i = 0
      · simp [hl2, h0, isName, k2]
      · simp [hl2, h0, h1, h2, h3, isName, k2]
  · have : i = s.length := by omega
    subst this
    simp [okN] at k2
    cases hs : s with
    | nil => simp [isName]
    | cons a r =>
      rw [hs] at k2
      rcases lt_cases 24 s.length with ⟨g, g'⟩ | ⟨g, g'⟩
      · rw [hs] at g g'
        have : ¬ (r.length + 1) ≤ 24 := by simp at g; omega
        simp at g'
        simp [isName, k2, this]
        omega
      · rw [hs] at g g'
        have : (r.length + 1) ≤ 24 := by simp at g'; omega
        simp at g'
        simp [isName, k2, this]
        omega
end Go.Abs
namespace Go.Abs
open Go.Proofs
set_option maxHeartbeats 4000000
set_option maxRecDepth 100000
theorem c_named (s : List Nat) (h : s.length ≤ 1048576) : GoodC Tryz.prog 95 [.str s] (.int .i64 (whenE (!isName s) 8)) := by
  refine good_fn nf isF95 mix (by simp [Tryz.f95]) ?_
  simp [Tryz.f95]
  refine c1 (c_isName s h) ?_
  simp
  refine c2 (c_when _ _) ?_
  simp
theorem c_out (n lo hi : Int) : GoodC Tryz.prog 122 [.int .i64 n, .int .i64 lo, .int .i64 hi] (.bool (decide (n < lo) || decide (n > hi))) := by
  refine good_fn nf isF122 mix (by simp [Tryz.f122]) ?_
  by_cases h1 : n < lo <;> by_cases h2 : hi < n <;> simp [Tryz.f122, h1, h2]
def idxFrom {α : Type} (p : α → Bool) : List α → Nat → Int
  | [], _ => -1
  | x :: r, i => if p x then (i : Int) else idxFrom p r (i + 1)
end Go.Abs
namespace Go.Abs
open Go.Proofs
set_option maxHeartbeats 4000000
set_option maxRecDepth 100000
def keyIs (k : List Nat) (r : RowD) : Bool := decide (r.key = k)
theorem c_find (l : List RowD) (k : List Nat) (h : l.length ≤ 1048576) : GoodC Tryz.prog 30 [.seq (l.map eRow), .str k] (.int .i64 (idxFrom (keyIs k) l 0)) := by
  refine good_fn nf isF30 mix (by simp [Tryz.f30]) ?_
  simp [Tryz.f30]
  refine lp (α := Nat) (fun i => ⟨[(5, .p (.int .i64 i)), (1, .p (.str k)), (0, .p (.seq (l.map eRow)))], []⟩) (fun i => i ≤ l.length ∧ idxFrom (keyIs k) l 0 = idxFrom (keyIs k) (l.drop i) i) (fun i => l.length - i) 0 (by simp) ?_
  rintro i ⟨k1, k2⟩
  by_cases hi : i < l.length
  · rw [List.drop_eq_getElem_cons hi, idxFrom] at k2
    have hw := wi1 (i := i) (by omega)
    by_cases hk : l[i].key = k
    · have e : keyIs k l[i] = true := by simp [keyIs, hk]
      rw [e, if_pos rfl] at k2
      rw [k2]
      simp [hi, eRow, hk]
    · have e : keyIs k l[i] = false := by simp [keyIs, hk]
      rw [e] at k2
      simp [hi, eRow, hk, hw]
      exact rd (i + 1) ⟨hi, by simpa using k2⟩
  · have : i = l.length := by omega
    subst this
    rw [List.drop_length, idxFrom] at k2
    rw [k2]
    simp
end Go.Abs
namespace Go.Abs
open Go.Proofs
set_option maxHeartbeats 4000000
set_option maxRecDepth 100000
def seenE (ks : List (List Nat)) : List (PV × PV) := ks.map fun k => (.str k, .bool true)
end Go.Abs
namespace Go.Abs
open Go.Proofs
set_option maxHeartbeats 4000000
set_option maxRecDepth 100000
theorem c_own (l : List RowD) (h : l.length ≤ 1048576) : GoodC Tryz.prog 29 [.seq (l.map eRow)] (.seq (l.map eRow)) := by
  refine good_fn nf isF29 mix (by simp [Tryz.f29]) ?_
  simp [Tryz.f29]
  refine lp (α := Nat) (fun i => ⟨[(8, .p (.int .i64 i)), (7, .p (.int .i64 l.length)), (6, .p (.seq (l.map eRow))), (3, .sl 0 i 2 0 i)], [.arr .grow i 2 ((l.map fun r => .p (eRow r)).take i)]⟩) (fun i => i ≤ l.length) (fun i => l.length - i) 0 (by simp) ?_
  rintro i k1
  by_cases hi : i < l.length
  · have hw := wi1 (i := i) (by omega)
    have ht := take_next (fun r => AV.p (eRow r)) hi
    simp [hi]
    refine ⟨⟨by omega, by simp [maxL]; omega⟩, ?_⟩
    exact rd (i + 1) hi (he := by simp [hw]) (hh := by simp [ht]) (hr2 := by simp [ht])
  · have : i = l.length := by omega
    subst this
    simp
end Go.Abs
namespace Go.Abs
open Go.Proofs
set_option maxHeartbeats 4000000
set_option maxRecDepth 100000
theorem shp_map {α : Type} {sz : Nat} {f : α → AV} {l : List α} (h : ∀ x, shpA (f x) ≠ .bad ∧ shpSize Tryz.prog (shpA (f x)) = sz) : allShp Tryz.prog sz (l.map f) := by
  rw [allShp_iff]; intro v hv; simp only [List.mem_map] at hv; obtain ⟨x, _, rfl⟩ := hv; exact h x
theorem c_clone (l : List Int) (h : l.length ≤ 1048576) : GoodC Tryz.prog 158 [.seq (l.map (.int .i64))] (.seq (l.map (.int .i64))) := by
  cases l with
  | nil =>
    refine .inl (goodP_seq_nil (pre := []) (post := []) ?_ ?_)
    · refine goodP_fn nf isF158 mix (by simp [Tryz.f158]) ?_
      simp [Tryz.f158]
    · refine goodP_fn nf isF158 mix (by simp [Tryz.f158]) ?_
      simp [Tryz.f158, maxL]
  | cons a r =>
    refine good_fn nf isF158 mix (by simp [Tryz.f158]) ?_
    simp at h
    simp [Tryz.f158]
    exact ⟨shp_map (by simp), by simp [maxL]; omega⟩
theorem c_copied (r : RowD) (h : rowB r) : GoodC Tryz.prog 141 [eRow r] (eRow r) := by
  refine good_fn nf isF141 mix (by simp [Tryz.f141]) ?_
  simp [Tryz.f141, eRow]
  refine e1 (c_clone r.vals h.2) ?_
  simp
def invK (k : List Nat) : List Nat := if k = kAdd then kDrop else if k = kDrop then kAdd else k
def inv (e : EditD) : EditD := ⟨invK e.kind, e.row⟩
def invertS (l : List EditD) : List EditD := if chkEdits l = 0 then l.map inv else []
end Go.Abs
namespace Go.Abs
open Go.Proofs
set_option maxHeartbeats 4000000
set_option maxRecDepth 100000
@[simp] theorem allP_mapc {α : Type} {f : α → PV} : ∀ {l : List α}, allP (l.map fun x => .p (f x)) = some (l.map f)
  | [] => rfl
  | a :: l => by simp [allP, allP_mapc (l := l)]
def patchGo : List RowD → List RowD → List EditD → Option (List RowD × List RowD)
  | rest, out, [] => some (rest, out)
  | rest, out, e :: l =>
    if e.kind = kAdd then patchGo rest (out ++ [e.row]) l
    else match rest with
      | r :: rs => if r = e.row then patchGo rs (if e.kind = kDrop then out else out ++ [e.row]) l else none
      | [] => none
def patchEnd : Option (List RowD × List RowD) → List RowD × Int
  | none => ([], 29)
  | some (rest, out) => if rest ≠ [] then ([], 24) else if chkRows out ≠ 0 then ([], chkRows out) else (out, 0)
def patchC (a : List RowD) (l : List EditD) : List RowD × Int := patchEnd (patchGo a [] l)
def patchS (a : List RowD) (l : List EditD) : List RowD × Int := if firstE [chkRows a, chkEdits l] ≠ 0 then ([], firstE [chkRows a, chkEdits l]) else patchC a l
end Go.Abs
namespace Go.Abs
open Go.Proofs
set_option maxHeartbeats 4000000
set_option maxRecDepth 100000
theorem first2 {x y : Int} : firstE [x, y] = 0 ↔ x = 0 ∧ y = 0 := by
  simp only [firstE]
  by_cases h : x = 0 <;> by_cases h2 : y = 0 <;> simp [h, h2]
end Go.Abs
namespace Go.Abs
open Go.Proofs
def okRow (r : RowD) : Prop := isName r.key = true ∧ chkVals r.vals = 0
theorem first3 {x y z : Int} : firstE [x, y, z] = 0 ↔ x = 0 ∧ y = 0 ∧ z = 0 := by
  simp only [firstE]; repeat' split
  all_goals (first | (constructor <;> (intro h; omega)) | omega)
theorem when0 {b : Bool} {e : Int} (he : e ≠ 0) : whenE b e = 0 ↔ b = false := by cases b <;> simp [whenE, he]
inductive Leads : List RowD → List EditD → List RowD → Nat → Prop
  | nil : Leads [] [] [] 0
  | keep {a l b n} (r : RowD) (h : Leads a l b n) : Leads (r :: a) (⟨kKeep, r⟩ :: l) (r :: b) n
  | drop {a l b n} (r : RowD) (h : Leads a l b n) : Leads (r :: a) (⟨kDrop, r⟩ :: l) b (n + 1)
  | add {a l b n} (r : RowD) (h : Leads a l b n) : Leads a (⟨kAdd, r⟩ :: l) (r :: b) (n + 1)
theorem Leads.inv {a l b n} (h : Leads a l b n) : Leads b (l.map inv) a n := by
  induction h with
  | nil => exact .nil
  | keep r h ih => simpa [Go.Abs.inv, invK, kKeep, kAdd, kDrop] using Leads.keep r ih
  | drop r h ih => simpa [Go.Abs.inv, invK, kAdd, kDrop] using Leads.add r ih
  | add r h ih => simpa [Go.Abs.inv, invK, kAdd, kDrop] using Leads.drop r ih
def costE : List EditD → Nat
  | [] => 0
  | e :: l => (if e.kind = kKeep then 0 else 1) + costE l
end Go.Abs
namespace Go.Abs
open Go.Proofs
def look : List RowD → List Nat → Option (List Int)
  | [], _ => none
  | r :: l, k => if r.key = k then some r.vals else look l k
def keysOf (l : List RowD) : List (List Nat) := l.map (·.key)
def agreeS (a b : List RowD) (k : List Nat) : Bool := decide (look a k = look b k)
def allK (a b : List RowD) : List (List Nat) := keysOf a ++ (keysOf b).filter fun k => !(keysOf a).contains k
def srcS (base a b : List RowD) (k : List Nat) : List RowD := if look a k ≠ look b k ∧ look a k = look base k then b else a
def confS (base a b : List RowD) (k : List Nat) : Bool := decide (look a k ≠ look b k ∧ look a k ≠ look base k ∧ look b k ≠ look base k)
def rowAt (l : List RowD) (k : List Nat) : Option RowD := (look l k).map fun v => ⟨k, v⟩
def outS (base a b : List RowD) : List RowD := (allK a b).filterMap fun k => rowAt (srcS base a b k) k
def sLess : List Nat → List Nat → Bool
  | _, [] => false
  | [], _ :: _ => true
  | a :: x, b :: y => decide (a < b) || (a == b && sLess x y)
def insS : List (List Nat) → List Nat → List (List Nat)
  | [], k => [k]
  | x :: l, k => if sLess x k then x :: insS l k else k :: x :: l
def Asc (l : List (List Nat)) : Prop := l.Pairwise fun x y => sLess y x = false
def sortS (l : List (List Nat)) : List (List Nat) := l.foldl insS []
end Go.Abs
namespace Go.Abs
open Go.Proofs
section merge
variable {base a b : List RowD}
def confL (base a b : List RowD) : List (List Nat) := sortS ((allK a b).filter (confS base a b))
end merge
end Go.Abs
namespace Go.Abs
open Go.Proofs
set_option maxHeartbeats 4000000
set_option maxRecDepth 100000
structure BookD where
  name : List Nat
  rows : List RowD
  deriving DecidableEq
def eBook (b : BookD) : PV := .st 23 [.str b.name, .seq (b.rows.map eRow)]
def rBook (b : BookD) : PV := .st 26 [.str b.name, .seq (b.rows.map eRow)]
def bookB (b : BookD) : Prop := b.name.length ≤ 1048576 ∧ rowsB b.rows
def chkBook (b : BookD) : Int := firstE [whenE (!isName b.name) 8, chkRows b.rows]
def shortBook (b : BookD) (n : Nat) : Bool := decide (b.name.length ≤ 60) && shortRows b.rows n
def eWs (l : List (List Nat)) : PV := .seq (l.map .str)
end Go.Abs
namespace Go.Abs
def splAux (c : Nat) : List Nat → List Nat → List (List Nat)
  | cur, [] => [cur]
  | cur, x :: s => if x = c then cur :: splAux c [] s else splAux c (cur ++ [x]) s
def spl (c : Nat) (s : List Nat) : List (List Nat) := splAux c [] s
def decV (a c : Nat) : Nat := a * 10 + (c - 48)
def valsT (l : List Int) : List Nat := joinN [44] (l.map itoaN)
end Go.Abs
namespace Go.Abs
open Go.Proofs
set_option maxHeartbeats 4000000
set_option maxRecDepth 100000
def inI (n : Int) : Prop := -9223372036854775808 ≤ n ∧ n ≤ 9223372036854775807
end Go.Abs
namespace Go.Abs
open Go.Proofs
set_option maxHeartbeats 4000000
set_option maxRecDepth 100000
def rowsE (l : List RowD) : List (PV × PV) := l.map fun r => (.str r.key, eRow r)
end Go.Abs
namespace Go.Abs
open Go.Proofs
set_option maxHeartbeats 4000000
set_option maxRecDepth 100000
def heldE (o : Option (List Int)) : PV := .st 293 [.bool o.isSome, .str (valsT (o.getD []))]
def rowsI (l : List RowD) : Prop := ∀ r ∈ l, ∀ n ∈ r.vals, inI n
theorem idx_look (k : List Nat) : ∀ (l : List RowD) (j : Nat), (look l k = none ∧ idxFrom (keyIs k) l j = -1) ∨ ∃ i, ∃ h : i < l.length, idxFrom (keyIs k) l j = (j : Int) + i ∧ look l k = some l[i].vals ∧ l[i].key = k
  | [], j => .inl ⟨rfl, rfl⟩
  | r :: l, j => by
    simp only [idxFrom, keyIs, look]
    by_cases h : r.key = k
    · right
      refine ⟨0, by simp, ?_⟩
      simp [h]
    · rcases idx_look k l (j + 1) with ⟨h1, h2⟩ | ⟨i, hi, h1, h2, h3⟩
      · left
        simp [h, h1, h2]
      · right
        refine ⟨i + 1, by simpa using hi, ?_⟩
        simp [h, h1, h2, h3]; omega
@[simp] theorem u8_eq : (Gl.u8 : TypeId) = 5 := rfl
@[simp] theorem shp_strs {l : List (List Nat)} : allShp Tryz.prog 1 (List.map (AV.p ∘ PV.str) l) := shp_map fun x => ⟨by simp [shpA, shp], by simp [shpA, shp, shpSize]⟩
@[simp] theorem shp_strs_take {l : List (List Nat)} {i : Nat} : allShp Tryz.prog 1 (List.take i (List.map (AV.p ∘ PV.str) l)) := by
  rw [allShp_iff]; intro v hv; exact (allShp_iff.1 shp_strs) v (List.mem_of_mem_take hv)
@[simp] theorem shp_strs_drop {l : List (List Nat)} {i : Nat} : allShp Tryz.prog 1 (List.drop i (List.map (AV.p ∘ PV.str) l)) := by
  rw [allShp_iff]; intro v hv; exact (allShp_iff.1 shp_strs) v (List.mem_of_mem_drop hv)
def insAt (k : List Nat) : List (List Nat) → Nat
  | [] => 0
  | x :: l => if sLess x k then insAt k l + 1 else 0
end Go.Abs
namespace Go.Abs
open Go.Proofs
set_option maxHeartbeats 4000000
set_option maxRecDepth 100000
def kTo (a b : List RowD) (i : Nat) : List (List Nat) := keysOf (a.take i) ++ (keysOf (b.take (i - a.length))).filter fun k => !(keysOf a).contains k
def resS (x a b : List RowD) (n : List Nat) : PV :=
  if (outS x a b).length > 256 then .tup [rBook ⟨[], []⟩, .seq [], .int .i64 5] else .tup [rBook ⟨n, outS x a b⟩, .seq ((confL x a b).map .str), .int .i64 0]
section
variable (x a b : List RowD) (xn an bn : List Nat) (ver : Nat) (C : List AV)
def mH (out : List RowD) : Heap := [.box false (.p (.st 26 [.str xn, .seq (x.map eRow)])), .box false (.p (.st 26 [.str an, .seq (a.map eRow)])), .box false (.p (.st 26 [.str bn, .seq (b.map eRow)])),
  .box false (.p (.st 26 [.str [], .nsl])), .box false (.st 26 [.p (.str an), .sl 7 out.length 2 0 out.length]), .hole, .arr .grow ver 2 C, .arr .grow out.length 2 (out.map (AV.p ∘ eRow))]
structure MKeep (i : Nat) (out : List RowD) (s : St) : Prop where
  e3 : getE s.env 3 = .ptr 0 []
  e4 : getE s.env 4 = .ptr 1 []
  e5 : getE s.env 5 = .ptr 2 []
  e6 : getE s.env 6 = .ptr 3 []
  e9 : getE s.env 9 = .ptr 4 []
  e11 : getE s.env 11 = .sl 6 ver 2 0 (a.length + b.length)
  e12 : getE s.env 12 = .p (.int .i64 i)
  hp : s.heap = mH x a b xn an bn ver C out
end
end Go.Abs
namespace Go.Proofs
open Go.Shelf
def Tryz.lays190_ren : Go.Shelf.Ren := ⟨fun | 190 => 163 | 125 => 222 | 258 => 221 | 128 => 270 | 129 => 271 | 302 => 261 | 303 => 262 | 304 => 263 | 305 => 264 | 306 => 265 | 307 => 266 | 308 => 267 | 309 => 268 | 310 => 269 | 333 => 300 | 329 => 301 | 330 => 302 | 334 => 303 | 335 => 304 | 336 => 247 | 344 => 322 | n => n, fun | 31 => 44 | 9 => 9 | 3 => 3 | 46 => 261 | 0 => 0 | 51 => 317 | 53 => 320 | 4 => 4 | 183 => 351 | 182 => 350 | 131 => 286 | 5 => 5 | 218 => 378 | 222 => 382 | 228 => 397 | 229 => 398 | n => n, fun | n => n⟩
end Go.Proofs
namespace Go.Abs
open Go.Proofs
set_option maxHeartbeats 4000000
set_option maxRecDepth 100000
def resP (x a b : List RowD) (n : List Nat) : PV :=
  if (outS x a b).length > 256 then .tup [eBook ⟨[], []⟩, .seq [], .int .i64 5] else .tup [eBook ⟨n, outS x a b⟩, .seq ((confL x a b).map .str), .int .i64 0]
theorem ft_held : fieldT Tryz.prog 294 0 = some (293, .leaf) := by kernel_rfl
@[simp] theorem fv_held {b : Bool} {s : PV} : fieldV Tryz.prog 294 0 (.p (.st 293 [.bool b, s])) = some (True, { v := .p (.bool b) }) := by
  rw [fieldV_st ft_held]
  simp [shp]
theorem so_held : Tryz.prog.stoodInHeld 294 = false := by kernel_rfl
@[simp] theorem eo_held : eqOk Tryz.prog 294 = true := by kernel_rfl
def heldC (p : Bool) (s : List Nat) (q : Bool) (t : List Nat) : Bool := decide (p = q ∧ s = t)
@[simp] theorem eq_held {p q : Bool} {s t : List Nat} : eqT Tryz.prog 9 294 (.st 293 [.bool p, .str s]) (.st 293 [.bool q, .str t]) = some (heldC p s q t) := by
  have hu := Tryz.underlying294
  have : ((p == q) && ((s == t) && true)) = heldC p s q t := by
    rw [heldC, Bool.eq_iff_iff]; simp
  rw [← this]
  simp [eqT, hu, so_held, eqTs, shp]
section
variable (x a b : List RowD) (xn an bn : List Nat)
def pH (ks cs : List (List Nat)) (out : List RowD) : Heap := [.box false (.p (.st 23 [.str xn, .seq (x.map eRow)])), .box false (.p (.st 23 [.str an, .seq (a.map eRow)])), .box false (.p (.st 23 [.str bn, .seq (b.map eRow)])),
  .box false (.p (.st 23 [.str [], .nsl])), .box false (.st 23 [.p (.str an), .sl 7 out.length 2 0 out.length]), .arr .grow ks.length 1 (ks.map (AV.p ∘ PV.str)), .arr .grow cs.length 1 (cs.map (AV.p ∘ PV.str)), .arr .grow out.length 2 (out.map (AV.p ∘ eRow))]
end
end Go.Abs
namespace Go.Abs
open Go.Proofs
set_option maxHeartbeats 4000000
set_option maxRecDepth 100000
@[simp] theorem shp_eBook {b : BookD} : shp (eBook b) = .agg 23 := rfl
@[simp] theorem shp_rBook {b : BookD} : shp (rBook b) = .agg 26 := rfl
def mergeC (x a b : BookD) : BookD × List (List Nat) × Int :=
  if (outS x.rows a.rows b.rows).length > 256 then (⟨[], []⟩, [], 5) else (⟨a.name, outS x.rows a.rows b.rows⟩, confL x.rows a.rows b.rows, 0)
def mergeV (x a b : BookD) : BookD × List (List Nat) × Int :=
  if firstE [chkBook x, chkBook a, chkBook b] ≠ 0 then (⟨[], []⟩, [], firstE [chkBook x, chkBook a, chkBook b]) else mergeC x a b
end Go.Abs
namespace Go.Abs
open Go.Proofs
set_option maxHeartbeats 4000000
set_option maxRecDepth 100000
theorem splAux_at {c : Nat} {s : List Nat} {i : Nat} (hi : i < s.length) (cur : List Nat) : splAux c cur (s.drop i) = if s[i] = c then cur :: splAux c [] (s.drop (i + 1)) else splAux c (cur ++ [s[i]]) (s.drop (i + 1)) := by
  rw [List.drop_eq_getElem_cons hi, splAux]
theorem cut_next {s : List Nat} {j i : Nat} (hj : j ≤ i) (hi : i < s.length) : (s.drop j).take (i - j) ++ [s[i]] = (s.drop j).take (i + 1 - j) := by
  have e : i + 1 - j = (i - j) + 1 := by omega
  have h : i - j < (s.drop j).length := by simp; omega
  rw [e, List.take_succ_eq_append_getElem h]
  congr 2
  rw [List.getElem_drop]
  congr 1; omega
theorem c_splitR (s : List Nat) (c : Nat) (h : s.length ≤ 1048576) (hc : c < 256) : GoodC Tryz.prog 109 [.str s, .int .u8 c] (.seq ((spl c s).map .str)) := by
  refine good_fn nf isF109 mix (by simp [Tryz.f109]) ?_
  simp [Tryz.f109]
  refine lp (α := Nat × Nat × List (List Nat)) (fun (i, j, out) => ⟨[(7, .p (.int .i64 i)), (6, .p (.int .i64 j)), (5, .sl 0 out.length 1 0 out.length), (1, .p (.int .u8 c)), (0, .p (.str s))], [.arr .grow out.length 1 (out.map fun x => .p (.str x))]⟩)
    (fun (i, j, out) => j ≤ i ∧ out.length ≤ i ∧ ((i ≤ s.length ∧ out ++ splAux c ((s.drop j).take (i - j)) (s.drop i) = spl c s) ∨ (i = s.length + 1 ∧ out = spl c s))) (fun (i, _) => s.length + 1 - i) (0, 0, []) (by simp [spl]) ?_
  rintro ⟨i, j, out⟩ ⟨h1, h2, h3⟩
  dsimp only at h1 h2 h3 ⊢
  have hw := wi1 (i := i) (by omega)
  rcases h3 with ⟨h3, h4⟩ | ⟨h3, h4⟩
  · have q1 : (i : Int) ≤ (s.length : Int) := by omega
    by_cases hi : i < s.length
    · have q2 : ¬ (i : Int) = (s.length : Int) := by omega
      rw [splAux_at hi] at h4
      have hcut := cut_next h1 hi
      by_cases he : s[i] = c
      · rw [if_pos he] at h4
        have he' : ((s[i] : Nat) : Int) = (c : Int) := by rw [he]
        simp [q1, q2, hi, he', hw]
        refine ⟨⟨by omega, h1⟩, by simp only [maxL]; omega, ?_⟩
        have hd : (s.take i).drop j = (s.drop j).take (i - j) := by rw [List.drop_take]
        exact rd (i + 1, i + 1, out ++ [(s.drop j).take (i - j)]) ⟨by dsimp only; omega, by simp; omega, .inl ⟨hi, by simpa using h4⟩⟩ (h1 := by dsimp only; omega) (hh := by simp [hd])
      · rw [if_neg he, hcut] at h4
        have he' : ¬ ((s[i] : Nat) : Int) = (c : Int) := by omega
        simp [q1, q2, hi, he', hw]
        exact rd (i + 1, j, out) ⟨by dsimp only; omega, by dsimp only; omega, .inl ⟨hi, h4⟩⟩ (h1 := by dsimp only; omega)
    · have hi : i = s.length := by omega
      subst hi
      have q2 : (s.length : Int) ≤ (s.length : Int) := by omega
      rw [List.drop_length, splAux, List.take_of_length_le (by simp)] at h4
      simp [hw]
      refine ⟨h1, by simp only [maxL]; omega, ?_⟩
      exact rd (s.length + 1, s.length + 1, out ++ [s.drop j]) ⟨by dsimp only; omega, by simp; omega, .inr ⟨rfl, h4⟩⟩ (h1 := by dsimp only; omega)
  · subst h3
    have q1 : ¬ ((s.length : Int) + 1 ≤ (s.length : Int)) := by omega
    simp [q1, h4]
end Go.Abs
namespace Go.Abs
def low : Nat → Nat → List Nat
  | 0, _ => []
  | i + 1, n => (48 + n / 10 ^ i % 10) :: low i n
def nd (n : Nat) : Nat := if h : n = 0 then 0 else nd (n / 10) + 1
  decreasing_by omega
def d9 (n : Nat) : List Nat := if h : n = 0 then [] else n % 10 ^ 9 :: d9 (n / 10 ^ 9)
  decreasing_by omega
end Go.Abs
namespace Go.Abs
open Go.Proofs
set_option maxHeartbeats 4000000
set_option maxRecDepth 100000
def eInt (neg : Bool) (l : List Nat) : PV := .st 345 [.bool neg, .seq (l.map fun (x : Nat) => .int .i64 x)]
end Go.Abs
namespace Go.Abs
open Go.Proofs
set_option maxHeartbeats 4000000
set_option maxRecDepth 100000
def rowT (r : RowD) : List Nat := r.key ++ (32 :: (valsT r.vals ++ [10]))
def rowsT (l : List RowD) : List Nat := l.flatMap rowT
def bookT (b : BookD) : List Nat := [98, 111, 111, 107, 32] ++ b.name ++ [10] ++ rowsT b.rows
def bookT0 (b : BookD) (i : Nat) : List Nat := [98, 111, 111, 107, 32] ++ b.name ++ [10] ++ rowsT (b.rows.take i)
def printS (b : BookD) : List Nat × Int := if 4096 < (bookT b).length then ([], 26) else (bookT b, 0)
end Go.Abs
namespace Go.Abs
open Go.Proofs
set_option maxHeartbeats 4000000
set_option maxRecDepth 100000
def digN (c : Nat) : Bool := decide (48 ≤ c) && decide (c ≤ 57)
def numT (s : List Nat) : Nat := s.foldl decV 0
def plainN (s : List Nat) : Bool := !decide (s.length = 0) && !decide (9 < s.length) && !(decide (1 < s.length) && decide (s.head? = some 48)) && s.all digN
def intR (s : List Nat) : Int × Bool := if plainN s = true then (numT s, true) else (0, false)
theorem wu8 (n : Int) (h1 : 0 ≤ n) (h2 : n < 256) : IntKind.u8.wrap n = n := by
  simp only [IntKind.wrap, IntKind.bits, IntKind.signed, Bool.false_and, Bool.false_eq_true, if_false]
  omega
theorem numT_snoc (s : List Nat) (c : Nat) : numT (s ++ [c]) = numT s * 10 + (c - 48) := by simp [numT, decV]
theorem numT_lt : ∀ (n : Nat) (s : List Nat), s.length = n → s.all digN = true → numT s < 10 ^ n
  | 0, s, h, _ => by have : s = [] := List.length_eq_zero_iff.1 h
                     subst this; simp [numT]
  | n + 1, s, h, ha => by
    have hne : s ≠ [] := by intro e; subst e; simp at h
    obtain ⟨t, c, rfl⟩ : ∃ t c, s = t ++ [c] := ⟨s.dropLast, s.getLast hne, (List.dropLast_concat_getLast hne).symm⟩
    simp only [List.all_append, List.all_cons, List.all_nil, Bool.and_true, Bool.and_eq_true] at ha
    have ih := numT_lt n t (by simpa using h) ha.1
    have hc := ha.2
    simp only [digN, Bool.and_eq_true, decide_eq_true_eq] at hc
    rw [numT_snoc, Nat.pow_succ]; omega
theorem c_integerR (s : List Nat) (h : s.length ≤ 1048576) (hb : ∀ c ∈ s, c < 256) : GoodC Tryz.prog 188 [.str s] (.tup [.int .i64 (intR s).1, .bool (intR s).2]) := by
  refine good_fn nf isF188 mix (by simp [Tryz.f188]) ?_
  by_cases h0 : s.length = 0
  · have e : plainN s = false := by simp [plainN, h0]
    simp [Tryz.f188, h0, intR, e]
  by_cases h9 : 9 < s.length
  · have e : plainN s = false := by simp [plainN, h9]
    have h0' : ¬ (s.length : Int) = 0 := by omega
    have h9' : (9 : Int) < (s.length : Int) := by omega
    simp [Tryz.f188, h0, h0', h9, h9', intR, e]
  have h0' : ¬ (s.length : Int) = 0 := by omega
  have h9' : ¬ (9 : Int) < (s.length : Int) := by omega
  have hp : 0 < s.length := by omega
  have hh : s.head? = some s[0] := by rw [List.head?_eq_getElem?, List.getElem?_eq_getElem hp]
  by_cases hz : 1 < s.length ∧ s[0] = 48
  · have e : plainN s = false := by simp [plainN, hh, hz.1, hz.2]
    have h1' : (1 : Int) < (s.length : Int) := by omega
    simp [Tryz.f188, h0, h0', h9, h9', h1', hz.1, hz.2, hp, intR, e]
  have hall : plainN s = s.all digN := by
    have : ¬ (1 < s.length ∧ s.head? = some 48) := by rw [hh]; intro h; exact hz ⟨h.1, by injection h.2⟩
    have h3 : (!(decide (1 < s.length) && decide (s.head? = some 48))) = true := by
      rw [Bool.not_eq_true', Bool.and_eq_false_iff, decide_eq_false_iff_not, decide_eq_false_iff_not]
      exact Decidable.not_and_iff_or_not.1 this
    simp only [plainN, h3, h0, h9, decide_false, Bool.not_false, Bool.true_and]
  have loop : 1 < s.length ∧ ¬ s[0] = 48 ∨ ¬ 1 < s.length := by
    by_cases h : 1 < s.length
    · exact .inl ⟨h, fun e => hz ⟨h, e⟩⟩
    · exact .inr h
  clear hz hh
  rcases loop with ⟨g1, g2⟩ | g1
  · have g1' : (1 : Int) < (s.length : Int) := by omega
    have g2' : ¬ ((s[0] : Nat) : Int) = 48 := by omega
    simp [Tryz.f188, h0, h0', h9, h9', g1', g1, g2, g2', hp]
    refine lp (α := Nat) (fun i => ⟨[(5, .p (.int .i64 i)), (4, .p (.int .i64 (numT (s.take i)))), (0, .p (.str s))], []⟩) (fun i => i ≤ s.length ∧ (s.take i).all digN = true) (fun i => s.length - i) 0 (by simp) ?_ (he := by simp [numT])
    rintro i ⟨k1, k2⟩
    have hw := wi1 (i := i) (by omega)
    by_cases hi : i < s.length
    · have hs := numT_snoc (s.take i) s[i]
      rw [← List.take_succ_eq_append_getElem hi] at hs
      have hall2 : (s.take (i + 1)).all digN = digN s[i] := by rw [List.take_succ_eq_append_getElem hi, List.all_append, k2]; simp
      have hlt := numT_lt i (s.take i) (by simp; omega) k2
      have hlt2 : numT (s.take i) < 10 ^ 9 := Nat.lt_of_lt_of_le hlt (Nat.pow_le_pow_right (by omega) (by omega))
      have hc := hb _ (List.getElem_mem hi)
      generalize hcc : s[i] = c at *
      by_cases q1 : c < 48
      · have q1' : (c : Int) < 48 := by omega
        have e : s.all digN = false := by
          rw [List.all_eq_false]; exact ⟨c, hcc ▸ List.getElem_mem hi, by simp [digN]; omega⟩
        simp [hi, hcc, q1, q1', intR, hall, e]
      · have q1' : ¬ (c : Int) < 48 := by omega
        by_cases q2 : 57 < c
        · have q2' : (57 : Int) < (c : Int) := by omega
          have e : s.all digN = false := by
            rw [List.all_eq_false]; exact ⟨c, hcc ▸ List.getElem_mem hi, by simp [digN]; omega⟩
          simp [hi, hcc, q1, q1', q2, q2', intR, hall, e]
        · have q2' : ¬ (57 : Int) < (c : Int) := by omega
          have w1 : IntKind.u8.wrap ((c : Int) - 48) = (c : Int) - 48 := wu8 _ (by omega) (by omega)
          have w2 : IntKind.i64.wrap ((c : Int) - 48) = (c : Int) - 48 := wi64 _ (by omega) (by omega)
          have w3 : IntKind.i64.wrap (10 * (numT (s.take i) : Int)) = 10 * (numT (s.take i) : Int) := wi64 _ (by omega) (by omega)
          have w4 : IntKind.i64.wrap (10 * (numT (s.take i) : Int) + ((c : Int) - 48)) = (numT (s.take (i + 1)) : Int) := by rw [wi64 _ (by omega) (by omega), hs]; omega
          simp [hi, hcc, q1, q1', q2, q2', w1, w2, w3, w4, hw]
          exact rd (i + 1) ⟨hi, by rw [hall2]; simp [digN]; omega⟩
    · have : i = s.length := by omega
      subst this
      rw [List.take_length] at k2
      simp [intR, hall, k2]
  · have g1' : ¬ (1 : Int) < (s.length : Int) := by omega
    simp [Tryz.f188, h0, h0', h9, h9', g1', g1, hp]
    refine lp (α := Nat) (fun i => ⟨[(5, .p (.int .i64 i)), (4, .p (.int .i64 (numT (s.take i)))), (0, .p (.str s))], []⟩) (fun i => i ≤ s.length ∧ (s.take i).all digN = true) (fun i => s.length - i) 0 (by simp) ?_ (he := by simp [numT])
    rintro i ⟨k1, k2⟩
    have hw := wi1 (i := i) (by omega)
    by_cases hi : i < s.length
    · have hs := numT_snoc (s.take i) s[i]
      rw [← List.take_succ_eq_append_getElem hi] at hs
      have hall2 : (s.take (i + 1)).all digN = digN s[i] := by rw [List.take_succ_eq_append_getElem hi, List.all_append, k2]; simp
      have hlt := numT_lt i (s.take i) (by simp; omega) k2
      have hlt2 : numT (s.take i) < 10 ^ 9 := Nat.lt_of_lt_of_le hlt (Nat.pow_le_pow_right (by omega) (by omega))
      have hc := hb _ (List.getElem_mem hi)
      generalize hcc : s[i] = c at *
      by_cases q1 : c < 48
      · have q1' : (c : Int) < 48 := by omega
        have e : s.all digN = false := by
          rw [List.all_eq_false]; exact ⟨c, hcc ▸ List.getElem_mem hi, by simp [digN]; omega⟩
        simp [hi, hcc, q1, q1', intR, hall, e]
      · have q1' : ¬ (c : Int) < 48 := by omega
        by_cases q2 : 57 < c
        · have q2' : (57 : Int) < (c : Int) := by omega
          have e : s.all digN = false := by
            rw [List.all_eq_false]; exact ⟨c, hcc ▸ List.getElem_mem hi, by simp [digN]; omega⟩
          simp [hi, hcc, q1, q1', q2, q2', intR, hall, e]
        · have q2' : ¬ (57 : Int) < (c : Int) := by omega
          have w1 : IntKind.u8.wrap ((c : Int) - 48) = (c : Int) - 48 := wu8 _ (by omega) (by omega)
          have w2 : IntKind.i64.wrap ((c : Int) - 48) = (c : Int) - 48 := wi64 _ (by omega) (by omega)
          have w3 : IntKind.i64.wrap (10 * (numT (s.take i) : Int)) = 10 * (numT (s.take i) : Int) := wi64 _ (by omega) (by omega)
          have w4 : IntKind.i64.wrap (10 * (numT (s.take i) : Int) + ((c : Int) - 48)) = (numT (s.take (i + 1)) : Int) := by rw [wi64 _ (by omega) (by omega), hs]; omega
          simp [hi, hcc, q1, q1', q2, q2', w1, w2, w3, w4, hw]
          exact rd (i + 1) ⟨hi, by rw [hall2]; simp [digN]; omega⟩
    · have : i = s.length := by omega
      subst this
      rw [List.take_length] at k2
      simp [intR, hall, k2]
end Go.Abs
namespace Go.Abs
open Go.Proofs
set_option maxHeartbeats 4000000
set_option maxRecDepth 100000
theorem splAux_len (c : Nat) : ∀ (s cur : List Nat), (splAux c cur s).length ≤ s.length + 1
  | [], cur => by simp [splAux]
  | x :: s, cur => by
    have h1 := splAux_len c s []
    have h2 := splAux_len c s (cur ++ [x])
    rw [splAux]; split <;> simp <;> omega
theorem splAux_mem (c : Nat) : ∀ (s cur p : List Nat), p ∈ splAux c cur s → p.length ≤ cur.length + s.length ∧ ∀ x ∈ p, x ∈ cur ∨ x ∈ s
  | [], cur, p, h => by
    simp only [splAux, List.mem_singleton] at h
    subst h
    exact ⟨by simp, fun x hx => .inl hx⟩
  | a :: s, cur, p, h => by
    rw [splAux] at h
    split at h
    · rcases List.mem_cons.1 h with rfl | h
      · exact ⟨by simp, fun x hx => .inl hx⟩
      · obtain ⟨h1, h2⟩ := splAux_mem c s [] p h
        refine ⟨by simp at h1 ⊢; omega, fun x hx => .inr ?_⟩
        rcases h2 x hx with h | h
        · cases h
        · exact List.mem_cons_of_mem _ h
    · obtain ⟨h1, h2⟩ := splAux_mem c s _ p h
      refine ⟨by simp at h1 ⊢; omega, fun x hx => ?_⟩
      rcases h2 x hx with h | h
      · rcases List.mem_append.1 h with h | h
        · exact .inl h
        · rw [List.mem_singleton.1 h]; exact .inr List.mem_cons_self
      · exact .inr (List.mem_cons_of_mem _ h)
theorem spl_len (c : Nat) (s : List Nat) : (spl c s).length ≤ s.length + 1 := splAux_len c s []
theorem spl_mem {c : Nat} {s p : List Nat} (h : p ∈ spl c s) : p.length ≤ s.length ∧ ∀ x ∈ p, x ∈ s := by
  obtain ⟨h1, h2⟩ := splAux_mem c s [] p h
  refine ⟨by simpa using h1, fun x hx => ?_⟩
  rcases h2 x hx with h | h
  · cases h
  · exact h
def readI (s : List Nat) : Option Int :=
  if s.head? = some 45 then (if (intR s.tail).2 = true ∧ (intR s.tail).1 ≠ 0 then some (-(intR s.tail).1) else none)
  else if (intR s).2 = true then some (intR s).1 else none
def valI (s : List Nat) : Int := (readI s).getD 0
def readV (s : List Nat) : List Int × Bool := if (spl 44 s).all (fun p => (readI p).isSome) = true then ((spl 44 s).map valI, true) else ([], false)
theorem intR_lt (s : List Nat) : 0 ≤ (intR s).1 ∧ (intR s).1 < 10 ^ 9 := by
  rw [intR]; split
  · rename_i h
    simp only [plainN, Bool.and_eq_true, Bool.not_eq_true', decide_eq_false_iff_not] at h
    have h1 := numT_lt s.length s rfl h.2
    have h2 : 10 ^ s.length ≤ 10 ^ 9 := Nat.pow_le_pow_right (by omega) (by omega)
    dsimp only; omega
  · exact ⟨by simp, by simp⟩
theorem c_readValuesR (s : List Nat) (h : s.length ≤ 1000000) (hb : ∀ c ∈ s, c < 256) : GoodC Tryz.prog 110 [.str s] (.tup [.seq ((readV s).1.map (.int .i64)), .bool (readV s).2]) := by
  refine good_fn nf isF110 mix (by simp [Tryz.f110]) ?_
  simp [Tryz.f110]
  refine c2 (c_splitR s 44 (by omega) (by omega)) ?_
  have hl := spl_len 44 s
  have hm := fun p => spl_mem (c := 44) (s := s) (p := p)
  have hv : readV s = if (spl 44 s).all (fun p => (readI p).isSome) = true then ((spl 44 s).map valI, true) else ([], false) := rfl
  rw [hv]
  clear hv
  generalize spl 44 s = l at *
  simp
  refine lp (α := Nat) (fun i => ⟨[(6, .p (.int .i64 i)), (5, .p (.seq (l.map .str))), (4, .sl 0 i 1 0 i)], [.arr .grow i 1 ((l.map fun p => .p (.int .i64 (valI p))).take i)]⟩) (fun i => i ≤ l.length ∧ (l.take i).all (fun p => (readI p).isSome) = true) (fun i => l.length - i) 0 (by simp) ?_
  rintro i ⟨k1, k2⟩
  have hw := wi1 (i := i) (by omega)
  by_cases hi : i < l.length
  · have ht := take_next (fun p => AV.p (.int .i64 (valI p))) hi
    have hall : (l.take (i + 1)).all (fun p => (readI p).isSome) = (readI l[i]).isSome := by rw [List.take_succ_eq_append_getElem hi, List.all_append, k2]; simp
    have hno : (readI l[i]).isSome = false → l.all (fun p => (readI p).isSome) = false := fun h => by
      rw [List.all_eq_false]; exact ⟨l[i], List.getElem_mem hi, by simpa using h⟩
    have hp := hm _ (List.getElem_mem hi)
    generalize hq : l[i] = q at *
    have hqb : ∀ c ∈ q, c < 256 := fun c hc => hb c (hp.2 c hc)
    by_cases hs : q.head? = some 45
    · obtain ⟨t, rfl⟩ : ∃ t, q = 45 :: t := by
        cases q with
        | nil => cases hs
        | cons a t => injection hs with hs; subst hs; exact ⟨t, rfl⟩
      have hlt := intR_lt t
      have c1' := c_integerR t (by have := hp.1; simp at this; omega) (fun c hc => hqb c (List.mem_cons_of_mem _ hc))
      have hr : readI (45 :: t) = if (intR t).2 = true ∧ (intR t).1 ≠ 0 then some (-(intR t).1) else none := rfl
      generalize intR t = v at *
      obtain ⟨v, ok⟩ := v
      dsimp only at hlt hr c1'
      have g1 : (0 : Int) < (t.length : Int) + 1 := by omega
      simp [hi, hq, g1]
      refine c1 c1' ?_
      by_cases hok : ok = true
      · subst hok
        by_cases hv0 : v = 0
        · subst hv0
          have hz : (readI (45 :: t)).isSome = false := by rw [hr]; simp
          simp [hno hz]
        · have hr2 : readI (45 :: t) = some (-v) := by rw [hr, if_pos ⟨rfl, hv0⟩]
          have hval : valI (45 :: t) = -v := by rw [valI, hr2]; rfl
          have hsome : (readI (45 :: t)).isSome = true := by rw [hr2]; rfl
          have wv : IntKind.i64.wrap (-v) = -v := wi64 _ (by omega) (by omega)
          rw [hval] at ht
          simp [hv0, wv, hw]
          refine ⟨by simp only [maxL]; omega, ?_⟩
          exact rd (i + 1) ⟨hi, by rw [hall, hsome]⟩ (hh := by simp [ht]) (hr2 := by simp [ht])
      · have hok : ok = false := by simpa using hok
        subst hok
        have hz : (readI (45 :: t)).isSome = false := by rw [hr]; simp
        simp [hno hz]
    · have hlt := intR_lt q
      have c1' := c_integerR q (by have := hp.1; omega) hqb
      have hr : readI q = if (intR q).2 = true then some (intR q).1 else none := by rw [readI, if_neg hs]
      generalize intR q = v at *
      obtain ⟨v, ok⟩ := v
      dsimp only at hlt hr c1'
      have fin : ∀ {p : Prop}, (q.length = 0 ∨ ∃ h : 0 < q.length, ¬ q[0] = 45) := by
        intro _
        cases q with
        | nil => exact .inl rfl
        | cons a t => exact .inr ⟨by simp, fun e => hs (by rw [List.getElem_cons_zero] at e; rw [e]; rfl)⟩
      rcases fin (p := True) with h0 | ⟨h0, h45⟩
      · have hq0 : q = [] := List.length_eq_zero_iff.1 h0
        subst hq0
        simp [hi, hq]
        refine c1 c1' ?_
        by_cases hok : ok = true
        · subst hok
          rw [if_pos rfl] at hr
          have hval : valI [] = v := by rw [valI, hr]; rfl
          have hsome : (readI []).isSome = true := by rw [hr]; rfl
          rw [hval] at ht
          simp [hw]
          refine ⟨by simp only [maxL]; omega, ?_⟩
          exact rd (i + 1) ⟨hi, by rw [hall, hsome]⟩ (hh := by simp [ht]) (hr2 := by simp [ht])
        · have hok : ok = false := by simpa using hok
          subst hok
          have hz : (readI []).isSome = false := by rw [hr]; simp
          simp [hno hz]
      · have g1 : (0 : Int) < (q.length : Int) := by omega
        have g2 : ¬ ((q[0] : Nat) : Int) = 45 := by omega
        simp [hi, hq, g1, h0, g2]
        have g3 : (((q[0] : Nat) : Int) == 45) = false := by rw [beq_eq_false_iff_ne]; exact g2
        refine c1 c1' ?_
        by_cases hok : ok = true
        · subst hok
          rw [if_pos rfl] at hr
          have hval : valI q = v := by rw [valI, hr]; rfl
          have hsome : (readI q).isSome = true := by rw [hr]; rfl
          rw [hval] at ht
          simp [hw, g3]
          refine ⟨by simp only [maxL]; omega, ?_⟩
          exact rd (i + 1) ⟨hi, by rw [hall, hsome]⟩ (hh := by simp [ht]) (hr2 := by simp [ht])
        · have hok : ok = false := by simpa using hok
          subst hok
          have hz : (readI q).isSome = false := by rw [hr]; simp
          simp [hno hz, g3]
  · have : i = l.length := by omega
    subst this
    rw [List.take_length] at k2
    rw [if_pos k2]
    simp
end Go.Abs
