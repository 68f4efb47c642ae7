import Derived.Test.YthckccalfpnmaaaGreatDoorThD
/-
  A place where ways come together: what is behind it is walked once.
-/
set_option linter.unusedSimpArgs false
set_option linter.unusedVariables false
set_option linter.unusedSectionVars false
namespace Go.Abs
set_option linter.unusedSectionVars false
variable [Gl]
section
variable {P : Program} {frz : FuncId → Bool} {q : Cx}
theorem runR_mono {r : Res} {K K' : Eff → Prop} (hk : ∀ e, K e → K' e) (h : runR r K) : runR r K' := by
  unfold runR at h ⊢
  split at h
  · exact ⟨h.1, hk _ h.2⟩
  · exact h.elim
theorem opEff_mono {o : Oper} {e : Env} {H : Heap} {K K' : Eff → Prop} (hk : ∀ e, K e → K' e) (h : opEff P frz o (ev e) H K) : opEff P frz o (ev e) H K' := by
  obtain ⟨x, h1, h2⟩ := sing_op (frz := frz) o (ev e) H K h
  exact h2 K' (hk x h1)
theorem opW_mono {o : Oper} {e : Env} {H : Heap} {K K' : Eff → Prop} (hk : ∀ e, K e → K' e) (h : opW P frz o e H K) : opW P frz o e H K' := by
  unfold opW at h ⊢
  repeat' split at h
  all_goals first | exact hk _ h | exact runR_mono hk h | exact ⟨h.1, runR_mono hk h.2⟩ | exact opEff_mono hk h | exact h.elim
theorem callWP_mono {d : Bool} {f : FuncId} {args : List AV} {H : Heap} {K K' : AV → Heap → Prop} (hk : ∀ v H, K v H → K' v H) (h : CallWP P d f args H K) : CallWP P d f args H K' := by
  rcases h with ⟨vs, v, h1, h2, h3⟩ | ⟨hd, ⟨vs, H1, v, h1, h2, h3⟩ | ⟨H', v, h1, h2⟩ | ⟨e, h1, h2, h3⟩ | ⟨hin, v, h1, h2, h3⟩⟩
  · exact .inl ⟨vs, v, h1, h2, hk _ _ h3⟩
  · exact .inr ⟨hd, .inl ⟨vs, H1, v, h1, h2, hk _ _ h3⟩⟩
  · exact .inr ⟨hd, .inr (.inl ⟨H', v, h1, hk _ _ h2⟩)⟩
  · exact .inr ⟨hd, .inr (.inr (.inl ⟨e, h1, h2, hk _ _ h3⟩))⟩
  · exact .inr ⟨hd, .inr (.inr (.inr ⟨hin, v, h1, h2, hk _ _ h3⟩))⟩
theorem callE_mono {f : FuncId} {args : List AV} {H : Heap} {K K' : Eff → Prop} (hk : ∀ e, K e → K' e) (h : CallE P f args H K) : CallE P f args H K' := by
  rcases h with ⟨vs, v, h1, h2, h3⟩ | ⟨vs, bs, hin, hset, v, h1, h2, h3, h4⟩ | ⟨e, h1, h2, h3⟩ | ⟨hin, v, h1, h2, h3⟩
  · exact .inl ⟨vs, v, h1, h2, hk _ h3⟩
  · exact .inr (.inl ⟨vs, bs, hin, hset, v, h1, h2, h3, hk _ h4⟩)
  · exact .inr (.inr (.inl ⟨e, h1, h2, hk _ h3⟩))
  · exact .inr (.inr (.inr ⟨hin, v, h1, h2, hk _ h3⟩))
theorem plainW_mono {o : Oper} {K K' : St → Prop} {s : St} (hk : ∀ s, K s → K' s) (h : plainW P frz o K s) : plainW P frz o K' s := by
  unfold plainW at h ⊢
  split at h
  · rename_i f args aT hop
    unfold callV at h ⊢
    split at h
    · exact callWP_mono (fun v H hh => hk _ hh) h
    · exact callWP_mono (fun v H hh => hk _ hh) h
    · obtain ⟨H', v, h1, h2⟩ := h; exact ⟨H', v, h1, hk _ h2⟩
    · exact h.elim
  · exact opW_mono (fun e hh => hk _ hh) h
theorem drawnW_mono {o : Oper} {s : St} {K K' : Eff → Prop} (hk : ∀ e, K e → K' e) (h : drawnW P frz o s K) : drawnW P frz o s K' := by
  unfold drawnW at h ⊢
  split at h
  · rename_i f args aT hop
    unfold callVd at h ⊢
    split at h
    · exact callE_mono hk h
    · exact callE_mono hk h
    · exact h.elim
  · exact opW_mono hk h
theorem opsW_mono {ops : Array Oper} : ∀ (l : List Oper) {K K' : St → Prop} {s : St}, (∀ s, K s → K' s) → opsW P frz ops l K s → opsW P frz ops l K' s
  | [], K, K', s, hk, h => hk s h
  | o :: l, K, K', s, hk, h => by
    simp only [opsW] at h ⊢
    split at h
    · exact plainW_mono (fun s hs => opsW_mono l hk hs) h
    · split at h
      · split at h
        · rename_i ht; rw [if_pos ht]; exact plainW_mono (fun s hs => opsW_mono l hk hs) h
        · rename_i ht; rw [if_neg ht]; exact opsW_mono l hk h
      · exact opsW_mono l hk h
      · exact h.elim
theorem opsWd_mono {ops : Array Oper} : ∀ (l : List Oper) {i : Nat} {acc : List Touch} {K K' : St → Prop} {s : St}, (∀ s, K s → K' s) → opsWd P frz ops l i acc K s → opsWd P frz ops l i acc K' s
  | [], i, acc, K, K', s, hk, h => ⟨h.1, hk s h.2⟩
  | o :: l, i, acc, K, K', s, hk, h => by
    simp only [opsWd] at h ⊢
    split at h
    · exact drawnW_mono (fun e hs => opsWd_mono l hk hs) h
    · split at h
      · split at h
        · rename_i ht; rw [if_pos ht]; exact drawnW_mono (fun e hs => opsWd_mono l hk hs) h
        · rename_i ht; rw [if_neg ht]; exact opsWd_mono l hk h
      · exact opsWd_mono l hk h
      · exact h.elim
theorem codeW_mono : ∀ (c : Code) {Q Q' : AExit → St → Prop} {s : St}, (∀ e s, Q e s → Q' e s) → codeW P frz q c Q s → codeW P frz q c Q' s
  | .skip, Q, Q', s, hq, h => hq _ _ h
  | .label _, Q, Q', s, hq, h => hq _ _ h
  | .exit _, Q, Q', s, hq, h => hq _ _ h
  | .ret, Q, Q', s, hq, h => hq _ _ h
  | .region _ ops draw, Q, Q', s, hq, h => by
    simp only [codeW] at h ⊢
    split at h
    · rename_i hd; rw [if_pos hd]; exact opsWd_mono _ (fun s hs => hq _ _ hs) h
    · rename_i hd; rw [if_neg hd]; exact opsW_mono _ (fun s hs => hq _ _ hs) h
  | .seq a b, Q, Q', s, hq, h => by
    simp only [codeW] at h ⊢
    refine codeW_mono a (fun e s he => ?_) h
    cases e with
    | normal => exact codeW_mono b hq he
    | exit i => exact hq _ _ he
    | ret => exact hq _ _ he
  | .cond c a b, Q, Q', s, hq, h => by
    simp only [codeW] at h ⊢
    unfold condW at h ⊢
    split at h
    · split at h
      · rename_i ht; rw [if_pos ht]; exact codeW_mono a hq h
      · rename_i ht; rw [if_neg ht]; exact codeW_mono b hq h
    · exact h.elim
  | .block id b, Q, Q', s, hq, h => by
    simp only [codeW] at h ⊢
    refine codeW_mono b (fun e s he => ?_) h
    cases e with
    | normal => exact hq _ _ he
    | exit i =>
      simp only [blockQ] at he ⊢
      by_cases hi : i = id
      · simp only [hi, if_true] at he ⊢; exact hq _ _ he
      · simp only [hi, if_false] at he ⊢; exact hq _ _ he
    | ret => exact hq _ _ he
  | .scope b, Q, Q', s, hq, h => codeW_mono b hq h
  | .loop b, Q, Q', s, hq, h => by
    simp only [codeW] at h ⊢
    obtain ⟨I, h1, h2⟩ := h
    refine ⟨I, h1, fun n t hI => codeW_mono b (fun e s he => ?_) (h2 n t hI)⟩
    cases e with
    | normal => exact he
    | exit id => exact hq _ _ he
    | ret => exact hq _ _ he
  | .rangeFunc f ps a b, Q, Q', s, hq, h => by
    simp only [codeW] at h ⊢
    exact ⟨h.1, iter_mono (fun H => over_mono hq) h.2⟩
  | .goto _, _, _, _, _, h => h.elim
  | .refuse _, _, _, _, _, h => h.elim

/-- what is asked at the place, and of the other ways out -/
def joinS (R : St → Prop) (Q : AExit → St → Prop) (e : Tg (R, Q) AExit) (s : Tg (R, Q) St) : Prop := match e with
  | .normal => R s
  | e => Q e s
theorem joinS_normal {R : St → Prop} {Q : AExit → St → Prop} {s : St} : joinS R Q .normal s = R s := (rfl)
theorem joinS_exit {R : St → Prop} {Q : AExit → St → Prop} {id : Nat} {s : St} : joinS R Q (.exit id) s = Q (.exit id) s := (rfl)
theorem joinS_ret {R : St → Prop} {Q : AExit → St → Prop} {s : St} : joinS R Q .ret s = Q .ret s := (rfl)
theorem join {a b : Code} {Q : AExit → St → Prop} {s : St} (R : St → Prop) (h1 : codeS P frz q a (joinS R Q) s) (h2 : ∀ s', R s' → codeS P frz q b Q s') : codeS P frz q (.seq a b) Q s := by
  rw [w_seq']
  refine codeW_mono a (fun e s he => ?_) h1
  cases e with
  | normal => exact h2 s he
  | exit i => exact he
  | ret => exact he
theorem rl_pc {α : Type} {N : Nat × Nat → Prop} {f : α → PV} {l : List α} : refsLtl N (l.map (AV.p ∘ f)) = True := rl_p
attribute [simp] joinS_normal joinS_exit joinS_ret rl_pc
end
end Go.Abs

/-
  Contracts in the heap out of bodies, by stepping; calls that bring new objects.
-/
namespace Go.Abs
set_option linter.unusedSectionVars false
variable [Gl]
section
variable {P : Program} {frz : FuncId → Bool}
/-- the end of a body that leaves a heap -/
def EndsIS (P : Program) (rs : List ResultVar) (N : Nat) (H' : Heap) (v : AV) (e : Tg (rs, N, H', v) AExit) (s : Tg (rs, N, H', v) St) : Prop := EndsI P rs N H' v e s
theorem endsIS_ret {rs : List ResultVar} {N : Nat} {H' : Heap} {v : AV} {s : St} : EndsIS P rs N H' v .ret s = ∃ vs, resVals P s rs = some vs ∧ oneOf vs = v ∧ (H' = s.heap ∨ (ForgetN N s ⟨[], H'⟩ ∧ refsLt (InH H') v)) := by simp [EndsIS, EndsI]
theorem endsIS_normal {rs : List ResultVar} {N : Nat} {H' : Heap} {v : AV} {s : St} : EndsIS P rs N H' v .normal s = ∃ vs, resVals P s rs = some vs ∧ oneOf vs = v ∧ (H' = s.heap ∨ (ForgetN N s ⟨[], H'⟩ ∧ refsLt (InH H') v)) := by simp [EndsIS, EndsI]
theorem goodI_fn {f : FuncId} {fn : Func} (frz : FuncId → Bool) (h : IsFn P f fn) (hmix : P.follows .mixedOrders = true) {args : List AV} {H H' : Heap} {v : AV} (hn : args.length ≤ fn.ntmps)
    (hwp : codeS P frz (fn.ntmps, H.length) (fn.body.getD .skip) (EndsIS P fn.results.toList H.length H' v) ⟨argEnv 0 args, H⟩) : GoodI P f H args H' v :=
  goodI frz h hmix hn (codeW_ok (Q' := EndsI P fn.results.toList H.length H' v) _ (fun _ _ h => h) hwp)
theorem sig_nil {n i : Nat} : sig [] n i = n + i := by simp [sig]
theorem cn {f : FuncId} {H H' : Heap} {K : AV → Heap → Prop} {v : AV} {args : List PV} (h : GoodI P f [] (args.map .p) H' v) (hk : K (ren (sig [] H.length) v) (H ++ H'.map (renO (sig [] H.length)))) : CallS P false f K (args.map .p) H := by
  refine .inr ⟨rfl, .inr (.inr (.inl ⟨effF [] H.length [] H' v, ?_, ⟨by simp [effF], by simp [effF]⟩, ?_⟩))⟩
  · have hr : refsLtl (InH ([] : Heap)) (args.map .p) := by rw [refsLtl_mem]; intro v hv; obtain ⟨x, _, rfl⟩ := List.mem_map.1 hv; trivial
    have := h.frame [] H.length rfl List.nodup_nil (by simp) (by simp) hr (by simp)
    have e : renL (sig [] H.length) (args.map .p) = args.map .p := by
      clear h hr this hk
      induction args with
      | nil => rfl
      | cons a r ih => simp only [List.map_cons, renL, ren, ih]
    rwa [e] at this
  · simpa [effF, setAll] using hk
theorem cn1 {f : FuncId} {H H' : Heap} {K : AV → Heap → Prop} {v : AV} {a : PV} (h : GoodI P f [] [.p a] H' v) (hk : K (ren (sig [] H.length) v) (H ++ H'.map (renO (sig [] H.length)))) : CallS P false f K [.p a] H := cn (args := [a]) h hk
theorem cn2 {f : FuncId} {H H' : Heap} {K : AV → Heap → Prop} {v : AV} {a b : PV} (h : GoodI P f [] [.p a, .p b] H' v) (hk : K (ren (sig [] H.length) v) (H ++ H'.map (renO (sig [] H.length)))) : CallS P false f K [.p a, .p b] H := cn (args := [a, b]) h hk
/-- a field of a struct's type: its label, and the field's kind -/
def fieldT (P : Program) (T : TypeId) (f : Nat) : Option (TypeId × Shp) := match kindOf P T, P.underlying T with
  | .agg u, some (.struct _) => ((compTypes P u)[f]?).map fun F => (u, kindOf P F)
  | _, _ => none
def fieldV (P : Program) (T : TypeId) (f : Nat) (x : AV) : Res := match fieldT P T f, x with
  | some (u, k), .p t => match (flds t)[f]? with
    | some g => some (shp t = .agg u ∧ k = shp g, { v := .p g })
    | none => none
  | _, _ => none
theorem field_eq {T : TypeId} {x : AV} {f : Nat} {K : Eff → Prop} : (match kindOf P T, P.underlying T, x with
    | .agg u, some (.struct _), .p t => shp t = .agg u ∧ (match (flds t)[f]?, (compTypes P u)[f]? with
      | some g, some F => kindOf P F = shp g ∧ K { v := .p g }
      | _, _ => False)
    | _, _, _ => False) = runR (fieldV P T f x) K := by
  unfold fieldV fieldT
  cases h1 : kindOf P T with
  | agg u => cases h2 : P.underlying T with
    | none => simp [runR]
    | some d => cases d with
      | struct fs => cases x with
        | p t => cases hc : (compTypes P u)[f]? <;> cases hg : (flds t)[f]? <;> simp [runR, hg, hc, and_assoc]
        | _ => cases hc : (compTypes P u)[f]? <;> simp [runR, hc]
      | _ => simp [runR]
  | _ => simp [runR]
section fields
variable {dst : Option Tmp} {ty : Nat} {pos : String} {af : Array Edge} {g : Option (Nat × Bool)} {env : Env} {heap : Heap} {L : St → Prop} {K : Eff → Prop} {T : TypeId} {x : Operand} {f : Nat}
theorem p_field' : plainS P frz ⟨dst, .field T x f, ty, pos, af, g⟩ L ⟨env, heap⟩ () = runS (appS dst ⟨env, heap⟩ L) (fieldV P T f (ev env x)) := field_eq
theorem d_field' : drawnS P frz ⟨dst, .field T x f, ty, pos, af, g⟩ ⟨env, heap⟩ K () = runS K (fieldV P T f (ev env x)) := field_eq
theorem fieldV_st {T u u' : TypeId} {k : Shp} {fs : List PV} {f : Nat} (h : fieldT P T f = some (u, k)) : fieldV P T f (.p (.st u' fs)) = match fs[f]? with
    | some g => some (u' = u ∧ k = shp g, { v := .p g })
    | none => none := by
  unfold fieldV
  simp only [h, flds, shp, Shp.agg.injEq]
end fields
theorem renL_map {σ : Nat → Nat} {α : Type} {f : α → PV} : ∀ {l : List α}, renL σ (l.map (AV.p ∘ f)) = l.map (AV.p ∘ f)
  | [] => rfl
  | a :: l => by simp only [List.map_cons, renL, renL_map (l := l)]; rfl
theorem renL_map2 {σ : Nat → Nat} {α β : Type} {f : β → PV} {g : α → β} {l : List α} : renL σ (l.map ((AV.p ∘ f) ∘ g)) = l.map ((AV.p ∘ f) ∘ g) := renL_map (f := f ∘ g)
theorem rl_pc2 {α β : Type} {N : Nat × Nat → Prop} {f : β → PV} {g : α → β} {l : List α} : refsLtl N (l.map ((AV.p ∘ f) ∘ g)) = True := rl_pc (f := f ∘ g)
attribute [simp] p_field' d_field' renL_map2 rl_pc2 endsIS_ret endsIS_normal sig_nil ren renL renO renL_map
end
end Go.Abs
