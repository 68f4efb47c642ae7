import Derived.Test.YthckccalfpnmaaaGreatDoorPD
import Derived.Test.YthckccalfpnmaaaGreatDoorPA
/- Parts of a proof. -/
set_option linter.unusedSimpArgs false
set_option linter.unusedVariables false
set_option linter.unusedSectionVars false
namespace Go.Abs
open Go.Proofs
set_option maxHeartbeats 4000000
set_option maxRecDepth 100000
theorem playL_B {l:List EventD}:∀ {i:Nat} {d:StoryD},StoryB d [] → (∀ e ∈ l,evB e) → d.evs.length + l.length ≤ 1000 → StoryB (playL l i d).1 []:=by
 induction l with
 | nil=>intro i d h _ _; exact h
 | cons a r ih =>
  intro i d h he hn
  rw [playL]
  simp only [List.length_cons] at hn
  split
  · exact h
  · rename_i ha
    have ha:=Classical.not_not.1 ha
    exact ih (next_B0 h (he a (by simp)) (by omega) ha) (fun e h=>he e (List.mem_cons_of_mem _ h)) (by simp [acceptD]; omega)
theorem playS_B {l:List EventD} (he:∀ e ∈ l,evB e):StoryB (playS l).1 []:=by
 have h0:StoryB ⟨[],[]⟩ []:=⟨by simp,by simp,by simp⟩
 rw [playS]
 split
 · exact h0
 · exact playL_B h0 he (by simp; omega)
theorem c_ReplayR (l:List EventD) (hl:l.length ≤ 1048576) (he:∀ e ∈ l,evB e):GoodC Tryz.prog 54 [.seq (l.map eEvent)] (.tup [.seq ((replayS l).1.map eRow),.int .i64 (replayS l).2.1,.int .i64 (replayS l).2.2]):=by
 refine good_fn nf isF54 mix (by simp [Tryz.f54]) ?_
 have hP:=c_played l hl he
 have hB:=playS_B he
 have hS:replayS l = if (playS l).2.2 ≠ 0 then ([],(playS l).2.1,(playS l).2.2) else ((playS l).1.now,0,0):=rfl
 rw [hS]
 generalize playS l = R at *
 obtain ⟨d,pl,err⟩:=R
 dsimp only at hP hB ⊢
 have hN:=c_now d (by have:=hB.sj; have:=hB.ev; simp at *; omega)
 simp [Tryz.f54]
 refine c1 hP ?_
 by_cases hz:err = 0
 · subst hz
   simp
   refine c1 hN ?_
   simp
 · simp [hz]
theorem c_AcceptsR (l:List EventD) (e:EventD) (hl:l.length ≤ 1048576) (he:∀ e ∈ l,evB e) (hee:evB e):GoodC Tryz.prog 58 [.seq (l.map eEvent),eEvent e] (.int .i64 (acceptsS l e)):=by
 refine good_fn nf isF58 mix (by simp [Tryz.f58]) ?_
 have hP:=c_played l hl he
 have hB:=playS_B he
 have hC:=c_checkEventR e hee
 have hS:acceptsS l e = if firstE [(playS l).2.2,chkEvent e,whenE (decide (1000 ≤ l.length)) 5] ≠ 0 then firstE [(playS l).2.2,chkEvent e,whenE (decide (1000 ≤ l.length)) 5] else acceptE (playS l).1 e:=rfl
 rw [hS]
 generalize playS l = R at *
 obtain ⟨d,pl,err⟩:=R
 dsimp only at hP hB ⊢
 simp [Tryz.f58]
 refine c1 hP ?_
 by_cases hz:err = 0
 · subst hz
   simp
   refine c1 hC ?_
   by_cases hc:chkEvent e = 0
   · by_cases hm:1000 ≤ l.length
     · have hm':(1000:Int) ≤ l.length:=by omega
       simp [hc,hm,hm',firstE,whenE]
     · have hm':¬ (1000:Int) ≤ l.length:=by omega
       simp [hc,hm,hm',firstE,whenE]
       refine c2 (c_acceptR d [] e hee hc hB) ?_
       have hm2:l.length < 1000:=by omega
       simp [hc,hm2]
   · simp [hc,firstE]
 · simp [hz,firstE]
def evW (e:EventD):Prop:=∀ c ∈ e.text,c < 256
theorem c_heard (l:List EventD) (hl:l.length ≤ 1048576) (he:∀ e ∈ l,evW e):GoodC Tryz.prog 34 [.seq (l.map eEvent)] (.bool (heardS l)):=by
 refine good_fn nf isF34 mix (by simp [Tryz.f34]) ?_
 have hS:heardS l = (l.all heardE && decide (l.length ≤ 24)):=rfl
 rw [hS]
 simp [Tryz.f34]
 refine lp (α:=Nat) (fun i=>⟨[(9,.p (.int .i64 i)),(8,.p (.int .i64 l.length)),(7,.p (.seq (l.map eEvent))),(0,.p (.seq (l.map eEvent)))],[]⟩)
  (fun i=>i ≤ l.length ∧ (l.take i).all heardE = true) (fun i=>l.length - i) 0 (by simp) ?_
 rintro i ⟨k1,k2⟩
 have hw:=wi1 (i:=i) (by omega)
 by_cases hi:i < l.length
 · have hei:=he _ (List.getElem_mem hi)
   have hge:l[i]? = some l[i]:=List.getElem?_eq_getElem hi
   have hall:heardE l[i] = false → (∀ x ∈ l,heardE x = true) → 24 < l.length:=fun h h'=>by
    rw [h' _ (List.getElem_mem hi)] at h; cases h
   have hnext:heardE l[i] = true → (l.take (i + 1)).all heardE = true:=fun h=>by
    rw [List.take_succ_eq_append_getElem hi,List.all_append,k2]; simpa using h
   generalize hl1:l[i] = e at *
   obtain ⟨num,kind,names,vals,text⟩:=e
   have hH:heardE ⟨num,kind,names,vals,text⟩ = (decide (kind.length ≤ 60) && decide (names.length ≤ 5) && decide (vals.length ≤ 5) && decide (text.length ≤ 300) && names.all fun s=>decide (s.length ≤ 60)):=rfl
   by_cases c1:kind.length ≤ 60
   case neg =>
    have c1':¬ (kind.length:Int) ≤ 60:=by omega
    have d1:(60:Int) < kind.length:=by omega
    simp [hi,hl1,eEvent,c1',d1]
    exact hall (by simp [hH,c1])
   have c1':(kind.length:Int) ≤ 60:=by omega
   have d1:¬ (60:Int) < kind.length:=by omega
   by_cases c2:names.length ≤ 5
   case neg =>
    have c2':¬ (names.length:Int) ≤ 5:=by omega
    have d2:(5:Int) < names.length:=by omega
    simp [hi,hl1,eEvent,c1',d1,c2',d2]
    exact hall (by simp [hH,c2])
   have c2':(names.length:Int) ≤ 5:=by omega
   have d2:¬ (5:Int) < names.length:=by omega
   by_cases c3:vals.length ≤ 5
   case neg =>
    have c3':¬ (vals.length:Int) ≤ 5:=by omega
    have d3:(5:Int) < vals.length:=by omega
    simp [hi,hl1,eEvent,c1',d1,c2',d2,c3',d3]
    exact hall (by simp [hH,c3])
   have c3':(vals.length:Int) ≤ 5:=by omega
   have d3:¬ (5:Int) < vals.length:=by omega
   by_cases c4:text.length ≤ 300
   case neg =>
    have c4':¬ (text.length:Int) ≤ 300:=by omega
    have d4:(300:Int) < text.length:=by omega
    simp [hi,hl1,eEvent,c1',d1,c2',d2,c3',d3,c4',d4]
    exact hall (by simp [hH,c4])
   have c4':(text.length:Int) ≤ 300:=by omega
   have d4:¬ (300:Int) < text.length:=by omega
   simp [hi,hl1,eEvent,c1',d1,c2',d2,c3',d3,c4',d4]
   refine lp (α:=Nat) (fun k=>⟨[(38,.p (.int .i64 k)),(37,.p (.int .i64 names.length)),(36,.p (.seq (names.map .str))),(9,.p (.int .i64 i)),(8,.p (.int .i64 l.length)),(7,.p (.seq (l.map eEvent))),(0,.p (.seq (l.map eEvent)))],[]⟩)
    (fun k=>k ≤ names.length ∧ (names.take k).all (fun s=>decide (s.length ≤ 60)) = true) (fun k=>names.length - k) 0 (by simp) ?_
   rintro k ⟨q1,q2⟩
   by_cases hk:k < names.length
   · have hwk:=wi1 (i:=k) (by omega)
     by_cases c5:names[k].length ≤ 60
     · have c5':¬ (60:Int) < names[k].length:=by omega
       simp [hk,c5']
       refine rd (k + 1) ⟨hk,?_⟩ (he:=by simp [hwk])
       rw [List.take_succ_eq_append_getElem hk,List.all_append,q2]
       simpa using c5
     · have c5':(60:Int) < names[k].length:=by omega
       simp [hk,c5']
       refine hall ?_
       have:(names.all fun s=>decide (s.length ≤ 60)) = false:=by
        rw [List.all_eq_false]; exact ⟨names[k],List.getElem_mem hk,by simpa using c5⟩
       rw [hH,this,Bool.and_false]
   · have:k = names.length:=by omega
     subst this
     rw [List.take_length] at q2
     simp
     refine rd (i + 1) ⟨hi,hnext ?_⟩ (he:=by simp [hw])
     rw [hH,q2]
     simp [c1,c2,c3,c4]
 · have:i = l.length:=by omega
   subst this
   rw [List.take_length] at k2
   simp [k2]
   omega
theorem heard_B {e:EventD} (h:heardE e = true) (hw:evW e):evB e:=by
 simp only [heardE,Bool.and_eq_true,decide_eq_true_eq,List.all_eq_true] at h
 obtain ⟨⟨⟨⟨h1,h2⟩,h3⟩,h4⟩,h5⟩:=h
 exact ⟨by omega,by omega,fun s hs=>by have:=h5 s hs; omega,by omega,by omega,hw⟩
theorem heardS_B {l:List EventD} (h:heardS l = true) (hw:∀ e ∈ l,evW e):∀ e ∈ l,evB e:=by
 simp only [heardS,Bool.and_eq_true,List.all_eq_true] at h
 exact fun e he=>heard_B (h.1 e he) (hw e he)
end Go.Abs
namespace Go.Abs
open Go.Proofs Go.Proofs.YthckccalfpnmaaaGreatDoor
set_option maxRecDepth 100000
section
variable {H:Type} {W:World} {Imm:Nat → Prop}
theorem strB_of {n:Nat} (d:DataW H) (c) (h:PVC Tryz.prog W Imm (toPV Tryz.prog (n + 1) 9 d) c):∃ s:List Nat,toPV Tryz.prog (n + 1) 9 d = .str s ∧ ∀ c ∈ s,c < 256:=by
 cases d with
 | lit l =>
  cases l with
  | string bytes =>
   refine ⟨bytes.map (·.toNat),by simp only [toPV,un9],?_⟩
   intro c hc
   obtain ⟨u,_,rfl⟩:=List.mem_map.1 hc
   exact u.toNat_lt
  | _=>simp only [toPV,un9,PVC] at h
 | _=>simp only [toPV,un9,PVC] at h
end
end Go.Abs
namespace Go.Abs
open Go.Proofs Go.Proofs.YthckccalfpnmaaaGreatDoor
set_option maxRecDepth 100000
section
variable {H:Type} {W:World} {Imm:Nat → Prop}
theorem strs_arg {d:DataW H} (h:∃ cs,PVC Tryz.prog W Imm (toPV Tryz.prog 8 44 d) cs) (hb:Rows.uptoBulk d ≤ 1048576):∃ l:List (List Nat),toPV Tryz.prog 8 44 d = .seq (l.map .str) ∧ l.length ≤ 1048576 ∧ ∀ x ∈ l,∀ c ∈ x,c < 256:=by
 obtain ⟨l,h1,h2⟩:=list_arg (n:=7) (α:={ s:List Nat // ∀ c ∈ s,c < 256 }) (F:=fun s=>.str s.1) un44 (fun d c hc=>by
  obtain ⟨s,e,hb⟩:=strB_of (n:=6) d c hc
  exact ⟨⟨s,hb⟩,e⟩) h hb
 refine ⟨l.map (·.1),by rw [h1,List.map_map]; rfl,by simpa using h2,?_⟩
 intro e he
 obtain ⟨x,_,rfl⟩:=List.mem_map.1 he
 exact x.2
end
end Go.Abs
