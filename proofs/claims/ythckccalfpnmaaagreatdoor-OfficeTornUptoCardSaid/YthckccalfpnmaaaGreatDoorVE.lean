import Derived.Test.YthckccalfpnmaaaGreatDoorVD
/- Parts of a proof. -/
set_option linter.unusedSimpArgs false
set_option linter.unusedVariables false
set_option linter.unusedSectionVars false
namespace Go.Abs
def NameOk:Prop:=∀ k,isName k = true → 32 ∉ k ∧ 10 ∉ k ∧ k ≠ []
theorem NameOk.a (h:NameOk):∀ k,isName k = true → 32 ∉ k ∧ k ≠ []:=fun k hk=>⟨(h k hk).1,(h k hk).2.2⟩
theorem digN_10 {s:List Nat} (h:s.all digN = true):10 ∉ s:=by
 intro hm
 have:=List.all_eq_true.1 h 10 hm
 simp [digN] at this
theorem itoa_10 {n:Nat} (h:n < 10 ^ 9):10 ∉ itoaN (n:Int):=by
 have:=(plain_itoa h).1
 simp only [plainN,Bool.and_eq_true] at this
 exact digN_10 this.2
theorem line_10 {e:EventD} (hN:NameOk) (h:EvK e):10 ∉ lineT e:=by
 obtain ⟨num,kind,names,vals,text⟩:=e
 cases h with
 | row k hk hn hv ht hi =>
  dsimp only at hk hn hv ht
  subst hn; subst hv
  have hb:=(hN k hi).2.1
  rcases hk with rfl | rfl
  · have hk:10 ∉ kAdd:=by decide
    simp [lineT,bodyW,textW,form_add,joinN]; exact ⟨hk,hb,ht⟩
  · have hk:10 ∉ kSet:=by decide
    simp [lineT,bodyW,textW,form_set,joinN]; exact ⟨hk,hb,ht⟩
 | drop k hk hn hv ht hi =>
  dsimp only at hk hn hv ht
  subst hn; subst hv; subst ht; subst hk
  have hb:=(hN k hi).2.1
  have hk:10 ∉ kDrop:=by decide
  simp [lineT,bodyW,textW,form_drop,joinN]; exact ⟨hk,hb⟩
 | move k n hk hn hv ht hi hl =>
  dsimp only at hk hn hv ht
  subst hn; subst hv; subst ht; subst hk
  have hb:=(hN k hi).2.1
  have hk:10 ∉ kMove:=by decide
  simp [lineT,bodyW,textW,form_move,joinN]; exact ⟨hk,hb,itoa_10 hl⟩
 | undo hk hn hv ht =>
  dsimp only at hk hn hv ht
  subst hn; subst hv; subst ht; subst hk
  have hk:10 ∉ kUndo:=by decide
  simpa [lineT,bodyW,textW,form_undo,joinN] using hk
theorem rec_10 {e:EventD} (hN:NameOk) (h:chkEvent e = 0):10 ∉ recN e:=by
 obtain ⟨hk,h1,h2,_⟩:=evK h
 obtain ⟨n,hn⟩:∃ n:Nat,e.num = n:=⟨e.num.toNat,by omega⟩
 have q1:10 ∉ sumT (bodyT e):=digN_10 (low_digN _ _)
 have q2:10 ∉ itoaN e.num:=by rw [hn]; exact itoa_10 (by omega)
 have q3:=line_10 hN hk
 simp only [recN,bodyT,List.mem_append,List.mem_cons,not_or]
 exact ⟨q1,by omega,q2,by omega,q3⟩
theorem lnC_line (k:Nat) {a t:List Nat} (h:10 ∉ a):lnC k [] (a ++ 10 :: t) = (k + a.length + 1,a ++ [10]) :: lnC (k + a.length + 1) [] t:=by
 rw [lnC_cut,cutN_app 10 a t h]; simp
theorem lnC_part (k:Nat) {a:List Nat} (h:10 ∉ a):lnC k [] a = if a = [] then [] else [(k + a.length,a)]:=by
 rw [lnC_cut,cutN_none 10 a h]; simp
theorem recT_len (e:EventD):(recT e).length = (recN e).length + 1:=by simp [recT]
def Num:Nat → List EventD → Prop
 | _,[]=>True
 | n,e :: r=>chkEvent e = 0 ∧ e.num = (n:Int) + 1 ∧ Num (n + 1) r
theorem Num.app:∀ {l m:List EventD} {n:Nat},Num n (l ++ m) ↔ Num n l ∧ Num (n + l.length) m
 | [],m,n=>by simp [Num]
 | e :: l,m,n=>by
  simp only [List.cons_append,Num,Num.app (l:=l) (m:=m),List.length_cons,and_assoc,show n + 1 + l.length = n + (l.length + 1) by omega]
theorem Num.mem:∀ {l:List EventD} {n:Nat},Num n l → ∀ e ∈ l,chkEvent e = 0
 | [],_,_,e,he=>by cases he
 | a :: l,n,h,e,he=>by
  rcases List.mem_cons.1 he with rfl | he
  · exact h.1
  · exact Num.mem h.2.2 e he
theorem rec_go (hN:NameOk):∀ (l:List EventD) (t:List Nat) (out:List EventD) (k:Nat),Num out.length l → recL (lnC k [] (logT l ++ t)) out k = recL (lnC (k + (logT l).length) [] t) (out ++ l) (k + (logT l).length)
 | [],t,out,k,_=>by simp [logT]
 | e :: l,t,out,k,h=>by
  obtain ⟨h1,h2,h3⟩:=h
  have e1:logT (e :: l) ++ t = recN e ++ 10 :: (logT l ++ t):=by simp [logT,recT]
  have e2:(logT (e :: l)).length = (recN e).length + 1 + (logT l).length:=by simp [logT,recT]; omega
  rw [e1,lnC_line k (rec_10 hN h1),recL]
  have e3:recR (recN e) ((out.length:Int) + 1) = (e,0):=by rw [rec_read h1 hN.a,if_pos h2]
  dsimp only
  rw [if_neg (by simp),List.dropLast_concat,e3,if_neg (by simp)]
  rw [rec_go hN l t (out ++ [e]) (k + (recN e).length + 1) (by simpa using h3),e2]
  simp only [List.append_assoc,List.singleton_append]
  rw [show k + (recN e).length + 1 + (logT l).length = k + ((recN e).length + 1 + (logT l).length) by omega]
theorem rec_gen:∀ (n:Nat) (t:List Nat) (out:List EventD) (k:Nat),t.length ≤ n → ∃ l u,recL (lnC k [] t) out k = (out ++ l,k + (logT l).length,(recL (lnC k [] t) out k).2.2) ∧ Num out.length l ∧ t = logT l ++ u ∧ ((recL (lnC k [] t) out k).2.2 = 0 → u = [])
 | 0,t,out,k,h=>by
  have:t = []:=List.length_eq_zero_iff.1 (by omega)
  subst this
  exact ⟨[],[],by simp [lnC,recL,logT],trivial,rfl,fun _=>rfl⟩
 | n + 1,t,out,k,h=>by
  rw [lnC_cut]
  rcases cutN_eq 10 t with ⟨h1,h2⟩ | ⟨h1,h2,h3⟩
  · rw [if_pos h1,recL]
    dsimp only
    rw [List.nil_append,if_neg (by simp),List.dropLast_concat]
    by_cases hr:(recR (cutN 10 t).1 ((out.length:Int) + 1)).2 = 0
    · rw [if_neg (by simpa using hr)]
      obtain ⟨r1,r2,r3⟩:=rec_inv hr
      generalize recR (cutN 10 t).1 ((out.length:Int) + 1) = R at *
      have hl:(cutN 10 t).2.1.length ≤ n:=by
       have:=congrArg List.length h2
       simp at this; omega
      obtain ⟨l,u,q1,q2,q3,q4⟩:=rec_gen n (cutN 10 t).2.1 (out ++ [R.1]) (k + (cutN 10 t).1.length + 1) hl
      have hrl:(cutN 10 t).1.length = (recN R.1).length:=by rw [r1]
      refine ⟨R.1 :: l,u,?_,⟨r2,r3,by simpa using q2⟩,?_,q4⟩
      · rw [q1]
        simp only [List.append_assoc,List.singleton_append]
        congr 2
        simp [logT,recT]; omega
      · have e:t = recN R.1 ++ 10 :: (logT l ++ u):=by rw [r1,← q3]; exact h2
        rw [e]; simp [logT,recT]
    · rw [if_pos hr]
      exact ⟨[],t,by simp [logT],trivial,by simp [logT],fun h=>(hr h).elim⟩
  · rw [if_neg (by rw [h1]; simp),List.nil_append]
    by_cases ht:t = []
    · subst ht
      exact ⟨[],[],by simp [recL,logT],trivial,rfl,fun _=>rfl⟩
    · rw [if_neg ht,recL]
      dsimp only
      by_cases hg:t.getLast? = some 10
      · exfalso
        have hm:=cutN_not 10 t
        rw [h2] at hm
        exact hm (List.mem_of_getLast? hg)
      · rw [if_pos hg]
        exact ⟨[],t,by simp [logT],trivial,by simp [logT],fun h=>by cases h⟩
theorem recover_gen (s:List Nat) (hs:s.length ≤ 1000000):∃ u,Num 0 (recoverS s).1 ∧ (recoverS s).2.1 = (logT (recoverS s).1).length ∧ s = logT (recoverS s).1 ++ u ∧ ((recoverS s).2.2 = 0 → u = []):=by
 rw [recoverS,if_neg (by omega)]
 obtain ⟨l,u,h1,h2,h3,h4⟩:=rec_gen s.length s [] 0 (Nat.le_refl _)
 have e:lns s = lnC 0 [] s:=rfl
 rw [e,h1]
 refine ⟨u,by simpa using h2,by simp,by simpa using h3,h4⟩
theorem recover_go (hN:NameOk) {l:List EventD} {t:List Nat} (hs:(logT l ++ t).length ≤ 1000000) (h:Num 0 l):recoverS (logT l ++ t) = recL (lnC (logT l).length [] t) l (logT l).length:=by
 rw [recoverS,if_neg (by omega)]
 have:=rec_go hN l t [] 0 h
 simpa [lns] using this
theorem recover_part (hN:NameOk) {l:List EventD} {t:List Nat} (hs:(logT l ++ t).length ≤ 1000000) (h:Num 0 l) (ht:10 ∉ t):recoverS (logT l ++ t) = (l,(logT l).length,if t = [] then 0 else 28):=by
 rw [recover_go hN hs h,lnC_part _ ht]
 by_cases h0:t = []
 · subst h0; simp [recL]
 · rw [if_neg h0,if_neg h0,recL]
   have hg:t.getLast? ≠ some 10:=fun hg=>ht (List.mem_of_getLast? hg)
   simp [hg]
theorem recover_log (hN:NameOk) {l:List EventD} (hs:(logT l).length ≤ 1000000) (h:Num 0 l):recoverS (logT l) = (l,(logT l).length,0):=by
 have:=recover_part hN (l:=l) (t:=[]) (by simpa using hs) h (by simp)
 simpa using this
end Go.Abs
namespace Go.Abs
def wholeN:List EventD → Nat → Nat
 | [],_=>0
 | e :: r,p=>if (recT e).length ≤ p then wholeN r (p - (recT e).length) + 1 else 0
theorem wholeN_le:∀ (l:List EventD) (p:Nat),wholeN l p ≤ l.length
 | [],_=>by simp [wholeN]
 | e :: r,p=>by
  rw [wholeN]; split
  · have:=wholeN_le r (p - (recT e).length); simp; omega
  · simp
theorem log_cut:∀ (l:List EventD) (p:Nat),(∀ e ∈ l,10 ∉ recN e) → p ≤ (logT l).length → ∃ part,(logT l).take p = logT (l.take (wholeN l p)) ++ part ∧ 10 ∉ part
 | [],p,_,h=>⟨[],by simp [logT],by simp⟩
 | e :: r,p,hN,h=>by
  have e1:logT (e :: r) = recT e ++ logT r:=by simp [logT]
  rw [e1] at h ⊢
  rw [List.length_append] at h
  by_cases hp:(recT e).length ≤ p
  · obtain ⟨part,h1,h2⟩:=log_cut r (p - (recT e).length) (fun x hx=>hN x (List.mem_cons_of_mem _ hx)) (by omega)
    refine ⟨part,?_,h2⟩
    rw [wholeN,if_pos hp,List.take_append,List.take_of_length_le hp,h1,List.take_succ_cons]
    simp [logT]
  · refine ⟨(recT e).take p,?_,?_⟩
    · rw [wholeN,if_neg hp,List.take_append_of_le_length (by omega)]; simp [logT]
    · rw [recT_len] at hp
      rw [recT,List.take_append_of_le_length (by omega)]
      intro hm
      exact hN e List.mem_cons_self (List.mem_of_mem_take hm)
def endsL:Nat → List EventD → List Nat
 | _,[]=>[]
 | n,e :: r=>(n + (recT e).length) :: endsL (n + (recT e).length) r
theorem endsL_ge:∀ (l:List EventD) (n x:Nat),x ∈ endsL n l → n ≤ x
 | [],_,_,h=>by cases h
 | e :: r,n,x,h=>by
  rcases List.mem_cons.1 h with rfl | h
  · omega
  · have:=endsL_ge r _ x h; omega
theorem ends_count:∀ (l:List EventD) (n p:Nat),n ≤ p → (endsL n l).countP (fun x=>decide (x ≤ p)) = wholeN l (p - n)
 | [],_,_,_=>rfl
 | e :: r,n,p,h=>by
  rw [endsL,List.countP_cons,wholeN]
  by_cases hp:n + (recT e).length ≤ p
  · rw [ends_count r _ p hp,if_pos (by simpa using hp),if_pos (by omega),show p - n - (recT e).length = p - (n + (recT e).length) by omega]
  · rw [if_neg (by simpa using hp),if_neg (by omega),Nat.add_zero,List.countP_eq_zero]
    intro x hx
    have:=endsL_ge r _ x hx
    simp; omega
theorem endsL_get:∀ (l:List EventD) (n i:Nat),i < l.length → (endsL n l)[i]? = some (n + (logT (l.take (i + 1))).length)
 | [],_,_,h=>by simp at h
 | e :: r,n,0,_=>by simp [endsL,logT]
 | e :: r,n,i + 1,h=>by
  rw [endsL,List.getElem?_cons_succ,endsL_get r _ i (by simpa using h),List.take_succ_cons]
  simp [logT]; omega
theorem endsL_len:∀ (l:List EventD) (n:Nat),(endsL n l).length = l.length
 | [],_=>rfl
 | e :: r,n=>by simp [endsL,endsL_len r]
def wsum:List Nat → Nat → Nat
 | [],_=>0
 | c :: r,i=>c * (i + 1) + wsum r (i + 1)
theorem sumS_eq:∀ (s:List Nat) (i n:Nat),n < 999983 → sumS s i n = (n + wsum s i) % 999983
 | [],i,n,h=>by simp [sumS,wsum,Nat.mod_eq_of_lt h]
 | c :: r,i,n,h=>by
  rw [sumS,sumS_eq r _ _ (Nat.mod_lt _ (by omega)),wsum,Nat.mod_add_mod,Nat.add_assoc]
theorem wsum_set:∀ (s:List Nat) (i j c:Nat) (h:j < s.length),wsum (s.set j c) i + s[j] * (i + j + 1) = wsum s i + c * (i + j + 1)
 | [],_,_,_,h=>by simp at h
 | a :: r,i,0,c,_=>by simp [wsum]; omega
 | a :: r,i,j + 1,c,h=>by
  have ih:=wsum_set r (i + 1) j c (by simpa using h)
  simp only [List.set_cons_succ,wsum,List.getElem_cons_succ]
  have e:i + 1 + j + 1 = i + (j + 1) + 1:=by omega
  rw [e] at ih; omega
theorem low6_inj {a b:Nat} (ha:a < 999983) (hb:b < 999983) (h:low 6 a = low 6 b):a = b:=by
 have:=congrArg numT h
 rw [numT_low,numT_low,Nat.mod_eq_of_lt (by omega),Nat.mod_eq_of_lt (by omega)] at this
 exact this
theorem sum_chg {B:List Nat} {j c:Nat} (hj:j < B.length) (hl:B.length ≤ 3800) (hb:B[j] < 256) (hc:c < 256) (h:sumT (B.set j c) = sumT B):c = B[j]:=by
 have hS:∀ s:List Nat,sumS s 0 0 = wsum s 0 % 999983:=fun s=>by rw [sumS_eq s 0 0 (by omega),Nat.zero_add]
 have h1:=low6_inj (by rw [hS]; exact Nat.mod_lt _ (by omega)) (by rw [hS]; exact Nat.mod_lt _ (by omega)) h
 rw [hS,hS] at h1
 have h2:=wsum_set B 0 j c hj
 have b1:B[j] * (0 + j + 1) ≤ 255 * (0 + j + 1):=Nat.mul_le_mul_right _ (by omega)
 have b2:c * (0 + j + 1) ≤ 255 * (0 + j + 1):=Nat.mul_le_mul_right _ (by omega)
 have h3:B[j] * (0 + j + 1) = c * (0 + j + 1):=by
  generalize B[j] * (0 + j + 1) = x at *
  generalize c * (0 + j + 1) = y at *
  omega
 exact (Nat.eq_of_mul_eq_mul_right (by omega) h3).symm
theorem recN_get {e:EventD} (k:Nat):(recN e).set k = fun c=>if k < 6 then (sumT (bodyT e)).set k c ++ 58 :: bodyT e else if k = 6 then sumT (bodyT e) ++ c :: bodyT e else sumT (bodyT e) ++ 58 :: (bodyT e).set (k - 7) c:=by
 funext c
 rw [recN,List.set_append,sumT_len]
 split
 · rfl
 · rename_i h
   by_cases h6:k = 6
   · subst h6; simp
   · rw [if_neg h6]
     obtain ⟨m,rfl⟩:∃ m,k = m + 7:=⟨k - 7,by omega⟩
     rw [show m + 7 - 6 = m + 1 by omega,List.set_cons_succ,show m + 7 - 7 = m by omega]
theorem rec_chg {e e':EventD} {k c:Nat} (hk:k < (recN e).length) (hl:(bodyT e).length ≤ 3800) (hb:∀ x ∈ bodyT e,x < 256) (hc:c < 256) (h:recN e' = (recN e).set k c):c = (recN e)[k]:=by
 have hx:∀ (f:List Nat),(f = recN e) → ∀ h:k < f.length,f[k] = (recN e)[k]:=by rintro f rfl _; rfl
 rw [recN_get] at h
 dsimp only at h
 have l1:=sumT_len (bodyT e)
 have l2:=sumT_len (bodyT e')
 rw [recN] at h
 split at h
 · rename_i h6
   obtain ⟨q1,q2⟩:=List.append_inj h (by simp [l1,l2])
   injection q2 with _ q2
   rw [q2] at q1
   have:((sumT (bodyT e)).set k c)[k]? = (sumT (bodyT e))[k]?:=by rw [← q1]
   rw [List.getElem?_set_self (by omega),List.getElem?_eq_getElem (by omega)] at this
   injection this with this
   rw [this]
   simp only [recN]
   rw [List.getElem_append_left (by omega)]
 · split at h
   · rename_i h6
     subst h6
     obtain ⟨q1,q2⟩:=List.append_inj h (by rw [l1,l2])
     injection q2 with q2 _
     rw [← q2]
     simp only [recN]
     rw [List.getElem_append_right (by omega)]
     simp [l1]
   · rename_i h6 h7
     obtain ⟨q1,q2⟩:=List.append_inj h (by rw [l1,l2])
     injection q2 with _ q2
     rw [q2] at q1
     have hkl:k - 7 < (bodyT e).length:=by
      simp only [recN,List.length_append,List.length_cons,l1] at hk; omega
     have:=sum_chg hkl hl (hb _ (List.getElem_mem hkl)) hc q1
     rw [this]
     simp only [recN]
     rw [List.getElem_append_right (by omega)]
     obtain ⟨m,rfl⟩:∃ m,k = m + 7:=⟨k - 7,by omega⟩
     simp only [l1,show m + 7 - 6 = m + 1 by omega,List.getElem_cons_succ,show m + 7 - 7 = m by omega]
theorem log_chg:∀ (l l':List EventD) (k c:Nat),(∀ e ∈ l,10 ∉ recN e ∧ (bodyT e).length ≤ 3800 ∧ ∀ x ∈ bodyT e,x < 256) → (∀ e ∈ l',10 ∉ recN e) → ∀ (hk:k < (logT l).length),(logT l)[k] ≠ 10 → c ≠ 10 → c < 256 → logT l' = (logT l).set k c → c = (logT l)[k]
 | [],l',k,c,_,_,hk,_,_,_,_=>by simp [logT] at hk
 | e :: r,[],k,c,_,_,hk,_,_,_,h=>by
  have:=congrArg List.length h
  simp [logT] at this hk; omega
 | e :: r,e' :: r',k,c,h1,h2,hk,h10,hc,h256,h=>by
  have e1:logT (e :: r) = recN e ++ 10 :: logT r:=by simp [logT,recT]
  have e2:logT (e' :: r') = recN e' ++ 10 :: logT r':=by simp [logT,recT]
  obtain ⟨g1,g2,g3⟩:=h1 e List.mem_cons_self
  have g4:=h2 e' List.mem_cons_self
  simp only [e1] at hk h10 ⊢
  rw [e1,e2] at h
  have uniq:∀ {a b x y:List Nat},10 ∉ a → 10 ∉ b → a ++ 10 :: x = b ++ 10 :: y → a = b ∧ x = y:=by
   intro a b x y ha hb he
   have k1:=cutN_app 10 a x ha
   rw [he,cutN_app 10 b y hb] at k1
   injection k1 with k1 k2
   injection k2 with k2 _
   exact ⟨k1.symm,k2.symm⟩
  by_cases q1:k < (recN e).length
  · rw [List.set_append,if_pos q1] at h
    have hn:10 ∉ (recN e).set k c:=by
     intro hm
     rcases List.mem_or_eq_of_mem_set hm with hm | hm
     · exact g1 hm
     · exact hc hm.symm
    obtain ⟨u1,_⟩:=uniq g4 hn h
    rw [List.getElem_append_left q1]
    exact rec_chg q1 g2 g3 h256 u1
  · rw [List.set_append,if_neg q1] at h
    rw [List.getElem_append_right (by omega)] at h10 ⊢
    simp only [List.length_append,List.length_cons] at hk
    obtain ⟨m,hm⟩:∃ m,k - (recN e).length = m:=⟨_,rfl⟩
    simp only [hm] at h h10 ⊢
    cases m with
    | zero=>simp at h10
    | succ m =>
     rw [List.set_cons_succ] at h
     simp only [List.getElem_cons_succ] at h10 ⊢
     obtain ⟨_,u2⟩:=uniq g4 g1 h
     exact log_chg r r' m c (fun x hx=>h1 x (List.mem_cons_of_mem _ hx)) (fun x hx=>h2 x (List.mem_cons_of_mem _ hx)) (by omega) h10 hc h256 u2
theorem log_less (hN:NameOk) {l1 l2:List EventD} {x y:EventD} (hs:(logT l1 ++ logT (y :: l2)).length ≤ 1000000) (h:Num 0 (l1 ++ x :: y :: l2)):recoverS (logT l1 ++ logT (y :: l2)) = (l1,(logT l1).length,11):=by
 obtain ⟨h1,h2,h3,h4,h5,h6⟩:=Num.app.1 h
 rw [recover_go hN hs h1]
 have e1:logT (y :: l2) = recN y ++ 10 :: logT l2:=by simp [logT,recT]
 rw [e1,lnC_line _ (rec_10 hN h4),recL]
 have hne:¬ y.num = (l1.length:Int) + 1:=by rw [h5]; omega
 have e3:recR (recN y) ((l1.length:Int) + 1) = (y,11):=by rw [rec_read h4 hN.a,if_neg hne]
 dsimp only
 rw [if_neg (by simp),List.dropLast_concat,e3,if_pos (by simp)]
end Go.Abs
namespace Go.Abs
def kRow:List Nat:=[114,111,119]
def kRows:List Nat:=[114,111,119,115]
def kDiff:List Nat:=[100,105,102,102]
def tNone:List Nat:=[110,111,110,101]
def tDone:List Nat:=[100,111,110,101,32]
def noneT (s:List Nat):List Nat:=if s = [] then tNone else s
def lettersD (a b:List RowD):List Nat:=(diffS a b).map fun e=>e.kind.headD 0
def askN (k:List Nat):Nat:=if k = kRow then 2 else if k = kRows then 1 else if k = kDiff then 2 else 0
def askD (d:StoryD) (w:List (List Nat)):List Nat × Int :=
 if askN (w.headD []) = 0 then ([],13)
 else if w.length ≠ askN (w.headD []) ∨ w.getLastD [] = [] then ([],25)
 else if w.headD [] = kRow then
  (if atK d.now (w.getLastD []) < 0 then ([],10) else (noneT (valsT ((d.now[(atK d.now (w.getLastD [])).toNat]?.map (·.vals)).getD [])),0))
 else if w.headD [] = kRows then (noneT (joinN [32] (d.now.map (·.key))),0)
 else if (intR (w.getLastD [])).2 = false then ([],25)
 else if (d.evs.length:Int) < (intR (w.getLastD [])).1 then ([],3)
 else (noneT (lettersD (playS (d.evs.take (intR (w.getLastD [])).1.toNat)).1.now d.now),0)
def lineEv (d:StoryD) (s:List Nat):EventD:=(parsedS s).1.at (d.evs.length + 1)
def enterE (d:StoryD) (s:List Nat):Int:=firstE [whenE (!(parsedS s).2) 25,whenE (decide (1000 ≤ d.evs.length)) 5,addE d (lineEv d s)]
def isEnter (s:List Nat):Bool:=(formS (cutN 32 s).1).2.2.2
def doS (d:StoryD) (s:List Nat):List Nat × Int :=
 if s = [] then ([],25) else if isEnter s = true then (if enterE d s ≠ 0 then ([],enterE d s) else (tDone ++ itoaN (d.evs.length + 1),0))
 else askD d (spl 32 s)
def doD (d:StoryD) (s:List Nat):StoryD:=if s ≠ [] ∧ isEnter s = true ∧ enterE d s = 0 then acceptD d (lineEv d s) else d
theorem play_app:∀ (l m:List EventD) (i:Nat) (d:StoryD),(playL l i d).2.2 = 0 → playL (l ++ m) i d = playL m (i + l.length) (playL l i d).1
 | [],m,i,d,_=>by simp [playL]
 | e :: l,m,i,d,h=>by
  rw [playL] at h
  by_cases he:addE d e = 0
  · rw [if_neg (by simpa using he)] at h
    rw [List.cons_append,playL,if_neg (by simpa using he),play_app l m (i + 1) _ h,playL,if_neg (by simpa using he),List.length_cons,show i + 1 + l.length = i + (l.length + 1) by omega]
  · rw [if_pos he] at h; exact (he h).elim
theorem play_ok:∀ (l:List EventD) (i:Nat) (d:StoryD),(playL l i d).2.2 = 0 → playL l i d = (l.foldl acceptD d,0,0)
 | [],i,d,_=>rfl
 | e :: l,i,d,h=>by
  rw [playL] at h ⊢
  by_cases he:addE d e = 0
  · rw [if_neg (by simpa using he)] at h ⊢
    exact play_ok l (i + 1) _ h
  · rw [if_pos he] at h; exact (he h).elim
theorem play_evs:∀ (l:List EventD) (d:StoryD),(l.foldl acceptD d).evs = d.evs ++ l
 | [],d=>by simp
 | e :: l,d=>by rw [List.foldl_cons,play_evs l]; simp [acceptD]
theorem play_num:∀ (l:List EventD) (i:Nat) (d:StoryD),(playL l i d).2.2 = 0 → Num d.evs.length l
 | [],_,_,_=>trivial
 | e :: l,i,d,h=>by
  rw [playL] at h
  by_cases he:addE d e = 0
  · rw [if_neg (by simpa using he)] at h
    have ih:=play_num l (i + 1) _ h
    rw [addE,first2z] at he
    have hn:e.num = d.evs.length + 1:=by
     have:=he.2
     rw [acceptE] at this
     by_cases hn:e.num = d.evs.length + 1
     · exact hn
     · rw [if_pos hn] at this; cases this
    refine ⟨he.1,hn,?_⟩
    simpa [acceptD] using ih
  · rw [if_pos he] at h; exact (he h).elim
theorem play_take {l:List EventD} {d:StoryD} (h:(playL l 0 d).2.2 = 0) (w:Nat):playL (l.take w) 0 d = ((l.take w).foldl acceptD d,0,0):=by
 refine play_ok _ 0 d ?_
 by_cases hz:(playL (l.take w) 0 d).2.2 = 0
 · exact hz
 · exfalso
   have key:∀ (l m:List EventD) (i:Nat) (d:StoryD),(playL l i d).2.2 ≠ 0 → (playL (l ++ m) i d).2.2 = (playL l i d).2.2:=by
    intro l
    induction l with
    | nil=>intro m i d h; simp [playL] at h
    | cons e l ih =>
     intro m i d h
     rw [List.cons_append,playL,playL]
     rw [playL] at h
     split
     · rfl
     · rename_i he
       rw [if_neg he] at h
       exact ih m (i + 1) _ h
   have:=key (l.take w) (l.drop w) 0 d hz
   rw [List.take_append_drop,h] at this
   exact hz this.symm
theorem do_line (hN:NameOk) {d:StoryD} {e:EventD} (h:addE d e = 0) (hl:d.evs.length < 1000):isEnter (lineT e) = true ∧ lineT e ≠ [] ∧ enterE d (lineT e) = 0 ∧ lineEv d (lineT e) = e:=by
 have h':=h
 rw [addE,first2z] at h'
 obtain ⟨hk,_⟩:=evK h'.1
 have hp:=parsed_line hk hN.a
 have hn:e.num = d.evs.length + 1:=by
  have:=h'.2
  rw [acceptE] at this
  by_cases hn:e.num = d.evs.length + 1
  · exact hn
  · rw [if_pos hn] at this; cases this
 have he:lineEv d (lineT e) = e:=by rw [lineEv,hp,← hn]; rfl
 have hne:(parsedS (lineT e)).2 = true:=by rw [hp]
 have hi:isEnter (lineT e) = true:=by
  rw [isEnter]
  rw [parsedS] at hne
  by_cases hf:(formS (cutN 32 (lineT e)).1).2.2.2 = false
  · rw [if_pos hf] at hne; cases hne
  · simpa using hf
 refine ⟨hi,?_,?_,he⟩
 · intro h0; rw [h0] at hi; revert hi; decide
 · rw [enterE,he,h,hne]
   have:decide (1000 ≤ d.evs.length) = false:=by simp; omega
   rw [this]; rfl
theorem undo_do (hN:NameOk) {d:StoryD} (hl:d.evs.length < 1000):isEnter kUndo = true ∧ enterE d kUndo = (if d.sts = [] then 12 else 0) ∧ lineEv d kUndo = ⟨d.evs.length + 1,kUndo,[],[],[]⟩:=by
 have hp:parsedS kUndo = (⟨0,kUndo,[],[],[]⟩,true):=by
  have h1:=parsed_line (e:=⟨0,kUndo,[],[],[]⟩) (EvK.undo rfl rfl rfl rfl) hN.a
  have h2:lineT ⟨0,kUndo,[],[],[]⟩ = kUndo:=by simp [lineT,bodyW,textW,form_undo,joinN]
  rw [h2] at h1; exact h1
 have he:lineEv d kUndo = ⟨d.evs.length + 1,kUndo,[],[],[]⟩:=by rw [lineEv,hp]; rfl
 refine ⟨by decide,?_,he⟩
 have hc:chkEvent ⟨(d.evs.length:Int) + 1,kUndo,[],[],[]⟩ = 0:=by
  have:chkShape ⟨(d.evs.length:Int) + 1,kUndo,[],[],[]⟩ = 0:=by
   rw [chkShape,first3z]
   refine ⟨?_,rfl,rfl⟩
   rw [withinE,when_zero (by omega)]; simp; omega
  rw [chkEvent,first4]
  exact ⟨this,rfl,rfl,rfl⟩
 rw [enterE,he,hp]
 have h1:decide (1000 ≤ d.evs.length) = false:=by simp; omega
 rw [h1,addE,hc]
 simp only [acceptE,firstE,whenE,Bool.not_true,Bool.false_eq_true,if_false,if_true,ne_eq,not_true_eq_false]
 split <;> rfl
theorem diff_nil:∀ (b:List RowD),diffS [] b = b.map fun r=>⟨kAdd,r⟩
 | []=>by simp [diffS]
 | y :: b=>by rw [diffS,diff_nil b]; rfl
theorem letters_nil (b:List RowD):lettersD [] b = List.replicate b.length 97:=by
 rw [lettersD,diff_nil,List.map_map]
 induction b with
 | nil=>rfl
 | cons x b ih=>rw [List.map_cons,ih]; rfl
end Go.Abs
namespace Go.Abs
open Go.Proofs
set_option maxHeartbeats 4000000
set_option maxRecDepth 100000
theorem low_zero:∀ a:Nat,low a 0 = repN [48] a
 | 0=>rfl
 | a + 1=>by rw [low,repN,low_zero a]; simp
theorem low_pad {n k j:Nat} (h:n < 10 ^ k) (hj:k ≤ j):low j n = repN [48] (j - k) ++ low k n:=by
 have e:j = (j - k) + k:=by omega
 conv=>lhs; rw [e]
 rw [low_app,Nat.div_eq_of_lt h,low_zero]
theorem itoa_six {n:Nat} (h:n < 10 ^ 6):∃ k,1 ≤ k ∧ k ≤ 6 ∧ n < 10 ^ k ∧ itoaN n = low k n:=by
 have h6:=nd_le h
 refine ⟨max 1 (nd n),by omega,by omega,?_,itoaN_nat (by omega)⟩
 exact Nat.lt_of_lt_of_le (nd_bound' n) (Nat.pow_le_pow_right (by omega) (by omega))
theorem sumS_lt:∀ (s:List Nat) (i n:Nat),n < 999983 → sumS s i n < 999983
 | [],_,_,h=>h
 | _ :: r,i,n,_=>by rw [sumS]; exact sumS_lt r _ _ (Nat.mod_lt _ (by omega))
theorem c_sum (s:List Nat) (h:s.length ≤ 1048576) (hb:∀ c ∈ s,c < 256):GoodC Tryz.prog 194 [.str s] (.str (sumT s)):=by
 refine good_fn nf isF194 mix (by simp [Tryz.f194]) ?_
 have hT:sumT s = low 6 (sumS s 0 0):=rfl
 have hlt:=sumS_lt s 0 0 (by omega)
 rw [hT]
 generalize hG:sumS s 0 0 = T at *
 simp [Tryz.f194]
 refine lp (α:=Nat × Nat) (fun (i,n)=>⟨[(8,.p (.int .i64 i)),(7,.p (.int .i64 s.length)),(3,.p (.int .i64 n)),(0,.p (.str s))],[]⟩)
  (fun (i,n)=>i ≤ s.length ∧ n < 999983 ∧ sumS (s.drop i) i n = T) (fun (i,_)=>s.length - i) (0,0) ⟨by simp,by simp,by simpa using hG⟩ ?_
 rintro ⟨i,n⟩ ⟨k1,k2,k3⟩
 dsimp only at k1 k2 k3 ⊢
 by_cases hi:i < s.length
 · have hw:=wi1 (i:=i) (by omega)
   have hc:=hb _ (List.getElem_mem hi)
   rw [List.drop_eq_getElem_cons hi,sumS] at k3
   have hp:s[i] * (i + 1) ≤ 256 * 1048577:=Nat.mul_le_mul (by omega) (by omega)
   have w1:IntKind.i64.wrap (s[i]:Int) = s[i]:=wi64 _ (by omega) (by omega)
   have e2:(s[i]:Int) * ((i:Int) + 1) = ((s[i] * (i + 1):Nat):Int):=by simp
   generalize hpq:s[i] * (i + 1) = p at *
   have w2:IntKind.i64.wrap (p:Int) = p:=wi64 _ (by omega) (by omega)
   have w3:IntKind.i64.wrap ((n:Int) + p) = ((n + p:Nat):Int):=by rw [wi64 _ (by omega) (by omega)]; omega
   simp [hi,hw,w1]
   exact rd (i + 1,(n + p) % 999983) ⟨hi,Nat.mod_lt _ (by omega),k3⟩ (he:=by simp [hw,w1,e2,w2,w3]; rfl)
 · have:i = s.length:=by omega
   subst this
   rw [List.drop_length,sumS] at k3
   subst k3
   obtain ⟨k,q1,q2,q3,q4⟩:=itoa_six (n:=n) (by omega)
   simp
   refine c1 (h182 n (by omega) (by omega)) ?_
   rw [q4]
   have hs:IntKind.i64.wrap (6 - (k:Int)) = ((6 - k:Nat):Int):=by rw [wi64 _ (by omega) (by omega)]; omega
   simp [low_length,hs]
   refine c2 (h73 [48] (6 - k) (by omega) (by simp; omega)) ?_
   have hr:∀ j:Nat,(repN [48] j).length = j:=fun j=>by
    induction j with
    | zero=>rfl
    | succ j ih=>simp [repN,ih]
   simp [low_pad q3 q2,hr,low_length]
   omega
end Go.Abs
namespace Go.Abs
open Go.Proofs
set_option maxHeartbeats 4000000
set_option maxRecDepth 100000
theorem c_hasSuf (s:List Nat) (c:Nat) (h:s.length ≤ 1048576):GoodC Tryz.prog 183 [.str s,.str [c]] (.bool (decide (s.getLast? = some c))):=by
 refine good_fn nf isF183 mix (by simp [Tryz.f183]) ?_
 rcases List.eq_nil_or_concat s with rfl | ⟨t,x,rfl⟩
 · simp [Tryz.f183]
 · rw [List.concat_eq_append] at h ⊢
   simp at h
   have hw:IntKind.i64.wrap (t.length:Int) = t.length:=wi64 _ (by omega) (by omega)
   have h1:(1:Int) ≤ (t.length:Int) + 1:=by omega
   simp [Tryz.f183,hw,h1]
   rw [List.take_of_length_le (by simp),List.drop_left]
   by_cases hx:x = c <;> simp [hx]
theorem c_cutSufL (s:List Nat) (c:Nat) (h:s.length ≤ 1048576):GoodC Tryz.prog 195 [.str s,.str [c]] (.tup [.str (if s.getLast? = some c then s.dropLast else s),.bool (decide (s.getLast? = some c))]):=by
 refine good_fn nf isF195 mix (by simp [Tryz.f195]) ?_
 have hS:=c_hasSuf s c h
 rcases List.eq_nil_or_concat s with rfl | ⟨t,x,rfl⟩
 · simp [Tryz.f195]
   refine c2 hS ?_
   simp
 · rw [List.concat_eq_append] at h hS ⊢
   simp at h hS
   have hw:IntKind.i64.wrap (t.length:Int) = t.length:=wi64 _ (by omega) (by omega)
   simp [Tryz.f195,hw]
   refine c2 hS ?_
   by_cases hx:x = c
   · simp [hx,hw]
   · simp [hx,hw]
theorem c_cutSuf (s:List Nat) (c:Nat) (h:s.length ≤ 1048576):GoodC Tryz.prog 118 [.str s,.str [c]] (.tup [.str (if s.getLast? = some c then s.dropLast else s),.bool (decide (s.getLast? = some c))]):=by
 refine good_fn nf isF118 mix (by simp [Tryz.f118]) ?_
 simp [Tryz.f118]
 refine c2 (c_cutSufL s c h) ?_
 simp
end Go.Abs
namespace Go.Abs
open Go.Proofs
set_option maxHeartbeats 4000000
set_option maxRecDepth 100000
structure EvT (e:EventD):Prop where
 fk:(formS e.kind).2.2.2 = true
 nl:e.names.length ≤ 1
 vl:e.vals.length ≤ 1
 num:inI e.num
 vi:∀ v ∈ e.vals,inI v
 bl:(bodyT e).length ≤ 5000
 byt:∀ c ∈ bodyT e,c < 256
@[simp] theorem ft_hasT {u : TypeId} {fs : List PV} : fieldV Tryz.prog 230 2 (.p (.st u fs)) = (match fs[2]? with
    | some g=>some (u = 229 ∧ Shp.leaf = shp g,({ v:=.p g }:Eff))
    | none=>none):=fieldV_st (show fieldT Tryz.prog 230 2 = some (229,.leaf) by kernel_rfl)
theorem c_line (e:EventD) (h:EvT e):GoodC Tryz.prog 193 [eEvent e] (.str (lineT e)):=by
 have hlen:(lineT e).length ≤ 1000000:=by
  have:=h.bl
  simp only [bodyT,List.length_append,List.length_cons] at this; omega
 obtain ⟨fk,nl,vl,_,vi,_,_⟩:=h
 have hL:lineT e = joinN [32] (e.kind :: (e.names ++ (e.vals.map itoaN ++ textW e))):=rfl
 have hT:textW e = if (formS e.kind).2.2.1 = true then [e.text] else []:=rfl
 have hJ:=c_joinW (e.kind :: (e.names ++ (e.vals.map itoaN ++ textW e))) (by rw [hT]; split <;> simp <;> omega) (by rw [← hL]; omega)
 rw [← hL] at hJ
 generalize lineT e = R at *
 rw [hT] at hJ
 clear hL hT
 obtain ⟨num,kind,names,vals,text⟩:=e
 dsimp only at *
 have hlk:=kinds_look kind
 rw [if_pos fk] at hlk
 have hM:=c_mappedIS vals (by omega) vi
 refine good_fn nf isF193 mix (by simp [Tryz.f193]) ?_
 have qq:∀ n:Nat,(1 + (n + 1) ≤ 1) = False:=fun n=>by simp
 have mm:∀ n:Nat,n ≤ 3000 → n ≤ maxL:=fun n h=>by simp only [maxL]; omega
 generalize hfT:formS kind = F at *
 obtain ⟨f1,f2,f3,f4⟩:=F
 dsimp only at *
 subst fk
 have hns:names = [] ∨ ∃ n,names = [n]:=by
  rcases names with _ | ⟨a,_ | ⟨b,r⟩⟩
  · exact .inl rfl
  · exact .inr ⟨a,rfl⟩
  · simp at nl
 have hvs:vals = [] ∨ ∃ n,vals = [n]:=by
  rcases vals with _ | ⟨a,_ | ⟨b,r⟩⟩
  · exact .inl rfl
  · exact .inr ⟨a,rfl⟩
  · simp at vl
 have M1:1 ≤ maxL:=by decide
 have M2:2 ≤ maxL:=by decide
 have M3:3 ≤ maxL:=by decide
 have M4:4 ≤ maxL:=by decide
 rcases hns with rfl | ⟨n0,rfl⟩ <;> rcases hvs with rfl | ⟨v0,rfl⟩ <;> cases f3
 all_goals simp at hJ hM
 all_goals simp [Tryz.f193,eEvent,M1,M2,M3,M4]
 all_goals refine c2 hM ?_
 all_goals simp [M1,M2,M3,M4]
 all_goals refine e0 c_kinds ?_
 all_goals simp [hlk,kindV,M1,M2,M3,M4]
 all_goals
  refine cp (h1:=?h1) hJ (by simp; first | rfl | exact ⟨rfl,rfl⟩) ?_
  case h1=>simp
  simp
end Go.Abs
namespace Go.Abs
open Go.Proofs
set_option maxHeartbeats 4000000
set_option maxRecDepth 100000
theorem c_record (e:EventD) (h:EvT e):GoodC Tryz.prog 117 [eEvent e] (.str (recT e)):=by
 refine good_fn nf isF117 mix (by simp [Tryz.f117]) ?_
 have hL:=c_line e h
 have hB:bodyT e = joinN [32] [itoaN e.num,lineT e]:=by simp [bodyT,joinN]
 have hJ:=c_joinW [itoaN e.num,lineT e] (by simp) (by rw [← hB]; have:=h.bl; omega)
 have hS:=c_sum (bodyT e) (by have:=h.bl; omega) h.byt
 have hI:=h182 e.num h.num.1 h.num.2
 have hR:recT e = sumT (bodyT e) ++ 58 :: (bodyT e ++ [10]):=by simp [recT,recN]
 have h6:=sumT_len (bodyT e)
 have hbl:=h.bl
 rw [← hB] at hJ
 rw [hR]
 clear hR hB
 generalize bodyT e = B at *
 generalize lineT e = L at *
 generalize sumT B = S at *
 obtain ⟨num,kind,names,vals,text⟩:=e
 simp only [eEvent] at hL
 simp [Tryz.f117,eEvent]
 refine e1 hI ?_
 simp
 refine e1 hL ?_
 simp
 refine ep (h1:=?h1) hJ (by simp; exact ⟨rfl,rfl⟩) (by simp; exact ⟨rfl,rfl⟩) ?_
 case h1=>simp
 simp
 refine ⟨rfl,?_⟩
 refine c1 hS ?_
 simp
 omega
def spT (l:List (List Nat)):List Nat:=l.flatMap fun w=>32 :: w
theorem join_sp:∀ (k:List Nat) (l:List (List Nat)),joinN [32] (k :: l) = k ++ spT l
 | k,[]=>by simp [joinN,spT]
 | k,w :: l=>by
  have:=join_sp w l
  simp only [spT,List.flatMap_cons] at this ⊢
  simp only [joinN]
  rw [this]
  simp
theorem sp_app (a b:List (List Nat)):spT (a ++ b) = spT a ++ spT b:=by simp [spT]
@[simp] theorem sp_nil:spT [] = []:=rfl
theorem sp_next {l:List (List Nat)} {i:Nat} (h:i < l.length):spT (l.take (i + 1)) = spT (l.take i) ++ 32 :: l[i]:=by
 rw [List.take_succ_eq_append_getElem h,sp_app]; simp [spT]
theorem sp_le {l:List (List Nat)} (i:Nat):(spT (l.take i)).length ≤ (spT l).length:=by
 conv=>rhs; rw [← List.take_append_drop i l,sp_app]
 simp
theorem body_sp (e:EventD):bodyT e = itoaN e.num ++ 32 :: (e.kind ++ (spT e.names ++ (spT (e.vals.map itoaN) ++ spT (textW e)))):=by
 have:lineT e = joinN [32] (e.kind :: (e.names ++ (e.vals.map itoaN ++ textW e))):=rfl
 rw [bodyT,this,join_sp,sp_app,sp_app]
theorem c_bodyR (e:EventD) (h:EvT e):GoodC Tryz.prog 71 [eEvent e] (.str (bodyT e)):=by
 refine good_fn nf isF71 mix (by simp [Tryz.f71]) ?_
 have hB:=body_sp e
 have hT:textW e = if (formS e.kind).2.2.1 = true then [e.text] else []:=rfl
 have hbl:=h.bl
 have hN:=c_textR e.num h.num
 have hF:=c_form e.kind
 obtain ⟨fk,nl,vl,_,vi,_,_⟩:=h
 have hbl2:=hbl
 rw [hB] at hbl2
 rw [hT] at hB hbl2
 generalize bodyT e = B at *
 clear hT
 obtain ⟨num,kind,names,vals,text⟩:=e
 dsimp only at *
 generalize hfT:formS kind = F at *
 obtain ⟨f1,f2,f3,f4⟩:=F
 dsimp only at *
 subst fk
 generalize itoaN num = I at *
 simp only [List.length_append,List.length_cons] at hbl2
 simp [Tryz.f71,eEvent]
 refine e1 hN ?_
 simp
 refine ⟨by omega,by omega,?_⟩
 refine lp (α:=Nat) (fun i=>⟨[(4,.p (.int .i64 i)),(3,.p (.str (I ++ 32 :: (kind ++ spT (names.take i))))),(1,.ptr 0 [])],[.box false (.p (.st 60 [.int .i64 num,.str kind,.seq (names.map .str),.seq (vals.map (.int .i64)),.str text]))]⟩)
  (fun i=>i ≤ names.length) (fun i=>names.length - i) 0 (by simp) ?_
 rintro i k1
 by_cases hi:i < names.length
 · have hw:=wi1 (i:=i) (by omega)
   have hl:=sp_le (l:=names) (i + 1)
   rw [sp_next hi] at hl
   simp at hl
   simp [hi,hw]
   refine ⟨by omega,by omega,?_⟩
   exact rd (i + 1) hi (he:=by simp [sp_next hi])
 · have:i = names.length:=by omega
   subst this
   simp
   refine lp (α:=Nat) (fun i=>⟨[(5,.p (.int .i64 i)),(3,.p (.str (I ++ 32 :: (kind ++ (spT names ++ spT ((vals.map itoaN).take i)))))),(1,.ptr 0 [])],[.box false (.p (.st 60 [.int .i64 num,.str kind,.seq (names.map .str),.seq (vals.map (.int .i64)),.str text]))]⟩)
    (fun i=>i ≤ vals.length) (fun i=>vals.length - i) 0 (by simp) ?_
   rintro i q1
   by_cases hj:i < vals.length
   · have hw:=wi1 (i:=i) (by omega)
     have hjm:i < (vals.map itoaN).length:=by simpa using hj
     have hl:=sp_le (l:=vals.map itoaN) (i + 1)
     have hnx:=sp_next hjm
     rw [hnx] at hl
     simp only [List.getElem_map,List.length_append,List.length_cons] at hl hnx
     simp [hj,hw,-List.map_take]
     refine ⟨by omega,?_⟩
     refine c1 (c_textR vals[i] (vi _ (List.getElem_mem hj))) ?_
     simp [hw,-List.map_take]
     refine ⟨by omega,?_⟩
     exact rd (i + 1) hj (he:=by simp [hnx,-List.map_take])
   · have:i = vals.length:=by omega
     subst this
     have htk:(vals.map itoaN).take vals.length = vals.map itoaN:=List.take_of_length_le (by simp)
     simp [htk,-List.map_take]
     refine c1 hF ?_
     cases f3
     · simp
       rw [hB]
       simp [spT]
     · simp
       simp [spT] at hB hbl2
       refine ⟨by simp [spT]; omega,by simp [spT]; omega,?_⟩
       rw [hB]
       simp [spT]
end Go.Abs
namespace Go.Abs
open Go.Proofs
set_option maxHeartbeats 4000000
set_option maxRecDepth 100000
theorem c_sameEvents (l : List EventD) (hl : l.length ≤ 1048576) (hn : ∀ e ∈ l, e.names.length ≤ 1048576 ∧ e.vals.length ≤ 1048576) :
    GoodC Tryz.prog 41 [.seq (l.map eEvent),.seq (l.map eEvent)] (.bool true):=by
 refine good_fn nf isF41 mix (by simp [Tryz.f41]) ?_
 simp [Tryz.f41]
 refine lp (α:=Nat) (fun i=>⟨[(5,.p (.int .i64 i)),(1,.p (.seq (l.map eEvent))),(0,.p (.seq (l.map eEvent)))],[]⟩) (fun i=>i ≤ l.length) (fun i=>l.length - i) 0 (by simp) ?_
 rintro i k1
 by_cases hi:i < l.length
 · have hw:=wi1 (i:=i) (by omega)
   have hge:l[i]? = some l[i]:=List.getElem?_eq_getElem hi
   have hm:=hn _ (List.getElem_mem hi)
   have hW:=c_sameWords l[i].names l[i].names hm.1 hm.1
   have hI:=c_sameInts l[i].vals l[i].vals hm.2 hm.2
   generalize hx:l[i] = e at *
   obtain ⟨num,kind,names,vals,text⟩:=e
   simp only [decide_true] at hW hI
   simp [hi,hge,hx,eEvent]
   refine e2 hW ?_
   simp [hi,hge,hx,eEvent]
   refine e2 hI ?_
   simp [hi,hge,hx,eEvent]
   exact rd (i + 1) hi (he:=by simp [hw])
 · have:i = l.length:=by omega
   subst this
   simp
end Go.Abs
namespace Go.Abs
open Go.Proofs
set_option maxHeartbeats 4000000
set_option maxRecDepth 100000
theorem cut_len (c:Nat) (s:List Nat):(cutN c s).1.length ≤ s.length ∧ (cutN c s).2.1.length ≤ s.length:=by
 rcases cutN_eq c s with ⟨_,h⟩ | ⟨_,h1,h2⟩
 · have:=congrArg List.length h
   simp at this; omega
 · rw [h1,h2]; simp
theorem cut_byte {c:Nat} {s:List Nat} (h:∀ x ∈ s,x < 256):(∀ x ∈ (cutN c s).1,x < 256) ∧ ∀ x ∈ (cutN c s).2.1,x < 256:=by
 rcases cutN_eq c s with ⟨_,e⟩ | ⟨_,h1,h2⟩
 · exact ⟨fun x hx=>h x (by rw [e]; simp [hx]),fun x hx=>h x (by rw [e]; simp [hx])⟩
 · rw [h1,h2]; exact ⟨h,by simp⟩
theorem c_readLine (s:List Nat) (h:s.length ≤ 1048576) (hb:∀ c ∈ s,c < 256):GoodC Tryz.prog 214 [.str s] (.tup [eEvent (parsedS s).1,.bool (parsedS s).2]):=by
 refine good_fn nf isF214 mix (by simp [Tryz.f214]) ?_
 have hP:parsedS s = if (formS (cutN 32 s).1).2.2.2 = false then (noEv,false)
  else match fldS (formS (cutN 32 s).1).1 (formS (cutN 32 s).1).2.1 (cutN 32 s).2.1 (cutN 32 s).2.2 with
   | none=>(noEv,false)
   | some x=>(⟨0,(cutN 32 s).1,x.1,x.2.1,if (formS (cutN 32 s).1).2.2.1 = true then x.2.2.1 else []⟩,x.2.2.2 == (formS (cutN 32 s).1).2.2.1):=rfl
 rw [hP]
 have h0:=c_cut s 32 h
 have l0:=cut_len 32 s
 have b0:=cut_byte (c:=32) hb
 generalize cutN 32 s = C at *
 obtain ⟨k,s0,m0⟩:=C
 dsimp only at *
 have hlk:=kinds_look k
 simp [Tryz.f214]
 refine c2 h0 ?_
 simp
 refine c0 c_kinds ?_
 by_cases hf:(formS k).2.2.2 = true
 case neg =>
  rw [if_neg hf] at hlk
  simp [hlk,hf,noEv,eEvent]
 rw [if_pos hf] at hlk
 have hfc:((formS k).1 = 0 ∧ (formS k).2.1 = 0) ∨ ((formS k).1 = 1 ∧ (formS k).2.1 = 0) ∨ ((formS k).1 = 1 ∧ (formS k).2.1 = 1):=by
  rcases form_cases k with e | e | e | e | e | e <;> first | (rw [e]; decide) | (rw [e] at hf; cases hf)
 generalize kindF k = kf at *
 generalize formS k = F at *
 obtain ⟨f1,f2,f3,f4⟩:=F
 dsimp only at hf hlk
 subst hf
 have hfc:(f1 = 0 ∧ f2 = 0) ∨ (f1 = 1 ∧ f2 = 0) ∨ (f1 = 1 ∧ f2 = 1):=hfc
 have h1:=c_cut s0 32 (by omega)
 have l1:=cut_len 32 s0
 have b1:=cut_byte (c:=32) b0.2
 have hF1:∀ v,fldS 1 v s0 m0 = if m0 = false then none else if (cutN 32 s0).1 = [] then none else (fldS 0 v (cutN 32 s0).2.1 (cutN 32 s0).2.2).map fun x=>((cutN 32 s0).1 :: x.1,x.2):=fun v=>by rw [fldS]
 generalize cutN 32 s0 = C1 at *
 obtain ⟨w1,s1,m1⟩:=C1
 dsimp only at *
 have h2:=c_cut s1 32 (by omega)
 have l2:=cut_len 32 s1
 have b2:=cut_byte (c:=32) b1.2
 have hF2:fldS 0 1 s1 m1 = if m1 = false then none else if (cutN 32 s1).1 = [] then none else if (intR (cutN 32 s1).1).2 = false then none else (fldS 0 0 (cutN 32 s1).2.1 (cutN 32 s1).2.2).map fun x=>(x.1,(intR (cutN 32 s1).1).1 :: x.2.1,x.2.2):=by simp only [fldS]
 generalize cutN 32 s1 = C2 at *
 obtain ⟨w2,s2,m2⟩:=C2
 dsimp only at *
 have hI:=c_integer w2 false (by omega) b2.1
 have eI:intP false w2 = intR w2:=rfl
 rw [eI] at hI
 generalize intR w2 = J at *
 obtain ⟨n2,i2⟩:=J
 dsimp only at *
 have hz:∀ r m,fldS 0 0 r m = some ([],[],r,m):=fun r m=>by rw [fldS]
 rw [hz] at hF2
 simp [hlk,kindV]
 rcases hfc with ⟨rfl,rfl⟩ | ⟨rfl,rfl⟩ | ⟨rfl,rfl⟩
 · rw [hz]
   have hw0:IntKind.i64.wrap 0 = 0:=by decide
   have hw1:(0:Int) < 0 ↔ False:=by simp
   simp [hw0]
   refine lp (α:=Nat) (fun i=>⟨[(35,.p (.int .i64 i)),(34,.p (.int .i64 0)),(9,.ptr 2 []),(7,.ptr 1 []),(6,.p (.bool m0)),(5,.p (.str s0)),(2,.ptr 0 [])],[.box false (.p (.st 60 [.int .i64 0,.str [],.nsl,.nsl,.str []])),.box false (.p (kindV (0,0,f3,true) kf)),.box false (.p (.st 60 [.int .i64 0,.str k,.nsl,.nsl,.str []]))]⟩)
    (fun i=>i = 0) (fun i=>0) 0 rfl ?_ (hh:=by simp [kindV])
   rintro i rfl
   cases f3 <;> simp [kindV,eEvent]
 · rw [hF1,hz]
   have hw1:IntKind.i64.wrap 1 = 1:=by decide
   simp [hw1]
   refine lp (α := Nat) (fun i => ⟨[(35, .p (.int .i64 i)), (34, .p (.int .i64 1)), (9, .ptr 2 []), (7, .ptr 1 []), (6, .p (.bool (if i = 0 then m0 else m1))), (5, .p (.str (if i = 0 then s0 else s1))), (2, .ptr 0 [])],
       if i = 0 then [.box false (.p (.st 60 [.int .i64 0,.str [],.nsl,.nsl,.str []])),.box false (.p (kindV (1,0,f3,true) kf)),.box false (.p (.st 60 [.int .i64 0,.str k,.nsl,.nsl,.str []]))]
       else [.box false (.p (.st 60 [.int .i64 0,.str [],.nsl,.nsl,.str []])),.box false (.p (kindV (1,0,f3,true) kf)),.box false (.st 60 [.p (.int .i64 0),.p (.str k),.sl 4 0 1 0 1,.p .nsl,.p (.str [])]),.arr .exact 0 1 [.p (.str w1)],.arr .grow 0 1 [.p (.str w1)]]⟩)
    (fun i=>i = 0 ∨ (i = 1 ∧ m0 = true ∧ w1 ≠ [])) (fun i=>1 - i) 0 (.inl rfl) ?_ (hh:=by simp [kindV])
   rintro i (rfl | ⟨rfl,rfl,hw⟩)
   · cases m0
     · simp [eEvent,noEv]
     · simp [kindV]
       refine c2 h1 ?_
       by_cases hw:w1 = []
       · simp [hw,eEvent,noEv]
       · simp [hw]
         refine ⟨by decide,?_⟩
         exact rd 1 (.inr ⟨rfl,rfl,hw⟩) (he:=by simp [hw1]) (hh:=by simp [kindV]) (hr2:=by simp [kindV])
   · cases f3 <;> simp [hw,kindV,eEvent]
 · rw [hF1,hF2]
   have hw1:IntKind.i64.wrap 1 = 1:=by decide
   have hw2:IntKind.i64.wrap 2 = 2:=by decide
   simp [hw2]
   refine lp (α := Nat) (fun i => ⟨[(35, .p (.int .i64 i)), (34, .p (.int .i64 2)), (9, .ptr 2 []), (7, .ptr 1 []), (6, .p (.bool (if i = 0 then m0 else if i = 1 then m1 else m2))), (5, .p (.str (if i = 0 then s0 else if i = 1 then s1 else s2))), (2, .ptr 0 [])],
       if i = 0 then [.box false (.p (.st 60 [.int .i64 0,.str [],.nsl,.nsl,.str []])),.box false (.p (kindV (1,1,f3,true) kf)),.box false (.p (.st 60 [.int .i64 0,.str k,.nsl,.nsl,.str []]))]
       else if i = 1 then [.box false (.p (.st 60 [.int .i64 0,.str [],.nsl,.nsl,.str []])),.box false (.p (kindV (1,1,f3,true) kf)),.box false (.st 60 [.p (.int .i64 0),.p (.str k),.sl 4 0 1 0 1,.p .nsl,.p (.str [])]),.arr .exact 0 1 [.p (.str w1)],.arr .grow 0 1 [.p (.str w1)]]
       else [.box false (.p (.st 60 [.int .i64 0,.str [],.nsl,.nsl,.str []])),.box false (.p (kindV (1,1,f3,true) kf)),.box false (.st 60 [.p (.int .i64 0),.p (.str k),.sl 4 0 1 0 1,.sl 6 0 1 0 1,.p (.str [])]),.arr .exact 0 1 [.p (.str w1)],.arr .grow 0 1 [.p (.str w1)],.arr .exact 0 1 [.p (.int .i64 n2)],.arr .grow 0 1 [.p (.int .i64 n2)]]⟩)
    (fun i=>i = 0 ∨ (i = 1 ∧ m0 = true ∧ w1 ≠ []) ∨ (i = 2 ∧ m0 = true ∧ w1 ≠ [] ∧ m1 = true ∧ w2 ≠ [] ∧ i2 = true)) (fun i=>2 - i) 0 (.inl rfl) ?_ (hh:=by simp [kindV])
   rintro i (rfl | ⟨rfl,rfl,hw⟩ | ⟨rfl,rfl,hw,rfl,hw',rfl⟩)
   · cases m0
     · simp [eEvent,noEv]
     · simp [kindV]
       refine c2 h1 ?_
       by_cases hw:w1 = []
       · simp [hw,eEvent,noEv]
       · simp [hw]
         refine ⟨by decide,?_⟩
         exact rd 1 (.inr (.inl ⟨rfl,rfl,hw⟩)) (he:=by simp [hw1]) (hh:=by simp [kindV]) (hr2:=by simp [kindV])
   · cases m1
     · simp [eEvent,noEv,hw]
     · simp [kindV]
       refine c2 h2 ?_
       by_cases hw':w2 = []
       · simp [hw,hw',eEvent,noEv]
       · simp [hw,hw']
         refine c2 hI ?_
         cases i2
         · simp [eEvent,noEv]
         · simp
           refine ⟨by decide,?_⟩
           exact rd 2 (.inr (.inr ⟨rfl,rfl,hw,rfl,hw',rfl⟩)) (he:=by simp [hw1,hw2]) (hh:=by simp [kindV]) (hr2:=by simp [kindV])
   · cases f3 <;> simp [hw,hw',kindV,eEvent]
end Go.Abs
namespace Go.Abs
open Go.Proofs
set_option maxHeartbeats 4000000
set_option maxRecDepth 100000
theorem fld_B : ∀ (n v : Nat) (s : List Nat) (m : Bool) (x : List (List Nat) × List Int × List Nat × Bool), fldS n v s m = some x →
    x.1.length = n ∧ x.2.1.length = v ∧ (∀ w ∈ x.1,w.length ≤ s.length) ∧ x.2.2.1.length ≤ s.length ∧ ((∀ c ∈ s,c < 256) → ∀ c ∈ x.2.2.1,c < 256)
 | 0,0,s,m,x,h=>by
  simp only [fldS,Option.some.injEq] at h
  subst h
  simp
 | 0,v + 1,s,m,x,h=>by
  simp only [fldS] at h
  split at h; · cases h
  split at h; · cases h
  split at h; · cases h
  obtain ⟨y,hy,rfl⟩:=Option.map_eq_some_iff.1 h
  obtain ⟨g1,g2,g3,g4,g5⟩:=fld_B 0 v _ _ y hy
  have hl:=cut_len 32 s
  refine ⟨g1,by simp [g2],fun w hw=>by have:=g3 w hw; omega,by dsimp only; omega,fun hb=>g5 (cut_byte hb).2⟩
 | n + 1,v,s,m,x,h=>by
  simp only [fldS] at h
  split at h; · cases h
  split at h; · cases h
  obtain ⟨y,hy,rfl⟩:=Option.map_eq_some_iff.1 h
  obtain ⟨g1,g2,g3,g4,g5⟩:=fld_B n v _ _ y hy
  have hl:=cut_len 32 s
  refine ⟨by simp [g1],g2,fun w hw=>?_,by dsimp only; omega,fun hb=>g5 (cut_byte hb).2⟩
  rcases List.mem_cons.1 hw with rfl | hw
  · exact hl.1
  · have:=g3 w hw; omega
theorem form_le (k:List Nat):(formS k).1 ≤ 1 ∧ (formS k).2.1 ≤ 1:=by
 rcases form_cases k with e | e | e | e | e | e <;> rw [e] <;> decide
theorem parsed_B {s:List Nat} (h:s.length ≤ 1000000) (hb:∀ c ∈ s,c < 256):evB (parsedS s).1:=by
 have h0:evB noEv:=⟨by simp [noEv],by simp [noEv],by simp [noEv],by simp [noEv],by simp [noEv],by simp [noEv]⟩
 rw [parsedS]
 split
 · exact h0
 have hl:=cut_len 32 s
 have hB:=cut_byte (c:=32) hb
 have hf:=form_le (cutN 32 s).1
 split
 · exact h0
 · rename_i x hx
   obtain ⟨g1,g2,g3,g4,g5⟩:=fld_B _ _ _ _ x hx
   refine ⟨by dsimp only; omega,by dsimp only; omega,fun w hw=>by have:=g3 w hw; omega,by dsimp only; omega,?_,?_⟩
   · dsimp only; split
     · omega
     · simp
   · dsimp only; split
     · exact g5 hB.2
     · simp
theorem at_B {e:EventD} (h:evB e) (n:Int):evB (e.at n):=h
theorem c_readBody (s:List Nat) (h:s.length ≤ 1000000) (hb:∀ c ∈ s,c < 256):GoodC Tryz.prog 197 [.str s] (.tup [eEvent (bodyRd s).1,.bool (bodyRd s).2]):=by
 refine good_fn nf isF197 mix (by simp [Tryz.f197]) ?_
 have hP:bodyRd s = if (cutN 32 s).2.2 = false ∨ (intR (cutN 32 s).1).2 = false then (noEv,false)
  else ((parsedS (cutN 32 s).2.1).1.at (intR (cutN 32 s).1).1,(parsedS (cutN 32 s).2.1).2 && decide (chkEvent ((parsedS (cutN 32 s).2.1).1.at (intR (cutN 32 s).1).1) = 0)):=rfl
 rw [hP]
 have h0:=c_cut s 32 (by omega)
 have l0:=cut_len 32 s
 have b0:=cut_byte (c:=32) hb
 generalize cutN 32 s = C at *
 obtain ⟨w,r,m⟩:=C
 dsimp only at *
 have hI:=c_integer w false (by omega) b0.1
 have eI:intP false w = intR w:=rfl
 rw [eI] at hI
 generalize intR w = J at *
 obtain ⟨n,i⟩:=J
 have hR:=c_readLine r (by omega) b0.2
 have hB:=at_B (parsed_B (s:=r) (by omega) b0.2) n
 have hC:=c_checkEvent _ hB
 generalize parsedS r = Q at *
 obtain ⟨e,is⟩:=Q
 dsimp only at *
 simp [Tryz.f197]
 refine c2 h0 ?_
 simp
 refine c2 hI ?_
 cases m
 · simp [noEv,eEvent]
 cases i
 · simp [noEv,eEvent]
 simp
 refine c1 hR ?_
 obtain ⟨num,kind,names,vals,text⟩:=e
 simp only [EventD.at,eEvent] at hC ⊢
 cases is
 · simp
 · simp
   refine e1 hC ?_
   simp
   rfl
end Go.Abs
namespace Go.Abs
open Go.Proofs
set_option maxHeartbeats 4000000
set_option maxRecDepth 100000
theorem drop_byte {s:List Nat} (k:Nat) (h:∀ c ∈ s,c < 256):∀ c ∈ s.drop k,c < 256:=fun c hc=>h c (List.mem_of_mem_drop hc)
theorem take_byte {s:List Nat} (k:Nat) (h:∀ c ∈ s,c < 256):∀ c ∈ s.take k,c < 256:=fun c hc=>h c (List.mem_of_mem_take hc)
theorem c_readRecord (s:List Nat) (number:Int) (h:s.length ≤ 1000000) (hb:∀ c ∈ s,c < 256):GoodC Tryz.prog 119 [.str s,.int .i64 number] (.tup [eEvent (recR s number).1,.int .i64 (recR s number).2]):=by
 refine good_fn nf isF119 mix (by simp [Tryz.f119]) ?_
 have hP:recR s number = if s.length ≤ 6 ∨ s[6]? ≠ some 58 ∨ (s.take 6).all isD = false then (noEv,25)
  else if s.take 6 ≠ sumT (s.drop 7) then (noEv,27)
  else ((bodyRd (s.drop 7)).1,firstE [whenE (!(bodyRd (s.drop 7)).2) 25,whenE (decide ((bodyRd (s.drop 7)).1.num ≠ number)) 11]):=rfl
 generalize recR s number = R at *
 by_cases g1:s.length ≤ 6
 · have g1':(s.length:Int) ≤ 6:=by omega
   rw [if_pos (.inl g1)] at hP
   simp [Tryz.f119,hP,g1,g1',noEv,eEvent]
 have g1':¬ (s.length:Int) ≤ 6:=by omega
 have g6:s[6]? = some (s[6]'(by omega)):=List.getElem?_eq_getElem (by omega)
 have hlt:6 < s.length:=by omega
 have hltI:(6:Int) < s.length:=by omega
 by_cases g2:s[6] = 58
 case neg =>
  have g2':¬ (s[6]:Int) = 58:=by omega
  rw [if_pos (.inr (.inl (by rw [g6]; simpa using g2)))] at hP
  simp [Tryz.f119,hP,g1,g1',g2,g2',g6,hlt,noEv,eEvent]
 have hT:=c_trim10 (s.take 6) (by simp; omega) (take_byte 6 hb)
 have hN:=trimLR_nil (s.take 6)
 have hS:=c_sum (s.drop 7) (by simp; omega) (drop_byte 7 hb)
 have hB:=c_readBody (s.drop 7) (by simp; omega) (drop_byte 7 hb)
 simp [Tryz.f119,g1,g1',g2,g6,hlt]
 refine ⟨by omega,?_⟩
 refine c2 hT ?_
 by_cases g3:(s.take 6).all isD = true
 case neg =>
  have g3':trimL (trimR (s.take 6)) ≠ []:=fun e=>g3 (hN.1 e)
  rw [if_pos (.inr (.inr (by simpa using g3)))] at hP
  simp [hP,g3',noEv,eEvent]
 have g3':=hN.2 g3
 generalize trimL (trimR (s.take 6)) = T at *
 subst g3'
 rw [if_neg (by rw [g6,g2,g3]; simp; omega)] at hP
 simp
 refine ⟨by omega,by omega,?_⟩
 refine e1 hS ?_
 by_cases g4:s.take 6 = sumT (s.drop 7)
 case neg =>
  rw [if_pos g4] at hP
  simp [g4,hP,noEv,eEvent]
 rw [if_neg (by simpa using g4)] at hP
 simp [g4]
 refine c1 hB ?_
 generalize bodyRd (s.drop 7) = Q at *
 obtain ⟨⟨num,kind,names,vals,text⟩,is⟩:=Q
 dsimp only at hP
 subst hP
 simp [eEvent]
 refine e2 (c_when (!is) 25) ?_
 simp
 refine e2 (c_when (decide (num ≠ number)) 11) ?_ (h1:=by by_cases hq:num = number <;> simp [hq])
 simp
 refine ep (h1:=?h1) (c_first [whenE (!is) 25,whenE (decide (num ≠ number)) 11] (by simp)) (by simp; exact ⟨rfl,rfl⟩) (by simp; exact ⟨rfl,rfl⟩) ?_
 case h1=>simp
 simp
 rfl
end Go.Abs
namespace Go.Abs
def lineAt (l:List (Nat × List Nat)) (j:Nat):Nat × List Nat:=l[j]?.getD (0,[])
def evAt (l:List (Nat × List Nat)) (j:Nat):EventD × Int:=recR (lineAt l j).2.dropLast ((j:Int) + 1)
def okR (l:List (Nat × List Nat)) (j:Nat):Bool:=decide ((lineAt l j).2.getLast? = some 10) && decide ((evAt l j).2 = 0)
def outL (l:List (Nat × List Nat)) (i:Nat):List EventD:=(List.range i).map fun j=>(evAt l j).1
def plL (l:List (Nat × List Nat)):Nat → Nat
 | 0=>0
 | i + 1=>(lineAt l i).1
def erL (l:List (Nat × List Nat)) (i:Nat):Int:=if (lineAt l i).2.getLast? ≠ some 10 then 28 else (evAt l i).2
theorem outL_len (l:List (Nat × List Nat)) (i:Nat):(outL l i).length = i:=by simp [outL]
theorem outL_succ (l:List (Nat × List Nat)) (i:Nat):outL l (i + 1) = outL l i ++ [(evAt l i).1]:=by simp [outL,List.range_succ]
theorem first_bad (p:Nat → Bool):∀ n,∃ k,k ≤ n ∧ (∀ j,j < k → p j = true) ∧ (k = n ∨ (k < n ∧ p k = false))
 | 0=>⟨0,Nat.le_refl _,fun j h=>by omega,.inl rfl⟩
 | n + 1=>by
  obtain ⟨k,h1,h2,h3⟩:=first_bad p n
  rcases h3 with h3 | ⟨h3,h4⟩
  · subst h3
    cases hp:p k
    · exact ⟨k,by omega,h2,.inr ⟨by omega,hp⟩⟩
    · refine ⟨k + 1,Nat.le_refl _,fun j hj=>?_,.inl rfl⟩
      by_cases e:j = k
      · subst e; exact hp
      · exact h2 j (by omega)
  · exact ⟨k,by omega,h2,.inr ⟨by omega,h4⟩⟩
theorem recL_run (l:List (Nat × List Nat)):∀ i,i ≤ l.length → (∀ j,j < i → okR l j = true) → recL l [] 0 = recL (l.drop i) (outL l i) (plL l i)
 | 0,_,_=>rfl
 | i + 1,hi,hok=>by
  have hlt:i < l.length:=by omega
  rw [recL_run l i (by omega) (fun j hj=>hok j (by omega)),List.drop_eq_getElem_cons hlt,recL,outL_len]
  have ho:=hok i (by omega)
  have hg:lineAt l i = l[i]:=by rw [lineAt,List.getElem?_eq_getElem hlt]; rfl
  simp only [okR,Bool.and_eq_true,decide_eq_true_eq,hg] at ho
  have he:recR l[i].2.dropLast ((i:Int) + 1) = evAt l i:=by rw [evAt,hg]
  rw [if_neg (by simpa using ho.1),he,if_neg (by simpa using ho.2),outL_succ]
  simp only [plL,hg]
theorem recL_end (l:List (Nat × List Nat)) (hok:∀ j,j < l.length → okR l j = true):recL l [] 0 = (outL l l.length,plL l l.length,0):=by
 rw [recL_run l l.length (Nat.le_refl _) hok,List.drop_length,recL]
theorem recL_bad (l:List (Nat × List Nat)) (k:Nat) (hk:k < l.length) (hok:∀ j,j < k → okR l j = true) (hb:okR l k = false):recL l [] 0 = (outL l k,plL l k,erL l k):=by
 have hg:lineAt l k = l[k]:=by rw [lineAt,List.getElem?_eq_getElem hk]; rfl
 rw [recL_run l k (by omega) hok,List.drop_eq_getElem_cons hk,recL,outL_len]
 have he:recR l[k].2.dropLast ((k:Int) + 1) = evAt l k:=by rw [evAt,hg]
 rw [he,erL,hg]
 simp only [okR,hg,Bool.and_eq_false_iff,decide_eq_false_iff_not] at hb
 by_cases h1:l[k].2.getLast? = some 10
 · rw [if_neg (by simpa using h1)]
   rcases hb with hb | hb
   · exact (hb h1).elim
   · rw [if_pos hb,if_neg (by simpa using h1)]
 · rw [if_pos h1,if_pos h1]
theorem lnC_mem:∀ (t:List Nat) (k:Nat) (cur:List Nat),(∀ c ∈ cur,c < 256) → (∀ c ∈ t,c < 256) → ∀ x ∈ lnC k cur t,x.1 ≤ k + t.length ∧ x.2.length ≤ cur.length + t.length ∧ ∀ c ∈ x.2,c < 256
 | [],k,cur,hc,_,x,hx=>by
  rw [lnC] at hx
  split at hx
  · cases hx
  · rw [List.mem_singleton.1 hx]; exact ⟨by simp,by simp,hc⟩
 | a :: t,k,cur,hc,ht,x,hx=>by
  rw [lnC] at hx
  have ht':∀ c ∈ t,c < 256:=fun c h=>ht c (List.mem_cons_of_mem _ h)
  split at hx
  · rcases List.mem_cons.1 hx with rfl | hx
    · refine ⟨by simp <;> omega,by simp,fun c h=>?_⟩
      rcases List.mem_append.1 h with h | h
      · exact hc c h
      · rw [List.mem_singleton.1 h]; omega
    · have:=lnC_mem t _ [] (by simp) ht' x hx
      simp only [List.length_cons,List.length_nil] at this ⊢
      exact ⟨by omega,by omega,this.2.2⟩
  · have:=lnC_mem t _ (cur ++ [a]) (fun c h=>by
     rcases List.mem_append.1 h with h | h
     · exact hc c h
     · rw [List.mem_singleton.1 h]; exact ht a (by simp)) ht' x hx
    simp only [List.length_cons,List.length_append,List.length_nil] at this ⊢
    exact ⟨by omega,by omega,this.2.2⟩
theorem lnC_cnt:∀ (t:List Nat) (k:Nat) (cur:List Nat),(lnC k cur t).length ≤ t.length + 1
 | [],k,cur=>by rw [lnC]; split <;> simp
 | a :: t,k,cur=>by
  rw [lnC]
  split
  · have:=lnC_cnt t (k + 1) []; simp; omega
  · have:=lnC_cnt t (k + 1) (cur ++ [a]); simp; omega
end Go.Abs
namespace Go.Abs
open Go.Proofs
set_option maxHeartbeats 4000000
set_option maxRecDepth 100000
def rB:Nat → AV
 | 0=>.p .nsl
 | j + 1=>.sl 8 j 5 0 (j + 1)
def rT (l:List (Nat × List Nat)):Nat → Heap
 | 0=>[]
 | j + 1=>[.hole,.hole,.arr .grow j 5 ((outL l (j + 1)).map fun e=>.p (eEvent e))]
def rX (l:List (Nat × List Nat)) (L:LoopA) (i:Nat):Heap :=
 [.box false (.p .nsl),.box false (.p (.int .i64 0)),.box false (.p (.int .i64 0)),.box false (rB i),.box false (.p (.int .i64 (plL l i))),.loop L] ++ rT l i
def rF (l:List (Nat × List Nat)) (L:LoopA):Nat → Heap
 | 0=>[]
 | i + 1=>[.box false (rB i),.box false (.p (.int .i64 (plL l i))),.box false (.p (.int .i64 (erL l i))),.box false (rB i),.box false (.p (.int .i64 (plL l i))),.loop (L.dn .ret)] ++ rT l i
theorem c_recover (s:List Nat) (hb:∀ c ∈ s,c < 256) (hs:s.length ≤ 1048576):GoodC Tryz.prog 36 [.str s] (.tup [.seq ((recoverS s).1.map eEvent),.int .i64 (recoverS s).2.1,.int .i64 (recoverS s).2.2]):=by
 refine good_fn nf isF36 mix (by simp [Tryz.f36]) ?_
 have hR:recoverS s = if 1000000 < s.length then ([],0,26) else recL (lns s) [] 0:=rfl
 generalize recoverS s = R at *
 by_cases h1:1000000 < s.length
 · have h1':(1000000:Int) < s.length:=by omega
   rw [if_pos h1] at hR
   simp [Tryz.f36,h1',hR]
 have h1':¬ (1000000:Int) < s.length:=by omega
 rw [if_neg h1] at hR
 simp [Tryz.f36,h1']
 refine c1 (c_lines s) ?_
 simp
 have hmem:=lnC_mem s 0 [] (by simp) hb
 have hcnt:=lnC_cnt s 0 []
 have hst:=s_lines s (by omega)
 have hl0:lnC 0 [] s = lns s:=rfl
 rw [hl0] at hmem hcnt
 generalize lns s = l at *
 clear hl0
 obtain ⟨k,hk,hok,hbad⟩:=first_bad (okR l) l.length
 have hitem:∀ (i:Nat) x,(l.map itemL)[i]? = some x → ∃ h:i < l.length,x = [.int .i64 (lineAt l i).1,.str (lineAt l i).2]:=by
  intro i x hx
  rw [List.getElem?_map] at hx
  rcases Nat.lt_or_ge i l.length with h | h
  · rw [List.getElem?_eq_getElem h] at hx
    refine ⟨h,?_⟩
    have:lineAt l i = l[i]:=by rw [lineAt,List.getElem?_eq_getElem h]; rfl
    rw [this]
    simpa [itemL] using hx.symm
  · rw [List.getElem?_eq_none h] at hx; cases hx
 refine rf2 hst rfl (by simp) (rX l) (rF l) (okR l) .ret k (by simpa using hk) hok (by simpa using hbad) (fun L=>rfl) ?_ ?_ (fun L=>rfl) ?_ ?_
 · intro L hL i hi
   clear hL
   rcases i with _ | j
   · refine ⟨rfl,by simp [rX,rB,rT],fun _ hl=>?_⟩
     simp [rX,rB,rT] at hl ⊢
     exact hl
   · refine ⟨rfl,by simp [rX,rB,rT],fun _ hl=>?_⟩
     simp [rX,rB,rT] at hl ⊢
     exact hl
 · intro L hL i x hi hx
   obtain ⟨hil,rfl⟩:=hitem i x hx
   have hm:lineAt l i ∈ l:=by rw [lineAt,List.getElem?_eq_getElem hil]; exact List.getElem_mem hil
   obtain ⟨m1,m2,m3⟩:=hmem _ hm
   have hCS:=c_cutSuf (lineAt l i).2 10 (by simp at m2; omega)
   have hRd:=c_readRecord (lineAt l i).2.dropLast ((i:Int) + 1) (by simp at m2 ⊢; omega) (fun c hc=>m3 c (List.dropLast_subset _ hc))
   have hEv:recR (lineAt l i).2.dropLast ((i:Int) + 1) = evAt l i:=rfl
   have hOk:okR l i = (decide ((lineAt l i).2.getLast? = some 10) && decide ((evAt l i).2 = 0)):=rfl
   have hEr:erL l i = if (lineAt l i).2.getLast? ≠ some 10 then 28 else (evAt l i).2:=rfl
   have hPl:plL l (i + 1) = (lineAt l i).1:=rfl
   have hOs:=outL_succ l i
   have hOl:=outL_len l i
   rw [hEv] at hRd
   refine y_round nf mix hL rfl rfl (by kernel_rfl) ?_
   have hLe:=congrArg LoopA.env hL
   dsimp only at hLe
   clear hL hitem hx hok hbad hEv
   generalize lineAt l i = x at *
   obtain ⟨pl,t⟩:=x
   generalize hee:evAt l i = E at *
   obtain ⟨e,er⟩:=E
   dsimp only at *
   have hw1:IntKind.i64.wrap 1 = 1:=by decide
   by_cases q1:t.getLast? = some 10
   case neg =>
    have hOk2:okR l i = false:=by rw [hOk]; simp [q1]
    rw [hOk2]
    have hEr2:erL l i = 28:=by rw [hEr]; simp [q1]
    rcases i with _ | j
    · simp [rX,rF,rB,rT,hEr2]
      refine c2 hCS ?_
      simp [q1]
      rw [hEr2]
      exact .inl rfl
    · simp [rX,rF,rB,rT,hEr2]
      refine c2 hCS ?_
      simp [q1]
      rw [hEr2]
      exact .inl rfl
   have hEr2:erL l i = er:=by rw [hEr]; simp [q1]
   rw [if_pos q1,decide_eq_true q1] at hCS
   by_cases q2:er = 0
   case neg =>
    have hOk2:okR l i = false:=by rw [hOk]; simp [q2]
    rw [hOk2]
    rcases i with _ | j
    · simp [rX,rF,rB,rT,hEr2]
      refine c2 hCS ?_
      simp
      refine c2 hRd ?_ (h2:=by simp [hw1])
      simp [q2]
      rw [hEr2]
      refine ForgetN.og (by simp) (by simp) (by simp) (by simp) ?_
      simp
      first | exact refsLd hLe (by simp) | exact refsL hLe (by simp)
    · have hwj:IntKind.i64.wrap ((j:Int) + 1 + 1) = (j:Int) + 1 + 1:=wi64 _ (by omega) (by omega)
      simp [rX,rF,rB,rT,hEr2]
      refine c2 hCS ?_
      simp [hwj]
      refine c2 hRd ?_ (h2:=by simp [hw1])
      simp [q2]
      rw [hEr2]
      refine ForgetN.og (by simp) (by simp) (by simp) (by simp) ?_
      simp
      first | exact refsLd hLe (by simp) | exact refsL hLe (by simp)
   subst q2
   have hOk2:okR l i = true:=by rw [hOk]; simp [q1]
   rw [hOk2]
   rcases i with _ | j
   · simp [rX,rF,rB,rT,hPl]
     refine c2 hCS ?_
     simp
     refine c2 hRd ?_ (h2:=by simp [hw1])
     simp
     refine ⟨by decide,?_⟩
     have ho1:outL l 1 = [e]:=by rw [hOs]; rfl
     rw [hPl,ho1]
     refine ForgetN.og (by simp) (by simp) (by simp) (by simp) ?_
     simp
     first | exact refsLd hLe (by simp) | exact refsL hLe (by simp)
   · have hwj:IntKind.i64.wrap ((j:Int) + 1 + 1) = (j:Int) + 1 + 1:=wi64 _ (by omega) (by omega)
     simp [rX,rF,rB,rT,hPl]
     refine c2 hCS ?_
     simp [hwj]
     refine c2 hRd ?_ (h2:=by simp [hw1])
     simp
     refine ⟨⟨by omega,by simp only [maxL]; omega⟩,?_⟩
     rw [hPl,hOs]
     have htk:List.take (j + 1) (List.map (fun e=>AV.p (eEvent e)) (outL l (j + 1))) = List.map (fun e=>AV.p (eEvent e)) (outL l (j + 1)):=List.take_of_length_le (by simp [hOl])
     rw [htk]
     refine ForgetN.og (by simp) (by simp) (by simp) (by simp) ?_
     simp
     first | exact refsLd hLe (by simp) | exact refsL hLe (by simp)
 · intro hkl L
   have hkl:k = l.length:=by simpa using hkl
   subst hkl
   rw [recL_end l hok] at hR
   subst hR
   dsimp only
   rcases hll:l.length with _ | j
   · simp [rX,rB,rT]
     rfl
   · have hOl:=outL_len l (j + 1)
     simp [rX,rB,rT,hOl]
     rw [List.take_of_length_le (by simp [hOl])]
     exact purl_of (by simp)
 · intro hkl L
   have hkl:k < l.length:=by simpa using hkl
   have hbk:okR l k = false:=by
    rcases hbad with hb | ⟨_,hb2⟩
    · omega
    · exact hb2
   rw [recL_bad l k hkl hok hbk] at hR
   subst hR
   dsimp only
   rcases k with _ | j
   · simp [jumpQ,rF,rB,rT]
     rfl
   · have hOl:=outL_len l (j + 1)
     simp [jumpQ,rF,rB,rT,hOl]
     rw [List.take_of_length_le (by simp [hOl])]
     exact purl_of (by simp)
end Go.Abs
namespace Go.Abs
theorem okN_48:∀ (s:List Nat) (i:Nat),okN i s = true → ∀ c ∈ s,48 ≤ c
 | [],_,_,c,hc=>by cases hc
 | x :: s,i,h,c,hc=>by
  rw [okN] at h
  simp only [Bool.and_eq_true] at h
  rcases List.mem_cons.1 hc with rfl | hc
  · have h1:=h.1
    simp only [isLet,isDig,Bool.or_eq_true,Bool.and_eq_true,decide_eq_true_eq] at h1
    omega
  · exact okN_48 s _ h.2 c hc
theorem name_ok:NameOk:=by
 intro k hk
 simp only [isName,Bool.and_eq_true,decide_eq_true_eq] at hk
 have h:=okN_48 k 0 hk.2
 refine ⟨fun hc=>by have:=h 32 hc; omega,fun hc=>by have:=h 10 hc; omega,fun e=>by rw [e] at hk; simp at hk⟩
theorem name_len {k:List Nat} (hk:isName k = true):k.length ≤ 24:=by
 simp only [isName,Bool.and_eq_true,decide_eq_true_eq] at hk
 exact hk.1.2
theorem itoa_B {n:Nat} (h:n < 10 ^ 9):(itoaN (n:Int)).length ≤ 9 ∧ ∀ c ∈ itoaN (n:Int),c < 256:=by
 rw [itoaN_nat (by omega)]
 have h1:=nd_le h
 refine ⟨by rw [low_length]; omega,fun c hc=>?_⟩
 have:=low_digN (max 1 (nd n)) n
 rw [List.all_eq_true] at this
 have:=this c hc
 simp only [digN,Bool.and_eq_true,decide_eq_true_eq] at this
 omega
theorem kinds_B:∀ k ∈ [kAdd,kSet,kDrop,kMove,kUndo],k.length ≤ 4 ∧ (∀ c ∈ k,c < 256) ∧ (formS k).2.2.2 = true:=by decide
theorem evT_of {e:EventD} (h:chkEvent e = 0) (hb:∀ c ∈ e.text,c < 256):EvT e:=by
 obtain ⟨hK,n1,n2,tl⟩:=evK h
 obtain ⟨num,kind,names,vals,text⟩:=e
 dsimp only at *
 obtain ⟨m,rfl⟩:∃ m:Nat,num = m:=⟨num.toNat,by omega⟩
 have hm:=itoa_B (n:=m) (by omega)
 have hB:=body_sp ⟨(m:Int),kind,names,vals,text⟩
 dsimp only at hB
 have hTl:(spT (textW ⟨(m:Int),kind,names,vals,text⟩)).length ≤ 4097 ∧ ∀ c ∈ spT (textW ⟨(m:Int),kind,names,vals,text⟩),c < 256:=by
  rw [textW]
  split
  · refine ⟨by simp [spT]; omega,fun c hc=>?_⟩
    simp [spT] at hc
    rcases hc with rfl | hc
    · omega
    · exact hb c hc
  · simp
 have hN:names = [] ∨ ∃ k,names = [k] ∧ isName k = true:=by
  cases hK with
  | row k _ hn _ _ hi=>exact .inr ⟨k,hn,hi⟩
  | drop k _ hn _ _ hi=>exact .inr ⟨k,hn,hi⟩
  | move k n _ hn _ _ hi _=>exact .inr ⟨k,hn,hi⟩
  | undo _ hn _ _=>exact .inl hn
 have hV:vals = [] ∨ ∃ n:Nat,vals = [(n:Int)] ∧ n < 10 ^ 9:=by
  cases hK with
  | row k _ hn hv _ hi=>exact .inl hv
  | drop k _ hn hv _ hi=>exact .inl hv
  | move k n _ hn hv _ hi hl=>exact .inr ⟨n,hv,hl⟩
  | undo _ hn hv _=>exact .inl hv
 have hk:kind ∈ [kAdd,kSet,kDrop,kMove,kUndo]:=by
  cases hK with
  | row k hk=>rcases hk with rfl | rfl <;> simp
  | drop k hk=>dsimp only at hk; subst hk; simp
  | move k n hk=>dsimp only at hk; subst hk; simp
  | undo hk=>dsimp only at hk; subst hk; simp
 obtain ⟨k1,k2,k3⟩:=kinds_B kind hk
 have hNl:(spT names).length ≤ 25 ∧ ∀ c ∈ spT names,c < 256:=by
  rcases hN with rfl | ⟨k,rfl,hi⟩
  · simp
  · have:=name_len hi
    refine ⟨by simp [spT]; omega,fun c hc=>?_⟩
    simp [spT] at hc
    rcases hc with rfl | hc
    · omega
    · exact isName_byte hi c hc
 have hVl:(spT (vals.map itoaN)).length ≤ 10 ∧ ∀ c ∈ spT (vals.map itoaN),c < 256:=by
  rcases hV with rfl | ⟨n,rfl,hl⟩
  · simp
  · have:=itoa_B hl
    refine ⟨by simp [spT]; omega,fun c hc=>?_⟩
    simp [spT] at hc
    rcases hc with rfl | hc
    · omega
    · exact this.2 c hc
 refine ⟨k3,?_,?_,⟨by dsimp only; omega,by dsimp only; omega⟩,?_,?_,?_⟩
 · rcases hN with rfl | ⟨k,rfl,_⟩ <;> simp
 · rcases hV with rfl | ⟨n,rfl,_⟩ <;> simp
 · intro v hv
   rcases hV with rfl | ⟨n,rfl,hl⟩
   · cases hv
   · rw [List.mem_singleton.1 hv]; exact ⟨by omega,by omega⟩
 · rw [hB]; simp only [List.length_append,List.length_cons]; omega
 · rw [hB]
   intro c hc
   simp only [List.mem_append,List.mem_cons] at hc
   rcases hc with hc | rfl | hc | hc | hc | hc
   · exact hm.2 c hc
   · omega
   · exact k2 c hc
   · exact hNl.2 c hc
   · exact hVl.2 c hc
   · exact hTl.2 c hc
theorem text_body {e:EventD} (h:chkEvent e = 0):∀ c ∈ e.text,c ∈ bodyT e:=by
 obtain ⟨hK,_⟩:=evK h
 intro c hc
 rw [body_sp]
 have key:e.text = [] ∨ textW e = [e.text]:=by
  cases hK with
  | row k hk=>right; rw [textW]; rcases hk with hk | hk <;> rw [hk] <;> rfl
  | drop k _ _ _ ht=>exact .inl ht
  | move k n _ _ _ ht=>exact .inl ht
  | undo _ _ _ ht=>exact .inl ht
 rcases key with k | k
 · rw [k] at hc; cases hc
 · rw [k]; simp [spT,hc]
theorem log_len:∀ l:List EventD,l.length ≤ (logT l).length
 | []=>by simp
 | e :: l=>by
  have:=log_len l
  have e1:logT (e :: l) = recT e ++ logT l:=rfl
  rw [e1]
  simp only [List.length_cons,List.length_append,recT,List.length_nil]; omega
theorem log_mem {l:List EventD} {e:EventD} (h:e ∈ l):∀ c ∈ bodyT e,c ∈ logT l:=by
 intro c hc
 rw [logT,List.mem_flatMap]
 exact ⟨e,h,by simp [recT,recN,hc]⟩
end Go.Abs
namespace Go.Abs
open Go.Proofs
set_option maxHeartbeats 4000000
set_option maxRecDepth 100000
theorem recover_B {s:List Nat} (hs:s.length ≤ 1000000) (hb:∀ c ∈ s,c < 256):(recoverS s).1.length ≤ s.length ∧ (∀ e ∈ (recoverS s).1,EvT e):=by
 obtain ⟨u,h1,_,h3,_⟩:=recover_gen s hs
 have hl:=log_len (recoverS s).1
 have hlen:=congrArg List.length h3
 rw [List.length_append] at hlen
 refine ⟨by omega,fun e he=>evT_of (h1.mem e he) fun c hc=>hb c ?_⟩
 rw [h3]
 exact List.mem_append_left _ (log_mem he c (text_body (h1.mem e he) c hc))
theorem c_append (s:List Nat) (e:EventD) (hs:s.length ≤ 1000000) (hb:∀ c ∈ s,c < 256) (he:evB e):GoodC Tryz.prog 35 [.str s,eEvent e] (.tup [.str (appendS s e).1,.int .i64 (appendS s e).2]):=by
 refine good_fn nf isF35 mix (by simp [Tryz.f35]) ?_
 have hRc:=c_recover s hb (by omega)
 have hRB:=recover_B hs hb
 have hC:=c_checkEvent e he
 have hE:appendE s e = firstE [(recoverS s).2.2,chkEvent e,whenE (decide (e.num ≠ (recoverS s).1.length + 1)) 11]:=rfl
 have hA:appendS s e = if appendE s e ≠ 0 then ([],appendE s e) else if 1000000 < (s ++ recT e).length then ([],26) else (s ++ recT e,0):=rfl
 rw [hE] at hA
 clear hE
 generalize appendS s e = A at *
 generalize recoverS s = R at *
 obtain ⟨l,pl,no⟩:=R
 dsimp only at *
 have hw:IntKind.i64.wrap ((l.length:Int) + 1) = l.length + 1:=wi1 (by omega)
 have hEv:=evT_of (e:=e)
 have hrl:(recT e).length = (bodyT e).length + 8:=by simp [recT,recN,sumT_len]; omega
 obtain ⟨num,kind,names,vals,text⟩:=e
 dsimp only at *
 simp only [eEvent] at hC
 simp [Tryz.f35,eEvent]
 refine c1 hRc ?_
 simp
 refine e1 hC ?_
 simp [hw]
 refine e2 (c_when (decide (num ≠ (l.length:Int) + 1)) 11) ?_ (h1:=by by_cases hq:num = (l.length:Int) + 1 <;> simp [hq])
 simp
 refine ep (h1:=?g1) (c_first [no,chkEvent ⟨num,kind,names,vals,text⟩,whenE (decide (num ≠ (l.length:Int) + 1)) 11] (by simp)) (by simp; exact ⟨rfl,rfl⟩) (by simp; exact ⟨rfl,rfl⟩) ?_
 case g1=>simp
 by_cases hz:firstE [no,chkEvent ⟨num,kind,names,vals,text⟩,whenE (decide (num ≠ (l.length:Int) + 1)) 11] = 0
 case neg =>
  rw [if_pos hz] at hA
  simp at hz
  simp [hz,hA]
  rfl
 rw [if_neg (by simpa using hz)] at hA
 have hz3:=hz
 rw [first3z] at hz3
 have hT:=hEv hz3.2.1 he.2.2.2.2.2
 have hrec:=c_record _ hT
 have hbl:=hT.bl
 simp only [eEvent] at hrec
 rw [hz]
 simp
 refine ⟨rfl,?_⟩
 refine c1 hrec ?_
 simp only [List.length_append] at hA
 generalize recT _ = T at *
 by_cases hq:1000000 < s.length + T.length
 · have hq':(1000000:Int) < (s.length:Int) + T.length:=by omega
   rw [if_pos hq] at hA
   simp [hA,hq']
   omega
 · have hq':¬ (1000000:Int) < (s.length:Int) + T.length:=by omega
   rw [if_neg hq] at hA
   simp [hA,hq']
   omega
end Go.Abs
namespace Go.Abs
theorem valI_in (s:List Nat):inI (valI s):=by
 have key:∀ x,readI s = some x → inI x:=by
  intro x hx
  rw [readI] at hx
  split at hx
  · have:=intR_lt s.tail
    split at hx
    · injection hx with hx; subst hx; exact ⟨by omega,by omega⟩
    · cases hx
  · have:=intR_lt s
    split at hx
    · injection hx with hx; subst hx; exact ⟨by omega,by omega⟩
    · cases hx
 rw [valI]
 cases hr:readI s with
 | none=>exact ⟨by simp,by simp⟩
 | some x=>exact key x hr
theorem readV_in (s:List Nat):∀ v ∈ (readV s).1,inI v:=by
 intro v hv
 rw [readV] at hv
 split at hv
 · obtain ⟨w,_,rfl⟩:=List.mem_map.1 hv
   exact valI_in w
 · cases hv
theorem step_P {p:RowD → Prop} {l:List RowD} {e:EventD} (hn:p ⟨keyN e,(readV e.text).1⟩) (hl:∀ r ∈ l,p r):∀ r ∈ (stepS l e).1,p r:=by
 have nil:∀ r ∈ ([]:List RowD),p r:=by simp
 rw [stepS]
 split
 · rw [addS]
   split
   · exact nil
   · split
     · exact nil
     · intro r hr
       rcases List.mem_append.1 hr with hr | hr
       · exact hl r hr
       · rw [List.mem_singleton.1 hr]; exact hn
 split
 · rw [setS]
   split
   · exact nil
   · split
     · exact nil
     · intro r hr
       rcases List.mem_or_eq_of_mem_set hr with hr | rfl
       · exact hl r hr
       · exact hn
 split
 · rw [dropS]
   split
   · exact nil
   · exact fun r hr=>hl r (List.mem_of_mem_eraseIdx hr)
 · rw [moveS]
   split
   · exact nil
   · rename_i q
     rw [ne_eq,Decidable.not_not,moveE,first3,when0 (by omega),when0 (by omega),withinE,when0 (by omega)] at q
     simp only [decide_eq_false_iff_not,Bool.or_eq_false_iff] at q
     rcases idx_look (keyN e) l 0 with ⟨p1,p2⟩ | ⟨i,hi,p1,p2,p3⟩
     · have e1:atK l (keyN e) = -1:=p2
       rw [e1] at q; exact (q.1 (by omega)).elim
     rw [Int.natCast_zero,Int.zero_add] at p1
     have e1:atK l (keyN e) = i:=p1
     have hel:(l.eraseIdx i).length = l.length - 1:=by rw [List.length_eraseIdx,if_pos hi]
     rw [e1,Int.toNat_natCast,List.getElem?_eq_getElem hi,Option.getD_some,ins_eq _ _ _ (by omega)]
     intro r hr
     rcases List.mem_append.1 hr with hr | hr
     · exact hl r (List.mem_of_mem_eraseIdx (List.mem_of_mem_take hr))
     rcases List.mem_cons.1 hr with rfl | hr
     · exact hl _ (List.getElem_mem hi)
     · exact hl r (List.mem_of_mem_eraseIdx (List.mem_of_mem_drop hr))
structure RowK (r:RowD):Prop where
 nm:isName r.key = true
 vi:∀ v ∈ r.vals,inI v
theorem accept_K {d:StoryD} {e:EventD} (hc:chkEvent e = 0) (h:∀ l ∈ d.sts,∀ r ∈ l,RowK r):∀ l ∈ (acceptD d e).sts,∀ r ∈ l,RowK r:=by
 intro l hl
 rw [acceptD] at hl
 split at hl
 · exact h l (List.dropLast_subset _ hl)
 · rename_i hu
   rcases List.mem_append.1 hl with hl | hl
   · exact h l hl
   · rw [List.mem_singleton.1 hl]
     have hnow:∀ r ∈ d.now,RowK r:=by
      rw [StoryD.now]
      cases hg:d.sts.getLast? with
      | none=>simp
      | some l=>exact h l (List.mem_of_getLast? hg)
     refine step_P ⟨?_,readV_in _⟩ hnow
     obtain ⟨hK,_⟩:=evK hc
     dsimp only [keyN]
     cases hK with
     | row k _ hn _ _ hi=>rw [hn]; exact hi
     | drop k _ hn _ _ hi=>rw [hn]; exact hi
     | move k n _ hn _ _ hi _=>rw [hn]; exact hi
     | undo hk=>exact (hu hk).elim
theorem playL_K {l:List EventD}:∀ {i:Nat} {d:StoryD},(∀ l ∈ d.sts,∀ r ∈ l,RowK r) → ∀ x ∈ (playL l i d).1.sts,∀ r ∈ x,RowK r:=by
 induction l with
 | nil=>intro i d h; exact h
 | cons a r ih =>
  intro i d h
  rw [playL]
  split
  · exact h
  · rename_i ha
    have ha:=Classical.not_not.1 ha
    rw [addE,first2] at ha
    exact ih (accept_K ha.1 h)
theorem now_K {d:StoryD} (h:∀ l ∈ d.sts,∀ r ∈ l,RowK r):∀ r ∈ d.now,RowK r:=by
 rw [StoryD.now]
 cases hg:d.sts.getLast? with
 | none=>simp
 | some l=>exact h l (List.mem_of_getLast? hg)
theorem playS_K (l:List EventD):∀ x ∈ (playS l).1.sts,∀ r ∈ x,RowK r:=by
 rw [playS]
 split
 · simp
 · exact playL_K (by simp)
end Go.Abs
namespace Go.Abs
open Go.Proofs
set_option maxHeartbeats 4000000
set_option maxRecDepth 100000
theorem diff_kind:∀ (a b:List RowD),∀ e ∈ diffS a b,e.kind = kKeep ∨ e.kind = kDrop ∨ e.kind = kAdd
 | [],[],e,he=>by simp [diffS] at he
 | [],y :: b,e,he=>by
  rw [diffS] at he
  rcases List.mem_cons.1 he with rfl | he
  · exact .inr (.inr rfl)
  · exact diff_kind [] b e he
 | x :: a,[],e,he=>by
  rw [diffS] at he
  rcases List.mem_cons.1 he with rfl | he
  · exact .inr (.inl rfl)
  · exact diff_kind a [] e he
 | x :: a,y :: b,e,he=>by
  rw [diffS] at he
  split at he
  · rcases List.mem_cons.1 he with rfl | he
    · exact .inl rfl
    · exact diff_kind a b e he
  split at he
  · rcases List.mem_cons.1 he with rfl | he
    · exact .inr (.inl rfl)
    · exact diff_kind a (y :: b) e he
  · rcases List.mem_cons.1 he with rfl | he
    · exact .inr (.inr rfl)
    · exact diff_kind (x :: a) b e he
 termination_by a b=>a.length + b.length
theorem kind_head {k:List Nat} (h:k = kKeep ∨ k = kDrop ∨ k = kAdd):1 ≤ k.length ∧ k.take 1 = [k.headD 0]:=by
 rcases h with rfl | rfl | rfl <;> decide
end Go.Abs
namespace Go.Abs
open Go.Proofs
set_option maxHeartbeats 4000000
set_option maxRecDepth 100000
def ssH (d:StoryD) (ve vs:Nat) (J:List PV):Heap:=[.box false (.st 239 [storyV ve d.evs.length vs d.sts.length]),.arr .grow ve 5 (d.evs.map (AV.p ∘ eEvent)),.arr .grow vs 1 (d.sts.map (AV.p ∘ eRows) ++ J.map AV.p)]
theorem szS:szs Tryz.prog 239 = some [2]:=by kernel_rfl
theorem szT:szs Tryz.prog 237 = some [1,1]:=by kernel_rfl
theorem wrapS {f : FuncId} {d d' : StoryD} {ve vs ve' vs' : Nat} {J J' : List PV} {args : List AV} {v : AV} (h : GoodI Tryz.prog f (stH d ve vs J) (.ptr 0 [] :: args) (stH d' ve' vs' J') v) :
    GoodI Tryz.prog f (ssH d ve vs J) (.ptr 0 [(239,0)] :: args) (ssH d' ve' vs' J') v:=by
 refine GoodI.wrap szS ?_ ?_ ?_ h
 · intro T; rfl
 · intro T; simp [storyV,shpA] <;> rfl
 · intro w Imm β H cs hc
   simp only [storyV,AVC,szT] at hc
   obtain ⟨l,css,hl,h1,rfl⟩:=hc
   cases hl
   simp only [AVCl] at h1
   obtain ⟨c,r,rfl,_,h3,c2,r2,rfl,_,h4,rfl⟩:=h1
   simp [h3,h4]
theorem g_rowsS (d:StoryD) (ve vs:Nat) (J:List PV) (hb:d.sts.length ≤ 1000):GoodI Tryz.prog 140 (ssH d ve vs J) [.ptr 0 [(239,0)]] (ssH d ve vs J) (.p (.seq (d.now.map eRow))):=wrapS (g_rows d ve vs J hb)
theorem g_keys (d : StoryD) (ve vs : Nat) (J : List PV) (w : PV) (hb : d.sts.length ≤ 1000) (hn : d.now.length ≤ 1000) (hK : ∀ r ∈ d.now, RowK r) :
    GoodI Tryz.prog 216 (ssH d ve vs J) [.ptr 0 [],.p w] (ssH d ve vs J) (.p (.tup [.str (joinN [32] (d.now.map (·.key))),.int .i64 0])):=by
 refine goodI_fn nf isF216 mix (by simp [Tryz.f216]) ?_
 have hR:=g_rowsS d ve vs J hb
 have hk:∀ r:RowD,GoodC Tryz.prog 259 [eRow r] (.str r.key):=fun r=>by
  refine good_fn nf isF259 mix (by simp [Tryz.f259]) ?_
  simp [Tryz.f259,eRow]
 have hM:=c_mappedRS (F:=fun r=>r.key) d.now (by omega) (fun r _=>hk r)
 have hl:(joinN [32] (d.now.map (·.key))).length ≤ 1000 * 25:=by
  have h1:=joinN_len (sep:=[32]) (m:=24) (l:=d.now.map (·.key)) (fun s hs=>by
   obtain ⟨r,hr,rfl⟩:=List.mem_map.1 hs
   exact name_len (hK r hr).nm)
  exact Nat.le_trans h1 (Nat.mul_le_mul (by simpa using hn) (by decide))
 have hJ:=c_joinW (d.now.map (·.key)) (by simp; omega) (by omega)
 generalize d.now = now at *
 simp only [ssH,storyV] at hR ⊢
 simp [Tryz.f216]
 refine cf hR [0,1,2] ?_
 simp [setAll,sig]
 refine c2 hM ?_
 simp
 simp at hJ
 refine c1 hJ ?_
 simp
theorem g_indexRowV (l:List RowD) (k:List Nat) (h:l.length ≤ 1048576):GoodI Tryz.prog 292 [.box false (.p (.str k))] [.p (.seq (l.map eRow)),.func 293 [] [.ptr 0 []]] [.box false (.p (.str k))] (.p (.int .i64 (atK l k))):=by
 refine goodI_fn nf isF292 mix (by simp [Tryz.f292]) ?_
 simp [Tryz.f292]
 refine lp (α:=Nat) (fun i=>⟨[(8,.p (.int .i64 i)),(7,.p (.int .i64 l.length)),(1,.func 293 [] [.ptr 0 []]),(0,.p (.seq (l.map eRow)))],[.box false (.p (.str k))]⟩) (fun i=>i ≤ l.length ∧ atK l k = idxFrom (keyIs k) (l.drop i) i) (fun i=>l.length - i) 0 (by simp [atK]) ?_
 rintro i ⟨k1,k2⟩
 have hw:=wi1 (i:=i) (by omega)
 by_cases hi:i < l.length
 · rw [List.drop_eq_getElem_cons hi,idxFrom] at k2
   simp [hi]
   refine cf (g_at1 l[i] k) [0] ?_
   by_cases hk:l[i].key = k
   · simp [keyIs,hk] at k2
     simp [hk,k2,setAll]
   · simp [keyIs,hk] at k2
     simp [hk,hw,setAll]
     exact rd (i + 1) ⟨hi,k2⟩
 · have:i = l.length:=by omega
   subst this
   simp [idxFrom] at k2
   simp [k2]
theorem c_at (l:List RowD) (k:List Nat) (h:l.length ≤ 1048576):GoodC Tryz.prog 249 [.seq (l.map eRow),.str k] (.int .i64 (atK l k)):=by
 refine good_fn nf isF249 mix (by simp [Tryz.f249]) ?_
 simp [Tryz.f249]
 refine cf (g_indexRowV l k h) [0] ?_
 simp [setAll]
theorem g_row (d : StoryD) (ve vs : Nat) (J : List PV) (w : List Nat) (hb : d.sts.length ≤ 1000) (hn : d.now.length ≤ 1000 ∧ ∀ r ∈ d.now, rowB r) (hK : ∀ r ∈ d.now, RowK r) :
    GoodI Tryz.prog 215 (ssH d ve vs J) [.ptr 0 [],.p (.seq [.str w])] (ssH d ve vs J)
     (.p (if atK d.now w < 0 then .tup [.str [],.int .i64 10] else .tup [.str (valsT ((d.now[(atK d.now w).toNat]?.map (·.vals)).getD [])),.int .i64 0])):=by
 refine goodI_fn nf isF215 mix (by simp [Tryz.f215]) ?_
 have hR:=g_rowsS d ve vs J hb
 have hA:=c_at d.now w (by omega)
 generalize d.now = now at *
 simp only [ssH,storyV] at hR ⊢
 simp [Tryz.f215]
 refine cf hR [0,1,2] ?_
 simp [setAll,sig]
 refine c2 hA ?_
 have hat:atK now w = idxFrom (keyIs w) now 0:=rfl
 rcases idx_look w now 0 with ⟨p1,p2⟩ | ⟨i,hi,p1,p2,p3⟩
 · rw [p2] at hat
   rw [hat,if_pos (by decide)]
   simp
 · rw [Int.natCast_zero,Int.zero_add] at p1
   rw [p1] at hat
   have hm:=List.getElem_mem hi
   have hV:=c_values now[i].vals (hn.2 _ hm).2 (hK _ hm).vi
   have hi0:¬ (i:Int) < 0:=by omega
   rw [hat,if_neg hi0,Int.toNat_natCast,List.getElem?_eq_getElem hi]
   generalize hrow:now[i] = row at *
   obtain ⟨rk,rv⟩:=row
   simp [hi,hi0,hrow,eRow]
   refine c1 hV ?_
   simp
end Go.Abs
namespace Go.Abs
open Go.Proofs
set_option maxHeartbeats 4000000
set_option maxRecDepth 100000
section
variable {P:Program} {frz:FuncId → Bool} {dst:Option Tmp} {ty:Nat} {pos:String} {af:Array Edge} {g:Option (Nat × Bool)} {env:Env} {heap:Heap} {K:Eff → Prop}
theorem d_sdata0 {x:Operand} {aT:Array TypeId} (hx:ev env x = .p .nsl) (hk:K { v:=.p .nptr }):drawnS P frz ⟨dst,.call { callee:=.builtin .unsafeSliceData,args:=#[x],argTypes:=aT },ty,pos,af,g⟩ ⟨env,heap⟩ K ():=by
 have h:opEff P frz ⟨dst,.call { callee:=.builtin .unsafeSliceData,args:=#[x],argTypes:=aT },ty,pos,af,g⟩ (ev env) heap K:=by
  unfold opEff
  simp only [List.map_cons,List.map_nil,hx]
  exact hk
 exact h
theorem d_ustr0 {x y:Operand} {aT:Array TypeId} (hx:ev env x = .p .nptr) (hy:ev env y = .p (.int .i64 0)) (ha:aT.size = 2) (hk:K { v:=.p (.str []) }):drawnS P frz ⟨dst,.call { callee:=.builtin .unsafeString,args:=#[x,y],argTypes:=aT },ty,pos,af,g⟩ ⟨env,heap⟩ K ():=by
 have h:opEff P frz ⟨dst,.call { callee:=.builtin .unsafeString,args:=#[x,y],argTypes:=aT },ty,pos,af,g⟩ (ev env) heap K:=by
  unfold opEff
  simp only [List.map_cons,List.map_nil,hx,hy]
  exact ⟨trivial,ha,hk⟩
 exact h
end
theorem g_wb1 (c : Nat) (hc : c < 256) : GoodI Tryz.prog 260 [.box false (.p (.st 161 [.nptr, .nsl]))] [.ptr 0 [], .p (.int .u8 c)]
    [.box false (.st 161 [.ptr 0 [],.sl 2 0 1 0 1]),.hole,.arr .bytes 0 1 (u8s [c])] (.p .nif):=by
 refine goodI_fn nf isF260 mix (by simp [Tryz.f260]) ?_
 simp [Tryz.f260]
 refine ci (g180f (b:=0) (t:=.p (.st 161 [.nptr,.nsl])) (x:=.p .nsl) rfl (.inl rfl)) ?_
 simp
 refine ⟨by decide,ForgetN.og (by simp) (by simp) (by simp [u8s]) (by simp) (by simp [u8s])⟩
theorem g_wb2 (a : List Nat) (v n c : Nat) (hn : n = a.length) (hc : c < 256) (ha : a.length ≤ 1048576) : GoodI Tryz.prog 260 [.box false (.st 161 [.ptr 0 [], .sl 1 v 1 0 n]), .arr .bytes v 1 (u8s a)] [.ptr 0 [], .p (.int .u8 c)]
    [.box false (.st 161 [.ptr 0 [],.sl 1 (v + 1) 1 0 (n + 1)]),.arr .bytes (v + 1) 1 (u8s (a ++ [c]))] (.p .nif):=by
 refine goodI_fn nf isF260 mix (by simp [Tryz.f260]) ?_
 simp [Tryz.f260]
 refine ci (g180u (b:=0) (x:=.sl 1 v 1 0 n) rfl) ?_
 simp
 have htk:List.take n (u8s a) = u8s a:=List.take_of_length_le (by rw [u8s_len]; omega)
 refine ⟨⟨by rw [u8s_len]; omega,by rw [u8s_len]; simp only [maxL]; omega⟩,?_⟩
 rw [htk,u8s_app]
 refine ForgetN.og (by simp [u8s]) (by simp) (by simp [u8s]) (by simp) (by simp [u8s])
theorem g_str0 : GoodI Tryz.prog 101 [.box false (.p (.st 161 [.nptr, .nsl]))] [.ptr 0 []]
    [.box false (.p (.st 161 [.nptr,.nsl]))] (.p (.str [])):=by
 refine goodI_fn nf isF101 mix (by simp [Tryz.f101]) ?_
 simp [Tryz.f101]
 refine d_sdata0 rfl ?_
 simp
 refine d_ustr0 rfl rfl rfl ?_
 simp
end Go.Abs
namespace Go.Abs
open Go.Proofs
set_option maxHeartbeats 4000000
set_option maxRecDepth 100000
def st1 (d:StoryD) (ve vs:Nat) (J:List PV):Heap:=[.box false (.st 237 [.sl 2 ve 5 0 d.evs.length,.sl 3 vs 1 0 d.sts.length]),.arr .grow ve 5 (d.evs.map (AV.p ∘ eEvent)),.arr .grow vs 1 (d.sts.map (AV.p ∘ eRows) ++ J.map AV.p)]
theorem g_replayH (l : List EventD) (v0 n : Nat) (hl : l.length ≤ 1000) (hn : n ≤ l.length) (he : ∀ e ∈ l, evB e) (h0 : (playS (l.take n)).2.2 = 0) :
    ∃ ve vs J,StoryB (playS (l.take n)).1 J ∧ GoodI Tryz.prog 138 [.arr .grow v0 5 (l.map (AV.p ∘ eEvent))] [.sl 0 v0 5 0 n] (.arr .grow v0 5 (l.map (AV.p ∘ eEvent)) :: st1 (playS (l.take n)).1 ve vs J) (.tup [.ptr 1 [],.p (.int .i64 0),.p (.int .i64 0)]):=by
 have key:=goodX_fn (P:=Tryz.prog) nf isF138 mix (args:=[.sl 0 v0 5 0 n]) (H:=[.arr .grow v0 5 (l.map (AV.p ∘ eEvent))])
  (fun v H'=>∃ ve vs J,StoryB (playS (l.take n)).1 J ∧ H' = .arr .grow v0 5 (l.map (AV.p ∘ eEvent)) :: st1 (playS (l.take n)).1 ve vs J ∧ v = .tup [.ptr 1 [],.p (.int .i64 0),.p (.int .i64 0)]) (by simp [Tryz.f138]) ?_
 · obtain ⟨v,H',⟨ve,vs,J,hB,rfl,rfl⟩,hg⟩:=key
   exact ⟨ve,vs,J,hB,hg⟩
 have h1':¬ (1000:Int) < n:=by omega
 have hp:playS (l.take n) = playL (l.take n) 0 ⟨[],[]⟩:=by rw [playS,if_neg (by simp; omega)]
 rw [hp] at h0 ⊢
 generalize hR:playL (l.take n) 0 ⟨[],[]⟩ = R at *
 simp [Tryz.f138,h1']
 refine lp (α:=Nat × StoryD × Nat × Nat × List PV) (fun (i,d,ve,vs,J)=>⟨[(16,.p (.int .i64 i)),(15,.p (.int .i64 n)),(14,.sl 0 v0 5 0 n),(5,.ptr 1 [])],.arr .grow v0 5 (l.map (AV.p ∘ eEvent)) :: st1 d ve vs J⟩)
  (fun (i,d,ve,vs,J)=>i ≤ n ∧ R = playL ((l.take n).drop i) i d ∧ d.evs.length = i ∧ StoryB d J) (fun (i,_)=>n - i) (0,⟨[],[]⟩,0,0,[]) ⟨by simp,by simp [hR],rfl,⟨by simp,by simp,by simp⟩⟩ ?_ (hh:=by simp [st1]) (hr:=by simp [st1]) (hr2:=by simp [st1])
 rintro ⟨i,d,ve,vs,J⟩ ⟨k1,k2,k3,k4⟩
 dsimp only at k1 k2 k3 k4 ⊢
 have hw:=wi1 (i:=i) (by omega)
 by_cases hi:i < n
 · have hil:i < l.length:=by omega
   rw [List.drop_eq_getElem_cons (by simp; omega),playL,List.getElem_take] at k2
   have hei:=he _ (List.getElem_mem hil)
   obtain ⟨ve',vs',J',g1,g2⟩:=g_add d ve vs J l[i] hei k4
   have hB:=next_B k4 hei (by omega) g2
   have ha:addE d l[i] = 0:=by
    by_cases ha:addE d l[i] = 0
    · exact ha
    · rw [if_pos ha] at k2
      rw [k2] at h0; exact (ha h0).elim
   rw [if_neg (by simpa using ha)] at k2
   have hN:nextD d l[i] = acceptD d l[i]:=by rw [nextD,if_pos ha]
   rw [hN] at hB g1
   rw [ha] at g1
   simp only [stH,storyV] at g1
   have hne:l ≠ []:=by rintro rfl; simp at hil
   simp [hi,hil,hne,st1]
   refine cf g1 [1,2,3] ?_
   simp [setAll,sig,hw]
   refine rd (i + 1,acceptD d l[i],ve',vs',J') ⟨hi,k2,by simp [acceptD,k3],hB⟩ (h1:=by dsimp only; omega) (hh:=by simp [st1]) (hr:=by simp [st1]) (hr2:=by simp [st1])
 · have:i = n:=by omega
   subst this
   rw [List.drop_of_length_le (by simp; omega),playL] at k2
   simp
   rw [k2]
   exact ⟨_,⟨ve,vs,J,k4,rfl⟩,.inl rfl⟩
end Go.Abs
namespace Go.Abs
open Go.Proofs
set_option maxHeartbeats 4000000
set_option maxRecDepth 100000
@[simp] theorem renL_u8s {σ:Nat → Nat}:∀ {t:List Nat},renL σ (u8s t) = u8s t
 | []=>rfl
 | c :: t=>by
  show renL σ (AV.p (.int .u8 (c:Int)) :: u8s t) = AV.p (.int .u8 (c:Int)) :: u8s t
  simp only [renL,renL_u8s (t:=t),ren]
@[simp] theorem rl_u8s {N:Nat × Nat → Prop} {t:List Nat}:refsLtl N (u8s t) = True:=by
 rw [refsLtl_mem,eq_iff_iff,iff_true]; intro v hv; simp only [u8s,List.mem_map] at hv; obtain ⟨x,_,rfl⟩:=hv; trivial
def diffV (d:StoryD) (w:List Nat):List Nat × Int :=
 if (intR w).2 = false then ([],25)
 else if (d.evs.length:Int) < (intR w).1 then ([],3)
 else (lettersD (playS (d.evs.take (intR w).1.toNat)).1.now d.now,0)
theorem intR_nonneg (w:List Nat):0 ≤ (intR w).1:=by
 rw [intR]
 split <;> simp
theorem letters_len (a b:List RowD):(lettersD a b).length ≤ a.length + b.length:=by
 have key:∀ (a b:List RowD),(diffS a b).length ≤ a.length + b.length:=by
  intro a b
  induction a,b using diffS.induct with
  | case1=>simp [diffS]
  | case2 y b ih=>rw [diffS]; simp at ih ⊢; omega
  | case3 x a ih=>rw [diffS]; simp at ih ⊢; omega
  | case4 x a y b h ih=>rw [diffS,if_pos h]; simp at ih ⊢; omega
  | case5 x a y b h h2 ih=>rw [diffS,if_neg h,if_pos h2]; simp at ih ⊢; omega
  | case6 x a y b h h2 ih=>rw [diffS,if_neg h,if_neg h2]; simp at ih ⊢; omega
 simpa [lettersD] using key a b
theorem letters_byte (a b:List RowD):∀ c ∈ lettersD a b,c < 256:=by
 intro c hc
 obtain ⟨e,he,rfl⟩:=List.mem_map.1 hc
 rcases diff_kind a b e he with h | h | h <;> rw [h] <;> decide
def bldH (L:List Nat):Nat → Heap
 | 0=>[.box false (.p (.st 161 [.nptr,.nsl]))]
 | j + 1=>[.box false (.st 161 [.ptr 7 [],.sl 10 j 1 0 (j + 1)]),.hole,.hole,.arr .bytes j 1 (u8s (L.take (j + 1)))]
theorem bldH0 (L:List Nat):bldH L 0 = [.box false (.p (.st 161 [.nptr,.nsl]))]:=rfl
theorem bldHs (L:List Nat) (j:Nat):bldH L (j + 1) = [.box false (.st 161 [.ptr 7 [],.sl 10 j 1 0 (j + 1)]),.hole,.hole,.arr .bytes j 1 (u8s (L.take (j + 1)))]:=rfl
theorem bldHp (L:List Nat) {i:Nat} (h:0 < i):bldH L i = [.box false (.st 161 [.ptr 7 [],.sl 10 (i - 1) 1 0 i]),.hole,.hole,.arr .bytes (i - 1) 1 (u8s (L.take i))]:=by
 cases i with
 | zero=>omega
 | succ j=>rfl
theorem g_diff1 (l : List EventD) (ve vs : Nat) (J : List PV) (w : List Nat) (hl : l.length ≤ 1000) (he : ∀ e ∈ l, evB e) (h0 : (playS l).2.2 = 0) (hB : StoryB (playS l).1 J) (h0l : l ≠ [])
    (hw:w.length ≤ 1000) (hb:∀ c ∈ w,c < 256) :
    GoodI Tryz.prog 217 (ssH (playS l).1 ve vs J) [.ptr 0 [],.p (.seq [.str w])] (ssH (playS l).1 ve vs J)
     (.p (.tup [.str (diffV (playS l).1 w).1,.int .i64 (diffV (playS l).1 w).2])):=by
 have hI:=c_integer w false (by omega) hb
 have eI:intP false w = intR w:=rfl
 rw [eI] at hI
 have hpl:playS l = playL l 0 ⟨[],[]⟩:=by rw [playS,if_neg (by omega)]
 have hEv:(playS l).1.evs = l:=by
  rw [hpl] at h0 ⊢
  rw [play_ok _ _ _ h0,play_evs]; simp
 have hR:=g_rowsS (playS l).1 ve vs J (by have:=hB.sj; have:=hB.ev; omega)
 have hnB:=now_B hB
 have hnn:=intR_nonneg w
 have hV : diffV (playS l).1 w = if (intR w).2 = false then ([], 25) else if (l.length : Int) < (intR w).1 then ([], 3)
     else (lettersD (playS (l.take (intR w).1.toNat)).1.now (playS l).1.now,0):=by rw [diffV,hEv]
 rw [hV]
 have hS:ssH (playS l).1 ve vs J = [.box false (.st 239 [.st 237 [.sl 1 ve 5 0 l.length,.sl 2 vs 1 0 (playS l).1.sts.length]]),.arr .grow ve 5 (l.map (AV.p ∘ eEvent)),.arr .grow vs 1 ((playS l).1.sts.map (AV.p ∘ eRows) ++ J.map AV.p)]:=by
  simp [ssH,storyV,hEv]
 rw [hS] at hR ⊢
 refine goodI_fn nf isF217 mix (by simp [Tryz.f217]) ?_
 have hlt:=intR_lt w
 generalize intR w = I at *
 obtain ⟨n,is⟩:=I
 dsimp only at hnn hV hlt hI ⊢
 obtain ⟨k,rfl⟩:∃ k:Nat,n = k:=⟨n.toNat,by omega⟩
 by_cases his:is = true
 case neg =>
  have his:is = false:=by simpa using his
  subst his
  simp [Tryz.f217]
  refine c2 hI ?_
  simp
  refine e2 (c_when true 25) ?_
  simp
  refine e3 (c_within k 0 l.length) ?_
  simp
  refine ep (h1:=?g1) (c_first [whenE true 25,withinE k 0 l.length] (by simp)) (by simp; exact ⟨rfl,rfl⟩) (by simp; exact ⟨rfl,rfl⟩) ?_
  case g1=>simp
  have h25:firstE [whenE true 25,withinE k 0 l.length] = 25:=by simp [firstE,whenE]
  rw [h25]
  simp
  refine ⟨rfl,ForgetN.og (by simp) (by simp) (by simp) (by simp) (by simp)⟩
 subst his
 by_cases hkl:l.length < k
 · have h3:firstE [whenE false 25,withinE k 0 l.length] = 3:=by
    rw [withinE]
    simp [firstE,whenE,hkl]
   simp [Tryz.f217,hkl]
   refine c2 hI ?_
   simp
   refine e2 (c_when false 25) ?_
   simp
   refine e3 (c_within k 0 l.length) ?_
   simp
   refine ep (h1:=?g1) (c_first [whenE false 25,withinE k 0 l.length] (by simp)) (by simp; exact ⟨rfl,rfl⟩) (by simp; exact ⟨rfl,rfl⟩) ?_
   case g1=>simp
   rw [h3]
   simp [hkl]
   refine ⟨rfl,ForgetN.og (by simp) (by simp) (by simp) (by simp) (by simp)⟩
 have h3:firstE [whenE false 25,withinE k 0 l.length] = 0:=by
  rw [withinE]
  have:¬ (l.length:Int) < k:=by omega
  simp [firstE,whenE,this]
 have h0k:(playS (l.take k)).2.2 = 0:=by
  have hp2:playS (l.take k) = playL (l.take k) 0 ⟨[],[]⟩:=by rw [playS,if_neg (by simp; omega)]
  rw [hpl] at h0
  rw [hp2,play_take h0]
 obtain ⟨ve',vs',J',hB',hRp⟩:=g_replayH l ve k hl (by omega) he h0k
 have hR2:=g_rows (playS (l.take k)).1 ve' vs' J' (by have:=hB'.sj; have:=hB'.ev; omega)
 have hnB':=now_B hB'
 have hSc:=c_script (playS (l.take k)).1.now (playS l).1.now ⟨by omega,hnB'.2⟩ ⟨by omega,hnB.2⟩ (by omega) (by omega)
 have hdk:=diff_kind (playS (l.take k)).1.now (playS l).1.now
 have hLn:=letters_len (playS (l.take k)).1.now (playS l).1.now
 have hLb:=letters_byte (playS (l.take k)).1.now (playS l).1.now
 have hLe:lettersD (playS (l.take k)).1.now (playS l).1.now = (diffS (playS (l.take k)).1.now (playS l).1.now).map fun e=>e.kind.headD 0:=rfl
 simp only [Int.toNat_natCast]
 generalize (playS (l.take k)).1 = d' at *
 generalize (playS l).1 = d at *
 generalize lettersD d'.now d.now = L at *
 generalize diffS d'.now d.now = D at *
 simp only [st1,storyV] at hRp
 simp only [stH,storyV] at hR2
 have hkl':¬ (l.length:Int) < k:=by omega
 have hkl2:¬ l.length < k:=by omega
 have hDl:D.length = L.length:=by rw [hLe]; simp
 have hne:l ≠ []:=h0l
 rw [if_neg hkl']
 simp [Tryz.f217,hkl',hkl2]
 refine c2 hI ?_
 simp
 refine e2 (c_when false 25) ?_
 simp
 refine e3 (c_within k 0 l.length) ?_
 simp
 refine ep (h1:=?g1) (c_first [whenE false 25,withinE k 0 l.length] (by simp)) (by simp; exact ⟨rfl,rfl⟩) (by simp; exact ⟨rfl,rfl⟩) ?_
 case g1=>simp
 rw [h3]
 simp
 refine ⟨rfl,⟨hne,by omega⟩,?_⟩
 refine cf hRp [1] ?_
 simp [setAll,sig]
 refine ef hR2 [4,5,6] ?_
 simp [setAll,sig]
 refine ef hR [0,1,2] ?_
 simp [setAll,sig]
 refine e4 hSc ?_
 simp
 refine lp (α:=Nat) (fun i=>⟨[(61,.p (.int .i64 i)),(60,.p (.int .i64 D.length)),(59,.p (.seq (D.map eEdit))),(12,.ptr 7 [])],[.box false (.st 239 [.st 237 [.sl 1 ve 5 0 l.length,.sl 2 vs 1 0 d.sts.length]]),.arr .grow ve 5 (l.map (AV.p ∘ eEvent)),.arr .grow vs 1 (d.sts.map (AV.p ∘ eRows) ++ J.map AV.p),.hole,.hole,.hole,.hole] ++ bldH L i⟩)
  (fun i=>i ≤ D.length) (fun i=>D.length - i) 0 (by simp) ?_ (hh:=by simp [bldH0]) (hr:=by simp [bldH0]) (hr2:=by simp [bldH0])
 intro i k1
 have hw:=wi1 (i:=i) (by omega)
 by_cases hi:i < D.length
 · obtain ⟨c,r,hcr⟩:∃ c r,D[i].kind = c :: r:=by
    have h:=kind_head (hdk D[i] (List.getElem_mem hi))
    cases hq:D[i].kind with
    | nil=>rw [hq] at h; simp at h
    | cons c r=>exact ⟨c,r,rfl⟩
   have hLi:L[i]? = some c:=by rw [hLe,List.getElem?_map,List.getElem?_eq_getElem hi]; simp [hcr]
   have hiL:i < L.length:=by omega
   have hc:c < 256:=hLb c (List.mem_of_getElem? hLi)
   have ht:L.take (i + 1) = L.take i ++ [c]:=by rw [List.take_add_one,hLi]; rfl
   generalize hDi:D[i] = x at *
   obtain ⟨kind,row⟩:=x
   dsimp only at hcr
   subst hcr
   by_cases hi0:i = 0
   · subst hi0
     have hw1:IntKind.i64.wrap 1 = 1:=by decide
     simp [bldH0,hi,hDi,eEdit]
     refine cf (g_wb1 c hc) [7] ?_
     simp [setAll,sig]
     refine rd 1 (by omega) (he:=by simp [hw1]) (hh:=by simp [bldHs,ht]) (hr:=by simp [bldHs]) (hr2:=by simp [bldHs])
   · have hb2:=bldHp L (i:=i) (by omega)
     have hb3:=bldHs L i
     generalize bldH L = B at *
     simp [hb2,hi,hDi,eEdit]
     refine cf (g_wb2 (L.take i) (i - 1) i c (by simp; omega) hc (by simp; omega)) [7,10] ?_ (hin:=by simp [sig]) (hset:=by simp [sig]) (hr:=by simp)
     have hi1:i - 1 + 1 = i:=by omega
     simp [setAll,sig,hi1]
     refine rd (i + 1) (by omega) (he:=by simp [hw]) (hh:=by simp [hb3,ht,u8s_app]) (hr:=by simp [hb3]) (hr2:=by simp [hb3])
 · have:i = D.length:=by omega
   subst this
   rcases hDn:D.length with _ | j
   · have hL0:L = []:=List.length_eq_zero_iff.1 (by omega)
     simp [bldH0]
     refine cf g_str0 [7] ?_
     simp [setAll,sig,hL0]
     refine ForgetN.og (by simp) (by simp) (by simp) (by simp) (by simp)
   · have hL0:L ≠ []:=by intro h; rw [h] at hDl; simp at hDl; rw [hDl] at hDn; simp at hDn
     have htl:L.take (j + 1) = L:=List.take_of_length_le (by omega)
     simp [bldHs,htl]
     refine cf (g_str L j (j + 1) (by omega) hL0 (by omega) hLb) [7,10] ?_ (hin:=by simp [sig]) (hset:=by simp [sig]) (hr:=by simp)
     simp [setAll,sig]
     refine ForgetN.og (by simp) (by simp) (by simp) (by simp) (by simp)
end Go.Abs
